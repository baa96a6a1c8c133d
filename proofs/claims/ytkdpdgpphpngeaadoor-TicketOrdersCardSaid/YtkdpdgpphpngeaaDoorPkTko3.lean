import Derived.Test.YtkdpdgpphpngeaaDoorPkTko2
namespace Go.Proofs.YtkdpdgpphpngeaaDoor
open Go Go.Sx
set_option linter.unusedVariables false
set_option linter.unusedSimpArgs false
def mulH (x y : UInt64) : UInt64 :=
 (((x >>> (32:UInt64)) * (y >>> (32:UInt64))) + ((((x >>> (32:UInt64)) * (y &&& (4294967295:UInt64))) + (((x &&& (4294967295:UInt64)) * (y &&& (4294967295:UInt64))) >>> (32:UInt64))) >>> (32:UInt64))) + ((((((x >>> (32:UInt64)) * (y &&& (4294967295:UInt64))) + (((x &&& (4294967295:UInt64)) * (y &&& (4294967295:UInt64))) >>> (32:UInt64))) &&& (4294967295:UInt64)) + ((x &&& (4294967295:UInt64)) * (y >>> (32:UInt64)))) >>> (32:UInt64))
theorem mul_one_u : ∀ n, n < 301 → mulH 1 (UInt64.ofNat n) = 0 ∧ (1:UInt64) * UInt64.ofNat n = UInt64.ofNat n := by decide +kernel
theorem ofN_300 {n : Nat} (h : n ≤ 300) : ((UInt64.ofNat n).toNat : Int) = n ∧ (UInt64.ofNat n).toNat < 9223372036854775808 := by
 have : (UInt64.ofNat n).toNat = n := by rw [UInt64.toNat_ofNat', Nat.mod_eq_of_lt (by omega)]
 omega
theorem big_not {n : Nat} (h : n ≤ 300) : ¬ (9223372036854775807:UInt64) < UInt64.ofNat n := fun e => by
 have h1 := UInt64.lt_iff_toNat_lt.1 e
 have h2 := (ofN_300 h).1
 have h3 : (9223372036854775807:UInt64).toNat = 9223372036854775807 := rfl
 omega
theorem mid_ext {a b : List UInt8} {n : Nat} (ha : a.length = n * 32) (hb : b.length = n * 32) (h : ∀ j, j < n → mid a (j * 32) 32 = mid b (j * 32) 32) : a = b := by
  apply List.ext_getElem?
  intro i
  by_cases hi : i < n * 32
  · have h1 := congrArg (fun l => l[i % 32]?) (h (i / 32) (by omega))
    simp only [mid] at h1
    rw [List.getElem?_take, List.getElem?_take, if_pos (by omega), if_pos (by omega), List.getElem?_drop, List.getElem?_drop, show i / 32 * 32 + i % 32 = i by omega] at h1
    exact h1
  · rw [List.getElem?_eq_none (by omega), List.getElem?_eq_none (by omega)]
def repL (h : List UInt8) : Nat → List UInt8
 | 0 => []
 | n + 1 => repL h n ++ h
theorem repL_len {h : List UInt8} (hh : h.length = 32) : ∀ n, (repL h n).length = n * 32
 | 0 => rfl
 | n + 1 => by unfold repL; rw [List.length_append, repL_len hh n, hh]; omega
theorem mid_app_l {a b : List UInt8} {o n : Nat} (h : o + n ≤ a.length) : mid (a ++ b) o n = mid a o n := by
 unfold mid
 rw [List.drop_append_of_le_length (by omega), List.take_append_of_le_length (by rw [List.length_drop]; omega)]
theorem mid_app_r {a b : List UInt8} {o n : Nat} (h : a.length = o) (hn : b.length = n) : mid (a ++ b) o n = b := by
 unfold mid
 rw [← h, List.drop_left, ← hn, List.take_length]
theorem repL_at {h : List UInt8} (hh : h.length = 32) : ∀ n j, j < n → mid (repL h n) (j * 32) 32 = h
  | 0, j, hj => by omega
  | n + 1, j, hj => by
    unfold repL
    have hl := repL_len hh n
    by_cases e : j = n
    · subst e; exact mid_app_r hl hh
    · rw [mid_app_l (by omega)]; exact repL_at hh n j (by omega)
def RepI (o h : List UInt8) (n c : Nat) : Prop := o.length = n * 32 ∧ ∀ j, j < c → mid o (j * 32) 32 = h
theorem mid_in {l v : List UInt8} {o i n : Nat} (h : o + v.length ≤ l.length) (h1 : i + n ≤ v.length) : mid (spl l o v) (o + i) n = mid v i n := by
  apply List.ext_getElem?
  intro j
  unfold mid
  rw [List.getElem?_take, List.getElem?_take]
  by_cases hj : j < n
  · rw [if_pos hj, if_pos hj, List.getElem?_drop, List.getElem?_drop, spl_get h, if_pos (by omega)]
    congr 1; omega
  · rw [if_neg hj, if_neg hj]
theorem mid_mid {l : List UInt8} {o n i k : Nat} (h : i + k ≤ n) : mid (mid l o n) i k = mid l (o + i) k := by
  apply List.ext_getElem?
  intro j
  unfold mid
  rw [List.getElem?_take, List.getElem?_take]
  by_cases hj : j < k
  · rw [if_pos hj, if_pos hj, List.getElem?_drop, List.getElem?_take, if_pos (by omega), List.getElem?_drop, List.getElem?_drop]
    congr 1; omega
  · rw [if_neg hj, if_neg hj]
theorem RepI.go {o h : List UInt8} {n c m : Nat} (hI : RepI o h n c) (hm : m ≤ c) (hn : c + m ≤ n) : RepI (spl o (c * 32) (mid o 0 (m * 32))) h n (c + m) := by
  obtain ⟨h1, h2⟩ := hI
  have hl : (mid o 0 (m * 32)).length = m * 32 := DV (by omega)
  refine ⟨by rw [EY (by rw [hl]; omega)]; exact h1, fun j hj => ?_⟩
  by_cases e : j < c
  · rw [mid_spl (by rw [hl]; omega) (.inl (by omega))]; exact h2 j e
  · have := mid_in (l := o) (v := mid o 0 (m * 32)) (o := c * 32) (i := (j - c) * 32) (n := 32) (by rw [hl]; omega) (by rw [hl]; omega)
    rw [show j * 32 = c * 32 + (j - c) * 32 by omega, this, mid_mid (by omega), Nat.zero_add]
    exact h2 (j - c) (by omega)
theorem RepI.zero {h : List UInt8} {n : Nat} (hh : h.length = 32) (hn : 1 ≤ n) : RepI (spl (zr8 (n * 32)) 0 h) h n 1 := by
 have hz := A2 (n * 32)
 refine ⟨by rw [EY (by rw [hz, hh]; omega)]; exact hz, fun j hj => ?_⟩
 obtain rfl : j = 0 := by omega
 exact mid_spl_same (by rw [hz, hh]; omega) hh
theorem RepI.fin {o h : List UInt8} {n : Nat} (hh : h.length = 32) (hI : RepI o h n n) : o = repL h n :=
 mid_ext hI.1 (repL_len hh n) fun j hj => (hI.2 j hj).trans (repL_at hh n j hj).symm
def lvH (l : List UInt64) (ls : List SealR) (j : Nat) : List UInt8 := match ls[j]? with
 | some x => sumG constL initL (leafT (g64 l j) x.e x.d x.t)
 | none => empL 0
theorem lvH_len (l : List UInt64) (ls : List SealR) (j : Nat) : (lvH l ls j).length = 32 := by
  unfold lvH
  split
  · exact BM _ _ _
  · exact EA 0
theorem lvH_of {l : List UInt64} {ls : List SealR} {j : Nat} {x : SealR} (h : ls[j]? = some x) : sumG constL initL (leafT (g64 l j) x.e x.d x.t) = lvH l ls j := by
 unfold lvH; rw [h]
def lvT (l : List UInt64) (ls : List SealR) : Nat → List UInt8
 | 0 => []
 | n + 1 => lvT l ls n ++ lvH l ls n
theorem lvH_nil (l : List UInt64) (j : Nat) : lvH l [] j = empL 0 := rfl
theorem lvT_zero (l : List UInt64) (ls : List SealR) : lvT l ls 0 = [] := rfl
theorem lvT_succ (l : List UInt64) (ls : List SealR) (n : Nat) : lvT l ls (n + 1) = lvT l ls n ++ lvH l ls n := rfl
theorem mid_step {a b : List UInt8} {i : Nat} (h : mid a (32*i) 32 = mid b (32*i) 32) (hI : ∀ j, j < i → mid a (j * 32) 32 = mid b (j * 32) 32) : ∀ j, j < i + 1 → mid a (j * 32) 32 = mid b (j * 32) 32 := fun j hj => by
  by_cases e : j = i
  · subst e; rw [show j * 32 = 32*j by omega]; exact h
  · exact hI j (by omega)
theorem lvT_len (l : List UInt64) (ls : List SealR) : ∀ n, (lvT l ls n).length = n * 32
 | 0 => rfl
 | n + 1 => by unfold lvT; rw [List.length_append, lvT_len l ls n, lvH_len]; omega
theorem lvT_at (l : List UInt64) (ls : List SealR) : ∀ n j, j < n → mid (lvT l ls n) (j * 32) 32 = lvH l ls j
  | 0, j, hj => by omega
  | n + 1, j, hj => by
    unfold lvT
    have hl := lvT_len l ls n
    by_cases e : j = n
    · subst e; exact mid_app_r hl (lvH_len _ _ _)
    · rw [mid_app_l (by omega)]; exact lvT_at l ls n j (by omega)
theorem lvT_nil (l : List UInt64) : ∀ n, lvT l [] n = repL (empL 0) n
 | 0 => rfl
 | n + 1 => by unfold lvT repL; rw [lvT_nil l n]; rfl
def LvI (o : List UInt8) (l : List UInt64) (ls : List SealR) (n i : Nat) : Prop := o.length = n * 32 ∧ ∀ j, j < i → mid o (j * 32) 32 = lvH l ls j
theorem LvI.zero (l : List UInt64) (ls : List SealR) (n : Nat) : LvI (repL (empL 0) n) l ls n 0 := ⟨repL_len (EA 0) n, fun j hj => by omega⟩
theorem LvI.go {o v : List UInt8} {l : List UInt64} {ls : List SealR} {n i : Nat} (hI : LvI o l ls n i) (hi : i < n) (hv : v = lvH l ls i) : LvI (spl o (i * 32) v) l ls n (i + 1) := by
  obtain ⟨h1, h2⟩ := hI
  have hl : v.length = 32 := by rw [hv]; exact lvH_len _ _ _
  refine ⟨by rw [EY (by rw [hl]; omega)]; exact h1, fun j hj => ?_⟩
  by_cases e : j = i
  · subst e; rw [mid_spl_same (by rw [hl]; omega) hl]; exact hv
  · rw [mid_spl (by rw [hl]; omega) (.inl (by omega))]; exact h2 j (by omega)
theorem LvI.fin {o : List UInt8} {l : List UInt64} {ls : List SealR} {n : Nat} (hI : LvI o l ls n n) : o = lvT l ls n :=
 mid_ext hI.1 (lvT_len l ls n) fun j hj => (hI.2 j hj).trans (lvT_at l ls n j hj).symm
end Go.Proofs.YtkdpdgpphpngeaaDoor
namespace Go.Proofs.YtkdpdgpphpngeaaDoor
open Go Go.Sx
set_option linter.unusedVariables false
set_option linter.unusedSimpArgs false
set_option maxRecDepth 100000
attribute [local irreducible] mid zr8 zr32 numK rnK rotr wordL spreadL comprL cpN adN spN wrdN constL initL padL stN outN routN sumG putL leafT joinT empL empA empR RightB tktT mayN idxT selT macL tkG mulH repL lvT lvH RightO
theorem mul64_c (x y : UInt64) (w : World) : Calls Tryd.prog 180 #[U64 x, U64 y] w (Post w [] (fun v L => v = .tuple #[U64 (mulH x y), U64 (x * y)] ∧ L = [])) := by
 refine enter w [] 51 [] [U64 x, U64 y] Tryd.func180 rfl rfl (by simp) (BL (by simp) (by simp) (by simp)) ?_
 show JC _ _ _ [(0, U64 x), (1, U64 y)] _
 refine AG (AC (AA _ (AF rfl) rfl ?_))
 refine AA _ (AF rfl) rfl ?_
 refine AI (AE (AG (AC (AA _ (AD rfl) rfl ?_))))
 refine AA (U64 (x &&& (4294967295:UInt64))) (AK rfl rfl fun _ => bin_and_u64 x (4294967295:UInt64)) rfl ?_
 refine AA _ (AF rfl) rfl ?_
 refine AI (AE (AG (AC (AA _ (AD rfl) rfl ?_))))
 refine AA (U64 (x >>> (32:UInt64))) (AK rfl rfl fun _ => D4 x _ _ 32 (by decide) rfl) rfl ?_
 refine AA _ (AF rfl) rfl ?_
 refine AI (AE (AG (AC (AA _ (AD rfl) rfl ?_))))
 refine AA (U64 (y &&& (4294967295:UInt64))) (AK rfl rfl fun _ => bin_and_u64 y (4294967295:UInt64)) rfl ?_
 refine AA _ (AF rfl) rfl ?_
 refine AI (AE (AG (AC (AA _ (AD rfl) rfl ?_))))
 refine AA (U64 (y >>> (32:UInt64))) (AK rfl rfl fun _ => D4 y _ _ 32 (by decide) rfl) rfl ?_
 refine AA _ (AF rfl) rfl ?_
 refine AI (AE (AG (AC (AA _ (AD rfl) rfl ?_))))
 refine AA _ (AD rfl) rfl ?_
 refine AA (U64 ((x &&& (4294967295:UInt64)) * (y &&& (4294967295:UInt64)))) (AK rfl rfl fun _ => E1 (x &&& (4294967295:UInt64)) (y &&& (4294967295:UInt64))) rfl ?_
 refine AA _ (AF rfl) rfl ?_
 refine AI (AE (AG (AC (AA _ (AD rfl) rfl ?_))))
 refine AA _ (AD rfl) rfl ?_
 refine AA (U64 ((x >>> (32:UInt64)) * (y &&& (4294967295:UInt64)))) (AK rfl rfl fun _ => E1 (x >>> (32:UInt64)) (y &&& (4294967295:UInt64))) rfl ?_
 refine AA _ (AD rfl) rfl ?_
 refine AA (U64 (((x &&& (4294967295:UInt64)) * (y &&& (4294967295:UInt64))) >>> (32:UInt64))) (AK rfl rfl fun _ => D4 ((x &&& (4294967295:UInt64)) * (y &&& (4294967295:UInt64))) _ _ 32 (by decide) rfl) rfl ?_
 refine AA (U64 (((x >>> (32:UInt64)) * (y &&& (4294967295:UInt64))) + (((x &&& (4294967295:UInt64)) * (y &&& (4294967295:UInt64))) >>> (32:UInt64)))) (AK rfl rfl fun _ => bin_add_u64 ((x >>> (32:UInt64)) * (y &&& (4294967295:UInt64))) (((x &&& (4294967295:UInt64)) * (y &&& (4294967295:UInt64))) >>> (32:UInt64))) rfl ?_
 refine AA _ (AF rfl) rfl ?_
 refine AI (AE (AG (AC (AA _ (AD rfl) rfl ?_))))
 refine AA (U64 ((((x >>> (32:UInt64)) * (y &&& (4294967295:UInt64))) + (((x &&& (4294967295:UInt64)) * (y &&& (4294967295:UInt64))) >>> (32:UInt64))) &&& (4294967295:UInt64))) (AK rfl rfl fun _ => bin_and_u64 (((x >>> (32:UInt64)) * (y &&& (4294967295:UInt64))) + (((x &&& (4294967295:UInt64)) * (y &&& (4294967295:UInt64))) >>> (32:UInt64))) (4294967295:UInt64)) rfl ?_
 refine AA _ (AF rfl) rfl ?_
 refine AI (AE (AG (AC (AA _ (AD rfl) rfl ?_))))
 refine AA (U64 ((((x >>> (32:UInt64)) * (y &&& (4294967295:UInt64))) + (((x &&& (4294967295:UInt64)) * (y &&& (4294967295:UInt64))) >>> (32:UInt64))) >>> (32:UInt64))) (AK rfl rfl fun _ => D4 (((x >>> (32:UInt64)) * (y &&& (4294967295:UInt64))) + (((x &&& (4294967295:UInt64)) * (y &&& (4294967295:UInt64))) >>> (32:UInt64))) _ _ 32 (by decide) rfl) rfl ?_
 refine AA _ (AF rfl) rfl ?_
 refine AI (AE (AG (AC (AA _ (AD rfl) rfl ?_))))
 refine AA _ (AD rfl) rfl ?_
 refine AA _ (AD rfl) rfl ?_
 refine AA (U64 ((x &&& (4294967295:UInt64)) * (y >>> (32:UInt64)))) (AK rfl rfl fun _ => E1 (x &&& (4294967295:UInt64)) (y >>> (32:UInt64))) rfl ?_
 refine AA (U64 (((((x >>> (32:UInt64)) * (y &&& (4294967295:UInt64))) + (((x &&& (4294967295:UInt64)) * (y &&& (4294967295:UInt64))) >>> (32:UInt64))) &&& (4294967295:UInt64)) + ((x &&& (4294967295:UInt64)) * (y >>> (32:UInt64))))) (AK rfl rfl fun _ => bin_add_u64 ((((x >>> (32:UInt64)) * (y &&& (4294967295:UInt64))) + (((x &&& (4294967295:UInt64)) * (y &&& (4294967295:UInt64))) >>> (32:UInt64))) &&& (4294967295:UInt64)) ((x &&& (4294967295:UInt64)) * (y >>> (32:UInt64)))) rfl ?_
 refine AA _ (AF rfl) rfl ?_
 refine AI (AE (AG (AC (AA _ (AD rfl) rfl ?_))))
 refine AA _ (AD rfl) rfl ?_
 refine AA (U64 ((x >>> (32:UInt64)) * (y >>> (32:UInt64)))) (AK rfl rfl fun _ => E1 (x >>> (32:UInt64)) (y >>> (32:UInt64))) rfl ?_
 refine AA _ (AD rfl) rfl ?_
 refine AA (U64 (((x >>> (32:UInt64)) * (y >>> (32:UInt64))) + ((((x >>> (32:UInt64)) * (y &&& (4294967295:UInt64))) + (((x &&& (4294967295:UInt64)) * (y &&& (4294967295:UInt64))) >>> (32:UInt64))) >>> (32:UInt64)))) (AK rfl rfl fun _ => bin_add_u64 ((x >>> (32:UInt64)) * (y >>> (32:UInt64))) ((((x >>> (32:UInt64)) * (y &&& (4294967295:UInt64))) + (((x &&& (4294967295:UInt64)) * (y &&& (4294967295:UInt64))) >>> (32:UInt64))) >>> (32:UInt64))) rfl ?_
 refine AA _ (AD rfl) rfl ?_
 refine AA (U64 ((((((x >>> (32:UInt64)) * (y &&& (4294967295:UInt64))) + (((x &&& (4294967295:UInt64)) * (y &&& (4294967295:UInt64))) >>> (32:UInt64))) &&& (4294967295:UInt64)) + ((x &&& (4294967295:UInt64)) * (y >>> (32:UInt64)))) >>> (32:UInt64))) (AK rfl rfl fun _ => D4 (((((x >>> (32:UInt64)) * (y &&& (4294967295:UInt64))) + (((x &&& (4294967295:UInt64)) * (y &&& (4294967295:UInt64))) >>> (32:UInt64))) &&& (4294967295:UInt64)) + ((x &&& (4294967295:UInt64)) * (y >>> (32:UInt64)))) _ _ 32 (by decide) rfl) rfl ?_
 refine AA (U64 ((((x >>> (32:UInt64)) * (y >>> (32:UInt64))) + ((((x >>> (32:UInt64)) * (y &&& (4294967295:UInt64))) + (((x &&& (4294967295:UInt64)) * (y &&& (4294967295:UInt64))) >>> (32:UInt64))) >>> (32:UInt64))) + ((((((x >>> (32:UInt64)) * (y &&& (4294967295:UInt64))) + (((x &&& (4294967295:UInt64)) * (y &&& (4294967295:UInt64))) >>> (32:UInt64))) &&& (4294967295:UInt64)) + ((x &&& (4294967295:UInt64)) * (y >>> (32:UInt64)))) >>> (32:UInt64)))) (AK rfl rfl fun _ => bin_add_u64 (((x >>> (32:UInt64)) * (y >>> (32:UInt64))) + ((((x >>> (32:UInt64)) * (y &&& (4294967295:UInt64))) + (((x &&& (4294967295:UInt64)) * (y &&& (4294967295:UInt64))) >>> (32:UInt64))) >>> (32:UInt64))) ((((((x >>> (32:UInt64)) * (y &&& (4294967295:UInt64))) + (((x &&& (4294967295:UInt64)) * (y &&& (4294967295:UInt64))) >>> (32:UInt64))) &&& (4294967295:UInt64)) + ((x &&& (4294967295:UInt64)) * (y >>> (32:UInt64)))) >>> (32:UInt64))) rfl ?_
 refine AA _ (AF rfl) rfl ?_
 refine AI (AE (AG (AC (AA _ (AD rfl) rfl ?_))))
 refine AA _ (AD rfl) rfl ?_
 refine AA (U64 (x * y)) (AK rfl rfl fun _ => E1 x y) rfl ?_
 refine AA _ (AF rfl) rfl ?_
 refine AI (AE (BG (BI (.tuple #[U64 ((((x >>> (32:UInt64)) * (y >>> (32:UInt64))) + ((((x >>> (32:UInt64)) * (y &&& (4294967295:UInt64))) + (((x &&& (4294967295:UInt64)) * (y &&& (4294967295:UInt64))) >>> (32:UInt64))) >>> (32:UInt64))) + ((((((x >>> (32:UInt64)) * (y &&& (4294967295:UInt64))) + (((x &&& (4294967295:UInt64)) * (y &&& (4294967295:UInt64))) >>> (32:UInt64))) &&& (4294967295:UInt64)) + ((x &&& (4294967295:UInt64)) * (y >>> (32:UInt64)))) >>> (32:UInt64))), U64 (x * y)]) (res2 Tryd.results180 (BK rfl) (BK rfl)) fun w1 hw1 => ?_)))
 exact ⟨_, [], rfl, ⟨by unfold mulH; rfl, rfl⟩, hw1.sub (by simp) (by simp)⟩
theorem mul_c (x y : UInt64) (w : World) : Calls Tryd.prog 155 #[U64 x, U64 y] w (Post w [] (fun v L => v = .tuple #[U64 (mulH x y), U64 (x * y)] ∧ L = [])) := by
 refine enter w [] 30 [] [U64 x, U64 y] Tryd.func155 rfl rfl (by simp) (BL (by simp) (by simp) (by simp)) ?_
 show JC _ _ _ [(0, U64 x), (1, U64 y)] _
 refine AG (AC (AA _ (AF rfl) rfl ?_))
 refine AA _ (AF rfl) rfl ?_
 refine AI (AE (AG (B9 _ rfl rfl ?_)))
 refine BE (AE (AG (AC (AA _ (AD rfl) rfl ?_))))
 refine AA _ (AD rfl) rfl ?_
 refine AN (AT 180 [U64 x, U64 y] (.tuple #[U64 (mulH x y), U64 (x * y)]) (AW [U64 x, U64 y] Tryd.call180 rfl) (fun w1 hw1 => mul64_c x y w1 )) rfl ?_
 rintro v1 L1 ⟨rfl, rfl⟩
 show JL _ _ _ _ ((25, .tuple #[U64 (mulH x y), U64 (x * y)]) :: _) []
 refine AA _ (AD rfl) rfl ?_
 refine AA _ (BJ rfl rfl) rfl ?_
 refine AA _ (BJ rfl rfl) rfl ?_
 refine AA _ (AF rfl) rfl ?_
 refine AA _ (AF rfl) rfl ?_
 refine AI (AE (AG (AC (AA _ (AD rfl) rfl ?_))))
 refine AA _ (AD rfl) rfl ?_
 refine AA _ (AF rfl) rfl ?_
 refine AA _ (AF rfl) rfl ?_
 refine AI (AE (BG (BI (.tuple #[U64 (mulH x y), U64 (x * y)]) (res2 Tryd.results155 (BK rfl) (BK rfl)) fun w1 hw1 => ?_)))
 exact ⟨_, [], rfl, ⟨rfl, rfl⟩, hw1.sub (by simp) (by simp)⟩
theorem mul1_c (n : Nat) (w : World) (hn : n ≤ 300) : Calls Tryd.prog 155 #[U64 1, U64 (UInt64.ofNat n)] w (Post w [] (fun v L => v = .tuple #[U64 0, U64 (UInt64.ofNat n)] ∧ L = [])) := by
 have h := mul_c 1 (UInt64.ofNat n) w
 rw [(mul_one_u n (by omega)).1, (mul_one_u n (by omega)).2] at h
 exact h
theorem repeat_c (bx n cx : Nat) (h : List UInt8)  (w : World) (hh : h.length = 32) (hr : RdB w [] (some ⟨bx, 0, none⟩) h) (hn1 : 1 ≤ n) (hn : n ≤ 300)  : Calls Tryd.prog 130 #[.slice (some ⟨bx, 0, none⟩) 1 cx, I64 ((n:Int))] w (Post w [] (fun v L => ∃ g, v = Slc g 0 n n ∧ L = [⟨g, cu8 (repL h n), 54, (0, 0)⟩])) := by
 have hmx : maxLen = 9223372036854775807 := rfl
 refine enter w [] 48 [] [.slice (some ⟨bx, 0, none⟩) 1 cx, I64 ((n:Int))] Tryd.func130 rfl rfl (by simp) (BL (by simp) (by simp) (by simp)) ?_
 show JC _ _ _ [(0, .slice (some ⟨bx, 0, none⟩) 1 cx), (1, I64 ((n:Int)))] _
 refine AG (AC (AA _ (AF rfl) rfl ?_))
 refine AI (AE (AG (AG (AC (AA _ (AD rfl) rfl ?_)))))
 refine AA (.bool (decide (((n:Int)) < (0:Int)))) (AK rfl rfl fun _ => CP _ _) rfl ?_
 refine AI (AE (B9 _ rfl (decide_eq_false (by omega)) ?_))
 refine BE (AE (AG (AC (AA _ (AD rfl) rfl ?_))))
 refine AA (I64 (1:Int)) (DJ A7 rfl) rfl ?_
 refine AA (U64 (1:UInt64)) (DR _ _ rfl fun _ => conv_lit (by rw [CI]; rfl) EF rfl) rfl ?_
 refine AA _ (AD rfl) rfl ?_
 refine AA (U64 (UInt64.ofNat n)) (DR _ _ rfl fun _ => DZ (by rw [CI]; rfl) EF n _ (by omega)) rfl ?_
 refine AN (AT 155 [U64 (1:UInt64), U64 (UInt64.ofNat n)] (.tuple #[U64 (0:UInt64), U64 (UInt64.ofNat n)]) (AW [U64 (1:UInt64), U64 (UInt64.ofNat n)] Tryd.call155 rfl) (fun w1 hw1 => mul1_c n w1 (by omega))) rfl ?_
 rintro v1 L1 ⟨rfl, rfl⟩
 show JL _ _ _ _ ((18, .tuple #[U64 (0:UInt64), U64 (UInt64.ofNat n)]) :: _) []
 refine AA _ (AD rfl) rfl ?_
 refine AA _ (BJ rfl rfl) rfl ?_
 refine AA _ (BJ rfl rfl) rfl ?_
 refine AA _ (AF rfl) rfl ?_
 refine AA _ (AF rfl) rfl ?_
 refine AI (AE (AG (AG (AC (AA _ (AD rfl) rfl ?_)))))
 refine AA (.bool (decide ((0:UInt64) < (0:UInt64)))) (AK rfl rfl fun _ => bin_gtr_u64 (0:UInt64) (0:UInt64)) rfl ?_
 refine AA _ (AD rfl) rfl ?_
 refine AU 2 23 false _ _ rfl rfl (by decide) (AD rfl) rfl ?_
 refine AU 2 23 false _ (.bool (decide ((9223372036854775807:UInt64) < (UInt64.ofNat n)))) rfl rfl (by decide) (AK rfl rfl fun _ => bin_gtr_u64 (UInt64.ofNat n) (9223372036854775807:UInt64)) rfl ?_
 refine AA _ (BX _ rfl (by decide) rfl) rfl ?_
 refine AI (AE (B9 _ rfl (decide_eq_false (big_not (by omega))) ?_))
 refine BE (AE (AG (AC (AA _ (AD rfl) rfl ?_))))
 refine AA (I64 ((n:Int))) (DR _ _ rfl fun _ => conv_u64_i64 (by rw [EF]; rfl) CI (UInt64.ofNat n) _ (ofN_300 hn).1 (ofN_300 hn).2) rfl ?_
 refine AN (Step_makeH 54 32 32 n n (32*n) A7 (by kernel_rfl) (by decide) rfl rfl (by omega) (by omega) (by unfold maxLen; omega) (by omega)) rfl ?_
 rintro v1 L1 ⟨nb1, hnb1, rfl, rfl⟩
 show JL _ _ _ _ ((30, Slc nb1 0 n n) :: _) [⟨nb1, cu8 (zr8 (32*n)), 54, (0, 0)⟩]
 refine AA _ (AF rfl) rfl ?_
 refine AI (AE (AG (AC (AA _ (AD rfl) rfl ?_))))
 refine AA _ (AD rfl) rfl ?_
 have hz1 : (h).length = 32 := (hh).trans (by first | rfl | omega)
 have hl1 : (spl (zr8 (32*n)) 0 h).length = (32*n) := (EY (by rw [hz1, ((A2 (32*n)) : (zr8 (32*n)).length = (32*n))]; omega)).trans (A2 (32*n))
 refine AN (Step_copyH 65 65 54 0 nb1 0 n n 32 (zr8 (32*n)) h 54 ⟨bx, 0, none⟩ 1 cx 1 A7 (by kernel_rfl) rfl rfl rfl (Nat.min_eq_left (by omega)) (by first | omega | (rw [hz1]; omega)) (hr.src) (by rw [hz1, ((A2 (32*n)) : (zr8 (32*n)).length = (32*n))]; omega)) rfl ?_
 rintro v1 L1 ⟨rfl, rfl⟩
 show JL _ _ _ _ ((33, I64 (1:Int)) :: _) [⟨nb1, cu8 (spl (zr8 (32*n)) 0 h), 54, (0, 0)⟩]
 refine AA _ (AF rfl) rfl ?_
 refine AI (AE (AG (BH (DN (ι := Nat × List UInt8) (fun ⟨c, o⟩ => [(4, .slice none 0 0), (7, Slc nb1 0 n n), (8, I64 ((c:Int)))]) (fun ⟨c, o⟩ => [⟨nb1, cu8 o, 54, (0, 0)⟩]) (fun ⟨c, o⟩ => 1 ≤ c ∧ c ≤ n ∧ RepI o h n c ∧ o.length = 32*n) (fun ⟨c, o⟩ => n - c) (1, spl (zr8 (32*n)) 0 h) ⟨by omega, by omega, by have e1 := RepI.zero (n := n) hh (by omega); rw [show n * 32 = 32*n by omega] at e1; exact e1, hl1⟩ (AH rfl (AH rfl (AH rfl (Sub.nil)))) rfl ?_))))
 rintro ⟨c, o⟩ ⟨hc1, hc2, hI, ho⟩
 show JC _ _ _ [(4, .slice none 0 0), (7, Slc nb1 0 n n), (8, I64 ((c:Int)))] [⟨nb1, cu8 o, 54, (0, 0)⟩]
 refine AG (AG (AC (AA _ (AD rfl) rfl ?_)))
 refine AA _ (AD rfl) rfl ?_
 refine AA (I64 ((n:Int))) (DJ A7 rfl) rfl ?_
 refine AA (.bool (decide (((c:Int)) < ((n:Int))))) (AK rfl rfl fun _ => CP _ _) rfl ?_
 refine AI (AE (CN (decide (((c:Int)) < ((n:Int)))) rfl (fun hb1 => ?_) (fun hb1 => ?_)))
 ·
  have hp1 : ((c:Int)) < ((n:Int)) := of_decide_eq_true hb1
  refine BE (AE (BH ?_))
  by_cases hcm : c ≤ n - c
  ·
   refine C3 48 2 [(0, I64 ((c:Int))), (1, Slc nb1 0 n n), (2, I64 ((c:Int))), (3, Slc nb1 (32*c) (n - c) (n - c)), (4, Slc nb1 0 n n), (5, I64 ((c:Int))), (6, Slc nb1 0 c n)] BQ rfl (by decide +kernel) ?_
   have hl2 : (mid o 0 (32*c)).length = (32*c) := DV (by rw [ho]; omega)
   have hz2 : (mid o 0 (32*c)).length = (32*c) := (hl2).trans (by first | rfl | omega)
   have hl3 : (spl o (32*c) (mid o 0 (32*c))).length = (32*n) := (EY (by rw [hz2, (ho : (o).length = (32*n))]; omega)).trans ho
   refine BT ⟨[], [0, 1, 2, 3, 4, 5, 6], [], [0, 1, 2, 3, 4, 5, 6], [7]⟩ 7 _ rfl rfl (by decide +kernel) rfl ⟨⟨_, rfl, AB rfl (AD rfl)⟩, ⟨_, rfl, AB rfl (AD rfl)⟩, ⟨_, rfl, AB rfl (AD rfl)⟩, ⟨_, rfl, AB rfl (Ev_slice 54 32 c n (32*c) (n - c) A7 AQ rfl rfl rfl (by omega) (by omega) (by omega) (by omega) (by omega) (n - c) (by omega))⟩, ⟨_, rfl, AB rfl (AD rfl)⟩, ⟨_, rfl, AB rfl (AD rfl)⟩, ⟨_, rfl, AB rfl (Ev_slice 54 32 0 c 0 n A7 AQ rfl rfl rfl (by omega) (by omega) (by omega) (by omega) (by omega) c (by omega))⟩, trivial⟩ rfl (A1 rfl (Step_copyH 65 65 54 0 nb1 (32*c) (n - c) (n - c) 32 o (mid o 0 (32*c)) 54 ⟨nb1, 0, none⟩ c n c A7 (by kernel_rfl) rfl rfl rfl (Nat.min_eq_left (by omega)) (by first | omega | (rw [hz2]; omega)) (SrcAt.mem (MemAt.ent 0 rfl (E8 0 (32*c) (by rw [ho]; omega)))) (by rw [hz2, (ho : (o).length = (32*n))]; omega))) ?_
   rintro v1 L1 ⟨rfl, rfl⟩
   refine ⟨[(8, I64 (2*(c:Int))), (9, I64 (2*(c:Int)))], ?_⟩
   show DP _ _ _ _ _ _ _ _ [⟨nb1, cu8 (spl o (32*c) (mid o 0 (32*c))), 54, (0, 0)⟩]
   refine DG ⟨[7], [0, 1, 2, 3, 4, 5, 6, 8, 9], [1, 2, 3, 4, 5, 6], [0, 8, 9], []⟩ rfl rfl (by decide +kernel) rfl ⟨⟨_, rfl, AB rfl (AD rfl)⟩, ⟨_, rfl, AB rfl (AK rfl rfl fun _ => CH _ _ (2*(c:Int)) (by omega) (by omega))⟩, ⟨_, rfl, AB rfl (AF rfl)⟩, trivial⟩ ?_
   refine CZ (F' := [(38, I64 ((c:Int))), (39, Slc nb1 0 n n), (40, I64 ((c:Int))), (41, Slc nb1 (32*c) (n - c) (n - c)), (42, Slc nb1 0 n n), (43, I64 ((c:Int))), (44, Slc nb1 0 c n), (45, I64 ((c:Int))), (46, I64 (2*(c:Int))), (8, I64 (2*(c:Int))), (4, .slice none 0 0), (7, Slc nb1 0 n n), (34, I64 ((c:Int))), (35, Slc nb1 0 n n), (36, I64 ((n:Int))), (37, .bool (decide (((c:Int)) < ((n:Int)))))]) (by kernel_rfl) ?_
   refine BA (CR ?_)
   have hg := RepI.go hI (m := c) (by omega) (by omega)
   refine DT (c + (c), spl o (32*c) (mid o 0 (32*c))) ⟨by omega, by omega, by have e1 := hg; rw [show c * 32 = 32*c by omega] at e1; exact e1, hl3⟩ (by dsimp only; omega) (AH rfl (AH rfl (AH (DU (by omega)) (Sub.nil)))) rfl
  ·
   refine C3 48 2 [(0, I64 ((c:Int))), (1, Slc nb1 0 n n), (2, I64 ((c:Int))), (3, Slc nb1 (32*c) (n - c) (n - c)), (4, Slc nb1 0 n n), (5, I64 ((c:Int))), (6, Slc nb1 0 c n)] BQ rfl (by decide +kernel) ?_
   have hl4 : (mid o 0 (32*n - 32*c)).length = (32*n - 32*c) := DV (by rw [ho]; omega)
   have hz3 : (mid o 0 (32*n - 32*c)).length = (32*n - 32*c) := (hl4).trans (by first | rfl | omega)
   have hl5 : (spl o (32*c) (mid o 0 (32*n - 32*c))).length = (32*n) := (EY (by rw [hz3, (ho : (o).length = (32*n))]; omega)).trans ho
   refine BT ⟨[], [0, 1, 2, 3, 4, 5, 6], [], [0, 1, 2, 3, 4, 5, 6], [7]⟩ 7 _ rfl rfl (by decide +kernel) rfl ⟨⟨_, rfl, AB rfl (AD rfl)⟩, ⟨_, rfl, AB rfl (AD rfl)⟩, ⟨_, rfl, AB rfl (AD rfl)⟩, ⟨_, rfl, AB rfl (Ev_slice 54 32 c n (32*c) (n - c) A7 AQ rfl rfl rfl (by omega) (by omega) (by omega) (by omega) (by omega) (n - c) (by omega))⟩, ⟨_, rfl, AB rfl (AD rfl)⟩, ⟨_, rfl, AB rfl (AD rfl)⟩, ⟨_, rfl, AB rfl (Ev_slice 54 32 0 c 0 n A7 AQ rfl rfl rfl (by omega) (by omega) (by omega) (by omega) (by omega) c (by omega))⟩, trivial⟩ rfl (A1 rfl (Step_copyH 65 65 54 0 nb1 (32*c) (n - c) (n - c) 32 o (mid o 0 (32*n - 32*c)) 54 ⟨nb1, 0, none⟩ c n (n - c) A7 (by kernel_rfl) rfl rfl rfl (Nat.min_eq_right (by omega)) (by first | omega | (rw [hz3]; omega)) (SrcAt.mem (MemAt.ent 0 rfl (E8 0 (32*n - 32*c) (by rw [ho]; omega)))) (by rw [hz3, (ho : (o).length = (32*n))]; omega))) ?_
   rintro v1 L1 ⟨rfl, rfl⟩
   refine ⟨[(8, I64 ((((n - c) : Nat):Int) + (c:Int))), (9, I64 ((((n - c) : Nat):Int) + (c:Int)))], ?_⟩
   show DP _ _ _ _ _ _ _ _ [⟨nb1, cu8 (spl o (32*c) (mid o 0 (32*n - 32*c))), 54, (0, 0)⟩]
   refine DG ⟨[7], [0, 1, 2, 3, 4, 5, 6, 8, 9], [1, 2, 3, 4, 5, 6], [0, 8, 9], []⟩ rfl rfl (by decide +kernel) rfl ⟨⟨_, rfl, AB rfl (AD rfl)⟩, ⟨_, rfl, AB rfl (AK rfl rfl fun _ => CH _ _ ((((n - c) : Nat):Int) + (c:Int)) (by omega) (by omega))⟩, ⟨_, rfl, AB rfl (AF rfl)⟩, trivial⟩ ?_
   refine CZ (F' := [(38, I64 ((c:Int))), (39, Slc nb1 0 n n), (40, I64 ((c:Int))), (41, Slc nb1 (32*c) (n - c) (n - c)), (42, Slc nb1 0 n n), (43, I64 ((c:Int))), (44, Slc nb1 0 c n), (45, I64 ((((n - c) : Nat):Int))), (46, I64 ((((n - c) : Nat):Int) + (c:Int))), (8, I64 ((((n - c) : Nat):Int) + (c:Int))), (4, .slice none 0 0), (7, Slc nb1 0 n n), (34, I64 ((c:Int))), (35, Slc nb1 0 n n), (36, I64 ((n:Int))), (37, .bool (decide (((c:Int)) < ((n:Int)))))]) (by kernel_rfl) ?_
   refine BA (CR ?_)
   have hg := RepI.go hI (m := n - c) (by omega) (by omega)
   refine DT (c + (n - c), spl o (32*c) (mid o 0 (32*n - 32*c))) ⟨by omega, by omega, by have e1 := hg; rw [show c * 32 = 32*c by omega, show (n - c) * 32 = 32*n - 32*c by omega] at e1; exact e1, hl5⟩ (by dsimp only; omega) (AH rfl (AH rfl (AH (DU (by omega)) (Sub.nil)))) rfl
 ·
  have hp1 : ¬ (((c:Int)) < ((n:Int))) := of_decide_eq_false hb1
  refine DL (AX (AX (CC (AE (AG (AC (AA _ (AD rfl) rfl ?_)))))))
  refine AA _ (AF rfl) rfl ?_
  refine AI (AE (BG (BI (Slc nb1 0 n n) (res1 Tryd.results130 (BK rfl)) fun w1 hw1 => ?_)))
  obtain rfl : c = n := by omega
  rw [RepI.fin hh hI] at hw1
  exact ⟨_, _, rfl, ⟨nb1, rfl, rfl⟩, hw1.sub (by simp) (by simp)⟩
end Go.Proofs.YtkdpdgpphpngeaaDoor
namespace Go.Proofs.YtkdpdgpphpngeaaDoor
open Go Go.Sx
set_option linter.unusedVariables false
set_option linter.unusedSimpArgs false
set_option maxRecDepth 100000
attribute [local irreducible] mid zr8 zr32 numK rnK rotr wordL spreadL comprL cpN adN spN wrdN constL initL padL stN outN routN sumG putL leafT joinT empL empA empR
theorem pright_c (ai : Option Addr) (ni ci : Nat) (l : List UInt64)  (w : World) (hl : l.length = ni) (hnm : ni ≤ 2000000) (hnc : ni ≤ ci) (hcm : ci ≤ maxLen) (hv : RdV w ai (cu64 l))  : Calls Tryd.prog 85 #[I64 (32:Int), .slice ai ni ci] w (Post w [] (fun v L => v = .bool (decide (RightI l)) ∧ L = [])) := by
 have hmx : maxLen = 9223372036854775807 := rfl
 refine enter w [] 48 [] [I64 (32:Int), .slice ai ni ci] Tryd.func85 rfl rfl (by simp) (BL (by simp) (by simp) (by simp)) ?_
 show JC _ _ _ [(0, I64 (32:Int)), (1, .slice ai ni ci)] _
 refine AG (AC (AA _ (AF rfl) rfl ?_))
 refine AI (AE (AG (AG (AC (AA _ (AD rfl) rfl ?_)))))
 refine AA (.bool (decide ((32:Int) < (0:Int)))) (AK rfl rfl fun _ => CP _ _) rfl ?_
 refine AA _ (AD rfl) rfl ?_
 refine AU 2 9 false _ _ rfl rfl (by decide) (AD rfl) rfl ?_
 refine AU 2 9 false _ (.bool (decide ((32:Int) < (32:Int)))) rfl rfl (by decide) (AK rfl rfl fun _ => E2 _ _) rfl ?_
 refine AA _ (BX _ rfl (by decide) rfl) rfl ?_
 refine AA _ (AD rfl) rfl ?_
 refine AU 6 13 false _ _ rfl rfl (by decide) (AD rfl) rfl ?_
 refine AU 6 13 false _ (I64 ((ni:Int))) rfl rfl (by decide) (DJ A9 rfl) rfl ?_
 refine AU 6 13 false _ (.bool (decide (((ni:Int)) < (1:Int)))) rfl rfl (by decide) (AK rfl rfl fun _ => CP _ _) rfl ?_
 refine AA _ (BX _ rfl (by decide) rfl) rfl ?_
 refine AA _ (AD rfl) rfl ?_
 rcases Bool.eq_false_or_eq_true (decide (((ni:Int)) < (1:Int))) with hb1 | hb1
 ·
  have hp1 : ((ni:Int)) < (1:Int) := of_decide_eq_true hb1
  refine AS 11 18 false _ rfl rfl hb1 rfl ?_
  refine AS 11 18 false _ rfl rfl hb1 rfl ?_
  refine AS 11 18 false _ rfl rfl hb1 rfl ?_
  refine AA _ (CG _ rfl hb1 rfl) rfl ?_
  refine AI (AE (DM _ rfl rfl ?_))
  refine AG (AC (AA _ (AF rfl) rfl ?_))
  refine AI (AE (BG (A0 (BI (.bool false) (res1 Tryd.results85 (BK rfl)) fun w1 hw1 => ?_))))
  refine ⟨_, [], rfl, ⟨congrArg Value.bool (Eq.symm (decide_eq_false (fun h => ?_))), rfl⟩, hw1.sub (by simp) (by simp)⟩
  first | (have := h.1; omega) | (have := h.2.1; omega) | exact h.2.2 i (by omega) (.inl ‹_›) | exact h.2.2 i (by omega) (.inr ⟨by omega, ‹_›⟩) | exact h.2.2 i (by omega) (.inl ((shr32 _).1 ‹_›))
 ·
  have hp1 : ¬ (((ni:Int)) < (1:Int)) := of_decide_eq_false hb1
  refine AU 11 18 false _ _ rfl rfl hb1 (AD rfl) rfl ?_
  refine AU 11 18 false _ (I64 ((ni:Int))) rfl rfl hb1 (DJ A9 rfl) rfl ?_
  refine AU 11 18 false _ (.bool (decide ((256:Int) < ((ni:Int))))) rfl rfl hb1 (AK rfl rfl fun _ => E2 _ _) rfl ?_
  refine AA _ (BX _ rfl hb1 rfl) rfl ?_
  refine AI (AE (CN (decide ((256:Int) < ((ni:Int)))) rfl (fun hb2 => ?_) (fun hb2 => ?_)))
  ·
   have hp2 : (256:Int) < ((ni:Int)) := of_decide_eq_true hb2
   refine AG (AC (AA _ (AF rfl) rfl ?_))
   refine AI (AE (BG (A0 (BI (.bool false) (res1 Tryd.results85 (BK rfl)) fun w1 hw1 => ?_))))
   refine ⟨_, [], rfl, ⟨congrArg Value.bool (Eq.symm (decide_eq_false (fun h => ?_))), rfl⟩, hw1.sub (by simp) (by simp)⟩
   first | (have := h.1; omega) | (have := h.2.1; omega) | exact h.2.2 i (by omega) (.inl ‹_›) | exact h.2.2 i (by omega) (.inr ⟨by omega, ‹_›⟩) | exact h.2.2 i (by omega) (.inl ((shr32 _).1 ‹_›))
  ·
   have hp2 : ¬ ((256:Int) < ((ni:Int))) := of_decide_eq_false hb2
   refine BE (AE (AG (AG (AC (AA _ (AD rfl) rfl ?_)))))
   refine AA (I64 ((ni:Int))) (DJ A9 rfl) rfl ?_
   refine AA _ (AD rfl) rfl ?_
   refine AI (AE (BH (DN (ι := Nat) (fun i => [(0, I64 (32:Int)), (1, .slice ai ni ci), (23, .slice ai ni ci), (24, I64 ((ni:Int))), (25, I64 ((i:Int)))]) (fun i => []) (fun i => i ≤ ni ∧ ∀ k, k < i → ¬ IdxBad l k) (fun i => ni - i) 0 ⟨by omega, fun k hk => absurd hk (by omega)⟩ (AH rfl (AH rfl (AH rfl (AH rfl (AH rfl (Sub.nil)))))) rfl ?_)))
   rintro i ⟨hx1, hx2⟩
   show JC _ _ _ [(0, I64 (32:Int)), (1, .slice ai ni ci), (23, .slice ai ni ci), (24, I64 ((ni:Int))), (25, I64 ((i:Int)))] []
   refine AG (AC (AA (.bool (decide (((i:Int)) < ((ni:Int))))) (AK rfl rfl fun _ => CP _ _) rfl ?_))
   refine AI (AE (AG (CN (decide (((i:Int)) < ((ni:Int)))) rfl (fun hb3 => ?_) (fun hb3 => ?_))))
   ·
    have hp3 : ((i:Int)) < ((ni:Int)) := of_decide_eq_true hb3
    refine BE (AE (AG (BH (AG (AC (AA _ (AD rfl) rfl ?_))))))
    obtain ⟨bz1, oz1, hz1, hm1⟩ := RdV.pos hv (by rw [EN, hl]; omega)
    refine AA (Ptr bz1 (i + oz1)) (CF 22 1 (i + oz1) A9 A6 rfl hz1 rfl (by omega) (by omega) (by omega)) rfl ?_
    refine AA (U64 (g64 l i)) (AL rfl (AZ BC (CA (hm1.mem (by simp)) (Seg.get (FK (i := i) (by rw [hl]; omega))) (by omega)))) rfl ?_
    refine AA _ (AF rfl) rfl ?_
    refine AA _ (AF rfl) rfl ?_
    refine AI (AE (AG (AC (AA _ (AD rfl) rfl ?_))))
    refine AA _ (AD rfl) rfl ?_
    refine AA (U64 ((g64 l i) >>> (32:UInt64))) (AK rfl rfl fun _ => D4 (g64 l i) _ _ 32 (by decide) rfl) rfl ?_
    refine AA (.bool (decide (((g64 l i) >>> (32:UInt64)) ≠ (0:UInt64)))) (AK rfl rfl fun _ => EP ((g64 l i) >>> (32:UInt64)) (0:UInt64)) rfl ?_
    refine AA _ (AD rfl) rfl ?_
    rcases Bool.eq_false_or_eq_true (decide (((g64 l i) >>> (32:UInt64)) ≠ (0:UInt64))) with hb4 | hb4
    ·
     have hp4 : ((g64 l i) >>> (32:UInt64)) ≠ (0:UInt64) := of_decide_eq_true hb4
     refine AS 4 34 false _ rfl rfl hb4 rfl ?_
     refine AS 4 34 false _ rfl rfl hb4 rfl ?_
     refine AS 4 34 false _ rfl rfl hb4 rfl ?_
     refine EJ 7 37 true rfl rfl rfl ?_
     refine EJ 7 37 true rfl rfl rfl ?_
     refine EJ 7 37 true rfl rfl rfl ?_
     refine EJ 7 37 true rfl rfl rfl ?_
     refine EJ 7 37 true rfl rfl rfl ?_
     refine EJ 7 37 true rfl rfl rfl ?_
     refine EJ 7 37 true rfl rfl rfl ?_
     refine AS 4 34 false _ rfl rfl hb4 rfl ?_
     refine AA _ (CG _ rfl hb4 rfl) rfl ?_
     refine AI (AE (DM _ rfl rfl ?_))
     refine AG (AC (AA _ (AF rfl) rfl ?_))
     refine AI (AE (BG (C0 (A0 (A0 (C0 (A0 (BI (.bool false) (res1 Tryd.results85 (BK rfl)) fun w1 hw1 => ?_))))))))
     refine ⟨_, [], rfl, ⟨congrArg Value.bool (Eq.symm (decide_eq_false (fun h => ?_))), rfl⟩, hw1.sub (by simp) (by simp)⟩
     first | (have := h.1; omega) | (have := h.2.1; omega) | exact h.2.2 i (by omega) (.inl ‹_›) | exact h.2.2 i (by omega) (.inr ⟨by omega, ‹_›⟩) | exact h.2.2 i (by omega) (.inl ((shr32 _).1 ‹_›))
    ·
     have hp4 : ¬ (((g64 l i) >>> (32:UInt64)) ≠ (0:UInt64)) := of_decide_eq_false hb4
     refine AU 4 34 false _ _ rfl rfl hb4 (AD rfl) rfl ?_
     refine AU 4 34 false _ (.bool (decide ((0:Int) < ((i:Int))))) rfl rfl hb4 (AK rfl rfl fun _ => E2 _ _) rfl ?_
     refine AU 4 34 false _ _ rfl rfl hb4 (AD rfl) rfl ?_
     rcases Bool.eq_false_or_eq_true (decide ((0:Int) < ((i:Int)))) with hb5 | hb5
     ·
      have hp5 : (0:Int) < ((i:Int)) := of_decide_eq_true hb5
      refine AU 7 37 true _ _ rfl rfl hb5 (AD rfl) rfl ?_
      refine AU 7 37 true _ _ rfl rfl hb5 (AD rfl) rfl ?_
      refine AU 7 37 true _ (I64 ((i:Int) - 1)) rfl rfl hb5 (AK rfl rfl fun _ => CO _ _ ((i:Int) - 1) (by omega) (by omega)) rfl ?_
      refine AU 7 37 true _ (Ptr bz1 (i + oz1 - 1)) rfl rfl hb5 (CF 22 1 (i + oz1 - 1) A9 A6 rfl hz1 rfl (by omega) (by omega) (by omega)) rfl ?_
      refine AU 7 37 true _ (U64 (g64 l (i - 1))) rfl rfl hb5 (AL rfl (AZ BC (CA (hm1.mem (by simp)) (Seg.get (FK (i := (i - 1)) (by rw [hl]; omega))) (by omega)))) rfl ?_
      refine AU 7 37 true _ _ rfl rfl hb5 (AD rfl) rfl ?_
      refine AU 7 37 true _ (.bool (decide ((g64 l i) ≤ (g64 l (i - 1))))) rfl rfl hb5 (AK rfl rfl fun _ => EQ (g64 l (i - 1)) (g64 l i)) rfl ?_
      refine AU 4 34 false _ _ rfl rfl hb4 (CG _ rfl hb5 rfl) rfl ?_
      refine AA _ (BX _ rfl hb4 rfl) rfl ?_
      refine AI (AE (CN (decide ((g64 l i) ≤ (g64 l (i - 1)))) rfl (fun hb6 => ?_) (fun hb6 => ?_)))
      ·
       have hp6 : (g64 l i) ≤ (g64 l (i - 1)) := of_decide_eq_true hb6
       refine AG (AC (AA _ (AF rfl) rfl ?_))
       refine AI (AE (BG (C0 (A0 (A0 (C0 (A0 (BI (.bool false) (res1 Tryd.results85 (BK rfl)) fun w1 hw1 => ?_))))))))
       refine ⟨_, [], rfl, ⟨congrArg Value.bool (Eq.symm (decide_eq_false (fun h => ?_))), rfl⟩, hw1.sub (by simp) (by simp)⟩
       first | (have := h.1; omega) | (have := h.2.1; omega) | exact h.2.2 i (by omega) (.inl ‹_›) | exact h.2.2 i (by omega) (.inr ⟨by omega, ‹_›⟩) | exact h.2.2 i (by omega) (.inl ((shr32 _).1 ‹_›))
      ·
       have hp6 : ¬ ((g64 l i) ≤ (g64 l (i - 1))) := of_decide_eq_false hb6
       refine BE (BA (AE (AC (AA (I64 ((i:Int) + 1)) (AK rfl rfl fun _ => CH _ _ ((i:Int) + 1) (by omega) (by omega)) rfl ?_))))
       refine AA _ (AD rfl) rfl ?_
       refine AI (CR (DT (i + 1) ⟨by omega, idx_step hx2 (fun hq => by rcases hq with hq | ⟨hq1, hq2⟩ <;> first | contradiction | omega | exact absurd ((shr32 _).2 hq) ‹_›)⟩ (by first | (simp; omega) | simp | (dsimp only; omega) | omega) (AH rfl (AH rfl (AH rfl (AH rfl (AH rfl (Sub.nil)))))) rfl))
     ·
      have hp5 : ¬ ((0:Int) < ((i:Int))) := of_decide_eq_false hb5
      refine AS 7 37 true _ rfl rfl hb5 rfl ?_
      refine AS 7 37 true _ rfl rfl hb5 rfl ?_
      refine AS 7 37 true _ rfl rfl hb5 rfl ?_
      refine AS 7 37 true _ rfl rfl hb5 rfl ?_
      refine AS 7 37 true _ rfl rfl hb5 rfl ?_
      refine AS 7 37 true _ rfl rfl hb5 rfl ?_
      refine AS 7 37 true _ rfl rfl hb5 rfl ?_
      refine AU 4 34 false _ _ rfl rfl hb4 (BX _ rfl hb5 rfl) rfl ?_
      refine AA _ (BX _ rfl hb4 rfl) rfl ?_
      refine AI (AE (B9 _ rfl rfl ?_))
      refine BE (BA (AE (AC (AA (I64 ((i:Int) + 1)) (AK rfl rfl fun _ => CH _ _ ((i:Int) + 1) (by omega) (by omega)) rfl ?_))))
      refine AA _ (AD rfl) rfl ?_
      refine AI (CR (DT (i + 1) ⟨by omega, idx_step hx2 (fun hq => by rcases hq with hq | ⟨hq1, hq2⟩ <;> first | contradiction | omega | exact absurd ((shr32 _).2 hq) ‹_›)⟩ (by first | (simp; omega) | simp | (dsimp only; omega) | omega) (AH rfl (AH rfl (AH rfl (AH rfl (AH rfl (Sub.nil)))))) rfl))
   ·
    have hp3 : ¬ (((i:Int)) < ((ni:Int))) := of_decide_eq_false hb3
    refine DL (AX (AX (CC (AE (AG (AC (AA _ (AF rfl) rfl ?_)))))))
    refine AI (AE (BG (BI (.bool true) (res1 Tryd.results85 (BK rfl)) fun w1 hw1 => ?_)))
    have e1 : i = ni := by omega
    subst e1
    exact ⟨_, [], rfl, ⟨congrArg Value.bool (Eq.symm (decide_eq_true ⟨by omega, by omega, by rw [hl]; exact hx2⟩)), rfl⟩, hw1.sub (by simp) (by simp)⟩
theorem rpright_c (ai : Option Addr) (ni ci : Nat) (l : List UInt64)  (w : World) (hl : l.length = ni) (hnm : ni ≤ 2000000) (hnc : ni ≤ ci) (hcm : ci ≤ maxLen) (hv : RdV w ai (cu64 l))  : Calls Tryd.prog 79 #[I64 (32:Int), .slice ai ni ci] w (Post w [] (fun v L => v = .bool (decide (RightI l)) ∧ L = [])) := by
 have hmx : maxLen = 9223372036854775807 := rfl
 refine enter w [] 59 [] [I64 (32:Int), .slice ai ni ci] Tryd.func79 rfl rfl (by simp) (BL (by simp) (by simp) (by simp)) ?_
 show JC _ _ _ [(0, I64 (32:Int)), (1, .slice ai ni ci)] _
 refine AG (AC (AA _ (AF rfl) rfl ?_))
 refine AI (AE (AG (AG (AC (AA _ (AD rfl) rfl ?_)))))
 refine AA (.bool (decide ((32:Int) < (0:Int)))) (AK rfl rfl fun _ => CP _ _) rfl ?_
 refine AA _ (AD rfl) rfl ?_
 refine AU 2 10 false _ _ rfl rfl (by decide) (AD rfl) rfl ?_
 refine AU 2 10 false _ (.bool (decide ((32:Int) < (32:Int)))) rfl rfl (by decide) (AK rfl rfl fun _ => E2 _ _) rfl ?_
 refine AA _ (BX _ rfl (by decide) rfl) rfl ?_
 refine AA _ (AD rfl) rfl ?_
 refine AU 6 14 false _ _ rfl rfl (by decide) (AD rfl) rfl ?_
 refine AU 6 14 false _ (I64 ((ni:Int))) rfl rfl (by decide) (DJ A9 rfl) rfl ?_
 refine AU 6 14 false _ (.bool (decide (((ni:Int)) = (0:Int)))) rfl rfl (by decide) (AK rfl rfl fun _ => CU _ _) rfl ?_
 refine AA _ (BX _ rfl (by decide) rfl) rfl ?_
 refine AA _ (AD rfl) rfl ?_
 rcases Bool.eq_false_or_eq_true (decide (((ni:Int)) = (0:Int))) with hb1 | hb1
 ·
  have hp1 : ((ni:Int)) = (0:Int) := of_decide_eq_true hb1
  refine AS 11 19 false _ rfl rfl hb1 rfl ?_
  refine AS 11 19 false _ rfl rfl hb1 rfl ?_
  refine AS 11 19 false _ rfl rfl hb1 rfl ?_
  refine AA _ (CG _ rfl hb1 rfl) rfl ?_
  refine AI (AE (DM _ rfl rfl ?_))
  refine AG (AC (AA _ (AF rfl) rfl ?_))
  refine AI (AE (BG (A0 (BI (.bool false) (res1 Tryd.results79 (BK rfl)) fun w1 hw1 => ?_))))
  refine ⟨_, [], rfl, ⟨congrArg Value.bool (Eq.symm (decide_eq_false (fun h => ?_))), rfl⟩, hw1.sub (by simp) (by simp)⟩
  first | (have := h.1; omega) | (have := h.2.1; omega) | exact h.2.2 i (by omega) (.inl ‹_›) | exact h.2.2 i (by omega) (.inr ⟨by omega, ‹_›⟩) | exact h.2.2 i (by omega) (.inl ((shr32 _).1 ‹_›))
 ·
  have hp1 : ¬ (((ni:Int)) = (0:Int)) := of_decide_eq_false hb1
  refine AU 11 19 false _ _ rfl rfl hb1 (AD rfl) rfl ?_
  refine AU 11 19 false _ (I64 ((ni:Int))) rfl rfl hb1 (DJ A9 rfl) rfl ?_
  refine AU 11 19 false _ (.bool (decide ((256:Int) < ((ni:Int))))) rfl rfl hb1 (AK rfl rfl fun _ => E2 _ _) rfl ?_
  refine AA _ (BX _ rfl hb1 rfl) rfl ?_
  refine AI (AE (CN (decide ((256:Int) < ((ni:Int)))) rfl (fun hb2 => ?_) (fun hb2 => ?_)))
  ·
   have hp2 : (256:Int) < ((ni:Int)) := of_decide_eq_true hb2
   refine AG (AC (AA _ (AF rfl) rfl ?_))
   refine AI (AE (BG (A0 (BI (.bool false) (res1 Tryd.results79 (BK rfl)) fun w1 hw1 => ?_))))
   refine ⟨_, [], rfl, ⟨congrArg Value.bool (Eq.symm (decide_eq_false (fun h => ?_))), rfl⟩, hw1.sub (by simp) (by simp)⟩
   first | (have := h.1; omega) | (have := h.2.1; omega) | exact h.2.2 i (by omega) (.inl ‹_›) | exact h.2.2 i (by omega) (.inr ⟨by omega, ‹_›⟩) | exact h.2.2 i (by omega) (.inl ((shr32 _).1 ‹_›))
  ·
   have hp2 : ¬ ((256:Int) < ((ni:Int))) := of_decide_eq_false hb2
   refine BE (AE (AG (AC (AA _ (AF rfl) rfl ?_))))
   refine AI (AE (AG (AG (AC (AA _ (AF rfl) rfl ?_)))))
   refine AI (AE (BH (DN (ι := Nat × UInt64) (fun ⟨j, y⟩ => [(0, I64 (32:Int)), (1, .slice ai ni ci), (4, .bool false), (6, I64 ((j:Int))), (5, U64 y)]) (fun ⟨j, y⟩ => []) (fun ⟨j, y⟩ => j ≤ 32 ∧ y = UInt64.ofNat (2 ^ j)) (fun ⟨j, y⟩ => 32 - j) (0, 1) ⟨by omega, rfl⟩ (AH rfl (AH rfl (AH rfl (AH rfl (AH rfl (Sub.nil)))))) rfl ?_)))
   rintro ⟨j, y⟩ ⟨hj1, hj2⟩
   show JC _ _ _ [(0, I64 (32:Int)), (1, .slice ai ni ci), (4, .bool false), (6, I64 ((j:Int))), (5, U64 y)] []
   refine AG (AG (AC (AA _ (AD rfl) rfl ?_)))
   refine AA _ (AD rfl) rfl ?_
   refine AA (.bool (decide (((j:Int)) < (32:Int)))) (AK rfl rfl fun _ => CP _ _) rfl ?_
   refine AI (AE (CN (decide (((j:Int)) < (32:Int))) rfl (fun hb3 => ?_) (fun hb3 => ?_)))
   ·
    have hp3 : ((j:Int)) < (32:Int) := of_decide_eq_true hb3
    refine BE (AE (AG (BH (AC (AA _ (AD rfl) rfl ?_)))))
    refine AA (U64 (y * (2:UInt64))) (AK rfl rfl fun _ => E1 y (2:UInt64)) rfl ?_
    refine AA _ (AF rfl) rfl ?_
    refine AI (BA (AE (AC (AA _ (AD rfl) rfl ?_))))
    refine AA (I64 ((j:Int) + 1)) (AK rfl rfl fun _ => CH _ _ ((j:Int) + 1) (by omega) (by omega)) rfl ?_
    refine AA _ (AF rfl) rfl ?_
    refine AI (CR (DT (j + 1, y * 2) ⟨by omega, by rw [hj2]; exact pow2_step j⟩ (by first | (simp; omega) | simp | (dsimp only; omega) | omega) (AH rfl (AH rfl (AH rfl (AH rfl (AH rfl (Sub.nil)))))) rfl))
   ·
    have hp3 : ¬ (((j:Int)) < (32:Int)) := of_decide_eq_false hb3
    refine DL (AX (AX (CC (AE (AG (AG ?_))))))
    have hj3 : j = 32 := by omega
    have hy : y = 4294967296 := by rw [hj2, hj3]; rfl
    subst hy
    skip
    refine AC (AA _ (AF rfl) rfl ?_)
    refine AI (AE (BH (DN (ι := Nat) (fun i => [(1, .slice ai ni ci), (5, U64 (4294967296:UInt64)), (7, I64 ((i:Int)))]) (fun i => []) (fun i => i ≤ ni ∧ ∀ k, k < i → ¬ IdxBad l k) (fun i => ni - i) 0 ⟨by omega, fun k hk => absurd hk (by omega)⟩ (AH rfl (AH rfl (AH rfl (Sub.nil)))) rfl ?_)))
    rintro i ⟨hx1, hx2⟩
    show JC _ _ _ [(1, .slice ai ni ci), (5, U64 (4294967296:UInt64)), (7, I64 ((i:Int)))] []
    refine AG (AG (AC (AA _ (AD rfl) rfl ?_)))
    refine AA _ (AD rfl) rfl ?_
    refine AA (I64 ((ni:Int))) (DJ A9 rfl) rfl ?_
    refine AA (.bool (decide (((i:Int)) < ((ni:Int))))) (AK rfl rfl fun _ => CP _ _) rfl ?_
    refine AI (AE (CN (decide (((i:Int)) < ((ni:Int)))) rfl (fun hb4 => ?_) (fun hb4 => ?_)))
    ·
     have hp4 : ((i:Int)) < ((ni:Int)) := of_decide_eq_true hb4
     refine BE (AE (AG (BH (AG ?_))))
     rcases Bool.eq_false_or_eq_true (decide ((4294967296:UInt64) ≤ (g64 l i))) with hb5 | hb5
     ·
      have hp5 : (4294967296:UInt64) ≤ (g64 l i) := of_decide_eq_true hb5
      obtain ⟨bz1, oz1, hz1, hm1⟩ := RdV.pos hv (by rw [EN, hl]; omega)
      refine C3 59 1 [(0, .slice ai ni ci), (1, I64 ((i:Int))), (2, Ptr bz1 (i + oz1)), (3, U64 (g64 l i)), (4, U64 (4294967296:UInt64)), (5, .bool (decide ((4294967296:UInt64) ≤ (g64 l i)))), (6, .bool (decide ((4294967296:UInt64) ≤ (g64 l i)))), (7, undef), (8, undef), (9, undef), (10, undef), (11, undef), (12, undef), (13, undef), (14, undef), (15, undef), (16, undef), (17, undef), (18, undef), (19, undef), (20, undef), (21, .bool true)] BQ rfl (by decide +kernel) ?_
      refine DG ⟨[], [0, 1, 2, 3, 4, 5, 6, 7, 8, 9, 10, 11, 12, 13, 14, 15, 16, 17, 18, 19, 20, 21], [], [0, 1, 2, 3, 4, 5, 6, 7, 8, 9, 10, 11, 12, 13, 14, 15, 16, 17, 18, 19, 20, 21], []⟩ rfl rfl (by decide +kernel) rfl ⟨⟨_, rfl, AB rfl (AD rfl)⟩, ⟨_, rfl, AB rfl (AD rfl)⟩, ⟨_, rfl, AB rfl (CF 22 1 (i + oz1) A9 A6 rfl hz1 rfl (by omega) (by omega) (by omega))⟩, ⟨_, rfl, AB rfl (AL rfl (AZ BC (CA (hm1.mem (by simp)) (Seg.get (FK (i := i) (by rw [hl]; omega))) (by omega))))⟩, ⟨_, rfl, AB rfl (AD rfl)⟩, ⟨_, rfl, AB rfl (AK rfl rfl fun _ => EQ (g64 l i) (4294967296:UInt64))⟩, ⟨_, rfl, AB rfl (AD rfl)⟩, ⟨_, rfl, CS 6 43 false _ rfl rfl rfl hb5⟩, ⟨_, rfl, CS 6 43 false _ rfl rfl rfl hb5⟩, ⟨_, rfl, CS 6 43 false _ rfl rfl rfl hb5⟩, ⟨_, rfl, E7 9 46 true rfl rfl rfl⟩, ⟨_, rfl, E7 9 46 true rfl rfl rfl⟩, ⟨_, rfl, E7 9 46 true rfl rfl rfl⟩, ⟨_, rfl, E7 9 46 true rfl rfl rfl⟩, ⟨_, rfl, E7 9 46 true rfl rfl rfl⟩, ⟨_, rfl, E7 9 46 true rfl rfl rfl⟩, ⟨_, rfl, E7 9 46 true rfl rfl rfl⟩, ⟨_, rfl, E7 9 46 true rfl rfl rfl⟩, ⟨_, rfl, E7 9 46 true rfl rfl rfl⟩, ⟨_, rfl, E7 9 46 true rfl rfl rfl⟩, ⟨_, rfl, CS 6 43 false _ rfl rfl rfl hb5⟩, ⟨_, rfl, AB rfl (CG _ rfl hb5 rfl)⟩, trivial⟩ ?_
      refine CZ (F' := [(37, .slice ai ni ci), (38, I64 ((i:Int))), (39, Ptr bz1 (i + oz1)), (40, U64 (g64 l i)), (41, U64 (4294967296:UInt64)), (42, .bool (decide ((4294967296:UInt64) ≤ (g64 l i)))), (43, .bool (decide ((4294967296:UInt64) ≤ (g64 l i)))), (44, undef), (45, undef), (46, undef), (47, undef), (48, undef), (49, undef), (50, undef), (51, undef), (52, undef), (53, undef), (54, undef), (55, undef), (56, undef), (57, undef), (58, .bool true), (1, .slice ai ni ci), (5, U64 (4294967296:UInt64)), (7, I64 ((i:Int))), (31, I64 ((i:Int))), (32, .slice ai ni ci), (33, I64 ((ni:Int))), (34, .bool (decide (((i:Int)) < ((ni:Int)))))]) (by kernel_rfl) ?_
      refine AE (DM _ rfl rfl ?_)
      refine AG (AC (AA _ (AF rfl) rfl ?_))
      refine AI (AE (BG (C0 (A0 (A0 (C0 (A0 (BI (.bool false) (res1 Tryd.results79 (BK rfl)) fun w1 hw1 => ?_))))))))
      refine ⟨_, [], rfl, ⟨congrArg Value.bool (Eq.symm (decide_eq_false (fun h => ?_))), rfl⟩, hw1.sub (by simp) (by simp)⟩
      first | (have := h.1; omega) | (have := h.2.1; omega) | exact h.2.2 i (by omega) (.inl ‹_›) | exact h.2.2 i (by omega) (.inr ⟨by omega, ‹_›⟩) | exact h.2.2 i (by omega) (.inl ((shr32 _).1 ‹_›))
     ·
      have hp5 : ¬ ((4294967296:UInt64) ≤ (g64 l i)) := of_decide_eq_false hb5
      rcases Bool.eq_false_or_eq_true (decide ((0:Int) < ((i:Int)))) with hb6 | hb6
      ·
       have hp6 : (0:Int) < ((i:Int)) := of_decide_eq_true hb6
       obtain ⟨bz2, oz2, hz2, hm2⟩ := RdV.pos hv (by rw [EN, hl]; omega)
       refine C3 59 1 [(0, .slice ai ni ci), (1, I64 ((i:Int))), (2, Ptr bz2 (i + oz2)), (3, U64 (g64 l i)), (4, U64 (4294967296:UInt64)), (5, .bool (decide ((4294967296:UInt64) ≤ (g64 l i)))), (6, .bool (decide ((4294967296:UInt64) ≤ (g64 l i)))), (7, I64 ((i:Int))), (8, .bool (decide ((0:Int) < ((i:Int))))), (9, .bool (decide ((0:Int) < ((i:Int))))), (10, .slice ai ni ci), (11, I64 ((i:Int))), (12, Ptr bz2 (i + oz2)), (13, U64 (g64 l i)), (14, .slice ai ni ci), (15, I64 ((i:Int))), (16, I64 ((i:Int) - 1)), (17, Ptr bz2 (i + oz2 - 1)), (18, U64 (g64 l (i - 1))), (19, .bool (decide ((g64 l i) ≤ (g64 l (i - 1))))), (20, .bool (decide ((g64 l i) ≤ (g64 l (i - 1))))), (21, .bool (decide ((g64 l i) ≤ (g64 l (i - 1)))))] BQ rfl (by decide +kernel) ?_
       refine DG ⟨[], [0, 1, 2, 3, 4, 5, 6, 7, 8, 9, 10, 11, 12, 13, 14, 15, 16, 17, 18, 19, 20, 21], [], [0, 1, 2, 3, 4, 5, 6, 7, 8, 9, 10, 11, 12, 13, 14, 15, 16, 17, 18, 19, 20, 21], []⟩ rfl rfl (by decide +kernel) rfl ⟨⟨_, rfl, AB rfl (AD rfl)⟩, ⟨_, rfl, AB rfl (AD rfl)⟩, ⟨_, rfl, AB rfl (CF 22 1 (i + oz2) A9 A6 rfl hz2 rfl (by omega) (by omega) (by omega))⟩, ⟨_, rfl, AB rfl (AL rfl (AZ BC (CA (hm2.mem (by simp)) (Seg.get (FK (i := i) (by rw [hl]; omega))) (by omega))))⟩, ⟨_, rfl, AB rfl (AD rfl)⟩, ⟨_, rfl, AB rfl (AK rfl rfl fun _ => EQ (g64 l i) (4294967296:UInt64))⟩, ⟨_, rfl, AB rfl (AD rfl)⟩, ⟨_, rfl, BW 6 43 false _ rfl rfl rfl hb5 (AD rfl)⟩, ⟨_, rfl, BW 6 43 false _ rfl rfl rfl hb5 (AK rfl rfl fun _ => E2 _ _)⟩, ⟨_, rfl, BW 6 43 false _ rfl rfl rfl hb5 (AD rfl)⟩, ⟨_, rfl, BW 9 46 true _ rfl rfl rfl hb6 (AD rfl)⟩, ⟨_, rfl, BW 9 46 true _ rfl rfl rfl hb6 (AD rfl)⟩, ⟨_, rfl, BW 9 46 true _ rfl rfl rfl hb6 (CF 22 1 (i + oz2) A9 A6 rfl hz2 rfl (by omega) (by omega) (by omega))⟩, ⟨_, rfl, BW 9 46 true _ rfl rfl rfl hb6 (AL rfl (AZ BC (CA (hm2.mem (by simp)) (Seg.get (FK (i := i) (by rw [hl]; omega))) (by omega))))⟩, ⟨_, rfl, BW 9 46 true _ rfl rfl rfl hb6 (AD rfl)⟩, ⟨_, rfl, BW 9 46 true _ rfl rfl rfl hb6 (AD rfl)⟩, ⟨_, rfl, BW 9 46 true _ rfl rfl rfl hb6 (AK rfl rfl fun _ => CO _ _ ((i:Int) - 1) (by omega) (by omega))⟩, ⟨_, rfl, BW 9 46 true _ rfl rfl rfl hb6 (CF 22 1 (i + oz2 - 1) A9 A6 rfl hz2 rfl (by omega) (by omega) (by omega))⟩, ⟨_, rfl, BW 9 46 true _ rfl rfl rfl hb6 (AL rfl (AZ BC (CA (hm2.mem (by simp)) (Seg.get (FK (i := (i - 1)) (by rw [hl]; omega))) (by omega))))⟩, ⟨_, rfl, BW 9 46 true _ rfl rfl rfl hb6 (AK rfl rfl fun _ => bin_leq_u64 (g64 l i) (g64 l (i - 1)))⟩, ⟨_, rfl, BW 6 43 false _ rfl rfl rfl hb5 (CG _ rfl hb6 rfl)⟩, ⟨_, rfl, AB rfl (BX _ rfl hb5 rfl)⟩, trivial⟩ ?_
       refine CZ (F' := [(37, .slice ai ni ci), (38, I64 ((i:Int))), (39, Ptr bz2 (i + oz2)), (40, U64 (g64 l i)), (41, U64 (4294967296:UInt64)), (42, .bool (decide ((4294967296:UInt64) ≤ (g64 l i)))), (43, .bool (decide ((4294967296:UInt64) ≤ (g64 l i)))), (44, I64 ((i:Int))), (45, .bool (decide ((0:Int) < ((i:Int))))), (46, .bool (decide ((0:Int) < ((i:Int))))), (47, .slice ai ni ci), (48, I64 ((i:Int))), (49, Ptr bz2 (i + oz2)), (50, U64 (g64 l i)), (51, .slice ai ni ci), (52, I64 ((i:Int))), (53, I64 ((i:Int) - 1)), (54, Ptr bz2 (i + oz2 - 1)), (55, U64 (g64 l (i - 1))), (56, .bool (decide ((g64 l i) ≤ (g64 l (i - 1))))), (57, .bool (decide ((g64 l i) ≤ (g64 l (i - 1))))), (58, .bool (decide ((g64 l i) ≤ (g64 l (i - 1))))), (1, .slice ai ni ci), (5, U64 (4294967296:UInt64)), (7, I64 ((i:Int))), (31, I64 ((i:Int))), (32, .slice ai ni ci), (33, I64 ((ni:Int))), (34, .bool (decide (((i:Int)) < ((ni:Int)))))]) (by kernel_rfl) ?_
       refine AE (CN (decide ((g64 l i) ≤ (g64 l (i - 1)))) rfl (fun hb7 => ?_) (fun hb7 => ?_))
       ·
        have hp7 : (g64 l i) ≤ (g64 l (i - 1)) := of_decide_eq_true hb7
        refine AG (AC (AA _ (AF rfl) rfl ?_))
        refine AI (AE (BG (C0 (A0 (A0 (C0 (A0 (BI (.bool false) (res1 Tryd.results79 (BK rfl)) fun w1 hw1 => ?_))))))))
        refine ⟨_, [], rfl, ⟨congrArg Value.bool (Eq.symm (decide_eq_false (fun h => ?_))), rfl⟩, hw1.sub (by simp) (by simp)⟩
        first | (have := h.1; omega) | (have := h.2.1; omega) | exact h.2.2 i (by omega) (.inl ‹_›) | exact h.2.2 i (by omega) (.inr ⟨by omega, ‹_›⟩) | exact h.2.2 i (by omega) (.inl ((shr32 _).1 ‹_›))
       ·
        have hp7 : ¬ ((g64 l i) ≤ (g64 l (i - 1))) := of_decide_eq_false hb7
        refine BE (BA (AE (AC (AA _ (AD rfl) rfl ?_))))
        refine AA (I64 ((i:Int) + 1)) (AK rfl rfl fun _ => CH _ _ ((i:Int) + 1) (by omega) (by omega)) rfl ?_
        refine AA _ (AF rfl) rfl ?_
        refine AI (CR (DT (i + 1) ⟨by omega, idx_step hx2 (fun hq => by rcases hq with hq | ⟨hq1, hq2⟩ <;> first | contradiction | omega | exact absurd ((shr32 _).2 hq) ‹_›)⟩ (by first | (simp; omega) | simp | (dsimp only; omega) | omega) (AH rfl (AH rfl (AH rfl (Sub.nil)))) rfl))
      ·
       have hp6 : ¬ ((0:Int) < ((i:Int))) := of_decide_eq_false hb6
       obtain ⟨bz3, oz3, hz3, hm3⟩ := RdV.pos hv (by rw [EN, hl]; omega)
       refine C3 59 1 [(0, .slice ai ni ci), (1, I64 ((i:Int))), (2, Ptr bz3 (i + oz3)), (3, U64 (g64 l i)), (4, U64 (4294967296:UInt64)), (5, .bool (decide ((4294967296:UInt64) ≤ (g64 l i)))), (6, .bool (decide ((4294967296:UInt64) ≤ (g64 l i)))), (7, I64 ((i:Int))), (8, .bool (decide ((0:Int) < ((i:Int))))), (9, .bool (decide ((0:Int) < ((i:Int))))), (10, undef), (11, undef), (12, undef), (13, undef), (14, undef), (15, undef), (16, undef), (17, undef), (18, undef), (19, undef), (20, .bool false), (21, .bool false)] BQ rfl (by decide +kernel) ?_
       refine DG ⟨[], [0, 1, 2, 3, 4, 5, 6, 7, 8, 9, 10, 11, 12, 13, 14, 15, 16, 17, 18, 19, 20, 21], [], [0, 1, 2, 3, 4, 5, 6, 7, 8, 9, 10, 11, 12, 13, 14, 15, 16, 17, 18, 19, 20, 21], []⟩ rfl rfl (by decide +kernel) rfl ⟨⟨_, rfl, AB rfl (AD rfl)⟩, ⟨_, rfl, AB rfl (AD rfl)⟩, ⟨_, rfl, AB rfl (CF 22 1 (i + oz3) A9 A6 rfl hz3 rfl (by omega) (by omega) (by omega))⟩, ⟨_, rfl, AB rfl (AL rfl (AZ BC (CA (hm3.mem (by simp)) (Seg.get (FK (i := i) (by rw [hl]; omega))) (by omega))))⟩, ⟨_, rfl, AB rfl (AD rfl)⟩, ⟨_, rfl, AB rfl (AK rfl rfl fun _ => EQ (g64 l i) (4294967296:UInt64))⟩, ⟨_, rfl, AB rfl (AD rfl)⟩, ⟨_, rfl, BW 6 43 false _ rfl rfl rfl hb5 (AD rfl)⟩, ⟨_, rfl, BW 6 43 false _ rfl rfl rfl hb5 (AK rfl rfl fun _ => E2 _ _)⟩, ⟨_, rfl, BW 6 43 false _ rfl rfl rfl hb5 (AD rfl)⟩, ⟨_, rfl, CS 9 46 true _ rfl rfl rfl hb6⟩, ⟨_, rfl, CS 9 46 true _ rfl rfl rfl hb6⟩, ⟨_, rfl, CS 9 46 true _ rfl rfl rfl hb6⟩, ⟨_, rfl, CS 9 46 true _ rfl rfl rfl hb6⟩, ⟨_, rfl, CS 9 46 true _ rfl rfl rfl hb6⟩, ⟨_, rfl, CS 9 46 true _ rfl rfl rfl hb6⟩, ⟨_, rfl, CS 9 46 true _ rfl rfl rfl hb6⟩, ⟨_, rfl, CS 9 46 true _ rfl rfl rfl hb6⟩, ⟨_, rfl, CS 9 46 true _ rfl rfl rfl hb6⟩, ⟨_, rfl, CS 9 46 true _ rfl rfl rfl hb6⟩, ⟨_, rfl, BW 6 43 false _ rfl rfl rfl hb5 (BX _ rfl hb6 rfl)⟩, ⟨_, rfl, AB rfl (BX _ rfl hb5 rfl)⟩, trivial⟩ ?_
       refine CZ (F' := [(37, .slice ai ni ci), (38, I64 ((i:Int))), (39, Ptr bz3 (i + oz3)), (40, U64 (g64 l i)), (41, U64 (4294967296:UInt64)), (42, .bool (decide ((4294967296:UInt64) ≤ (g64 l i)))), (43, .bool (decide ((4294967296:UInt64) ≤ (g64 l i)))), (44, I64 ((i:Int))), (45, .bool (decide ((0:Int) < ((i:Int))))), (46, .bool (decide ((0:Int) < ((i:Int))))), (47, undef), (48, undef), (49, undef), (50, undef), (51, undef), (52, undef), (53, undef), (54, undef), (55, undef), (56, undef), (57, .bool false), (58, .bool false), (1, .slice ai ni ci), (5, U64 (4294967296:UInt64)), (7, I64 ((i:Int))), (31, I64 ((i:Int))), (32, .slice ai ni ci), (33, I64 ((ni:Int))), (34, .bool (decide (((i:Int)) < ((ni:Int)))))]) (by kernel_rfl) ?_
       refine AE (B9 _ rfl rfl ?_)
       refine BE (BA (AE (AC (AA _ (AD rfl) rfl ?_))))
       refine AA (I64 ((i:Int) + 1)) (AK rfl rfl fun _ => CH _ _ ((i:Int) + 1) (by omega) (by omega)) rfl ?_
       refine AA _ (AF rfl) rfl ?_
       refine AI (CR (DT (i + 1) ⟨by omega, idx_step hx2 (fun hq => by rcases hq with hq | ⟨hq1, hq2⟩ <;> first | contradiction | omega | exact absurd ((shr32 _).2 hq) ‹_›)⟩ (by first | (simp; omega) | simp | (dsimp only; omega) | omega) (AH rfl (AH rfl (AH rfl (Sub.nil)))) rfl))
    ·
     have hp4 : ¬ (((i:Int)) < ((ni:Int))) := of_decide_eq_false hb4
     refine DL (AX (AX (CC (AE (AG (AC (AA _ (AF rfl) rfl ?_)))))))
     refine AI (AE (BG (BI (.bool true) (res1 Tryd.results79 (BK rfl)) fun w1 hw1 => ?_)))
     have e1 : i = ni := by omega
     subst e1
     exact ⟨_, [], rfl, ⟨congrArg Value.bool (Eq.symm (decide_eq_true ⟨by omega, by omega, by rw [hl]; exact hx2⟩)), rfl⟩, hw1.sub (by simp) (by simp)⟩
end Go.Proofs.YtkdpdgpphpngeaaDoor
namespace Go.Proofs.YtkdpdgpphpngeaaDoor
open Go Go.Sx
set_option linter.unusedVariables false
set_option linter.unusedSimpArgs false
set_option maxRecDepth 100000
attribute [local irreducible] mid zr8 zr32 numK rnK rotr wordL spreadL comprL cpN adN spN wrdN constL initL padL stN outN routN sumG putL leafT joinT empL empA empR RightB
theorem right_c (i e : UInt64) (w : World) : Calls Tryd.prog 133 #[U64 i, U64 e] w (Post w [] (fun v L => v = .bool (RightB i e) ∧ L = [])) := by
 refine enter w [] 15 [] [U64 i, U64 e] Tryd.func133 rfl rfl (by simp) (BL (by simp) (by simp) (by simp)) ?_
 show JC _ _ _ [(0, U64 i), (1, U64 e)] _
 refine AG (AC (AA _ (AF rfl) rfl ?_))
 refine AI (AE (AG (AC (AA _ (AD rfl) rfl ?_))))
 refine AA (.bool (decide (i < (4294967296:UInt64)))) (AK rfl rfl fun _ => bin_lss_u64 i (4294967296:UInt64)) rfl ?_
 refine AA _ (AD rfl) rfl ?_
 rcases Bool.eq_false_or_eq_true (decide (i < (4294967296:UInt64))) with hb1 | hb1
 ·
  have hp1 : i < (4294967296:UInt64) := of_decide_eq_true hb1
  refine AU 2 7 true _ _ rfl rfl hb1 (AD rfl) rfl ?_
  refine AU 2 7 true _ (.bool (decide ((1:UInt64) ≤ e))) rfl rfl hb1 (AK rfl rfl fun _ => EQ e (1:UInt64)) rfl ?_
  refine AA _ (CG _ rfl hb1 rfl) rfl ?_
  refine AA _ (AD rfl) rfl ?_
  rcases Bool.eq_false_or_eq_true (decide ((1:UInt64) ≤ e)) with hb2 | hb2
  ·
   have hp2 : (1:UInt64) ≤ e := of_decide_eq_true hb2
   refine AU 6 11 true _ _ rfl rfl hb2 (AD rfl) rfl ?_
   refine AU 6 11 true _ (.bool (decide (e < (18446744073709551615:UInt64)))) rfl rfl hb2 (AK rfl rfl fun _ => bin_lss_u64 e (18446744073709551615:UInt64)) rfl ?_
   refine AA _ (CG _ rfl hb2 rfl) rfl ?_
   refine AA _ (AF rfl) rfl ?_
   refine AI (AE (BG (BI (.bool (decide (e < (18446744073709551615:UInt64)))) (res1 Tryd.results133 (BK rfl)) fun w1 hw1 => ?_)))
   refine ⟨_, [], rfl, ⟨congrArg Value.bool ?_, rfl⟩, hw1.sub (by simp) (by simp)⟩
   unfold RightB
   simp [*]
  ·
   have hp2 : ¬ ((1:UInt64) ≤ e) := of_decide_eq_false hb2
   refine AS 6 11 true _ rfl rfl hb2 rfl ?_
   refine AS 6 11 true _ rfl rfl hb2 rfl ?_
   refine AA _ (BX _ rfl hb2 rfl) rfl ?_
   refine AA _ (AF rfl) rfl ?_
   refine AI (AE (BG (BI (.bool false) (res1 Tryd.results133 (BK rfl)) fun w1 hw1 => ?_)))
   refine ⟨_, [], rfl, ⟨congrArg Value.bool ?_, rfl⟩, hw1.sub (by simp) (by simp)⟩
   unfold RightB
   simp [*]
 ·
  have hp1 : ¬ (i < (4294967296:UInt64)) := of_decide_eq_false hb1
  refine AS 2 7 true _ rfl rfl hb1 rfl ?_
  refine AS 2 7 true _ rfl rfl hb1 rfl ?_
  refine AA _ (BX _ rfl hb1 rfl) rfl ?_
  refine AA _ (AD rfl) rfl ?_
  refine AS 6 11 true _ rfl rfl rfl rfl ?_
  refine AS 6 11 true _ rfl rfl rfl rfl ?_
  refine AA _ (BX _ rfl rfl rfl) rfl ?_
  refine AA _ (AF rfl) rfl ?_
  refine AI (AE (BG (BI (.bool false) (res1 Tryd.results133 (BK rfl)) fun w1 hw1 => ?_)))
  refine ⟨_, [], rfl, ⟨congrArg Value.bool ?_, rfl⟩, hw1.sub (by simp) (by simp)⟩
  unfold RightB
  simp [*]
theorem rright_c (i e : UInt64) (w : World) : Calls Tryd.prog 111 #[U64 i, U64 e] w (Post w [] (fun v L => v = .bool (RightB i e) ∧ L = [])) := by
 refine enter w [] 15 [] [U64 i, U64 e] Tryd.func111 rfl rfl (by simp) (BL (by simp) (by simp) (by simp)) ?_
 show JC _ _ _ [(0, U64 i), (1, U64 e)] _
 refine AG (AC (AA _ (AF rfl) rfl ?_))
 refine AI (AE (AG (AC (AA _ (AD rfl) rfl ?_))))
 refine AA (.bool (decide (i ≤ (4294967295:UInt64)))) (AK rfl rfl fun _ => bin_leq_u64 i (4294967295:UInt64)) rfl ?_
 refine AA _ (AD rfl) rfl ?_
 rcases Bool.eq_false_or_eq_true (decide (i ≤ (4294967295:UInt64))) with hb1 | hb1
 ·
  have hp1 : i ≤ (4294967295:UInt64) := of_decide_eq_true hb1
  refine AU 2 7 true _ _ rfl rfl hb1 (AD rfl) rfl ?_
  refine AU 2 7 true _ (.bool (decide (e ≠ (0:UInt64)))) rfl rfl hb1 (AK rfl rfl fun _ => EP e (0:UInt64)) rfl ?_
  refine AA _ (CG _ rfl hb1 rfl) rfl ?_
  refine AA _ (AD rfl) rfl ?_
  rcases Bool.eq_false_or_eq_true (decide (e ≠ (0:UInt64))) with hb2 | hb2
  ·
   have hp2 : e ≠ (0:UInt64) := of_decide_eq_true hb2
   refine AU 6 11 true _ _ rfl rfl hb2 (AD rfl) rfl ?_
   refine AU 6 11 true _ (.bool (decide (e ≠ (18446744073709551615:UInt64)))) rfl rfl hb2 (AK rfl rfl fun _ => EP e (18446744073709551615:UInt64)) rfl ?_
   refine AA _ (CG _ rfl hb2 rfl) rfl ?_
   refine AA _ (AF rfl) rfl ?_
   refine AI (AE (BG (BI (.bool (decide (e ≠ (18446744073709551615:UInt64)))) (res1 Tryd.results111 (BK rfl)) fun w1 hw1 => ?_)))
   refine ⟨_, [], rfl, ⟨congrArg Value.bool ?_, rfl⟩, hw1.sub (by simp) (by simp)⟩
   rw [RightB_ref]
   simp [*]
  ·
   have hp2 : ¬ (e ≠ (0:UInt64)) := of_decide_eq_false hb2
   refine AS 6 11 true _ rfl rfl hb2 rfl ?_
   refine AS 6 11 true _ rfl rfl hb2 rfl ?_
   refine AA _ (BX _ rfl hb2 rfl) rfl ?_
   refine AA _ (AF rfl) rfl ?_
   refine AI (AE (BG (BI (.bool false) (res1 Tryd.results111 (BK rfl)) fun w1 hw1 => ?_)))
   refine ⟨_, [], rfl, ⟨congrArg Value.bool ?_, rfl⟩, hw1.sub (by simp) (by simp)⟩
   rw [RightB_ref]
   simp [*]
 ·
  have hp1 : ¬ (i ≤ (4294967295:UInt64)) := of_decide_eq_false hb1
  refine AS 2 7 true _ rfl rfl hb1 rfl ?_
  refine AS 2 7 true _ rfl rfl hb1 rfl ?_
  refine AA _ (BX _ rfl hb1 rfl) rfl ?_
  refine AA _ (AD rfl) rfl ?_
  refine AS 6 11 true _ rfl rfl rfl rfl ?_
  refine AS 6 11 true _ rfl rfl rfl rfl ?_
  refine AA _ (BX _ rfl rfl rfl) rfl ?_
  refine AA _ (AF rfl) rfl ?_
  refine AI (AE (BG (BI (.bool false) (res1 Tryd.results111 (BK rfl)) fun w1 hw1 => ?_)))
  refine ⟨_, [], rfl, ⟨congrArg Value.bool ?_, rfl⟩, hw1.sub (by simp) (by simp)⟩
  rw [RightB_ref]
  simp [*]
theorem odd_c (ob : Nat) (kd : Int) (ai : Option Addr) (ni ci : Nat) (l : List UInt64) (sa : Option Addr) (ns sc : Nat) (ls : List SealR) (bl : UInt64) (e : UInt64) (d t : List UInt8)  (w : World) (hd : d.length = 32) (ht : t.length = 16) (hpos : 0 < ns) (hls : ls.length = ns) (hnn : ns ≤ 2000000) (hnd : ns ≤ sc) (hcn : sc ≤ maxLen) (hs : RdV w sa (ls.flatMap sealC)) (hO : RdA w ob 0 [I64 (kd), .slice ai ni ci, .slice sa ns sc, U64 bl])  : Calls Tryd.prog 132 #[.agg (List.toArray (α := Value) ([U64 e] ++ cu8 d ++ cu8 t)), Ptr ob 0] w (Post w [] (fun v L => v = .bool (oddB (headE ls) e) ∧ L = [])) := by
 have hmx : maxLen = 9223372036854775807 := rfl
 refine enter (P := Tryd.prog) (f := 132) (fn := Tryd.f132) w [] 18 [] [.agg (List.toArray (α := Value) ([U64 e] ++ cu8 d ++ cu8 t)), Ptr ob 0] Tryd.func132 rfl rfl (by simp) (BL (by simp) (by simp) (by simp)) ?_
 show JC _ _ _ [(0, .agg (List.toArray (α := Value) ([U64 e] ++ cu8 d ++ cu8 t))), (1, Ptr ob 0)] _
 refine AG (AC (AN (CM (.agg (List.toArray (α := Value) ([U64 e] ++ cu8 d ++ cu8 t))) ([U64 e] ++ cu8 d ++ cu8 t) rfl (by first | rfl | simp)) rfl ?_))
 rintro v1 L1 ⟨nb1, hnb1, rfl, rfl⟩
 show JL _ _ _ _ ((2, Ptr nb1 0) :: _) [⟨nb1, [U64 e] ++ cu8 d ++ cu8 t, 161, (0, 0)⟩]
 refine AA _ (AF rfl) rfl ?_
 refine AI (AE (AG ?_))
 rcases Bool.eq_false_or_eq_true (RightB (0:UInt64) e) with hb1 | hb1
 ·
  refine C3 18 2 [(0, Ptr nb1 0), (1, U64 e)] BQ rfl (by decide +kernel) ?_
  refine BT ⟨[], [0, 1], [], [0, 1], [2]⟩ 2 _ rfl rfl (by decide +kernel) rfl ⟨⟨_, rfl, AB rfl (AJ 0 22 1 DK rfl A6 rfl rfl)⟩, ⟨_, rfl, AB rfl (AL rfl (AZ BC (MemAt.ent 0 rfl (BV (BV (Seg.head))))))⟩, trivial⟩ rfl (A1 rfl (AT 133 [U64 (0:UInt64), U64 e] (.bool (RightB (0:UInt64) e)) (AW [U64 (0:UInt64), U64 e] Tryd.call133 rfl) (fun w1 hw1 => right_c (0:UInt64) e w1 ))) ?_
  rintro v1 L1 ⟨rfl, rfl⟩
  obtain ⟨x1, hx1⟩ : ∃ x, ls[0]? = some x := ⟨_, List.getElem?_eq_getElem (by rw [hls]; omega)⟩
  obtain ⟨bz1, oz1, hz1, hm1⟩ := rows_at EK (by decide) hs hx1
  refine ⟨[(3, .bool (!(RightB (0:UInt64) e))), (4, .bool (!(RightB (0:UInt64) e))), (5, Ptr nb1 0), (6, U64 e), (7, Ptr ob 2), (8, .slice sa ns sc), (9, Ptr bz1 oz1), (10, Ptr bz1 oz1), (11, U64 x1.e), (12, .bool (decide (e ≠ x1.e))), (13, .bool (decide (e ≠ x1.e))), (14, .bool (decide (e ≠ x1.e)))], ?_⟩
  show DP _ _ _ _ _ _ _ _ [_]
  refine DG ⟨[2], [0, 1, 3, 4, 5, 6, 7, 8, 9, 10, 11, 12, 13, 14], [0, 1], [3, 4, 5, 6, 7, 8, 9, 10, 11, 12, 13, 14], []⟩ rfl rfl (by decide +kernel) rfl ⟨⟨_, rfl, AB rfl (ER rfl)⟩, ⟨_, rfl, AB rfl (AD rfl)⟩, ⟨_, rfl, BW 4 8 false _ rfl rfl rfl (by rw [show (RightB (0:UInt64) e) = true from hb1] <;> rfl) (AJ 0 22 1 DK rfl A6 rfl rfl)⟩, ⟨_, rfl, BW 4 8 false _ rfl rfl rfl (by rw [show (RightB (0:UInt64) e) = true from hb1] <;> rfl) (AL rfl (AZ BC (MemAt.ent 0 rfl (BV (BV (Seg.head))))))⟩, ⟨_, rfl, BW 4 8 false _ rfl rfl rfl (by rw [show (RightB (0:UInt64) e) = true from hb1] <;> rfl) (AJ 2 24 1 AO rfl DC rfl rfl)⟩, ⟨_, rfl, BW 4 8 false _ rfl rfl rfl (by rw [show (RightB (0:UInt64) e) = true from hb1] <;> rfl) (AL rfl (AZ DQ (CA (hO.mem (by simp)) (AR (AR (Seg.head))) (by omega))))⟩, ⟨_, rfl, BW 4 8 false _ rfl rfl rfl (by rw [show (RightB (0:UInt64) e) = true from hb1] <;> rfl) (CF 161 49 oz1 B4 CE rfl hz1 rfl (by omega) (by omega) (by omega))⟩, ⟨_, rfl, BW 4 8 false _ rfl rfl rfl (by rw [show (RightB (0:UInt64) e) = true from hb1] <;> rfl) (AJ 0 22 1 DK rfl A6 rfl rfl)⟩, ⟨_, rfl, BW 4 8 false _ rfl rfl rfl (by rw [show (RightB (0:UInt64) e) = true from hb1] <;> rfl) (AL rfl (AZ BC (CA (hm1.mem (by simp)) (BV (BV (Seg.head))) (by omega))))⟩, ⟨_, rfl, BW 4 8 false _ rfl rfl rfl (by rw [show (RightB (0:UInt64) e) = true from hb1] <;> rfl) (AK rfl rfl fun _ => EP e x1.e)⟩, ⟨_, rfl, AB rfl (BX _ rfl (by rw [show (RightB (0:UInt64) e) = true from hb1] <;> rfl) rfl)⟩, ⟨_, rfl, AB rfl (AF rfl)⟩, trivial⟩ ?_
  refine CZ (F' := [(3, .bool (decide (e ≠ x1.e)))]) (by kernel_rfl) ?_
  refine AE (BG (BI (.bool (decide (e ≠ x1.e))) (res1 Tryd.results132 (BK rfl)) fun w1 hw1 => ?_))
  refine ⟨_, [], rfl, ⟨congrArg Value.bool ?_, rfl⟩, hw1.sub (by simp) (by simp)⟩
  first | (simp [oddB, *]; done) | (rw [headE_of hx1]; simp [oddB, *]; done)
 ·
  refine C3 18 2 [(0, Ptr nb1 0), (1, U64 e)] BQ rfl (by decide +kernel) ?_
  refine BT ⟨[], [0, 1], [], [0, 1], [2]⟩ 2 _ rfl rfl (by decide +kernel) rfl ⟨⟨_, rfl, AB rfl (AJ 0 22 1 DK rfl A6 rfl rfl)⟩, ⟨_, rfl, AB rfl (AL rfl (AZ BC (MemAt.ent 0 rfl (BV (BV (Seg.head))))))⟩, trivial⟩ rfl (A1 rfl (AT 133 [U64 (0:UInt64), U64 e] (.bool (RightB (0:UInt64) e)) (AW [U64 (0:UInt64), U64 e] Tryd.call133 rfl) (fun w1 hw1 => right_c (0:UInt64) e w1 ))) ?_
  rintro v1 L1 ⟨rfl, rfl⟩
  refine ⟨[(3, .bool (!(RightB (0:UInt64) e))), (4, .bool (!(RightB (0:UInt64) e))), (5, undef), (6, undef), (7, undef), (8, undef), (9, undef), (10, undef), (11, undef), (12, undef), (13, .bool true), (14, .bool true)], ?_⟩
  show DP _ _ _ _ _ _ _ _ [_]
  refine DG ⟨[2], [0, 1, 3, 4, 5, 6, 7, 8, 9, 10, 11, 12, 13, 14], [0, 1], [3, 4, 5, 6, 7, 8, 9, 10, 11, 12, 13, 14], []⟩ rfl rfl (by decide +kernel) rfl ⟨⟨_, rfl, AB rfl (ER rfl)⟩, ⟨_, rfl, AB rfl (AD rfl)⟩, ⟨_, rfl, CS 4 8 false _ rfl rfl rfl (by rw [show (RightB (0:UInt64) e) = false from hb1] <;> rfl)⟩, ⟨_, rfl, CS 4 8 false _ rfl rfl rfl (by rw [show (RightB (0:UInt64) e) = false from hb1] <;> rfl)⟩, ⟨_, rfl, CS 4 8 false _ rfl rfl rfl (by rw [show (RightB (0:UInt64) e) = false from hb1] <;> rfl)⟩, ⟨_, rfl, CS 4 8 false _ rfl rfl rfl (by rw [show (RightB (0:UInt64) e) = false from hb1] <;> rfl)⟩, ⟨_, rfl, CS 4 8 false _ rfl rfl rfl (by rw [show (RightB (0:UInt64) e) = false from hb1] <;> rfl)⟩, ⟨_, rfl, CS 4 8 false _ rfl rfl rfl (by rw [show (RightB (0:UInt64) e) = false from hb1] <;> rfl)⟩, ⟨_, rfl, CS 4 8 false _ rfl rfl rfl (by rw [show (RightB (0:UInt64) e) = false from hb1] <;> rfl)⟩, ⟨_, rfl, CS 4 8 false _ rfl rfl rfl (by rw [show (RightB (0:UInt64) e) = false from hb1] <;> rfl)⟩, ⟨_, rfl, AB rfl (CG _ rfl (by rw [show (RightB (0:UInt64) e) = false from hb1] <;> rfl) rfl)⟩, ⟨_, rfl, AB rfl (AF rfl)⟩, trivial⟩ ?_
  refine CZ (F' := [(3, .bool true)]) (by kernel_rfl) ?_
  refine AE (BG (BI (.bool true) (res1 Tryd.results132 (BK rfl)) fun w1 hw1 => ?_))
  refine ⟨_, [], rfl, ⟨congrArg Value.bool ?_, rfl⟩, hw1.sub (by simp) (by simp)⟩
  first | (simp [oddB, *]; done) | (rw [headE_of hx1]; simp [oddB, *]; done)
theorem ixOdd_c (ob : Nat) (kd : Int) (ai : Option Addr) (ni ci : Nat) (l : List UInt64) (sa : Option Addr) (ns sc : Nat) (ls : List SealR) (bl : UInt64)  (w : World) (hls : ls.length = ns) (hnn : ns ≤ 2000000) (hnd : ns ≤ sc) (hcn : sc ≤ maxLen) (hs : RdV w sa (ls.flatMap sealC)) (hO : RdA w ob 0 [I64 (kd), .slice ai ni ci, .slice sa ns sc, U64 bl])  : Calls Tryd.prog 158 #[.slice sa ns sc, .func (.func 132) #[] #[Ptr ob 0]] w (Post w [] (fun v L => v = I64 (findIx (fun x => oddB (headE ls) (SealR.e x)) ls) ∧ L = [])) := by
 have hmx : maxLen = 9223372036854775807 := rfl
 refine enter w [] 19 [] [.slice sa ns sc, .func (.func 132) #[] #[Ptr ob 0]] Tryd.func158 rfl rfl (by simp) (BL (by simp) (by simp) (by simp)) ?_
 show JC _ _ _ [(0, .slice sa ns sc), (1, .func (.func 132) #[] #[Ptr ob 0])] _
 refine AG (AC (AA _ (AF rfl) rfl ?_))
 refine AI (AE (AG (AG (AC (AA _ (AD rfl) rfl ?_)))))
 refine AA (I64 ((ns:Int))) (DJ B4 rfl) rfl ?_
 refine AA _ (AD rfl) rfl ?_
 refine AI (AE (BH (DN (ι := Nat) (fun i => [(0, .slice sa ns sc), (1, .func (.func 132) #[] #[Ptr ob 0]), (7, I64 ((ns:Int))), (8, I64 ((i:Int)))]) (fun i => []) (fun i => i ≤ ns ∧ ∀ k, k < i → ∀ y, ls[k]? = some y → (fun x => oddB (headE ls) (SealR.e x)) y = false) (fun i => ns - i) 0 ⟨by omega, fun k hk => absurd hk (by omega)⟩ (AH rfl (AH rfl (AH rfl (AH rfl (Sub.nil))))) rfl ?_)))
 rintro i ⟨hi1, hi2⟩
 show JC _ _ _ [(0, .slice sa ns sc), (1, .func (.func 132) #[] #[Ptr ob 0]), (7, I64 ((ns:Int))), (8, I64 ((i:Int)))] []
 refine AG (AC (AA (.bool (decide (((i:Int)) < ((ns:Int))))) (AK rfl rfl fun _ => CP _ _) rfl ?_))
 refine AI (AE (AG (CN (decide (((i:Int)) < ((ns:Int)))) rfl (fun hb1 => ?_) (fun hb1 => ?_))))
 ·
  have hp1 : ((i:Int)) < ((ns:Int)) := of_decide_eq_true hb1
  refine BE (AE (AG (BH (AG (AC (AA _ (AD rfl) rfl ?_))))))
  refine AA _ (AF rfl) rfl ?_
  refine AI (AE (AG (AC (AA _ (AD rfl) rfl ?_))))
  refine AA _ (AD rfl) rfl ?_
  refine AA _ (AD rfl) rfl ?_
  obtain ⟨x1, hx1⟩ : ∃ x, ls[i]? = some x := ⟨_, List.getElem?_eq_getElem (by rw [hls]; omega)⟩
  obtain ⟨bz1, oz1, hz1, hm1⟩ := rows_at EK (by decide) hs hx1
  refine AA (Ptr bz1 (49*i + oz1)) (CF 161 49 (49*i + oz1) B4 CE rfl hz1 rfl (by omega) (by omega) (by omega)) rfl ?_
  refine AA (.agg (List.toArray (α := Value) ([U64 x1.e] ++ cu8 x1.d ++ cu8 x1.t))) (AL rfl (BO D3 CE (by simp [x1.hd, x1.ht]) (CA (hm1.mem (by simp)) (AM _) (by omega)))) rfl ?_
  refine AN (AT 132 [.agg (List.toArray (α := Value) ([U64 x1.e] ++ cu8 x1.d ++ cu8 x1.t)), Ptr ob 0] (.bool (oddB (headE ls) x1.e)) (Cl_clo [.agg (List.toArray (α := Value) ([U64 x1.e] ++ cu8 x1.d ++ cu8 x1.t))] [Ptr ob 0] Tryd.call132 rfl rfl) (fun w1 hw1 => odd_c ob kd ai ni ci l sa ns sc ls bl x1.e x1.d x1.t w1 x1.hd x1.ht (by omega) hls hnn hnd hcn (DD hw1 rfl hs) (RdA_at hw1 hO (by simp) (by simp)))) rfl ?_
  rintro v1 L1 ⟨rfl, rfl⟩
  show JL _ _ _ _ ((16, .bool (oddB (headE ls) x1.e)) :: _) []
  refine AI (AE (CN (oddB (headE ls) x1.e) rfl (fun hb2 => ?_) (fun hb2 => ?_)))
  ·
   refine AG (AC (AA _ (AD rfl) rfl ?_))
   refine AA _ (AF rfl) rfl ?_
   refine AI (AE (BG (C0 (A0 (A0 (C0 (A0 (BI (I64 ((i:Int))) (res1 Tryd.results158 (BK rfl)) fun w1 hw1 => ?_))))))))
   have e1 : findIx (fun x => oddB (headE ls) (SealR.e x)) ls = i := findIx_at hx1 (by assumption) hi2
   exact ⟨_, [], rfl, ⟨by rw [e1], rfl⟩, hw1.sub (by simp) (by simp)⟩
  ·
   refine BE (BA (AE (AC (AA (I64 ((i:Int) + 1)) (AK rfl rfl fun _ => CH _ _ ((i:Int) + 1) (by omega) (by omega)) rfl ?_))))
   refine AA _ (AD rfl) rfl ?_
   refine AI (CR (DT (i + 1) ⟨by omega, find_step hx1 (by assumption) hi2⟩ (by first | (simp; omega) | simp | (dsimp only; omega) | omega) (AH rfl (AH rfl (AH rfl (AH rfl (Sub.nil))))) rfl))
 ·
  have hp1 : ¬ (((i:Int)) < ((ns:Int))) := of_decide_eq_false hb1
  refine DL (AX (AX (CC (AE (AG (AC (AA _ (AF rfl) rfl ?_)))))))
  refine AI (AE (BG (BI (I64 (-1:Int)) (res1 Tryd.results158 (BK rfl)) fun w1 hw1 => ?_)))
  have e1 : findIx (fun x => oddB (headE ls) (SealR.e x)) ls = -1 := findIx_no (by rw [hls]; intro k hk; exact hi2 k (by omega))
  exact ⟨_, [], rfl, ⟨by rw [e1], rfl⟩, hw1.sub (by simp) (by simp)⟩
theorem cfOdd_c (ob : Nat) (kd : Int) (ai : Option Addr) (ni ci : Nat) (l : List UInt64) (sa : Option Addr) (ns sc : Nat) (ls : List SealR) (bl : UInt64)  (w : World) (hls : ls.length = ns) (hnn : ns ≤ 2000000) (hnd : ns ≤ sc) (hcn : sc ≤ maxLen) (hs : RdV w sa (ls.flatMap sealC)) (hO : RdA w ob 0 [I64 (kd), .slice ai ni ci, .slice sa ns sc, U64 bl])  : Calls Tryd.prog 134 #[.slice sa ns sc, .func (.func 132) #[] #[Ptr ob 0]] w (Post w [] (fun v L => v = .bool (ls.any (fun x => oddB (headE ls) (SealR.e x))) ∧ L = [])) := by
 refine enter w [] 9 [] [.slice sa ns sc, .func (.func 132) #[] #[Ptr ob 0]] Tryd.func134 rfl rfl (by simp) (BL (by simp) (by simp) (by simp)) ?_
 show JC _ _ _ [(0, .slice sa ns sc), (1, .func (.func 132) #[] #[Ptr ob 0])] _
 refine AG (AC (AA _ (AF rfl) rfl ?_))
 refine AI (AE (AG (AC (AA _ (AD rfl) rfl ?_))))
 refine AA _ (AD rfl) rfl ?_
 refine AN (AT 158 [.slice sa ns sc, .func (.func 132) #[] #[Ptr ob 0]] (I64 ((findIx (fun x => oddB (headE ls) (SealR.e x)) ls))) (AW [.slice sa ns sc, .func (.func 132) #[] #[Ptr ob 0]] Tryd.call158 rfl) (fun w1 hw1 => ixOdd_c ob kd ai ni ci l sa ns sc ls bl w1 hls hnn hnd hcn (DD hw1 rfl hs) (RdA_at hw1 hO (by simp) (by simp)))) rfl ?_
 rintro v1 L1 ⟨rfl, rfl⟩
 show JL _ _ _ _ ((7, I64 ((findIx (fun x => oddB (headE ls) (SealR.e x)) ls))) :: _) []
 refine AA (.bool (decide ((0:Int) ≤ ((findIx (fun x => oddB (headE ls) (SealR.e x)) ls))))) (AK rfl rfl fun _ => ET _ _) rfl ?_
 refine AA _ (AF rfl) rfl ?_
 refine AI (AE (BG (BI (.bool (decide ((0:Int) ≤ ((findIx (fun x => oddB (headE ls) (SealR.e x)) ls))))) (res1 Tryd.results134 (BK rfl)) fun w1 hw1 => ?_)))
 exact ⟨_, [], rfl, ⟨congrArg Value.bool (findIx_ge _ _), rfl⟩, hw1.sub (by simp) (by simp)⟩
theorem fits1_c (ob : Nat) (bl : UInt64) (x : UInt64)  (w : World) (hO : RdA w ob 0 [U64 bl])  : Calls Tryd.prog 136 #[U64 x, Ptr ob 0] w (Post w [] (fun v L => v = .bool (decide (bl ≤ x)) ∧ L = [])) := by
 refine enter w [] 7 [] [U64 x, Ptr ob 0] Tryd.func136 rfl rfl (by simp) (BL (by simp) (by simp) (by simp)) ?_
 show JC _ _ _ [(0, U64 x), (1, Ptr ob 0)] _
 refine AG (AC (AA _ (AF rfl) rfl ?_))
 refine AI (AE (AG (AC (AA _ (AD rfl) rfl ?_))))
 refine AA (U64 bl) (AL rfl (AZ BC (CA (hO.mem (by simp)) (Seg.head) (by omega)))) rfl ?_
 refine AA (.bool (decide (bl ≤ x))) (AK rfl rfl fun _ => EQ x bl) rfl ?_
 refine AA _ (AF rfl) rfl ?_
 refine AI (AE (BG (BI (.bool (decide (bl ≤ x))) (res1 Tryd.results136 (BK rfl)) fun w1 hw1 => ?_)))
 exact ⟨_, [], rfl, ⟨rfl, rfl⟩, hw1.sub (by simp) (by simp)⟩
theorem ixFit_c (ob : Nat) (bl : UInt64) (ai : Option Addr) (ni ci : Nat) (l : List UInt64)  (w : World) (hl : l.length = ni) (hnm : ni ≤ 2000000) (hnc : ni ≤ ci) (hcm : ci ≤ maxLen) (hv : RdV w ai (cu64 l)) (hO : RdA w ob 0 [U64 bl])  : Calls Tryd.prog 159 #[.slice ai ni ci, .func (.func 136) #[] #[Ptr ob 0]] w (Post w [] (fun v L => v = I64 (findIx (fun x => decide (bl ≤ x)) l) ∧ L = [])) := by
 have hmx : maxLen = 9223372036854775807 := rfl
 refine enter w [] 19 [] [.slice ai ni ci, .func (.func 136) #[] #[Ptr ob 0]] Tryd.func159 rfl rfl (by simp) (BL (by simp) (by simp) (by simp)) ?_
 show JC _ _ _ [(0, .slice ai ni ci), (1, .func (.func 136) #[] #[Ptr ob 0])] _
 refine AG (AC (AA _ (AF rfl) rfl ?_))
 refine AI (AE (AG (AG (AC (AA _ (AD rfl) rfl ?_)))))
 refine AA (I64 ((ni:Int))) (DJ A9 rfl) rfl ?_
 refine AA _ (AD rfl) rfl ?_
 refine AI (AE (BH (DN (ι := Nat) (fun i => [(0, .slice ai ni ci), (1, .func (.func 136) #[] #[Ptr ob 0]), (7, I64 ((ni:Int))), (8, I64 ((i:Int)))]) (fun i => []) (fun i => i ≤ ni ∧ ∀ k, k < i → ∀ y, l[k]? = some y → (fun x => decide (bl ≤ x)) y = false) (fun i => ni - i) 0 ⟨by omega, fun k hk => absurd hk (by omega)⟩ (AH rfl (AH rfl (AH rfl (AH rfl (Sub.nil))))) rfl ?_)))
 rintro i ⟨hi1, hi2⟩
 show JC _ _ _ [(0, .slice ai ni ci), (1, .func (.func 136) #[] #[Ptr ob 0]), (7, I64 ((ni:Int))), (8, I64 ((i:Int)))] []
 refine AG (AC (AA (.bool (decide (((i:Int)) < ((ni:Int))))) (AK rfl rfl fun _ => CP _ _) rfl ?_))
 refine AI (AE (AG (CN (decide (((i:Int)) < ((ni:Int)))) rfl (fun hb1 => ?_) (fun hb1 => ?_))))
 ·
  have hp1 : ((i:Int)) < ((ni:Int)) := of_decide_eq_true hb1
  refine BE (AE (AG (BH (AG (AC (AA _ (AD rfl) rfl ?_))))))
  refine AA _ (AF rfl) rfl ?_
  refine AI (AE (AG (AC (AA _ (AD rfl) rfl ?_))))
  refine AA _ (AD rfl) rfl ?_
  refine AA _ (AD rfl) rfl ?_
  obtain ⟨bz1, oz1, hz1, hm1⟩ := RdV.pos hv (by rw [EN, hl]; omega)
  refine AA (Ptr bz1 (i + oz1)) (CF 22 1 (i + oz1) A9 A6 rfl hz1 rfl (by omega) (by omega) (by omega)) rfl ?_
  refine AA (U64 (g64 l i)) (AL rfl (AZ BC (CA (hm1.mem (by simp)) (Seg.get (FK (i := i) (by rw [hl]; omega))) (by omega)))) rfl ?_
  refine AN (AT 136 [U64 (g64 l i), Ptr ob 0] (.bool (decide (bl ≤ g64 l i))) (Cl_clo [U64 (g64 l i)] [Ptr ob 0] Tryd.call136 rfl rfl) (fun w1 hw1 => fits1_c ob bl (g64 l i) w1 (RdA_at hw1 hO (by simp) (by simp)))) rfl ?_
  rintro v1 L1 ⟨rfl, rfl⟩
  show JL _ _ _ _ ((16, .bool (decide (bl ≤ g64 l i))) :: _) []
  refine AI (AE (CN (decide (bl ≤ g64 l i)) rfl (fun hb2 => ?_) (fun hb2 => ?_)))
  ·
   have hp2 : bl ≤ g64 l i := of_decide_eq_true hb2
   refine AG (AC (AA _ (AD rfl) rfl ?_))
   refine AA _ (AF rfl) rfl ?_
   refine AI (AE (BG (C0 (A0 (A0 (C0 (A0 (BI (I64 ((i:Int))) (res1 Tryd.results159 (BK rfl)) fun w1 hw1 => ?_))))))))
   have e1 : findIx (fun x => decide (bl ≤ x)) l = i := findIx_at (g64_at (by omega)) (by assumption) hi2
   exact ⟨_, [], rfl, ⟨by rw [e1], rfl⟩, hw1.sub (by simp) (by simp)⟩
  ·
   have hp2 : ¬ (bl ≤ g64 l i) := of_decide_eq_false hb2
   refine BE (BA (AE (AC (AA (I64 ((i:Int) + 1)) (AK rfl rfl fun _ => CH _ _ ((i:Int) + 1) (by omega) (by omega)) rfl ?_))))
   refine AA _ (AD rfl) rfl ?_
   refine AI (CR (DT (i + 1) ⟨by omega, find_step (g64_at (by omega)) (by assumption) hi2⟩ (by first | (simp; omega) | simp | (dsimp only; omega) | omega) (AH rfl (AH rfl (AH rfl (AH rfl (Sub.nil))))) rfl))
 ·
  have hp1 : ¬ (((i:Int)) < ((ni:Int))) := of_decide_eq_false hb1
  refine DL (AX (AX (CC (AE (AG (AC (AA _ (AF rfl) rfl ?_)))))))
  refine AI (AE (BG (BI (I64 (-1:Int)) (res1 Tryd.results159 (BK rfl)) fun w1 hw1 => ?_)))
  have e1 : findIx (fun x => decide (bl ≤ x)) l = -1 := findIx_no (by rw [hl]; intro k hk; exact hi2 k (by omega))
  exact ⟨_, [], rfl, ⟨by rw [e1], rfl⟩, hw1.sub (by simp) (by simp)⟩
theorem cfFit_c (ob : Nat) (bl : UInt64) (ai : Option Addr) (ni ci : Nat) (l : List UInt64)  (w : World) (hl : l.length = ni) (hnm : ni ≤ 2000000) (hnc : ni ≤ ci) (hcm : ci ≤ maxLen) (hv : RdV w ai (cu64 l)) (hO : RdA w ob 0 [U64 bl])  : Calls Tryd.prog 135 #[.slice ai ni ci, .func (.func 136) #[] #[Ptr ob 0]] w (Post w [] (fun v L => v = .bool (l.any (fun x => decide (bl ≤ x))) ∧ L = [])) := by
 refine enter w [] 9 [] [.slice ai ni ci, .func (.func 136) #[] #[Ptr ob 0]] Tryd.func135 rfl rfl (by simp) (BL (by simp) (by simp) (by simp)) ?_
 show JC _ _ _ [(0, .slice ai ni ci), (1, .func (.func 136) #[] #[Ptr ob 0])] _
 refine AG (AC (AA _ (AF rfl) rfl ?_))
 refine AI (AE (AG (AC (AA _ (AD rfl) rfl ?_))))
 refine AA _ (AD rfl) rfl ?_
 refine AN (AT 159 [.slice ai ni ci, .func (.func 136) #[] #[Ptr ob 0]] (I64 ((findIx (fun x => decide (bl ≤ x)) l))) (AW [.slice ai ni ci, .func (.func 136) #[] #[Ptr ob 0]] Tryd.call159 rfl) (fun w1 hw1 => ixFit_c ob bl ai ni ci l w1 hl hnm hnc hcm (DD hw1 rfl hv) (RdA_at hw1 hO (by simp) (by simp)))) rfl ?_
 rintro v1 L1 ⟨rfl, rfl⟩
 show JL _ _ _ _ ((7, I64 ((findIx (fun x => decide (bl ≤ x)) l))) :: _) []
 refine AA (.bool (decide ((0:Int) ≤ ((findIx (fun x => decide (bl ≤ x)) l))))) (AK rfl rfl fun _ => ET _ _) rfl ?_
 refine AA _ (AF rfl) rfl ?_
 refine AI (AE (BG (BI (.bool (decide ((0:Int) ≤ ((findIx (fun x => decide (bl ≤ x)) l))))) (res1 Tryd.results135 (BK rfl)) fun w1 hw1 => ?_)))
 exact ⟨_, [], rfl, ⟨congrArg Value.bool (findIx_ge _ _), rfl⟩, hw1.sub (by simp) (by simp)⟩
end Go.Proofs.YtkdpdgpphpngeaaDoor
namespace Go.Proofs.YtkdpdgpphpngeaaDoor
open Go Go.Sx
set_option linter.unusedVariables false
set_option linter.unusedSimpArgs false
set_option maxRecDepth 100000
attribute [local irreducible] mid zr8 zr32 numK rnK rotr wordL spreadL comprL cpN adN spN wrdN constL initL padL stN outN routN sumG putL leafT joinT empL empA empR RightB oddB
theorem FJ (kd : Int) (ai : Option Addr) (ni ci : Nat) (l : List UInt64) (sa : Option Addr) (ns sc : Nat) (ls : List SealR) (bl : UInt64)  (w : World) (hl : l.length = ni) (hnm : ni ≤ 2000000) (hnc : ni ≤ ci) (hcm : ci ≤ maxLen) (hv : RdV w ai (cu64 l)) (hls : ls.length = ns) (hnn : ns ≤ 2000000) (hnd : ns ≤ sc) (hcn : sc ≤ maxLen) (hs : RdV w sa (ls.flatMap sealC))  : Calls Tryd.prog 69 #[.agg (List.toArray (α := Value) ([I64 (kd), .slice ai ni ci, .slice sa ns sc, U64 bl]))] w (Post w [] (fun v L => v = .bool (RightO kd l ls bl) ∧ L = [])) := by
 have hmx : maxLen = 9223372036854775807 := rfl
 refine enter (P := Tryd.prog) (f := 69) (fn := Tryd.f69) w [] 69 [] [.agg (List.toArray (α := Value) ([I64 (kd), .slice ai ni ci, .slice sa ns sc, U64 bl]))] Tryd.func69 rfl rfl (by simp) (BL (by simp) (by simp) (by simp)) ?_
 show JC _ _ _ [(0, .agg (List.toArray (α := Value) ([I64 (kd), .slice ai ni ci, .slice sa ns sc, U64 bl])))] _
 refine AG (AC (AN (CM (.agg (List.toArray (α := Value) ([I64 (kd), .slice ai ni ci, .slice sa ns sc, U64 bl]))) ([I64 (kd), .slice ai ni ci, .slice sa ns sc, U64 bl]) rfl (by first | rfl | simp)) rfl ?_))
 rintro v1 L1 ⟨nb1, hnb1, rfl, rfl⟩
 show JL _ _ _ _ ((1, Ptr nb1 0) :: _) [⟨nb1, [I64 (kd), .slice ai ni ci, .slice sa ns sc, U64 bl], 26, (0, 0)⟩]
 refine AA _ (AF rfl) rfl ?_
 refine AI (AE (AG (AC (AA (.func (.func 132) #[] #[Ptr nb1 0]) (Ev_makeFunc (vs := [Ptr nb1 0]) rfl (fun _ _ => rfl)) rfl ?_))))
 refine AA _ (AF rfl) rfl ?_
 refine AI (AE (AG (AG (AC (AA (Ptr nb1 0) (AJ 0 3 1 AO rfl B3 rfl rfl) rfl ?_)))))
 refine AA (I64 (kd)) (AL rfl (AZ B7 (MemAt.ent 0 rfl (Seg.head)))) rfl ?_
 refine AI (AE (BH (AG (AC (AA (.bool (decide ((kd) = (1:Int)))) (AK rfl rfl fun _ => CU _ _) rfl ?_)))))
 refine AA _ (AF rfl) rfl ?_
 refine AI (AE (CN (decide ((kd) = (1:Int))) rfl (fun hb1 => ?_) (fun hb1 => ?_)))
 ·
  have hp1 : (kd) = (1:Int) := of_decide_eq_true hb1
  refine AG (AC (AA (Ptr nb1 3) (AJ 3 22 1 AO rfl A6 rfl rfl) rfl ?_))
  refine AA (U64 bl) (AL rfl (AZ BC (MemAt.ent 0 rfl (AR (AR (AR (Seg.head))))))) rfl ?_
  refine AA (.bool (decide (bl = (0:UInt64)))) (AK rfl rfl fun _ => bin_eql_u64 bl (0:UInt64)) rfl ?_
  refine AA _ (AD rfl) rfl ?_
  rcases Bool.eq_false_or_eq_true (decide (bl = (0:UInt64))) with hb2 | hb2
  ·
   have hp2 : bl = (0:UInt64) := of_decide_eq_true hb2
   refine AU 3 12 true _ (Ptr nb1 1) rfl rfl hb2 (AJ 1 23 1 AO rfl CL rfl rfl) rfl ?_
   refine AU 3 12 true _ (.slice ai ni ci) rfl rfl hb2 (AL rfl (AZ CW (MemAt.ent 0 rfl (AR (Seg.head))))) rfl ?_
   refine FL 3 12 true _ rfl rfl hb2 (AT 85 [I64 (32:Int), .slice ai ni ci] (.bool (decide (RightI l))) (AW [I64 (32:Int), .slice ai ni ci] Tryd.call85 rfl) (fun w1 hw1 => pright_c ai ni ci l w1 hl (by omega) (by omega) (by omega) (DD hw1 rfl hv))) rfl ?_
   rintro v1 L1 ⟨rfl, rfl⟩
   show JL _ _ _ _ ((15, .bool (decide (RightI l))) :: _) [_]
   refine AA _ (CG _ rfl hb2 rfl) rfl ?_
   refine AA _ (AD rfl) rfl ?_
   rcases Bool.eq_false_or_eq_true (decide (RightI l)) with hb3 | hb3
   ·
    have hp3 : RightI l := of_decide_eq_true hb3
    refine AU 8 17 true _ (Ptr nb1 2) rfl rfl hb3 (AJ 2 24 1 AO rfl DC rfl rfl) rfl ?_
    refine AU 8 17 true _ (.slice sa ns sc) rfl rfl hb3 (AL rfl (AZ DQ (MemAt.ent 0 rfl (AR (AR (Seg.head)))))) rfl ?_
    refine AU 8 17 true _ (I64 ((ns:Int))) rfl rfl hb3 (DJ B4 rfl) rfl ?_
    refine AU 8 17 true _ (Ptr nb1 1) rfl rfl hb3 (AJ 1 23 1 AO rfl CL rfl rfl) rfl ?_
    refine AU 8 17 true _ (.slice ai ni ci) rfl rfl hb3 (AL rfl (AZ CW (MemAt.ent 0 rfl (AR (Seg.head))))) rfl ?_
    refine AU 8 17 true _ (I64 ((ni:Int))) rfl rfl hb3 (DJ A9 rfl) rfl ?_
    refine AU 8 17 true _ (.bool (decide (((ns:Int)) = ((ni:Int))))) rfl rfl hb3 (AK rfl rfl fun _ => CU _ _) rfl ?_
    refine AA _ (CG _ rfl hb3 rfl) rfl ?_
    refine AA _ (AD rfl) rfl ?_
    rcases Bool.eq_false_or_eq_true (decide (((ns:Int)) = ((ni:Int)))) with hb4 | hb4
    ·
     have hp4 : ((ns:Int)) = ((ni:Int)) := of_decide_eq_true hb4
     refine AU 17 26 true _ (Ptr nb1 2) rfl rfl hb4 (AJ 2 24 1 AO rfl DC rfl rfl) rfl ?_
     refine AU 17 26 true _ (.slice sa ns sc) rfl rfl hb4 (AL rfl (AZ DQ (MemAt.ent 0 rfl (AR (AR (Seg.head)))))) rfl ?_
     refine AU 17 26 true _ _ rfl rfl hb4 (AD rfl) rfl ?_
     refine FL 17 26 true _ rfl rfl hb4 (AT 134 [.slice sa ns sc, .func (.func 132) #[] #[Ptr nb1 0]] (.bool (ls.any (fun x => oddB (headE ls) (SealR.e x)))) (AW [.slice sa ns sc, .func (.func 132) #[] #[Ptr nb1 0]] Tryd.call134 rfl) (fun w1 hw1 => cfOdd_c nb1 (kd) ai ni ci l sa ns sc ls bl w1 hls (by omega) (by omega) (by omega) (DD hw1 rfl hs) (RdA.of hw1 (MemAt.ent 0 rfl (AM _)) (by simp)))) rfl ?_
     rintro v1 L1 ⟨rfl, rfl⟩
     show JL _ _ _ _ ((30, .bool (ls.any (fun x => oddB (headE ls) (SealR.e x)))) :: _) [_]
     refine AU 17 26 true _ (.bool (!(ls.any (fun x => oddB (headE ls) (SealR.e x))))) rfl rfl hb4 (ER rfl) rfl ?_
     refine AA _ (CG _ rfl hb4 rfl) rfl ?_
     refine AA _ (AF rfl) rfl ?_
     refine AI (AE (BG (C0 (A0 (B5 [false] ?_)))))
     show JQ _ _ _ _ []
     refine BI (.bool (!(ls.any (fun x => oddB (headE ls) (SealR.e x))))) (res1 EB (BK rfl)) fun w1 hw1 => ?_
     refine ⟨_, [], rfl, ⟨congrArg Value.bool ?_, rfl⟩, hw1.sub (by simp) (by simp)⟩
     unfold RightO
     rw [hl, hls]
     first | (simp [*]; done) | (simp [*]; omega)
    ·
     have hp4 : ¬ (((ns:Int)) = ((ni:Int))) := of_decide_eq_false hb4
     refine AS 17 26 true _ rfl rfl hb4 rfl ?_
     refine AS 17 26 true _ rfl rfl hb4 rfl ?_
     refine AS 17 26 true _ rfl rfl hb4 rfl ?_
     refine AS 17 26 true _ rfl rfl hb4 rfl ?_
     refine AS 17 26 true _ rfl rfl hb4 rfl ?_
     refine AA _ (BX _ rfl hb4 rfl) rfl ?_
     refine AA _ (AF rfl) rfl ?_
     refine AI (AE (BG (C0 (A0 (B5 [false] ?_)))))
     show JQ _ _ _ _ []
     refine BI (.bool false) (res1 EB (BK rfl)) fun w1 hw1 => ?_
     refine ⟨_, [], rfl, ⟨congrArg Value.bool ?_, rfl⟩, hw1.sub (by simp) (by simp)⟩
     unfold RightO
     rw [hl, hls]
     first | (simp [*]; done) | (simp [*]; omega)
   ·
    have hp3 : ¬ (RightI l) := of_decide_eq_false hb3
    refine AS 8 17 true _ rfl rfl hb3 rfl ?_
    refine AS 8 17 true _ rfl rfl hb3 rfl ?_
    refine AS 8 17 true _ rfl rfl hb3 rfl ?_
    refine AS 8 17 true _ rfl rfl hb3 rfl ?_
    refine AS 8 17 true _ rfl rfl hb3 rfl ?_
    refine AS 8 17 true _ rfl rfl hb3 rfl ?_
    refine AS 8 17 true _ rfl rfl hb3 rfl ?_
    refine AA _ (BX _ rfl hb3 rfl) rfl ?_
    refine AA _ (AD rfl) rfl ?_
    refine AS 17 26 true _ rfl rfl rfl rfl ?_
    refine AS 17 26 true _ rfl rfl rfl rfl ?_
    refine AS 17 26 true _ rfl rfl rfl rfl ?_
    refine AS 17 26 true _ rfl rfl rfl rfl ?_
    refine AS 17 26 true _ rfl rfl rfl rfl ?_
    refine AA _ (BX _ rfl rfl rfl) rfl ?_
    refine AA _ (AF rfl) rfl ?_
    refine AI (AE (BG (C0 (A0 (B5 [false] ?_)))))
    show JQ _ _ _ _ []
    refine BI (.bool false) (res1 EB (BK rfl)) fun w1 hw1 => ?_
    refine ⟨_, [], rfl, ⟨congrArg Value.bool ?_, rfl⟩, hw1.sub (by simp) (by simp)⟩
    unfold RightO
    rw [hl, hls]
    first | (simp [*]; done) | (simp [*]; omega)
  ·
   have hp2 : ¬ (bl = (0:UInt64)) := of_decide_eq_false hb2
   refine AS 3 12 true _ rfl rfl hb2 rfl ?_
   refine AS 3 12 true _ rfl rfl hb2 rfl ?_
   refine AS 3 12 true _ rfl rfl hb2 rfl ?_
   refine AA _ (BX _ rfl hb2 rfl) rfl ?_
   refine AA _ (AD rfl) rfl ?_
   refine AS 8 17 true _ rfl rfl rfl rfl ?_
   refine AS 8 17 true _ rfl rfl rfl rfl ?_
   refine AS 8 17 true _ rfl rfl rfl rfl ?_
   refine AS 8 17 true _ rfl rfl rfl rfl ?_
   refine AS 8 17 true _ rfl rfl rfl rfl ?_
   refine AS 8 17 true _ rfl rfl rfl rfl ?_
   refine AS 8 17 true _ rfl rfl rfl rfl ?_
   refine AA _ (BX _ rfl rfl rfl) rfl ?_
   refine AA _ (AD rfl) rfl ?_
   refine AS 17 26 true _ rfl rfl rfl rfl ?_
   refine AS 17 26 true _ rfl rfl rfl rfl ?_
   refine AS 17 26 true _ rfl rfl rfl rfl ?_
   refine AS 17 26 true _ rfl rfl rfl rfl ?_
   refine AS 17 26 true _ rfl rfl rfl rfl ?_
   refine AA _ (BX _ rfl rfl rfl) rfl ?_
   refine AA _ (AF rfl) rfl ?_
   refine AI (AE (BG (C0 (A0 (B5 [false] ?_)))))
   show JQ _ _ _ _ []
   refine BI (.bool false) (res1 EB (BK rfl)) fun w1 hw1 => ?_
   refine ⟨_, [], rfl, ⟨congrArg Value.bool ?_, rfl⟩, hw1.sub (by simp) (by simp)⟩
   unfold RightO
   rw [hl, hls]
   first | (simp [*]; done) | (simp [*]; omega)
 ·
  have hp1 : ¬ ((kd) = (1:Int)) := of_decide_eq_false hb1
  refine AG (AC (AA (.bool (decide ((kd) = (2:Int)))) (AK rfl rfl fun _ => CU _ _) rfl ?_))
  refine AA _ (AF rfl) rfl ?_
  refine AI (AE (CN (decide ((kd) = (2:Int))) rfl (fun hb5 => ?_) (fun hb5 => ?_)))
  ·
   have hp5 : (kd) = (2:Int) := of_decide_eq_true hb5
   refine AG (AC (AA (Ptr nb1 3) (AJ 3 22 1 AO rfl A6 rfl rfl) rfl ?_))
   refine AA (U64 bl) (AL rfl (AZ BC (MemAt.ent 0 rfl (AR (AR (AR (Seg.head))))))) rfl ?_
   refine AA (.bool (decide (bl = (0:UInt64)))) (AK rfl rfl fun _ => bin_eql_u64 bl (0:UInt64)) rfl ?_
   refine AA _ (AD rfl) rfl ?_
   rcases Bool.eq_false_or_eq_true (decide (bl = (0:UInt64))) with hb6 | hb6
   ·
    have hp6 : bl = (0:UInt64) := of_decide_eq_true hb6
    refine AU 3 38 true _ (Ptr nb1 1) rfl rfl hb6 (AJ 1 23 1 AO rfl CL rfl rfl) rfl ?_
    refine AU 3 38 true _ (.slice ai ni ci) rfl rfl hb6 (AL rfl (AZ CW (MemAt.ent 0 rfl (AR (Seg.head))))) rfl ?_
    refine FL 3 38 true _ rfl rfl hb6 (AT 85 [I64 (32:Int), .slice ai ni ci] (.bool (decide (RightI l))) (AW [I64 (32:Int), .slice ai ni ci] Tryd.call85 rfl) (fun w1 hw1 => pright_c ai ni ci l w1 hl (by omega) (by omega) (by omega) (DD hw1 rfl hv))) rfl ?_
    rintro v1 L1 ⟨rfl, rfl⟩
    show JL _ _ _ _ ((41, .bool (decide (RightI l))) :: _) [_]
    refine AA _ (CG _ rfl hb6 rfl) rfl ?_
    refine AA _ (AD rfl) rfl ?_
    rcases Bool.eq_false_or_eq_true (decide (RightI l)) with hb7 | hb7
    ·
     have hp7 : RightI l := of_decide_eq_true hb7
     refine AU 8 43 true _ (Ptr nb1 2) rfl rfl hb7 (AJ 2 24 1 AO rfl DC rfl rfl) rfl ?_
     refine AU 8 43 true _ (.slice sa ns sc) rfl rfl hb7 (AL rfl (AZ DQ (MemAt.ent 0 rfl (AR (AR (Seg.head)))))) rfl ?_
     refine AU 8 43 true _ (I64 ((ns:Int))) rfl rfl hb7 (DJ B4 rfl) rfl ?_
     refine AU 8 43 true _ (.bool (decide (((ns:Int)) = (0:Int)))) rfl rfl hb7 (AK rfl rfl fun _ => CU _ _) rfl ?_
     refine AA _ (CG _ rfl hb7 rfl) rfl ?_
     refine AA _ (AF rfl) rfl ?_
     refine AI (AE (BG (C0 (A0 (B5 [false] ?_)))))
     show JQ _ _ _ _ []
     refine BI (.bool (decide (((ns:Int)) = (0:Int)))) (res1 EB (BK rfl)) fun w1 hw1 => ?_
     refine ⟨_, [], rfl, ⟨congrArg Value.bool ?_, rfl⟩, hw1.sub (by simp) (by simp)⟩
     unfold RightO
     rw [hl, hls]
     first | (simp [*]; done) | (simp [*]; omega)
    ·
     have hp7 : ¬ (RightI l) := of_decide_eq_false hb7
     refine AS 8 43 true _ rfl rfl hb7 rfl ?_
     refine AS 8 43 true _ rfl rfl hb7 rfl ?_
     refine AS 8 43 true _ rfl rfl hb7 rfl ?_
     refine AS 8 43 true _ rfl rfl hb7 rfl ?_
     refine AA _ (BX _ rfl hb7 rfl) rfl ?_
     refine AA _ (AF rfl) rfl ?_
     refine AI (AE (BG (C0 (A0 (B5 [false] ?_)))))
     show JQ _ _ _ _ []
     refine BI (.bool false) (res1 EB (BK rfl)) fun w1 hw1 => ?_
     refine ⟨_, [], rfl, ⟨congrArg Value.bool ?_, rfl⟩, hw1.sub (by simp) (by simp)⟩
     unfold RightO
     rw [hl, hls]
     first | (simp [*]; done) | (simp [*]; omega)
   ·
    have hp6 : ¬ (bl = (0:UInt64)) := of_decide_eq_false hb6
    refine AS 3 38 true _ rfl rfl hb6 rfl ?_
    refine AS 3 38 true _ rfl rfl hb6 rfl ?_
    refine AS 3 38 true _ rfl rfl hb6 rfl ?_
    refine AA _ (BX _ rfl hb6 rfl) rfl ?_
    refine AA _ (AD rfl) rfl ?_
    refine AS 8 43 true _ rfl rfl rfl rfl ?_
    refine AS 8 43 true _ rfl rfl rfl rfl ?_
    refine AS 8 43 true _ rfl rfl rfl rfl ?_
    refine AS 8 43 true _ rfl rfl rfl rfl ?_
    refine AA _ (BX _ rfl rfl rfl) rfl ?_
    refine AA _ (AF rfl) rfl ?_
    refine AI (AE (BG (C0 (A0 (B5 [false] ?_)))))
    show JQ _ _ _ _ []
    refine BI (.bool false) (res1 EB (BK rfl)) fun w1 hw1 => ?_
    refine ⟨_, [], rfl, ⟨congrArg Value.bool ?_, rfl⟩, hw1.sub (by simp) (by simp)⟩
    unfold RightO
    rw [hl, hls]
    first | (simp [*]; done) | (simp [*]; omega)
  ·
   have hp5 : ¬ ((kd) = (2:Int)) := of_decide_eq_false hb5
   refine AG (AC (AA (.bool (decide ((kd) = (3:Int)))) (AK rfl rfl fun _ => CU _ _) rfl ?_))
   refine AA _ (AF rfl) rfl ?_
   refine AI (AE (CN (decide ((kd) = (3:Int))) rfl (fun hb8 => ?_) (fun hb8 => ?_)))
   ·
    have hp8 : (kd) = (3:Int) := of_decide_eq_true hb8
    refine AG (AC (AA (Ptr nb1 1) (AJ 1 23 1 AO rfl CL rfl rfl) rfl ?_))
    refine AA (.slice ai ni ci) (AL rfl (AZ CW (MemAt.ent 0 rfl (AR (Seg.head))))) rfl ?_
    refine AA (I64 ((ni:Int))) (DJ A9 rfl) rfl ?_
    refine AA (Ptr nb1 2) (AJ 2 24 1 AO rfl DC rfl rfl) rfl ?_
    refine AA (.slice sa ns sc) (AL rfl (AZ DQ (MemAt.ent 0 rfl (AR (AR (Seg.head)))))) rfl ?_
    refine AA (I64 ((ns:Int))) (DJ B4 rfl) rfl ?_
    refine AA (I64 ((ni:Int) + (ns:Int))) (AK rfl rfl fun _ => CH _ _ ((ni:Int) + (ns:Int)) (by omega) (by omega)) rfl ?_
    refine AA (.bool (decide (((ni:Int) + (ns:Int)) = (0:Int)))) (AK rfl rfl fun _ => CU _ _) rfl ?_
    refine AA _ (AD rfl) rfl ?_
    rcases Bool.eq_false_or_eq_true (decide (((ni:Int) + (ns:Int)) = (0:Int))) with hb9 | hb9
    ·
     have hp9 : ((ni:Int) + (ns:Int)) = (0:Int) := of_decide_eq_true hb9
     refine AU 8 59 true _ (Ptr nb1 3) rfl rfl hb9 (AJ 3 22 1 AO rfl A6 rfl rfl) rfl ?_
     refine AU 8 59 true _ (U64 bl) rfl rfl hb9 (AL rfl (AZ BC (MemAt.ent 0 rfl (AR (AR (AR (Seg.head))))))) rfl ?_
     refine AU 8 59 true _ (.bool (decide ((1:UInt64) ≤ bl))) rfl rfl hb9 (AK rfl rfl fun _ => EQ bl (1:UInt64)) rfl ?_
     refine AA _ (CG _ rfl hb9 rfl) rfl ?_
     refine AA _ (AD rfl) rfl ?_
     rcases Bool.eq_false_or_eq_true (decide ((1:UInt64) ≤ bl)) with hb10 | hb10
     ·
      have hp10 : (1:UInt64) ≤ bl := of_decide_eq_true hb10
      refine AU 13 64 true _ (Ptr nb1 3) rfl rfl hb10 (AJ 3 22 1 AO rfl A6 rfl rfl) rfl ?_
      refine AU 13 64 true _ (U64 bl) rfl rfl hb10 (AL rfl (AZ BC (MemAt.ent 0 rfl (AR (AR (AR (Seg.head))))))) rfl ?_
      refine AU 13 64 true _ (.bool (decide (bl ≤ (4294967296:UInt64)))) rfl rfl hb10 (AK rfl rfl fun _ => bin_leq_u64 bl (4294967296:UInt64)) rfl ?_
      refine AA _ (CG _ rfl hb10 rfl) rfl ?_
      refine AA _ (AF rfl) rfl ?_
      refine AI (AE (BG (C0 (A0 (B5 [false] ?_)))))
      show JQ _ _ _ _ []
      refine BI (.bool (decide (bl ≤ (4294967296:UInt64)))) (res1 EB (BK rfl)) fun w1 hw1 => ?_
      refine ⟨_, [], rfl, ⟨congrArg Value.bool ?_, rfl⟩, hw1.sub (by simp) (by simp)⟩
      unfold RightO
      rw [hl, hls]
      first | (simp [*]; done) | (simp [*]; omega)
     ·
      have hp10 : ¬ ((1:UInt64) ≤ bl) := of_decide_eq_false hb10
      refine AS 13 64 true _ rfl rfl hb10 rfl ?_
      refine AS 13 64 true _ rfl rfl hb10 rfl ?_
      refine AS 13 64 true _ rfl rfl hb10 rfl ?_
      refine AA _ (BX _ rfl hb10 rfl) rfl ?_
      refine AA _ (AF rfl) rfl ?_
      refine AI (AE (BG (C0 (A0 (B5 [false] ?_)))))
      show JQ _ _ _ _ []
      refine BI (.bool false) (res1 EB (BK rfl)) fun w1 hw1 => ?_
      refine ⟨_, [], rfl, ⟨congrArg Value.bool ?_, rfl⟩, hw1.sub (by simp) (by simp)⟩
      unfold RightO
      rw [hl, hls]
      first | (simp [*]; done) | (simp [*]; omega)
    ·
     have hp9 : ¬ (((ni:Int) + (ns:Int)) = (0:Int)) := of_decide_eq_false hb9
     refine AS 8 59 true _ rfl rfl hb9 rfl ?_
     refine AS 8 59 true _ rfl rfl hb9 rfl ?_
     refine AS 8 59 true _ rfl rfl hb9 rfl ?_
     refine AA _ (BX _ rfl hb9 rfl) rfl ?_
     refine AA _ (AD rfl) rfl ?_
     refine AS 13 64 true _ rfl rfl rfl rfl ?_
     refine AS 13 64 true _ rfl rfl rfl rfl ?_
     refine AS 13 64 true _ rfl rfl rfl rfl ?_
     refine AA _ (BX _ rfl rfl rfl) rfl ?_
     refine AA _ (AF rfl) rfl ?_
     refine AI (AE (BG (C0 (A0 (B5 [false] ?_)))))
     show JQ _ _ _ _ []
     refine BI (.bool false) (res1 EB (BK rfl)) fun w1 hw1 => ?_
     refine ⟨_, [], rfl, ⟨congrArg Value.bool ?_, rfl⟩, hw1.sub (by simp) (by simp)⟩
     unfold RightO
     rw [hl, hls]
     first | (simp [*]; done) | (simp [*]; omega)
   ·
    have hp8 : ¬ ((kd) = (3:Int)) := of_decide_eq_false hb8
    refine BE (BA (AE (AG (AC (AA _ (AF rfl) rfl ?_)))))
    refine AI (AE (BG (B5 [false] ?_)))
    show JQ _ _ _ _ []
    refine BI (.bool false) (res1 EB (BK rfl)) fun w1 hw1 => ?_
    refine ⟨_, [], rfl, ⟨congrArg Value.bool ?_, rfl⟩, hw1.sub (by simp) (by simp)⟩
    unfold RightO
    rw [hl, hls]
    first | (simp [*]; done) | (simp [*]; omega)
theorem fits13_c (kd : Int) (ai : Option Addr) (ni ci : Nat) (l : List UInt64) (sa : Option Addr) (ns sc : Nat) (ls : List SealR) (bl : UInt64) (blk : UInt64)  (w : World) (hl : l.length = ni) (hnm : ni ≤ 2000000) (hnc : ni ≤ ci) (hcm : ci ≤ maxLen) (hv : RdV w ai (cu64 l)) (hls : ls.length = ns) (hnn : ns ≤ 2000000) (hnd : ns ≤ sc) (hcn : sc ≤ maxLen) (hs : RdV w sa (ls.flatMap sealC))  : Calls Tryd.prog 70 #[.agg (List.toArray (α := Value) ([I64 (kd), .slice ai ni ci, .slice sa ns sc, U64 bl])), U64 blk] w (Post w [] (fun v L => v = .bool (RightO kd l ls bl && !(l.any (fun x => decide (blk ≤ x)))) ∧ L = [])) := by
 have hmx : maxLen = 9223372036854775807 := rfl
 refine enter (P := Tryd.prog) (f := 70) (fn := Tryd.f70) w [] 14 [] [.agg (List.toArray (α := Value) ([I64 (kd), .slice ai ni ci, .slice sa ns sc, U64 bl])), U64 blk] Tryd.func70 rfl rfl (by simp) (BL (by simp) (by simp) (by simp)) ?_
 show JC _ _ _ [(0, .agg (List.toArray (α := Value) ([I64 (kd), .slice ai ni ci, .slice sa ns sc, U64 bl]))), (1, U64 blk)] _
 refine AG (AC (AN (CM (.agg (List.toArray (α := Value) ([I64 (kd), .slice ai ni ci, .slice sa ns sc, U64 bl]))) ([I64 (kd), .slice ai ni ci, .slice sa ns sc, U64 bl]) rfl (by first | rfl | simp)) rfl ?_))
 rintro v1 L1 ⟨nb1, hnb1, rfl, rfl⟩
 show JL _ _ _ _ ((2, Ptr nb1 0) :: _) [⟨nb1, [I64 (kd), .slice ai ni ci, .slice sa ns sc, U64 bl], 26, (0, 0)⟩]
 refine AN (CM (U64 blk) ([U64 blk]) rfl rfl) rfl ?_
 rintro v1 L1 ⟨nb2, hnb2, rfl, rfl⟩
 show JL _ _ _ _ ((3, Ptr nb2 0) :: _) [_, ⟨nb2, [U64 blk], 22, (0, 0)⟩]
 refine AA _ (AF rfl) rfl ?_
 refine AI (AE (AG (AC (AA (.agg (List.toArray (α := Value) ([I64 (kd), .slice ai ni ci, .slice sa ns sc, U64 bl]))) (AL rfl (BO CV B0 rfl (MemAt.ent 0 rfl (AM _)))) rfl ?_))))
 refine AN (AT 69 [.agg (List.toArray (α := Value) ([I64 (kd), .slice ai ni ci, .slice sa ns sc, U64 bl]))] (.bool (RightO (kd) l ls bl)) (AW [.agg (List.toArray (α := Value) ([I64 (kd), .slice ai ni ci, .slice sa ns sc, U64 bl]))] Tryd.call69 rfl) (fun w1 hw1 => FJ (kd) ai ni ci l sa ns sc ls bl w1 hl (by omega) (by omega) (by omega) (DD hw1 rfl hv) hls (by omega) (by omega) (by omega) (DD hw1 rfl hs))) rfl ?_
 rintro v1 L1 ⟨rfl, rfl⟩
 show JL _ _ _ _ ((6, .bool (RightO (kd) l ls bl)) :: _) [_, _]
 refine AA _ (AD rfl) rfl ?_
 rcases Bool.eq_false_or_eq_true (RightO (kd) l ls bl) with hb1 | hb1
 ·
  refine AU 2 7 true _ (Ptr nb1 1) rfl rfl hb1 (AJ 1 23 1 AO rfl CL rfl rfl) rfl ?_
  refine AU 2 7 true _ (.slice ai ni ci) rfl rfl hb1 (AL rfl (AZ CW (MemAt.ent 0 rfl (AR (Seg.head))))) rfl ?_
  refine AU 2 7 true _ (.func (.func 136) #[] #[Ptr nb2 0]) rfl rfl hb1 (Ev_makeFunc (vs := [Ptr nb2 0]) rfl (fun _ _ => rfl)) rfl ?_
  refine FL 2 7 true _ rfl rfl hb1 (AT 135 [.slice ai ni ci, .func (.func 136) #[] #[Ptr nb2 0]] (.bool (l.any (fun x => decide (blk ≤ x)))) (AW [.slice ai ni ci, .func (.func 136) #[] #[Ptr nb2 0]] Tryd.call135 rfl) (fun w1 hw1 => cfFit_c nb2 blk ai ni ci l w1 hl (by omega) (by omega) (by omega) (DD hw1 rfl hv) (RdA.of hw1 (MemAt.ent 1 rfl (AM _)) (by simp)))) rfl ?_
  rintro v1 L1 ⟨rfl, rfl⟩
  show JL _ _ _ _ ((11, .bool (l.any (fun x => decide (blk ≤ x)))) :: _) [_, _]
  refine AU 2 7 true _ (.bool (!(l.any (fun x => decide (blk ≤ x))))) rfl rfl hb1 (ER rfl) rfl ?_
  refine AA _ (CG _ rfl hb1 rfl) rfl ?_
  refine AA _ (AF rfl) rfl ?_
  refine AI (AE (BG (B5 [false, false] ?_)))
  show JQ _ _ _ _ []
  refine BI (.bool (!(l.any (fun x => decide (blk ≤ x))))) (res1 Tryd.results70 (BK rfl)) fun w1 hw1 => ?_
  refine ⟨_, [], rfl, ⟨congrArg Value.bool ?_, rfl⟩, hw1.sub (by simp) (by simp)⟩
  simp [*]
 ·
  refine AS 2 7 true _ rfl rfl hb1 rfl ?_
  refine AS 2 7 true _ rfl rfl hb1 rfl ?_
  refine AS 2 7 true _ rfl rfl hb1 rfl ?_
  refine AS 2 7 true _ rfl rfl hb1 rfl ?_
  refine AS 2 7 true _ rfl rfl hb1 rfl ?_
  refine AA _ (BX _ rfl hb1 rfl) rfl ?_
  refine AA _ (AF rfl) rfl ?_
  refine AI (AE (BG (B5 [false, false] ?_)))
  show JQ _ _ _ _ []
  refine BI (.bool false) (res1 Tryd.results70 (BK rfl)) fun w1 hw1 => ?_
  refine ⟨_, [], rfl, ⟨congrArg Value.bool ?_, rfl⟩, hw1.sub (by simp) (by simp)⟩
  simp [*]
end Go.Proofs.YtkdpdgpphpngeaaDoor
namespace Go.Proofs.YtkdpdgpphpngeaaDoor
open Go Go.Sx
set_option linter.unusedVariables false
set_option linter.unusedSimpArgs false
set_option maxRecDepth 100000
attribute [local irreducible] mid zr8 zr32 numK rnK rotr wordL spreadL comprL cpN adN spN wrdN constL initL padL stN outN routN sumG putL leafT joinT empL empA empR RightB oddB
theorem doc7_c (e : UInt64) (d t : List UInt8)  (w : World) (hd : d.length = 32) (ht : t.length = 16)  : Calls Tryd.prog 93 #[.agg (List.toArray (α := Value) ([U64 e] ++ cu8 d ++ cu8 t))] w (Post w [] (fun v L => v = .agg (List.toArray (α := Value) ([U64 e] ++ cu8 d ++ cu8 t)) ∧ L = [])) := by
 refine enter (P := Tryd.prog) (f := 93) (fn := Tryd.f93) w [] 4 [] [.agg (List.toArray (α := Value) ([U64 e] ++ cu8 d ++ cu8 t))] Tryd.func93 rfl rfl (by simp) (BL (by simp) (by simp) (by simp)) ?_
 show JC _ _ _ [(0, .agg (List.toArray (α := Value) ([U64 e] ++ cu8 d ++ cu8 t)))] _
 refine AG (AC (AN (CM (.agg (List.toArray (α := Value) ([U64 e] ++ cu8 d ++ cu8 t))) ([U64 e] ++ cu8 d ++ cu8 t) rfl (by first | rfl | simp)) rfl ?_))
 rintro v1 L1 ⟨nb1, hnb1, rfl, rfl⟩
 show JL _ _ _ _ ((1, Ptr nb1 0) :: _) [⟨nb1, [U64 e] ++ cu8 d ++ cu8 t, 161, (0, 0)⟩]
 refine AN (BR _ ([U64 (0:UInt64)] ++ cu8 (zr8 32) ++ cu8 (zr8 16)) Tryd.zeroValue164 (by kernel_rfl)) rfl ?_
 rintro v1 L1 ⟨nb2, hnb2, rfl, rfl⟩
 show JL _ _ _ _ ((2, Ptr nb2 0) :: _) [_, ⟨nb2, [U64 (0:UInt64)] ++ cu8 (zr8 32) ++ cu8 (zr8 16), 164, (0, 0)⟩]
 refine AI (AE (AG (AC (AA (.agg (List.toArray (α := Value) ([U64 e] ++ cu8 d ++ cu8 t))) (AL rfl (BO D3 CE (by simp [hd, ht]) (MemAt.ent 0 rfl (AM _)))) rfl ?_))))
 refine AN (A8 1 nb2 0 49 ([U64 (0:UInt64)] ++ cu8 (zr8 32) ++ cu8 (zr8 16)) 164 (.agg (List.toArray (α := Value) ([U64 e] ++ cu8 d ++ cu8 t))) ([U64 e] ++ cu8 d ++ cu8 t) ([U64 e] ++ cu8 d ++ cu8 t) rfl rfl rfl (by first | rfl | simp) DX (by simp [hd, ht]) (FA (FA (by simp [Value.oneCell']) C5) C5) (by simp [(A2 32), (A2 16)]) (BU (by simp [(A2 32), (A2 16), hd, ht]))) rfl ?_
 rintro v1 L1 ⟨rfl, rfl⟩
 show JL _ _ _ _ _ [_, ⟨nb2, [U64 e] ++ cu8 d ++ cu8 t, 164, (0, 0)⟩]
 refine AI (AE (BG (BI (.agg (List.toArray (α := Value) ([U64 e] ++ cu8 d ++ cu8 t))) (res1 Tryd.results93 (EI rfl (BO Tryd.isAgg164 DX (by simp [hd, ht]) (MemAt.ent 1 rfl (AM _))))) fun w1 hw1 => ?_)))
 exact ⟨_, [], rfl, ⟨rfl, rfl⟩, hw1.sub (by simp) (by simp)⟩
theorem bld36_013 {w : World} {v0 : Value} {v1 : Value} {v3 : Value} (h0 : v0.cells = [v0].toArray) (h1 : v1.cells = [v1].toArray) (h3 : v3.cells = [v3].toArray) : (Instr.build 36 ([(0, v0), (1, v1), (3, v3)] : List (Nat × Value)).toArray).run Tryd.prog w = .ok (.agg (((([v0] : List Value) ++ ([v1] : List Value)) ++ ([.slice none 0 0] : List Value)) ++ ([v3] : List Value)).toArray) w :=
 FB (places := #[(0, 1), (1, 1), (2, 1), (3, 1)]) (Z := (([I64 (0:Int)] : List Value) ++ (([.slice none 0 0] : List Value) ++ (([.slice none 0 0] : List Value) ++ (([U64 (0:UInt64)] : List Value) ++ []))))) (fun _ => by kernel_rfl) A3 (fun _ => by kernel_rfl) ((fill_start ([I64 (0:Int)] : List Value) (([.slice none 0 0] : List Value) ++ (([.slice none 0 0] : List Value) ++ (([U64 (0:UInt64)] : List Value) ++ []))) ([v0] : List Value) h0 (by simp [A2]) rfl).trans ((FD ([v0] : List Value) ([.slice none 0 0] : List Value) (([.slice none 0 0] : List Value) ++ (([U64 (0:UInt64)] : List Value) ++ [])) ([v1] : List Value) h1 (by simp [A2]) rfl).trans ((fill_skip (([v0] : List Value) ++ ([v1] : List Value)) ([.slice none 0 0] : List Value) (([U64 (0:UInt64)] : List Value) ++ [])).trans ((FD ((([v0] : List Value) ++ ([v1] : List Value)) ++ ([.slice none 0 0] : List Value)) ([U64 (0:UInt64)] : List Value) [] ([v3] : List Value) h3 (by simp [A2]) rfl).trans (by simp [Instr.fill])))))
theorem order0_c (kd : Int) (ai : Option Addr) (ni ci : Nat) (l : List UInt64) (sa : Option Addr) (ns sc : Nat) (ls : List SealR) (bl : UInt64)  (w : World) (hl : l.length = ni) (hnm : ni ≤ 2000000) (hnc : ni ≤ ci) (hcm : ci ≤ maxLen) (hv : RdV w ai (cu64 l)) (hls : ls.length = ns) (hnn : ns ≤ 2000000) (hnd : ns ≤ sc) (hcn : sc ≤ maxLen) (hs : RdV w sa (ls.flatMap sealC)) (h0 : ns = 0) : Calls Tryd.prog 66 #[.agg (List.toArray (α := Value) ([I64 (kd), .slice ai ni ci, .slice sa ns sc, U64 bl]))] w (Post w [] (fun v L => v = .agg (List.toArray (α := Value) [I64 kd, .slice ai ni ci, .slice none 0 0, U64 bl]) ∧ L = [])) := by
 have hmx : maxLen = 9223372036854775807 := rfl
 refine enter (P := Tryd.prog) (f := 66) (fn := Tryd.f66) w [] 29 [] [.agg (List.toArray (α := Value) ([I64 (kd), .slice ai ni ci, .slice sa ns sc, U64 bl]))] Tryd.func66 rfl rfl (by simp) (BL (by simp) (by simp) (by simp)) ?_
 show JC _ _ _ [(0, .agg (List.toArray (α := Value) ([I64 (kd), .slice ai ni ci, .slice sa ns sc, U64 bl])))] _
 refine AG (AC (AN (CM (.agg (List.toArray (α := Value) ([I64 (kd), .slice ai ni ci, .slice sa ns sc, U64 bl]))) ([I64 (kd), .slice ai ni ci, .slice sa ns sc, U64 bl]) rfl (by first | rfl | simp)) rfl ?_))
 rintro v1 L1 ⟨nb1, hnb1, rfl, rfl⟩
 show JL _ _ _ _ ((1, Ptr nb1 0) :: _) [⟨nb1, [I64 (kd), .slice ai ni ci, .slice sa ns sc, U64 bl], 26, (0, 0)⟩]
 refine AN (BR _ ([I64 (0:Int), .slice none 0 0, .slice none 0 0, U64 (0:UInt64)]) Tryd.zeroValue36 (by kernel_rfl)) rfl ?_
 rintro v1 L1 ⟨nb2, hnb2, rfl, rfl⟩
 show JL _ _ _ _ ((2, Ptr nb2 0) :: _) [_, ⟨nb2, [I64 (0:Int), .slice none 0 0, .slice none 0 0, U64 (0:UInt64)], 36, (0, 0)⟩]
 refine AI (AE (AG (AC (AA (Ptr nb1 0) (AJ 0 3 1 AO rfl B3 rfl rfl) rfl ?_))))
 refine AA (I64 (kd)) (AL rfl (AZ B7 (MemAt.ent 0 rfl (Seg.head)))) rfl ?_
 refine AA (Ptr nb1 1) (AJ 1 23 1 AO rfl CL rfl rfl) rfl ?_
 refine AA (.slice ai ni ci) (AL rfl (AZ CW (MemAt.ent 0 rfl (AR (Seg.head))))) rfl ?_
 refine AA (Ptr nb1 3) (AJ 3 22 1 AO rfl A6 rfl rfl) rfl ?_
 refine AA (U64 bl) (AL rfl (AZ BC (MemAt.ent 0 rfl (AR (AR (AR (Seg.head))))))) rfl ?_
 refine AA (.agg (List.toArray (α := Value) ([I64 (kd), .slice ai ni ci, .slice none 0 0, U64 bl]))) (EG [(0, I64 (kd)), (1, .slice ai ni ci), (3, U64 bl)] _ rfl (fun _ => bld36_013 rfl rfl rfl)) rfl ?_
 refine AN (BR _ ([I64 (0:Int), .slice none 0 0, .slice none 0 0, U64 (0:UInt64)]) Tryd.zeroValue36 (by kernel_rfl)) rfl ?_
 rintro v1 L1 ⟨nb3, hnb3, rfl, rfl⟩
 show JL _ _ _ _ ((3, Ptr nb3 0) :: _) [_, _, ⟨nb3, [I64 (0:Int), .slice none 0 0, .slice none 0 0, U64 (0:UInt64)], 36, (0, 0)⟩]
 refine AN (A8 2 nb3 0 4 ([I64 (0:Int), .slice none 0 0, .slice none 0 0, U64 (0:UInt64)]) 36 (.agg (List.toArray (α := Value) ([I64 (kd), .slice ai ni ci, .slice none 0 0, U64 bl]))) ([I64 (kd), .slice ai ni ci, .slice none 0 0, U64 bl]) ([I64 (kd), .slice ai ni ci, .slice none 0 0, U64 bl]) rfl rfl rfl (by first | rfl | simp) CQ rfl (by simp [Value.oneCell']) (Nat.le_of_ble_eq_true rfl) (BU (by simp []))) rfl ?_
 rintro v1 L1 ⟨rfl, rfl⟩
 show JL _ _ _ _ _ [_, _, ⟨nb3, [I64 (kd), .slice ai ni ci, .slice none 0 0, U64 bl], 36, (0, 0)⟩]
 refine AI (AE (AG (AG (AC (AA (Ptr nb1 2) (AJ 2 24 1 AO rfl DC rfl rfl) rfl ?_)))))
 refine AA (.slice sa ns sc) (AL rfl (AZ DQ (MemAt.ent 0 rfl (AR (AR (Seg.head)))))) rfl ?_
 refine AA (I64 ((ns:Int))) (DJ B4 rfl) rfl ?_
 refine AA _ (AD rfl) rfl ?_
 refine AI (AE (BH (B5 [false, true, true] ?_)))
 show JC _ _ _ _ [_, _]
 refine DN (ι := Unit) (fun _ => [(2, Ptr nb2 0), (3, Ptr nb3 0), (14, .slice sa ns sc), (15, I64 ((ns:Int))), (16, I64 (0:Int))]) (fun _ => [⟨nb2, [I64 (0:Int), .slice none 0 0, .slice none 0 0, U64 (0:UInt64)], 36, (0, 0)⟩, ⟨nb3, [I64 (kd), .slice ai ni ci, .slice none 0 0, U64 bl], 36, (0, 0)⟩]) (fun _ => True) (fun _ => 1) () trivial (AH rfl (AH rfl (AH rfl (AH rfl (AH rfl (Sub.nil)))))) rfl ?_
 rintro _ _
 show JC _ _ _ [(2, Ptr nb2 0), (3, Ptr nb3 0), (14, .slice sa ns sc), (15, I64 ((ns:Int))), (16, I64 (0:Int))] [⟨nb2, [I64 (0:Int), .slice none 0 0, .slice none 0 0, U64 (0:UInt64)], 36, (0, 0)⟩, ⟨nb3, [I64 (kd), .slice ai ni ci, .slice none 0 0, U64 bl], 36, (0, 0)⟩]
 refine AG (AC (AA (.bool (decide ((0:Int) < ((ns:Int))))) (AK rfl rfl fun _ => CP _ _) rfl ?_))
 refine AI (AE (AG (B9 _ rfl (decide_eq_false (by omega)) ?_)))
 refine DL (AX (AX (CC (AE (AG (AC (AA (.agg (List.toArray (α := Value) ([I64 (kd), .slice ai ni ci, .slice none 0 0, U64 bl]))) (AL rfl (BO DO CQ rfl (MemAt.ent 1 rfl (AM _)))) rfl ?_)))))))
 refine AN (A8 0 nb2 0 4 ([I64 (0:Int), .slice none 0 0, .slice none 0 0, U64 (0:UInt64)]) 36 (.agg (List.toArray (α := Value) ([I64 (kd), .slice ai ni ci, .slice none 0 0, U64 bl]))) ([I64 (kd), .slice ai ni ci, .slice none 0 0, U64 bl]) ([I64 (kd), .slice ai ni ci, .slice none 0 0, U64 bl]) rfl rfl rfl (by first | rfl | simp) CQ rfl (by simp [Value.oneCell']) (Nat.le_of_ble_eq_true rfl) (BU (by simp []))) rfl ?_
 rintro v1 L1 ⟨rfl, rfl⟩
 show JL _ _ _ _ _ [⟨nb2, [I64 (kd), .slice ai ni ci, .slice none 0 0, U64 bl], 36, (0, 0)⟩, _]
 refine AI (AE (BG (BI (.agg (List.toArray (α := Value) ([I64 (kd), .slice ai ni ci, .slice none 0 0, U64 bl]))) (res1 Tryd.results66 (EI rfl (BO DO CQ rfl (MemAt.ent 0 rfl (AM _))))) fun w1 hw1 => ?_)))
 exact ⟨_, [], rfl, ⟨rfl, rfl⟩, hw1.sub (by simp) (by simp)⟩
theorem orderP_c (kd : Int) (ai : Option Addr) (ni ci : Nat) (l : List UInt64) (sa : Option Addr) (ns sc : Nat) (ls : List SealR) (bl : UInt64)  (w : World) (hl : l.length = ni) (hnm : ni ≤ 2000000) (hnc : ni ≤ ci) (hcm : ci ≤ maxLen) (hv : RdV w ai (cu64 l)) (hls : ls.length = ns) (hnn : ns ≤ 2000000) (hnd : ns ≤ sc) (hcn : sc ≤ maxLen) (hs : RdV w sa (ls.flatMap sealC)) (h0 : 0 < ns) : Calls Tryd.prog 66 #[.agg (List.toArray (α := Value) ([I64 (kd), .slice ai ni ci, .slice sa ns sc, U64 bl]))] w (Post w [] (fun v L => ∃ g sp cap, v = .agg (List.toArray (α := Value) [I64 kd, .slice ai ni ci, Slc g 0 ns cap, U64 bl]) ∧ L = [⟨g, ls.flatMap sealC ++ sp, 164, (0, 0)⟩] ∧ sp.length = cap * 49 - ns * 49 ∧ ns ≤ cap ∧ cap ≤ maxLen)) := by
 have hmx : maxLen = 9223372036854775807 := rfl
 refine enter (P := Tryd.prog) (f := 66) (fn := Tryd.f66) w [] 29 [] [.agg (List.toArray (α := Value) ([I64 (kd), .slice ai ni ci, .slice sa ns sc, U64 bl]))] Tryd.func66 rfl rfl (by simp) (BL (by simp) (by simp) (by simp)) ?_
 show JC _ _ _ [(0, .agg (List.toArray (α := Value) ([I64 (kd), .slice ai ni ci, .slice sa ns sc, U64 bl])))] _
 refine AG (AC (AN (CM (.agg (List.toArray (α := Value) ([I64 (kd), .slice ai ni ci, .slice sa ns sc, U64 bl]))) ([I64 (kd), .slice ai ni ci, .slice sa ns sc, U64 bl]) rfl (by first | rfl | simp)) rfl ?_))
 rintro v1 L1 ⟨nb1, hnb1, rfl, rfl⟩
 show JL _ _ _ _ ((1, Ptr nb1 0) :: _) [⟨nb1, [I64 (kd), .slice ai ni ci, .slice sa ns sc, U64 bl], 26, (0, 0)⟩]
 refine AN (BR _ ([I64 (0:Int), .slice none 0 0, .slice none 0 0, U64 (0:UInt64)]) Tryd.zeroValue36 (by kernel_rfl)) rfl ?_
 rintro v1 L1 ⟨nb2, hnb2, rfl, rfl⟩
 show JL _ _ _ _ ((2, Ptr nb2 0) :: _) [_, ⟨nb2, [I64 (0:Int), .slice none 0 0, .slice none 0 0, U64 (0:UInt64)], 36, (0, 0)⟩]
 refine AI (AE (AG (AC (AA (Ptr nb1 0) (AJ 0 3 1 AO rfl B3 rfl rfl) rfl ?_))))
 refine AA (I64 (kd)) (AL rfl (AZ B7 (MemAt.ent 0 rfl (Seg.head)))) rfl ?_
 refine AA (Ptr nb1 1) (AJ 1 23 1 AO rfl CL rfl rfl) rfl ?_
 refine AA (.slice ai ni ci) (AL rfl (AZ CW (MemAt.ent 0 rfl (AR (Seg.head))))) rfl ?_
 refine AA (Ptr nb1 3) (AJ 3 22 1 AO rfl A6 rfl rfl) rfl ?_
 refine AA (U64 bl) (AL rfl (AZ BC (MemAt.ent 0 rfl (AR (AR (AR (Seg.head))))))) rfl ?_
 refine AA (.agg (List.toArray (α := Value) ([I64 (kd), .slice ai ni ci, .slice none 0 0, U64 bl]))) (EG [(0, I64 (kd)), (1, .slice ai ni ci), (3, U64 bl)] _ rfl (fun _ => bld36_013 rfl rfl rfl)) rfl ?_
 refine AN (BR _ ([I64 (0:Int), .slice none 0 0, .slice none 0 0, U64 (0:UInt64)]) Tryd.zeroValue36 (by kernel_rfl)) rfl ?_
 rintro v1 L1 ⟨nb3, hnb3, rfl, rfl⟩
 show JL _ _ _ _ ((3, Ptr nb3 0) :: _) [_, _, ⟨nb3, [I64 (0:Int), .slice none 0 0, .slice none 0 0, U64 (0:UInt64)], 36, (0, 0)⟩]
 refine AN (A8 2 nb3 0 4 ([I64 (0:Int), .slice none 0 0, .slice none 0 0, U64 (0:UInt64)]) 36 (.agg (List.toArray (α := Value) ([I64 (kd), .slice ai ni ci, .slice none 0 0, U64 bl]))) ([I64 (kd), .slice ai ni ci, .slice none 0 0, U64 bl]) ([I64 (kd), .slice ai ni ci, .slice none 0 0, U64 bl]) rfl rfl rfl (by first | rfl | simp) CQ rfl (by simp [Value.oneCell']) (Nat.le_of_ble_eq_true rfl) (BU (by simp []))) rfl ?_
 rintro v1 L1 ⟨rfl, rfl⟩
 show JL _ _ _ _ _ [_, _, ⟨nb3, [I64 (kd), .slice ai ni ci, .slice none 0 0, U64 bl], 36, (0, 0)⟩]
 refine AI (AE (AG (AG (AC (AA (Ptr nb1 2) (AJ 2 24 1 AO rfl DC rfl rfl) rfl ?_)))))
 refine AA (.slice sa ns sc) (AL rfl (AZ DQ (MemAt.ent 0 rfl (AR (AR (Seg.head)))))) rfl ?_
 refine AA (I64 ((ns:Int))) (DJ B4 rfl) rfl ?_
 refine AA _ (AD rfl) rfl ?_
 refine AI (AE (BH (B5 [false, true, true] ?_)))
 show JC _ _ _ _ [_, _]
 refine DN (ι := (Unit) ⊕ (Nat × List SealR × Nat × List Value × Nat)) (fun x => match x with | .inl _ => [(2, Ptr nb2 0), (3, Ptr nb3 0), (14, .slice sa ns sc), (15, I64 ((ns:Int))), (16, I64 (0:Int))] | .inr ⟨i, rr, gb, sp, cp⟩ => [(2, Ptr nb2 0), (3, Ptr nb3 0), (14, .slice sa ns sc), (15, I64 ((ns:Int))), (16, I64 ((i:Int)))]) (fun x => match x with | .inl _ => [⟨nb2, [I64 (0:Int), .slice none 0 0, .slice none 0 0, U64 (0:UInt64)], 36, (0, 0)⟩, ⟨nb3, [I64 (kd), .slice ai ni ci, .slice none 0 0, U64 bl], 36, (0, 0)⟩] | .inr ⟨i, rr, gb, sp, cp⟩ => [⟨nb2, [I64 (0:Int), .slice none 0 0, .slice none 0 0, U64 (0:UInt64)], 36, (0, 0)⟩, ⟨nb3, [I64 (kd), .slice ai ni ci, Slc gb 0 i cp, U64 bl], 36, (0, 0)⟩, ⟨gb, (rr).flatMap sealC ++ sp, 164, (0, 0)⟩]) (fun x => match x with | .inl _ => True | .inr ⟨i, rr, gb, sp, cp⟩ => 0 < i ∧ i ≤ ns ∧ rr = ls.take i ∧ rr.length = i ∧ sp.length = cp * 49 - i * 49 ∧ i ≤ cp ∧ cp ≤ maxLen) (fun x => match x with | .inl _ => ns + 2 | .inr ⟨i, rr, gb, sp, cp⟩ => ns + 1 - i) (.inl ()) trivial (AH rfl (AH rfl (AH rfl (AH rfl (AH rfl (Sub.nil)))))) rfl ?_
 rintro (_ | ⟨i, rr, gb, sp, cp⟩) hx
 ·
  obtain _ := hx
  show JC _ _ _ [(2, Ptr nb2 0), (3, Ptr nb3 0), (14, .slice sa ns sc), (15, I64 ((ns:Int))), (16, I64 (0:Int))] [⟨nb2, [I64 (0:Int), .slice none 0 0, .slice none 0 0, U64 (0:UInt64)], 36, (0, 0)⟩, ⟨nb3, [I64 (kd), .slice ai ni ci, .slice none 0 0, U64 bl], 36, (0, 0)⟩]
  refine AG (AC (AA (.bool (decide ((0:Int) < ((ns:Int))))) (AK rfl rfl fun _ => CP _ _) rfl ?_))
  refine AI (AE (AG (DM _ rfl (decide_eq_true (by omega)) ?_)))
  refine BE (AE (AG (BH (AG (AC ?_)))))
  obtain ⟨x1, hx1⟩ : ∃ x, ls[0]? = some x := ⟨_, List.getElem?_eq_getElem (by rw [hls]; omega)⟩
  obtain ⟨bz1, oz1, hz1, hm1⟩ := rows_at EK (by decide) hs hx1
  refine AA (Ptr bz1 oz1) (CF 161 49 oz1 B4 CE rfl hz1 rfl (by omega) (by omega) (by omega)) rfl ?_
  refine AA (.agg (List.toArray (α := Value) ([U64 x1.e] ++ cu8 x1.d ++ cu8 x1.t))) (AL rfl (BO D3 CE (by simp [x1.hd, x1.ht]) (CA (hm1.mem (by simp)) (AM _) (by omega)))) rfl ?_
  refine AN (BR _ ([U64 (0:UInt64)] ++ cu8 (zr8 32) ++ cu8 (zr8 16)) Tryd.zeroValue161 (by kernel_rfl)) rfl ?_
  rintro v1 L1 ⟨nb4, hnb4, rfl, rfl⟩
  show JL _ _ _ _ ((5, Ptr nb4 0) :: _) [_, _, ⟨nb4, [U64 (0:UInt64)] ++ cu8 (zr8 32) ++ cu8 (zr8 16), 161, (0, 0)⟩]
  refine AN (A8 2 nb4 0 49 ([U64 (0:UInt64)] ++ cu8 (zr8 32) ++ cu8 (zr8 16)) 161 (.agg (List.toArray (α := Value) ([U64 x1.e] ++ cu8 x1.d ++ cu8 x1.t))) ([U64 x1.e] ++ cu8 x1.d ++ cu8 x1.t) ([U64 x1.e] ++ cu8 x1.d ++ cu8 x1.t) rfl rfl rfl (by first | rfl | simp) CE (by simp [x1.hd, x1.ht]) (FA (FA (by simp [Value.oneCell']) C5) C5) (by simp [(A2 32), (A2 16)]) (BU (by simp [(A2 32), (A2 16), x1.hd, x1.ht]))) rfl ?_
  rintro v1 L1 ⟨rfl, rfl⟩
  show JL _ _ _ _ _ [_, _, ⟨nb4, [U64 x1.e] ++ cu8 x1.d ++ cu8 x1.t, 161, (0, 0)⟩]
  refine AI (AE (C3 29 5 [(0, Ptr nb3 2), (1, .slice none 0 0), (2, .agg (List.toArray (α := Value) ([U64 x1.e] ++ cu8 x1.d ++ cu8 x1.t)))] BQ rfl (by decide +kernel) ?_))
  refine BT ⟨[], [0, 1, 2], [], [0, 1, 2], [3]⟩ 3 _ rfl rfl (by decide +kernel) rfl ⟨⟨_, rfl, AB rfl (AJ 2 34 1 A3 rfl C8 rfl rfl)⟩, ⟨_, rfl, AB rfl (AL rfl (AZ D1 (MemAt.ent 1 rfl (AR (AR (Seg.head))))))⟩, ⟨_, rfl, AB rfl (AL rfl (BO D3 CE (by simp [x1.hd, x1.ht]) (MemAt.ent 2 rfl (AM _))))⟩, trivial⟩ rfl (A1 rfl (AT 93 [.agg (List.toArray (α := Value) ([U64 x1.e] ++ cu8 x1.d ++ cu8 x1.t))] (.agg (List.toArray (α := Value) ([U64 x1.e] ++ cu8 x1.d ++ cu8 x1.t))) (AW [.agg (List.toArray (α := Value) ([U64 x1.e] ++ cu8 x1.d ++ cu8 x1.t))] Tryd.call93 rfl) (fun w1 hw1 => doc7_c x1.e x1.d x1.t w1 x1.hd x1.ht))) ?_
  rintro v1 L1 ⟨rfl, rfl⟩
  refine ⟨[], ?_⟩
  show DP _ _ _ _ _ _ _ _ [_, _, _]
  refine BT ⟨[3], [0, 1, 2], [2], [0, 1], [4]⟩ 4 _ rfl rfl (by decide +kernel) rfl ⟨⟨_, rfl, AB rfl (AJ 2 34 1 A3 rfl C8 rfl rfl)⟩, ⟨_, rfl, AB rfl (AL rfl (AZ D1 (MemAt.ent 1 rfl (AR (AR (Seg.head))))))⟩, trivial⟩ rfl (A1 rfl (BF 164 49 _ [(0, .agg (List.toArray (α := Value) ([U64 x1.e] ++ cu8 x1.d ++ cu8 x1.t)))] ([U64 x1.e] ++ cu8 x1.d ++ cu8 x1.t) C6 DX Tryd.zeroValue164 rfl rfl rfl (fill_one (Z := [U64 (0:UInt64)] ++ cu8 (zr8 32) ++ cu8 (zr8 16)) (by simp [x1.hd, x1.ht]) (by kernel_rfl) (by simp [zr8])))) ?_
  rintro v1 L1 ⟨nb5, hnb5, rfl, rfl⟩
  refine ⟨[], ?_⟩
  show DP _ _ _ _ _ _ _ _ [_, _, _, ⟨nb5, [U64 x1.e] ++ cu8 x1.d ++ cu8 x1.t, 164, (0, 0)⟩]
  refine BT ⟨[3, 4], [0, 1, 2], [2], [0, 1], [5]⟩ 5 _ rfl rfl (by decide +kernel) rfl ⟨⟨_, rfl, AB rfl (AJ 2 34 1 A3 rfl C8 rfl rfl)⟩, ⟨_, rfl, AB rfl (AL rfl (AZ D1 (MemAt.ent 1 rfl (AR (AR (Seg.head))))))⟩, trivial⟩ rfl (A1 rfl (Step_appS 34 164 56 (.agg (List.toArray (α := Value) ([U64 (0:UInt64)] ++ cu8 (zr8 32) ++ cu8 (zr8 16)))) [false, false, false, false] (.slice none 0 0) 0 ([] : List SealR) x1 (some ⟨nb5, 0, none⟩) 1 1 C6 (by kernel_rfl) (by kernel_rfl) rfl (.inl ⟨rfl, rfl, rfl, rfl⟩) rfl (SrcAt.mem (MemAt.ent 3 rfl (AM _))) (by omega) (by unfold maxLen; omega) (by omega))) ?_
  rintro v1 L1 ⟨nb6, sp1, cp1, hg1, rfl, rfl, ha1, ha2, ha3, ha4⟩
  refine ⟨[(6, Ptr nb3 2)], ?_⟩
  show DP _ _ _ _ _ _ _ _ [_, _, _, _, ⟨nb6, (([] : List SealR) ++ [x1]).flatMap sealC ++ sp1, 164, (0, 0)⟩]
  refine BT ⟨[3, 4, 5], [0, 1, 2, 6], [0, 1, 2], [6], [7]⟩ 7 _ rfl rfl (by decide +kernel) rfl ⟨⟨_, rfl, AB rfl (AJ 2 34 1 A3 rfl C8 rfl rfl)⟩, trivial⟩ rfl (A1 rfl (A8 1 nb3 2 1 ([I64 (kd), .slice ai ni ci, .slice none 0 0, U64 bl]) 36 (Slc nb6 0 1 cp1) ([Slc nb6 0 1 cp1]) ([I64 (kd), .slice ai ni ci, Slc nb6 0 1 cp1, U64 bl]) rfl rfl rfl rfl C8 rfl (by simp [Value.oneCell']) (Nat.le_of_ble_eq_true rfl) (rfl))) ?_
  rintro v1 L1 ⟨rfl, rfl⟩
  refine ⟨[], ?_⟩
  show DP _ _ _ _ _ _ _ _ [_, ⟨nb3, [I64 (kd), .slice ai ni ci, Slc nb6 0 1 cp1, U64 bl], 36, (0, 0)⟩, _, _, _]
  refine DG ⟨[3, 4, 5, 7], [0, 1, 2, 6], [0, 1, 2, 6], [], []⟩ rfl rfl (by decide +kernel) rfl trivial ?_
  refine CZ (F' := [(20, Ptr nb3 2), (21, .slice none 0 0), (22, .agg (List.toArray (α := Value) ([U64 x1.e] ++ cu8 x1.d ++ cu8 x1.t))), (23, .agg (List.toArray (α := Value) ([U64 x1.e] ++ cu8 x1.d ++ cu8 x1.t))), (24, Slc nb5 0 1 1), (25, Slc nb6 0 1 cp1), (26, Ptr nb3 2), (2, Ptr nb2 0), (3, Ptr nb3 0), (14, .slice sa ns sc), (15, I64 ((ns:Int))), (16, I64 (0:Int)), (17, .bool (decide ((0:Int) < ((ns:Int))))), (18, Ptr bz1 oz1), (19, .agg (List.toArray (α := Value) ([U64 x1.e] ++ cu8 x1.d ++ cu8 x1.t))), (5, Ptr nb4 0)]) (by kernel_rfl) ?_
  refine BA (AE (AC (AA (I64 (1:Int)) (AK rfl rfl fun _ => CH _ _ (1:Int) (by omega) (by omega)) rfl ?_)))
  refine AA _ (AD rfl) rfl ?_
  refine AI (CR (B5 [true, true, false, false, true] ?_))
  show K _ _ [_, _, _] _
  refine DT (.inr (1, ([] : List SealR) ++ [x1], nb6, sp1, cp1)) ⟨by omega, by omega, take_step (i := 0) hx1, (ha1).trans (by first | rfl | simp +arith), (ha2).trans (by first | rfl | simp +arith), by omega, by omega⟩ (by first | (simp; omega) | simp | (dsimp only; omega) | omega) (AH rfl (AH rfl (AH rfl (AH rfl (AH rfl (Sub.nil)))))) rfl
 ·
  obtain ⟨hi1, hi2, hi3, hi4, hi5, hi6, hi7⟩ := hx
  show JC _ _ _ [(2, Ptr nb2 0), (3, Ptr nb3 0), (14, .slice sa ns sc), (15, I64 ((ns:Int))), (16, I64 ((i:Int)))] [⟨nb2, [I64 (0:Int), .slice none 0 0, .slice none 0 0, U64 (0:UInt64)], 36, (0, 0)⟩, ⟨nb3, [I64 (kd), .slice ai ni ci, Slc gb 0 i cp, U64 bl], 36, (0, 0)⟩, ⟨gb, (rr).flatMap sealC ++ sp, 164, (0, 0)⟩]
  refine AG (AC (AA (.bool (decide (((i:Int)) < ((ns:Int))))) (AK rfl rfl fun _ => CP _ _) rfl ?_))
  refine AI (AE (AG (CN (decide (((i:Int)) < ((ns:Int)))) rfl (fun hb1 => ?_) (fun hb1 => ?_))))
  ·
   have hp1 : ((i:Int)) < ((ns:Int)) := of_decide_eq_true hb1
   refine BE (AE (AG (BH (AG (AC ?_)))))
   obtain ⟨x2, hx2⟩ : ∃ x, ls[i]? = some x := ⟨_, List.getElem?_eq_getElem (by rw [hls]; omega)⟩
   obtain ⟨bz2, oz2, hz2, hm2⟩ := rows_at EK (by decide) hs hx2
   refine AA (Ptr bz2 (49*i + oz2)) (CF 161 49 (49*i + oz2) B4 CE rfl hz2 rfl (by omega) (by omega) (by omega)) rfl ?_
   refine AA (.agg (List.toArray (α := Value) ([U64 x2.e] ++ cu8 x2.d ++ cu8 x2.t))) (AL rfl (BO D3 CE (by simp [x2.hd, x2.ht]) (CA (hm2.mem (by simp)) (AM _) (by omega)))) rfl ?_
   refine AN (BR _ ([U64 (0:UInt64)] ++ cu8 (zr8 32) ++ cu8 (zr8 16)) Tryd.zeroValue161 (by kernel_rfl)) rfl ?_
   rintro v1 L1 ⟨nb7, hnb7, rfl, rfl⟩
   show JL _ _ _ _ ((5, Ptr nb7 0) :: _) [_, _, _, ⟨nb7, [U64 (0:UInt64)] ++ cu8 (zr8 32) ++ cu8 (zr8 16), 161, (0, 0)⟩]
   refine AN (A8 3 nb7 0 49 ([U64 (0:UInt64)] ++ cu8 (zr8 32) ++ cu8 (zr8 16)) 161 (.agg (List.toArray (α := Value) ([U64 x2.e] ++ cu8 x2.d ++ cu8 x2.t))) ([U64 x2.e] ++ cu8 x2.d ++ cu8 x2.t) ([U64 x2.e] ++ cu8 x2.d ++ cu8 x2.t) rfl rfl rfl (by first | rfl | simp) CE (by simp [x2.hd, x2.ht]) (FA (FA (by simp [Value.oneCell']) C5) C5) (by simp [(A2 32), (A2 16)]) (BU (by simp [(A2 32), (A2 16), x2.hd, x2.ht]))) rfl ?_
   rintro v1 L1 ⟨rfl, rfl⟩
   show JL _ _ _ _ _ [_, _, _, ⟨nb7, [U64 x2.e] ++ cu8 x2.d ++ cu8 x2.t, 161, (0, 0)⟩]
   refine AI (AE (C3 29 5 [(0, Ptr nb3 2), (1, Slc gb 0 i cp), (2, .agg (List.toArray (α := Value) ([U64 x2.e] ++ cu8 x2.d ++ cu8 x2.t)))] BQ rfl (by decide +kernel) ?_))
   refine BT ⟨[], [0, 1, 2], [], [0, 1, 2], [3]⟩ 3 _ rfl rfl (by decide +kernel) rfl ⟨⟨_, rfl, AB rfl (AJ 2 34 1 A3 rfl C8 rfl rfl)⟩, ⟨_, rfl, AB rfl (AL rfl (AZ D1 (MemAt.ent 1 rfl (AR (AR (Seg.head))))))⟩, ⟨_, rfl, AB rfl (AL rfl (BO D3 CE (by simp [x2.hd, x2.ht]) (MemAt.ent 3 rfl (AM _))))⟩, trivial⟩ rfl (A1 rfl (AT 93 [.agg (List.toArray (α := Value) ([U64 x2.e] ++ cu8 x2.d ++ cu8 x2.t))] (.agg (List.toArray (α := Value) ([U64 x2.e] ++ cu8 x2.d ++ cu8 x2.t))) (AW [.agg (List.toArray (α := Value) ([U64 x2.e] ++ cu8 x2.d ++ cu8 x2.t))] Tryd.call93 rfl) (fun w1 hw1 => doc7_c x2.e x2.d x2.t w1 x2.hd x2.ht))) ?_
   rintro v1 L1 ⟨rfl, rfl⟩
   refine ⟨[], ?_⟩
   show DP _ _ _ _ _ _ _ _ [_, _, _, _]
   refine BT ⟨[3], [0, 1, 2], [2], [0, 1], [4]⟩ 4 _ rfl rfl (by decide +kernel) rfl ⟨⟨_, rfl, AB rfl (AJ 2 34 1 A3 rfl C8 rfl rfl)⟩, ⟨_, rfl, AB rfl (AL rfl (AZ D1 (MemAt.ent 1 rfl (AR (AR (Seg.head))))))⟩, trivial⟩ rfl (A1 rfl (BF 164 49 _ [(0, .agg (List.toArray (α := Value) ([U64 x2.e] ++ cu8 x2.d ++ cu8 x2.t)))] ([U64 x2.e] ++ cu8 x2.d ++ cu8 x2.t) C6 DX Tryd.zeroValue164 rfl rfl rfl (fill_one (Z := [U64 (0:UInt64)] ++ cu8 (zr8 32) ++ cu8 (zr8 16)) (by simp [x2.hd, x2.ht]) (by kernel_rfl) (by simp [zr8])))) ?_
   rintro v1 L1 ⟨nb8, hnb8, rfl, rfl⟩
   refine ⟨[], ?_⟩
   show DP _ _ _ _ _ _ _ _ [_, _, _, _, ⟨nb8, [U64 x2.e] ++ cu8 x2.d ++ cu8 x2.t, 164, (0, 0)⟩]
   refine BT ⟨[3, 4], [0, 1, 2], [2], [0, 1], [5]⟩ 5 _ rfl rfl (by decide +kernel) rfl ⟨⟨_, rfl, AB rfl (AJ 2 34 1 A3 rfl C8 rfl rfl)⟩, ⟨_, rfl, AB rfl (AL rfl (AZ D1 (MemAt.ent 1 rfl (AR (AR (Seg.head))))))⟩, trivial⟩ rfl (A1 rfl (Step_appS 34 164 56 (.agg (List.toArray (α := Value) ([U64 (0:UInt64)] ++ cu8 (zr8 32) ++ cu8 (zr8 16)))) [false, false, true, false, false] (Slc gb 0 i cp) i rr x2 (some ⟨nb8, 0, none⟩) 1 (i + 1) C6 (by kernel_rfl) (by kernel_rfl) rfl (.inr ⟨gb, sp, cp, rfl, rfl, (by have h : (rr).length = i := hi4; omega), (by first | exact hi5 | omega), (by omega), (by omega)⟩) rfl (SrcAt.mem (MemAt.ent 4 rfl (AM _))) (by omega) (by unfold maxLen; omega) (by omega))) ?_
   rintro v1 L1 ⟨nb9, sp2, cp2, hg2, rfl, rfl, ha5, ha6, ha7, ha8⟩
   refine ⟨[(6, Ptr nb3 2)], ?_⟩
   show DP _ _ _ _ _ _ _ _ [_, _, _, _, ⟨nb9, (rr ++ [x2]).flatMap sealC ++ sp2, 164, (0, 0)⟩]
   refine BT ⟨[3, 4, 5], [0, 1, 2, 6], [0, 1, 2], [6], [7]⟩ 7 _ rfl rfl (by decide +kernel) rfl ⟨⟨_, rfl, AB rfl (AJ 2 34 1 A3 rfl C8 rfl rfl)⟩, trivial⟩ rfl (A1 rfl (A8 1 nb3 2 1 ([I64 (kd), .slice ai ni ci, Slc gb 0 i cp, U64 bl]) 36 (Slc nb9 0 (i + 1) cp2) ([Slc nb9 0 (i + 1) cp2]) ([I64 (kd), .slice ai ni ci, Slc nb9 0 (i + 1) cp2, U64 bl]) rfl rfl rfl rfl C8 rfl (by simp [Value.oneCell']) (Nat.le_of_ble_eq_true rfl) (rfl))) ?_
   rintro v1 L1 ⟨rfl, rfl⟩
   refine ⟨[], ?_⟩
   show DP _ _ _ _ _ _ _ _ [_, ⟨nb3, [I64 (kd), .slice ai ni ci, Slc nb9 0 (i + 1) cp2, U64 bl], 36, (0, 0)⟩, _, _, _]
   refine DG ⟨[3, 4, 5, 7], [0, 1, 2, 6], [0, 1, 2, 6], [], []⟩ rfl rfl (by decide +kernel) rfl trivial ?_
   refine CZ (F' := [(20, Ptr nb3 2), (21, Slc gb 0 i cp), (22, .agg (List.toArray (α := Value) ([U64 x2.e] ++ cu8 x2.d ++ cu8 x2.t))), (23, .agg (List.toArray (α := Value) ([U64 x2.e] ++ cu8 x2.d ++ cu8 x2.t))), (24, Slc nb8 0 1 1), (25, Slc nb9 0 (i + 1) cp2), (26, Ptr nb3 2), (2, Ptr nb2 0), (3, Ptr nb3 0), (14, .slice sa ns sc), (15, I64 ((ns:Int))), (16, I64 ((i:Int))), (17, .bool (decide (((i:Int)) < ((ns:Int))))), (18, Ptr bz2 (49*i + oz2)), (19, .agg (List.toArray (α := Value) ([U64 x2.e] ++ cu8 x2.d ++ cu8 x2.t))), (5, Ptr nb7 0)]) (by kernel_rfl) ?_
   refine BA (AE (AC (AA (I64 ((i:Int) + 1)) (AK rfl rfl fun _ => CH _ _ ((i:Int) + 1) (by omega) (by omega)) rfl ?_)))
   refine AA _ (AD rfl) rfl ?_
   refine AI (CR (B5 [true, true, false, false, true] ?_))
   show K _ _ [_, _, _] _
   refine DT (.inr (i + 1, rr ++ [x2], nb9, sp2, cp2)) ⟨by omega, by omega, (by rw [hi3]; exact take_step hx2), (ha5).trans (by first | rfl | simp +arith), (ha6).trans (by first | rfl | simp +arith), by omega, by omega⟩ (by first | (simp; omega) | simp | (dsimp only; omega) | omega) (AH rfl (AH rfl (AH rfl (AH rfl (AH rfl (Sub.nil)))))) rfl
  ·
   have hp1 : ¬ (((i:Int)) < ((ns:Int))) := of_decide_eq_false hb1
   refine DL (AX (AX (CC (AE (AG (AC (AA (.agg (List.toArray (α := Value) ([I64 (kd), .slice ai ni ci, Slc gb 0 i cp, U64 bl]))) (AL rfl (BO DO CQ rfl (MemAt.ent 1 rfl (AM _)))) rfl ?_)))))))
   refine AN (A8 0 nb2 0 4 ([I64 (0:Int), .slice none 0 0, .slice none 0 0, U64 (0:UInt64)]) 36 (.agg (List.toArray (α := Value) ([I64 (kd), .slice ai ni ci, Slc gb 0 i cp, U64 bl]))) ([I64 (kd), .slice ai ni ci, Slc gb 0 i cp, U64 bl]) ([I64 (kd), .slice ai ni ci, Slc gb 0 i cp, U64 bl]) rfl rfl rfl (by first | rfl | simp) CQ rfl (by simp [Value.oneCell']) (Nat.le_of_ble_eq_true rfl) (BU (by simp []))) rfl ?_
   rintro v1 L1 ⟨rfl, rfl⟩
   show JL _ _ _ _ _ [⟨nb2, [I64 (kd), .slice ai ni ci, Slc gb 0 i cp, U64 bl], 36, (0, 0)⟩, _, _]
   refine AI (AE (BG (B5 [true, false, true] ?_)))
   show JQ _ _ _ _ [_, _]
   refine BI (.agg (List.toArray (α := Value) ([I64 (kd), .slice ai ni ci, Slc gb 0 i cp, U64 bl]))) (res1 Tryd.results66 (EI rfl (BO DO CQ rfl (MemAt.ent 0 rfl (AM _))))) fun w1 hw1 => ?_
   obtain rfl : i = ns := by omega
   have hr : rr = ls := by rw [hi3]; exact List.take_of_length_le (by omega)
   rw [hr] at hw1
   exact ⟨_, _, rfl, ⟨gb, sp, cp, rfl, rfl, by omega, by omega, hi7⟩, hw1.sub (by simp) (by simp)⟩
end Go.Proofs.YtkdpdgpphpngeaaDoor
namespace Go.Proofs.YtkdpdgpphpngeaaDoor
open Go Go.Sx
set_option linter.unusedVariables false
set_option linter.unusedSimpArgs false
set_option maxRecDepth 100000
attribute [local irreducible] mid zr8 zr32 numK rnK rotr wordL spreadL comprL cpN adN spN wrdN constL initL padL stN outN routN sumG putL leafT joinT empL empA empR RightB
theorem rright13_c (kd : Int) (ai : Option Addr) (ni ci : Nat) (l : List UInt64) (sa : Option Addr) (ns sc : Nat) (ls : List SealR) (bl : UInt64)  (w : World) (hl : l.length = ni) (hnm : ni ≤ 2000000) (hnc : ni ≤ ci) (hcm : ci ≤ maxLen) (hv : RdV w ai (cu64 l)) (hls : ls.length = ns) (hnn : ns ≤ 2000000) (hnd : ns ≤ sc) (hcn : sc ≤ maxLen) (hs : RdV w sa (ls.flatMap sealC))  : Calls Tryd.prog 67 #[.agg (List.toArray (α := Value) ([I64 (kd), .slice ai ni ci, .slice sa ns sc, U64 bl]))] w (Post w [] (fun v L => v = .bool (RightO kd l ls bl) ∧ L = [])) := by
 have hmx : maxLen = 9223372036854775807 := rfl
 refine enter (P := Tryd.prog) (f := 67) (fn := Tryd.f67) w [] 89 [] [.agg (List.toArray (α := Value) ([I64 (kd), .slice ai ni ci, .slice sa ns sc, U64 bl]))] Tryd.func67 rfl rfl (by simp) (BL (by simp) (by simp) (by simp)) ?_
 show JC _ _ _ [(0, .agg (List.toArray (α := Value) ([I64 (kd), .slice ai ni ci, .slice sa ns sc, U64 bl])))] _
 refine AG (AC (AN (CM (.agg (List.toArray (α := Value) ([I64 (kd), .slice ai ni ci, .slice sa ns sc, U64 bl]))) ([I64 (kd), .slice ai ni ci, .slice sa ns sc, U64 bl]) rfl (by first | rfl | simp)) rfl ?_))
 rintro v1 L1 ⟨nb1, hnb1, rfl, rfl⟩
 show JL _ _ _ _ ((1, Ptr nb1 0) :: _) [⟨nb1, [I64 (kd), .slice ai ni ci, .slice sa ns sc, U64 bl], 36, (0, 0)⟩]
 refine AA _ (AF rfl) rfl ?_
 refine AI (AE (AG (AG (AC (AA (Ptr nb1 0) (AJ 0 3 1 A3 rfl B3 rfl rfl) rfl ?_)))))
 refine AA (I64 (kd)) (AL rfl (AZ B7 (MemAt.ent 0 rfl (Seg.head)))) rfl ?_
 refine AA (.bool (decide ((kd) = (3:Int)))) (AK rfl rfl fun _ => CU _ _) rfl ?_
 refine AI (AE (CN (decide ((kd) = (3:Int))) rfl (fun hb1 => ?_) (fun hb1 => ?_)))
 ·
  have hp1 : (kd) = (3:Int) := of_decide_eq_true hb1
  refine AG (AC (AA (Ptr nb1 1) (AJ 1 23 1 A3 rfl CL rfl rfl) rfl ?_))
  refine AA (.slice ai ni ci) (AL rfl (AZ CW (MemAt.ent 0 rfl (AR (Seg.head))))) rfl ?_
  refine AA (I64 ((ni:Int))) (DJ A9 rfl) rfl ?_
  refine AA (.bool (decide (((ni:Int)) = (0:Int)))) (AK rfl rfl fun _ => CU _ _) rfl ?_
  refine AA _ (AD rfl) rfl ?_
  rcases Bool.eq_false_or_eq_true (decide (((ni:Int)) = (0:Int))) with hb2 | hb2
  ·
   have hp2 : ((ni:Int)) = (0:Int) := of_decide_eq_true hb2
   refine AU 4 11 true _ (Ptr nb1 2) rfl rfl hb2 (AJ 2 34 1 A3 rfl C8 rfl rfl) rfl ?_
   refine AU 4 11 true _ (.slice sa ns sc) rfl rfl hb2 (AL rfl (AZ D1 (MemAt.ent 0 rfl (AR (AR (Seg.head)))))) rfl ?_
   refine AU 4 11 true _ (I64 ((ns:Int))) rfl rfl hb2 (DJ C6 rfl) rfl ?_
   refine AU 4 11 true _ (.bool (decide (((ns:Int)) = (0:Int)))) rfl rfl hb2 (AK rfl rfl fun _ => CU _ _) rfl ?_
   refine AA _ (CG _ rfl hb2 rfl) rfl ?_
   refine AA _ (AD rfl) rfl ?_
   rcases Bool.eq_false_or_eq_true (decide (((ns:Int)) = (0:Int))) with hb3 | hb3
   ·
    have hp3 : ((ns:Int)) = (0:Int) := of_decide_eq_true hb3
    refine AU 10 17 true _ (Ptr nb1 3) rfl rfl hb3 (AJ 3 22 1 A3 rfl A6 rfl rfl) rfl ?_
    refine AU 10 17 true _ (U64 bl) rfl rfl hb3 (AL rfl (AZ BC (MemAt.ent 0 rfl (AR (AR (AR (Seg.head))))))) rfl ?_
    refine AU 10 17 true _ (.bool (decide ((0:UInt64) < bl))) rfl rfl hb3 (AK rfl rfl fun _ => bin_gtr_u64 bl (0:UInt64)) rfl ?_
    refine AA _ (CG _ rfl hb3 rfl) rfl ?_
    refine AA _ (AD rfl) rfl ?_
    rcases Bool.eq_false_or_eq_true (decide ((0:UInt64) < bl)) with hb4 | hb4
    ·
     have hp4 : (0:UInt64) < bl := of_decide_eq_true hb4
     refine AU 15 22 true _ (Ptr nb1 3) rfl rfl hb4 (AJ 3 22 1 A3 rfl A6 rfl rfl) rfl ?_
     refine AU 15 22 true _ (U64 bl) rfl rfl hb4 (AL rfl (AZ BC (MemAt.ent 0 rfl (AR (AR (AR (Seg.head))))))) rfl ?_
     refine AU 15 22 true _ (.bool (decide (bl ≤ (4294967296:UInt64)))) rfl rfl hb4 (AK rfl rfl fun _ => bin_leq_u64 bl (4294967296:UInt64)) rfl ?_
     refine AA _ (CG _ rfl hb4 rfl) rfl ?_
     refine AA _ (AF rfl) rfl ?_
     refine AI (AE (BG (A0 (B5 [false] ?_))))
     show JQ _ _ _ _ []
     refine BI (.bool (decide (bl ≤ (4294967296:UInt64)))) (res1 DY (BK rfl)) fun w1 hw1 => ?_
     refine ⟨_, [], rfl, ⟨congrArg Value.bool ?_, rfl⟩, hw1.sub (by simp) (by simp)⟩
     unfold RightO
     rw [hl, hls]
     first | rw [if_pos (show kd = 1 by omega)] | rw [if_neg (show ¬ kd = 1 by omega), if_pos (show kd = 2 by omega)] | rw [if_neg (show ¬ kd = 1 by omega), if_neg (show ¬ kd = 2 by omega), if_pos (show kd = 3 by omega)] | rw [if_neg (show ¬ kd = 1 by omega), if_neg (show ¬ kd = 2 by omega), if_neg (show ¬ kd = 3 by omega)]
     rw [show decide ((1:UInt64) ≤ bl) = decide ((0:UInt64) < bl) from decide_eq_decide.2 (bl_pos bl).symm]
     first | rw [decide_eq_true (show ni + ns = 0 by omega), Bool.true_and] | rw [decide_eq_false (show ¬ ni + ns = 0 by omega), Bool.false_and]
     all_goals (first | rfl | (simp only [*, Bool.true_and, Bool.false_and, Bool.and_true, Bool.and_false, Bool.not_true, Bool.not_false]; done) | (simp [*]; done))
    ·
     have hp4 : ¬ ((0:UInt64) < bl) := of_decide_eq_false hb4
     refine AS 15 22 true _ rfl rfl hb4 rfl ?_
     refine AS 15 22 true _ rfl rfl hb4 rfl ?_
     refine AS 15 22 true _ rfl rfl hb4 rfl ?_
     refine AA _ (BX _ rfl hb4 rfl) rfl ?_
     refine AA _ (AF rfl) rfl ?_
     refine AI (AE (BG (A0 (B5 [false] ?_))))
     show JQ _ _ _ _ []
     refine BI (.bool false) (res1 DY (BK rfl)) fun w1 hw1 => ?_
     refine ⟨_, [], rfl, ⟨congrArg Value.bool ?_, rfl⟩, hw1.sub (by simp) (by simp)⟩
     unfold RightO
     rw [hl, hls]
     first | rw [if_pos (show kd = 1 by omega)] | rw [if_neg (show ¬ kd = 1 by omega), if_pos (show kd = 2 by omega)] | rw [if_neg (show ¬ kd = 1 by omega), if_neg (show ¬ kd = 2 by omega), if_pos (show kd = 3 by omega)] | rw [if_neg (show ¬ kd = 1 by omega), if_neg (show ¬ kd = 2 by omega), if_neg (show ¬ kd = 3 by omega)]
     rw [show decide ((1:UInt64) ≤ bl) = decide ((0:UInt64) < bl) from decide_eq_decide.2 (bl_pos bl).symm]
     first | rw [decide_eq_true (show ni + ns = 0 by omega), Bool.true_and] | rw [decide_eq_false (show ¬ ni + ns = 0 by omega), Bool.false_and]
     all_goals (first | rfl | (simp only [*, Bool.true_and, Bool.false_and, Bool.and_true, Bool.and_false, Bool.not_true, Bool.not_false]; done) | (simp [*]; done))
   ·
    have hp3 : ¬ (((ns:Int)) = (0:Int)) := of_decide_eq_false hb3
    refine AS 10 17 true _ rfl rfl hb3 rfl ?_
    refine AS 10 17 true _ rfl rfl hb3 rfl ?_
    refine AS 10 17 true _ rfl rfl hb3 rfl ?_
    refine AA _ (BX _ rfl hb3 rfl) rfl ?_
    refine AA _ (AD rfl) rfl ?_
    refine AS 15 22 true _ rfl rfl rfl rfl ?_
    refine AS 15 22 true _ rfl rfl rfl rfl ?_
    refine AS 15 22 true _ rfl rfl rfl rfl ?_
    refine AA _ (BX _ rfl rfl rfl) rfl ?_
    refine AA _ (AF rfl) rfl ?_
    refine AI (AE (BG (A0 (B5 [false] ?_))))
    show JQ _ _ _ _ []
    refine BI (.bool false) (res1 DY (BK rfl)) fun w1 hw1 => ?_
    refine ⟨_, [], rfl, ⟨congrArg Value.bool ?_, rfl⟩, hw1.sub (by simp) (by simp)⟩
    unfold RightO
    rw [hl, hls]
    first | rw [if_pos (show kd = 1 by omega)] | rw [if_neg (show ¬ kd = 1 by omega), if_pos (show kd = 2 by omega)] | rw [if_neg (show ¬ kd = 1 by omega), if_neg (show ¬ kd = 2 by omega), if_pos (show kd = 3 by omega)] | rw [if_neg (show ¬ kd = 1 by omega), if_neg (show ¬ kd = 2 by omega), if_neg (show ¬ kd = 3 by omega)]
    rw [show decide ((1:UInt64) ≤ bl) = decide ((0:UInt64) < bl) from decide_eq_decide.2 (bl_pos bl).symm]
    first | rw [decide_eq_true (show ni + ns = 0 by omega), Bool.true_and] | rw [decide_eq_false (show ¬ ni + ns = 0 by omega), Bool.false_and]
    all_goals (first | rfl | (simp only [*, Bool.true_and, Bool.false_and, Bool.and_true, Bool.and_false, Bool.not_true, Bool.not_false]; done) | (simp [*]; done))
  ·
   have hp2 : ¬ (((ni:Int)) = (0:Int)) := of_decide_eq_false hb2
   refine AS 4 11 true _ rfl rfl hb2 rfl ?_
   refine AS 4 11 true _ rfl rfl hb2 rfl ?_
   refine AS 4 11 true _ rfl rfl hb2 rfl ?_
   refine AS 4 11 true _ rfl rfl hb2 rfl ?_
   refine AA _ (BX _ rfl hb2 rfl) rfl ?_
   refine AA _ (AD rfl) rfl ?_
   refine AS 10 17 true _ rfl rfl rfl rfl ?_
   refine AS 10 17 true _ rfl rfl rfl rfl ?_
   refine AS 10 17 true _ rfl rfl rfl rfl ?_
   refine AA _ (BX _ rfl rfl rfl) rfl ?_
   refine AA _ (AD rfl) rfl ?_
   refine AS 15 22 true _ rfl rfl rfl rfl ?_
   refine AS 15 22 true _ rfl rfl rfl rfl ?_
   refine AS 15 22 true _ rfl rfl rfl rfl ?_
   refine AA _ (BX _ rfl rfl rfl) rfl ?_
   refine AA _ (AF rfl) rfl ?_
   refine AI (AE (BG (A0 (B5 [false] ?_))))
   show JQ _ _ _ _ []
   refine BI (.bool false) (res1 DY (BK rfl)) fun w1 hw1 => ?_
   refine ⟨_, [], rfl, ⟨congrArg Value.bool ?_, rfl⟩, hw1.sub (by simp) (by simp)⟩
   unfold RightO
   rw [hl, hls]
   first | rw [if_pos (show kd = 1 by omega)] | rw [if_neg (show ¬ kd = 1 by omega), if_pos (show kd = 2 by omega)] | rw [if_neg (show ¬ kd = 1 by omega), if_neg (show ¬ kd = 2 by omega), if_pos (show kd = 3 by omega)] | rw [if_neg (show ¬ kd = 1 by omega), if_neg (show ¬ kd = 2 by omega), if_neg (show ¬ kd = 3 by omega)]
   rw [show decide ((1:UInt64) ≤ bl) = decide ((0:UInt64) < bl) from decide_eq_decide.2 (bl_pos bl).symm]
   first | rw [decide_eq_true (show ni + ns = 0 by omega), Bool.true_and] | rw [decide_eq_false (show ¬ ni + ns = 0 by omega), Bool.false_and]
   all_goals (first | rfl | (simp only [*, Bool.true_and, Bool.false_and, Bool.and_true, Bool.and_false, Bool.not_true, Bool.not_false]; done) | (simp [*]; done))
 ·
  have hp1 : ¬ ((kd) = (3:Int)) := of_decide_eq_false hb1
  refine BE (AE (AG (AG (AC (AA (Ptr nb1 0) (AJ 0 3 1 A3 rfl B3 rfl rfl) rfl ?_)))))
  refine AA (I64 (kd)) (AL rfl (AZ B7 (MemAt.ent 0 rfl (Seg.head)))) rfl ?_
  refine AA (.bool (decide ((kd) ≠ (1:Int)))) (AK rfl rfl fun _ => bin_neq_i _ _) rfl ?_
  refine AA _ (AD rfl) rfl ?_
  rcases Bool.eq_false_or_eq_true (decide ((kd) ≠ (1:Int))) with hb5 | hb5
  ·
   have hp5 : (kd) ≠ (1:Int) := of_decide_eq_true hb5
   refine AU 3 30 true _ (Ptr nb1 0) rfl rfl hb5 (AJ 0 3 1 A3 rfl B3 rfl rfl) rfl ?_
   refine AU 3 30 true _ (I64 (kd)) rfl rfl hb5 (AL rfl (AZ B7 (MemAt.ent 0 rfl (Seg.head)))) rfl ?_
   refine AU 3 30 true _ (.bool (decide ((kd) ≠ (2:Int)))) rfl rfl hb5 (AK rfl rfl fun _ => bin_neq_i _ _) rfl ?_
   refine AA _ (CG _ rfl hb5 rfl) rfl ?_
   refine AA _ (AD rfl) rfl ?_
   rcases Bool.eq_false_or_eq_true (decide ((kd) ≠ (2:Int))) with hb6 | hb6
   ·
    have hp6 : (kd) ≠ (2:Int) := of_decide_eq_true hb6
    refine AS 8 35 false _ rfl rfl hb6 rfl ?_
    refine AS 8 35 false _ rfl rfl hb6 rfl ?_
    refine AS 8 35 false _ rfl rfl hb6 rfl ?_
    refine AA _ (CG _ rfl hb6 rfl) rfl ?_
    refine AA _ (AD rfl) rfl ?_
    refine AS 13 40 false _ rfl rfl rfl rfl ?_
    refine AS 13 40 false _ rfl rfl rfl rfl ?_
    refine AS 13 40 false _ rfl rfl rfl rfl ?_
    refine AS 13 40 false _ rfl rfl rfl rfl ?_
    refine AA _ (CG _ rfl rfl rfl) rfl ?_
    refine AI (AE (DM _ rfl rfl ?_))
    refine AG (AC (AA _ (AF rfl) rfl ?_))
    refine AI (AE (BG (A0 (B5 [false] ?_))))
    show JQ _ _ _ _ []
    refine BI (.bool false) (res1 DY (BK rfl)) fun w1 hw1 => ?_
    refine ⟨_, [], rfl, ⟨congrArg Value.bool ?_, rfl⟩, hw1.sub (by simp) (by simp)⟩
    unfold RightO
    rw [hl, hls]
    first | rw [if_pos (show kd = 1 by omega)] | rw [if_neg (show ¬ kd = 1 by omega), if_pos (show kd = 2 by omega)] | rw [if_neg (show ¬ kd = 1 by omega), if_neg (show ¬ kd = 2 by omega), if_pos (show kd = 3 by omega)] | rw [if_neg (show ¬ kd = 1 by omega), if_neg (show ¬ kd = 2 by omega), if_neg (show ¬ kd = 3 by omega)]
    all_goals (first | rfl | (simp [*]; done) | (simp_all; done) | (simp_all; omega))
   ·
    have hp6 : ¬ ((kd) ≠ (2:Int)) := of_decide_eq_false hb6
    refine AU 8 35 false _ (Ptr nb1 3) rfl rfl hb6 (AJ 3 22 1 A3 rfl A6 rfl rfl) rfl ?_
    refine AU 8 35 false _ (U64 bl) rfl rfl hb6 (AL rfl (AZ BC (MemAt.ent 0 rfl (AR (AR (AR (Seg.head))))))) rfl ?_
    refine AU 8 35 false _ (.bool (decide (bl ≠ (0:UInt64)))) rfl rfl hb6 (AK rfl rfl fun _ => EP bl (0:UInt64)) rfl ?_
    refine AA _ (BX _ rfl hb6 rfl) rfl ?_
    refine AA _ (AD rfl) rfl ?_
    rcases Bool.eq_false_or_eq_true (decide (bl ≠ (0:UInt64))) with hb7 | hb7
    ·
     have hp7 : bl ≠ (0:UInt64) := of_decide_eq_true hb7
     refine AS 13 40 false _ rfl rfl hb7 rfl ?_
     refine AS 13 40 false _ rfl rfl hb7 rfl ?_
     refine AS 13 40 false _ rfl rfl hb7 rfl ?_
     refine AS 13 40 false _ rfl rfl hb7 rfl ?_
     refine AA _ (CG _ rfl hb7 rfl) rfl ?_
     refine AI (AE (DM _ rfl rfl ?_))
     refine AG (AC (AA _ (AF rfl) rfl ?_))
     refine AI (AE (BG (A0 (B5 [false] ?_))))
     show JQ _ _ _ _ []
     refine BI (.bool false) (res1 DY (BK rfl)) fun w1 hw1 => ?_
     refine ⟨_, [], rfl, ⟨congrArg Value.bool ?_, rfl⟩, hw1.sub (by simp) (by simp)⟩
     unfold RightO
     rw [hl, hls]
     first | rw [if_pos (show kd = 1 by omega)] | rw [if_neg (show ¬ kd = 1 by omega), if_pos (show kd = 2 by omega)] | rw [if_neg (show ¬ kd = 1 by omega), if_neg (show ¬ kd = 2 by omega), if_pos (show kd = 3 by omega)] | rw [if_neg (show ¬ kd = 1 by omega), if_neg (show ¬ kd = 2 by omega), if_neg (show ¬ kd = 3 by omega)]
     all_goals (first | rfl | (simp [*]; done) | (simp_all; done) | (simp_all; omega))
    ·
     have hp7 : ¬ (bl ≠ (0:UInt64)) := of_decide_eq_false hb7
     refine AU 13 40 false _ (Ptr nb1 1) rfl rfl hb7 (AJ 1 23 1 A3 rfl CL rfl rfl) rfl ?_
     refine AU 13 40 false _ (.slice ai ni ci) rfl rfl hb7 (AL rfl (AZ CW (MemAt.ent 0 rfl (AR (Seg.head))))) rfl ?_
     refine FL 13 40 false _ rfl rfl hb7 (AT 79 [I64 (32:Int), .slice ai ni ci] (.bool (decide (RightI l))) (AW [I64 (32:Int), .slice ai ni ci] Tryd.call79 rfl) (fun w1 hw1 => rpright_c ai ni ci l w1 hl (by omega) (by omega) (by omega) (DD hw1 rfl hv))) rfl ?_
     rintro v1 L1 ⟨rfl, rfl⟩
     show JL _ _ _ _ ((43, .bool (decide (RightI l))) :: _) [_]
     refine AU 13 40 false _ (.bool (!(decide (RightI l)))) rfl rfl hb7 (ER rfl) rfl ?_
     refine AA _ (BX _ rfl hb7 rfl) rfl ?_
     refine AI (AE (CN (!(decide (RightI l))) rfl (fun hb8 => ?_) (fun hb8 => ?_)))
     ·
      have hb9 : (decide (RightI l)) = false := by simpa using hb8
      have hp9 : ¬ (RightI l) := of_decide_eq_false hb9
      refine AG (AC (AA _ (AF rfl) rfl ?_))
      refine AI (AE (BG (A0 (B5 [false] ?_))))
      show JQ _ _ _ _ []
      refine BI (.bool false) (res1 DY (BK rfl)) fun w1 hw1 => ?_
      refine ⟨_, [], rfl, ⟨congrArg Value.bool ?_, rfl⟩, hw1.sub (by simp) (by simp)⟩
      unfold RightO
      rw [hl, hls]
      first | rw [if_pos (show kd = 1 by omega)] | rw [if_neg (show ¬ kd = 1 by omega), if_pos (show kd = 2 by omega)] | rw [if_neg (show ¬ kd = 1 by omega), if_neg (show ¬ kd = 2 by omega), if_pos (show kd = 3 by omega)] | rw [if_neg (show ¬ kd = 1 by omega), if_neg (show ¬ kd = 2 by omega), if_neg (show ¬ kd = 3 by omega)]
      all_goals (first | rfl | (simp [*]; done) | (simp_all; done) | (simp_all; omega))
     ·
      have hb10 : (decide (RightI l)) = true := by simpa using hb8
      have hp10 : RightI l := of_decide_eq_true hb10
      refine BE (AE (AG (AG (AC (AA (Ptr nb1 0) (AJ 0 3 1 A3 rfl B3 rfl rfl) rfl ?_)))))
      refine AA (I64 (kd)) (AL rfl (AZ B7 (MemAt.ent 0 rfl (Seg.head)))) rfl ?_
      refine AA (.bool (decide ((kd) = (2:Int)))) (AK rfl rfl fun _ => CU _ _) rfl ?_
      refine AI (AE (DM _ rfl (decide_eq_true (by have := of_decide_eq_false hb6; omega)) ?_))
      refine AG (AC (AA (Ptr nb1 2) (AJ 2 34 1 A3 rfl C8 rfl rfl) rfl ?_))
      refine AA (.slice sa ns sc) (AL rfl (AZ D1 (MemAt.ent 0 rfl (AR (AR (Seg.head)))))) rfl ?_
      refine AA (I64 ((ns:Int))) (DJ C6 rfl) rfl ?_
      refine AA (.bool (decide (((ns:Int)) = (0:Int)))) (AK rfl rfl fun _ => CU _ _) rfl ?_
      refine AA _ (AF rfl) rfl ?_
      refine AI (AE (BG (A0 (B5 [false] ?_))))
      show JQ _ _ _ _ []
      refine BI (.bool (decide (((ns:Int)) = (0:Int)))) (res1 DY (BK rfl)) fun w1 hw1 => ?_
      refine ⟨_, [], rfl, ⟨congrArg Value.bool ?_, rfl⟩, hw1.sub (by simp) (by simp)⟩
      unfold RightO
      rw [hl, hls]
      first | rw [if_pos (show kd = 1 by omega)] | rw [if_neg (show ¬ kd = 1 by omega), if_pos (show kd = 2 by omega)] | rw [if_neg (show ¬ kd = 1 by omega), if_neg (show ¬ kd = 2 by omega), if_pos (show kd = 3 by omega)] | rw [if_neg (show ¬ kd = 1 by omega), if_neg (show ¬ kd = 2 by omega), if_neg (show ¬ kd = 3 by omega)]
      all_goals (first | rfl | (simp [*]; done) | (simp_all; done) | (simp_all; omega))
  ·
   have hp5 : ¬ ((kd) ≠ (1:Int)) := of_decide_eq_false hb5
   refine AS 3 30 true _ rfl rfl hb5 rfl ?_
   refine AS 3 30 true _ rfl rfl hb5 rfl ?_
   refine AS 3 30 true _ rfl rfl hb5 rfl ?_
   refine AA _ (BX _ rfl hb5 rfl) rfl ?_
   refine AA _ (AD rfl) rfl ?_
   refine AU 8 35 false _ (Ptr nb1 3) rfl rfl rfl (AJ 3 22 1 A3 rfl A6 rfl rfl) rfl ?_
   refine AU 8 35 false _ (U64 bl) rfl rfl rfl (AL rfl (AZ BC (MemAt.ent 0 rfl (AR (AR (AR (Seg.head))))))) rfl ?_
   refine AU 8 35 false _ (.bool (decide (bl ≠ (0:UInt64)))) rfl rfl rfl (AK rfl rfl fun _ => EP bl (0:UInt64)) rfl ?_
   refine AA _ (BX _ rfl rfl rfl) rfl ?_
   refine AA _ (AD rfl) rfl ?_
   rcases Bool.eq_false_or_eq_true (decide (bl ≠ (0:UInt64))) with hb11 | hb11
   ·
    have hp11 : bl ≠ (0:UInt64) := of_decide_eq_true hb11
    refine AS 13 40 false _ rfl rfl hb11 rfl ?_
    refine AS 13 40 false _ rfl rfl hb11 rfl ?_
    refine AS 13 40 false _ rfl rfl hb11 rfl ?_
    refine AS 13 40 false _ rfl rfl hb11 rfl ?_
    refine AA _ (CG _ rfl hb11 rfl) rfl ?_
    refine AI (AE (DM _ rfl rfl ?_))
    refine AG (AC (AA _ (AF rfl) rfl ?_))
    refine AI (AE (BG (A0 (B5 [false] ?_))))
    show JQ _ _ _ _ []
    refine BI (.bool false) (res1 DY (BK rfl)) fun w1 hw1 => ?_
    refine ⟨_, [], rfl, ⟨congrArg Value.bool ?_, rfl⟩, hw1.sub (by simp) (by simp)⟩
    unfold RightO
    rw [hl, hls]
    first | rw [if_pos (show kd = 1 by omega)] | rw [if_neg (show ¬ kd = 1 by omega), if_pos (show kd = 2 by omega)] | rw [if_neg (show ¬ kd = 1 by omega), if_neg (show ¬ kd = 2 by omega), if_pos (show kd = 3 by omega)] | rw [if_neg (show ¬ kd = 1 by omega), if_neg (show ¬ kd = 2 by omega), if_neg (show ¬ kd = 3 by omega)]
    all_goals (first | rfl | (simp [*]; done) | (simp_all; done) | (simp_all; omega))
   ·
    have hp11 : ¬ (bl ≠ (0:UInt64)) := of_decide_eq_false hb11
    refine AU 13 40 false _ (Ptr nb1 1) rfl rfl hb11 (AJ 1 23 1 A3 rfl CL rfl rfl) rfl ?_
    refine AU 13 40 false _ (.slice ai ni ci) rfl rfl hb11 (AL rfl (AZ CW (MemAt.ent 0 rfl (AR (Seg.head))))) rfl ?_
    refine FL 13 40 false _ rfl rfl hb11 (AT 79 [I64 (32:Int), .slice ai ni ci] (.bool (decide (RightI l))) (AW [I64 (32:Int), .slice ai ni ci] Tryd.call79 rfl) (fun w1 hw1 => rpright_c ai ni ci l w1 hl (by omega) (by omega) (by omega) (DD hw1 rfl hv))) rfl ?_
    rintro v1 L1 ⟨rfl, rfl⟩
    show JL _ _ _ _ ((43, .bool (decide (RightI l))) :: _) [_]
    refine AU 13 40 false _ (.bool (!(decide (RightI l)))) rfl rfl hb11 (ER rfl) rfl ?_
    refine AA _ (BX _ rfl hb11 rfl) rfl ?_
    refine AI (AE (CN (!(decide (RightI l))) rfl (fun hb12 => ?_) (fun hb12 => ?_)))
    ·
     have hb13 : (decide (RightI l)) = false := by simpa using hb12
     have hp13 : ¬ (RightI l) := of_decide_eq_false hb13
     refine AG (AC (AA _ (AF rfl) rfl ?_))
     refine AI (AE (BG (A0 (B5 [false] ?_))))
     show JQ _ _ _ _ []
     refine BI (.bool false) (res1 DY (BK rfl)) fun w1 hw1 => ?_
     refine ⟨_, [], rfl, ⟨congrArg Value.bool ?_, rfl⟩, hw1.sub (by simp) (by simp)⟩
     unfold RightO
     rw [hl, hls]
     first | rw [if_pos (show kd = 1 by omega)] | rw [if_neg (show ¬ kd = 1 by omega), if_pos (show kd = 2 by omega)] | rw [if_neg (show ¬ kd = 1 by omega), if_neg (show ¬ kd = 2 by omega), if_pos (show kd = 3 by omega)] | rw [if_neg (show ¬ kd = 1 by omega), if_neg (show ¬ kd = 2 by omega), if_neg (show ¬ kd = 3 by omega)]
     all_goals (first | rfl | (simp [*]; done) | (simp_all; done) | (simp_all; omega))
    ·
     have hb14 : (decide (RightI l)) = true := by simpa using hb12
     have hp14 : RightI l := of_decide_eq_true hb14
     refine BE (AE (AG (AG (AC (AA (Ptr nb1 0) (AJ 0 3 1 A3 rfl B3 rfl rfl) rfl ?_)))))
     refine AA (I64 (kd)) (AL rfl (AZ B7 (MemAt.ent 0 rfl (Seg.head)))) rfl ?_
     refine AA (.bool (decide ((kd) = (2:Int)))) (AK rfl rfl fun _ => CU _ _) rfl ?_
     refine AI (AE (CN (decide ((kd) = (2:Int))) rfl (fun hb15 => ?_) (fun hb15 => ?_)))
     ·
      have hp15 : (kd) = (2:Int) := of_decide_eq_true hb15
      refine AG (AC (AA (Ptr nb1 2) (AJ 2 34 1 A3 rfl C8 rfl rfl) rfl ?_))
      refine AA (.slice sa ns sc) (AL rfl (AZ D1 (MemAt.ent 0 rfl (AR (AR (Seg.head)))))) rfl ?_
      refine AA (I64 ((ns:Int))) (DJ C6 rfl) rfl ?_
      refine AA (.bool (decide (((ns:Int)) = (0:Int)))) (AK rfl rfl fun _ => CU _ _) rfl ?_
      refine AA _ (AF rfl) rfl ?_
      refine AI (AE (BG (A0 (B5 [false] ?_))))
      show JQ _ _ _ _ []
      refine BI (.bool (decide (((ns:Int)) = (0:Int)))) (res1 DY (BK rfl)) fun w1 hw1 => ?_
      refine ⟨_, [], rfl, ⟨congrArg Value.bool ?_, rfl⟩, hw1.sub (by simp) (by simp)⟩
      unfold RightO
      rw [hl, hls]
      first | rw [if_pos (show kd = 1 by omega)] | rw [if_neg (show ¬ kd = 1 by omega), if_pos (show kd = 2 by omega)] | rw [if_neg (show ¬ kd = 1 by omega), if_neg (show ¬ kd = 2 by omega), if_pos (show kd = 3 by omega)] | rw [if_neg (show ¬ kd = 1 by omega), if_neg (show ¬ kd = 2 by omega), if_neg (show ¬ kd = 3 by omega)]
      all_goals (first | rfl | (simp [*]; done) | (simp_all; done) | (simp_all; omega))
     ·
      have hp15 : ¬ ((kd) = (2:Int)) := of_decide_eq_false hb15
      refine BE (AE (AG (AG (AC (AA _ (AF rfl) rfl ?_)))))
      refine AI (AE (BH (DN (ι := Nat) (fun i => [(1, Ptr nb1 0), (3, I64 ((i:Int)))]) (fun i => [⟨nb1, [I64 (kd), .slice ai ni ci, .slice sa ns sc, U64 bl], 36, (0, 0)⟩]) (fun i => i ≤ ns ∧ ∀ k, k < i → ∀ y, ls[k]? = some y → (fun x => oddB (headE ls) (SealR.e x)) y = false) (fun i => ns - i) 0 ⟨by omega, fun k hk => absurd hk (by omega)⟩ (AH rfl (AH rfl (Sub.nil))) rfl ?_)))
      rintro i ⟨hi1, hi2⟩
      show JC _ _ _ [(1, Ptr nb1 0), (3, I64 ((i:Int)))] [⟨nb1, [I64 (kd), .slice ai ni ci, .slice sa ns sc, U64 bl], 36, (0, 0)⟩]
      refine AG (AG (AC (AA _ (AD rfl) rfl ?_)))
      refine AA (Ptr nb1 2) (AJ 2 34 1 A3 rfl C8 rfl rfl) rfl ?_
      refine AA (.slice sa ns sc) (AL rfl (AZ D1 (MemAt.ent 0 rfl (AR (AR (Seg.head)))))) rfl ?_
      refine AA (I64 ((ns:Int))) (DJ C6 rfl) rfl ?_
      refine AA (.bool (decide (((i:Int)) < ((ns:Int))))) (AK rfl rfl fun _ => CP _ _) rfl ?_
      refine AI (AE (CN (decide (((i:Int)) < ((ns:Int)))) rfl (fun hb16 => ?_) (fun hb16 => ?_)))
      ·
       have hp16 : ((i:Int)) < ((ns:Int)) := of_decide_eq_true hb16
       refine BE (AE (AG (BH (AG ?_))))
       obtain ⟨x1, hx1⟩ : ∃ x, ls[i]? = some x := ⟨_, List.getElem?_eq_getElem (by rw [hls]; omega)⟩
       obtain ⟨bz1, oz1, hz1, hm1⟩ := rows_at EK (by decide) hs hx1
       obtain ⟨x2, hx2⟩ : ∃ x, ls[0]? = some x := ⟨_, List.getElem?_eq_getElem (by rw [hls]; omega)⟩
       obtain ⟨bz2, oz2, hz2, hm2⟩ := rows_at EK (by decide) hs hx2
       rcases Bool.eq_false_or_eq_true (RightB (0:UInt64) x1.e) with hb17 | hb17
       ·
        refine C3 89 2 [(0, Ptr nb1 2), (1, .slice sa ns sc), (2, I64 ((i:Int))), (3, Ptr bz1 (49*i + oz1)), (4, Ptr bz1 (49*i + oz1)), (5, U64 x1.e)] BQ rfl (by decide +kernel) ?_
        refine BT ⟨[], [0, 1, 2, 3, 4, 5], [], [0, 1, 2, 3, 4, 5], [6]⟩ 6 _ rfl rfl (by decide +kernel) rfl ⟨⟨_, rfl, AB rfl (AJ 2 34 1 A3 rfl C8 rfl rfl)⟩, ⟨_, rfl, AB rfl (AL rfl (AZ D1 (MemAt.ent 0 rfl (AR (AR (Seg.head))))))⟩, ⟨_, rfl, AB rfl (AD rfl)⟩, ⟨_, rfl, AB rfl (CF 164 49 (49*i + oz1) C6 DX rfl hz1 rfl (by omega) (by omega) (by omega))⟩, ⟨_, rfl, AB rfl (AJ 0 22 1 Tryd.underlying164 rfl A6 rfl rfl)⟩, ⟨_, rfl, AB rfl (AL rfl (AZ BC (CA (hm1.mem (by simp)) (BV (BV (Seg.head))) (by omega))))⟩, trivial⟩ rfl (A1 rfl (AT 111 [U64 (0:UInt64), U64 x1.e] (.bool (RightB (0:UInt64) x1.e)) (AW [U64 (0:UInt64), U64 x1.e] Tryd.call111 rfl) (fun w1 hw1 => rright_c (0:UInt64) x1.e w1 ))) ?_
        rintro v1 L1 ⟨rfl, rfl⟩
        refine ⟨[(7, .bool (!(RightB (0:UInt64) x1.e))), (8, .bool (!(RightB (0:UInt64) x1.e))), (9, Ptr nb1 2), (10, .slice sa ns sc), (11, I64 ((i:Int))), (12, Ptr bz1 (49*i + oz1)), (13, Ptr bz1 (49*i + oz1)), (14, U64 x1.e), (15, Ptr nb1 2), (16, .slice sa ns sc), (17, Ptr bz2 oz2), (18, Ptr bz2 oz2), (19, U64 x2.e), (20, .bool (decide (x1.e ≠ x2.e))), (21, .bool (decide (x1.e ≠ x2.e)))], ?_⟩
        show DP _ _ _ _ _ _ _ _ [_]
        refine DG ⟨[6], [0, 1, 2, 3, 4, 5, 7, 8, 9, 10, 11, 12, 13, 14, 15, 16, 17, 18, 19, 20, 21], [0, 1, 2, 3, 4, 5], [7, 8, 9, 10, 11, 12, 13, 14, 15, 16, 17, 18, 19, 20, 21], []⟩ rfl rfl (by decide +kernel) rfl ⟨⟨_, rfl, AB rfl (ER rfl)⟩, ⟨_, rfl, AB rfl (AD rfl)⟩, ⟨_, rfl, BW 8 68 false _ rfl rfl rfl (by rw [show (RightB (0:UInt64) x1.e) = true from hb17] <;> rfl) (AJ 2 34 1 A3 rfl C8 rfl rfl)⟩, ⟨_, rfl, BW 8 68 false _ rfl rfl rfl (by rw [show (RightB (0:UInt64) x1.e) = true from hb17] <;> rfl) (AL rfl (AZ D1 (MemAt.ent 0 rfl (AR (AR (Seg.head))))))⟩, ⟨_, rfl, BW 8 68 false _ rfl rfl rfl (by rw [show (RightB (0:UInt64) x1.e) = true from hb17] <;> rfl) (AD rfl)⟩, ⟨_, rfl, BW 8 68 false _ rfl rfl rfl (by rw [show (RightB (0:UInt64) x1.e) = true from hb17] <;> rfl) (CF 164 49 (49*i + oz1) C6 DX rfl hz1 rfl (by omega) (by omega) (by omega))⟩, ⟨_, rfl, BW 8 68 false _ rfl rfl rfl (by rw [show (RightB (0:UInt64) x1.e) = true from hb17] <;> rfl) (AJ 0 22 1 Tryd.underlying164 rfl A6 rfl rfl)⟩, ⟨_, rfl, BW 8 68 false _ rfl rfl rfl (by rw [show (RightB (0:UInt64) x1.e) = true from hb17] <;> rfl) (AL rfl (AZ BC (CA (hm1.mem (by simp)) (BV (BV (Seg.head))) (by omega))))⟩, ⟨_, rfl, BW 8 68 false _ rfl rfl rfl (by rw [show (RightB (0:UInt64) x1.e) = true from hb17] <;> rfl) (AJ 2 34 1 A3 rfl C8 rfl rfl)⟩, ⟨_, rfl, BW 8 68 false _ rfl rfl rfl (by rw [show (RightB (0:UInt64) x1.e) = true from hb17] <;> rfl) (AL rfl (AZ D1 (MemAt.ent 0 rfl (AR (AR (Seg.head))))))⟩, ⟨_, rfl, BW 8 68 false _ rfl rfl rfl (by rw [show (RightB (0:UInt64) x1.e) = true from hb17] <;> rfl) (CF 164 49 oz2 C6 DX rfl hz2 rfl (by omega) (by omega) (by omega))⟩, ⟨_, rfl, BW 8 68 false _ rfl rfl rfl (by rw [show (RightB (0:UInt64) x1.e) = true from hb17] <;> rfl) (AJ 0 22 1 Tryd.underlying164 rfl A6 rfl rfl)⟩, ⟨_, rfl, BW 8 68 false _ rfl rfl rfl (by rw [show (RightB (0:UInt64) x1.e) = true from hb17] <;> rfl) (AL rfl (AZ BC (CA (hm2.mem (by simp)) (BV (BV (Seg.head))) (by omega))))⟩, ⟨_, rfl, BW 8 68 false _ rfl rfl rfl (by rw [show (RightB (0:UInt64) x1.e) = true from hb17] <;> rfl) (AK rfl rfl fun _ => EP x1.e x2.e)⟩, ⟨_, rfl, AB rfl (BX _ rfl (by rw [show (RightB (0:UInt64) x1.e) = true from hb17] <;> rfl) rfl)⟩, trivial⟩ ?_
        refine CZ (F' := [(60, Ptr nb1 2), (61, .slice sa ns sc), (62, I64 ((i:Int))), (63, Ptr bz1 (49*i + oz1)), (64, Ptr bz1 (49*i + oz1)), (65, U64 x1.e), (66, .bool (RightB (0:UInt64) x1.e)), (67, .bool (!(RightB (0:UInt64) x1.e))), (68, .bool (!(RightB (0:UInt64) x1.e))), (69, Ptr nb1 2), (70, .slice sa ns sc), (71, I64 ((i:Int))), (72, Ptr bz1 (49*i + oz1)), (73, Ptr bz1 (49*i + oz1)), (74, U64 x1.e), (75, Ptr nb1 2), (76, .slice sa ns sc), (77, Ptr bz2 oz2), (78, Ptr bz2 oz2), (79, U64 x2.e), (80, .bool (decide (x1.e ≠ x2.e))), (81, .bool (decide (x1.e ≠ x2.e))), (1, Ptr nb1 0), (3, I64 ((i:Int))), (53, I64 ((i:Int))), (54, Ptr nb1 2), (55, .slice sa ns sc), (56, I64 ((ns:Int))), (57, .bool (decide (((i:Int)) < ((ns:Int)))))]) (by kernel_rfl) ?_
        refine AE (CN (decide (x1.e ≠ x2.e)) rfl (fun hb18 => ?_) (fun hb18 => ?_))
        ·
         have hp18 : x1.e ≠ x2.e := of_decide_eq_true hb18
         refine AG (AC (AA _ (AF rfl) rfl ?_))
         refine AI (AE (BG (C0 (A0 (A0 (C0 (A0 (B5 [false] ?_))))))))
         show JQ _ _ _ _ []
         refine BI (.bool false) (res1 DY (BK rfl)) fun w1 hw1 => ?_
         refine ⟨_, [], rfl, ⟨congrArg Value.bool ?_, rfl⟩, hw1.sub (by simp) (by simp)⟩
         unfold RightO
         rw [hl, hls]
         first | rw [if_pos (show kd = 1 by omega)] | rw [if_neg (show ¬ kd = 1 by omega), if_pos (show kd = 2 by omega)] | rw [if_neg (show ¬ kd = 1 by omega), if_neg (show ¬ kd = 2 by omega), if_pos (show kd = 3 by omega)] | rw [if_neg (show ¬ kd = 1 by omega), if_neg (show ¬ kd = 2 by omega), if_neg (show ¬ kd = 3 by omega)]
         have ha : ls.any (fun x => oddB (headE ls) (SealR.e x)) = true := any_odd hx1 (by first | (simp [oddB, *]; done) | (rw [headE_of hx2]; simp [oddB, *]; done))
         simp [*]
        ·
         have hp18 : ¬ (x1.e ≠ x2.e) := of_decide_eq_false hb18
         refine BE (BA (AE (AC (AA _ (AD rfl) rfl ?_))))
         refine AA (I64 ((i:Int) + 1)) (AK rfl rfl fun _ => CH _ _ ((i:Int) + 1) (by omega) (by omega)) rfl ?_
         refine AA _ (AF rfl) rfl ?_
         refine AI (CR (DT (i + 1) ⟨by omega, find_step hx1 (by show oddB (headE ls) x1.e = false; rw [headE_of hx2]; simp [oddB, *]) hi2⟩ (by first | (simp; omega) | simp | (dsimp only; omega) | omega) (AH rfl (AH rfl (Sub.nil))) rfl))
       ·
        refine C3 89 2 [(0, Ptr nb1 2), (1, .slice sa ns sc), (2, I64 ((i:Int))), (3, Ptr bz1 (49*i + oz1)), (4, Ptr bz1 (49*i + oz1)), (5, U64 x1.e)] BQ rfl (by decide +kernel) ?_
        refine BT ⟨[], [0, 1, 2, 3, 4, 5], [], [0, 1, 2, 3, 4, 5], [6]⟩ 6 _ rfl rfl (by decide +kernel) rfl ⟨⟨_, rfl, AB rfl (AJ 2 34 1 A3 rfl C8 rfl rfl)⟩, ⟨_, rfl, AB rfl (AL rfl (AZ D1 (MemAt.ent 0 rfl (AR (AR (Seg.head))))))⟩, ⟨_, rfl, AB rfl (AD rfl)⟩, ⟨_, rfl, AB rfl (CF 164 49 (49*i + oz1) C6 DX rfl hz1 rfl (by omega) (by omega) (by omega))⟩, ⟨_, rfl, AB rfl (AJ 0 22 1 Tryd.underlying164 rfl A6 rfl rfl)⟩, ⟨_, rfl, AB rfl (AL rfl (AZ BC (CA (hm1.mem (by simp)) (BV (BV (Seg.head))) (by omega))))⟩, trivial⟩ rfl (A1 rfl (AT 111 [U64 (0:UInt64), U64 x1.e] (.bool (RightB (0:UInt64) x1.e)) (AW [U64 (0:UInt64), U64 x1.e] Tryd.call111 rfl) (fun w1 hw1 => rright_c (0:UInt64) x1.e w1 ))) ?_
        rintro v1 L1 ⟨rfl, rfl⟩
        refine ⟨[(7, .bool (!(RightB (0:UInt64) x1.e))), (8, .bool (!(RightB (0:UInt64) x1.e))), (9, undef), (10, undef), (11, undef), (12, undef), (13, undef), (14, undef), (15, undef), (16, undef), (17, undef), (18, undef), (19, undef), (20, undef), (21, .bool true)], ?_⟩
        show DP _ _ _ _ _ _ _ _ [_]
        refine DG ⟨[6], [0, 1, 2, 3, 4, 5, 7, 8, 9, 10, 11, 12, 13, 14, 15, 16, 17, 18, 19, 20, 21], [0, 1, 2, 3, 4, 5], [7, 8, 9, 10, 11, 12, 13, 14, 15, 16, 17, 18, 19, 20, 21], []⟩ rfl rfl (by decide +kernel) rfl ⟨⟨_, rfl, AB rfl (ER rfl)⟩, ⟨_, rfl, AB rfl (AD rfl)⟩, ⟨_, rfl, CS 8 68 false _ rfl rfl rfl (by rw [show (RightB (0:UInt64) x1.e) = false from hb17] <;> rfl)⟩, ⟨_, rfl, CS 8 68 false _ rfl rfl rfl (by rw [show (RightB (0:UInt64) x1.e) = false from hb17] <;> rfl)⟩, ⟨_, rfl, CS 8 68 false _ rfl rfl rfl (by rw [show (RightB (0:UInt64) x1.e) = false from hb17] <;> rfl)⟩, ⟨_, rfl, CS 8 68 false _ rfl rfl rfl (by rw [show (RightB (0:UInt64) x1.e) = false from hb17] <;> rfl)⟩, ⟨_, rfl, CS 8 68 false _ rfl rfl rfl (by rw [show (RightB (0:UInt64) x1.e) = false from hb17] <;> rfl)⟩, ⟨_, rfl, CS 8 68 false _ rfl rfl rfl (by rw [show (RightB (0:UInt64) x1.e) = false from hb17] <;> rfl)⟩, ⟨_, rfl, CS 8 68 false _ rfl rfl rfl (by rw [show (RightB (0:UInt64) x1.e) = false from hb17] <;> rfl)⟩, ⟨_, rfl, CS 8 68 false _ rfl rfl rfl (by rw [show (RightB (0:UInt64) x1.e) = false from hb17] <;> rfl)⟩, ⟨_, rfl, CS 8 68 false _ rfl rfl rfl (by rw [show (RightB (0:UInt64) x1.e) = false from hb17] <;> rfl)⟩, ⟨_, rfl, CS 8 68 false _ rfl rfl rfl (by rw [show (RightB (0:UInt64) x1.e) = false from hb17] <;> rfl)⟩, ⟨_, rfl, CS 8 68 false _ rfl rfl rfl (by rw [show (RightB (0:UInt64) x1.e) = false from hb17] <;> rfl)⟩, ⟨_, rfl, CS 8 68 false _ rfl rfl rfl (by rw [show (RightB (0:UInt64) x1.e) = false from hb17] <;> rfl)⟩, ⟨_, rfl, AB rfl (CG _ rfl (by rw [show (RightB (0:UInt64) x1.e) = false from hb17] <;> rfl) rfl)⟩, trivial⟩ ?_
        refine CZ (F' := [(60, Ptr nb1 2), (61, .slice sa ns sc), (62, I64 ((i:Int))), (63, Ptr bz1 (49*i + oz1)), (64, Ptr bz1 (49*i + oz1)), (65, U64 x1.e), (66, .bool (RightB (0:UInt64) x1.e)), (67, .bool (!(RightB (0:UInt64) x1.e))), (68, .bool (!(RightB (0:UInt64) x1.e))), (69, undef), (70, undef), (71, undef), (72, undef), (73, undef), (74, undef), (75, undef), (76, undef), (77, undef), (78, undef), (79, undef), (80, undef), (81, .bool true), (1, Ptr nb1 0), (3, I64 ((i:Int))), (53, I64 ((i:Int))), (54, Ptr nb1 2), (55, .slice sa ns sc), (56, I64 ((ns:Int))), (57, .bool (decide (((i:Int)) < ((ns:Int)))))]) (by kernel_rfl) ?_
        refine AE (DM _ rfl rfl ?_)
        refine AG (AC (AA _ (AF rfl) rfl ?_))
        refine AI (AE (BG (C0 (A0 (A0 (C0 (A0 (B5 [false] ?_))))))))
        show JQ _ _ _ _ []
        refine BI (.bool false) (res1 DY (BK rfl)) fun w1 hw1 => ?_
        refine ⟨_, [], rfl, ⟨congrArg Value.bool ?_, rfl⟩, hw1.sub (by simp) (by simp)⟩
        unfold RightO
        rw [hl, hls]
        first | rw [if_pos (show kd = 1 by omega)] | rw [if_neg (show ¬ kd = 1 by omega), if_pos (show kd = 2 by omega)] | rw [if_neg (show ¬ kd = 1 by omega), if_neg (show ¬ kd = 2 by omega), if_pos (show kd = 3 by omega)] | rw [if_neg (show ¬ kd = 1 by omega), if_neg (show ¬ kd = 2 by omega), if_neg (show ¬ kd = 3 by omega)]
        have ha : ls.any (fun x => oddB (headE ls) (SealR.e x)) = true := any_odd hx1 (by first | (simp [oddB, *]; done) | (rw [headE_of hx2]; simp [oddB, *]; done))
        simp [*]
      ·
       have hp16 : ¬ (((i:Int)) < ((ns:Int))) := of_decide_eq_false hb16
       refine DL (AX (AX (CC (AE (AG (AC (AA (Ptr nb1 2) (AJ 2 34 1 A3 rfl C8 rfl rfl) rfl ?_)))))))
       refine AA (.slice sa ns sc) (AL rfl (AZ D1 (MemAt.ent 0 rfl (AR (AR (Seg.head)))))) rfl ?_
       refine AA (I64 ((ns:Int))) (DJ C6 rfl) rfl ?_
       refine AA (Ptr nb1 1) (AJ 1 23 1 A3 rfl CL rfl rfl) rfl ?_
       refine AA (.slice ai ni ci) (AL rfl (AZ CW (MemAt.ent 0 rfl (AR (Seg.head))))) rfl ?_
       refine AA (I64 ((ni:Int))) (DJ A9 rfl) rfl ?_
       refine AA (.bool (decide (((ns:Int)) = ((ni:Int))))) (AK rfl rfl fun _ => CU _ _) rfl ?_
       refine AA _ (AF rfl) rfl ?_
       refine AI (AE (BG (B5 [false] ?_)))
       show JQ _ _ _ _ []
       refine BI (.bool (decide (((ns:Int)) = ((ni:Int))))) (res1 DY (BK rfl)) fun w1 hw1 => ?_
       refine ⟨_, [], rfl, ⟨congrArg Value.bool ?_, rfl⟩, hw1.sub (by simp) (by simp)⟩
       unfold RightO
       rw [hl, hls]
       first | rw [if_pos (show kd = 1 by omega)] | rw [if_neg (show ¬ kd = 1 by omega), if_pos (show kd = 2 by omega)] | rw [if_neg (show ¬ kd = 1 by omega), if_neg (show ¬ kd = 2 by omega), if_pos (show kd = 3 by omega)] | rw [if_neg (show ¬ kd = 1 by omega), if_neg (show ¬ kd = 2 by omega), if_neg (show ¬ kd = 3 by omega)]
       have ha : ls.any (fun x => oddB (headE ls) (SealR.e x)) = false := any_no (by rw [hls]; intro k hk; exact hi2 k (by omega))
       rw [ha, decide_eq_true (Classical.not_not.1 ‹¬ bl ≠ 0›), decide_eq_true ‹RightI l›]
       simp only [Bool.true_and, Bool.not_false, Bool.and_true]
       exact decide_eq_decide.2 (by omega)
theorem rfits13_c (kd : Int) (ai : Option Addr) (ni ci : Nat) (l : List UInt64) (sa : Option Addr) (ns sc : Nat) (ls : List SealR) (bl : UInt64) (blk : UInt64)  (w : World) (hl : l.length = ni) (hnm : ni ≤ 2000000) (hnc : ni ≤ ci) (hcm : ci ≤ maxLen) (hv : RdV w ai (cu64 l)) (hls : ls.length = ns) (hnn : ns ≤ 2000000) (hnd : ns ≤ sc) (hcn : sc ≤ maxLen) (hs : RdV w sa (ls.flatMap sealC))  : Calls Tryd.prog 71 #[.agg (List.toArray (α := Value) ([I64 (kd), .slice ai ni ci, .slice sa ns sc, U64 bl])), U64 blk] w (Post w [] (fun v L => v = .bool (RightO kd l ls bl && !(l.any (fun x => decide (blk ≤ x)))) ∧ L = [])) := by
 have hmx : maxLen = 9223372036854775807 := rfl
 refine enter (P := Tryd.prog) (f := 71) (fn := Tryd.f71) w [] 22 [] [.agg (List.toArray (α := Value) ([I64 (kd), .slice ai ni ci, .slice sa ns sc, U64 bl])), U64 blk] Tryd.func71 rfl rfl (by simp) (BL (by simp) (by simp) (by simp)) ?_
 show JC _ _ _ [(0, .agg (List.toArray (α := Value) ([I64 (kd), .slice ai ni ci, .slice sa ns sc, U64 bl]))), (1, U64 blk)] _
 refine AG (AC (AN (CM (.agg (List.toArray (α := Value) ([I64 (kd), .slice ai ni ci, .slice sa ns sc, U64 bl]))) ([I64 (kd), .slice ai ni ci, .slice sa ns sc, U64 bl]) rfl (by first | rfl | simp)) rfl ?_))
 rintro v1 L1 ⟨nb1, hnb1, rfl, rfl⟩
 show JL _ _ _ _ ((2, Ptr nb1 0) :: _) [⟨nb1, [I64 (kd), .slice ai ni ci, .slice sa ns sc, U64 bl], 36, (0, 0)⟩]
 refine AA _ (AF rfl) rfl ?_
 refine AI (AE (AG (AG (AC (AA _ (AF rfl) rfl ?_)))))
 refine AI (AE (BH (DN (ι := Nat) (fun i => [(1, U64 blk), (2, Ptr nb1 0), (5, I64 ((i:Int)))]) (fun i => [⟨nb1, [I64 (kd), .slice ai ni ci, .slice sa ns sc, U64 bl], 36, (0, 0)⟩]) (fun i => i ≤ ni ∧ ∀ k, k < i → ∀ y, l[k]? = some y → (fun x => decide (blk ≤ x)) y = false) (fun i => ni - i) 0 ⟨by omega, fun k hk => absurd hk (by omega)⟩ (AH rfl (AH rfl (AH rfl (Sub.nil)))) rfl ?_)))
 rintro i ⟨hi1, hi2⟩
 show JC _ _ _ [(1, U64 blk), (2, Ptr nb1 0), (5, I64 ((i:Int)))] [⟨nb1, [I64 (kd), .slice ai ni ci, .slice sa ns sc, U64 bl], 36, (0, 0)⟩]
 refine AG (AG (AC (AA _ (AD rfl) rfl ?_)))
 refine AA (Ptr nb1 1) (AJ 1 23 1 A3 rfl CL rfl rfl) rfl ?_
 refine AA (.slice ai ni ci) (AL rfl (AZ CW (MemAt.ent 0 rfl (AR (Seg.head))))) rfl ?_
 refine AA (I64 ((ni:Int))) (DJ A9 rfl) rfl ?_
 refine AA (.bool (decide (((i:Int)) < ((ni:Int))))) (AK rfl rfl fun _ => CP _ _) rfl ?_
 refine AI (AE (CN (decide (((i:Int)) < ((ni:Int)))) rfl (fun hb1 => ?_) (fun hb1 => ?_)))
 ·
  have hp1 : ((i:Int)) < ((ni:Int)) := of_decide_eq_true hb1
  refine BE (AE (AG (BH (AG (AC (AA (Ptr nb1 1) (AJ 1 23 1 A3 rfl CL rfl rfl) rfl ?_))))))
  refine AA (.slice ai ni ci) (AL rfl (AZ CW (MemAt.ent 0 rfl (AR (Seg.head))))) rfl ?_
  refine AA _ (AD rfl) rfl ?_
  obtain ⟨bz1, oz1, hz1, hm1⟩ := RdV.pos hv (by rw [EN, hl]; omega)
  refine AA (Ptr bz1 (i + oz1)) (CF 22 1 (i + oz1) A9 A6 rfl hz1 rfl (by omega) (by omega) (by omega)) rfl ?_
  refine AA (U64 (g64 l i)) (AL rfl (AZ BC (CA (hm1.mem (by simp)) (Seg.get (FK (i := i) (by rw [hl]; omega))) (by omega)))) rfl ?_
  refine AA _ (AD rfl) rfl ?_
  refine AA (.bool (decide (blk ≤ (g64 l i)))) (AK rfl rfl fun _ => EQ (g64 l i) blk) rfl ?_
  refine AI (AE (CN (decide (blk ≤ (g64 l i))) rfl (fun hb2 => ?_) (fun hb2 => ?_)))
  ·
   have hp2 : blk ≤ (g64 l i) := of_decide_eq_true hb2
   refine AG (AC (AA _ (AF rfl) rfl ?_))
   refine AI (AE (BG (C0 (A0 (A0 (C0 (A0 (B5 [false] ?_))))))))
   show JQ _ _ _ _ []
   refine BI (.bool false) (res1 Tryd.results71 (BK rfl)) fun w1 hw1 => ?_
   refine ⟨_, [], rfl, ⟨congrArg Value.bool ?_, rfl⟩, hw1.sub (by simp) (by simp)⟩
   rw [show l.any (fun x => decide (blk ≤ x)) = true from any_odd (g64_at (i := i) (by omega)) (by assumption)]
   simp
  ·
   have hp2 : ¬ (blk ≤ (g64 l i)) := of_decide_eq_false hb2
   refine BE (BA (AE (AC (AA _ (AD rfl) rfl ?_))))
   refine AA (I64 ((i:Int) + 1)) (AK rfl rfl fun _ => CH _ _ ((i:Int) + 1) (by omega) (by omega)) rfl ?_
   refine AA _ (AF rfl) rfl ?_
   refine AI (CR (DT (i + 1) ⟨by omega, find_step (g64_at (i := i) (by omega)) (by assumption) hi2⟩ (by first | (simp; omega) | simp | (dsimp only; omega) | omega) (AH rfl (AH rfl (AH rfl (Sub.nil)))) rfl))
 ·
  have hp1 : ¬ (((i:Int)) < ((ni:Int))) := of_decide_eq_false hb1
  refine DL (AX (AX (CC (AE (AG (AC (AA (.agg (List.toArray (α := Value) ([I64 (kd), .slice ai ni ci, .slice sa ns sc, U64 bl]))) (AL rfl (BO DO CQ rfl (MemAt.ent 0 rfl (AM _)))) rfl ?_)))))))
  refine AN (AT 67 [.agg (List.toArray (α := Value) ([I64 (kd), .slice ai ni ci, .slice sa ns sc, U64 bl]))] (.bool (RightO (kd) l ls bl)) (AW [.agg (List.toArray (α := Value) ([I64 (kd), .slice ai ni ci, .slice sa ns sc, U64 bl]))] Tryd.call67 rfl) (fun w1 hw1 => rright13_c (kd) ai ni ci l sa ns sc ls bl w1 hl (by omega) (by omega) (by omega) (DD hw1 rfl hv) hls (by omega) (by omega) (by omega) (DD hw1 rfl hs))) rfl ?_
  rintro v1 L1 ⟨rfl, rfl⟩
  show JL _ _ _ _ ((21, .bool (RightO (kd) l ls bl)) :: _) [_]
  refine AA _ (AF rfl) rfl ?_
  refine AI (AE (BG (B5 [false] ?_)))
  show JQ _ _ _ _ []
  refine BI (.bool (RightO (kd) l ls bl)) (res1 Tryd.results71 (BK rfl)) fun w1 hw1 => ?_
  refine ⟨_, [], rfl, ⟨congrArg Value.bool ?_, rfl⟩, hw1.sub (by simp) (by simp)⟩
  rw [show l.any (fun x => decide (blk ≤ x)) = false from any_no (by rw [hl]; intro k hk; exact hi2 k (by omega))]
  simp
end Go.Proofs.YtkdpdgpphpngeaaDoor
namespace Go.Proofs.YtkdpdgpphpngeaaDoor
open Go Go.Sx
set_option linter.unusedVariables false
set_option linter.unusedSimpArgs false
set_option maxRecDepth 100000
attribute [local irreducible] mid zr8 zr32 numK rnK rotr wordL spreadL comprL cpN adN spN wrdN constL initL padL stN outN routN sumG putL leafT joinT empL empA empR RightB
theorem large_c (kd : Int) (ai : Option Addr) (ni ci : Nat) (l : List UInt64) (sa : Option Addr) (ns sc : Nat) (ls : List SealR) (bl : UInt64)  (w : World) : Calls Tryd.prog 18 #[.agg (List.toArray (α := Value) ([I64 (kd), .slice ai ni ci, .slice sa ns sc, U64 bl]))] w (Post w [] (fun v L => v = .bool (decide (LargeP ni ns)) ∧ L = [])) := by
 refine enter (P := Tryd.prog) (f := 18) (fn := Tryd.f18) w [] 25 [] [.agg (List.toArray (α := Value) ([I64 (kd), .slice ai ni ci, .slice sa ns sc, U64 bl]))] Tryd.func18 rfl rfl (by simp) (BL (by simp) (by simp) (by simp)) ?_
 show JC _ _ _ [(0, .agg (List.toArray (α := Value) ([I64 (kd), .slice ai ni ci, .slice sa ns sc, U64 bl])))] _
 refine AG (AC (AN (CM (.agg (List.toArray (α := Value) ([I64 (kd), .slice ai ni ci, .slice sa ns sc, U64 bl]))) ([I64 (kd), .slice ai ni ci, .slice sa ns sc, U64 bl]) rfl (by first | rfl | simp)) rfl ?_))
 rintro v1 L1 ⟨nb1, hnb1, rfl, rfl⟩
 show JL _ _ _ _ ((1, Ptr nb1 0) :: _) [⟨nb1, [I64 (kd), .slice ai ni ci, .slice sa ns sc, U64 bl], 26, (0, 0)⟩]
 refine AA _ (AF rfl) rfl ?_
 refine AI (AE (AG (AC (AA (Ptr nb1 1) (AJ 1 23 1 AO rfl CL rfl rfl) rfl ?_))))
 refine AA (.slice ai ni ci) (AL rfl (AZ CW (MemAt.ent 0 rfl (AR (Seg.head))))) rfl ?_
 refine AA (I64 ((ni:Int))) (DJ A9 rfl) rfl ?_
 refine AA (.bool (decide ((300:Int) < ((ni:Int))))) (AK rfl rfl fun _ => E2 _ _) rfl ?_
 refine AA _ (AD rfl) rfl ?_
 rcases Bool.eq_false_or_eq_true (decide ((300:Int) < ((ni:Int)))) with hb1 | hb1
 ·
  have hp1 : (300:Int) < ((ni:Int)) := of_decide_eq_true hb1
  refine AS 4 7 false _ rfl rfl hb1 rfl ?_
  refine AS 4 7 false _ rfl rfl hb1 rfl ?_
  refine AS 4 7 false _ rfl rfl hb1 rfl ?_
  refine AS 4 7 false _ rfl rfl hb1 rfl ?_
  refine AA _ (CG _ rfl hb1 rfl) rfl ?_
  refine AA _ (AD rfl) rfl ?_
  refine AS 10 13 false _ rfl rfl rfl rfl ?_
  refine AS 10 13 false _ rfl rfl rfl rfl ?_
  refine AS 10 13 false _ rfl rfl rfl rfl ?_
  refine AS 10 13 false _ rfl rfl rfl rfl ?_
  refine AS 10 13 false _ rfl rfl rfl rfl ?_
  refine EJ 15 18 true rfl rfl rfl ?_
  refine EJ 15 18 true rfl rfl rfl ?_
  refine EJ 15 18 true rfl rfl rfl ?_
  refine EJ 15 18 true rfl rfl rfl ?_
  refine AS 10 13 false _ rfl rfl rfl rfl ?_
  refine AA _ (CG _ rfl rfl rfl) rfl ?_
  refine AA _ (AF rfl) rfl ?_
  refine AI (AE (BG (BI (.bool true) (res1 Tryd.results18 (BK rfl)) fun w1 hw1 => ?_)))
  refine ⟨_, [], rfl, ⟨congrArg Value.bool ?_, rfl⟩, hw1.sub (by simp) (by simp)⟩
  first | exact (decide_eq_true (by unfold LargeP; omega)).symm | exact (decide_eq_false (by unfold LargeP; omega)).symm | exact decide_eq_decide.2 (by unfold LargeP; omega)
 ·
  have hp1 : ¬ ((300:Int) < ((ni:Int))) := of_decide_eq_false hb1
  refine AU 4 7 false _ (Ptr nb1 2) rfl rfl hb1 (AJ 2 24 1 AO rfl DC rfl rfl) rfl ?_
  refine AU 4 7 false _ (.slice sa ns sc) rfl rfl hb1 (AL rfl (AZ DQ (MemAt.ent 0 rfl (AR (AR (Seg.head)))))) rfl ?_
  refine AU 4 7 false _ (I64 ((ns:Int))) rfl rfl hb1 (DJ B4 rfl) rfl ?_
  refine AU 4 7 false _ (.bool (decide ((300:Int) < ((ns:Int))))) rfl rfl hb1 (AK rfl rfl fun _ => E2 _ _) rfl ?_
  refine AA _ (BX _ rfl hb1 rfl) rfl ?_
  refine AA _ (AD rfl) rfl ?_
  rcases Bool.eq_false_or_eq_true (decide ((300:Int) < ((ns:Int)))) with hb2 | hb2
  ·
   have hp2 : (300:Int) < ((ns:Int)) := of_decide_eq_true hb2
   refine AS 10 13 false _ rfl rfl hb2 rfl ?_
   refine AS 10 13 false _ rfl rfl hb2 rfl ?_
   refine AS 10 13 false _ rfl rfl hb2 rfl ?_
   refine AS 10 13 false _ rfl rfl hb2 rfl ?_
   refine AS 10 13 false _ rfl rfl hb2 rfl ?_
   refine EJ 15 18 true rfl rfl rfl ?_
   refine EJ 15 18 true rfl rfl rfl ?_
   refine EJ 15 18 true rfl rfl rfl ?_
   refine EJ 15 18 true rfl rfl rfl ?_
   refine AS 10 13 false _ rfl rfl hb2 rfl ?_
   refine AA _ (CG _ rfl hb2 rfl) rfl ?_
   refine AA _ (AF rfl) rfl ?_
   refine AI (AE (BG (BI (.bool true) (res1 Tryd.results18 (BK rfl)) fun w1 hw1 => ?_)))
   refine ⟨_, [], rfl, ⟨congrArg Value.bool ?_, rfl⟩, hw1.sub (by simp) (by simp)⟩
   first | exact (decide_eq_true (by unfold LargeP; omega)).symm | exact (decide_eq_false (by unfold LargeP; omega)).symm | exact decide_eq_decide.2 (by unfold LargeP; omega)
  ·
   have hp2 : ¬ ((300:Int) < ((ns:Int))) := of_decide_eq_false hb2
   refine AU 10 13 false _ (Ptr nb1 2) rfl rfl hb2 (AJ 2 24 1 AO rfl DC rfl rfl) rfl ?_
   refine AU 10 13 false _ (.slice sa ns sc) rfl rfl hb2 (AL rfl (AZ DQ (MemAt.ent 0 rfl (AR (AR (Seg.head)))))) rfl ?_
   refine AU 10 13 false _ (I64 ((ns:Int))) rfl rfl hb2 (DJ B4 rfl) rfl ?_
   refine AU 10 13 false _ (.bool (decide ((20:Int) < ((ns:Int))))) rfl rfl hb2 (AK rfl rfl fun _ => E2 _ _) rfl ?_
   refine AU 10 13 false _ _ rfl rfl hb2 (AD rfl) rfl ?_
   rcases Bool.eq_false_or_eq_true (decide ((20:Int) < ((ns:Int)))) with hb3 | hb3
   ·
    have hp3 : (20:Int) < ((ns:Int)) := of_decide_eq_true hb3
    refine AU 15 18 true _ (Ptr nb1 2) rfl rfl hb3 (AJ 2 24 1 AO rfl DC rfl rfl) rfl ?_
    refine AU 15 18 true _ (.slice sa ns sc) rfl rfl hb3 (AL rfl (AZ DQ (MemAt.ent 0 rfl (AR (AR (Seg.head)))))) rfl ?_
    refine AU 15 18 true _ (I64 ((ns:Int))) rfl rfl hb3 (DJ B4 rfl) rfl ?_
    refine AU 15 18 true _ (.bool (decide (((ns:Int)) ≤ (256:Int)))) rfl rfl hb3 (AK rfl rfl fun _ => bin_leq_i _ _) rfl ?_
    refine AU 10 13 false _ _ rfl rfl hb2 (CG _ rfl hb3 rfl) rfl ?_
    refine AA _ (BX _ rfl hb2 rfl) rfl ?_
    refine AA _ (AF rfl) rfl ?_
    refine AI (AE (BG (BI (.bool (decide (((ns:Int)) ≤ (256:Int)))) (res1 Tryd.results18 (BK rfl)) fun w1 hw1 => ?_)))
    refine ⟨_, [], rfl, ⟨congrArg Value.bool ?_, rfl⟩, hw1.sub (by simp) (by simp)⟩
    first | exact (decide_eq_true (by unfold LargeP; omega)).symm | exact (decide_eq_false (by unfold LargeP; omega)).symm | exact decide_eq_decide.2 (by unfold LargeP; omega)
   ·
    have hp3 : ¬ ((20:Int) < ((ns:Int))) := of_decide_eq_false hb3
    refine AS 15 18 true _ rfl rfl hb3 rfl ?_
    refine AS 15 18 true _ rfl rfl hb3 rfl ?_
    refine AS 15 18 true _ rfl rfl hb3 rfl ?_
    refine AS 15 18 true _ rfl rfl hb3 rfl ?_
    refine AU 10 13 false _ _ rfl rfl hb2 (BX _ rfl hb3 rfl) rfl ?_
    refine AA _ (BX _ rfl hb2 rfl) rfl ?_
    refine AA _ (AF rfl) rfl ?_
    refine AI (AE (BG (BI (.bool false) (res1 Tryd.results18 (BK rfl)) fun w1 hw1 => ?_)))
    refine ⟨_, [], rfl, ⟨congrArg Value.bool ?_, rfl⟩, hw1.sub (by simp) (by simp)⟩
    first | exact (decide_eq_true (by unfold LargeP; omega)).symm | exact (decide_eq_false (by unfold LargeP; omega)).symm | exact decide_eq_decide.2 (by unfold LargeP; omega)
end Go.Proofs.YtkdpdgpphpngeaaDoor
namespace Go.Proofs.YtkdpdgpphpngeaaDoor
open Go Go.Sx
set_option linter.unusedVariables false
set_option linter.unusedSimpArgs false
set_option maxRecDepth 100000
attribute [local irreducible] mid zr8 zr32 numK rnK rotr wordL spreadL comprL cpN adN spN wrdN constL initL padL stN outN routN sumG putL leafT joinT empL empA empR RightB
theorem may13_c (pv ep : UInt64) (kd : Int) (ai : Option Addr) (ni ci : Nat) (l : List UInt64) (sa : Option Addr) (ns sc : Nat) (ls : List SealR) (bl : UInt64) (tg : List UInt8)  (w : World) (hl : l.length = ni) (hnm : ni ≤ 2000000) (hnc : ni ≤ ci) (hcm : ci ≤ maxLen) (hv : RdV w ai (cu64 l)) (hls : ls.length = ns) (hnn : ns ≤ 2000000) (hnd : ns ≤ sc) (hcn : sc ≤ maxLen) (hs : RdV w sa (ls.flatMap sealC)) (htg : tg.length = 16)  : Calls Tryd.prog 128 #[.agg (List.toArray (α := Value) ([U64 pv, U64 ep, I64 (kd), .slice ai ni ci, .slice sa ns sc, U64 bl] ++ cu8 tg))] w (Post w [] (fun v L => v = errV 50 (mayN pv ep kd l ls bl) ∧ L = [])) := by
 have hmx : maxLen = 9223372036854775807 := rfl
 refine enter (P := Tryd.prog) (f := 128) (fn := Tryd.f128) w [] 37 [] [.agg (List.toArray (α := Value) ([U64 pv, U64 ep, I64 (kd), .slice ai ni ci, .slice sa ns sc, U64 bl] ++ cu8 tg))] Tryd.func128 rfl rfl (by simp) (BL (by simp) (by simp) (by simp)) ?_
 show JC _ _ _ [(0, .agg (List.toArray (α := Value) ([U64 pv, U64 ep, I64 (kd), .slice ai ni ci, .slice sa ns sc, U64 bl] ++ cu8 tg)))] _
 refine AG (AC (AN (CM (.agg (List.toArray (α := Value) ([U64 pv, U64 ep, I64 (kd), .slice ai ni ci, .slice sa ns sc, U64 bl] ++ cu8 tg))) ([U64 pv, U64 ep, I64 (kd), .slice ai ni ci, .slice sa ns sc, U64 bl] ++ cu8 tg) rfl (by first | rfl | simp)) rfl ?_))
 rintro v1 L1 ⟨nb1, hnb1, rfl, rfl⟩
 show JL _ _ _ _ ((1, Ptr nb1 0) :: _) [⟨nb1, [U64 pv, U64 ep, I64 (kd), .slice ai ni ci, .slice sa ns sc, U64 bl] ++ cu8 tg, 29, (0, 0)⟩]
 refine AA _ (AF rfl) rfl ?_
 refine AI (AE (AG (BH (AG (AG (AC (AA (Ptr nb1 2) (AJ 2 26 4 BN rfl B0 rfl rfl) rfl ?_)))))))
 refine AA (.agg (List.toArray (α := Value) ([I64 (kd), .slice ai ni ci, .slice sa ns sc, U64 bl]))) (AL rfl (BO CV B0 rfl (MemAt.ent 0 rfl (Seg.split (p := [U64 pv, U64 ep]) (q := cu8 tg) (vs := [I64 (kd), .slice ai ni ci, .slice sa ns sc, U64 bl]) (by first | rfl | (simp only [List.append_assoc, List.nil_append, List.append_nil, List.cons_append]; done)) rfl)))) rfl ?_
 refine AN (AT 69 [.agg (List.toArray (α := Value) ([I64 (kd), .slice ai ni ci, .slice sa ns sc, U64 bl]))] (.bool (RightO (kd) l ls bl)) (AW [.agg (List.toArray (α := Value) ([I64 (kd), .slice ai ni ci, .slice sa ns sc, U64 bl]))] Tryd.call69 rfl) (fun w1 hw1 => FJ (kd) ai ni ci l sa ns sc ls bl w1 hl (by omega) (by omega) (by omega) (DD hw1 rfl hv) hls (by omega) (by omega) (by omega) (DD hw1 rfl hs))) rfl ?_
 rintro v1 L1 ⟨rfl, rfl⟩
 show JL _ _ _ _ ((6, .bool (RightO (kd) l ls bl)) :: _) [_]
 refine AA (.bool (!(RightO (kd) l ls bl))) (ER rfl) rfl ?_
 refine AA _ (AF rfl) rfl ?_
 refine AI (AE (CN (!(RightO (kd) l ls bl)) rfl (fun hb1 => ?_) (fun hb1 => ?_)))
 ·
  have hb2 : (RightO (kd) l ls bl) = false := by simpa using hb1
  refine BE (AE (DM _ rfl hb1 ?_))
  refine AG (AC (AA (.iface 50 (I64 (2:Int))) (Ev_iface Tryd.underlying50 rfl rfl) rfl ?_))
  refine AA _ (AF rfl) rfl ?_
  refine AI (AE (BG (C0 (A0 (B5 [false] ?_)))))
  show JQ _ _ _ _ []
  refine BI (.iface 50 (I64 (2:Int))) (res1 Tryd.results128 (BK rfl)) fun w1 hw1 => ?_
  have e1 : mayN pv ep kd l ls bl = 2 := by
   unfold mayN
   first | rw [if_pos ‹RightO kd l ls bl = true›] | rw [if_neg (by simp [*])]
   all_goals simp [*]
  rw [e1]
  exact ⟨_, [], rfl, ⟨rfl, rfl⟩, hw1.sub (by simp) (by simp)⟩
 ·
  have hb3 : (RightO (kd) l ls bl) = true := by simpa using hb1
  by_cases hk1 : kd = 1
  ·
   have hpos := RightO_pos hb3 hk1
   rw [hls, hl] at hpos
   obtain ⟨x1, hx1⟩ : ∃ x, ls[0]? = some x := ⟨_, List.getElem?_eq_getElem (by rw [hls]; omega)⟩
   obtain ⟨bz1, oz1, hz1, hm1⟩ := rows_at EK (by decide) hs hx1
   refine C3 37 1 [(0, Ptr nb1 2), (1, Ptr nb1 2), (2, I64 (kd)), (3, .bool (decide ((kd) = (1:Int)))), (4, .bool (decide ((kd) = (1:Int)))), (5, Ptr nb1 2), (6, Ptr nb1 4), (7, .slice sa ns sc), (8, Ptr bz1 oz1), (9, Ptr bz1 oz1), (10, U64 x1.e), (11, Ptr nb1 1), (12, U64 ep), (13, .bool (decide (x1.e ≠ ep))), (14, .bool (decide (x1.e ≠ ep))), (15, .bool (decide (x1.e ≠ ep)))] BQ rfl (by decide +kernel) ?_
   refine DG ⟨[], [0, 1, 2, 3, 4, 5, 6, 7, 8, 9, 10, 11, 12, 13, 14, 15], [], [0, 1, 2, 3, 4, 5, 6, 7, 8, 9, 10, 11, 12, 13, 14, 15], []⟩ rfl rfl (by decide +kernel) rfl ⟨⟨_, rfl, AB rfl (AJ 2 26 4 BN rfl B0 rfl rfl)⟩, ⟨_, rfl, AB rfl (AJ 0 3 1 AO rfl B3 rfl rfl)⟩, ⟨_, rfl, AB rfl (AL rfl (AZ B7 (MemAt.ent 0 rfl (BV (AR (AR (Seg.head)))))))⟩, ⟨_, rfl, AB rfl (AK rfl rfl fun _ => CU _ _)⟩, ⟨_, rfl, AB rfl (AD rfl)⟩, ⟨_, rfl, BW 4 12 true _ rfl rfl rfl (decide_eq_true hk1) (AJ 2 26 4 BN rfl B0 rfl rfl)⟩, ⟨_, rfl, BW 4 12 true _ rfl rfl rfl (decide_eq_true hk1) (AJ 2 24 1 AO rfl DC rfl rfl)⟩, ⟨_, rfl, BW 4 12 true _ rfl rfl rfl (decide_eq_true hk1) (AL rfl (AZ DQ (MemAt.ent 0 rfl (BV (AR (AR (AR (AR (Seg.head)))))))))⟩, ⟨_, rfl, BW 4 12 true _ rfl rfl rfl (decide_eq_true hk1) (CF 161 49 oz1 B4 CE rfl hz1 rfl (by omega) (by omega) (by omega))⟩, ⟨_, rfl, BW 4 12 true _ rfl rfl rfl (decide_eq_true hk1) (AJ 0 22 1 DK rfl A6 rfl rfl)⟩, ⟨_, rfl, BW 4 12 true _ rfl rfl rfl (decide_eq_true hk1) (AL rfl (AZ BC (CA (hm1.mem (by simp)) (BV (BV (Seg.head))) (by omega))))⟩, ⟨_, rfl, BW 4 12 true _ rfl rfl rfl (decide_eq_true hk1) (AJ 1 22 1 BN rfl A6 rfl rfl)⟩, ⟨_, rfl, BW 4 12 true _ rfl rfl rfl (decide_eq_true hk1) (AL rfl (AZ BC (MemAt.ent 0 rfl (BV (AR (Seg.head))))))⟩, ⟨_, rfl, BW 4 12 true _ rfl rfl rfl (decide_eq_true hk1) (AK rfl rfl fun _ => EP x1.e ep)⟩, ⟨_, rfl, AB rfl (CG _ rfl (decide_eq_true hk1) rfl)⟩, ⟨_, rfl, AB rfl (AF rfl)⟩, trivial⟩ ?_
   refine CZ (F' := [(3, .bool (decide (x1.e ≠ ep))), (1, Ptr nb1 0), (2, .nilIface)]) (by kernel_rfl) ?_
   refine AE (CN (decide (x1.e ≠ ep)) rfl (fun hb4 => ?_) (fun hb4 => ?_))
   ·
    have hp4 : x1.e ≠ ep := of_decide_eq_true hb4
    refine AG (AC (AA (.iface 50 (I64 (2:Int))) (Ev_iface Tryd.underlying50 rfl rfl) rfl ?_))
    refine AA _ (AF rfl) rfl ?_
    refine AI (AE (BG (C0 (A0 (B5 [false] ?_)))))
    show JQ _ _ _ _ []
    refine BI (.iface 50 (I64 (2:Int))) (res1 Tryd.results128 (BK rfl)) fun w1 hw1 => ?_
    have e1 : mayN pv ep kd l ls bl = 2 := by
     unfold mayN
     first | rw [if_pos ‹RightO kd l ls bl = true›] | rw [if_neg (by simp [*])]
     rw [headE_of hx1]
     all_goals simp [*]
    rw [e1]
    exact ⟨_, [], rfl, ⟨rfl, rfl⟩, hw1.sub (by simp) (by simp)⟩
   ·
    have hp4 : ¬ (x1.e ≠ ep) := of_decide_eq_false hb4
    refine AG (AC (AA (Ptr nb1 1) (AJ 1 22 1 BN rfl A6 rfl rfl) rfl ?_))
    refine AA (U64 ep) (AL rfl (AZ BC (MemAt.ent 0 rfl (BV (AR (Seg.head)))))) rfl ?_
    refine AN (AT 133 [U64 (0:UInt64), U64 ep] (.bool (RightB (0:UInt64) ep)) (AW [U64 (0:UInt64), U64 ep] Tryd.call133 rfl) (fun w1 hw1 => right_c (0:UInt64) ep w1 )) rfl ?_
    rintro v1 L1 ⟨rfl, rfl⟩
    show JL _ _ _ _ ((27, .bool (RightB (0:UInt64) ep)) :: _) [_]
    refine AA (.bool (!(RightB (0:UInt64) ep))) (ER rfl) rfl ?_
    refine AA _ (AD rfl) rfl ?_
    rcases Bool.eq_false_or_eq_true (RightB (0:UInt64) ep) with hb5 | hb5
    ·
     refine AU 4 29 false _ (Ptr nb1 0) rfl rfl (by rw [show (RightB (0:UInt64) ep) = true from hb5] <;> rfl) (AJ 0 22 1 BN rfl A6 rfl rfl) rfl ?_
     refine AU 4 29 false _ (U64 pv) rfl rfl (by rw [show (RightB (0:UInt64) ep) = true from hb5] <;> rfl) (AL rfl (AZ BC (MemAt.ent 0 rfl (BV (Seg.head))))) rfl ?_
     refine AU 4 29 false _ (Ptr nb1 1) rfl rfl (by rw [show (RightB (0:UInt64) ep) = true from hb5] <;> rfl) (AJ 1 22 1 BN rfl A6 rfl rfl) rfl ?_
     refine AU 4 29 false _ (U64 ep) rfl rfl (by rw [show (RightB (0:UInt64) ep) = true from hb5] <;> rfl) (AL rfl (AZ BC (MemAt.ent 0 rfl (BV (AR (Seg.head)))))) rfl ?_
     refine AU 4 29 false _ (.bool (decide (ep ≤ pv))) rfl rfl (by rw [show (RightB (0:UInt64) ep) = true from hb5] <;> rfl) (AK rfl rfl fun _ => EQ pv ep) rfl ?_
     refine AA _ (BX _ rfl (by rw [show (RightB (0:UInt64) ep) = true from hb5] <;> rfl) rfl) rfl ?_
     refine AA _ (AF rfl) rfl ?_
     refine AI (AE (CN (decide (ep ≤ pv)) rfl (fun hb6 => ?_) (fun hb6 => ?_)))
     ·
      have hp6 : ep ≤ pv := of_decide_eq_true hb6
      refine AG (AC (AA (.iface 50 (I64 (1:Int))) (Ev_iface Tryd.underlying50 rfl rfl) rfl ?_))
      refine AA _ (AF rfl) rfl ?_
      refine AI (AE (BG (C0 (A0 (B5 [false] ?_)))))
      show JQ _ _ _ _ []
      refine BI (.iface 50 (I64 (1:Int))) (res1 Tryd.results128 (BK rfl)) fun w1 hw1 => ?_
      have e1 : mayN pv ep kd l ls bl = 1 := by
       unfold mayN
       first | rw [if_pos ‹RightO kd l ls bl = true›] | rw [if_neg (by simp [*])]
       rw [headE_of hx1]
       all_goals simp [*]
      rw [e1]
      exact ⟨_, [], rfl, ⟨rfl, rfl⟩, hw1.sub (by simp) (by simp)⟩
     ·
      have hp6 : ¬ (ep ≤ pv) := of_decide_eq_false hb6
      refine BE (BA (AE (AG (AC (AA _ (AF rfl) rfl ?_)))))
      refine AI (AE (BG (B5 [false] ?_)))
      show JQ _ _ _ _ []
      refine BI (.nilIface) (res1 Tryd.results128 (BK rfl)) fun w1 hw1 => ?_
      have e1 : mayN pv ep kd l ls bl = 0 := by
       unfold mayN
       first | rw [if_pos ‹RightO kd l ls bl = true›] | rw [if_neg (by simp [*])]
       rw [headE_of hx1]
       all_goals simp [*]
      rw [e1]
      exact ⟨_, [], rfl, ⟨rfl, rfl⟩, hw1.sub (by simp) (by simp)⟩
    ·
     refine AS 4 29 false _ rfl rfl (by rw [show (RightB (0:UInt64) ep) = false from hb5] <;> rfl) rfl ?_
     refine AS 4 29 false _ rfl rfl (by rw [show (RightB (0:UInt64) ep) = false from hb5] <;> rfl) rfl ?_
     refine AS 4 29 false _ rfl rfl (by rw [show (RightB (0:UInt64) ep) = false from hb5] <;> rfl) rfl ?_
     refine AS 4 29 false _ rfl rfl (by rw [show (RightB (0:UInt64) ep) = false from hb5] <;> rfl) rfl ?_
     refine AS 4 29 false _ rfl rfl (by rw [show (RightB (0:UInt64) ep) = false from hb5] <;> rfl) rfl ?_
     refine AA _ (CG _ rfl (by rw [show (RightB (0:UInt64) ep) = false from hb5] <;> rfl) rfl) rfl ?_
     refine AA _ (AF rfl) rfl ?_
     refine AI (AE (DM _ rfl rfl ?_))
     refine AG (AC (AA (.iface 50 (I64 (1:Int))) (Ev_iface Tryd.underlying50 rfl rfl) rfl ?_))
     refine AA _ (AF rfl) rfl ?_
     refine AI (AE (BG (C0 (A0 (B5 [false] ?_)))))
     show JQ _ _ _ _ []
     refine BI (.iface 50 (I64 (1:Int))) (res1 Tryd.results128 (BK rfl)) fun w1 hw1 => ?_
     have e1 : mayN pv ep kd l ls bl = 1 := by
      unfold mayN
      first | rw [if_pos ‹RightO kd l ls bl = true›] | rw [if_neg (by simp [*])]
      rw [headE_of hx1]
      all_goals simp [*]
     rw [e1]
     exact ⟨_, [], rfl, ⟨rfl, rfl⟩, hw1.sub (by simp) (by simp)⟩
  ·
   refine C3 37 1 [(0, Ptr nb1 2), (1, Ptr nb1 2), (2, I64 (kd)), (3, .bool (decide ((kd) = (1:Int)))), (4, .bool (decide ((kd) = (1:Int)))), (5, undef), (6, undef), (7, undef), (8, undef), (9, undef), (10, undef), (11, undef), (12, undef), (13, undef), (14, .bool false), (15, .bool false)] BQ rfl (by decide +kernel) ?_
   refine DG ⟨[], [0, 1, 2, 3, 4, 5, 6, 7, 8, 9, 10, 11, 12, 13, 14, 15], [], [0, 1, 2, 3, 4, 5, 6, 7, 8, 9, 10, 11, 12, 13, 14, 15], []⟩ rfl rfl (by decide +kernel) rfl ⟨⟨_, rfl, AB rfl (AJ 2 26 4 BN rfl B0 rfl rfl)⟩, ⟨_, rfl, AB rfl (AJ 0 3 1 AO rfl B3 rfl rfl)⟩, ⟨_, rfl, AB rfl (AL rfl (AZ B7 (MemAt.ent 0 rfl (BV (AR (AR (Seg.head)))))))⟩, ⟨_, rfl, AB rfl (AK rfl rfl fun _ => CU _ _)⟩, ⟨_, rfl, AB rfl (AD rfl)⟩, ⟨_, rfl, CS 4 12 true _ rfl rfl rfl (decide_eq_false hk1)⟩, ⟨_, rfl, CS 4 12 true _ rfl rfl rfl (decide_eq_false hk1)⟩, ⟨_, rfl, CS 4 12 true _ rfl rfl rfl (decide_eq_false hk1)⟩, ⟨_, rfl, CS 4 12 true _ rfl rfl rfl (decide_eq_false hk1)⟩, ⟨_, rfl, CS 4 12 true _ rfl rfl rfl (decide_eq_false hk1)⟩, ⟨_, rfl, CS 4 12 true _ rfl rfl rfl (decide_eq_false hk1)⟩, ⟨_, rfl, CS 4 12 true _ rfl rfl rfl (decide_eq_false hk1)⟩, ⟨_, rfl, CS 4 12 true _ rfl rfl rfl (decide_eq_false hk1)⟩, ⟨_, rfl, CS 4 12 true _ rfl rfl rfl (decide_eq_false hk1)⟩, ⟨_, rfl, AB rfl (BX _ rfl (decide_eq_false hk1) rfl)⟩, ⟨_, rfl, AB rfl (AF rfl)⟩, trivial⟩ ?_
   refine CZ (F' := [(3, .bool false), (1, Ptr nb1 0), (2, .nilIface)]) (by kernel_rfl) ?_
   refine AE (B9 _ rfl rfl ?_)
   refine AG (AC (AA (Ptr nb1 1) (AJ 1 22 1 BN rfl A6 rfl rfl) rfl ?_))
   refine AA (U64 ep) (AL rfl (AZ BC (MemAt.ent 0 rfl (BV (AR (Seg.head)))))) rfl ?_
   refine AN (AT 133 [U64 (0:UInt64), U64 ep] (.bool (RightB (0:UInt64) ep)) (AW [U64 (0:UInt64), U64 ep] Tryd.call133 rfl) (fun w1 hw1 => right_c (0:UInt64) ep w1 )) rfl ?_
   rintro v1 L1 ⟨rfl, rfl⟩
   show JL _ _ _ _ ((27, .bool (RightB (0:UInt64) ep)) :: _) [_]
   refine AA (.bool (!(RightB (0:UInt64) ep))) (ER rfl) rfl ?_
   refine AA _ (AD rfl) rfl ?_
   rcases Bool.eq_false_or_eq_true (RightB (0:UInt64) ep) with hb7 | hb7
   ·
    refine AU 4 29 false _ (Ptr nb1 0) rfl rfl (by rw [show (RightB (0:UInt64) ep) = true from hb7] <;> rfl) (AJ 0 22 1 BN rfl A6 rfl rfl) rfl ?_
    refine AU 4 29 false _ (U64 pv) rfl rfl (by rw [show (RightB (0:UInt64) ep) = true from hb7] <;> rfl) (AL rfl (AZ BC (MemAt.ent 0 rfl (BV (Seg.head))))) rfl ?_
    refine AU 4 29 false _ (Ptr nb1 1) rfl rfl (by rw [show (RightB (0:UInt64) ep) = true from hb7] <;> rfl) (AJ 1 22 1 BN rfl A6 rfl rfl) rfl ?_
    refine AU 4 29 false _ (U64 ep) rfl rfl (by rw [show (RightB (0:UInt64) ep) = true from hb7] <;> rfl) (AL rfl (AZ BC (MemAt.ent 0 rfl (BV (AR (Seg.head)))))) rfl ?_
    refine AU 4 29 false _ (.bool (decide (ep ≤ pv))) rfl rfl (by rw [show (RightB (0:UInt64) ep) = true from hb7] <;> rfl) (AK rfl rfl fun _ => EQ pv ep) rfl ?_
    refine AA _ (BX _ rfl (by rw [show (RightB (0:UInt64) ep) = true from hb7] <;> rfl) rfl) rfl ?_
    refine AA _ (AF rfl) rfl ?_
    refine AI (AE (CN (decide (ep ≤ pv)) rfl (fun hb8 => ?_) (fun hb8 => ?_)))
    ·
     have hp8 : ep ≤ pv := of_decide_eq_true hb8
     refine AG (AC (AA (.iface 50 (I64 (1:Int))) (Ev_iface Tryd.underlying50 rfl rfl) rfl ?_))
     refine AA _ (AF rfl) rfl ?_
     refine AI (AE (BG (C0 (A0 (B5 [false] ?_)))))
     show JQ _ _ _ _ []
     refine BI (.iface 50 (I64 (1:Int))) (res1 Tryd.results128 (BK rfl)) fun w1 hw1 => ?_
     have e1 : mayN pv ep kd l ls bl = 1 := by
      unfold mayN
      first | rw [if_pos ‹RightO kd l ls bl = true›] | rw [if_neg (by simp [*])]
      all_goals simp [*]
     rw [e1]
     exact ⟨_, [], rfl, ⟨rfl, rfl⟩, hw1.sub (by simp) (by simp)⟩
    ·
     have hp8 : ¬ (ep ≤ pv) := of_decide_eq_false hb8
     refine BE (BA (AE (AG (AC (AA _ (AF rfl) rfl ?_)))))
     refine AI (AE (BG (B5 [false] ?_)))
     show JQ _ _ _ _ []
     refine BI (.nilIface) (res1 Tryd.results128 (BK rfl)) fun w1 hw1 => ?_
     have e1 : mayN pv ep kd l ls bl = 0 := by
      unfold mayN
      first | rw [if_pos ‹RightO kd l ls bl = true›] | rw [if_neg (by simp [*])]
      all_goals simp [*]
     rw [e1]
     exact ⟨_, [], rfl, ⟨rfl, rfl⟩, hw1.sub (by simp) (by simp)⟩
   ·
    refine AS 4 29 false _ rfl rfl (by rw [show (RightB (0:UInt64) ep) = false from hb7] <;> rfl) rfl ?_
    refine AS 4 29 false _ rfl rfl (by rw [show (RightB (0:UInt64) ep) = false from hb7] <;> rfl) rfl ?_
    refine AS 4 29 false _ rfl rfl (by rw [show (RightB (0:UInt64) ep) = false from hb7] <;> rfl) rfl ?_
    refine AS 4 29 false _ rfl rfl (by rw [show (RightB (0:UInt64) ep) = false from hb7] <;> rfl) rfl ?_
    refine AS 4 29 false _ rfl rfl (by rw [show (RightB (0:UInt64) ep) = false from hb7] <;> rfl) rfl ?_
    refine AA _ (CG _ rfl (by rw [show (RightB (0:UInt64) ep) = false from hb7] <;> rfl) rfl) rfl ?_
    refine AA _ (AF rfl) rfl ?_
    refine AI (AE (DM _ rfl rfl ?_))
    refine AG (AC (AA (.iface 50 (I64 (1:Int))) (Ev_iface Tryd.underlying50 rfl rfl) rfl ?_))
    refine AA _ (AF rfl) rfl ?_
    refine AI (AE (BG (C0 (A0 (B5 [false] ?_)))))
    show JQ _ _ _ _ []
    refine BI (.iface 50 (I64 (1:Int))) (res1 Tryd.results128 (BK rfl)) fun w1 hw1 => ?_
    have e1 : mayN pv ep kd l ls bl = 1 := by
     unfold mayN
     first | rw [if_pos ‹RightO kd l ls bl = true›] | rw [if_neg (by simp [*])]
     all_goals simp [*]
    rw [e1]
    exact ⟨_, [], rfl, ⟨rfl, rfl⟩, hw1.sub (by simp) (by simp)⟩
end Go.Proofs.YtkdpdgpphpngeaaDoor
namespace Go.Proofs.YtkdpdgpphpngeaaDoor
open Go Go.Sx
set_option linter.unusedVariables false
set_option linter.unusedSimpArgs false
set_option maxRecDepth 100000
attribute [local irreducible] mid zr8 zr32 numK rnK rotr wordL spreadL comprL cpN adN spN wrdN constL initL padL stN outN routN sumG putL leafT joinT empL empA empR RightB
theorem clone64N_c  (w : World) : Calls Tryd.prog 112 #[.slice none 0 0] w (Post w [] (fun v L => v = .slice none 0 0 ∧ L = [])) := by
 refine enter w [] 8 [] [.slice none 0 0] Tryd.func112 rfl rfl (by simp) (BL (by simp) (by simp) (by simp)) ?_
 show JC _ _ _ [(0, .slice none 0 0)] _
 refine AG (AC (AA _ (AF rfl) rfl ?_))
 refine AI (AE (AG (AG (AC (AA _ (AD rfl) rfl ?_)))))
 refine AA (.bool true) (D8 _ _ _ rfl rfl (fun _ => eqGuard_sl ..) fun _ => eql_sl_nil_nil A9) rfl ?_
 refine AI (AE (DM _ rfl rfl ?_))
 refine AG (AC (AA _ (AF rfl) rfl ?_))
 refine AI (AE (BG (A0 (BI (.slice none 0 0) (res1 Tryd.results112 (BK rfl)) fun w1 hw1 => ?_))))
 exact ⟨_, [], rfl, ⟨rfl, rfl⟩, hw1.sub (by simp) (by simp)⟩
theorem clone64_c (ai : Option Addr) (ni ci : Nat) (l : List UInt64)  (w : World) (hl : l.length = ni) (hnm : ni ≤ 2000000) (hnc : ni ≤ ci) (hcm : ci ≤ maxLen) (hv : RdV w ai (cu64 l)) (ha : ai.isNone = false)  : Calls Tryd.prog 112 #[.slice ai ni ci] w (Post w [] (fun v L => ∃ g sp cap, v = Slc g 0 ni cap ∧ L = [⟨g, cu64 l ++ sp, 22, (0, 0)⟩] ∧ sp.length = cap - ni ∧ ni ≤ cap ∧ cap ≤ maxLen)) := by
 have hmx : maxLen = 9223372036854775807 := rfl
 refine enter w [] 8 [] [.slice ai ni ci] Tryd.func112 rfl rfl (by simp) (BL (by simp) (by simp) (by simp)) ?_
 show JC _ _ _ [(0, .slice ai ni ci)] _
 refine AG (AC (AA _ (AF rfl) rfl ?_))
 refine AI (AE (AG (AG (AC (AA _ (AD rfl) rfl ?_)))))
 refine AA (.bool ai.isNone) (D8 _ _ _ rfl rfl (fun _ => eqGuard_sl ..) fun _ => eql_sl_any A9) rfl ?_
 refine AI (AE (B9 _ rfl ha ?_))
 refine BE (AE (AG (AC (AN (E3 22 1 A9 A6) rfl ?_))))
 rintro v1 L1 ⟨nb1, hnb1, rfl, rfl⟩
 show JL _ _ _ _ ((5, Slc nb1 0 0 0) :: _) [⟨nb1, [], 22, (0, 0)⟩]
 refine AA _ (AD rfl) rfl ?_
 refine AN (Step_appM64 23 22 [true] (Slc nb1 0 0 0) 0 ([] : List UInt64) l ai ni ci ni A9 Tryd.info22 rfl (.inr ⟨nb1, [], 0, rfl, (by simp [take?, cu8, cu32, cu64]), rfl, (by simp), (by omega), (by unfold maxLen; omega)⟩) rfl (by first | exact hl | simp [hl]; try omega) (RdV.src hv rfl) (by omega) (by unfold maxLen; omega) (by omega)) rfl ?_
 rintro v1 L1 ⟨nb2, sp1, cp1, hg1, rfl, rfl, ha1, ha2, ha3, ha4⟩
 show JL _ _ _ _ ((7, Slc nb2 0 ni cp1) :: _) [⟨nb2, cu64 (([] : List UInt64) ++ l) ++ sp1, 22, (0, 0)⟩]
 refine AA _ (AF rfl) rfl ?_
 refine AI (AE (BG (BI (Slc nb2 0 ni cp1) (res1 Tryd.results112 (BK rfl)) fun w1 hw1 => ?_)))
 exact ⟨_, _, rfl, ⟨nb2, sp1, cp1, rfl, rfl, ha2, ha3, ha4⟩, hw1.sub (by simp) (by simp)⟩
end Go.Proofs.YtkdpdgpphpngeaaDoor
namespace Go.Proofs.YtkdpdgpphpngeaaDoor
open Go Go.Sx
set_option linter.unusedVariables false
set_option linter.unusedSimpArgs false
set_option maxRecDepth 100000
attribute [local irreducible] mid zr8 zr32 numK rnK rotr wordL spreadL comprL cpN adN spN wrdN constL initL padL stN outN routN sumG putL leafT joinT empL empA empR RightB
theorem rnumber_c (nv : UInt64) (k : Nat) (w : World) (hk : k ≤ 8) : Calls Tryd.prog 88 #[U64 nv, I64 ((k:Int))] w (Post w [] (fun v L => ∃ g, v = Slc g 0 k k ∧ L = [⟨g, cu8 (numK k nv k), 5, (0, 0)⟩])) := by
 have hmx : maxLen = 9223372036854775807 := rfl
 refine enter w [] 24 [] [U64 nv, I64 ((k:Int))] Tryd.func88 rfl rfl (by simp) (BL (by simp) (by simp) (by simp)) ?_
 show JC _ _ _ [(0, U64 nv), (1, I64 ((k:Int)))] _
 refine AG (AC (AA _ (AF rfl) rfl ?_))
 refine AI (AE (AG (AC (AA _ (AD rfl) rfl ?_))))
 refine AN (Step_make8 5 1 k k AP DB rfl rfl (by omega) (by omega) (by unfold maxLen; omega)) rfl ?_
 rintro v1 L1 ⟨nb1, hnb1, rfl, rfl⟩
 show JL _ _ _ _ ((8, Slc nb1 0 k k) :: _) [⟨nb1, cu8 (zr8 k), 5, (0, 0)⟩]
 refine AA _ (AF rfl) rfl ?_
 refine AI (AE (AG (AG (AC (AA _ (AD rfl) rfl ?_)))))
 refine AA (I64 ((k:Int) - 1)) (AK rfl rfl fun _ => CO _ _ ((k:Int) - 1) (by omega) (by omega)) rfl ?_
 refine AA _ (AF rfl) rfl ?_
 refine AI (AE (BH (DN (ι := Nat × List UInt8 × UInt64) (fun ⟨j, o, y⟩ => [(4, .slice none 0 0), (5, Slc nb1 0 k k), (6, I64 (-(j:Int) + (k:Int) - 1)), (0, U64 y)]) (fun ⟨j, o, y⟩ => [⟨nb1, cu8 o, 5, (0, 0)⟩]) (fun ⟨j, o, y⟩ => j ≤ k ∧ o = (rnK k nv j).1 ∧ y = (rnK k nv j).2 ∧ o.length = k) (fun ⟨j, o, y⟩ => k - j) (0, zr8 k, nv) ⟨by omega, by rw [rnK], by rw [rnK], A2 k⟩ (AH rfl (AH rfl (AH (DU (by omega)) (AH rfl (Sub.nil))))) rfl ?_)))
 rintro ⟨j, o, y⟩ ⟨hx1, hx2, hx3, ho⟩
 show JC _ _ _ [(4, .slice none 0 0), (5, Slc nb1 0 k k), (6, I64 (-(j:Int) + (k:Int) - 1)), (0, U64 y)] [⟨nb1, cu8 o, 5, (0, 0)⟩]
 refine AG (AG (AC (AA _ (AD rfl) rfl ?_)))
 refine AA (.bool (decide ((0:Int) ≤ (-(j:Int) + (k:Int) - 1)))) (AK rfl rfl fun _ => ET _ _) rfl ?_
 refine AI (AE (CN (decide ((0:Int) ≤ (-(j:Int) + (k:Int) - 1))) rfl (fun hb1 => ?_) (fun hb1 => ?_)))
 ·
  have hp1 : (0:Int) ≤ (-(j:Int) + (k:Int) - 1) := of_decide_eq_true hb1
  refine BE (AE (AG (BH (AG (AC (AA _ (AD rfl) rfl ?_))))))
  refine AA _ (AD rfl) rfl ?_
  refine AA _ (AD rfl) rfl ?_
  refine AA (U64 (y % (256:UInt64))) (AK rfl rfl fun _ => bin_rem_u64 y (256:UInt64) (by decide)) rfl ?_
  refine AA (U8 ((y % (256:UInt64)).toUInt8)) (DR _ _ rfl fun _ => EO (by rw [BY]; rfl) CD _) rfl ?_
  refine AA (Ptr nb1 (k - j - 1)) (EU 5 1 (k - j - 1) AP AY rfl rfl (by omega) (by omega) (by omega)) rfl ?_
  have hl1 : (o.set (k - j - 1) ((y % (256:UInt64)).toUInt8)).length = k := by first | (rw [List.length_set]; exact ho) | simp [ho]
  refine AN (A8 0 nb1 (k - j - 1) 1 (cu8 o) 5 (U8 ((y % (256:UInt64)).toUInt8)) ([U8 ((y % (256:UInt64)).toUInt8)]) (cu8 (o.set (k - j - 1) ((y % (256:UInt64)).toUInt8))) rfl rfl rfl rfl AY rfl (by simp [Value.oneCell']) (by simp [ho]; try omega) (lay8 _ _ _ (by rw [ho]; omega))) rfl ?_
  rintro v1 L1 ⟨rfl, rfl⟩
  show JL _ _ _ _ _ [⟨nb1, cu8 (o.set (k - j - 1) ((y % (256:UInt64)).toUInt8)), 5, (0, 0)⟩]
  refine AI (AE (AC (AA _ (AD rfl) rfl ?_)))
  refine AA (U64 (y / (256:UInt64))) (AK rfl rfl fun _ => bin_quo_u64 y (256:UInt64) (by decide)) rfl ?_
  refine AA _ (AF rfl) rfl ?_
  refine AI (BA (AE (AC (AA _ (AD rfl) rfl ?_))))
  refine AA (I64 (-(j:Int) + (k:Int) - 2)) (AK rfl rfl fun _ => CO _ _ (-(j:Int) + (k:Int) - 2) (by omega) (by omega)) rfl ?_
  refine AA _ (AF rfl) rfl ?_
  refine AI (CR (DT (j + 1, o.set (k - j - 1) ((y % (256:UInt64)).toUInt8), y / (256:UInt64)) ⟨by omega, by rw [rnK, ← hx2, ← hx3], by rw [rnK, ← hx3], hl1⟩ (by first | (simp; omega) | simp | (dsimp only; omega) | omega) (AH rfl (AH rfl (AH (DU (by omega)) (AH rfl (Sub.nil))))) rfl))
 ·
  have hp1 : ¬ ((0:Int) ≤ (-(j:Int) + (k:Int) - 1)) := of_decide_eq_false hb1
  refine DL (AX (AX (CC (AE (AG (AC (AA _ (AD rfl) rfl ?_)))))))
  refine AA _ (AF rfl) rfl ?_
  refine AI (AE (BG (BI (Slc nb1 0 k k) (res1 Tryd.results88 (BK rfl)) fun w1 hw1 => ?_)))
  have e1 : j = k := by omega
  rw [hx2, e1, rnK_num k nv hk] at hw1
  exact ⟨_, _, rfl, ⟨_, rfl, rfl⟩, hw1.sub (by simp) (by simp)⟩
theorem put7_c (e : UInt64) (d t : List UInt8) (w : World) (hd : d.length = 32) (ht : t.length = 16) : Calls Tryd.prog 97 #[.agg (List.toArray (α := Value) ([U64 e] ++ cu8 d ++ cu8 t))] w (Post w [] (fun v L => ∃ g sp cap, v = Slc g 0 56 cap ∧ L = [⟨g, cu8 (putL e d t) ++ sp, 5, (0, 0)⟩] ∧ sp.length = cap - 56 ∧ 56 ≤ cap ∧ cap ≤ maxLen)) := by
 have hmx : maxLen = 9223372036854775807 := rfl
 refine enter (P := Tryd.prog) (f := 97) (fn := Tryd.f97) w [] 25 [] [.agg (List.toArray (α := Value) ([U64 e] ++ cu8 d ++ cu8 t))] Tryd.func97 rfl rfl (by simp) (BL (by simp) (by simp) (by simp)) ?_
 show JC _ _ _ [(0, .agg (List.toArray (α := Value) ([U64 e] ++ cu8 d ++ cu8 t)))] _
 refine AG (AC (AN (CM (.agg (List.toArray (α := Value) ([U64 e] ++ cu8 d ++ cu8 t))) ([U64 e] ++ cu8 d ++ cu8 t) rfl (by first | rfl | simp)) rfl ?_))
 rintro v1 L1 ⟨nb1, hnb1, rfl, rfl⟩
 show JL _ _ _ _ ((1, Ptr nb1 0) :: _) [⟨nb1, [U64 e] ++ cu8 d ++ cu8 t, 161, (0, 0)⟩]
 refine AA _ (AF rfl) rfl ?_
 refine AI (AE (AG (AC (AA (.agg (List.toArray (α := Value) ([.nilIface, .slice none 0 0]))) (EG [] _ rfl (fun _ => by kernel_rfl)) rfl ?_))))
 refine AN (CM (.agg (List.toArray (α := Value) ([.nilIface, .slice none 0 0]))) ([.nilIface, .slice none 0 0]) rfl (by first | rfl | simp)) rfl ?_
 rintro v1 L1 ⟨nb2, hnb2, rfl, rfl⟩
 show JL _ _ _ _ ((7, Ptr nb2 0) :: _) [_, ⟨nb2, [.nilIface, .slice none 0 0], 149, (0, 0)⟩]
 refine AA _ (AF rfl) rfl ?_
 refine AI (AE (AG (C3 25 5 [(0, Ptr nb2 0), (1, Ptr nb1 0), (2, U64 e), (4, Ptr nb1 1), (5, Slc nb1 1 32 32), (7, Ptr nb1 33), (8, Slc nb1 33 16 16)] BQ rfl (by decide +kernel) ?_)))
 refine BT ⟨[], [0, 1, 2, 4, 5, 7, 8], [], [0, 1, 2, 4, 5, 7, 8], [3]⟩ 3 _ rfl rfl (by decide +kernel) rfl ⟨⟨_, rfl, AB rfl (AD rfl)⟩, ⟨_, rfl, AB rfl (AJ 0 22 1 DK rfl A6 rfl rfl)⟩, ⟨_, rfl, AB rfl (AL rfl (AZ BC (MemAt.ent 0 rfl (BV (BV (Seg.head))))))⟩, ⟨_, rfl, AB rfl (AJ 1 159 32 DK rfl Tryd.sizeOf159 rfl rfl)⟩, ⟨_, rfl, AB rfl (CT 32 5 1 0 32 1 32 Tryd.underlying159 AY rfl rfl rfl (by omega) (by omega) (by omega) (by omega) (by omega) 32 (by omega))⟩, ⟨_, rfl, AB rfl (AJ 33 27 16 DK rfl DW rfl rfl)⟩, ⟨_, rfl, AB rfl (CT 16 5 1 0 16 33 16 C2 AY rfl rfl rfl (by omega) (by omega) (by omega) (by omega) (by omega) 16 (by omega))⟩, trivial⟩ rfl (A1 rfl (D5 81 _ [false, true] [nb2] _ (AW [Ptr nb2 0, U64 e, I64 (8:Int)] Tryd.call81 rfl) rfl (fun w1 hw1 => numN_c nb2 8 .nilIface e 8 w1 (hw1.ent _ (List.mem_of_getElem? (i := 1) rfl)) (by unfold Szd; omega) (fun h => absurd h (by omega)) (by omega)))) ?_
 rintro v1 L1 ⟨_, ⟨rfl, nb3, sp1, cp1, rfl, hc1, hc2, hc3⟩, rfl⟩
 refine ⟨[], ?_⟩
 show DP _ _ _ _ _ _ _ _ [_, ⟨nb2, [.nilIface, Slc nb3 0 8 cp1], 149, (0, 0)⟩, ⟨nb3, cu8 (numK 8 e 8) ++ sp1, 5, (0, 0)⟩]
 refine BT ⟨[3], [0, 1, 2, 4, 5, 7, 8], [0, 1, 2], [4, 5, 7, 8], [6]⟩ 6 _ rfl rfl (by decide +kernel) rfl ⟨⟨_, rfl, AB rfl (AJ 1 159 32 DK rfl Tryd.sizeOf159 rfl rfl)⟩, ⟨_, rfl, AB rfl (CT 32 5 1 0 32 1 32 Tryd.underlying159 AY rfl rfl rfl (by omega) (by omega) (by omega) (by omega) (by omega) 32 (by omega))⟩, ⟨_, rfl, AB rfl (AJ 33 27 16 DK rfl DW rfl rfl)⟩, ⟨_, rfl, AB rfl (CT 16 5 1 0 16 33 16 C2 AY rfl rfl rfl (by omega) (by omega) (by omega) (by omega) (by omega) 16 (by omega))⟩, trivial⟩ rfl (A1 rfl (D5 82 _ [false, true, true] [nb2, nb3] _ (AW [Ptr nb2 0, Slc nb1 1 32 32] Tryd.call82 rfl) rfl (fun w1 hw1 => rawO_c nb2 nb3 8 cp1 40 .nilIface (numK 8 e 8) sp1 (some ⟨nb1, 1, none⟩) 32 32 d w1 (hw1.ent _ (List.mem_of_getElem? (i := 1) rfl)) (hw1.ent _ (List.mem_of_getElem? (i := 2) rfl)) (hw1.ne (i := 1) (j := 2) rfl rfl (by decide)) (show (numK 8 e 8).length = 8 from (CX _ _ _)) hc1 hc2 hc3 (by omega) hd (by omega) (RdB.of hw1 (MemAt.ent 0 rfl (BV (Seg.right 1 0 rfl rfl (AM _)))) (by intro _; simp only [List.mem_cons, List.not_mem_nil, or_false, not_or]; exact ⟨hw1.ne (i := 0) (j := 1) rfl rfl (by decide), hw1.ne (i := 0) (j := 2) rfl rfl (by decide)⟩)) (by omega)))) ?_
 rintro v1 L1 ⟨_, ⟨rfl, nb4, sp2, cp2, rfl, hc4, hc5, hc6⟩, rfl⟩
 refine ⟨[], ?_⟩
 show DP _ _ _ _ _ _ _ _ [_, ⟨nb2, [.nilIface, Slc nb4 0 40 cp2], 149, (0, 0)⟩, ⟨nb4, cu8 ((numK 8 e 8) ++ d) ++ sp2, 5, (0, 0)⟩]
 refine BT ⟨[3, 6], [0, 1, 2, 4, 5, 7, 8], [0, 1, 2, 4, 5], [7, 8], [9]⟩ 9 _ rfl rfl (by decide +kernel) rfl ⟨⟨_, rfl, AB rfl (AJ 33 27 16 DK rfl DW rfl rfl)⟩, ⟨_, rfl, AB rfl (CT 16 5 1 0 16 33 16 C2 AY rfl rfl rfl (by omega) (by omega) (by omega) (by omega) (by omega) 16 (by omega))⟩, trivial⟩ rfl (A1 rfl (D5 82 _ [false, true, true] [nb2, nb4] _ (AW [Ptr nb2 0, Slc nb1 33 16 16] Tryd.call82 rfl) rfl (fun w1 hw1 => rawO_c nb2 nb4 40 cp2 56 .nilIface ((numK 8 e 8) ++ d) sp2 (some ⟨nb1, 33, none⟩) 16 16 t w1 (hw1.ent _ (List.mem_of_getElem? (i := 1) rfl)) (hw1.ent _ (List.mem_of_getElem? (i := 2) rfl)) (hw1.ne (i := 1) (j := 2) rfl rfl (by decide)) (show ((numK 8 e 8) ++ d).length = 40 from (by rw [List.length_append, (show (numK 8 e 8).length = 8 from (CX _ _ _)), hd] <;> omega)) hc4 hc5 hc6 (by omega) ht (by omega) (RdB.of hw1 (MemAt.ent 0 rfl (Seg.right 33 0 (by simp [hd]) rfl (AM _))) (by intro _; simp only [List.mem_cons, List.not_mem_nil, or_false, not_or]; exact ⟨hw1.ne (i := 0) (j := 1) rfl rfl (by decide), hw1.ne (i := 0) (j := 2) rfl rfl (by decide)⟩)) (by omega)))) ?_
 rintro v1 L1 ⟨_, ⟨rfl, nb5, sp3, cp3, rfl, hc7, hc8, hc9⟩, rfl⟩
 refine ⟨[], ?_⟩
 show DP _ _ _ _ _ _ _ _ [_, ⟨nb2, [.nilIface, Slc nb5 0 56 cp3], 149, (0, 0)⟩, ⟨nb5, cu8 (((numK 8 e 8) ++ d) ++ t) ++ sp3, 5, (0, 0)⟩]
 refine BT ⟨[3, 6, 9], [0, 1, 2, 4, 5, 7, 8], [0, 1, 2, 4, 5, 7, 8], [], [10]⟩ 10 _ rfl rfl (by decide +kernel) rfl trivial rfl (A1 rfl (B1 83 [Ptr nb2 0] _ (AW [Ptr nb2 0] Tryd.call83 rfl) (fun w1 hw1 => doneO_c nb2 0 nb5 56 cp3 (((numK 8 e 8) ++ d) ++ t) w1 (RdA.of hw1 (MemAt.ent 1 rfl (AM _)) (by simp)) rfl (show (((numK 8 e 8) ++ d) ++ t).length = 56 from (by rw [List.length_append, (show ((numK 8 e 8) ++ d).length = 40 from (by rw [List.length_append, (show (numK 8 e 8).length = 8 from (CX _ _ _)), hd] <;> omega)), ht] <;> omega)) (by omega) (RdB.of hw1 (MemAt.ent 2 rfl (BV (AM _))) (by simp))))) ?_
 rintro v1 L1 ⟨_, ⟨nb6, sp4, cp4, rfl, rfl, hc10, hc11, hc12⟩, rfl⟩
 refine ⟨[(11, .tuple #[Slc nb6 0 56 cp4, .nilIface]), (12, Slc nb6 0 56 cp4), (13, .nilIface), (14, Slc nb6 0 56 cp4), (15, .nilIface)], ?_⟩
 show DP _ _ _ _ _ _ _ _ [_, _, _, ⟨nb6, cu8 (((numK 8 e 8) ++ d) ++ t) ++ sp4, 5, (0, 0)⟩]
 refine DG ⟨[3, 6, 9, 10], [0, 1, 2, 4, 5, 7, 8, 11, 12, 13, 14, 15], [0, 1, 2, 4, 5, 7, 8], [11, 12, 13, 14, 15], []⟩ rfl rfl (by decide +kernel) rfl ⟨⟨_, rfl, AB rfl (AD rfl)⟩, ⟨_, rfl, AB rfl (BJ rfl rfl)⟩, ⟨_, rfl, AB rfl (BJ rfl rfl)⟩, ⟨_, rfl, AB rfl (AF rfl)⟩, ⟨_, rfl, AB rfl (AF rfl)⟩, trivial⟩ ?_
 refine CZ (F' := [(4, Slc nb6 0 56 cp4), (5, .nilIface), (2, .slice none 0 0)]) (by kernel_rfl) ?_
 refine AE (AG (AG (AC (AA _ (AD rfl) rfl ?_))))
 refine AA (.bool false) (D8 _ _ _ rfl rfl (fun _ => D6 ..) fun _ => DS B8) rfl ?_
 refine AI (AE (B9 _ rfl rfl ?_))
 refine BE (AE (AG (AC (AA _ (AD rfl) rfl ?_))))
 refine AA _ (AF rfl) rfl ?_
 refine AI (AE (BG (B5 [false, false, false, true] ?_)))
 show JQ _ _ _ _ [_]
 refine BI (Slc nb6 0 56 cp4) (res1 Tryd.results97 (BK rfl)) fun w1 hw1 => ?_
 have hq : ((numK 8 e 8) ++ d) ++ t = putL e d t := by rw [putL]
 rw [hq] at hw1
 exact ⟨_, _, rfl, ⟨nb6, sp4, cp4, rfl, rfl, hc10, hc11, hc12⟩, hw1.sub (by simp) (by simp)⟩
theorem rput7_c (e : UInt64) (d t : List UInt8) (w : World) (hd : d.length = 32) (ht : t.length = 16) : Calls Tryd.prog 105 #[.agg (List.toArray (α := Value) ([U64 e] ++ cu8 d ++ cu8 t))] w (Post w [] (fun v L => ∃ g sp cap, v = Slc g 0 56 cap ∧ L = [⟨g, cu8 (putL e d t) ++ sp, 5, (0, 0)⟩] ∧ sp.length = cap - 56 ∧ 56 ≤ cap ∧ cap ≤ maxLen)) := by
 have hmx : maxLen = 9223372036854775807 := rfl
 refine enter (P := Tryd.prog) (f := 105) (fn := Tryd.f105) w [] 15 [] [.agg (List.toArray (α := Value) ([U64 e] ++ cu8 d ++ cu8 t))] Tryd.func105 rfl rfl (by simp) (BL (by simp) (by simp) (by simp)) ?_
 show JC _ _ _ [(0, .agg (List.toArray (α := Value) ([U64 e] ++ cu8 d ++ cu8 t)))] _
 refine AG (AC (AN (CM (.agg (List.toArray (α := Value) ([U64 e] ++ cu8 d ++ cu8 t))) ([U64 e] ++ cu8 d ++ cu8 t) rfl (by first | rfl | simp)) rfl ?_))
 rintro v1 L1 ⟨nb1, hnb1, rfl, rfl⟩
 show JL _ _ _ _ ((1, Ptr nb1 0) :: _) [⟨nb1, [U64 e] ++ cu8 d ++ cu8 t, 164, (0, 0)⟩]
 refine AA _ (AF rfl) rfl ?_
 refine AI (AE (AG (AC (AA (Ptr nb1 0) (AJ 0 22 1 Tryd.underlying164 rfl A6 rfl rfl) rfl ?_))))
 refine AA (U64 e) (AL rfl (AZ BC (MemAt.ent 0 rfl (BV (BV (Seg.head)))))) rfl ?_
 refine AN (B1 88 [U64 e, I64 (8:Int)] _ (AW [U64 e, I64 (8:Int)] Tryd.call88 rfl) (fun w1 hw1 => rnumber_c e 8 w1 (by omega))) rfl ?_
 rintro v1 L1 ⟨_, ⟨nb2, rfl, rfl⟩, rfl⟩
 show JL _ _ _ _ ((6, Slc nb2 0 8 8) :: _) [_, ⟨nb2, cu8 (numK 8 e 8), 5, (0, 0)⟩]
 refine AA _ (AF rfl) rfl ?_
 refine AI (AE (AG (AC (AA _ (AD rfl) rfl ?_))))
 refine AA (Ptr nb1 1) (AJ 1 159 32 Tryd.underlying164 rfl Tryd.sizeOf159 rfl rfl) rfl ?_
 refine AA (Slc nb1 1 32 32) (CT 32 5 1 0 32 1 32 Tryd.underlying159 AY rfl rfl rfl (by omega) (by omega) (by omega) (by omega) (by omega) 32 (by omega)) rfl ?_
 refine AN (DE 43 5 [false, true] (Slc nb2 0 8 8) 8 (numK 8 e 8) d (some ⟨nb1, 1, none⟩) 32 32 40 AP DB rfl (.inr ⟨nb2, [], 8, rfl, (by simp [take?, cu8, cu32, cu64]), (by first | exact (show (numK 8 e 8).length = 8 from CX _ _ _) | simp [(show (numK 8 e 8).length = 8 from CX _ _ _)]), (by simp), (by omega), (by unfold maxLen; omega)⟩) rfl (by first | exact hd | simp [hd]; try omega) (SrcAt.mem (MemAt.ent 0 rfl (BV (Seg.right 1 0 rfl rfl (AM _))))) (by omega) (by unfold maxLen; omega) (by omega)) rfl ?_
 rintro v1 L1 ⟨nb3, sp1, cp1, hg1, rfl, rfl, ha1, ha2, ha3, ha4⟩
 show JL _ _ _ _ ((10, Slc nb3 0 40 cp1) :: _) [_, ⟨nb3, cu8 ((numK 8 e 8) ++ d) ++ sp1, 5, (0, 0)⟩]
 refine AA _ (AF rfl) rfl ?_
 refine AI (AE (AG (AC (AA _ (AD rfl) rfl ?_))))
 refine AA (Ptr nb1 33) (AJ 33 27 16 Tryd.underlying164 rfl DW rfl rfl) rfl ?_
 refine AA (Slc nb1 33 16 16) (CT 16 5 1 0 16 33 16 C2 AY rfl rfl rfl (by omega) (by omega) (by omega) (by omega) (by omega) 16 (by omega)) rfl ?_
 refine AN (DE 43 5 [false, true] (Slc nb3 0 40 cp1) 40 ((numK 8 e 8) ++ d) t (some ⟨nb1, 33, none⟩) 16 16 56 AP DB rfl (.inr ⟨nb3, sp1, cp1, rfl, rfl, (by first | exact ha1 | simp [ha1]), ha2, (by omega), (by omega)⟩) rfl (by first | exact ht | simp [ht]; try omega) (SrcAt.mem (MemAt.ent 0 rfl (Seg.right 33 0 (by simp [hd]) rfl (AM _)))) (by omega) (by unfold maxLen; omega) (by omega)) rfl ?_
 rintro v1 L1 ⟨nb4, sp2, cp2, hg2, rfl, rfl, ha5, ha6, ha7, ha8⟩
 show JL _ _ _ _ ((14, Slc nb4 0 56 cp2) :: _) [_, ⟨nb4, cu8 (((numK 8 e 8) ++ d) ++ t) ++ sp2, 5, (0, 0)⟩]
 refine AA _ (AF rfl) rfl ?_
 refine AI (AE (BG (B5 [false, true] ?_)))
 show JQ _ _ _ _ [_]
 refine BI (Slc nb4 0 56 cp2) (res1 Tryd.results105 (BK rfl)) fun w1 hw1 => ?_
 have hq : ((numK 8 e 8) ++ d) ++ t = putL e d t := by rw [putL]
 rw [hq] at hw1
 exact ⟨_, _, rfl, ⟨nb4, sp2, cp2, rfl, rfl, ha6, ha7, ha8⟩, hw1.sub (by simp) (by simp)⟩
theorem text3_c (pv ep : UInt64) (k : Nat) (ai : Option Addr) (ni ci : Nat) (l : List UInt64) (sa : Option Addr) (ns sc : Nat) (ls : List SealR) (bl : UInt64) (tg : List UInt8)  (w : World) (hl : l.length = ni) (hnm : ni ≤ 2000000) (hnc : ni ≤ ci) (hcm : ci ≤ maxLen) (hv : RdV w ai (cu64 l)) (hls : ls.length = ns) (hnn : ns ≤ 2000000) (hnd : ns ≤ sc) (hcn : sc ≤ maxLen) (hs : RdV w sa (ls.flatMap sealC)) (htg : tg.length = 16) (hmay : mayN pv ep (k:Int) l ls bl = 0) (hk : k = 3)  : Calls Tryd.prog 114 #[.agg (List.toArray (α := Value) ([U64 pv, U64 ep, I64 ((k:Int)), .slice ai ni ci, .slice sa ns sc, U64 bl] ++ cu8 tg))] w (Post w [] (fun v L => ∃ g sp cap, v = .tuple #[Slc g 0 25 cap, .nilIface] ∧ L = [⟨g, cu8 (tktT pv ep k l ls bl) ++ sp, 5, (0, 0)⟩] ∧ sp.length = cap - 25 ∧ 25 ≤ cap ∧ cap ≤ maxLen)) := by
 have hmx : maxLen = 9223372036854775807 := rfl
 refine enter (P := Tryd.prog) (f := 114) (fn := Tryd.f114) w [] 75 [] [.agg (List.toArray (α := Value) ([U64 pv, U64 ep, I64 ((k:Int)), .slice ai ni ci, .slice sa ns sc, U64 bl] ++ cu8 tg))] Tryd.func114 rfl rfl (by simp) (BL (by simp) (by simp) (by simp)) ?_
 show JC _ _ _ [(0, .agg (List.toArray (α := Value) ([U64 pv, U64 ep, I64 ((k:Int)), .slice ai ni ci, .slice sa ns sc, U64 bl] ++ cu8 tg)))] _
 refine AG (AC (AN (CM (.agg (List.toArray (α := Value) ([U64 pv, U64 ep, I64 ((k:Int)), .slice ai ni ci, .slice sa ns sc, U64 bl] ++ cu8 tg))) ([U64 pv, U64 ep, I64 ((k:Int)), .slice ai ni ci, .slice sa ns sc, U64 bl] ++ cu8 tg) rfl (by first | rfl | simp)) rfl ?_))
 rintro v1 L1 ⟨nb1, hnb1, rfl, rfl⟩
 show JL _ _ _ _ ((1, Ptr nb1 0) :: _) [⟨nb1, [U64 pv, U64 ep, I64 ((k:Int)), .slice ai ni ci, .slice sa ns sc, U64 bl] ++ cu8 tg, 29, (0, 0)⟩]
 refine AA _ (AF rfl) rfl ?_
 refine AA _ (AF rfl) rfl ?_
 refine AI (AE (AG (AG (AC (AA (.agg (List.toArray (α := Value) ([U64 pv, U64 ep, I64 ((k:Int)), .slice ai ni ci, .slice sa ns sc, U64 bl] ++ cu8 tg))) (AL rfl (BO D7 C4 (by simp [htg]) (MemAt.ent 0 rfl (AM _)))) rfl ?_)))))
 refine AN (AT 128 [.agg (List.toArray (α := Value) ([U64 pv, U64 ep, I64 ((k:Int)), .slice ai ni ci, .slice sa ns sc, U64 bl] ++ cu8 tg))] (errV 50 (mayN pv ep ((k:Int)) l ls bl)) (AW [.agg (List.toArray (α := Value) ([U64 pv, U64 ep, I64 ((k:Int)), .slice ai ni ci, .slice sa ns sc, U64 bl] ++ cu8 tg))] Tryd.call128 rfl) (fun w1 hw1 => may13_c pv ep ((k:Int)) ai ni ci l sa ns sc ls bl tg w1 hl (by omega) (by omega) (by omega) (DD hw1 rfl hv) hls (by omega) (by omega) (by omega) (DD hw1 rfl hs) htg)) rfl ?_
 rintro v1 L1 ⟨rfl, rfl⟩
 show JL _ _ _ _ ((12, errV 50 (mayN pv ep ((k:Int)) l ls bl)) :: _) [_]
 refine AA _ (AF rfl) rfl ?_
 refine AI (AE (AG (AC (AA _ (AD rfl) rfl ?_))))
 refine AA (.bool (!(decide (mayN pv ep ((k:Int)) l ls bl = 0)))) (D8 _ _ _ rfl rfl (fun _ => eqGuard_errV ..) fun _ => neq_errV B8 _ _) rfl ?_
 refine AI (AE (B9 _ rfl (by rw [show (decide (mayN pv ep ((k:Int)) l ls bl = 0)) = true from (decide_eq_true hmay)] <;> rfl) ?_))
 refine BE (AE (AG (AC (AA (Ptr nb1 2) (AJ 2 26 4 BN rfl B0 rfl rfl) rfl ?_))))
 refine AA (.agg (List.toArray (α := Value) ([I64 ((k:Int)), .slice ai ni ci, .slice sa ns sc, U64 bl]))) (AL rfl (BO CV B0 rfl (MemAt.ent 0 rfl (Seg.split (p := [U64 pv, U64 ep]) (q := cu8 tg) (vs := [I64 ((k:Int)), .slice ai ni ci, .slice sa ns sc, U64 bl]) (by first | rfl | (simp only [List.append_assoc, List.nil_append, List.append_nil, List.cons_append]; done)) rfl)))) rfl ?_
 refine AN (BR _ ([I64 (0:Int), .slice none 0 0, .slice none 0 0, U64 (0:UInt64)]) Tryd.zeroValue26 (by kernel_rfl)) rfl ?_
 rintro v1 L1 ⟨nb2, hnb2, rfl, rfl⟩
 show JL _ _ _ _ ((5, Ptr nb2 0) :: _) [_, ⟨nb2, [I64 (0:Int), .slice none 0 0, .slice none 0 0, U64 (0:UInt64)], 26, (0, 0)⟩]
 refine AN (A8 1 nb2 0 4 ([I64 (0:Int), .slice none 0 0, .slice none 0 0, U64 (0:UInt64)]) 26 (.agg (List.toArray (α := Value) ([I64 ((k:Int)), .slice ai ni ci, .slice sa ns sc, U64 bl]))) ([I64 ((k:Int)), .slice ai ni ci, .slice sa ns sc, U64 bl]) ([I64 ((k:Int)), .slice ai ni ci, .slice sa ns sc, U64 bl]) rfl rfl rfl (by first | rfl | simp) B0 rfl (by simp [Value.oneCell']) (Nat.le_of_ble_eq_true rfl) (BU (by simp []))) rfl ?_
 rintro v1 L1 ⟨rfl, rfl⟩
 show JL _ _ _ _ _ [_, ⟨nb2, [I64 ((k:Int)), .slice ai ni ci, .slice sa ns sc, U64 bl], 26, (0, 0)⟩]
 refine AI (AE (AG (AC (AA (.agg (List.toArray (α := Value) ([.nilIface, .slice none 0 0]))) (EG [] _ rfl (fun _ => by kernel_rfl)) rfl ?_))))
 refine AN (CM (.agg (List.toArray (α := Value) ([.nilIface, .slice none 0 0]))) ([.nilIface, .slice none 0 0]) rfl (by first | rfl | simp)) rfl ?_
 rintro v1 L1 ⟨nb3, hnb3, rfl, rfl⟩
 show JL _ _ _ _ ((19, Ptr nb3 0) :: _) [_, _, ⟨nb3, [.nilIface, .slice none 0 0], 149, (0, 0)⟩]
 refine AA _ (AF rfl) rfl ?_
 refine AI (AE (AG (C3 75 4 [(0, Ptr nb3 0), (1, Ptr nb1 0), (2, U64 pv), (4, Ptr nb1 1), (5, U64 ep), (7, Ptr nb2 0), (8, I64 ((k:Int))), (9, U64 (UInt64.ofNat k))] BQ rfl (by decide +kernel) ?_)))
 refine BT ⟨[], [0, 1, 2, 4, 5, 7, 8, 9], [], [0, 1, 2, 4, 5, 7, 8, 9], [3]⟩ 3 _ rfl rfl (by decide +kernel) rfl ⟨⟨_, rfl, AB rfl (AD rfl)⟩, ⟨_, rfl, AB rfl (AJ 0 22 1 BN rfl A6 rfl rfl)⟩, ⟨_, rfl, AB rfl (AL rfl (AZ BC (MemAt.ent 0 rfl (BV (Seg.head)))))⟩, ⟨_, rfl, AB rfl (AJ 1 22 1 BN rfl A6 rfl rfl)⟩, ⟨_, rfl, AB rfl (AL rfl (AZ BC (MemAt.ent 0 rfl (BV (AR (Seg.head))))))⟩, ⟨_, rfl, AB rfl (AJ 0 3 1 AO rfl B3 rfl rfl)⟩, ⟨_, rfl, AB rfl (AL rfl (AZ B7 (MemAt.ent 1 rfl (Seg.head))))⟩, ⟨_, rfl, AB rfl (DR _ _ rfl fun _ => DZ (by rw [CI]; rfl) BY k _ (by omega))⟩, trivial⟩ rfl (A1 rfl (D5 81 _ [false, false, true] [nb3] _ (AW [Ptr nb3 0, U64 pv, I64 (8:Int)] Tryd.call81 rfl) rfl (fun w1 hw1 => numN_c nb3 8 .nilIface pv 8 w1 (hw1.ent _ (List.mem_of_getElem? (i := 2) rfl)) (by unfold Szd; omega) (fun h => absurd h (by omega)) (by omega)))) ?_
 rintro v1 L1 ⟨_, ⟨rfl, nb4, sp1, cp1, rfl, hc1, hc2, hc3⟩, rfl⟩
 refine ⟨[], ?_⟩
 show DP _ _ _ _ _ _ _ _ [_, _, ⟨nb3, [.nilIface, Slc nb4 0 8 cp1], 149, (0, 0)⟩, ⟨nb4, cu8 (numK 8 pv 8) ++ sp1, 5, (0, 0)⟩]
 refine BT ⟨[3], [0, 1, 2, 4, 5, 7, 8, 9], [0, 1, 2], [4, 5, 7, 8, 9], [6]⟩ 6 _ rfl rfl (by decide +kernel) rfl ⟨⟨_, rfl, AB rfl (AJ 1 22 1 BN rfl A6 rfl rfl)⟩, ⟨_, rfl, AB rfl (AL rfl (AZ BC (MemAt.ent 0 rfl (BV (AR (Seg.head))))))⟩, ⟨_, rfl, AB rfl (AJ 0 3 1 AO rfl B3 rfl rfl)⟩, ⟨_, rfl, AB rfl (AL rfl (AZ B7 (MemAt.ent 1 rfl (Seg.head))))⟩, ⟨_, rfl, AB rfl (DR _ _ rfl fun _ => DZ (by rw [CI]; rfl) BY k _ (by omega))⟩, trivial⟩ rfl (A1 rfl (D5 81 _ [false, false, true, true] [nb3, nb4] _ (AW [Ptr nb3 0, U64 ep, I64 (8:Int)] Tryd.call81 rfl) rfl (fun w1 hw1 => numO_c nb3 nb4 8 cp1 16 .nilIface (numK 8 pv 8) sp1 ep 8 w1 (hw1.ent _ (List.mem_of_getElem? (i := 2) rfl)) (hw1.ent _ (List.mem_of_getElem? (i := 3) rfl)) (hw1.ne (i := 2) (j := 3) rfl rfl (by decide)) (show (numK 8 pv 8).length = 8 from (CX _ _ _)) hc1 hc2 hc3 (by omega) (by unfold Szd; omega) (fun h => absurd h (by omega)) (by omega)))) ?_
 rintro v1 L1 ⟨_, ⟨rfl, nb5, sp2, cp2, rfl, hc4, hc5, hc6⟩, rfl⟩
 refine ⟨[], ?_⟩
 show DP _ _ _ _ _ _ _ _ [_, _, ⟨nb3, [.nilIface, Slc nb5 0 16 cp2], 149, (0, 0)⟩, ⟨nb5, cu8 ((numK 8 pv 8) ++ numK 8 ep 8) ++ sp2, 5, (0, 0)⟩]
 refine BT ⟨[3, 6], [0, 1, 2, 4, 5, 7, 8, 9], [0, 1, 2, 4, 5], [7, 8, 9], [10]⟩ 10 _ rfl rfl (by decide +kernel) rfl ⟨⟨_, rfl, AB rfl (AJ 0 3 1 AO rfl B3 rfl rfl)⟩, ⟨_, rfl, AB rfl (AL rfl (AZ B7 (MemAt.ent 1 rfl (Seg.head))))⟩, ⟨_, rfl, AB rfl (DR _ _ rfl fun _ => DZ (by rw [CI]; rfl) BY k _ (by omega))⟩, trivial⟩ rfl (A1 rfl (D5 81 _ [false, false, true, true] [nb3, nb5] _ (AW [Ptr nb3 0, U64 (UInt64.ofNat k), I64 (1:Int)] Tryd.call81 rfl) rfl (fun w1 hw1 => numO_c nb3 nb5 16 cp2 17 .nilIface ((numK 8 pv 8) ++ numK 8 ep 8) sp2 (UInt64.ofNat k) 1 w1 (hw1.ent _ (List.mem_of_getElem? (i := 2) rfl)) (hw1.ent _ (List.mem_of_getElem? (i := 3) rfl)) (hw1.ne (i := 2) (j := 3) rfl rfl (by decide)) (show ((numK 8 pv 8) ++ numK 8 ep 8).length = 16 from (by rw [List.length_append, (show (numK 8 pv 8).length = 8 from (CX _ _ _)), CX] <;> omega)) hc4 hc5 hc6 (by omega) (by unfold Szd; omega) (fun _ => shr8n (by omega)) (by omega)))) ?_
 rintro v1 L1 ⟨_, ⟨rfl, nb6, sp3, cp3, rfl, hc7, hc8, hc9⟩, rfl⟩
 refine ⟨[], ?_⟩
 show DP _ _ _ _ _ _ _ _ [_, _, ⟨nb3, [.nilIface, Slc nb6 0 17 cp3], 149, (0, 0)⟩, ⟨nb6, cu8 (((numK 8 pv 8) ++ numK 8 ep 8) ++ numK 1 (UInt64.ofNat k) 1) ++ sp3, 5, (0, 0)⟩]
 refine DG ⟨[3, 6, 10], [0, 1, 2, 4, 5, 7, 8, 9], [0, 1, 2, 4, 5, 7, 8, 9], [], []⟩ rfl rfl (by decide +kernel) rfl trivial ?_
 refine CZ (F' := [(2, .slice none 0 0), (3, .nilIface), (5, Ptr nb2 0), (6, Ptr nb3 0)]) (by kernel_rfl) ?_
 refine AE (AG (AG (AC (AA (Ptr nb2 0) (AJ 0 3 1 AO rfl B3 rfl rfl) rfl ?_))))
 refine AA (I64 ((k:Int))) (AL rfl (AZ B7 (MemAt.ent 1 rfl (Seg.head)))) rfl ?_
 refine AA (.bool (decide (((k:Int)) = (3:Int)))) (AK rfl rfl fun _ => CU _ _) rfl ?_
 refine AI (AE (DM _ rfl (decide_eq_true (by omega)) ?_))
 refine AG (AC (AA _ (AD rfl) rfl ?_))
 refine AA (Ptr nb2 3) (AJ 3 22 1 AO rfl A6 rfl rfl) rfl ?_
 refine AA (U64 bl) (AL rfl (AZ BC (MemAt.ent 1 rfl (AR (AR (AR (Seg.head))))))) rfl ?_
 refine AN (D5 81 _ [false, false, true, true] [nb3, nb6] _ (AW [Ptr nb3 0, U64 bl, I64 (8:Int)] Tryd.call81 rfl) rfl (fun w1 hw1 => numO_c nb3 nb6 17 cp3 25 .nilIface (((numK 8 pv 8) ++ numK 8 ep 8) ++ numK 1 (UInt64.ofNat k) 1) sp3 bl 8 w1 (hw1.ent _ (List.mem_of_getElem? (i := 2) rfl)) (hw1.ent _ (List.mem_of_getElem? (i := 3) rfl)) (hw1.ne (i := 2) (j := 3) rfl rfl (by decide)) (show (((numK 8 pv 8) ++ numK 8 ep 8) ++ numK 1 (UInt64.ofNat k) 1).length = 17 from (by rw [List.length_append, (show ((numK 8 pv 8) ++ numK 8 ep 8).length = 16 from (by rw [List.length_append, (show (numK 8 pv 8).length = 8 from (CX _ _ _)), CX] <;> omega)), CX] <;> omega)) hc7 hc8 hc9 (by omega) (by unfold Szd; omega) (fun h => absurd h (by omega)) (by omega))) rfl ?_
 rintro v1 L1 ⟨_, ⟨rfl, nb7, sp4, cp4, rfl, hc10, hc11, hc12⟩, rfl⟩
 show JL _ _ _ _ ((37, Ptr nb3 0) :: _) [_, _, ⟨nb3, [.nilIface, Slc nb7 0 25 cp4], 149, (0, 0)⟩, ⟨nb7, cu8 ((((numK 8 pv 8) ++ numK 8 ep 8) ++ numK 1 (UInt64.ofNat k) 1) ++ numK 8 bl 8) ++ sp4, 5, (0, 0)⟩]
 refine AN (B1 83 [Ptr nb3 0] _ (AW [Ptr nb3 0] Tryd.call83 rfl) (fun w1 hw1 => doneO_c nb3 0 nb7 25 cp4 ((((numK 8 pv 8) ++ numK 8 ep 8) ++ numK 1 (UInt64.ofNat k) 1) ++ numK 8 bl 8) w1 (RdA.of hw1 (MemAt.ent 2 rfl (AM _)) (by simp)) rfl (show ((((numK 8 pv 8) ++ numK 8 ep 8) ++ numK 1 (UInt64.ofNat k) 1) ++ numK 8 bl 8).length = 25 from (by rw [List.length_append, (show (((numK 8 pv 8) ++ numK 8 ep 8) ++ numK 1 (UInt64.ofNat k) 1).length = 17 from (by rw [List.length_append, (show ((numK 8 pv 8) ++ numK 8 ep 8).length = 16 from (by rw [List.length_append, (show (numK 8 pv 8).length = 8 from (CX _ _ _)), CX] <;> omega)), CX] <;> omega)), CX] <;> omega)) (by omega) (RdB.of hw1 (MemAt.ent 3 rfl (BV (AM _))) (by simp)))) rfl ?_
 rintro v1 L1 ⟨_, ⟨nb8, sp5, cp5, rfl, rfl, hc13, hc14, hc15⟩, rfl⟩
 show JL _ _ _ _ ((38, .tuple #[Slc nb8 0 25 cp5, .nilIface]) :: _) [_, _, _, _, ⟨nb8, cu8 ((((numK 8 pv 8) ++ numK 8 ep 8) ++ numK 1 (UInt64.ofNat k) 1) ++ numK 8 bl 8) ++ sp5, 5, (0, 0)⟩]
 refine AA _ (BJ rfl rfl) rfl ?_
 refine AA _ (BJ rfl rfl) rfl ?_
 refine AA _ (AF rfl) rfl ?_
 refine AA _ (AF rfl) rfl ?_
 refine AI (AE (BG (A0 (B5 [false, false, false, false, true] ?_))))
 show JQ _ _ _ _ [_]
 refine BI (.tuple #[Slc nb8 0 25 cp5, .nilIface]) (res2 Tryd.results114 (BK rfl) (BK rfl)) fun w1 hw1 => ?_
 have hq : (((numK 8 pv 8) ++ numK 8 ep 8) ++ numK 1 (UInt64.ofNat k) 1) ++ numK 8 bl 8 = tktT pv ep k l ls bl := by
  unfold tktT
  rw [if_pos hk]
 rw [hq] at hw1
 exact ⟨_, _, rfl, ⟨nb8, sp5, cp5, rfl, rfl, hc13, hc14, hc15⟩, hw1.sub (by simp) (by simp)⟩
theorem text12_c (pv ep : UInt64) (k : Nat) (ai : Option Addr) (ni ci : Nat) (l : List UInt64) (sa : Option Addr) (ns sc : Nat) (ls : List SealR) (bl : UInt64) (tg : List UInt8) (tot : Nat)  (w : World) (hl : l.length = ni) (hnm : ni ≤ 2000000) (hnc : ni ≤ ci) (hcm : ci ≤ maxLen) (hv : RdV w ai (cu64 l)) (hls : ls.length = ns) (hnn : ns ≤ 2000000) (hnd : ns ≤ sc) (hcn : sc ≤ maxLen) (hs : RdV w sa (ls.flatMap sealC)) (htg : tg.length = 16) (hmay : mayN pv ep (k:Int) l ls bl = 0) (hk : k = 1 ∨ k = 2) (hsm : ns ≤ 300) (htot : 18 + 4*ni + 56*ns = tot)  : Calls Tryd.prog 114 #[.agg (List.toArray (α := Value) ([U64 pv, U64 ep, I64 ((k:Int)), .slice ai ni ci, .slice sa ns sc, U64 bl] ++ cu8 tg))] w (Post w [] (fun v L => ∃ g sp cap, v = .tuple #[Slc g 0 tot cap, .nilIface] ∧ L = [⟨g, cu8 (tktT pv ep k l ls bl) ++ sp, 5, (0, 0)⟩] ∧ sp.length = cap - tot ∧ tot ≤ cap ∧ cap ≤ maxLen)) := by
 have hmx : maxLen = 9223372036854775807 := rfl
 have hRO := mayN_right hmay
 have hRI := RightO_idx hRO (by omega)
 have hRp := RightI_pos hRI
 rw [hl] at hRp
 refine enter (P := Tryd.prog) (f := 114) (fn := Tryd.f114) w [] 75 [] [.agg (List.toArray (α := Value) ([U64 pv, U64 ep, I64 ((k:Int)), .slice ai ni ci, .slice sa ns sc, U64 bl] ++ cu8 tg))] Tryd.func114 rfl rfl (by simp) (BL (by simp) (by simp) (by simp)) ?_
 show JC _ _ _ [(0, .agg (List.toArray (α := Value) ([U64 pv, U64 ep, I64 ((k:Int)), .slice ai ni ci, .slice sa ns sc, U64 bl] ++ cu8 tg)))] _
 refine AG (AC (AN (CM (.agg (List.toArray (α := Value) ([U64 pv, U64 ep, I64 ((k:Int)), .slice ai ni ci, .slice sa ns sc, U64 bl] ++ cu8 tg))) ([U64 pv, U64 ep, I64 ((k:Int)), .slice ai ni ci, .slice sa ns sc, U64 bl] ++ cu8 tg) rfl (by first | rfl | simp)) rfl ?_))
 rintro v1 L1 ⟨nb1, hnb1, rfl, rfl⟩
 show JL _ _ _ _ ((1, Ptr nb1 0) :: _) [⟨nb1, [U64 pv, U64 ep, I64 ((k:Int)), .slice ai ni ci, .slice sa ns sc, U64 bl] ++ cu8 tg, 29, (0, 0)⟩]
 refine AA _ (AF rfl) rfl ?_
 refine AA _ (AF rfl) rfl ?_
 refine AI (AE (AG (AG (AC (AA (.agg (List.toArray (α := Value) ([U64 pv, U64 ep, I64 ((k:Int)), .slice ai ni ci, .slice sa ns sc, U64 bl] ++ cu8 tg))) (AL rfl (BO D7 C4 (by simp [htg]) (MemAt.ent 0 rfl (AM _)))) rfl ?_)))))
 refine AN (AT 128 [.agg (List.toArray (α := Value) ([U64 pv, U64 ep, I64 ((k:Int)), .slice ai ni ci, .slice sa ns sc, U64 bl] ++ cu8 tg))] (errV 50 (mayN pv ep ((k:Int)) l ls bl)) (AW [.agg (List.toArray (α := Value) ([U64 pv, U64 ep, I64 ((k:Int)), .slice ai ni ci, .slice sa ns sc, U64 bl] ++ cu8 tg))] Tryd.call128 rfl) (fun w1 hw1 => may13_c pv ep ((k:Int)) ai ni ci l sa ns sc ls bl tg w1 hl (by omega) (by omega) (by omega) (DD hw1 rfl hv) hls (by omega) (by omega) (by omega) (DD hw1 rfl hs) htg)) rfl ?_
 rintro v1 L1 ⟨rfl, rfl⟩
 show JL _ _ _ _ ((12, errV 50 (mayN pv ep ((k:Int)) l ls bl)) :: _) [_]
 refine AA _ (AF rfl) rfl ?_
 refine AI (AE (AG (AC (AA _ (AD rfl) rfl ?_))))
 refine AA (.bool (!(decide (mayN pv ep ((k:Int)) l ls bl = 0)))) (D8 _ _ _ rfl rfl (fun _ => eqGuard_errV ..) fun _ => neq_errV B8 _ _) rfl ?_
 refine AI (AE (B9 _ rfl (by rw [show (decide (mayN pv ep ((k:Int)) l ls bl = 0)) = true from (decide_eq_true hmay)] <;> rfl) ?_))
 refine BE (AE (AG (AC (AA (Ptr nb1 2) (AJ 2 26 4 BN rfl B0 rfl rfl) rfl ?_))))
 refine AA (.agg (List.toArray (α := Value) ([I64 ((k:Int)), .slice ai ni ci, .slice sa ns sc, U64 bl]))) (AL rfl (BO CV B0 rfl (MemAt.ent 0 rfl (Seg.split (p := [U64 pv, U64 ep]) (q := cu8 tg) (vs := [I64 ((k:Int)), .slice ai ni ci, .slice sa ns sc, U64 bl]) (by first | rfl | (simp only [List.append_assoc, List.nil_append, List.append_nil, List.cons_append]; done)) rfl)))) rfl ?_
 refine AN (BR _ ([I64 (0:Int), .slice none 0 0, .slice none 0 0, U64 (0:UInt64)]) Tryd.zeroValue26 (by kernel_rfl)) rfl ?_
 rintro v1 L1 ⟨nb2, hnb2, rfl, rfl⟩
 show JL _ _ _ _ ((5, Ptr nb2 0) :: _) [_, ⟨nb2, [I64 (0:Int), .slice none 0 0, .slice none 0 0, U64 (0:UInt64)], 26, (0, 0)⟩]
 refine AN (A8 1 nb2 0 4 ([I64 (0:Int), .slice none 0 0, .slice none 0 0, U64 (0:UInt64)]) 26 (.agg (List.toArray (α := Value) ([I64 ((k:Int)), .slice ai ni ci, .slice sa ns sc, U64 bl]))) ([I64 ((k:Int)), .slice ai ni ci, .slice sa ns sc, U64 bl]) ([I64 ((k:Int)), .slice ai ni ci, .slice sa ns sc, U64 bl]) rfl rfl rfl (by first | rfl | simp) B0 rfl (by simp [Value.oneCell']) (Nat.le_of_ble_eq_true rfl) (BU (by simp []))) rfl ?_
 rintro v1 L1 ⟨rfl, rfl⟩
 show JL _ _ _ _ _ [_, ⟨nb2, [I64 ((k:Int)), .slice ai ni ci, .slice sa ns sc, U64 bl], 26, (0, 0)⟩]
 refine AI (AE (AG (AC (AA (.agg (List.toArray (α := Value) ([.nilIface, .slice none 0 0]))) (EG [] _ rfl (fun _ => by kernel_rfl)) rfl ?_))))
 refine AN (CM (.agg (List.toArray (α := Value) ([.nilIface, .slice none 0 0]))) ([.nilIface, .slice none 0 0]) rfl (by first | rfl | simp)) rfl ?_
 rintro v1 L1 ⟨nb3, hnb3, rfl, rfl⟩
 show JL _ _ _ _ ((19, Ptr nb3 0) :: _) [_, _, ⟨nb3, [.nilIface, .slice none 0 0], 149, (0, 0)⟩]
 refine AA _ (AF rfl) rfl ?_
 refine AI (AE (AG (C3 75 4 [(0, Ptr nb3 0), (1, Ptr nb1 0), (2, U64 pv), (4, Ptr nb1 1), (5, U64 ep), (7, Ptr nb2 0), (8, I64 ((k:Int))), (9, U64 (UInt64.ofNat k))] BQ rfl (by decide +kernel) ?_)))
 refine BT ⟨[], [0, 1, 2, 4, 5, 7, 8, 9], [], [0, 1, 2, 4, 5, 7, 8, 9], [3]⟩ 3 _ rfl rfl (by decide +kernel) rfl ⟨⟨_, rfl, AB rfl (AD rfl)⟩, ⟨_, rfl, AB rfl (AJ 0 22 1 BN rfl A6 rfl rfl)⟩, ⟨_, rfl, AB rfl (AL rfl (AZ BC (MemAt.ent 0 rfl (BV (Seg.head)))))⟩, ⟨_, rfl, AB rfl (AJ 1 22 1 BN rfl A6 rfl rfl)⟩, ⟨_, rfl, AB rfl (AL rfl (AZ BC (MemAt.ent 0 rfl (BV (AR (Seg.head))))))⟩, ⟨_, rfl, AB rfl (AJ 0 3 1 AO rfl B3 rfl rfl)⟩, ⟨_, rfl, AB rfl (AL rfl (AZ B7 (MemAt.ent 1 rfl (Seg.head))))⟩, ⟨_, rfl, AB rfl (DR _ _ rfl fun _ => DZ (by rw [CI]; rfl) BY k _ (by omega))⟩, trivial⟩ rfl (A1 rfl (D5 81 _ [false, false, true] [nb3] _ (AW [Ptr nb3 0, U64 pv, I64 (8:Int)] Tryd.call81 rfl) rfl (fun w1 hw1 => numN_c nb3 8 .nilIface pv 8 w1 (hw1.ent _ (List.mem_of_getElem? (i := 2) rfl)) (by unfold Szd; omega) (fun h => absurd h (by omega)) (by omega)))) ?_
 rintro v1 L1 ⟨_, ⟨rfl, nb4, sp1, cp1, rfl, hc1, hc2, hc3⟩, rfl⟩
 refine ⟨[], ?_⟩
 show DP _ _ _ _ _ _ _ _ [_, _, ⟨nb3, [.nilIface, Slc nb4 0 8 cp1], 149, (0, 0)⟩, ⟨nb4, cu8 (numK 8 pv 8) ++ sp1, 5, (0, 0)⟩]
 refine BT ⟨[3], [0, 1, 2, 4, 5, 7, 8, 9], [0, 1, 2], [4, 5, 7, 8, 9], [6]⟩ 6 _ rfl rfl (by decide +kernel) rfl ⟨⟨_, rfl, AB rfl (AJ 1 22 1 BN rfl A6 rfl rfl)⟩, ⟨_, rfl, AB rfl (AL rfl (AZ BC (MemAt.ent 0 rfl (BV (AR (Seg.head))))))⟩, ⟨_, rfl, AB rfl (AJ 0 3 1 AO rfl B3 rfl rfl)⟩, ⟨_, rfl, AB rfl (AL rfl (AZ B7 (MemAt.ent 1 rfl (Seg.head))))⟩, ⟨_, rfl, AB rfl (DR _ _ rfl fun _ => DZ (by rw [CI]; rfl) BY k _ (by omega))⟩, trivial⟩ rfl (A1 rfl (D5 81 _ [false, false, true, true] [nb3, nb4] _ (AW [Ptr nb3 0, U64 ep, I64 (8:Int)] Tryd.call81 rfl) rfl (fun w1 hw1 => numO_c nb3 nb4 8 cp1 16 .nilIface (numK 8 pv 8) sp1 ep 8 w1 (hw1.ent _ (List.mem_of_getElem? (i := 2) rfl)) (hw1.ent _ (List.mem_of_getElem? (i := 3) rfl)) (hw1.ne (i := 2) (j := 3) rfl rfl (by decide)) (show (numK 8 pv 8).length = 8 from (CX _ _ _)) hc1 hc2 hc3 (by omega) (by unfold Szd; omega) (fun h => absurd h (by omega)) (by omega)))) ?_
 rintro v1 L1 ⟨_, ⟨rfl, nb5, sp2, cp2, rfl, hc4, hc5, hc6⟩, rfl⟩
 refine ⟨[], ?_⟩
 show DP _ _ _ _ _ _ _ _ [_, _, ⟨nb3, [.nilIface, Slc nb5 0 16 cp2], 149, (0, 0)⟩, ⟨nb5, cu8 ((numK 8 pv 8) ++ numK 8 ep 8) ++ sp2, 5, (0, 0)⟩]
 refine BT ⟨[3, 6], [0, 1, 2, 4, 5, 7, 8, 9], [0, 1, 2, 4, 5], [7, 8, 9], [10]⟩ 10 _ rfl rfl (by decide +kernel) rfl ⟨⟨_, rfl, AB rfl (AJ 0 3 1 AO rfl B3 rfl rfl)⟩, ⟨_, rfl, AB rfl (AL rfl (AZ B7 (MemAt.ent 1 rfl (Seg.head))))⟩, ⟨_, rfl, AB rfl (DR _ _ rfl fun _ => DZ (by rw [CI]; rfl) BY k _ (by omega))⟩, trivial⟩ rfl (A1 rfl (D5 81 _ [false, false, true, true] [nb3, nb5] _ (AW [Ptr nb3 0, U64 (UInt64.ofNat k), I64 (1:Int)] Tryd.call81 rfl) rfl (fun w1 hw1 => numO_c nb3 nb5 16 cp2 17 .nilIface ((numK 8 pv 8) ++ numK 8 ep 8) sp2 (UInt64.ofNat k) 1 w1 (hw1.ent _ (List.mem_of_getElem? (i := 2) rfl)) (hw1.ent _ (List.mem_of_getElem? (i := 3) rfl)) (hw1.ne (i := 2) (j := 3) rfl rfl (by decide)) (show ((numK 8 pv 8) ++ numK 8 ep 8).length = 16 from (by rw [List.length_append, (show (numK 8 pv 8).length = 8 from (CX _ _ _)), CX] <;> omega)) hc4 hc5 hc6 (by omega) (by unfold Szd; omega) (fun _ => shr8n (by omega)) (by omega)))) ?_
 rintro v1 L1 ⟨_, ⟨rfl, nb6, sp3, cp3, rfl, hc7, hc8, hc9⟩, rfl⟩
 refine ⟨[], ?_⟩
 show DP _ _ _ _ _ _ _ _ [_, _, ⟨nb3, [.nilIface, Slc nb6 0 17 cp3], 149, (0, 0)⟩, ⟨nb6, cu8 (((numK 8 pv 8) ++ numK 8 ep 8) ++ numK 1 (UInt64.ofNat k) 1) ++ sp3, 5, (0, 0)⟩]
 refine DG ⟨[3, 6, 10], [0, 1, 2, 4, 5, 7, 8, 9], [0, 1, 2, 4, 5, 7, 8, 9], [], []⟩ rfl rfl (by decide +kernel) rfl trivial ?_
 refine CZ (F' := [(2, .slice none 0 0), (3, .nilIface), (5, Ptr nb2 0), (6, Ptr nb3 0)]) (by kernel_rfl) ?_
 refine AE (AG (AG (AC (AA (Ptr nb2 0) (AJ 0 3 1 AO rfl B3 rfl rfl) rfl ?_))))
 refine AA (I64 ((k:Int))) (AL rfl (AZ B7 (MemAt.ent 1 rfl (Seg.head)))) rfl ?_
 refine AA (.bool (decide (((k:Int)) = (3:Int)))) (AK rfl rfl fun _ => CU _ _) rfl ?_
 refine AI (AE (B9 _ rfl (decide_eq_false (by omega)) ?_))
 refine BE (AE (AG (AC (AA _ (AD rfl) rfl ?_))))
 refine AA (Ptr nb2 1) (AJ 1 23 1 AO rfl CL rfl rfl) rfl ?_
 refine AA (.slice ai ni ci) (AL rfl (AZ CW (MemAt.ent 1 rfl (AR (Seg.head))))) rfl ?_
 refine AA (I64 ((ni:Int))) (DJ A9 rfl) rfl ?_
 refine AA (I64 ((ni:Int) - 1)) (AK rfl rfl fun _ => CO _ _ ((ni:Int) - 1) (by omega) (by omega)) rfl ?_
 refine AA (U64 (UInt64.ofNat (ni - 1))) (DR _ _ rfl fun _ => DZ (by rw [CI]; rfl) BY (ni - 1) _ (by omega)) rfl ?_
 refine AN (D5 81 _ [false, false, true, true] [nb3, nb6] _ (AW [Ptr nb3 0, U64 (UInt64.ofNat (ni - 1)), I64 (1:Int)] Tryd.call81 rfl) rfl (fun w1 hw1 => numO_c nb3 nb6 17 cp3 18 .nilIface (((numK 8 pv 8) ++ numK 8 ep 8) ++ numK 1 (UInt64.ofNat k) 1) sp3 (UInt64.ofNat (ni - 1)) 1 w1 (hw1.ent _ (List.mem_of_getElem? (i := 2) rfl)) (hw1.ent _ (List.mem_of_getElem? (i := 3) rfl)) (hw1.ne (i := 2) (j := 3) rfl rfl (by decide)) (show (((numK 8 pv 8) ++ numK 8 ep 8) ++ numK 1 (UInt64.ofNat k) 1).length = 17 from (by rw [List.length_append, (show ((numK 8 pv 8) ++ numK 8 ep 8).length = 16 from (by rw [List.length_append, (show (numK 8 pv 8).length = 8 from (CX _ _ _)), CX] <;> omega)), CX] <;> omega)) hc7 hc8 hc9 (by omega) (by unfold Szd; omega) (fun _ => shr8n (by omega)) (by omega))) rfl ?_
 rintro v1 L1 ⟨_, ⟨rfl, nb7, sp4, cp4, rfl, hc10, hc11, hc12⟩, rfl⟩
 show JL _ _ _ _ ((47, Ptr nb3 0) :: _) [_, _, ⟨nb3, [.nilIface, Slc nb7 0 18 cp4], 149, (0, 0)⟩, ⟨nb7, cu8 ((((numK 8 pv 8) ++ numK 8 ep 8) ++ numK 1 (UInt64.ofNat k) 1) ++ numK 1 (UInt64.ofNat (ni - 1)) 1) ++ sp4, 5, (0, 0)⟩]
 refine AI (AE (AG (AG (AC (AA (Ptr nb2 1) (AJ 1 23 1 AO rfl CL rfl rfl) rfl ?_)))))
 refine AA (.slice ai ni ci) (AL rfl (AZ CW (MemAt.ent 1 rfl (AR (Seg.head))))) rfl ?_
 refine AA (I64 ((ni:Int))) (DJ A9 rfl) rfl ?_
 refine AA _ (AD rfl) rfl ?_
 refine AI (AE (BH ?_))
 skip
 refine B5 [false, true, true, true] ?_
 show JC _ _ _ _ [_, _, _]
 refine DN (ι := Nat × List UInt8 × Nat × List Value × Nat) (fun ⟨i, oqi, gqi, spqi, cpqi⟩ => [(2, .slice none 0 0), (3, .nilIface), (5, Ptr nb2 0), (6, Ptr nb3 0), (49, .slice ai ni ci), (50, I64 ((ni:Int))), (51, I64 ((i:Int)))]) (fun ⟨i, oqi, gqi, spqi, cpqi⟩ => [⟨nb2, [I64 ((k:Int)), .slice ai ni ci, .slice sa ns sc, U64 bl], 26, (0, 0)⟩, ⟨nb3, [.nilIface, Slc gqi 0 (4*i + 18) cpqi], 149, (0, 0)⟩, ⟨gqi, cu8 oqi ++ spqi, 5, (0, 0)⟩]) (fun ⟨i, oqi, gqi, spqi, cpqi⟩ => i ≤ ni ∧ oqi = (((numK 8 pv 8 ++ numK 8 ep 8) ++ numK 1 (UInt64.ofNat k) 1) ++ numK 1 (UInt64.ofNat (ni - 1)) 1) ++ idxT l i ∧ oqi.length = (4*i + 18) ∧ spqi.length = cpqi - ((4*i + 18)) ∧ (4*i + 18) ≤ cpqi ∧ cpqi ≤ maxLen) (fun ⟨i, oqi, gqi, spqi, cpqi⟩ => ni - i) (0, (((numK 8 pv 8) ++ numK 8 ep 8) ++ numK 1 (UInt64.ofNat k) 1) ++ numK 1 (UInt64.ofNat (ni - 1)) 1, nb7, sp4, cp4) ⟨by omega, by rw [idxT_zero, List.append_nil], (by have h := (show ((((numK 8 pv 8) ++ numK 8 ep 8) ++ numK 1 (UInt64.ofNat k) 1) ++ numK 1 (UInt64.ofNat (ni - 1)) 1).length = 18 from (by rw [List.length_append, (show (((numK 8 pv 8) ++ numK 8 ep 8) ++ numK 1 (UInt64.ofNat k) 1).length = 17 from (by rw [List.length_append, (show ((numK 8 pv 8) ++ numK 8 ep 8).length = 16 from (by rw [List.length_append, (show (numK 8 pv 8).length = 8 from (CX _ _ _)), CX] <;> omega)), CX] <;> omega)), CX] <;> omega)); omega), (by have h := hc10; omega), by omega, by omega⟩ (AH rfl (AH rfl (AH rfl (AH rfl (AH rfl (AH rfl (AH rfl (Sub.nil)))))))) (by first | rfl | (simp; done)) ?_
 rintro ⟨i, oqi, gqi, spqi, cpqi⟩ ⟨hi1, hi2, hi3, hi4, hi5, hi6⟩
 show JC _ _ _ [(2, .slice none 0 0), (3, .nilIface), (5, Ptr nb2 0), (6, Ptr nb3 0), (49, .slice ai ni ci), (50, I64 ((ni:Int))), (51, I64 ((i:Int)))] [⟨nb2, [I64 ((k:Int)), .slice ai ni ci, .slice sa ns sc, U64 bl], 26, (0, 0)⟩, ⟨nb3, [.nilIface, Slc gqi 0 (4*i + 18) cpqi], 149, (0, 0)⟩, ⟨gqi, cu8 oqi ++ spqi, 5, (0, 0)⟩]
 refine AG (AC (AA (.bool (decide (((i:Int)) < ((ni:Int))))) (AK rfl rfl fun _ => CP _ _) rfl ?_))
 refine AI (AE (AG (CN (decide (((i:Int)) < ((ni:Int)))) rfl (fun hb1 => ?_) (fun hb1 => ?_))))
 ·
  have hp1 : ((i:Int)) < ((ni:Int)) := of_decide_eq_true hb1
  refine BE (AE (AG (BH (AG (AC ?_)))))
  obtain ⟨bz1, oz1, hz1, hm1⟩ := RdV.pos hv (by rw [EN, hl]; omega)
  refine AA (Ptr bz1 (i + oz1)) (CF 22 1 (i + oz1) A9 A6 rfl hz1 rfl (by omega) (by omega) (by omega)) rfl ?_
  refine AA (U64 (g64 l i)) (AL rfl (AZ BC (CA (hm1.mem (by simp)) (Seg.get (FK (i := i) (by rw [hl]; omega))) (by omega)))) rfl ?_
  refine AA _ (AF rfl) rfl ?_
  refine AI (AE (AC (AA _ (AD rfl) rfl ?_)))
  refine AA _ (AD rfl) rfl ?_
  refine AN (D5 81 _ [false, true, true] [nb3, gqi] _ (AW [Ptr nb3 0, U64 (g64 l i), I64 (4:Int)] Tryd.call81 rfl) rfl (fun w1 hw1 => numO_c nb3 gqi (4*i + 18) cpqi (4*i + 22) .nilIface oqi spqi (g64 l i) 4 w1 (hw1.ent _ (List.mem_of_getElem? (i := 1) rfl)) (hw1.ent _ (List.mem_of_getElem? (i := 2) rfl)) (hw1.ne (i := 1) (j := 2) rfl rfl (by decide)) hi3 hi4 hi5 hi6 (by omega) (by unfold Szd; omega) (fun _ => idx_fit hRI (by omega)) (by omega))) rfl ?_
  rintro v1 L1 ⟨_, ⟨rfl, nb8, sp5, cp5, rfl, hc13, hc14, hc15⟩, rfl⟩
  show JL _ _ _ _ ((57, Ptr nb3 0) :: _) [_, ⟨nb3, [.nilIface, Slc nb8 0 (4*i + 22) cp5], 149, (0, 0)⟩, ⟨nb8, cu8 (oqi ++ numK 4 (g64 l i) 4) ++ sp5, 5, (0, 0)⟩]
  refine AI (BA (AE (AC (AA (I64 ((i:Int) + 1)) (AK rfl rfl fun _ => CH _ _ ((i:Int) + 1) (by omega) (by omega)) rfl ?_))))
  refine AA _ (AD rfl) rfl ?_
  refine AI (CR (DT (i + 1, oqi ++ numK 4 (g64 l i) 4, nb8, sp5, cp5) ⟨by omega, by rw [hi2, idxT_succ, List.append_assoc], (by have h := (show (oqi ++ numK 4 (g64 l i) 4).length = (4*i + 22) from (by rw [List.length_append, hi3, CX] <;> omega)); omega), (by have h := hc13; omega), by omega, by omega⟩ (by first | (simp; omega) | simp | (dsimp only; omega) | omega) (AH rfl (AH rfl (AH rfl (AH rfl (AH rfl (AH rfl (AH rfl (Sub.nil)))))))) (by first | rfl | rw [show (4*i + 22) = (4*(i + 1) + 18) by omega])))
 ·
  have hp1 : ¬ (((i:Int)) < ((ni:Int))) := of_decide_eq_false hb1
  refine DL (AX (AX (CC (AE (AG (AG (AC (AA (Ptr nb2 2) (AJ 2 24 1 AO rfl DC rfl rfl) rfl ?_))))))))
  refine AA (.slice sa ns sc) (AL rfl (AZ DQ (MemAt.ent 0 rfl (AR (AR (Seg.head)))))) rfl ?_
  refine AA (I64 ((ns:Int))) (DJ B4 rfl) rfl ?_
  refine AA _ (AD rfl) rfl ?_
  refine AI (AE (BH ?_))
  have ei : ni = i := by omega
  subst ei
  show JC _ _ _ _ [⟨nb2, [I64 ((k:Int)), .slice ai ni ci, .slice sa ns sc, U64 bl], 26, (0, 0)⟩, ⟨nb3, [.nilIface, Slc gqi 0 (4*ni + 18) cpqi], 149, (0, 0)⟩, ⟨gqi, cu8 oqi ++ spqi, 5, (0, 0)⟩]
  refine B5 [false, true, true] ?_
  show JC _ _ _ _ [_, _]
  refine DN (ι := Nat × List UInt8 × Nat × List Value × Nat) (fun ⟨j, oqj, gqj, spqj, cpqj⟩ => [(2, .slice none 0 0), (3, .nilIface), (6, Ptr nb3 0), (60, .slice sa ns sc), (61, I64 ((ns:Int))), (62, I64 ((j:Int)))]) (fun ⟨j, oqj, gqj, spqj, cpqj⟩ => [⟨nb3, [.nilIface, Slc gqj 0 (56*j + 4*ni + 18) cpqj], 149, (0, 0)⟩, ⟨gqj, cu8 oqj ++ spqj, 5, (0, 0)⟩]) (fun ⟨j, oqj, gqj, spqj, cpqj⟩ => j ≤ ns ∧ oqj = ((((numK 8 pv 8 ++ numK 8 ep 8) ++ numK 1 (UInt64.ofNat k) 1) ++ numK 1 (UInt64.ofNat (ni - 1)) 1) ++ idxT l ni) ++ selT (ls.take j) ∧ oqj.length = (56*j + 4*ni + 18) ∧ spqj.length = cpqj - ((56*j + 4*ni + 18)) ∧ (56*j + 4*ni + 18) ≤ cpqj ∧ cpqj ≤ maxLen) (fun ⟨j, oqj, gqj, spqj, cpqj⟩ => ns - j) (0, oqi, gqi, spqi, cpqi) ⟨by omega, by rw [hi2]; simp [selT_nil], (by have h := hi3; omega), (by have h := hi4; omega), by omega, by omega⟩ (AH rfl (AH rfl (AH rfl (AH rfl (AH rfl (AH rfl (Sub.nil))))))) (by first | rfl | (simp; done)) ?_
  rintro ⟨j, oqj, gqj, spqj, cpqj⟩ ⟨hj1, hj2, hj3, hj4, hj5, hj6⟩
  show JC _ _ _ [(2, .slice none 0 0), (3, .nilIface), (6, Ptr nb3 0), (60, .slice sa ns sc), (61, I64 ((ns:Int))), (62, I64 ((j:Int)))] [⟨nb3, [.nilIface, Slc gqj 0 (56*j + 4*ni + 18) cpqj], 149, (0, 0)⟩, ⟨gqj, cu8 oqj ++ spqj, 5, (0, 0)⟩]
  refine AG (AC (AA (.bool (decide (((j:Int)) < ((ns:Int))))) (AK rfl rfl fun _ => CP _ _) rfl ?_))
  refine AI (AE (AG (CN (decide (((j:Int)) < ((ns:Int)))) rfl (fun hb2 => ?_) (fun hb2 => ?_))))
  ·
   have hp2 : ((j:Int)) < ((ns:Int)) := of_decide_eq_true hb2
   refine BE (AE (AG (BH (AG (AC ?_)))))
   obtain ⟨x1, hx1⟩ : ∃ x, ls[j]? = some x := ⟨_, List.getElem?_eq_getElem (by rw [hls]; omega)⟩
   obtain ⟨bz2, oz2, hz2, hm2⟩ := rows_at EK (by decide) hs hx1
   refine AA (Ptr bz2 (49*j + oz2)) (CF 161 49 (49*j + oz2) B4 CE rfl hz2 rfl (by omega) (by omega) (by omega)) rfl ?_
   refine AA (.agg (List.toArray (α := Value) ([U64 x1.e] ++ cu8 x1.d ++ cu8 x1.t))) (AL rfl (BO D3 CE (by simp [x1.hd, x1.ht]) (CA (hm2.mem (by simp)) (AM _) (by omega)))) rfl ?_
   refine AN (BR _ ([U64 (0:UInt64)] ++ cu8 (zr8 32) ++ cu8 (zr8 16)) Tryd.zeroValue161 (by kernel_rfl)) rfl ?_
   rintro v1 L1 ⟨nb9, hnb9, rfl, rfl⟩
   show JL _ _ _ _ ((10, Ptr nb9 0) :: _) [_, _, ⟨nb9, [U64 (0:UInt64)] ++ cu8 (zr8 32) ++ cu8 (zr8 16), 161, (0, 0)⟩]
   refine AN (A8 2 nb9 0 49 ([U64 (0:UInt64)] ++ cu8 (zr8 32) ++ cu8 (zr8 16)) 161 (.agg (List.toArray (α := Value) ([U64 x1.e] ++ cu8 x1.d ++ cu8 x1.t))) ([U64 x1.e] ++ cu8 x1.d ++ cu8 x1.t) ([U64 x1.e] ++ cu8 x1.d ++ cu8 x1.t) rfl rfl rfl (by first | rfl | simp) CE (by simp [x1.hd, x1.ht]) (FA (FA (by simp [Value.oneCell']) C5) C5) (by simp [(A2 32), (A2 16)]) (BU (by simp [(A2 32), (A2 16), x1.hd, x1.ht]))) rfl ?_
   rintro v1 L1 ⟨rfl, rfl⟩
   show JL _ _ _ _ _ [_, _, ⟨nb9, [U64 x1.e] ++ cu8 x1.d ++ cu8 x1.t, 161, (0, 0)⟩]
   refine AI (AE (AC (AA _ (AD rfl) rfl ?_)))
   refine AA (.agg (List.toArray (α := Value) ([U64 x1.e] ++ cu8 x1.d ++ cu8 x1.t))) (AL rfl (BO D3 CE (by simp [x1.hd, x1.ht]) (MemAt.ent 2 rfl (AM _)))) rfl ?_
   refine AN (B1 97 [.agg (List.toArray (α := Value) ([U64 x1.e] ++ cu8 x1.d ++ cu8 x1.t))] _ (AW [.agg (List.toArray (α := Value) ([U64 x1.e] ++ cu8 x1.d ++ cu8 x1.t))] Tryd.call97 rfl) (fun w1 hw1 => put7_c x1.e x1.d x1.t w1 x1.hd x1.ht)) rfl ?_
   rintro v1 L1 ⟨_, ⟨nb10, sp6, cp6, rfl, rfl, hc16, hc17, hc18⟩, rfl⟩
   show JL _ _ _ _ ((68, Slc nb10 0 56 cp6) :: _) [_, _, _, ⟨nb10, cu8 (putL x1.e x1.d x1.t) ++ sp6, 5, (0, 0)⟩]
   refine AN (D5 82 _ [true, true, false, false] [nb3, gqj] _ (AW [Ptr nb3 0, Slc nb10 0 56 cp6] Tryd.call82 rfl) rfl (fun w1 hw1 => rawO_c nb3 gqj (56*j + 4*ni + 18) cpqj (56*j + 4*ni + 74) .nilIface oqj spqj (some ⟨nb10, 0, none⟩) 56 cp6 (putL x1.e x1.d x1.t) w1 (hw1.ent _ (List.mem_of_getElem? (i := 0) rfl)) (hw1.ent _ (List.mem_of_getElem? (i := 1) rfl)) (hw1.ne (i := 0) (j := 1) rfl rfl (by decide)) hj3 hj4 hj5 hj6 (by omega) (show (putL x1.e x1.d x1.t).length = 56 from (putL_len x1.hd x1.ht)) (by omega) (RdB.of hw1 (MemAt.ent 3 rfl (BV (AM _))) (by intro _; simp only [List.mem_cons, List.not_mem_nil, or_false, not_or]; exact ⟨hw1.ne (i := 3) (j := 0) rfl rfl (by decide), hw1.ne (i := 3) (j := 1) rfl rfl (by decide)⟩)) (by omega))) rfl ?_
   rintro v1 L1 ⟨_, ⟨rfl, nb11, sp7, cp7, rfl, hc19, hc20, hc21⟩, rfl⟩
   show JL _ _ _ _ ((69, Ptr nb3 0) :: _) [_, _, ⟨nb3, [.nilIface, Slc nb11 0 (56*j + 4*ni + 74) cp7], 149, (0, 0)⟩, ⟨nb11, cu8 (oqj ++ (putL x1.e x1.d x1.t)) ++ sp7, 5, (0, 0)⟩]
   refine AI (BA (AE (AC (AA (I64 ((j:Int) + 1)) (AK rfl rfl fun _ => CH _ _ ((j:Int) + 1) (by omega) (by omega)) rfl ?_))))
   refine AA _ (AD rfl) rfl ?_
   refine AI (CR (B5 [false, false, true, true] ?_))
   show K _ _ [_, _] _
   refine DT (j + 1, oqj ++ (putL x1.e x1.d x1.t), nb11, sp7, cp7) ⟨by omega, by rw [hj2, ← take_step hx1, selT_app, List.append_assoc], (by have h := (show (oqj ++ (putL x1.e x1.d x1.t)).length = (56*j + 4*ni + 74) from (by rw [List.length_append, hj3, (show (putL x1.e x1.d x1.t).length = 56 from (putL_len x1.hd x1.ht))] <;> omega)); omega), (by have h := hc19; omega), by omega, by omega⟩ (by first | (simp; omega) | simp | (dsimp only; omega) | omega) (AH rfl (AH rfl (AH rfl (AH rfl (AH rfl (AH rfl (Sub.nil))))))) (by first | rfl | rw [show (56*j + 4*ni + 74) = (56*(j + 1) + 4*ni + 18) by omega])
  ·
   have hp2 : ¬ (((j:Int)) < ((ns:Int))) := of_decide_eq_false hb2
   refine DL (AX (AX (CC (AE (AG (AC (AA _ (AD rfl) rfl ?_)))))))
   refine AN (B1 83 [Ptr nb3 0] _ (AW [Ptr nb3 0] Tryd.call83 rfl) (fun w1 hw1 => doneO_c nb3 0 gqj (56*j + 4*ni + 18) cpqj oqj w1 (RdA.of hw1 (MemAt.ent 0 rfl (AM _)) (by simp)) rfl hj3 (by omega) (RdB.of hw1 (MemAt.ent 1 rfl (BV (AM _))) (by simp)))) rfl ?_
   rintro v1 L1 ⟨_, ⟨nb12, sp8, cp8, rfl, rfl, hc22, hc23, hc24⟩, rfl⟩
   show JL _ _ _ _ ((72, .tuple #[Slc nb12 0 (56*j + 4*ni + 18) cp8, .nilIface]) :: _) [_, _, ⟨nb12, cu8 oqj ++ sp8, 5, (0, 0)⟩]
   refine AA _ (BJ rfl rfl) rfl ?_
   refine AA _ (BJ rfl rfl) rfl ?_
   refine AA _ (AF rfl) rfl ?_
   refine AA _ (AF rfl) rfl ?_
   refine AI (AE (BG (B5 [false, false, true] ?_)))
   show JQ _ _ _ _ [_]
   refine BI (.tuple #[Slc nb12 0 (56*j + 4*ni + 18) cp8, .nilIface]) (res2 Tryd.results114 (BK rfl) (BK rfl)) fun w1 hw1 => ?_
   obtain rfl : j = ns := by omega
   have hq : oqj = tktT pv ep k l ls bl := by
    unfold tktT
    rw [if_neg (by omega), hl, hj2, List.take_of_length_le (by omega)]
   rw [hq] at hw1
   obtain rfl : tot = (56*j + 4*ni + 18) := by omega
   exact ⟨_, _, rfl, ⟨nb12, sp8, cp8, rfl, rfl, hc22, hc23, hc24⟩, hw1.sub (by simp) (by simp)⟩
end Go.Proofs.YtkdpdgpphpngeaaDoor
