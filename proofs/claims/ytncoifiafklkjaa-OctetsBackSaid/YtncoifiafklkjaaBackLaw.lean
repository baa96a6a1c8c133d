import Derived.Test.YtncoifiafklkjaaRdLaw
namespace Go.Proofs.Ytncoifiafklkjaa
open Go Go.Sx
set_option linter.unusedVariables false
set_option linter.unusedSimpArgs false
/-! what is written is read as it was -/
def encA (a : ActV) : List UInt8 :=
  if u64i a.kd % 5 = 0 then numK a.s.toNat a.nn a.s.toNat else if u64i a.kd % 5 = 1 then numK 2 (UInt64.ofNat a.p) 2 ++ a.z else if u64i a.kd % 5 = 2 then a.z else if u64i a.kd % 5 = 3 then hashL a.z else numK 1 (bitU (decide (a.nn % 2 = 1))) 1
def GoodA (a : ActV) : Prop := (u64i a.kd % 5 = 0 → Szd a.s ∧ ftN a.nn a.s.toNat = 0) ∧ (u64i a.kd % 5 = 1 → a.p ≤ 65535)
def encU (al : List ActV) (i : Nat) : List UInt8 := (al.take i).flatMap encA
def encD (al : List ActV) (i : Nat) : List UInt8 := (al.drop i).flatMap encA
def GoodU (al : List ActV) (i : Nat) : Prop := ∀ a ∈ al.take i, GoodA a
theorem encU_zero (al : List ActV) : encU al 0 = [] := by simp [encU]
theorem encD_zero (al : List ActV) : encD al 0 = encU al al.length := by simp [encD, encU]
theorem GoodU_zero (al : List ActV) : GoodU al 0 := by simp [GoodU]
theorem take_one {al : List ActV} {i : Nat} {a : ActV} (h : al[i]? = some a) : al.take (i + 1) = al.take i ++ [a] := by rw [List.take_add_one, h]; rfl
theorem encU_succ {al : List ActV} {i : Nat} {a : ActV} (h : al[i]? = some a) : encU al (i + 1) = encU al i ++ encA a := by simp [encU, take_one h]
theorem GoodU_succ {al : List ActV} {i : Nat} {a : ActV} (h : al[i]? = some a) (hu : GoodU al i) (ha : GoodA a) : GoodU al (i + 1) := fun x hx => by
  rw [take_one h, List.mem_append] at hx
  rcases hx with hx | hx
  · exact hu x hx
  · obtain rfl : x = a := by simpa using hx
    exact ha
theorem encD_succ {al : List ActV} {i : Nat} {a : ActV} (h : al[i]? = some a) : encD al i = encA a ++ encD al (i + 1) := by
  have hlt := (List.getElem?_eq_some_iff.1 h)
  obtain ⟨h1, h2⟩ := hlt
  rw [encD, List.drop_eq_getElem_cons h1, h2]; rfl
theorem encD_end {al : List ActV} {i : Nat} (h : al.length ≤ i) : encD al i = [] := by simp [encD, List.drop_eq_nil_of_le h]
theorem erN_ne {e k : Nat} (hk : k ≠ 0) : erN e k ≠ 0 := by unfold erN; split <;> omega
section
variable {al : List ActV} {i : Nat} {kd s : Int} {nn : UInt64} {ax : Option Addr} {p cx k : Nat} {z o : List UInt8}
theorem bk0 (hk : u64i kd % 5 = 0) (hs : Szd (k:Int)) (hx : ftN nn k = 0) (ha : al[i]? = some ⟨kd, k, nn, ax, p, cx, z⟩) (h : GoodU al i ∧ o = encU al i) : GoodU al (i + 1) ∧ o ++ numK k nn k = encU al (i + 1) :=
  ⟨GoodU_succ ha h.1 ⟨fun _ => ⟨hs, hx⟩, fun h1 => by rw [hk] at h1; exact absurd h1 (by decide)⟩, by rw [encU_succ ha, h.2, encA, if_pos hk]; rfl⟩
theorem bk1 (h0 : ¬ u64i kd % 5 = 0) (hk : u64i kd % 5 = 1) (hp : p ≤ 65535) (ha : al[i]? = some ⟨kd, s, nn, ax, p, cx, z⟩) (h : GoodU al i ∧ o = encU al i) : GoodU al (i + 1) ∧ (o ++ numK 2 (UInt64.ofNat p) 2) ++ z = encU al (i + 1) :=
  ⟨GoodU_succ ha h.1 ⟨fun h1 => absurd h1 h0, fun _ => hp⟩, by rw [encU_succ ha, h.2, encA, if_neg h0, if_pos hk, List.append_assoc]⟩
theorem bk2 (h0 : ¬ u64i kd % 5 = 0) (h1 : ¬ u64i kd % 5 = 1) (hk : u64i kd % 5 = 2) (ha : al[i]? = some ⟨kd, s, nn, ax, p, cx, z⟩) (h : GoodU al i ∧ o = encU al i) : GoodU al (i + 1) ∧ o ++ z = encU al (i + 1) :=
  ⟨GoodU_succ ha h.1 ⟨fun h => absurd h h0, fun h => absurd h h1⟩, by rw [encU_succ ha, h.2, encA, if_neg h0, if_neg h1, if_pos hk]⟩
theorem bk2z (h0 : ¬ u64i kd % 5 = 0) (h1 : ¬ u64i kd % 5 = 1) (hk : u64i kd % 5 = 2) (hz : z.length = 0) (ha : al[i]? = some ⟨kd, s, nn, ax, p, cx, z⟩) (h : GoodU al i ∧ ([] : List UInt8) = encU al i) : GoodU al (i + 1) ∧ ([] : List UInt8) = encU al (i + 1) := by
  have h2 := bk2 h0 h1 hk ha h
  rw [List.eq_nil_of_length_eq_zero hz] at h2
  exact h2
theorem bk3 (h0 : ¬ u64i kd % 5 = 0) (h1 : ¬ u64i kd % 5 = 1) (h2 : ¬ u64i kd % 5 = 2) (hk : u64i kd % 5 = 3) (ha : al[i]? = some ⟨kd, s, nn, ax, p, cx, z⟩) (h : GoodU al i ∧ o = encU al i) : GoodU al (i + 1) ∧ o ++ hashL z = encU al (i + 1) :=
  ⟨GoodU_succ ha h.1 ⟨fun h => absurd h h0, fun h => absurd h h1⟩, by rw [encU_succ ha, h.2, encA, if_neg h0, if_neg h1, if_neg h2, if_pos hk]⟩
theorem bk4 (h0 : ¬ u64i kd % 5 = 0) (h1 : ¬ u64i kd % 5 = 1) (h2 : ¬ u64i kd % 5 = 2) (h3 : ¬ u64i kd % 5 = 3) (ha : al[i]? = some ⟨kd, s, nn, ax, p, cx, z⟩) (h : GoodU al i ∧ o = encU al i) : GoodU al (i + 1) ∧ o ++ numK 1 (bitU (decide (nn % 2 = 1))) 1 = encU al (i + 1) :=
  ⟨GoodU_succ ha h.1 ⟨fun h => absurd h h0, fun h => absurd h h1⟩, by rw [encU_succ ha, h.2, encA, if_neg h0, if_neg h1, if_neg h2, if_neg h3]⟩
variable {y r : List UInt8} {e : Nat}
theorem okE_true {p : Prop} [Decidable p] (hp : p) : okE e (decide p) = 0 := by rw [decide_eq_true hp]; rfl
theorem g8_app {a b : List UInt8} {j : Nat} (h : j < a.length) : g8 (a ++ b) j = g8 a j := by simp [g8, List.getElem?_append_left h]
theorem mid_app {a b : List UInt8} {n : Nat} (h : a.length = n) : mid (a ++ b) 0 n = a := by subst h; simp [mid]
theorem drop_app {a b : List UInt8} {n : Nat} (h : a.length = n) : (a ++ b).drop n = b := by subst h; simp
theorem fdN_num {p : Nat} (hp : p ≤ 65535) (t : List UInt8) : fdN (numK 2 (UInt64.ofNat p) 2 ++ t) = p := by
  have hl := numK_len 2 (UInt64.ofNat p) 2
  have h0 : (UInt64.ofNat p).toNat = p := by rw [UInt64.toNat_ofNat']; exact Nat.mod_eq_of_lt (by omega)
  rw [fdN, g8_app (by omega), g8_app (by omega), numK, g8_mr (by omega), g8_mr (by omega), UInt64.toNat_toUInt8, UInt64.toNat_toUInt8]
  have e0 : ((UInt64.ofNat p) >>> UInt64.ofNat (8*2 - 8*0 - 8)).toNat = p / 256 := by rw [show 8*2 - 8*0 - 8 = 8*1 from rfl, shr_divK _ 1 (by omega), h0] <;> rfl
  have e1 : ((UInt64.ofNat p) >>> UInt64.ofNat (8*2 - 8*1 - 8)).toNat = p := by rw [show 8*2 - 8*1 - 8 = 8*0 from rfl, shr_divK _ 0 (by omega), h0] <;> simp
  rw [e0, e1]
  show 256 * (p / 256 % 256) + p % 256 = p
  omega
theorem rk0 (hk : u64i kd % 5 = 0) (hg : GoodA ⟨kd, s, nn, ax, p, cx, z⟩) (hy : y = encA ⟨kd, s, nn, ax, p, cx, z⟩ ++ r) (he : e = 0) : nuV y e s = nn ∧ nuZ y e s = r ∧ okE e (decide (NuOk y e s)) = 0 := by
  obtain ⟨hs', hx⟩ := hg.1 hk
  have hs : Szd s := hs'
  clear hs'
  obtain ⟨q, rfl⟩ : ∃ q : Nat, s = q := ⟨s.toNat, by unfold Szd at hs; omega⟩
  have hq : q ≤ 8 := by have := hs; unfold Szd at this; omega
  have hx' : ftN nn q = 0 := hx
  have hf : nn.toNat / 256 ^ q = 0 := by rw [← ftN_nat, hx']; rfl
  rw [encA, if_pos hk] at hy
  have hy' : y = numK q nn q ++ r := hy
  have hl := numK_len q nn q
  have hok : NuOk y e q := ⟨he, hs, by rw [hy', List.length_append, hl]; omega⟩
  refine ⟨?_, ?_, okE_true hok⟩
  · rw [nuV, if_pos hok]
    show valK y q = nn
    rw [hy', valK_congr q (b := numK q nn q) (fun j hj => g8_app (by omega)), valK_back q nn hq hf]
  · rw [nuZ, if_pos hok]
    show y.drop q = r
    rw [hy', drop_app hl]
theorem rk1 (h0 : ¬ u64i kd % 5 = 0) (hk : u64i kd % 5 = 1) (hz : z.length = p) (hg : GoodA ⟨kd, s, nn, ax, p, cx, z⟩) (hy : y = encA ⟨kd, s, nn, ax, p, cx, z⟩ ++ r) (he : e = 0) : fdV y e 65535 = z ∧ fdZ y e 65535 = r ∧ okE e (decide (FdOk y e 65535)) = 0 := by
  have hp : p ≤ 65535 := hg.2 hk
  rw [encA, if_neg h0, if_pos hk] at hy
  have hy' : y = numK 2 (UInt64.ofNat p) 2 ++ (z ++ r) := by rw [hy, List.append_assoc]
  have hl := numK_len 2 (UInt64.ofNat p) 2
  have hn : fdN y = p := by rw [hy', fdN_num hp]
  have hok : FdOk y e 65535 := ⟨he, by rw [hy', List.length_append, hl]; omega, by rw [hn]; omega, by rw [hn, hy']; simp [hl, hz]; omega⟩
  refine ⟨?_, ?_, okE_true hok⟩
  · rw [fdV, if_pos hok, hn, hy', drop_app hl, mid_app hz]
  · rw [fdZ, if_pos hok, hn, hy', drop_app hl, drop_app hz]
theorem rk2 (h0 : ¬ u64i kd % 5 = 0) (h1 : ¬ u64i kd % 5 = 1) (hk : u64i kd % 5 = 2) (hz : z.length = p) (hy : y = encA ⟨kd, s, nn, ax, p, cx, z⟩ ++ r) (he : e = 0) : tkV y e p = z ∧ tkZ y e p = r ∧ okE e (decide (TkOk y e p)) = 0 := by
  rw [encA, if_neg h0, if_neg h1, if_pos hk] at hy
  have hy' : y = z ++ r := hy
  have hok : TkOk y e p := ⟨he, by omega, by rw [hy', List.length_append]; omega⟩
  refine ⟨?_, ?_, okE_true hok⟩
  · rw [tkV, if_pos hok]
    show mid y 0 p = z
    rw [hy', mid_app hz]
  · rw [tkZ, if_pos hok]
    show y.drop p = r
    rw [hy', drop_app hz]
theorem rk3 (h0 : ¬ u64i kd % 5 = 0) (h1 : ¬ u64i kd % 5 = 1) (h2 : ¬ u64i kd % 5 = 2) (hk : u64i kd % 5 = 3) (hy : y = encA ⟨kd, s, nn, ax, p, cx, z⟩ ++ r) (he : e = 0) : hsV y e = hashL z ∧ hsZ y e = r ∧ okE e (decide (HsOk y e)) = 0 := by
  rw [encA, if_neg h0, if_neg h1, if_neg h2, if_pos hk] at hy
  have hy' : y = hashL z ++ r := hy
  have hl := hashL_len z
  have hok : HsOk y e := ⟨he, by rw [hy', List.length_append]; omega⟩
  refine ⟨?_, ?_, okE_true hok⟩
  · rw [hsV, if_pos hok, hy', mid_app hl]
  · rw [hsZ, if_pos hok, hy', drop_app hl]
theorem bit_num (b : Bool) : numK 1 (bitU b) 1 = [if b then 1 else 0] := by cases b <;> decide +kernel
theorem rk4 (h0 : ¬ u64i kd % 5 = 0) (h1 : ¬ u64i kd % 5 = 1) (h2 : ¬ u64i kd % 5 = 2) (h3 : ¬ u64i kd % 5 = 3) (hy : y = encA ⟨kd, s, nn, ax, p, cx, z⟩ ++ r) (he : e = 0) : fgV y e = decide (nn % 2 = 1) ∧ fgZ y e = r ∧ okE e (decide (FgOk y e)) = 0 := by
  rw [encA, if_neg h0, if_neg h1, if_neg h2, if_neg h3, bit_num] at hy
  have hy' : y = [if decide (nn % 2 = 1) then (1:UInt8) else 0] ++ r := hy
  have hg : g8 y 0 = if decide (nn % 2 = 1) then (1:UInt8) else 0 := by rw [hy']; rfl
  have hok : FgOk y e := ⟨he, by rw [hy', List.length_append]; simp, by rw [hg]; split <;> decide⟩
  refine ⟨?_, ?_, okE_true hok⟩
  · rw [fgV]
    by_cases h : nn % 2 = 1
    · rw [decide_eq_true h, decide_eq_true ⟨hok, by rw [hg, if_pos (by simpa using h)]⟩]
    · rw [decide_eq_false h, decide_eq_false (fun hh => by have := hh.2; rw [hg, if_neg (by simpa using h)] at this; exact absurd this (by decide))]
  · rw [fgZ, if_pos hok, hy']; rfl
end
end Go.Proofs.Ytncoifiafklkjaa
