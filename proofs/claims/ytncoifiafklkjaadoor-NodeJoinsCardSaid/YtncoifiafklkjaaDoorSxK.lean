import Derived.Test.YtncoifiafklkjaaDoorSxJ
namespace Go.Sx
open Go Go.RowKit
set_option linter.unusedVariables false
set_option linter.unusedSimpArgs false
variable {C : Cx} {F : Frm} {L : List Ent}

theorem take?_sub : ∀ (m : List Bool) (L : List Ent), (take? m L).Sublist L
  | [], L => by cases L <;> simp [take?]
  | true :: m, [] => by simp [take?]
  | false :: m, [] => by simp [take?]
  | true :: m, e :: l => by simp only [take?]; exact (take?_sub m l).cons_cons e
  | false :: m, e :: l => by simp only [take?]; exact (take?_sub m l).cons e
theorem K_mask {φ : Act → World → Prop} (m : List Bool) (h : K C F (take? m L) φ) : K C F L φ := fun a w ha hw =>
  h a w ha (hw.sub (fun e he => (take?_sub m L).subset he) (List.Sublist.nodup ((take?_sub m L).map Ent.b) hw.nd))
theorem Hp.mask {w0 w : World} {M : List Nat} (m : List Bool) (hw : Hp w0 M L w) : Hp w0 M (take? m L) w :=
  hw.sub (fun e he => (take?_sub m L).subset he) (List.Sublist.nodup ((take?_sub m L).map Ent.b) hw.nd)
theorem Step_append8 {x y : Operand} {ty : TypeId} (t e : Nat) (m : List Bool) (v : Value) (n : Nat) (l z : List UInt8) (ao : Option Addr) (k c : Nat)
    (hu : C.P.underlying t = some (.slice e)) (hi : (C.P.info? e).map (fun i => (i.zero, i.size, i.bytes)) = some (some (.int .u8 0), 1, 1))
    (hx : ev F x = some v)
    (hv : (v = .slice none 0 0 ∧ n = 0 ∧ l = [] ∧ take? m L = [] ∧ 0 < k) ∨ (∃ g sp cap, v = Slc g 0 n cap ∧ take? m L = [⟨g, cu8 l ++ sp, e, (0, 0)⟩] ∧ l.length = n ∧ sp.length = cap - n ∧ n ≤ cap ∧ cap ≤ maxLen))
    (hy : ev F y = some (.slice ao k c)) (hk : z.length = k) (hm : SrcAt C L ao (cu8 z)) (hmax : (n + k) * 1 ≤ 140737488355328) (hmax' : n + k ≤ maxLen) :
    Step C F L (.call { callee := .builtin .append, args := #[x, y], argTypes := #[t, t] }) ty fun v' L' => ∃ g sp cap, (C.w0.heap.size ≤ g ∨ g ∈ C.M) ∧ v' = Slc g 0 (n + k) cap ∧ L' = rest? m L ++ [⟨g, cu8 (l ++ z) ++ sp, e, (0, 0)⟩] ∧ (l ++ z).length = n + k ∧ sp.length = cap - (n + k) ∧ n + k ≤ cap ∧ cap ≤ maxLen := by
  have h := Step_append (C := C) (F := F) (L := L) (x := x) (y := y) (ty := ty) t e 1 1 (.int .u8 0) m v n (cu8 l) (cu8 z) ao k c hu hi rfl (by decide) hx
    (by
      rcases hv with ⟨h1, h2, h3, h4, h5⟩ | ⟨g, sp, cap, h1, h2, h3, h4, h5, h6⟩
      · exact .inl ⟨h1, h2, by subst h3; rfl, h4, h5⟩
      · exact .inr ⟨g, sp, cap, h1, h2, by simp [h3], by simp [h3, h4]; omega, h5, h6⟩)
    hy (by simp [hk]) hm one_u8 hmax hmax'
  have hl : l.length = n := by
    rcases hv with ⟨h1, h2, h3, h4, h5⟩ | ⟨g, sp, cap, h1, h2, h3, h4, h5, h6⟩
    · subst h3; simp [h2]
    · exact h3
  intro a w ha hw d pos aft g Kk Q hq
  refine h a w ha hw d pos aft g Kk Q ?_
  rintro v' L' w' ⟨g, sp, cap, h1, h2, h3, h4, h5, h6, h7⟩ hw'
  refine hq v' L' w' ⟨g, sp, cap, h1, h2, by rw [h3, cu8_app], by simp [hl, hk], ?_, h6, h7⟩ hw'
  simp [hl, hk] at h5; omega
theorem Step_append32 {x y : Operand} {ty : TypeId} (t e : Nat) (m : List Bool) (v : Value) (n : Nat) (l z : List UInt32) (ao : Option Addr) (k c : Nat)
    (hu : C.P.underlying t = some (.slice e)) (hi : (C.P.info? e).map (fun i => (i.zero, i.size, i.bytes)) = some (some (.int .u32 0), 1, 4))
    (hx : ev F x = some v)
    (hv : (v = .slice none 0 0 ∧ n = 0 ∧ l = [] ∧ take? m L = [] ∧ 0 < k) ∨ (∃ g sp cap, v = Slc g 0 n cap ∧ take? m L = [⟨g, cu32 l ++ sp, e, (0, 0)⟩] ∧ l.length = n ∧ sp.length = cap - n ∧ n ≤ cap ∧ cap ≤ maxLen))
    (hy : ev F y = some (.slice ao k c)) (hk : z.length = k) (hm : SrcAt C L ao (cu32 z)) (hmax : (n + k) * 4 ≤ 140737488355328) (hmax' : n + k ≤ maxLen) :
    Step C F L (.call { callee := .builtin .append, args := #[x, y], argTypes := #[t, t] }) ty fun v' L' => ∃ g sp cap, (C.w0.heap.size ≤ g ∨ g ∈ C.M) ∧ v' = Slc g 0 (n + k) cap ∧ L' = rest? m L ++ [⟨g, cu32 (l ++ z) ++ sp, e, (0, 0)⟩] ∧ (l ++ z).length = n + k ∧ sp.length = cap - (n + k) ∧ n + k ≤ cap ∧ cap ≤ maxLen := by
  have h := Step_append (C := C) (F := F) (L := L) (x := x) (y := y) (ty := ty) t e 1 4 (.int .u32 0) m v n (cu32 l) (cu32 z) ao k c hu hi rfl (by decide) hx
    (by
      rcases hv with ⟨h1, h2, h3, h4, h5⟩ | ⟨g, sp, cap, h1, h2, h3, h4, h5, h6⟩
      · exact .inl ⟨h1, h2, by subst h3; rfl, h4, h5⟩
      · exact .inr ⟨g, sp, cap, h1, h2, by simp [h3], by simp [h3, h4]; omega, h5, h6⟩)
    hy (by simp [hk]) hm one_u32 hmax hmax'
  have hl : l.length = n := by
    rcases hv with ⟨h1, h2, h3, h4, h5⟩ | ⟨g, sp, cap, h1, h2, h3, h4, h5, h6⟩
    · subst h3; simp [h2]
    · exact h3
  intro a w ha hw d pos aft g Kk Q hq
  refine h a w ha hw d pos aft g Kk Q ?_
  rintro v' L' w' ⟨g, sp, cap, h1, h2, h3, h4, h5, h6, h7⟩ hw'
  refine hq v' L' w' ⟨g, sp, cap, h1, h2, by rw [h3, cu32_app], by simp [hl, hk], ?_, h6, h7⟩ hw'
  simp [hl, hk] at h5; omega
theorem Step_append64 {x y : Operand} {ty : TypeId} (t e : Nat) (m : List Bool) (v : Value) (n : Nat) (l z : List UInt64) (ao : Option Addr) (k c : Nat)
    (hu : C.P.underlying t = some (.slice e)) (hi : (C.P.info? e).map (fun i => (i.zero, i.size, i.bytes)) = some (some (.int .u64 0), 1, 8))
    (hx : ev F x = some v)
    (hv : (v = .slice none 0 0 ∧ n = 0 ∧ l = [] ∧ take? m L = [] ∧ 0 < k) ∨ (∃ g sp cap, v = Slc g 0 n cap ∧ take? m L = [⟨g, cu64 l ++ sp, e, (0, 0)⟩] ∧ l.length = n ∧ sp.length = cap - n ∧ n ≤ cap ∧ cap ≤ maxLen))
    (hy : ev F y = some (.slice ao k c)) (hk : z.length = k) (hm : SrcAt C L ao (cu64 z)) (hmax : (n + k) * 8 ≤ 140737488355328) (hmax' : n + k ≤ maxLen) :
    Step C F L (.call { callee := .builtin .append, args := #[x, y], argTypes := #[t, t] }) ty fun v' L' => ∃ g sp cap, (C.w0.heap.size ≤ g ∨ g ∈ C.M) ∧ v' = Slc g 0 (n + k) cap ∧ L' = rest? m L ++ [⟨g, cu64 (l ++ z) ++ sp, e, (0, 0)⟩] ∧ (l ++ z).length = n + k ∧ sp.length = cap - (n + k) ∧ n + k ≤ cap ∧ cap ≤ maxLen := by
  have h := Step_append (C := C) (F := F) (L := L) (x := x) (y := y) (ty := ty) t e 1 8 (.int .u64 0) m v n (cu64 l) (cu64 z) ao k c hu hi rfl (by decide) hx
    (by
      rcases hv with ⟨h1, h2, h3, h4, h5⟩ | ⟨g, sp, cap, h1, h2, h3, h4, h5, h6⟩
      · exact .inl ⟨h1, h2, by subst h3; rfl, h4, h5⟩
      · exact .inr ⟨g, sp, cap, h1, h2, by simp [h3], by simp [h3, h4]; omega, h5, h6⟩)
    hy (by simp [hk]) hm one_u64 hmax hmax'
  have hl : l.length = n := by
    rcases hv with ⟨h1, h2, h3, h4, h5⟩ | ⟨g, sp, cap, h1, h2, h3, h4, h5, h6⟩
    · subst h3; simp [h2]
    · exact h3
  intro a w ha hw d pos aft g Kk Q hq
  refine h a w ha hw d pos aft g Kk Q ?_
  rintro v' L' w' ⟨g, sp, cap, h1, h2, h3, h4, h5, h6, h7⟩ hw'
  refine hq v' L' w' ⟨g, sp, cap, h1, h2, by rw [h3, cu64_app], by simp [hl, hk], ?_, h6, h7⟩ hw'
  simp [hl, hk] at h5; omega
end Go.Sx
