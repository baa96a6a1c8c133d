import Derived.Test.YtncoifiafklkjaaDoorSxR
namespace Go.Sx
open Go Go.RowKit
set_option linter.unusedVariables false
variable {C : Cx} {Q : Exit → Act → World → Prop} {F F0 : Frm} {L : List Ent}
/-- where code falls through: one of the states told; else: what is asked -/
def CutQ {ι : Type} (C : Cx) (Q : Exit → Act → World → Prop) (FI : ι → Frm) (LI : ι → List Ent) (Pre : ι → Prop) : Exit → Act → World → Prop := fun e a w =>
  (e = .normal ∧ ∃ x, Pre x ∧ Fr (FI x) C a ∧ Hp C.w0 C.M (LI x) w) ∨ (e ≠ .normal ∧ Q e a w)
/-- the cut -/
theorem JC_cut {ι : Type} {c : Code} (FI : ι → Frm) (LI : ι → List Ent) (Pre : ι → Prop) (h1 : JC C (CutQ C Q FI LI Pre) c F L) (h2 : ∀ x, Pre x → JQ C Q .normal (FI x) (LI x)) : JC C Q c F L := fun a w ha hw => wpIn_mono (h1 a w ha hw) (by
  rintro e a w (⟨rfl, x, hp, ha, hw⟩ | ⟨_, h⟩)
  · exact h2 x hp a w ha hw
  · exact h)
theorem JQ_cut {ι : Type} {FI : ι → Frm} {LI : ι → List Ent} {Pre : ι → Prop} (x : ι) (hp : Pre x) (hF : Sub (FI x) F) (hL : LI x = L) : JQ C (CutQ C Q FI LI Pre) .normal F L := fun a w ha hw => .inl ⟨rfl, x, hp, ha.weaken hF, hL ▸ hw⟩
theorem JQ_cut_ret {ι : Type} {FI : ι → Frm} {LI : ι → List Ent} {Pre : ι → Prop} (h : JQ C Q .ret F L) : JQ C (CutQ C Q FI LI Pre) .ret F L := fun a w ha hw => .inr ⟨(by simp), h a w ha hw⟩
theorem JQ_cut_exit {ι : Type} {FI : ι → Frm} {LI : ι → List Ent} {Pre : ι → Prop} {id : Nat} (h : JQ C Q (.exit id) F L) : JQ C (CutQ C Q FI LI Pre) (.exit id) F L := fun a w ha hw => .inr ⟨(by simp), h a w ha hw⟩
variable {ops : Array Oper} {Vl : Vals}
theorem DP_three {k : Nat} {pre av : List Nat} (p : Ph) (c d e : Nat) (R S T : Value → List Ent → Prop) (hp : p.pre = pre) (ha : (av.all fun i => p.av.contains i) = true) (hc : p.chk ops = true) (hcs : p.cs = [c, d, e]) (hq : QAll C ops Q F0 Vl L p.q)
    (hc1 : (lk Vl c).isNone = true) (hc2 : (lk Vl d).isNone = true) (hc3 : (lk Vl e).isNone = true) (h1 : Cok C ops Q (frmOf ops Vl F0 c) L c R) (h2 : Cok C ops Q (frmOf ops Vl F0 d) L d S) (h3 : Cok C ops Q (frmOf ops Vl F0 e) L e T)
    (g1 : ∀ v L', R v L' → ∃ ex, DP C ops Q F0 k (pre ++ [c]) p.av (Vl ++ (c, v) :: ex) L') (g2 : ∀ v L', S v L' → ∃ ex, DP C ops Q F0 k (pre ++ [d]) p.av (Vl ++ (d, v) :: ex) L') (g3 : ∀ v L', T v L' → ∃ ex, DP C ops Q F0 k (pre ++ [e]) p.av (Vl ++ (e, v) :: ex) L') :
    DP C ops Q F0 (k + 1) pre av Vl L :=
  ⟨p, hp, ha, hc, hq, (fun h => by rw [hcs] at h; cases h), by
    rw [hcs]; intro x hx
    rcases List.mem_cons.1 hx with rfl | hx
    · exact ⟨hc1, R, h1, g1⟩
    rcases List.mem_cons.1 hx with rfl | hx
    · exact ⟨hc2, S, h2, g2⟩
    rcases List.mem_cons.1 hx with rfl | hx
    · exact ⟨hc3, T, h3, g3⟩
    · cases hx⟩
theorem DP_four {k : Nat} {pre av : List Nat} (p : Ph) (c d e f : Nat) (R S T U : Value → List Ent → Prop) (hp : p.pre = pre) (ha : (av.all fun i => p.av.contains i) = true) (hc : p.chk ops = true) (hcs : p.cs = [c, d, e, f]) (hq : QAll C ops Q F0 Vl L p.q)
    (hc1 : (lk Vl c).isNone = true) (hc2 : (lk Vl d).isNone = true) (hc3 : (lk Vl e).isNone = true) (hc4 : (lk Vl f).isNone = true) (h1 : Cok C ops Q (frmOf ops Vl F0 c) L c R) (h2 : Cok C ops Q (frmOf ops Vl F0 d) L d S) (h3 : Cok C ops Q (frmOf ops Vl F0 e) L e T) (h4 : Cok C ops Q (frmOf ops Vl F0 f) L f U)
    (g1 : ∀ v L', R v L' → ∃ ex, DP C ops Q F0 k (pre ++ [c]) p.av (Vl ++ (c, v) :: ex) L') (g2 : ∀ v L', S v L' → ∃ ex, DP C ops Q F0 k (pre ++ [d]) p.av (Vl ++ (d, v) :: ex) L') (g3 : ∀ v L', T v L' → ∃ ex, DP C ops Q F0 k (pre ++ [e]) p.av (Vl ++ (e, v) :: ex) L') (g4 : ∀ v L', U v L' → ∃ ex, DP C ops Q F0 k (pre ++ [f]) p.av (Vl ++ (f, v) :: ex) L') :
    DP C ops Q F0 (k + 1) pre av Vl L :=
  ⟨p, hp, ha, hc, hq, (fun h => by rw [hcs] at h; cases h), by
    rw [hcs]; intro x hx
    rcases List.mem_cons.1 hx with rfl | hx
    · exact ⟨hc1, R, h1, g1⟩
    rcases List.mem_cons.1 hx with rfl | hx
    · exact ⟨hc2, S, h2, g2⟩
    rcases List.mem_cons.1 hx with rfl | hx
    · exact ⟨hc3, T, h3, g3⟩
    rcases List.mem_cons.1 hx with rfl | hx
    · exact ⟨hc4, U, h4, g4⟩
    · cases hx⟩
end Go.Sx
