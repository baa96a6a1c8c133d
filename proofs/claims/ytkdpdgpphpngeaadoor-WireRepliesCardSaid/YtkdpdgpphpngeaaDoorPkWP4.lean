import Derived.Test.YtkdpdgpphpngeaaDoorPkWP3
set_option linter.unusedVariables false
set_option linter.unusedSimpArgs false
set_option maxRecDepth 100000
namespace Go.Proofs.YtkdpdgpphpngeaaDoor
open Go Go.Sx
open Go.Value renaming slice → SL
attribute [local irreducible] mid zr8 numK rnK valK constL initL putL RightB tktT mayN idxT selT blankB plainV itB chB bB aB c1B c2B c3B c4B repR
theorem eqI_c (aj : Option Addr) (nj cj : Nat) (lj : List ItemR) (aj2 : Option Addr) (nj2 cj2 : Nat) (lj2 : List ItemR)  (w : World) (hlj : lj.length = nj) (hnj : nj ≤ 2000000) (hdj : nj ≤ cj) (hcj : cj ≤ maxLen) (hj : RdV w aj (lj.flatMap itemC)) (hlj2 : lj2.length = nj2) (hnj2 : nj2 ≤ 2000000) (hdj2 : nj2 ≤ cj2) (hcj2 : cj2 ≤ maxLen) (hj2 : RdV w aj2 (lj2.flatMap itemC))  : Calls Tryd.prog 102 #[SL aj nj cj, SL aj2 nj2 cj2] w (Post w [] (fun v L => v = .bool (decide (lj = lj2)) ∧ L = [])) := by
 have hmx : maxLen = 9223372036854775807 := rfl
 refine enter w [] 26 [] [SL aj nj cj, SL aj2 nj2 cj2] Tryd.func102 rfl rfl (by simp) (CC (by simp) (by simp) (by simp)) ?_
 show JC _ _ _ [(0, SL aj nj cj), (1, SL aj2 nj2 cj2)] _
 refine AK (AD (AA _ (AH rfl) rfl ?_))
 refine AN (AF (AK (AK (AD (AA _ (AL rfl) rfl ?_)))))
 refine AA (I64 nj) (CY CF rfl) rfl ?_
 refine AA _ (AL rfl) rfl ?_
 refine AA (I64 nj2) (CY CF rfl) rfl ?_
 refine AA (.bool (decide (((nj:Int)) ≠ ((nj2:Int))))) (AU rfl rfl fun _ => EO _ _) rfl ?_
 refine AN (AF (CI (decide (((nj:Int)) ≠ ((nj2:Int)))) rfl (fun hb1 => ?_) (fun hb1 => ?_)))
 ·
  have hp1 : ((nj:Int)) ≠ ((nj2:Int)) := of_decide_eq_true hb1
  refine AK (AD (AA _ (AH rfl) rfl ?_))
  refine AN (AF (BK (A1 (BJ (.bool false) (res1 Tryd.results102 (BH rfl)) fun w1 hw1 => ?_))))
  refine ⟨_, [], rfl, ⟨congrArg Value.bool ?_, rfl⟩, hw1.sub (by simp) (by simp)⟩
  exact (decide_eq_false (fun h => by have := congrArg List.length h; omega)).symm
 ·
  have hp1 : ¬ (((nj:Int)) ≠ ((nj2:Int))) := of_decide_eq_false hb1
  refine BE (AF (AK (AK (AD (AA _ (AL rfl) rfl ?_)))))
  refine AA (I64 nj) (CY CF rfl) rfl ?_
  refine AA _ (AL rfl) rfl ?_
  refine AN (AF (B2 (DV (ι := Nat) (fun i => [(0, SL aj nj cj), (1, SL aj2 nj2 cj2), (12, I64 nj), (13, I64 i)]) (fun i => []) (fun i => i ≤ nj ∧ ∀ k, k < i → ∀ x y, lj[k]? = some x → lj2[k]? = some y → x = y) (fun i => nj - i) 0 ⟨by omega, fun k hk => absurd hk (by omega)⟩ (Sub.all rfl) rfl ?_)))
  rintro i ⟨hi1, hi2⟩
  show JC _ _ _ [(0, SL aj nj cj), (1, SL aj2 nj2 cj2), (12, I64 nj), (13, I64 i)] []
  refine AK (AD (AA (.bool (decide (((i:Int)) < ((nj:Int))))) (AU rfl rfl fun _ => CR _ _) rfl ?_))
  refine AN (AF (AK (CI (decide (((i:Int)) < ((nj:Int)))) rfl (fun hb2 => ?_) (fun hb2 => ?_))))
  ·
   have hp2 : ((i:Int)) < ((nj:Int)) := of_decide_eq_true hb2
   refine BE (AF (AK (B2 (AK (AD (AA _ (AL rfl) rfl ?_))))))
   refine AA _ (AH rfl) rfl ?_
   refine AN (AF (AK ?_))
   obtain ⟨x1, hx1⟩ : ∃ x, lj[i]? = some x := ⟨_, List.getElem?_eq_getElem (by rw [hlj]; omega)⟩
   obtain ⟨bz1, oz1, hz1, hm1⟩ := E4 E6 (by decide) hj hx1
   rw [FO] at hm1
   obtain ⟨x2, hx2⟩ : ∃ x, lj2[i]? = some x := ⟨_, List.getElem?_eq_getElem (by rw [hlj2]; omega)⟩
   obtain ⟨bz2, oz2, hz2, hm2⟩ := E4 E6 (by decide) hj2 hx2
   rw [FO] at hm2
   refine DH 26 1 [(0, SL aj nj cj), (1, I64 i), (2, Ptr bz1 (50*i + oz1)), (3, .agg (List.toArray (α := Value) ([.bool x1.b, U64 x1.s.e] ++ cu8 x1.s.d ++ cu8 x1.s.t))), (4, SL aj2 nj2 cj2), (5, I64 i), (6, Ptr bz2 (50*i + oz2)), (7, .agg (List.toArray (α := Value) ([.bool x2.b, U64 x2.s.e] ++ cu8 x2.s.d ++ cu8 x2.s.t))), (8, .bool (!(decide (x1.b = x2.b ∧ x1.s.e = x2.s.e ∧ x1.s.d = x2.s.d ∧ x1.s.t = x2.s.t))))] B8 rfl (by decide +kernel) ?_
   refine DN ⟨[], [0, 1, 2, 3, 4, 5, 6, 7, 8], [], [0, 1, 2, 3, 4, 5, 6, 7, 8], []⟩ rfl rfl (by decide +kernel) rfl ⟨CD rfl rfl rfl, CD rfl rfl rfl, ⟨_, rfl, AJ rfl (B4 163 50 (50*i + oz1) CF DD rfl hz1 rfl (by omega) (by omega) (by omega))⟩, ⟨_, rfl, AJ rfl (AI rfl (BV Tryd.isAgg163 DD (by simp [x1.s.hd, x1.s.ht]) (CK (hm1.mem (by simp)) (AV _) (by first | omega | (simp; done) | (simp; omega)))))⟩, CD rfl rfl rfl, CD rfl rfl rfl, ⟨_, rfl, AJ rfl (B4 163 50 (50*i + oz2) CF DD rfl hz2 rfl (by omega) (by omega) (by omega))⟩, ⟨_, rfl, AJ rfl (AI rfl (BV Tryd.isAgg163 DD (by simp [x2.s.hd, x2.s.ht]) (CK (hm2.mem (by simp)) (AV _) (by first | omega | (simp; done) | (simp; omega)))))⟩, ⟨_, rfl, AJ rfl (E3 _ _ _ rfl rfl (fun _ => FF _ _ _ _ _ _ (by kernel_rfl)) (neq_struct (x1.b = x2.b ∧ x1.s.e = x2.s.e ∧ x1.s.d = x2.s.d ∧ x1.s.t = x2.s.t) (F8 (d := 9999) (by kernel_rfl) (by kernel_rfl) (by kernel_rfl) (EqRs.cons 4 0 (.bool x1.b) (.bool x2.b) _ _ _ (PartV.one BD (AG (AG (Seg.head)))) (PartV.one BD (AG (AG (Seg.head)))) (EqV.bool (d := 9998) D4 x1.b x2.b) (EqRs.last 161 1 (.agg ([U64 x1.s.e] ++ cu8 x1.s.d ++ cu8 x1.s.t).toArray) (.agg ([U64 x2.s.e] ++ cu8 x2.s.d ++ cu8 x2.s.t).toArray) _ (PartV.agg D2 CJ (E9 (C6 (p := [.bool x1.b]) (q := []) (vs := [U64 x1.s.e] ++ cu8 x1.s.d ++ cu8 x1.s.t) (by first | rfl | (simp only [List.append_assoc, List.nil_append, List.append_nil, List.cons_append]; done)) rfl) (by simp [x1.s.hd, x1.s.ht]) (by first | omega | (simp; done)))) (PartV.agg D2 CJ (E9 (C6 (p := [.bool x2.b]) (q := []) (vs := [U64 x2.s.e] ++ cu8 x2.s.d ++ cu8 x2.s.t) (by first | rfl | (simp only [List.append_assoc, List.nil_append, List.append_nil, List.cons_append]; done)) rfl) (by simp [x2.s.hd, x2.s.ht]) (by first | omega | (simp; done)))) (F8 (d := 9998) (by kernel_rfl) (by kernel_rfl) (by kernel_rfl) (EqRs.cons 22 0 (U64 x1.s.e) (U64 x2.s.e) _ _ _ (PartV.one AY (AG (AG (Seg.head)))) (PartV.one AY (AG (AG (Seg.head)))) (EqV.u64 (d := 9997) A3 x1.s.e x2.s.e) (EqRs.cons 159 1 (.agg (cu8 x1.s.d).toArray) (.agg (cu8 x2.s.d).toArray) _ _ _ (PartV.agg E8 ED (E9 (AG (Seg.right 1 0 rfl rfl (AV _))) (D7 x1.s.hd) (by omega))) (PartV.agg E8 ED (E9 (AG (Seg.right 1 0 rfl rfl (AV _))) (D7 x2.s.hd) (by omega))) (EqV.arr8 (d := 9996) D0 BA EC EN FC (by simp [x1.s.hd]) (by simp [x2.s.hd])) (EqRs.last 27 33 (.agg (cu8 x1.s.t).toArray) (.agg (cu8 x2.s.t).toArray) _ (PartV.agg DY CN (E9 (Seg.right 33 0 (by simp [x1.s.hd]) rfl (AV _)) (D7 x1.s.ht) (by omega))) (PartV.agg DY CN (E9 (Seg.right 33 0 (by simp [x2.s.hd]) rfl (AV _)) (D7 x2.s.ht) (by omega))) (EqV.arr8 (d := 9996) C5 BA EC EN FC (by simp [x1.s.ht]) (by simp [x2.s.ht]))))))))) (by first | rfl | (simp only [Bool.decide_and, Bool.and_assoc]; done) | (simp only [Bool.beq_eq_decide_eq, Bool.decide_and, Bool.and_assoc]; done) | (simp [Bool.and_assoc]; done))))⟩, trivial⟩ ?_
   refine C7 (F' := [(16, SL aj nj cj), (17, I64 i), (18, Ptr bz1 (50*i + oz1)), (19, .agg (List.toArray (α := Value) ([.bool x1.b, U64 x1.s.e] ++ cu8 x1.s.d ++ cu8 x1.s.t))), (20, SL aj2 nj2 cj2), (21, I64 i), (22, Ptr bz2 (50*i + oz2)), (23, .agg (List.toArray (α := Value) ([.bool x2.b, U64 x2.s.e] ++ cu8 x2.s.d ++ cu8 x2.s.t))), (24, .bool (!(decide (x1.b = x2.b ∧ x1.s.e = x2.s.e ∧ x1.s.d = x2.s.d ∧ x1.s.t = x2.s.t)))), (0, SL aj nj cj), (1, SL aj2 nj2 cj2), (12, I64 nj), (13, I64 i), (14, .bool (decide (((i:Int)) < ((nj:Int))))), (15, I64 i), (5, I64 i)]) (by kernel_rfl) ?_
   refine AF (CI (!(decide (x1.b = x2.b ∧ x1.s.e = x2.s.e ∧ x1.s.d = x2.s.d ∧ x1.s.t = x2.s.t))) rfl (fun hb3 => ?_) (fun hb3 => ?_))
   ·
    have hb4 : (decide (x1.b = x2.b ∧ x1.s.e = x2.s.e ∧ x1.s.d = x2.s.d ∧ x1.s.t = x2.s.t)) = false := by first | simpa using hb3 | exact Eq.mp (Bool.not_eq_true' _) hb3
    have hp4 : ¬ (x1.b = x2.b ∧ x1.s.e = x2.s.e ∧ x1.s.d = x2.s.d ∧ x1.s.t = x2.s.t) := of_decide_eq_false hb4
    refine AK (AD (AA _ (AH rfl) rfl ?_))
    refine AN (AF (BK (CT (A1 (A1 (CT (A1 (BJ (.bool false) (res1 Tryd.results102 (BH rfl)) fun w1 hw1 => ?_))))))))
    refine ⟨_, [], rfl, ⟨congrArg Value.bool ?_, rfl⟩, hw1.sub (by simp) (by simp)⟩
    exact (decide_eq_false (GA hx1 hx2 (fun e => (of_decide_eq_false hb4) ((ItemR.eq_iff _ _).1 e)))).symm
   ·
    have hb5 : (decide (x1.b = x2.b ∧ x1.s.e = x2.s.e ∧ x1.s.d = x2.s.d ∧ x1.s.t = x2.s.t)) = true := by first | simpa using hb3 | exact Eq.mp (Bool.not_eq_false' _) hb3
    have hp5 : x1.b = x2.b ∧ x1.s.e = x2.s.e ∧ x1.s.d = x2.s.d ∧ x1.s.t = x2.s.t := of_decide_eq_true hb5
    refine BE (BY (AF (AD (AA (I64 ((i:Int) + 1)) (AU rfl rfl fun _ => DE _ _ ((i:Int) + 1) (by omega) (by omega)) rfl ?_))))
    refine AA _ (AL rfl) rfl ?_
    refine AN (DK (EM (i + 1) ⟨by omega, eq_step hx1 hx2 ((ItemR.eq_iff _ _).2 (of_decide_eq_true hb5)) hi2⟩ (by first | (simp; omega) | simp | (dsimp only; omega) | omega) (Sub.all rfl) rfl))
  ·
   have hp2 : ¬ (((i:Int)) < ((nj:Int))) := of_decide_eq_false hb2
   refine DU (A5 (A5 (CQ (AF (AK (AD (AA _ (AH rfl) rfl ?_)))))))
   refine AN (AF (BK (BJ (.bool true) (res1 Tryd.results102 (BH rfl)) fun w1 hw1 => ?_)))
   refine ⟨_, [], rfl, ⟨congrArg Value.bool ?_, rfl⟩, hw1.sub (by simp) (by simp)⟩
   exact (decide_eq_true (list_eq (by omega) (by rw [hlj]; intro k hk; exact hi2 k (by omega)))).symm
theorem eqH_c (ahq : Option Addr) (nhq chq : Nat) (xhq : List UInt8) (ahq2 : Option Addr) (nhq2 chq2 : Nat) (xhq2 : List UInt8)  (w : World) (hlhq : xhq.length = nhq * 32) (hnhq : nhq ≤ 9000) (hdhq : nhq ≤ chq) (hchq : chq ≤ maxLen) (hrhq : RdB w [] ahq xhq) (hlhq2 : xhq2.length = nhq2 * 32) (hnhq2 : nhq2 ≤ 9000) (hdhq2 : nhq2 ≤ chq2) (hchq2 : chq2 ≤ maxLen) (hrhq2 : RdB w [] ahq2 xhq2)  : Calls Tryd.prog 103 #[SL ahq nhq chq, SL ahq2 nhq2 chq2] w (Post w [] (fun v L => v = .bool (decide (xhq = xhq2)) ∧ L = [])) := by
 have hmx : maxLen = 9223372036854775807 := rfl
 refine enter w [] 26 [] [SL ahq nhq chq, SL ahq2 nhq2 chq2] Tryd.func103 rfl rfl (by simp) (CC (by simp) (by simp) (by simp)) ?_
 show JC _ _ _ [(0, SL ahq nhq chq), (1, SL ahq2 nhq2 chq2)] _
 refine AK (AD (AA _ (AH rfl) rfl ?_))
 refine AN (AF (AK (AK (AD (AA _ (AL rfl) rfl ?_)))))
 refine AA (I64 nhq) (CY BS rfl) rfl ?_
 refine AA _ (AL rfl) rfl ?_
 refine AA (I64 nhq2) (CY BS rfl) rfl ?_
 refine AA (.bool (decide (((nhq:Int)) ≠ ((nhq2:Int))))) (AU rfl rfl fun _ => EO _ _) rfl ?_
 refine AN (AF (CI (decide (((nhq:Int)) ≠ ((nhq2:Int)))) rfl (fun hb1 => ?_) (fun hb1 => ?_)))
 ·
  have hp1 : ((nhq:Int)) ≠ ((nhq2:Int)) := of_decide_eq_true hb1
  refine AK (AD (AA _ (AH rfl) rfl ?_))
  refine AN (AF (BK (A1 (BJ (.bool false) (res1 Tryd.results103 (BH rfl)) fun w1 hw1 => ?_))))
  refine ⟨_, [], rfl, ⟨congrArg Value.bool ?_, rfl⟩, hw1.sub (by simp) (by simp)⟩
  exact (decide_eq_false (fun h => by have := congrArg List.length h; omega)).symm
 ·
  have hp1 : ¬ (((nhq:Int)) ≠ ((nhq2:Int))) := of_decide_eq_false hb1
  refine BE (AF (AK (AK (AD (AA _ (AL rfl) rfl ?_)))))
  refine AA (I64 nhq) (CY BS rfl) rfl ?_
  refine AA _ (AL rfl) rfl ?_
  refine AN (AF (B2 (DV (ι := Nat) (fun i => [(0, SL ahq nhq chq), (1, SL ahq2 nhq2 chq2), (12, I64 nhq), (13, I64 i)]) (fun i => []) (fun i => i ≤ nhq ∧ xhq.take (32*i) = xhq2.take (32*i)) (fun i => nhq - i) 0 ⟨by omega, by rw [Nat.mul_zero, List.take_zero, List.take_zero]⟩ (Sub.all rfl) rfl ?_)))
  rintro i ⟨hi1, hi2⟩
  show JC _ _ _ [(0, SL ahq nhq chq), (1, SL ahq2 nhq2 chq2), (12, I64 nhq), (13, I64 i)] []
  refine AK (AD (AA (.bool (decide (((i:Int)) < ((nhq:Int))))) (AU rfl rfl fun _ => CR _ _) rfl ?_))
  refine AN (AF (AK (CI (decide (((i:Int)) < ((nhq:Int)))) rfl (fun hb2 => ?_) (fun hb2 => ?_))))
  ·
   have hp2 : ((i:Int)) < ((nhq:Int)) := of_decide_eq_true hb2
   refine BE (AF (AK (B2 (AK (AD (AA _ (AL rfl) rfl ?_))))))
   refine AA _ (AH rfl) rfl ?_
   refine AN (AF (AK ?_))
   obtain ⟨bz1, oz1, hz1, hm1⟩ := hrhq.pos (by rw [hlhq]; omega)
   have hl1 : (mid xhq (32*i) 32).length = 32 := F3 (by rw [hlhq]; omega)
   obtain ⟨bz2, oz2, hz2, hm2⟩ := hrhq2.pos (by rw [hlhq2]; omega)
   have hl2 : (mid xhq2 (32*i) 32).length = 32 := F3 (by rw [hlhq2]; omega)
   refine DH 26 1 [(0, SL ahq nhq chq), (1, I64 i), (2, Ptr bz1 (32*i + oz1)), (3, .agg (cu8 (mid xhq (32*i) 32)).toArray), (4, SL ahq2 nhq2 chq2), (5, I64 i), (6, Ptr bz2 (32*i + oz2)), (7, .agg (cu8 (mid xhq2 (32*i) 32)).toArray), (8, .bool (!(decide ((mid xhq (32*i) 32) = (mid xhq2 (32*i) 32)))))] B8 rfl (by decide +kernel) ?_
   have hl3 : (mid xhq (32*i) 32).length = 32 := F3 (by rw [hlhq]; omega)
   have hl4 : (mid xhq2 (32*i) 32).length = 32 := F3 (by rw [hlhq2]; omega)
   refine DN ⟨[], [0, 1, 2, 3, 4, 5, 6, 7, 8], [], [0, 1, 2, 3, 4, 5, 6, 7, 8], []⟩ rfl rfl (by decide +kernel) rfl ⟨CD rfl rfl rfl, CD rfl rfl rfl, ⟨_, rfl, AJ rfl (B4 54 32 (32*i + oz1) BS EA rfl hz1 rfl (by omega) (by omega) (by omega))⟩, ⟨_, rfl, AJ rfl (AI rfl (BV Tryd.isAgg54 EA (D7 hl3) (CK (MemAt.base hm1.1 hm1.2.1 hm1.2.2) (segm_u8 (32*i) 32 (by rw [hlhq]; omega)) (by first | omega | (simp; done) | (simp; omega)))))⟩, CD rfl rfl rfl, CD rfl rfl rfl, ⟨_, rfl, AJ rfl (B4 54 32 (32*i + oz2) BS EA rfl hz2 rfl (by omega) (by omega) (by omega))⟩, ⟨_, rfl, AJ rfl (AI rfl (BV Tryd.isAgg54 EA (D7 hl4) (CK (MemAt.base hm2.1 hm2.2.1 hm2.2.2) (segm_u8 (32*i) 32 (by rw [hlhq2]; omega)) (by first | omega | (simp; done) | (simp; omega)))))⟩, ⟨_, rfl, AJ rfl (E3 _ _ _ rfl rfl (fun _ => FF _ _ _ _ _ _ (by kernel_rfl)) fun _ => neq_arr8 EZ BA EC EN FC (by simp [hl1]) (by simp [hl2]))⟩, trivial⟩ ?_
   refine C7 (F' := [(16, SL ahq nhq chq), (17, I64 i), (18, Ptr bz1 (32*i + oz1)), (19, .agg (cu8 (mid xhq (32*i) 32)).toArray), (20, SL ahq2 nhq2 chq2), (21, I64 i), (22, Ptr bz2 (32*i + oz2)), (23, .agg (cu8 (mid xhq2 (32*i) 32)).toArray), (24, .bool (!(decide ((mid xhq (32*i) 32) = (mid xhq2 (32*i) 32))))), (0, SL ahq nhq chq), (1, SL ahq2 nhq2 chq2), (12, I64 nhq), (13, I64 i), (14, .bool (decide (((i:Int)) < ((nhq:Int))))), (15, I64 i), (5, I64 i)]) (by kernel_rfl) ?_
   refine AF (CI (!(decide ((mid xhq (32*i) 32) = (mid xhq2 (32*i) 32)))) rfl (fun hb3 => ?_) (fun hb3 => ?_))
   ·
    have hb4 : (decide ((mid xhq (32*i) 32) = (mid xhq2 (32*i) 32))) = false := by simpa using hb3
    have hp4 : ¬ ((mid xhq (32*i) 32) = (mid xhq2 (32*i) 32)) := of_decide_eq_false hb4
    refine AK (AD (AA _ (AH rfl) rfl ?_))
    refine AN (AF (BK (CT (A1 (A1 (CT (A1 (BJ (.bool false) (res1 Tryd.results103 (BH rfl)) fun w1 hw1 => ?_))))))))
    refine ⟨_, [], rfl, ⟨congrArg Value.bool ?_, rfl⟩, hw1.sub (by simp) (by simp)⟩
    exact (decide_eq_false (fun h => (of_decide_eq_false hb4) (by rw [h]))).symm
   ·
    have hb5 : (decide ((mid xhq (32*i) 32) = (mid xhq2 (32*i) 32))) = true := by simpa using hb3
    have hp5 : (mid xhq (32*i) 32) = (mid xhq2 (32*i) 32) := of_decide_eq_true hb5
    refine BE (BY (AF (AD (AA (I64 ((i:Int) + 1)) (AU rfl rfl fun _ => DE _ _ ((i:Int) + 1) (by omega) (by omega)) rfl ?_))))
    refine AA _ (AL rfl) rfl ?_
    refine AN (DK (EM (i + 1) ⟨by omega, by rw [← take_mid2, ← take_mid2, hi2, of_decide_eq_true hb5]⟩ (by first | (simp; omega) | simp | (dsimp only; omega) | omega) (Sub.all rfl) rfl))
  ·
   have hp2 : ¬ (((i:Int)) < ((nhq:Int))) := of_decide_eq_false hb2
   refine DU (A5 (A5 (CQ (AF (AK (AD (AA _ (AH rfl) rfl ?_)))))))
   refine AN (AF (BK (BJ (.bool true) (res1 Tryd.results103 (BH rfl)) fun w1 hw1 => ?_)))
   refine ⟨_, [], rfl, ⟨congrArg Value.bool ?_, rfl⟩, hw1.sub (by simp) (by simp)⟩
   rw [List.take_of_length_le (by omega), List.take_of_length_le (by omega)] at hi2
   exact (decide_eq_true hi2).symm
set_option maxHeartbeats 4000000 in
theorem sameRep_c (rq : UInt64) (rk er : Int) (aj : Option Addr) (nj cj : Nat) (lj : List ItemR) (th : Bool) (pv ep : UInt64) (kd : Int) (ai : Option Addr) (ni ci : Nat) (l : List UInt64) (sa : Option Addr) (ns sc : Nat) (ls : List SealR) (bl : UInt64) (tg : List UInt8) (aha : Option Addr) (nha cha : Nat) (xha : List UInt8) (ahb : Option Addr) (nhb chb : Nat) (xhb : List UInt8) (rq2 : UInt64) (rk2 er2 : Int) (aj2 : Option Addr) (nj2 cj2 : Nat) (lj2 : List ItemR) (th2 : Bool) (pv2 ep2 : UInt64) (kd2 : Int) (ai2 : Option Addr) (ni2 ci2 : Nat) (l2 : List UInt64) (sa2 : Option Addr) (ns2 sc2 : Nat) (ls2 : List SealR) (bl2 : UInt64) (tg2 : List UInt8) (aha2 : Option Addr) (nha2 cha2 : Nat) (xha2 : List UInt8) (ahb2 : Option Addr) (nhb2 chb2 : Nat) (xhb2 : List UInt8)  (w : World) (hlj : lj.length = nj) (hnj : nj ≤ 2000000) (hdj : nj ≤ cj) (hcj : cj ≤ maxLen) (hj : RdV w aj (lj.flatMap itemC)) (hl : l.length = ni) (hnm : ni ≤ 2000000) (hnc : ni ≤ ci) (hcm : ci ≤ maxLen) (hv : RdV w ai (cu64 l)) (hls : ls.length = ns) (hnn : ns ≤ 2000000) (hnd : ns ≤ sc) (hcn : sc ≤ maxLen) (hs : RdV w sa (ls.flatMap sealC)) (htg : tg.length = 16) (hlha : xha.length = nha * 32) (hnha : nha ≤ 9000) (hdha : nha ≤ cha) (hcha : cha ≤ maxLen) (hrha : RdB w [] aha xha) (hlhb : xhb.length = nhb * 32) (hnhb : nhb ≤ 9000) (hdhb : nhb ≤ chb) (hchb : chb ≤ maxLen) (hrhb : RdB w [] ahb xhb) (hlj2 : lj2.length = nj2) (hnj2 : nj2 ≤ 2000000) (hdj2 : nj2 ≤ cj2) (hcj2 : cj2 ≤ maxLen) (hj2 : RdV w aj2 (lj2.flatMap itemC)) (hl2 : l2.length = ni2) (hnm2 : ni2 ≤ 2000000) (hnc2 : ni2 ≤ ci2) (hcm2 : ci2 ≤ maxLen) (hv2 : RdV w ai2 (cu64 l2)) (hls2 : ls2.length = ns2) (hnn2 : ns2 ≤ 2000000) (hnd2 : ns2 ≤ sc2) (hcn2 : sc2 ≤ maxLen) (hs2 : RdV w sa2 (ls2.flatMap sealC)) (htg2 : tg2.length = 16) (hlha2 : xha2.length = nha2 * 32) (hnha2 : nha2 ≤ 9000) (hdha2 : nha2 ≤ cha2) (hcha2 : cha2 ≤ maxLen) (hrha2 : RdB w [] aha2 xha2) (hlhb2 : xhb2.length = nhb2 * 32) (hnhb2 : nhb2 ≤ 9000) (hdhb2 : nhb2 ≤ chb2) (hchb2 : chb2 ≤ maxLen) (hrhb2 : RdB w [] ahb2 xhb2)  : Calls Tryd.prog 36 #[.agg ([U64 rq, I64 (rk), I64 (er), SL aj nj cj, .bool th, U64 pv, U64 ep, I64 (kd), SL ai ni ci, SL sa ns sc, U64 bl] ++ cu8 tg ++ [SL aha nha cha, SL ahb nhb chb]).toArray, .agg ([U64 rq2, I64 (rk2), I64 (er2), SL aj2 nj2 cj2, .bool th2, U64 pv2, U64 ep2, I64 (kd2), SL ai2 ni2 ci2, SL sa2 ns2 sc2, U64 bl2] ++ cu8 tg2 ++ [SL aha2 nha2 cha2, SL ahb2 nhb2 chb2]).toArray] w (Post w [] (fun v L => v = .bool (decide (rq = rq2 ∧ rk = rk2 ∧ er = er2 ∧ th = th2 ∧ (pv = pv2 ∧ ep = ep2 ∧ tg = tg2 ∧ kd = kd2 ∧ bl = bl2 ∧ l = l2 ∧ ls = ls2) ∧ lj = lj2 ∧ xha = xha2 ∧ xhb = xhb2)) ∧ L = [])) := by
 have hmx : maxLen = 9223372036854775807 := rfl
 refine enter (P := Tryd.prog) (f := 36) (fn := Tryd.f36) w [] 59 [] [.agg ([U64 rq, I64 (rk), I64 (er), SL aj nj cj, .bool th, U64 pv, U64 ep, I64 (kd), SL ai ni ci, SL sa ns sc, U64 bl] ++ cu8 tg ++ [SL aha nha cha, SL ahb nhb chb]).toArray, .agg ([U64 rq2, I64 (rk2), I64 (er2), SL aj2 nj2 cj2, .bool th2, U64 pv2, U64 ep2, I64 (kd2), SL ai2 ni2 ci2, SL sa2 ns2 sc2, U64 bl2] ++ cu8 tg2 ++ [SL aha2 nha2 cha2, SL ahb2 nhb2 chb2]).toArray] Tryd.func36 rfl rfl (by simp) (CC (by simp) (by simp) (by simp)) ?_
 show JC _ _ _ [(0, .agg ([U64 rq, I64 (rk), I64 (er), SL aj nj cj, .bool th, U64 pv, U64 ep, I64 (kd), SL ai ni ci, SL sa ns sc, U64 bl] ++ cu8 tg ++ [SL aha nha cha, SL ahb nhb chb]).toArray), (1, .agg ([U64 rq2, I64 (rk2), I64 (er2), SL aj2 nj2 cj2, .bool th2, U64 pv2, U64 ep2, I64 (kd2), SL ai2 ni2 ci2, SL sa2 ns2 sc2, U64 bl2] ++ cu8 tg2 ++ [SL aha2 nha2 cha2, SL ahb2 nhb2 chb2]).toArray)] _
 refine AK (AD (A9 (CL (.agg ([U64 rq, I64 (rk), I64 (er), SL aj nj cj, .bool th, U64 pv, U64 ep, I64 (kd), SL ai ni ci, SL sa ns sc, U64 bl] ++ cu8 tg ++ [SL aha nha cha, SL ahb nhb chb]).toArray) ([U64 rq, I64 (rk), I64 (er), SL aj nj cj, .bool th, U64 pv, U64 ep, I64 (kd), SL ai ni ci, SL sa ns sc, U64 bl] ++ cu8 tg ++ [SL aha nha cha, SL ahb nhb chb]) rfl (by first | rfl | simp)) rfl ?_))
 rintro v1 L1 ⟨nb1, hnb1, rfl, rfl⟩
 show JL _ _ _ _ ((2, Ptr nb1 0) :: _) [⟨nb1, [U64 rq, I64 (rk), I64 (er), SL aj nj cj, .bool th, U64 pv, U64 ep, I64 (kd), SL ai ni ci, SL sa ns sc, U64 bl] ++ cu8 tg ++ [SL aha nha cha, SL ahb nhb chb], 67, (0, 0)⟩]
 refine A9 (CL (.agg ([U64 rq2, I64 (rk2), I64 (er2), SL aj2 nj2 cj2, .bool th2, U64 pv2, U64 ep2, I64 (kd2), SL ai2 ni2 ci2, SL sa2 ns2 sc2, U64 bl2] ++ cu8 tg2 ++ [SL aha2 nha2 cha2, SL ahb2 nhb2 chb2]).toArray) ([U64 rq2, I64 (rk2), I64 (er2), SL aj2 nj2 cj2, .bool th2, U64 pv2, U64 ep2, I64 (kd2), SL ai2 ni2 ci2, SL sa2 ns2 sc2, U64 bl2] ++ cu8 tg2 ++ [SL aha2 nha2 cha2, SL ahb2 nhb2 chb2]) rfl (by first | rfl | simp)) rfl ?_
 rintro v1 L1 ⟨nb2, hnb2, rfl, rfl⟩
 show JL _ _ _ _ ((3, Ptr nb2 0) :: _) [_, ⟨nb2, [U64 rq2, I64 (rk2), I64 (er2), SL aj2 nj2 cj2, .bool th2, U64 pv2, U64 ep2, I64 (kd2), SL ai2 ni2 ci2, SL sa2 ns2 sc2, U64 bl2] ++ cu8 tg2 ++ [SL aha2 nha2 cha2, SL ahb2 nhb2 chb2], 67, (0, 0)⟩]
 refine AA _ (AH rfl) rfl ?_
 refine AN (AF (AK (AD (AA (Ptr nb1 0) (AB 0 22 1 AM rfl AX rfl rfl) rfl ?_))))
 refine AA (U64 rq) (AI rfl (AQ AY (AS 0 rfl (AG (AG (Seg.head)))))) rfl ?_
 refine AA (Ptr nb2 0) (AB 0 22 1 AM rfl AX rfl rfl) rfl ?_
 refine AA (U64 rq2) (AI rfl (AQ AY (AS 1 rfl (AG (AG (Seg.head)))))) rfl ?_
 refine AA (.bool (decide (rq = rq2))) (AU rfl rfl fun _ => FU rq rq2) rfl ?_
 refine AA _ (AL rfl) rfl ?_
 rcases Bool.eq_false_or_eq_true (decide (rq = rq2)) with hb1 | hb1
 ·
  have hp1 : rq = rq2 := of_decide_eq_true hb1
  refine AP 5 10 true _ (Ptr nb1 1) rfl rfl hb1 (AB 1 3 1 AM rfl AR rfl rfl) rfl ?_
  refine AP 5 10 true _ (I64 (rk)) rfl rfl hb1 (AI rfl (AQ AT (AS 0 rfl (AG (AG (AE (Seg.head))))))) rfl ?_
  refine AP 5 10 true _ (Ptr nb2 1) rfl rfl hb1 (AB 1 3 1 AM rfl AR rfl rfl) rfl ?_
  refine AP 5 10 true _ (I64 (rk2)) rfl rfl hb1 (AI rfl (AQ AT (AS 1 rfl (AG (AG (AE (Seg.head))))))) rfl ?_
  refine AP 5 10 true _ (.bool (decide ((rk) = (rk2)))) rfl rfl hb1 (AU rfl rfl fun _ => BO _ _) rfl ?_
  refine AA _ (A2 _ rfl hb1 rfl) rfl ?_
  refine AA _ (AL rfl) rfl ?_
  rcases Bool.eq_false_or_eq_true (decide ((rk) = (rk2))) with hb2 | hb2
  ·
   have hp2 : (rk) = (rk2) := of_decide_eq_true hb2
   refine AP 12 17 true _ (Ptr nb1 2) rfl rfl hb2 (AB 2 3 1 AM rfl AR rfl rfl) rfl ?_
   refine AP 12 17 true _ (I64 (er)) rfl rfl hb2 (AI rfl (AQ AT (AS 0 rfl (AG (AG (AE (AE (Seg.head)))))))) rfl ?_
   refine AP 12 17 true _ (Ptr nb2 2) rfl rfl hb2 (AB 2 3 1 AM rfl AR rfl rfl) rfl ?_
   refine AP 12 17 true _ (I64 (er2)) rfl rfl hb2 (AI rfl (AQ AT (AS 1 rfl (AG (AG (AE (AE (Seg.head)))))))) rfl ?_
   refine AP 12 17 true _ (.bool (decide ((er) = (er2)))) rfl rfl hb2 (AU rfl rfl fun _ => BO _ _) rfl ?_
   refine AA _ (A2 _ rfl hb2 rfl) rfl ?_
   refine AA _ (AL rfl) rfl ?_
   rcases Bool.eq_false_or_eq_true (decide ((er) = (er2))) with hb3 | hb3
   ·
    have hp3 : (er) = (er2) := of_decide_eq_true hb3
    refine AP 19 24 true _ (Ptr nb1 4) rfl rfl hb3 (AB 4 4 1 AM rfl BB rfl rfl) rfl ?_
    refine AP 19 24 true _ (.bool th) rfl rfl hb3 (AI rfl (AQ BD (AS 0 rfl (AG (AG (AE (AE (AE (AE (Seg.head)))))))))) rfl ?_
    refine AP 19 24 true _ (Ptr nb2 4) rfl rfl hb3 (AB 4 4 1 AM rfl BB rfl rfl) rfl ?_
    refine AP 19 24 true _ (.bool th2) rfl rfl hb3 (AI rfl (AQ BD (AS 1 rfl (AG (AG (AE (AE (AE (AE (Seg.head)))))))))) rfl ?_
    refine AP 19 24 true _ (.bool (th == th2)) rfl rfl hb3 (E3 _ _ _ rfl rfl (fun _ => F1 ..) fun _ => eql_bool D4) rfl ?_
    refine AA _ (A2 _ rfl hb3 rfl) rfl ?_
    refine AA _ (AL rfl) rfl ?_
    rcases Bool.eq_false_or_eq_true (th == th2) with hb4 | hb4
    ·
     refine AP 26 31 true _ (Ptr nb1 5) rfl rfl hb4 (AB 5 29 22 AM rfl DJ rfl rfl) rfl ?_
     refine AP 26 31 true _ (.agg ([U64 pv, U64 ep, I64 (kd), SL ai ni ci, SL sa ns sc, U64 bl] ++ cu8 tg).toArray) rfl rfl hb4 (AI rfl (BV ER DJ (by simp [htg]) (AS 0 rfl (C6 (p := [U64 rq, I64 (rk), I64 (er), SL aj nj cj, .bool th]) (q := [SL aha nha cha, SL ahb nhb chb]) (vs := [U64 pv, U64 ep, I64 (kd), SL ai ni ci, SL sa ns sc, U64 bl] ++ cu8 tg) (by first | rfl | (simp only [List.append_assoc, List.nil_append, List.append_nil, List.cons_append]; done)) rfl)))) rfl ?_
     refine AP 26 31 true _ (Ptr nb2 5) rfl rfl hb4 (AB 5 29 22 AM rfl DJ rfl rfl) rfl ?_
     refine AP 26 31 true _ (.agg ([U64 pv2, U64 ep2, I64 (kd2), SL ai2 ni2 ci2, SL sa2 ns2 sc2, U64 bl2] ++ cu8 tg2).toArray) rfl rfl hb4 (AI rfl (BV ER DJ (by simp [htg2]) (AS 1 rfl (C6 (p := [U64 rq2, I64 (rk2), I64 (er2), SL aj2 nj2 cj2, .bool th2]) (q := [SL aha2 nha2 cha2, SL ahb2 nhb2 chb2]) (vs := [U64 pv2, U64 ep2, I64 (kd2), SL ai2 ni2 ci2, SL sa2 ns2 sc2, U64 bl2] ++ cu8 tg2) (by first | rfl | (simp only [List.append_assoc, List.nil_append, List.append_nil, List.cons_append]; done)) rfl)))) rfl ?_
     refine ET 26 31 true _ rfl rfl hb4 (BG 49 [.agg ([U64 pv, U64 ep, I64 (kd), SL ai ni ci, SL sa ns sc, U64 bl] ++ cu8 tg).toArray, .agg ([U64 pv2, U64 ep2, I64 (kd2), SL ai2 ni2 ci2, SL sa2 ns2 sc2, U64 bl2] ++ cu8 tg2).toArray] (.bool (decide (pv = pv2 ∧ ep = ep2 ∧ tg = tg2 ∧ (kd) = (kd2) ∧ bl = bl2 ∧ l = l2 ∧ ls = ls2))) (A6 _ Tryd.call49 rfl) (fun w1 hw1 => same13_c pv ep (kd) ai ni ci l sa ns sc ls bl tg pv2 ep2 (kd2) ai2 ni2 ci2 l2 sa2 ns2 sc2 ls2 bl2 tg2 w1 hl (by omega) (by omega) (by omega) (CA hw1 rfl hv) hls (by omega) (by omega) (by omega) (CA hw1 rfl hs) htg hl2 (by omega) (by omega) (by omega) (CA hw1 rfl hv2) hls2 (by omega) (by omega) (by omega) (CA hw1 rfl hs2) htg2)) rfl ?_
     rintro v1 L1 ⟨rfl, rfl⟩
     show JL _ _ _ _ ((36, .bool (decide (pv = pv2 ∧ ep = ep2 ∧ tg = tg2 ∧ (kd) = (kd2) ∧ bl = bl2 ∧ l = l2 ∧ ls = ls2))) :: _) [_, _]
     refine AA _ (A2 _ rfl hb4 rfl) rfl ?_
     refine AA _ (AL rfl) rfl ?_
     rcases Bool.eq_false_or_eq_true (decide (pv = pv2 ∧ ep = ep2 ∧ tg = tg2 ∧ (kd) = (kd2) ∧ bl = bl2 ∧ l = l2 ∧ ls = ls2)) with hb5 | hb5
     ·
      have hp5 : pv = pv2 ∧ ep = ep2 ∧ tg = tg2 ∧ (kd) = (kd2) ∧ bl = bl2 ∧ l = l2 ∧ ls = ls2 := of_decide_eq_true hb5
      refine AP 33 38 true _ (Ptr nb1 3) rfl rfl hb5 (AB 3 64 1 AM rfl D5 rfl rfl) rfl ?_
      refine AP 33 38 true _ (SL aj nj cj) rfl rfl hb5 (AI rfl (AQ EE (AS 0 rfl (AG (AG (AE (AE (AE (Seg.head))))))))) rfl ?_
      refine AP 33 38 true _ (Ptr nb2 3) rfl rfl hb5 (AB 3 64 1 AM rfl D5 rfl rfl) rfl ?_
      refine AP 33 38 true _ (SL aj2 nj2 cj2) rfl rfl hb5 (AI rfl (AQ EE (AS 1 rfl (AG (AG (AE (AE (AE (Seg.head))))))))) rfl ?_
      refine ET 33 38 true _ rfl rfl hb5 (BG 102 [SL aj nj cj, SL aj2 nj2 cj2] (.bool (decide (lj = lj2))) (A6 _ Tryd.call102 rfl) (fun w1 hw1 => eqI_c aj nj cj lj aj2 nj2 cj2 lj2 w1 hlj (by omega) (by omega) (by omega) (CA hw1 rfl hj) hlj2 (by omega) (by omega) (by omega) (CA hw1 rfl hj2))) rfl ?_
      rintro v1 L1 ⟨rfl, rfl⟩
      show JL _ _ _ _ ((43, .bool (decide (lj = lj2))) :: _) [_, _]
      refine AA _ (A2 _ rfl hb5 rfl) rfl ?_
      refine AA _ (AL rfl) rfl ?_
      rcases Bool.eq_false_or_eq_true (decide (lj = lj2)) with hb6 | hb6
      ·
       have hp6 : lj = lj2 := of_decide_eq_true hb6
       refine AP 40 45 true _ (Ptr nb1 27) rfl rfl hb6 (AB 27 65 1 AM rfl BR rfl rfl) rfl ?_
       refine AP 40 45 true _ (SL aha nha cha) rfl rfl hb6 (AI rfl (AQ BU (AS 0 rfl (Seg.right 27 0 (by simp [htg]) rfl (Seg.head))))) rfl ?_
       refine AP 40 45 true _ (Ptr nb2 27) rfl rfl hb6 (AB 27 65 1 AM rfl BR rfl rfl) rfl ?_
       refine AP 40 45 true _ (SL aha2 nha2 cha2) rfl rfl hb6 (AI rfl (AQ BU (AS 1 rfl (Seg.right 27 0 (by simp [htg2]) rfl (Seg.head))))) rfl ?_
       refine ET 40 45 true _ rfl rfl hb6 (BG 103 [SL aha nha cha, SL aha2 nha2 cha2] (.bool (decide (xha = xha2))) (A6 _ Tryd.call103 rfl) (fun w1 hw1 => eqH_c aha nha cha xha aha2 nha2 cha2 xha2 w1 hlha (by omega) (by omega) (by omega) (hrha.at (M' := []) hw1 (by simp)) hlha2 (by omega) (by omega) (by omega) (hrha2.at (M' := []) hw1 (by simp)))) rfl ?_
       rintro v1 L1 ⟨rfl, rfl⟩
       show JL _ _ _ _ ((50, .bool (decide (xha = xha2))) :: _) [_, _]
       refine AA _ (A2 _ rfl hb6 rfl) rfl ?_
       refine AA _ (AL rfl) rfl ?_
       rcases Bool.eq_false_or_eq_true (decide (xha = xha2)) with hb7 | hb7
       ·
        have hp7 : xha = xha2 := of_decide_eq_true hb7
        refine AP 47 52 true _ (Ptr nb1 28) rfl rfl hb7 (AB 28 65 1 AM rfl BR rfl rfl) rfl ?_
        refine AP 47 52 true _ (SL ahb nhb chb) rfl rfl hb7 (AI rfl (AQ BU (AS 0 rfl (Seg.right 27 1 (by simp [htg]) rfl (AE (Seg.head)))))) rfl ?_
        refine AP 47 52 true _ (Ptr nb2 28) rfl rfl hb7 (AB 28 65 1 AM rfl BR rfl rfl) rfl ?_
        refine AP 47 52 true _ (SL ahb2 nhb2 chb2) rfl rfl hb7 (AI rfl (AQ BU (AS 1 rfl (Seg.right 27 1 (by simp [htg2]) rfl (AE (Seg.head)))))) rfl ?_
        refine ET 47 52 true _ rfl rfl hb7 (BG 103 [SL ahb nhb chb, SL ahb2 nhb2 chb2] (.bool (decide (xhb = xhb2))) (A6 _ Tryd.call103 rfl) (fun w1 hw1 => eqH_c ahb nhb chb xhb ahb2 nhb2 chb2 xhb2 w1 hlhb (by omega) (by omega) (by omega) (hrhb.at (M' := []) hw1 (by simp)) hlhb2 (by omega) (by omega) (by omega) (hrhb2.at (M' := []) hw1 (by simp)))) rfl ?_
        rintro v1 L1 ⟨rfl, rfl⟩
        show JL _ _ _ _ ((57, .bool (decide (xhb = xhb2))) :: _) [_, _]
        refine AA _ (A2 _ rfl hb7 rfl) rfl ?_
        refine AA _ (AH rfl) rfl ?_
        refine AN (AF (BK (BP [false, false] ?_)))
        show JQ _ _ _ _ []
        refine BJ (.bool (decide (xhb = xhb2))) (res1 Tryd.results36 (BH rfl)) fun w1 hw1 => ?_
        refine ⟨_, [], rfl, ⟨congrArg Value.bool ?_, rfl⟩, hw1.sub (by simp) (by simp)⟩
        first | (simp [*]; done) | (simp_all; done)
       ·
        have hp7 : ¬ (xha = xha2) := of_decide_eq_false hb7
        refine AC 47 52 true _ rfl rfl hb7 rfl ?_
        refine AC 47 52 true _ rfl rfl hb7 rfl ?_
        refine AC 47 52 true _ rfl rfl hb7 rfl ?_
        refine AC 47 52 true _ rfl rfl hb7 rfl ?_
        refine AC 47 52 true _ rfl rfl hb7 rfl ?_
        refine AA _ (A0 _ rfl hb7 rfl) rfl ?_
        refine AA _ (AH rfl) rfl ?_
        refine AN (AF (BK (BP [false, false] ?_)))
        show JQ _ _ _ _ []
        refine BJ (.bool false) (res1 Tryd.results36 (BH rfl)) fun w1 hw1 => ?_
        refine ⟨_, [], rfl, ⟨congrArg Value.bool ?_, rfl⟩, hw1.sub (by simp) (by simp)⟩
        first | (simp [*]; done) | (simp_all; done)
      ·
       have hp6 : ¬ (lj = lj2) := of_decide_eq_false hb6
       refine AC 40 45 true _ rfl rfl hb6 rfl ?_
       refine AC 40 45 true _ rfl rfl hb6 rfl ?_
       refine AC 40 45 true _ rfl rfl hb6 rfl ?_
       refine AC 40 45 true _ rfl rfl hb6 rfl ?_
       refine AC 40 45 true _ rfl rfl hb6 rfl ?_
       refine AA _ (A0 _ rfl hb6 rfl) rfl ?_
       refine AA _ (AL rfl) rfl ?_
       refine AC 47 52 true _ rfl rfl rfl rfl ?_
       refine AC 47 52 true _ rfl rfl rfl rfl ?_
       refine AC 47 52 true _ rfl rfl rfl rfl ?_
       refine AC 47 52 true _ rfl rfl rfl rfl ?_
       refine AC 47 52 true _ rfl rfl rfl rfl ?_
       refine AA _ (A0 _ rfl rfl rfl) rfl ?_
       refine AA _ (AH rfl) rfl ?_
       refine AN (AF (BK (BP [false, false] ?_)))
       show JQ _ _ _ _ []
       refine BJ (.bool false) (res1 Tryd.results36 (BH rfl)) fun w1 hw1 => ?_
       refine ⟨_, [], rfl, ⟨congrArg Value.bool ?_, rfl⟩, hw1.sub (by simp) (by simp)⟩
       first | (simp [*]; done) | (simp_all; done)
     ·
      have hp5 : ¬ (pv = pv2 ∧ ep = ep2 ∧ tg = tg2 ∧ (kd) = (kd2) ∧ bl = bl2 ∧ l = l2 ∧ ls = ls2) := of_decide_eq_false hb5
      refine AC 33 38 true _ rfl rfl hb5 rfl ?_
      refine AC 33 38 true _ rfl rfl hb5 rfl ?_
      refine AC 33 38 true _ rfl rfl hb5 rfl ?_
      refine AC 33 38 true _ rfl rfl hb5 rfl ?_
      refine AC 33 38 true _ rfl rfl hb5 rfl ?_
      refine AA _ (A0 _ rfl hb5 rfl) rfl ?_
      refine AA _ (AL rfl) rfl ?_
      refine AC 40 45 true _ rfl rfl rfl rfl ?_
      refine AC 40 45 true _ rfl rfl rfl rfl ?_
      refine AC 40 45 true _ rfl rfl rfl rfl ?_
      refine AC 40 45 true _ rfl rfl rfl rfl ?_
      refine AC 40 45 true _ rfl rfl rfl rfl ?_
      refine AA _ (A0 _ rfl rfl rfl) rfl ?_
      refine AA _ (AL rfl) rfl ?_
      refine AC 47 52 true _ rfl rfl rfl rfl ?_
      refine AC 47 52 true _ rfl rfl rfl rfl ?_
      refine AC 47 52 true _ rfl rfl rfl rfl ?_
      refine AC 47 52 true _ rfl rfl rfl rfl ?_
      refine AC 47 52 true _ rfl rfl rfl rfl ?_
      refine AA _ (A0 _ rfl rfl rfl) rfl ?_
      refine AA _ (AH rfl) rfl ?_
      refine AN (AF (BK (BP [false, false] ?_)))
      show JQ _ _ _ _ []
      refine BJ (.bool false) (res1 Tryd.results36 (BH rfl)) fun w1 hw1 => ?_
      refine ⟨_, [], rfl, ⟨congrArg Value.bool ?_, rfl⟩, hw1.sub (by simp) (by simp)⟩
      first | (simp [*]; done) | (simp_all; done)
    ·
     refine AC 26 31 true _ rfl rfl hb4 rfl ?_
     refine AC 26 31 true _ rfl rfl hb4 rfl ?_
     refine AC 26 31 true _ rfl rfl hb4 rfl ?_
     refine AC 26 31 true _ rfl rfl hb4 rfl ?_
     refine AC 26 31 true _ rfl rfl hb4 rfl ?_
     refine AA _ (A0 _ rfl hb4 rfl) rfl ?_
     refine AA _ (AL rfl) rfl ?_
     refine AC 33 38 true _ rfl rfl rfl rfl ?_
     refine AC 33 38 true _ rfl rfl rfl rfl ?_
     refine AC 33 38 true _ rfl rfl rfl rfl ?_
     refine AC 33 38 true _ rfl rfl rfl rfl ?_
     refine AC 33 38 true _ rfl rfl rfl rfl ?_
     refine AA _ (A0 _ rfl rfl rfl) rfl ?_
     refine AA _ (AL rfl) rfl ?_
     refine AC 40 45 true _ rfl rfl rfl rfl ?_
     refine AC 40 45 true _ rfl rfl rfl rfl ?_
     refine AC 40 45 true _ rfl rfl rfl rfl ?_
     refine AC 40 45 true _ rfl rfl rfl rfl ?_
     refine AC 40 45 true _ rfl rfl rfl rfl ?_
     refine AA _ (A0 _ rfl rfl rfl) rfl ?_
     refine AA _ (AL rfl) rfl ?_
     refine AC 47 52 true _ rfl rfl rfl rfl ?_
     refine AC 47 52 true _ rfl rfl rfl rfl ?_
     refine AC 47 52 true _ rfl rfl rfl rfl ?_
     refine AC 47 52 true _ rfl rfl rfl rfl ?_
     refine AC 47 52 true _ rfl rfl rfl rfl ?_
     refine AA _ (A0 _ rfl rfl rfl) rfl ?_
     refine AA _ (AH rfl) rfl ?_
     refine AN (AF (BK (BP [false, false] ?_)))
     show JQ _ _ _ _ []
     refine BJ (.bool false) (res1 Tryd.results36 (BH rfl)) fun w1 hw1 => ?_
     refine ⟨_, [], rfl, ⟨congrArg Value.bool ?_, rfl⟩, hw1.sub (by simp) (by simp)⟩
     first | (simp [*]; done) | (simp_all; done)
   ·
    have hp3 : ¬ ((er) = (er2)) := of_decide_eq_false hb3
    refine AC 19 24 true _ rfl rfl hb3 rfl ?_
    refine AC 19 24 true _ rfl rfl hb3 rfl ?_
    refine AC 19 24 true _ rfl rfl hb3 rfl ?_
    refine AC 19 24 true _ rfl rfl hb3 rfl ?_
    refine AC 19 24 true _ rfl rfl hb3 rfl ?_
    refine AA _ (A0 _ rfl hb3 rfl) rfl ?_
    refine AA _ (AL rfl) rfl ?_
    refine AC 26 31 true _ rfl rfl rfl rfl ?_
    refine AC 26 31 true _ rfl rfl rfl rfl ?_
    refine AC 26 31 true _ rfl rfl rfl rfl ?_
    refine AC 26 31 true _ rfl rfl rfl rfl ?_
    refine AC 26 31 true _ rfl rfl rfl rfl ?_
    refine AA _ (A0 _ rfl rfl rfl) rfl ?_
    refine AA _ (AL rfl) rfl ?_
    refine AC 33 38 true _ rfl rfl rfl rfl ?_
    refine AC 33 38 true _ rfl rfl rfl rfl ?_
    refine AC 33 38 true _ rfl rfl rfl rfl ?_
    refine AC 33 38 true _ rfl rfl rfl rfl ?_
    refine AC 33 38 true _ rfl rfl rfl rfl ?_
    refine AA _ (A0 _ rfl rfl rfl) rfl ?_
    refine AA _ (AL rfl) rfl ?_
    refine AC 40 45 true _ rfl rfl rfl rfl ?_
    refine AC 40 45 true _ rfl rfl rfl rfl ?_
    refine AC 40 45 true _ rfl rfl rfl rfl ?_
    refine AC 40 45 true _ rfl rfl rfl rfl ?_
    refine AC 40 45 true _ rfl rfl rfl rfl ?_
    refine AA _ (A0 _ rfl rfl rfl) rfl ?_
    refine AA _ (AL rfl) rfl ?_
    refine AC 47 52 true _ rfl rfl rfl rfl ?_
    refine AC 47 52 true _ rfl rfl rfl rfl ?_
    refine AC 47 52 true _ rfl rfl rfl rfl ?_
    refine AC 47 52 true _ rfl rfl rfl rfl ?_
    refine AC 47 52 true _ rfl rfl rfl rfl ?_
    refine AA _ (A0 _ rfl rfl rfl) rfl ?_
    refine AA _ (AH rfl) rfl ?_
    refine AN (AF (BK (BP [false, false] ?_)))
    show JQ _ _ _ _ []
    refine BJ (.bool false) (res1 Tryd.results36 (BH rfl)) fun w1 hw1 => ?_
    refine ⟨_, [], rfl, ⟨congrArg Value.bool ?_, rfl⟩, hw1.sub (by simp) (by simp)⟩
    first | (simp [*]; done) | (simp_all; done)
  ·
   have hp2 : ¬ ((rk) = (rk2)) := of_decide_eq_false hb2
   refine AC 12 17 true _ rfl rfl hb2 rfl ?_
   refine AC 12 17 true _ rfl rfl hb2 rfl ?_
   refine AC 12 17 true _ rfl rfl hb2 rfl ?_
   refine AC 12 17 true _ rfl rfl hb2 rfl ?_
   refine AC 12 17 true _ rfl rfl hb2 rfl ?_
   refine AA _ (A0 _ rfl hb2 rfl) rfl ?_
   refine AA _ (AL rfl) rfl ?_
   refine AC 19 24 true _ rfl rfl rfl rfl ?_
   refine AC 19 24 true _ rfl rfl rfl rfl ?_
   refine AC 19 24 true _ rfl rfl rfl rfl ?_
   refine AC 19 24 true _ rfl rfl rfl rfl ?_
   refine AC 19 24 true _ rfl rfl rfl rfl ?_
   refine AA _ (A0 _ rfl rfl rfl) rfl ?_
   refine AA _ (AL rfl) rfl ?_
   refine AC 26 31 true _ rfl rfl rfl rfl ?_
   refine AC 26 31 true _ rfl rfl rfl rfl ?_
   refine AC 26 31 true _ rfl rfl rfl rfl ?_
   refine AC 26 31 true _ rfl rfl rfl rfl ?_
   refine AC 26 31 true _ rfl rfl rfl rfl ?_
   refine AA _ (A0 _ rfl rfl rfl) rfl ?_
   refine AA _ (AL rfl) rfl ?_
   refine AC 33 38 true _ rfl rfl rfl rfl ?_
   refine AC 33 38 true _ rfl rfl rfl rfl ?_
   refine AC 33 38 true _ rfl rfl rfl rfl ?_
   refine AC 33 38 true _ rfl rfl rfl rfl ?_
   refine AC 33 38 true _ rfl rfl rfl rfl ?_
   refine AA _ (A0 _ rfl rfl rfl) rfl ?_
   refine AA _ (AL rfl) rfl ?_
   refine AC 40 45 true _ rfl rfl rfl rfl ?_
   refine AC 40 45 true _ rfl rfl rfl rfl ?_
   refine AC 40 45 true _ rfl rfl rfl rfl ?_
   refine AC 40 45 true _ rfl rfl rfl rfl ?_
   refine AC 40 45 true _ rfl rfl rfl rfl ?_
   refine AA _ (A0 _ rfl rfl rfl) rfl ?_
   refine AA _ (AL rfl) rfl ?_
   refine AC 47 52 true _ rfl rfl rfl rfl ?_
   refine AC 47 52 true _ rfl rfl rfl rfl ?_
   refine AC 47 52 true _ rfl rfl rfl rfl ?_
   refine AC 47 52 true _ rfl rfl rfl rfl ?_
   refine AC 47 52 true _ rfl rfl rfl rfl ?_
   refine AA _ (A0 _ rfl rfl rfl) rfl ?_
   refine AA _ (AH rfl) rfl ?_
   refine AN (AF (BK (BP [false, false] ?_)))
   show JQ _ _ _ _ []
   refine BJ (.bool false) (res1 Tryd.results36 (BH rfl)) fun w1 hw1 => ?_
   refine ⟨_, [], rfl, ⟨congrArg Value.bool ?_, rfl⟩, hw1.sub (by simp) (by simp)⟩
   first | (simp [*]; done) | (simp_all; done)
 ·
  have hp1 : ¬ (rq = rq2) := of_decide_eq_false hb1
  refine AC 5 10 true _ rfl rfl hb1 rfl ?_
  refine AC 5 10 true _ rfl rfl hb1 rfl ?_
  refine AC 5 10 true _ rfl rfl hb1 rfl ?_
  refine AC 5 10 true _ rfl rfl hb1 rfl ?_
  refine AC 5 10 true _ rfl rfl hb1 rfl ?_
  refine AA _ (A0 _ rfl hb1 rfl) rfl ?_
  refine AA _ (AL rfl) rfl ?_
  refine AC 12 17 true _ rfl rfl rfl rfl ?_
  refine AC 12 17 true _ rfl rfl rfl rfl ?_
  refine AC 12 17 true _ rfl rfl rfl rfl ?_
  refine AC 12 17 true _ rfl rfl rfl rfl ?_
  refine AC 12 17 true _ rfl rfl rfl rfl ?_
  refine AA _ (A0 _ rfl rfl rfl) rfl ?_
  refine AA _ (AL rfl) rfl ?_
  refine AC 19 24 true _ rfl rfl rfl rfl ?_
  refine AC 19 24 true _ rfl rfl rfl rfl ?_
  refine AC 19 24 true _ rfl rfl rfl rfl ?_
  refine AC 19 24 true _ rfl rfl rfl rfl ?_
  refine AC 19 24 true _ rfl rfl rfl rfl ?_
  refine AA _ (A0 _ rfl rfl rfl) rfl ?_
  refine AA _ (AL rfl) rfl ?_
  refine AC 26 31 true _ rfl rfl rfl rfl ?_
  refine AC 26 31 true _ rfl rfl rfl rfl ?_
  refine AC 26 31 true _ rfl rfl rfl rfl ?_
  refine AC 26 31 true _ rfl rfl rfl rfl ?_
  refine AC 26 31 true _ rfl rfl rfl rfl ?_
  refine AA _ (A0 _ rfl rfl rfl) rfl ?_
  refine AA _ (AL rfl) rfl ?_
  refine AC 33 38 true _ rfl rfl rfl rfl ?_
  refine AC 33 38 true _ rfl rfl rfl rfl ?_
  refine AC 33 38 true _ rfl rfl rfl rfl ?_
  refine AC 33 38 true _ rfl rfl rfl rfl ?_
  refine AC 33 38 true _ rfl rfl rfl rfl ?_
  refine AA _ (A0 _ rfl rfl rfl) rfl ?_
  refine AA _ (AL rfl) rfl ?_
  refine AC 40 45 true _ rfl rfl rfl rfl ?_
  refine AC 40 45 true _ rfl rfl rfl rfl ?_
  refine AC 40 45 true _ rfl rfl rfl rfl ?_
  refine AC 40 45 true _ rfl rfl rfl rfl ?_
  refine AC 40 45 true _ rfl rfl rfl rfl ?_
  refine AA _ (A0 _ rfl rfl rfl) rfl ?_
  refine AA _ (AL rfl) rfl ?_
  refine AC 47 52 true _ rfl rfl rfl rfl ?_
  refine AC 47 52 true _ rfl rfl rfl rfl ?_
  refine AC 47 52 true _ rfl rfl rfl rfl ?_
  refine AC 47 52 true _ rfl rfl rfl rfl ?_
  refine AC 47 52 true _ rfl rfl rfl rfl ?_
  refine AA _ (A0 _ rfl rfl rfl) rfl ?_
  refine AA _ (AH rfl) rfl ?_
  refine AN (AF (BK (BP [false, false] ?_)))
  show JQ _ _ _ _ []
  refine BJ (.bool false) (res1 Tryd.results36 (BH rfl)) fun w1 hw1 => ?_
  refine ⟨_, [], rfl, ⟨congrArg Value.bool ?_, rfl⟩, hw1.sub (by simp) (by simp)⟩
  first | (simp [*]; done) | (simp_all; done)
set_option maxHeartbeats 4000000 in
theorem rsameRep_c (rq : UInt64) (rk er : Int) (aj : Option Addr) (nj cj : Nat) (lj : List ItemR) (th : Bool) (pv ep : UInt64) (kd : Int) (ai : Option Addr) (ni ci : Nat) (l : List UInt64) (sa : Option Addr) (ns sc : Nat) (ls : List SealR) (bl : UInt64) (tg : List UInt8) (aha : Option Addr) (nha cha : Nat) (xha : List UInt8) (ahb : Option Addr) (nhb chb : Nat) (xhb : List UInt8) (rq2 : UInt64) (rk2 er2 : Int) (aj2 : Option Addr) (nj2 cj2 : Nat) (lj2 : List ItemR) (th2 : Bool) (pv2 ep2 : UInt64) (kd2 : Int) (ai2 : Option Addr) (ni2 ci2 : Nat) (l2 : List UInt64) (sa2 : Option Addr) (ns2 sc2 : Nat) (ls2 : List SealR) (bl2 : UInt64) (tg2 : List UInt8) (aha2 : Option Addr) (nha2 cha2 : Nat) (xha2 : List UInt8) (ahb2 : Option Addr) (nhb2 chb2 : Nat) (xhb2 : List UInt8)  (w : World) (hlj : lj.length = nj) (hnj : nj ≤ 2000000) (hdj : nj ≤ cj) (hcj : cj ≤ maxLen) (hj : RdV w aj (lj.flatMap itemC)) (hl : l.length = ni) (hnm : ni ≤ 2000000) (hnc : ni ≤ ci) (hcm : ci ≤ maxLen) (hv : RdV w ai (cu64 l)) (hls : ls.length = ns) (hnn : ns ≤ 2000000) (hnd : ns ≤ sc) (hcn : sc ≤ maxLen) (hs : RdV w sa (ls.flatMap sealC)) (htg : tg.length = 16) (hlha : xha.length = nha * 32) (hnha : nha ≤ 9000) (hdha : nha ≤ cha) (hcha : cha ≤ maxLen) (hrha : RdB w [] aha xha) (hlhb : xhb.length = nhb * 32) (hnhb : nhb ≤ 9000) (hdhb : nhb ≤ chb) (hchb : chb ≤ maxLen) (hrhb : RdB w [] ahb xhb) (hlj2 : lj2.length = nj2) (hnj2 : nj2 ≤ 2000000) (hdj2 : nj2 ≤ cj2) (hcj2 : cj2 ≤ maxLen) (hj2 : RdV w aj2 (lj2.flatMap itemC)) (hl2 : l2.length = ni2) (hnm2 : ni2 ≤ 2000000) (hnc2 : ni2 ≤ ci2) (hcm2 : ci2 ≤ maxLen) (hv2 : RdV w ai2 (cu64 l2)) (hls2 : ls2.length = ns2) (hnn2 : ns2 ≤ 2000000) (hnd2 : ns2 ≤ sc2) (hcn2 : sc2 ≤ maxLen) (hs2 : RdV w sa2 (ls2.flatMap sealC)) (htg2 : tg2.length = 16) (hlha2 : xha2.length = nha2 * 32) (hnha2 : nha2 ≤ 9000) (hdha2 : nha2 ≤ cha2) (hcha2 : cha2 ≤ maxLen) (hrha2 : RdB w [] aha2 xha2) (hlhb2 : xhb2.length = nhb2 * 32) (hnhb2 : nhb2 ≤ 9000) (hdhb2 : nhb2 ≤ chb2) (hchb2 : chb2 ≤ maxLen) (hrhb2 : RdB w [] ahb2 xhb2)  : Calls Tryd.prog 37 #[.agg ([U64 rq, I64 (rk), I64 (er), SL aj nj cj, .bool th, U64 pv, U64 ep, I64 (kd), SL ai ni ci, SL sa ns sc, U64 bl] ++ cu8 tg ++ [SL aha nha cha, SL ahb nhb chb]).toArray, .agg ([U64 rq2, I64 (rk2), I64 (er2), SL aj2 nj2 cj2, .bool th2, U64 pv2, U64 ep2, I64 (kd2), SL ai2 ni2 ci2, SL sa2 ns2 sc2, U64 bl2] ++ cu8 tg2 ++ [SL aha2 nha2 cha2, SL ahb2 nhb2 chb2]).toArray] w (Post w [] (fun v L => v = .bool (decide (rq = rq2 ∧ rk = rk2 ∧ er = er2 ∧ th = th2 ∧ (pv = pv2 ∧ ep = ep2 ∧ tg = tg2 ∧ kd = kd2 ∧ bl = bl2 ∧ l = l2 ∧ ls = ls2) ∧ lj = lj2 ∧ xha = xha2 ∧ xhb = xhb2)) ∧ L = [])) := by
 have hmx : maxLen = 9223372036854775807 := rfl
 refine enter (P := Tryd.prog) (f := 37) (fn := Tryd.f37) w [] 123 [] [.agg ([U64 rq, I64 (rk), I64 (er), SL aj nj cj, .bool th, U64 pv, U64 ep, I64 (kd), SL ai ni ci, SL sa ns sc, U64 bl] ++ cu8 tg ++ [SL aha nha cha, SL ahb nhb chb]).toArray, .agg ([U64 rq2, I64 (rk2), I64 (er2), SL aj2 nj2 cj2, .bool th2, U64 pv2, U64 ep2, I64 (kd2), SL ai2 ni2 ci2, SL sa2 ns2 sc2, U64 bl2] ++ cu8 tg2 ++ [SL aha2 nha2 cha2, SL ahb2 nhb2 chb2]).toArray] Tryd.func37 rfl rfl (by simp) (CC (by simp) (by simp) (by simp)) ?_
 show JC _ _ _ [(0, .agg ([U64 rq, I64 (rk), I64 (er), SL aj nj cj, .bool th, U64 pv, U64 ep, I64 (kd), SL ai ni ci, SL sa ns sc, U64 bl] ++ cu8 tg ++ [SL aha nha cha, SL ahb nhb chb]).toArray), (1, .agg ([U64 rq2, I64 (rk2), I64 (er2), SL aj2 nj2 cj2, .bool th2, U64 pv2, U64 ep2, I64 (kd2), SL ai2 ni2 ci2, SL sa2 ns2 sc2, U64 bl2] ++ cu8 tg2 ++ [SL aha2 nha2 cha2, SL ahb2 nhb2 chb2]).toArray)] _
 refine AK (AD (A9 (CL (.agg ([U64 rq, I64 (rk), I64 (er), SL aj nj cj, .bool th, U64 pv, U64 ep, I64 (kd), SL ai ni ci, SL sa ns sc, U64 bl] ++ cu8 tg ++ [SL aha nha cha, SL ahb nhb chb]).toArray) ([U64 rq, I64 (rk), I64 (er), SL aj nj cj, .bool th, U64 pv, U64 ep, I64 (kd), SL ai ni ci, SL sa ns sc, U64 bl] ++ cu8 tg ++ [SL aha nha cha, SL ahb nhb chb]) rfl (by first | rfl | simp)) rfl ?_))
 rintro v1 L1 ⟨nb1, hnb1, rfl, rfl⟩
 show JL _ _ _ _ ((2, Ptr nb1 0) :: _) [⟨nb1, [U64 rq, I64 (rk), I64 (er), SL aj nj cj, .bool th, U64 pv, U64 ep, I64 (kd), SL ai ni ci, SL sa ns sc, U64 bl] ++ cu8 tg ++ [SL aha nha cha, SL ahb nhb chb], 71, (0, 0)⟩]
 refine A9 (CL (.agg ([U64 rq2, I64 (rk2), I64 (er2), SL aj2 nj2 cj2, .bool th2, U64 pv2, U64 ep2, I64 (kd2), SL ai2 ni2 ci2, SL sa2 ns2 sc2, U64 bl2] ++ cu8 tg2 ++ [SL aha2 nha2 cha2, SL ahb2 nhb2 chb2]).toArray) ([U64 rq2, I64 (rk2), I64 (er2), SL aj2 nj2 cj2, .bool th2, U64 pv2, U64 ep2, I64 (kd2), SL ai2 ni2 ci2, SL sa2 ns2 sc2, U64 bl2] ++ cu8 tg2 ++ [SL aha2 nha2 cha2, SL ahb2 nhb2 chb2]) rfl (by first | rfl | simp)) rfl ?_
 rintro v1 L1 ⟨nb2, hnb2, rfl, rfl⟩
 show JL _ _ _ _ ((3, Ptr nb2 0) :: _) [_, ⟨nb2, [U64 rq2, I64 (rk2), I64 (er2), SL aj2 nj2 cj2, .bool th2, U64 pv2, U64 ep2, I64 (kd2), SL ai2 ni2 ci2, SL sa2 ns2 sc2, U64 bl2] ++ cu8 tg2 ++ [SL aha2 nha2 cha2, SL ahb2 nhb2 chb2], 71, (0, 0)⟩]
 refine AA _ (AH rfl) rfl ?_
 refine AN (AF (AK (AK (AD (AA (Ptr nb1 0) (AB 0 22 1 AO rfl AX rfl rfl) rfl ?_)))))
 refine AA (U64 rq) (AI rfl (AQ AY (AS 0 rfl (AG (AG (Seg.head)))))) rfl ?_
 refine AA (Ptr nb2 0) (AB 0 22 1 AO rfl AX rfl rfl) rfl ?_
 refine AA (U64 rq2) (AI rfl (AQ AY (AS 1 rfl (AG (AG (Seg.head)))))) rfl ?_
 refine AA (.bool (decide (rq ≠ rq2))) (AU rfl rfl fun _ => EQ rq rq2) rfl ?_
 refine AA _ (AL rfl) rfl ?_
 rcases Bool.eq_false_or_eq_true (decide (rq ≠ rq2)) with hb1 | hb1
 ·
  have hp1 : rq ≠ rq2 := of_decide_eq_true hb1
  refine AC 5 13 false _ rfl rfl hb1 rfl ?_
  refine AC 5 13 false _ rfl rfl hb1 rfl ?_
  refine AC 5 13 false _ rfl rfl hb1 rfl ?_
  refine AC 5 13 false _ rfl rfl hb1 rfl ?_
  refine AC 5 13 false _ rfl rfl hb1 rfl ?_
  refine AA _ (A2 _ rfl hb1 rfl) rfl ?_
  refine AA _ (AL rfl) rfl ?_
  refine AC 12 20 false _ rfl rfl rfl rfl ?_
  refine AC 12 20 false _ rfl rfl rfl rfl ?_
  refine AC 12 20 false _ rfl rfl rfl rfl ?_
  refine AC 12 20 false _ rfl rfl rfl rfl ?_
  refine AC 12 20 false _ rfl rfl rfl rfl ?_
  refine AA _ (A2 _ rfl rfl rfl) rfl ?_
  refine AA _ (AL rfl) rfl ?_
  refine AC 19 27 false _ rfl rfl rfl rfl ?_
  refine AC 19 27 false _ rfl rfl rfl rfl ?_
  refine AC 19 27 false _ rfl rfl rfl rfl ?_
  refine AC 19 27 false _ rfl rfl rfl rfl ?_
  refine AC 19 27 false _ rfl rfl rfl rfl ?_
  refine AA _ (A2 _ rfl rfl rfl) rfl ?_
  refine AA _ (AL rfl) rfl ?_
  refine AC 26 34 false _ rfl rfl rfl rfl ?_
  refine AC 26 34 false _ rfl rfl rfl rfl ?_
  refine AC 26 34 false _ rfl rfl rfl rfl ?_
  refine AC 26 34 false _ rfl rfl rfl rfl ?_
  refine AC 26 34 false _ rfl rfl rfl rfl ?_
  refine AC 26 34 false _ rfl rfl rfl rfl ?_
  refine AA _ (A2 _ rfl rfl rfl) rfl ?_
  refine AA _ (AL rfl) rfl ?_
  refine AC 34 42 false _ rfl rfl rfl rfl ?_
  refine AC 34 42 false _ rfl rfl rfl rfl ?_
  refine AC 34 42 false _ rfl rfl rfl rfl ?_
  refine AC 34 42 false _ rfl rfl rfl rfl ?_
  refine AC 34 42 false _ rfl rfl rfl rfl ?_
  refine AC 34 42 false _ rfl rfl rfl rfl ?_
  refine AC 34 42 false _ rfl rfl rfl rfl ?_
  refine AA _ (A2 _ rfl rfl rfl) rfl ?_
  refine AA _ (AL rfl) rfl ?_
  refine AC 43 51 false _ rfl rfl rfl rfl ?_
  refine AC 43 51 false _ rfl rfl rfl rfl ?_
  refine AC 43 51 false _ rfl rfl rfl rfl ?_
  refine AC 43 51 false _ rfl rfl rfl rfl ?_
  refine AC 43 51 false _ rfl rfl rfl rfl ?_
  refine AC 43 51 false _ rfl rfl rfl rfl ?_
  refine AC 43 51 false _ rfl rfl rfl rfl ?_
  refine AA _ (A2 _ rfl rfl rfl) rfl ?_
  refine AA _ (AL rfl) rfl ?_
  refine AC 52 60 false _ rfl rfl rfl rfl ?_
  refine AC 52 60 false _ rfl rfl rfl rfl ?_
  refine AC 52 60 false _ rfl rfl rfl rfl ?_
  refine AC 52 60 false _ rfl rfl rfl rfl ?_
  refine AC 52 60 false _ rfl rfl rfl rfl ?_
  refine AC 52 60 false _ rfl rfl rfl rfl ?_
  refine AC 52 60 false _ rfl rfl rfl rfl ?_
  refine AA _ (A2 _ rfl rfl rfl) rfl ?_
  refine AN (AF (CO _ rfl rfl ?_))
  refine AK (AD (AA _ (AH rfl) rfl ?_))
  refine AN (AF (BK (A1 (BP [false, false] ?_))))
  show JQ _ _ _ _ []
  refine BJ (.bool false) (res1 EW (BH rfl)) fun w1 hw1 => ?_
  refine ⟨_, [], rfl, ⟨congrArg Value.bool ?_, rfl⟩, hw1.sub (by simp) (by simp)⟩
  refine (decide_eq_false (fun h => ?_)).symm
  obtain ⟨h1, h2, h3, h4, h5, h6, h7, h8⟩ := h
  have g6 := congrArg List.length h6
  have g7 := congrArg List.length h7
  have g8 := congrArg List.length h8
  first | omega | contradiction | (simp_all; done)
 ·
  have hp1 : ¬ (rq ≠ rq2) := of_decide_eq_false hb1
  refine AP 5 13 false _ (Ptr nb1 1) rfl rfl hb1 (AB 1 3 1 AO rfl AR rfl rfl) rfl ?_
  refine AP 5 13 false _ (I64 (rk)) rfl rfl hb1 (AI rfl (AQ AT (AS 0 rfl (AG (AG (AE (Seg.head))))))) rfl ?_
  refine AP 5 13 false _ (Ptr nb2 1) rfl rfl hb1 (AB 1 3 1 AO rfl AR rfl rfl) rfl ?_
  refine AP 5 13 false _ (I64 (rk2)) rfl rfl hb1 (AI rfl (AQ AT (AS 1 rfl (AG (AG (AE (Seg.head))))))) rfl ?_
  refine AP 5 13 false _ (.bool (decide ((rk) ≠ (rk2)))) rfl rfl hb1 (AU rfl rfl fun _ => EO _ _) rfl ?_
  refine AA _ (A0 _ rfl hb1 rfl) rfl ?_
  refine AA _ (AL rfl) rfl ?_
  rcases Bool.eq_false_or_eq_true (decide ((rk) ≠ (rk2))) with hb2 | hb2
  ·
   have hp2 : (rk) ≠ (rk2) := of_decide_eq_true hb2
   refine AC 12 20 false _ rfl rfl hb2 rfl ?_
   refine AC 12 20 false _ rfl rfl hb2 rfl ?_
   refine AC 12 20 false _ rfl rfl hb2 rfl ?_
   refine AC 12 20 false _ rfl rfl hb2 rfl ?_
   refine AC 12 20 false _ rfl rfl hb2 rfl ?_
   refine AA _ (A2 _ rfl hb2 rfl) rfl ?_
   refine AA _ (AL rfl) rfl ?_
   refine AC 19 27 false _ rfl rfl rfl rfl ?_
   refine AC 19 27 false _ rfl rfl rfl rfl ?_
   refine AC 19 27 false _ rfl rfl rfl rfl ?_
   refine AC 19 27 false _ rfl rfl rfl rfl ?_
   refine AC 19 27 false _ rfl rfl rfl rfl ?_
   refine AA _ (A2 _ rfl rfl rfl) rfl ?_
   refine AA _ (AL rfl) rfl ?_
   refine AC 26 34 false _ rfl rfl rfl rfl ?_
   refine AC 26 34 false _ rfl rfl rfl rfl ?_
   refine AC 26 34 false _ rfl rfl rfl rfl ?_
   refine AC 26 34 false _ rfl rfl rfl rfl ?_
   refine AC 26 34 false _ rfl rfl rfl rfl ?_
   refine AC 26 34 false _ rfl rfl rfl rfl ?_
   refine AA _ (A2 _ rfl rfl rfl) rfl ?_
   refine AA _ (AL rfl) rfl ?_
   refine AC 34 42 false _ rfl rfl rfl rfl ?_
   refine AC 34 42 false _ rfl rfl rfl rfl ?_
   refine AC 34 42 false _ rfl rfl rfl rfl ?_
   refine AC 34 42 false _ rfl rfl rfl rfl ?_
   refine AC 34 42 false _ rfl rfl rfl rfl ?_
   refine AC 34 42 false _ rfl rfl rfl rfl ?_
   refine AC 34 42 false _ rfl rfl rfl rfl ?_
   refine AA _ (A2 _ rfl rfl rfl) rfl ?_
   refine AA _ (AL rfl) rfl ?_
   refine AC 43 51 false _ rfl rfl rfl rfl ?_
   refine AC 43 51 false _ rfl rfl rfl rfl ?_
   refine AC 43 51 false _ rfl rfl rfl rfl ?_
   refine AC 43 51 false _ rfl rfl rfl rfl ?_
   refine AC 43 51 false _ rfl rfl rfl rfl ?_
   refine AC 43 51 false _ rfl rfl rfl rfl ?_
   refine AC 43 51 false _ rfl rfl rfl rfl ?_
   refine AA _ (A2 _ rfl rfl rfl) rfl ?_
   refine AA _ (AL rfl) rfl ?_
   refine AC 52 60 false _ rfl rfl rfl rfl ?_
   refine AC 52 60 false _ rfl rfl rfl rfl ?_
   refine AC 52 60 false _ rfl rfl rfl rfl ?_
   refine AC 52 60 false _ rfl rfl rfl rfl ?_
   refine AC 52 60 false _ rfl rfl rfl rfl ?_
   refine AC 52 60 false _ rfl rfl rfl rfl ?_
   refine AC 52 60 false _ rfl rfl rfl rfl ?_
   refine AA _ (A2 _ rfl rfl rfl) rfl ?_
   refine AN (AF (CO _ rfl rfl ?_))
   refine AK (AD (AA _ (AH rfl) rfl ?_))
   refine AN (AF (BK (A1 (BP [false, false] ?_))))
   show JQ _ _ _ _ []
   refine BJ (.bool false) (res1 EW (BH rfl)) fun w1 hw1 => ?_
   refine ⟨_, [], rfl, ⟨congrArg Value.bool ?_, rfl⟩, hw1.sub (by simp) (by simp)⟩
   refine (decide_eq_false (fun h => ?_)).symm
   obtain ⟨h1, h2, h3, h4, h5, h6, h7, h8⟩ := h
   have g6 := congrArg List.length h6
   have g7 := congrArg List.length h7
   have g8 := congrArg List.length h8
   first | omega | contradiction | (simp_all; done)
  ·
   have hp2 : ¬ ((rk) ≠ (rk2)) := of_decide_eq_false hb2
   refine AP 12 20 false _ (Ptr nb1 2) rfl rfl hb2 (AB 2 3 1 AO rfl AR rfl rfl) rfl ?_
   refine AP 12 20 false _ (I64 (er)) rfl rfl hb2 (AI rfl (AQ AT (AS 0 rfl (AG (AG (AE (AE (Seg.head)))))))) rfl ?_
   refine AP 12 20 false _ (Ptr nb2 2) rfl rfl hb2 (AB 2 3 1 AO rfl AR rfl rfl) rfl ?_
   refine AP 12 20 false _ (I64 (er2)) rfl rfl hb2 (AI rfl (AQ AT (AS 1 rfl (AG (AG (AE (AE (Seg.head)))))))) rfl ?_
   refine AP 12 20 false _ (.bool (decide ((er) ≠ (er2)))) rfl rfl hb2 (AU rfl rfl fun _ => EO _ _) rfl ?_
   refine AA _ (A0 _ rfl hb2 rfl) rfl ?_
   refine AA _ (AL rfl) rfl ?_
   rcases Bool.eq_false_or_eq_true (decide ((er) ≠ (er2))) with hb3 | hb3
   ·
    have hp3 : (er) ≠ (er2) := of_decide_eq_true hb3
    refine AC 19 27 false _ rfl rfl hb3 rfl ?_
    refine AC 19 27 false _ rfl rfl hb3 rfl ?_
    refine AC 19 27 false _ rfl rfl hb3 rfl ?_
    refine AC 19 27 false _ rfl rfl hb3 rfl ?_
    refine AC 19 27 false _ rfl rfl hb3 rfl ?_
    refine AA _ (A2 _ rfl hb3 rfl) rfl ?_
    refine AA _ (AL rfl) rfl ?_
    refine AC 26 34 false _ rfl rfl rfl rfl ?_
    refine AC 26 34 false _ rfl rfl rfl rfl ?_
    refine AC 26 34 false _ rfl rfl rfl rfl ?_
    refine AC 26 34 false _ rfl rfl rfl rfl ?_
    refine AC 26 34 false _ rfl rfl rfl rfl ?_
    refine AC 26 34 false _ rfl rfl rfl rfl ?_
    refine AA _ (A2 _ rfl rfl rfl) rfl ?_
    refine AA _ (AL rfl) rfl ?_
    refine AC 34 42 false _ rfl rfl rfl rfl ?_
    refine AC 34 42 false _ rfl rfl rfl rfl ?_
    refine AC 34 42 false _ rfl rfl rfl rfl ?_
    refine AC 34 42 false _ rfl rfl rfl rfl ?_
    refine AC 34 42 false _ rfl rfl rfl rfl ?_
    refine AC 34 42 false _ rfl rfl rfl rfl ?_
    refine AC 34 42 false _ rfl rfl rfl rfl ?_
    refine AA _ (A2 _ rfl rfl rfl) rfl ?_
    refine AA _ (AL rfl) rfl ?_
    refine AC 43 51 false _ rfl rfl rfl rfl ?_
    refine AC 43 51 false _ rfl rfl rfl rfl ?_
    refine AC 43 51 false _ rfl rfl rfl rfl ?_
    refine AC 43 51 false _ rfl rfl rfl rfl ?_
    refine AC 43 51 false _ rfl rfl rfl rfl ?_
    refine AC 43 51 false _ rfl rfl rfl rfl ?_
    refine AC 43 51 false _ rfl rfl rfl rfl ?_
    refine AA _ (A2 _ rfl rfl rfl) rfl ?_
    refine AA _ (AL rfl) rfl ?_
    refine AC 52 60 false _ rfl rfl rfl rfl ?_
    refine AC 52 60 false _ rfl rfl rfl rfl ?_
    refine AC 52 60 false _ rfl rfl rfl rfl ?_
    refine AC 52 60 false _ rfl rfl rfl rfl ?_
    refine AC 52 60 false _ rfl rfl rfl rfl ?_
    refine AC 52 60 false _ rfl rfl rfl rfl ?_
    refine AC 52 60 false _ rfl rfl rfl rfl ?_
    refine AA _ (A2 _ rfl rfl rfl) rfl ?_
    refine AN (AF (CO _ rfl rfl ?_))
    refine AK (AD (AA _ (AH rfl) rfl ?_))
    refine AN (AF (BK (A1 (BP [false, false] ?_))))
    show JQ _ _ _ _ []
    refine BJ (.bool false) (res1 EW (BH rfl)) fun w1 hw1 => ?_
    refine ⟨_, [], rfl, ⟨congrArg Value.bool ?_, rfl⟩, hw1.sub (by simp) (by simp)⟩
    refine (decide_eq_false (fun h => ?_)).symm
    obtain ⟨h1, h2, h3, h4, h5, h6, h7, h8⟩ := h
    have g6 := congrArg List.length h6
    have g7 := congrArg List.length h7
    have g8 := congrArg List.length h8
    first | omega | contradiction | (simp_all; done)
   ·
    have hp3 : ¬ ((er) ≠ (er2)) := of_decide_eq_false hb3
    refine AP 19 27 false _ (Ptr nb1 4) rfl rfl hb3 (AB 4 4 1 AO rfl BB rfl rfl) rfl ?_
    refine AP 19 27 false _ (.bool th) rfl rfl hb3 (AI rfl (AQ BD (AS 0 rfl (AG (AG (AE (AE (AE (AE (Seg.head)))))))))) rfl ?_
    refine AP 19 27 false _ (Ptr nb2 4) rfl rfl hb3 (AB 4 4 1 AO rfl BB rfl rfl) rfl ?_
    refine AP 19 27 false _ (.bool th2) rfl rfl hb3 (AI rfl (AQ BD (AS 1 rfl (AG (AG (AE (AE (AE (AE (Seg.head)))))))))) rfl ?_
    refine AP 19 27 false _ (.bool (!(th == th2))) rfl rfl hb3 (E3 _ _ _ rfl rfl (fun _ => F1 ..) fun _ => neq_bool D4) rfl ?_
    refine AA _ (A0 _ rfl hb3 rfl) rfl ?_
    refine AA _ (AL rfl) rfl ?_
    rcases Bool.eq_false_or_eq_true (th == th2) with hb4 | hb4
    ·
     refine AP 26 34 false _ (Ptr nb1 5) rfl rfl (bnotT hb4) (AB 5 38 22 AO rfl D6 rfl rfl) rfl ?_
     refine AP 26 34 false _ (.agg ([U64 pv, U64 ep, I64 (kd), SL ai ni ci, SL sa ns sc, U64 bl] ++ cu8 tg).toArray) rfl rfl (bnotT hb4) (AI rfl (BV Tryd.isAgg38 D6 (by simp [htg]) (AS 0 rfl (C6 (p := [U64 rq, I64 (rk), I64 (er), SL aj nj cj, .bool th]) (q := [SL aha nha cha, SL ahb nhb chb]) (vs := [U64 pv, U64 ep, I64 (kd), SL ai ni ci, SL sa ns sc, U64 bl] ++ cu8 tg) (by first | rfl | (simp only [List.append_assoc, List.nil_append, List.append_nil, List.cons_append]; done)) rfl)))) rfl ?_
     refine AP 26 34 false _ (Ptr nb2 5) rfl rfl (bnotT hb4) (AB 5 38 22 AO rfl D6 rfl rfl) rfl ?_
     refine AP 26 34 false _ (.agg ([U64 pv2, U64 ep2, I64 (kd2), SL ai2 ni2 ci2, SL sa2 ns2 sc2, U64 bl2] ++ cu8 tg2).toArray) rfl rfl (bnotT hb4) (AI rfl (BV Tryd.isAgg38 D6 (by simp [htg2]) (AS 1 rfl (C6 (p := [U64 rq2, I64 (rk2), I64 (er2), SL aj2 nj2 cj2, .bool th2]) (q := [SL aha2 nha2 cha2, SL ahb2 nhb2 chb2]) (vs := [U64 pv2, U64 ep2, I64 (kd2), SL ai2 ni2 ci2, SL sa2 ns2 sc2, U64 bl2] ++ cu8 tg2) (by first | rfl | (simp only [List.append_assoc, List.nil_append, List.append_nil, List.cons_append]; done)) rfl)))) rfl ?_
     refine ET 26 34 false _ rfl rfl (bnotT hb4) (BG 51 [.agg ([U64 pv, U64 ep, I64 (kd), SL ai ni ci, SL sa ns sc, U64 bl] ++ cu8 tg).toArray, .agg ([U64 pv2, U64 ep2, I64 (kd2), SL ai2 ni2 ci2, SL sa2 ns2 sc2, U64 bl2] ++ cu8 tg2).toArray] (.bool (decide (pv = pv2 ∧ ep = ep2 ∧ tg = tg2 ∧ (kd) = (kd2) ∧ bl = bl2 ∧ l = l2 ∧ ls = ls2))) (A6 _ Tryd.call51 rfl) (fun w1 hw1 => rsame13_c pv ep (kd) ai ni ci l sa ns sc ls bl tg pv2 ep2 (kd2) ai2 ni2 ci2 l2 sa2 ns2 sc2 ls2 bl2 tg2 w1 hl (by omega) (by omega) (by omega) (CA hw1 rfl hv) hls (by omega) (by omega) (by omega) (CA hw1 rfl hs) htg hl2 (by omega) (by omega) (by omega) (CA hw1 rfl hv2) hls2 (by omega) (by omega) (by omega) (CA hw1 rfl hs2) htg2)) rfl ?_
     rintro v1 L1 ⟨rfl, rfl⟩
     show JL _ _ _ _ ((39, .bool (decide (pv = pv2 ∧ ep = ep2 ∧ tg = tg2 ∧ (kd) = (kd2) ∧ bl = bl2 ∧ l = l2 ∧ ls = ls2))) :: _) [_, _]
     refine AP 26 34 false _ (.bool (!(decide (pv = pv2 ∧ ep = ep2 ∧ tg = tg2 ∧ (kd) = (kd2) ∧ bl = bl2 ∧ l = l2 ∧ ls = ls2)))) rfl rfl (bnotT hb4) (EP rfl) rfl ?_
     refine AA _ (A0 _ rfl (bnotT hb4) rfl) rfl ?_
     refine AA _ (AL rfl) rfl ?_
     rcases Bool.eq_false_or_eq_true (decide (pv = pv2 ∧ ep = ep2 ∧ tg = tg2 ∧ (kd) = (kd2) ∧ bl = bl2 ∧ l = l2 ∧ ls = ls2)) with hb5 | hb5
     ·
      have hp5 : pv = pv2 ∧ ep = ep2 ∧ tg = tg2 ∧ (kd) = (kd2) ∧ bl = bl2 ∧ l = l2 ∧ ls = ls2 := of_decide_eq_true hb5
      refine AP 34 42 false _ (Ptr nb1 3) rfl rfl (bnotT hb5) (AB 3 69 1 AO rfl BQ rfl rfl) rfl ?_
      refine AP 34 42 false _ (SL aj nj cj) rfl rfl (bnotT hb5) (AI rfl (AQ B9 (AS 0 rfl (AG (AG (AE (AE (AE (Seg.head))))))))) rfl ?_
      refine AP 34 42 false _ (I64 nj) rfl rfl (bnotT hb5) (CY BM rfl) rfl ?_
      refine AP 34 42 false _ (Ptr nb2 3) rfl rfl (bnotT hb5) (AB 3 69 1 AO rfl BQ rfl rfl) rfl ?_
      refine AP 34 42 false _ (SL aj2 nj2 cj2) rfl rfl (bnotT hb5) (AI rfl (AQ B9 (AS 1 rfl (AG (AG (AE (AE (AE (Seg.head))))))))) rfl ?_
      refine AP 34 42 false _ (I64 nj2) rfl rfl (bnotT hb5) (CY BM rfl) rfl ?_
      refine AP 34 42 false _ (.bool (decide (((nj:Int)) ≠ ((nj2:Int))))) rfl rfl (bnotT hb5) (AU rfl rfl fun _ => EO _ _) rfl ?_
      refine AA _ (A0 _ rfl (bnotT hb5) rfl) rfl ?_
      refine AA _ (AL rfl) rfl ?_
      rcases Bool.eq_false_or_eq_true (decide (((nj:Int)) ≠ ((nj2:Int)))) with hb6 | hb6
      ·
       have hp6 : ((nj:Int)) ≠ ((nj2:Int)) := of_decide_eq_true hb6
       refine AC 43 51 false _ rfl rfl hb6 rfl ?_
       refine AC 43 51 false _ rfl rfl hb6 rfl ?_
       refine AC 43 51 false _ rfl rfl hb6 rfl ?_
       refine AC 43 51 false _ rfl rfl hb6 rfl ?_
       refine AC 43 51 false _ rfl rfl hb6 rfl ?_
       refine AC 43 51 false _ rfl rfl hb6 rfl ?_
       refine AC 43 51 false _ rfl rfl hb6 rfl ?_
       refine AA _ (A2 _ rfl hb6 rfl) rfl ?_
       refine AA _ (AL rfl) rfl ?_
       refine AC 52 60 false _ rfl rfl rfl rfl ?_
       refine AC 52 60 false _ rfl rfl rfl rfl ?_
       refine AC 52 60 false _ rfl rfl rfl rfl ?_
       refine AC 52 60 false _ rfl rfl rfl rfl ?_
       refine AC 52 60 false _ rfl rfl rfl rfl ?_
       refine AC 52 60 false _ rfl rfl rfl rfl ?_
       refine AC 52 60 false _ rfl rfl rfl rfl ?_
       refine AA _ (A2 _ rfl rfl rfl) rfl ?_
       refine AN (AF (CO _ rfl rfl ?_))
       refine AK (AD (AA _ (AH rfl) rfl ?_))
       refine AN (AF (BK (A1 (BP [false, false] ?_))))
       show JQ _ _ _ _ []
       refine BJ (.bool false) (res1 EW (BH rfl)) fun w1 hw1 => ?_
       refine ⟨_, [], rfl, ⟨congrArg Value.bool ?_, rfl⟩, hw1.sub (by simp) (by simp)⟩
       refine (decide_eq_false (fun h => ?_)).symm
       obtain ⟨h1, h2, h3, h4, h5, h6, h7, h8⟩ := h
       have g6 := congrArg List.length h6
       have g7 := congrArg List.length h7
       have g8 := congrArg List.length h8
       first | omega | contradiction | (simp_all; done)
      ·
       have hp6 : ¬ (((nj:Int)) ≠ ((nj2:Int))) := of_decide_eq_false hb6
       refine AP 43 51 false _ (Ptr nb1 27) rfl rfl hb6 (AB 27 65 1 AO rfl BR rfl rfl) rfl ?_
       refine AP 43 51 false _ (SL aha nha cha) rfl rfl hb6 (AI rfl (AQ BU (AS 0 rfl (Seg.right 27 0 (by simp [htg]) rfl (Seg.head))))) rfl ?_
       refine AP 43 51 false _ (I64 nha) rfl rfl hb6 (CY BS rfl) rfl ?_
       refine AP 43 51 false _ (Ptr nb2 27) rfl rfl hb6 (AB 27 65 1 AO rfl BR rfl rfl) rfl ?_
       refine AP 43 51 false _ (SL aha2 nha2 cha2) rfl rfl hb6 (AI rfl (AQ BU (AS 1 rfl (Seg.right 27 0 (by simp [htg2]) rfl (Seg.head))))) rfl ?_
       refine AP 43 51 false _ (I64 nha2) rfl rfl hb6 (CY BS rfl) rfl ?_
       refine AP 43 51 false _ (.bool (decide (((nha:Int)) ≠ ((nha2:Int))))) rfl rfl hb6 (AU rfl rfl fun _ => EO _ _) rfl ?_
       refine AA _ (A0 _ rfl hb6 rfl) rfl ?_
       refine AA _ (AL rfl) rfl ?_
       rcases Bool.eq_false_or_eq_true (decide (((nha:Int)) ≠ ((nha2:Int)))) with hb7 | hb7
       ·
        have hp7 : ((nha:Int)) ≠ ((nha2:Int)) := of_decide_eq_true hb7
        refine AC 52 60 false _ rfl rfl hb7 rfl ?_
        refine AC 52 60 false _ rfl rfl hb7 rfl ?_
        refine AC 52 60 false _ rfl rfl hb7 rfl ?_
        refine AC 52 60 false _ rfl rfl hb7 rfl ?_
        refine AC 52 60 false _ rfl rfl hb7 rfl ?_
        refine AC 52 60 false _ rfl rfl hb7 rfl ?_
        refine AC 52 60 false _ rfl rfl hb7 rfl ?_
        refine AA _ (A2 _ rfl hb7 rfl) rfl ?_
        refine AN (AF (CO _ rfl rfl ?_))
        refine AK (AD (AA _ (AH rfl) rfl ?_))
        refine AN (AF (BK (A1 (BP [false, false] ?_))))
        show JQ _ _ _ _ []
        refine BJ (.bool false) (res1 EW (BH rfl)) fun w1 hw1 => ?_
        refine ⟨_, [], rfl, ⟨congrArg Value.bool ?_, rfl⟩, hw1.sub (by simp) (by simp)⟩
        refine (decide_eq_false (fun h => ?_)).symm
        obtain ⟨h1, h2, h3, h4, h5, h6, h7, h8⟩ := h
        have g6 := congrArg List.length h6
        have g7 := congrArg List.length h7
        have g8 := congrArg List.length h8
        first | omega | contradiction | (simp_all; done)
       ·
        have hp7 : ¬ (((nha:Int)) ≠ ((nha2:Int))) := of_decide_eq_false hb7
        refine AP 52 60 false _ (Ptr nb1 28) rfl rfl hb7 (AB 28 65 1 AO rfl BR rfl rfl) rfl ?_
        refine AP 52 60 false _ (SL ahb nhb chb) rfl rfl hb7 (AI rfl (AQ BU (AS 0 rfl (Seg.right 27 1 (by simp [htg]) rfl (AE (Seg.head)))))) rfl ?_
        refine AP 52 60 false _ (I64 nhb) rfl rfl hb7 (CY BS rfl) rfl ?_
        refine AP 52 60 false _ (Ptr nb2 28) rfl rfl hb7 (AB 28 65 1 AO rfl BR rfl rfl) rfl ?_
        refine AP 52 60 false _ (SL ahb2 nhb2 chb2) rfl rfl hb7 (AI rfl (AQ BU (AS 1 rfl (Seg.right 27 1 (by simp [htg2]) rfl (AE (Seg.head)))))) rfl ?_
        refine AP 52 60 false _ (I64 nhb2) rfl rfl hb7 (CY BS rfl) rfl ?_
        refine AP 52 60 false _ (.bool (decide (((nhb:Int)) ≠ ((nhb2:Int))))) rfl rfl hb7 (AU rfl rfl fun _ => EO _ _) rfl ?_
        refine AA _ (A0 _ rfl hb7 rfl) rfl ?_
        refine AN (AF (CI (decide (((nhb:Int)) ≠ ((nhb2:Int)))) rfl (fun hb8 => ?_) (fun hb8 => ?_)))
        ·
         have hp8 : ((nhb:Int)) ≠ ((nhb2:Int)) := of_decide_eq_true hb8
         refine AK (AD (AA _ (AH rfl) rfl ?_))
         refine AN (AF (BK (A1 (BP [false, false] ?_))))
         show JQ _ _ _ _ []
         refine BJ (.bool false) (res1 EW (BH rfl)) fun w1 hw1 => ?_
         refine ⟨_, [], rfl, ⟨congrArg Value.bool ?_, rfl⟩, hw1.sub (by simp) (by simp)⟩
         refine (decide_eq_false (fun h => ?_)).symm
         obtain ⟨h1, h2, h3, h4, h5, h6, h7, h8⟩ := h
         have g6 := congrArg List.length h6
         have g7 := congrArg List.length h7
         have g8 := congrArg List.length h8
         first | omega | contradiction | (simp_all; done)
        ·
         have hp8 : ¬ (((nhb:Int)) ≠ ((nhb2:Int))) := of_decide_eq_false hb8
         refine BE (AF (AK (AK (AD (AA _ (AH rfl) rfl ?_)))))
         refine AN (AF (B2 (DV (ι := Nat) (fun i => [(2, Ptr nb1 0), (3, Ptr nb2 0), (5, I64 i)]) (fun i => [⟨nb1, [U64 rq, I64 (rk), I64 (er), SL aj nj cj, .bool th, U64 pv, U64 ep, I64 (kd), SL ai ni ci, SL sa ns sc, U64 bl] ++ cu8 tg ++ [SL aha nha cha, SL ahb nhb chb], 71, (0, 0)⟩, ⟨nb2, [U64 rq2, I64 (rk2), I64 (er2), SL aj2 nj2 cj2, .bool th2, U64 pv2, U64 ep2, I64 (kd2), SL ai2 ni2 ci2, SL sa2 ns2 sc2, U64 bl2] ++ cu8 tg2 ++ [SL aha2 nha2 cha2, SL ahb2 nhb2 chb2], 71, (0, 0)⟩]) (fun i => i ≤ nj ∧ ∀ k, k < i → ∀ x y, lj[k]? = some x → lj2[k]? = some y → x = y) (fun i => nj - i) 0 ⟨by omega, fun k hk => absurd hk (by omega)⟩ (Sub.all rfl) rfl ?_)))
         rintro i ⟨hi1, hi2⟩
         show JC _ _ _ [(2, Ptr nb1 0), (3, Ptr nb2 0), (5, I64 i)] [⟨nb1, [U64 rq, I64 (rk), I64 (er), SL aj nj cj, .bool th, U64 pv, U64 ep, I64 (kd), SL ai ni ci, SL sa ns sc, U64 bl] ++ cu8 tg ++ [SL aha nha cha, SL ahb nhb chb], 71, (0, 0)⟩, ⟨nb2, [U64 rq2, I64 (rk2), I64 (er2), SL aj2 nj2 cj2, .bool th2, U64 pv2, U64 ep2, I64 (kd2), SL ai2 ni2 ci2, SL sa2 ns2 sc2, U64 bl2] ++ cu8 tg2 ++ [SL aha2 nha2 cha2, SL ahb2 nhb2 chb2], 71, (0, 0)⟩]
         refine AK (AK (AD (AA _ (AL rfl) rfl ?_)))
         refine AA (Ptr nb1 3) (AB 3 69 1 AO rfl BQ rfl rfl) rfl ?_
         refine AA (SL aj nj cj) (AI rfl (AQ B9 (AS 0 rfl (AG (AG (AE (AE (AE (Seg.head))))))))) rfl ?_
         refine AA (I64 nj) (CY BM rfl) rfl ?_
         refine AA (.bool (decide (((i:Int)) < ((nj:Int))))) (AU rfl rfl fun _ => CR _ _) rfl ?_
         refine AN (AF (CI (decide (((i:Int)) < ((nj:Int)))) rfl (fun hb9 => ?_) (fun hb9 => ?_)))
         ·
          have hp9 : ((i:Int)) < ((nj:Int)) := of_decide_eq_true hb9
          refine BE (AF (AK (B2 (AK ?_))))
          obtain ⟨x1, hx1⟩ : ∃ x, lj[i]? = some x := ⟨_, List.getElem?_eq_getElem (by rw [hlj]; omega)⟩
          obtain ⟨bz1, oz1, hz1, hm1⟩ := E4 E6 (by decide) hj hx1
          rw [FO] at hm1
          obtain ⟨x2, hx2⟩ : ∃ x, lj2[i]? = some x := ⟨_, List.getElem?_eq_getElem (by rw [hlj2]; omega)⟩
          obtain ⟨bz2, oz2, hz2, hm2⟩ := E4 E6 (by decide) hj2 hx2
          rw [FO] at hm2
          refine DH 123 1 [(0, Ptr nb1 3), (1, SL aj nj cj), (2, I64 i), (3, Ptr bz1 (50*i + oz1)), (4, .agg (List.toArray (α := Value) ([.bool x1.b, U64 x1.s.e] ++ cu8 x1.s.d ++ cu8 x1.s.t))), (5, Ptr nb2 3), (6, SL aj2 nj2 cj2), (7, I64 i), (8, Ptr bz2 (50*i + oz2)), (9, .agg (List.toArray (α := Value) ([.bool x2.b, U64 x2.s.e] ++ cu8 x2.s.d ++ cu8 x2.s.t))), (10, .bool (!(decide (x1.b = x2.b ∧ x1.s.e = x2.s.e ∧ x1.s.d = x2.s.d ∧ x1.s.t = x2.s.t))))] B8 rfl (by decide +kernel) ?_
          refine DN ⟨[], [0, 1, 2, 3, 4, 5, 6, 7, 8, 9, 10], [], [0, 1, 2, 3, 4, 5, 6, 7, 8, 9, 10], []⟩ rfl rfl (by decide +kernel) rfl ⟨⟨_, rfl, AJ rfl (AB 3 69 1 AO rfl BQ rfl rfl)⟩, ⟨_, rfl, AJ rfl (AI rfl (AQ B9 (AS 0 rfl (AG (AG (AE (AE (AE (Seg.head)))))))))⟩, CD rfl rfl rfl, ⟨_, rfl, AJ rfl (B4 167 50 (50*i + oz1) BM DM rfl hz1 rfl (by omega) (by omega) (by omega))⟩, ⟨_, rfl, AJ rfl (AI rfl (BV Tryd.isAgg167 DM (by simp [x1.s.hd, x1.s.ht]) (CK (hm1.mem (by simp)) (AV _) (by first | omega | (simp; done) | (simp; omega)))))⟩, ⟨_, rfl, AJ rfl (AB 3 69 1 AO rfl BQ rfl rfl)⟩, ⟨_, rfl, AJ rfl (AI rfl (AQ B9 (AS 1 rfl (AG (AG (AE (AE (AE (Seg.head)))))))))⟩, CD rfl rfl rfl, ⟨_, rfl, AJ rfl (B4 167 50 (50*i + oz2) BM DM rfl hz2 rfl (by omega) (by omega) (by omega))⟩, ⟨_, rfl, AJ rfl (AI rfl (BV Tryd.isAgg167 DM (by simp [x2.s.hd, x2.s.ht]) (CK (hm2.mem (by simp)) (AV _) (by first | omega | (simp; done) | (simp; omega)))))⟩, ⟨_, rfl, AJ rfl (E3 _ _ _ rfl rfl (fun _ => FF _ _ _ _ _ _ (by kernel_rfl)) (neq_struct (x1.b = x2.b ∧ x1.s.e = x2.s.e ∧ x1.s.d = x2.s.d ∧ x1.s.t = x2.s.t) (F8 (d := 9999) (by kernel_rfl) (by kernel_rfl) (by kernel_rfl) (EqRs.cons 4 0 (.bool x1.b) (.bool x2.b) _ _ _ (PartV.one BD (AG (AG (Seg.head)))) (PartV.one BD (AG (AG (Seg.head)))) (EqV.bool (d := 9998) D4 x1.b x2.b) (EqRs.last 164 1 (.agg ([U64 x1.s.e] ++ cu8 x1.s.d ++ cu8 x1.s.t).toArray) (.agg ([U64 x2.s.e] ++ cu8 x2.s.d ++ cu8 x2.s.t).toArray) _ (PartV.agg Tryd.isAgg164 C8 (E9 (C6 (p := [.bool x1.b]) (q := []) (vs := [U64 x1.s.e] ++ cu8 x1.s.d ++ cu8 x1.s.t) (by first | rfl | (simp only [List.append_assoc, List.nil_append, List.append_nil, List.cons_append]; done)) rfl) (by simp [x1.s.hd, x1.s.ht]) (by first | omega | (simp; done)))) (PartV.agg Tryd.isAgg164 C8 (E9 (C6 (p := [.bool x2.b]) (q := []) (vs := [U64 x2.s.e] ++ cu8 x2.s.d ++ cu8 x2.s.t) (by first | rfl | (simp only [List.append_assoc, List.nil_append, List.append_nil, List.cons_append]; done)) rfl) (by simp [x2.s.hd, x2.s.ht]) (by first | omega | (simp; done)))) (F8 (d := 9998) (by kernel_rfl) (by kernel_rfl) (by kernel_rfl) (EqRs.cons 22 0 (U64 x1.s.e) (U64 x2.s.e) _ _ _ (PartV.one AY (AG (AG (Seg.head)))) (PartV.one AY (AG (AG (Seg.head)))) (EqV.u64 (d := 9997) A3 x1.s.e x2.s.e) (EqRs.cons 159 1 (.agg (cu8 x1.s.d).toArray) (.agg (cu8 x2.s.d).toArray) _ _ _ (PartV.agg E8 ED (E9 (AG (Seg.right 1 0 rfl rfl (AV _))) (D7 x1.s.hd) (by omega))) (PartV.agg E8 ED (E9 (AG (Seg.right 1 0 rfl rfl (AV _))) (D7 x2.s.hd) (by omega))) (EqV.arr8 (d := 9996) D0 BA EC EN FC (by simp [x1.s.hd]) (by simp [x2.s.hd])) (EqRs.last 27 33 (.agg (cu8 x1.s.t).toArray) (.agg (cu8 x2.s.t).toArray) _ (PartV.agg DY CN (E9 (Seg.right 33 0 (by simp [x1.s.hd]) rfl (AV _)) (D7 x1.s.ht) (by omega))) (PartV.agg DY CN (E9 (Seg.right 33 0 (by simp [x2.s.hd]) rfl (AV _)) (D7 x2.s.ht) (by omega))) (EqV.arr8 (d := 9996) C5 BA EC EN FC (by simp [x1.s.ht]) (by simp [x2.s.ht]))))))))) (by first | rfl | (simp only [Bool.decide_and, Bool.and_assoc]; done) | (simp only [Bool.beq_eq_decide_eq, Bool.decide_and, Bool.and_assoc]; done) | (simp [Bool.and_assoc]; done))))⟩, trivial⟩ ?_
          refine C7 (F' := [(76, Ptr nb1 3), (77, SL aj nj cj), (78, I64 i), (79, Ptr bz1 (50*i + oz1)), (80, .agg (List.toArray (α := Value) ([.bool x1.b, U64 x1.s.e] ++ cu8 x1.s.d ++ cu8 x1.s.t))), (81, Ptr nb2 3), (82, SL aj2 nj2 cj2), (83, I64 i), (84, Ptr bz2 (50*i + oz2)), (85, .agg (List.toArray (α := Value) ([.bool x2.b, U64 x2.s.e] ++ cu8 x2.s.d ++ cu8 x2.s.t))), (86, .bool (!(decide (x1.b = x2.b ∧ x1.s.e = x2.s.e ∧ x1.s.d = x2.s.d ∧ x1.s.t = x2.s.t)))), (2, Ptr nb1 0), (3, Ptr nb2 0), (5, I64 i), (69, I64 i), (70, Ptr nb1 3), (71, SL aj nj cj), (72, I64 nj), (73, .bool (decide (((i:Int)) < ((nj:Int)))))]) (by kernel_rfl) ?_
          refine AF (CI (!(decide (x1.b = x2.b ∧ x1.s.e = x2.s.e ∧ x1.s.d = x2.s.d ∧ x1.s.t = x2.s.t))) rfl (fun hb10 => ?_) (fun hb10 => ?_))
          ·
           have hb11 : (decide (x1.b = x2.b ∧ x1.s.e = x2.s.e ∧ x1.s.d = x2.s.d ∧ x1.s.t = x2.s.t)) = false := by first | simpa using hb10 | exact Eq.mp (Bool.not_eq_true' _) hb10
           have hp11 : ¬ (x1.b = x2.b ∧ x1.s.e = x2.s.e ∧ x1.s.d = x2.s.d ∧ x1.s.t = x2.s.t) := of_decide_eq_false hb11
           refine AK (AD (AA _ (AH rfl) rfl ?_))
           refine AN (AF (BK (CT (A1 (A1 (CT (A1 (BP [false, false] ?_))))))))
           show JQ _ _ _ _ []
           refine BJ (.bool false) (res1 EW (BH rfl)) fun w1 hw1 => ?_
           refine ⟨_, [], rfl, ⟨congrArg Value.bool ?_, rfl⟩, hw1.sub (by simp) (by simp)⟩
           refine (decide_eq_false (fun h => ?_)).symm
           obtain ⟨h1, h2, h3, h4, h5, h6, h7, h8⟩ := h
           exact GA hx1 hx2 (fun e => (of_decide_eq_false hb11) ((ItemR.eq_iff _ _).1 e)) h6
          ·
           have hb12 : (decide (x1.b = x2.b ∧ x1.s.e = x2.s.e ∧ x1.s.d = x2.s.d ∧ x1.s.t = x2.s.t)) = true := by first | simpa using hb10 | exact Eq.mp (Bool.not_eq_false' _) hb10
           have hp12 : x1.b = x2.b ∧ x1.s.e = x2.s.e ∧ x1.s.d = x2.s.d ∧ x1.s.t = x2.s.t := of_decide_eq_true hb12
           refine BE (BY (AF (AD (AA _ (AL rfl) rfl ?_))))
           refine AA (I64 ((i:Int) + 1)) (AU rfl rfl fun _ => DE _ _ ((i:Int) + 1) (by omega) (by omega)) rfl ?_
           refine AA _ (AH rfl) rfl ?_
           refine AN (DK (EM (i + 1) ⟨by omega, eq_step hx1 hx2 ((ItemR.eq_iff _ _).2 (of_decide_eq_true hb12)) hi2⟩ (by first | (simp; omega) | simp | (dsimp only; omega) | omega) (Sub.all rfl) rfl))
         ·
          have hp9 : ¬ (((i:Int)) < ((nj:Int))) := of_decide_eq_false hb9
          refine DU (A5 (A5 (CQ (AF (AK (AK (AD (AA _ (AH rfl) rfl ?_))))))))
          refine AN (AF (B2 (DV (ι := Nat) (fun j => [(2, Ptr nb1 0), (3, Ptr nb2 0), (6, I64 j)]) (fun j => [⟨nb1, [U64 rq, I64 (rk), I64 (er), SL aj nj cj, .bool th, U64 pv, U64 ep, I64 (kd), SL ai ni ci, SL sa ns sc, U64 bl] ++ cu8 tg ++ [SL aha nha cha, SL ahb nhb chb], 71, (0, 0)⟩, ⟨nb2, [U64 rq2, I64 (rk2), I64 (er2), SL aj2 nj2 cj2, .bool th2, U64 pv2, U64 ep2, I64 (kd2), SL ai2 ni2 ci2, SL sa2 ns2 sc2, U64 bl2] ++ cu8 tg2 ++ [SL aha2 nha2 cha2, SL ahb2 nhb2 chb2], 71, (0, 0)⟩]) (fun j => j ≤ nha ∧ xha.take (32*j) = xha2.take (32*j)) (fun j => nha - j) 0 ⟨by omega, by rw [Nat.mul_zero, List.take_zero, List.take_zero]⟩ (Sub.all rfl) rfl ?_)))
          rintro j ⟨ha1, ha2⟩
          show JC _ _ _ [(2, Ptr nb1 0), (3, Ptr nb2 0), (6, I64 j)] [⟨nb1, [U64 rq, I64 (rk), I64 (er), SL aj nj cj, .bool th, U64 pv, U64 ep, I64 (kd), SL ai ni ci, SL sa ns sc, U64 bl] ++ cu8 tg ++ [SL aha nha cha, SL ahb nhb chb], 71, (0, 0)⟩, ⟨nb2, [U64 rq2, I64 (rk2), I64 (er2), SL aj2 nj2 cj2, .bool th2, U64 pv2, U64 ep2, I64 (kd2), SL ai2 ni2 ci2, SL sa2 ns2 sc2, U64 bl2] ++ cu8 tg2 ++ [SL aha2 nha2 cha2, SL ahb2 nhb2 chb2], 71, (0, 0)⟩]
          refine AK (AK (AD (AA _ (AL rfl) rfl ?_)))
          refine AA (Ptr nb1 27) (AB 27 65 1 AO rfl BR rfl rfl) rfl ?_
          refine AA (SL aha nha cha) (AI rfl (AQ BU (AS 0 rfl (Seg.right 27 0 (by simp [htg]) rfl (Seg.head))))) rfl ?_
          refine AA (I64 nha) (CY BS rfl) rfl ?_
          refine AA (.bool (decide (((j:Int)) < ((nha:Int))))) (AU rfl rfl fun _ => CR _ _) rfl ?_
          refine AN (AF (CI (decide (((j:Int)) < ((nha:Int)))) rfl (fun hb13 => ?_) (fun hb13 => ?_)))
          ·
           have hp13 : ((j:Int)) < ((nha:Int)) := of_decide_eq_true hb13
           refine BE (AF (AK (B2 (AK ?_))))
           obtain ⟨bz3, oz3, hz3, hm3⟩ := hrha.pos (by rw [hlha]; omega)
           have hl1 : (mid xha (32*j) 32).length = 32 := F3 (by rw [hlha]; omega)
           obtain ⟨bz4, oz4, hz4, hm4⟩ := hrha2.pos (by rw [hlha2]; omega)
           have hl2 : (mid xha2 (32*j) 32).length = 32 := F3 (by rw [hlha2]; omega)
           refine DH 123 1 [(0, Ptr nb1 27), (1, SL aha nha cha), (2, I64 j), (3, Ptr bz3 (32*j + oz3)), (4, .agg (cu8 (mid xha (32*j) 32)).toArray), (5, Ptr nb2 27), (6, SL aha2 nha2 cha2), (7, I64 j), (8, Ptr bz4 (32*j + oz4)), (9, .agg (cu8 (mid xha2 (32*j) 32)).toArray), (10, .bool (!(decide ((mid xha (32*j) 32) = (mid xha2 (32*j) 32)))))] B8 rfl (by decide +kernel) ?_
           have hl3 : (mid xha (32*j) 32).length = 32 := F3 (by rw [hlha]; omega)
           have hl4 : (mid xha2 (32*j) 32).length = 32 := F3 (by rw [hlha2]; omega)
           refine DN ⟨[], [0, 1, 2, 3, 4, 5, 6, 7, 8, 9, 10], [], [0, 1, 2, 3, 4, 5, 6, 7, 8, 9, 10], []⟩ rfl rfl (by decide +kernel) rfl ⟨⟨_, rfl, AJ rfl (AB 27 65 1 AO rfl BR rfl rfl)⟩, ⟨_, rfl, AJ rfl (AI rfl (AQ BU (AS 0 rfl (Seg.right 27 0 (by simp [htg]) rfl (Seg.head)))))⟩, CD rfl rfl rfl, ⟨_, rfl, AJ rfl (B4 54 32 (32*j + oz3) BS EA rfl hz3 rfl (by omega) (by omega) (by omega))⟩, ⟨_, rfl, AJ rfl (AI rfl (BV Tryd.isAgg54 EA (D7 hl3) (CK (MemAt.base hm3.1 hm3.2.1 hm3.2.2) (segm_u8 (32*j) 32 (by rw [hlha]; omega)) (by first | omega | (simp; done) | (simp; omega)))))⟩, ⟨_, rfl, AJ rfl (AB 27 65 1 AO rfl BR rfl rfl)⟩, ⟨_, rfl, AJ rfl (AI rfl (AQ BU (AS 1 rfl (Seg.right 27 0 (by simp [htg2]) rfl (Seg.head)))))⟩, CD rfl rfl rfl, ⟨_, rfl, AJ rfl (B4 54 32 (32*j + oz4) BS EA rfl hz4 rfl (by omega) (by omega) (by omega))⟩, ⟨_, rfl, AJ rfl (AI rfl (BV Tryd.isAgg54 EA (D7 hl4) (CK (MemAt.base hm4.1 hm4.2.1 hm4.2.2) (segm_u8 (32*j) 32 (by rw [hlha2]; omega)) (by first | omega | (simp; done) | (simp; omega)))))⟩, ⟨_, rfl, AJ rfl (E3 _ _ _ rfl rfl (fun _ => FF _ _ _ _ _ _ (by kernel_rfl)) fun _ => neq_arr8 EZ BA EC EN FC (by simp [hl1]) (by simp [hl2]))⟩, trivial⟩ ?_
           refine C7 (F' := [(94, Ptr nb1 27), (95, SL aha nha cha), (96, I64 j), (97, Ptr bz3 (32*j + oz3)), (98, .agg (cu8 (mid xha (32*j) 32)).toArray), (99, Ptr nb2 27), (100, SL aha2 nha2 cha2), (101, I64 j), (102, Ptr bz4 (32*j + oz4)), (103, .agg (cu8 (mid xha2 (32*j) 32)).toArray), (104, .bool (!(decide ((mid xha (32*j) 32) = (mid xha2 (32*j) 32))))), (2, Ptr nb1 0), (3, Ptr nb2 0), (6, I64 j), (87, I64 j), (88, Ptr nb1 27), (89, SL aha nha cha), (90, I64 nha), (91, .bool (decide (((j:Int)) < ((nha:Int)))))]) (by kernel_rfl) ?_
           refine AF (CI (!(decide ((mid xha (32*j) 32) = (mid xha2 (32*j) 32)))) rfl (fun hb14 => ?_) (fun hb14 => ?_))
           ·
            have hb15 : (decide ((mid xha (32*j) 32) = (mid xha2 (32*j) 32))) = false := by simpa using hb14
            have hp15 : ¬ ((mid xha (32*j) 32) = (mid xha2 (32*j) 32)) := of_decide_eq_false hb15
            refine AK (AD (AA _ (AH rfl) rfl ?_))
            refine AN (AF (BK (CT (A1 (A1 (CT (A1 (BP [false, false] ?_))))))))
            show JQ _ _ _ _ []
            refine BJ (.bool false) (res1 EW (BH rfl)) fun w1 hw1 => ?_
            refine ⟨_, [], rfl, ⟨congrArg Value.bool ?_, rfl⟩, hw1.sub (by simp) (by simp)⟩
            refine (decide_eq_false (fun h => ?_)).symm
            obtain ⟨h1, h2, h3, h4, h5, h6, h7, h8⟩ := h
            exact (of_decide_eq_false hb15) (by rw [h7])
           ·
            have hb16 : (decide ((mid xha (32*j) 32) = (mid xha2 (32*j) 32))) = true := by simpa using hb14
            have hp16 : (mid xha (32*j) 32) = (mid xha2 (32*j) 32) := of_decide_eq_true hb16
            refine BE (BY (AF (AD (AA _ (AL rfl) rfl ?_))))
            refine AA (I64 ((j:Int) + 1)) (AU rfl rfl fun _ => DE _ _ ((j:Int) + 1) (by omega) (by omega)) rfl ?_
            refine AA _ (AH rfl) rfl ?_
            refine AN (DK (EM (j + 1) ⟨by omega, by rw [← take_mid2, ← take_mid2, ha2, of_decide_eq_true hb16]⟩ (by first | (simp; omega) | simp | (dsimp only; omega) | omega) (Sub.all rfl) rfl))
          ·
           have hp13 : ¬ (((j:Int)) < ((nha:Int))) := of_decide_eq_false hb13
           refine DU (A5 (A5 (CQ (AF (AK (AK (AD (AA _ (AH rfl) rfl ?_))))))))
           refine AN (AF (B2 (DV (ι := Nat) (fun m => [(2, Ptr nb1 0), (3, Ptr nb2 0), (7, I64 m)]) (fun m => [⟨nb1, [U64 rq, I64 (rk), I64 (er), SL aj nj cj, .bool th, U64 pv, U64 ep, I64 (kd), SL ai ni ci, SL sa ns sc, U64 bl] ++ cu8 tg ++ [SL aha nha cha, SL ahb nhb chb], 71, (0, 0)⟩, ⟨nb2, [U64 rq2, I64 (rk2), I64 (er2), SL aj2 nj2 cj2, .bool th2, U64 pv2, U64 ep2, I64 (kd2), SL ai2 ni2 ci2, SL sa2 ns2 sc2, U64 bl2] ++ cu8 tg2 ++ [SL aha2 nha2 cha2, SL ahb2 nhb2 chb2], 71, (0, 0)⟩]) (fun m => m ≤ nhb ∧ xhb.take (32*m) = xhb2.take (32*m)) (fun m => nhb - m) 0 ⟨by omega, by rw [Nat.mul_zero, List.take_zero, List.take_zero]⟩ (Sub.all rfl) rfl ?_)))
           rintro m ⟨hb1, hb2⟩
           show JC _ _ _ [(2, Ptr nb1 0), (3, Ptr nb2 0), (7, I64 m)] [⟨nb1, [U64 rq, I64 (rk), I64 (er), SL aj nj cj, .bool th, U64 pv, U64 ep, I64 (kd), SL ai ni ci, SL sa ns sc, U64 bl] ++ cu8 tg ++ [SL aha nha cha, SL ahb nhb chb], 71, (0, 0)⟩, ⟨nb2, [U64 rq2, I64 (rk2), I64 (er2), SL aj2 nj2 cj2, .bool th2, U64 pv2, U64 ep2, I64 (kd2), SL ai2 ni2 ci2, SL sa2 ns2 sc2, U64 bl2] ++ cu8 tg2 ++ [SL aha2 nha2 cha2, SL ahb2 nhb2 chb2], 71, (0, 0)⟩]
           refine AK (AK (AD (AA _ (AL rfl) rfl ?_)))
           refine AA (Ptr nb1 28) (AB 28 65 1 AO rfl BR rfl rfl) rfl ?_
           refine AA (SL ahb nhb chb) (AI rfl (AQ BU (AS 0 rfl (Seg.right 27 1 (by simp [htg]) rfl (AE (Seg.head)))))) rfl ?_
           refine AA (I64 nhb) (CY BS rfl) rfl ?_
           refine AA (.bool (decide (((m:Int)) < ((nhb:Int))))) (AU rfl rfl fun _ => CR _ _) rfl ?_
           refine AN (AF (CI (decide (((m:Int)) < ((nhb:Int)))) rfl (fun hb17 => ?_) (fun hb17 => ?_)))
           ·
            have hp17 : ((m:Int)) < ((nhb:Int)) := of_decide_eq_true hb17
            refine BE (AF (AK (B2 (AK ?_))))
            obtain ⟨bz5, oz5, hz5, hm5⟩ := hrhb.pos (by rw [hlhb]; omega)
            have hl5 : (mid xhb (32*m) 32).length = 32 := F3 (by rw [hlhb]; omega)
            obtain ⟨bz6, oz6, hz6, hm6⟩ := hrhb2.pos (by rw [hlhb2]; omega)
            have hl6 : (mid xhb2 (32*m) 32).length = 32 := F3 (by rw [hlhb2]; omega)
            refine DH 123 1 [(0, Ptr nb1 28), (1, SL ahb nhb chb), (2, I64 m), (3, Ptr bz5 (32*m + oz5)), (4, .agg (cu8 (mid xhb (32*m) 32)).toArray), (5, Ptr nb2 28), (6, SL ahb2 nhb2 chb2), (7, I64 m), (8, Ptr bz6 (32*m + oz6)), (9, .agg (cu8 (mid xhb2 (32*m) 32)).toArray), (10, .bool (!(decide ((mid xhb (32*m) 32) = (mid xhb2 (32*m) 32)))))] B8 rfl (by decide +kernel) ?_
            have hl7 : (mid xhb (32*m) 32).length = 32 := F3 (by rw [hlhb]; omega)
            have hl8 : (mid xhb2 (32*m) 32).length = 32 := F3 (by rw [hlhb2]; omega)
            refine DN ⟨[], [0, 1, 2, 3, 4, 5, 6, 7, 8, 9, 10], [], [0, 1, 2, 3, 4, 5, 6, 7, 8, 9, 10], []⟩ rfl rfl (by decide +kernel) rfl ⟨⟨_, rfl, AJ rfl (AB 28 65 1 AO rfl BR rfl rfl)⟩, ⟨_, rfl, AJ rfl (AI rfl (AQ BU (AS 0 rfl (Seg.right 27 1 (by simp [htg]) rfl (AE (Seg.head))))))⟩, CD rfl rfl rfl, ⟨_, rfl, AJ rfl (B4 54 32 (32*m + oz5) BS EA rfl hz5 rfl (by omega) (by omega) (by omega))⟩, ⟨_, rfl, AJ rfl (AI rfl (BV Tryd.isAgg54 EA (D7 hl7) (CK (MemAt.base hm5.1 hm5.2.1 hm5.2.2) (segm_u8 (32*m) 32 (by rw [hlhb]; omega)) (by first | omega | (simp; done) | (simp; omega)))))⟩, ⟨_, rfl, AJ rfl (AB 28 65 1 AO rfl BR rfl rfl)⟩, ⟨_, rfl, AJ rfl (AI rfl (AQ BU (AS 1 rfl (Seg.right 27 1 (by simp [htg2]) rfl (AE (Seg.head))))))⟩, CD rfl rfl rfl, ⟨_, rfl, AJ rfl (B4 54 32 (32*m + oz6) BS EA rfl hz6 rfl (by omega) (by omega) (by omega))⟩, ⟨_, rfl, AJ rfl (AI rfl (BV Tryd.isAgg54 EA (D7 hl8) (CK (MemAt.base hm6.1 hm6.2.1 hm6.2.2) (segm_u8 (32*m) 32 (by rw [hlhb2]; omega)) (by first | omega | (simp; done) | (simp; omega)))))⟩, ⟨_, rfl, AJ rfl (E3 _ _ _ rfl rfl (fun _ => FF _ _ _ _ _ _ (by kernel_rfl)) fun _ => neq_arr8 EZ BA EC EN FC (by simp [hl5]) (by simp [hl6]))⟩, trivial⟩ ?_
            refine C7 (F' := [(112, Ptr nb1 28), (113, SL ahb nhb chb), (114, I64 m), (115, Ptr bz5 (32*m + oz5)), (116, .agg (cu8 (mid xhb (32*m) 32)).toArray), (117, Ptr nb2 28), (118, SL ahb2 nhb2 chb2), (119, I64 m), (120, Ptr bz6 (32*m + oz6)), (121, .agg (cu8 (mid xhb2 (32*m) 32)).toArray), (122, .bool (!(decide ((mid xhb (32*m) 32) = (mid xhb2 (32*m) 32))))), (2, Ptr nb1 0), (3, Ptr nb2 0), (7, I64 m), (105, I64 m), (106, Ptr nb1 28), (107, SL ahb nhb chb), (108, I64 nhb), (109, .bool (decide (((m:Int)) < ((nhb:Int)))))]) (by kernel_rfl) ?_
            refine AF (CI (!(decide ((mid xhb (32*m) 32) = (mid xhb2 (32*m) 32)))) rfl (fun hb18 => ?_) (fun hb18 => ?_))
            ·
             have hb19 : (decide ((mid xhb (32*m) 32) = (mid xhb2 (32*m) 32))) = false := by simpa using hb18
             have hp19 : ¬ ((mid xhb (32*m) 32) = (mid xhb2 (32*m) 32)) := of_decide_eq_false hb19
             refine AK (AD (AA _ (AH rfl) rfl ?_))
             refine AN (AF (BK (CT (A1 (A1 (CT (A1 (BP [false, false] ?_))))))))
             show JQ _ _ _ _ []
             refine BJ (.bool false) (res1 EW (BH rfl)) fun w1 hw1 => ?_
             refine ⟨_, [], rfl, ⟨congrArg Value.bool ?_, rfl⟩, hw1.sub (by simp) (by simp)⟩
             refine (decide_eq_false (fun h => ?_)).symm
             obtain ⟨h1, h2, h3, h4, h5, h6, h7, h8⟩ := h
             exact (of_decide_eq_false hb19) (by rw [h8])
            ·
             have hb20 : (decide ((mid xhb (32*m) 32) = (mid xhb2 (32*m) 32))) = true := by simpa using hb18
             have hp20 : (mid xhb (32*m) 32) = (mid xhb2 (32*m) 32) := of_decide_eq_true hb20
             refine BE (BY (AF (AD (AA _ (AL rfl) rfl ?_))))
             refine AA (I64 ((m:Int) + 1)) (AU rfl rfl fun _ => DE _ _ ((m:Int) + 1) (by omega) (by omega)) rfl ?_
             refine AA _ (AH rfl) rfl ?_
             refine AN (DK (EM (m + 1) ⟨by omega, by rw [← take_mid2, ← take_mid2, hb2, of_decide_eq_true hb20]⟩ (by first | (simp; omega) | simp | (dsimp only; omega) | omega) (Sub.all rfl) rfl))
           ·
            have hp17 : ¬ (((m:Int)) < ((nhb:Int))) := of_decide_eq_false hb17
            refine DU (A5 (A5 (CQ (AF (AK (AD (AA _ (AH rfl) rfl ?_)))))))
            refine AN (AF (BK (BP [false, false] ?_)))
            show JQ _ _ _ _ []
            refine BJ (.bool true) (res1 EW (BH rfl)) fun w1 hw1 => ?_
            refine ⟨_, [], rfl, ⟨congrArg Value.bool ?_, rfl⟩, hw1.sub (by simp) (by simp)⟩
            have e1 : lj = lj2 := list_eq (by omega) (by rw [hlj]; intro k hk; exact hi2 k (by omega))
            have e2 : xha = xha2 := by rw [List.take_of_length_le (by omega), List.take_of_length_le (by omega)] at ha2; exact ha2
            have e3 : xhb = xhb2 := by rw [List.take_of_length_le (by omega), List.take_of_length_le (by omega)] at hb2; exact hb2
            exact (decide_eq_true (by simp_all)).symm
     ·
      have hp5 : ¬ (pv = pv2 ∧ ep = ep2 ∧ tg = tg2 ∧ (kd) = (kd2) ∧ bl = bl2 ∧ l = l2 ∧ ls = ls2) := of_decide_eq_false hb5
      refine AC 34 42 false _ rfl rfl (bnotF hb5) rfl ?_
      refine AC 34 42 false _ rfl rfl (bnotF hb5) rfl ?_
      refine AC 34 42 false _ rfl rfl (bnotF hb5) rfl ?_
      refine AC 34 42 false _ rfl rfl (bnotF hb5) rfl ?_
      refine AC 34 42 false _ rfl rfl (bnotF hb5) rfl ?_
      refine AC 34 42 false _ rfl rfl (bnotF hb5) rfl ?_
      refine AC 34 42 false _ rfl rfl (bnotF hb5) rfl ?_
      refine AA _ (A2 _ rfl (bnotF hb5) rfl) rfl ?_
      refine AA _ (AL rfl) rfl ?_
      refine AC 43 51 false _ rfl rfl rfl rfl ?_
      refine AC 43 51 false _ rfl rfl rfl rfl ?_
      refine AC 43 51 false _ rfl rfl rfl rfl ?_
      refine AC 43 51 false _ rfl rfl rfl rfl ?_
      refine AC 43 51 false _ rfl rfl rfl rfl ?_
      refine AC 43 51 false _ rfl rfl rfl rfl ?_
      refine AC 43 51 false _ rfl rfl rfl rfl ?_
      refine AA _ (A2 _ rfl rfl rfl) rfl ?_
      refine AA _ (AL rfl) rfl ?_
      refine AC 52 60 false _ rfl rfl rfl rfl ?_
      refine AC 52 60 false _ rfl rfl rfl rfl ?_
      refine AC 52 60 false _ rfl rfl rfl rfl ?_
      refine AC 52 60 false _ rfl rfl rfl rfl ?_
      refine AC 52 60 false _ rfl rfl rfl rfl ?_
      refine AC 52 60 false _ rfl rfl rfl rfl ?_
      refine AC 52 60 false _ rfl rfl rfl rfl ?_
      refine AA _ (A2 _ rfl rfl rfl) rfl ?_
      refine AN (AF (CO _ rfl rfl ?_))
      refine AK (AD (AA _ (AH rfl) rfl ?_))
      refine AN (AF (BK (A1 (BP [false, false] ?_))))
      show JQ _ _ _ _ []
      refine BJ (.bool false) (res1 EW (BH rfl)) fun w1 hw1 => ?_
      refine ⟨_, [], rfl, ⟨congrArg Value.bool ?_, rfl⟩, hw1.sub (by simp) (by simp)⟩
      refine (decide_eq_false (fun h => ?_)).symm
      obtain ⟨h1, h2, h3, h4, h5, h6, h7, h8⟩ := h
      have g6 := congrArg List.length h6
      have g7 := congrArg List.length h7
      have g8 := congrArg List.length h8
      first | omega | contradiction | (simp_all; done)
    ·
     refine AC 26 34 false _ rfl rfl (bnotF hb4) rfl ?_
     refine AC 26 34 false _ rfl rfl (bnotF hb4) rfl ?_
     refine AC 26 34 false _ rfl rfl (bnotF hb4) rfl ?_
     refine AC 26 34 false _ rfl rfl (bnotF hb4) rfl ?_
     refine AC 26 34 false _ rfl rfl (bnotF hb4) rfl ?_
     refine AC 26 34 false _ rfl rfl (bnotF hb4) rfl ?_
     refine AA _ (A2 _ rfl (bnotF hb4) rfl) rfl ?_
     refine AA _ (AL rfl) rfl ?_
     refine AC 34 42 false _ rfl rfl rfl rfl ?_
     refine AC 34 42 false _ rfl rfl rfl rfl ?_
     refine AC 34 42 false _ rfl rfl rfl rfl ?_
     refine AC 34 42 false _ rfl rfl rfl rfl ?_
     refine AC 34 42 false _ rfl rfl rfl rfl ?_
     refine AC 34 42 false _ rfl rfl rfl rfl ?_
     refine AC 34 42 false _ rfl rfl rfl rfl ?_
     refine AA _ (A2 _ rfl rfl rfl) rfl ?_
     refine AA _ (AL rfl) rfl ?_
     refine AC 43 51 false _ rfl rfl rfl rfl ?_
     refine AC 43 51 false _ rfl rfl rfl rfl ?_
     refine AC 43 51 false _ rfl rfl rfl rfl ?_
     refine AC 43 51 false _ rfl rfl rfl rfl ?_
     refine AC 43 51 false _ rfl rfl rfl rfl ?_
     refine AC 43 51 false _ rfl rfl rfl rfl ?_
     refine AC 43 51 false _ rfl rfl rfl rfl ?_
     refine AA _ (A2 _ rfl rfl rfl) rfl ?_
     refine AA _ (AL rfl) rfl ?_
     refine AC 52 60 false _ rfl rfl rfl rfl ?_
     refine AC 52 60 false _ rfl rfl rfl rfl ?_
     refine AC 52 60 false _ rfl rfl rfl rfl ?_
     refine AC 52 60 false _ rfl rfl rfl rfl ?_
     refine AC 52 60 false _ rfl rfl rfl rfl ?_
     refine AC 52 60 false _ rfl rfl rfl rfl ?_
     refine AC 52 60 false _ rfl rfl rfl rfl ?_
     refine AA _ (A2 _ rfl rfl rfl) rfl ?_
     refine AN (AF (CO _ rfl rfl ?_))
     refine AK (AD (AA _ (AH rfl) rfl ?_))
     refine AN (AF (BK (A1 (BP [false, false] ?_))))
     show JQ _ _ _ _ []
     refine BJ (.bool false) (res1 EW (BH rfl)) fun w1 hw1 => ?_
     refine ⟨_, [], rfl, ⟨congrArg Value.bool ?_, rfl⟩, hw1.sub (by simp) (by simp)⟩
     refine (decide_eq_false (fun h => ?_)).symm
     obtain ⟨h1, h2, h3, h4, h5, h6, h7, h8⟩ := h
     have g6 := congrArg List.length h6
     have g7 := congrArg List.length h7
     have g8 := congrArg List.length h8
     first | omega | contradiction | (simp_all; done)
set_option maxHeartbeats 2000000 in
theorem FX (rq : UInt64) (rk er : Int) (aj : Option Addr) (nj cj : Nat) (lj : List ItemR) (th : Bool) (pv ep : UInt64) (kd : Int) (ai : Option Addr) (ni ci : Nat) (l : List UInt64) (sa : Option Addr) (ns sc : Nat) (ls : List SealR) (bl : UInt64) (tg : List UInt8) (aha : Option Addr) (nha cha : Nat) (xha : List UInt8) (ahb : Option Addr) (nhb chb : Nat) (xhb : List UInt8)  (w : World) (hlj : lj.length = nj) (hnj : nj ≤ 2000000) (hdj : nj ≤ cj) (hcj : cj ≤ maxLen) (hj : RdV w aj (lj.flatMap itemC)) (hl : l.length = ni) (hnm : ni ≤ 2000000) (hnc : ni ≤ ci) (hcm : ci ≤ maxLen) (hv : RdV w ai (cu64 l)) (hls : ls.length = ns) (hnn : ns ≤ 2000000) (hnd : ns ≤ sc) (hcn : sc ≤ maxLen) (hs : RdV w sa (ls.flatMap sealC)) (htg : tg.length = 16) (hlha : xha.length = nha * 32) (hnha : nha ≤ 9000) (hdha : nha ≤ cha) (hcha : cha ≤ maxLen) (hrha : RdB w [] aha xha) (hlhb : xhb.length = nhb * 32) (hnhb : nhb ≤ 9000) (hdhb : nhb ≤ chb) (hchb : chb ≤ maxLen) (hrhb : RdB w [] ahb xhb) (hbi : ni ≤ 300) (hbs : ns ≤ 300)  : Calls Tryd.prog 35 #[.agg ([U64 rq, I64 (rk), I64 (er), SL aj nj cj, .bool th, U64 pv, U64 ep, I64 (kd), SL ai ni ci, SL sa ns sc, U64 bl] ++ cu8 tg ++ [SL aha nha cha, SL ahb nhb chb]).toArray] w (Post w [] (fun v L => v = .bool (repR rk er th lj (blankB pv ep kd l ls bl tg) (decide (mayN pv ep kd l ls bl = 0)) nha nhb) ∧ L = [])) := by
 have hmx : maxLen = 9223372036854775807 := rfl
 refine enter (P := Tryd.prog) (f := 35) (fn := Tryd.f35) w [] 113 [] [.agg ([U64 rq, I64 (rk), I64 (er), SL aj nj cj, .bool th, U64 pv, U64 ep, I64 (kd), SL ai ni ci, SL sa ns sc, U64 bl] ++ cu8 tg ++ [SL aha nha cha, SL ahb nhb chb]).toArray] Tryd.func35 rfl rfl (by simp) (CC (by simp) (by simp) (by simp)) ?_
 show JC _ _ _ [(0, .agg ([U64 rq, I64 (rk), I64 (er), SL aj nj cj, .bool th, U64 pv, U64 ep, I64 (kd), SL ai ni ci, SL sa ns sc, U64 bl] ++ cu8 tg ++ [SL aha nha cha, SL ahb nhb chb]).toArray)] _
 refine AK (AD (A9 (CL (.agg ([U64 rq, I64 (rk), I64 (er), SL aj nj cj, .bool th, U64 pv, U64 ep, I64 (kd), SL ai ni ci, SL sa ns sc, U64 bl] ++ cu8 tg ++ [SL aha nha cha, SL ahb nhb chb]).toArray) ([U64 rq, I64 (rk), I64 (er), SL aj nj cj, .bool th, U64 pv, U64 ep, I64 (kd), SL ai ni ci, SL sa ns sc, U64 bl] ++ cu8 tg ++ [SL aha nha cha, SL ahb nhb chb]) rfl (by first | rfl | simp)) rfl ?_))
 rintro v1 L1 ⟨nb1, hnb1, rfl, rfl⟩
 show JL _ _ _ _ ((1, Ptr nb1 0) :: _) [⟨nb1, [U64 rq, I64 (rk), I64 (er), SL aj nj cj, .bool th, U64 pv, U64 ep, I64 (kd), SL ai ni ci, SL sa ns sc, U64 bl] ++ cu8 tg ++ [SL aha nha cha, SL ahb nhb chb], 67, (0, 0)⟩]
 refine AA _ (AH rfl) rfl ?_
 refine AN (AF (AK (AD (AA (.agg ([U64 rq, I64 (rk), I64 (er), SL aj nj cj, .bool th, U64 pv, U64 ep, I64 (kd), SL ai ni ci, SL sa ns sc, U64 bl] ++ cu8 tg ++ [SL aha nha cha, SL ahb nhb chb]).toArray) (AI rfl (BV CV CH (by simp [htg]) (AS 0 rfl (AV _)))) rfl ?_))))
 refine B1 (BG 95 [.agg ([U64 rq, I64 (rk), I64 (er), SL aj nj cj, .bool th, U64 pv, U64 ep, I64 (kd), SL ai ni ci, SL sa ns sc, U64 bl] ++ cu8 tg ++ [SL aha nha cha, SL ahb nhb chb]).toArray] (.tuple #[.bool (itB (er) (rk)), .bool (chB (er) (rk) th), .bool (aB (er) (rk) th), .bool (bB (er) (rk) th)]) (A6 _ Tryd.call95 rfl) (fun w1 hw1 => parts_c rq (rk) (er) aj nj cj lj th pv ep (kd) ai ni ci l sa ns sc ls bl tg aha nha cha xha ahb nhb chb xhb w1 htg)) rfl ?_
 show JL _ _ _ _ ((10, .tuple #[.bool (itB (er) (rk)), .bool (chB (er) (rk) th), .bool (aB (er) (rk) th), .bool (bB (er) (rk) th)]) :: _) [_]
 refine AA _ (AL rfl) rfl ?_
 refine AA _ (B0 rfl rfl) rfl ?_
 refine AA _ (B0 rfl rfl) rfl ?_
 refine AA _ (B0 rfl rfl) rfl ?_
 refine AA _ (B0 rfl rfl) rfl ?_
 refine AA _ (AH rfl) rfl ?_
 refine AA _ (AH rfl) rfl ?_
 refine AA _ (AH rfl) rfl ?_
 refine AA _ (AH rfl) rfl ?_
 refine AN (AF (AK (AD (AA _ (AH rfl) rfl ?_))))
 refine AN (AF (AK (B2 (AK (JC_cut (ι := Unit) (fun _ => [(1, Ptr nb1 0), (2, .bool false), (3, .bool (itB (er) (rk))), (4, .bool (chB (er) (rk) th)), (5, .bool (aB (er) (rk) th)), (6, .bool (bB (er) (rk) th)), (7, .func (.func 99) #[] #[]), (15, .bool (!(c1B er rk)))]) (fun _ => [⟨nb1, [U64 rq, I64 (rk), I64 (er), SL aj nj cj, .bool th, U64 pv, U64 ep, I64 (kd), SL ai ni ci, SL sa ns sc, U64 bl] ++ cu8 tg ++ [SL aha nha cha, SL ahb nhb chb], 67, (0, 0)⟩]) (fun _ => True) ?_ ?_)))))
 ·
  refine AD (AA (Ptr nb1 1) (AB 1 3 1 AM rfl AR rfl rfl) rfl ?_)
  refine AA (I64 (rk)) (AI rfl (AQ AT (AS 0 rfl (AG (AG (AE (Seg.head))))))) rfl ?_
  refine AA (.bool (decide ((rk) < (1:Int)))) (AU rfl rfl fun _ => CR _ _) rfl ?_
  refine AA _ (AL rfl) rfl ?_
  rcases Bool.eq_false_or_eq_true (decide ((rk) < (1:Int))) with hb1 | hb1
  ·
   have hp1 : (rk) < (1:Int) := of_decide_eq_true hb1
   refine AC 3 19 false _ rfl rfl hb1 rfl ?_
   refine AC 3 19 false _ rfl rfl hb1 rfl ?_
   refine AC 3 19 false _ rfl rfl hb1 rfl ?_
   refine AA _ (A2 _ rfl hb1 rfl) rfl ?_
   refine AA _ (AL rfl) rfl ?_
   refine AC 8 24 false _ rfl rfl rfl rfl ?_
   refine AC 8 24 false _ rfl rfl rfl rfl ?_
   refine AC 8 24 false _ rfl rfl rfl rfl ?_
   refine AA _ (A2 _ rfl rfl rfl) rfl ?_
   refine AA _ (AL rfl) rfl ?_
   refine AC 13 29 false _ rfl rfl rfl rfl ?_
   refine AC 13 29 false _ rfl rfl rfl rfl ?_
   refine AC 13 29 false _ rfl rfl rfl rfl ?_
   refine AA _ (A2 _ rfl rfl rfl) rfl ?_
   refine AA _ (AH rfl) rfl ?_
   refine AN (E2 (()) trivial (Sub.cons rfl (Sub.cons rfl (Sub.cons rfl (Sub.cons rfl (Sub.cons rfl (Sub.cons rfl (Sub.cons rfl (Sub.cons (congrArg (fun b => some (Value.bool b)) (c1_no (by omega) : (true) = (!(c1B er rk)))) (Sub.nil))))))))) rfl)
  ·
   have hp1 : ¬ ((rk) < (1:Int)) := of_decide_eq_false hb1
   refine AP 3 19 false _ (Ptr nb1 1) rfl rfl hb1 (AB 1 3 1 AM rfl AR rfl rfl) rfl ?_
   refine AP 3 19 false _ (I64 (rk)) rfl rfl hb1 (AI rfl (AQ AT (AS 0 rfl (AG (AG (AE (Seg.head))))))) rfl ?_
   refine AP 3 19 false _ (.bool (decide ((5:Int) < (rk)))) rfl rfl hb1 (AU rfl rfl fun _ => D1 _ _) rfl ?_
   refine AA _ (A0 _ rfl hb1 rfl) rfl ?_
   refine AA _ (AL rfl) rfl ?_
   rcases Bool.eq_false_or_eq_true (decide ((5:Int) < (rk))) with hb2 | hb2
   ·
    have hp2 : (5:Int) < (rk) := of_decide_eq_true hb2
    refine AC 8 24 false _ rfl rfl hb2 rfl ?_
    refine AC 8 24 false _ rfl rfl hb2 rfl ?_
    refine AC 8 24 false _ rfl rfl hb2 rfl ?_
    refine AA _ (A2 _ rfl hb2 rfl) rfl ?_
    refine AA _ (AL rfl) rfl ?_
    refine AC 13 29 false _ rfl rfl rfl rfl ?_
    refine AC 13 29 false _ rfl rfl rfl rfl ?_
    refine AC 13 29 false _ rfl rfl rfl rfl ?_
    refine AA _ (A2 _ rfl rfl rfl) rfl ?_
    refine AA _ (AH rfl) rfl ?_
    refine AN (E2 (()) trivial (Sub.cons rfl (Sub.cons rfl (Sub.cons rfl (Sub.cons rfl (Sub.cons rfl (Sub.cons rfl (Sub.cons rfl (Sub.cons (congrArg (fun b => some (Value.bool b)) (c1_no (by omega) : (true) = (!(c1B er rk)))) (Sub.nil))))))))) rfl)
   ·
    have hp2 : ¬ ((5:Int) < (rk)) := of_decide_eq_false hb2
    refine AP 8 24 false _ (Ptr nb1 2) rfl rfl hb2 (AB 2 3 1 AM rfl AR rfl rfl) rfl ?_
    refine AP 8 24 false _ (I64 (er)) rfl rfl hb2 (AI rfl (AQ AT (AS 0 rfl (AG (AG (AE (AE (Seg.head)))))))) rfl ?_
    refine AP 8 24 false _ (.bool (decide ((er) < (0:Int)))) rfl rfl hb2 (AU rfl rfl fun _ => CR _ _) rfl ?_
    refine AA _ (A0 _ rfl hb2 rfl) rfl ?_
    refine AA _ (AL rfl) rfl ?_
    rcases Bool.eq_false_or_eq_true (decide ((er) < (0:Int))) with hb3 | hb3
    ·
     have hp3 : (er) < (0:Int) := of_decide_eq_true hb3
     refine AC 13 29 false _ rfl rfl hb3 rfl ?_
     refine AC 13 29 false _ rfl rfl hb3 rfl ?_
     refine AC 13 29 false _ rfl rfl hb3 rfl ?_
     refine AA _ (A2 _ rfl hb3 rfl) rfl ?_
     refine AA _ (AH rfl) rfl ?_
     refine AN (E2 (()) trivial (Sub.cons rfl (Sub.cons rfl (Sub.cons rfl (Sub.cons rfl (Sub.cons rfl (Sub.cons rfl (Sub.cons rfl (Sub.cons (congrArg (fun b => some (Value.bool b)) (c1_no (by omega) : (true) = (!(c1B er rk)))) (Sub.nil))))))))) rfl)
    ·
     have hp3 : ¬ ((er) < (0:Int)) := of_decide_eq_false hb3
     refine AP 13 29 false _ (Ptr nb1 2) rfl rfl hb3 (AB 2 3 1 AM rfl AR rfl rfl) rfl ?_
     refine AP 13 29 false _ (I64 (er)) rfl rfl hb3 (AI rfl (AQ AT (AS 0 rfl (AG (AG (AE (AE (Seg.head)))))))) rfl ?_
     refine AP 13 29 false _ (.bool (decide ((14:Int) < (er)))) rfl rfl hb3 (AU rfl rfl fun _ => D1 _ _) rfl ?_
     refine AA _ (A0 _ rfl hb3 rfl) rfl ?_
     refine AA _ (AH rfl) rfl ?_
     refine AN (E2 (()) trivial (Sub.cons rfl (Sub.cons rfl (Sub.cons rfl (Sub.cons rfl (Sub.cons rfl (Sub.cons rfl (Sub.cons rfl (Sub.cons (congrArg (fun b => some (Value.bool b)) (c1_last (by omega) : (decide ((14:Int) < (er))) = (!(c1B er rk)))) (Sub.nil))))))))) rfl)
 ·
  rintro _ hx
  obtain _ := hx
  show JQ _ _ _ [(1, Ptr nb1 0), (2, .bool false), (3, .bool (itB (er) (rk))), (4, .bool (chB (er) (rk) th)), (5, .bool (aB (er) (rk) th)), (6, .bool (bB (er) (rk) th)), (7, .func (.func 99) #[] #[]), (15, .bool (!(c1B er rk)))] [⟨nb1, [U64 rq, I64 (rk), I64 (er), SL aj nj cj, .bool th, U64 pv, U64 ep, I64 (kd), SL ai ni ci, SL sa ns sc, U64 bl] ++ cu8 tg ++ [SL aha nha cha, SL ahb nhb chb], 67, (0, 0)⟩]
  refine AF (CI (!(c1B er rk)) rfl (fun hb4 => ?_) (fun hb4 => ?_))
  ·
   have hb5 : (c1B er rk) = false := by simpa using hb4
   refine AK (AD (AA _ (AH rfl) rfl ?_))
   refine AN (AF (BK (CT (A1 (BP [false] ?_)))))
   show JQ _ _ _ _ []
   refine BJ (.bool false) (res1 Tryd.results35 (BH rfl)) fun w1 hw1 => ?_
   exact ⟨_, [], rfl, ⟨congrArg Value.bool (show _ = repR _ _ _ _ _ _ _ _ by unfold repR; rw [hb5]; rfl), rfl⟩, hw1.sub (by simp) (by simp)⟩
  ·
   have hb6 : (c1B er rk) = true := by simpa using hb4
   refine AK (AK (JC_cut (ι := Unit) (fun _ => [(1, Ptr nb1 0), (2, .bool false), (3, .bool (itB (er) (rk))), (4, .bool (chB (er) (rk) th)), (5, .bool (aB (er) (rk) th)), (6, .bool (bB (er) (rk) th)), (34, .bool ((itB er rk) && !(c2B true lj)))]) (fun _ => [⟨nb1, [U64 rq, I64 (rk), I64 (er), SL aj nj cj, .bool th, U64 pv, U64 ep, I64 (kd), SL ai ni ci, SL sa ns sc, U64 bl] ++ cu8 tg ++ [SL aha nha cha, SL ahb nhb chb], 67, (0, 0)⟩]) (fun _ => True) ?_ ?_))
   ·
    refine AD (AA _ (AL rfl) rfl ?_)
    refine AA _ (AL rfl) rfl ?_
    rcases Bool.eq_false_or_eq_true (itB (er) (rk)) with hb7 | hb7
    ·
     refine AP 1 36 true _ (Ptr nb1 3) rfl rfl hb7 (AB 3 64 1 AM rfl D5 rfl rfl) rfl ?_
     refine AP 1 36 true _ (SL aj nj cj) rfl rfl hb7 (AI rfl (AQ EE (AS 0 rfl (AG (AG (AE (AE (AE (Seg.head))))))))) rfl ?_
     refine AP 1 36 true _ (I64 nj) rfl rfl hb7 (CY CF rfl) rfl ?_
     refine AP 1 36 true _ (.bool (decide (((nj:Int)) < (1:Int)))) rfl rfl hb7 (AU rfl rfl fun _ => CR _ _) rfl ?_
     refine AP 1 36 true _ _ rfl rfl hb7 (AL rfl) rfl ?_
     rcases Bool.eq_false_or_eq_true (decide (((nj:Int)) < (1:Int))) with hb8 | hb8
     ·
      have hp8 : ((nj:Int)) < (1:Int) := of_decide_eq_true hb8
      refine AC 6 41 false _ rfl rfl hb8 rfl ?_
      refine AC 6 41 false _ rfl rfl hb8 rfl ?_
      refine AC 6 41 false _ rfl rfl hb8 rfl ?_
      refine AC 6 41 false _ rfl rfl hb8 rfl ?_
      refine AP 1 36 true _ _ rfl rfl hb7 (A2 _ rfl hb8 rfl) rfl ?_
      refine AP 1 36 true _ _ rfl rfl hb7 (AL rfl) rfl ?_
      refine AC 12 47 false _ rfl rfl rfl rfl ?_
      refine AC 12 47 false _ rfl rfl rfl rfl ?_
      refine AC 12 47 false _ rfl rfl rfl rfl ?_
      refine AC 12 47 false _ rfl rfl rfl rfl ?_
      refine AP 1 36 true _ _ rfl rfl hb7 (A2 _ rfl rfl rfl) rfl ?_
      refine AA _ (A2 _ rfl hb7 rfl) rfl ?_
      refine AA _ (AH rfl) rfl ?_
      refine AN (E2 (()) trivial (Sub.cons rfl (Sub.cons rfl (Sub.cons rfl (Sub.cons rfl (Sub.cons rfl (Sub.cons rfl (Sub.cons (congrArg (fun b => some (Value.bool b)) (by rw [hb7]; exact c2_no hlj (by omega) : (true) = ((itB er rk) && !(c2B true lj)))) (Sub.nil)))))))) rfl)
     ·
      have hp8 : ¬ (((nj:Int)) < (1:Int)) := of_decide_eq_false hb8
      refine AP 6 41 false _ (Ptr nb1 3) rfl rfl hb8 (AB 3 64 1 AM rfl D5 rfl rfl) rfl ?_
      refine AP 6 41 false _ (SL aj nj cj) rfl rfl hb8 (AI rfl (AQ EE (AS 0 rfl (AG (AG (AE (AE (AE (Seg.head))))))))) rfl ?_
      refine AP 6 41 false _ (I64 nj) rfl rfl hb8 (CY CF rfl) rfl ?_
      refine AP 6 41 false _ (.bool (decide ((256:Int) < ((nj:Int))))) rfl rfl hb8 (AU rfl rfl fun _ => D1 _ _) rfl ?_
      refine AP 1 36 true _ _ rfl rfl hb7 (A0 _ rfl hb8 rfl) rfl ?_
      refine AP 1 36 true _ _ rfl rfl hb7 (AL rfl) rfl ?_
      rcases Bool.eq_false_or_eq_true (decide ((256:Int) < ((nj:Int)))) with hb9 | hb9
      ·
       have hp9 : (256:Int) < ((nj:Int)) := of_decide_eq_true hb9
       refine AC 12 47 false _ rfl rfl hb9 rfl ?_
       refine AC 12 47 false _ rfl rfl hb9 rfl ?_
       refine AC 12 47 false _ rfl rfl hb9 rfl ?_
       refine AC 12 47 false _ rfl rfl hb9 rfl ?_
       refine AP 1 36 true _ _ rfl rfl hb7 (A2 _ rfl hb9 rfl) rfl ?_
       refine AA _ (A2 _ rfl hb7 rfl) rfl ?_
       refine AA _ (AH rfl) rfl ?_
       refine AN (E2 (()) trivial (Sub.cons rfl (Sub.cons rfl (Sub.cons rfl (Sub.cons rfl (Sub.cons rfl (Sub.cons rfl (Sub.cons (congrArg (fun b => some (Value.bool b)) (by rw [hb7]; exact c2_no hlj (by omega) : (true) = ((itB er rk) && !(c2B true lj)))) (Sub.nil)))))))) rfl)
      ·
       have hp9 : ¬ ((256:Int) < ((nj:Int))) := of_decide_eq_false hb9
       refine AP 12 47 false _ (Ptr nb1 3) rfl rfl hb9 (AB 3 64 1 AM rfl D5 rfl rfl) rfl ?_
       refine AP 12 47 false _ (SL aj nj cj) rfl rfl hb9 (AI rfl (AQ EE (AS 0 rfl (AG (AG (AE (AE (AE (Seg.head))))))))) rfl ?_
       refine AP 12 47 false _ _ rfl rfl hb9 (AL rfl) rfl ?_
       refine ET 12 47 false _ rfl rfl hb9 (BG 101 [SL aj nj cj, .func (.func 99) #[] #[]] (.bool (lj.any (fun x => !plainB x))) (A6 _ Tryd.call101 rfl) (fun w1 hw1 => cfItem_c aj nj cj lj w1 hlj (by omega) (by omega) (by omega) (CA hw1 rfl hj))) rfl ?_
       rintro v1 L1 ⟨rfl, rfl⟩
       show JL _ _ _ _ ((51, .bool (lj.any (fun x => !plainB x))) :: _) [_]
       refine AP 1 36 true _ _ rfl rfl hb7 (A0 _ rfl hb9 rfl) rfl ?_
       refine AA _ (A2 _ rfl hb7 rfl) rfl ?_
       refine AA _ (AH rfl) rfl ?_
       refine AN (E2 (()) trivial (Sub.cons rfl (Sub.cons rfl (Sub.cons rfl (Sub.cons rfl (Sub.cons rfl (Sub.cons rfl (Sub.cons (congrArg (fun b => some (Value.bool b)) (by rw [hb7]; exact c2_e hlj (by omega) : (lj.any (fun x => !plainB x)) = ((itB er rk) && !(c2B true lj)))) (Sub.nil)))))))) rfl)
    ·
     refine AC 1 36 true _ rfl rfl hb7 rfl ?_
     refine AC 1 36 true _ rfl rfl hb7 rfl ?_
     refine AC 1 36 true _ rfl rfl hb7 rfl ?_
     refine AC 1 36 true _ rfl rfl hb7 rfl ?_
     refine AC 1 36 true _ rfl rfl hb7 rfl ?_
     refine BX 6 41 false rfl rfl rfl ?_
     refine BX 6 41 false rfl rfl rfl ?_
     refine BX 6 41 false rfl rfl rfl ?_
     refine BX 6 41 false rfl rfl rfl ?_
     refine AC 1 36 true _ rfl rfl hb7 rfl ?_
     refine AC 1 36 true _ rfl rfl hb7 rfl ?_
     refine BX 12 47 false rfl rfl rfl ?_
     refine BX 12 47 false rfl rfl rfl ?_
     refine BX 12 47 false rfl rfl rfl ?_
     refine BX 12 47 false rfl rfl rfl ?_
     refine AC 1 36 true _ rfl rfl hb7 rfl ?_
     refine AA _ (A0 _ rfl hb7 rfl) rfl ?_
     refine AA _ (AH rfl) rfl ?_
     refine AN (E2 (()) trivial (Sub.cons rfl (Sub.cons rfl (Sub.cons rfl (Sub.cons rfl (Sub.cons rfl (Sub.cons rfl (Sub.cons (congrArg (fun b => some (Value.bool b)) (by rw [hb7]; rfl : (false) = ((itB er rk) && !(c2B true lj)))) (Sub.nil)))))))) rfl)
   ·
    rintro _ hx
    obtain _ := hx
    show JQ _ _ _ [(1, Ptr nb1 0), (2, .bool false), (3, .bool (itB (er) (rk))), (4, .bool (chB (er) (rk) th)), (5, .bool (aB (er) (rk) th)), (6, .bool (bB (er) (rk) th)), (34, .bool ((itB er rk) && !(c2B true lj)))] [⟨nb1, [U64 rq, I64 (rk), I64 (er), SL aj nj cj, .bool th, U64 pv, U64 ep, I64 (kd), SL ai ni ci, SL sa ns sc, U64 bl] ++ cu8 tg ++ [SL aha nha cha, SL ahb nhb chb], 67, (0, 0)⟩]
    refine AF (JC_cut (ι := Unit) (fun _ => [(1, Ptr nb1 0), (2, .bool false), (4, .bool (chB (er) (rk) th)), (5, .bool (aB (er) (rk) th)), (6, .bool (bB (er) (rk) th)), (34, .bool (!(c2B (itB er rk) lj)))]) (fun _ => [⟨nb1, [U64 rq, I64 (rk), I64 (er), SL aj nj cj, .bool th, U64 pv, U64 ep, I64 (kd), SL ai ni ci, SL sa ns sc, U64 bl] ++ cu8 tg ++ [SL aha nha cha, SL ahb nhb chb], 67, (0, 0)⟩]) (fun _ => True) ?_ ?_)
    ·
     refine CI ((itB er rk) && !(c2B true lj)) rfl (fun hb10 => ?_) (fun hb10 => ?_)
     ·
      refine BE (E2 (()) trivial (Sub.cons rfl (Sub.cons rfl (Sub.cons rfl (Sub.cons rfl (Sub.cons rfl (Sub.cons (congrArg (fun b => some (Value.bool b)) (by rw [c2_t hb10]; exact hb10 : ((itB er rk) && !(c2B true lj)) = (!(c2B (itB er rk) lj)))) (Sub.nil))))))) rfl)
     ·
      refine AD (AA _ (AL rfl) rfl ?_)
      refine AA (.bool (!(itB (er) (rk)))) (EP rfl) rfl ?_
      refine AA _ (AL rfl) rfl ?_
      rcases Bool.eq_false_or_eq_true (itB (er) (rk)) with hb11 | hb11
      ·
       refine AC 2 56 true _ rfl rfl (bnotT hb11) rfl ?_
       refine AC 2 56 true _ rfl rfl (bnotT hb11) rfl ?_
       refine AC 2 56 true _ rfl rfl (bnotT hb11) rfl ?_
       refine AC 2 56 true _ rfl rfl (bnotT hb11) rfl ?_
       refine AA _ (A0 _ rfl (bnotT hb11) rfl) rfl ?_
       refine AA _ (AH rfl) rfl ?_
       refine AN (E2 (()) trivial (Sub.cons rfl (Sub.cons rfl (Sub.cons rfl (Sub.cons rfl (Sub.cons rfl (Sub.cons (congrArg (fun b => some (Value.bool b)) (by rw [c2_f hb10 hb11]; rfl : (false) = (!(c2B (itB er rk) lj)))) (Sub.nil))))))) rfl)
      ·
       refine AP 2 56 true _ (Ptr nb1 3) rfl rfl (bnotF hb11) (AB 3 64 1 AM rfl D5 rfl rfl) rfl ?_
       refine AP 2 56 true _ (SL aj nj cj) rfl rfl (bnotF hb11) (AI rfl (AQ EE (AS 0 rfl (AG (AG (AE (AE (AE (Seg.head))))))))) rfl ?_
       refine AP 2 56 true _ (I64 nj) rfl rfl (bnotF hb11) (CY CF rfl) rfl ?_
       refine AP 2 56 true _ (.bool (decide ((0:Int) < ((nj:Int))))) rfl rfl (bnotF hb11) (AU rfl rfl fun _ => D1 _ _) rfl ?_
       refine AA _ (A2 _ rfl (bnotF hb11) rfl) rfl ?_
       refine AA _ (AH rfl) rfl ?_
       refine AN (E2 (()) trivial (Sub.cons rfl (Sub.cons rfl (Sub.cons rfl (Sub.cons rfl (Sub.cons rfl (Sub.cons (congrArg (fun b => some (Value.bool b)) (by rw [hb11, c2_n hlj, ← decide_not]; exact decide_eq_decide.2 (by omega) : (decide ((0:Int) < ((nj:Int)))) = (!(c2B (itB er rk) lj)))) (Sub.nil))))))) rfl)
    ·
     rintro _ hx
     obtain _ := hx
     show JQ _ _ _ [(1, Ptr nb1 0), (2, .bool false), (4, .bool (chB (er) (rk) th)), (5, .bool (aB (er) (rk) th)), (6, .bool (bB (er) (rk) th)), (34, .bool (!(c2B (itB er rk) lj)))] [⟨nb1, [U64 rq, I64 (rk), I64 (er), SL aj nj cj, .bool th, U64 pv, U64 ep, I64 (kd), SL ai ni ci, SL sa ns sc, U64 bl] ++ cu8 tg ++ [SL aha nha cha, SL ahb nhb chb], 67, (0, 0)⟩]
     refine AF (CI (!(c2B (itB er rk) lj)) rfl (fun hb12 => ?_) (fun hb12 => ?_))
     ·
      have hb13 : (c2B (itB er rk) lj) = false := by simpa using hb12
      refine AK (AD (AA _ (AH rfl) rfl ?_))
      refine AN (AF (BK (CT (A1 (BP [false] ?_)))))
      show JQ _ _ _ _ []
      refine BJ (.bool false) (res1 Tryd.results35 (BH rfl)) fun w1 hw1 => ?_
      exact ⟨_, [], rfl, ⟨congrArg Value.bool (show _ = repR _ _ _ _ _ _ _ _ by unfold repR; rw [hb6, hb13]; rfl), rfl⟩, hw1.sub (by simp) (by simp)⟩
     ·
      have hb14 : (c2B (itB er rk) lj) = true := by simpa using hb12
      refine AK (AK (JC_cut (ι := Unit) (fun _ => [(1, Ptr nb1 0), (2, .bool false), (4, .bool (chB (er) (rk) th)), (5, .bool (aB (er) (rk) th)), (6, .bool (bB (er) (rk) th)), (62, .bool ((chB er rk th) && !(decide (mayN pv ep kd l ls bl = 0))))]) (fun _ => [⟨nb1, [U64 rq, I64 (rk), I64 (er), SL aj nj cj, .bool th, U64 pv, U64 ep, I64 (kd), SL ai ni ci, SL sa ns sc, U64 bl] ++ cu8 tg ++ [SL aha nha cha, SL ahb nhb chb], 67, (0, 0)⟩]) (fun _ => True) ?_ ?_))
      ·
       refine AD (AA _ (AL rfl) rfl ?_)
       refine AA _ (AL rfl) rfl ?_
       rcases Bool.eq_false_or_eq_true (chB (er) (rk) th) with hb15 | hb15
       ·
        refine AP 1 64 true _ (Ptr nb1 5) rfl rfl hb15 (AB 5 29 22 AM rfl DJ rfl rfl) rfl ?_
        refine AP 1 64 true _ (.agg ([U64 pv, U64 ep, I64 (kd), SL ai ni ci, SL sa ns sc, U64 bl] ++ cu8 tg).toArray) rfl rfl hb15 (AI rfl (BV ER DJ (by simp [htg]) (AS 0 rfl (C6 (p := [U64 rq, I64 (rk), I64 (er), SL aj nj cj, .bool th]) (q := [SL aha nha cha, SL ahb nhb chb]) (vs := [U64 pv, U64 ep, I64 (kd), SL ai ni ci, SL sa ns sc, U64 bl] ++ cu8 tg) (by first | rfl | (simp only [List.append_assoc, List.nil_append, List.append_nil, List.cons_append]; done)) rfl)))) rfl ?_
        refine ET 1 64 true _ rfl rfl hb15 (BG 87 [.agg ([U64 pv, U64 ep, I64 (kd), SL ai ni ci, SL sa ns sc, U64 bl] ++ cu8 tg).toArray] (.bool (decide (mayN pv ep (kd) l ls bl = 0))) (A6 _ Tryd.call87 rfl) (fun w1 hw1 => wmay_w pv ep (kd) ai ni ci l sa ns sc ls bl tg w1 hl (by omega) (by omega) (by omega) (CA hw1 rfl hv) hls (by omega) (by omega) (by omega) (CA hw1 rfl hs) htg (by omega) (by omega))) rfl ?_
        rintro v1 L1 ⟨rfl, rfl⟩
        show JL _ _ _ _ ((67, .bool (decide (mayN pv ep (kd) l ls bl = 0))) :: _) [_]
        refine AP 1 64 true _ (.bool (!(decide (mayN pv ep (kd) l ls bl = 0)))) rfl rfl hb15 (EP rfl) rfl ?_
        refine AA _ (A2 _ rfl hb15 rfl) rfl ?_
        refine AA _ (AH rfl) rfl ?_
        refine AN (E2 (()) trivial (Sub.cons rfl (Sub.cons rfl (Sub.cons rfl (Sub.cons rfl (Sub.cons rfl (Sub.cons (congrArg (fun b => some (Value.bool b)) (by rw [hb15]; rfl : (!(decide (mayN pv ep (kd) l ls bl = 0))) = ((chB er rk th) && !(decide (mayN pv ep kd l ls bl = 0))))) (Sub.nil))))))) rfl)
       ·
        refine AC 1 64 true _ rfl rfl hb15 rfl ?_
        refine AC 1 64 true _ rfl rfl hb15 rfl ?_
        refine AC 1 64 true _ rfl rfl hb15 rfl ?_
        refine AC 1 64 true _ rfl rfl hb15 rfl ?_
        refine AA _ (A0 _ rfl hb15 rfl) rfl ?_
        refine AA _ (AH rfl) rfl ?_
        refine AN (E2 (()) trivial (Sub.cons rfl (Sub.cons rfl (Sub.cons rfl (Sub.cons rfl (Sub.cons rfl (Sub.cons (congrArg (fun b => some (Value.bool b)) (by rw [hb15]; rfl : (false) = ((chB er rk th) && !(decide (mayN pv ep kd l ls bl = 0))))) (Sub.nil))))))) rfl)
      ·
       rintro _ hx
       obtain _ := hx
       show JQ _ _ _ [(1, Ptr nb1 0), (2, .bool false), (4, .bool (chB (er) (rk) th)), (5, .bool (aB (er) (rk) th)), (6, .bool (bB (er) (rk) th)), (62, .bool ((chB er rk th) && !(decide (mayN pv ep kd l ls bl = 0))))] [⟨nb1, [U64 rq, I64 (rk), I64 (er), SL aj nj cj, .bool th, U64 pv, U64 ep, I64 (kd), SL ai ni ci, SL sa ns sc, U64 bl] ++ cu8 tg ++ [SL aha nha cha, SL ahb nhb chb], 67, (0, 0)⟩]
       refine AF (JC_cut (ι := Unit) (fun _ => [(1, Ptr nb1 0), (2, .bool false), (5, .bool (aB (er) (rk) th)), (6, .bool (bB (er) (rk) th)), (62, .bool (!(c3B (chB er rk th) th (blankB pv ep kd l ls bl tg) (decide (mayN pv ep kd l ls bl = 0)))))]) (fun _ => [⟨nb1, [U64 rq, I64 (rk), I64 (er), SL aj nj cj, .bool th, U64 pv, U64 ep, I64 (kd), SL ai ni ci, SL sa ns sc, U64 bl] ++ cu8 tg ++ [SL aha nha cha, SL ahb nhb chb], 67, (0, 0)⟩]) (fun _ => True) ?_ ?_)
       ·
        refine CI ((chB er rk th) && !(decide (mayN pv ep kd l ls bl = 0))) rfl (fun hb16 => ?_) (fun hb16 => ?_)
        ·
         refine BE (E2 (()) trivial (Sub.cons rfl (Sub.cons rfl (Sub.cons rfl (Sub.cons rfl (Sub.cons (congrArg (fun b => some (Value.bool b)) (by rw [c3_t hb16]; exact hb16 : ((chB er rk th) && !(decide (mayN pv ep kd l ls bl = 0))) = (!(c3B (chB er rk th) th (blankB pv ep kd l ls bl tg) (decide (mayN pv ep kd l ls bl = 0)))))) (Sub.nil)))))) rfl)
        ·
         refine AD (AA _ (AL rfl) rfl ?_)
         refine AA (.bool (!(chB (er) (rk) th))) (EP rfl) rfl ?_
         refine AA _ (AL rfl) rfl ?_
         rcases Bool.eq_false_or_eq_true (chB (er) (rk) th) with hb17 | hb17
         ·
          refine AC 2 72 true _ rfl rfl (bnotT hb17) rfl ?_
          refine AC 2 72 true _ rfl rfl (bnotT hb17) rfl ?_
          refine AC 2 72 true _ rfl rfl (bnotT hb17) rfl ?_
          refine BX 5 75 false rfl rfl rfl ?_
          refine BX 5 75 false rfl rfl rfl ?_
          refine BX 5 75 false rfl rfl rfl ?_
          refine BX 5 75 false rfl rfl rfl ?_
          refine AC 2 72 true _ rfl rfl (bnotT hb17) rfl ?_
          refine AA _ (A0 _ rfl (bnotT hb17) rfl) rfl ?_
          refine AA _ (AH rfl) rfl ?_
          refine AN (E2 (()) trivial (Sub.cons rfl (Sub.cons rfl (Sub.cons rfl (Sub.cons rfl (Sub.cons (congrArg (fun b => some (Value.bool b)) (by rw [c3_f hb16 hb17]; rfl : (false) = (!(c3B (chB er rk th) th (blankB pv ep kd l ls bl tg) (decide (mayN pv ep kd l ls bl = 0)))))) (Sub.nil)))))) rfl)
         ·
          refine AP 2 72 true _ (Ptr nb1 4) rfl rfl (bnotF hb17) (AB 4 4 1 AM rfl BB rfl rfl) rfl ?_
          refine AP 2 72 true _ (.bool th) rfl rfl (bnotF hb17) (AI rfl (AQ BD (AS 0 rfl (AG (AG (AE (AE (AE (AE (Seg.head)))))))))) rfl ?_
          refine AP 2 72 true _ _ rfl rfl (bnotF hb17) (AL rfl) rfl ?_
          rcases Bool.eq_false_or_eq_true (th) with hb18 | hb18
          ·
           refine AC 5 75 false _ rfl rfl hb18 rfl ?_
           refine AC 5 75 false _ rfl rfl hb18 rfl ?_
           refine AC 5 75 false _ rfl rfl hb18 rfl ?_
           refine AC 5 75 false _ rfl rfl hb18 rfl ?_
           refine AP 2 72 true _ _ rfl rfl (bnotF hb17) (A2 _ rfl hb18 rfl) rfl ?_
           refine AA _ (A2 _ rfl (bnotF hb17) rfl) rfl ?_
           refine AA _ (AH rfl) rfl ?_
           refine AN (E2 (()) trivial (Sub.cons rfl (Sub.cons rfl (Sub.cons rfl (Sub.cons rfl (Sub.cons (congrArg (fun b => some (Value.bool b)) (by rw [hb17, c3_n, hb18]; rfl : (true) = (!(c3B (chB er rk th) th (blankB pv ep kd l ls bl tg) (decide (mayN pv ep kd l ls bl = 0)))))) (Sub.nil)))))) rfl)
          ·
           refine AP 5 75 false _ (Ptr nb1 5) rfl rfl hb18 (AB 5 29 22 AM rfl DJ rfl rfl) rfl ?_
           refine AP 5 75 false _ (.agg ([U64 pv, U64 ep, I64 (kd), SL ai ni ci, SL sa ns sc, U64 bl] ++ cu8 tg).toArray) rfl rfl hb18 (AI rfl (BV ER DJ (by simp [htg]) (AS 0 rfl (C6 (p := [U64 rq, I64 (rk), I64 (er), SL aj nj cj, .bool th]) (q := [SL aha nha cha, SL ahb nhb chb]) (vs := [U64 pv, U64 ep, I64 (kd), SL ai ni ci, SL sa ns sc, U64 bl] ++ cu8 tg) (by first | rfl | (simp only [List.append_assoc, List.nil_append, List.append_nil, List.cons_append]; done)) rfl)))) rfl ?_
           refine ET 5 75 false _ rfl rfl hb18 (BG 84 [.agg ([U64 pv, U64 ep, I64 (kd), SL ai ni ci, SL sa ns sc, U64 bl] ++ cu8 tg).toArray] (.bool (blankB pv ep (kd) l ls bl tg)) (A6 _ Tryd.call84 rfl) (fun w1 hw1 => blank_c pv ep (kd) ai ni ci l sa ns sc ls bl tg w1 hl (by omega) (by omega) (by omega) (CA hw1 rfl hv) hls (by omega) (by omega) (by omega) (CA hw1 rfl hs) htg)) rfl ?_
           rintro v1 L1 ⟨rfl, rfl⟩
           show JL _ _ _ _ ((78, .bool (blankB pv ep (kd) l ls bl tg)) :: _) [_]
           refine AP 5 75 false _ (.bool (!(blankB pv ep (kd) l ls bl tg))) rfl rfl hb18 (EP rfl) rfl ?_
           refine AP 2 72 true _ _ rfl rfl (bnotF hb17) (A0 _ rfl hb18 rfl) rfl ?_
           refine AA _ (A2 _ rfl (bnotF hb17) rfl) rfl ?_
           refine AA _ (AH rfl) rfl ?_
           refine AN (E2 (()) trivial (Sub.cons rfl (Sub.cons rfl (Sub.cons rfl (Sub.cons rfl (Sub.cons (congrArg (fun b => some (Value.bool b)) (by rw [hb17, c3_n, hb18]; rfl : (!(blankB pv ep (kd) l ls bl tg)) = (!(c3B (chB er rk th) th (blankB pv ep kd l ls bl tg) (decide (mayN pv ep kd l ls bl = 0)))))) (Sub.nil)))))) rfl)
       ·
        rintro _ hx
        obtain _ := hx
        show JQ _ _ _ [(1, Ptr nb1 0), (2, .bool false), (5, .bool (aB (er) (rk) th)), (6, .bool (bB (er) (rk) th)), (62, .bool (!(c3B (chB er rk th) th (blankB pv ep kd l ls bl tg) (decide (mayN pv ep kd l ls bl = 0)))))] [⟨nb1, [U64 rq, I64 (rk), I64 (er), SL aj nj cj, .bool th, U64 pv, U64 ep, I64 (kd), SL ai ni ci, SL sa ns sc, U64 bl] ++ cu8 tg ++ [SL aha nha cha, SL ahb nhb chb], 67, (0, 0)⟩]
        refine AF (CI (!(c3B (chB er rk th) th (blankB pv ep kd l ls bl tg) (decide (mayN pv ep kd l ls bl = 0)))) rfl (fun hb19 => ?_) (fun hb19 => ?_))
        ·
         have hb20 : (c3B (chB er rk th) th (blankB pv ep kd l ls bl tg) (decide (mayN pv ep kd l ls bl = 0))) = false := by simpa using hb19
         refine AK (AD (AA _ (AH rfl) rfl ?_))
         refine AN (AF (BK (CT (A1 (BP [false] ?_)))))
         show JQ _ _ _ _ []
         refine BJ (.bool false) (res1 Tryd.results35 (BH rfl)) fun w1 hw1 => ?_
         exact ⟨_, [], rfl, ⟨congrArg Value.bool (show _ = repR _ _ _ _ _ _ _ _ by unfold repR; rw [hb6, hb14, hb20]; rfl), rfl⟩, hw1.sub (by simp) (by simp)⟩
        ·
         have hb21 : (c3B (chB er rk th) th (blankB pv ep kd l ls bl tg) (decide (mayN pv ep kd l ls bl = 0))) = true := by simpa using hb19
         refine AK (JC_cut (ι := Unit) (fun _ => [(2, .bool false), (82, .bool (!(c4B (aB er rk th) (bB er rk th) nha nhb)))]) (fun _ => [⟨nb1, [U64 rq, I64 (rk), I64 (er), SL aj nj cj, .bool th, U64 pv, U64 ep, I64 (kd), SL ai ni ci, SL sa ns sc, U64 bl] ++ cu8 tg ++ [SL aha nha cha, SL ahb nhb chb], 67, (0, 0)⟩]) (fun _ => True) ?_ ?_)
         ·
          refine AD (AA (Ptr nb1 27) (AB 27 65 1 AM rfl BR rfl rfl) rfl ?_)
          refine AA (SL aha nha cha) (AI rfl (AQ BU (AS 0 rfl (Seg.right 27 0 (by simp [htg]) rfl (Seg.head))))) rfl ?_
          refine AA (I64 nha) (CY BS rfl) rfl ?_
          refine AA (.bool (decide ((256:Int) < ((nha:Int))))) (AU rfl rfl fun _ => D1 _ _) rfl ?_
          refine AA _ (AL rfl) rfl ?_
          rcases Bool.eq_false_or_eq_true (decide ((256:Int) < ((nha:Int)))) with hb22 | hb22
          ·
           have hp22 : (256:Int) < ((nha:Int)) := of_decide_eq_true hb22
           refine AC 4 87 false _ rfl rfl hb22 rfl ?_
           refine AC 4 87 false _ rfl rfl hb22 rfl ?_
           refine AC 4 87 false _ rfl rfl hb22 rfl ?_
           refine AC 4 87 false _ rfl rfl hb22 rfl ?_
           refine AA _ (A2 _ rfl hb22 rfl) rfl ?_
           refine AA _ (AL rfl) rfl ?_
           refine AC 10 93 false _ rfl rfl rfl rfl ?_
           refine AC 10 93 false _ rfl rfl rfl rfl ?_
           refine AC 10 93 false _ rfl rfl rfl rfl ?_
           refine BX 13 96 true rfl rfl rfl ?_
           refine BX 13 96 true rfl rfl rfl ?_
           refine BX 13 96 true rfl rfl rfl ?_
           refine BX 13 96 true rfl rfl rfl ?_
           refine AC 10 93 false _ rfl rfl rfl rfl ?_
           refine AA _ (A2 _ rfl rfl rfl) rfl ?_
           refine AA _ (AL rfl) rfl ?_
           refine AC 20 103 false _ rfl rfl rfl rfl ?_
           refine AC 20 103 false _ rfl rfl rfl rfl ?_
           refine AC 20 103 false _ rfl rfl rfl rfl ?_
           refine BX 23 106 true rfl rfl rfl ?_
           refine BX 23 106 true rfl rfl rfl ?_
           refine BX 23 106 true rfl rfl rfl ?_
           refine BX 23 106 true rfl rfl rfl ?_
           refine AC 20 103 false _ rfl rfl rfl rfl ?_
           refine AA _ (A2 _ rfl rfl rfl) rfl ?_
           refine AA _ (AH rfl) rfl ?_
           refine AN ?_
           have fz0 : ¬ nha ≤ 256 := by omega
           refine E2 (()) trivial (Sub.cons rfl (Sub.cons (congrArg (fun b => some (Value.bool b)) (by unfold c4B; simp [fz0] : (true) = (!(c4B (aB er rk th) (bB er rk th) nha nhb)))) (Sub.nil))) rfl
          ·
           have hp22 : ¬ ((256:Int) < ((nha:Int))) := of_decide_eq_false hb22
           refine AP 4 87 false _ (Ptr nb1 28) rfl rfl hb22 (AB 28 65 1 AM rfl BR rfl rfl) rfl ?_
           refine AP 4 87 false _ (SL ahb nhb chb) rfl rfl hb22 (AI rfl (AQ BU (AS 0 rfl (Seg.right 27 1 (by simp [htg]) rfl (AE (Seg.head)))))) rfl ?_
           refine AP 4 87 false _ (I64 nhb) rfl rfl hb22 (CY BS rfl) rfl ?_
           refine AP 4 87 false _ (.bool (decide ((8192:Int) < ((nhb:Int))))) rfl rfl hb22 (AU rfl rfl fun _ => D1 _ _) rfl ?_
           refine AA _ (A0 _ rfl hb22 rfl) rfl ?_
           refine AA _ (AL rfl) rfl ?_
           rcases Bool.eq_false_or_eq_true (decide ((8192:Int) < ((nhb:Int)))) with hb23 | hb23
           ·
            have hp23 : (8192:Int) < ((nhb:Int)) := of_decide_eq_true hb23
            refine AC 10 93 false _ rfl rfl hb23 rfl ?_
            refine AC 10 93 false _ rfl rfl hb23 rfl ?_
            refine AC 10 93 false _ rfl rfl hb23 rfl ?_
            refine BX 13 96 true rfl rfl rfl ?_
            refine BX 13 96 true rfl rfl rfl ?_
            refine BX 13 96 true rfl rfl rfl ?_
            refine BX 13 96 true rfl rfl rfl ?_
            refine AC 10 93 false _ rfl rfl hb23 rfl ?_
            refine AA _ (A2 _ rfl hb23 rfl) rfl ?_
            refine AA _ (AL rfl) rfl ?_
            refine AC 20 103 false _ rfl rfl rfl rfl ?_
            refine AC 20 103 false _ rfl rfl rfl rfl ?_
            refine AC 20 103 false _ rfl rfl rfl rfl ?_
            refine BX 23 106 true rfl rfl rfl ?_
            refine BX 23 106 true rfl rfl rfl ?_
            refine BX 23 106 true rfl rfl rfl ?_
            refine BX 23 106 true rfl rfl rfl ?_
            refine AC 20 103 false _ rfl rfl rfl rfl ?_
            refine AA _ (A2 _ rfl rfl rfl) rfl ?_
            refine AA _ (AH rfl) rfl ?_
            refine AN ?_
            have fz0 : nha ≤ 256 := by omega
            have fz1 : ¬ nhb ≤ 8192 := by omega
            refine E2 (()) trivial (Sub.cons rfl (Sub.cons (congrArg (fun b => some (Value.bool b)) (by unfold c4B; simp [fz0, fz1] : (true) = (!(c4B (aB er rk th) (bB er rk th) nha nhb)))) (Sub.nil))) rfl
           ·
            have hp23 : ¬ ((8192:Int) < ((nhb:Int))) := of_decide_eq_false hb23
            refine AP 10 93 false _ _ rfl rfl hb23 (AL rfl) rfl ?_
            refine AP 10 93 false _ (.bool (!(aB (er) (rk) th))) rfl rfl hb23 (EP rfl) rfl ?_
            refine AP 10 93 false _ _ rfl rfl hb23 (AL rfl) rfl ?_
            rcases Bool.eq_false_or_eq_true (aB (er) (rk) th) with hb24 | hb24
            ·
             refine AC 13 96 true _ rfl rfl (bnotT hb24) rfl ?_
             refine AC 13 96 true _ rfl rfl (bnotT hb24) rfl ?_
             refine AC 13 96 true _ rfl rfl (bnotT hb24) rfl ?_
             refine AC 13 96 true _ rfl rfl (bnotT hb24) rfl ?_
             refine AP 10 93 false _ _ rfl rfl hb23 (A0 _ rfl (bnotT hb24) rfl) rfl ?_
             refine AA _ (A0 _ rfl hb23 rfl) rfl ?_
             refine AA _ (AL rfl) rfl ?_
             refine AP 20 103 false _ _ rfl rfl rfl (AL rfl) rfl ?_
             refine AP 20 103 false _ (.bool (!(bB (er) (rk) th))) rfl rfl rfl (EP rfl) rfl ?_
             refine AP 20 103 false _ _ rfl rfl rfl (AL rfl) rfl ?_
             rcases Bool.eq_false_or_eq_true (bB (er) (rk) th) with hb25 | hb25
             ·
              refine AC 23 106 true _ rfl rfl (bnotT hb25) rfl ?_
              refine AC 23 106 true _ rfl rfl (bnotT hb25) rfl ?_
              refine AC 23 106 true _ rfl rfl (bnotT hb25) rfl ?_
              refine AC 23 106 true _ rfl rfl (bnotT hb25) rfl ?_
              refine AP 20 103 false _ _ rfl rfl rfl (A0 _ rfl (bnotT hb25) rfl) rfl ?_
              refine AA _ (A0 _ rfl rfl rfl) rfl ?_
              refine AA _ (AH rfl) rfl ?_
              refine AN ?_
              have fz0 : nha ≤ 256 := by omega
              have fz1 : nhb ≤ 8192 := by omega
              refine E2 (()) trivial (Sub.cons rfl (Sub.cons (congrArg (fun b => some (Value.bool b)) (by unfold c4B; simp [fz0, fz1, hb24, hb25] : (false) = (!(c4B (aB er rk th) (bB er rk th) nha nhb)))) (Sub.nil))) rfl
             ·
              refine AP 23 106 true _ (Ptr nb1 28) rfl rfl (bnotF hb25) (AB 28 65 1 AM rfl BR rfl rfl) rfl ?_
              refine AP 23 106 true _ (SL ahb nhb chb) rfl rfl (bnotF hb25) (AI rfl (AQ BU (AS 0 rfl (Seg.right 27 1 (by simp [htg]) rfl (AE (Seg.head)))))) rfl ?_
              refine AP 23 106 true _ (I64 nhb) rfl rfl (bnotF hb25) (CY BS rfl) rfl ?_
              refine AP 23 106 true _ (.bool (decide ((0:Int) < ((nhb:Int))))) rfl rfl (bnotF hb25) (AU rfl rfl fun _ => D1 _ _) rfl ?_
              refine AP 20 103 false _ _ rfl rfl rfl (A2 _ rfl (bnotF hb25) rfl) rfl ?_
              refine AA _ (A0 _ rfl rfl rfl) rfl ?_
              refine AA _ (AH rfl) rfl ?_
              refine AN ?_
              have fz0 : nha ≤ 256 := by omega
              have fz1 : nhb ≤ 8192 := by omega
              refine E2 (()) trivial (Sub.cons rfl (Sub.cons (congrArg (fun b => some (Value.bool b)) (by rw [show (decide ((0:Int) < ((nhb:Int)))) = decide (¬ nhb = 0) from decide_eq_decide.2 (by omega)]; unfold c4B; simp [fz0, fz1, hb24, hb25] : (decide ((0:Int) < ((nhb:Int)))) = (!(c4B (aB er rk th) (bB er rk th) nha nhb)))) (Sub.nil))) rfl
            ·
             refine AP 13 96 true _ (Ptr nb1 27) rfl rfl (bnotF hb24) (AB 27 65 1 AM rfl BR rfl rfl) rfl ?_
             refine AP 13 96 true _ (SL aha nha cha) rfl rfl (bnotF hb24) (AI rfl (AQ BU (AS 0 rfl (Seg.right 27 0 (by simp [htg]) rfl (Seg.head))))) rfl ?_
             refine AP 13 96 true _ (I64 nha) rfl rfl (bnotF hb24) (CY BS rfl) rfl ?_
             refine AP 13 96 true _ (.bool (decide ((0:Int) < ((nha:Int))))) rfl rfl (bnotF hb24) (AU rfl rfl fun _ => D1 _ _) rfl ?_
             refine AP 10 93 false _ _ rfl rfl hb23 (A2 _ rfl (bnotF hb24) rfl) rfl ?_
             refine AA _ (A0 _ rfl hb23 rfl) rfl ?_
             refine AA _ (AL rfl) rfl ?_
             rcases Bool.eq_false_or_eq_true (decide ((0:Int) < ((nha:Int)))) with hb26 | hb26
             ·
              have hp26 : (0:Int) < ((nha:Int)) := of_decide_eq_true hb26
              refine AC 20 103 false _ rfl rfl hb26 rfl ?_
              refine AC 20 103 false _ rfl rfl hb26 rfl ?_
              refine AC 20 103 false _ rfl rfl hb26 rfl ?_
              refine BX 23 106 true rfl rfl rfl ?_
              refine BX 23 106 true rfl rfl rfl ?_
              refine BX 23 106 true rfl rfl rfl ?_
              refine BX 23 106 true rfl rfl rfl ?_
              refine AC 20 103 false _ rfl rfl hb26 rfl ?_
              refine AA _ (A2 _ rfl hb26 rfl) rfl ?_
              refine AA _ (AH rfl) rfl ?_
              refine AN ?_
              have fz0 : nha ≤ 256 := by omega
              have fz1 : nhb ≤ 8192 := by omega
              have fz2 : nha ≠ 0 := by omega
              refine E2 (()) trivial (Sub.cons rfl (Sub.cons (congrArg (fun b => some (Value.bool b)) (by unfold c4B; simp [fz0, fz1, fz2, hb24] : (true) = (!(c4B (aB er rk th) (bB er rk th) nha nhb)))) (Sub.nil))) rfl
             ·
              have hp26 : ¬ ((0:Int) < ((nha:Int))) := of_decide_eq_false hb26
              refine AP 20 103 false _ _ rfl rfl hb26 (AL rfl) rfl ?_
              refine AP 20 103 false _ (.bool (!(bB (er) (rk) th))) rfl rfl hb26 (EP rfl) rfl ?_
              refine AP 20 103 false _ _ rfl rfl hb26 (AL rfl) rfl ?_
              rcases Bool.eq_false_or_eq_true (bB (er) (rk) th) with hb27 | hb27
              ·
               refine AC 23 106 true _ rfl rfl (bnotT hb27) rfl ?_
               refine AC 23 106 true _ rfl rfl (bnotT hb27) rfl ?_
               refine AC 23 106 true _ rfl rfl (bnotT hb27) rfl ?_
               refine AC 23 106 true _ rfl rfl (bnotT hb27) rfl ?_
               refine AP 20 103 false _ _ rfl rfl hb26 (A0 _ rfl (bnotT hb27) rfl) rfl ?_
               refine AA _ (A0 _ rfl hb26 rfl) rfl ?_
               refine AA _ (AH rfl) rfl ?_
               refine AN ?_
               have fz0 : nha ≤ 256 := by omega
               have fz1 : nhb ≤ 8192 := by omega
               have fz2 : nha = 0 := by omega
               refine E2 (()) trivial (Sub.cons rfl (Sub.cons (congrArg (fun b => some (Value.bool b)) (by unfold c4B; simp [fz0, fz1, fz2, hb24, hb27] : (false) = (!(c4B (aB er rk th) (bB er rk th) nha nhb)))) (Sub.nil))) rfl
              ·
               refine AP 23 106 true _ (Ptr nb1 28) rfl rfl (bnotF hb27) (AB 28 65 1 AM rfl BR rfl rfl) rfl ?_
               refine AP 23 106 true _ (SL ahb nhb chb) rfl rfl (bnotF hb27) (AI rfl (AQ BU (AS 0 rfl (Seg.right 27 1 (by simp [htg]) rfl (AE (Seg.head)))))) rfl ?_
               refine AP 23 106 true _ (I64 nhb) rfl rfl (bnotF hb27) (CY BS rfl) rfl ?_
               refine AP 23 106 true _ (.bool (decide ((0:Int) < ((nhb:Int))))) rfl rfl (bnotF hb27) (AU rfl rfl fun _ => D1 _ _) rfl ?_
               refine AP 20 103 false _ _ rfl rfl hb26 (A2 _ rfl (bnotF hb27) rfl) rfl ?_
               refine AA _ (A0 _ rfl hb26 rfl) rfl ?_
               refine AA _ (AH rfl) rfl ?_
               refine AN ?_
               have fz0 : nha ≤ 256 := by omega
               have fz1 : nhb ≤ 8192 := by omega
               have fz2 : nha = 0 := by omega
               refine E2 (()) trivial (Sub.cons rfl (Sub.cons (congrArg (fun b => some (Value.bool b)) (by rw [show (decide ((0:Int) < ((nhb:Int)))) = decide (¬ nhb = 0) from decide_eq_decide.2 (by omega)]; unfold c4B; simp [fz0, fz1, fz2, hb24, hb27] : (decide ((0:Int) < ((nhb:Int)))) = (!(c4B (aB er rk th) (bB er rk th) nha nhb)))) (Sub.nil))) rfl
         ·
          rintro _ hx
          obtain _ := hx
          show JQ _ _ _ [(2, .bool false), (82, .bool (!(c4B (aB er rk th) (bB er rk th) nha nhb)))] [⟨nb1, [U64 rq, I64 (rk), I64 (er), SL aj nj cj, .bool th, U64 pv, U64 ep, I64 (kd), SL ai ni ci, SL sa ns sc, U64 bl] ++ cu8 tg ++ [SL aha nha cha, SL ahb nhb chb], 67, (0, 0)⟩]
          refine AF (CI (!(c4B (aB er rk th) (bB er rk th) nha nhb)) rfl (fun hb28 => ?_) (fun hb28 => ?_))
          ·
           have hb29 : (c4B (aB er rk th) (bB er rk th) nha nhb) = false := by simpa using hb28
           refine AK (AD (AA _ (AH rfl) rfl ?_))
           refine AN (AF (BK (CT (A1 (BP [false] ?_)))))
           show JQ _ _ _ _ []
           refine BJ (.bool false) (res1 Tryd.results35 (BH rfl)) fun w1 hw1 => ?_
           exact ⟨_, [], rfl, ⟨congrArg Value.bool (show _ = repR _ _ _ _ _ _ _ _ by unfold repR; rw [hb6, hb14, hb21, hb29]; rfl), rfl⟩, hw1.sub (by simp) (by simp)⟩
          ·
           have hb30 : (c4B (aB er rk th) (bB er rk th) nha nhb) = true := by simpa using hb28
           refine BE (BY (AF (AK (AD (AA _ (AH rfl) rfl ?_)))))
           refine AN (AF (BK (BP [false] ?_)))
           show JQ _ _ _ _ []
           refine BJ (.bool true) (res1 Tryd.results35 (BH rfl)) fun w1 hw1 => ?_
           exact ⟨_, [], rfl, ⟨congrArg Value.bool (show _ = repR _ _ _ _ _ _ _ _ by unfold repR; rw [hb6, hb14, hb21, hb30]; rfl), rfl⟩, hw1.sub (by simp) (by simp)⟩
set_option maxHeartbeats 2000000 in
theorem rrightRep_c (rq : UInt64) (rk er : Int) (aj : Option Addr) (nj cj : Nat) (lj : List ItemR) (th : Bool) (pv ep : UInt64) (kd : Int) (ai : Option Addr) (ni ci : Nat) (l : List UInt64) (sa : Option Addr) (ns sc : Nat) (ls : List SealR) (bl : UInt64) (tg : List UInt8) (aha : Option Addr) (nha cha : Nat) (xha : List UInt8) (ahb : Option Addr) (nhb chb : Nat) (xhb : List UInt8)  (w : World) (hlj : lj.length = nj) (hnj : nj ≤ 2000000) (hdj : nj ≤ cj) (hcj : cj ≤ maxLen) (hj : RdV w aj (lj.flatMap itemC)) (hl : l.length = ni) (hnm : ni ≤ 2000000) (hnc : ni ≤ ci) (hcm : ci ≤ maxLen) (hv : RdV w ai (cu64 l)) (hls : ls.length = ns) (hnn : ns ≤ 2000000) (hnd : ns ≤ sc) (hcn : sc ≤ maxLen) (hs : RdV w sa (ls.flatMap sealC)) (htg : tg.length = 16) (hlha : xha.length = nha * 32) (hnha : nha ≤ 9000) (hdha : nha ≤ cha) (hcha : cha ≤ maxLen) (hrha : RdB w [] aha xha) (hlhb : xhb.length = nhb * 32) (hnhb : nhb ≤ 9000) (hdhb : nhb ≤ chb) (hchb : chb ≤ maxLen) (hrhb : RdB w [] ahb xhb) (hbi : ni ≤ 300) (hbs : ns ≤ 300)  : Calls Tryd.prog 33 #[.agg ([U64 rq, I64 (rk), I64 (er), SL aj nj cj, .bool th, U64 pv, U64 ep, I64 (kd), SL ai ni ci, SL sa ns sc, U64 bl] ++ cu8 tg ++ [SL aha nha cha, SL ahb nhb chb]).toArray] w (Post w [] (fun v L => v = .bool (repR rk er th lj (blankB pv ep kd l ls bl tg) (decide (mayN pv ep kd l ls bl = 0)) nha nhb) ∧ L = [])) := by
 have hmx : maxLen = 9223372036854775807 := rfl
 refine enter (P := Tryd.prog) (f := 33) (fn := Tryd.f33) w [] 115 [] [.agg ([U64 rq, I64 (rk), I64 (er), SL aj nj cj, .bool th, U64 pv, U64 ep, I64 (kd), SL ai ni ci, SL sa ns sc, U64 bl] ++ cu8 tg ++ [SL aha nha cha, SL ahb nhb chb]).toArray] Tryd.func33 rfl rfl (by simp) (CC (by simp) (by simp) (by simp)) ?_
 show JC _ _ _ [(0, .agg ([U64 rq, I64 (rk), I64 (er), SL aj nj cj, .bool th, U64 pv, U64 ep, I64 (kd), SL ai ni ci, SL sa ns sc, U64 bl] ++ cu8 tg ++ [SL aha nha cha, SL ahb nhb chb]).toArray)] _
 refine AK (AD (A9 (CL (.agg ([U64 rq, I64 (rk), I64 (er), SL aj nj cj, .bool th, U64 pv, U64 ep, I64 (kd), SL ai ni ci, SL sa ns sc, U64 bl] ++ cu8 tg ++ [SL aha nha cha, SL ahb nhb chb]).toArray) ([U64 rq, I64 (rk), I64 (er), SL aj nj cj, .bool th, U64 pv, U64 ep, I64 (kd), SL ai ni ci, SL sa ns sc, U64 bl] ++ cu8 tg ++ [SL aha nha cha, SL ahb nhb chb]) rfl (by first | rfl | simp)) rfl ?_))
 rintro v1 L1 ⟨nb1, hnb1, rfl, rfl⟩
 show JL _ _ _ _ ((1, Ptr nb1 0) :: _) [⟨nb1, [U64 rq, I64 (rk), I64 (er), SL aj nj cj, .bool th, U64 pv, U64 ep, I64 (kd), SL ai ni ci, SL sa ns sc, U64 bl] ++ cu8 tg ++ [SL aha nha cha, SL ahb nhb chb], 71, (0, 0)⟩]
 refine AA _ (AH rfl) rfl ?_
 refine AN (AF (AK (AD (AA (.agg ([U64 rq, I64 (rk), I64 (er), SL aj nj cj, .bool th, U64 pv, U64 ep, I64 (kd), SL ai ni ci, SL sa ns sc, U64 bl] ++ cu8 tg ++ [SL aha nha cha, SL ahb nhb chb]).toArray) (AI rfl (BV DR C2 (by simp [htg]) (AS 0 rfl (AV _)))) rfl ?_))))
 refine B1 (BG 94 [.agg ([U64 rq, I64 (rk), I64 (er), SL aj nj cj, .bool th, U64 pv, U64 ep, I64 (kd), SL ai ni ci, SL sa ns sc, U64 bl] ++ cu8 tg ++ [SL aha nha cha, SL ahb nhb chb]).toArray] (.agg #[.bool (itB (er) (rk)), .bool (chB (er) (rk) th), .bool (aB (er) (rk) th), .bool (bB (er) (rk) th)]) (A6 _ Tryd.call94 rfl) (fun w1 hw1 => has_c rq (rk) (er) aj nj cj lj th pv ep (kd) ai ni ci l sa ns sc ls bl tg aha nha cha xha ahb nhb chb xhb w1 htg)) rfl ?_
 show JL _ _ _ _ ((6, .agg #[.bool (itB (er) (rk)), .bool (chB (er) (rk) th), .bool (aB (er) (rk) th), .bool (bB (er) (rk) th)]) :: _) [_]
 refine A9 (DI _ ([.bool false, .bool false, .bool false, .bool false]) EY (by kernel_rfl)) rfl ?_
 rintro v1 L1 ⟨nb2, hnb2, rfl, rfl⟩
 show JL _ _ _ _ ((3, Ptr nb2 0) :: _) [_, ⟨nb2, [.bool false, .bool false, .bool false, .bool false], 168, (0, 0)⟩]
 refine B1 (CW 1 nb2 4 ([.bool false, .bool false, .bool false, .bool false]) 168 ([.bool (itB (er) (rk)), .bool (chB (er) (rk) th), .bool (aB (er) (rk) th), .bool (bB (er) (rk) th)]) rfl rfl rfl DT rfl (by simp [Value.oneCell']) (Nat.le_of_ble_eq_true rfl) (DC (by simp []))) rfl ?_
 show JL _ _ _ _ _ [_, ⟨nb2, [.bool (itB (er) (rk)), .bool (chB (er) (rk) th), .bool (aB (er) (rk) th), .bool (bB (er) (rk) th)], 168, (0, 0)⟩]
 refine AN (AF (AK (AK (JC_cut (ι := Unit) (fun _ => [(1, Ptr nb1 0), (2, .bool false), (3, Ptr nb2 0), (24, .bool (!(c1B er rk)))]) (fun _ => [⟨nb1, [U64 rq, I64 (rk), I64 (er), SL aj nj cj, .bool th, U64 pv, U64 ep, I64 (kd), SL ai ni ci, SL sa ns sc, U64 bl] ++ cu8 tg ++ [SL aha nha cha, SL ahb nhb chb], 71, (0, 0)⟩, ⟨nb2, [.bool (itB (er) (rk)), .bool (chB (er) (rk) th), .bool (aB (er) (rk) th), .bool (bB (er) (rk) th)], 168, (0, 0)⟩]) (fun _ => True) ?_ ?_))))
 ·
  refine AD (AA (Ptr nb1 1) (AB 1 3 1 AO rfl AR rfl rfl) rfl ?_)
  refine AA (I64 (rk)) (AI rfl (AQ AT (AS 0 rfl (AG (AG (AE (Seg.head))))))) rfl ?_
  refine AA (.bool (decide ((rk) < (1:Int)))) (AU rfl rfl fun _ => CR _ _) rfl ?_
  refine AA _ (AL rfl) rfl ?_
  rcases Bool.eq_false_or_eq_true (decide ((rk) < (1:Int))) with hb1 | hb1
  ·
   have hp1 : (rk) < (1:Int) := of_decide_eq_true hb1
   refine AC 3 10 false _ rfl rfl hb1 rfl ?_
   refine AC 3 10 false _ rfl rfl hb1 rfl ?_
   refine AC 3 10 false _ rfl rfl hb1 rfl ?_
   refine AA _ (A2 _ rfl hb1 rfl) rfl ?_
   refine AA _ (AL rfl) rfl ?_
   refine AC 8 15 false _ rfl rfl rfl rfl ?_
   refine AC 8 15 false _ rfl rfl rfl rfl ?_
   refine AC 8 15 false _ rfl rfl rfl rfl ?_
   refine AA _ (A2 _ rfl rfl rfl) rfl ?_
   refine AA _ (AL rfl) rfl ?_
   refine AC 13 20 false _ rfl rfl rfl rfl ?_
   refine AC 13 20 false _ rfl rfl rfl rfl ?_
   refine AC 13 20 false _ rfl rfl rfl rfl ?_
   refine AA _ (A2 _ rfl rfl rfl) rfl ?_
   refine AN (E2 (()) trivial (Sub.cons rfl (Sub.cons rfl (Sub.cons rfl (Sub.cons (congrArg (fun b => some (Value.bool b)) (c1_no (by omega) : (true) = (!(c1B er rk)))) (Sub.nil))))) rfl)
  ·
   have hp1 : ¬ ((rk) < (1:Int)) := of_decide_eq_false hb1
   refine AP 3 10 false _ (Ptr nb1 1) rfl rfl hb1 (AB 1 3 1 AO rfl AR rfl rfl) rfl ?_
   refine AP 3 10 false _ (I64 (rk)) rfl rfl hb1 (AI rfl (AQ AT (AS 0 rfl (AG (AG (AE (Seg.head))))))) rfl ?_
   refine AP 3 10 false _ (.bool (decide ((5:Int) < (rk)))) rfl rfl hb1 (AU rfl rfl fun _ => D1 _ _) rfl ?_
   refine AA _ (A0 _ rfl hb1 rfl) rfl ?_
   refine AA _ (AL rfl) rfl ?_
   rcases Bool.eq_false_or_eq_true (decide ((5:Int) < (rk))) with hb2 | hb2
   ·
    have hp2 : (5:Int) < (rk) := of_decide_eq_true hb2
    refine AC 8 15 false _ rfl rfl hb2 rfl ?_
    refine AC 8 15 false _ rfl rfl hb2 rfl ?_
    refine AC 8 15 false _ rfl rfl hb2 rfl ?_
    refine AA _ (A2 _ rfl hb2 rfl) rfl ?_
    refine AA _ (AL rfl) rfl ?_
    refine AC 13 20 false _ rfl rfl rfl rfl ?_
    refine AC 13 20 false _ rfl rfl rfl rfl ?_
    refine AC 13 20 false _ rfl rfl rfl rfl ?_
    refine AA _ (A2 _ rfl rfl rfl) rfl ?_
    refine AN (E2 (()) trivial (Sub.cons rfl (Sub.cons rfl (Sub.cons rfl (Sub.cons (congrArg (fun b => some (Value.bool b)) (c1_no (by omega) : (true) = (!(c1B er rk)))) (Sub.nil))))) rfl)
   ·
    have hp2 : ¬ ((5:Int) < (rk)) := of_decide_eq_false hb2
    refine AP 8 15 false _ (Ptr nb1 2) rfl rfl hb2 (AB 2 3 1 AO rfl AR rfl rfl) rfl ?_
    refine AP 8 15 false _ (I64 (er)) rfl rfl hb2 (AI rfl (AQ AT (AS 0 rfl (AG (AG (AE (AE (Seg.head)))))))) rfl ?_
    refine AP 8 15 false _ (.bool (decide ((er) < (0:Int)))) rfl rfl hb2 (AU rfl rfl fun _ => CR _ _) rfl ?_
    refine AA _ (A0 _ rfl hb2 rfl) rfl ?_
    refine AA _ (AL rfl) rfl ?_
    rcases Bool.eq_false_or_eq_true (decide ((er) < (0:Int))) with hb3 | hb3
    ·
     have hp3 : (er) < (0:Int) := of_decide_eq_true hb3
     refine AC 13 20 false _ rfl rfl hb3 rfl ?_
     refine AC 13 20 false _ rfl rfl hb3 rfl ?_
     refine AC 13 20 false _ rfl rfl hb3 rfl ?_
     refine AA _ (A2 _ rfl hb3 rfl) rfl ?_
     refine AN (E2 (()) trivial (Sub.cons rfl (Sub.cons rfl (Sub.cons rfl (Sub.cons (congrArg (fun b => some (Value.bool b)) (c1_no (by omega) : (true) = (!(c1B er rk)))) (Sub.nil))))) rfl)
    ·
     have hp3 : ¬ ((er) < (0:Int)) := of_decide_eq_false hb3
     refine AP 13 20 false _ (Ptr nb1 2) rfl rfl hb3 (AB 2 3 1 AO rfl AR rfl rfl) rfl ?_
     refine AP 13 20 false _ (I64 (er)) rfl rfl hb3 (AI rfl (AQ AT (AS 0 rfl (AG (AG (AE (AE (Seg.head)))))))) rfl ?_
     refine AP 13 20 false _ (.bool (decide ((14:Int) < (er)))) rfl rfl hb3 (AU rfl rfl fun _ => D1 _ _) rfl ?_
     refine AA _ (A0 _ rfl hb3 rfl) rfl ?_
     refine AN (E2 (()) trivial (Sub.cons rfl (Sub.cons rfl (Sub.cons rfl (Sub.cons (congrArg (fun b => some (Value.bool b)) (c1_last (by omega) : (decide ((14:Int) < (er))) = (!(c1B er rk)))) (Sub.nil))))) rfl)
 ·
  rintro _ hx
  obtain _ := hx
  show JQ _ _ _ [(1, Ptr nb1 0), (2, .bool false), (3, Ptr nb2 0), (24, .bool (!(c1B er rk)))] [⟨nb1, [U64 rq, I64 (rk), I64 (er), SL aj nj cj, .bool th, U64 pv, U64 ep, I64 (kd), SL ai ni ci, SL sa ns sc, U64 bl] ++ cu8 tg ++ [SL aha nha cha, SL ahb nhb chb], 71, (0, 0)⟩, ⟨nb2, [.bool (itB (er) (rk)), .bool (chB (er) (rk) th), .bool (aB (er) (rk) th), .bool (bB (er) (rk) th)], 168, (0, 0)⟩]
  refine AF (CI (!(c1B er rk)) rfl (fun hb4 => ?_) (fun hb4 => ?_))
  ·
   have hb5 : (c1B er rk) = false := by simpa using hb4
   refine AK (AD (AA _ (AH rfl) rfl ?_))
   refine AN (AF (BK (A1 (BP [false, false] ?_))))
   show JQ _ _ _ _ []
   refine BJ (.bool false) (res1 Tryd.results33 (BH rfl)) fun w1 hw1 => ?_
   exact ⟨_, [], rfl, ⟨congrArg Value.bool (show _ = repR _ _ _ _ _ _ _ _ by unfold repR; rw [hb5]; rfl), rfl⟩, hw1.sub (by simp) (by simp)⟩
  ·
   have hb6 : (c1B er rk) = true := by simpa using hb4
   refine BE (AF (AK (AK (JC_cut (ι := Unit) (fun _ => [(1, Ptr nb1 0), (2, .bool false), (3, Ptr nb2 0), (37, .bool (c2x (itB er rk) nj))]) (fun _ => [⟨nb1, [U64 rq, I64 (rk), I64 (er), SL aj nj cj, .bool th, U64 pv, U64 ep, I64 (kd), SL ai ni ci, SL sa ns sc, U64 bl] ++ cu8 tg ++ [SL aha nha cha, SL ahb nhb chb], 71, (0, 0)⟩, ⟨nb2, [.bool (itB (er) (rk)), .bool (chB (er) (rk) th), .bool (aB (er) (rk) th), .bool (bB (er) (rk) th)], 168, (0, 0)⟩]) (fun _ => True) ?_ ?_))))
   ·
    refine AD (AA (Ptr nb2 0) (BZ 4 4 1 0 A8 BB rfl rfl (by omega) (by omega) (by omega)) rfl ?_)
    refine AA (.bool (itB (er) (rk))) (AI rfl (AQ BD (AS 1 rfl (Seg.head)))) rfl ?_
    refine AA (Ptr nb1 3) (AB 3 69 1 AO rfl BQ rfl rfl) rfl ?_
    refine AA (SL aj nj cj) (AI rfl (AQ B9 (AS 0 rfl (AG (AG (AE (AE (AE (Seg.head))))))))) rfl ?_
    refine AA (I64 nj) (CY BM rfl) rfl ?_
    refine AA (.bool (decide ((0:Int) < ((nj:Int))))) (AU rfl rfl fun _ => D1 _ _) rfl ?_
    refine AA (.bool (!((itB (er) (rk)) == (decide ((0:Int) < ((nj:Int))))))) (E3 _ _ _ rfl rfl (fun _ => F1 ..) fun _ => neq_bool D4) rfl ?_
    refine AA _ (AL rfl) rfl ?_
    rcases Bool.eq_false_or_eq_true ((itB (er) (rk)) == (decide ((0:Int) < ((nj:Int))))) with hb7 | hb7
    ·
     refine AP 7 32 false _ (Ptr nb1 3) rfl rfl (bnotT hb7) (AB 3 69 1 AO rfl BQ rfl rfl) rfl ?_
     refine AP 7 32 false _ (SL aj nj cj) rfl rfl (bnotT hb7) (AI rfl (AQ B9 (AS 0 rfl (AG (AG (AE (AE (AE (Seg.head))))))))) rfl ?_
     refine AP 7 32 false _ (I64 nj) rfl rfl (bnotT hb7) (CY BM rfl) rfl ?_
     refine AP 7 32 false _ (.bool (decide ((256:Int) < ((nj:Int))))) rfl rfl (bnotT hb7) (AU rfl rfl fun _ => D1 _ _) rfl ?_
     refine AA _ (A0 _ rfl (bnotT hb7) rfl) rfl ?_
     refine AN (E2 (()) trivial (Sub.cons rfl (Sub.cons rfl (Sub.cons rfl (Sub.cons (congrArg (fun b => some (Value.bool b)) (by unfold c2x; rw [hb7]; rfl : (decide ((256:Int) < ((nj:Int)))) = (c2x (itB er rk) nj))) (Sub.nil))))) rfl)
    ·
     refine AC 7 32 false _ rfl rfl (bnotF hb7) rfl ?_
     refine AC 7 32 false _ rfl rfl (bnotF hb7) rfl ?_
     refine AC 7 32 false _ rfl rfl (bnotF hb7) rfl ?_
     refine AC 7 32 false _ rfl rfl (bnotF hb7) rfl ?_
     refine AA _ (A2 _ rfl (bnotF hb7) rfl) rfl ?_
     refine AN (E2 (()) trivial (Sub.cons rfl (Sub.cons rfl (Sub.cons rfl (Sub.cons (congrArg (fun b => some (Value.bool b)) (by unfold c2x; rw [hb7]; rfl : (true) = (c2x (itB er rk) nj))) (Sub.nil))))) rfl)
   ·
    rintro _ hx
    obtain _ := hx
    show JQ _ _ _ [(1, Ptr nb1 0), (2, .bool false), (3, Ptr nb2 0), (37, .bool (c2x (itB er rk) nj))] [⟨nb1, [U64 rq, I64 (rk), I64 (er), SL aj nj cj, .bool th, U64 pv, U64 ep, I64 (kd), SL ai ni ci, SL sa ns sc, U64 bl] ++ cu8 tg ++ [SL aha nha cha, SL ahb nhb chb], 71, (0, 0)⟩, ⟨nb2, [.bool (itB (er) (rk)), .bool (chB (er) (rk) th), .bool (aB (er) (rk) th), .bool (bB (er) (rk) th)], 168, (0, 0)⟩]
    refine AF (CI (c2x (itB er rk) nj) rfl (fun hb8 => ?_) (fun hb8 => ?_))
    ·
     refine AK (AD (AA _ (AH rfl) rfl ?_))
     refine AN (AF (BK (A1 (BP [false, false] ?_))))
     show JQ _ _ _ _ []
     refine BJ (.bool false) (res1 Tryd.results33 (BH rfl)) fun w1 hw1 => ?_
     exact ⟨_, [], rfl, ⟨congrArg Value.bool (show _ = repR _ _ _ _ _ _ _ _ by unfold repR; rw [hb6, c2x_t hlj hb8]; rfl), rfl⟩, hw1.sub (by simp) (by simp)⟩
    ·
     refine BE (AF (AK (AK (AD (AA _ (AH rfl) rfl ?_)))))
     refine AN (AF (B2 (DV (ι := Nat) (fun i => [(1, Ptr nb1 0), (3, Ptr nb2 0), (4, I64 i)]) (fun i => [⟨nb1, [U64 rq, I64 (rk), I64 (er), SL aj nj cj, .bool th, U64 pv, U64 ep, I64 (kd), SL ai ni ci, SL sa ns sc, U64 bl] ++ cu8 tg ++ [SL aha nha cha, SL ahb nhb chb], 71, (0, 0)⟩, ⟨nb2, [.bool (itB (er) (rk)), .bool (chB (er) (rk) th), .bool (aB (er) (rk) th), .bool (bB (er) (rk) th)], 168, (0, 0)⟩]) (fun i => i ≤ nj ∧ ∀ k, k < i → ∀ y, lj[k]? = some y → (fun x => !plainB x) y = false) (fun i => nj - i) 0 ⟨by omega, fun k hk => absurd hk (by omega)⟩ (Sub.all rfl) rfl ?_)))
     rintro i ⟨hi1, hi2⟩
     show JC _ _ _ [(1, Ptr nb1 0), (3, Ptr nb2 0), (4, I64 i)] [⟨nb1, [U64 rq, I64 (rk), I64 (er), SL aj nj cj, .bool th, U64 pv, U64 ep, I64 (kd), SL ai ni ci, SL sa ns sc, U64 bl] ++ cu8 tg ++ [SL aha nha cha, SL ahb nhb chb], 71, (0, 0)⟩, ⟨nb2, [.bool (itB (er) (rk)), .bool (chB (er) (rk) th), .bool (aB (er) (rk) th), .bool (bB (er) (rk) th)], 168, (0, 0)⟩]
     refine AK (AK (AD (AA _ (AL rfl) rfl ?_)))
     refine AA (Ptr nb1 3) (AB 3 69 1 AO rfl BQ rfl rfl) rfl ?_
     refine AA (SL aj nj cj) (AI rfl (AQ B9 (AS 0 rfl (AG (AG (AE (AE (AE (Seg.head))))))))) rfl ?_
     refine AA (I64 nj) (CY BM rfl) rfl ?_
     refine AA (.bool (decide (((i:Int)) < ((nj:Int))))) (AU rfl rfl fun _ => CR _ _) rfl ?_
     refine AN (AF (CI (decide (((i:Int)) < ((nj:Int)))) rfl (fun hb9 => ?_) (fun hb9 => ?_)))
     ·
      have hp9 : ((i:Int)) < ((nj:Int)) := of_decide_eq_true hb9
      refine BE (AF (AK (B2 (AK ?_))))
      obtain ⟨x1, hx1⟩ : ∃ x, lj[i]? = some x := ⟨_, List.getElem?_eq_getElem (by rw [hlj]; omega)⟩
      obtain ⟨bz1, oz1, hz1, hm1⟩ := E4 E6 (by decide) hj hx1
      rw [FO] at hm1
      refine AD (AA (Ptr nb1 3) (AB 3 69 1 AO rfl BQ rfl rfl) rfl ?_)
      refine AA (SL aj nj cj) (AI rfl (AQ B9 (AS 0 rfl (AG (AG (AE (AE (AE (Seg.head))))))))) rfl ?_
      refine AA _ (AL rfl) rfl ?_
      refine AA (Ptr bz1 (50*i + oz1)) (B4 167 50 (50*i + oz1) BM DM rfl hz1 rfl (by omega) (by omega) (by omega)) rfl ?_
      refine AA (Ptr bz1 (50*i + oz1)) (AB 0 4 1 DO rfl BB rfl rfl) rfl ?_
      refine AA (.bool x1.b) (AI rfl (AQ BD (CK (hm1.mem (by simp)) (AG (AG (Seg.head))) (by first | omega | (simp; done) | (simp; omega))))) rfl ?_
      refine AA (.bool (!x1.b)) (EP rfl) rfl ?_
      refine AA _ (AL rfl) rfl ?_
      rcases Bool.eq_false_or_eq_true (x1.b) with hb10 | hb10
      ·
       refine AC 7 52 true _ rfl rfl (bnotT hb10) rfl ?_
       refine AC 7 52 true _ rfl rfl (bnotT hb10) rfl ?_
       refine AC 7 52 true _ rfl rfl (bnotT hb10) rfl ?_
       refine AC 7 52 true _ rfl rfl (bnotT hb10) rfl ?_
       refine AC 7 52 true _ rfl rfl (bnotT hb10) rfl ?_
       refine AC 7 52 true _ rfl rfl (bnotT hb10) rfl ?_
       refine AC 7 52 true _ rfl rfl (bnotT hb10) rfl ?_
       refine AC 7 52 true _ rfl rfl (bnotT hb10) rfl ?_
       refine AA _ (A0 _ rfl (bnotT hb10) rfl) rfl ?_
       refine AN (AF (BN _ rfl rfl ?_))
       refine BE (BY (AF (AD (AA _ (AL rfl) rfl ?_))))
       refine AA (I64 ((i:Int) + 1)) (AU rfl rfl fun _ => DE _ _ ((i:Int) + 1) (by omega) (by omega)) rfl ?_
       refine AA _ (AH rfl) rfl ?_
       refine AN (DK (EM (i + 1) ⟨by omega, find_step hx1 (plain_b hb10) hi2⟩ (by first | (simp; omega) | simp | (dsimp only; omega) | omega) (Sub.all rfl) rfl))
      ·
       refine AP 7 52 true _ (Ptr nb1 3) rfl rfl (bnotF hb10) (AB 3 69 1 AO rfl BQ rfl rfl) rfl ?_
       refine AP 7 52 true _ (SL aj nj cj) rfl rfl (bnotF hb10) (AI rfl (AQ B9 (AS 0 rfl (AG (AG (AE (AE (AE (Seg.head))))))))) rfl ?_
       refine AP 7 52 true _ _ rfl rfl (bnotF hb10) (AL rfl) rfl ?_
       refine AP 7 52 true _ (Ptr bz1 (50*i + oz1)) rfl rfl (bnotF hb10) (B4 167 50 (50*i + oz1) BM DM rfl hz1 rfl (by omega) (by omega) (by omega)) rfl ?_
       refine AP 7 52 true _ (Ptr bz1 (50*i + oz1 + 1)) rfl rfl (bnotF hb10) (AB 1 164 49 DO rfl C8 rfl rfl) rfl ?_
       refine AP 7 52 true _ (.agg ([U64 x1.s.e] ++ cu8 x1.s.d ++ cu8 x1.s.t).toArray) rfl rfl (bnotF hb10) (AI rfl (BV Tryd.isAgg164 C8 (by simp [x1.s.hd, x1.s.ht]) (CK (hm1.mem (by simp)) (C6 (p := [.bool x1.b]) (q := []) (vs := [U64 x1.s.e] ++ cu8 x1.s.d ++ cu8 x1.s.t) (by first | rfl | (simp only [List.append_assoc, List.nil_append, List.append_nil, List.cons_append]; done)) rfl) (by first | omega | (simp; done) | (simp; omega))))) rfl ?_
       refine AP 7 52 true _ (.agg ([U64 0] ++ cu8 (zr8 32) ++ cu8 (zr8 16)).toArray) rfl rfl (bnotF hb10) (EB [] _ rfl (fun _ => by kernel_rfl)) rfl ?_
       refine AP 7 52 true _ (.bool (!(decide (x1.s.e = (0:UInt64) ∧ x1.s.d = (zr8 32) ∧ x1.s.t = (zr8 16))))) rfl rfl (bnotF hb10) (E3 _ _ _ rfl rfl (fun _ => FF _ _ _ _ _ _ (by kernel_rfl)) (neq_struct (x1.s.e = (0:UInt64) ∧ x1.s.d = (zr8 32) ∧ x1.s.t = (zr8 16)) (F8 (d := 9999) (by kernel_rfl) (by kernel_rfl) (by kernel_rfl) (EqRs.cons 22 0 (U64 x1.s.e) (U64 0) _ _ _ (PartV.one AY (AG (AG (Seg.head)))) (PartV.one AY (AG (AG (Seg.head)))) (EqV.u64 (d := 9998) A3 x1.s.e (0:UInt64)) (EqRs.cons 159 1 (.agg (cu8 x1.s.d).toArray) (.agg (cu8 (zr8 32)).toArray) _ _ _ (PartV.agg E8 ED (E9 (AG (Seg.right 1 0 rfl rfl (AV _))) (D7 x1.s.hd) (by omega))) (PartV.agg E8 ED (E9 (AG (Seg.right 1 0 rfl rfl (AV _))) (D7 (B6 32)) (by omega))) (EqV.arr8 (d := 9997) D0 BA EC EN FC (by simp [x1.s.hd]) (by simp [(B6 32)])) (EqRs.last 27 33 (.agg (cu8 x1.s.t).toArray) (.agg (cu8 (zr8 16)).toArray) _ (PartV.agg DY CN (E9 (Seg.right 33 0 (by simp [x1.s.hd]) rfl (AV _)) (D7 x1.s.ht) (by omega))) (PartV.agg DY CN (E9 (Seg.right 33 0 (by simp [(B6 32)]) rfl (AV _)) (D7 (B6 16)) (by omega))) (EqV.arr8 (d := 9997) C5 BA EC EN FC (by simp [x1.s.ht]) (by simp [(B6 16)])))))) (by first | rfl | (simp only [Bool.decide_and, Bool.and_assoc]; done) | (simp [Bool.and_assoc]; done)))) rfl ?_
       refine AA _ (A2 _ rfl (bnotF hb10) rfl) rfl ?_
       refine AN (AF (CI (!(decide (x1.s.e = (0:UInt64) ∧ x1.s.d = (zr8 32) ∧ x1.s.t = (zr8 16)))) rfl (fun hb11 => ?_) (fun hb11 => ?_)))
       ·
        have hb12 : (decide (x1.s.e = (0:UInt64) ∧ x1.s.d = (zr8 32) ∧ x1.s.t = (zr8 16))) = false := by first | simpa using hb11 | exact Eq.mp (Bool.not_eq_true' _) hb11
        have hp12 : ¬ (x1.s.e = (0:UInt64) ∧ x1.s.d = (zr8 32) ∧ x1.s.t = (zr8 16)) := of_decide_eq_false hb12
        refine AK (AD (AA _ (AH rfl) rfl ?_))
        refine AN (AF (BK (CT (A1 (A1 (CT (A1 (BP [false, false] ?_))))))))
        show JQ _ _ _ _ []
        refine BJ (.bool false) (res1 Tryd.results33 (BH rfl)) fun w1 hw1 => ?_
        exact ⟨_, [], rfl, ⟨congrArg Value.bool (show _ = repR _ _ _ _ _ _ _ _ by unfold repR; rw [hb6, c2_any hlj (c2x_f hb8).1 (by omega) (any_odd hx1 (plain_n hb10 hb12))]; rfl), rfl⟩, hw1.sub (by simp) (by simp)⟩
       ·
        have hb13 : (decide (x1.s.e = (0:UInt64) ∧ x1.s.d = (zr8 32) ∧ x1.s.t = (zr8 16))) = true := by first | simpa using hb11 | exact Eq.mp (Bool.not_eq_false' _) hb11
        have hp13 : x1.s.e = (0:UInt64) ∧ x1.s.d = (zr8 32) ∧ x1.s.t = (zr8 16) := of_decide_eq_true hb13
        refine BE (BY (AF (AD (AA _ (AL rfl) rfl ?_))))
        refine AA (I64 ((i:Int) + 1)) (AU rfl rfl fun _ => DE _ _ ((i:Int) + 1) (by omega) (by omega)) rfl ?_
        refine AA _ (AH rfl) rfl ?_
        refine AN (DK (EM (i + 1) ⟨by omega, find_step hx1 (plain_s hb13) hi2⟩ (by first | (simp; omega) | simp | (dsimp only; omega) | omega) (Sub.all rfl) rfl))
     ·
      have hp9 : ¬ (((i:Int)) < ((nj:Int))) := of_decide_eq_false hb9
      refine DU (A5 (A5 (CQ (AF (AK (AK (JC_cut (ι := Unit) (fun _ => [(1, Ptr nb1 0), (3, Ptr nb2 0), (84, .bool (!(c3B (chB er rk th) th (blankB pv ep kd l ls bl tg) (decide (mayN pv ep kd l ls bl = 0)))))]) (fun _ => [⟨nb1, [U64 rq, I64 (rk), I64 (er), SL aj nj cj, .bool th, U64 pv, U64 ep, I64 (kd), SL ai ni ci, SL sa ns sc, U64 bl] ++ cu8 tg ++ [SL aha nha cha, SL ahb nhb chb], 71, (0, 0)⟩, ⟨nb2, [.bool (itB (er) (rk)), .bool (chB (er) (rk) th), .bool (aB (er) (rk) th), .bool (bB (er) (rk) th)], 168, (0, 0)⟩]) (fun _ => True) ?_ ?_)))))))
      ·
       refine AD (AA (Ptr nb2 1) (BZ 4 4 1 1 A8 BB rfl rfl (by omega) (by omega) (by omega)) rfl ?_)
       refine AA (.bool (chB (er) (rk) th)) (AI rfl (AQ BD (AS 1 rfl (AE (Seg.head))))) rfl ?_
       refine AA _ (AL rfl) rfl ?_
       rcases Bool.eq_false_or_eq_true (chB (er) (rk) th) with hb14 | hb14
       ·
        refine AP 2 64 true _ (Ptr nb1 5) rfl rfl hb14 (AB 5 38 22 AO rfl D6 rfl rfl) rfl ?_
        refine AP 2 64 true _ (.agg ([U64 pv, U64 ep, I64 (kd), SL ai ni ci, SL sa ns sc, U64 bl] ++ cu8 tg).toArray) rfl rfl hb14 (AI rfl (BV Tryd.isAgg38 D6 (by simp [htg]) (AS 0 rfl (C6 (p := [U64 rq, I64 (rk), I64 (er), SL aj nj cj, .bool th]) (q := [SL aha nha cha, SL ahb nhb chb]) (vs := [U64 pv, U64 ep, I64 (kd), SL ai ni ci, SL sa ns sc, U64 bl] ++ cu8 tg) (by first | rfl | (simp only [List.append_assoc, List.nil_append, List.append_nil, List.cons_append]; done)) rfl)))) rfl ?_
        refine ET 2 64 true _ rfl rfl hb14 (BG 45 [.agg ([U64 pv, U64 ep, I64 (kd), SL ai ni ci, SL sa ns sc, U64 bl] ++ cu8 tg).toArray] (I64 (((mayN pv ep (kd) l ls bl):Int))) (A6 _ Tryd.call45 rfl) (fun w1 hw1 => rmay13_c pv ep (kd) ai ni ci l sa ns sc ls bl tg w1 hl (by omega) (by omega) (by omega) (CA hw1 rfl hv) hls (by omega) (by omega) (by omega) (CA hw1 rfl hs) htg)) rfl ?_
        rintro v1 L1 ⟨rfl, rfl⟩
        show JL _ _ _ _ ((67, I64 (((mayN pv ep (kd) l ls bl):Int))) :: _) [_, _]
        refine AP 2 64 true _ (.bool (decide ((((mayN pv ep (kd) l ls bl):Int)) ≠ (0:Int)))) rfl rfl hb14 (AU rfl rfl fun _ => EO _ _) rfl ?_
        refine AA _ (A2 _ rfl hb14 rfl) rfl ?_
        refine AA _ (AL rfl) rfl ?_
        rcases Bool.eq_false_or_eq_true (decide ((((mayN pv ep (kd) l ls bl):Int)) ≠ (0:Int))) with hb15 | hb15
        ·
         have hp15 : (((mayN pv ep (kd) l ls bl):Int)) ≠ (0:Int) := of_decide_eq_true hb15
         refine AC 8 70 false _ rfl rfl hb15 rfl ?_
         refine AC 8 70 false _ rfl rfl hb15 rfl ?_
         refine AC 8 70 false _ rfl rfl hb15 rfl ?_
         refine AC 8 70 false _ rfl rfl hb15 rfl ?_
         refine BX 12 74 true rfl rfl rfl ?_
         refine BX 12 74 true rfl rfl rfl ?_
         refine BX 12 74 true rfl rfl rfl ?_
         refine BX 15 77 false rfl rfl rfl ?_
         refine BX 15 77 false rfl rfl rfl ?_
         refine BX 15 77 false rfl rfl rfl ?_
         refine BX 15 77 false rfl rfl rfl ?_
         refine BX 12 74 true rfl rfl rfl ?_
         refine AC 8 70 false _ rfl rfl hb15 rfl ?_
         refine AA _ (A2 _ rfl hb15 rfl) rfl ?_
         refine AN (E2 (()) trivial (Sub.cons rfl (Sub.cons rfl (Sub.cons (congrArg (fun b => some (Value.bool b)) (by rw [hb14]; unfold c3B; rw [if_pos rfl, decide_eq_false (by have h9 := of_decide_eq_true hb15; omega)]; rfl : (true) = (!(c3B (chB er rk th) th (blankB pv ep kd l ls bl tg) (decide (mayN pv ep kd l ls bl = 0)))))) (Sub.nil)))) rfl)
        ·
         have hp15 : ¬ ((((mayN pv ep (kd) l ls bl):Int)) ≠ (0:Int)) := of_decide_eq_false hb15
         refine AP 8 70 false _ (Ptr nb2 1) rfl rfl hb15 (BZ 4 4 1 1 A8 BB rfl rfl (by omega) (by omega) (by omega)) rfl ?_
         refine AP 8 70 false _ (.bool (chB (er) (rk) th)) rfl rfl hb15 (AI rfl (AQ BD (AS 1 rfl (AE (Seg.head))))) rfl ?_
         refine AP 8 70 false _ (.bool (!(chB (er) (rk) th))) rfl rfl hb15 (EP rfl) rfl ?_
         refine AP 8 70 false _ _ rfl rfl hb15 (AL rfl) rfl ?_
         refine AC 12 74 true _ rfl rfl (bnotT hb14) rfl ?_
         refine AC 12 74 true _ rfl rfl (bnotT hb14) rfl ?_
         refine AC 12 74 true _ rfl rfl (bnotT hb14) rfl ?_
         refine BX 15 77 false rfl rfl rfl ?_
         refine BX 15 77 false rfl rfl rfl ?_
         refine BX 15 77 false rfl rfl rfl ?_
         refine BX 15 77 false rfl rfl rfl ?_
         refine AC 12 74 true _ rfl rfl (bnotT hb14) rfl ?_
         refine AP 8 70 false _ _ rfl rfl hb15 (A0 _ rfl (bnotT hb14) rfl) rfl ?_
         refine AA _ (A0 _ rfl hb15 rfl) rfl ?_
         refine AN (E2 (()) trivial (Sub.cons rfl (Sub.cons rfl (Sub.cons (congrArg (fun b => some (Value.bool b)) (by rw [hb14]; unfold c3B; rw [if_pos rfl, decide_eq_true (by have h9 := of_decide_eq_false hb15; omega)]; rfl : (false) = (!(c3B (chB er rk th) th (blankB pv ep kd l ls bl tg) (decide (mayN pv ep kd l ls bl = 0)))))) (Sub.nil)))) rfl)
       ·
        refine AC 2 64 true _ rfl rfl hb14 rfl ?_
        refine AC 2 64 true _ rfl rfl hb14 rfl ?_
        refine AC 2 64 true _ rfl rfl hb14 rfl ?_
        refine AC 2 64 true _ rfl rfl hb14 rfl ?_
        refine AA _ (A0 _ rfl hb14 rfl) rfl ?_
        refine AA _ (AL rfl) rfl ?_
        refine AP 8 70 false _ (Ptr nb2 1) rfl rfl rfl (BZ 4 4 1 1 A8 BB rfl rfl (by omega) (by omega) (by omega)) rfl ?_
        refine AP 8 70 false _ (.bool (chB (er) (rk) th)) rfl rfl rfl (AI rfl (AQ BD (AS 1 rfl (AE (Seg.head))))) rfl ?_
        refine AP 8 70 false _ (.bool (!(chB (er) (rk) th))) rfl rfl rfl (EP rfl) rfl ?_
        refine AP 8 70 false _ _ rfl rfl rfl (AL rfl) rfl ?_
        refine AP 12 74 true _ (Ptr nb1 4) rfl rfl (bnotF hb14) (AB 4 4 1 AO rfl BB rfl rfl) rfl ?_
        refine AP 12 74 true _ (.bool th) rfl rfl (bnotF hb14) (AI rfl (AQ BD (AS 0 rfl (AG (AG (AE (AE (AE (AE (Seg.head)))))))))) rfl ?_
        refine AP 12 74 true _ _ rfl rfl (bnotF hb14) (AL rfl) rfl ?_
        rcases Bool.eq_false_or_eq_true (th) with hb16 | hb16
        ·
         refine AC 15 77 false _ rfl rfl hb16 rfl ?_
         refine AC 15 77 false _ rfl rfl hb16 rfl ?_
         refine AC 15 77 false _ rfl rfl hb16 rfl ?_
         refine AC 15 77 false _ rfl rfl hb16 rfl ?_
         refine AP 12 74 true _ _ rfl rfl (bnotF hb14) (A2 _ rfl hb16 rfl) rfl ?_
         refine AP 8 70 false _ _ rfl rfl rfl (A2 _ rfl (bnotF hb14) rfl) rfl ?_
         refine AA _ (A0 _ rfl rfl rfl) rfl ?_
         refine AN (E2 (()) trivial (Sub.cons rfl (Sub.cons rfl (Sub.cons (congrArg (fun b => some (Value.bool b)) (by rw [hb14, c3_n, hb16]; rfl : (true) = (!(c3B (chB er rk th) th (blankB pv ep kd l ls bl tg) (decide (mayN pv ep kd l ls bl = 0)))))) (Sub.nil)))) rfl)
        ·
         refine AP 15 77 false _ (Ptr nb1 5) rfl rfl hb16 (AB 5 38 22 AO rfl D6 rfl rfl) rfl ?_
         refine AP 15 77 false _ (.agg ([U64 pv, U64 ep, I64 (kd), SL ai ni ci, SL sa ns sc, U64 bl] ++ cu8 tg).toArray) rfl rfl hb16 (AI rfl (BV Tryd.isAgg38 D6 (by simp [htg]) (AS 0 rfl (C6 (p := [U64 rq, I64 (rk), I64 (er), SL aj nj cj, .bool th]) (q := [SL aha nha cha, SL ahb nhb chb]) (vs := [U64 pv, U64 ep, I64 (kd), SL ai ni ci, SL sa ns sc, U64 bl] ++ cu8 tg) (by first | rfl | (simp only [List.append_assoc, List.nil_append, List.append_nil, List.cons_append]; done)) rfl)))) rfl ?_
         refine ET 15 77 false _ rfl rfl hb16 (BG 78 [.agg ([U64 pv, U64 ep, I64 (kd), SL ai ni ci, SL sa ns sc, U64 bl] ++ cu8 tg).toArray] (.bool (blankB pv ep (kd) l ls bl tg)) (A6 _ Tryd.call78 rfl) (fun w1 hw1 => rblank_c pv ep (kd) ai ni ci l sa ns sc ls bl tg w1 hl (by omega) (by omega) (by omega) (CA hw1 rfl hv) hls (by omega) (by omega) (by omega) (CA hw1 rfl hs) htg)) rfl ?_
         rintro v1 L1 ⟨rfl, rfl⟩
         show JL _ _ _ _ ((80, .bool (blankB pv ep (kd) l ls bl tg)) :: _) [_, _]
         refine AP 15 77 false _ (.bool (!(blankB pv ep (kd) l ls bl tg))) rfl rfl hb16 (EP rfl) rfl ?_
         refine AP 12 74 true _ _ rfl rfl (bnotF hb14) (A0 _ rfl hb16 rfl) rfl ?_
         refine AP 8 70 false _ _ rfl rfl rfl (A2 _ rfl (bnotF hb14) rfl) rfl ?_
         refine AA _ (A0 _ rfl rfl rfl) rfl ?_
         refine AN (E2 (()) trivial (Sub.cons rfl (Sub.cons rfl (Sub.cons (congrArg (fun b => some (Value.bool b)) (by rw [hb14, c3_n, hb16]; rfl : (!(blankB pv ep (kd) l ls bl tg)) = (!(c3B (chB er rk th) th (blankB pv ep kd l ls bl tg) (decide (mayN pv ep kd l ls bl = 0)))))) (Sub.nil)))) rfl)
      ·
       rintro _ hx
       obtain _ := hx
       show JQ _ _ _ [(1, Ptr nb1 0), (3, Ptr nb2 0), (84, .bool (!(c3B (chB er rk th) th (blankB pv ep kd l ls bl tg) (decide (mayN pv ep kd l ls bl = 0)))))] [⟨nb1, [U64 rq, I64 (rk), I64 (er), SL aj nj cj, .bool th, U64 pv, U64 ep, I64 (kd), SL ai ni ci, SL sa ns sc, U64 bl] ++ cu8 tg ++ [SL aha nha cha, SL ahb nhb chb], 71, (0, 0)⟩, ⟨nb2, [.bool (itB (er) (rk)), .bool (chB (er) (rk) th), .bool (aB (er) (rk) th), .bool (bB (er) (rk) th)], 168, (0, 0)⟩]
       refine AF (CI (!(c3B (chB er rk th) th (blankB pv ep kd l ls bl tg) (decide (mayN pv ep kd l ls bl = 0)))) rfl (fun hb17 => ?_) (fun hb17 => ?_))
       ·
        have hb18 : (c3B (chB er rk th) th (blankB pv ep kd l ls bl tg) (decide (mayN pv ep kd l ls bl = 0))) = false := by simpa using hb17
        refine AK (AD (AA _ (AH rfl) rfl ?_))
        refine AN (AF (BK (A1 (BP [false, false] ?_))))
        show JQ _ _ _ _ []
        refine BJ (.bool false) (res1 Tryd.results33 (BH rfl)) fun w1 hw1 => ?_
        exact ⟨_, [], rfl, ⟨congrArg Value.bool (show _ = repR _ _ _ _ _ _ _ _ by unfold repR; rw [hb6, c2_same hlj (c2x_f hb8).1 (c2x_f hb8).2 (any_no (by rw [hlj]; intro k hk; exact hi2 k (by omega))), hb18]; rfl), rfl⟩, hw1.sub (by simp) (by simp)⟩
       ·
        have hb19 : (c3B (chB er rk th) th (blankB pv ep kd l ls bl tg) (decide (mayN pv ep kd l ls bl = 0))) = true := by simpa using hb17
        refine BE (AF (AK (JC_cut (ι := Unit) (fun _ => [(2, .bool (c4B (aB er rk th) (bB er rk th) nha nhb))]) (fun _ => [⟨nb1, [U64 rq, I64 (rk), I64 (er), SL aj nj cj, .bool th, U64 pv, U64 ep, I64 (kd), SL ai ni ci, SL sa ns sc, U64 bl] ++ cu8 tg ++ [SL aha nha cha, SL ahb nhb chb], 71, (0, 0)⟩, ⟨nb2, [.bool (itB (er) (rk)), .bool (chB (er) (rk) th), .bool (aB (er) (rk) th), .bool (bB (er) (rk) th)], 168, (0, 0)⟩]) (fun _ => True) ?_ ?_)))
        ·
         refine AD (AA (Ptr nb1 27) (AB 27 65 1 AO rfl BR rfl rfl) rfl ?_)
         refine AA (SL aha nha cha) (AI rfl (AQ BU (AS 0 rfl (Seg.right 27 0 (by simp [htg]) rfl (Seg.head))))) rfl ?_
         refine AA (I64 nha) (CY BS rfl) rfl ?_
         refine AA (.bool (decide (((nha:Int)) ≤ (256:Int)))) (AU rfl rfl fun _ => bin_leq_i _ _) rfl ?_
         refine AA _ (AL rfl) rfl ?_
         rcases Bool.eq_false_or_eq_true (decide (((nha:Int)) ≤ (256:Int))) with hb20 | hb20
         ·
          have hp20 : ((nha:Int)) ≤ (256:Int) := of_decide_eq_true hb20
          refine AP 4 89 true _ (Ptr nb1 28) rfl rfl hb20 (AB 28 65 1 AO rfl BR rfl rfl) rfl ?_
          refine AP 4 89 true _ (SL ahb nhb chb) rfl rfl hb20 (AI rfl (AQ BU (AS 0 rfl (Seg.right 27 1 (by simp [htg]) rfl (AE (Seg.head)))))) rfl ?_
          refine AP 4 89 true _ (I64 nhb) rfl rfl hb20 (CY BS rfl) rfl ?_
          refine AP 4 89 true _ (.bool (decide (((nhb:Int)) ≤ (8192:Int)))) rfl rfl hb20 (AU rfl rfl fun _ => bin_leq_i _ _) rfl ?_
          refine AA _ (A2 _ rfl hb20 rfl) rfl ?_
          refine AA _ (AL rfl) rfl ?_
          rcases Bool.eq_false_or_eq_true (decide (((nhb:Int)) ≤ (8192:Int))) with hb21 | hb21
          ·
           have hp21 : ((nhb:Int)) ≤ (8192:Int) := of_decide_eq_true hb21
           refine AP 10 95 true _ (Ptr nb2 2) rfl rfl hb21 (BZ 4 4 1 2 A8 BB rfl rfl (by omega) (by omega) (by omega)) rfl ?_
           refine AP 10 95 true _ (.bool (aB (er) (rk) th)) rfl rfl hb21 (AI rfl (AQ BD (AS 1 rfl (AE (AE (Seg.head)))))) rfl ?_
           refine AP 10 95 true _ _ rfl rfl hb21 (AL rfl) rfl ?_
           rcases Bool.eq_false_or_eq_true (aB (er) (rk) th) with hb22 | hb22
           ·
            refine AC 13 98 false _ rfl rfl hb22 rfl ?_
            refine AC 13 98 false _ rfl rfl hb22 rfl ?_
            refine AC 13 98 false _ rfl rfl hb22 rfl ?_
            refine AC 13 98 false _ rfl rfl hb22 rfl ?_
            refine AP 10 95 true _ _ rfl rfl hb21 (A2 _ rfl hb22 rfl) rfl ?_
            refine AA _ (A2 _ rfl hb21 rfl) rfl ?_
            refine AA _ (AL rfl) rfl ?_
            refine AP 20 105 true _ (Ptr nb2 3) rfl rfl rfl (BZ 4 4 1 3 A8 BB rfl rfl (by omega) (by omega) (by omega)) rfl ?_
            refine AP 20 105 true _ (.bool (bB (er) (rk) th)) rfl rfl rfl (AI rfl (AQ BD (AS 1 rfl (AE (AE (AE (Seg.head))))))) rfl ?_
            refine AP 20 105 true _ _ rfl rfl rfl (AL rfl) rfl ?_
            rcases Bool.eq_false_or_eq_true (bB (er) (rk) th) with hb23 | hb23
            ·
             refine AC 23 108 false _ rfl rfl hb23 rfl ?_
             refine AC 23 108 false _ rfl rfl hb23 rfl ?_
             refine AC 23 108 false _ rfl rfl hb23 rfl ?_
             refine AC 23 108 false _ rfl rfl hb23 rfl ?_
             refine AP 20 105 true _ _ rfl rfl rfl (A2 _ rfl hb23 rfl) rfl ?_
             refine AA _ (A2 _ rfl rfl rfl) rfl ?_
             refine AA _ (AH rfl) rfl ?_
             refine AN ?_
             have fz0 : nha ≤ 256 := by omega
             have fz1 : nhb ≤ 8192 := by omega
             refine E2 (()) trivial (Sub.cons (congrArg (fun b => some (Value.bool b)) (by unfold c4B; simp [fz0, fz1, hb22, hb23] : (true) = (c4B (aB er rk th) (bB er rk th) nha nhb))) (Sub.nil)) rfl
            ·
             refine AP 23 108 false _ (Ptr nb1 28) rfl rfl hb23 (AB 28 65 1 AO rfl BR rfl rfl) rfl ?_
             refine AP 23 108 false _ (SL ahb nhb chb) rfl rfl hb23 (AI rfl (AQ BU (AS 0 rfl (Seg.right 27 1 (by simp [htg]) rfl (AE (Seg.head)))))) rfl ?_
             refine AP 23 108 false _ (I64 nhb) rfl rfl hb23 (CY BS rfl) rfl ?_
             refine AP 23 108 false _ (.bool (decide (((nhb:Int)) = (0:Int)))) rfl rfl hb23 (AU rfl rfl fun _ => BO _ _) rfl ?_
             refine AP 20 105 true _ _ rfl rfl rfl (A0 _ rfl hb23 rfl) rfl ?_
             refine AA _ (A2 _ rfl rfl rfl) rfl ?_
             refine AA _ (AH rfl) rfl ?_
             refine AN ?_
             have fz0 : nha ≤ 256 := by omega
             have fz1 : nhb ≤ 8192 := by omega
             refine E2 (()) trivial (Sub.cons (congrArg (fun b => some (Value.bool b)) (by rw [show (decide (((nhb:Int)) = (0:Int))) = decide (nhb = 0) from decide_eq_decide.2 (by omega)]; unfold c4B; simp [fz0, fz1, hb22, hb23] : (decide (((nhb:Int)) = (0:Int))) = (c4B (aB er rk th) (bB er rk th) nha nhb))) (Sub.nil)) rfl
           ·
            refine AP 13 98 false _ (Ptr nb1 27) rfl rfl hb22 (AB 27 65 1 AO rfl BR rfl rfl) rfl ?_
            refine AP 13 98 false _ (SL aha nha cha) rfl rfl hb22 (AI rfl (AQ BU (AS 0 rfl (Seg.right 27 0 (by simp [htg]) rfl (Seg.head))))) rfl ?_
            refine AP 13 98 false _ (I64 nha) rfl rfl hb22 (CY BS rfl) rfl ?_
            refine AP 13 98 false _ (.bool (decide (((nha:Int)) = (0:Int)))) rfl rfl hb22 (AU rfl rfl fun _ => BO _ _) rfl ?_
            refine AP 10 95 true _ _ rfl rfl hb21 (A0 _ rfl hb22 rfl) rfl ?_
            refine AA _ (A2 _ rfl hb21 rfl) rfl ?_
            refine AA _ (AL rfl) rfl ?_
            rcases Bool.eq_false_or_eq_true (decide (((nha:Int)) = (0:Int))) with hb24 | hb24
            ·
             have hp24 : ((nha:Int)) = (0:Int) := of_decide_eq_true hb24
             refine AP 20 105 true _ (Ptr nb2 3) rfl rfl hb24 (BZ 4 4 1 3 A8 BB rfl rfl (by omega) (by omega) (by omega)) rfl ?_
             refine AP 20 105 true _ (.bool (bB (er) (rk) th)) rfl rfl hb24 (AI rfl (AQ BD (AS 1 rfl (AE (AE (AE (Seg.head))))))) rfl ?_
             refine AP 20 105 true _ _ rfl rfl hb24 (AL rfl) rfl ?_
             rcases Bool.eq_false_or_eq_true (bB (er) (rk) th) with hb25 | hb25
             ·
              refine AC 23 108 false _ rfl rfl hb25 rfl ?_
              refine AC 23 108 false _ rfl rfl hb25 rfl ?_
              refine AC 23 108 false _ rfl rfl hb25 rfl ?_
              refine AC 23 108 false _ rfl rfl hb25 rfl ?_
              refine AP 20 105 true _ _ rfl rfl hb24 (A2 _ rfl hb25 rfl) rfl ?_
              refine AA _ (A2 _ rfl hb24 rfl) rfl ?_
              refine AA _ (AH rfl) rfl ?_
              refine AN ?_
              have fz0 : nha = 0 := by omega
              have fz1 : nha ≤ 256 := by omega
              have fz2 : nhb ≤ 8192 := by omega
              refine E2 (()) trivial (Sub.cons (congrArg (fun b => some (Value.bool b)) (by unfold c4B; simp [fz0, fz1, fz2, hb22, hb25] : (true) = (c4B (aB er rk th) (bB er rk th) nha nhb))) (Sub.nil)) rfl
             ·
              refine AP 23 108 false _ (Ptr nb1 28) rfl rfl hb25 (AB 28 65 1 AO rfl BR rfl rfl) rfl ?_
              refine AP 23 108 false _ (SL ahb nhb chb) rfl rfl hb25 (AI rfl (AQ BU (AS 0 rfl (Seg.right 27 1 (by simp [htg]) rfl (AE (Seg.head)))))) rfl ?_
              refine AP 23 108 false _ (I64 nhb) rfl rfl hb25 (CY BS rfl) rfl ?_
              refine AP 23 108 false _ (.bool (decide (((nhb:Int)) = (0:Int)))) rfl rfl hb25 (AU rfl rfl fun _ => BO _ _) rfl ?_
              refine AP 20 105 true _ _ rfl rfl hb24 (A0 _ rfl hb25 rfl) rfl ?_
              refine AA _ (A2 _ rfl hb24 rfl) rfl ?_
              refine AA _ (AH rfl) rfl ?_
              refine AN ?_
              have fz0 : nha = 0 := by omega
              have fz1 : nha ≤ 256 := by omega
              have fz2 : nhb ≤ 8192 := by omega
              refine E2 (()) trivial (Sub.cons (congrArg (fun b => some (Value.bool b)) (by rw [show (decide (((nhb:Int)) = (0:Int))) = decide (nhb = 0) from decide_eq_decide.2 (by omega)]; unfold c4B; simp [fz0, fz1, fz2, hb22, hb25] : (decide (((nhb:Int)) = (0:Int))) = (c4B (aB er rk th) (bB er rk th) nha nhb))) (Sub.nil)) rfl
            ·
             have hp24 : ¬ (((nha:Int)) = (0:Int)) := of_decide_eq_false hb24
             refine AC 20 105 true _ rfl rfl hb24 rfl ?_
             refine AC 20 105 true _ rfl rfl hb24 rfl ?_
             refine AC 20 105 true _ rfl rfl hb24 rfl ?_
             refine BX 23 108 false rfl rfl rfl ?_
             refine BX 23 108 false rfl rfl rfl ?_
             refine BX 23 108 false rfl rfl rfl ?_
             refine BX 23 108 false rfl rfl rfl ?_
             refine AC 20 105 true _ rfl rfl hb24 rfl ?_
             refine AA _ (A0 _ rfl hb24 rfl) rfl ?_
             refine AA _ (AH rfl) rfl ?_
             refine AN ?_
             have fz0 : nha ≠ 0 := by omega
             have fz1 : nha ≤ 256 := by omega
             have fz2 : nhb ≤ 8192 := by omega
             refine E2 (()) trivial (Sub.cons (congrArg (fun b => some (Value.bool b)) (by unfold c4B; simp [fz0, fz1, fz2, hb22] : (false) = (c4B (aB er rk th) (bB er rk th) nha nhb))) (Sub.nil)) rfl
          ·
           have hp21 : ¬ (((nhb:Int)) ≤ (8192:Int)) := of_decide_eq_false hb21
           refine AC 10 95 true _ rfl rfl hb21 rfl ?_
           refine AC 10 95 true _ rfl rfl hb21 rfl ?_
           refine AC 10 95 true _ rfl rfl hb21 rfl ?_
           refine BX 13 98 false rfl rfl rfl ?_
           refine BX 13 98 false rfl rfl rfl ?_
           refine BX 13 98 false rfl rfl rfl ?_
           refine BX 13 98 false rfl rfl rfl ?_
           refine AC 10 95 true _ rfl rfl hb21 rfl ?_
           refine AA _ (A0 _ rfl hb21 rfl) rfl ?_
           refine AA _ (AL rfl) rfl ?_
           refine AC 20 105 true _ rfl rfl rfl rfl ?_
           refine AC 20 105 true _ rfl rfl rfl rfl ?_
           refine AC 20 105 true _ rfl rfl rfl rfl ?_
           refine BX 23 108 false rfl rfl rfl ?_
           refine BX 23 108 false rfl rfl rfl ?_
           refine BX 23 108 false rfl rfl rfl ?_
           refine BX 23 108 false rfl rfl rfl ?_
           refine AC 20 105 true _ rfl rfl rfl rfl ?_
           refine AA _ (A0 _ rfl rfl rfl) rfl ?_
           refine AA _ (AH rfl) rfl ?_
           refine AN ?_
           have fz0 : nha ≤ 256 := by omega
           have fz1 : ¬ nhb ≤ 8192 := by omega
           refine E2 (()) trivial (Sub.cons (congrArg (fun b => some (Value.bool b)) (by unfold c4B; simp [fz0, fz1] : (false) = (c4B (aB er rk th) (bB er rk th) nha nhb))) (Sub.nil)) rfl
         ·
          have hp20 : ¬ (((nha:Int)) ≤ (256:Int)) := of_decide_eq_false hb20
          refine AC 4 89 true _ rfl rfl hb20 rfl ?_
          refine AC 4 89 true _ rfl rfl hb20 rfl ?_
          refine AC 4 89 true _ rfl rfl hb20 rfl ?_
          refine AC 4 89 true _ rfl rfl hb20 rfl ?_
          refine AA _ (A0 _ rfl hb20 rfl) rfl ?_
          refine AA _ (AL rfl) rfl ?_
          refine AC 10 95 true _ rfl rfl rfl rfl ?_
          refine AC 10 95 true _ rfl rfl rfl rfl ?_
          refine AC 10 95 true _ rfl rfl rfl rfl ?_
          refine BX 13 98 false rfl rfl rfl ?_
          refine BX 13 98 false rfl rfl rfl ?_
          refine BX 13 98 false rfl rfl rfl ?_
          refine BX 13 98 false rfl rfl rfl ?_
          refine AC 10 95 true _ rfl rfl rfl rfl ?_
          refine AA _ (A0 _ rfl rfl rfl) rfl ?_
          refine AA _ (AL rfl) rfl ?_
          refine AC 20 105 true _ rfl rfl rfl rfl ?_
          refine AC 20 105 true _ rfl rfl rfl rfl ?_
          refine AC 20 105 true _ rfl rfl rfl rfl ?_
          refine BX 23 108 false rfl rfl rfl ?_
          refine BX 23 108 false rfl rfl rfl ?_
          refine BX 23 108 false rfl rfl rfl ?_
          refine BX 23 108 false rfl rfl rfl ?_
          refine AC 20 105 true _ rfl rfl rfl rfl ?_
          refine AA _ (A0 _ rfl rfl rfl) rfl ?_
          refine AA _ (AH rfl) rfl ?_
          refine AN ?_
          have fz0 : ¬ nha ≤ 256 := by omega
          refine E2 (()) trivial (Sub.cons (congrArg (fun b => some (Value.bool b)) (by unfold c4B; simp [fz0] : (false) = (c4B (aB er rk th) (bB er rk th) nha nhb))) (Sub.nil)) rfl
        ·
         rintro _ hx
         obtain _ := hx
         show JQ _ _ _ [(2, .bool (c4B (aB er rk th) (bB er rk th) nha nhb))] [⟨nb1, [U64 rq, I64 (rk), I64 (er), SL aj nj cj, .bool th, U64 pv, U64 ep, I64 (kd), SL ai ni ci, SL sa ns sc, U64 bl] ++ cu8 tg ++ [SL aha nha cha, SL ahb nhb chb], 71, (0, 0)⟩, ⟨nb2, [.bool (itB (er) (rk)), .bool (chB (er) (rk) th), .bool (aB (er) (rk) th), .bool (bB (er) (rk) th)], 168, (0, 0)⟩]
         refine AF (BK (BP [false, false] ?_))
         show JQ _ _ _ _ []
         refine BJ (.bool (c4B (aB er rk th) (bB er rk th) nha nhb)) (res1 Tryd.results33 (BH rfl)) fun w1 hw1 => ?_
         exact ⟨_, [], rfl, ⟨congrArg Value.bool (show _ = repR _ _ _ _ _ _ _ _ by unfold repR; rw [hb6, c2_same hlj (c2x_f hb8).1 (c2x_f hb8).2 (any_no (by rw [hlj]; intro k hk; exact hi2 k (by omega))), hb19]; rfl), rfl⟩, hw1.sub (by simp) (by simp)⟩
theorem hashesO_c (wb gb n cap0 tot : Nat) (ev : Value) (o : List UInt8) (sp0 : List Value) (ahq : Option Addr) (nhq chq : Nat) (xhq : List UInt8)  (w : World) (h0 : w.heap[wb]? = some (.cells [ev, Slc gb 0 n cap0].toArray 149 (0, 0))) (h1 : w.heap[gb]? = some (.cells (cu8 o ++ sp0).toArray 5 (0, 0))) (hne : wb ≠ gb) (ho : o.length = n) (hsp : sp0.length = cap0 - n) (hca : n ≤ cap0) (hcm : cap0 ≤ maxLen) (hn : n ≤ 1000000000) (hlhq : xhq.length = nhq * 32) (hnhq : nhq ≤ 300) (hdhq : nhq ≤ chq) (hchq : chq ≤ maxLen) (hrhq : RdB w [wb, gb] ahq xhq) (ht : n + 2 + nhq*32 = tot) (htb : tot ≤ 1000000000)  : Calls Tryd.prog 98 #[Ptr wb 0, SL ahq nhq chq] w (Post w [wb, gb] (fun v L => v = .tuple #[] ∧ ∃ g sp cap, L = [⟨wb, [ev, Slc g 0 tot cap], 149, (0, 0)⟩, ⟨g, cu8 ((o ++ numK 2 (UInt64.ofNat nhq) 2) ++ xhq) ++ sp, 5, (0, 0)⟩] ∧ sp.length = cap - tot ∧ tot ≤ cap ∧ cap ≤ maxLen)) := by
 have hmx : maxLen = 9223372036854775807 := rfl
 refine enter w [wb, gb] 21 [⟨wb, [ev, Slc gb 0 n cap0], 149, (0, 0)⟩, ⟨gb, cu8 o ++ sp0, 5, (0, 0)⟩] [Ptr wb 0, SL ahq nhq chq] Tryd.func98 rfl rfl (by simp) (CC (by simp; exact ⟨h0, h1⟩) (by simp; exact hne) (by simp)) ?_
 show JC _ _ _ [(0, Ptr wb 0), (1, SL ahq nhq chq)] _
 refine AK (AD (AA _ (AL rfl) rfl ?_))
 refine AA _ (AL rfl) rfl ?_
 refine AA (I64 nhq) (CY BS rfl) rfl ?_
 refine AA (U64 (UInt64.ofNat nhq)) (CX _ _ rfl fun _ => EL (by rw [AZ]; rfl) A3 nhq _ (by omega)) rfl ?_
 refine A9 (CB 81 _ [true, true] [wb, gb] _ (A6 [Ptr wb 0, U64 (UInt64.ofNat nhq), I64 2] C4 rfl) rfl (fun w1 hw1 => FR wb gb n cap0 (n + 2) ev o sp0 (UInt64.ofNat nhq) 2 w1 (hw1.ent _ (List.mem_of_getElem? (i := 0) rfl)) (hw1.ent _ (List.mem_of_getElem? (i := 1) rfl)) (hw1.ne (i := 0) (j := 1) rfl rfl (by decide)) ho hsp hca hcm (by omega) (by unfold Szd; omega) (fun _ => shr16 (by omega)) (by omega))) rfl ?_
 rintro v1 L1 ⟨_, ⟨rfl, nb1, sp1, cp1, rfl, hc1, hc2, hc3⟩, rfl⟩
 show JL _ _ _ _ ((10, Ptr wb 0) :: _) [⟨wb, [ev, Slc nb1 0 (n + 2) cp1], 149, (0, 0)⟩, ⟨nb1, cu8 (o ++ numK 2 (UInt64.ofNat nhq) 2) ++ sp1, 5, (0, 0)⟩]
 refine AN (AF (AK (AD (AA _ (AL rfl) rfl ?_))))
 refine AA (I64 nhq) (CY BS rfl) rfl ?_
 refine AA _ (AL rfl) rfl ?_
 refine AN (AF (B2 (DV (ι := Nat × List UInt8 × Nat × List Value × Nat) (fun ⟨i, oqi, gqi, spqi, cpqi⟩ => [(0, Ptr wb 0), (11, SL ahq nhq chq), (12, I64 nhq), (13, I64 i)]) (fun ⟨i, oqi, gqi, spqi, cpqi⟩ => [⟨wb, [ev, Slc gqi 0 (32*i + n + 2) cpqi], 149, (0, 0)⟩, ⟨gqi, cu8 oqi ++ spqi, 5, (0, 0)⟩]) (fun ⟨i, oqi, gqi, spqi, cpqi⟩ => i ≤ nhq ∧ oqi = (o ++ numK 2 (UInt64.ofNat nhq) 2) ++ xhq.take (32*i) ∧ oqi.length = (32*i + n + 2) ∧ spqi.length = cpqi - (32*i + n + 2) ∧ (32*i + n + 2) ≤ cpqi ∧ cpqi ≤ maxLen) (fun ⟨i, oqi, gqi, spqi, cpqi⟩ => nhq - i) (0, o ++ numK 2 (UInt64.ofNat nhq) 2, nb1, sp1, cp1) ⟨by omega, by rw [Nat.mul_zero, List.take_zero, List.append_nil], (by have h := (show (o ++ numK 2 (UInt64.ofNat nhq) 2).length = (n + 2) from (by rw [List.length_append, ho, A4] <;> omega)); omega), (by have h := hc1; omega), by omega, by omega⟩ (Sub.all rfl) (by first | rfl | (simp; done)) ?_)))
 rintro ⟨i, oqi, gqi, spqi, cpqi⟩ ⟨hi1, hi2, hi3, hi4, hi5, hi6⟩
 show JC _ _ _ [(0, Ptr wb 0), (11, SL ahq nhq chq), (12, I64 nhq), (13, I64 i)] [⟨wb, [ev, Slc gqi 0 (32*i + n + 2) cpqi], 149, (0, 0)⟩, ⟨gqi, cu8 oqi ++ spqi, 5, (0, 0)⟩]
 refine AK (AD (AA (.bool (decide (((i:Int)) < ((nhq:Int))))) (AU rfl rfl fun _ => CR _ _) rfl ?_))
 refine AN (AF (AK (CI (decide (((i:Int)) < ((nhq:Int)))) rfl (fun hb1 => ?_) (fun hb1 => ?_))))
 ·
  have hp1 : ((i:Int)) < ((nhq:Int)) := of_decide_eq_true hb1
  refine BE (AF (AK (B2 (AK (AD ?_)))))
  obtain ⟨bz1, oz1, hz1, hm1⟩ := hrhq.pos (by rw [hlhq]; omega)
  refine AA (Ptr bz1 (32*i + oz1)) (B4 54 32 (32*i + oz1) BS EA rfl hz1 rfl (by omega) (by omega) (by omega)) rfl ?_
  have hl1 : (mid xhq (32*i) 32).length = 32 := F3 (by rw [hlhq]; omega)
  refine AA (.agg (cu8 (mid xhq (32*i) 32)).toArray) (AI rfl (BV Tryd.isAgg54 EA (D7 hl1) (CK (MemAt.base hm1.1 hm1.2.1 hm1.2.2) (segm_u8 (32*i) 32 (by rw [hlhq]; omega)) (by first | omega | (simp; done) | (simp; omega))))) rfl ?_
  refine A9 (DI _ (cu8 (zr8 32)) Tryd.zeroValue54 (by kernel_rfl)) rfl ?_
  rintro v1 L1 ⟨nb2, hnb2, rfl, rfl⟩
  show JL _ _ _ _ ((5, Ptr nb2 0) :: _) [_, _, ⟨nb2, cu8 (zr8 32), 54, (0, 0)⟩]
  refine B1 (CW 2 nb2 32 (cu8 (zr8 32)) 54 (cu8 (mid xhq (32*i) 32)) rfl rfl rfl EA (D7 hl1) (by first | exact FE | exact one_u32 | exact one_u64 | (simp [cu8, cu32, cu64, Value.oneCell']; done)) (by simp [(B6 32)]) (DC (by simp [(B6 32), hl1]))) rfl ?_
  show JL _ _ _ _ _ [_, _, ⟨nb2, cu8 (mid xhq (32*i) 32), 54, (0, 0)⟩]
  refine AN (AF (AD (AA _ (AL rfl) rfl ?_)))
  refine AA (.agg (cu8 (mid xhq (32*i) 32)).toArray) (AI rfl (BV Tryd.isAgg54 EA (D7 hl1) (AS 2 rfl (AV _)))) rfl ?_
  refine A9 (CB 149 _ [true, true, false] [wb, gqi] _ (A6 [Ptr wb 0, .agg (cu8 (mid xhq (32*i) 32)).toArray] Tryd.call149 rfl) rfl (fun w1 hw1 => hashO_c wb gqi (32*i + n + 2) cpqi (32*i + n + 34) ev oqi spqi (mid xhq (32*i) 32) w1 (hw1.ent _ (List.mem_of_getElem? (i := 0) rfl)) (hw1.ent _ (List.mem_of_getElem? (i := 1) rfl)) (hw1.ne (i := 0) (j := 1) rfl rfl (by decide)) hi3 hi4 hi5 hi6 (by omega) hl1 (by omega))) rfl ?_
  rintro v1 L1 ⟨_, ⟨rfl, nb3, sp2, cp2, rfl, hc4, hc5, hc6⟩, rfl⟩
  show JL _ _ _ _ ((19, Ptr wb 0) :: _) [_, ⟨wb, [ev, Slc nb3 0 (32*i + n + 34) cp2], 149, (0, 0)⟩, ⟨nb3, cu8 (oqi ++ (mid xhq (32*i) 32)) ++ sp2, 5, (0, 0)⟩]
  refine AN (BY (AF (AD (AA (I64 ((i:Int) + 1)) (AU rfl rfl fun _ => DE _ _ ((i:Int) + 1) (by omega) (by omega)) rfl ?_))))
  refine AA _ (AL rfl) rfl ?_
  refine AN (DK (BP [false, true, true] ?_))
  show K _ _ [_, _] _
  refine EM (i + 1, oqi ++ (mid xhq (32*i) 32), nb3, sp2, cp2) ⟨by omega, by rw [hi2, List.append_assoc, take_mid2], (by have h := (show (oqi ++ (mid xhq (32*i) 32)).length = (32*i + n + 34) from (by rw [List.length_append, hi3, hl1] <;> omega)); omega), (by have h := hc4; omega), by omega, by omega⟩ (by first | (simp; omega) | simp | (dsimp only; omega) | omega) (Sub.all rfl) (by first | rfl | rw [show (32*i + n + 34) = (32*(i + 1) + n + 2) by omega])
 ·
  have hp1 : ¬ (((i:Int)) < ((nhq:Int))) := of_decide_eq_false hb1
  refine DU (A5 (A5 (CQ (JQ_end (.tuple #[]) (res0 Tryd.results98 ) fun w1 hw1 => ?_))))
  obtain rfl : nhq = i := by omega
  obtain rfl : tot = (32*nhq + n + 2) := by omega
  rw [List.take_of_length_le (by omega)] at hi2
  subst hi2
  exact ⟨_, _, rfl, ⟨rfl, gqi, spqi, cpqi, rfl, hi4, hi5, hi6⟩, hw1⟩
theorem rflag14_c (b : Bool)  (w : World) : Calls Tryd.prog 104 #[.bool b] w (Post w [] (fun v L => v = U8 (if b then 1 else 0) ∧ L = [])) := by
 refine enter w [] 4 [] [.bool b] Tryd.func104 rfl rfl (by simp) (CC (by simp) (by simp) (by simp)) ?_
 show JC _ _ _ [(0, .bool b)] _
 refine AK (AD (AA _ (AH rfl) rfl ?_))
 refine AN (AF (AK (AK (AD (AA _ (AL rfl) rfl ?_)))))
 refine AN (AF (CI (b) rfl (fun hb1 => ?_) (fun hb1 => ?_)))
 ·
  refine AK (AD (AA _ (AH rfl) rfl ?_))
  refine AN (AF (BK (A1 (BJ (U8 1) (res1 Tryd.results104 (BH rfl)) fun w1 hw1 => ?_))))
  exact ⟨_, [], rfl, ⟨by rw [hb1]; rfl, rfl⟩, hw1.sub (by simp) (by simp)⟩
 ·
  refine BE (AF (AK (AD (AA _ (AH rfl) rfl ?_))))
  refine AN (AF (BK (BJ (U8 0) (res1 Tryd.results104 (BH rfl)) fun w1 hw1 => ?_)))
  exact ⟨_, [], rfl, ⟨by rw [hb1]; rfl, rfl⟩, hw1.sub (by simp) (by simp)⟩
end Go.Proofs.YtkdpdgpphpngeaaDoor
