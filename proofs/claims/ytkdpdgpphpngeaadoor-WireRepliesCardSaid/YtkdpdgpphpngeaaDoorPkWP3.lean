import Derived.Test.YtkdpdgpphpngeaaDoorPkWP2
set_option linter.unusedVariables false
set_option linter.unusedSimpArgs false
set_option maxRecDepth 100000
namespace Go.Proofs.YtkdpdgpphpngeaaDoor
open Go Go.Sx
open Go.Value renaming slice → SL
attribute [local irreducible] mid zr8 numK rnK valK constL initL putL RightB
theorem rmay13_c (pv ep : UInt64) (kd : Int) (ai : Option Addr) (ni ci : Nat) (l : List UInt64) (sa : Option Addr) (ns sc : Nat) (ls : List SealR) (bl : UInt64) (tg : List UInt8)  (w : World) (hl : l.length = ni) (hnm : ni ≤ 2000000) (hnc : ni ≤ ci) (hcm : ci ≤ maxLen) (hv : RdV w ai (cu64 l)) (hls : ls.length = ns) (hnn : ns ≤ 2000000) (hnd : ns ≤ sc) (hcn : sc ≤ maxLen) (hs : RdV w sa (ls.flatMap sealC)) (htg : tg.length = 16)  : Calls Tryd.prog 45 #[.agg ([U64 pv, U64 ep, I64 (kd), SL ai ni ci, SL sa ns sc, U64 bl] ++ cu8 tg).toArray] w (Post w [] (fun v L => v = I64 ((mayN pv ep kd l ls bl : Nat) : Int) ∧ L = [])) := by
 have hmx : maxLen = 9223372036854775807 := rfl
 refine enter (P := Tryd.prog) (f := 45) (fn := Tryd.f45) w [] 33 [] [.agg ([U64 pv, U64 ep, I64 (kd), SL ai ni ci, SL sa ns sc, U64 bl] ++ cu8 tg).toArray] Tryd.func45 rfl rfl (by simp) (CC (by simp) (by simp) (by simp)) ?_
 show JC _ _ _ [(0, .agg ([U64 pv, U64 ep, I64 (kd), SL ai ni ci, SL sa ns sc, U64 bl] ++ cu8 tg).toArray)] _
 refine AK (AD (A9 (CL (.agg ([U64 pv, U64 ep, I64 (kd), SL ai ni ci, SL sa ns sc, U64 bl] ++ cu8 tg).toArray) ([U64 pv, U64 ep, I64 (kd), SL ai ni ci, SL sa ns sc, U64 bl] ++ cu8 tg) rfl (by first | rfl | simp)) rfl ?_))
 rintro v1 L1 ⟨nb1, hnb1, rfl, rfl⟩
 show JL _ _ _ _ ((1, Ptr nb1 0) :: _) [⟨nb1, [U64 pv, U64 ep, I64 (kd), SL ai ni ci, SL sa ns sc, U64 bl] ++ cu8 tg, 38, (0, 0)⟩]
 refine AA _ (AH rfl) rfl ?_
 refine AN (AF (AK (AK (AD (AA (Ptr nb1 2) (AB 2 36 4 BL rfl CU rfl rfl) rfl ?_)))))
 refine AA (.agg #[I64 (kd), SL ai ni ci, SL sa ns sc, U64 bl]) (AI rfl (BV Tryd.isAgg36 CU rfl (AS 0 rfl (C6 (p := [U64 pv, U64 ep]) (q := cu8 tg) (vs := [I64 (kd), SL ai ni ci, SL sa ns sc, U64 bl]) (by first | rfl | (simp only [List.append_assoc, List.nil_append, List.append_nil, List.cons_append]; done)) rfl)))) rfl ?_
 refine B1 (BG 67 [.agg #[I64 (kd), SL ai ni ci, SL sa ns sc, U64 bl]] (.bool (RightO (kd) l ls bl)) (A6 _ Tryd.call67 rfl) (fun w1 hw1 => rright13_c (kd) ai ni ci l sa ns sc ls bl w1 hl (by omega) (by omega) (by omega) (CA hw1 rfl hv) hls (by omega) (by omega) (by omega) (CA hw1 rfl hs))) rfl ?_
 show JL _ _ _ _ ((5, .bool (RightO (kd) l ls bl)) :: _) [_]
 refine AA (.bool (!(RightO (kd) l ls bl))) (EP rfl) rfl ?_
 refine AN (AF (CI (!(RightO (kd) l ls bl)) rfl (fun hb1 => ?_) (fun hb1 => ?_)))
 ·
  have hb2 : (RightO (kd) l ls bl) = false := by simpa using hb1
  refine AK (AD (AA _ (AH rfl) rfl ?_))
  refine AN (AF (BK (A1 (BP [false] ?_))))
  show JQ _ _ _ _ []
  refine BJ (I64 2) (res1 Tryd.results45 (BH rfl)) fun w1 hw1 => ?_
  have e1 : mayN pv ep kd l ls bl = 2 := by
   unfold mayN
   first | rw [if_pos ‹RightO kd l ls bl = true›] | rw [if_neg (by simp [*])]
   all_goals simp [*]
  rw [e1]
  exact ⟨_, [], rfl, ⟨rfl, rfl⟩, hw1.sub (by simp) (by simp)⟩
 ·
  have hb3 : (RightO (kd) l ls bl) = true := by simpa using hb1
  refine BE (AF (AK (AK ?_)))
  by_cases hk1 : kd = 1
  ·
   have hpos := RightO_pos hb3 hk1
   rw [hls, hl] at hpos
   obtain ⟨x1, hx1⟩ : ∃ x, ls[0]? = some x := ⟨_, List.getElem?_eq_getElem (by rw [hls]; omega)⟩
   obtain ⟨bz1, oz1, hz1, hm1⟩ := E4 FB (by decide) hs hx1
   refine DH 33 1 [(0, Ptr nb1 2), (1, Ptr nb1 2), (2, I64 (kd)), (3, .bool (decide ((kd) = (1:Int)))), (4, .bool (decide ((kd) = (1:Int)))), (5, Ptr nb1 2), (6, Ptr nb1 4), (7, SL sa ns sc), (8, Ptr bz1 oz1), (9, Ptr bz1 oz1), (10, U64 x1.e), (11, Ptr nb1 1), (12, U64 ep), (13, .bool (decide (x1.e ≠ ep))), (14, .bool (decide (x1.e ≠ ep)))] B8 rfl (by decide +kernel) ?_
   refine DN ⟨[], [0, 1, 2, 3, 4, 5, 6, 7, 8, 9, 10, 11, 12, 13, 14], [], [0, 1, 2, 3, 4, 5, 6, 7, 8, 9, 10, 11, 12, 13, 14], []⟩ rfl rfl (by decide +kernel) rfl ⟨⟨_, rfl, AJ rfl (AB 2 36 4 BL rfl CU rfl rfl)⟩, ⟨_, rfl, AJ rfl (AB 0 3 1 BF rfl AR rfl rfl)⟩, ⟨_, rfl, AJ rfl (AI rfl (AQ AT (AS 0 rfl (AG (AE (AE (Seg.head)))))))⟩, ⟨_, rfl, AJ rfl (AU rfl rfl fun _ => BO _ _)⟩, CD rfl rfl rfl, ⟨_, rfl, BT 4 11 true _ rfl rfl rfl (decide_eq_true hk1) (AB 2 36 4 BL rfl CU rfl rfl)⟩, ⟨_, rfl, BT 4 11 true _ rfl rfl rfl (decide_eq_true hk1) (AB 2 34 1 BF rfl DF rfl rfl)⟩, ⟨_, rfl, BT 4 11 true _ rfl rfl rfl (decide_eq_true hk1) (AI rfl (AQ DW (AS 0 rfl (AG (AE (AE (AE (AE (Seg.head)))))))))⟩, ⟨_, rfl, BT 4 11 true _ rfl rfl rfl (decide_eq_true hk1) (B4 164 49 oz1 C9 C8 rfl hz1 rfl (by omega) (by omega) (by omega))⟩, ⟨_, rfl, BT 4 11 true _ rfl rfl rfl (decide_eq_true hk1) (AB 0 22 1 E7 rfl AX rfl rfl)⟩, ⟨_, rfl, BT 4 11 true _ rfl rfl rfl (decide_eq_true hk1) (AI rfl (AQ AY (CK (hm1.mem (by simp)) (AG (AG (Seg.head))) (by omega))))⟩, ⟨_, rfl, BT 4 11 true _ rfl rfl rfl (decide_eq_true hk1) (AB 1 22 1 BL rfl AX rfl rfl)⟩, ⟨_, rfl, BT 4 11 true _ rfl rfl rfl (decide_eq_true hk1) (AI rfl (AQ AY (AS 0 rfl (AG (AE (Seg.head))))))⟩, ⟨_, rfl, BT 4 11 true _ rfl rfl rfl (decide_eq_true hk1) (AU rfl rfl fun _ => EQ x1.e ep)⟩, ⟨_, rfl, AJ rfl (A2 _ rfl (decide_eq_true hk1) rfl)⟩, trivial⟩ ?_
   refine C7 (F' := [(21, .bool (decide (x1.e ≠ ep))), (1, Ptr nb1 0), (2, I64 0)]) (by kernel_rfl) ?_
   refine AF (CI (decide (x1.e ≠ ep)) rfl (fun hb4 => ?_) (fun hb4 => ?_))
   ·
    have hp4 : x1.e ≠ ep := of_decide_eq_true hb4
    refine AK (AD (AA _ (AH rfl) rfl ?_))
    refine AN (AF (BK (A1 (BP [false] ?_))))
    show JQ _ _ _ _ []
    refine BJ (I64 2) (res1 Tryd.results45 (BH rfl)) fun w1 hw1 => ?_
    have e1 : mayN pv ep kd l ls bl = 2 := by
     unfold mayN
     first | rw [if_pos ‹RightO kd l ls bl = true›] | rw [if_neg (by simp [*])]
     rw [F2 hx1]
     all_goals simp [*]
    rw [e1]
    exact ⟨_, [], rfl, ⟨rfl, rfl⟩, hw1.sub (by simp) (by simp)⟩
   ·
    have hp4 : ¬ (x1.e ≠ ep) := of_decide_eq_false hb4
    refine BE (AF (AK (AK (AD (AA (Ptr nb1 1) (AB 1 22 1 BL rfl AX rfl rfl) rfl ?_)))))
    refine AA (U64 ep) (AI rfl (AQ AY (AS 0 rfl (AG (AE (Seg.head)))))) rfl ?_
    refine B1 (BG 111 [U64 0, U64 ep] (.bool (RightB (0:UInt64) ep)) (A6 _ Tryd.call111 rfl) (fun w1 hw1 => rright_c (0:UInt64) ep w1 )) rfl ?_
    show JL _ _ _ _ ((24, .bool (RightB (0:UInt64) ep)) :: _) [_]
    refine AA (.bool (!(RightB (0:UInt64) ep))) (EP rfl) rfl ?_
    refine AA _ (AL rfl) rfl ?_
    rcases Bool.eq_false_or_eq_true (RightB (0:UInt64) ep) with hb5 | hb5
    ·
     refine AP 4 26 false _ (Ptr nb1 0) rfl rfl (by rw [show (RightB (0:UInt64) ep) = true from hb5] <;> rfl) (AB 0 22 1 BL rfl AX rfl rfl) rfl ?_
     refine AP 4 26 false _ (U64 pv) rfl rfl (by rw [show (RightB (0:UInt64) ep) = true from hb5] <;> rfl) (AI rfl (AQ AY (AS 0 rfl (AG (Seg.head))))) rfl ?_
     refine AP 4 26 false _ (Ptr nb1 1) rfl rfl (by rw [show (RightB (0:UInt64) ep) = true from hb5] <;> rfl) (AB 1 22 1 BL rfl AX rfl rfl) rfl ?_
     refine AP 4 26 false _ (U64 ep) rfl rfl (by rw [show (RightB (0:UInt64) ep) = true from hb5] <;> rfl) (AI rfl (AQ AY (AS 0 rfl (AG (AE (Seg.head)))))) rfl ?_
     refine AP 4 26 false _ (.bool (decide (ep ≤ pv))) rfl rfl (by rw [show (RightB (0:UInt64) ep) = true from hb5] <;> rfl) (AU rfl rfl fun _ => FQ pv ep) rfl ?_
     refine AA _ (A0 _ rfl (by rw [show (RightB (0:UInt64) ep) = true from hb5] <;> rfl) rfl) rfl ?_
     refine AN (AF (CI (decide (ep ≤ pv)) rfl (fun hb6 => ?_) (fun hb6 => ?_)))
     ·
      have hp6 : ep ≤ pv := of_decide_eq_true hb6
      refine AK (AD (AA _ (AH rfl) rfl ?_))
      refine AN (AF (BK (A1 (BP [false] ?_))))
      show JQ _ _ _ _ []
      refine BJ (I64 1) (res1 Tryd.results45 (BH rfl)) fun w1 hw1 => ?_
      have e1 : mayN pv ep kd l ls bl = 1 := by
       unfold mayN
       first | rw [if_pos ‹RightO kd l ls bl = true›] | rw [if_neg (by simp [*])]
       rw [F2 hx1]
       all_goals simp [*]
      rw [e1]
      exact ⟨_, [], rfl, ⟨rfl, rfl⟩, hw1.sub (by simp) (by simp)⟩
     ·
      have hp6 : ¬ (ep ≤ pv) := of_decide_eq_false hb6
      refine BE (AF (AK (AD (AA _ (AH rfl) rfl ?_))))
      refine AN (AF (BK (BP [false] ?_)))
      show JQ _ _ _ _ []
      refine BJ (I64 0) (res1 Tryd.results45 (BH rfl)) fun w1 hw1 => ?_
      have e1 : mayN pv ep kd l ls bl = 0 := by
       unfold mayN
       first | rw [if_pos ‹RightO kd l ls bl = true›] | rw [if_neg (by simp [*])]
       rw [F2 hx1]
       all_goals simp [*]
      rw [e1]
      exact ⟨_, [], rfl, ⟨rfl, rfl⟩, hw1.sub (by simp) (by simp)⟩
    ·
     refine AC 4 26 false _ rfl rfl (by rw [show (RightB (0:UInt64) ep) = false from hb5] <;> rfl) rfl ?_
     refine AC 4 26 false _ rfl rfl (by rw [show (RightB (0:UInt64) ep) = false from hb5] <;> rfl) rfl ?_
     refine AC 4 26 false _ rfl rfl (by rw [show (RightB (0:UInt64) ep) = false from hb5] <;> rfl) rfl ?_
     refine AC 4 26 false _ rfl rfl (by rw [show (RightB (0:UInt64) ep) = false from hb5] <;> rfl) rfl ?_
     refine AC 4 26 false _ rfl rfl (by rw [show (RightB (0:UInt64) ep) = false from hb5] <;> rfl) rfl ?_
     refine AA _ (A2 _ rfl (by rw [show (RightB (0:UInt64) ep) = false from hb5] <;> rfl) rfl) rfl ?_
     refine AN (AF (CO _ rfl rfl ?_))
     refine AK (AD (AA _ (AH rfl) rfl ?_))
     refine AN (AF (BK (A1 (BP [false] ?_))))
     show JQ _ _ _ _ []
     refine BJ (I64 1) (res1 Tryd.results45 (BH rfl)) fun w1 hw1 => ?_
     have e1 : mayN pv ep kd l ls bl = 1 := by
      unfold mayN
      first | rw [if_pos ‹RightO kd l ls bl = true›] | rw [if_neg (by simp [*])]
      rw [F2 hx1]
      all_goals simp [*]
     rw [e1]
     exact ⟨_, [], rfl, ⟨rfl, rfl⟩, hw1.sub (by simp) (by simp)⟩
  ·
   refine DH 33 1 [(0, Ptr nb1 2), (1, Ptr nb1 2), (2, I64 (kd)), (3, .bool (decide ((kd) = (1:Int)))), (4, .bool (decide ((kd) = (1:Int)))), (5, undef), (6, undef), (7, undef), (8, undef), (9, undef), (10, undef), (11, undef), (12, undef), (13, undef), (14, .bool false)] B8 rfl (by decide +kernel) ?_
   refine DN ⟨[], [0, 1, 2, 3, 4, 5, 6, 7, 8, 9, 10, 11, 12, 13, 14], [], [0, 1, 2, 3, 4, 5, 6, 7, 8, 9, 10, 11, 12, 13, 14], []⟩ rfl rfl (by decide +kernel) rfl ⟨⟨_, rfl, AJ rfl (AB 2 36 4 BL rfl CU rfl rfl)⟩, ⟨_, rfl, AJ rfl (AB 0 3 1 BF rfl AR rfl rfl)⟩, ⟨_, rfl, AJ rfl (AI rfl (AQ AT (AS 0 rfl (AG (AE (AE (Seg.head)))))))⟩, ⟨_, rfl, AJ rfl (AU rfl rfl fun _ => BO _ _)⟩, CD rfl rfl rfl, ⟨_, rfl, CS 4 11 true _ rfl rfl rfl (decide_eq_false hk1)⟩, ⟨_, rfl, CS 4 11 true _ rfl rfl rfl (decide_eq_false hk1)⟩, ⟨_, rfl, CS 4 11 true _ rfl rfl rfl (decide_eq_false hk1)⟩, ⟨_, rfl, CS 4 11 true _ rfl rfl rfl (decide_eq_false hk1)⟩, ⟨_, rfl, CS 4 11 true _ rfl rfl rfl (decide_eq_false hk1)⟩, ⟨_, rfl, CS 4 11 true _ rfl rfl rfl (decide_eq_false hk1)⟩, ⟨_, rfl, CS 4 11 true _ rfl rfl rfl (decide_eq_false hk1)⟩, ⟨_, rfl, CS 4 11 true _ rfl rfl rfl (decide_eq_false hk1)⟩, ⟨_, rfl, CS 4 11 true _ rfl rfl rfl (decide_eq_false hk1)⟩, ⟨_, rfl, AJ rfl (A0 _ rfl (decide_eq_false hk1) rfl)⟩, trivial⟩ ?_
   refine C7 (F' := [(21, .bool false), (1, Ptr nb1 0), (2, I64 0)]) (by kernel_rfl) ?_
   refine AF (BN _ rfl rfl ?_)
   refine BE (AF (AK (AK (AD (AA (Ptr nb1 1) (AB 1 22 1 BL rfl AX rfl rfl) rfl ?_)))))
   refine AA (U64 ep) (AI rfl (AQ AY (AS 0 rfl (AG (AE (Seg.head)))))) rfl ?_
   refine B1 (BG 111 [U64 0, U64 ep] (.bool (RightB (0:UInt64) ep)) (A6 _ Tryd.call111 rfl) (fun w1 hw1 => rright_c (0:UInt64) ep w1 )) rfl ?_
   show JL _ _ _ _ ((24, .bool (RightB (0:UInt64) ep)) :: _) [_]
   refine AA (.bool (!(RightB (0:UInt64) ep))) (EP rfl) rfl ?_
   refine AA _ (AL rfl) rfl ?_
   rcases Bool.eq_false_or_eq_true (RightB (0:UInt64) ep) with hb7 | hb7
   ·
    refine AP 4 26 false _ (Ptr nb1 0) rfl rfl (by rw [show (RightB (0:UInt64) ep) = true from hb7] <;> rfl) (AB 0 22 1 BL rfl AX rfl rfl) rfl ?_
    refine AP 4 26 false _ (U64 pv) rfl rfl (by rw [show (RightB (0:UInt64) ep) = true from hb7] <;> rfl) (AI rfl (AQ AY (AS 0 rfl (AG (Seg.head))))) rfl ?_
    refine AP 4 26 false _ (Ptr nb1 1) rfl rfl (by rw [show (RightB (0:UInt64) ep) = true from hb7] <;> rfl) (AB 1 22 1 BL rfl AX rfl rfl) rfl ?_
    refine AP 4 26 false _ (U64 ep) rfl rfl (by rw [show (RightB (0:UInt64) ep) = true from hb7] <;> rfl) (AI rfl (AQ AY (AS 0 rfl (AG (AE (Seg.head)))))) rfl ?_
    refine AP 4 26 false _ (.bool (decide (ep ≤ pv))) rfl rfl (by rw [show (RightB (0:UInt64) ep) = true from hb7] <;> rfl) (AU rfl rfl fun _ => FQ pv ep) rfl ?_
    refine AA _ (A0 _ rfl (by rw [show (RightB (0:UInt64) ep) = true from hb7] <;> rfl) rfl) rfl ?_
    refine AN (AF (CI (decide (ep ≤ pv)) rfl (fun hb8 => ?_) (fun hb8 => ?_)))
    ·
     have hp8 : ep ≤ pv := of_decide_eq_true hb8
     refine AK (AD (AA _ (AH rfl) rfl ?_))
     refine AN (AF (BK (A1 (BP [false] ?_))))
     show JQ _ _ _ _ []
     refine BJ (I64 1) (res1 Tryd.results45 (BH rfl)) fun w1 hw1 => ?_
     have e1 : mayN pv ep kd l ls bl = 1 := by
      unfold mayN
      first | rw [if_pos ‹RightO kd l ls bl = true›] | rw [if_neg (by simp [*])]
      all_goals simp [*]
     rw [e1]
     exact ⟨_, [], rfl, ⟨rfl, rfl⟩, hw1.sub (by simp) (by simp)⟩
    ·
     have hp8 : ¬ (ep ≤ pv) := of_decide_eq_false hb8
     refine BE (AF (AK (AD (AA _ (AH rfl) rfl ?_))))
     refine AN (AF (BK (BP [false] ?_)))
     show JQ _ _ _ _ []
     refine BJ (I64 0) (res1 Tryd.results45 (BH rfl)) fun w1 hw1 => ?_
     have e1 : mayN pv ep kd l ls bl = 0 := by
      unfold mayN
      first | rw [if_pos ‹RightO kd l ls bl = true›] | rw [if_neg (by simp [*])]
      all_goals simp [*]
     rw [e1]
     exact ⟨_, [], rfl, ⟨rfl, rfl⟩, hw1.sub (by simp) (by simp)⟩
   ·
    refine AC 4 26 false _ rfl rfl (by rw [show (RightB (0:UInt64) ep) = false from hb7] <;> rfl) rfl ?_
    refine AC 4 26 false _ rfl rfl (by rw [show (RightB (0:UInt64) ep) = false from hb7] <;> rfl) rfl ?_
    refine AC 4 26 false _ rfl rfl (by rw [show (RightB (0:UInt64) ep) = false from hb7] <;> rfl) rfl ?_
    refine AC 4 26 false _ rfl rfl (by rw [show (RightB (0:UInt64) ep) = false from hb7] <;> rfl) rfl ?_
    refine AC 4 26 false _ rfl rfl (by rw [show (RightB (0:UInt64) ep) = false from hb7] <;> rfl) rfl ?_
    refine AA _ (A2 _ rfl (by rw [show (RightB (0:UInt64) ep) = false from hb7] <;> rfl) rfl) rfl ?_
    refine AN (AF (CO _ rfl rfl ?_))
    refine AK (AD (AA _ (AH rfl) rfl ?_))
    refine AN (AF (BK (A1 (BP [false] ?_))))
    show JQ _ _ _ _ []
    refine BJ (I64 1) (res1 Tryd.results45 (BH rfl)) fun w1 hw1 => ?_
    have e1 : mayN pv ep kd l ls bl = 1 := by
     unfold mayN
     first | rw [if_pos ‹RightO kd l ls bl = true›] | rw [if_neg (by simp [*])]
     all_goals simp [*]
    rw [e1]
    exact ⟨_, [], rfl, ⟨rfl, rfl⟩, hw1.sub (by simp) (by simp)⟩
theorem may13_c (pv ep : UInt64) (kd : Int) (ai : Option Addr) (ni ci : Nat) (l : List UInt64) (sa : Option Addr) (ns sc : Nat) (ls : List SealR) (bl : UInt64) (tg : List UInt8)  (w : World) (hl : l.length = ni) (hnm : ni ≤ 2000000) (hnc : ni ≤ ci) (hcm : ci ≤ maxLen) (hv : RdV w ai (cu64 l)) (hls : ls.length = ns) (hnn : ns ≤ 2000000) (hnd : ns ≤ sc) (hcn : sc ≤ maxLen) (hs : RdV w sa (ls.flatMap sealC)) (htg : tg.length = 16)  : Calls Tryd.prog 128 #[.agg ([U64 pv, U64 ep, I64 (kd), SL ai ni ci, SL sa ns sc, U64 bl] ++ cu8 tg).toArray] w (Post w [] (fun v L => v = errV 50 (mayN pv ep kd l ls bl) ∧ L = [])) := by
 have hmx : maxLen = 9223372036854775807 := rfl
 refine enter (P := Tryd.prog) (f := 128) (fn := Tryd.f128) w [] 37 [] [.agg ([U64 pv, U64 ep, I64 (kd), SL ai ni ci, SL sa ns sc, U64 bl] ++ cu8 tg).toArray] Tryd.func128 rfl rfl (by simp) (CC (by simp) (by simp) (by simp)) ?_
 show JC _ _ _ [(0, .agg ([U64 pv, U64 ep, I64 (kd), SL ai ni ci, SL sa ns sc, U64 bl] ++ cu8 tg).toArray)] _
 refine AK (AD (A9 (CL (.agg ([U64 pv, U64 ep, I64 (kd), SL ai ni ci, SL sa ns sc, U64 bl] ++ cu8 tg).toArray) ([U64 pv, U64 ep, I64 (kd), SL ai ni ci, SL sa ns sc, U64 bl] ++ cu8 tg) rfl (by first | rfl | simp)) rfl ?_))
 rintro v1 L1 ⟨nb1, hnb1, rfl, rfl⟩
 show JL _ _ _ _ ((1, Ptr nb1 0) :: _) [⟨nb1, [U64 pv, U64 ep, I64 (kd), SL ai ni ci, SL sa ns sc, U64 bl] ++ cu8 tg, 29, (0, 0)⟩]
 refine AA _ (AH rfl) rfl ?_
 refine AN (AF (AK (B2 (AK (AK (AD (AA (Ptr nb1 2) (AB 2 26 4 A7 rfl B7 rfl rfl) rfl ?_)))))))
 refine AA (.agg #[I64 (kd), SL ai ni ci, SL sa ns sc, U64 bl]) (AI rfl (BV D9 B7 rfl (AS 0 rfl (C6 (p := [U64 pv, U64 ep]) (q := cu8 tg) (vs := [I64 (kd), SL ai ni ci, SL sa ns sc, U64 bl]) (by first | rfl | (simp only [List.append_assoc, List.nil_append, List.append_nil, List.cons_append]; done)) rfl)))) rfl ?_
 refine B1 (BG 69 [.agg #[I64 (kd), SL ai ni ci, SL sa ns sc, U64 bl]] (.bool (RightO (kd) l ls bl)) (A6 _ Tryd.call69 rfl) (fun w1 hw1 => right13_c (kd) ai ni ci l sa ns sc ls bl w1 hl (by omega) (by omega) (by omega) (CA hw1 rfl hv) hls (by omega) (by omega) (by omega) (CA hw1 rfl hs))) rfl ?_
 show JL _ _ _ _ ((6, .bool (RightO (kd) l ls bl)) :: _) [_]
 refine AA (.bool (!(RightO (kd) l ls bl))) (EP rfl) rfl ?_
 refine AA _ (AH rfl) rfl ?_
 refine AN (AF (CI (!(RightO (kd) l ls bl)) rfl (fun hb1 => ?_) (fun hb1 => ?_)))
 ·
  have hb2 : (RightO (kd) l ls bl) = false := by simpa using hb1
  refine BE (AF (CO _ rfl hb1 ?_))
  refine AK (AD (AA (.iface 50 (I64 2)) (Ev_iface Tryd.underlying50 rfl rfl) rfl ?_))
  refine AA _ (AH rfl) rfl ?_
  refine AN (AF (BK (CT (A1 (BP [false] ?_)))))
  show JQ _ _ _ _ []
  refine BJ (.iface 50 (I64 2)) (res1 Tryd.results128 (BH rfl)) fun w1 hw1 => ?_
  have e1 : mayN pv ep kd l ls bl = 2 := by
   unfold mayN
   first | rw [if_pos ‹RightO kd l ls bl = true›] | rw [if_neg (by simp [*])]
   all_goals simp [*]
  rw [e1]
  exact ⟨_, [], rfl, ⟨rfl, rfl⟩, hw1.sub (by simp) (by simp)⟩
 ·
  have hb3 : (RightO (kd) l ls bl) = true := by simpa using hb1
  by_cases hk1 : kd = 1
  ·
   have hpos := RightO_pos hb3 hk1
   rw [hls, hl] at hpos
   obtain ⟨x1, hx1⟩ : ∃ x, ls[0]? = some x := ⟨_, List.getElem?_eq_getElem (by rw [hls]; omega)⟩
   obtain ⟨bz1, oz1, hz1, hm1⟩ := E4 FB (by decide) hs hx1
   refine DH 37 1 [(0, Ptr nb1 2), (1, Ptr nb1 2), (2, I64 (kd)), (3, .bool (decide ((kd) = (1:Int)))), (4, .bool (decide ((kd) = (1:Int)))), (5, Ptr nb1 2), (6, Ptr nb1 4), (7, SL sa ns sc), (8, Ptr bz1 oz1), (9, Ptr bz1 oz1), (10, U64 x1.e), (11, Ptr nb1 1), (12, U64 ep), (13, .bool (decide (x1.e ≠ ep))), (14, .bool (decide (x1.e ≠ ep))), (15, .bool (decide (x1.e ≠ ep)))] B8 rfl (by decide +kernel) ?_
   refine DN ⟨[], [0, 1, 2, 3, 4, 5, 6, 7, 8, 9, 10, 11, 12, 13, 14, 15], [], [0, 1, 2, 3, 4, 5, 6, 7, 8, 9, 10, 11, 12, 13, 14, 15], []⟩ rfl rfl (by decide +kernel) rfl ⟨⟨_, rfl, AJ rfl (AB 2 26 4 A7 rfl B7 rfl rfl)⟩, ⟨_, rfl, AJ rfl (AB 0 3 1 BC rfl AR rfl rfl)⟩, ⟨_, rfl, AJ rfl (AI rfl (AQ AT (AS 0 rfl (AG (AE (AE (Seg.head)))))))⟩, ⟨_, rfl, AJ rfl (AU rfl rfl fun _ => BO _ _)⟩, CD rfl rfl rfl, ⟨_, rfl, BT 4 12 true _ rfl rfl rfl (decide_eq_true hk1) (AB 2 26 4 A7 rfl B7 rfl rfl)⟩, ⟨_, rfl, BT 4 12 true _ rfl rfl rfl (decide_eq_true hk1) (AB 2 24 1 BC rfl EG rfl rfl)⟩, ⟨_, rfl, BT 4 12 true _ rfl rfl rfl (decide_eq_true hk1) (AI rfl (AQ ES (AS 0 rfl (AG (AE (AE (AE (AE (Seg.head)))))))))⟩, ⟨_, rfl, BT 4 12 true _ rfl rfl rfl (decide_eq_true hk1) (B4 161 49 oz1 C3 CJ rfl hz1 rfl (by omega) (by omega) (by omega))⟩, ⟨_, rfl, BT 4 12 true _ rfl rfl rfl (decide_eq_true hk1) (AB 0 22 1 DQ rfl AX rfl rfl)⟩, ⟨_, rfl, BT 4 12 true _ rfl rfl rfl (decide_eq_true hk1) (AI rfl (AQ AY (CK (hm1.mem (by simp)) (AG (AG (Seg.head))) (by omega))))⟩, ⟨_, rfl, BT 4 12 true _ rfl rfl rfl (decide_eq_true hk1) (AB 1 22 1 A7 rfl AX rfl rfl)⟩, ⟨_, rfl, BT 4 12 true _ rfl rfl rfl (decide_eq_true hk1) (AI rfl (AQ AY (AS 0 rfl (AG (AE (Seg.head))))))⟩, ⟨_, rfl, BT 4 12 true _ rfl rfl rfl (decide_eq_true hk1) (AU rfl rfl fun _ => EQ x1.e ep)⟩, ⟨_, rfl, AJ rfl (A2 _ rfl (decide_eq_true hk1) rfl)⟩, ⟨_, rfl, AJ rfl (AH rfl)⟩, trivial⟩ ?_
   refine C7 (F' := [(3, .bool (decide (x1.e ≠ ep))), (1, Ptr nb1 0), (2, .nilIface)]) (by kernel_rfl) ?_
   refine AF (CI (decide (x1.e ≠ ep)) rfl (fun hb4 => ?_) (fun hb4 => ?_))
   ·
    have hp4 : x1.e ≠ ep := of_decide_eq_true hb4
    refine AK (AD (AA (.iface 50 (I64 2)) (Ev_iface Tryd.underlying50 rfl rfl) rfl ?_))
    refine AA _ (AH rfl) rfl ?_
    refine AN (AF (BK (CT (A1 (BP [false] ?_)))))
    show JQ _ _ _ _ []
    refine BJ (.iface 50 (I64 2)) (res1 Tryd.results128 (BH rfl)) fun w1 hw1 => ?_
    have e1 : mayN pv ep kd l ls bl = 2 := by
     unfold mayN
     first | rw [if_pos ‹RightO kd l ls bl = true›] | rw [if_neg (by simp [*])]
     rw [F2 hx1]
     all_goals simp [*]
    rw [e1]
    exact ⟨_, [], rfl, ⟨rfl, rfl⟩, hw1.sub (by simp) (by simp)⟩
   ·
    have hp4 : ¬ (x1.e ≠ ep) := of_decide_eq_false hb4
    refine AK (AD (AA (Ptr nb1 1) (AB 1 22 1 A7 rfl AX rfl rfl) rfl ?_))
    refine AA (U64 ep) (AI rfl (AQ AY (AS 0 rfl (AG (AE (Seg.head)))))) rfl ?_
    refine B1 (BG 133 [U64 0, U64 ep] (.bool (RightB (0:UInt64) ep)) (A6 _ Tryd.call133 rfl) (fun w1 hw1 => right_c (0:UInt64) ep w1 )) rfl ?_
    show JL _ _ _ _ ((27, .bool (RightB (0:UInt64) ep)) :: _) [_]
    refine AA (.bool (!(RightB (0:UInt64) ep))) (EP rfl) rfl ?_
    refine AA _ (AL rfl) rfl ?_
    rcases Bool.eq_false_or_eq_true (RightB (0:UInt64) ep) with hb5 | hb5
    ·
     refine AP 4 29 false _ (Ptr nb1 0) rfl rfl (by rw [show (RightB (0:UInt64) ep) = true from hb5] <;> rfl) (AB 0 22 1 A7 rfl AX rfl rfl) rfl ?_
     refine AP 4 29 false _ (U64 pv) rfl rfl (by rw [show (RightB (0:UInt64) ep) = true from hb5] <;> rfl) (AI rfl (AQ AY (AS 0 rfl (AG (Seg.head))))) rfl ?_
     refine AP 4 29 false _ (Ptr nb1 1) rfl rfl (by rw [show (RightB (0:UInt64) ep) = true from hb5] <;> rfl) (AB 1 22 1 A7 rfl AX rfl rfl) rfl ?_
     refine AP 4 29 false _ (U64 ep) rfl rfl (by rw [show (RightB (0:UInt64) ep) = true from hb5] <;> rfl) (AI rfl (AQ AY (AS 0 rfl (AG (AE (Seg.head)))))) rfl ?_
     refine AP 4 29 false _ (.bool (decide (ep ≤ pv))) rfl rfl (by rw [show (RightB (0:UInt64) ep) = true from hb5] <;> rfl) (AU rfl rfl fun _ => FQ pv ep) rfl ?_
     refine AA _ (A0 _ rfl (by rw [show (RightB (0:UInt64) ep) = true from hb5] <;> rfl) rfl) rfl ?_
     refine AA _ (AH rfl) rfl ?_
     refine AN (AF (CI (decide (ep ≤ pv)) rfl (fun hb6 => ?_) (fun hb6 => ?_)))
     ·
      have hp6 : ep ≤ pv := of_decide_eq_true hb6
      refine AK (AD (AA (.iface 50 (I64 1)) (Ev_iface Tryd.underlying50 rfl rfl) rfl ?_))
      refine AA _ (AH rfl) rfl ?_
      refine AN (AF (BK (CT (A1 (BP [false] ?_)))))
      show JQ _ _ _ _ []
      refine BJ (.iface 50 (I64 1)) (res1 Tryd.results128 (BH rfl)) fun w1 hw1 => ?_
      have e1 : mayN pv ep kd l ls bl = 1 := by
       unfold mayN
       first | rw [if_pos ‹RightO kd l ls bl = true›] | rw [if_neg (by simp [*])]
       rw [F2 hx1]
       all_goals simp [*]
      rw [e1]
      exact ⟨_, [], rfl, ⟨rfl, rfl⟩, hw1.sub (by simp) (by simp)⟩
     ·
      have hp6 : ¬ (ep ≤ pv) := of_decide_eq_false hb6
      refine BE (BY (AF (AK (AD (AA _ (AH rfl) rfl ?_)))))
      refine AN (AF (BK (BP [false] ?_)))
      show JQ _ _ _ _ []
      refine BJ (.nilIface) (res1 Tryd.results128 (BH rfl)) fun w1 hw1 => ?_
      have e1 : mayN pv ep kd l ls bl = 0 := by
       unfold mayN
       first | rw [if_pos ‹RightO kd l ls bl = true›] | rw [if_neg (by simp [*])]
       rw [F2 hx1]
       all_goals simp [*]
      rw [e1]
      exact ⟨_, [], rfl, ⟨rfl, rfl⟩, hw1.sub (by simp) (by simp)⟩
    ·
     refine AC 4 29 false _ rfl rfl (by rw [show (RightB (0:UInt64) ep) = false from hb5] <;> rfl) rfl ?_
     refine AC 4 29 false _ rfl rfl (by rw [show (RightB (0:UInt64) ep) = false from hb5] <;> rfl) rfl ?_
     refine AC 4 29 false _ rfl rfl (by rw [show (RightB (0:UInt64) ep) = false from hb5] <;> rfl) rfl ?_
     refine AC 4 29 false _ rfl rfl (by rw [show (RightB (0:UInt64) ep) = false from hb5] <;> rfl) rfl ?_
     refine AC 4 29 false _ rfl rfl (by rw [show (RightB (0:UInt64) ep) = false from hb5] <;> rfl) rfl ?_
     refine AA _ (A2 _ rfl (by rw [show (RightB (0:UInt64) ep) = false from hb5] <;> rfl) rfl) rfl ?_
     refine AA _ (AH rfl) rfl ?_
     refine AN (AF (CO _ rfl rfl ?_))
     refine AK (AD (AA (.iface 50 (I64 1)) (Ev_iface Tryd.underlying50 rfl rfl) rfl ?_))
     refine AA _ (AH rfl) rfl ?_
     refine AN (AF (BK (CT (A1 (BP [false] ?_)))))
     show JQ _ _ _ _ []
     refine BJ (.iface 50 (I64 1)) (res1 Tryd.results128 (BH rfl)) fun w1 hw1 => ?_
     have e1 : mayN pv ep kd l ls bl = 1 := by
      unfold mayN
      first | rw [if_pos ‹RightO kd l ls bl = true›] | rw [if_neg (by simp [*])]
      rw [F2 hx1]
      all_goals simp [*]
     rw [e1]
     exact ⟨_, [], rfl, ⟨rfl, rfl⟩, hw1.sub (by simp) (by simp)⟩
  ·
   refine DH 37 1 [(0, Ptr nb1 2), (1, Ptr nb1 2), (2, I64 (kd)), (3, .bool (decide ((kd) = (1:Int)))), (4, .bool (decide ((kd) = (1:Int)))), (5, undef), (6, undef), (7, undef), (8, undef), (9, undef), (10, undef), (11, undef), (12, undef), (13, undef), (14, .bool false), (15, .bool false)] B8 rfl (by decide +kernel) ?_
   refine DN ⟨[], [0, 1, 2, 3, 4, 5, 6, 7, 8, 9, 10, 11, 12, 13, 14, 15], [], [0, 1, 2, 3, 4, 5, 6, 7, 8, 9, 10, 11, 12, 13, 14, 15], []⟩ rfl rfl (by decide +kernel) rfl ⟨⟨_, rfl, AJ rfl (AB 2 26 4 A7 rfl B7 rfl rfl)⟩, ⟨_, rfl, AJ rfl (AB 0 3 1 BC rfl AR rfl rfl)⟩, ⟨_, rfl, AJ rfl (AI rfl (AQ AT (AS 0 rfl (AG (AE (AE (Seg.head)))))))⟩, ⟨_, rfl, AJ rfl (AU rfl rfl fun _ => BO _ _)⟩, CD rfl rfl rfl, ⟨_, rfl, CS 4 12 true _ rfl rfl rfl (decide_eq_false hk1)⟩, ⟨_, rfl, CS 4 12 true _ rfl rfl rfl (decide_eq_false hk1)⟩, ⟨_, rfl, CS 4 12 true _ rfl rfl rfl (decide_eq_false hk1)⟩, ⟨_, rfl, CS 4 12 true _ rfl rfl rfl (decide_eq_false hk1)⟩, ⟨_, rfl, CS 4 12 true _ rfl rfl rfl (decide_eq_false hk1)⟩, ⟨_, rfl, CS 4 12 true _ rfl rfl rfl (decide_eq_false hk1)⟩, ⟨_, rfl, CS 4 12 true _ rfl rfl rfl (decide_eq_false hk1)⟩, ⟨_, rfl, CS 4 12 true _ rfl rfl rfl (decide_eq_false hk1)⟩, ⟨_, rfl, CS 4 12 true _ rfl rfl rfl (decide_eq_false hk1)⟩, ⟨_, rfl, AJ rfl (A0 _ rfl (decide_eq_false hk1) rfl)⟩, ⟨_, rfl, AJ rfl (AH rfl)⟩, trivial⟩ ?_
   refine C7 (F' := [(3, .bool false), (1, Ptr nb1 0), (2, .nilIface)]) (by kernel_rfl) ?_
   refine AF (BN _ rfl rfl ?_)
   refine AK (AD (AA (Ptr nb1 1) (AB 1 22 1 A7 rfl AX rfl rfl) rfl ?_))
   refine AA (U64 ep) (AI rfl (AQ AY (AS 0 rfl (AG (AE (Seg.head)))))) rfl ?_
   refine B1 (BG 133 [U64 0, U64 ep] (.bool (RightB (0:UInt64) ep)) (A6 _ Tryd.call133 rfl) (fun w1 hw1 => right_c (0:UInt64) ep w1 )) rfl ?_
   show JL _ _ _ _ ((27, .bool (RightB (0:UInt64) ep)) :: _) [_]
   refine AA (.bool (!(RightB (0:UInt64) ep))) (EP rfl) rfl ?_
   refine AA _ (AL rfl) rfl ?_
   rcases Bool.eq_false_or_eq_true (RightB (0:UInt64) ep) with hb7 | hb7
   ·
    refine AP 4 29 false _ (Ptr nb1 0) rfl rfl (by rw [show (RightB (0:UInt64) ep) = true from hb7] <;> rfl) (AB 0 22 1 A7 rfl AX rfl rfl) rfl ?_
    refine AP 4 29 false _ (U64 pv) rfl rfl (by rw [show (RightB (0:UInt64) ep) = true from hb7] <;> rfl) (AI rfl (AQ AY (AS 0 rfl (AG (Seg.head))))) rfl ?_
    refine AP 4 29 false _ (Ptr nb1 1) rfl rfl (by rw [show (RightB (0:UInt64) ep) = true from hb7] <;> rfl) (AB 1 22 1 A7 rfl AX rfl rfl) rfl ?_
    refine AP 4 29 false _ (U64 ep) rfl rfl (by rw [show (RightB (0:UInt64) ep) = true from hb7] <;> rfl) (AI rfl (AQ AY (AS 0 rfl (AG (AE (Seg.head)))))) rfl ?_
    refine AP 4 29 false _ (.bool (decide (ep ≤ pv))) rfl rfl (by rw [show (RightB (0:UInt64) ep) = true from hb7] <;> rfl) (AU rfl rfl fun _ => FQ pv ep) rfl ?_
    refine AA _ (A0 _ rfl (by rw [show (RightB (0:UInt64) ep) = true from hb7] <;> rfl) rfl) rfl ?_
    refine AA _ (AH rfl) rfl ?_
    refine AN (AF (CI (decide (ep ≤ pv)) rfl (fun hb8 => ?_) (fun hb8 => ?_)))
    ·
     have hp8 : ep ≤ pv := of_decide_eq_true hb8
     refine AK (AD (AA (.iface 50 (I64 1)) (Ev_iface Tryd.underlying50 rfl rfl) rfl ?_))
     refine AA _ (AH rfl) rfl ?_
     refine AN (AF (BK (CT (A1 (BP [false] ?_)))))
     show JQ _ _ _ _ []
     refine BJ (.iface 50 (I64 1)) (res1 Tryd.results128 (BH rfl)) fun w1 hw1 => ?_
     have e1 : mayN pv ep kd l ls bl = 1 := by
      unfold mayN
      first | rw [if_pos ‹RightO kd l ls bl = true›] | rw [if_neg (by simp [*])]
      all_goals simp [*]
     rw [e1]
     exact ⟨_, [], rfl, ⟨rfl, rfl⟩, hw1.sub (by simp) (by simp)⟩
    ·
     have hp8 : ¬ (ep ≤ pv) := of_decide_eq_false hb8
     refine BE (BY (AF (AK (AD (AA _ (AH rfl) rfl ?_)))))
     refine AN (AF (BK (BP [false] ?_)))
     show JQ _ _ _ _ []
     refine BJ (.nilIface) (res1 Tryd.results128 (BH rfl)) fun w1 hw1 => ?_
     have e1 : mayN pv ep kd l ls bl = 0 := by
      unfold mayN
      first | rw [if_pos ‹RightO kd l ls bl = true›] | rw [if_neg (by simp [*])]
      all_goals simp [*]
     rw [e1]
     exact ⟨_, [], rfl, ⟨rfl, rfl⟩, hw1.sub (by simp) (by simp)⟩
   ·
    refine AC 4 29 false _ rfl rfl (by rw [show (RightB (0:UInt64) ep) = false from hb7] <;> rfl) rfl ?_
    refine AC 4 29 false _ rfl rfl (by rw [show (RightB (0:UInt64) ep) = false from hb7] <;> rfl) rfl ?_
    refine AC 4 29 false _ rfl rfl (by rw [show (RightB (0:UInt64) ep) = false from hb7] <;> rfl) rfl ?_
    refine AC 4 29 false _ rfl rfl (by rw [show (RightB (0:UInt64) ep) = false from hb7] <;> rfl) rfl ?_
    refine AC 4 29 false _ rfl rfl (by rw [show (RightB (0:UInt64) ep) = false from hb7] <;> rfl) rfl ?_
    refine AA _ (A2 _ rfl (by rw [show (RightB (0:UInt64) ep) = false from hb7] <;> rfl) rfl) rfl ?_
    refine AA _ (AH rfl) rfl ?_
    refine AN (AF (CO _ rfl rfl ?_))
    refine AK (AD (AA (.iface 50 (I64 1)) (Ev_iface Tryd.underlying50 rfl rfl) rfl ?_))
    refine AA _ (AH rfl) rfl ?_
    refine AN (AF (BK (CT (A1 (BP [false] ?_)))))
    show JQ _ _ _ _ []
    refine BJ (.iface 50 (I64 1)) (res1 Tryd.results128 (BH rfl)) fun w1 hw1 => ?_
    have e1 : mayN pv ep kd l ls bl = 1 := by
     unfold mayN
     first | rw [if_pos ‹RightO kd l ls bl = true›] | rw [if_neg (by simp [*])]
     all_goals simp [*]
    rw [e1]
    exact ⟨_, [], rfl, ⟨rfl, rfl⟩, hw1.sub (by simp) (by simp)⟩
theorem EU (nv : UInt64) (k : Nat) (w : World) (hk : k ≤ 8) : Calls Tryd.prog 88 #[U64 nv, I64 k] w (Post w [] (fun v L => ∃ g, v = Slc g 0 k k ∧ L = [⟨g, cu8 (numK k nv k), 5, (0, 0)⟩])) := by
 have hmx : maxLen = 9223372036854775807 := rfl
 refine enter w [] 24 [] [U64 nv, I64 k] Tryd.func88 rfl rfl (by simp) (CC (by simp) (by simp) (by simp)) ?_
 show JC _ _ _ [(0, U64 nv), (1, I64 k)] _
 refine AK (AD (AA _ (AH rfl) rfl ?_))
 refine AN (AF (AK (AD (AA _ (AL rfl) rfl ?_))))
 refine A9 (Step_make8 5 1 k k AW CM rfl rfl (by omega) (by omega) (by unfold maxLen; omega)) rfl ?_
 rintro v1 L1 ⟨nb1, hnb1, rfl, rfl⟩
 show JL _ _ _ _ ((8, Slc nb1 0 k k) :: _) [⟨nb1, cu8 (zr8 k), 5, (0, 0)⟩]
 refine AA _ (AH rfl) rfl ?_
 refine AN (AF (AK (AK (AD (AA _ (AL rfl) rfl ?_)))))
 refine AA (I64 ((k:Int) - 1)) (AU rfl rfl fun _ => EV _ _ ((k:Int) - 1) (by omega) (by omega)) rfl ?_
 refine AA _ (AH rfl) rfl ?_
 refine AN (AF (B2 (DV (ι := Nat × List UInt8 × UInt64) (fun ⟨j, o, y⟩ => [(4, SL none 0 0), (5, Slc nb1 0 k k), (6, I64 (-(j:Int) + (k:Int) - 1)), (0, U64 y)]) (fun ⟨j, o, y⟩ => [⟨nb1, cu8 o, 5, (0, 0)⟩]) (fun ⟨j, o, y⟩ => j ≤ k ∧ o = (rnK k nv j).1 ∧ y = (rnK k nv j).2 ∧ o.length = k) (fun ⟨j, o, y⟩ => k - j) (0, zr8 k, nv) ⟨by omega, by rw [rnK], by rw [rnK], B6 k⟩ (Sub.cons rfl (Sub.cons rfl (Sub.cons (some_i64 (by omega)) (Sub.all rfl)))) rfl ?_)))
 rintro ⟨j, o, y⟩ ⟨hx1, hx2, hx3, ho⟩
 show JC _ _ _ [(4, SL none 0 0), (5, Slc nb1 0 k k), (6, I64 (-(j:Int) + (k:Int) - 1)), (0, U64 y)] [⟨nb1, cu8 o, 5, (0, 0)⟩]
 refine AK (AK (AD (AA _ (AL rfl) rfl ?_)))
 refine AA (.bool (decide ((0:Int) ≤ (-(j:Int) + (k:Int) - 1)))) (AU rfl rfl fun _ => GB _ _) rfl ?_
 refine AN (AF (CI (decide ((0:Int) ≤ (-(j:Int) + (k:Int) - 1))) rfl (fun hb1 => ?_) (fun hb1 => ?_)))
 ·
  have hp1 : (0:Int) ≤ (-(j:Int) + (k:Int) - 1) := of_decide_eq_true hb1
  refine BE (AF (AK (B2 (AK (AD (AA _ (AL rfl) rfl ?_))))))
  refine AA _ (AL rfl) rfl ?_
  refine AA _ (AL rfl) rfl ?_
  refine AA (U64 (y % (256:UInt64))) (AU rfl rfl fun _ => bin_rem_u64 y (256:UInt64) (by decide)) rfl ?_
  refine AA (U8 ((y % (256:UInt64)).toUInt8)) (CX _ _ rfl fun _ => F5 (by rw [A3]; rfl) BA _) rfl ?_
  refine AA (Ptr nb1 (k - j - 1)) (Ev_indexSl 5 1 (k - j - 1) AW B5 rfl rfl (by omega) (by omega) (by omega)) rfl ?_
  have hl1 : (o.set (k - j - 1) ((y % (256:UInt64)).toUInt8)).length = k := by first | (rw [List.length_set]; exact ho) | simp [ho]
  refine B1 (FD 0 nb1 (k - j - 1) 1 (cu8 o) 5 (U8 ((y % (256:UInt64)).toUInt8)) ([U8 ((y % (256:UInt64)).toUInt8)]) (cu8 (o.set (k - j - 1) ((y % (256:UInt64)).toUInt8))) rfl rfl rfl rfl B5 rfl (by simp [Value.oneCell']) (by simp [ho]; try omega) (lay8 _ _ _ (by rw [ho]; omega))) rfl ?_
  show JL _ _ _ _ _ [⟨nb1, cu8 (o.set (k - j - 1) ((y % (256:UInt64)).toUInt8)), 5, (0, 0)⟩]
  refine AN (AF (AD (AA _ (AL rfl) rfl ?_)))
  refine AA (U64 (y / (256:UInt64))) (AU rfl rfl fun _ => bin_quo_u64 y (256:UInt64) (by decide)) rfl ?_
  refine AA _ (AH rfl) rfl ?_
  refine AN (BY (AF (AD (AA _ (AL rfl) rfl ?_))))
  refine AA (I64 (-(j:Int) + (k:Int) - 2)) (AU rfl rfl fun _ => EV _ _ (-(j:Int) + (k:Int) - 2) (by omega) (by omega)) rfl ?_
  refine AA _ (AH rfl) rfl ?_
  refine AN (DK (EM (j + 1, o.set (k - j - 1) ((y % (256:UInt64)).toUInt8), y / (256:UInt64)) ⟨by omega, by rw [rnK, ← hx2, ← hx3], by rw [rnK, ← hx3], hl1⟩ (by first | (simp; omega) | simp | (dsimp only; omega) | omega) (Sub.cons rfl (Sub.cons rfl (Sub.cons (some_i64 (by omega)) (Sub.all rfl)))) rfl))
 ·
  have hp1 : ¬ ((0:Int) ≤ (-(j:Int) + (k:Int) - 1)) := of_decide_eq_false hb1
  refine DU (A5 (A5 (CQ (AF (AK (AD (AA _ (AL rfl) rfl ?_)))))))
  refine AA _ (AH rfl) rfl ?_
  refine AN (AF (BK (BJ (Slc nb1 0 k k) (res1 Tryd.results88 (BH rfl)) fun w1 hw1 => ?_)))
  have e1 : j = k := by omega
  rw [hx2, e1, rnK_num k nv hk] at hw1
  exact ⟨_, _, rfl, ⟨_, rfl, rfl⟩, hw1.sub (by simp) (by simp)⟩
theorem put7_c (e : UInt64) (d t : List UInt8) (w : World) (hd : d.length = 32) (ht : t.length = 16) : Calls Tryd.prog 97 #[.agg ([U64 e] ++ cu8 d ++ cu8 t).toArray] w (Post w [] (fun v L => ∃ g sp cap, v = Slc g 0 56 cap ∧ L = [⟨g, cu8 (putL e d t) ++ sp, 5, (0, 0)⟩] ∧ sp.length = cap - 56 ∧ 56 ≤ cap ∧ cap ≤ maxLen)) := by
 have hmx : maxLen = 9223372036854775807 := rfl
 refine enter (P := Tryd.prog) (f := 97) (fn := Tryd.f97) w [] 25 [] [.agg ([U64 e] ++ cu8 d ++ cu8 t).toArray] Tryd.func97 rfl rfl (by simp) (CC (by simp) (by simp) (by simp)) ?_
 show JC _ _ _ [(0, .agg ([U64 e] ++ cu8 d ++ cu8 t).toArray)] _
 refine AK (AD (A9 (CL (.agg ([U64 e] ++ cu8 d ++ cu8 t).toArray) ([U64 e] ++ cu8 d ++ cu8 t) rfl (by first | rfl | simp)) rfl ?_))
 rintro v1 L1 ⟨nb1, hnb1, rfl, rfl⟩
 show JL _ _ _ _ ((1, Ptr nb1 0) :: _) [⟨nb1, [U64 e] ++ cu8 d ++ cu8 t, 161, (0, 0)⟩]
 refine AA _ (AH rfl) rfl ?_
 refine AN (AF (AK (AD (AA (.agg #[.nilIface, SL none 0 0]) (EB [] _ rfl (fun _ => by kernel_rfl)) rfl ?_))))
 refine A9 (CL (.agg #[.nilIface, SL none 0 0]) ([.nilIface, SL none 0 0]) rfl (by first | rfl | simp)) rfl ?_
 rintro v1 L1 ⟨nb2, hnb2, rfl, rfl⟩
 show JL _ _ _ _ ((7, Ptr nb2 0) :: _) [_, ⟨nb2, [.nilIface, SL none 0 0], 149, (0, 0)⟩]
 refine AA _ (AH rfl) rfl ?_
 refine AN (AF (AK (DH 25 5 [(0, Ptr nb2 0), (1, Ptr nb1 0), (2, U64 e), (4, Ptr nb1 1), (5, Slc nb1 1 32 32), (7, Ptr nb1 33), (8, Slc nb1 33 16 16)] B8 rfl (by decide +kernel) ?_)))
 refine CZ ⟨[], [0, 1, 2, 4, 5, 7, 8], [], [0, 1, 2, 4, 5, 7, 8], [3]⟩ 3 _ rfl rfl (by decide +kernel) rfl ⟨CD rfl rfl rfl, ⟨_, rfl, AJ rfl (AB 0 22 1 DQ rfl AX rfl rfl)⟩, ⟨_, rfl, AJ rfl (AI rfl (AQ AY (AS 0 rfl (AG (AG (Seg.head))))))⟩, ⟨_, rfl, AJ rfl (AB 1 159 32 DQ rfl ED rfl rfl)⟩, ⟨_, rfl, AJ rfl (FW 32 5 1 0 32 1 32 D0 B5 rfl rfl rfl (by omega) (by omega) (by omega) (by omega) (by omega) 32 (by omega))⟩, ⟨_, rfl, AJ rfl (AB 33 27 16 DQ rfl CN rfl rfl)⟩, ⟨_, rfl, AJ rfl (FW 16 5 1 0 16 33 16 C5 B5 rfl rfl rfl (by omega) (by omega) (by omega) (by omega) (by omega) 16 (by omega))⟩, trivial⟩ rfl (BI rfl (CB 81 _ [false, true] [nb2] _ (A6 [Ptr nb2 0, U64 e, I64 8] C4 rfl) rfl (fun w1 hw1 => numN_c nb2 8 .nilIface e 8 w1 (hw1.ent _ (List.mem_of_getElem? (i := 1) rfl)) (by unfold Szd; omega) (fun h => absurd h (by omega)) (by omega)))) ?_
 rintro v1 L1 ⟨_, ⟨rfl, nb3, sp1, cp1, rfl, hc1, hc2, hc3⟩, rfl⟩
 refine ⟨[], ?_⟩
 show DP _ _ _ _ _ _ _ _ [_, ⟨nb2, [.nilIface, Slc nb3 0 8 cp1], 149, (0, 0)⟩, ⟨nb3, cu8 (numK 8 e 8) ++ sp1, 5, (0, 0)⟩]
 refine CZ ⟨[3], [0, 1, 2, 4, 5, 7, 8], [0, 1, 2], [4, 5, 7, 8], [6]⟩ 6 _ rfl rfl (by decide +kernel) rfl ⟨⟨_, rfl, AJ rfl (AB 1 159 32 DQ rfl ED rfl rfl)⟩, ⟨_, rfl, AJ rfl (FW 32 5 1 0 32 1 32 D0 B5 rfl rfl rfl (by omega) (by omega) (by omega) (by omega) (by omega) 32 (by omega))⟩, ⟨_, rfl, AJ rfl (AB 33 27 16 DQ rfl CN rfl rfl)⟩, ⟨_, rfl, AJ rfl (FW 16 5 1 0 16 33 16 C5 B5 rfl rfl rfl (by omega) (by omega) (by omega) (by omega) (by omega) 16 (by omega))⟩, trivial⟩ rfl (BI rfl (CB 82 _ [false, true, true] [nb2, nb3] _ (A6 [Ptr nb2 0, Slc nb1 1 32 32] Tryd.call82 rfl) rfl (fun w1 hw1 => rawO_c nb2 nb3 8 cp1 40 .nilIface (numK 8 e 8) sp1 (some ⟨nb1, 1, none⟩) 32 32 d w1 (hw1.ent _ (List.mem_of_getElem? (i := 1) rfl)) (hw1.ent _ (List.mem_of_getElem? (i := 2) rfl)) (hw1.ne (i := 1) (j := 2) rfl rfl (by decide)) (show (numK 8 e 8).length = 8 from (A4 _ _ _)) hc1 hc2 hc3 (by omega) hd (by omega) (RdB.of hw1 (AS 0 rfl (AG (Seg.right 1 0 rfl rfl (AV _)))) (by intro _; simp only [List.mem_cons, List.not_mem_nil, or_false, not_or]; exact ⟨hw1.ne (i := 0) (j := 1) rfl rfl (by decide), hw1.ne (i := 0) (j := 2) rfl rfl (by decide)⟩)) (by omega)))) ?_
 rintro v1 L1 ⟨_, ⟨rfl, nb4, sp2, cp2, rfl, hc4, hc5, hc6⟩, rfl⟩
 refine ⟨[], ?_⟩
 show DP _ _ _ _ _ _ _ _ [_, ⟨nb2, [.nilIface, Slc nb4 0 40 cp2], 149, (0, 0)⟩, ⟨nb4, cu8 ((numK 8 e 8) ++ d) ++ sp2, 5, (0, 0)⟩]
 refine CZ ⟨[3, 6], [0, 1, 2, 4, 5, 7, 8], [0, 1, 2, 4, 5], [7, 8], [9]⟩ 9 _ rfl rfl (by decide +kernel) rfl ⟨⟨_, rfl, AJ rfl (AB 33 27 16 DQ rfl CN rfl rfl)⟩, ⟨_, rfl, AJ rfl (FW 16 5 1 0 16 33 16 C5 B5 rfl rfl rfl (by omega) (by omega) (by omega) (by omega) (by omega) 16 (by omega))⟩, trivial⟩ rfl (BI rfl (CB 82 _ [false, true, true] [nb2, nb4] _ (A6 [Ptr nb2 0, Slc nb1 33 16 16] Tryd.call82 rfl) rfl (fun w1 hw1 => rawO_c nb2 nb4 40 cp2 56 .nilIface ((numK 8 e 8) ++ d) sp2 (some ⟨nb1, 33, none⟩) 16 16 t w1 (hw1.ent _ (List.mem_of_getElem? (i := 1) rfl)) (hw1.ent _ (List.mem_of_getElem? (i := 2) rfl)) (hw1.ne (i := 1) (j := 2) rfl rfl (by decide)) (show ((numK 8 e 8) ++ d).length = 40 from (by rw [List.length_append, (show (numK 8 e 8).length = 8 from (A4 _ _ _)), hd] <;> omega)) hc4 hc5 hc6 (by omega) ht (by omega) (RdB.of hw1 (AS 0 rfl (Seg.right 33 0 (by simp [hd]) rfl (AV _))) (by intro _; simp only [List.mem_cons, List.not_mem_nil, or_false, not_or]; exact ⟨hw1.ne (i := 0) (j := 1) rfl rfl (by decide), hw1.ne (i := 0) (j := 2) rfl rfl (by decide)⟩)) (by omega)))) ?_
 rintro v1 L1 ⟨_, ⟨rfl, nb5, sp3, cp3, rfl, hc7, hc8, hc9⟩, rfl⟩
 refine ⟨[], ?_⟩
 show DP _ _ _ _ _ _ _ _ [_, ⟨nb2, [.nilIface, Slc nb5 0 56 cp3], 149, (0, 0)⟩, ⟨nb5, cu8 (((numK 8 e 8) ++ d) ++ t) ++ sp3, 5, (0, 0)⟩]
 refine CZ ⟨[3, 6, 9], [0, 1, 2, 4, 5, 7, 8], [0, 1, 2, 4, 5, 7, 8], [], [10]⟩ 10 _ rfl rfl (by decide +kernel) rfl trivial rfl (BI rfl (CG 83 [Ptr nb2 0] _ (A6 _ Tryd.call83 rfl) (fun w1 hw1 => doneO_c nb2 0 nb5 56 cp3 (((numK 8 e 8) ++ d) ++ t) w1 (RdA.of hw1 (AS 1 rfl (AV _)) (by simp)) rfl (show (((numK 8 e 8) ++ d) ++ t).length = 56 from (by rw [List.length_append, (show ((numK 8 e 8) ++ d).length = 40 from (by rw [List.length_append, (show (numK 8 e 8).length = 8 from (A4 _ _ _)), hd] <;> omega)), ht] <;> omega)) (by omega) (RdB.of hw1 (AS 2 rfl (AG (AV _))) (by simp))))) ?_
 rintro v1 L1 ⟨_, ⟨nb6, sp4, cp4, rfl, rfl, hc10, hc11, hc12⟩, rfl⟩
 refine ⟨[(11, .tuple #[Slc nb6 0 56 cp4, .nilIface]), (12, Slc nb6 0 56 cp4), (13, .nilIface), (14, Slc nb6 0 56 cp4), (15, .nilIface)], ?_⟩
 show DP _ _ _ _ _ _ _ _ [_, _, _, ⟨nb6, cu8 (((numK 8 e 8) ++ d) ++ t) ++ sp4, 5, (0, 0)⟩]
 refine DN ⟨[3, 6, 9, 10], [0, 1, 2, 4, 5, 7, 8, 11, 12, 13, 14, 15], [0, 1, 2, 4, 5, 7, 8], [11, 12, 13, 14, 15], []⟩ rfl rfl (by decide +kernel) rfl ⟨CD rfl rfl rfl, ⟨_, rfl, AJ rfl (B0 rfl rfl)⟩, ⟨_, rfl, AJ rfl (B0 rfl rfl)⟩, ⟨_, rfl, AJ rfl (AH rfl)⟩, ⟨_, rfl, AJ rfl (AH rfl)⟩, trivial⟩ ?_
 refine C7 (F' := [(4, Slc nb6 0 56 cp4), (5, .nilIface), (2, SL none 0 0)]) (by kernel_rfl) ?_
 refine AF (AK (AK (AD (AA _ (AL rfl) rfl ?_))))
 refine AA (.bool false) (E3 _ _ _ rfl rfl (fun _ => eqGuard_nn ..) fun _ => neq_if_nil_nil DZ) rfl ?_
 refine AN (AF (BN _ rfl rfl ?_))
 refine BE (AF (AK (AD (AA _ (AL rfl) rfl ?_))))
 refine AA _ (AH rfl) rfl ?_
 refine AN (AF (BK (BP [false, false, false, true] ?_)))
 show JQ _ _ _ _ [_]
 refine BJ (Slc nb6 0 56 cp4) (res1 Tryd.results97 (BH rfl)) fun w1 hw1 => ?_
 have hq : ((numK 8 e 8) ++ d) ++ t = putL e d t := by rw [putL]
 rw [hq] at hw1
 exact ⟨_, _, rfl, ⟨nb6, sp4, cp4, rfl, rfl, hc10, hc11, hc12⟩, hw1.sub (by simp) (by simp)⟩
theorem rput7_c (e : UInt64) (d t : List UInt8) (w : World) (hd : d.length = 32) (ht : t.length = 16) : Calls Tryd.prog 105 #[.agg ([U64 e] ++ cu8 d ++ cu8 t).toArray] w (Post w [] (fun v L => ∃ g sp cap, v = Slc g 0 56 cap ∧ L = [⟨g, cu8 (putL e d t) ++ sp, 5, (0, 0)⟩] ∧ sp.length = cap - 56 ∧ 56 ≤ cap ∧ cap ≤ maxLen)) := by
 have hmx : maxLen = 9223372036854775807 := rfl
 refine enter (P := Tryd.prog) (f := 105) (fn := Tryd.f105) w [] 15 [] [.agg ([U64 e] ++ cu8 d ++ cu8 t).toArray] Tryd.func105 rfl rfl (by simp) (CC (by simp) (by simp) (by simp)) ?_
 show JC _ _ _ [(0, .agg ([U64 e] ++ cu8 d ++ cu8 t).toArray)] _
 refine AK (AD (A9 (CL (.agg ([U64 e] ++ cu8 d ++ cu8 t).toArray) ([U64 e] ++ cu8 d ++ cu8 t) rfl (by first | rfl | simp)) rfl ?_))
 rintro v1 L1 ⟨nb1, hnb1, rfl, rfl⟩
 show JL _ _ _ _ ((1, Ptr nb1 0) :: _) [⟨nb1, [U64 e] ++ cu8 d ++ cu8 t, 164, (0, 0)⟩]
 refine AA _ (AH rfl) rfl ?_
 refine AN (AF (AK (AD (AA (Ptr nb1 0) (AB 0 22 1 E7 rfl AX rfl rfl) rfl ?_))))
 refine AA (U64 e) (AI rfl (AQ AY (AS 0 rfl (AG (AG (Seg.head)))))) rfl ?_
 refine A9 (CG 88 [U64 e, I64 8] _ (A6 _ D8 rfl) (fun w1 hw1 => EU e 8 w1 (by omega))) rfl ?_
 rintro v1 L1 ⟨_, ⟨nb2, rfl, rfl⟩, rfl⟩
 show JL _ _ _ _ ((6, Slc nb2 0 8 8) :: _) [_, ⟨nb2, cu8 (numK 8 e 8), 5, (0, 0)⟩]
 refine AA _ (AH rfl) rfl ?_
 refine AN (AF (AK (AD (AA _ (AL rfl) rfl ?_))))
 refine AA (Ptr nb1 1) (AB 1 159 32 E7 rfl ED rfl rfl) rfl ?_
 refine AA (Slc nb1 1 32 32) (FW 32 5 1 0 32 1 32 D0 B5 rfl rfl rfl (by omega) (by omega) (by omega) (by omega) (by omega) 32 (by omega)) rfl ?_
 refine A9 (CP 43 5 [false, true] (Slc nb2 0 8 8) 8 (numK 8 e 8) d (some ⟨nb1, 1, none⟩) 32 32 40 AW CM rfl (.inr ⟨nb2, [], 8, rfl, (by simp [take?, cu8, cu32, cu64]), (by first | exact (show (numK 8 e 8).length = 8 from A4 _ _ _) | simp [(show (numK 8 e 8).length = 8 from A4 _ _ _)]), (by simp), (by omega), (by unfold maxLen; omega)⟩) rfl (by first | exact hd | simp [hd]; try omega) (SrcAt.mem (AS 0 rfl (AG (Seg.right 1 0 rfl rfl (AV _))))) (by omega) (by unfold maxLen; omega) (by omega)) rfl ?_
 rintro v1 L1 ⟨nb3, sp1, cp1, hg1, rfl, rfl, ha1, ha2, ha3, ha4⟩
 show JL _ _ _ _ ((10, Slc nb3 0 40 cp1) :: _) [_, ⟨nb3, cu8 ((numK 8 e 8) ++ d) ++ sp1, 5, (0, 0)⟩]
 refine AA _ (AH rfl) rfl ?_
 refine AN (AF (AK (AD (AA _ (AL rfl) rfl ?_))))
 refine AA (Ptr nb1 33) (AB 33 27 16 E7 rfl CN rfl rfl) rfl ?_
 refine AA (Slc nb1 33 16 16) (FW 16 5 1 0 16 33 16 C5 B5 rfl rfl rfl (by omega) (by omega) (by omega) (by omega) (by omega) 16 (by omega)) rfl ?_
 refine A9 (CP 43 5 [false, true] (Slc nb3 0 40 cp1) 40 ((numK 8 e 8) ++ d) t (some ⟨nb1, 33, none⟩) 16 16 56 AW CM rfl (.inr ⟨nb3, sp1, cp1, rfl, rfl, (by first | exact ha1 | simp [ha1]), ha2, (by omega), (by omega)⟩) rfl (by first | exact ht | simp [ht]; try omega) (SrcAt.mem (AS 0 rfl (Seg.right 33 0 (by simp [hd]) rfl (AV _)))) (by omega) (by unfold maxLen; omega) (by omega)) rfl ?_
 rintro v1 L1 ⟨nb4, sp2, cp2, hg2, rfl, rfl, ha5, ha6, ha7, ha8⟩
 show JL _ _ _ _ ((14, Slc nb4 0 56 cp2) :: _) [_, ⟨nb4, cu8 (((numK 8 e 8) ++ d) ++ t) ++ sp2, 5, (0, 0)⟩]
 refine AA _ (AH rfl) rfl ?_
 refine AN (AF (BK (BP [false, true] ?_)))
 show JQ _ _ _ _ [_]
 refine BJ (Slc nb4 0 56 cp2) (res1 Tryd.results105 (BH rfl)) fun w1 hw1 => ?_
 have hq : ((numK 8 e 8) ++ d) ++ t = putL e d t := by rw [putL]
 rw [hq] at hw1
 exact ⟨_, _, rfl, ⟨nb4, sp2, cp2, rfl, rfl, ha6, ha7, ha8⟩, hw1.sub (by simp) (by simp)⟩
theorem text3_c (pv ep : UInt64) (k : Nat) (ai : Option Addr) (ni ci : Nat) (l : List UInt64) (sa : Option Addr) (ns sc : Nat) (ls : List SealR) (bl : UInt64) (tg : List UInt8)  (w : World) (hl : l.length = ni) (hnm : ni ≤ 2000000) (hnc : ni ≤ ci) (hcm : ci ≤ maxLen) (hv : RdV w ai (cu64 l)) (hls : ls.length = ns) (hnn : ns ≤ 2000000) (hnd : ns ≤ sc) (hcn : sc ≤ maxLen) (hs : RdV w sa (ls.flatMap sealC)) (htg : tg.length = 16) (hmay : mayN pv ep (k:Int) l ls bl = 0) (hk : k = 3)  : Calls Tryd.prog 114 #[.agg ([U64 pv, U64 ep, I64 k, SL ai ni ci, SL sa ns sc, U64 bl] ++ cu8 tg).toArray] w (Post w [] (fun v L => ∃ g sp cap, v = .tuple #[Slc g 0 25 cap, .nilIface] ∧ L = [⟨g, cu8 (tktT pv ep k l ls bl) ++ sp, 5, (0, 0)⟩] ∧ sp.length = cap - 25 ∧ 25 ≤ cap ∧ cap ≤ maxLen)) := by
 have hmx : maxLen = 9223372036854775807 := rfl
 refine enter (P := Tryd.prog) (f := 114) (fn := Tryd.f114) w [] 75 [] [.agg ([U64 pv, U64 ep, I64 k, SL ai ni ci, SL sa ns sc, U64 bl] ++ cu8 tg).toArray] Tryd.func114 rfl rfl (by simp) (CC (by simp) (by simp) (by simp)) ?_
 show JC _ _ _ [(0, .agg ([U64 pv, U64 ep, I64 k, SL ai ni ci, SL sa ns sc, U64 bl] ++ cu8 tg).toArray)] _
 refine AK (AD (A9 (CL (.agg ([U64 pv, U64 ep, I64 k, SL ai ni ci, SL sa ns sc, U64 bl] ++ cu8 tg).toArray) ([U64 pv, U64 ep, I64 k, SL ai ni ci, SL sa ns sc, U64 bl] ++ cu8 tg) rfl (by first | rfl | simp)) rfl ?_))
 rintro v1 L1 ⟨nb1, hnb1, rfl, rfl⟩
 show JL _ _ _ _ ((1, Ptr nb1 0) :: _) [⟨nb1, [U64 pv, U64 ep, I64 k, SL ai ni ci, SL sa ns sc, U64 bl] ++ cu8 tg, 29, (0, 0)⟩]
 refine AA _ (AH rfl) rfl ?_
 refine AA _ (AH rfl) rfl ?_
 refine AN (AF (AK (AK (AD (AA (.agg ([U64 pv, U64 ep, I64 k, SL ai ni ci, SL sa ns sc, U64 bl] ++ cu8 tg).toArray) (AI rfl (BV ER DJ (by simp [htg]) (AS 0 rfl (AV _)))) rfl ?_)))))
 refine B1 (BG 128 [.agg ([U64 pv, U64 ep, I64 k, SL ai ni ci, SL sa ns sc, U64 bl] ++ cu8 tg).toArray] (errV 50 (mayN pv ep ((k:Int)) l ls bl)) (A6 _ Tryd.call128 rfl) (fun w1 hw1 => may13_c pv ep ((k:Int)) ai ni ci l sa ns sc ls bl tg w1 hl (by omega) (by omega) (by omega) (CA hw1 rfl hv) hls (by omega) (by omega) (by omega) (CA hw1 rfl hs) htg)) rfl ?_
 show JL _ _ _ _ ((12, errV 50 (mayN pv ep ((k:Int)) l ls bl)) :: _) [_]
 refine AA _ (AH rfl) rfl ?_
 refine AN (AF (AK (AD (AA _ (AL rfl) rfl ?_))))
 refine AA (.bool (!(decide (mayN pv ep ((k:Int)) l ls bl = 0)))) (E3 _ _ _ rfl rfl (fun _ => F7 ..) fun _ => neq_errV DZ _ _) rfl ?_
 refine AN (AF (BN _ rfl (by rw [show (decide (mayN pv ep ((k:Int)) l ls bl = 0)) = true from (decide_eq_true hmay)] <;> rfl) ?_))
 refine BE (AF (AK (AD (AA (Ptr nb1 2) (AB 2 26 4 A7 rfl B7 rfl rfl) rfl ?_))))
 refine AA (.agg #[I64 k, SL ai ni ci, SL sa ns sc, U64 bl]) (AI rfl (BV D9 B7 rfl (AS 0 rfl (C6 (p := [U64 pv, U64 ep]) (q := cu8 tg) (vs := [I64 k, SL ai ni ci, SL sa ns sc, U64 bl]) (by first | rfl | (simp only [List.append_assoc, List.nil_append, List.append_nil, List.cons_append]; done)) rfl)))) rfl ?_
 refine A9 (DI _ ([I64 0, SL none 0 0, SL none 0 0, U64 0]) Tryd.zeroValue26 (by kernel_rfl)) rfl ?_
 rintro v1 L1 ⟨nb2, hnb2, rfl, rfl⟩
 show JL _ _ _ _ ((5, Ptr nb2 0) :: _) [_, ⟨nb2, [I64 0, SL none 0 0, SL none 0 0, U64 0], 26, (0, 0)⟩]
 refine B1 (CW 1 nb2 4 ([I64 0, SL none 0 0, SL none 0 0, U64 0]) 26 ([I64 k, SL ai ni ci, SL sa ns sc, U64 bl]) rfl rfl rfl B7 rfl (by simp [Value.oneCell']) (Nat.le_of_ble_eq_true rfl) (DC (by simp []))) rfl ?_
 show JL _ _ _ _ _ [_, ⟨nb2, [I64 k, SL ai ni ci, SL sa ns sc, U64 bl], 26, (0, 0)⟩]
 refine AN (AF (AK (AD (AA (.agg #[.nilIface, SL none 0 0]) (EB [] _ rfl (fun _ => by kernel_rfl)) rfl ?_))))
 refine A9 (CL (.agg #[.nilIface, SL none 0 0]) ([.nilIface, SL none 0 0]) rfl (by first | rfl | simp)) rfl ?_
 rintro v1 L1 ⟨nb3, hnb3, rfl, rfl⟩
 show JL _ _ _ _ ((19, Ptr nb3 0) :: _) [_, _, ⟨nb3, [.nilIface, SL none 0 0], 149, (0, 0)⟩]
 refine AA _ (AH rfl) rfl ?_
 refine AN (AF (AK (DH 75 4 [(0, Ptr nb3 0), (1, Ptr nb1 0), (2, U64 pv), (4, Ptr nb1 1), (5, U64 ep), (7, Ptr nb2 0), (8, I64 k), (9, U64 (UInt64.ofNat k))] B8 rfl (by decide +kernel) ?_)))
 refine CZ ⟨[], [0, 1, 2, 4, 5, 7, 8, 9], [], [0, 1, 2, 4, 5, 7, 8, 9], [3]⟩ 3 _ rfl rfl (by decide +kernel) rfl ⟨CD rfl rfl rfl, ⟨_, rfl, AJ rfl (AB 0 22 1 A7 rfl AX rfl rfl)⟩, ⟨_, rfl, AJ rfl (AI rfl (AQ AY (AS 0 rfl (AG (Seg.head)))))⟩, ⟨_, rfl, AJ rfl (AB 1 22 1 A7 rfl AX rfl rfl)⟩, ⟨_, rfl, AJ rfl (AI rfl (AQ AY (AS 0 rfl (AG (AE (Seg.head))))))⟩, ⟨_, rfl, AJ rfl (AB 0 3 1 BC rfl AR rfl rfl)⟩, ⟨_, rfl, AJ rfl (AI rfl (AQ AT (AS 1 rfl (Seg.head))))⟩, ⟨_, rfl, AJ rfl (CX _ _ rfl fun _ => EL (by rw [AZ]; rfl) A3 k _ (by omega))⟩, trivial⟩ rfl (BI rfl (CB 81 _ [false, false, true] [nb3] _ (A6 [Ptr nb3 0, U64 pv, I64 8] C4 rfl) rfl (fun w1 hw1 => numN_c nb3 8 .nilIface pv 8 w1 (hw1.ent _ (List.mem_of_getElem? (i := 2) rfl)) (by unfold Szd; omega) (fun h => absurd h (by omega)) (by omega)))) ?_
 rintro v1 L1 ⟨_, ⟨rfl, nb4, sp1, cp1, rfl, hc1, hc2, hc3⟩, rfl⟩
 refine ⟨[], ?_⟩
 show DP _ _ _ _ _ _ _ _ [_, _, ⟨nb3, [.nilIface, Slc nb4 0 8 cp1], 149, (0, 0)⟩, ⟨nb4, cu8 (numK 8 pv 8) ++ sp1, 5, (0, 0)⟩]
 refine CZ ⟨[3], [0, 1, 2, 4, 5, 7, 8, 9], [0, 1, 2], [4, 5, 7, 8, 9], [6]⟩ 6 _ rfl rfl (by decide +kernel) rfl ⟨⟨_, rfl, AJ rfl (AB 1 22 1 A7 rfl AX rfl rfl)⟩, ⟨_, rfl, AJ rfl (AI rfl (AQ AY (AS 0 rfl (AG (AE (Seg.head))))))⟩, ⟨_, rfl, AJ rfl (AB 0 3 1 BC rfl AR rfl rfl)⟩, ⟨_, rfl, AJ rfl (AI rfl (AQ AT (AS 1 rfl (Seg.head))))⟩, ⟨_, rfl, AJ rfl (CX _ _ rfl fun _ => EL (by rw [AZ]; rfl) A3 k _ (by omega))⟩, trivial⟩ rfl (BI rfl (CB 81 _ [false, false, true, true] [nb3, nb4] _ (A6 [Ptr nb3 0, U64 ep, I64 8] C4 rfl) rfl (fun w1 hw1 => FR nb3 nb4 8 cp1 16 .nilIface (numK 8 pv 8) sp1 ep 8 w1 (hw1.ent _ (List.mem_of_getElem? (i := 2) rfl)) (hw1.ent _ (List.mem_of_getElem? (i := 3) rfl)) (hw1.ne (i := 2) (j := 3) rfl rfl (by decide)) (show (numK 8 pv 8).length = 8 from (A4 _ _ _)) hc1 hc2 hc3 (by omega) (by unfold Szd; omega) (fun h => absurd h (by omega)) (by omega)))) ?_
 rintro v1 L1 ⟨_, ⟨rfl, nb5, sp2, cp2, rfl, hc4, hc5, hc6⟩, rfl⟩
 refine ⟨[], ?_⟩
 show DP _ _ _ _ _ _ _ _ [_, _, ⟨nb3, [.nilIface, Slc nb5 0 16 cp2], 149, (0, 0)⟩, ⟨nb5, cu8 ((numK 8 pv 8) ++ numK 8 ep 8) ++ sp2, 5, (0, 0)⟩]
 refine CZ ⟨[3, 6], [0, 1, 2, 4, 5, 7, 8, 9], [0, 1, 2, 4, 5], [7, 8, 9], [10]⟩ 10 _ rfl rfl (by decide +kernel) rfl ⟨⟨_, rfl, AJ rfl (AB 0 3 1 BC rfl AR rfl rfl)⟩, ⟨_, rfl, AJ rfl (AI rfl (AQ AT (AS 1 rfl (Seg.head))))⟩, ⟨_, rfl, AJ rfl (CX _ _ rfl fun _ => EL (by rw [AZ]; rfl) A3 k _ (by omega))⟩, trivial⟩ rfl (BI rfl (CB 81 _ [false, false, true, true] [nb3, nb5] _ (A6 [Ptr nb3 0, U64 (UInt64.ofNat k), I64 1] C4 rfl) rfl (fun w1 hw1 => FR nb3 nb5 16 cp2 17 .nilIface ((numK 8 pv 8) ++ numK 8 ep 8) sp2 (UInt64.ofNat k) 1 w1 (hw1.ent _ (List.mem_of_getElem? (i := 2) rfl)) (hw1.ent _ (List.mem_of_getElem? (i := 3) rfl)) (hw1.ne (i := 2) (j := 3) rfl rfl (by decide)) (show ((numK 8 pv 8) ++ numK 8 ep 8).length = 16 from (by rw [List.length_append, (show (numK 8 pv 8).length = 8 from (A4 _ _ _)), A4] <;> omega)) hc4 hc5 hc6 (by omega) (by unfold Szd; omega) (fun _ => shr8n (by omega)) (by omega)))) ?_
 rintro v1 L1 ⟨_, ⟨rfl, nb6, sp3, cp3, rfl, hc7, hc8, hc9⟩, rfl⟩
 refine ⟨[], ?_⟩
 show DP _ _ _ _ _ _ _ _ [_, _, ⟨nb3, [.nilIface, Slc nb6 0 17 cp3], 149, (0, 0)⟩, ⟨nb6, cu8 (((numK 8 pv 8) ++ numK 8 ep 8) ++ numK 1 (UInt64.ofNat k) 1) ++ sp3, 5, (0, 0)⟩]
 refine DN ⟨[3, 6, 10], [0, 1, 2, 4, 5, 7, 8, 9], [0, 1, 2, 4, 5, 7, 8, 9], [], []⟩ rfl rfl (by decide +kernel) rfl trivial ?_
 refine C7 (F' := [(2, SL none 0 0), (3, .nilIface), (5, Ptr nb2 0), (6, Ptr nb3 0)]) (by kernel_rfl) ?_
 refine AF (AK (AK (AD (AA (Ptr nb2 0) (AB 0 3 1 BC rfl AR rfl rfl) rfl ?_))))
 refine AA (I64 k) (AI rfl (AQ AT (AS 1 rfl (Seg.head)))) rfl ?_
 refine AA (.bool (decide (((k:Int)) = (3:Int)))) (AU rfl rfl fun _ => BO _ _) rfl ?_
 refine AN (AF (CO _ rfl (decide_eq_true (by omega)) ?_))
 refine AK (AD (AA _ (AL rfl) rfl ?_))
 refine AA (Ptr nb2 3) (AB 3 22 1 BC rfl AX rfl rfl) rfl ?_
 refine AA (U64 bl) (AI rfl (AQ AY (AS 1 rfl (AE (AE (AE (Seg.head))))))) rfl ?_
 refine A9 (CB 81 _ [false, false, true, true] [nb3, nb6] _ (A6 [Ptr nb3 0, U64 bl, I64 8] C4 rfl) rfl (fun w1 hw1 => FR nb3 nb6 17 cp3 25 .nilIface (((numK 8 pv 8) ++ numK 8 ep 8) ++ numK 1 (UInt64.ofNat k) 1) sp3 bl 8 w1 (hw1.ent _ (List.mem_of_getElem? (i := 2) rfl)) (hw1.ent _ (List.mem_of_getElem? (i := 3) rfl)) (hw1.ne (i := 2) (j := 3) rfl rfl (by decide)) (show (((numK 8 pv 8) ++ numK 8 ep 8) ++ numK 1 (UInt64.ofNat k) 1).length = 17 from (by rw [List.length_append, (show ((numK 8 pv 8) ++ numK 8 ep 8).length = 16 from (by rw [List.length_append, (show (numK 8 pv 8).length = 8 from (A4 _ _ _)), A4] <;> omega)), A4] <;> omega)) hc7 hc8 hc9 (by omega) (by unfold Szd; omega) (fun h => absurd h (by omega)) (by omega))) rfl ?_
 rintro v1 L1 ⟨_, ⟨rfl, nb7, sp4, cp4, rfl, hc10, hc11, hc12⟩, rfl⟩
 show JL _ _ _ _ ((37, Ptr nb3 0) :: _) [_, _, ⟨nb3, [.nilIface, Slc nb7 0 25 cp4], 149, (0, 0)⟩, ⟨nb7, cu8 ((((numK 8 pv 8) ++ numK 8 ep 8) ++ numK 1 (UInt64.ofNat k) 1) ++ numK 8 bl 8) ++ sp4, 5, (0, 0)⟩]
 refine A9 (CG 83 [Ptr nb3 0] _ (A6 _ Tryd.call83 rfl) (fun w1 hw1 => doneO_c nb3 0 nb7 25 cp4 ((((numK 8 pv 8) ++ numK 8 ep 8) ++ numK 1 (UInt64.ofNat k) 1) ++ numK 8 bl 8) w1 (RdA.of hw1 (AS 2 rfl (AV _)) (by simp)) rfl (show ((((numK 8 pv 8) ++ numK 8 ep 8) ++ numK 1 (UInt64.ofNat k) 1) ++ numK 8 bl 8).length = 25 from (by rw [List.length_append, (show (((numK 8 pv 8) ++ numK 8 ep 8) ++ numK 1 (UInt64.ofNat k) 1).length = 17 from (by rw [List.length_append, (show ((numK 8 pv 8) ++ numK 8 ep 8).length = 16 from (by rw [List.length_append, (show (numK 8 pv 8).length = 8 from (A4 _ _ _)), A4] <;> omega)), A4] <;> omega)), A4] <;> omega)) (by omega) (RdB.of hw1 (AS 3 rfl (AG (AV _))) (by simp)))) rfl ?_
 rintro v1 L1 ⟨_, ⟨nb8, sp5, cp5, rfl, rfl, hc13, hc14, hc15⟩, rfl⟩
 show JL _ _ _ _ ((38, .tuple #[Slc nb8 0 25 cp5, .nilIface]) :: _) [_, _, _, _, ⟨nb8, cu8 ((((numK 8 pv 8) ++ numK 8 ep 8) ++ numK 1 (UInt64.ofNat k) 1) ++ numK 8 bl 8) ++ sp5, 5, (0, 0)⟩]
 refine AA _ (B0 rfl rfl) rfl ?_
 refine AA _ (B0 rfl rfl) rfl ?_
 refine AA _ (AH rfl) rfl ?_
 refine AA _ (AH rfl) rfl ?_
 refine AN (AF (BK (A1 (BP [false, false, false, false, true] ?_))))
 show JQ _ _ _ _ [_]
 refine BJ (.tuple #[Slc nb8 0 25 cp5, .nilIface]) (res2 Tryd.results114 (BH rfl) (BH rfl)) fun w1 hw1 => ?_
 have hq : (((numK 8 pv 8) ++ numK 8 ep 8) ++ numK 1 (UInt64.ofNat k) 1) ++ numK 8 bl 8 = tktT pv ep k l ls bl := by
  unfold tktT
  rw [if_pos hk]
 rw [hq] at hw1
 exact ⟨_, _, rfl, ⟨nb8, sp5, cp5, rfl, rfl, hc13, hc14, hc15⟩, hw1.sub (by simp) (by simp)⟩
theorem text12_c (pv ep : UInt64) (k : Nat) (ai : Option Addr) (ni ci : Nat) (l : List UInt64) (sa : Option Addr) (ns sc : Nat) (ls : List SealR) (bl : UInt64) (tg : List UInt8) (tot : Nat)  (w : World) (hl : l.length = ni) (hnm : ni ≤ 2000000) (hnc : ni ≤ ci) (hcm : ci ≤ maxLen) (hv : RdV w ai (cu64 l)) (hls : ls.length = ns) (hnn : ns ≤ 2000000) (hnd : ns ≤ sc) (hcn : sc ≤ maxLen) (hs : RdV w sa (ls.flatMap sealC)) (htg : tg.length = 16) (hmay : mayN pv ep (k:Int) l ls bl = 0) (hk : k = 1 ∨ k = 2) (hsm : ns ≤ 300) (htot : 18 + 4*ni + 56*ns = tot)  : Calls Tryd.prog 114 #[.agg ([U64 pv, U64 ep, I64 k, SL ai ni ci, SL sa ns sc, U64 bl] ++ cu8 tg).toArray] w (Post w [] (fun v L => ∃ g sp cap, v = .tuple #[Slc g 0 tot cap, .nilIface] ∧ L = [⟨g, cu8 (tktT pv ep k l ls bl) ++ sp, 5, (0, 0)⟩] ∧ sp.length = cap - tot ∧ tot ≤ cap ∧ cap ≤ maxLen)) := by
 have hmx : maxLen = 9223372036854775807 := rfl
 have hRO := mayN_right hmay
 have hRI := RightO_idx hRO (by omega)
 have hRp := RightI_pos hRI
 rw [hl] at hRp
 refine enter (P := Tryd.prog) (f := 114) (fn := Tryd.f114) w [] 75 [] [.agg ([U64 pv, U64 ep, I64 k, SL ai ni ci, SL sa ns sc, U64 bl] ++ cu8 tg).toArray] Tryd.func114 rfl rfl (by simp) (CC (by simp) (by simp) (by simp)) ?_
 show JC _ _ _ [(0, .agg ([U64 pv, U64 ep, I64 k, SL ai ni ci, SL sa ns sc, U64 bl] ++ cu8 tg).toArray)] _
 refine AK (AD (A9 (CL (.agg ([U64 pv, U64 ep, I64 k, SL ai ni ci, SL sa ns sc, U64 bl] ++ cu8 tg).toArray) ([U64 pv, U64 ep, I64 k, SL ai ni ci, SL sa ns sc, U64 bl] ++ cu8 tg) rfl (by first | rfl | simp)) rfl ?_))
 rintro v1 L1 ⟨nb1, hnb1, rfl, rfl⟩
 show JL _ _ _ _ ((1, Ptr nb1 0) :: _) [⟨nb1, [U64 pv, U64 ep, I64 k, SL ai ni ci, SL sa ns sc, U64 bl] ++ cu8 tg, 29, (0, 0)⟩]
 refine AA _ (AH rfl) rfl ?_
 refine AA _ (AH rfl) rfl ?_
 refine AN (AF (AK (AK (AD (AA (.agg ([U64 pv, U64 ep, I64 k, SL ai ni ci, SL sa ns sc, U64 bl] ++ cu8 tg).toArray) (AI rfl (BV ER DJ (by simp [htg]) (AS 0 rfl (AV _)))) rfl ?_)))))
 refine B1 (BG 128 [.agg ([U64 pv, U64 ep, I64 k, SL ai ni ci, SL sa ns sc, U64 bl] ++ cu8 tg).toArray] (errV 50 (mayN pv ep ((k:Int)) l ls bl)) (A6 _ Tryd.call128 rfl) (fun w1 hw1 => may13_c pv ep ((k:Int)) ai ni ci l sa ns sc ls bl tg w1 hl (by omega) (by omega) (by omega) (CA hw1 rfl hv) hls (by omega) (by omega) (by omega) (CA hw1 rfl hs) htg)) rfl ?_
 show JL _ _ _ _ ((12, errV 50 (mayN pv ep ((k:Int)) l ls bl)) :: _) [_]
 refine AA _ (AH rfl) rfl ?_
 refine AN (AF (AK (AD (AA _ (AL rfl) rfl ?_))))
 refine AA (.bool (!(decide (mayN pv ep ((k:Int)) l ls bl = 0)))) (E3 _ _ _ rfl rfl (fun _ => F7 ..) fun _ => neq_errV DZ _ _) rfl ?_
 refine AN (AF (BN _ rfl (by rw [show (decide (mayN pv ep ((k:Int)) l ls bl = 0)) = true from (decide_eq_true hmay)] <;> rfl) ?_))
 refine BE (AF (AK (AD (AA (Ptr nb1 2) (AB 2 26 4 A7 rfl B7 rfl rfl) rfl ?_))))
 refine AA (.agg #[I64 k, SL ai ni ci, SL sa ns sc, U64 bl]) (AI rfl (BV D9 B7 rfl (AS 0 rfl (C6 (p := [U64 pv, U64 ep]) (q := cu8 tg) (vs := [I64 k, SL ai ni ci, SL sa ns sc, U64 bl]) (by first | rfl | (simp only [List.append_assoc, List.nil_append, List.append_nil, List.cons_append]; done)) rfl)))) rfl ?_
 refine A9 (DI _ ([I64 0, SL none 0 0, SL none 0 0, U64 0]) Tryd.zeroValue26 (by kernel_rfl)) rfl ?_
 rintro v1 L1 ⟨nb2, hnb2, rfl, rfl⟩
 show JL _ _ _ _ ((5, Ptr nb2 0) :: _) [_, ⟨nb2, [I64 0, SL none 0 0, SL none 0 0, U64 0], 26, (0, 0)⟩]
 refine B1 (CW 1 nb2 4 ([I64 0, SL none 0 0, SL none 0 0, U64 0]) 26 ([I64 k, SL ai ni ci, SL sa ns sc, U64 bl]) rfl rfl rfl B7 rfl (by simp [Value.oneCell']) (Nat.le_of_ble_eq_true rfl) (DC (by simp []))) rfl ?_
 show JL _ _ _ _ _ [_, ⟨nb2, [I64 k, SL ai ni ci, SL sa ns sc, U64 bl], 26, (0, 0)⟩]
 refine AN (AF (AK (AD (AA (.agg #[.nilIface, SL none 0 0]) (EB [] _ rfl (fun _ => by kernel_rfl)) rfl ?_))))
 refine A9 (CL (.agg #[.nilIface, SL none 0 0]) ([.nilIface, SL none 0 0]) rfl (by first | rfl | simp)) rfl ?_
 rintro v1 L1 ⟨nb3, hnb3, rfl, rfl⟩
 show JL _ _ _ _ ((19, Ptr nb3 0) :: _) [_, _, ⟨nb3, [.nilIface, SL none 0 0], 149, (0, 0)⟩]
 refine AA _ (AH rfl) rfl ?_
 refine AN (AF (AK (DH 75 4 [(0, Ptr nb3 0), (1, Ptr nb1 0), (2, U64 pv), (4, Ptr nb1 1), (5, U64 ep), (7, Ptr nb2 0), (8, I64 k), (9, U64 (UInt64.ofNat k))] B8 rfl (by decide +kernel) ?_)))
 refine CZ ⟨[], [0, 1, 2, 4, 5, 7, 8, 9], [], [0, 1, 2, 4, 5, 7, 8, 9], [3]⟩ 3 _ rfl rfl (by decide +kernel) rfl ⟨CD rfl rfl rfl, ⟨_, rfl, AJ rfl (AB 0 22 1 A7 rfl AX rfl rfl)⟩, ⟨_, rfl, AJ rfl (AI rfl (AQ AY (AS 0 rfl (AG (Seg.head)))))⟩, ⟨_, rfl, AJ rfl (AB 1 22 1 A7 rfl AX rfl rfl)⟩, ⟨_, rfl, AJ rfl (AI rfl (AQ AY (AS 0 rfl (AG (AE (Seg.head))))))⟩, ⟨_, rfl, AJ rfl (AB 0 3 1 BC rfl AR rfl rfl)⟩, ⟨_, rfl, AJ rfl (AI rfl (AQ AT (AS 1 rfl (Seg.head))))⟩, ⟨_, rfl, AJ rfl (CX _ _ rfl fun _ => EL (by rw [AZ]; rfl) A3 k _ (by omega))⟩, trivial⟩ rfl (BI rfl (CB 81 _ [false, false, true] [nb3] _ (A6 [Ptr nb3 0, U64 pv, I64 8] C4 rfl) rfl (fun w1 hw1 => numN_c nb3 8 .nilIface pv 8 w1 (hw1.ent _ (List.mem_of_getElem? (i := 2) rfl)) (by unfold Szd; omega) (fun h => absurd h (by omega)) (by omega)))) ?_
 rintro v1 L1 ⟨_, ⟨rfl, nb4, sp1, cp1, rfl, hc1, hc2, hc3⟩, rfl⟩
 refine ⟨[], ?_⟩
 show DP _ _ _ _ _ _ _ _ [_, _, ⟨nb3, [.nilIface, Slc nb4 0 8 cp1], 149, (0, 0)⟩, ⟨nb4, cu8 (numK 8 pv 8) ++ sp1, 5, (0, 0)⟩]
 refine CZ ⟨[3], [0, 1, 2, 4, 5, 7, 8, 9], [0, 1, 2], [4, 5, 7, 8, 9], [6]⟩ 6 _ rfl rfl (by decide +kernel) rfl ⟨⟨_, rfl, AJ rfl (AB 1 22 1 A7 rfl AX rfl rfl)⟩, ⟨_, rfl, AJ rfl (AI rfl (AQ AY (AS 0 rfl (AG (AE (Seg.head))))))⟩, ⟨_, rfl, AJ rfl (AB 0 3 1 BC rfl AR rfl rfl)⟩, ⟨_, rfl, AJ rfl (AI rfl (AQ AT (AS 1 rfl (Seg.head))))⟩, ⟨_, rfl, AJ rfl (CX _ _ rfl fun _ => EL (by rw [AZ]; rfl) A3 k _ (by omega))⟩, trivial⟩ rfl (BI rfl (CB 81 _ [false, false, true, true] [nb3, nb4] _ (A6 [Ptr nb3 0, U64 ep, I64 8] C4 rfl) rfl (fun w1 hw1 => FR nb3 nb4 8 cp1 16 .nilIface (numK 8 pv 8) sp1 ep 8 w1 (hw1.ent _ (List.mem_of_getElem? (i := 2) rfl)) (hw1.ent _ (List.mem_of_getElem? (i := 3) rfl)) (hw1.ne (i := 2) (j := 3) rfl rfl (by decide)) (show (numK 8 pv 8).length = 8 from (A4 _ _ _)) hc1 hc2 hc3 (by omega) (by unfold Szd; omega) (fun h => absurd h (by omega)) (by omega)))) ?_
 rintro v1 L1 ⟨_, ⟨rfl, nb5, sp2, cp2, rfl, hc4, hc5, hc6⟩, rfl⟩
 refine ⟨[], ?_⟩
 show DP _ _ _ _ _ _ _ _ [_, _, ⟨nb3, [.nilIface, Slc nb5 0 16 cp2], 149, (0, 0)⟩, ⟨nb5, cu8 ((numK 8 pv 8) ++ numK 8 ep 8) ++ sp2, 5, (0, 0)⟩]
 refine CZ ⟨[3, 6], [0, 1, 2, 4, 5, 7, 8, 9], [0, 1, 2, 4, 5], [7, 8, 9], [10]⟩ 10 _ rfl rfl (by decide +kernel) rfl ⟨⟨_, rfl, AJ rfl (AB 0 3 1 BC rfl AR rfl rfl)⟩, ⟨_, rfl, AJ rfl (AI rfl (AQ AT (AS 1 rfl (Seg.head))))⟩, ⟨_, rfl, AJ rfl (CX _ _ rfl fun _ => EL (by rw [AZ]; rfl) A3 k _ (by omega))⟩, trivial⟩ rfl (BI rfl (CB 81 _ [false, false, true, true] [nb3, nb5] _ (A6 [Ptr nb3 0, U64 (UInt64.ofNat k), I64 1] C4 rfl) rfl (fun w1 hw1 => FR nb3 nb5 16 cp2 17 .nilIface ((numK 8 pv 8) ++ numK 8 ep 8) sp2 (UInt64.ofNat k) 1 w1 (hw1.ent _ (List.mem_of_getElem? (i := 2) rfl)) (hw1.ent _ (List.mem_of_getElem? (i := 3) rfl)) (hw1.ne (i := 2) (j := 3) rfl rfl (by decide)) (show ((numK 8 pv 8) ++ numK 8 ep 8).length = 16 from (by rw [List.length_append, (show (numK 8 pv 8).length = 8 from (A4 _ _ _)), A4] <;> omega)) hc4 hc5 hc6 (by omega) (by unfold Szd; omega) (fun _ => shr8n (by omega)) (by omega)))) ?_
 rintro v1 L1 ⟨_, ⟨rfl, nb6, sp3, cp3, rfl, hc7, hc8, hc9⟩, rfl⟩
 refine ⟨[], ?_⟩
 show DP _ _ _ _ _ _ _ _ [_, _, ⟨nb3, [.nilIface, Slc nb6 0 17 cp3], 149, (0, 0)⟩, ⟨nb6, cu8 (((numK 8 pv 8) ++ numK 8 ep 8) ++ numK 1 (UInt64.ofNat k) 1) ++ sp3, 5, (0, 0)⟩]
 refine DN ⟨[3, 6, 10], [0, 1, 2, 4, 5, 7, 8, 9], [0, 1, 2, 4, 5, 7, 8, 9], [], []⟩ rfl rfl (by decide +kernel) rfl trivial ?_
 refine C7 (F' := [(2, SL none 0 0), (3, .nilIface), (5, Ptr nb2 0), (6, Ptr nb3 0)]) (by kernel_rfl) ?_
 refine AF (AK (AK (AD (AA (Ptr nb2 0) (AB 0 3 1 BC rfl AR rfl rfl) rfl ?_))))
 refine AA (I64 k) (AI rfl (AQ AT (AS 1 rfl (Seg.head)))) rfl ?_
 refine AA (.bool (decide (((k:Int)) = (3:Int)))) (AU rfl rfl fun _ => BO _ _) rfl ?_
 refine AN (AF (BN _ rfl (decide_eq_false (by omega)) ?_))
 refine BE (AF (AK (AD (AA _ (AL rfl) rfl ?_))))
 refine AA (Ptr nb2 1) (AB 1 23 1 BC rfl DG rfl rfl) rfl ?_
 refine AA (SL ai ni ci) (AI rfl (AQ DL (AS 1 rfl (AE (Seg.head))))) rfl ?_
 refine AA (I64 ni) (CY BW rfl) rfl ?_
 refine AA (I64 ((ni:Int) - 1)) (AU rfl rfl fun _ => EV _ _ ((ni:Int) - 1) (by omega) (by omega)) rfl ?_
 refine AA (U64 (UInt64.ofNat (ni - 1))) (CX _ _ rfl fun _ => EL (by rw [AZ]; rfl) A3 (ni - 1) _ (by omega)) rfl ?_
 refine A9 (CB 81 _ [false, false, true, true] [nb3, nb6] _ (A6 [Ptr nb3 0, U64 (UInt64.ofNat (ni - 1)), I64 1] C4 rfl) rfl (fun w1 hw1 => FR nb3 nb6 17 cp3 18 .nilIface (((numK 8 pv 8) ++ numK 8 ep 8) ++ numK 1 (UInt64.ofNat k) 1) sp3 (UInt64.ofNat (ni - 1)) 1 w1 (hw1.ent _ (List.mem_of_getElem? (i := 2) rfl)) (hw1.ent _ (List.mem_of_getElem? (i := 3) rfl)) (hw1.ne (i := 2) (j := 3) rfl rfl (by decide)) (show (((numK 8 pv 8) ++ numK 8 ep 8) ++ numK 1 (UInt64.ofNat k) 1).length = 17 from (by rw [List.length_append, (show ((numK 8 pv 8) ++ numK 8 ep 8).length = 16 from (by rw [List.length_append, (show (numK 8 pv 8).length = 8 from (A4 _ _ _)), A4] <;> omega)), A4] <;> omega)) hc7 hc8 hc9 (by omega) (by unfold Szd; omega) (fun _ => shr8n (by omega)) (by omega))) rfl ?_
 rintro v1 L1 ⟨_, ⟨rfl, nb7, sp4, cp4, rfl, hc10, hc11, hc12⟩, rfl⟩
 show JL _ _ _ _ ((47, Ptr nb3 0) :: _) [_, _, ⟨nb3, [.nilIface, Slc nb7 0 18 cp4], 149, (0, 0)⟩, ⟨nb7, cu8 ((((numK 8 pv 8) ++ numK 8 ep 8) ++ numK 1 (UInt64.ofNat k) 1) ++ numK 1 (UInt64.ofNat (ni - 1)) 1) ++ sp4, 5, (0, 0)⟩]
 refine AN (AF (AK (AK (AD (AA (Ptr nb2 1) (AB 1 23 1 BC rfl DG rfl rfl) rfl ?_)))))
 refine AA (SL ai ni ci) (AI rfl (AQ DL (AS 1 rfl (AE (Seg.head))))) rfl ?_
 refine AA (I64 ni) (CY BW rfl) rfl ?_
 refine AA _ (AL rfl) rfl ?_
 refine AN (AF (B2 ?_))
 skip
 refine BP [false, true, true, true] ?_
 show JC _ _ _ _ [_, _, _]
 refine DV (ι := Nat × List UInt8 × Nat × List Value × Nat) (fun ⟨i, oqi, gqi, spqi, cpqi⟩ => [(2, SL none 0 0), (3, .nilIface), (5, Ptr nb2 0), (6, Ptr nb3 0), (49, SL ai ni ci), (50, I64 ni), (51, I64 i)]) (fun ⟨i, oqi, gqi, spqi, cpqi⟩ => [⟨nb2, [I64 k, SL ai ni ci, SL sa ns sc, U64 bl], 26, (0, 0)⟩, ⟨nb3, [.nilIface, Slc gqi 0 (4*i + 18) cpqi], 149, (0, 0)⟩, ⟨gqi, cu8 oqi ++ spqi, 5, (0, 0)⟩]) (fun ⟨i, oqi, gqi, spqi, cpqi⟩ => i ≤ ni ∧ oqi = (((numK 8 pv 8 ++ numK 8 ep 8) ++ numK 1 (UInt64.ofNat k) 1) ++ numK 1 (UInt64.ofNat (ni - 1)) 1) ++ idxT l i ∧ oqi.length = (4*i + 18) ∧ spqi.length = cpqi - ((4*i + 18)) ∧ (4*i + 18) ≤ cpqi ∧ cpqi ≤ maxLen) (fun ⟨i, oqi, gqi, spqi, cpqi⟩ => ni - i) (0, (((numK 8 pv 8) ++ numK 8 ep 8) ++ numK 1 (UInt64.ofNat k) 1) ++ numK 1 (UInt64.ofNat (ni - 1)) 1, nb7, sp4, cp4) ⟨by omega, by rw [idxT_zero, List.append_nil], (by have h := (show ((((numK 8 pv 8) ++ numK 8 ep 8) ++ numK 1 (UInt64.ofNat k) 1) ++ numK 1 (UInt64.ofNat (ni - 1)) 1).length = 18 from (by rw [List.length_append, (show (((numK 8 pv 8) ++ numK 8 ep 8) ++ numK 1 (UInt64.ofNat k) 1).length = 17 from (by rw [List.length_append, (show ((numK 8 pv 8) ++ numK 8 ep 8).length = 16 from (by rw [List.length_append, (show (numK 8 pv 8).length = 8 from (A4 _ _ _)), A4] <;> omega)), A4] <;> omega)), A4] <;> omega)); omega), (by have h := hc10; omega), by omega, by omega⟩ (Sub.all rfl) (by first | rfl | (simp; done)) ?_
 rintro ⟨i, oqi, gqi, spqi, cpqi⟩ ⟨hi1, hi2, hi3, hi4, hi5, hi6⟩
 show JC _ _ _ [(2, SL none 0 0), (3, .nilIface), (5, Ptr nb2 0), (6, Ptr nb3 0), (49, SL ai ni ci), (50, I64 ni), (51, I64 i)] [⟨nb2, [I64 k, SL ai ni ci, SL sa ns sc, U64 bl], 26, (0, 0)⟩, ⟨nb3, [.nilIface, Slc gqi 0 (4*i + 18) cpqi], 149, (0, 0)⟩, ⟨gqi, cu8 oqi ++ spqi, 5, (0, 0)⟩]
 refine AK (AD (AA (.bool (decide (((i:Int)) < ((ni:Int))))) (AU rfl rfl fun _ => CR _ _) rfl ?_))
 refine AN (AF (AK (CI (decide (((i:Int)) < ((ni:Int)))) rfl (fun hb1 => ?_) (fun hb1 => ?_))))
 ·
  have hp1 : ((i:Int)) < ((ni:Int)) := of_decide_eq_true hb1
  refine BE (AF (AK (B2 (AK (AD ?_)))))
  obtain ⟨bz1, oz1, hz1, hm1⟩ := RdV.pos hv (by rw [FP, hl]; omega)
  refine AA (Ptr bz1 (i + oz1)) (B4 22 1 (i + oz1) BW AX rfl hz1 rfl (by omega) (by omega) (by omega)) rfl ?_
  refine AA (U64 (g64 l i)) (AI rfl (AQ AY (CK (hm1.mem (by simp)) (Seg.get (g64_get (i := i) (by rw [hl]; omega))) (by omega)))) rfl ?_
  refine AA _ (AH rfl) rfl ?_
  refine AN (AF (AD (AA _ (AL rfl) rfl ?_)))
  refine AA _ (AL rfl) rfl ?_
  refine A9 (CB 81 _ [false, true, true] [nb3, gqi] _ (A6 [Ptr nb3 0, U64 (g64 l i), I64 4] C4 rfl) rfl (fun w1 hw1 => FR nb3 gqi (4*i + 18) cpqi (4*i + 22) .nilIface oqi spqi (g64 l i) 4 w1 (hw1.ent _ (List.mem_of_getElem? (i := 1) rfl)) (hw1.ent _ (List.mem_of_getElem? (i := 2) rfl)) (hw1.ne (i := 1) (j := 2) rfl rfl (by decide)) hi3 hi4 hi5 hi6 (by omega) (by unfold Szd; omega) (fun _ => idx_fit hRI (by omega)) (by omega))) rfl ?_
  rintro v1 L1 ⟨_, ⟨rfl, nb8, sp5, cp5, rfl, hc13, hc14, hc15⟩, rfl⟩
  show JL _ _ _ _ ((57, Ptr nb3 0) :: _) [_, ⟨nb3, [.nilIface, Slc nb8 0 (4*i + 22) cp5], 149, (0, 0)⟩, ⟨nb8, cu8 (oqi ++ numK 4 (g64 l i) 4) ++ sp5, 5, (0, 0)⟩]
  refine AN (BY (AF (AD (AA (I64 ((i:Int) + 1)) (AU rfl rfl fun _ => DE _ _ ((i:Int) + 1) (by omega) (by omega)) rfl ?_))))
  refine AA _ (AL rfl) rfl ?_
  refine AN (DK (EM (i + 1, oqi ++ numK 4 (g64 l i) 4, nb8, sp5, cp5) ⟨by omega, by rw [hi2, idxT_succ, List.append_assoc], (by have h := (show (oqi ++ numK 4 (g64 l i) 4).length = (4*i + 22) from (by rw [List.length_append, hi3, A4] <;> omega)); omega), (by have h := hc13; omega), by omega, by omega⟩ (by first | (simp; omega) | simp | (dsimp only; omega) | omega) (Sub.all rfl) (by first | rfl | rw [show (4*i + 22) = (4*(i + 1) + 18) by omega])))
 ·
  have hp1 : ¬ (((i:Int)) < ((ni:Int))) := of_decide_eq_false hb1
  refine DU (A5 (A5 (CQ (AF (AK (AK (AD (AA (Ptr nb2 2) (AB 2 24 1 BC rfl EG rfl rfl) rfl ?_))))))))
  refine AA (SL sa ns sc) (AI rfl (AQ ES (AS 0 rfl (AE (AE (Seg.head)))))) rfl ?_
  refine AA (I64 ns) (CY C3 rfl) rfl ?_
  refine AA _ (AL rfl) rfl ?_
  refine AN (AF (B2 ?_))
  have ei : ni = i := by omega
  subst ei
  show JC _ _ _ _ [⟨nb2, [I64 k, SL ai ni ci, SL sa ns sc, U64 bl], 26, (0, 0)⟩, ⟨nb3, [.nilIface, Slc gqi 0 (4*ni + 18) cpqi], 149, (0, 0)⟩, ⟨gqi, cu8 oqi ++ spqi, 5, (0, 0)⟩]
  refine BP [false, true, true] ?_
  show JC _ _ _ _ [_, _]
  refine DV (ι := Nat × List UInt8 × Nat × List Value × Nat) (fun ⟨j, oqj, gqj, spqj, cpqj⟩ => [(2, SL none 0 0), (3, .nilIface), (6, Ptr nb3 0), (60, SL sa ns sc), (61, I64 ns), (62, I64 j)]) (fun ⟨j, oqj, gqj, spqj, cpqj⟩ => [⟨nb3, [.nilIface, Slc gqj 0 (56*j + 4*ni + 18) cpqj], 149, (0, 0)⟩, ⟨gqj, cu8 oqj ++ spqj, 5, (0, 0)⟩]) (fun ⟨j, oqj, gqj, spqj, cpqj⟩ => j ≤ ns ∧ oqj = ((((numK 8 pv 8 ++ numK 8 ep 8) ++ numK 1 (UInt64.ofNat k) 1) ++ numK 1 (UInt64.ofNat (ni - 1)) 1) ++ idxT l ni) ++ selT (ls.take j) ∧ oqj.length = (56*j + 4*ni + 18) ∧ spqj.length = cpqj - ((56*j + 4*ni + 18)) ∧ (56*j + 4*ni + 18) ≤ cpqj ∧ cpqj ≤ maxLen) (fun ⟨j, oqj, gqj, spqj, cpqj⟩ => ns - j) (0, oqi, gqi, spqi, cpqi) ⟨by omega, by rw [hi2]; simp [selT_nil], (by have h := hi3; omega), (by have h := hi4; omega), by omega, by omega⟩ (Sub.all rfl) (by first | rfl | (simp; done)) ?_
  rintro ⟨j, oqj, gqj, spqj, cpqj⟩ ⟨hj1, hj2, hj3, hj4, hj5, hj6⟩
  show JC _ _ _ [(2, SL none 0 0), (3, .nilIface), (6, Ptr nb3 0), (60, SL sa ns sc), (61, I64 ns), (62, I64 j)] [⟨nb3, [.nilIface, Slc gqj 0 (56*j + 4*ni + 18) cpqj], 149, (0, 0)⟩, ⟨gqj, cu8 oqj ++ spqj, 5, (0, 0)⟩]
  refine AK (AD (AA (.bool (decide (((j:Int)) < ((ns:Int))))) (AU rfl rfl fun _ => CR _ _) rfl ?_))
  refine AN (AF (AK (CI (decide (((j:Int)) < ((ns:Int)))) rfl (fun hb2 => ?_) (fun hb2 => ?_))))
  ·
   have hp2 : ((j:Int)) < ((ns:Int)) := of_decide_eq_true hb2
   refine BE (AF (AK (B2 (AK (AD ?_)))))
   obtain ⟨x1, hx1⟩ : ∃ x, ls[j]? = some x := ⟨_, List.getElem?_eq_getElem (by rw [hls]; omega)⟩
   obtain ⟨bz2, oz2, hz2, hm2⟩ := E4 FB (by decide) hs hx1
   refine AA (Ptr bz2 (49*j + oz2)) (B4 161 49 (49*j + oz2) C3 CJ rfl hz2 rfl (by omega) (by omega) (by omega)) rfl ?_
   refine AA (.agg ([U64 x1.e] ++ cu8 x1.d ++ cu8 x1.t).toArray) (AI rfl (BV D2 CJ (by simp [x1.hd, x1.ht]) (CK (hm2.mem (by simp)) (AV _) (by omega)))) rfl ?_
   refine A9 (DI _ ([U64 0] ++ cu8 (zr8 32) ++ cu8 (zr8 16)) Tryd.zeroValue161 (by kernel_rfl)) rfl ?_
   rintro v1 L1 ⟨nb9, hnb9, rfl, rfl⟩
   show JL _ _ _ _ ((10, Ptr nb9 0) :: _) [_, _, ⟨nb9, [U64 0] ++ cu8 (zr8 32) ++ cu8 (zr8 16), 161, (0, 0)⟩]
   refine B1 (CW 2 nb9 49 ([U64 0] ++ cu8 (zr8 32) ++ cu8 (zr8 16)) 161 ([U64 x1.e] ++ cu8 x1.d ++ cu8 x1.t) rfl rfl rfl CJ (by simp [x1.hd, x1.ht]) (EH (EH (by simp [Value.oneCell']) FE) FE) (by simp [(B6 32), (B6 16)]) (DC (by simp [(B6 32), (B6 16), x1.hd, x1.ht]))) rfl ?_
   show JL _ _ _ _ _ [_, _, ⟨nb9, [U64 x1.e] ++ cu8 x1.d ++ cu8 x1.t, 161, (0, 0)⟩]
   refine AN (AF (AD (AA _ (AL rfl) rfl ?_)))
   refine AA (.agg ([U64 x1.e] ++ cu8 x1.d ++ cu8 x1.t).toArray) (AI rfl (BV D2 CJ (by simp [x1.hd, x1.ht]) (AS 2 rfl (AV _)))) rfl ?_
   refine A9 (CG 97 [.agg ([U64 x1.e] ++ cu8 x1.d ++ cu8 x1.t).toArray] _ (A6 _ Tryd.call97 rfl) (fun w1 hw1 => put7_c x1.e x1.d x1.t w1 x1.hd x1.ht)) rfl ?_
   rintro v1 L1 ⟨_, ⟨nb10, sp6, cp6, rfl, rfl, hc16, hc17, hc18⟩, rfl⟩
   show JL _ _ _ _ ((68, Slc nb10 0 56 cp6) :: _) [_, _, _, ⟨nb10, cu8 (putL x1.e x1.d x1.t) ++ sp6, 5, (0, 0)⟩]
   refine A9 (CB 82 _ [true, true, false, false] [nb3, gqj] _ (A6 [Ptr nb3 0, Slc nb10 0 56 cp6] Tryd.call82 rfl) rfl (fun w1 hw1 => rawO_c nb3 gqj (56*j + 4*ni + 18) cpqj (56*j + 4*ni + 74) .nilIface oqj spqj (some ⟨nb10, 0, none⟩) 56 cp6 (putL x1.e x1.d x1.t) w1 (hw1.ent _ (List.mem_of_getElem? (i := 0) rfl)) (hw1.ent _ (List.mem_of_getElem? (i := 1) rfl)) (hw1.ne (i := 0) (j := 1) rfl rfl (by decide)) hj3 hj4 hj5 hj6 (by omega) (show (putL x1.e x1.d x1.t).length = 56 from (FM x1.hd x1.ht)) (by omega) (RdB.of hw1 (AS 3 rfl (AG (AV _))) (by intro _; simp only [List.mem_cons, List.not_mem_nil, or_false, not_or]; exact ⟨hw1.ne (i := 3) (j := 0) rfl rfl (by decide), hw1.ne (i := 3) (j := 1) rfl rfl (by decide)⟩)) (by omega))) rfl ?_
   rintro v1 L1 ⟨_, ⟨rfl, nb11, sp7, cp7, rfl, hc19, hc20, hc21⟩, rfl⟩
   show JL _ _ _ _ ((69, Ptr nb3 0) :: _) [_, _, ⟨nb3, [.nilIface, Slc nb11 0 (56*j + 4*ni + 74) cp7], 149, (0, 0)⟩, ⟨nb11, cu8 (oqj ++ (putL x1.e x1.d x1.t)) ++ sp7, 5, (0, 0)⟩]
   refine AN (BY (AF (AD (AA (I64 ((j:Int) + 1)) (AU rfl rfl fun _ => DE _ _ ((j:Int) + 1) (by omega) (by omega)) rfl ?_))))
   refine AA _ (AL rfl) rfl ?_
   refine AN (DK (BP [false, false, true, true] ?_))
   show K _ _ [_, _] _
   refine EM (j + 1, oqj ++ (putL x1.e x1.d x1.t), nb11, sp7, cp7) ⟨by omega, by rw [hj2, ← F9 hx1, selT_app, List.append_assoc], (by have h := (show (oqj ++ (putL x1.e x1.d x1.t)).length = (56*j + 4*ni + 74) from (by rw [List.length_append, hj3, (show (putL x1.e x1.d x1.t).length = 56 from (FM x1.hd x1.ht))] <;> omega)); omega), (by have h := hc19; omega), by omega, by omega⟩ (by first | (simp; omega) | simp | (dsimp only; omega) | omega) (Sub.all rfl) (by first | rfl | rw [show (56*j + 4*ni + 74) = (56*(j + 1) + 4*ni + 18) by omega])
  ·
   have hp2 : ¬ (((j:Int)) < ((ns:Int))) := of_decide_eq_false hb2
   refine DU (A5 (A5 (CQ (AF (AK (AD (AA _ (AL rfl) rfl ?_)))))))
   refine A9 (CG 83 [Ptr nb3 0] _ (A6 _ Tryd.call83 rfl) (fun w1 hw1 => doneO_c nb3 0 gqj (56*j + 4*ni + 18) cpqj oqj w1 (RdA.of hw1 (AS 0 rfl (AV _)) (by simp)) rfl hj3 (by omega) (RdB.of hw1 (AS 1 rfl (AG (AV _))) (by simp)))) rfl ?_
   rintro v1 L1 ⟨_, ⟨nb12, sp8, cp8, rfl, rfl, hc22, hc23, hc24⟩, rfl⟩
   show JL _ _ _ _ ((72, .tuple #[Slc nb12 0 (56*j + 4*ni + 18) cp8, .nilIface]) :: _) [_, _, ⟨nb12, cu8 oqj ++ sp8, 5, (0, 0)⟩]
   refine AA _ (B0 rfl rfl) rfl ?_
   refine AA _ (B0 rfl rfl) rfl ?_
   refine AA _ (AH rfl) rfl ?_
   refine AA _ (AH rfl) rfl ?_
   refine AN (AF (BK (BP [false, false, true] ?_)))
   show JQ _ _ _ _ [_]
   refine BJ (.tuple #[Slc nb12 0 (56*j + 4*ni + 18) cp8, .nilIface]) (res2 Tryd.results114 (BH rfl) (BH rfl)) fun w1 hw1 => ?_
   obtain rfl : j = ns := by omega
   have hq : oqj = tktT pv ep k l ls bl := by
    unfold tktT
    rw [if_neg (by omega), hl, hj2, List.take_of_length_le (by omega)]
   rw [hq] at hw1
   obtain rfl : tot = (56*j + 4*ni + 18) := by omega
   exact ⟨_, _, rfl, ⟨nb12, sp8, cp8, rfl, rfl, hc22, hc23, hc24⟩, hw1.sub (by simp) (by simp)⟩
attribute [local irreducible] tktT mayN idxT selT
theorem text_w (pv ep : UInt64) (k : Nat) (ai : Option Addr) (ni ci : Nat) (l : List UInt64) (sa : Option Addr) (ns sc : Nat) (ls : List SealR) (bl : UInt64) (tg : List UInt8) (tot : Nat) (w : World) (hl : l.length = ni) (hnm : ni ≤ 2000000) (hnc : ni ≤ ci) (hcm : ci ≤ maxLen) (hv : RdV w ai (cu64 l)) (hls : ls.length = ns) (hnn : ns ≤ 2000000) (hnd : ns ≤ sc) (hcn : sc ≤ maxLen) (hs : RdV w sa (ls.flatMap sealC)) (htg : tg.length = 16) (hmay : mayN pv ep (k:Int) l ls bl = 0) (hk : k = 1 ∨ k = 2 ∨ k = 3) (hsm : ns ≤ 300) (htot : tktN k ni ns = tot) : Calls Tryd.prog 114 #[.agg ([U64 pv, U64 ep, I64 k, SL ai ni ci, SL sa ns sc, U64 bl] ++ cu8 tg).toArray] w (Post w [] (fun v L => ∃ g sp cap, v = .tuple #[Slc g 0 tot cap, .nilIface] ∧ L = [⟨g, cu8 (tktT pv ep k l ls bl) ++ sp, 5, (0, 0)⟩] ∧ sp.length = cap - tot ∧ tot ≤ cap ∧ cap ≤ maxLen)) := by
  by_cases h3 : k = 3
  · have e : tot = 25 := by rw [← htot]; unfold tktN; rw [if_pos h3]
    subst e
    exact text3_c pv ep k ai ni ci l sa ns sc ls bl tg w hl hnm hnc hcm hv hls hnn hnd hcn hs htg hmay h3
  · exact text12_c pv ep k ai ni ci l sa ns sc ls bl tg tot w hl hnm hnc hcm hv hls hnn hnd hcn hs htg hmay (by omega) hsm (by rw [← htot]; unfold tktN; rw [if_neg h3])
theorem textB_c (pv ep : UInt64) (kd : Int) (ai : Option Addr) (ni ci : Nat) (l : List UInt64) (sa : Option Addr) (ns sc : Nat) (ls : List SealR) (bl : UInt64) (tg : List UInt8)  (w : World) (hl : l.length = ni) (hnm : ni ≤ 2000000) (hnc : ni ≤ ci) (hcm : ci ≤ maxLen) (hv : RdV w ai (cu64 l)) (hls : ls.length = ns) (hnn : ns ≤ 2000000) (hnd : ns ≤ sc) (hcn : sc ≤ maxLen) (hs : RdV w sa (ls.flatMap sealC)) (htg : tg.length = 16) (hm : mayN pv ep kd l ls bl ≠ 0)  : Calls Tryd.prog 114 #[.agg ([U64 pv, U64 ep, I64 (kd), SL ai ni ci, SL sa ns sc, U64 bl] ++ cu8 tg).toArray] w (Post w [] (fun v L => v = .tuple #[SL none 0 0, errV 50 (mayN pv ep kd l ls bl)] ∧ L = [])) := by
 have hmx : maxLen = 9223372036854775807 := rfl
 refine enter (P := Tryd.prog) (f := 114) (fn := Tryd.f114) w [] 75 [] [.agg ([U64 pv, U64 ep, I64 (kd), SL ai ni ci, SL sa ns sc, U64 bl] ++ cu8 tg).toArray] Tryd.func114 rfl rfl (by simp) (CC (by simp) (by simp) (by simp)) ?_
 show JC _ _ _ [(0, .agg ([U64 pv, U64 ep, I64 (kd), SL ai ni ci, SL sa ns sc, U64 bl] ++ cu8 tg).toArray)] _
 refine AK (AD (A9 (CL (.agg ([U64 pv, U64 ep, I64 (kd), SL ai ni ci, SL sa ns sc, U64 bl] ++ cu8 tg).toArray) ([U64 pv, U64 ep, I64 (kd), SL ai ni ci, SL sa ns sc, U64 bl] ++ cu8 tg) rfl (by first | rfl | simp)) rfl ?_))
 rintro v1 L1 ⟨nb1, hnb1, rfl, rfl⟩
 show JL _ _ _ _ ((1, Ptr nb1 0) :: _) [⟨nb1, [U64 pv, U64 ep, I64 (kd), SL ai ni ci, SL sa ns sc, U64 bl] ++ cu8 tg, 29, (0, 0)⟩]
 refine AA _ (AH rfl) rfl ?_
 refine AA _ (AH rfl) rfl ?_
 refine AN (AF (AK (AK (AD (AA (.agg ([U64 pv, U64 ep, I64 (kd), SL ai ni ci, SL sa ns sc, U64 bl] ++ cu8 tg).toArray) (AI rfl (BV ER DJ (by simp [htg]) (AS 0 rfl (AV _)))) rfl ?_)))))
 refine B1 (BG 128 [.agg ([U64 pv, U64 ep, I64 (kd), SL ai ni ci, SL sa ns sc, U64 bl] ++ cu8 tg).toArray] (errV 50 (mayN pv ep (kd) l ls bl)) (A6 _ Tryd.call128 rfl) (fun w1 hw1 => may13_c pv ep (kd) ai ni ci l sa ns sc ls bl tg w1 hl (by omega) (by omega) (by omega) (CA hw1 rfl hv) hls (by omega) (by omega) (by omega) (CA hw1 rfl hs) htg)) rfl ?_
 show JL _ _ _ _ ((12, errV 50 (mayN pv ep (kd) l ls bl)) :: _) [_]
 refine AA _ (AH rfl) rfl ?_
 refine AN (AF (AK (AD (AA _ (AL rfl) rfl ?_))))
 refine AA (.bool (!(decide (mayN pv ep (kd) l ls bl = 0)))) (E3 _ _ _ rfl rfl (fun _ => F7 ..) fun _ => neq_errV DZ _ _) rfl ?_
 refine AN (AF (CO _ rfl (by rw [show (decide (mayN pv ep (kd) l ls bl = 0)) = false from (decide_eq_false hm)] <;> rfl) ?_))
 refine AK (AD (AA _ (AL rfl) rfl ?_))
 refine AA _ (AH rfl) rfl ?_
 refine AA _ (AH rfl) rfl ?_
 refine AN (AF (BK (A1 (BP [false] ?_))))
 show JQ _ _ _ _ []
 refine BJ (.tuple #[SL none 0 0, errV 50 (mayN pv ep (kd) l ls bl)]) (res2 Tryd.results114 (BH rfl) (BH rfl)) fun w1 hw1 => ?_
 exact ⟨_, [], rfl, ⟨rfl, rfl⟩, hw1.sub (by simp) (by simp)⟩
theorem put13_c (pv ep : UInt64) (k : Nat) (ai : Option Addr) (ni ci : Nat) (l : List UInt64) (sa : Option Addr) (ns sc : Nat) (ls : List SealR) (bl : UInt64) (tg : List UInt8) (tot : Nat)  (w : World) (hl : l.length = ni) (hnm : ni ≤ 2000000) (hnc : ni ≤ ci) (hcm : ci ≤ maxLen) (hv : RdV w ai (cu64 l)) (hls : ls.length = ns) (hnn : ns ≤ 2000000) (hnd : ns ≤ sc) (hcn : sc ≤ maxLen) (hs : RdV w sa (ls.flatMap sealC)) (htg : tg.length = 16) (hmay : mayN pv ep (k:Int) l ls bl = 0) (hk : k = 1 ∨ k = 2 ∨ k = 3) (hsm : ns ≤ 300) (htot : tktN k ni ns = tot) (htb : tot ≤ 30000)  : Calls Tryd.prog 47 #[.agg ([U64 pv, U64 ep, I64 k, SL ai ni ci, SL sa ns sc, U64 bl] ++ cu8 tg).toArray] w (Post w [] (fun v L => ∃ g sp cap, v = .tuple #[Slc g 0 (tot + 16) cap, .nilIface] ∧ L = [⟨g, cu8 ((tktT pv ep k l ls bl) ++ tg) ++ sp, 5, (0, 0)⟩] ∧ sp.length = cap - (tot + 16) ∧ (tot + 16) ≤ cap ∧ cap ≤ maxLen)) := by
 have hmx : maxLen = 9223372036854775807 := rfl
 refine enter (P := Tryd.prog) (f := 47) (fn := Tryd.f47) w [] 18 [] [.agg ([U64 pv, U64 ep, I64 k, SL ai ni ci, SL sa ns sc, U64 bl] ++ cu8 tg).toArray] Tryd.func47 rfl rfl (by simp) (CC (by simp) (by simp) (by simp)) ?_
 show JC _ _ _ [(0, .agg ([U64 pv, U64 ep, I64 k, SL ai ni ci, SL sa ns sc, U64 bl] ++ cu8 tg).toArray)] _
 refine AK (AD (A9 (CL (.agg ([U64 pv, U64 ep, I64 k, SL ai ni ci, SL sa ns sc, U64 bl] ++ cu8 tg).toArray) ([U64 pv, U64 ep, I64 k, SL ai ni ci, SL sa ns sc, U64 bl] ++ cu8 tg) rfl (by first | rfl | simp)) rfl ?_))
 rintro v1 L1 ⟨nb1, hnb1, rfl, rfl⟩
 show JL _ _ _ _ ((1, Ptr nb1 0) :: _) [⟨nb1, [U64 pv, U64 ep, I64 k, SL ai ni ci, SL sa ns sc, U64 bl] ++ cu8 tg, 29, (0, 0)⟩]
 refine AA _ (AH rfl) rfl ?_
 refine AA _ (AH rfl) rfl ?_
 refine AN (AF (AK (AD (AA (.agg ([U64 pv, U64 ep, I64 k, SL ai ni ci, SL sa ns sc, U64 bl] ++ cu8 tg).toArray) (AI rfl (BV ER DJ (by simp [htg]) (AS 0 rfl (AV _)))) rfl ?_))))
 refine A9 (CG 114 [.agg ([U64 pv, U64 ep, I64 k, SL ai ni ci, SL sa ns sc, U64 bl] ++ cu8 tg).toArray] _ (A6 _ Tryd.call114 rfl) (fun w1 hw1 => text_w pv ep k ai ni ci l sa ns sc ls bl tg tot w1 hl (by omega) (by omega) (by omega) (CA hw1 rfl hv) hls (by omega) (by omega) (by omega) (CA hw1 rfl hs) htg hmay hk hsm htot)) rfl ?_
 rintro v1 L1 ⟨_, ⟨nb2, sp1, cp1, rfl, rfl, hc1, hc2, hc3⟩, rfl⟩
 show JL _ _ _ _ ((8, .tuple #[Slc nb2 0 tot cp1, .nilIface]) :: _) [_, ⟨nb2, cu8 (tktT pv ep k l ls bl) ++ sp1, 5, (0, 0)⟩]
 refine AA _ (AL rfl) rfl ?_
 refine AA _ (B0 rfl rfl) rfl ?_
 refine AA _ (B0 rfl rfl) rfl ?_
 refine AA _ (AH rfl) rfl ?_
 refine AA _ (AH rfl) rfl ?_
 refine AN (AF (AK (AK (AD (AA _ (AL rfl) rfl ?_)))))
 refine AA (.bool false) (E3 _ _ _ rfl rfl (fun _ => eqGuard_nn ..) fun _ => neq_if_nil_nil DZ) rfl ?_
 refine AN (AF (BN _ rfl rfl ?_))
 refine BE (AF (AK (AD (AA _ (AL rfl) rfl ?_))))
 refine AA (Ptr nb1 6) (AB 6 27 16 A7 rfl CN rfl rfl) rfl ?_
 refine AA (Slc nb1 6 16 16) (FW 16 5 1 0 16 6 16 C5 B5 rfl rfl rfl (by omega) (by omega) (by omega) (by omega) (by omega) 16 (by omega)) rfl ?_
 refine A9 (CP 43 5 [false, true] (Slc nb2 0 tot cp1) tot (tktT pv ep k l ls bl) tg (some ⟨nb1, 6, none⟩) 16 16 (tot + 16) AW CM rfl (.inr ⟨nb2, sp1, cp1, rfl, rfl, (by first | exact (show (tktT pv ep k l ls bl).length = tot from ((FG hl hls).trans htot)) | simp [(show (tktT pv ep k l ls bl).length = tot from ((FG hl hls).trans htot))]), hc1, (by omega), (by omega)⟩) rfl (by first | exact htg | simp [htg]; try omega) (SrcAt.mem (AS 0 rfl (Seg.right 6 0 rfl rfl (AV _)))) (by omega) (by unfold maxLen; omega) (by omega)) rfl ?_
 rintro v1 L1 ⟨nb3, sp2, cp2, hg1, rfl, rfl, ha1, ha2, ha3, ha4⟩
 show JL _ _ _ _ ((17, Slc nb3 0 (tot + 16) cp2) :: _) [_, ⟨nb3, cu8 ((tktT pv ep k l ls bl) ++ tg) ++ sp2, 5, (0, 0)⟩]
 refine AA _ (AH rfl) rfl ?_
 refine AA _ (AH rfl) rfl ?_
 refine AN (AF (BK (BP [false, true] ?_)))
 show JQ _ _ _ _ [_]
 refine BJ (.tuple #[Slc nb3 0 (tot + 16) cp2, .nilIface]) (res2 Tryd.results47 (BH rfl) (BH rfl)) fun w1 hw1 => ?_
 exact ⟨_, _, rfl, ⟨nb3, sp2, cp2, rfl, rfl, ha2, ha3, ha4⟩, hw1.sub (by simp) (by simp)⟩
theorem putB_c (pv ep : UInt64) (kd : Int) (ai : Option Addr) (ni ci : Nat) (l : List UInt64) (sa : Option Addr) (ns sc : Nat) (ls : List SealR) (bl : UInt64) (tg : List UInt8)  (w : World) (hl : l.length = ni) (hnm : ni ≤ 2000000) (hnc : ni ≤ ci) (hcm : ci ≤ maxLen) (hv : RdV w ai (cu64 l)) (hls : ls.length = ns) (hnn : ns ≤ 2000000) (hnd : ns ≤ sc) (hcn : sc ≤ maxLen) (hs : RdV w sa (ls.flatMap sealC)) (htg : tg.length = 16) (hm : mayN pv ep kd l ls bl ≠ 0)  : Calls Tryd.prog 47 #[.agg ([U64 pv, U64 ep, I64 (kd), SL ai ni ci, SL sa ns sc, U64 bl] ++ cu8 tg).toArray] w (Post w [] (fun v L => v = .tuple #[SL none 0 0, errV 50 (mayN pv ep kd l ls bl)] ∧ L = [])) := by
 have hmx : maxLen = 9223372036854775807 := rfl
 refine enter (P := Tryd.prog) (f := 47) (fn := Tryd.f47) w [] 18 [] [.agg ([U64 pv, U64 ep, I64 (kd), SL ai ni ci, SL sa ns sc, U64 bl] ++ cu8 tg).toArray] Tryd.func47 rfl rfl (by simp) (CC (by simp) (by simp) (by simp)) ?_
 show JC _ _ _ [(0, .agg ([U64 pv, U64 ep, I64 (kd), SL ai ni ci, SL sa ns sc, U64 bl] ++ cu8 tg).toArray)] _
 refine AK (AD (A9 (CL (.agg ([U64 pv, U64 ep, I64 (kd), SL ai ni ci, SL sa ns sc, U64 bl] ++ cu8 tg).toArray) ([U64 pv, U64 ep, I64 (kd), SL ai ni ci, SL sa ns sc, U64 bl] ++ cu8 tg) rfl (by first | rfl | simp)) rfl ?_))
 rintro v1 L1 ⟨nb1, hnb1, rfl, rfl⟩
 show JL _ _ _ _ ((1, Ptr nb1 0) :: _) [⟨nb1, [U64 pv, U64 ep, I64 (kd), SL ai ni ci, SL sa ns sc, U64 bl] ++ cu8 tg, 29, (0, 0)⟩]
 refine AA _ (AH rfl) rfl ?_
 refine AA _ (AH rfl) rfl ?_
 refine AN (AF (AK (AD (AA (.agg ([U64 pv, U64 ep, I64 (kd), SL ai ni ci, SL sa ns sc, U64 bl] ++ cu8 tg).toArray) (AI rfl (BV ER DJ (by simp [htg]) (AS 0 rfl (AV _)))) rfl ?_))))
 refine B1 (BG 114 [.agg ([U64 pv, U64 ep, I64 (kd), SL ai ni ci, SL sa ns sc, U64 bl] ++ cu8 tg).toArray] (.tuple #[SL none 0 0, errV 50 (mayN pv ep (kd) l ls bl)]) (A6 _ Tryd.call114 rfl) (fun w1 hw1 => textB_c pv ep (kd) ai ni ci l sa ns sc ls bl tg w1 hl (by omega) (by omega) (by omega) (CA hw1 rfl hv) hls (by omega) (by omega) (by omega) (CA hw1 rfl hs) htg hm)) rfl ?_
 show JL _ _ _ _ ((8, .tuple #[SL none 0 0, errV 50 (mayN pv ep (kd) l ls bl)]) :: _) [_]
 refine AA _ (AL rfl) rfl ?_
 refine AA _ (B0 rfl rfl) rfl ?_
 refine AA _ (B0 rfl rfl) rfl ?_
 refine AA _ (AH rfl) rfl ?_
 refine AA _ (AH rfl) rfl ?_
 refine AN (AF (AK (AK (AD (AA _ (AL rfl) rfl ?_)))))
 refine AA (.bool (!(decide (mayN pv ep (kd) l ls bl = 0)))) (E3 _ _ _ rfl rfl (fun _ => F7 ..) fun _ => neq_errV DZ _ _) rfl ?_
 refine AN (AF (CO _ rfl (by rw [show (decide (mayN pv ep (kd) l ls bl = 0)) = false from (decide_eq_false hm)] <;> rfl) ?_))
 refine AK (AD (AA _ (AL rfl) rfl ?_))
 refine AA _ (AH rfl) rfl ?_
 refine AA _ (AH rfl) rfl ?_
 refine AN (AF (BK (A1 (BP [false] ?_))))
 show JQ _ _ _ _ []
 refine BJ (.tuple #[SL none 0 0, errV 50 (mayN pv ep (kd) l ls bl)]) (res2 Tryd.results47 (BH rfl) (BH rfl)) fun w1 hw1 => ?_
 exact ⟨_, [], rfl, ⟨rfl, rfl⟩, hw1.sub (by simp) (by simp)⟩
theorem rtext3_c (pv ep : UInt64) (k : Nat) (ai : Option Addr) (ni ci : Nat) (l : List UInt64) (sa : Option Addr) (ns sc : Nat) (ls : List SealR) (bl : UInt64) (tg : List UInt8)  (w : World) (hl : l.length = ni) (hnm : ni ≤ 2000000) (hnc : ni ≤ ci) (hcm : ci ≤ maxLen) (hv : RdV w ai (cu64 l)) (hls : ls.length = ns) (hnn : ns ≤ 2000000) (hnd : ns ≤ sc) (hcn : sc ≤ maxLen) (hs : RdV w sa (ls.flatMap sealC)) (htg : tg.length = 16) (hk : k = 3)  : Calls Tryd.prog 117 #[.agg ([U64 pv, U64 ep, I64 k, SL ai ni ci, SL sa ns sc, U64 bl] ++ cu8 tg).toArray] w (Post w [] (fun v L => ∃ g sp cap, v = Slc g 0 25 cap ∧ L = [⟨g, cu8 (tktT pv ep k l ls bl) ++ sp, 5, (0, 0)⟩] ∧ sp.length = cap - 25 ∧ 25 ≤ cap ∧ cap ≤ maxLen)) := by
 have hmx : maxLen = 9223372036854775807 := rfl
 refine enter (P := Tryd.prog) (f := 117) (fn := Tryd.f117) w [] 74 [] [.agg ([U64 pv, U64 ep, I64 k, SL ai ni ci, SL sa ns sc, U64 bl] ++ cu8 tg).toArray] Tryd.func117 rfl rfl (by simp) (CC (by simp) (by simp) (by simp)) ?_
 show JC _ _ _ [(0, .agg ([U64 pv, U64 ep, I64 k, SL ai ni ci, SL sa ns sc, U64 bl] ++ cu8 tg).toArray)] _
 refine AK (AD (A9 (CL (.agg ([U64 pv, U64 ep, I64 k, SL ai ni ci, SL sa ns sc, U64 bl] ++ cu8 tg).toArray) ([U64 pv, U64 ep, I64 k, SL ai ni ci, SL sa ns sc, U64 bl] ++ cu8 tg) rfl (by first | rfl | simp)) rfl ?_))
 rintro v1 L1 ⟨nb1, hnb1, rfl, rfl⟩
 show JL _ _ _ _ ((1, Ptr nb1 0) :: _) [⟨nb1, [U64 pv, U64 ep, I64 k, SL ai ni ci, SL sa ns sc, U64 bl] ++ cu8 tg, 38, (0, 0)⟩]
 refine AA _ (AH rfl) rfl ?_
 refine AN (AF (AK (DH 74 4 [(0, Ptr nb1 0), (1, U64 pv), (3, Ptr nb1 1), (4, U64 ep)] B8 rfl (by decide +kernel) ?_)))
 refine CZ ⟨[], [0, 1, 3, 4], [], [0, 1, 3, 4], [2]⟩ 2 _ rfl rfl (by decide +kernel) rfl ⟨⟨_, rfl, AJ rfl (AB 0 22 1 BL rfl AX rfl rfl)⟩, ⟨_, rfl, AJ rfl (AI rfl (AQ AY (AS 0 rfl (AG (Seg.head)))))⟩, ⟨_, rfl, AJ rfl (AB 1 22 1 BL rfl AX rfl rfl)⟩, ⟨_, rfl, AJ rfl (AI rfl (AQ AY (AS 0 rfl (AG (AE (Seg.head))))))⟩, trivial⟩ rfl (BI rfl (CG 88 [U64 pv, I64 8] _ (A6 _ D8 rfl) (fun w1 hw1 => EU pv 8 w1 (by omega)))) ?_
 rintro v1 L1 ⟨_, ⟨nb2, rfl, rfl⟩, rfl⟩
 refine ⟨[], ?_⟩
 show DP _ _ _ _ _ _ _ _ [_, ⟨nb2, cu8 (numK 8 pv 8), 5, (0, 0)⟩]
 refine CZ ⟨[2], [0, 1, 3, 4], [0, 1], [3, 4], [5]⟩ 5 _ rfl rfl (by decide +kernel) rfl ⟨⟨_, rfl, AJ rfl (AB 1 22 1 BL rfl AX rfl rfl)⟩, ⟨_, rfl, AJ rfl (AI rfl (AQ AY (AS 0 rfl (AG (AE (Seg.head))))))⟩, trivial⟩ rfl (BI rfl (CG 88 [U64 ep, I64 8] _ (A6 _ D8 rfl) (fun w1 hw1 => EU ep 8 w1 (by omega)))) ?_
 rintro v1 L1 ⟨_, ⟨nb3, rfl, rfl⟩, rfl⟩
 refine ⟨[], ?_⟩
 show DP _ _ _ _ _ _ _ _ [_, _, ⟨nb3, cu8 (numK 8 ep 8), 5, (0, 0)⟩]
 refine CZ ⟨[2, 5], [0, 1, 3, 4], [0, 1, 3, 4], [], [6]⟩ 6 _ rfl rfl (by decide +kernel) rfl trivial rfl (BI rfl (CP 43 5 [false, true, false] (Slc nb2 0 8 8) 8 (numK 8 pv 8) (numK 8 ep 8) (some ⟨nb3, 0, none⟩) 8 8 16 AW CM rfl (.inr ⟨nb2, [], 8, rfl, (by simp [take?, cu8, cu32, cu64]), (by first | exact (show (numK 8 pv 8).length = 8 from A4 _ _ _) | simp [(show (numK 8 pv 8).length = 8 from A4 _ _ _)]), (by simp), (by omega), (by unfold maxLen; omega)⟩) rfl (by first | exact (show (numK 8 ep 8).length = 8 from A4 _ _ _) | simp [(show (numK 8 ep 8).length = 8 from A4 _ _ _)]; try omega) (SrcAt.mem (AS 2 rfl (AV _))) (by omega) (by unfold maxLen; omega) (by omega))) ?_
 rintro v1 L1 ⟨nb4, sp1, cp1, hg1, rfl, rfl, ha1, ha2, ha3, ha4⟩
 refine ⟨[(7, Slc nb4 0 16 cp1)], ?_⟩
 show DP _ _ _ _ _ _ _ _ [_, _, ⟨nb4, cu8 ((numK 8 pv 8) ++ (numK 8 ep 8)) ++ sp1, 5, (0, 0)⟩]
 refine DN ⟨[2, 5, 6], [0, 1, 3, 4, 7], [0, 1, 3, 4], [7], []⟩ rfl rfl (by decide +kernel) rfl ⟨⟨_, rfl, AJ rfl (AH rfl)⟩, trivial⟩ ?_
 refine C7 (F' := [(3, Slc nb4 0 16 cp1), (1, Ptr nb1 0), (2, SL none 0 0)]) (by kernel_rfl) ?_
 refine AF (AK (AD (AA _ (AL rfl) rfl ?_)))
 refine AA (Ptr nb1 2) (AB 2 36 4 BL rfl CU rfl rfl) rfl ?_
 refine AA (Ptr nb1 2) (AB 0 3 1 BF rfl AR rfl rfl) rfl ?_
 refine AA (I64 k) (AI rfl (AQ AT (AS 0 rfl (AG (AE (AE (Seg.head))))))) rfl ?_
 refine AA (U8 (UInt8.ofNat k)) (CX _ _ rfl fun _ => FK (by rw [AZ]; rfl) BA k _ (by omega)) rfl ?_
 refine A9 (B3 5 1 _ [(0, U8 (UInt8.ofNat k))] (cu8 ([UInt8.ofNat k])) AW B5 CE rfl rfl rfl (by kernel_rfl)) rfl ?_
 rintro v1 L1 ⟨nb5, hnb5, rfl, rfl⟩
 show JL _ _ _ _ ((18, Slc nb5 0 1 1) :: _) [_, _, _, ⟨nb5, cu8 ([UInt8.ofNat k]), 5, (0, 0)⟩]
 refine A9 (CP 43 5 [false, false, true, false] (Slc nb4 0 16 cp1) 16 ((numK 8 pv 8) ++ (numK 8 ep 8)) ([UInt8.ofNat k]) (some ⟨nb5, 0, none⟩) 1 1 17 AW CM rfl (.inr ⟨nb4, sp1, cp1, rfl, rfl, (by first | exact ha1 | simp [ha1]), ha2, (by omega), (by omega)⟩) rfl (by simp) (SrcAt.mem (AS 3 rfl (AV _))) (by omega) (by unfold maxLen; omega) (by omega)) rfl ?_
 rintro v1 L1 ⟨nb6, sp2, cp2, hg2, rfl, rfl, ha5, ha6, ha7, ha8⟩
 show JL _ _ _ _ ((19, Slc nb6 0 17 cp2) :: _) [_, _, _, ⟨nb6, cu8 (((numK 8 pv 8) ++ (numK 8 ep 8)) ++ ([UInt8.ofNat k])) ++ sp2, 5, (0, 0)⟩]
 refine AA _ (AH rfl) rfl ?_
 refine AN (AF (AK (AK (AD (AA (Ptr nb1 2) (AB 2 36 4 BL rfl CU rfl rfl) rfl ?_)))))
 refine AA (Ptr nb1 2) (AB 0 3 1 BF rfl AR rfl rfl) rfl ?_
 refine AA (I64 k) (AI rfl (AQ AT (AS 0 rfl (AG (AE (AE (Seg.head))))))) rfl ?_
 refine AA (.bool (decide (((k:Int)) = (3:Int)))) (AU rfl rfl fun _ => BO _ _) rfl ?_
 refine AN (AF (CO _ rfl (decide_eq_true (by omega)) ?_))
 refine AK (AD (AA _ (AL rfl) rfl ?_))
 refine AA (Ptr nb1 2) (AB 2 36 4 BL rfl CU rfl rfl) rfl ?_
 refine AA (Ptr nb1 5) (AB 3 22 1 BF rfl AX rfl rfl) rfl ?_
 refine AA (U64 bl) (AI rfl (AQ AY (AS 0 rfl (AG (AE (AE (AE (AE (AE (Seg.head)))))))))) rfl ?_
 refine A9 (CG 88 [U64 bl, I64 8] _ (A6 _ D8 rfl) (fun w1 hw1 => EU bl 8 w1 (by omega))) rfl ?_
 rintro v1 L1 ⟨_, ⟨nb7, rfl, rfl⟩, rfl⟩
 show JL _ _ _ _ ((28, Slc nb7 0 8 8) :: _) [_, _, _, _, ⟨nb7, cu8 (numK 8 bl 8), 5, (0, 0)⟩]
 refine A9 (CP 43 5 [false, false, false, true, false] (Slc nb6 0 17 cp2) 17 (((numK 8 pv 8) ++ (numK 8 ep 8)) ++ ([UInt8.ofNat k])) (numK 8 bl 8) (some ⟨nb7, 0, none⟩) 8 8 25 AW CM rfl (.inr ⟨nb6, sp2, cp2, rfl, rfl, (by first | exact ha5 | simp [ha5]), ha6, (by omega), (by omega)⟩) rfl (by first | exact (show (numK 8 bl 8).length = 8 from A4 _ _ _) | simp [(show (numK 8 bl 8).length = 8 from A4 _ _ _)]; try omega) (SrcAt.mem (AS 4 rfl (AV _))) (by omega) (by unfold maxLen; omega) (by omega)) rfl ?_
 rintro v1 L1 ⟨nb8, sp3, cp3, hg3, rfl, rfl, ha9, ha10, ha11, ha12⟩
 show JL _ _ _ _ ((29, Slc nb8 0 25 cp3) :: _) [_, _, _, _, ⟨nb8, cu8 ((((numK 8 pv 8) ++ (numK 8 ep 8)) ++ ([UInt8.ofNat k])) ++ (numK 8 bl 8)) ++ sp3, 5, (0, 0)⟩]
 refine AA _ (AH rfl) rfl ?_
 refine AN (AF (BK (A1 (BP [false, false, false, false, true] ?_))))
 show JQ _ _ _ _ [_]
 refine BJ (Slc nb8 0 25 cp3) (res1 Tryd.results117 (BH rfl)) fun w1 hw1 => ?_
 have hq : (((numK 8 pv 8) ++ (numK 8 ep 8)) ++ ([UInt8.ofNat k])) ++ (numK 8 bl 8) = tktT pv ep k l ls bl := by
  unfold tktT
  rw [if_pos hk, EX]
 rw [hq] at hw1
 exact ⟨_, _, rfl, ⟨nb8, sp3, cp3, rfl, rfl, ha10, ha11, ha12⟩, hw1.sub (by simp) (by simp)⟩
theorem rtext12_c (pv ep : UInt64) (k : Nat) (ai : Option Addr) (ni ci : Nat) (l : List UInt64) (sa : Option Addr) (ns sc : Nat) (ls : List SealR) (bl : UInt64) (tg : List UInt8) (tot : Nat)  (w : World) (hl : l.length = ni) (hnm : ni ≤ 2000000) (hnc : ni ≤ ci) (hcm : ci ≤ maxLen) (hv : RdV w ai (cu64 l)) (hls : ls.length = ns) (hnn : ns ≤ 2000000) (hnd : ns ≤ sc) (hcn : sc ≤ maxLen) (hs : RdV w sa (ls.flatMap sealC)) (htg : tg.length = 16) (hRO : RightO (k:Int) l ls bl = true) (hk : k = 1 ∨ k = 2) (hsm : ns ≤ 300) (htot : 18 + 4*ni + 56*ns = tot)  : Calls Tryd.prog 117 #[.agg ([U64 pv, U64 ep, I64 k, SL ai ni ci, SL sa ns sc, U64 bl] ++ cu8 tg).toArray] w (Post w [] (fun v L => ∃ g sp cap, v = Slc g 0 tot cap ∧ L = [⟨g, cu8 (tktT pv ep k l ls bl) ++ sp, 5, (0, 0)⟩] ∧ sp.length = cap - tot ∧ tot ≤ cap ∧ cap ≤ maxLen)) := by
 have hmx : maxLen = 9223372036854775807 := rfl
 have hRI := RightO_idx hRO (by omega)
 have hRp := RightI_pos hRI
 rw [hl] at hRp
 refine enter (P := Tryd.prog) (f := 117) (fn := Tryd.f117) w [] 74 [] [.agg ([U64 pv, U64 ep, I64 k, SL ai ni ci, SL sa ns sc, U64 bl] ++ cu8 tg).toArray] Tryd.func117 rfl rfl (by simp) (CC (by simp) (by simp) (by simp)) ?_
 show JC _ _ _ [(0, .agg ([U64 pv, U64 ep, I64 k, SL ai ni ci, SL sa ns sc, U64 bl] ++ cu8 tg).toArray)] _
 refine AK (AD (A9 (CL (.agg ([U64 pv, U64 ep, I64 k, SL ai ni ci, SL sa ns sc, U64 bl] ++ cu8 tg).toArray) ([U64 pv, U64 ep, I64 k, SL ai ni ci, SL sa ns sc, U64 bl] ++ cu8 tg) rfl (by first | rfl | simp)) rfl ?_))
 rintro v1 L1 ⟨nb1, hnb1, rfl, rfl⟩
 show JL _ _ _ _ ((1, Ptr nb1 0) :: _) [⟨nb1, [U64 pv, U64 ep, I64 k, SL ai ni ci, SL sa ns sc, U64 bl] ++ cu8 tg, 38, (0, 0)⟩]
 refine AA _ (AH rfl) rfl ?_
 refine AN (AF (AK (DH 74 4 [(0, Ptr nb1 0), (1, U64 pv), (3, Ptr nb1 1), (4, U64 ep)] B8 rfl (by decide +kernel) ?_)))
 refine CZ ⟨[], [0, 1, 3, 4], [], [0, 1, 3, 4], [2]⟩ 2 _ rfl rfl (by decide +kernel) rfl ⟨⟨_, rfl, AJ rfl (AB 0 22 1 BL rfl AX rfl rfl)⟩, ⟨_, rfl, AJ rfl (AI rfl (AQ AY (AS 0 rfl (AG (Seg.head)))))⟩, ⟨_, rfl, AJ rfl (AB 1 22 1 BL rfl AX rfl rfl)⟩, ⟨_, rfl, AJ rfl (AI rfl (AQ AY (AS 0 rfl (AG (AE (Seg.head))))))⟩, trivial⟩ rfl (BI rfl (CG 88 [U64 pv, I64 8] _ (A6 _ D8 rfl) (fun w1 hw1 => EU pv 8 w1 (by omega)))) ?_
 rintro v1 L1 ⟨_, ⟨nb2, rfl, rfl⟩, rfl⟩
 refine ⟨[], ?_⟩
 show DP _ _ _ _ _ _ _ _ [_, ⟨nb2, cu8 (numK 8 pv 8), 5, (0, 0)⟩]
 refine CZ ⟨[2], [0, 1, 3, 4], [0, 1], [3, 4], [5]⟩ 5 _ rfl rfl (by decide +kernel) rfl ⟨⟨_, rfl, AJ rfl (AB 1 22 1 BL rfl AX rfl rfl)⟩, ⟨_, rfl, AJ rfl (AI rfl (AQ AY (AS 0 rfl (AG (AE (Seg.head))))))⟩, trivial⟩ rfl (BI rfl (CG 88 [U64 ep, I64 8] _ (A6 _ D8 rfl) (fun w1 hw1 => EU ep 8 w1 (by omega)))) ?_
 rintro v1 L1 ⟨_, ⟨nb3, rfl, rfl⟩, rfl⟩
 refine ⟨[], ?_⟩
 show DP _ _ _ _ _ _ _ _ [_, _, ⟨nb3, cu8 (numK 8 ep 8), 5, (0, 0)⟩]
 refine CZ ⟨[2, 5], [0, 1, 3, 4], [0, 1, 3, 4], [], [6]⟩ 6 _ rfl rfl (by decide +kernel) rfl trivial rfl (BI rfl (CP 43 5 [false, true, false] (Slc nb2 0 8 8) 8 (numK 8 pv 8) (numK 8 ep 8) (some ⟨nb3, 0, none⟩) 8 8 16 AW CM rfl (.inr ⟨nb2, [], 8, rfl, (by simp [take?, cu8, cu32, cu64]), (by first | exact (show (numK 8 pv 8).length = 8 from A4 _ _ _) | simp [(show (numK 8 pv 8).length = 8 from A4 _ _ _)]), (by simp), (by omega), (by unfold maxLen; omega)⟩) rfl (by first | exact (show (numK 8 ep 8).length = 8 from A4 _ _ _) | simp [(show (numK 8 ep 8).length = 8 from A4 _ _ _)]; try omega) (SrcAt.mem (AS 2 rfl (AV _))) (by omega) (by unfold maxLen; omega) (by omega))) ?_
 rintro v1 L1 ⟨nb4, sp1, cp1, hg1, rfl, rfl, ha1, ha2, ha3, ha4⟩
 refine ⟨[(7, Slc nb4 0 16 cp1)], ?_⟩
 show DP _ _ _ _ _ _ _ _ [_, _, ⟨nb4, cu8 ((numK 8 pv 8) ++ (numK 8 ep 8)) ++ sp1, 5, (0, 0)⟩]
 refine DN ⟨[2, 5, 6], [0, 1, 3, 4, 7], [0, 1, 3, 4], [7], []⟩ rfl rfl (by decide +kernel) rfl ⟨⟨_, rfl, AJ rfl (AH rfl)⟩, trivial⟩ ?_
 refine C7 (F' := [(3, Slc nb4 0 16 cp1), (1, Ptr nb1 0), (2, SL none 0 0)]) (by kernel_rfl) ?_
 refine AF (AK (AD (AA _ (AL rfl) rfl ?_)))
 refine AA (Ptr nb1 2) (AB 2 36 4 BL rfl CU rfl rfl) rfl ?_
 refine AA (Ptr nb1 2) (AB 0 3 1 BF rfl AR rfl rfl) rfl ?_
 refine AA (I64 k) (AI rfl (AQ AT (AS 0 rfl (AG (AE (AE (Seg.head))))))) rfl ?_
 refine AA (U8 (UInt8.ofNat k)) (CX _ _ rfl fun _ => FK (by rw [AZ]; rfl) BA k _ (by omega)) rfl ?_
 refine A9 (B3 5 1 _ [(0, U8 (UInt8.ofNat k))] (cu8 ([UInt8.ofNat k])) AW B5 CE rfl rfl rfl (by kernel_rfl)) rfl ?_
 rintro v1 L1 ⟨nb5, hnb5, rfl, rfl⟩
 show JL _ _ _ _ ((18, Slc nb5 0 1 1) :: _) [_, _, _, ⟨nb5, cu8 ([UInt8.ofNat k]), 5, (0, 0)⟩]
 refine A9 (CP 43 5 [false, false, true, false] (Slc nb4 0 16 cp1) 16 ((numK 8 pv 8) ++ (numK 8 ep 8)) ([UInt8.ofNat k]) (some ⟨nb5, 0, none⟩) 1 1 17 AW CM rfl (.inr ⟨nb4, sp1, cp1, rfl, rfl, (by first | exact ha1 | simp [ha1]), ha2, (by omega), (by omega)⟩) rfl (by simp) (SrcAt.mem (AS 3 rfl (AV _))) (by omega) (by unfold maxLen; omega) (by omega)) rfl ?_
 rintro v1 L1 ⟨nb6, sp2, cp2, hg2, rfl, rfl, ha5, ha6, ha7, ha8⟩
 show JL _ _ _ _ ((19, Slc nb6 0 17 cp2) :: _) [_, _, _, ⟨nb6, cu8 (((numK 8 pv 8) ++ (numK 8 ep 8)) ++ ([UInt8.ofNat k])) ++ sp2, 5, (0, 0)⟩]
 refine AA _ (AH rfl) rfl ?_
 refine AN (AF (AK (AK (AD (AA (Ptr nb1 2) (AB 2 36 4 BL rfl CU rfl rfl) rfl ?_)))))
 refine AA (Ptr nb1 2) (AB 0 3 1 BF rfl AR rfl rfl) rfl ?_
 refine AA (I64 k) (AI rfl (AQ AT (AS 0 rfl (AG (AE (AE (Seg.head))))))) rfl ?_
 refine AA (.bool (decide (((k:Int)) = (3:Int)))) (AU rfl rfl fun _ => BO _ _) rfl ?_
 refine AN (AF (BN _ rfl (decide_eq_false (by omega)) ?_))
 refine BE (AF (AK (AD (AA _ (AL rfl) rfl ?_))))
 refine AA (Ptr nb1 2) (AB 2 36 4 BL rfl CU rfl rfl) rfl ?_
 refine AA (Ptr nb1 3) (AB 1 23 1 BF rfl DG rfl rfl) rfl ?_
 refine AA (SL ai ni ci) (AI rfl (AQ DL (AS 0 rfl (AG (AE (AE (AE (Seg.head)))))))) rfl ?_
 refine AA (I64 ni) (CY BW rfl) rfl ?_
 refine AA (I64 ((ni:Int) - 1)) (AU rfl rfl fun _ => EV _ _ ((ni:Int) - 1) (by omega) (by omega)) rfl ?_
 refine AA (U8 (UInt8.ofNat (ni - 1))) (CX _ _ rfl fun _ => FK (by rw [AZ]; rfl) BA (ni - 1) _ (by omega)) rfl ?_
 refine A9 (B3 5 1 _ [(0, U8 (UInt8.ofNat (ni - 1)))] (cu8 ([UInt8.ofNat (ni - 1)])) AW B5 CE rfl rfl rfl (by kernel_rfl)) rfl ?_
 rintro v1 L1 ⟨nb7, hnb7, rfl, rfl⟩
 show JL _ _ _ _ ((37, Slc nb7 0 1 1) :: _) [_, _, _, _, ⟨nb7, cu8 ([UInt8.ofNat (ni - 1)]), 5, (0, 0)⟩]
 refine A9 (CP 43 5 [false, false, false, true, false] (Slc nb6 0 17 cp2) 17 (((numK 8 pv 8) ++ (numK 8 ep 8)) ++ ([UInt8.ofNat k])) ([UInt8.ofNat (ni - 1)]) (some ⟨nb7, 0, none⟩) 1 1 18 AW CM rfl (.inr ⟨nb6, sp2, cp2, rfl, rfl, (by first | exact ha5 | simp [ha5]), ha6, (by omega), (by omega)⟩) rfl (by simp) (SrcAt.mem (AS 4 rfl (AV _))) (by omega) (by unfold maxLen; omega) (by omega)) rfl ?_
 rintro v1 L1 ⟨nb8, sp3, cp3, hg3, rfl, rfl, ha9, ha10, ha11, ha12⟩
 show JL _ _ _ _ ((38, Slc nb8 0 18 cp3) :: _) [_, _, _, _, ⟨nb8, cu8 ((((numK 8 pv 8) ++ (numK 8 ep 8)) ++ ([UInt8.ofNat k])) ++ ([UInt8.ofNat (ni - 1)])) ++ sp3, 5, (0, 0)⟩]
 refine AA _ (AH rfl) rfl ?_
 refine AN (AF (AK (AK (AD (AA _ (AH rfl) rfl ?_)))))
 refine AN (AF (B2 (BP [true, false, false, false, true] ?_)))
 show JC _ _ _ _ [_, _]
 refine DV (ι := Nat × List UInt8 × Nat × List Value × Nat) (fun ⟨i, oqi, gqi, spqi, cpqi⟩ => [(1, Ptr nb1 0), (2, SL none 0 0), (4, I64 i), (3, Slc gqi 0 (4*i + 18) cpqi)]) (fun ⟨i, oqi, gqi, spqi, cpqi⟩ => [⟨nb1, [U64 pv, U64 ep, I64 k, SL ai ni ci, SL sa ns sc, U64 bl] ++ cu8 tg, 38, (0, 0)⟩, ⟨gqi, cu8 oqi ++ spqi, 5, (0, 0)⟩]) (fun ⟨i, oqi, gqi, spqi, cpqi⟩ => i ≤ ni ∧ oqi = (((numK 8 pv 8 ++ numK 8 ep 8) ++ [UInt8.ofNat k]) ++ [UInt8.ofNat (ni - 1)]) ++ idxT l i ∧ oqi.length = (4*i + 18) ∧ spqi.length = cpqi - ((4*i + 18)) ∧ (4*i + 18) ≤ cpqi ∧ cpqi ≤ maxLen) (fun ⟨i, oqi, gqi, spqi, cpqi⟩ => ni - i) (0, (((numK 8 pv 8) ++ (numK 8 ep 8)) ++ ([UInt8.ofNat k])) ++ ([UInt8.ofNat (ni - 1)]), nb8, sp3, cp3) ⟨by omega, by rw [idxT_zero, List.append_nil], (by have h := ha9; omega), (by have h := ha10; omega), by omega, by omega⟩ (Sub.cons rfl (Sub.cons rfl (Sub.cons rfl (Sub.cons (FL (by omega)) (Sub.nil))))) rfl ?_
 rintro ⟨i, oqi, gqi, spqi, cpqi⟩ ⟨hi1, hi2, hi3, hi4, hi5, hi6⟩
 show JC _ _ _ [(1, Ptr nb1 0), (2, SL none 0 0), (4, I64 i), (3, Slc gqi 0 (4*i + 18) cpqi)] [⟨nb1, [U64 pv, U64 ep, I64 k, SL ai ni ci, SL sa ns sc, U64 bl] ++ cu8 tg, 38, (0, 0)⟩, ⟨gqi, cu8 oqi ++ spqi, 5, (0, 0)⟩]
 refine AK (AK (AD (AA _ (AL rfl) rfl ?_)))
 refine AA (Ptr nb1 2) (AB 2 36 4 BL rfl CU rfl rfl) rfl ?_
 refine AA (Ptr nb1 3) (AB 1 23 1 BF rfl DG rfl rfl) rfl ?_
 refine AA (SL ai ni ci) (AI rfl (AQ DL (AS 0 rfl (AG (AE (AE (AE (Seg.head)))))))) rfl ?_
 refine AA (I64 ni) (CY BW rfl) rfl ?_
 refine AA (.bool (decide (((i:Int)) < ((ni:Int))))) (AU rfl rfl fun _ => CR _ _) rfl ?_
 refine AN (AF (CI (decide (((i:Int)) < ((ni:Int)))) rfl (fun hb1 => ?_) (fun hb1 => ?_)))
 ·
  have hp1 : ((i:Int)) < ((ni:Int)) := of_decide_eq_true hb1
  refine BE (AF (AK (B2 (AD (AA _ (AL rfl) rfl ?_)))))
  refine AA (Ptr nb1 2) (AB 2 36 4 BL rfl CU rfl rfl) rfl ?_
  refine AA (Ptr nb1 3) (AB 1 23 1 BF rfl DG rfl rfl) rfl ?_
  refine AA (SL ai ni ci) (AI rfl (AQ DL (AS 0 rfl (AG (AE (AE (AE (Seg.head)))))))) rfl ?_
  refine AA _ (AL rfl) rfl ?_
  obtain ⟨bz1, oz1, hz1, hm1⟩ := RdV.pos hv (by rw [FP, hl]; omega)
  refine AA (Ptr bz1 (i + oz1)) (B4 22 1 (i + oz1) BW AX rfl hz1 rfl (by omega) (by omega) (by omega)) rfl ?_
  refine AA (U64 (g64 l i)) (AI rfl (AQ AY (CK (hm1.mem (by simp)) (Seg.get (g64_get (i := i) (by rw [hl]; omega))) (by omega)))) rfl ?_
  refine A9 (CG 88 [U64 (g64 l i), I64 4] _ (A6 _ D8 rfl) (fun w1 hw1 => EU (g64 l i) 4 w1 (by omega))) rfl ?_
  rintro v1 L1 ⟨_, ⟨nb9, rfl, rfl⟩, rfl⟩
  show JL _ _ _ _ ((54, Slc nb9 0 4 4) :: _) [_, _, ⟨nb9, cu8 (numK 4 (g64 l i) 4), 5, (0, 0)⟩]
  refine A9 (CP 43 5 [false, true, false] (Slc gqi 0 (4*i + 18) cpqi) (4*i + 18) oqi (numK 4 (g64 l i) 4) (some ⟨nb9, 0, none⟩) 4 4 (4*i + 22) AW CM rfl (.inr ⟨gqi, spqi, cpqi, rfl, rfl, (by first | exact hi3 | simp [hi3]), hi4, (by omega), (by omega)⟩) rfl (by first | exact (show (numK 4 (g64 l i) 4).length = 4 from A4 _ _ _) | simp [(show (numK 4 (g64 l i) 4).length = 4 from A4 _ _ _)]; try omega) (SrcAt.mem (AS 2 rfl (AV _))) (by omega) (by unfold maxLen; omega) (by omega)) rfl ?_
  rintro v1 L1 ⟨nb10, sp4, cp4, hg4, rfl, rfl, ha13, ha14, ha15, ha16⟩
  show JL _ _ _ _ ((55, Slc nb10 0 (4*i + 22) cp4) :: _) [_, _, ⟨nb10, cu8 (oqi ++ (numK 4 (g64 l i) 4)) ++ sp4, 5, (0, 0)⟩]
  refine AA _ (AH rfl) rfl ?_
  refine AN (BY (AF (AD (AA _ (AL rfl) rfl ?_))))
  refine AA (I64 ((i:Int) + 1)) (AU rfl rfl fun _ => DE _ _ ((i:Int) + 1) (by omega) (by omega)) rfl ?_
  refine AA _ (AH rfl) rfl ?_
  refine AN (DK (BP [true, false, true] ?_))
  show K _ _ [_, _] _
  refine EM (i + 1, oqi ++ (numK 4 (g64 l i) 4), nb10, sp4, cp4) ⟨by omega, by rw [hi2, idxT_succ, List.append_assoc], (by have h := ha13; omega), (by have h := ha14; omega), by omega, by omega⟩ (by first | (simp; omega) | simp | (dsimp only; omega) | omega) (Sub.cons rfl (Sub.cons rfl (Sub.cons rfl (Sub.cons (FL (by omega)) (Sub.nil))))) rfl
 ·
  have hp1 : ¬ (((i:Int)) < ((ni:Int))) := of_decide_eq_false hb1
  refine DU (A5 (A5 (CQ (AF (AK (AK (AD (AA _ (AH rfl) rfl ?_))))))))
  refine AN (AF (B2 (DV (ι := Nat × List UInt8 × Nat × List Value × Nat) (fun ⟨j, oqj, gqj, spqj, cpqj⟩ => [(1, Ptr nb1 0), (2, SL none 0 0), (5, I64 j), (3, Slc gqj 0 (56*j + 4*ni + 18) cpqj)]) (fun ⟨j, oqj, gqj, spqj, cpqj⟩ => [⟨nb1, [U64 pv, U64 ep, I64 k, SL ai ni ci, SL sa ns sc, U64 bl] ++ cu8 tg, 38, (0, 0)⟩, ⟨gqj, cu8 oqj ++ spqj, 5, (0, 0)⟩]) (fun ⟨j, oqj, gqj, spqj, cpqj⟩ => j ≤ ns ∧ oqj = ((((numK 8 pv 8 ++ numK 8 ep 8) ++ [UInt8.ofNat k]) ++ [UInt8.ofNat (ni - 1)]) ++ idxT l ni) ++ selT (ls.take j) ∧ oqj.length = (56*j + 4*ni + 18) ∧ spqj.length = cpqj - ((56*j + 4*ni + 18)) ∧ (56*j + 4*ni + 18) ≤ cpqj ∧ cpqj ≤ maxLen) (fun ⟨j, oqj, gqj, spqj, cpqj⟩ => ns - j) (0, oqi, gqi, spqi, cpqi) ⟨by omega, by rw [show i = ni by omega] at hi2; rw [hi2]; simp [selT_nil], (by have h := hi3; omega), (by have h := hi4; omega), by omega, by omega⟩ (Sub.cons rfl (Sub.cons rfl (Sub.cons rfl (Sub.cons (FL (by omega)) (Sub.nil))))) rfl ?_)))
  rintro ⟨j, oqj, gqj, spqj, cpqj⟩ ⟨hj1, hj2, hj3, hj4, hj5, hj6⟩
  show JC _ _ _ [(1, Ptr nb1 0), (2, SL none 0 0), (5, I64 j), (3, Slc gqj 0 (56*j + 4*ni + 18) cpqj)] [⟨nb1, [U64 pv, U64 ep, I64 k, SL ai ni ci, SL sa ns sc, U64 bl] ++ cu8 tg, 38, (0, 0)⟩, ⟨gqj, cu8 oqj ++ spqj, 5, (0, 0)⟩]
  refine AK (AK (AD (AA _ (AL rfl) rfl ?_)))
  refine AA (Ptr nb1 2) (AB 2 36 4 BL rfl CU rfl rfl) rfl ?_
  refine AA (Ptr nb1 4) (AB 2 34 1 BF rfl DF rfl rfl) rfl ?_
  refine AA (SL sa ns sc) (AI rfl (AQ DW (AS 0 rfl (AG (AE (AE (AE (AE (Seg.head))))))))) rfl ?_
  refine AA (I64 ns) (CY C9 rfl) rfl ?_
  refine AA (.bool (decide (((j:Int)) < ((ns:Int))))) (AU rfl rfl fun _ => CR _ _) rfl ?_
  refine AN (AF (CI (decide (((j:Int)) < ((ns:Int)))) rfl (fun hb2 => ?_) (fun hb2 => ?_)))
  ·
   have hp2 : ((j:Int)) < ((ns:Int)) := of_decide_eq_true hb2
   refine BE (AF (AK (B2 (AD (AA _ (AL rfl) rfl ?_)))))
   refine AA (Ptr nb1 2) (AB 2 36 4 BL rfl CU rfl rfl) rfl ?_
   refine AA (Ptr nb1 4) (AB 2 34 1 BF rfl DF rfl rfl) rfl ?_
   refine AA (SL sa ns sc) (AI rfl (AQ DW (AS 0 rfl (AG (AE (AE (AE (AE (Seg.head))))))))) rfl ?_
   refine AA _ (AL rfl) rfl ?_
   obtain ⟨x1, hx1⟩ : ∃ x, ls[j]? = some x := ⟨_, List.getElem?_eq_getElem (by rw [hls]; omega)⟩
   obtain ⟨bz2, oz2, hz2, hm2⟩ := E4 FB (by decide) hs hx1
   refine AA (Ptr bz2 (49*j + oz2)) (B4 164 49 (49*j + oz2) C9 C8 rfl hz2 rfl (by omega) (by omega) (by omega)) rfl ?_
   refine AA (.agg ([U64 x1.e] ++ cu8 x1.d ++ cu8 x1.t).toArray) (AI rfl (BV Tryd.isAgg164 C8 (by simp [x1.hd, x1.ht]) (CK (hm2.mem (by simp)) (AV _) (by omega)))) rfl ?_
   refine A9 (CG 105 [.agg ([U64 x1.e] ++ cu8 x1.d ++ cu8 x1.t).toArray] _ (A6 _ Tryd.call105 rfl) (fun w1 hw1 => rput7_c x1.e x1.d x1.t w1 x1.hd x1.ht)) rfl ?_
   rintro v1 L1 ⟨_, ⟨nb11, sp5, cp5, rfl, rfl, hc1, hc2, hc3⟩, rfl⟩
   show JL _ _ _ _ ((71, Slc nb11 0 56 cp5) :: _) [_, _, ⟨nb11, cu8 (putL x1.e x1.d x1.t) ++ sp5, 5, (0, 0)⟩]
   refine A9 (CP 43 5 [false, true, false] (Slc gqj 0 (56*j + 4*ni + 18) cpqj) (56*j + 4*ni + 18) oqj (putL x1.e x1.d x1.t) (some ⟨nb11, 0, none⟩) 56 cp5 (56*j + 4*ni + 74) AW CM rfl (.inr ⟨gqj, spqj, cpqj, rfl, rfl, (by first | exact hj3 | simp [hj3]), hj4, (by omega), (by omega)⟩) rfl (by first | exact (show (putL x1.e x1.d x1.t).length = 56 from (FM x1.hd x1.ht)) | simp [(show (putL x1.e x1.d x1.t).length = 56 from (FM x1.hd x1.ht))]; try omega) (SrcAt.mem (AS 2 rfl (AG (AV _)))) (by omega) (by unfold maxLen; omega) (by omega)) rfl ?_
   rintro v1 L1 ⟨nb12, sp6, cp6, hg5, rfl, rfl, ha17, ha18, ha19, ha20⟩
   show JL _ _ _ _ ((72, Slc nb12 0 (56*j + 4*ni + 74) cp6) :: _) [_, _, ⟨nb12, cu8 (oqj ++ (putL x1.e x1.d x1.t)) ++ sp6, 5, (0, 0)⟩]
   refine AA _ (AH rfl) rfl ?_
   refine AN (BY (AF (AD (AA _ (AL rfl) rfl ?_))))
   refine AA (I64 ((j:Int) + 1)) (AU rfl rfl fun _ => DE _ _ ((j:Int) + 1) (by omega) (by omega)) rfl ?_
   refine AA _ (AH rfl) rfl ?_
   refine AN (DK (BP [true, false, true] ?_))
   show K _ _ [_, _] _
   refine EM (j + 1, oqj ++ (putL x1.e x1.d x1.t), nb12, sp6, cp6) ⟨by omega, by rw [hj2, ← F9 hx1, selT_app, List.append_assoc], (by have h := ha17; omega), (by have h := ha18; omega), by omega, by omega⟩ (by first | (simp; omega) | simp | (dsimp only; omega) | omega) (Sub.cons rfl (Sub.cons rfl (Sub.cons rfl (Sub.cons (FL (by omega)) (Sub.nil))))) rfl
  ·
   have hp2 : ¬ (((j:Int)) < ((ns:Int))) := of_decide_eq_false hb2
   refine DU (A5 (A5 (CQ (AF (AK (AD (AA _ (AL rfl) rfl ?_)))))))
   refine AA _ (AH rfl) rfl ?_
   refine AN (AF (BK (BP [false, true] ?_)))
   show JQ _ _ _ _ [_]
   refine BJ (Slc gqj 0 (56*j + 4*ni + 18) cpqj) (res1 Tryd.results117 (BH rfl)) fun w1 hw1 => ?_
   obtain rfl : j = ns := by omega
   have hq : oqj = tktT pv ep k l ls bl := by
    unfold tktT
    rw [if_neg (by omega), hl, hj2, List.take_of_length_le (by omega), EX, EX]
   rw [hq] at hw1
   obtain rfl : tot = (56*j + 4*ni + 18) := by omega
   exact ⟨_, _, rfl, ⟨gqj, spqj, cpqj, rfl, rfl, hj4, hj5, hj6⟩, hw1.sub (by simp) (by simp)⟩
theorem rtext_w (pv ep : UInt64) (k : Nat) (ai : Option Addr) (ni ci : Nat) (l : List UInt64) (sa : Option Addr) (ns sc : Nat) (ls : List SealR) (bl : UInt64) (tg : List UInt8) (tot : Nat) (w : World) (hl : l.length = ni) (hnm : ni ≤ 2000000) (hnc : ni ≤ ci) (hcm : ci ≤ maxLen) (hv : RdV w ai (cu64 l)) (hls : ls.length = ns) (hnn : ns ≤ 2000000) (hnd : ns ≤ sc) (hcn : sc ≤ maxLen) (hs : RdV w sa (ls.flatMap sealC)) (htg : tg.length = 16) (hmay : mayN pv ep (k:Int) l ls bl = 0) (hk : k = 1 ∨ k = 2 ∨ k = 3) (hsm : ns ≤ 300) (htot : tktN k ni ns = tot) : Calls Tryd.prog 117 #[.agg ([U64 pv, U64 ep, I64 k, SL ai ni ci, SL sa ns sc, U64 bl] ++ cu8 tg).toArray] w (Post w [] (fun v L => ∃ g sp cap, v = Slc g 0 tot cap ∧ L = [⟨g, cu8 (tktT pv ep k l ls bl) ++ sp, 5, (0, 0)⟩] ∧ sp.length = cap - tot ∧ tot ≤ cap ∧ cap ≤ maxLen)) := by
  by_cases h3 : k = 3
  · have e : tot = 25 := by rw [← htot]; unfold tktN; rw [if_pos h3]
    subst e
    exact rtext3_c pv ep k ai ni ci l sa ns sc ls bl tg w hl hnm hnc hcm hv hls hnn hnd hcn hs htg h3
  · exact rtext12_c pv ep k ai ni ci l sa ns sc ls bl tg tot w hl hnm hnc hcm hv hls hnn hnd hcn hs htg (mayN_right hmay) (by omega) hsm (by rw [← htot]; unfold tktN; rw [if_neg h3])
theorem rput13_c (pv ep : UInt64) (k : Nat) (ai : Option Addr) (ni ci : Nat) (l : List UInt64) (sa : Option Addr) (ns sc : Nat) (ls : List SealR) (bl : UInt64) (tg : List UInt8) (tot : Nat)  (w : World) (hl : l.length = ni) (hnm : ni ≤ 2000000) (hnc : ni ≤ ci) (hcm : ci ≤ maxLen) (hv : RdV w ai (cu64 l)) (hls : ls.length = ns) (hnn : ns ≤ 2000000) (hnd : ns ≤ sc) (hcn : sc ≤ maxLen) (hs : RdV w sa (ls.flatMap sealC)) (htg : tg.length = 16) (hmay : mayN pv ep (k:Int) l ls bl = 0) (hk : k = 1 ∨ k = 2 ∨ k = 3) (hsm : ns ≤ 300) (htot : tktN k ni ns = tot) (htb : tot ≤ 30000)  : Calls Tryd.prog 52 #[.agg ([U64 pv, U64 ep, I64 k, SL ai ni ci, SL sa ns sc, U64 bl] ++ cu8 tg).toArray] w (Post w [] (fun v L => ∃ g sp cap, v = Slc g 0 (tot + 16) cap ∧ L = [⟨g, cu8 ((tktT pv ep k l ls bl) ++ tg) ++ sp, 5, (0, 0)⟩] ∧ sp.length = cap - (tot + 16) ∧ (tot + 16) ≤ cap ∧ cap ≤ maxLen)) := by
 have hmx : maxLen = 9223372036854775807 := rfl
 refine enter (P := Tryd.prog) (f := 52) (fn := Tryd.f52) w [] 8 [] [.agg ([U64 pv, U64 ep, I64 k, SL ai ni ci, SL sa ns sc, U64 bl] ++ cu8 tg).toArray] Tryd.func52 rfl rfl (by simp) (CC (by simp) (by simp) (by simp)) ?_
 show JC _ _ _ [(0, .agg ([U64 pv, U64 ep, I64 k, SL ai ni ci, SL sa ns sc, U64 bl] ++ cu8 tg).toArray)] _
 refine AK (AD (A9 (CL (.agg ([U64 pv, U64 ep, I64 k, SL ai ni ci, SL sa ns sc, U64 bl] ++ cu8 tg).toArray) ([U64 pv, U64 ep, I64 k, SL ai ni ci, SL sa ns sc, U64 bl] ++ cu8 tg) rfl (by first | rfl | simp)) rfl ?_))
 rintro v1 L1 ⟨nb1, hnb1, rfl, rfl⟩
 show JL _ _ _ _ ((1, Ptr nb1 0) :: _) [⟨nb1, [U64 pv, U64 ep, I64 k, SL ai ni ci, SL sa ns sc, U64 bl] ++ cu8 tg, 38, (0, 0)⟩]
 refine AA _ (AH rfl) rfl ?_
 refine AN (AF (AK (DH 8 3 [(0, .agg ([U64 pv, U64 ep, I64 k, SL ai ni ci, SL sa ns sc, U64 bl] ++ cu8 tg).toArray), (2, Ptr nb1 6), (3, Slc nb1 6 16 16)] B8 rfl (by decide +kernel) ?_)))
 refine CZ ⟨[], [0, 2, 3], [], [0, 2, 3], [1]⟩ 1 _ rfl rfl (by decide +kernel) rfl ⟨⟨_, rfl, AJ rfl (AI rfl (BV Tryd.isAgg38 D6 (by simp [htg]) (AS 0 rfl (AV _))))⟩, ⟨_, rfl, AJ rfl (AB 6 27 16 BL rfl CN rfl rfl)⟩, ⟨_, rfl, AJ rfl (FW 16 5 1 0 16 6 16 C5 B5 rfl rfl rfl (by omega) (by omega) (by omega) (by omega) (by omega) 16 (by omega))⟩, trivial⟩ rfl (BI rfl (CG 117 [.agg ([U64 pv, U64 ep, I64 k, SL ai ni ci, SL sa ns sc, U64 bl] ++ cu8 tg).toArray] _ (A6 _ Tryd.call117 rfl) (fun w1 hw1 => rtext_w pv ep k ai ni ci l sa ns sc ls bl tg tot w1 hl (by omega) (by omega) (by omega) (CA hw1 rfl hv) hls (by omega) (by omega) (by omega) (CA hw1 rfl hs) htg hmay hk hsm htot))) ?_
 rintro v1 L1 ⟨_, ⟨nb2, sp1, cp1, rfl, rfl, hc1, hc2, hc3⟩, rfl⟩
 refine ⟨[], ?_⟩
 show DP _ _ _ _ _ _ _ _ [_, ⟨nb2, cu8 (tktT pv ep k l ls bl) ++ sp1, 5, (0, 0)⟩]
 refine CZ ⟨[1], [0, 2, 3], [0], [2, 3], [4]⟩ 4 _ rfl rfl (by decide +kernel) rfl ⟨⟨_, rfl, AJ rfl (AB 6 27 16 BL rfl CN rfl rfl)⟩, ⟨_, rfl, AJ rfl (FW 16 5 1 0 16 6 16 C5 B5 rfl rfl rfl (by omega) (by omega) (by omega) (by omega) (by omega) 16 (by omega))⟩, trivial⟩ rfl (BI rfl (CP 43 5 [false, true] (Slc nb2 0 tot cp1) tot (tktT pv ep k l ls bl) tg (some ⟨nb1, 6, none⟩) 16 16 (tot + 16) AW CM rfl (.inr ⟨nb2, sp1, cp1, rfl, rfl, (by first | exact (show (tktT pv ep k l ls bl).length = tot from ((FG hl hls).trans htot)) | simp [(show (tktT pv ep k l ls bl).length = tot from ((FG hl hls).trans htot))]), hc1, (by omega), (by omega)⟩) rfl (by first | exact htg | simp [htg]; try omega) (SrcAt.mem (AS 0 rfl (Seg.right 6 0 rfl rfl (AV _)))) (by omega) (by unfold maxLen; omega) (by omega))) ?_
 rintro v1 L1 ⟨nb3, sp2, cp2, hg1, rfl, rfl, ha1, ha2, ha3, ha4⟩
 refine ⟨[(5, Slc nb3 0 (tot + 16) cp2)], ?_⟩
 show DP _ _ _ _ _ _ _ _ [_, ⟨nb3, cu8 ((tktT pv ep k l ls bl) ++ tg) ++ sp2, 5, (0, 0)⟩]
 refine DN ⟨[1, 4], [0, 2, 3, 5], [0, 2, 3], [5], []⟩ rfl rfl (by decide +kernel) rfl ⟨⟨_, rfl, AJ rfl (AH rfl)⟩, trivial⟩ ?_
 refine C7 (F' := [(2, Slc nb3 0 (tot + 16) cp2)]) (by kernel_rfl) ?_
 refine AF (BK (BP [false, true] ?_))
 show JQ _ _ _ _ [_]
 refine BJ (Slc nb3 0 (tot + 16) cp2) (res1 Tryd.results52 (BH rfl)) fun w1 hw1 => ?_
 exact ⟨_, _, rfl, ⟨nb3, sp2, cp2, rfl, rfl, ha2, ha3, ha4⟩, hw1.sub (by simp) (by simp)⟩
theorem bld38_0123 {w : World} {v0 : Value} {v1 : Value} {c2 : List Value} {c3 : List Value} (h0 : v0.cells = [v0].toArray) (h1 : v1.cells = [v1].toArray) (h2 : c2.length = 4) (h3 : c3.length = 16) : (Instr.build 38 ([(0, v0), (1, v1), (2, .agg c2.toArray), (3, .agg c3.toArray)] : List (Nat × Value)).toArray).run Tryd.prog w = .ok (.agg (((([v0] : List Value) ++ ([v1] : List Value)) ++ c2) ++ c3).toArray) w :=
 FS (places := #[(0, 1), (1, 1), (2, 4), (6, 16)]) (Z := (([U64 0] : List Value) ++ (([U64 0] : List Value) ++ (([I64 0, .slice none 0 0, .slice none 0 0, U64 0] : List Value) ++ ((cu8 (zr8 16) : List Value) ++ []))))) (fun _ => by kernel_rfl) BL (fun _ => by kernel_rfl) ((fill_start ([U64 0] : List Value) (([U64 0] : List Value) ++ (([I64 0, .slice none 0 0, .slice none 0 0, U64 0] : List Value) ++ ((cu8 (zr8 16) : List Value) ++ []))) ([v0] : List Value) h0 (by simp [B6]) rfl).trans ((FJ ([v0] : List Value) ([U64 0] : List Value) (([I64 0, .slice none 0 0, .slice none 0 0, U64 0] : List Value) ++ ((cu8 (zr8 16) : List Value) ++ [])) ([v1] : List Value) h1 (by simp [B6]) rfl).trans ((FJ (([v0] : List Value) ++ ([v1] : List Value)) ([I64 0, .slice none 0 0, .slice none 0 0, U64 0] : List Value) ((cu8 (zr8 16) : List Value) ++ []) c2 rfl (by simp [B6, h2]) (by simp [h2, B6])).trans ((FJ ((([v0] : List Value) ++ ([v1] : List Value)) ++ c2) (cu8 (zr8 16) : List Value) [] c3 rfl (by simp [B6, h2, h3]) (by simp [h3, B6])).trans (by simp [Instr.fill])))))
attribute [local irreducible] blankB
theorem blank_c (pv ep : UInt64) (kd : Int) (ai : Option Addr) (ni ci : Nat) (l : List UInt64) (sa : Option Addr) (ns sc : Nat) (ls : List SealR) (bl : UInt64) (tg : List UInt8)  (w : World) (hl : l.length = ni) (hnm : ni ≤ 2000000) (hnc : ni ≤ ci) (hcm : ci ≤ maxLen) (hv : RdV w ai (cu64 l)) (hls : ls.length = ns) (hnn : ns ≤ 2000000) (hnd : ns ≤ sc) (hcn : sc ≤ maxLen) (hs : RdV w sa (ls.flatMap sealC)) (htg : tg.length = 16)  : Calls Tryd.prog 84 #[.agg ([U64 pv, U64 ep, I64 (kd), SL ai ni ci, SL sa ns sc, U64 bl] ++ cu8 tg).toArray] w (Post w [] (fun v L => v = .bool (blankB pv ep kd l ls bl tg) ∧ L = [])) := by
 have hmx : maxLen = 9223372036854775807 := rfl
 refine enter (P := Tryd.prog) (f := 84) (fn := Tryd.f84) w [] 6 [] [.agg ([U64 pv, U64 ep, I64 (kd), SL ai ni ci, SL sa ns sc, U64 bl] ++ cu8 tg).toArray] Tryd.func84 rfl rfl (by simp) (CC (by simp) (by simp) (by simp)) ?_
 show JC _ _ _ [(0, .agg ([U64 pv, U64 ep, I64 (kd), SL ai ni ci, SL sa ns sc, U64 bl] ++ cu8 tg).toArray)] _
 refine AK (AD (A9 (CL (.agg ([U64 pv, U64 ep, I64 (kd), SL ai ni ci, SL sa ns sc, U64 bl] ++ cu8 tg).toArray) ([U64 pv, U64 ep, I64 (kd), SL ai ni ci, SL sa ns sc, U64 bl] ++ cu8 tg) rfl (by first | rfl | simp)) rfl ?_))
 rintro v1 L1 ⟨nb1, hnb1, rfl, rfl⟩
 show JL _ _ _ _ ((1, Ptr nb1 0) :: _) [⟨nb1, [U64 pv, U64 ep, I64 (kd), SL ai ni ci, SL sa ns sc, U64 bl] ++ cu8 tg, 29, (0, 0)⟩]
 refine AA _ (AH rfl) rfl ?_
 refine AN (AF (AK (AD (AA (.agg ([U64 pv, U64 ep, I64 (kd), SL ai ni ci, SL sa ns sc, U64 bl] ++ cu8 tg).toArray) (AI rfl (BV ER DJ (by simp [htg]) (AS 0 rfl (AV _)))) rfl ?_))))
 refine AA (.agg ([U64 0, U64 0, I64 0, SL none 0 0, SL none 0 0, U64 0] ++ cu8 (zr8 16)).toArray) (EB [] _ rfl (fun _ => by kernel_rfl)) rfl ?_
 refine B1 (BG 49 [.agg ([U64 pv, U64 ep, I64 (kd), SL ai ni ci, SL sa ns sc, U64 bl] ++ cu8 tg).toArray, .agg ([U64 0, U64 0, I64 0, SL none 0 0, SL none 0 0, U64 0] ++ cu8 (zr8 16)).toArray] (.bool (decide (pv = (0:UInt64) ∧ ep = (0:UInt64) ∧ tg = (zr8 16) ∧ (kd) = (0:Int) ∧ bl = (0:UInt64) ∧ l = ([] : List UInt64) ∧ ls = ([] : List SealR)))) (A6 _ Tryd.call49 rfl) (fun w1 hw1 => same13_c pv ep (kd) ai ni ci l sa ns sc ls bl tg (0:UInt64) (0:UInt64) (0:Int) none 0 0 ([] : List UInt64) none 0 0 ([] : List SealR) (0:UInt64) (zr8 16) w1 hl (by omega) (by omega) (by omega) (CA hw1 rfl hv) hls (by omega) (by omega) (by omega) (CA hw1 rfl hs) htg rfl (by omega) (by omega) (by omega) RdV.nil rfl (by omega) (by omega) (by omega) RdV.nil (B6 16))) rfl ?_
 show JL _ _ _ _ ((5, .bool (decide (pv = (0:UInt64) ∧ ep = (0:UInt64) ∧ tg = (zr8 16) ∧ (kd) = (0:Int) ∧ bl = (0:UInt64) ∧ l = ([] : List UInt64) ∧ ls = ([] : List SealR)))) :: _) [_]
 refine AA _ (AH rfl) rfl ?_
 refine AN (AF (BK (BP [false] ?_)))
 show JQ _ _ _ _ []
 refine BJ (.bool (decide (pv = (0:UInt64) ∧ ep = (0:UInt64) ∧ tg = (zr8 16) ∧ (kd) = (0:Int) ∧ bl = (0:UInt64) ∧ l = ([] : List UInt64) ∧ ls = ([] : List SealR)))) (res1 Tryd.results84 (BH rfl)) fun w1 hw1 => ?_
 exact ⟨_, [], rfl, ⟨congrArg Value.bool (show _ = _ from by unfold blankB; rfl), rfl⟩, hw1.sub (by simp) (by simp)⟩
theorem rblank_c (pv ep : UInt64) (kd : Int) (ai : Option Addr) (ni ci : Nat) (l : List UInt64) (sa : Option Addr) (ns sc : Nat) (ls : List SealR) (bl : UInt64) (tg : List UInt8)  (w : World) (hl : l.length = ni) (hnm : ni ≤ 2000000) (hnc : ni ≤ ci) (hcm : ci ≤ maxLen) (hv : RdV w ai (cu64 l)) (hls : ls.length = ns) (hnn : ns ≤ 2000000) (hnd : ns ≤ sc) (hcn : sc ≤ maxLen) (hs : RdV w sa (ls.flatMap sealC)) (htg : tg.length = 16)  : Calls Tryd.prog 78 #[.agg ([U64 pv, U64 ep, I64 (kd), SL ai ni ci, SL sa ns sc, U64 bl] ++ cu8 tg).toArray] w (Post w [] (fun v L => v = .bool (blankB pv ep kd l ls bl tg) ∧ L = [])) := by
 have hmx : maxLen = 9223372036854775807 := rfl
 refine enter (P := Tryd.prog) (f := 78) (fn := Tryd.f78) w [] 6 [] [.agg ([U64 pv, U64 ep, I64 (kd), SL ai ni ci, SL sa ns sc, U64 bl] ++ cu8 tg).toArray] Tryd.func78 rfl rfl (by simp) (CC (by simp) (by simp) (by simp)) ?_
 show JC _ _ _ [(0, .agg ([U64 pv, U64 ep, I64 (kd), SL ai ni ci, SL sa ns sc, U64 bl] ++ cu8 tg).toArray)] _
 refine AK (AD (A9 (CL (.agg ([U64 pv, U64 ep, I64 (kd), SL ai ni ci, SL sa ns sc, U64 bl] ++ cu8 tg).toArray) ([U64 pv, U64 ep, I64 (kd), SL ai ni ci, SL sa ns sc, U64 bl] ++ cu8 tg) rfl (by first | rfl | simp)) rfl ?_))
 rintro v1 L1 ⟨nb1, hnb1, rfl, rfl⟩
 show JL _ _ _ _ ((1, Ptr nb1 0) :: _) [⟨nb1, [U64 pv, U64 ep, I64 (kd), SL ai ni ci, SL sa ns sc, U64 bl] ++ cu8 tg, 38, (0, 0)⟩]
 refine AA _ (AH rfl) rfl ?_
 refine AN (AF (AK (AD (AA (.agg ([U64 pv, U64 ep, I64 (kd), SL ai ni ci, SL sa ns sc, U64 bl] ++ cu8 tg).toArray) (AI rfl (BV Tryd.isAgg38 D6 (by simp [htg]) (AS 0 rfl (AV _)))) rfl ?_))))
 refine AA (.agg ([U64 0, U64 0, I64 0, SL none 0 0, SL none 0 0, U64 0] ++ cu8 (zr8 16)).toArray) (EB [] _ rfl (fun _ => by kernel_rfl)) rfl ?_
 refine B1 (BG 51 [.agg ([U64 pv, U64 ep, I64 (kd), SL ai ni ci, SL sa ns sc, U64 bl] ++ cu8 tg).toArray, .agg ([U64 0, U64 0, I64 0, SL none 0 0, SL none 0 0, U64 0] ++ cu8 (zr8 16)).toArray] (.bool (decide (pv = (0:UInt64) ∧ ep = (0:UInt64) ∧ tg = (zr8 16) ∧ (kd) = (0:Int) ∧ bl = (0:UInt64) ∧ l = ([] : List UInt64) ∧ ls = ([] : List SealR)))) (A6 _ Tryd.call51 rfl) (fun w1 hw1 => rsame13_c pv ep (kd) ai ni ci l sa ns sc ls bl tg (0:UInt64) (0:UInt64) (0:Int) none 0 0 ([] : List UInt64) none 0 0 ([] : List SealR) (0:UInt64) (zr8 16) w1 hl (by omega) (by omega) (by omega) (CA hw1 rfl hv) hls (by omega) (by omega) (by omega) (CA hw1 rfl hs) htg rfl (by omega) (by omega) (by omega) RdV.nil rfl (by omega) (by omega) (by omega) RdV.nil (B6 16))) rfl ?_
 show JL _ _ _ _ ((5, .bool (decide (pv = (0:UInt64) ∧ ep = (0:UInt64) ∧ tg = (zr8 16) ∧ (kd) = (0:Int) ∧ bl = (0:UInt64) ∧ l = ([] : List UInt64) ∧ ls = ([] : List SealR)))) :: _) [_]
 refine AA _ (AH rfl) rfl ?_
 refine AN (AF (BK (BP [false] ?_)))
 show JQ _ _ _ _ []
 refine BJ (.bool (decide (pv = (0:UInt64) ∧ ep = (0:UInt64) ∧ tg = (zr8 16) ∧ (kd) = (0:Int) ∧ bl = (0:UInt64) ∧ l = ([] : List UInt64) ∧ ls = ([] : List SealR)))) (res1 Tryd.results78 (BH rfl)) fun w1 hw1 => ?_
 exact ⟨_, [], rfl, ⟨congrArg Value.bool (show _ = _ from by unfold blankB; rfl), rfl⟩, hw1.sub (by simp) (by simp)⟩
theorem wmayK_c (pv ep : UInt64) (k : Nat) (ai : Option Addr) (ni ci : Nat) (l : List UInt64) (sa : Option Addr) (ns sc : Nat) (ls : List SealR) (bl : UInt64) (tg : List UInt8) (tot : Nat)  (w : World) (hl : l.length = ni) (hnm : ni ≤ 2000000) (hnc : ni ≤ ci) (hcm : ci ≤ maxLen) (hv : RdV w ai (cu64 l)) (hls : ls.length = ns) (hnn : ns ≤ 2000000) (hnd : ns ≤ sc) (hcn : sc ≤ maxLen) (hs : RdV w sa (ls.flatMap sealC)) (htg : tg.length = 16) (hmay : mayN pv ep (k:Int) l ls bl = 0) (hk : k = 1 ∨ k = 2 ∨ k = 3) (hsm : ns ≤ 300) (htot : tktN k ni ns = tot) (htb : tot ≤ 30000)  : Calls Tryd.prog 87 #[.agg ([U64 pv, U64 ep, I64 k, SL ai ni ci, SL sa ns sc, U64 bl] ++ cu8 tg).toArray] w (Post w [] (fun v L => v = .bool true ∧ L = [])) := by
 have hmx : maxLen = 9223372036854775807 := rfl
 refine enter (P := Tryd.prog) (f := 87) (fn := Tryd.f87) w [] 12 [] [.agg ([U64 pv, U64 ep, I64 k, SL ai ni ci, SL sa ns sc, U64 bl] ++ cu8 tg).toArray] Tryd.func87 rfl rfl (by simp) (CC (by simp) (by simp) (by simp)) ?_
 show JC _ _ _ [(0, .agg ([U64 pv, U64 ep, I64 k, SL ai ni ci, SL sa ns sc, U64 bl] ++ cu8 tg).toArray)] _
 refine AK (AD (A9 (CL (.agg ([U64 pv, U64 ep, I64 k, SL ai ni ci, SL sa ns sc, U64 bl] ++ cu8 tg).toArray) ([U64 pv, U64 ep, I64 k, SL ai ni ci, SL sa ns sc, U64 bl] ++ cu8 tg) rfl (by first | rfl | simp)) rfl ?_))
 rintro v1 L1 ⟨nb1, hnb1, rfl, rfl⟩
 show JL _ _ _ _ ((1, Ptr nb1 0) :: _) [⟨nb1, [U64 pv, U64 ep, I64 k, SL ai ni ci, SL sa ns sc, U64 bl] ++ cu8 tg, 29, (0, 0)⟩]
 refine AA _ (AH rfl) rfl ?_
 refine AN (AF (AK (AD (AA (.agg ([U64 pv, U64 ep, I64 k, SL ai ni ci, SL sa ns sc, U64 bl] ++ cu8 tg).toArray) (AI rfl (BV ER DJ (by simp [htg]) (AS 0 rfl (AV _)))) rfl ?_))))
 refine A9 (CG 47 [.agg ([U64 pv, U64 ep, I64 k, SL ai ni ci, SL sa ns sc, U64 bl] ++ cu8 tg).toArray] _ (A6 _ Tryd.call47 rfl) (fun w1 hw1 => put13_c pv ep k ai ni ci l sa ns sc ls bl tg tot w1 hl (by omega) (by omega) (by omega) (CA hw1 rfl hv) hls (by omega) (by omega) (by omega) (CA hw1 rfl hs) htg hmay hk hsm htot (by omega))) rfl ?_
 rintro v1 L1 ⟨_, ⟨nb2, sp1, cp1, rfl, rfl, hc1, hc2, hc3⟩, rfl⟩
 show JL _ _ _ _ ((7, .tuple #[Slc nb2 0 (tot + 16) cp1, .nilIface]) :: _) [_, ⟨nb2, cu8 ((tktT pv ep k l ls bl) ++ tg) ++ sp1, 5, (0, 0)⟩]
 refine AA _ (AL rfl) rfl ?_
 refine AA _ (B0 rfl rfl) rfl ?_
 refine AA _ (B0 rfl rfl) rfl ?_
 refine AA _ (AH rfl) rfl ?_
 refine AA _ (AH rfl) rfl ?_
 refine AN (AF (AK (AD (AA _ (AL rfl) rfl ?_))))
 refine AA (.bool true) (E3 _ _ _ rfl rfl (fun _ => eqGuard_nn ..) fun _ => F4 DZ) rfl ?_
 refine AA _ (AH rfl) rfl ?_
 refine AN (AF (BK (BP [false, false] ?_)))
 show JQ _ _ _ _ []
 refine BJ (.bool true) (res1 Tryd.results87 (BH rfl)) fun w1 hw1 => ?_
 exact ⟨_, [], rfl, ⟨rfl, rfl⟩, hw1.sub (by simp) (by simp)⟩
theorem wmayB_c (pv ep : UInt64) (kd : Int) (ai : Option Addr) (ni ci : Nat) (l : List UInt64) (sa : Option Addr) (ns sc : Nat) (ls : List SealR) (bl : UInt64) (tg : List UInt8)  (w : World) (hl : l.length = ni) (hnm : ni ≤ 2000000) (hnc : ni ≤ ci) (hcm : ci ≤ maxLen) (hv : RdV w ai (cu64 l)) (hls : ls.length = ns) (hnn : ns ≤ 2000000) (hnd : ns ≤ sc) (hcn : sc ≤ maxLen) (hs : RdV w sa (ls.flatMap sealC)) (htg : tg.length = 16) (hm : mayN pv ep kd l ls bl ≠ 0)  : Calls Tryd.prog 87 #[.agg ([U64 pv, U64 ep, I64 (kd), SL ai ni ci, SL sa ns sc, U64 bl] ++ cu8 tg).toArray] w (Post w [] (fun v L => v = .bool false ∧ L = [])) := by
 have hmx : maxLen = 9223372036854775807 := rfl
 refine enter (P := Tryd.prog) (f := 87) (fn := Tryd.f87) w [] 12 [] [.agg ([U64 pv, U64 ep, I64 (kd), SL ai ni ci, SL sa ns sc, U64 bl] ++ cu8 tg).toArray] Tryd.func87 rfl rfl (by simp) (CC (by simp) (by simp) (by simp)) ?_
 show JC _ _ _ [(0, .agg ([U64 pv, U64 ep, I64 (kd), SL ai ni ci, SL sa ns sc, U64 bl] ++ cu8 tg).toArray)] _
 refine AK (AD (A9 (CL (.agg ([U64 pv, U64 ep, I64 (kd), SL ai ni ci, SL sa ns sc, U64 bl] ++ cu8 tg).toArray) ([U64 pv, U64 ep, I64 (kd), SL ai ni ci, SL sa ns sc, U64 bl] ++ cu8 tg) rfl (by first | rfl | simp)) rfl ?_))
 rintro v1 L1 ⟨nb1, hnb1, rfl, rfl⟩
 show JL _ _ _ _ ((1, Ptr nb1 0) :: _) [⟨nb1, [U64 pv, U64 ep, I64 (kd), SL ai ni ci, SL sa ns sc, U64 bl] ++ cu8 tg, 29, (0, 0)⟩]
 refine AA _ (AH rfl) rfl ?_
 refine AN (AF (AK (AD (AA (.agg ([U64 pv, U64 ep, I64 (kd), SL ai ni ci, SL sa ns sc, U64 bl] ++ cu8 tg).toArray) (AI rfl (BV ER DJ (by simp [htg]) (AS 0 rfl (AV _)))) rfl ?_))))
 refine B1 (BG 47 [.agg ([U64 pv, U64 ep, I64 (kd), SL ai ni ci, SL sa ns sc, U64 bl] ++ cu8 tg).toArray] (.tuple #[SL none 0 0, errV 50 (mayN pv ep (kd) l ls bl)]) (A6 _ Tryd.call47 rfl) (fun w1 hw1 => putB_c pv ep (kd) ai ni ci l sa ns sc ls bl tg w1 hl (by omega) (by omega) (by omega) (CA hw1 rfl hv) hls (by omega) (by omega) (by omega) (CA hw1 rfl hs) htg hm)) rfl ?_
 show JL _ _ _ _ ((7, .tuple #[SL none 0 0, errV 50 (mayN pv ep (kd) l ls bl)]) :: _) [_]
 refine AA _ (AL rfl) rfl ?_
 refine AA _ (B0 rfl rfl) rfl ?_
 refine AA _ (B0 rfl rfl) rfl ?_
 refine AA _ (AH rfl) rfl ?_
 refine AA _ (AH rfl) rfl ?_
 refine AN (AF (AK (AD (AA _ (AL rfl) rfl ?_))))
 refine AA (.bool (decide (mayN pv ep (kd) l ls bl = 0))) (E3 _ _ _ rfl rfl (fun _ => F7 ..) fun _ => eql_errV DZ _ _) rfl ?_
 refine AA _ (AH rfl) rfl ?_
 refine AN (AF (BK (BP [false] ?_)))
 show JQ _ _ _ _ []
 refine BJ (.bool (decide (mayN pv ep (kd) l ls bl = 0))) (res1 Tryd.results87 (BH rfl)) fun w1 hw1 => ?_
 exact ⟨_, [], rfl, ⟨congrArg Value.bool (decide_eq_false hm), rfl⟩, hw1.sub (by simp) (by simp)⟩
theorem wmay_w (pv ep : UInt64) (kd : Int) (ai : Option Addr) (ni ci : Nat) (l : List UInt64) (sa : Option Addr) (ns sc : Nat) (ls : List SealR) (bl : UInt64) (tg : List UInt8) (w : World) (hl : l.length = ni) (hnm : ni ≤ 2000000) (hnc : ni ≤ ci) (hcm : ci ≤ maxLen) (hv : RdV w ai (cu64 l)) (hls : ls.length = ns) (hnn : ns ≤ 2000000) (hnd : ns ≤ sc) (hcn : sc ≤ maxLen) (hs : RdV w sa (ls.flatMap sealC)) (htg : tg.length = 16) (hbi : ni ≤ 300) (hbs : ns ≤ 300) : Calls Tryd.prog 87 #[.agg ([U64 pv, U64 ep, I64 (kd), SL ai ni ci, SL sa ns sc, U64 bl] ++ cu8 tg).toArray] w (Post w [] (fun v L => v = .bool (decide (mayN pv ep kd l ls bl = 0)) ∧ L = [])) := by
  by_cases hm : mayN pv ep kd l ls bl = 0
  · obtain ⟨k, rfl, hk⟩ : ∃ k : Nat, kd = k ∧ (k = 1 ∨ k = 2 ∨ k = 3) := by
      rcases RightO_cases (mayN_right hm) with ⟨rfl, _⟩ | ⟨rfl, _⟩ | ⟨rfl, _⟩
      · exact ⟨1, rfl, .inl rfl⟩
      · exact ⟨2, rfl, .inr (.inl rfl)⟩
      · exact ⟨3, rfl, .inr (.inr rfl)⟩
    rw [decide_eq_true hm]
    exact wmayK_c pv ep k ai ni ci l sa ns sc ls bl tg (tktN k ni ns) w hl hnm hnc hcm hv hls hnn hnd hcn hs htg hm hk hbs rfl (tktN_le (by omega) (by omega))
  · rw [decide_eq_false hm]
    exact wmayB_c pv ep kd ai ni ci l sa ns sc ls bl tg w hl hnm hnc hcm hv hls hnn hnd hcn hs htg hm
def GLw (w : World) : Prop := RdA w 0 0 [.string (⟨⟨[]⟩⟩), .string (⟨⟨[114, 101, 97, 100]⟩⟩), .string (⟨⟨[115, 112, 97, 110]⟩⟩), .string (⟨⟨[99, 104, 97, 110, 103, 101]⟩⟩), .string (⟨⟨[99, 104, 97, 105, 110]⟩⟩), .string (⟨⟨[102, 111, 114, 103, 101, 116]⟩⟩)]
theorem GLw.at {C : Cx} {L : List Ent} {w : World} (hw : Hp C.w0 C.M L w) (h : GLw C.w0) (h1 : 0 ∉ C.M := by simp) : GLw w := RdA_at hw h (by simp) h1
theorem word1_c  (w : World) (hW : RdA w 0 0 [.string (⟨⟨[]⟩⟩), .string (⟨⟨[114, 101, 97, 100]⟩⟩), .string (⟨⟨[115, 112, 97, 110]⟩⟩), .string (⟨⟨[99, 104, 97, 110, 103, 101]⟩⟩), .string (⟨⟨[99, 104, 97, 105, 110]⟩⟩), .string (⟨⟨[102, 111, 114, 103, 101, 116]⟩⟩)])  : Calls Tryd.prog 74 #[I64 1] w (Post w [] (fun v L => v = .string (⟨⟨[114, 101, 97, 100]⟩⟩) ∧ L = [])) := by
 refine enter w [] 12 [] [I64 1] Tryd.func74 rfl rfl (by simp) (CC (by simp) (by simp) (by simp)) ?_
 show JC _ _ _ [(0, I64 1)] _
 refine AK (AD (AA _ (AH rfl) rfl ?_))
 refine AN (AF (AK (AK (AD (AA _ (AL rfl) rfl ?_)))))
 refine AA (.bool (decide ((1:Int) < (1:Int)))) (AU rfl rfl fun _ => CR _ _) rfl ?_
 refine AA _ (AL rfl) rfl ?_
 refine AP 2 5 false _ _ rfl rfl (by decide) (AL rfl) rfl ?_
 refine AP 2 5 false _ (.bool (decide ((5:Int) < (1:Int)))) rfl rfl (by decide) (AU rfl rfl fun _ => D1 _ _) rfl ?_
 refine AA _ (A0 _ rfl (by decide) rfl) rfl ?_
 refine AN (AF (BN _ rfl (by decide) ?_))
 refine BE (AF (AK (AD (AA _ (AL rfl) rfl ?_))))
 refine AA (Ptr 0 1) (BZ 6 9 1 1 Tryd.underlying217 Tryd.sizeOf9 rfl rfl (by omega) (by omega) (by omega)) rfl ?_
 refine AA (.string (⟨⟨[114, 101, 97, 100]⟩⟩)) (AI rfl (AQ Tryd.isAgg9 (CK (hW.mem (by simp)) (AE (Seg.head)) (by omega)))) rfl ?_
 refine AA _ (AH rfl) rfl ?_
 refine AN (AF (BK (BJ (.string (⟨⟨[114, 101, 97, 100]⟩⟩)) (res1 Tryd.results74 (BH rfl)) fun w1 hw1 => ?_)))
 exact ⟨_, [], rfl, ⟨rfl, rfl⟩, hw1.sub (by simp) (by simp)⟩
theorem bld31_016 {w : World} {v0 : Value} {v1 : Value} {v6 : Value} (h0 : v0.cells = [v0].toArray) (h1 : v1.cells = [v1].toArray) (h6 : v6.cells = [v6].toArray) : (Instr.build 31 ([(0, v0), (1, v1), (6, v6)] : List (Nat × Value)).toArray).run Tryd.prog w = .ok (.agg ((((((([v0] : List Value) ++ ([v1] : List Value)) ++ ([.slice none 0 0] : List Value)) ++ ([U64 0] : List Value)) ++ ([I64 0] : List Value)) ++ ([U64 0, U64 0, I64 0, .slice none 0 0, .slice none 0 0, U64 0] ++ cu8 (zr8 16) : List Value)) ++ ([v6] : List Value)).toArray) w :=
 FS (places := #[(0, 1), (1, 1), (2, 1), (3, 1), (4, 1), (5, 22), (27, 1)]) (Z := (([U64 0] : List Value) ++ (([I64 0] : List Value) ++ (([.slice none 0 0] : List Value) ++ (([U64 0] : List Value) ++ (([I64 0] : List Value) ++ (([U64 0, U64 0, I64 0, .slice none 0 0, .slice none 0 0, U64 0] ++ cu8 (zr8 16) : List Value) ++ (([U64 0] : List Value) ++ [])))))))) (fun _ => by kernel_rfl) DS (fun _ => by kernel_rfl) ((fill_start ([U64 0] : List Value) (([I64 0] : List Value) ++ (([.slice none 0 0] : List Value) ++ (([U64 0] : List Value) ++ (([I64 0] : List Value) ++ (([U64 0, U64 0, I64 0, .slice none 0 0, .slice none 0 0, U64 0] ++ cu8 (zr8 16) : List Value) ++ (([U64 0] : List Value) ++ [])))))) ([v0] : List Value) h0 (by simp [B6]) rfl).trans ((FJ ([v0] : List Value) ([I64 0] : List Value) (([.slice none 0 0] : List Value) ++ (([U64 0] : List Value) ++ (([I64 0] : List Value) ++ (([U64 0, U64 0, I64 0, .slice none 0 0, .slice none 0 0, U64 0] ++ cu8 (zr8 16) : List Value) ++ (([U64 0] : List Value) ++ []))))) ([v1] : List Value) h1 (by simp [B6]) rfl).trans ((fill_skip (([v0] : List Value) ++ ([v1] : List Value)) ([.slice none 0 0] : List Value) (([U64 0] : List Value) ++ (([I64 0] : List Value) ++ (([U64 0, U64 0, I64 0, .slice none 0 0, .slice none 0 0, U64 0] ++ cu8 (zr8 16) : List Value) ++ (([U64 0] : List Value) ++ []))))).trans ((fill_skip ((([v0] : List Value) ++ ([v1] : List Value)) ++ ([.slice none 0 0] : List Value)) ([U64 0] : List Value) (([I64 0] : List Value) ++ (([U64 0, U64 0, I64 0, .slice none 0 0, .slice none 0 0, U64 0] ++ cu8 (zr8 16) : List Value) ++ (([U64 0] : List Value) ++ [])))).trans ((fill_skip (((([v0] : List Value) ++ ([v1] : List Value)) ++ ([.slice none 0 0] : List Value)) ++ ([U64 0] : List Value)) ([I64 0] : List Value) (([U64 0, U64 0, I64 0, .slice none 0 0, .slice none 0 0, U64 0] ++ cu8 (zr8 16) : List Value) ++ (([U64 0] : List Value) ++ []))).trans ((fill_skip ((((([v0] : List Value) ++ ([v1] : List Value)) ++ ([.slice none 0 0] : List Value)) ++ ([U64 0] : List Value)) ++ ([I64 0] : List Value)) ([U64 0, U64 0, I64 0, .slice none 0 0, .slice none 0 0, U64 0] ++ cu8 (zr8 16) : List Value) (([U64 0] : List Value) ++ [])).trans ((FJ (((((([v0] : List Value) ++ ([v1] : List Value)) ++ ([.slice none 0 0] : List Value)) ++ ([U64 0] : List Value)) ++ ([I64 0] : List Value)) ++ ([U64 0, U64 0, I64 0, .slice none 0 0, .slice none 0 0, U64 0] ++ cu8 (zr8 16) : List Value)) ([U64 0] : List Value) [] ([v6] : List Value) h6 (by simp [B6]) rfl).trans (by simp [Instr.fill]))))))))
attribute [local irreducible] plainV itB chB bB aB c1B c2B c3B c4B repR
theorem plain_c (b : Bool) (e : UInt64) (d t : List UInt8)  (w : World) (hd : d.length = 32) (ht : t.length = 16)  : Calls Tryd.prog 100 #[.agg (List.toArray (α := Value) ([.bool b, U64 e] ++ cu8 d ++ cu8 t))] w (Post w [] (fun v L => v = .bool (plainV b e d t) ∧ L = [])) := by
 refine enter (P := Tryd.prog) (f := 100) (fn := Tryd.f100) w [] 11 [] [.agg (List.toArray (α := Value) ([.bool b, U64 e] ++ cu8 d ++ cu8 t))] Tryd.func100 rfl rfl (by simp) (CC (by simp) (by simp) (by simp)) ?_
 show JC _ _ _ [(0, .agg (List.toArray (α := Value) ([.bool b, U64 e] ++ cu8 d ++ cu8 t)))] _
 refine AK (AD (A9 (CL (.agg (List.toArray (α := Value) ([.bool b, U64 e] ++ cu8 d ++ cu8 t))) ([.bool b, U64 e] ++ cu8 d ++ cu8 t) rfl (by first | rfl | simp)) rfl ?_))
 rintro v1 L1 ⟨nb1, hnb1, rfl, rfl⟩
 show JL _ _ _ _ ((1, Ptr nb1 0) :: _) [⟨nb1, [.bool b, U64 e] ++ cu8 d ++ cu8 t, 163, (0, 0)⟩]
 refine AA _ (AH rfl) rfl ?_
 refine AN (AF (AK (AD (AA (Ptr nb1 0) (AB 0 4 1 C0 rfl BB rfl rfl) rfl ?_))))
 refine AA (.bool b) (AI rfl (AQ BD (AS 0 rfl (AG (AG (Seg.head)))))) rfl ?_
 refine AA _ (AL rfl) rfl ?_
 rcases Bool.eq_false_or_eq_true (b) with hb1 | hb1
 ·
  refine AC 2 5 false _ rfl rfl hb1 rfl ?_
  refine AC 2 5 false _ rfl rfl hb1 rfl ?_
  refine AC 2 5 false _ rfl rfl hb1 rfl ?_
  refine AC 2 5 false _ rfl rfl hb1 rfl ?_
  refine AA _ (A2 _ rfl hb1 rfl) rfl ?_
  refine AA _ (AH rfl) rfl ?_
  refine AN (AF (BK (BJ (.bool true) (res1 Tryd.results100 (BH rfl)) fun w1 hw1 => ?_)))
  refine ⟨_, [], rfl, ⟨congrArg Value.bool ?_, rfl⟩, hw1.sub (by simp) (by simp)⟩
  unfold plainV
  first | rfl | (simp [*]; done)
 ·
  refine AP 2 5 false _ (Ptr nb1 1) rfl rfl hb1 (AB 1 161 49 C0 rfl CJ rfl rfl) rfl ?_
  refine AP 2 5 false _ (.agg ([U64 e] ++ cu8 d ++ cu8 t).toArray) rfl rfl hb1 (AI rfl (BV D2 CJ (by simp [hd, ht]) (AS 0 rfl (C6 (p := [.bool b]) (q := []) (vs := [U64 e] ++ cu8 d ++ cu8 t) (by first | rfl | (simp only [List.append_assoc, List.nil_append, List.append_nil, List.cons_append]; done)) rfl)))) rfl ?_
  refine AP 2 5 false _ (.agg ([U64 0] ++ cu8 (zr8 32) ++ cu8 (zr8 16)).toArray) rfl rfl hb1 (EB [] _ rfl (fun _ => by kernel_rfl)) rfl ?_
  refine AP 2 5 false _ (.bool (decide (e = (0:UInt64) ∧ d = (zr8 32) ∧ t = (zr8 16)))) rfl rfl hb1 (E3 _ _ _ rfl rfl (fun _ => FF _ _ _ _ _ _ (by kernel_rfl)) (eql_struct (e = (0:UInt64) ∧ d = (zr8 32) ∧ t = (zr8 16)) (F8 (d := 9999) (by kernel_rfl) (by kernel_rfl) (by kernel_rfl) (EqRs.cons 22 0 (U64 e) (U64 0) _ _ _ (PartV.one AY (AG (AG (Seg.head)))) (PartV.one AY (AG (AG (Seg.head)))) (EqV.u64 (d := 9998) A3 e (0:UInt64)) (EqRs.cons 159 1 (.agg (cu8 d).toArray) (.agg (cu8 (zr8 32)).toArray) _ _ _ (PartV.agg E8 ED (E9 (AG (Seg.right 1 0 rfl rfl (AV _))) (D7 hd) (by omega))) (PartV.agg E8 ED (E9 (AG (Seg.right 1 0 rfl rfl (AV _))) (D7 (B6 32)) (by omega))) (EqV.arr8 (d := 9997) D0 BA EC EN FC (by simp [hd]) (by simp [(B6 32)])) (EqRs.last 27 33 (.agg (cu8 t).toArray) (.agg (cu8 (zr8 16)).toArray) _ (PartV.agg DY CN (E9 (Seg.right 33 0 (by simp [hd]) rfl (AV _)) (D7 ht) (by omega))) (PartV.agg DY CN (E9 (Seg.right 33 0 (by simp [(B6 32)]) rfl (AV _)) (D7 (B6 16)) (by omega))) (EqV.arr8 (d := 9997) C5 BA EC EN FC (by simp [ht]) (by simp [(B6 16)])))))) (by first | rfl | (simp only [Bool.decide_and, Bool.and_assoc]; done) | (simp [Bool.and_assoc]; done)))) rfl ?_
  refine AA _ (A0 _ rfl hb1 rfl) rfl ?_
  refine AA _ (AH rfl) rfl ?_
  refine AN (AF (BK (BJ (.bool (decide (e = (0:UInt64) ∧ d = (zr8 32) ∧ t = (zr8 16)))) (res1 Tryd.results100 (BH rfl)) fun w1 hw1 => ?_)))
  refine ⟨_, [], rfl, ⟨congrArg Value.bool ?_, rfl⟩, hw1.sub (by simp) (by simp)⟩
  unfold plainV
  first | rfl | (simp [*]; done)
theorem oddI_c (b : Bool) (e : UInt64) (d t : List UInt8)  (w : World) (hd : d.length = 32) (ht : t.length = 16)  : Calls Tryd.prog 99 #[.agg (List.toArray (α := Value) ([.bool b, U64 e] ++ cu8 d ++ cu8 t))] w (Post w [] (fun v L => v = .bool (!plainV b e d t) ∧ L = [])) := by
 refine enter (P := Tryd.prog) (f := 99) (fn := Tryd.f99) w [] 6 [] [.agg (List.toArray (α := Value) ([.bool b, U64 e] ++ cu8 d ++ cu8 t))] Tryd.func99 rfl rfl (by simp) (CC (by simp) (by simp) (by simp)) ?_
 show JC _ _ _ [(0, .agg (List.toArray (α := Value) ([.bool b, U64 e] ++ cu8 d ++ cu8 t)))] _
 refine AK (AD (A9 (CL (.agg (List.toArray (α := Value) ([.bool b, U64 e] ++ cu8 d ++ cu8 t))) ([.bool b, U64 e] ++ cu8 d ++ cu8 t) rfl (by first | rfl | simp)) rfl ?_))
 rintro v1 L1 ⟨nb1, hnb1, rfl, rfl⟩
 show JL _ _ _ _ ((1, Ptr nb1 0) :: _) [⟨nb1, [.bool b, U64 e] ++ cu8 d ++ cu8 t, 163, (0, 0)⟩]
 refine AA _ (AH rfl) rfl ?_
 refine AN (AF (AK (AD (AA (.agg (List.toArray (α := Value) ([.bool b, U64 e] ++ cu8 d ++ cu8 t))) (AI rfl (BV Tryd.isAgg163 DD (by simp [hd, ht]) (AS 0 rfl (AV _)))) rfl ?_))))
 refine B1 (BG 100 [.agg (List.toArray (α := Value) ([.bool b, U64 e] ++ cu8 d ++ cu8 t))] (.bool (plainV b e d t)) (A6 _ Tryd.call100 rfl) (fun w1 hw1 => plain_c b e d t w1 hd ht)) rfl ?_
 show JL _ _ _ _ ((4, .bool (plainV b e d t)) :: _) [_]
 refine AA (.bool (!(plainV b e d t))) (EP rfl) rfl ?_
 refine AA _ (AH rfl) rfl ?_
 refine AN (AF (BK (BJ (.bool (!(plainV b e d t))) (res1 Tryd.results99 (BH rfl)) fun w1 hw1 => ?_)))
 exact ⟨_, [], rfl, ⟨rfl, rfl⟩, hw1.sub (by simp) (by simp)⟩
theorem ixItem_c (aj : Option Addr) (nj cj : Nat) (lj : List ItemR)  (w : World) (hlj : lj.length = nj) (hnj : nj ≤ 2000000) (hdj : nj ≤ cj) (hcj : cj ≤ maxLen) (hj : RdV w aj (lj.flatMap itemC))  : Calls Tryd.prog 150 #[SL aj nj cj, .func (.func 99) #[] #[]] w (Post w [] (fun v L => v = I64 (findIx (fun x => !plainB x) lj) ∧ L = [])) := by
 have hmx : maxLen = 9223372036854775807 := rfl
 refine enter w [] 19 [] [SL aj nj cj, .func (.func 99) #[] #[]] Tryd.func150 rfl rfl (by simp) (CC (by simp) (by simp) (by simp)) ?_
 show JC _ _ _ [(0, SL aj nj cj), (1, .func (.func 99) #[] #[])] _
 refine AK (AD (AA _ (AH rfl) rfl ?_))
 refine AN (AF (AK (AK (AD (AA _ (AL rfl) rfl ?_)))))
 refine AA (I64 nj) (CY CF rfl) rfl ?_
 refine AA _ (AL rfl) rfl ?_
 refine AN (AF (B2 (DV (ι := Nat) (fun i => [(0, SL aj nj cj), (1, .func (.func 99) #[] #[]), (7, I64 nj), (8, I64 i)]) (fun i => []) (fun i => i ≤ nj ∧ ∀ k, k < i → ∀ y, lj[k]? = some y → (fun x => !plainB x) y = false) (fun i => nj - i) 0 ⟨by omega, fun k hk => absurd hk (by omega)⟩ (Sub.all rfl) rfl ?_)))
 rintro i ⟨hi1, hi2⟩
 show JC _ _ _ [(0, SL aj nj cj), (1, .func (.func 99) #[] #[]), (7, I64 nj), (8, I64 i)] []
 refine AK (AD (AA (.bool (decide (((i:Int)) < ((nj:Int))))) (AU rfl rfl fun _ => CR _ _) rfl ?_))
 refine AN (AF (AK (CI (decide (((i:Int)) < ((nj:Int)))) rfl (fun hb1 => ?_) (fun hb1 => ?_))))
 ·
  have hp1 : ((i:Int)) < ((nj:Int)) := of_decide_eq_true hb1
  refine BE (AF (AK (B2 (AK (AD (AA _ (AL rfl) rfl ?_))))))
  refine AA _ (AH rfl) rfl ?_
  refine AN (AF (AK (AD (AA _ (AL rfl) rfl ?_))))
  refine AA _ (AL rfl) rfl ?_
  refine AA _ (AL rfl) rfl ?_
  obtain ⟨x1, hx1⟩ : ∃ x, lj[i]? = some x := ⟨_, List.getElem?_eq_getElem (by rw [hlj]; omega)⟩
  obtain ⟨bz1, oz1, hz1, hm1⟩ := E4 E6 (by decide) hj hx1
  rw [FO] at hm1
  refine AA (Ptr bz1 (50*i + oz1)) (B4 163 50 (50*i + oz1) CF DD rfl hz1 rfl (by omega) (by omega) (by omega)) rfl ?_
  refine AA (.agg (List.toArray (α := Value) ([.bool x1.b, U64 x1.s.e] ++ cu8 x1.s.d ++ cu8 x1.s.t))) (AI rfl (BV Tryd.isAgg163 DD (by simp [x1.s.hd, x1.s.ht]) (CK (hm1.mem (by simp)) (AV _) (by omega)))) rfl ?_
  refine B1 (BG 99 [.agg (List.toArray (α := Value) ([.bool x1.b, U64 x1.s.e] ++ cu8 x1.s.d ++ cu8 x1.s.t))] (.bool (!(plainV x1.b x1.s.e x1.s.d x1.s.t))) (Cl_clo [.agg (List.toArray (α := Value) ([.bool x1.b, U64 x1.s.e] ++ cu8 x1.s.d ++ cu8 x1.s.t))] [] Tryd.call99 rfl rfl) (fun w1 hw1 => oddI_c x1.b x1.s.e x1.s.d x1.s.t w1 x1.s.hd x1.s.ht)) rfl ?_
  show JL _ _ _ _ ((16, .bool (!(plainV x1.b x1.s.e x1.s.d x1.s.t))) :: _) []
  refine AN (AF (CI (!(plainV x1.b x1.s.e x1.s.d x1.s.t)) rfl (fun hb2 => ?_) (fun hb2 => ?_)))
  ·
   refine AK (AD (AA _ (AL rfl) rfl ?_))
   refine AA _ (AH rfl) rfl ?_
   refine AN (AF (BK (CT (A1 (A1 (CT (A1 (BJ (I64 i) (res1 Tryd.results150 (BH rfl)) fun w1 hw1 => ?_))))))))
   have e1 : findIx (fun x => !plainB x) lj = i := findIx_at hx1 (by assumption : (!plainV _ _ _ _) = true) hi2
   exact ⟨_, [], rfl, ⟨by rw [e1], rfl⟩, hw1.sub (by simp) (by simp)⟩
  ·
   refine BE (BY (AF (AD (AA (I64 ((i:Int) + 1)) (AU rfl rfl fun _ => DE _ _ ((i:Int) + 1) (by omega) (by omega)) rfl ?_))))
   refine AA _ (AL rfl) rfl ?_
   refine AN (DK (EM (i + 1) ⟨by omega, find_step hx1 (by assumption : (!plainV _ _ _ _) = false) hi2⟩ (by first | (simp; omega) | simp | (dsimp only; omega) | omega) (Sub.all rfl) rfl))
 ·
  have hp1 : ¬ (((i:Int)) < ((nj:Int))) := of_decide_eq_false hb1
  refine DU (A5 (A5 (CQ (AF (AK (AD (AA _ (AH rfl) rfl ?_)))))))
  refine AN (AF (BK (BJ (I64 (-1:Int)) (res1 Tryd.results150 (BH rfl)) fun w1 hw1 => ?_)))
  have e1 : findIx (fun x => !plainB x) lj = -1 := findIx_no (by rw [hlj]; intro k hk; exact hi2 k (by omega))
  exact ⟨_, [], rfl, ⟨by rw [e1], rfl⟩, hw1.sub (by simp) (by simp)⟩
theorem cfItem_c (aj : Option Addr) (nj cj : Nat) (lj : List ItemR)  (w : World) (hlj : lj.length = nj) (hnj : nj ≤ 2000000) (hdj : nj ≤ cj) (hcj : cj ≤ maxLen) (hj : RdV w aj (lj.flatMap itemC))  : Calls Tryd.prog 101 #[SL aj nj cj, .func (.func 99) #[] #[]] w (Post w [] (fun v L => v = .bool (lj.any (fun x => !plainB x)) ∧ L = [])) := by
 refine enter w [] 9 [] [SL aj nj cj, .func (.func 99) #[] #[]] Tryd.func101 rfl rfl (by simp) (CC (by simp) (by simp) (by simp)) ?_
 show JC _ _ _ [(0, SL aj nj cj), (1, .func (.func 99) #[] #[])] _
 refine AK (AD (AA _ (AH rfl) rfl ?_))
 refine AN (AF (AK (AD (AA _ (AL rfl) rfl ?_))))
 refine AA _ (AL rfl) rfl ?_
 refine B1 (BG 150 [SL aj nj cj, .func (.func 99) #[] #[]] (I64 ((findIx (fun x => !plainB x) lj))) (A6 _ Tryd.call150 rfl) (fun w1 hw1 => ixItem_c aj nj cj lj w1 hlj (by omega) (by omega) (by omega) (CA hw1 rfl hj))) rfl ?_
 show JL _ _ _ _ ((7, I64 ((findIx (fun x => !plainB x) lj))) :: _) []
 refine AA (.bool (decide ((0:Int) ≤ ((findIx (fun x => !plainB x) lj))))) (AU rfl rfl fun _ => GB _ _) rfl ?_
 refine AA _ (AH rfl) rfl ?_
 refine AN (AF (BK (BJ (.bool (decide ((0:Int) ≤ ((findIx (fun x => !plainB x) lj))))) (res1 Tryd.results101 (BH rfl)) fun w1 hw1 => ?_)))
 exact ⟨_, [], rfl, ⟨congrArg Value.bool (findIx_ge _ _), rfl⟩, hw1.sub (by simp) (by simp)⟩
set_option maxHeartbeats 4000000 in
theorem parts_c (rq : UInt64) (rk er : Int) (aj : Option Addr) (nj cj : Nat) (lj : List ItemR) (th : Bool) (pv ep : UInt64) (kd : Int) (ai : Option Addr) (ni ci : Nat) (l : List UInt64) (sa : Option Addr) (ns sc : Nat) (ls : List SealR) (bl : UInt64) (tg : List UInt8) (aha : Option Addr) (nha cha : Nat) (xha : List UInt8) (ahb : Option Addr) (nhb chb : Nat) (xhb : List UInt8)  (w : World) (htg : tg.length = 16)  : Calls Tryd.prog 95 #[.agg ([U64 rq, I64 (rk), I64 (er), SL aj nj cj, .bool th, U64 pv, U64 ep, I64 (kd), SL ai ni ci, SL sa ns sc, U64 bl] ++ cu8 tg ++ [SL aha nha cha, SL ahb nhb chb]).toArray] w (Post w [] (fun v L => v = .tuple #[.bool (itB er rk), .bool (chB er rk th), .bool (aB er rk th), .bool (bB er rk th)] ∧ L = [])) := by
 refine enter (P := Tryd.prog) (f := 95) (fn := Tryd.f95) w [] 48 [] [.agg ([U64 rq, I64 (rk), I64 (er), SL aj nj cj, .bool th, U64 pv, U64 ep, I64 (kd), SL ai ni ci, SL sa ns sc, U64 bl] ++ cu8 tg ++ [SL aha nha cha, SL ahb nhb chb]).toArray] Tryd.func95 rfl rfl (by simp) (CC (by simp) (by simp) (by simp)) ?_
 show JC _ _ _ [(0, .agg ([U64 rq, I64 (rk), I64 (er), SL aj nj cj, .bool th, U64 pv, U64 ep, I64 (kd), SL ai ni ci, SL sa ns sc, U64 bl] ++ cu8 tg ++ [SL aha nha cha, SL ahb nhb chb]).toArray)] _
 refine AK (AD (A9 (CL (.agg ([U64 rq, I64 (rk), I64 (er), SL aj nj cj, .bool th, U64 pv, U64 ep, I64 (kd), SL ai ni ci, SL sa ns sc, U64 bl] ++ cu8 tg ++ [SL aha nha cha, SL ahb nhb chb]).toArray) ([U64 rq, I64 (rk), I64 (er), SL aj nj cj, .bool th, U64 pv, U64 ep, I64 (kd), SL ai ni ci, SL sa ns sc, U64 bl] ++ cu8 tg ++ [SL aha nha cha, SL ahb nhb chb]) rfl (by first | rfl | simp)) rfl ?_))
 rintro v1 L1 ⟨nb1, hnb1, rfl, rfl⟩
 show JL _ _ _ _ ((1, Ptr nb1 0) :: _) [⟨nb1, [U64 rq, I64 (rk), I64 (er), SL aj nj cj, .bool th, U64 pv, U64 ep, I64 (kd), SL ai ni ci, SL sa ns sc, U64 bl] ++ cu8 tg ++ [SL aha nha cha, SL ahb nhb chb], 67, (0, 0)⟩]
 refine AA _ (AH rfl) rfl ?_
 refine AA _ (AH rfl) rfl ?_
 refine AA _ (AH rfl) rfl ?_
 refine AA _ (AH rfl) rfl ?_
 refine AN (AF (AK (AK (AD (AA (Ptr nb1 2) (AB 2 3 1 AM rfl AR rfl rfl) rfl ?_)))))
 refine AA (I64 (er)) (AI rfl (AQ AT (AS 0 rfl (AG (AG (AE (AE (Seg.head)))))))) rfl ?_
 refine AA (.bool (decide ((er) ≠ (0:Int)))) (AU rfl rfl fun _ => EO _ _) rfl ?_
 refine AN (AF (CI (decide ((er) ≠ (0:Int))) rfl (fun hb1 => ?_) (fun hb1 => ?_)))
 ·
  have hp1 : (er) ≠ (0:Int) := of_decide_eq_true hb1
  refine AK (AD (AA _ (AH rfl) rfl ?_))
  refine AA _ (AH rfl) rfl ?_
  refine AA _ (AH rfl) rfl ?_
  refine AA _ (AH rfl) rfl ?_
  refine AN (AF (BK (A1 (BP [false] ?_))))
  show JQ _ _ _ _ []
  refine BJ (.tuple #[.bool false, .bool false, .bool false, .bool false]) (res4 Tryd.results95 (BH rfl) (BH rfl) (BH rfl) (BH rfl)) fun w1 hw1 => ?_
  refine ⟨_, [], rfl, ⟨?_, rfl⟩, hw1.sub (by simp) (by simp)⟩
  have fx0 : er ≠ 0 := by omega
  simp [itB, chB, aB, bB, fx0]
 ·
  have hp1 : ¬ ((er) ≠ (0:Int)) := of_decide_eq_false hb1
  refine BE (AF (AK (AD (AA (Ptr nb1 1) (AB 1 3 1 AM rfl AR rfl rfl) rfl ?_))))
  refine AA (I64 (rk)) (AI rfl (AQ AT (AS 0 rfl (AG (AG (AE (Seg.head))))))) rfl ?_
  refine AA (.bool (decide ((rk) = (4:Int)))) (AU rfl rfl fun _ => BO _ _) rfl ?_
  refine AA _ (AL rfl) rfl ?_
  rcases Bool.eq_false_or_eq_true (decide ((rk) = (4:Int))) with hb2 | hb2
  ·
   have hp2 : (rk) = (4:Int) := of_decide_eq_true hb2
   refine AP 3 12 true _ (Ptr nb1 4) rfl rfl hb2 (AB 4 4 1 AM rfl BB rfl rfl) rfl ?_
   refine AP 3 12 true _ (.bool th) rfl rfl hb2 (AI rfl (AQ BD (AS 0 rfl (AG (AG (AE (AE (AE (AE (Seg.head)))))))))) rfl ?_
   refine AA _ (A2 _ rfl hb2 rfl) rfl ?_
   refine AA _ (AH rfl) rfl ?_
   refine AN (AF (AK (AD (AA (Ptr nb1 1) (AB 1 3 1 AM rfl AR rfl rfl) rfl ?_))))
   refine AA (I64 (rk)) (AI rfl (AQ AT (AS 0 rfl (AG (AG (AE (Seg.head))))))) rfl ?_
   refine AA (.bool (decide ((rk) = (1:Int)))) (AU rfl rfl fun _ => BO _ _) rfl ?_
   refine AA _ (AL rfl) rfl ?_
   refine AP 3 19 false _ (Ptr nb1 1) rfl rfl (decide_eq_false (by omega)) (AB 1 3 1 AM rfl AR rfl rfl) rfl ?_
   refine AP 3 19 false _ (I64 (rk)) rfl rfl (decide_eq_false (by omega)) (AI rfl (AQ AT (AS 0 rfl (AG (AG (AE (Seg.head))))))) rfl ?_
   refine AP 3 19 false _ (.bool (decide ((rk) = (2:Int)))) rfl rfl (decide_eq_false (by omega)) (AU rfl rfl fun _ => BO _ _) rfl ?_
   refine AA _ (A0 _ rfl (decide_eq_false (by omega)) rfl) rfl ?_
   refine AA _ (AL rfl) rfl ?_
   refine AP 8 24 false _ (Ptr nb1 1) rfl rfl (decide_eq_false (by omega)) (AB 1 3 1 AM rfl AR rfl rfl) rfl ?_
   refine AP 8 24 false _ (I64 (rk)) rfl rfl (decide_eq_false (by omega)) (AI rfl (AQ AT (AS 0 rfl (AG (AG (AE (Seg.head))))))) rfl ?_
   refine AP 8 24 false _ (.bool (decide ((rk) = (3:Int)))) rfl rfl (decide_eq_false (by omega)) (AU rfl rfl fun _ => BO _ _) rfl ?_
   refine AA _ (A0 _ rfl (decide_eq_false (by omega)) rfl) rfl ?_
   refine AA _ (AL rfl) rfl ?_
   refine AP 13 29 false _ _ rfl rfl (decide_eq_false (by omega)) (AL rfl) rfl ?_
   refine AA _ (A0 _ rfl (decide_eq_false (by omega)) rfl) rfl ?_
   refine AA _ (AH rfl) rfl ?_
   refine AN (AF (AK ?_))
   rcases Bool.eq_false_or_eq_true (th) with hb3 | hb3
   ·
    refine DH 48 1 [(0, Ptr nb1 1), (1, I64 (rk)), (2, .bool (decide ((rk) = (1:Int)))), (3, .bool (decide ((rk) = (1:Int)))), (4, Ptr nb1 1), (5, I64 (rk)), (6, .bool (decide ((rk) = (2:Int)))), (7, .bool (decide ((rk) = (2:Int)))), (8, .bool th), (9, .bool th), (10, .bool th), (11, Ptr nb1 1), (12, I64 (rk)), (13, .bool (decide ((rk) ≠ (1:Int)))), (14, .bool (decide ((rk) ≠ (1:Int)))), (15, .bool th), (16, .bool (decide ((rk) = (2:Int)))), (17, .bool th), (18, .bool (decide ((rk) ≠ (1:Int)))), (19, .bool th)] B8 rfl (by decide +kernel) ?_
    refine DN ⟨[], [0, 1, 2, 3, 4, 5, 6, 7, 8, 9, 10, 11, 12, 13, 14, 15, 16, 17, 18, 19], [], [0, 1, 2, 3, 4, 5, 6, 7, 8, 9, 10, 11, 12, 13, 14, 15, 16, 17, 18, 19], []⟩ rfl rfl (by decide +kernel) rfl ⟨⟨_, rfl, AJ rfl (AB 1 3 1 AM rfl AR rfl rfl)⟩, ⟨_, rfl, AJ rfl (AI rfl (AQ AT (AS 0 rfl (AG (AG (AE (Seg.head)))))))⟩, ⟨_, rfl, AJ rfl (AU rfl rfl fun _ => BO _ _)⟩, CD rfl rfl rfl, ⟨_, rfl, BT 3 35 false _ rfl rfl rfl (decide_eq_false (by omega)) (AB 1 3 1 AM rfl AR rfl rfl)⟩, ⟨_, rfl, BT 3 35 false _ rfl rfl rfl (decide_eq_false (by omega)) (AI rfl (AQ AT (AS 0 rfl (AG (AG (AE (Seg.head)))))))⟩, ⟨_, rfl, BT 3 35 false _ rfl rfl rfl (decide_eq_false (by omega)) (AU rfl rfl fun _ => BO _ _)⟩, ⟨_, rfl, AJ rfl (A0 _ rfl (decide_eq_false (by omega)) rfl)⟩, CD rfl rfl rfl, CD rfl rfl rfl, CD rfl rfl rfl, ⟨_, rfl, BT 10 42 true _ rfl rfl rfl hb3 (AB 1 3 1 AM rfl AR rfl rfl)⟩, ⟨_, rfl, BT 10 42 true _ rfl rfl rfl hb3 (AI rfl (AQ AT (AS 0 rfl (AG (AG (AE (Seg.head)))))))⟩, ⟨_, rfl, BT 10 42 true _ rfl rfl rfl hb3 (AU rfl rfl fun _ => EO _ _)⟩, ⟨_, rfl, AJ rfl (A2 _ rfl hb3 rfl)⟩, CD rfl rfl rfl, ⟨_, rfl, AJ rfl (AH rfl)⟩, ⟨_, rfl, AJ rfl (AH rfl)⟩, ⟨_, rfl, AJ rfl (AH rfl)⟩, ⟨_, rfl, AJ rfl (AH rfl)⟩, trivial⟩ ?_
    refine C7 (F' := [(2, .bool (decide ((rk) = (2:Int)))), (3, .bool th), (4, .bool (decide ((rk) ≠ (1:Int)))), (5, .bool th)]) (by kernel_rfl) ?_
    refine AF (BK (BP [false] ?_))
    show JQ _ _ _ _ []
    refine BJ (.tuple #[.bool (decide ((rk) = (2:Int))), .bool th, .bool (decide ((rk) ≠ (1:Int))), .bool th]) (res4 Tryd.results95 (BH rfl) (BH rfl) (BH rfl) (BH rfl)) fun w1 hw1 => ?_
    refine ⟨_, [], rfl, ⟨?_, rfl⟩, hw1.sub (by simp) (by simp)⟩
    have fx0 : er = 0 := by omega
    have fx1 : rk = 4 := by omega
    simp [itB, chB, aB, bB, fx0, fx1, hb3]
   ·
    refine DH 48 1 [(0, Ptr nb1 1), (1, I64 (rk)), (2, .bool (decide ((rk) = (1:Int)))), (3, .bool (decide ((rk) = (1:Int)))), (4, Ptr nb1 1), (5, I64 (rk)), (6, .bool (decide ((rk) = (2:Int)))), (7, .bool (decide ((rk) = (2:Int)))), (8, .bool th), (9, .bool th), (10, .bool th), (11, undef), (12, undef), (13, undef), (14, .bool false), (15, .bool th), (16, .bool (decide ((rk) = (2:Int)))), (17, .bool th), (18, .bool false), (19, .bool th)] B8 rfl (by decide +kernel) ?_
    refine DN ⟨[], [0, 1, 2, 3, 4, 5, 6, 7, 8, 9, 10, 11, 12, 13, 14, 15, 16, 17, 18, 19], [], [0, 1, 2, 3, 4, 5, 6, 7, 8, 9, 10, 11, 12, 13, 14, 15, 16, 17, 18, 19], []⟩ rfl rfl (by decide +kernel) rfl ⟨⟨_, rfl, AJ rfl (AB 1 3 1 AM rfl AR rfl rfl)⟩, ⟨_, rfl, AJ rfl (AI rfl (AQ AT (AS 0 rfl (AG (AG (AE (Seg.head)))))))⟩, ⟨_, rfl, AJ rfl (AU rfl rfl fun _ => BO _ _)⟩, CD rfl rfl rfl, ⟨_, rfl, BT 3 35 false _ rfl rfl rfl (decide_eq_false (by omega)) (AB 1 3 1 AM rfl AR rfl rfl)⟩, ⟨_, rfl, BT 3 35 false _ rfl rfl rfl (decide_eq_false (by omega)) (AI rfl (AQ AT (AS 0 rfl (AG (AG (AE (Seg.head)))))))⟩, ⟨_, rfl, BT 3 35 false _ rfl rfl rfl (decide_eq_false (by omega)) (AU rfl rfl fun _ => BO _ _)⟩, ⟨_, rfl, AJ rfl (A0 _ rfl (decide_eq_false (by omega)) rfl)⟩, CD rfl rfl rfl, CD rfl rfl rfl, CD rfl rfl rfl, ⟨_, rfl, CS 10 42 true _ rfl rfl rfl hb3⟩, ⟨_, rfl, CS 10 42 true _ rfl rfl rfl hb3⟩, ⟨_, rfl, CS 10 42 true _ rfl rfl rfl hb3⟩, ⟨_, rfl, AJ rfl (A0 _ rfl hb3 rfl)⟩, CD rfl rfl rfl, ⟨_, rfl, AJ rfl (AH rfl)⟩, ⟨_, rfl, AJ rfl (AH rfl)⟩, ⟨_, rfl, AJ rfl (AH rfl)⟩, ⟨_, rfl, AJ rfl (AH rfl)⟩, trivial⟩ ?_
    refine C7 (F' := [(2, .bool (decide ((rk) = (2:Int)))), (3, .bool th), (4, .bool false), (5, .bool th)]) (by kernel_rfl) ?_
    refine AF (BK (BP [false] ?_))
    show JQ _ _ _ _ []
    refine BJ (.tuple #[.bool (decide ((rk) = (2:Int))), .bool th, .bool false, .bool th]) (res4 Tryd.results95 (BH rfl) (BH rfl) (BH rfl) (BH rfl)) fun w1 hw1 => ?_
    refine ⟨_, [], rfl, ⟨?_, rfl⟩, hw1.sub (by simp) (by simp)⟩
    have fx0 : er = 0 := by omega
    have fx1 : rk = 4 := by omega
    simp [itB, chB, aB, bB, fx0, fx1, hb3]
  ·
   have hp2 : ¬ ((rk) = (4:Int)) := of_decide_eq_false hb2
   refine AC 3 12 true _ rfl rfl hb2 rfl ?_
   refine AC 3 12 true _ rfl rfl hb2 rfl ?_
   refine AA _ (A0 _ rfl hb2 rfl) rfl ?_
   refine AA _ (AH rfl) rfl ?_
   refine AN (AF (AK (AD (AA (Ptr nb1 1) (AB 1 3 1 AM rfl AR rfl rfl) rfl ?_))))
   refine AA (I64 (rk)) (AI rfl (AQ AT (AS 0 rfl (AG (AG (AE (Seg.head))))))) rfl ?_
   refine AA (.bool (decide ((rk) = (1:Int)))) (AU rfl rfl fun _ => BO _ _) rfl ?_
   refine AA _ (AL rfl) rfl ?_
   rcases Bool.eq_false_or_eq_true (decide ((rk) = (1:Int))) with hb4 | hb4
   ·
    have hp4 : (rk) = (1:Int) := of_decide_eq_true hb4
    refine AC 3 19 false _ rfl rfl hb4 rfl ?_
    refine AC 3 19 false _ rfl rfl hb4 rfl ?_
    refine AC 3 19 false _ rfl rfl hb4 rfl ?_
    refine AA _ (A2 _ rfl hb4 rfl) rfl ?_
    refine AA _ (AL rfl) rfl ?_
    refine AC 8 24 false _ rfl rfl rfl rfl ?_
    refine AC 8 24 false _ rfl rfl rfl rfl ?_
    refine AC 8 24 false _ rfl rfl rfl rfl ?_
    refine AA _ (A2 _ rfl rfl rfl) rfl ?_
    refine AA _ (AL rfl) rfl ?_
    refine AC 13 29 false _ rfl rfl rfl rfl ?_
    refine AA _ (A2 _ rfl rfl rfl) rfl ?_
    refine AA _ (AH rfl) rfl ?_
    refine AN (AF (AK (DH 48 1 [(0, Ptr nb1 1), (1, I64 (rk)), (2, .bool (decide ((rk) = (1:Int)))), (3, .bool (decide ((rk) = (1:Int)))), (4, undef), (5, undef), (6, undef), (7, .bool true), (8, .bool false), (9, .bool true), (10, .bool true), (11, Ptr nb1 1), (12, I64 (rk)), (13, .bool (decide ((rk) ≠ (1:Int)))), (14, .bool (decide ((rk) ≠ (1:Int)))), (15, .bool true), (16, .bool true), (17, .bool false), (18, .bool (decide ((rk) ≠ (1:Int)))), (19, .bool true)] B8 rfl (by decide +kernel) ?_)))
    refine DN ⟨[], [0, 1, 2, 3, 4, 5, 6, 7, 8, 9, 10, 11, 12, 13, 14, 15, 16, 17, 18, 19], [], [0, 1, 2, 3, 4, 5, 6, 7, 8, 9, 10, 11, 12, 13, 14, 15, 16, 17, 18, 19], []⟩ rfl rfl (by decide +kernel) rfl ⟨⟨_, rfl, AJ rfl (AB 1 3 1 AM rfl AR rfl rfl)⟩, ⟨_, rfl, AJ rfl (AI rfl (AQ AT (AS 0 rfl (AG (AG (AE (Seg.head)))))))⟩, ⟨_, rfl, AJ rfl (AU rfl rfl fun _ => BO _ _)⟩, CD rfl rfl rfl, ⟨_, rfl, CS 3 35 false _ rfl rfl rfl hb4⟩, ⟨_, rfl, CS 3 35 false _ rfl rfl rfl hb4⟩, ⟨_, rfl, CS 3 35 false _ rfl rfl rfl hb4⟩, ⟨_, rfl, AJ rfl (A2 _ rfl hb4 rfl)⟩, CD rfl rfl rfl, CD rfl rfl rfl, CD rfl rfl rfl, ⟨_, rfl, BT 10 42 true _ rfl rfl rfl rfl (AB 1 3 1 AM rfl AR rfl rfl)⟩, ⟨_, rfl, BT 10 42 true _ rfl rfl rfl rfl (AI rfl (AQ AT (AS 0 rfl (AG (AG (AE (Seg.head)))))))⟩, ⟨_, rfl, BT 10 42 true _ rfl rfl rfl rfl (AU rfl rfl fun _ => EO _ _)⟩, ⟨_, rfl, AJ rfl (A2 _ rfl rfl rfl)⟩, CD rfl rfl rfl, ⟨_, rfl, AJ rfl (AH rfl)⟩, ⟨_, rfl, AJ rfl (AH rfl)⟩, ⟨_, rfl, AJ rfl (AH rfl)⟩, ⟨_, rfl, AJ rfl (AH rfl)⟩, trivial⟩ ?_
    refine C7 (F' := [(2, .bool true), (3, .bool false), (4, .bool (decide ((rk) ≠ (1:Int)))), (5, .bool true)]) (by kernel_rfl) ?_
    refine AF (BK (BP [false] ?_))
    show JQ _ _ _ _ []
    refine BJ (.tuple #[.bool true, .bool false, .bool (decide ((rk) ≠ (1:Int))), .bool true]) (res4 Tryd.results95 (BH rfl) (BH rfl) (BH rfl) (BH rfl)) fun w1 hw1 => ?_
    refine ⟨_, [], rfl, ⟨?_, rfl⟩, hw1.sub (by simp) (by simp)⟩
    have fx0 : er = 0 := by omega
    have fx1 : rk ≠ 4 := by omega
    have fx2 : rk = 1 := by omega
    simp [itB, chB, aB, bB, fx0, fx1, fx2]
   ·
    have hp4 : ¬ ((rk) = (1:Int)) := of_decide_eq_false hb4
    refine AP 3 19 false _ (Ptr nb1 1) rfl rfl hb4 (AB 1 3 1 AM rfl AR rfl rfl) rfl ?_
    refine AP 3 19 false _ (I64 (rk)) rfl rfl hb4 (AI rfl (AQ AT (AS 0 rfl (AG (AG (AE (Seg.head))))))) rfl ?_
    refine AP 3 19 false _ (.bool (decide ((rk) = (2:Int)))) rfl rfl hb4 (AU rfl rfl fun _ => BO _ _) rfl ?_
    refine AA _ (A0 _ rfl hb4 rfl) rfl ?_
    refine AA _ (AL rfl) rfl ?_
    rcases Bool.eq_false_or_eq_true (decide ((rk) = (2:Int))) with hb5 | hb5
    ·
     have hp5 : (rk) = (2:Int) := of_decide_eq_true hb5
     refine AC 8 24 false _ rfl rfl hb5 rfl ?_
     refine AC 8 24 false _ rfl rfl hb5 rfl ?_
     refine AC 8 24 false _ rfl rfl hb5 rfl ?_
     refine AA _ (A2 _ rfl hb5 rfl) rfl ?_
     refine AA _ (AL rfl) rfl ?_
     refine AC 13 29 false _ rfl rfl rfl rfl ?_
     refine AA _ (A2 _ rfl rfl rfl) rfl ?_
     refine AA _ (AH rfl) rfl ?_
     refine AN (AF (AK (DH 48 1 [(0, Ptr nb1 1), (1, I64 (rk)), (2, .bool (decide ((rk) = (1:Int)))), (3, .bool (decide ((rk) = (1:Int)))), (4, Ptr nb1 1), (5, I64 (rk)), (6, .bool (decide ((rk) = (2:Int)))), (7, .bool (decide ((rk) = (2:Int)))), (8, .bool false), (9, .bool true), (10, .bool true), (11, Ptr nb1 1), (12, I64 (rk)), (13, .bool (decide ((rk) ≠ (1:Int)))), (14, .bool (decide ((rk) ≠ (1:Int)))), (15, .bool true), (16, .bool (decide ((rk) = (2:Int)))), (17, .bool false), (18, .bool (decide ((rk) ≠ (1:Int)))), (19, .bool true)] B8 rfl (by decide +kernel) ?_)))
     refine DN ⟨[], [0, 1, 2, 3, 4, 5, 6, 7, 8, 9, 10, 11, 12, 13, 14, 15, 16, 17, 18, 19], [], [0, 1, 2, 3, 4, 5, 6, 7, 8, 9, 10, 11, 12, 13, 14, 15, 16, 17, 18, 19], []⟩ rfl rfl (by decide +kernel) rfl ⟨⟨_, rfl, AJ rfl (AB 1 3 1 AM rfl AR rfl rfl)⟩, ⟨_, rfl, AJ rfl (AI rfl (AQ AT (AS 0 rfl (AG (AG (AE (Seg.head)))))))⟩, ⟨_, rfl, AJ rfl (AU rfl rfl fun _ => BO _ _)⟩, CD rfl rfl rfl, ⟨_, rfl, BT 3 35 false _ rfl rfl rfl hb4 (AB 1 3 1 AM rfl AR rfl rfl)⟩, ⟨_, rfl, BT 3 35 false _ rfl rfl rfl hb4 (AI rfl (AQ AT (AS 0 rfl (AG (AG (AE (Seg.head)))))))⟩, ⟨_, rfl, BT 3 35 false _ rfl rfl rfl hb4 (AU rfl rfl fun _ => BO _ _)⟩, ⟨_, rfl, AJ rfl (A0 _ rfl hb4 rfl)⟩, CD rfl rfl rfl, CD rfl rfl rfl, CD rfl rfl rfl, ⟨_, rfl, BT 10 42 true _ rfl rfl rfl rfl (AB 1 3 1 AM rfl AR rfl rfl)⟩, ⟨_, rfl, BT 10 42 true _ rfl rfl rfl rfl (AI rfl (AQ AT (AS 0 rfl (AG (AG (AE (Seg.head)))))))⟩, ⟨_, rfl, BT 10 42 true _ rfl rfl rfl rfl (AU rfl rfl fun _ => EO _ _)⟩, ⟨_, rfl, AJ rfl (A2 _ rfl rfl rfl)⟩, CD rfl rfl rfl, ⟨_, rfl, AJ rfl (AH rfl)⟩, ⟨_, rfl, AJ rfl (AH rfl)⟩, ⟨_, rfl, AJ rfl (AH rfl)⟩, ⟨_, rfl, AJ rfl (AH rfl)⟩, trivial⟩ ?_
     refine C7 (F' := [(2, .bool (decide ((rk) = (2:Int)))), (3, .bool false), (4, .bool (decide ((rk) ≠ (1:Int)))), (5, .bool true)]) (by kernel_rfl) ?_
     refine AF (BK (BP [false] ?_))
     show JQ _ _ _ _ []
     refine BJ (.tuple #[.bool (decide ((rk) = (2:Int))), .bool false, .bool (decide ((rk) ≠ (1:Int))), .bool true]) (res4 Tryd.results95 (BH rfl) (BH rfl) (BH rfl) (BH rfl)) fun w1 hw1 => ?_
     refine ⟨_, [], rfl, ⟨?_, rfl⟩, hw1.sub (by simp) (by simp)⟩
     have fx0 : er = 0 := by omega
     have fx1 : rk ≠ 4 := by omega
     have fx2 : rk ≠ 1 := by omega
     have fx3 : rk = 2 := by omega
     simp [itB, chB, aB, bB, fx0, fx1, fx2, fx3]
    ·
     have hp5 : ¬ ((rk) = (2:Int)) := of_decide_eq_false hb5
     refine AP 8 24 false _ (Ptr nb1 1) rfl rfl hb5 (AB 1 3 1 AM rfl AR rfl rfl) rfl ?_
     refine AP 8 24 false _ (I64 (rk)) rfl rfl hb5 (AI rfl (AQ AT (AS 0 rfl (AG (AG (AE (Seg.head))))))) rfl ?_
     refine AP 8 24 false _ (.bool (decide ((rk) = (3:Int)))) rfl rfl hb5 (AU rfl rfl fun _ => BO _ _) rfl ?_
     refine AA _ (A0 _ rfl hb5 rfl) rfl ?_
     refine AA _ (AL rfl) rfl ?_
     rcases Bool.eq_false_or_eq_true (decide ((rk) = (3:Int))) with hb6 | hb6
     ·
      have hp6 : (rk) = (3:Int) := of_decide_eq_true hb6
      refine AC 13 29 false _ rfl rfl hb6 rfl ?_
      refine AA _ (A2 _ rfl hb6 rfl) rfl ?_
      refine AA _ (AH rfl) rfl ?_
      refine AN (AF (AK (DH 48 1 [(0, Ptr nb1 1), (1, I64 (rk)), (2, .bool (decide ((rk) = (1:Int)))), (3, .bool (decide ((rk) = (1:Int)))), (4, Ptr nb1 1), (5, I64 (rk)), (6, .bool (decide ((rk) = (2:Int)))), (7, .bool (decide ((rk) = (2:Int)))), (8, .bool false), (9, .bool true), (10, .bool true), (11, Ptr nb1 1), (12, I64 (rk)), (13, .bool (decide ((rk) ≠ (1:Int)))), (14, .bool (decide ((rk) ≠ (1:Int)))), (15, .bool true), (16, .bool (decide ((rk) = (2:Int)))), (17, .bool false), (18, .bool (decide ((rk) ≠ (1:Int)))), (19, .bool true)] B8 rfl (by decide +kernel) ?_)))
      refine DN ⟨[], [0, 1, 2, 3, 4, 5, 6, 7, 8, 9, 10, 11, 12, 13, 14, 15, 16, 17, 18, 19], [], [0, 1, 2, 3, 4, 5, 6, 7, 8, 9, 10, 11, 12, 13, 14, 15, 16, 17, 18, 19], []⟩ rfl rfl (by decide +kernel) rfl ⟨⟨_, rfl, AJ rfl (AB 1 3 1 AM rfl AR rfl rfl)⟩, ⟨_, rfl, AJ rfl (AI rfl (AQ AT (AS 0 rfl (AG (AG (AE (Seg.head)))))))⟩, ⟨_, rfl, AJ rfl (AU rfl rfl fun _ => BO _ _)⟩, CD rfl rfl rfl, ⟨_, rfl, BT 3 35 false _ rfl rfl rfl hb4 (AB 1 3 1 AM rfl AR rfl rfl)⟩, ⟨_, rfl, BT 3 35 false _ rfl rfl rfl hb4 (AI rfl (AQ AT (AS 0 rfl (AG (AG (AE (Seg.head)))))))⟩, ⟨_, rfl, BT 3 35 false _ rfl rfl rfl hb4 (AU rfl rfl fun _ => BO _ _)⟩, ⟨_, rfl, AJ rfl (A0 _ rfl hb4 rfl)⟩, CD rfl rfl rfl, CD rfl rfl rfl, CD rfl rfl rfl, ⟨_, rfl, BT 10 42 true _ rfl rfl rfl rfl (AB 1 3 1 AM rfl AR rfl rfl)⟩, ⟨_, rfl, BT 10 42 true _ rfl rfl rfl rfl (AI rfl (AQ AT (AS 0 rfl (AG (AG (AE (Seg.head)))))))⟩, ⟨_, rfl, BT 10 42 true _ rfl rfl rfl rfl (AU rfl rfl fun _ => EO _ _)⟩, ⟨_, rfl, AJ rfl (A2 _ rfl rfl rfl)⟩, CD rfl rfl rfl, ⟨_, rfl, AJ rfl (AH rfl)⟩, ⟨_, rfl, AJ rfl (AH rfl)⟩, ⟨_, rfl, AJ rfl (AH rfl)⟩, ⟨_, rfl, AJ rfl (AH rfl)⟩, trivial⟩ ?_
      refine C7 (F' := [(2, .bool (decide ((rk) = (2:Int)))), (3, .bool false), (4, .bool (decide ((rk) ≠ (1:Int)))), (5, .bool true)]) (by kernel_rfl) ?_
      refine AF (BK (BP [false] ?_))
      show JQ _ _ _ _ []
      refine BJ (.tuple #[.bool (decide ((rk) = (2:Int))), .bool false, .bool (decide ((rk) ≠ (1:Int))), .bool true]) (res4 Tryd.results95 (BH rfl) (BH rfl) (BH rfl) (BH rfl)) fun w1 hw1 => ?_
      refine ⟨_, [], rfl, ⟨?_, rfl⟩, hw1.sub (by simp) (by simp)⟩
      have fx0 : er = 0 := by omega
      have fx1 : rk ≠ 4 := by omega
      have fx2 : rk ≠ 1 := by omega
      have fx3 : rk ≠ 2 := by omega
      have fx4 : rk = 3 := by omega
      simp [itB, chB, aB, bB, fx0, fx1, fx2, fx3, fx4]
     ·
      have hp6 : ¬ ((rk) = (3:Int)) := of_decide_eq_false hb6
      refine AP 13 29 false _ _ rfl rfl hb6 (AL rfl) rfl ?_
      refine AA _ (A0 _ rfl hb6 rfl) rfl ?_
      refine AA _ (AH rfl) rfl ?_
      refine AN (AF (AK (DH 48 1 [(0, Ptr nb1 1), (1, I64 (rk)), (2, .bool (decide ((rk) = (1:Int)))), (3, .bool (decide ((rk) = (1:Int)))), (4, Ptr nb1 1), (5, I64 (rk)), (6, .bool (decide ((rk) = (2:Int)))), (7, .bool (decide ((rk) = (2:Int)))), (8, .bool false), (9, .bool false), (10, .bool false), (11, undef), (12, undef), (13, undef), (14, .bool false), (15, .bool false), (16, .bool (decide ((rk) = (2:Int)))), (17, .bool false), (18, .bool false), (19, .bool false)] B8 rfl (by decide +kernel) ?_)))
      refine DN ⟨[], [0, 1, 2, 3, 4, 5, 6, 7, 8, 9, 10, 11, 12, 13, 14, 15, 16, 17, 18, 19], [], [0, 1, 2, 3, 4, 5, 6, 7, 8, 9, 10, 11, 12, 13, 14, 15, 16, 17, 18, 19], []⟩ rfl rfl (by decide +kernel) rfl ⟨⟨_, rfl, AJ rfl (AB 1 3 1 AM rfl AR rfl rfl)⟩, ⟨_, rfl, AJ rfl (AI rfl (AQ AT (AS 0 rfl (AG (AG (AE (Seg.head)))))))⟩, ⟨_, rfl, AJ rfl (AU rfl rfl fun _ => BO _ _)⟩, CD rfl rfl rfl, ⟨_, rfl, BT 3 35 false _ rfl rfl rfl hb4 (AB 1 3 1 AM rfl AR rfl rfl)⟩, ⟨_, rfl, BT 3 35 false _ rfl rfl rfl hb4 (AI rfl (AQ AT (AS 0 rfl (AG (AG (AE (Seg.head)))))))⟩, ⟨_, rfl, BT 3 35 false _ rfl rfl rfl hb4 (AU rfl rfl fun _ => BO _ _)⟩, ⟨_, rfl, AJ rfl (A0 _ rfl hb4 rfl)⟩, CD rfl rfl rfl, CD rfl rfl rfl, CD rfl rfl rfl, ⟨_, rfl, CS 10 42 true _ rfl rfl rfl rfl⟩, ⟨_, rfl, CS 10 42 true _ rfl rfl rfl rfl⟩, ⟨_, rfl, CS 10 42 true _ rfl rfl rfl rfl⟩, ⟨_, rfl, AJ rfl (A0 _ rfl rfl rfl)⟩, CD rfl rfl rfl, ⟨_, rfl, AJ rfl (AH rfl)⟩, ⟨_, rfl, AJ rfl (AH rfl)⟩, ⟨_, rfl, AJ rfl (AH rfl)⟩, ⟨_, rfl, AJ rfl (AH rfl)⟩, trivial⟩ ?_
      refine C7 (F' := [(2, .bool (decide ((rk) = (2:Int)))), (3, .bool false), (4, .bool false), (5, .bool false)]) (by kernel_rfl) ?_
      refine AF (BK (BP [false] ?_))
      show JQ _ _ _ _ []
      refine BJ (.tuple #[.bool (decide ((rk) = (2:Int))), .bool false, .bool false, .bool false]) (res4 Tryd.results95 (BH rfl) (BH rfl) (BH rfl) (BH rfl)) fun w1 hw1 => ?_
      refine ⟨_, [], rfl, ⟨?_, rfl⟩, hw1.sub (by simp) (by simp)⟩
      have fx0 : er = 0 := by omega
      have fx1 : rk ≠ 4 := by omega
      have fx2 : rk ≠ 1 := by omega
      have fx3 : rk ≠ 2 := by omega
      have fx4 : rk ≠ 3 := by omega
      simp [itB, chB, aB, bB, fx0, fx1, fx2, fx3, fx4]
set_option maxHeartbeats 4000000 in
theorem has_c (rq : UInt64) (rk er : Int) (aj : Option Addr) (nj cj : Nat) (lj : List ItemR) (th : Bool) (pv ep : UInt64) (kd : Int) (ai : Option Addr) (ni ci : Nat) (l : List UInt64) (sa : Option Addr) (ns sc : Nat) (ls : List SealR) (bl : UInt64) (tg : List UInt8) (aha : Option Addr) (nha cha : Nat) (xha : List UInt8) (ahb : Option Addr) (nhb chb : Nat) (xhb : List UInt8)  (w : World) (htg : tg.length = 16)  : Calls Tryd.prog 94 #[.agg ([U64 rq, I64 (rk), I64 (er), SL aj nj cj, .bool th, U64 pv, U64 ep, I64 (kd), SL ai ni ci, SL sa ns sc, U64 bl] ++ cu8 tg ++ [SL aha nha cha, SL ahb nhb chb]).toArray] w (Post w [] (fun v L => v = .agg #[.bool (itB er rk), .bool (chB er rk th), .bool (aB er rk th), .bool (bB er rk th)] ∧ L = [])) := by
 refine enter (P := Tryd.prog) (f := 94) (fn := Tryd.f94) w [] 28 [] [.agg ([U64 rq, I64 (rk), I64 (er), SL aj nj cj, .bool th, U64 pv, U64 ep, I64 (kd), SL ai ni ci, SL sa ns sc, U64 bl] ++ cu8 tg ++ [SL aha nha cha, SL ahb nhb chb]).toArray] Tryd.func94 rfl rfl (by simp) (CC (by simp) (by simp) (by simp)) ?_
 show JC _ _ _ [(0, .agg ([U64 rq, I64 (rk), I64 (er), SL aj nj cj, .bool th, U64 pv, U64 ep, I64 (kd), SL ai ni ci, SL sa ns sc, U64 bl] ++ cu8 tg ++ [SL aha nha cha, SL ahb nhb chb]).toArray)] _
 refine AK (AD (A9 (CL (.agg ([U64 rq, I64 (rk), I64 (er), SL aj nj cj, .bool th, U64 pv, U64 ep, I64 (kd), SL ai ni ci, SL sa ns sc, U64 bl] ++ cu8 tg ++ [SL aha nha cha, SL ahb nhb chb]).toArray) ([U64 rq, I64 (rk), I64 (er), SL aj nj cj, .bool th, U64 pv, U64 ep, I64 (kd), SL ai ni ci, SL sa ns sc, U64 bl] ++ cu8 tg ++ [SL aha nha cha, SL ahb nhb chb]) rfl (by first | rfl | simp)) rfl ?_))
 rintro v1 L1 ⟨nb1, hnb1, rfl, rfl⟩
 show JL _ _ _ _ ((1, Ptr nb1 0) :: _) [⟨nb1, [U64 rq, I64 (rk), I64 (er), SL aj nj cj, .bool th, U64 pv, U64 ep, I64 (kd), SL ai ni ci, SL sa ns sc, U64 bl] ++ cu8 tg ++ [SL aha nha cha, SL ahb nhb chb], 71, (0, 0)⟩]
 refine A9 (DI _ ([.bool false, .bool false, .bool false, .bool false]) EY (by kernel_rfl)) rfl ?_
 rintro v1 L1 ⟨nb2, hnb2, rfl, rfl⟩
 show JL _ _ _ _ ((2, Ptr nb2 0) :: _) [_, ⟨nb2, [.bool false, .bool false, .bool false, .bool false], 168, (0, 0)⟩]
 refine AN (AF (AK (AK (AD (AA (Ptr nb1 2) (AB 2 3 1 AO rfl AR rfl rfl) rfl ?_)))))
 refine AA (I64 (er)) (AI rfl (AQ AT (AS 0 rfl (AG (AG (AE (AE (Seg.head)))))))) rfl ?_
 refine AA (.bool (decide ((er) ≠ (0:Int)))) (AU rfl rfl fun _ => EO _ _) rfl ?_
 refine AN (AF (CI (decide ((er) ≠ (0:Int))) rfl (fun hb1 => ?_) (fun hb1 => ?_)))
 ·
  have hp1 : (er) ≠ (0:Int) := of_decide_eq_true hb1
  refine AK (AD (AA (.agg #[.bool false, .bool false, .bool false, .bool false]) (EB [] _ rfl (fun _ => by kernel_rfl)) rfl ?_))
  refine B1 (CW 1 nb2 4 ([.bool false, .bool false, .bool false, .bool false]) 168 ([.bool false, .bool false, .bool false, .bool false]) rfl rfl rfl DT rfl (by simp [Value.oneCell']) (Nat.le_of_ble_eq_true rfl) (DC (by simp []))) rfl ?_
  show JL _ _ _ _ _ [_, ⟨nb2, [.bool false, .bool false, .bool false, .bool false], 168, (0, 0)⟩]
  refine AN (AF (BK (A1 (BP [false, true] ?_))))
  show JQ _ _ _ _ [_]
  refine BJ (.agg #[.bool false, .bool false, .bool false, .bool false]) (res1 Tryd.results94 (F6 rfl (BV Tryd.isAgg168 DT rfl (AS 0 rfl (AV _))))) fun w1 hw1 => ?_
  refine ⟨_, [], rfl, ⟨?_, rfl⟩, hw1.sub (by simp) (by simp)⟩
  have fx0 : er ≠ 0 := by omega
  simp [itB, chB, aB, bB, fx0]
 ·
  have hp1 : ¬ ((er) ≠ (0:Int)) := of_decide_eq_false hb1
  refine BE (AF (AK (AK (AD (AA (Ptr nb1 1) (AB 1 3 1 AO rfl AR rfl rfl) rfl ?_)))))
  refine AA (I64 (rk)) (AI rfl (AQ AT (AS 0 rfl (AG (AG (AE (Seg.head))))))) rfl ?_
  refine AN (AF (B2 (AK (AD (AA (.bool (decide ((rk) = (1:Int)))) (AU rfl rfl fun _ => BO _ _) rfl ?_)))))
  refine AA _ (AH rfl) rfl ?_
  refine AN (AF (CI (decide ((rk) = (1:Int))) rfl (fun hb2 => ?_) (fun hb2 => ?_)))
  ·
   have hp2 : (rk) = (1:Int) := of_decide_eq_true hb2
   refine AK (AD (AA (.agg #[.bool true, .bool false, .bool false, .bool true]) (EB [(0, .bool true), (1, .bool false), (2, .bool false), (3, .bool true)] _ rfl (fun _ => by kernel_rfl)) rfl ?_))
   refine B1 (CW 1 nb2 4 ([.bool false, .bool false, .bool false, .bool false]) 168 ([.bool true, .bool false, .bool false, .bool true]) rfl rfl rfl DT rfl (by simp [Value.oneCell']) (Nat.le_of_ble_eq_true rfl) (DC (by simp []))) rfl ?_
   show JL _ _ _ _ _ [_, ⟨nb2, [.bool true, .bool false, .bool false, .bool true], 168, (0, 0)⟩]
   refine AN (AF (BK (CT (A1 (BP [false, true] ?_)))))
   show JQ _ _ _ _ [_]
   refine BJ (.agg #[.bool true, .bool false, .bool false, .bool true]) (res1 Tryd.results94 (F6 rfl (BV Tryd.isAgg168 DT rfl (AS 0 rfl (AV _))))) fun w1 hw1 => ?_
   refine ⟨_, [], rfl, ⟨?_, rfl⟩, hw1.sub (by simp) (by simp)⟩
   have fx0 : er = 0 := by omega
   have fx1 : rk = 1 := by omega
   simp [itB, chB, aB, bB, fx0, fx1]
  ·
   have hp2 : ¬ ((rk) = (1:Int)) := of_decide_eq_false hb2
   refine AK (AD (AA (.bool (decide ((rk) = (2:Int)))) (AU rfl rfl fun _ => BO _ _) rfl ?_))
   refine AA _ (AH rfl) rfl ?_
   refine AN (AF (CI (decide ((rk) = (2:Int))) rfl (fun hb3 => ?_) (fun hb3 => ?_)))
   ·
    have hp3 : (rk) = (2:Int) := of_decide_eq_true hb3
    refine AK (AD (AA (.agg #[.bool true, .bool false, .bool true, .bool true]) (EB [(0, .bool true), (1, .bool false), (2, .bool true), (3, .bool true)] _ rfl (fun _ => by kernel_rfl)) rfl ?_))
    refine B1 (CW 1 nb2 4 ([.bool false, .bool false, .bool false, .bool false]) 168 ([.bool true, .bool false, .bool true, .bool true]) rfl rfl rfl DT rfl (by simp [Value.oneCell']) (Nat.le_of_ble_eq_true rfl) (DC (by simp []))) rfl ?_
    show JL _ _ _ _ _ [_, ⟨nb2, [.bool true, .bool false, .bool true, .bool true], 168, (0, 0)⟩]
    refine AN (AF (BK (CT (A1 (BP [false, true] ?_)))))
    show JQ _ _ _ _ [_]
    refine BJ (.agg #[.bool true, .bool false, .bool true, .bool true]) (res1 Tryd.results94 (F6 rfl (BV Tryd.isAgg168 DT rfl (AS 0 rfl (AV _))))) fun w1 hw1 => ?_
    refine ⟨_, [], rfl, ⟨?_, rfl⟩, hw1.sub (by simp) (by simp)⟩
    have fx0 : er = 0 := by omega
    have fx1 : rk ≠ 1 := by omega
    have fx2 : rk = 2 := by omega
    simp [itB, chB, aB, bB, fx0, fx1, fx2]
   ·
    have hp3 : ¬ ((rk) = (2:Int)) := of_decide_eq_false hb3
    refine AK (AD (AA (.bool (decide ((rk) = (3:Int)))) (AU rfl rfl fun _ => BO _ _) rfl ?_))
    refine AA _ (AH rfl) rfl ?_
    refine AN (AF (CI (decide ((rk) = (3:Int))) rfl (fun hb4 => ?_) (fun hb4 => ?_)))
    ·
     have hp4 : (rk) = (3:Int) := of_decide_eq_true hb4
     refine AK (AD (AA (.agg #[.bool false, .bool false, .bool true, .bool true]) (EB [(0, .bool false), (1, .bool false), (2, .bool true), (3, .bool true)] _ rfl (fun _ => by kernel_rfl)) rfl ?_))
     refine B1 (CW 1 nb2 4 ([.bool false, .bool false, .bool false, .bool false]) 168 ([.bool false, .bool false, .bool true, .bool true]) rfl rfl rfl DT rfl (by simp [Value.oneCell']) (Nat.le_of_ble_eq_true rfl) (DC (by simp []))) rfl ?_
     show JL _ _ _ _ _ [_, ⟨nb2, [.bool false, .bool false, .bool true, .bool true], 168, (0, 0)⟩]
     refine AN (AF (BK (CT (A1 (BP [false, true] ?_)))))
     show JQ _ _ _ _ [_]
     refine BJ (.agg #[.bool false, .bool false, .bool true, .bool true]) (res1 Tryd.results94 (F6 rfl (BV Tryd.isAgg168 DT rfl (AS 0 rfl (AV _))))) fun w1 hw1 => ?_
     refine ⟨_, [], rfl, ⟨?_, rfl⟩, hw1.sub (by simp) (by simp)⟩
     have fx0 : er = 0 := by omega
     have fx1 : rk ≠ 1 := by omega
     have fx2 : rk ≠ 2 := by omega
     have fx3 : rk = 3 := by omega
     simp [itB, chB, aB, bB, fx0, fx1, fx2, fx3]
    ·
     have hp4 : ¬ ((rk) = (3:Int)) := of_decide_eq_false hb4
     refine AK (AD (AA (.bool (decide ((rk) = (4:Int)))) (AU rfl rfl fun _ => BO _ _) rfl ?_))
     refine AA _ (AH rfl) rfl ?_
     refine AN (AF (CI (decide ((rk) = (4:Int))) rfl (fun hb5 => ?_) (fun hb5 => ?_)))
     ·
      have hp5 : (rk) = (4:Int) := of_decide_eq_true hb5
      refine AK (AD (AA (Ptr nb1 4) (AB 4 4 1 AO rfl BB rfl rfl) rfl ?_))
      refine AA (.bool th) (AI rfl (AQ BD (AS 0 rfl (AG (AG (AE (AE (AE (AE (Seg.head)))))))))) rfl ?_
      refine AA (Ptr nb1 4) (AB 4 4 1 AO rfl BB rfl rfl) rfl ?_
      refine AA (.bool th) (AI rfl (AQ BD (AS 0 rfl (AG (AG (AE (AE (AE (AE (Seg.head)))))))))) rfl ?_
      refine AA (Ptr nb1 4) (AB 4 4 1 AO rfl BB rfl rfl) rfl ?_
      refine AA (.bool th) (AI rfl (AQ BD (AS 0 rfl (AG (AG (AE (AE (AE (AE (Seg.head)))))))))) rfl ?_
      refine AA (.agg #[.bool false, .bool th, .bool th, .bool th]) (EB [(0, .bool false), (1, .bool th), (2, .bool th), (3, .bool th)] _ rfl (fun _ => by kernel_rfl)) rfl ?_
      refine B1 (CW 1 nb2 4 ([.bool false, .bool false, .bool false, .bool false]) 168 ([.bool false, .bool th, .bool th, .bool th]) rfl rfl rfl DT rfl (by simp [Value.oneCell']) (Nat.le_of_ble_eq_true rfl) (DC (by simp []))) rfl ?_
      show JL _ _ _ _ _ [_, ⟨nb2, [.bool false, .bool th, .bool th, .bool th], 168, (0, 0)⟩]
      refine AN (AF (BK (CT (A1 (BP [false, true] ?_)))))
      show JQ _ _ _ _ [_]
      refine BJ (.agg #[.bool false, .bool th, .bool th, .bool th]) (res1 Tryd.results94 (F6 rfl (BV Tryd.isAgg168 DT rfl (AS 0 rfl (AV _))))) fun w1 hw1 => ?_
      refine ⟨_, [], rfl, ⟨?_, rfl⟩, hw1.sub (by simp) (by simp)⟩
      have fx0 : er = 0 := by omega
      have fx1 : rk ≠ 1 := by omega
      have fx2 : rk ≠ 2 := by omega
      have fx3 : rk ≠ 3 := by omega
      have fx4 : rk = 4 := by omega
      simp [itB, chB, aB, bB, fx0, fx1, fx2, fx3, fx4]
     ·
      have hp5 : ¬ ((rk) = (4:Int)) := of_decide_eq_false hb5
      refine BE (BY (AF (AK (AD (AA (.agg #[.bool false, .bool false, .bool false, .bool false]) (EB [] _ rfl (fun _ => by kernel_rfl)) rfl ?_)))))
      refine B1 (CW 1 nb2 4 ([.bool false, .bool false, .bool false, .bool false]) 168 ([.bool false, .bool false, .bool false, .bool false]) rfl rfl rfl DT rfl (by simp [Value.oneCell']) (Nat.le_of_ble_eq_true rfl) (DC (by simp []))) rfl ?_
      show JL _ _ _ _ _ [_, ⟨nb2, [.bool false, .bool false, .bool false, .bool false], 168, (0, 0)⟩]
      refine AN (AF (BK (BP [false, true] ?_)))
      show JQ _ _ _ _ [_]
      refine BJ (.agg #[.bool false, .bool false, .bool false, .bool false]) (res1 Tryd.results94 (F6 rfl (BV Tryd.isAgg168 DT rfl (AS 0 rfl (AV _))))) fun w1 hw1 => ?_
      refine ⟨_, [], rfl, ⟨?_, rfl⟩, hw1.sub (by simp) (by simp)⟩
      have fx0 : er = 0 := by omega
      have fx1 : rk ≠ 1 := by omega
      have fx2 : rk ≠ 2 := by omega
      have fx3 : rk ≠ 3 := by omega
      have fx4 : rk ≠ 4 := by omega
      simp [itB, chB, aB, bB, fx0, fx1, fx2, fx3, fx4]
end Go.Proofs.YtkdpdgpphpngeaaDoor
