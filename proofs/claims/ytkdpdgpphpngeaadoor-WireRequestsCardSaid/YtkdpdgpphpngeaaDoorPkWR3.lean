import Derived.Test.YtkdpdgpphpngeaaDoorPkWR2
set_option linter.unusedVariables false
set_option linter.unusedSimpArgs false
set_option maxRecDepth 100000
namespace Go.Proofs.YtkdpdgpphpngeaaDoor
open Go Go.Sx
attribute [local irreducible] mid zr8 numK rnK valK constL initL putL RightB
theorem rmay13_c (pv ep : UInt64) (kd : Int) (ai : Option Addr) (ni ci : Nat) (l : List UInt64) (sa : Option Addr) (ns sc : Nat) (ls : List SealR) (bl : UInt64) (tg : List UInt8)  (w : World) (hl : l.length = ni) (hnm : ni ≤ 2000000) (hnc : ni ≤ ci) (hcm : ci ≤ maxLen) (hv : RdV w ai (cu64 l)) (hls : ls.length = ns) (hnn : ns ≤ 2000000) (hnd : ns ≤ sc) (hcn : sc ≤ maxLen) (hs : RdV w sa (ls.flatMap sealC)) (htg : tg.length = 16)  : Calls Tryd.prog 45 #[.agg ([U64 pv, U64 ep, I64 (kd), .slice ai ni ci, .slice sa ns sc, U64 bl] ++ cu8 tg).toArray] w (Post w [] (fun v L => v = I64 ((mayN pv ep kd l ls bl : Nat) : Int) ∧ L = [])) := by
 have hmx : maxLen = 9223372036854775807 := rfl
 refine enter (P := Tryd.prog) (f := 45) (fn := Tryd.f45) w [] 33 [] [.agg ([U64 pv, U64 ep, I64 (kd), .slice ai ni ci, .slice sa ns sc, U64 bl] ++ cu8 tg).toArray] Tryd.func45 rfl rfl (by simp) (B2 (by simp) (by simp) (by simp)) ?_
 show JC _ _ _ [(0, .agg ([U64 pv, U64 ep, I64 (kd), .slice ai ni ci, .slice sa ns sc, U64 bl] ++ cu8 tg).toArray)] _
 refine AI (AC (BG (CE (.agg ([U64 pv, U64 ep, I64 (kd), .slice ai ni ci, .slice sa ns sc, U64 bl] ++ cu8 tg).toArray) ([U64 pv, U64 ep, I64 (kd), .slice ai ni ci, .slice sa ns sc, U64 bl] ++ cu8 tg) rfl (by first | rfl | simp)) rfl ?_))
 rintro v1 L1 ⟨nb1, hnb1, rfl, rfl⟩
 show JL _ _ _ _ ((1, Ptr nb1 0) :: _) [⟨nb1, [U64 pv, U64 ep, I64 (kd), .slice ai ni ci, .slice sa ns sc, U64 bl] ++ cu8 tg, 38, (0, 0)⟩]
 refine AA _ (AF rfl) rfl ?_
 refine AK (AE (AI (AI (AC (AA (Ptr nb1 2) (AB 2 36 4 BH rfl B6 rfl rfl) rfl ?_)))))
 refine AA (.agg #[I64 (kd), .slice ai ni ci, .slice sa ns sc, U64 bl]) (AL rfl (B1 Tryd.isAgg36 B6 rfl (AY 0 rfl (CO (p := [U64 pv, U64 ep]) (q := cu8 tg) (vs := [I64 (kd), .slice ai ni ci, .slice sa ns sc, U64 bl]) (by first | rfl | (simp only [List.append_assoc, List.nil_append, List.append_nil, List.cons_append]; done)) rfl)))) rfl ?_
 refine BS (A2 67 [.agg #[I64 (kd), .slice ai ni ci, .slice sa ns sc, U64 bl]] (.bool (RightO (kd) l ls bl)) (A5 _ Tryd.call67 rfl) (fun w1 hw1 => rright13_c (kd) ai ni ci l sa ns sc ls bl w1 hl (by omega) (by omega) (by omega) (BP hw1 rfl hv) hls (by omega) (by omega) (by omega) (BP hw1 rfl hs))) rfl ?_
 show JL _ _ _ _ ((5, .bool (RightO (kd) l ls bl)) :: _) [_]
 refine AA (.bool (!(RightO (kd) l ls bl))) (C8 rfl) rfl ?_
 refine AK (AE (BZ (!(RightO (kd) l ls bl)) rfl (fun hb1 => ?_) (fun hb1 => ?_)))
 ·
  have hb2 : (RightO (kd) l ls bl) = false := by simpa using hb1
  refine AI (AC (AA _ (AF rfl) rfl ?_))
  refine AK (AE (BA (AU (BF [false] ?_))))
  show JQ _ _ _ _ []
  refine A9 (I64 2) (res1 Tryd.results45 (A7 rfl)) fun w1 hw1 => ?_
  have e1 : mayN pv ep kd l ls bl = 2 := by
   unfold mayN
   first | rw [if_pos ‹RightO kd l ls bl = true›] | rw [if_neg (by simp [*])]
   all_goals simp [*]
  rw [e1]
  exact ⟨_, [], rfl, ⟨rfl, rfl⟩, hw1.sub (by simp) (by simp)⟩
 ·
  have hb3 : (RightO (kd) l ls bl) = true := by simpa using hb1
  refine BM (AE (AI (AI ?_)))
  by_cases hk1 : kd = 1
  ·
   have hpos := RightO_pos hb3 hk1
   rw [hls, hl] at hpos
   obtain ⟨x1, hx1⟩ : ∃ x, ls[0]? = some x := ⟨_, List.getElem?_eq_getElem (by rw [hls]; omega)⟩
   obtain ⟨bz1, oz1, hz1, hm1⟩ := FC EC (by decide) hs hx1
   refine DC 33 1 [(0, Ptr nb1 2), (1, Ptr nb1 2), (2, I64 (kd)), (3, .bool (decide ((kd) = (1:Int)))), (4, .bool (decide ((kd) = (1:Int)))), (5, Ptr nb1 2), (6, Ptr nb1 4), (7, .slice sa ns sc), (8, Ptr bz1 oz1), (9, Ptr bz1 oz1), (10, U64 x1.e), (11, Ptr nb1 1), (12, U64 ep), (13, .bool (decide (x1.e ≠ ep))), (14, .bool (decide (x1.e ≠ ep)))] B9 rfl (by decide +kernel) ?_
   refine DK ⟨[], [0, 1, 2, 3, 4, 5, 6, 7, 8, 9, 10, 11, 12, 13, 14], [], [0, 1, 2, 3, 4, 5, 6, 7, 8, 9, 10, 11, 12, 13, 14], []⟩ rfl rfl (by decide +kernel) rfl ⟨⟨_, rfl, AO rfl (AB 2 36 4 BH rfl B6 rfl rfl)⟩, ⟨_, rfl, AO rfl (AB 0 3 1 BB rfl AT rfl rfl)⟩, ⟨_, rfl, AO rfl (AL rfl (AV AX (AY 0 rfl (AH (AG (AG (Seg.head)))))))⟩, ⟨_, rfl, AO rfl (AQ rfl rfl fun _ => A4 _ _)⟩, CK rfl rfl rfl, ⟨_, rfl, CF 4 11 true _ rfl rfl rfl (decide_eq_true hk1) (AB 2 36 4 BH rfl B6 rfl rfl)⟩, ⟨_, rfl, CF 4 11 true _ rfl rfl rfl (decide_eq_true hk1) (AB 2 34 1 BB rfl CR rfl rfl)⟩, ⟨_, rfl, CF 4 11 true _ rfl rfl rfl (decide_eq_true hk1) (AL rfl (AV C7 (AY 0 rfl (AH (AG (AG (AG (AG (Seg.head)))))))))⟩, ⟨_, rfl, CF 4 11 true _ rfl rfl rfl (decide_eq_true hk1) (CU 164 49 oz1 CM DM rfl hz1 rfl (by omega) (by omega) (by omega))⟩, ⟨_, rfl, CF 4 11 true _ rfl rfl rfl (decide_eq_true hk1) (AB 0 22 1 D8 rfl AP rfl rfl)⟩, ⟨_, rfl, CF 4 11 true _ rfl rfl rfl (decide_eq_true hk1) (AL rfl (AV AR (C3 (hm1.mem (by simp)) (AH (AH (Seg.head))) (by omega))))⟩, ⟨_, rfl, CF 4 11 true _ rfl rfl rfl (decide_eq_true hk1) (AB 1 22 1 BH rfl AP rfl rfl)⟩, ⟨_, rfl, CF 4 11 true _ rfl rfl rfl (decide_eq_true hk1) (AL rfl (AV AR (AY 0 rfl (AH (AG (Seg.head))))))⟩, ⟨_, rfl, CF 4 11 true _ rfl rfl rfl (decide_eq_true hk1) (AQ rfl rfl fun _ => C4 x1.e ep)⟩, ⟨_, rfl, AO rfl (BD _ rfl (decide_eq_true hk1) rfl)⟩, trivial⟩ ?_
   refine CY (F' := [(21, .bool (decide (x1.e ≠ ep))), (1, Ptr nb1 0), (2, I64 0)]) (by kernel_rfl) ?_
   refine AE (BZ (decide (x1.e ≠ ep)) rfl (fun hb4 => ?_) (fun hb4 => ?_))
   ·
    have hp4 : x1.e ≠ ep := of_decide_eq_true hb4
    refine AI (AC (AA _ (AF rfl) rfl ?_))
    refine AK (AE (BA (AU (BF [false] ?_))))
    show JQ _ _ _ _ []
    refine A9 (I64 2) (res1 Tryd.results45 (A7 rfl)) fun w1 hw1 => ?_
    have e1 : mayN pv ep kd l ls bl = 2 := by
     unfold mayN
     first | rw [if_pos ‹RightO kd l ls bl = true›] | rw [if_neg (by simp [*])]
     rw [E2 hx1]
     all_goals simp [*]
    rw [e1]
    exact ⟨_, [], rfl, ⟨rfl, rfl⟩, hw1.sub (by simp) (by simp)⟩
   ·
    have hp4 : ¬ (x1.e ≠ ep) := of_decide_eq_false hb4
    refine BM (AE (AI (AI (AC (AA (Ptr nb1 1) (AB 1 22 1 BH rfl AP rfl rfl) rfl ?_)))))
    refine AA (U64 ep) (AL rfl (AV AR (AY 0 rfl (AH (AG (Seg.head)))))) rfl ?_
    refine BS (A2 111 [U64 0, U64 ep] (.bool (RightB (0:UInt64) ep)) (A5 _ Tryd.call111 rfl) (fun w1 hw1 => rright_c (0:UInt64) ep w1 )) rfl ?_
    show JL _ _ _ _ ((24, .bool (RightB (0:UInt64) ep)) :: _) [_]
    refine AA (.bool (!(RightB (0:UInt64) ep))) (C8 rfl) rfl ?_
    refine AA _ (AM rfl) rfl ?_
    rcases Bool.eq_false_or_eq_true (RightB (0:UInt64) ep) with hb5 | hb5
    ·
     refine AN 4 26 false _ (Ptr nb1 0) rfl rfl (by rw [show (RightB (0:UInt64) ep) = true from hb5] <;> rfl) (AB 0 22 1 BH rfl AP rfl rfl) rfl ?_
     refine AN 4 26 false _ (U64 pv) rfl rfl (by rw [show (RightB (0:UInt64) ep) = true from hb5] <;> rfl) (AL rfl (AV AR (AY 0 rfl (AH (Seg.head))))) rfl ?_
     refine AN 4 26 false _ (Ptr nb1 1) rfl rfl (by rw [show (RightB (0:UInt64) ep) = true from hb5] <;> rfl) (AB 1 22 1 BH rfl AP rfl rfl) rfl ?_
     refine AN 4 26 false _ (U64 ep) rfl rfl (by rw [show (RightB (0:UInt64) ep) = true from hb5] <;> rfl) (AL rfl (AV AR (AY 0 rfl (AH (AG (Seg.head)))))) rfl ?_
     refine AN 4 26 false _ (.bool (decide (ep ≤ pv))) rfl rfl (by rw [show (RightB (0:UInt64) ep) = true from hb5] <;> rfl) (AQ rfl rfl fun _ => EF pv ep) rfl ?_
     refine AA _ (A0 _ rfl (by rw [show (RightB (0:UInt64) ep) = true from hb5] <;> rfl) rfl) rfl ?_
     refine AK (AE (BZ (decide (ep ≤ pv)) rfl (fun hb6 => ?_) (fun hb6 => ?_)))
     ·
      have hp6 : ep ≤ pv := of_decide_eq_true hb6
      refine AI (AC (AA _ (AF rfl) rfl ?_))
      refine AK (AE (BA (AU (BF [false] ?_))))
      show JQ _ _ _ _ []
      refine A9 (I64 1) (res1 Tryd.results45 (A7 rfl)) fun w1 hw1 => ?_
      have e1 : mayN pv ep kd l ls bl = 1 := by
       unfold mayN
       first | rw [if_pos ‹RightO kd l ls bl = true›] | rw [if_neg (by simp [*])]
       rw [E2 hx1]
       all_goals simp [*]
      rw [e1]
      exact ⟨_, [], rfl, ⟨rfl, rfl⟩, hw1.sub (by simp) (by simp)⟩
     ·
      have hp6 : ¬ (ep ≤ pv) := of_decide_eq_false hb6
      refine BM (AE (AI (AC (AA _ (AF rfl) rfl ?_))))
      refine AK (AE (BA (BF [false] ?_)))
      show JQ _ _ _ _ []
      refine A9 (I64 0) (res1 Tryd.results45 (A7 rfl)) fun w1 hw1 => ?_
      have e1 : mayN pv ep kd l ls bl = 0 := by
       unfold mayN
       first | rw [if_pos ‹RightO kd l ls bl = true›] | rw [if_neg (by simp [*])]
       rw [E2 hx1]
       all_goals simp [*]
      rw [e1]
      exact ⟨_, [], rfl, ⟨rfl, rfl⟩, hw1.sub (by simp) (by simp)⟩
    ·
     refine AD 4 26 false _ rfl rfl (by rw [show (RightB (0:UInt64) ep) = false from hb5] <;> rfl) rfl ?_
     refine AD 4 26 false _ rfl rfl (by rw [show (RightB (0:UInt64) ep) = false from hb5] <;> rfl) rfl ?_
     refine AD 4 26 false _ rfl rfl (by rw [show (RightB (0:UInt64) ep) = false from hb5] <;> rfl) rfl ?_
     refine AD 4 26 false _ rfl rfl (by rw [show (RightB (0:UInt64) ep) = false from hb5] <;> rfl) rfl ?_
     refine AD 4 26 false _ rfl rfl (by rw [show (RightB (0:UInt64) ep) = false from hb5] <;> rfl) rfl ?_
     refine AA _ (BD _ rfl (by rw [show (RightB (0:UInt64) ep) = false from hb5] <;> rfl) rfl) rfl ?_
     refine AK (AE (B5 _ rfl rfl ?_))
     refine AI (AC (AA _ (AF rfl) rfl ?_))
     refine AK (AE (BA (AU (BF [false] ?_))))
     show JQ _ _ _ _ []
     refine A9 (I64 1) (res1 Tryd.results45 (A7 rfl)) fun w1 hw1 => ?_
     have e1 : mayN pv ep kd l ls bl = 1 := by
      unfold mayN
      first | rw [if_pos ‹RightO kd l ls bl = true›] | rw [if_neg (by simp [*])]
      rw [E2 hx1]
      all_goals simp [*]
     rw [e1]
     exact ⟨_, [], rfl, ⟨rfl, rfl⟩, hw1.sub (by simp) (by simp)⟩
  ·
   refine DC 33 1 [(0, Ptr nb1 2), (1, Ptr nb1 2), (2, I64 (kd)), (3, .bool (decide ((kd) = (1:Int)))), (4, .bool (decide ((kd) = (1:Int)))), (5, undef), (6, undef), (7, undef), (8, undef), (9, undef), (10, undef), (11, undef), (12, undef), (13, undef), (14, .bool false)] B9 rfl (by decide +kernel) ?_
   refine DK ⟨[], [0, 1, 2, 3, 4, 5, 6, 7, 8, 9, 10, 11, 12, 13, 14], [], [0, 1, 2, 3, 4, 5, 6, 7, 8, 9, 10, 11, 12, 13, 14], []⟩ rfl rfl (by decide +kernel) rfl ⟨⟨_, rfl, AO rfl (AB 2 36 4 BH rfl B6 rfl rfl)⟩, ⟨_, rfl, AO rfl (AB 0 3 1 BB rfl AT rfl rfl)⟩, ⟨_, rfl, AO rfl (AL rfl (AV AX (AY 0 rfl (AH (AG (AG (Seg.head)))))))⟩, ⟨_, rfl, AO rfl (AQ rfl rfl fun _ => A4 _ _)⟩, CK rfl rfl rfl, ⟨_, rfl, B8 4 11 true _ rfl rfl rfl (decide_eq_false hk1)⟩, ⟨_, rfl, B8 4 11 true _ rfl rfl rfl (decide_eq_false hk1)⟩, ⟨_, rfl, B8 4 11 true _ rfl rfl rfl (decide_eq_false hk1)⟩, ⟨_, rfl, B8 4 11 true _ rfl rfl rfl (decide_eq_false hk1)⟩, ⟨_, rfl, B8 4 11 true _ rfl rfl rfl (decide_eq_false hk1)⟩, ⟨_, rfl, B8 4 11 true _ rfl rfl rfl (decide_eq_false hk1)⟩, ⟨_, rfl, B8 4 11 true _ rfl rfl rfl (decide_eq_false hk1)⟩, ⟨_, rfl, B8 4 11 true _ rfl rfl rfl (decide_eq_false hk1)⟩, ⟨_, rfl, B8 4 11 true _ rfl rfl rfl (decide_eq_false hk1)⟩, ⟨_, rfl, AO rfl (A0 _ rfl (decide_eq_false hk1) rfl)⟩, trivial⟩ ?_
   refine CY (F' := [(21, .bool false), (1, Ptr nb1 0), (2, I64 0)]) (by kernel_rfl) ?_
   refine AE (BT _ rfl rfl ?_)
   refine BM (AE (AI (AI (AC (AA (Ptr nb1 1) (AB 1 22 1 BH rfl AP rfl rfl) rfl ?_)))))
   refine AA (U64 ep) (AL rfl (AV AR (AY 0 rfl (AH (AG (Seg.head)))))) rfl ?_
   refine BS (A2 111 [U64 0, U64 ep] (.bool (RightB (0:UInt64) ep)) (A5 _ Tryd.call111 rfl) (fun w1 hw1 => rright_c (0:UInt64) ep w1 )) rfl ?_
   show JL _ _ _ _ ((24, .bool (RightB (0:UInt64) ep)) :: _) [_]
   refine AA (.bool (!(RightB (0:UInt64) ep))) (C8 rfl) rfl ?_
   refine AA _ (AM rfl) rfl ?_
   rcases Bool.eq_false_or_eq_true (RightB (0:UInt64) ep) with hb7 | hb7
   ·
    refine AN 4 26 false _ (Ptr nb1 0) rfl rfl (by rw [show (RightB (0:UInt64) ep) = true from hb7] <;> rfl) (AB 0 22 1 BH rfl AP rfl rfl) rfl ?_
    refine AN 4 26 false _ (U64 pv) rfl rfl (by rw [show (RightB (0:UInt64) ep) = true from hb7] <;> rfl) (AL rfl (AV AR (AY 0 rfl (AH (Seg.head))))) rfl ?_
    refine AN 4 26 false _ (Ptr nb1 1) rfl rfl (by rw [show (RightB (0:UInt64) ep) = true from hb7] <;> rfl) (AB 1 22 1 BH rfl AP rfl rfl) rfl ?_
    refine AN 4 26 false _ (U64 ep) rfl rfl (by rw [show (RightB (0:UInt64) ep) = true from hb7] <;> rfl) (AL rfl (AV AR (AY 0 rfl (AH (AG (Seg.head)))))) rfl ?_
    refine AN 4 26 false _ (.bool (decide (ep ≤ pv))) rfl rfl (by rw [show (RightB (0:UInt64) ep) = true from hb7] <;> rfl) (AQ rfl rfl fun _ => EF pv ep) rfl ?_
    refine AA _ (A0 _ rfl (by rw [show (RightB (0:UInt64) ep) = true from hb7] <;> rfl) rfl) rfl ?_
    refine AK (AE (BZ (decide (ep ≤ pv)) rfl (fun hb8 => ?_) (fun hb8 => ?_)))
    ·
     have hp8 : ep ≤ pv := of_decide_eq_true hb8
     refine AI (AC (AA _ (AF rfl) rfl ?_))
     refine AK (AE (BA (AU (BF [false] ?_))))
     show JQ _ _ _ _ []
     refine A9 (I64 1) (res1 Tryd.results45 (A7 rfl)) fun w1 hw1 => ?_
     have e1 : mayN pv ep kd l ls bl = 1 := by
      unfold mayN
      first | rw [if_pos ‹RightO kd l ls bl = true›] | rw [if_neg (by simp [*])]
      all_goals simp [*]
     rw [e1]
     exact ⟨_, [], rfl, ⟨rfl, rfl⟩, hw1.sub (by simp) (by simp)⟩
    ·
     have hp8 : ¬ (ep ≤ pv) := of_decide_eq_false hb8
     refine BM (AE (AI (AC (AA _ (AF rfl) rfl ?_))))
     refine AK (AE (BA (BF [false] ?_)))
     show JQ _ _ _ _ []
     refine A9 (I64 0) (res1 Tryd.results45 (A7 rfl)) fun w1 hw1 => ?_
     have e1 : mayN pv ep kd l ls bl = 0 := by
      unfold mayN
      first | rw [if_pos ‹RightO kd l ls bl = true›] | rw [if_neg (by simp [*])]
      all_goals simp [*]
     rw [e1]
     exact ⟨_, [], rfl, ⟨rfl, rfl⟩, hw1.sub (by simp) (by simp)⟩
   ·
    refine AD 4 26 false _ rfl rfl (by rw [show (RightB (0:UInt64) ep) = false from hb7] <;> rfl) rfl ?_
    refine AD 4 26 false _ rfl rfl (by rw [show (RightB (0:UInt64) ep) = false from hb7] <;> rfl) rfl ?_
    refine AD 4 26 false _ rfl rfl (by rw [show (RightB (0:UInt64) ep) = false from hb7] <;> rfl) rfl ?_
    refine AD 4 26 false _ rfl rfl (by rw [show (RightB (0:UInt64) ep) = false from hb7] <;> rfl) rfl ?_
    refine AD 4 26 false _ rfl rfl (by rw [show (RightB (0:UInt64) ep) = false from hb7] <;> rfl) rfl ?_
    refine AA _ (BD _ rfl (by rw [show (RightB (0:UInt64) ep) = false from hb7] <;> rfl) rfl) rfl ?_
    refine AK (AE (B5 _ rfl rfl ?_))
    refine AI (AC (AA _ (AF rfl) rfl ?_))
    refine AK (AE (BA (AU (BF [false] ?_))))
    show JQ _ _ _ _ []
    refine A9 (I64 1) (res1 Tryd.results45 (A7 rfl)) fun w1 hw1 => ?_
    have e1 : mayN pv ep kd l ls bl = 1 := by
     unfold mayN
     first | rw [if_pos ‹RightO kd l ls bl = true›] | rw [if_neg (by simp [*])]
     all_goals simp [*]
    rw [e1]
    exact ⟨_, [], rfl, ⟨rfl, rfl⟩, hw1.sub (by simp) (by simp)⟩
theorem may13_c (pv ep : UInt64) (kd : Int) (ai : Option Addr) (ni ci : Nat) (l : List UInt64) (sa : Option Addr) (ns sc : Nat) (ls : List SealR) (bl : UInt64) (tg : List UInt8)  (w : World) (hl : l.length = ni) (hnm : ni ≤ 2000000) (hnc : ni ≤ ci) (hcm : ci ≤ maxLen) (hv : RdV w ai (cu64 l)) (hls : ls.length = ns) (hnn : ns ≤ 2000000) (hnd : ns ≤ sc) (hcn : sc ≤ maxLen) (hs : RdV w sa (ls.flatMap sealC)) (htg : tg.length = 16)  : Calls Tryd.prog 128 #[.agg ([U64 pv, U64 ep, I64 (kd), .slice ai ni ci, .slice sa ns sc, U64 bl] ++ cu8 tg).toArray] w (Post w [] (fun v L => v = errV 50 (mayN pv ep kd l ls bl) ∧ L = [])) := by
 have hmx : maxLen = 9223372036854775807 := rfl
 refine enter (P := Tryd.prog) (f := 128) (fn := Tryd.f128) w [] 37 [] [.agg ([U64 pv, U64 ep, I64 (kd), .slice ai ni ci, .slice sa ns sc, U64 bl] ++ cu8 tg).toArray] Tryd.func128 rfl rfl (by simp) (B2 (by simp) (by simp) (by simp)) ?_
 show JC _ _ _ [(0, .agg ([U64 pv, U64 ep, I64 (kd), .slice ai ni ci, .slice sa ns sc, U64 bl] ++ cu8 tg).toArray)] _
 refine AI (AC (BG (CE (.agg ([U64 pv, U64 ep, I64 (kd), .slice ai ni ci, .slice sa ns sc, U64 bl] ++ cu8 tg).toArray) ([U64 pv, U64 ep, I64 (kd), .slice ai ni ci, .slice sa ns sc, U64 bl] ++ cu8 tg) rfl (by first | rfl | simp)) rfl ?_))
 rintro v1 L1 ⟨nb1, hnb1, rfl, rfl⟩
 show JL _ _ _ _ ((1, Ptr nb1 0) :: _) [⟨nb1, [U64 pv, U64 ep, I64 (kd), .slice ai ni ci, .slice sa ns sc, U64 bl] ++ cu8 tg, 29, (0, 0)⟩]
 refine AA _ (AF rfl) rfl ?_
 refine AK (AE (AI (BY (AI (AI (AC (AA (Ptr nb1 2) (AB 2 26 4 A3 rfl BN rfl rfl) rfl ?_)))))))
 refine AA (.agg #[I64 (kd), .slice ai ni ci, .slice sa ns sc, U64 bl]) (AL rfl (B1 CZ BN rfl (AY 0 rfl (CO (p := [U64 pv, U64 ep]) (q := cu8 tg) (vs := [I64 (kd), .slice ai ni ci, .slice sa ns sc, U64 bl]) (by first | rfl | (simp only [List.append_assoc, List.nil_append, List.append_nil, List.cons_append]; done)) rfl)))) rfl ?_
 refine BS (A2 69 [.agg #[I64 (kd), .slice ai ni ci, .slice sa ns sc, U64 bl]] (.bool (RightO (kd) l ls bl)) (A5 _ Tryd.call69 rfl) (fun w1 hw1 => right13_c (kd) ai ni ci l sa ns sc ls bl w1 hl (by omega) (by omega) (by omega) (BP hw1 rfl hv) hls (by omega) (by omega) (by omega) (BP hw1 rfl hs))) rfl ?_
 show JL _ _ _ _ ((6, .bool (RightO (kd) l ls bl)) :: _) [_]
 refine AA (.bool (!(RightO (kd) l ls bl))) (C8 rfl) rfl ?_
 refine AA _ (AF rfl) rfl ?_
 refine AK (AE (BZ (!(RightO (kd) l ls bl)) rfl (fun hb1 => ?_) (fun hb1 => ?_)))
 ·
  have hb2 : (RightO (kd) l ls bl) = false := by simpa using hb1
  refine BM (AE (B5 _ rfl hb1 ?_))
  refine AI (AC (AA (.iface 50 (I64 2)) (Ev_iface Tryd.underlying50 rfl rfl) rfl ?_))
  refine AA _ (AF rfl) rfl ?_
  refine AK (AE (BA (BK (AU (BF [false] ?_)))))
  show JQ _ _ _ _ []
  refine A9 (.iface 50 (I64 2)) (res1 Tryd.results128 (A7 rfl)) fun w1 hw1 => ?_
  have e1 : mayN pv ep kd l ls bl = 2 := by
   unfold mayN
   first | rw [if_pos ‹RightO kd l ls bl = true›] | rw [if_neg (by simp [*])]
   all_goals simp [*]
  rw [e1]
  exact ⟨_, [], rfl, ⟨rfl, rfl⟩, hw1.sub (by simp) (by simp)⟩
 ·
  have hb3 : (RightO (kd) l ls bl) = true := by simpa using hb1
  by_cases hk1 : kd = 1
  ·
   have hpos := RightO_pos hb3 hk1
   rw [hls, hl] at hpos
   obtain ⟨x1, hx1⟩ : ∃ x, ls[0]? = some x := ⟨_, List.getElem?_eq_getElem (by rw [hls]; omega)⟩
   obtain ⟨bz1, oz1, hz1, hm1⟩ := FC EC (by decide) hs hx1
   refine DC 37 1 [(0, Ptr nb1 2), (1, Ptr nb1 2), (2, I64 (kd)), (3, .bool (decide ((kd) = (1:Int)))), (4, .bool (decide ((kd) = (1:Int)))), (5, Ptr nb1 2), (6, Ptr nb1 4), (7, .slice sa ns sc), (8, Ptr bz1 oz1), (9, Ptr bz1 oz1), (10, U64 x1.e), (11, Ptr nb1 1), (12, U64 ep), (13, .bool (decide (x1.e ≠ ep))), (14, .bool (decide (x1.e ≠ ep))), (15, .bool (decide (x1.e ≠ ep)))] B9 rfl (by decide +kernel) ?_
   refine DK ⟨[], [0, 1, 2, 3, 4, 5, 6, 7, 8, 9, 10, 11, 12, 13, 14, 15], [], [0, 1, 2, 3, 4, 5, 6, 7, 8, 9, 10, 11, 12, 13, 14, 15], []⟩ rfl rfl (by decide +kernel) rfl ⟨⟨_, rfl, AO rfl (AB 2 26 4 A3 rfl BN rfl rfl)⟩, ⟨_, rfl, AO rfl (AB 0 3 1 A6 rfl AT rfl rfl)⟩, ⟨_, rfl, AO rfl (AL rfl (AV AX (AY 0 rfl (AH (AG (AG (Seg.head)))))))⟩, ⟨_, rfl, AO rfl (AQ rfl rfl fun _ => A4 _ _)⟩, CK rfl rfl rfl, ⟨_, rfl, CF 4 12 true _ rfl rfl rfl (decide_eq_true hk1) (AB 2 26 4 A3 rfl BN rfl rfl)⟩, ⟨_, rfl, CF 4 12 true _ rfl rfl rfl (decide_eq_true hk1) (AB 2 24 1 A6 rfl DQ rfl rfl)⟩, ⟨_, rfl, CF 4 12 true _ rfl rfl rfl (decide_eq_true hk1) (AL rfl (AV DX (AY 0 rfl (AH (AG (AG (AG (AG (Seg.head)))))))))⟩, ⟨_, rfl, CF 4 12 true _ rfl rfl rfl (decide_eq_true hk1) (CU 161 49 oz1 CH C0 rfl hz1 rfl (by omega) (by omega) (by omega))⟩, ⟨_, rfl, CF 4 12 true _ rfl rfl rfl (decide_eq_true hk1) (AB 0 22 1 DJ rfl AP rfl rfl)⟩, ⟨_, rfl, CF 4 12 true _ rfl rfl rfl (decide_eq_true hk1) (AL rfl (AV AR (C3 (hm1.mem (by simp)) (AH (AH (Seg.head))) (by omega))))⟩, ⟨_, rfl, CF 4 12 true _ rfl rfl rfl (decide_eq_true hk1) (AB 1 22 1 A3 rfl AP rfl rfl)⟩, ⟨_, rfl, CF 4 12 true _ rfl rfl rfl (decide_eq_true hk1) (AL rfl (AV AR (AY 0 rfl (AH (AG (Seg.head))))))⟩, ⟨_, rfl, CF 4 12 true _ rfl rfl rfl (decide_eq_true hk1) (AQ rfl rfl fun _ => C4 x1.e ep)⟩, ⟨_, rfl, AO rfl (BD _ rfl (decide_eq_true hk1) rfl)⟩, ⟨_, rfl, AO rfl (AF rfl)⟩, trivial⟩ ?_
   refine CY (F' := [(3, .bool (decide (x1.e ≠ ep))), (1, Ptr nb1 0), (2, .nilIface)]) (by kernel_rfl) ?_
   refine AE (BZ (decide (x1.e ≠ ep)) rfl (fun hb4 => ?_) (fun hb4 => ?_))
   ·
    have hp4 : x1.e ≠ ep := of_decide_eq_true hb4
    refine AI (AC (AA (.iface 50 (I64 2)) (Ev_iface Tryd.underlying50 rfl rfl) rfl ?_))
    refine AA _ (AF rfl) rfl ?_
    refine AK (AE (BA (BK (AU (BF [false] ?_)))))
    show JQ _ _ _ _ []
    refine A9 (.iface 50 (I64 2)) (res1 Tryd.results128 (A7 rfl)) fun w1 hw1 => ?_
    have e1 : mayN pv ep kd l ls bl = 2 := by
     unfold mayN
     first | rw [if_pos ‹RightO kd l ls bl = true›] | rw [if_neg (by simp [*])]
     rw [E2 hx1]
     all_goals simp [*]
    rw [e1]
    exact ⟨_, [], rfl, ⟨rfl, rfl⟩, hw1.sub (by simp) (by simp)⟩
   ·
    have hp4 : ¬ (x1.e ≠ ep) := of_decide_eq_false hb4
    refine AI (AC (AA (Ptr nb1 1) (AB 1 22 1 A3 rfl AP rfl rfl) rfl ?_))
    refine AA (U64 ep) (AL rfl (AV AR (AY 0 rfl (AH (AG (Seg.head)))))) rfl ?_
    refine BS (A2 133 [U64 0, U64 ep] (.bool (RightB (0:UInt64) ep)) (A5 _ Tryd.call133 rfl) (fun w1 hw1 => right_c (0:UInt64) ep w1 )) rfl ?_
    show JL _ _ _ _ ((27, .bool (RightB (0:UInt64) ep)) :: _) [_]
    refine AA (.bool (!(RightB (0:UInt64) ep))) (C8 rfl) rfl ?_
    refine AA _ (AM rfl) rfl ?_
    rcases Bool.eq_false_or_eq_true (RightB (0:UInt64) ep) with hb5 | hb5
    ·
     refine AN 4 29 false _ (Ptr nb1 0) rfl rfl (by rw [show (RightB (0:UInt64) ep) = true from hb5] <;> rfl) (AB 0 22 1 A3 rfl AP rfl rfl) rfl ?_
     refine AN 4 29 false _ (U64 pv) rfl rfl (by rw [show (RightB (0:UInt64) ep) = true from hb5] <;> rfl) (AL rfl (AV AR (AY 0 rfl (AH (Seg.head))))) rfl ?_
     refine AN 4 29 false _ (Ptr nb1 1) rfl rfl (by rw [show (RightB (0:UInt64) ep) = true from hb5] <;> rfl) (AB 1 22 1 A3 rfl AP rfl rfl) rfl ?_
     refine AN 4 29 false _ (U64 ep) rfl rfl (by rw [show (RightB (0:UInt64) ep) = true from hb5] <;> rfl) (AL rfl (AV AR (AY 0 rfl (AH (AG (Seg.head)))))) rfl ?_
     refine AN 4 29 false _ (.bool (decide (ep ≤ pv))) rfl rfl (by rw [show (RightB (0:UInt64) ep) = true from hb5] <;> rfl) (AQ rfl rfl fun _ => EF pv ep) rfl ?_
     refine AA _ (A0 _ rfl (by rw [show (RightB (0:UInt64) ep) = true from hb5] <;> rfl) rfl) rfl ?_
     refine AA _ (AF rfl) rfl ?_
     refine AK (AE (BZ (decide (ep ≤ pv)) rfl (fun hb6 => ?_) (fun hb6 => ?_)))
     ·
      have hp6 : ep ≤ pv := of_decide_eq_true hb6
      refine AI (AC (AA (.iface 50 (I64 1)) (Ev_iface Tryd.underlying50 rfl rfl) rfl ?_))
      refine AA _ (AF rfl) rfl ?_
      refine AK (AE (BA (BK (AU (BF [false] ?_)))))
      show JQ _ _ _ _ []
      refine A9 (.iface 50 (I64 1)) (res1 Tryd.results128 (A7 rfl)) fun w1 hw1 => ?_
      have e1 : mayN pv ep kd l ls bl = 1 := by
       unfold mayN
       first | rw [if_pos ‹RightO kd l ls bl = true›] | rw [if_neg (by simp [*])]
       rw [E2 hx1]
       all_goals simp [*]
      rw [e1]
      exact ⟨_, [], rfl, ⟨rfl, rfl⟩, hw1.sub (by simp) (by simp)⟩
     ·
      have hp6 : ¬ (ep ≤ pv) := of_decide_eq_false hb6
      refine BM (BR (AE (AI (AC (AA _ (AF rfl) rfl ?_)))))
      refine AK (AE (BA (BF [false] ?_)))
      show JQ _ _ _ _ []
      refine A9 (.nilIface) (res1 Tryd.results128 (A7 rfl)) fun w1 hw1 => ?_
      have e1 : mayN pv ep kd l ls bl = 0 := by
       unfold mayN
       first | rw [if_pos ‹RightO kd l ls bl = true›] | rw [if_neg (by simp [*])]
       rw [E2 hx1]
       all_goals simp [*]
      rw [e1]
      exact ⟨_, [], rfl, ⟨rfl, rfl⟩, hw1.sub (by simp) (by simp)⟩
    ·
     refine AD 4 29 false _ rfl rfl (by rw [show (RightB (0:UInt64) ep) = false from hb5] <;> rfl) rfl ?_
     refine AD 4 29 false _ rfl rfl (by rw [show (RightB (0:UInt64) ep) = false from hb5] <;> rfl) rfl ?_
     refine AD 4 29 false _ rfl rfl (by rw [show (RightB (0:UInt64) ep) = false from hb5] <;> rfl) rfl ?_
     refine AD 4 29 false _ rfl rfl (by rw [show (RightB (0:UInt64) ep) = false from hb5] <;> rfl) rfl ?_
     refine AD 4 29 false _ rfl rfl (by rw [show (RightB (0:UInt64) ep) = false from hb5] <;> rfl) rfl ?_
     refine AA _ (BD _ rfl (by rw [show (RightB (0:UInt64) ep) = false from hb5] <;> rfl) rfl) rfl ?_
     refine AA _ (AF rfl) rfl ?_
     refine AK (AE (B5 _ rfl rfl ?_))
     refine AI (AC (AA (.iface 50 (I64 1)) (Ev_iface Tryd.underlying50 rfl rfl) rfl ?_))
     refine AA _ (AF rfl) rfl ?_
     refine AK (AE (BA (BK (AU (BF [false] ?_)))))
     show JQ _ _ _ _ []
     refine A9 (.iface 50 (I64 1)) (res1 Tryd.results128 (A7 rfl)) fun w1 hw1 => ?_
     have e1 : mayN pv ep kd l ls bl = 1 := by
      unfold mayN
      first | rw [if_pos ‹RightO kd l ls bl = true›] | rw [if_neg (by simp [*])]
      rw [E2 hx1]
      all_goals simp [*]
     rw [e1]
     exact ⟨_, [], rfl, ⟨rfl, rfl⟩, hw1.sub (by simp) (by simp)⟩
  ·
   refine DC 37 1 [(0, Ptr nb1 2), (1, Ptr nb1 2), (2, I64 (kd)), (3, .bool (decide ((kd) = (1:Int)))), (4, .bool (decide ((kd) = (1:Int)))), (5, undef), (6, undef), (7, undef), (8, undef), (9, undef), (10, undef), (11, undef), (12, undef), (13, undef), (14, .bool false), (15, .bool false)] B9 rfl (by decide +kernel) ?_
   refine DK ⟨[], [0, 1, 2, 3, 4, 5, 6, 7, 8, 9, 10, 11, 12, 13, 14, 15], [], [0, 1, 2, 3, 4, 5, 6, 7, 8, 9, 10, 11, 12, 13, 14, 15], []⟩ rfl rfl (by decide +kernel) rfl ⟨⟨_, rfl, AO rfl (AB 2 26 4 A3 rfl BN rfl rfl)⟩, ⟨_, rfl, AO rfl (AB 0 3 1 A6 rfl AT rfl rfl)⟩, ⟨_, rfl, AO rfl (AL rfl (AV AX (AY 0 rfl (AH (AG (AG (Seg.head)))))))⟩, ⟨_, rfl, AO rfl (AQ rfl rfl fun _ => A4 _ _)⟩, CK rfl rfl rfl, ⟨_, rfl, B8 4 12 true _ rfl rfl rfl (decide_eq_false hk1)⟩, ⟨_, rfl, B8 4 12 true _ rfl rfl rfl (decide_eq_false hk1)⟩, ⟨_, rfl, B8 4 12 true _ rfl rfl rfl (decide_eq_false hk1)⟩, ⟨_, rfl, B8 4 12 true _ rfl rfl rfl (decide_eq_false hk1)⟩, ⟨_, rfl, B8 4 12 true _ rfl rfl rfl (decide_eq_false hk1)⟩, ⟨_, rfl, B8 4 12 true _ rfl rfl rfl (decide_eq_false hk1)⟩, ⟨_, rfl, B8 4 12 true _ rfl rfl rfl (decide_eq_false hk1)⟩, ⟨_, rfl, B8 4 12 true _ rfl rfl rfl (decide_eq_false hk1)⟩, ⟨_, rfl, B8 4 12 true _ rfl rfl rfl (decide_eq_false hk1)⟩, ⟨_, rfl, AO rfl (A0 _ rfl (decide_eq_false hk1) rfl)⟩, ⟨_, rfl, AO rfl (AF rfl)⟩, trivial⟩ ?_
   refine CY (F' := [(3, .bool false), (1, Ptr nb1 0), (2, .nilIface)]) (by kernel_rfl) ?_
   refine AE (BT _ rfl rfl ?_)
   refine AI (AC (AA (Ptr nb1 1) (AB 1 22 1 A3 rfl AP rfl rfl) rfl ?_))
   refine AA (U64 ep) (AL rfl (AV AR (AY 0 rfl (AH (AG (Seg.head)))))) rfl ?_
   refine BS (A2 133 [U64 0, U64 ep] (.bool (RightB (0:UInt64) ep)) (A5 _ Tryd.call133 rfl) (fun w1 hw1 => right_c (0:UInt64) ep w1 )) rfl ?_
   show JL _ _ _ _ ((27, .bool (RightB (0:UInt64) ep)) :: _) [_]
   refine AA (.bool (!(RightB (0:UInt64) ep))) (C8 rfl) rfl ?_
   refine AA _ (AM rfl) rfl ?_
   rcases Bool.eq_false_or_eq_true (RightB (0:UInt64) ep) with hb7 | hb7
   ·
    refine AN 4 29 false _ (Ptr nb1 0) rfl rfl (by rw [show (RightB (0:UInt64) ep) = true from hb7] <;> rfl) (AB 0 22 1 A3 rfl AP rfl rfl) rfl ?_
    refine AN 4 29 false _ (U64 pv) rfl rfl (by rw [show (RightB (0:UInt64) ep) = true from hb7] <;> rfl) (AL rfl (AV AR (AY 0 rfl (AH (Seg.head))))) rfl ?_
    refine AN 4 29 false _ (Ptr nb1 1) rfl rfl (by rw [show (RightB (0:UInt64) ep) = true from hb7] <;> rfl) (AB 1 22 1 A3 rfl AP rfl rfl) rfl ?_
    refine AN 4 29 false _ (U64 ep) rfl rfl (by rw [show (RightB (0:UInt64) ep) = true from hb7] <;> rfl) (AL rfl (AV AR (AY 0 rfl (AH (AG (Seg.head)))))) rfl ?_
    refine AN 4 29 false _ (.bool (decide (ep ≤ pv))) rfl rfl (by rw [show (RightB (0:UInt64) ep) = true from hb7] <;> rfl) (AQ rfl rfl fun _ => EF pv ep) rfl ?_
    refine AA _ (A0 _ rfl (by rw [show (RightB (0:UInt64) ep) = true from hb7] <;> rfl) rfl) rfl ?_
    refine AA _ (AF rfl) rfl ?_
    refine AK (AE (BZ (decide (ep ≤ pv)) rfl (fun hb8 => ?_) (fun hb8 => ?_)))
    ·
     have hp8 : ep ≤ pv := of_decide_eq_true hb8
     refine AI (AC (AA (.iface 50 (I64 1)) (Ev_iface Tryd.underlying50 rfl rfl) rfl ?_))
     refine AA _ (AF rfl) rfl ?_
     refine AK (AE (BA (BK (AU (BF [false] ?_)))))
     show JQ _ _ _ _ []
     refine A9 (.iface 50 (I64 1)) (res1 Tryd.results128 (A7 rfl)) fun w1 hw1 => ?_
     have e1 : mayN pv ep kd l ls bl = 1 := by
      unfold mayN
      first | rw [if_pos ‹RightO kd l ls bl = true›] | rw [if_neg (by simp [*])]
      all_goals simp [*]
     rw [e1]
     exact ⟨_, [], rfl, ⟨rfl, rfl⟩, hw1.sub (by simp) (by simp)⟩
    ·
     have hp8 : ¬ (ep ≤ pv) := of_decide_eq_false hb8
     refine BM (BR (AE (AI (AC (AA _ (AF rfl) rfl ?_)))))
     refine AK (AE (BA (BF [false] ?_)))
     show JQ _ _ _ _ []
     refine A9 (.nilIface) (res1 Tryd.results128 (A7 rfl)) fun w1 hw1 => ?_
     have e1 : mayN pv ep kd l ls bl = 0 := by
      unfold mayN
      first | rw [if_pos ‹RightO kd l ls bl = true›] | rw [if_neg (by simp [*])]
      all_goals simp [*]
     rw [e1]
     exact ⟨_, [], rfl, ⟨rfl, rfl⟩, hw1.sub (by simp) (by simp)⟩
   ·
    refine AD 4 29 false _ rfl rfl (by rw [show (RightB (0:UInt64) ep) = false from hb7] <;> rfl) rfl ?_
    refine AD 4 29 false _ rfl rfl (by rw [show (RightB (0:UInt64) ep) = false from hb7] <;> rfl) rfl ?_
    refine AD 4 29 false _ rfl rfl (by rw [show (RightB (0:UInt64) ep) = false from hb7] <;> rfl) rfl ?_
    refine AD 4 29 false _ rfl rfl (by rw [show (RightB (0:UInt64) ep) = false from hb7] <;> rfl) rfl ?_
    refine AD 4 29 false _ rfl rfl (by rw [show (RightB (0:UInt64) ep) = false from hb7] <;> rfl) rfl ?_
    refine AA _ (BD _ rfl (by rw [show (RightB (0:UInt64) ep) = false from hb7] <;> rfl) rfl) rfl ?_
    refine AA _ (AF rfl) rfl ?_
    refine AK (AE (B5 _ rfl rfl ?_))
    refine AI (AC (AA (.iface 50 (I64 1)) (Ev_iface Tryd.underlying50 rfl rfl) rfl ?_))
    refine AA _ (AF rfl) rfl ?_
    refine AK (AE (BA (BK (AU (BF [false] ?_)))))
    show JQ _ _ _ _ []
    refine A9 (.iface 50 (I64 1)) (res1 Tryd.results128 (A7 rfl)) fun w1 hw1 => ?_
    have e1 : mayN pv ep kd l ls bl = 1 := by
     unfold mayN
     first | rw [if_pos ‹RightO kd l ls bl = true›] | rw [if_neg (by simp [*])]
     all_goals simp [*]
    rw [e1]
    exact ⟨_, [], rfl, ⟨rfl, rfl⟩, hw1.sub (by simp) (by simp)⟩
theorem DE (nv : UInt64) (k : Nat) (w : World) (hk : k ≤ 8) : Calls Tryd.prog 88 #[U64 nv, I64 k] w (Post w [] (fun v L => ∃ g, v = Slc g 0 k k ∧ L = [⟨g, cu8 (numK k nv k), 5, (0, 0)⟩])) := by
 have hmx : maxLen = 9223372036854775807 := rfl
 refine enter w [] 24 [] [U64 nv, I64 k] Tryd.func88 rfl rfl (by simp) (B2 (by simp) (by simp) (by simp)) ?_
 show JC _ _ _ [(0, U64 nv), (1, I64 k)] _
 refine AI (AC (AA _ (AF rfl) rfl ?_))
 refine AK (AE (AI (AC (AA _ (AM rfl) rfl ?_))))
 refine BG (Step_make8 5 1 k k AW B0 rfl rfl (by omega) (by omega) (by unfold maxLen; omega)) rfl ?_
 rintro v1 L1 ⟨nb1, hnb1, rfl, rfl⟩
 show JL _ _ _ _ ((8, Slc nb1 0 k k) :: _) [⟨nb1, cu8 (zr8 k), 5, (0, 0)⟩]
 refine AA _ (AF rfl) rfl ?_
 refine AK (AE (AI (AI (AC (AA _ (AM rfl) rfl ?_)))))
 refine AA (I64 ((k:Int) - 1)) (AQ rfl rfl fun _ => DL _ _ ((k:Int) - 1) (by omega) (by omega)) rfl ?_
 refine AA _ (AF rfl) rfl ?_
 refine AK (AE (BY (EG (ι := Nat × List UInt8 × UInt64) (fun ⟨j, o, y⟩ => [(4, .slice none 0 0), (5, Slc nb1 0 k k), (6, I64 (-(j:Int) + (k:Int) - 1)), (0, U64 y)]) (fun ⟨j, o, y⟩ => [⟨nb1, cu8 o, 5, (0, 0)⟩]) (fun ⟨j, o, y⟩ => j ≤ k ∧ o = (rnK k nv j).1 ∧ y = (rnK k nv j).2 ∧ o.length = k) (fun ⟨j, o, y⟩ => k - j) (0, zr8 k, nv) ⟨by omega, by rw [rnK], by rw [rnK], CL k⟩ (Sub.cons rfl (Sub.cons rfl (Sub.cons (some_i64 (by omega)) (Sub.all rfl)))) rfl ?_)))
 rintro ⟨j, o, y⟩ ⟨hx1, hx2, hx3, ho⟩
 show JC _ _ _ [(4, .slice none 0 0), (5, Slc nb1 0 k k), (6, I64 (-(j:Int) + (k:Int) - 1)), (0, U64 y)] [⟨nb1, cu8 o, 5, (0, 0)⟩]
 refine AI (AI (AC (AA _ (AM rfl) rfl ?_)))
 refine AA (.bool (decide ((0:Int) ≤ (-(j:Int) + (k:Int) - 1)))) (AQ rfl rfl fun _ => bin_geq_i _ _) rfl ?_
 refine AK (AE (BZ (decide ((0:Int) ≤ (-(j:Int) + (k:Int) - 1))) rfl (fun hb1 => ?_) (fun hb1 => ?_)))
 ·
  have hp1 : (0:Int) ≤ (-(j:Int) + (k:Int) - 1) := of_decide_eq_true hb1
  refine BM (AE (AI (BY (AI (AC (AA _ (AM rfl) rfl ?_))))))
  refine AA _ (AM rfl) rfl ?_
  refine AA _ (AM rfl) rfl ?_
  refine AA (U64 (y % (256:UInt64))) (AQ rfl rfl fun _ => bin_rem_u64 y (256:UInt64) (by decide)) rfl ?_
  refine AA (U8 ((y % (256:UInt64)).toUInt8)) (DA _ _ rfl fun _ => E7 (by rw [BQ]; rfl) BU _) rfl ?_
  refine AA (Ptr nb1 (k - j - 1)) (Ev_indexSl 5 1 (k - j - 1) AW B4 rfl rfl (by omega) (by omega) (by omega)) rfl ?_
  have hl1 : (o.set (k - j - 1) ((y % (256:UInt64)).toUInt8)).length = k := by first | (rw [List.length_set]; exact ho) | simp [ho]
  refine BS (EP 0 nb1 (k - j - 1) 1 (cu8 o) 5 (U8 ((y % (256:UInt64)).toUInt8)) ([U8 ((y % (256:UInt64)).toUInt8)]) (cu8 (o.set (k - j - 1) ((y % (256:UInt64)).toUInt8))) rfl rfl rfl rfl B4 rfl (by simp [Value.oneCell']) (by simp [ho]; try omega) (lay8 _ _ _ (by rw [ho]; omega))) rfl ?_
  show JL _ _ _ _ _ [⟨nb1, cu8 (o.set (k - j - 1) ((y % (256:UInt64)).toUInt8)), 5, (0, 0)⟩]
  refine AK (AE (AC (AA _ (AM rfl) rfl ?_)))
  refine AA (U64 (y / (256:UInt64))) (AQ rfl rfl fun _ => bin_quo_u64 y (256:UInt64) (by decide)) rfl ?_
  refine AA _ (AF rfl) rfl ?_
  refine AK (BR (AE (AC (AA _ (AM rfl) rfl ?_))))
  refine AA (I64 (-(j:Int) + (k:Int) - 2)) (AQ rfl rfl fun _ => DL _ _ (-(j:Int) + (k:Int) - 2) (by omega) (by omega)) rfl ?_
  refine AA _ (AF rfl) rfl ?_
  refine AK (DU (EM (j + 1, o.set (k - j - 1) ((y % (256:UInt64)).toUInt8), y / (256:UInt64)) ⟨by omega, by rw [rnK, ← hx2, ← hx3], by rw [rnK, ← hx3], hl1⟩ (by first | (simp; omega) | simp | (dsimp only; omega) | omega) (Sub.cons rfl (Sub.cons rfl (Sub.cons (some_i64 (by omega)) (Sub.all rfl)))) rfl))
 ·
  have hp1 : ¬ ((0:Int) ≤ (-(j:Int) + (k:Int) - 1)) := of_decide_eq_false hb1
  refine EH (BX (BX (DH (AE (AI (AC (AA _ (AM rfl) rfl ?_)))))))
  refine AA _ (AF rfl) rfl ?_
  refine AK (AE (BA (A9 (Slc nb1 0 k k) (res1 Tryd.results88 (A7 rfl)) fun w1 hw1 => ?_)))
  have e1 : j = k := by omega
  rw [hx2, e1, rnK_num k nv hk] at hw1
  exact ⟨_, _, rfl, ⟨_, rfl, rfl⟩, hw1.sub (by simp) (by simp)⟩
theorem put7_c (e : UInt64) (d t : List UInt8) (w : World) (hd : d.length = 32) (ht : t.length = 16) : Calls Tryd.prog 97 #[.agg ([U64 e] ++ cu8 d ++ cu8 t).toArray] w (Post w [] (fun v L => ∃ g sp cap, v = Slc g 0 56 cap ∧ L = [⟨g, cu8 (putL e d t) ++ sp, 5, (0, 0)⟩] ∧ sp.length = cap - 56 ∧ 56 ≤ cap ∧ cap ≤ maxLen)) := by
 have hmx : maxLen = 9223372036854775807 := rfl
 refine enter (P := Tryd.prog) (f := 97) (fn := Tryd.f97) w [] 25 [] [.agg ([U64 e] ++ cu8 d ++ cu8 t).toArray] Tryd.func97 rfl rfl (by simp) (B2 (by simp) (by simp) (by simp)) ?_
 show JC _ _ _ [(0, .agg ([U64 e] ++ cu8 d ++ cu8 t).toArray)] _
 refine AI (AC (BG (CE (.agg ([U64 e] ++ cu8 d ++ cu8 t).toArray) ([U64 e] ++ cu8 d ++ cu8 t) rfl (by first | rfl | simp)) rfl ?_))
 rintro v1 L1 ⟨nb1, hnb1, rfl, rfl⟩
 show JL _ _ _ _ ((1, Ptr nb1 0) :: _) [⟨nb1, [U64 e] ++ cu8 d ++ cu8 t, 161, (0, 0)⟩]
 refine AA _ (AF rfl) rfl ?_
 refine AK (AE (AI (AC (AA (.agg #[.nilIface, .slice none 0 0]) (EN [] _ rfl (fun _ => by kernel_rfl)) rfl ?_))))
 refine BG (CE (.agg #[.nilIface, .slice none 0 0]) ([.nilIface, .slice none 0 0]) rfl (by first | rfl | simp)) rfl ?_
 rintro v1 L1 ⟨nb2, hnb2, rfl, rfl⟩
 show JL _ _ _ _ ((7, Ptr nb2 0) :: _) [_, ⟨nb2, [.nilIface, .slice none 0 0], 149, (0, 0)⟩]
 refine AA _ (AF rfl) rfl ?_
 refine AK (AE (AI (DC 25 5 [(0, Ptr nb2 0), (1, Ptr nb1 0), (2, U64 e), (4, Ptr nb1 1), (5, Slc nb1 1 32 32), (7, Ptr nb1 33), (8, Slc nb1 33 16 16)] B9 rfl (by decide +kernel) ?_)))
 refine CP ⟨[], [0, 1, 2, 4, 5, 7, 8], [], [0, 1, 2, 4, 5, 7, 8], [3]⟩ 3 _ rfl rfl (by decide +kernel) rfl ⟨CK rfl rfl rfl, ⟨_, rfl, AO rfl (AB 0 22 1 DJ rfl AP rfl rfl)⟩, ⟨_, rfl, AO rfl (AL rfl (AV AR (AY 0 rfl (AH (AH (Seg.head))))))⟩, ⟨_, rfl, AO rfl (AB 1 159 32 DJ rfl Tryd.sizeOf159 rfl rfl)⟩, ⟨_, rfl, AO rfl (E6 32 5 1 0 32 1 32 Tryd.underlying159 B4 rfl rfl rfl (by omega) (by omega) (by omega) (by omega) (by omega) 32 (by omega))⟩, ⟨_, rfl, AO rfl (AB 33 27 16 DJ rfl CG rfl rfl)⟩, ⟨_, rfl, AO rfl (E6 16 5 1 0 16 33 16 DD B4 rfl rfl rfl (by omega) (by omega) (by omega) (by omega) (by omega) 16 (by omega))⟩, trivial⟩ rfl (BJ rfl (C6 81 _ [false, true] [nb2] _ (A5 [Ptr nb2 0, U64 e, I64 8] C1 rfl) rfl (fun w1 hw1 => numN_c nb2 8 .nilIface e 8 w1 (hw1.ent _ (List.mem_of_getElem? (i := 1) rfl)) (by unfold Szd; omega) (fun h => absurd h (by omega)) (by omega)))) ?_
 rintro v1 L1 ⟨_, ⟨rfl, nb3, sp1, cp1, rfl, hc1, hc2, hc3⟩, rfl⟩
 refine ⟨[], ?_⟩
 show DP _ _ _ _ _ _ _ _ [_, ⟨nb2, [.nilIface, Slc nb3 0 8 cp1], 149, (0, 0)⟩, ⟨nb3, cu8 (numK 8 e 8) ++ sp1, 5, (0, 0)⟩]
 refine CP ⟨[3], [0, 1, 2, 4, 5, 7, 8], [0, 1, 2], [4, 5, 7, 8], [6]⟩ 6 _ rfl rfl (by decide +kernel) rfl ⟨⟨_, rfl, AO rfl (AB 1 159 32 DJ rfl Tryd.sizeOf159 rfl rfl)⟩, ⟨_, rfl, AO rfl (E6 32 5 1 0 32 1 32 Tryd.underlying159 B4 rfl rfl rfl (by omega) (by omega) (by omega) (by omega) (by omega) 32 (by omega))⟩, ⟨_, rfl, AO rfl (AB 33 27 16 DJ rfl CG rfl rfl)⟩, ⟨_, rfl, AO rfl (E6 16 5 1 0 16 33 16 DD B4 rfl rfl rfl (by omega) (by omega) (by omega) (by omega) (by omega) 16 (by omega))⟩, trivial⟩ rfl (BJ rfl (C6 82 _ [false, true, true] [nb2, nb3] _ (A5 [Ptr nb2 0, Slc nb1 1 32 32] Tryd.call82 rfl) rfl (fun w1 hw1 => rawO_c nb2 nb3 8 cp1 40 .nilIface (numK 8 e 8) sp1 (some ⟨nb1, 1, none⟩) 32 32 d w1 (hw1.ent _ (List.mem_of_getElem? (i := 1) rfl)) (hw1.ent _ (List.mem_of_getElem? (i := 2) rfl)) (hw1.ne (i := 1) (j := 2) rfl rfl (by decide)) (show (numK 8 e 8).length = 8 from (BE _ _ _)) hc1 hc2 hc3 (by omega) hd (by omega) (RdB.of hw1 (AY 0 rfl (AH (Seg.right 1 0 rfl rfl (A1 _)))) (by intro _; simp only [List.mem_cons, List.not_mem_nil, or_false, not_or]; exact ⟨hw1.ne (i := 0) (j := 1) rfl rfl (by decide), hw1.ne (i := 0) (j := 2) rfl rfl (by decide)⟩)) (by omega)))) ?_
 rintro v1 L1 ⟨_, ⟨rfl, nb4, sp2, cp2, rfl, hc4, hc5, hc6⟩, rfl⟩
 refine ⟨[], ?_⟩
 show DP _ _ _ _ _ _ _ _ [_, ⟨nb2, [.nilIface, Slc nb4 0 40 cp2], 149, (0, 0)⟩, ⟨nb4, cu8 ((numK 8 e 8) ++ d) ++ sp2, 5, (0, 0)⟩]
 refine CP ⟨[3, 6], [0, 1, 2, 4, 5, 7, 8], [0, 1, 2, 4, 5], [7, 8], [9]⟩ 9 _ rfl rfl (by decide +kernel) rfl ⟨⟨_, rfl, AO rfl (AB 33 27 16 DJ rfl CG rfl rfl)⟩, ⟨_, rfl, AO rfl (E6 16 5 1 0 16 33 16 DD B4 rfl rfl rfl (by omega) (by omega) (by omega) (by omega) (by omega) 16 (by omega))⟩, trivial⟩ rfl (BJ rfl (C6 82 _ [false, true, true] [nb2, nb4] _ (A5 [Ptr nb2 0, Slc nb1 33 16 16] Tryd.call82 rfl) rfl (fun w1 hw1 => rawO_c nb2 nb4 40 cp2 56 .nilIface ((numK 8 e 8) ++ d) sp2 (some ⟨nb1, 33, none⟩) 16 16 t w1 (hw1.ent _ (List.mem_of_getElem? (i := 1) rfl)) (hw1.ent _ (List.mem_of_getElem? (i := 2) rfl)) (hw1.ne (i := 1) (j := 2) rfl rfl (by decide)) (show ((numK 8 e 8) ++ d).length = 40 from (by rw [List.length_append, (show (numK 8 e 8).length = 8 from (BE _ _ _)), hd] <;> omega)) hc4 hc5 hc6 (by omega) ht (by omega) (RdB.of hw1 (AY 0 rfl (Seg.right 33 0 (by simp [hd]) rfl (A1 _))) (by intro _; simp only [List.mem_cons, List.not_mem_nil, or_false, not_or]; exact ⟨hw1.ne (i := 0) (j := 1) rfl rfl (by decide), hw1.ne (i := 0) (j := 2) rfl rfl (by decide)⟩)) (by omega)))) ?_
 rintro v1 L1 ⟨_, ⟨rfl, nb5, sp3, cp3, rfl, hc7, hc8, hc9⟩, rfl⟩
 refine ⟨[], ?_⟩
 show DP _ _ _ _ _ _ _ _ [_, ⟨nb2, [.nilIface, Slc nb5 0 56 cp3], 149, (0, 0)⟩, ⟨nb5, cu8 (((numK 8 e 8) ++ d) ++ t) ++ sp3, 5, (0, 0)⟩]
 refine CP ⟨[3, 6, 9], [0, 1, 2, 4, 5, 7, 8], [0, 1, 2, 4, 5, 7, 8], [], [10]⟩ 10 _ rfl rfl (by decide +kernel) rfl trivial rfl (BJ rfl (BV 83 [Ptr nb2 0] _ (A5 _ Tryd.call83 rfl) (fun w1 hw1 => doneO_c nb2 0 nb5 56 cp3 (((numK 8 e 8) ++ d) ++ t) w1 (RdA.of hw1 (AY 1 rfl (A1 _)) (by simp)) rfl (show (((numK 8 e 8) ++ d) ++ t).length = 56 from (by rw [List.length_append, (show ((numK 8 e 8) ++ d).length = 40 from (by rw [List.length_append, (show (numK 8 e 8).length = 8 from (BE _ _ _)), hd] <;> omega)), ht] <;> omega)) (by omega) (RdB.of hw1 (AY 2 rfl (AH (A1 _))) (by simp))))) ?_
 rintro v1 L1 ⟨_, ⟨nb6, sp4, cp4, rfl, rfl, hc10, hc11, hc12⟩, rfl⟩
 refine ⟨[(11, .tuple #[Slc nb6 0 56 cp4, .nilIface]), (12, Slc nb6 0 56 cp4), (13, .nilIface), (14, Slc nb6 0 56 cp4), (15, .nilIface)], ?_⟩
 show DP _ _ _ _ _ _ _ _ [_, _, _, ⟨nb6, cu8 (((numK 8 e 8) ++ d) ++ t) ++ sp4, 5, (0, 0)⟩]
 refine DK ⟨[3, 6, 9, 10], [0, 1, 2, 4, 5, 7, 8, 11, 12, 13, 14, 15], [0, 1, 2, 4, 5, 7, 8], [11, 12, 13, 14, 15], []⟩ rfl rfl (by decide +kernel) rfl ⟨CK rfl rfl rfl, ⟨_, rfl, AO rfl (CC rfl rfl)⟩, ⟨_, rfl, AO rfl (CC rfl rfl)⟩, ⟨_, rfl, AO rfl (AF rfl)⟩, ⟨_, rfl, AO rfl (AF rfl)⟩, trivial⟩ ?_
 refine CY (F' := [(4, Slc nb6 0 56 cp4), (5, .nilIface), (2, .slice none 0 0)]) (by kernel_rfl) ?_
 refine AE (AI (AI (AC (AA _ (AM rfl) rfl ?_))))
 refine AA (.bool false) (D5 _ _ _ rfl rfl (fun _ => EK ..) fun _ => neq_if_nil_nil CT) rfl ?_
 refine AK (AE (BT _ rfl rfl ?_))
 refine BM (AE (AI (AC (AA _ (AM rfl) rfl ?_))))
 refine AA _ (AF rfl) rfl ?_
 refine AK (AE (BA (BF [false, false, false, true] ?_)))
 show JQ _ _ _ _ [_]
 refine A9 (Slc nb6 0 56 cp4) (res1 Tryd.results97 (A7 rfl)) fun w1 hw1 => ?_
 have hq : ((numK 8 e 8) ++ d) ++ t = putL e d t := by rw [putL]
 rw [hq] at hw1
 exact ⟨_, _, rfl, ⟨nb6, sp4, cp4, rfl, rfl, hc10, hc11, hc12⟩, hw1.sub (by simp) (by simp)⟩
theorem rput7_c (e : UInt64) (d t : List UInt8) (w : World) (hd : d.length = 32) (ht : t.length = 16) : Calls Tryd.prog 105 #[.agg ([U64 e] ++ cu8 d ++ cu8 t).toArray] w (Post w [] (fun v L => ∃ g sp cap, v = Slc g 0 56 cap ∧ L = [⟨g, cu8 (putL e d t) ++ sp, 5, (0, 0)⟩] ∧ sp.length = cap - 56 ∧ 56 ≤ cap ∧ cap ≤ maxLen)) := by
 have hmx : maxLen = 9223372036854775807 := rfl
 refine enter (P := Tryd.prog) (f := 105) (fn := Tryd.f105) w [] 15 [] [.agg ([U64 e] ++ cu8 d ++ cu8 t).toArray] Tryd.func105 rfl rfl (by simp) (B2 (by simp) (by simp) (by simp)) ?_
 show JC _ _ _ [(0, .agg ([U64 e] ++ cu8 d ++ cu8 t).toArray)] _
 refine AI (AC (BG (CE (.agg ([U64 e] ++ cu8 d ++ cu8 t).toArray) ([U64 e] ++ cu8 d ++ cu8 t) rfl (by first | rfl | simp)) rfl ?_))
 rintro v1 L1 ⟨nb1, hnb1, rfl, rfl⟩
 show JL _ _ _ _ ((1, Ptr nb1 0) :: _) [⟨nb1, [U64 e] ++ cu8 d ++ cu8 t, 164, (0, 0)⟩]
 refine AA _ (AF rfl) rfl ?_
 refine AK (AE (AI (AC (AA (Ptr nb1 0) (AB 0 22 1 D8 rfl AP rfl rfl) rfl ?_))))
 refine AA (U64 e) (AL rfl (AV AR (AY 0 rfl (AH (AH (Seg.head)))))) rfl ?_
 refine BG (BV 88 [U64 e, I64 8] _ (A5 _ CW rfl) (fun w1 hw1 => DE e 8 w1 (by omega))) rfl ?_
 rintro v1 L1 ⟨_, ⟨nb2, rfl, rfl⟩, rfl⟩
 show JL _ _ _ _ ((6, Slc nb2 0 8 8) :: _) [_, ⟨nb2, cu8 (numK 8 e 8), 5, (0, 0)⟩]
 refine AA _ (AF rfl) rfl ?_
 refine AK (AE (AI (AC (AA _ (AM rfl) rfl ?_))))
 refine AA (Ptr nb1 1) (AB 1 159 32 D8 rfl Tryd.sizeOf159 rfl rfl) rfl ?_
 refine AA (Slc nb1 1 32 32) (E6 32 5 1 0 32 1 32 Tryd.underlying159 B4 rfl rfl rfl (by omega) (by omega) (by omega) (by omega) (by omega) 32 (by omega)) rfl ?_
 refine BG (B3 43 5 [false, true] (Slc nb2 0 8 8) 8 (numK 8 e 8) d (some ⟨nb1, 1, none⟩) 32 32 40 AW B0 rfl (.inr ⟨nb2, [], 8, rfl, (by simp [take?, cu8, cu32, cu64]), (by first | exact (show (numK 8 e 8).length = 8 from BE _ _ _) | simp [(show (numK 8 e 8).length = 8 from BE _ _ _)]), (by simp), (by omega), (by unfold maxLen; omega)⟩) rfl (by first | exact hd | simp [hd]; try omega) (SrcAt.mem (AY 0 rfl (AH (Seg.right 1 0 rfl rfl (A1 _))))) (by omega) (by unfold maxLen; omega) (by omega)) rfl ?_
 rintro v1 L1 ⟨nb3, sp1, cp1, hg1, rfl, rfl, ha1, ha2, ha3, ha4⟩
 show JL _ _ _ _ ((10, Slc nb3 0 40 cp1) :: _) [_, ⟨nb3, cu8 ((numK 8 e 8) ++ d) ++ sp1, 5, (0, 0)⟩]
 refine AA _ (AF rfl) rfl ?_
 refine AK (AE (AI (AC (AA _ (AM rfl) rfl ?_))))
 refine AA (Ptr nb1 33) (AB 33 27 16 D8 rfl CG rfl rfl) rfl ?_
 refine AA (Slc nb1 33 16 16) (E6 16 5 1 0 16 33 16 DD B4 rfl rfl rfl (by omega) (by omega) (by omega) (by omega) (by omega) 16 (by omega)) rfl ?_
 refine BG (B3 43 5 [false, true] (Slc nb3 0 40 cp1) 40 ((numK 8 e 8) ++ d) t (some ⟨nb1, 33, none⟩) 16 16 56 AW B0 rfl (.inr ⟨nb3, sp1, cp1, rfl, rfl, (by first | exact ha1 | simp [ha1]), ha2, (by omega), (by omega)⟩) rfl (by first | exact ht | simp [ht]; try omega) (SrcAt.mem (AY 0 rfl (Seg.right 33 0 (by simp [hd]) rfl (A1 _)))) (by omega) (by unfold maxLen; omega) (by omega)) rfl ?_
 rintro v1 L1 ⟨nb4, sp2, cp2, hg2, rfl, rfl, ha5, ha6, ha7, ha8⟩
 show JL _ _ _ _ ((14, Slc nb4 0 56 cp2) :: _) [_, ⟨nb4, cu8 (((numK 8 e 8) ++ d) ++ t) ++ sp2, 5, (0, 0)⟩]
 refine AA _ (AF rfl) rfl ?_
 refine AK (AE (BA (BF [false, true] ?_)))
 show JQ _ _ _ _ [_]
 refine A9 (Slc nb4 0 56 cp2) (res1 Tryd.results105 (A7 rfl)) fun w1 hw1 => ?_
 have hq : ((numK 8 e 8) ++ d) ++ t = putL e d t := by rw [putL]
 rw [hq] at hw1
 exact ⟨_, _, rfl, ⟨nb4, sp2, cp2, rfl, rfl, ha6, ha7, ha8⟩, hw1.sub (by simp) (by simp)⟩
theorem text3_c (pv ep : UInt64) (k : Nat) (ai : Option Addr) (ni ci : Nat) (l : List UInt64) (sa : Option Addr) (ns sc : Nat) (ls : List SealR) (bl : UInt64) (tg : List UInt8)  (w : World) (hl : l.length = ni) (hnm : ni ≤ 2000000) (hnc : ni ≤ ci) (hcm : ci ≤ maxLen) (hv : RdV w ai (cu64 l)) (hls : ls.length = ns) (hnn : ns ≤ 2000000) (hnd : ns ≤ sc) (hcn : sc ≤ maxLen) (hs : RdV w sa (ls.flatMap sealC)) (htg : tg.length = 16) (hmay : mayN pv ep (k:Int) l ls bl = 0) (hk : k = 3)  : Calls Tryd.prog 114 #[.agg ([U64 pv, U64 ep, I64 k, .slice ai ni ci, .slice sa ns sc, U64 bl] ++ cu8 tg).toArray] w (Post w [] (fun v L => ∃ g sp cap, v = .tuple #[Slc g 0 25 cap, .nilIface] ∧ L = [⟨g, cu8 (tktT pv ep k l ls bl) ++ sp, 5, (0, 0)⟩] ∧ sp.length = cap - 25 ∧ 25 ≤ cap ∧ cap ≤ maxLen)) := by
 have hmx : maxLen = 9223372036854775807 := rfl
 refine enter (P := Tryd.prog) (f := 114) (fn := Tryd.f114) w [] 75 [] [.agg ([U64 pv, U64 ep, I64 k, .slice ai ni ci, .slice sa ns sc, U64 bl] ++ cu8 tg).toArray] Tryd.func114 rfl rfl (by simp) (B2 (by simp) (by simp) (by simp)) ?_
 show JC _ _ _ [(0, .agg ([U64 pv, U64 ep, I64 k, .slice ai ni ci, .slice sa ns sc, U64 bl] ++ cu8 tg).toArray)] _
 refine AI (AC (BG (CE (.agg ([U64 pv, U64 ep, I64 k, .slice ai ni ci, .slice sa ns sc, U64 bl] ++ cu8 tg).toArray) ([U64 pv, U64 ep, I64 k, .slice ai ni ci, .slice sa ns sc, U64 bl] ++ cu8 tg) rfl (by first | rfl | simp)) rfl ?_))
 rintro v1 L1 ⟨nb1, hnb1, rfl, rfl⟩
 show JL _ _ _ _ ((1, Ptr nb1 0) :: _) [⟨nb1, [U64 pv, U64 ep, I64 k, .slice ai ni ci, .slice sa ns sc, U64 bl] ++ cu8 tg, 29, (0, 0)⟩]
 refine AA _ (AF rfl) rfl ?_
 refine AA _ (AF rfl) rfl ?_
 refine AK (AE (AI (AI (AC (AA (.agg ([U64 pv, U64 ep, I64 k, .slice ai ni ci, .slice sa ns sc, U64 bl] ++ cu8 tg).toArray) (AL rfl (B1 D2 CN (by simp [htg]) (AY 0 rfl (A1 _)))) rfl ?_)))))
 refine BS (A2 128 [.agg ([U64 pv, U64 ep, I64 k, .slice ai ni ci, .slice sa ns sc, U64 bl] ++ cu8 tg).toArray] (errV 50 (mayN pv ep ((k:Int)) l ls bl)) (A5 _ Tryd.call128 rfl) (fun w1 hw1 => may13_c pv ep ((k:Int)) ai ni ci l sa ns sc ls bl tg w1 hl (by omega) (by omega) (by omega) (BP hw1 rfl hv) hls (by omega) (by omega) (by omega) (BP hw1 rfl hs) htg)) rfl ?_
 show JL _ _ _ _ ((12, errV 50 (mayN pv ep ((k:Int)) l ls bl)) :: _) [_]
 refine AA _ (AF rfl) rfl ?_
 refine AK (AE (AI (AC (AA _ (AM rfl) rfl ?_))))
 refine AA (.bool (!(decide (mayN pv ep ((k:Int)) l ls bl = 0)))) (D5 _ _ _ rfl rfl (fun _ => FB ..) fun _ => neq_errV CT _ _) rfl ?_
 refine AK (AE (BT _ rfl (by rw [show (decide (mayN pv ep ((k:Int)) l ls bl = 0)) = true from (decide_eq_true hmay)] <;> rfl) ?_))
 refine BM (AE (AI (AC (AA (Ptr nb1 2) (AB 2 26 4 A3 rfl BN rfl rfl) rfl ?_))))
 refine AA (.agg #[I64 k, .slice ai ni ci, .slice sa ns sc, U64 bl]) (AL rfl (B1 CZ BN rfl (AY 0 rfl (CO (p := [U64 pv, U64 ep]) (q := cu8 tg) (vs := [I64 k, .slice ai ni ci, .slice sa ns sc, U64 bl]) (by first | rfl | (simp only [List.append_assoc, List.nil_append, List.append_nil, List.cons_append]; done)) rfl)))) rfl ?_
 refine BG (DF _ ([I64 0, .slice none 0 0, .slice none 0 0, U64 0]) Tryd.zeroValue26 (by kernel_rfl)) rfl ?_
 rintro v1 L1 ⟨nb2, hnb2, rfl, rfl⟩
 show JL _ _ _ _ ((5, Ptr nb2 0) :: _) [_, ⟨nb2, [I64 0, .slice none 0 0, .slice none 0 0, U64 0], 26, (0, 0)⟩]
 refine BS (C5 1 nb2 4 ([I64 0, .slice none 0 0, .slice none 0 0, U64 0]) 26 ([I64 k, .slice ai ni ci, .slice sa ns sc, U64 bl]) rfl rfl rfl BN rfl (by simp [Value.oneCell']) (Nat.le_of_ble_eq_true rfl) (DN (by simp []))) rfl ?_
 show JL _ _ _ _ _ [_, ⟨nb2, [I64 k, .slice ai ni ci, .slice sa ns sc, U64 bl], 26, (0, 0)⟩]
 refine AK (AE (AI (AC (AA (.agg #[.nilIface, .slice none 0 0]) (EN [] _ rfl (fun _ => by kernel_rfl)) rfl ?_))))
 refine BG (CE (.agg #[.nilIface, .slice none 0 0]) ([.nilIface, .slice none 0 0]) rfl (by first | rfl | simp)) rfl ?_
 rintro v1 L1 ⟨nb3, hnb3, rfl, rfl⟩
 show JL _ _ _ _ ((19, Ptr nb3 0) :: _) [_, _, ⟨nb3, [.nilIface, .slice none 0 0], 149, (0, 0)⟩]
 refine AA _ (AF rfl) rfl ?_
 refine AK (AE (AI (DC 75 4 [(0, Ptr nb3 0), (1, Ptr nb1 0), (2, U64 pv), (4, Ptr nb1 1), (5, U64 ep), (7, Ptr nb2 0), (8, I64 k), (9, U64 (UInt64.ofNat k))] B9 rfl (by decide +kernel) ?_)))
 refine CP ⟨[], [0, 1, 2, 4, 5, 7, 8, 9], [], [0, 1, 2, 4, 5, 7, 8, 9], [3]⟩ 3 _ rfl rfl (by decide +kernel) rfl ⟨CK rfl rfl rfl, ⟨_, rfl, AO rfl (AB 0 22 1 A3 rfl AP rfl rfl)⟩, ⟨_, rfl, AO rfl (AL rfl (AV AR (AY 0 rfl (AH (Seg.head)))))⟩, ⟨_, rfl, AO rfl (AB 1 22 1 A3 rfl AP rfl rfl)⟩, ⟨_, rfl, AO rfl (AL rfl (AV AR (AY 0 rfl (AH (AG (Seg.head))))))⟩, ⟨_, rfl, AO rfl (AB 0 3 1 A6 rfl AT rfl rfl)⟩, ⟨_, rfl, AO rfl (AL rfl (AV AX (AY 1 rfl (Seg.head))))⟩, ⟨_, rfl, AO rfl (DA _ _ rfl fun _ => D9 (by rw [BO]; rfl) BQ k _ (by omega))⟩, trivial⟩ rfl (BJ rfl (C6 81 _ [false, false, true] [nb3] _ (A5 [Ptr nb3 0, U64 pv, I64 8] C1 rfl) rfl (fun w1 hw1 => numN_c nb3 8 .nilIface pv 8 w1 (hw1.ent _ (List.mem_of_getElem? (i := 2) rfl)) (by unfold Szd; omega) (fun h => absurd h (by omega)) (by omega)))) ?_
 rintro v1 L1 ⟨_, ⟨rfl, nb4, sp1, cp1, rfl, hc1, hc2, hc3⟩, rfl⟩
 refine ⟨[], ?_⟩
 show DP _ _ _ _ _ _ _ _ [_, _, ⟨nb3, [.nilIface, Slc nb4 0 8 cp1], 149, (0, 0)⟩, ⟨nb4, cu8 (numK 8 pv 8) ++ sp1, 5, (0, 0)⟩]
 refine CP ⟨[3], [0, 1, 2, 4, 5, 7, 8, 9], [0, 1, 2], [4, 5, 7, 8, 9], [6]⟩ 6 _ rfl rfl (by decide +kernel) rfl ⟨⟨_, rfl, AO rfl (AB 1 22 1 A3 rfl AP rfl rfl)⟩, ⟨_, rfl, AO rfl (AL rfl (AV AR (AY 0 rfl (AH (AG (Seg.head))))))⟩, ⟨_, rfl, AO rfl (AB 0 3 1 A6 rfl AT rfl rfl)⟩, ⟨_, rfl, AO rfl (AL rfl (AV AX (AY 1 rfl (Seg.head))))⟩, ⟨_, rfl, AO rfl (DA _ _ rfl fun _ => D9 (by rw [BO]; rfl) BQ k _ (by omega))⟩, trivial⟩ rfl (BJ rfl (C6 81 _ [false, false, true, true] [nb3, nb4] _ (A5 [Ptr nb3 0, U64 ep, I64 8] C1 rfl) rfl (fun w1 hw1 => FA nb3 nb4 8 cp1 16 .nilIface (numK 8 pv 8) sp1 ep 8 w1 (hw1.ent _ (List.mem_of_getElem? (i := 2) rfl)) (hw1.ent _ (List.mem_of_getElem? (i := 3) rfl)) (hw1.ne (i := 2) (j := 3) rfl rfl (by decide)) (show (numK 8 pv 8).length = 8 from (BE _ _ _)) hc1 hc2 hc3 (by omega) (by unfold Szd; omega) (fun h => absurd h (by omega)) (by omega)))) ?_
 rintro v1 L1 ⟨_, ⟨rfl, nb5, sp2, cp2, rfl, hc4, hc5, hc6⟩, rfl⟩
 refine ⟨[], ?_⟩
 show DP _ _ _ _ _ _ _ _ [_, _, ⟨nb3, [.nilIface, Slc nb5 0 16 cp2], 149, (0, 0)⟩, ⟨nb5, cu8 ((numK 8 pv 8) ++ numK 8 ep 8) ++ sp2, 5, (0, 0)⟩]
 refine CP ⟨[3, 6], [0, 1, 2, 4, 5, 7, 8, 9], [0, 1, 2, 4, 5], [7, 8, 9], [10]⟩ 10 _ rfl rfl (by decide +kernel) rfl ⟨⟨_, rfl, AO rfl (AB 0 3 1 A6 rfl AT rfl rfl)⟩, ⟨_, rfl, AO rfl (AL rfl (AV AX (AY 1 rfl (Seg.head))))⟩, ⟨_, rfl, AO rfl (DA _ _ rfl fun _ => D9 (by rw [BO]; rfl) BQ k _ (by omega))⟩, trivial⟩ rfl (BJ rfl (C6 81 _ [false, false, true, true] [nb3, nb5] _ (A5 [Ptr nb3 0, U64 (UInt64.ofNat k), I64 1] C1 rfl) rfl (fun w1 hw1 => FA nb3 nb5 16 cp2 17 .nilIface ((numK 8 pv 8) ++ numK 8 ep 8) sp2 (UInt64.ofNat k) 1 w1 (hw1.ent _ (List.mem_of_getElem? (i := 2) rfl)) (hw1.ent _ (List.mem_of_getElem? (i := 3) rfl)) (hw1.ne (i := 2) (j := 3) rfl rfl (by decide)) (show ((numK 8 pv 8) ++ numK 8 ep 8).length = 16 from (by rw [List.length_append, (show (numK 8 pv 8).length = 8 from (BE _ _ _)), BE] <;> omega)) hc4 hc5 hc6 (by omega) (by unfold Szd; omega) (fun _ => shr8n (by omega)) (by omega)))) ?_
 rintro v1 L1 ⟨_, ⟨rfl, nb6, sp3, cp3, rfl, hc7, hc8, hc9⟩, rfl⟩
 refine ⟨[], ?_⟩
 show DP _ _ _ _ _ _ _ _ [_, _, ⟨nb3, [.nilIface, Slc nb6 0 17 cp3], 149, (0, 0)⟩, ⟨nb6, cu8 (((numK 8 pv 8) ++ numK 8 ep 8) ++ numK 1 (UInt64.ofNat k) 1) ++ sp3, 5, (0, 0)⟩]
 refine DK ⟨[3, 6, 10], [0, 1, 2, 4, 5, 7, 8, 9], [0, 1, 2, 4, 5, 7, 8, 9], [], []⟩ rfl rfl (by decide +kernel) rfl trivial ?_
 refine CY (F' := [(2, .slice none 0 0), (3, .nilIface), (5, Ptr nb2 0), (6, Ptr nb3 0)]) (by kernel_rfl) ?_
 refine AE (AI (AI (AC (AA (Ptr nb2 0) (AB 0 3 1 A6 rfl AT rfl rfl) rfl ?_))))
 refine AA (I64 k) (AL rfl (AV AX (AY 1 rfl (Seg.head)))) rfl ?_
 refine AA (.bool (decide (((k:Int)) = (3:Int)))) (AQ rfl rfl fun _ => A4 _ _) rfl ?_
 refine AK (AE (B5 _ rfl (decide_eq_true (by omega)) ?_))
 refine AI (AC (AA _ (AM rfl) rfl ?_))
 refine AA (Ptr nb2 3) (AB 3 22 1 A6 rfl AP rfl rfl) rfl ?_
 refine AA (U64 bl) (AL rfl (AV AR (AY 1 rfl (AG (AG (AG (Seg.head))))))) rfl ?_
 refine BG (C6 81 _ [false, false, true, true] [nb3, nb6] _ (A5 [Ptr nb3 0, U64 bl, I64 8] C1 rfl) rfl (fun w1 hw1 => FA nb3 nb6 17 cp3 25 .nilIface (((numK 8 pv 8) ++ numK 8 ep 8) ++ numK 1 (UInt64.ofNat k) 1) sp3 bl 8 w1 (hw1.ent _ (List.mem_of_getElem? (i := 2) rfl)) (hw1.ent _ (List.mem_of_getElem? (i := 3) rfl)) (hw1.ne (i := 2) (j := 3) rfl rfl (by decide)) (show (((numK 8 pv 8) ++ numK 8 ep 8) ++ numK 1 (UInt64.ofNat k) 1).length = 17 from (by rw [List.length_append, (show ((numK 8 pv 8) ++ numK 8 ep 8).length = 16 from (by rw [List.length_append, (show (numK 8 pv 8).length = 8 from (BE _ _ _)), BE] <;> omega)), BE] <;> omega)) hc7 hc8 hc9 (by omega) (by unfold Szd; omega) (fun h => absurd h (by omega)) (by omega))) rfl ?_
 rintro v1 L1 ⟨_, ⟨rfl, nb7, sp4, cp4, rfl, hc10, hc11, hc12⟩, rfl⟩
 show JL _ _ _ _ ((37, Ptr nb3 0) :: _) [_, _, ⟨nb3, [.nilIface, Slc nb7 0 25 cp4], 149, (0, 0)⟩, ⟨nb7, cu8 ((((numK 8 pv 8) ++ numK 8 ep 8) ++ numK 1 (UInt64.ofNat k) 1) ++ numK 8 bl 8) ++ sp4, 5, (0, 0)⟩]
 refine BG (BV 83 [Ptr nb3 0] _ (A5 _ Tryd.call83 rfl) (fun w1 hw1 => doneO_c nb3 0 nb7 25 cp4 ((((numK 8 pv 8) ++ numK 8 ep 8) ++ numK 1 (UInt64.ofNat k) 1) ++ numK 8 bl 8) w1 (RdA.of hw1 (AY 2 rfl (A1 _)) (by simp)) rfl (show ((((numK 8 pv 8) ++ numK 8 ep 8) ++ numK 1 (UInt64.ofNat k) 1) ++ numK 8 bl 8).length = 25 from (by rw [List.length_append, (show (((numK 8 pv 8) ++ numK 8 ep 8) ++ numK 1 (UInt64.ofNat k) 1).length = 17 from (by rw [List.length_append, (show ((numK 8 pv 8) ++ numK 8 ep 8).length = 16 from (by rw [List.length_append, (show (numK 8 pv 8).length = 8 from (BE _ _ _)), BE] <;> omega)), BE] <;> omega)), BE] <;> omega)) (by omega) (RdB.of hw1 (AY 3 rfl (AH (A1 _))) (by simp)))) rfl ?_
 rintro v1 L1 ⟨_, ⟨nb8, sp5, cp5, rfl, rfl, hc13, hc14, hc15⟩, rfl⟩
 show JL _ _ _ _ ((38, .tuple #[Slc nb8 0 25 cp5, .nilIface]) :: _) [_, _, _, _, ⟨nb8, cu8 ((((numK 8 pv 8) ++ numK 8 ep 8) ++ numK 1 (UInt64.ofNat k) 1) ++ numK 8 bl 8) ++ sp5, 5, (0, 0)⟩]
 refine AA _ (CC rfl rfl) rfl ?_
 refine AA _ (CC rfl rfl) rfl ?_
 refine AA _ (AF rfl) rfl ?_
 refine AA _ (AF rfl) rfl ?_
 refine AK (AE (BA (AU (BF [false, false, false, false, true] ?_))))
 show JQ _ _ _ _ [_]
 refine A9 (.tuple #[Slc nb8 0 25 cp5, .nilIface]) (res2 Tryd.results114 (A7 rfl) (A7 rfl)) fun w1 hw1 => ?_
 have hq : (((numK 8 pv 8) ++ numK 8 ep 8) ++ numK 1 (UInt64.ofNat k) 1) ++ numK 8 bl 8 = tktT pv ep k l ls bl := by
  unfold tktT
  rw [if_pos hk]
 rw [hq] at hw1
 exact ⟨_, _, rfl, ⟨nb8, sp5, cp5, rfl, rfl, hc13, hc14, hc15⟩, hw1.sub (by simp) (by simp)⟩
theorem text12_c (pv ep : UInt64) (k : Nat) (ai : Option Addr) (ni ci : Nat) (l : List UInt64) (sa : Option Addr) (ns sc : Nat) (ls : List SealR) (bl : UInt64) (tg : List UInt8) (tot : Nat)  (w : World) (hl : l.length = ni) (hnm : ni ≤ 2000000) (hnc : ni ≤ ci) (hcm : ci ≤ maxLen) (hv : RdV w ai (cu64 l)) (hls : ls.length = ns) (hnn : ns ≤ 2000000) (hnd : ns ≤ sc) (hcn : sc ≤ maxLen) (hs : RdV w sa (ls.flatMap sealC)) (htg : tg.length = 16) (hmay : mayN pv ep (k:Int) l ls bl = 0) (hk : k = 1 ∨ k = 2) (hsm : ns ≤ 300) (htot : 18 + 4*ni + 56*ns = tot)  : Calls Tryd.prog 114 #[.agg ([U64 pv, U64 ep, I64 k, .slice ai ni ci, .slice sa ns sc, U64 bl] ++ cu8 tg).toArray] w (Post w [] (fun v L => ∃ g sp cap, v = .tuple #[Slc g 0 tot cap, .nilIface] ∧ L = [⟨g, cu8 (tktT pv ep k l ls bl) ++ sp, 5, (0, 0)⟩] ∧ sp.length = cap - tot ∧ tot ≤ cap ∧ cap ≤ maxLen)) := by
 have hmx : maxLen = 9223372036854775807 := rfl
 have hRO := mayN_right hmay
 have hRI := RightO_idx hRO (by omega)
 have hRp := RightI_pos hRI
 rw [hl] at hRp
 refine enter (P := Tryd.prog) (f := 114) (fn := Tryd.f114) w [] 75 [] [.agg ([U64 pv, U64 ep, I64 k, .slice ai ni ci, .slice sa ns sc, U64 bl] ++ cu8 tg).toArray] Tryd.func114 rfl rfl (by simp) (B2 (by simp) (by simp) (by simp)) ?_
 show JC _ _ _ [(0, .agg ([U64 pv, U64 ep, I64 k, .slice ai ni ci, .slice sa ns sc, U64 bl] ++ cu8 tg).toArray)] _
 refine AI (AC (BG (CE (.agg ([U64 pv, U64 ep, I64 k, .slice ai ni ci, .slice sa ns sc, U64 bl] ++ cu8 tg).toArray) ([U64 pv, U64 ep, I64 k, .slice ai ni ci, .slice sa ns sc, U64 bl] ++ cu8 tg) rfl (by first | rfl | simp)) rfl ?_))
 rintro v1 L1 ⟨nb1, hnb1, rfl, rfl⟩
 show JL _ _ _ _ ((1, Ptr nb1 0) :: _) [⟨nb1, [U64 pv, U64 ep, I64 k, .slice ai ni ci, .slice sa ns sc, U64 bl] ++ cu8 tg, 29, (0, 0)⟩]
 refine AA _ (AF rfl) rfl ?_
 refine AA _ (AF rfl) rfl ?_
 refine AK (AE (AI (AI (AC (AA (.agg ([U64 pv, U64 ep, I64 k, .slice ai ni ci, .slice sa ns sc, U64 bl] ++ cu8 tg).toArray) (AL rfl (B1 D2 CN (by simp [htg]) (AY 0 rfl (A1 _)))) rfl ?_)))))
 refine BS (A2 128 [.agg ([U64 pv, U64 ep, I64 k, .slice ai ni ci, .slice sa ns sc, U64 bl] ++ cu8 tg).toArray] (errV 50 (mayN pv ep ((k:Int)) l ls bl)) (A5 _ Tryd.call128 rfl) (fun w1 hw1 => may13_c pv ep ((k:Int)) ai ni ci l sa ns sc ls bl tg w1 hl (by omega) (by omega) (by omega) (BP hw1 rfl hv) hls (by omega) (by omega) (by omega) (BP hw1 rfl hs) htg)) rfl ?_
 show JL _ _ _ _ ((12, errV 50 (mayN pv ep ((k:Int)) l ls bl)) :: _) [_]
 refine AA _ (AF rfl) rfl ?_
 refine AK (AE (AI (AC (AA _ (AM rfl) rfl ?_))))
 refine AA (.bool (!(decide (mayN pv ep ((k:Int)) l ls bl = 0)))) (D5 _ _ _ rfl rfl (fun _ => FB ..) fun _ => neq_errV CT _ _) rfl ?_
 refine AK (AE (BT _ rfl (by rw [show (decide (mayN pv ep ((k:Int)) l ls bl = 0)) = true from (decide_eq_true hmay)] <;> rfl) ?_))
 refine BM (AE (AI (AC (AA (Ptr nb1 2) (AB 2 26 4 A3 rfl BN rfl rfl) rfl ?_))))
 refine AA (.agg #[I64 k, .slice ai ni ci, .slice sa ns sc, U64 bl]) (AL rfl (B1 CZ BN rfl (AY 0 rfl (CO (p := [U64 pv, U64 ep]) (q := cu8 tg) (vs := [I64 k, .slice ai ni ci, .slice sa ns sc, U64 bl]) (by first | rfl | (simp only [List.append_assoc, List.nil_append, List.append_nil, List.cons_append]; done)) rfl)))) rfl ?_
 refine BG (DF _ ([I64 0, .slice none 0 0, .slice none 0 0, U64 0]) Tryd.zeroValue26 (by kernel_rfl)) rfl ?_
 rintro v1 L1 ⟨nb2, hnb2, rfl, rfl⟩
 show JL _ _ _ _ ((5, Ptr nb2 0) :: _) [_, ⟨nb2, [I64 0, .slice none 0 0, .slice none 0 0, U64 0], 26, (0, 0)⟩]
 refine BS (C5 1 nb2 4 ([I64 0, .slice none 0 0, .slice none 0 0, U64 0]) 26 ([I64 k, .slice ai ni ci, .slice sa ns sc, U64 bl]) rfl rfl rfl BN rfl (by simp [Value.oneCell']) (Nat.le_of_ble_eq_true rfl) (DN (by simp []))) rfl ?_
 show JL _ _ _ _ _ [_, ⟨nb2, [I64 k, .slice ai ni ci, .slice sa ns sc, U64 bl], 26, (0, 0)⟩]
 refine AK (AE (AI (AC (AA (.agg #[.nilIface, .slice none 0 0]) (EN [] _ rfl (fun _ => by kernel_rfl)) rfl ?_))))
 refine BG (CE (.agg #[.nilIface, .slice none 0 0]) ([.nilIface, .slice none 0 0]) rfl (by first | rfl | simp)) rfl ?_
 rintro v1 L1 ⟨nb3, hnb3, rfl, rfl⟩
 show JL _ _ _ _ ((19, Ptr nb3 0) :: _) [_, _, ⟨nb3, [.nilIface, .slice none 0 0], 149, (0, 0)⟩]
 refine AA _ (AF rfl) rfl ?_
 refine AK (AE (AI (DC 75 4 [(0, Ptr nb3 0), (1, Ptr nb1 0), (2, U64 pv), (4, Ptr nb1 1), (5, U64 ep), (7, Ptr nb2 0), (8, I64 k), (9, U64 (UInt64.ofNat k))] B9 rfl (by decide +kernel) ?_)))
 refine CP ⟨[], [0, 1, 2, 4, 5, 7, 8, 9], [], [0, 1, 2, 4, 5, 7, 8, 9], [3]⟩ 3 _ rfl rfl (by decide +kernel) rfl ⟨CK rfl rfl rfl, ⟨_, rfl, AO rfl (AB 0 22 1 A3 rfl AP rfl rfl)⟩, ⟨_, rfl, AO rfl (AL rfl (AV AR (AY 0 rfl (AH (Seg.head)))))⟩, ⟨_, rfl, AO rfl (AB 1 22 1 A3 rfl AP rfl rfl)⟩, ⟨_, rfl, AO rfl (AL rfl (AV AR (AY 0 rfl (AH (AG (Seg.head))))))⟩, ⟨_, rfl, AO rfl (AB 0 3 1 A6 rfl AT rfl rfl)⟩, ⟨_, rfl, AO rfl (AL rfl (AV AX (AY 1 rfl (Seg.head))))⟩, ⟨_, rfl, AO rfl (DA _ _ rfl fun _ => D9 (by rw [BO]; rfl) BQ k _ (by omega))⟩, trivial⟩ rfl (BJ rfl (C6 81 _ [false, false, true] [nb3] _ (A5 [Ptr nb3 0, U64 pv, I64 8] C1 rfl) rfl (fun w1 hw1 => numN_c nb3 8 .nilIface pv 8 w1 (hw1.ent _ (List.mem_of_getElem? (i := 2) rfl)) (by unfold Szd; omega) (fun h => absurd h (by omega)) (by omega)))) ?_
 rintro v1 L1 ⟨_, ⟨rfl, nb4, sp1, cp1, rfl, hc1, hc2, hc3⟩, rfl⟩
 refine ⟨[], ?_⟩
 show DP _ _ _ _ _ _ _ _ [_, _, ⟨nb3, [.nilIface, Slc nb4 0 8 cp1], 149, (0, 0)⟩, ⟨nb4, cu8 (numK 8 pv 8) ++ sp1, 5, (0, 0)⟩]
 refine CP ⟨[3], [0, 1, 2, 4, 5, 7, 8, 9], [0, 1, 2], [4, 5, 7, 8, 9], [6]⟩ 6 _ rfl rfl (by decide +kernel) rfl ⟨⟨_, rfl, AO rfl (AB 1 22 1 A3 rfl AP rfl rfl)⟩, ⟨_, rfl, AO rfl (AL rfl (AV AR (AY 0 rfl (AH (AG (Seg.head))))))⟩, ⟨_, rfl, AO rfl (AB 0 3 1 A6 rfl AT rfl rfl)⟩, ⟨_, rfl, AO rfl (AL rfl (AV AX (AY 1 rfl (Seg.head))))⟩, ⟨_, rfl, AO rfl (DA _ _ rfl fun _ => D9 (by rw [BO]; rfl) BQ k _ (by omega))⟩, trivial⟩ rfl (BJ rfl (C6 81 _ [false, false, true, true] [nb3, nb4] _ (A5 [Ptr nb3 0, U64 ep, I64 8] C1 rfl) rfl (fun w1 hw1 => FA nb3 nb4 8 cp1 16 .nilIface (numK 8 pv 8) sp1 ep 8 w1 (hw1.ent _ (List.mem_of_getElem? (i := 2) rfl)) (hw1.ent _ (List.mem_of_getElem? (i := 3) rfl)) (hw1.ne (i := 2) (j := 3) rfl rfl (by decide)) (show (numK 8 pv 8).length = 8 from (BE _ _ _)) hc1 hc2 hc3 (by omega) (by unfold Szd; omega) (fun h => absurd h (by omega)) (by omega)))) ?_
 rintro v1 L1 ⟨_, ⟨rfl, nb5, sp2, cp2, rfl, hc4, hc5, hc6⟩, rfl⟩
 refine ⟨[], ?_⟩
 show DP _ _ _ _ _ _ _ _ [_, _, ⟨nb3, [.nilIface, Slc nb5 0 16 cp2], 149, (0, 0)⟩, ⟨nb5, cu8 ((numK 8 pv 8) ++ numK 8 ep 8) ++ sp2, 5, (0, 0)⟩]
 refine CP ⟨[3, 6], [0, 1, 2, 4, 5, 7, 8, 9], [0, 1, 2, 4, 5], [7, 8, 9], [10]⟩ 10 _ rfl rfl (by decide +kernel) rfl ⟨⟨_, rfl, AO rfl (AB 0 3 1 A6 rfl AT rfl rfl)⟩, ⟨_, rfl, AO rfl (AL rfl (AV AX (AY 1 rfl (Seg.head))))⟩, ⟨_, rfl, AO rfl (DA _ _ rfl fun _ => D9 (by rw [BO]; rfl) BQ k _ (by omega))⟩, trivial⟩ rfl (BJ rfl (C6 81 _ [false, false, true, true] [nb3, nb5] _ (A5 [Ptr nb3 0, U64 (UInt64.ofNat k), I64 1] C1 rfl) rfl (fun w1 hw1 => FA nb3 nb5 16 cp2 17 .nilIface ((numK 8 pv 8) ++ numK 8 ep 8) sp2 (UInt64.ofNat k) 1 w1 (hw1.ent _ (List.mem_of_getElem? (i := 2) rfl)) (hw1.ent _ (List.mem_of_getElem? (i := 3) rfl)) (hw1.ne (i := 2) (j := 3) rfl rfl (by decide)) (show ((numK 8 pv 8) ++ numK 8 ep 8).length = 16 from (by rw [List.length_append, (show (numK 8 pv 8).length = 8 from (BE _ _ _)), BE] <;> omega)) hc4 hc5 hc6 (by omega) (by unfold Szd; omega) (fun _ => shr8n (by omega)) (by omega)))) ?_
 rintro v1 L1 ⟨_, ⟨rfl, nb6, sp3, cp3, rfl, hc7, hc8, hc9⟩, rfl⟩
 refine ⟨[], ?_⟩
 show DP _ _ _ _ _ _ _ _ [_, _, ⟨nb3, [.nilIface, Slc nb6 0 17 cp3], 149, (0, 0)⟩, ⟨nb6, cu8 (((numK 8 pv 8) ++ numK 8 ep 8) ++ numK 1 (UInt64.ofNat k) 1) ++ sp3, 5, (0, 0)⟩]
 refine DK ⟨[3, 6, 10], [0, 1, 2, 4, 5, 7, 8, 9], [0, 1, 2, 4, 5, 7, 8, 9], [], []⟩ rfl rfl (by decide +kernel) rfl trivial ?_
 refine CY (F' := [(2, .slice none 0 0), (3, .nilIface), (5, Ptr nb2 0), (6, Ptr nb3 0)]) (by kernel_rfl) ?_
 refine AE (AI (AI (AC (AA (Ptr nb2 0) (AB 0 3 1 A6 rfl AT rfl rfl) rfl ?_))))
 refine AA (I64 k) (AL rfl (AV AX (AY 1 rfl (Seg.head)))) rfl ?_
 refine AA (.bool (decide (((k:Int)) = (3:Int)))) (AQ rfl rfl fun _ => A4 _ _) rfl ?_
 refine AK (AE (BT _ rfl (decide_eq_false (by omega)) ?_))
 refine BM (AE (AI (AC (AA _ (AM rfl) rfl ?_))))
 refine AA (Ptr nb2 1) (AB 1 23 1 A6 rfl BI rfl rfl) rfl ?_
 refine AA (.slice ai ni ci) (AL rfl (AV BL (AY 1 rfl (AG (Seg.head))))) rfl ?_
 refine AA (I64 ni) (C9 A8 rfl) rfl ?_
 refine AA (I64 ((ni:Int) - 1)) (AQ rfl rfl fun _ => DL _ _ ((ni:Int) - 1) (by omega) (by omega)) rfl ?_
 refine AA (U64 (UInt64.ofNat (ni - 1))) (DA _ _ rfl fun _ => D9 (by rw [BO]; rfl) BQ (ni - 1) _ (by omega)) rfl ?_
 refine BG (C6 81 _ [false, false, true, true] [nb3, nb6] _ (A5 [Ptr nb3 0, U64 (UInt64.ofNat (ni - 1)), I64 1] C1 rfl) rfl (fun w1 hw1 => FA nb3 nb6 17 cp3 18 .nilIface (((numK 8 pv 8) ++ numK 8 ep 8) ++ numK 1 (UInt64.ofNat k) 1) sp3 (UInt64.ofNat (ni - 1)) 1 w1 (hw1.ent _ (List.mem_of_getElem? (i := 2) rfl)) (hw1.ent _ (List.mem_of_getElem? (i := 3) rfl)) (hw1.ne (i := 2) (j := 3) rfl rfl (by decide)) (show (((numK 8 pv 8) ++ numK 8 ep 8) ++ numK 1 (UInt64.ofNat k) 1).length = 17 from (by rw [List.length_append, (show ((numK 8 pv 8) ++ numK 8 ep 8).length = 16 from (by rw [List.length_append, (show (numK 8 pv 8).length = 8 from (BE _ _ _)), BE] <;> omega)), BE] <;> omega)) hc7 hc8 hc9 (by omega) (by unfold Szd; omega) (fun _ => shr8n (by omega)) (by omega))) rfl ?_
 rintro v1 L1 ⟨_, ⟨rfl, nb7, sp4, cp4, rfl, hc10, hc11, hc12⟩, rfl⟩
 show JL _ _ _ _ ((47, Ptr nb3 0) :: _) [_, _, ⟨nb3, [.nilIface, Slc nb7 0 18 cp4], 149, (0, 0)⟩, ⟨nb7, cu8 ((((numK 8 pv 8) ++ numK 8 ep 8) ++ numK 1 (UInt64.ofNat k) 1) ++ numK 1 (UInt64.ofNat (ni - 1)) 1) ++ sp4, 5, (0, 0)⟩]
 refine AK (AE (AI (AI (AC (AA (Ptr nb2 1) (AB 1 23 1 A6 rfl BI rfl rfl) rfl ?_)))))
 refine AA (.slice ai ni ci) (AL rfl (AV BL (AY 1 rfl (AG (Seg.head))))) rfl ?_
 refine AA (I64 ni) (C9 A8 rfl) rfl ?_
 refine AA _ (AM rfl) rfl ?_
 refine AK (AE (BY ?_))
 skip
 refine BF [false, true, true, true] ?_
 show JC _ _ _ _ [_, _, _]
 refine EG (ι := Nat × List UInt8 × Nat × List Value × Nat) (fun ⟨i, oqi, gqi, spqi, cpqi⟩ => [(2, .slice none 0 0), (3, .nilIface), (5, Ptr nb2 0), (6, Ptr nb3 0), (49, .slice ai ni ci), (50, I64 ni), (51, I64 i)]) (fun ⟨i, oqi, gqi, spqi, cpqi⟩ => [⟨nb2, [I64 k, .slice ai ni ci, .slice sa ns sc, U64 bl], 26, (0, 0)⟩, ⟨nb3, [.nilIface, Slc gqi 0 (4*i + 18) cpqi], 149, (0, 0)⟩, ⟨gqi, cu8 oqi ++ spqi, 5, (0, 0)⟩]) (fun ⟨i, oqi, gqi, spqi, cpqi⟩ => i ≤ ni ∧ oqi = (((numK 8 pv 8 ++ numK 8 ep 8) ++ numK 1 (UInt64.ofNat k) 1) ++ numK 1 (UInt64.ofNat (ni - 1)) 1) ++ idxT l i ∧ oqi.length = (4*i + 18) ∧ spqi.length = cpqi - ((4*i + 18)) ∧ (4*i + 18) ≤ cpqi ∧ cpqi ≤ maxLen) (fun ⟨i, oqi, gqi, spqi, cpqi⟩ => ni - i) (0, (((numK 8 pv 8) ++ numK 8 ep 8) ++ numK 1 (UInt64.ofNat k) 1) ++ numK 1 (UInt64.ofNat (ni - 1)) 1, nb7, sp4, cp4) ⟨by omega, by rw [idxT_zero, List.append_nil], (by have h := (show ((((numK 8 pv 8) ++ numK 8 ep 8) ++ numK 1 (UInt64.ofNat k) 1) ++ numK 1 (UInt64.ofNat (ni - 1)) 1).length = 18 from (by rw [List.length_append, (show (((numK 8 pv 8) ++ numK 8 ep 8) ++ numK 1 (UInt64.ofNat k) 1).length = 17 from (by rw [List.length_append, (show ((numK 8 pv 8) ++ numK 8 ep 8).length = 16 from (by rw [List.length_append, (show (numK 8 pv 8).length = 8 from (BE _ _ _)), BE] <;> omega)), BE] <;> omega)), BE] <;> omega)); omega), (by have h := hc10; omega), by omega, by omega⟩ (Sub.all rfl) (by first | rfl | (simp; done)) ?_
 rintro ⟨i, oqi, gqi, spqi, cpqi⟩ ⟨hi1, hi2, hi3, hi4, hi5, hi6⟩
 show JC _ _ _ [(2, .slice none 0 0), (3, .nilIface), (5, Ptr nb2 0), (6, Ptr nb3 0), (49, .slice ai ni ci), (50, I64 ni), (51, I64 i)] [⟨nb2, [I64 k, .slice ai ni ci, .slice sa ns sc, U64 bl], 26, (0, 0)⟩, ⟨nb3, [.nilIface, Slc gqi 0 (4*i + 18) cpqi], 149, (0, 0)⟩, ⟨gqi, cu8 oqi ++ spqi, 5, (0, 0)⟩]
 refine AI (AC (AA (.bool (decide (((i:Int)) < ((ni:Int))))) (AQ rfl rfl fun _ => CX _ _) rfl ?_))
 refine AK (AE (AI (BZ (decide (((i:Int)) < ((ni:Int)))) rfl (fun hb1 => ?_) (fun hb1 => ?_))))
 ·
  have hp1 : ((i:Int)) < ((ni:Int)) := of_decide_eq_true hb1
  refine BM (AE (AI (BY (AI (AC ?_)))))
  obtain ⟨bz1, oz1, hz1, hm1⟩ := RdV.pos hv (by rw [EB, hl]; omega)
  refine AA (Ptr bz1 (i + oz1)) (CU 22 1 (i + oz1) A8 AP rfl hz1 rfl (by omega) (by omega) (by omega)) rfl ?_
  refine AA (U64 (g64 l i)) (AL rfl (AV AR (C3 (hm1.mem (by simp)) (Seg.get (E4 (i := i) (by rw [hl]; omega))) (by omega)))) rfl ?_
  refine AA _ (AF rfl) rfl ?_
  refine AK (AE (AC (AA _ (AM rfl) rfl ?_)))
  refine AA _ (AM rfl) rfl ?_
  refine BG (C6 81 _ [false, true, true] [nb3, gqi] _ (A5 [Ptr nb3 0, U64 (g64 l i), I64 4] C1 rfl) rfl (fun w1 hw1 => FA nb3 gqi (4*i + 18) cpqi (4*i + 22) .nilIface oqi spqi (g64 l i) 4 w1 (hw1.ent _ (List.mem_of_getElem? (i := 1) rfl)) (hw1.ent _ (List.mem_of_getElem? (i := 2) rfl)) (hw1.ne (i := 1) (j := 2) rfl rfl (by decide)) hi3 hi4 hi5 hi6 (by omega) (by unfold Szd; omega) (fun _ => idx_fit hRI (by omega)) (by omega))) rfl ?_
  rintro v1 L1 ⟨_, ⟨rfl, nb8, sp5, cp5, rfl, hc13, hc14, hc15⟩, rfl⟩
  show JL _ _ _ _ ((57, Ptr nb3 0) :: _) [_, ⟨nb3, [.nilIface, Slc nb8 0 (4*i + 22) cp5], 149, (0, 0)⟩, ⟨nb8, cu8 (oqi ++ numK 4 (g64 l i) 4) ++ sp5, 5, (0, 0)⟩]
  refine AK (BR (AE (AC (AA (I64 ((i:Int) + 1)) (AQ rfl rfl fun _ => DV _ _ ((i:Int) + 1) (by omega) (by omega)) rfl ?_))))
  refine AA _ (AM rfl) rfl ?_
  refine AK (DU (EM (i + 1, oqi ++ numK 4 (g64 l i) 4, nb8, sp5, cp5) ⟨by omega, by rw [hi2, idxT_succ, List.append_assoc], (by have h := (show (oqi ++ numK 4 (g64 l i) 4).length = (4*i + 22) from (by rw [List.length_append, hi3, BE] <;> omega)); omega), (by have h := hc13; omega), by omega, by omega⟩ (by first | (simp; omega) | simp | (dsimp only; omega) | omega) (Sub.all rfl) (by first | rfl | rw [show (4*i + 22) = (4*(i + 1) + 18) by omega])))
 ·
  have hp1 : ¬ (((i:Int)) < ((ni:Int))) := of_decide_eq_false hb1
  refine EH (BX (BX (DH (AE (AI (AI (AC (AA (Ptr nb2 2) (AB 2 24 1 A6 rfl DQ rfl rfl) rfl ?_))))))))
  refine AA (.slice sa ns sc) (AL rfl (AV DX (AY 0 rfl (AG (AG (Seg.head)))))) rfl ?_
  refine AA (I64 ns) (C9 CH rfl) rfl ?_
  refine AA _ (AM rfl) rfl ?_
  refine AK (AE (BY ?_))
  have ei : ni = i := by omega
  subst ei
  show JC _ _ _ _ [⟨nb2, [I64 k, .slice ai ni ci, .slice sa ns sc, U64 bl], 26, (0, 0)⟩, ⟨nb3, [.nilIface, Slc gqi 0 (4*ni + 18) cpqi], 149, (0, 0)⟩, ⟨gqi, cu8 oqi ++ spqi, 5, (0, 0)⟩]
  refine BF [false, true, true] ?_
  show JC _ _ _ _ [_, _]
  refine EG (ι := Nat × List UInt8 × Nat × List Value × Nat) (fun ⟨j, oqj, gqj, spqj, cpqj⟩ => [(2, .slice none 0 0), (3, .nilIface), (6, Ptr nb3 0), (60, .slice sa ns sc), (61, I64 ns), (62, I64 j)]) (fun ⟨j, oqj, gqj, spqj, cpqj⟩ => [⟨nb3, [.nilIface, Slc gqj 0 (56*j + 4*ni + 18) cpqj], 149, (0, 0)⟩, ⟨gqj, cu8 oqj ++ spqj, 5, (0, 0)⟩]) (fun ⟨j, oqj, gqj, spqj, cpqj⟩ => j ≤ ns ∧ oqj = ((((numK 8 pv 8 ++ numK 8 ep 8) ++ numK 1 (UInt64.ofNat k) 1) ++ numK 1 (UInt64.ofNat (ni - 1)) 1) ++ idxT l ni) ++ selT (ls.take j) ∧ oqj.length = (56*j + 4*ni + 18) ∧ spqj.length = cpqj - ((56*j + 4*ni + 18)) ∧ (56*j + 4*ni + 18) ≤ cpqj ∧ cpqj ≤ maxLen) (fun ⟨j, oqj, gqj, spqj, cpqj⟩ => ns - j) (0, oqi, gqi, spqi, cpqi) ⟨by omega, by rw [hi2]; simp [selT_nil], (by have h := hi3; omega), (by have h := hi4; omega), by omega, by omega⟩ (Sub.all rfl) (by first | rfl | (simp; done)) ?_
  rintro ⟨j, oqj, gqj, spqj, cpqj⟩ ⟨hj1, hj2, hj3, hj4, hj5, hj6⟩
  show JC _ _ _ [(2, .slice none 0 0), (3, .nilIface), (6, Ptr nb3 0), (60, .slice sa ns sc), (61, I64 ns), (62, I64 j)] [⟨nb3, [.nilIface, Slc gqj 0 (56*j + 4*ni + 18) cpqj], 149, (0, 0)⟩, ⟨gqj, cu8 oqj ++ spqj, 5, (0, 0)⟩]
  refine AI (AC (AA (.bool (decide (((j:Int)) < ((ns:Int))))) (AQ rfl rfl fun _ => CX _ _) rfl ?_))
  refine AK (AE (AI (BZ (decide (((j:Int)) < ((ns:Int)))) rfl (fun hb2 => ?_) (fun hb2 => ?_))))
  ·
   have hp2 : ((j:Int)) < ((ns:Int)) := of_decide_eq_true hb2
   refine BM (AE (AI (BY (AI (AC ?_)))))
   obtain ⟨x1, hx1⟩ : ∃ x, ls[j]? = some x := ⟨_, List.getElem?_eq_getElem (by rw [hls]; omega)⟩
   obtain ⟨bz2, oz2, hz2, hm2⟩ := FC EC (by decide) hs hx1
   refine AA (Ptr bz2 (49*j + oz2)) (CU 161 49 (49*j + oz2) CH C0 rfl hz2 rfl (by omega) (by omega) (by omega)) rfl ?_
   refine AA (.agg ([U64 x1.e] ++ cu8 x1.d ++ cu8 x1.t).toArray) (AL rfl (B1 Tryd.isAgg161 C0 (by simp [x1.hd, x1.ht]) (C3 (hm2.mem (by simp)) (A1 _) (by omega)))) rfl ?_
   refine BG (DF _ ([U64 0] ++ cu8 (zr8 32) ++ cu8 (zr8 16)) Tryd.zeroValue161 (by kernel_rfl)) rfl ?_
   rintro v1 L1 ⟨nb9, hnb9, rfl, rfl⟩
   show JL _ _ _ _ ((10, Ptr nb9 0) :: _) [_, _, ⟨nb9, [U64 0] ++ cu8 (zr8 32) ++ cu8 (zr8 16), 161, (0, 0)⟩]
   refine BS (C5 2 nb9 49 ([U64 0] ++ cu8 (zr8 32) ++ cu8 (zr8 16)) 161 ([U64 x1.e] ++ cu8 x1.d ++ cu8 x1.t) rfl rfl rfl C0 (by simp [x1.hd, x1.ht]) (D4 (D4 (by simp [Value.oneCell']) EZ) EZ) (by simp [(CL 32), (CL 16)]) (DN (by simp [(CL 32), (CL 16), x1.hd, x1.ht]))) rfl ?_
   show JL _ _ _ _ _ [_, _, ⟨nb9, [U64 x1.e] ++ cu8 x1.d ++ cu8 x1.t, 161, (0, 0)⟩]
   refine AK (AE (AC (AA _ (AM rfl) rfl ?_)))
   refine AA (.agg ([U64 x1.e] ++ cu8 x1.d ++ cu8 x1.t).toArray) (AL rfl (B1 Tryd.isAgg161 C0 (by simp [x1.hd, x1.ht]) (AY 2 rfl (A1 _)))) rfl ?_
   refine BG (BV 97 [.agg ([U64 x1.e] ++ cu8 x1.d ++ cu8 x1.t).toArray] _ (A5 _ Tryd.call97 rfl) (fun w1 hw1 => put7_c x1.e x1.d x1.t w1 x1.hd x1.ht)) rfl ?_
   rintro v1 L1 ⟨_, ⟨nb10, sp6, cp6, rfl, rfl, hc16, hc17, hc18⟩, rfl⟩
   show JL _ _ _ _ ((68, Slc nb10 0 56 cp6) :: _) [_, _, _, ⟨nb10, cu8 (putL x1.e x1.d x1.t) ++ sp6, 5, (0, 0)⟩]
   refine BG (C6 82 _ [true, true, false, false] [nb3, gqj] _ (A5 [Ptr nb3 0, Slc nb10 0 56 cp6] Tryd.call82 rfl) rfl (fun w1 hw1 => rawO_c nb3 gqj (56*j + 4*ni + 18) cpqj (56*j + 4*ni + 74) .nilIface oqj spqj (some ⟨nb10, 0, none⟩) 56 cp6 (putL x1.e x1.d x1.t) w1 (hw1.ent _ (List.mem_of_getElem? (i := 0) rfl)) (hw1.ent _ (List.mem_of_getElem? (i := 1) rfl)) (hw1.ne (i := 0) (j := 1) rfl rfl (by decide)) hj3 hj4 hj5 hj6 (by omega) (show (putL x1.e x1.d x1.t).length = 56 from (putL_len x1.hd x1.ht)) (by omega) (RdB.of hw1 (AY 3 rfl (AH (A1 _))) (by intro _; simp only [List.mem_cons, List.not_mem_nil, or_false, not_or]; exact ⟨hw1.ne (i := 3) (j := 0) rfl rfl (by decide), hw1.ne (i := 3) (j := 1) rfl rfl (by decide)⟩)) (by omega))) rfl ?_
   rintro v1 L1 ⟨_, ⟨rfl, nb11, sp7, cp7, rfl, hc19, hc20, hc21⟩, rfl⟩
   show JL _ _ _ _ ((69, Ptr nb3 0) :: _) [_, _, ⟨nb3, [.nilIface, Slc nb11 0 (56*j + 4*ni + 74) cp7], 149, (0, 0)⟩, ⟨nb11, cu8 (oqj ++ (putL x1.e x1.d x1.t)) ++ sp7, 5, (0, 0)⟩]
   refine AK (BR (AE (AC (AA (I64 ((j:Int) + 1)) (AQ rfl rfl fun _ => DV _ _ ((j:Int) + 1) (by omega) (by omega)) rfl ?_))))
   refine AA _ (AM rfl) rfl ?_
   refine AK (DU (BF [false, false, true, true] ?_))
   show K _ _ [_, _] _
   refine EM (j + 1, oqj ++ (putL x1.e x1.d x1.t), nb11, sp7, cp7) ⟨by omega, by rw [hj2, ← take_step hx1, selT_app, List.append_assoc], (by have h := (show (oqj ++ (putL x1.e x1.d x1.t)).length = (56*j + 4*ni + 74) from (by rw [List.length_append, hj3, (show (putL x1.e x1.d x1.t).length = 56 from (putL_len x1.hd x1.ht))] <;> omega)); omega), (by have h := hc19; omega), by omega, by omega⟩ (by first | (simp; omega) | simp | (dsimp only; omega) | omega) (Sub.all rfl) (by first | rfl | rw [show (56*j + 4*ni + 74) = (56*(j + 1) + 4*ni + 18) by omega])
  ·
   have hp2 : ¬ (((j:Int)) < ((ns:Int))) := of_decide_eq_false hb2
   refine EH (BX (BX (DH (AE (AI (AC (AA _ (AM rfl) rfl ?_)))))))
   refine BG (BV 83 [Ptr nb3 0] _ (A5 _ Tryd.call83 rfl) (fun w1 hw1 => doneO_c nb3 0 gqj (56*j + 4*ni + 18) cpqj oqj w1 (RdA.of hw1 (AY 0 rfl (A1 _)) (by simp)) rfl hj3 (by omega) (RdB.of hw1 (AY 1 rfl (AH (A1 _))) (by simp)))) rfl ?_
   rintro v1 L1 ⟨_, ⟨nb12, sp8, cp8, rfl, rfl, hc22, hc23, hc24⟩, rfl⟩
   show JL _ _ _ _ ((72, .tuple #[Slc nb12 0 (56*j + 4*ni + 18) cp8, .nilIface]) :: _) [_, _, ⟨nb12, cu8 oqj ++ sp8, 5, (0, 0)⟩]
   refine AA _ (CC rfl rfl) rfl ?_
   refine AA _ (CC rfl rfl) rfl ?_
   refine AA _ (AF rfl) rfl ?_
   refine AA _ (AF rfl) rfl ?_
   refine AK (AE (BA (BF [false, false, true] ?_)))
   show JQ _ _ _ _ [_]
   refine A9 (.tuple #[Slc nb12 0 (56*j + 4*ni + 18) cp8, .nilIface]) (res2 Tryd.results114 (A7 rfl) (A7 rfl)) fun w1 hw1 => ?_
   obtain rfl : j = ns := by omega
   have hq : oqj = tktT pv ep k l ls bl := by
    unfold tktT
    rw [if_neg (by omega), hl, hj2, List.take_of_length_le (by omega)]
   rw [hq] at hw1
   obtain rfl : tot = (56*j + 4*ni + 18) := by omega
   exact ⟨_, _, rfl, ⟨nb12, sp8, cp8, rfl, rfl, hc22, hc23, hc24⟩, hw1.sub (by simp) (by simp)⟩
attribute [local irreducible] tktT mayN idxT selT
theorem text_w (pv ep : UInt64) (k : Nat) (ai : Option Addr) (ni ci : Nat) (l : List UInt64) (sa : Option Addr) (ns sc : Nat) (ls : List SealR) (bl : UInt64) (tg : List UInt8) (tot : Nat) (w : World) (hl : l.length = ni) (hnm : ni ≤ 2000000) (hnc : ni ≤ ci) (hcm : ci ≤ maxLen) (hv : RdV w ai (cu64 l)) (hls : ls.length = ns) (hnn : ns ≤ 2000000) (hnd : ns ≤ sc) (hcn : sc ≤ maxLen) (hs : RdV w sa (ls.flatMap sealC)) (htg : tg.length = 16) (hmay : mayN pv ep (k:Int) l ls bl = 0) (hk : k = 1 ∨ k = 2 ∨ k = 3) (hsm : ns ≤ 300) (htot : tktN k ni ns = tot) : Calls Tryd.prog 114 #[.agg ([U64 pv, U64 ep, I64 k, .slice ai ni ci, .slice sa ns sc, U64 bl] ++ cu8 tg).toArray] w (Post w [] (fun v L => ∃ g sp cap, v = .tuple #[Slc g 0 tot cap, .nilIface] ∧ L = [⟨g, cu8 (tktT pv ep k l ls bl) ++ sp, 5, (0, 0)⟩] ∧ sp.length = cap - tot ∧ tot ≤ cap ∧ cap ≤ maxLen)) := by
  by_cases h3 : k = 3
  · have e : tot = 25 := by rw [← htot]; unfold tktN; rw [if_pos h3]
    subst e
    exact text3_c pv ep k ai ni ci l sa ns sc ls bl tg w hl hnm hnc hcm hv hls hnn hnd hcn hs htg hmay h3
  · exact text12_c pv ep k ai ni ci l sa ns sc ls bl tg tot w hl hnm hnc hcm hv hls hnn hnd hcn hs htg hmay (by omega) hsm (by rw [← htot]; unfold tktN; rw [if_neg h3])
theorem textB_c (pv ep : UInt64) (kd : Int) (ai : Option Addr) (ni ci : Nat) (l : List UInt64) (sa : Option Addr) (ns sc : Nat) (ls : List SealR) (bl : UInt64) (tg : List UInt8)  (w : World) (hl : l.length = ni) (hnm : ni ≤ 2000000) (hnc : ni ≤ ci) (hcm : ci ≤ maxLen) (hv : RdV w ai (cu64 l)) (hls : ls.length = ns) (hnn : ns ≤ 2000000) (hnd : ns ≤ sc) (hcn : sc ≤ maxLen) (hs : RdV w sa (ls.flatMap sealC)) (htg : tg.length = 16) (hm : mayN pv ep kd l ls bl ≠ 0)  : Calls Tryd.prog 114 #[.agg ([U64 pv, U64 ep, I64 (kd), .slice ai ni ci, .slice sa ns sc, U64 bl] ++ cu8 tg).toArray] w (Post w [] (fun v L => v = .tuple #[.slice none 0 0, errV 50 (mayN pv ep kd l ls bl)] ∧ L = [])) := by
 have hmx : maxLen = 9223372036854775807 := rfl
 refine enter (P := Tryd.prog) (f := 114) (fn := Tryd.f114) w [] 75 [] [.agg ([U64 pv, U64 ep, I64 (kd), .slice ai ni ci, .slice sa ns sc, U64 bl] ++ cu8 tg).toArray] Tryd.func114 rfl rfl (by simp) (B2 (by simp) (by simp) (by simp)) ?_
 show JC _ _ _ [(0, .agg ([U64 pv, U64 ep, I64 (kd), .slice ai ni ci, .slice sa ns sc, U64 bl] ++ cu8 tg).toArray)] _
 refine AI (AC (BG (CE (.agg ([U64 pv, U64 ep, I64 (kd), .slice ai ni ci, .slice sa ns sc, U64 bl] ++ cu8 tg).toArray) ([U64 pv, U64 ep, I64 (kd), .slice ai ni ci, .slice sa ns sc, U64 bl] ++ cu8 tg) rfl (by first | rfl | simp)) rfl ?_))
 rintro v1 L1 ⟨nb1, hnb1, rfl, rfl⟩
 show JL _ _ _ _ ((1, Ptr nb1 0) :: _) [⟨nb1, [U64 pv, U64 ep, I64 (kd), .slice ai ni ci, .slice sa ns sc, U64 bl] ++ cu8 tg, 29, (0, 0)⟩]
 refine AA _ (AF rfl) rfl ?_
 refine AA _ (AF rfl) rfl ?_
 refine AK (AE (AI (AI (AC (AA (.agg ([U64 pv, U64 ep, I64 (kd), .slice ai ni ci, .slice sa ns sc, U64 bl] ++ cu8 tg).toArray) (AL rfl (B1 D2 CN (by simp [htg]) (AY 0 rfl (A1 _)))) rfl ?_)))))
 refine BS (A2 128 [.agg ([U64 pv, U64 ep, I64 (kd), .slice ai ni ci, .slice sa ns sc, U64 bl] ++ cu8 tg).toArray] (errV 50 (mayN pv ep (kd) l ls bl)) (A5 _ Tryd.call128 rfl) (fun w1 hw1 => may13_c pv ep (kd) ai ni ci l sa ns sc ls bl tg w1 hl (by omega) (by omega) (by omega) (BP hw1 rfl hv) hls (by omega) (by omega) (by omega) (BP hw1 rfl hs) htg)) rfl ?_
 show JL _ _ _ _ ((12, errV 50 (mayN pv ep (kd) l ls bl)) :: _) [_]
 refine AA _ (AF rfl) rfl ?_
 refine AK (AE (AI (AC (AA _ (AM rfl) rfl ?_))))
 refine AA (.bool (!(decide (mayN pv ep (kd) l ls bl = 0)))) (D5 _ _ _ rfl rfl (fun _ => FB ..) fun _ => neq_errV CT _ _) rfl ?_
 refine AK (AE (B5 _ rfl (by rw [show (decide (mayN pv ep (kd) l ls bl = 0)) = false from (decide_eq_false hm)] <;> rfl) ?_))
 refine AI (AC (AA _ (AM rfl) rfl ?_))
 refine AA _ (AF rfl) rfl ?_
 refine AA _ (AF rfl) rfl ?_
 refine AK (AE (BA (AU (BF [false] ?_))))
 show JQ _ _ _ _ []
 refine A9 (.tuple #[.slice none 0 0, errV 50 (mayN pv ep (kd) l ls bl)]) (res2 Tryd.results114 (A7 rfl) (A7 rfl)) fun w1 hw1 => ?_
 exact ⟨_, [], rfl, ⟨rfl, rfl⟩, hw1.sub (by simp) (by simp)⟩
theorem put13_c (pv ep : UInt64) (k : Nat) (ai : Option Addr) (ni ci : Nat) (l : List UInt64) (sa : Option Addr) (ns sc : Nat) (ls : List SealR) (bl : UInt64) (tg : List UInt8) (tot : Nat)  (w : World) (hl : l.length = ni) (hnm : ni ≤ 2000000) (hnc : ni ≤ ci) (hcm : ci ≤ maxLen) (hv : RdV w ai (cu64 l)) (hls : ls.length = ns) (hnn : ns ≤ 2000000) (hnd : ns ≤ sc) (hcn : sc ≤ maxLen) (hs : RdV w sa (ls.flatMap sealC)) (htg : tg.length = 16) (hmay : mayN pv ep (k:Int) l ls bl = 0) (hk : k = 1 ∨ k = 2 ∨ k = 3) (hsm : ns ≤ 300) (htot : tktN k ni ns = tot) (htb : tot ≤ 30000)  : Calls Tryd.prog 47 #[.agg ([U64 pv, U64 ep, I64 k, .slice ai ni ci, .slice sa ns sc, U64 bl] ++ cu8 tg).toArray] w (Post w [] (fun v L => ∃ g sp cap, v = .tuple #[Slc g 0 (tot + 16) cap, .nilIface] ∧ L = [⟨g, cu8 ((tktT pv ep k l ls bl) ++ tg) ++ sp, 5, (0, 0)⟩] ∧ sp.length = cap - (tot + 16) ∧ (tot + 16) ≤ cap ∧ cap ≤ maxLen)) := by
 have hmx : maxLen = 9223372036854775807 := rfl
 refine enter (P := Tryd.prog) (f := 47) (fn := Tryd.f47) w [] 18 [] [.agg ([U64 pv, U64 ep, I64 k, .slice ai ni ci, .slice sa ns sc, U64 bl] ++ cu8 tg).toArray] Tryd.func47 rfl rfl (by simp) (B2 (by simp) (by simp) (by simp)) ?_
 show JC _ _ _ [(0, .agg ([U64 pv, U64 ep, I64 k, .slice ai ni ci, .slice sa ns sc, U64 bl] ++ cu8 tg).toArray)] _
 refine AI (AC (BG (CE (.agg ([U64 pv, U64 ep, I64 k, .slice ai ni ci, .slice sa ns sc, U64 bl] ++ cu8 tg).toArray) ([U64 pv, U64 ep, I64 k, .slice ai ni ci, .slice sa ns sc, U64 bl] ++ cu8 tg) rfl (by first | rfl | simp)) rfl ?_))
 rintro v1 L1 ⟨nb1, hnb1, rfl, rfl⟩
 show JL _ _ _ _ ((1, Ptr nb1 0) :: _) [⟨nb1, [U64 pv, U64 ep, I64 k, .slice ai ni ci, .slice sa ns sc, U64 bl] ++ cu8 tg, 29, (0, 0)⟩]
 refine AA _ (AF rfl) rfl ?_
 refine AA _ (AF rfl) rfl ?_
 refine AK (AE (AI (AC (AA (.agg ([U64 pv, U64 ep, I64 k, .slice ai ni ci, .slice sa ns sc, U64 bl] ++ cu8 tg).toArray) (AL rfl (B1 D2 CN (by simp [htg]) (AY 0 rfl (A1 _)))) rfl ?_))))
 refine BG (BV 114 [.agg ([U64 pv, U64 ep, I64 k, .slice ai ni ci, .slice sa ns sc, U64 bl] ++ cu8 tg).toArray] _ (A5 _ Tryd.call114 rfl) (fun w1 hw1 => text_w pv ep k ai ni ci l sa ns sc ls bl tg tot w1 hl (by omega) (by omega) (by omega) (BP hw1 rfl hv) hls (by omega) (by omega) (by omega) (BP hw1 rfl hs) htg hmay hk hsm htot)) rfl ?_
 rintro v1 L1 ⟨_, ⟨nb2, sp1, cp1, rfl, rfl, hc1, hc2, hc3⟩, rfl⟩
 show JL _ _ _ _ ((8, .tuple #[Slc nb2 0 tot cp1, .nilIface]) :: _) [_, ⟨nb2, cu8 (tktT pv ep k l ls bl) ++ sp1, 5, (0, 0)⟩]
 refine AA _ (AM rfl) rfl ?_
 refine AA _ (CC rfl rfl) rfl ?_
 refine AA _ (CC rfl rfl) rfl ?_
 refine AA _ (AF rfl) rfl ?_
 refine AA _ (AF rfl) rfl ?_
 refine AK (AE (AI (AI (AC (AA _ (AM rfl) rfl ?_)))))
 refine AA (.bool false) (D5 _ _ _ rfl rfl (fun _ => EK ..) fun _ => neq_if_nil_nil CT) rfl ?_
 refine AK (AE (BT _ rfl rfl ?_))
 refine BM (AE (AI (AC (AA _ (AM rfl) rfl ?_))))
 refine AA (Ptr nb1 6) (AB 6 27 16 A3 rfl CG rfl rfl) rfl ?_
 refine AA (Slc nb1 6 16 16) (E6 16 5 1 0 16 6 16 DD B4 rfl rfl rfl (by omega) (by omega) (by omega) (by omega) (by omega) 16 (by omega)) rfl ?_
 refine BG (B3 43 5 [false, true] (Slc nb2 0 tot cp1) tot (tktT pv ep k l ls bl) tg (some ⟨nb1, 6, none⟩) 16 16 (tot + 16) AW B0 rfl (.inr ⟨nb2, sp1, cp1, rfl, rfl, (by first | exact (show (tktT pv ep k l ls bl).length = tot from ((EV hl hls).trans htot)) | simp [(show (tktT pv ep k l ls bl).length = tot from ((EV hl hls).trans htot))]), hc1, (by omega), (by omega)⟩) rfl (by first | exact htg | simp [htg]; try omega) (SrcAt.mem (AY 0 rfl (Seg.right 6 0 rfl rfl (A1 _)))) (by omega) (by unfold maxLen; omega) (by omega)) rfl ?_
 rintro v1 L1 ⟨nb3, sp2, cp2, hg1, rfl, rfl, ha1, ha2, ha3, ha4⟩
 show JL _ _ _ _ ((17, Slc nb3 0 (tot + 16) cp2) :: _) [_, ⟨nb3, cu8 ((tktT pv ep k l ls bl) ++ tg) ++ sp2, 5, (0, 0)⟩]
 refine AA _ (AF rfl) rfl ?_
 refine AA _ (AF rfl) rfl ?_
 refine AK (AE (BA (BF [false, true] ?_)))
 show JQ _ _ _ _ [_]
 refine A9 (.tuple #[Slc nb3 0 (tot + 16) cp2, .nilIface]) (res2 Tryd.results47 (A7 rfl) (A7 rfl)) fun w1 hw1 => ?_
 exact ⟨_, _, rfl, ⟨nb3, sp2, cp2, rfl, rfl, ha2, ha3, ha4⟩, hw1.sub (by simp) (by simp)⟩
theorem putB_c (pv ep : UInt64) (kd : Int) (ai : Option Addr) (ni ci : Nat) (l : List UInt64) (sa : Option Addr) (ns sc : Nat) (ls : List SealR) (bl : UInt64) (tg : List UInt8)  (w : World) (hl : l.length = ni) (hnm : ni ≤ 2000000) (hnc : ni ≤ ci) (hcm : ci ≤ maxLen) (hv : RdV w ai (cu64 l)) (hls : ls.length = ns) (hnn : ns ≤ 2000000) (hnd : ns ≤ sc) (hcn : sc ≤ maxLen) (hs : RdV w sa (ls.flatMap sealC)) (htg : tg.length = 16) (hm : mayN pv ep kd l ls bl ≠ 0)  : Calls Tryd.prog 47 #[.agg ([U64 pv, U64 ep, I64 (kd), .slice ai ni ci, .slice sa ns sc, U64 bl] ++ cu8 tg).toArray] w (Post w [] (fun v L => v = .tuple #[.slice none 0 0, errV 50 (mayN pv ep kd l ls bl)] ∧ L = [])) := by
 have hmx : maxLen = 9223372036854775807 := rfl
 refine enter (P := Tryd.prog) (f := 47) (fn := Tryd.f47) w [] 18 [] [.agg ([U64 pv, U64 ep, I64 (kd), .slice ai ni ci, .slice sa ns sc, U64 bl] ++ cu8 tg).toArray] Tryd.func47 rfl rfl (by simp) (B2 (by simp) (by simp) (by simp)) ?_
 show JC _ _ _ [(0, .agg ([U64 pv, U64 ep, I64 (kd), .slice ai ni ci, .slice sa ns sc, U64 bl] ++ cu8 tg).toArray)] _
 refine AI (AC (BG (CE (.agg ([U64 pv, U64 ep, I64 (kd), .slice ai ni ci, .slice sa ns sc, U64 bl] ++ cu8 tg).toArray) ([U64 pv, U64 ep, I64 (kd), .slice ai ni ci, .slice sa ns sc, U64 bl] ++ cu8 tg) rfl (by first | rfl | simp)) rfl ?_))
 rintro v1 L1 ⟨nb1, hnb1, rfl, rfl⟩
 show JL _ _ _ _ ((1, Ptr nb1 0) :: _) [⟨nb1, [U64 pv, U64 ep, I64 (kd), .slice ai ni ci, .slice sa ns sc, U64 bl] ++ cu8 tg, 29, (0, 0)⟩]
 refine AA _ (AF rfl) rfl ?_
 refine AA _ (AF rfl) rfl ?_
 refine AK (AE (AI (AC (AA (.agg ([U64 pv, U64 ep, I64 (kd), .slice ai ni ci, .slice sa ns sc, U64 bl] ++ cu8 tg).toArray) (AL rfl (B1 D2 CN (by simp [htg]) (AY 0 rfl (A1 _)))) rfl ?_))))
 refine BS (A2 114 [.agg ([U64 pv, U64 ep, I64 (kd), .slice ai ni ci, .slice sa ns sc, U64 bl] ++ cu8 tg).toArray] (.tuple #[.slice none 0 0, errV 50 (mayN pv ep (kd) l ls bl)]) (A5 _ Tryd.call114 rfl) (fun w1 hw1 => textB_c pv ep (kd) ai ni ci l sa ns sc ls bl tg w1 hl (by omega) (by omega) (by omega) (BP hw1 rfl hv) hls (by omega) (by omega) (by omega) (BP hw1 rfl hs) htg hm)) rfl ?_
 show JL _ _ _ _ ((8, .tuple #[.slice none 0 0, errV 50 (mayN pv ep (kd) l ls bl)]) :: _) [_]
 refine AA _ (AM rfl) rfl ?_
 refine AA _ (CC rfl rfl) rfl ?_
 refine AA _ (CC rfl rfl) rfl ?_
 refine AA _ (AF rfl) rfl ?_
 refine AA _ (AF rfl) rfl ?_
 refine AK (AE (AI (AI (AC (AA _ (AM rfl) rfl ?_)))))
 refine AA (.bool (!(decide (mayN pv ep (kd) l ls bl = 0)))) (D5 _ _ _ rfl rfl (fun _ => FB ..) fun _ => neq_errV CT _ _) rfl ?_
 refine AK (AE (B5 _ rfl (by rw [show (decide (mayN pv ep (kd) l ls bl = 0)) = false from (decide_eq_false hm)] <;> rfl) ?_))
 refine AI (AC (AA _ (AM rfl) rfl ?_))
 refine AA _ (AF rfl) rfl ?_
 refine AA _ (AF rfl) rfl ?_
 refine AK (AE (BA (AU (BF [false] ?_))))
 show JQ _ _ _ _ []
 refine A9 (.tuple #[.slice none 0 0, errV 50 (mayN pv ep (kd) l ls bl)]) (res2 Tryd.results47 (A7 rfl) (A7 rfl)) fun w1 hw1 => ?_
 exact ⟨_, [], rfl, ⟨rfl, rfl⟩, hw1.sub (by simp) (by simp)⟩
theorem rtext3_c (pv ep : UInt64) (k : Nat) (ai : Option Addr) (ni ci : Nat) (l : List UInt64) (sa : Option Addr) (ns sc : Nat) (ls : List SealR) (bl : UInt64) (tg : List UInt8)  (w : World) (hl : l.length = ni) (hnm : ni ≤ 2000000) (hnc : ni ≤ ci) (hcm : ci ≤ maxLen) (hv : RdV w ai (cu64 l)) (hls : ls.length = ns) (hnn : ns ≤ 2000000) (hnd : ns ≤ sc) (hcn : sc ≤ maxLen) (hs : RdV w sa (ls.flatMap sealC)) (htg : tg.length = 16) (hk : k = 3)  : Calls Tryd.prog 117 #[.agg ([U64 pv, U64 ep, I64 k, .slice ai ni ci, .slice sa ns sc, U64 bl] ++ cu8 tg).toArray] w (Post w [] (fun v L => ∃ g sp cap, v = Slc g 0 25 cap ∧ L = [⟨g, cu8 (tktT pv ep k l ls bl) ++ sp, 5, (0, 0)⟩] ∧ sp.length = cap - 25 ∧ 25 ≤ cap ∧ cap ≤ maxLen)) := by
 have hmx : maxLen = 9223372036854775807 := rfl
 refine enter (P := Tryd.prog) (f := 117) (fn := Tryd.f117) w [] 74 [] [.agg ([U64 pv, U64 ep, I64 k, .slice ai ni ci, .slice sa ns sc, U64 bl] ++ cu8 tg).toArray] Tryd.func117 rfl rfl (by simp) (B2 (by simp) (by simp) (by simp)) ?_
 show JC _ _ _ [(0, .agg ([U64 pv, U64 ep, I64 k, .slice ai ni ci, .slice sa ns sc, U64 bl] ++ cu8 tg).toArray)] _
 refine AI (AC (BG (CE (.agg ([U64 pv, U64 ep, I64 k, .slice ai ni ci, .slice sa ns sc, U64 bl] ++ cu8 tg).toArray) ([U64 pv, U64 ep, I64 k, .slice ai ni ci, .slice sa ns sc, U64 bl] ++ cu8 tg) rfl (by first | rfl | simp)) rfl ?_))
 rintro v1 L1 ⟨nb1, hnb1, rfl, rfl⟩
 show JL _ _ _ _ ((1, Ptr nb1 0) :: _) [⟨nb1, [U64 pv, U64 ep, I64 k, .slice ai ni ci, .slice sa ns sc, U64 bl] ++ cu8 tg, 38, (0, 0)⟩]
 refine AA _ (AF rfl) rfl ?_
 refine AK (AE (AI (DC 74 4 [(0, Ptr nb1 0), (1, U64 pv), (3, Ptr nb1 1), (4, U64 ep)] B9 rfl (by decide +kernel) ?_)))
 refine CP ⟨[], [0, 1, 3, 4], [], [0, 1, 3, 4], [2]⟩ 2 _ rfl rfl (by decide +kernel) rfl ⟨⟨_, rfl, AO rfl (AB 0 22 1 BH rfl AP rfl rfl)⟩, ⟨_, rfl, AO rfl (AL rfl (AV AR (AY 0 rfl (AH (Seg.head)))))⟩, ⟨_, rfl, AO rfl (AB 1 22 1 BH rfl AP rfl rfl)⟩, ⟨_, rfl, AO rfl (AL rfl (AV AR (AY 0 rfl (AH (AG (Seg.head))))))⟩, trivial⟩ rfl (BJ rfl (BV 88 [U64 pv, I64 8] _ (A5 _ CW rfl) (fun w1 hw1 => DE pv 8 w1 (by omega)))) ?_
 rintro v1 L1 ⟨_, ⟨nb2, rfl, rfl⟩, rfl⟩
 refine ⟨[], ?_⟩
 show DP _ _ _ _ _ _ _ _ [_, ⟨nb2, cu8 (numK 8 pv 8), 5, (0, 0)⟩]
 refine CP ⟨[2], [0, 1, 3, 4], [0, 1], [3, 4], [5]⟩ 5 _ rfl rfl (by decide +kernel) rfl ⟨⟨_, rfl, AO rfl (AB 1 22 1 BH rfl AP rfl rfl)⟩, ⟨_, rfl, AO rfl (AL rfl (AV AR (AY 0 rfl (AH (AG (Seg.head))))))⟩, trivial⟩ rfl (BJ rfl (BV 88 [U64 ep, I64 8] _ (A5 _ CW rfl) (fun w1 hw1 => DE ep 8 w1 (by omega)))) ?_
 rintro v1 L1 ⟨_, ⟨nb3, rfl, rfl⟩, rfl⟩
 refine ⟨[], ?_⟩
 show DP _ _ _ _ _ _ _ _ [_, _, ⟨nb3, cu8 (numK 8 ep 8), 5, (0, 0)⟩]
 refine CP ⟨[2, 5], [0, 1, 3, 4], [0, 1, 3, 4], [], [6]⟩ 6 _ rfl rfl (by decide +kernel) rfl trivial rfl (BJ rfl (B3 43 5 [false, true, false] (Slc nb2 0 8 8) 8 (numK 8 pv 8) (numK 8 ep 8) (some ⟨nb3, 0, none⟩) 8 8 16 AW B0 rfl (.inr ⟨nb2, [], 8, rfl, (by simp [take?, cu8, cu32, cu64]), (by first | exact (show (numK 8 pv 8).length = 8 from BE _ _ _) | simp [(show (numK 8 pv 8).length = 8 from BE _ _ _)]), (by simp), (by omega), (by unfold maxLen; omega)⟩) rfl (by first | exact (show (numK 8 ep 8).length = 8 from BE _ _ _) | simp [(show (numK 8 ep 8).length = 8 from BE _ _ _)]; try omega) (SrcAt.mem (AY 2 rfl (A1 _))) (by omega) (by unfold maxLen; omega) (by omega))) ?_
 rintro v1 L1 ⟨nb4, sp1, cp1, hg1, rfl, rfl, ha1, ha2, ha3, ha4⟩
 refine ⟨[(7, Slc nb4 0 16 cp1)], ?_⟩
 show DP _ _ _ _ _ _ _ _ [_, _, ⟨nb4, cu8 ((numK 8 pv 8) ++ (numK 8 ep 8)) ++ sp1, 5, (0, 0)⟩]
 refine DK ⟨[2, 5, 6], [0, 1, 3, 4, 7], [0, 1, 3, 4], [7], []⟩ rfl rfl (by decide +kernel) rfl ⟨⟨_, rfl, AO rfl (AF rfl)⟩, trivial⟩ ?_
 refine CY (F' := [(3, Slc nb4 0 16 cp1), (1, Ptr nb1 0), (2, .slice none 0 0)]) (by kernel_rfl) ?_
 refine AE (AI (AC (AA _ (AM rfl) rfl ?_)))
 refine AA (Ptr nb1 2) (AB 2 36 4 BH rfl B6 rfl rfl) rfl ?_
 refine AA (Ptr nb1 2) (AB 0 3 1 BB rfl AT rfl rfl) rfl ?_
 refine AA (I64 k) (AL rfl (AV AX (AY 0 rfl (AH (AG (AG (Seg.head))))))) rfl ?_
 refine AA (U8 (UInt8.ofNat k)) (DA _ _ rfl fun _ => EI (by rw [BO]; rfl) BU k _ (by omega)) rfl ?_
 refine BG (B7 5 1 _ [(0, U8 (UInt8.ofNat k))] (cu8 ([UInt8.ofNat k])) AW B4 CD rfl rfl rfl (by kernel_rfl)) rfl ?_
 rintro v1 L1 ⟨nb5, hnb5, rfl, rfl⟩
 show JL _ _ _ _ ((18, Slc nb5 0 1 1) :: _) [_, _, _, ⟨nb5, cu8 ([UInt8.ofNat k]), 5, (0, 0)⟩]
 refine BG (B3 43 5 [false, false, true, false] (Slc nb4 0 16 cp1) 16 ((numK 8 pv 8) ++ (numK 8 ep 8)) ([UInt8.ofNat k]) (some ⟨nb5, 0, none⟩) 1 1 17 AW B0 rfl (.inr ⟨nb4, sp1, cp1, rfl, rfl, (by first | exact ha1 | simp [ha1]), ha2, (by omega), (by omega)⟩) rfl (by simp) (SrcAt.mem (AY 3 rfl (A1 _))) (by omega) (by unfold maxLen; omega) (by omega)) rfl ?_
 rintro v1 L1 ⟨nb6, sp2, cp2, hg2, rfl, rfl, ha5, ha6, ha7, ha8⟩
 show JL _ _ _ _ ((19, Slc nb6 0 17 cp2) :: _) [_, _, _, ⟨nb6, cu8 (((numK 8 pv 8) ++ (numK 8 ep 8)) ++ ([UInt8.ofNat k])) ++ sp2, 5, (0, 0)⟩]
 refine AA _ (AF rfl) rfl ?_
 refine AK (AE (AI (AI (AC (AA (Ptr nb1 2) (AB 2 36 4 BH rfl B6 rfl rfl) rfl ?_)))))
 refine AA (Ptr nb1 2) (AB 0 3 1 BB rfl AT rfl rfl) rfl ?_
 refine AA (I64 k) (AL rfl (AV AX (AY 0 rfl (AH (AG (AG (Seg.head))))))) rfl ?_
 refine AA (.bool (decide (((k:Int)) = (3:Int)))) (AQ rfl rfl fun _ => A4 _ _) rfl ?_
 refine AK (AE (B5 _ rfl (decide_eq_true (by omega)) ?_))
 refine AI (AC (AA _ (AM rfl) rfl ?_))
 refine AA (Ptr nb1 2) (AB 2 36 4 BH rfl B6 rfl rfl) rfl ?_
 refine AA (Ptr nb1 5) (AB 3 22 1 BB rfl AP rfl rfl) rfl ?_
 refine AA (U64 bl) (AL rfl (AV AR (AY 0 rfl (AH (AG (AG (AG (AG (AG (Seg.head)))))))))) rfl ?_
 refine BG (BV 88 [U64 bl, I64 8] _ (A5 _ CW rfl) (fun w1 hw1 => DE bl 8 w1 (by omega))) rfl ?_
 rintro v1 L1 ⟨_, ⟨nb7, rfl, rfl⟩, rfl⟩
 show JL _ _ _ _ ((28, Slc nb7 0 8 8) :: _) [_, _, _, _, ⟨nb7, cu8 (numK 8 bl 8), 5, (0, 0)⟩]
 refine BG (B3 43 5 [false, false, false, true, false] (Slc nb6 0 17 cp2) 17 (((numK 8 pv 8) ++ (numK 8 ep 8)) ++ ([UInt8.ofNat k])) (numK 8 bl 8) (some ⟨nb7, 0, none⟩) 8 8 25 AW B0 rfl (.inr ⟨nb6, sp2, cp2, rfl, rfl, (by first | exact ha5 | simp [ha5]), ha6, (by omega), (by omega)⟩) rfl (by first | exact (show (numK 8 bl 8).length = 8 from BE _ _ _) | simp [(show (numK 8 bl 8).length = 8 from BE _ _ _)]; try omega) (SrcAt.mem (AY 4 rfl (A1 _))) (by omega) (by unfold maxLen; omega) (by omega)) rfl ?_
 rintro v1 L1 ⟨nb8, sp3, cp3, hg3, rfl, rfl, ha9, ha10, ha11, ha12⟩
 show JL _ _ _ _ ((29, Slc nb8 0 25 cp3) :: _) [_, _, _, _, ⟨nb8, cu8 ((((numK 8 pv 8) ++ (numK 8 ep 8)) ++ ([UInt8.ofNat k])) ++ (numK 8 bl 8)) ++ sp3, 5, (0, 0)⟩]
 refine AA _ (AF rfl) rfl ?_
 refine AK (AE (BA (AU (BF [false, false, false, false, true] ?_))))
 show JQ _ _ _ _ [_]
 refine A9 (Slc nb8 0 25 cp3) (res1 Tryd.results117 (A7 rfl)) fun w1 hw1 => ?_
 have hq : (((numK 8 pv 8) ++ (numK 8 ep 8)) ++ ([UInt8.ofNat k])) ++ (numK 8 bl 8) = tktT pv ep k l ls bl := by
  unfold tktT
  rw [if_pos hk, EO]
 rw [hq] at hw1
 exact ⟨_, _, rfl, ⟨nb8, sp3, cp3, rfl, rfl, ha10, ha11, ha12⟩, hw1.sub (by simp) (by simp)⟩
theorem rtext12_c (pv ep : UInt64) (k : Nat) (ai : Option Addr) (ni ci : Nat) (l : List UInt64) (sa : Option Addr) (ns sc : Nat) (ls : List SealR) (bl : UInt64) (tg : List UInt8) (tot : Nat)  (w : World) (hl : l.length = ni) (hnm : ni ≤ 2000000) (hnc : ni ≤ ci) (hcm : ci ≤ maxLen) (hv : RdV w ai (cu64 l)) (hls : ls.length = ns) (hnn : ns ≤ 2000000) (hnd : ns ≤ sc) (hcn : sc ≤ maxLen) (hs : RdV w sa (ls.flatMap sealC)) (htg : tg.length = 16) (hRO : RightO (k:Int) l ls bl = true) (hk : k = 1 ∨ k = 2) (hsm : ns ≤ 300) (htot : 18 + 4*ni + 56*ns = tot)  : Calls Tryd.prog 117 #[.agg ([U64 pv, U64 ep, I64 k, .slice ai ni ci, .slice sa ns sc, U64 bl] ++ cu8 tg).toArray] w (Post w [] (fun v L => ∃ g sp cap, v = Slc g 0 tot cap ∧ L = [⟨g, cu8 (tktT pv ep k l ls bl) ++ sp, 5, (0, 0)⟩] ∧ sp.length = cap - tot ∧ tot ≤ cap ∧ cap ≤ maxLen)) := by
 have hmx : maxLen = 9223372036854775807 := rfl
 have hRI := RightO_idx hRO (by omega)
 have hRp := RightI_pos hRI
 rw [hl] at hRp
 refine enter (P := Tryd.prog) (f := 117) (fn := Tryd.f117) w [] 74 [] [.agg ([U64 pv, U64 ep, I64 k, .slice ai ni ci, .slice sa ns sc, U64 bl] ++ cu8 tg).toArray] Tryd.func117 rfl rfl (by simp) (B2 (by simp) (by simp) (by simp)) ?_
 show JC _ _ _ [(0, .agg ([U64 pv, U64 ep, I64 k, .slice ai ni ci, .slice sa ns sc, U64 bl] ++ cu8 tg).toArray)] _
 refine AI (AC (BG (CE (.agg ([U64 pv, U64 ep, I64 k, .slice ai ni ci, .slice sa ns sc, U64 bl] ++ cu8 tg).toArray) ([U64 pv, U64 ep, I64 k, .slice ai ni ci, .slice sa ns sc, U64 bl] ++ cu8 tg) rfl (by first | rfl | simp)) rfl ?_))
 rintro v1 L1 ⟨nb1, hnb1, rfl, rfl⟩
 show JL _ _ _ _ ((1, Ptr nb1 0) :: _) [⟨nb1, [U64 pv, U64 ep, I64 k, .slice ai ni ci, .slice sa ns sc, U64 bl] ++ cu8 tg, 38, (0, 0)⟩]
 refine AA _ (AF rfl) rfl ?_
 refine AK (AE (AI (DC 74 4 [(0, Ptr nb1 0), (1, U64 pv), (3, Ptr nb1 1), (4, U64 ep)] B9 rfl (by decide +kernel) ?_)))
 refine CP ⟨[], [0, 1, 3, 4], [], [0, 1, 3, 4], [2]⟩ 2 _ rfl rfl (by decide +kernel) rfl ⟨⟨_, rfl, AO rfl (AB 0 22 1 BH rfl AP rfl rfl)⟩, ⟨_, rfl, AO rfl (AL rfl (AV AR (AY 0 rfl (AH (Seg.head)))))⟩, ⟨_, rfl, AO rfl (AB 1 22 1 BH rfl AP rfl rfl)⟩, ⟨_, rfl, AO rfl (AL rfl (AV AR (AY 0 rfl (AH (AG (Seg.head))))))⟩, trivial⟩ rfl (BJ rfl (BV 88 [U64 pv, I64 8] _ (A5 _ CW rfl) (fun w1 hw1 => DE pv 8 w1 (by omega)))) ?_
 rintro v1 L1 ⟨_, ⟨nb2, rfl, rfl⟩, rfl⟩
 refine ⟨[], ?_⟩
 show DP _ _ _ _ _ _ _ _ [_, ⟨nb2, cu8 (numK 8 pv 8), 5, (0, 0)⟩]
 refine CP ⟨[2], [0, 1, 3, 4], [0, 1], [3, 4], [5]⟩ 5 _ rfl rfl (by decide +kernel) rfl ⟨⟨_, rfl, AO rfl (AB 1 22 1 BH rfl AP rfl rfl)⟩, ⟨_, rfl, AO rfl (AL rfl (AV AR (AY 0 rfl (AH (AG (Seg.head))))))⟩, trivial⟩ rfl (BJ rfl (BV 88 [U64 ep, I64 8] _ (A5 _ CW rfl) (fun w1 hw1 => DE ep 8 w1 (by omega)))) ?_
 rintro v1 L1 ⟨_, ⟨nb3, rfl, rfl⟩, rfl⟩
 refine ⟨[], ?_⟩
 show DP _ _ _ _ _ _ _ _ [_, _, ⟨nb3, cu8 (numK 8 ep 8), 5, (0, 0)⟩]
 refine CP ⟨[2, 5], [0, 1, 3, 4], [0, 1, 3, 4], [], [6]⟩ 6 _ rfl rfl (by decide +kernel) rfl trivial rfl (BJ rfl (B3 43 5 [false, true, false] (Slc nb2 0 8 8) 8 (numK 8 pv 8) (numK 8 ep 8) (some ⟨nb3, 0, none⟩) 8 8 16 AW B0 rfl (.inr ⟨nb2, [], 8, rfl, (by simp [take?, cu8, cu32, cu64]), (by first | exact (show (numK 8 pv 8).length = 8 from BE _ _ _) | simp [(show (numK 8 pv 8).length = 8 from BE _ _ _)]), (by simp), (by omega), (by unfold maxLen; omega)⟩) rfl (by first | exact (show (numK 8 ep 8).length = 8 from BE _ _ _) | simp [(show (numK 8 ep 8).length = 8 from BE _ _ _)]; try omega) (SrcAt.mem (AY 2 rfl (A1 _))) (by omega) (by unfold maxLen; omega) (by omega))) ?_
 rintro v1 L1 ⟨nb4, sp1, cp1, hg1, rfl, rfl, ha1, ha2, ha3, ha4⟩
 refine ⟨[(7, Slc nb4 0 16 cp1)], ?_⟩
 show DP _ _ _ _ _ _ _ _ [_, _, ⟨nb4, cu8 ((numK 8 pv 8) ++ (numK 8 ep 8)) ++ sp1, 5, (0, 0)⟩]
 refine DK ⟨[2, 5, 6], [0, 1, 3, 4, 7], [0, 1, 3, 4], [7], []⟩ rfl rfl (by decide +kernel) rfl ⟨⟨_, rfl, AO rfl (AF rfl)⟩, trivial⟩ ?_
 refine CY (F' := [(3, Slc nb4 0 16 cp1), (1, Ptr nb1 0), (2, .slice none 0 0)]) (by kernel_rfl) ?_
 refine AE (AI (AC (AA _ (AM rfl) rfl ?_)))
 refine AA (Ptr nb1 2) (AB 2 36 4 BH rfl B6 rfl rfl) rfl ?_
 refine AA (Ptr nb1 2) (AB 0 3 1 BB rfl AT rfl rfl) rfl ?_
 refine AA (I64 k) (AL rfl (AV AX (AY 0 rfl (AH (AG (AG (Seg.head))))))) rfl ?_
 refine AA (U8 (UInt8.ofNat k)) (DA _ _ rfl fun _ => EI (by rw [BO]; rfl) BU k _ (by omega)) rfl ?_
 refine BG (B7 5 1 _ [(0, U8 (UInt8.ofNat k))] (cu8 ([UInt8.ofNat k])) AW B4 CD rfl rfl rfl (by kernel_rfl)) rfl ?_
 rintro v1 L1 ⟨nb5, hnb5, rfl, rfl⟩
 show JL _ _ _ _ ((18, Slc nb5 0 1 1) :: _) [_, _, _, ⟨nb5, cu8 ([UInt8.ofNat k]), 5, (0, 0)⟩]
 refine BG (B3 43 5 [false, false, true, false] (Slc nb4 0 16 cp1) 16 ((numK 8 pv 8) ++ (numK 8 ep 8)) ([UInt8.ofNat k]) (some ⟨nb5, 0, none⟩) 1 1 17 AW B0 rfl (.inr ⟨nb4, sp1, cp1, rfl, rfl, (by first | exact ha1 | simp [ha1]), ha2, (by omega), (by omega)⟩) rfl (by simp) (SrcAt.mem (AY 3 rfl (A1 _))) (by omega) (by unfold maxLen; omega) (by omega)) rfl ?_
 rintro v1 L1 ⟨nb6, sp2, cp2, hg2, rfl, rfl, ha5, ha6, ha7, ha8⟩
 show JL _ _ _ _ ((19, Slc nb6 0 17 cp2) :: _) [_, _, _, ⟨nb6, cu8 (((numK 8 pv 8) ++ (numK 8 ep 8)) ++ ([UInt8.ofNat k])) ++ sp2, 5, (0, 0)⟩]
 refine AA _ (AF rfl) rfl ?_
 refine AK (AE (AI (AI (AC (AA (Ptr nb1 2) (AB 2 36 4 BH rfl B6 rfl rfl) rfl ?_)))))
 refine AA (Ptr nb1 2) (AB 0 3 1 BB rfl AT rfl rfl) rfl ?_
 refine AA (I64 k) (AL rfl (AV AX (AY 0 rfl (AH (AG (AG (Seg.head))))))) rfl ?_
 refine AA (.bool (decide (((k:Int)) = (3:Int)))) (AQ rfl rfl fun _ => A4 _ _) rfl ?_
 refine AK (AE (BT _ rfl (decide_eq_false (by omega)) ?_))
 refine BM (AE (AI (AC (AA _ (AM rfl) rfl ?_))))
 refine AA (Ptr nb1 2) (AB 2 36 4 BH rfl B6 rfl rfl) rfl ?_
 refine AA (Ptr nb1 3) (AB 1 23 1 BB rfl BI rfl rfl) rfl ?_
 refine AA (.slice ai ni ci) (AL rfl (AV BL (AY 0 rfl (AH (AG (AG (AG (Seg.head)))))))) rfl ?_
 refine AA (I64 ni) (C9 A8 rfl) rfl ?_
 refine AA (I64 ((ni:Int) - 1)) (AQ rfl rfl fun _ => DL _ _ ((ni:Int) - 1) (by omega) (by omega)) rfl ?_
 refine AA (U8 (UInt8.ofNat (ni - 1))) (DA _ _ rfl fun _ => EI (by rw [BO]; rfl) BU (ni - 1) _ (by omega)) rfl ?_
 refine BG (B7 5 1 _ [(0, U8 (UInt8.ofNat (ni - 1)))] (cu8 ([UInt8.ofNat (ni - 1)])) AW B4 CD rfl rfl rfl (by kernel_rfl)) rfl ?_
 rintro v1 L1 ⟨nb7, hnb7, rfl, rfl⟩
 show JL _ _ _ _ ((37, Slc nb7 0 1 1) :: _) [_, _, _, _, ⟨nb7, cu8 ([UInt8.ofNat (ni - 1)]), 5, (0, 0)⟩]
 refine BG (B3 43 5 [false, false, false, true, false] (Slc nb6 0 17 cp2) 17 (((numK 8 pv 8) ++ (numK 8 ep 8)) ++ ([UInt8.ofNat k])) ([UInt8.ofNat (ni - 1)]) (some ⟨nb7, 0, none⟩) 1 1 18 AW B0 rfl (.inr ⟨nb6, sp2, cp2, rfl, rfl, (by first | exact ha5 | simp [ha5]), ha6, (by omega), (by omega)⟩) rfl (by simp) (SrcAt.mem (AY 4 rfl (A1 _))) (by omega) (by unfold maxLen; omega) (by omega)) rfl ?_
 rintro v1 L1 ⟨nb8, sp3, cp3, hg3, rfl, rfl, ha9, ha10, ha11, ha12⟩
 show JL _ _ _ _ ((38, Slc nb8 0 18 cp3) :: _) [_, _, _, _, ⟨nb8, cu8 ((((numK 8 pv 8) ++ (numK 8 ep 8)) ++ ([UInt8.ofNat k])) ++ ([UInt8.ofNat (ni - 1)])) ++ sp3, 5, (0, 0)⟩]
 refine AA _ (AF rfl) rfl ?_
 refine AK (AE (AI (AI (AC (AA _ (AF rfl) rfl ?_)))))
 refine AK (AE (BY (BF [true, false, false, false, true] ?_)))
 show JC _ _ _ _ [_, _]
 refine EG (ι := Nat × List UInt8 × Nat × List Value × Nat) (fun ⟨i, oqi, gqi, spqi, cpqi⟩ => [(1, Ptr nb1 0), (2, .slice none 0 0), (4, I64 i), (3, Slc gqi 0 (4*i + 18) cpqi)]) (fun ⟨i, oqi, gqi, spqi, cpqi⟩ => [⟨nb1, [U64 pv, U64 ep, I64 k, .slice ai ni ci, .slice sa ns sc, U64 bl] ++ cu8 tg, 38, (0, 0)⟩, ⟨gqi, cu8 oqi ++ spqi, 5, (0, 0)⟩]) (fun ⟨i, oqi, gqi, spqi, cpqi⟩ => i ≤ ni ∧ oqi = (((numK 8 pv 8 ++ numK 8 ep 8) ++ [UInt8.ofNat k]) ++ [UInt8.ofNat (ni - 1)]) ++ idxT l i ∧ oqi.length = (4*i + 18) ∧ spqi.length = cpqi - ((4*i + 18)) ∧ (4*i + 18) ≤ cpqi ∧ cpqi ≤ maxLen) (fun ⟨i, oqi, gqi, spqi, cpqi⟩ => ni - i) (0, (((numK 8 pv 8) ++ (numK 8 ep 8)) ++ ([UInt8.ofNat k])) ++ ([UInt8.ofNat (ni - 1)]), nb8, sp3, cp3) ⟨by omega, by rw [idxT_zero, List.append_nil], (by have h := ha9; omega), (by have h := ha10; omega), by omega, by omega⟩ (Sub.cons rfl (Sub.cons rfl (Sub.cons rfl (Sub.cons (some_slc (by omega)) (Sub.nil))))) rfl ?_
 rintro ⟨i, oqi, gqi, spqi, cpqi⟩ ⟨hi1, hi2, hi3, hi4, hi5, hi6⟩
 show JC _ _ _ [(1, Ptr nb1 0), (2, .slice none 0 0), (4, I64 i), (3, Slc gqi 0 (4*i + 18) cpqi)] [⟨nb1, [U64 pv, U64 ep, I64 k, .slice ai ni ci, .slice sa ns sc, U64 bl] ++ cu8 tg, 38, (0, 0)⟩, ⟨gqi, cu8 oqi ++ spqi, 5, (0, 0)⟩]
 refine AI (AI (AC (AA _ (AM rfl) rfl ?_)))
 refine AA (Ptr nb1 2) (AB 2 36 4 BH rfl B6 rfl rfl) rfl ?_
 refine AA (Ptr nb1 3) (AB 1 23 1 BB rfl BI rfl rfl) rfl ?_
 refine AA (.slice ai ni ci) (AL rfl (AV BL (AY 0 rfl (AH (AG (AG (AG (Seg.head)))))))) rfl ?_
 refine AA (I64 ni) (C9 A8 rfl) rfl ?_
 refine AA (.bool (decide (((i:Int)) < ((ni:Int))))) (AQ rfl rfl fun _ => CX _ _) rfl ?_
 refine AK (AE (BZ (decide (((i:Int)) < ((ni:Int)))) rfl (fun hb1 => ?_) (fun hb1 => ?_)))
 ·
  have hp1 : ((i:Int)) < ((ni:Int)) := of_decide_eq_true hb1
  refine BM (AE (AI (BY (AC (AA _ (AM rfl) rfl ?_)))))
  refine AA (Ptr nb1 2) (AB 2 36 4 BH rfl B6 rfl rfl) rfl ?_
  refine AA (Ptr nb1 3) (AB 1 23 1 BB rfl BI rfl rfl) rfl ?_
  refine AA (.slice ai ni ci) (AL rfl (AV BL (AY 0 rfl (AH (AG (AG (AG (Seg.head)))))))) rfl ?_
  refine AA _ (AM rfl) rfl ?_
  obtain ⟨bz1, oz1, hz1, hm1⟩ := RdV.pos hv (by rw [EB, hl]; omega)
  refine AA (Ptr bz1 (i + oz1)) (CU 22 1 (i + oz1) A8 AP rfl hz1 rfl (by omega) (by omega) (by omega)) rfl ?_
  refine AA (U64 (g64 l i)) (AL rfl (AV AR (C3 (hm1.mem (by simp)) (Seg.get (E4 (i := i) (by rw [hl]; omega))) (by omega)))) rfl ?_
  refine BG (BV 88 [U64 (g64 l i), I64 4] _ (A5 _ CW rfl) (fun w1 hw1 => DE (g64 l i) 4 w1 (by omega))) rfl ?_
  rintro v1 L1 ⟨_, ⟨nb9, rfl, rfl⟩, rfl⟩
  show JL _ _ _ _ ((54, Slc nb9 0 4 4) :: _) [_, _, ⟨nb9, cu8 (numK 4 (g64 l i) 4), 5, (0, 0)⟩]
  refine BG (B3 43 5 [false, true, false] (Slc gqi 0 (4*i + 18) cpqi) (4*i + 18) oqi (numK 4 (g64 l i) 4) (some ⟨nb9, 0, none⟩) 4 4 (4*i + 22) AW B0 rfl (.inr ⟨gqi, spqi, cpqi, rfl, rfl, (by first | exact hi3 | simp [hi3]), hi4, (by omega), (by omega)⟩) rfl (by first | exact (show (numK 4 (g64 l i) 4).length = 4 from BE _ _ _) | simp [(show (numK 4 (g64 l i) 4).length = 4 from BE _ _ _)]; try omega) (SrcAt.mem (AY 2 rfl (A1 _))) (by omega) (by unfold maxLen; omega) (by omega)) rfl ?_
  rintro v1 L1 ⟨nb10, sp4, cp4, hg4, rfl, rfl, ha13, ha14, ha15, ha16⟩
  show JL _ _ _ _ ((55, Slc nb10 0 (4*i + 22) cp4) :: _) [_, _, ⟨nb10, cu8 (oqi ++ (numK 4 (g64 l i) 4)) ++ sp4, 5, (0, 0)⟩]
  refine AA _ (AF rfl) rfl ?_
  refine AK (BR (AE (AC (AA _ (AM rfl) rfl ?_))))
  refine AA (I64 ((i:Int) + 1)) (AQ rfl rfl fun _ => DV _ _ ((i:Int) + 1) (by omega) (by omega)) rfl ?_
  refine AA _ (AF rfl) rfl ?_
  refine AK (DU (BF [true, false, true] ?_))
  show K _ _ [_, _] _
  refine EM (i + 1, oqi ++ (numK 4 (g64 l i) 4), nb10, sp4, cp4) ⟨by omega, by rw [hi2, idxT_succ, List.append_assoc], (by have h := ha13; omega), (by have h := ha14; omega), by omega, by omega⟩ (by first | (simp; omega) | simp | (dsimp only; omega) | omega) (Sub.cons rfl (Sub.cons rfl (Sub.cons rfl (Sub.cons (some_slc (by omega)) (Sub.nil))))) rfl
 ·
  have hp1 : ¬ (((i:Int)) < ((ni:Int))) := of_decide_eq_false hb1
  refine EH (BX (BX (DH (AE (AI (AI (AC (AA _ (AF rfl) rfl ?_))))))))
  refine AK (AE (BY (EG (ι := Nat × List UInt8 × Nat × List Value × Nat) (fun ⟨j, oqj, gqj, spqj, cpqj⟩ => [(1, Ptr nb1 0), (2, .slice none 0 0), (5, I64 j), (3, Slc gqj 0 (56*j + 4*ni + 18) cpqj)]) (fun ⟨j, oqj, gqj, spqj, cpqj⟩ => [⟨nb1, [U64 pv, U64 ep, I64 k, .slice ai ni ci, .slice sa ns sc, U64 bl] ++ cu8 tg, 38, (0, 0)⟩, ⟨gqj, cu8 oqj ++ spqj, 5, (0, 0)⟩]) (fun ⟨j, oqj, gqj, spqj, cpqj⟩ => j ≤ ns ∧ oqj = ((((numK 8 pv 8 ++ numK 8 ep 8) ++ [UInt8.ofNat k]) ++ [UInt8.ofNat (ni - 1)]) ++ idxT l ni) ++ selT (ls.take j) ∧ oqj.length = (56*j + 4*ni + 18) ∧ spqj.length = cpqj - ((56*j + 4*ni + 18)) ∧ (56*j + 4*ni + 18) ≤ cpqj ∧ cpqj ≤ maxLen) (fun ⟨j, oqj, gqj, spqj, cpqj⟩ => ns - j) (0, oqi, gqi, spqi, cpqi) ⟨by omega, by rw [show i = ni by omega] at hi2; rw [hi2]; simp [selT_nil], (by have h := hi3; omega), (by have h := hi4; omega), by omega, by omega⟩ (Sub.cons rfl (Sub.cons rfl (Sub.cons rfl (Sub.cons (some_slc (by omega)) (Sub.nil))))) rfl ?_)))
  rintro ⟨j, oqj, gqj, spqj, cpqj⟩ ⟨hj1, hj2, hj3, hj4, hj5, hj6⟩
  show JC _ _ _ [(1, Ptr nb1 0), (2, .slice none 0 0), (5, I64 j), (3, Slc gqj 0 (56*j + 4*ni + 18) cpqj)] [⟨nb1, [U64 pv, U64 ep, I64 k, .slice ai ni ci, .slice sa ns sc, U64 bl] ++ cu8 tg, 38, (0, 0)⟩, ⟨gqj, cu8 oqj ++ spqj, 5, (0, 0)⟩]
  refine AI (AI (AC (AA _ (AM rfl) rfl ?_)))
  refine AA (Ptr nb1 2) (AB 2 36 4 BH rfl B6 rfl rfl) rfl ?_
  refine AA (Ptr nb1 4) (AB 2 34 1 BB rfl CR rfl rfl) rfl ?_
  refine AA (.slice sa ns sc) (AL rfl (AV C7 (AY 0 rfl (AH (AG (AG (AG (AG (Seg.head))))))))) rfl ?_
  refine AA (I64 ns) (C9 CM rfl) rfl ?_
  refine AA (.bool (decide (((j:Int)) < ((ns:Int))))) (AQ rfl rfl fun _ => CX _ _) rfl ?_
  refine AK (AE (BZ (decide (((j:Int)) < ((ns:Int)))) rfl (fun hb2 => ?_) (fun hb2 => ?_)))
  ·
   have hp2 : ((j:Int)) < ((ns:Int)) := of_decide_eq_true hb2
   refine BM (AE (AI (BY (AC (AA _ (AM rfl) rfl ?_)))))
   refine AA (Ptr nb1 2) (AB 2 36 4 BH rfl B6 rfl rfl) rfl ?_
   refine AA (Ptr nb1 4) (AB 2 34 1 BB rfl CR rfl rfl) rfl ?_
   refine AA (.slice sa ns sc) (AL rfl (AV C7 (AY 0 rfl (AH (AG (AG (AG (AG (Seg.head))))))))) rfl ?_
   refine AA _ (AM rfl) rfl ?_
   obtain ⟨x1, hx1⟩ : ∃ x, ls[j]? = some x := ⟨_, List.getElem?_eq_getElem (by rw [hls]; omega)⟩
   obtain ⟨bz2, oz2, hz2, hm2⟩ := FC EC (by decide) hs hx1
   refine AA (Ptr bz2 (49*j + oz2)) (CU 164 49 (49*j + oz2) CM DM rfl hz2 rfl (by omega) (by omega) (by omega)) rfl ?_
   refine AA (.agg ([U64 x1.e] ++ cu8 x1.d ++ cu8 x1.t).toArray) (AL rfl (B1 Tryd.isAgg164 DM (by simp [x1.hd, x1.ht]) (C3 (hm2.mem (by simp)) (A1 _) (by omega)))) rfl ?_
   refine BG (BV 105 [.agg ([U64 x1.e] ++ cu8 x1.d ++ cu8 x1.t).toArray] _ (A5 _ Tryd.call105 rfl) (fun w1 hw1 => rput7_c x1.e x1.d x1.t w1 x1.hd x1.ht)) rfl ?_
   rintro v1 L1 ⟨_, ⟨nb11, sp5, cp5, rfl, rfl, hc1, hc2, hc3⟩, rfl⟩
   show JL _ _ _ _ ((71, Slc nb11 0 56 cp5) :: _) [_, _, ⟨nb11, cu8 (putL x1.e x1.d x1.t) ++ sp5, 5, (0, 0)⟩]
   refine BG (B3 43 5 [false, true, false] (Slc gqj 0 (56*j + 4*ni + 18) cpqj) (56*j + 4*ni + 18) oqj (putL x1.e x1.d x1.t) (some ⟨nb11, 0, none⟩) 56 cp5 (56*j + 4*ni + 74) AW B0 rfl (.inr ⟨gqj, spqj, cpqj, rfl, rfl, (by first | exact hj3 | simp [hj3]), hj4, (by omega), (by omega)⟩) rfl (by first | exact (show (putL x1.e x1.d x1.t).length = 56 from (putL_len x1.hd x1.ht)) | simp [(show (putL x1.e x1.d x1.t).length = 56 from (putL_len x1.hd x1.ht))]; try omega) (SrcAt.mem (AY 2 rfl (AH (A1 _)))) (by omega) (by unfold maxLen; omega) (by omega)) rfl ?_
   rintro v1 L1 ⟨nb12, sp6, cp6, hg5, rfl, rfl, ha17, ha18, ha19, ha20⟩
   show JL _ _ _ _ ((72, Slc nb12 0 (56*j + 4*ni + 74) cp6) :: _) [_, _, ⟨nb12, cu8 (oqj ++ (putL x1.e x1.d x1.t)) ++ sp6, 5, (0, 0)⟩]
   refine AA _ (AF rfl) rfl ?_
   refine AK (BR (AE (AC (AA _ (AM rfl) rfl ?_))))
   refine AA (I64 ((j:Int) + 1)) (AQ rfl rfl fun _ => DV _ _ ((j:Int) + 1) (by omega) (by omega)) rfl ?_
   refine AA _ (AF rfl) rfl ?_
   refine AK (DU (BF [true, false, true] ?_))
   show K _ _ [_, _] _
   refine EM (j + 1, oqj ++ (putL x1.e x1.d x1.t), nb12, sp6, cp6) ⟨by omega, by rw [hj2, ← take_step hx1, selT_app, List.append_assoc], (by have h := ha17; omega), (by have h := ha18; omega), by omega, by omega⟩ (by first | (simp; omega) | simp | (dsimp only; omega) | omega) (Sub.cons rfl (Sub.cons rfl (Sub.cons rfl (Sub.cons (some_slc (by omega)) (Sub.nil))))) rfl
  ·
   have hp2 : ¬ (((j:Int)) < ((ns:Int))) := of_decide_eq_false hb2
   refine EH (BX (BX (DH (AE (AI (AC (AA _ (AM rfl) rfl ?_)))))))
   refine AA _ (AF rfl) rfl ?_
   refine AK (AE (BA (BF [false, true] ?_)))
   show JQ _ _ _ _ [_]
   refine A9 (Slc gqj 0 (56*j + 4*ni + 18) cpqj) (res1 Tryd.results117 (A7 rfl)) fun w1 hw1 => ?_
   obtain rfl : j = ns := by omega
   have hq : oqj = tktT pv ep k l ls bl := by
    unfold tktT
    rw [if_neg (by omega), hl, hj2, List.take_of_length_le (by omega), EO, EO]
   rw [hq] at hw1
   obtain rfl : tot = (56*j + 4*ni + 18) := by omega
   exact ⟨_, _, rfl, ⟨gqj, spqj, cpqj, rfl, rfl, hj4, hj5, hj6⟩, hw1.sub (by simp) (by simp)⟩
theorem rtext_w (pv ep : UInt64) (k : Nat) (ai : Option Addr) (ni ci : Nat) (l : List UInt64) (sa : Option Addr) (ns sc : Nat) (ls : List SealR) (bl : UInt64) (tg : List UInt8) (tot : Nat) (w : World) (hl : l.length = ni) (hnm : ni ≤ 2000000) (hnc : ni ≤ ci) (hcm : ci ≤ maxLen) (hv : RdV w ai (cu64 l)) (hls : ls.length = ns) (hnn : ns ≤ 2000000) (hnd : ns ≤ sc) (hcn : sc ≤ maxLen) (hs : RdV w sa (ls.flatMap sealC)) (htg : tg.length = 16) (hmay : mayN pv ep (k:Int) l ls bl = 0) (hk : k = 1 ∨ k = 2 ∨ k = 3) (hsm : ns ≤ 300) (htot : tktN k ni ns = tot) : Calls Tryd.prog 117 #[.agg ([U64 pv, U64 ep, I64 k, .slice ai ni ci, .slice sa ns sc, U64 bl] ++ cu8 tg).toArray] w (Post w [] (fun v L => ∃ g sp cap, v = Slc g 0 tot cap ∧ L = [⟨g, cu8 (tktT pv ep k l ls bl) ++ sp, 5, (0, 0)⟩] ∧ sp.length = cap - tot ∧ tot ≤ cap ∧ cap ≤ maxLen)) := by
  by_cases h3 : k = 3
  · have e : tot = 25 := by rw [← htot]; unfold tktN; rw [if_pos h3]
    subst e
    exact rtext3_c pv ep k ai ni ci l sa ns sc ls bl tg w hl hnm hnc hcm hv hls hnn hnd hcn hs htg h3
  · exact rtext12_c pv ep k ai ni ci l sa ns sc ls bl tg tot w hl hnm hnc hcm hv hls hnn hnd hcn hs htg (mayN_right hmay) (by omega) hsm (by rw [← htot]; unfold tktN; rw [if_neg h3])
theorem rput13_c (pv ep : UInt64) (k : Nat) (ai : Option Addr) (ni ci : Nat) (l : List UInt64) (sa : Option Addr) (ns sc : Nat) (ls : List SealR) (bl : UInt64) (tg : List UInt8) (tot : Nat)  (w : World) (hl : l.length = ni) (hnm : ni ≤ 2000000) (hnc : ni ≤ ci) (hcm : ci ≤ maxLen) (hv : RdV w ai (cu64 l)) (hls : ls.length = ns) (hnn : ns ≤ 2000000) (hnd : ns ≤ sc) (hcn : sc ≤ maxLen) (hs : RdV w sa (ls.flatMap sealC)) (htg : tg.length = 16) (hmay : mayN pv ep (k:Int) l ls bl = 0) (hk : k = 1 ∨ k = 2 ∨ k = 3) (hsm : ns ≤ 300) (htot : tktN k ni ns = tot) (htb : tot ≤ 30000)  : Calls Tryd.prog 52 #[.agg ([U64 pv, U64 ep, I64 k, .slice ai ni ci, .slice sa ns sc, U64 bl] ++ cu8 tg).toArray] w (Post w [] (fun v L => ∃ g sp cap, v = Slc g 0 (tot + 16) cap ∧ L = [⟨g, cu8 ((tktT pv ep k l ls bl) ++ tg) ++ sp, 5, (0, 0)⟩] ∧ sp.length = cap - (tot + 16) ∧ (tot + 16) ≤ cap ∧ cap ≤ maxLen)) := by
 have hmx : maxLen = 9223372036854775807 := rfl
 refine enter (P := Tryd.prog) (f := 52) (fn := Tryd.f52) w [] 8 [] [.agg ([U64 pv, U64 ep, I64 k, .slice ai ni ci, .slice sa ns sc, U64 bl] ++ cu8 tg).toArray] Tryd.func52 rfl rfl (by simp) (B2 (by simp) (by simp) (by simp)) ?_
 show JC _ _ _ [(0, .agg ([U64 pv, U64 ep, I64 k, .slice ai ni ci, .slice sa ns sc, U64 bl] ++ cu8 tg).toArray)] _
 refine AI (AC (BG (CE (.agg ([U64 pv, U64 ep, I64 k, .slice ai ni ci, .slice sa ns sc, U64 bl] ++ cu8 tg).toArray) ([U64 pv, U64 ep, I64 k, .slice ai ni ci, .slice sa ns sc, U64 bl] ++ cu8 tg) rfl (by first | rfl | simp)) rfl ?_))
 rintro v1 L1 ⟨nb1, hnb1, rfl, rfl⟩
 show JL _ _ _ _ ((1, Ptr nb1 0) :: _) [⟨nb1, [U64 pv, U64 ep, I64 k, .slice ai ni ci, .slice sa ns sc, U64 bl] ++ cu8 tg, 38, (0, 0)⟩]
 refine AA _ (AF rfl) rfl ?_
 refine AK (AE (AI (DC 8 3 [(0, .agg ([U64 pv, U64 ep, I64 k, .slice ai ni ci, .slice sa ns sc, U64 bl] ++ cu8 tg).toArray), (2, Ptr nb1 6), (3, Slc nb1 6 16 16)] B9 rfl (by decide +kernel) ?_)))
 refine CP ⟨[], [0, 2, 3], [], [0, 2, 3], [1]⟩ 1 _ rfl rfl (by decide +kernel) rfl ⟨⟨_, rfl, AO rfl (AL rfl (B1 DO CA (by simp [htg]) (AY 0 rfl (A1 _))))⟩, ⟨_, rfl, AO rfl (AB 6 27 16 BH rfl CG rfl rfl)⟩, ⟨_, rfl, AO rfl (E6 16 5 1 0 16 6 16 DD B4 rfl rfl rfl (by omega) (by omega) (by omega) (by omega) (by omega) 16 (by omega))⟩, trivial⟩ rfl (BJ rfl (BV 117 [.agg ([U64 pv, U64 ep, I64 k, .slice ai ni ci, .slice sa ns sc, U64 bl] ++ cu8 tg).toArray] _ (A5 _ Tryd.call117 rfl) (fun w1 hw1 => rtext_w pv ep k ai ni ci l sa ns sc ls bl tg tot w1 hl (by omega) (by omega) (by omega) (BP hw1 rfl hv) hls (by omega) (by omega) (by omega) (BP hw1 rfl hs) htg hmay hk hsm htot))) ?_
 rintro v1 L1 ⟨_, ⟨nb2, sp1, cp1, rfl, rfl, hc1, hc2, hc3⟩, rfl⟩
 refine ⟨[], ?_⟩
 show DP _ _ _ _ _ _ _ _ [_, ⟨nb2, cu8 (tktT pv ep k l ls bl) ++ sp1, 5, (0, 0)⟩]
 refine CP ⟨[1], [0, 2, 3], [0], [2, 3], [4]⟩ 4 _ rfl rfl (by decide +kernel) rfl ⟨⟨_, rfl, AO rfl (AB 6 27 16 BH rfl CG rfl rfl)⟩, ⟨_, rfl, AO rfl (E6 16 5 1 0 16 6 16 DD B4 rfl rfl rfl (by omega) (by omega) (by omega) (by omega) (by omega) 16 (by omega))⟩, trivial⟩ rfl (BJ rfl (B3 43 5 [false, true] (Slc nb2 0 tot cp1) tot (tktT pv ep k l ls bl) tg (some ⟨nb1, 6, none⟩) 16 16 (tot + 16) AW B0 rfl (.inr ⟨nb2, sp1, cp1, rfl, rfl, (by first | exact (show (tktT pv ep k l ls bl).length = tot from ((EV hl hls).trans htot)) | simp [(show (tktT pv ep k l ls bl).length = tot from ((EV hl hls).trans htot))]), hc1, (by omega), (by omega)⟩) rfl (by first | exact htg | simp [htg]; try omega) (SrcAt.mem (AY 0 rfl (Seg.right 6 0 rfl rfl (A1 _)))) (by omega) (by unfold maxLen; omega) (by omega))) ?_
 rintro v1 L1 ⟨nb3, sp2, cp2, hg1, rfl, rfl, ha1, ha2, ha3, ha4⟩
 refine ⟨[(5, Slc nb3 0 (tot + 16) cp2)], ?_⟩
 show DP _ _ _ _ _ _ _ _ [_, ⟨nb3, cu8 ((tktT pv ep k l ls bl) ++ tg) ++ sp2, 5, (0, 0)⟩]
 refine DK ⟨[1, 4], [0, 2, 3, 5], [0, 2, 3], [5], []⟩ rfl rfl (by decide +kernel) rfl ⟨⟨_, rfl, AO rfl (AF rfl)⟩, trivial⟩ ?_
 refine CY (F' := [(2, Slc nb3 0 (tot + 16) cp2)]) (by kernel_rfl) ?_
 refine AE (BA (BF [false, true] ?_))
 show JQ _ _ _ _ [_]
 refine A9 (Slc nb3 0 (tot + 16) cp2) (res1 Tryd.results52 (A7 rfl)) fun w1 hw1 => ?_
 exact ⟨_, _, rfl, ⟨nb3, sp2, cp2, rfl, rfl, ha2, ha3, ha4⟩, hw1.sub (by simp) (by simp)⟩
theorem bld38_0123 {w : World} {v0 : Value} {v1 : Value} {c2 : List Value} {c3 : List Value} (h0 : v0.cells = [v0].toArray) (h1 : v1.cells = [v1].toArray) (h2 : c2.length = 4) (h3 : c3.length = 16) : (Instr.build 38 ([(0, v0), (1, v1), (2, .agg c2.toArray), (3, .agg c3.toArray)] : List (Nat × Value)).toArray).run Tryd.prog w = .ok (.agg (((([v0] : List Value) ++ ([v1] : List Value)) ++ c2) ++ c3).toArray) w :=
 E1 (places := #[(0, 1), (1, 1), (2, 4), (6, 16)]) (Z := (([U64 0] : List Value) ++ (([U64 0] : List Value) ++ (([I64 0, .slice none 0 0, .slice none 0 0, U64 0] : List Value) ++ ((cu8 (zr8 16) : List Value) ++ []))))) (fun _ => by kernel_rfl) BH (fun _ => by kernel_rfl) ((fill_start ([U64 0] : List Value) (([U64 0] : List Value) ++ (([I64 0, .slice none 0 0, .slice none 0 0, U64 0] : List Value) ++ ((cu8 (zr8 16) : List Value) ++ []))) ([v0] : List Value) h0 (by simp [CL]) rfl).trans ((EL ([v0] : List Value) ([U64 0] : List Value) (([I64 0, .slice none 0 0, .slice none 0 0, U64 0] : List Value) ++ ((cu8 (zr8 16) : List Value) ++ [])) ([v1] : List Value) h1 (by simp [CL]) rfl).trans ((EL (([v0] : List Value) ++ ([v1] : List Value)) ([I64 0, .slice none 0 0, .slice none 0 0, U64 0] : List Value) ((cu8 (zr8 16) : List Value) ++ []) c2 rfl (by simp [CL, h2]) (by simp [h2, CL])).trans ((EL ((([v0] : List Value) ++ ([v1] : List Value)) ++ c2) (cu8 (zr8 16) : List Value) [] c3 rfl (by simp [CL, h2, h3]) (by simp [h3, CL])).trans (by simp [Instr.fill])))))
theorem docTZ_c (pv ep : UInt64) (kd : Int) (ai : Option Addr) (ni ci : Nat) (l : List UInt64) (sa : Option Addr) (sc : Nat) (bl : UInt64) (tg : List UInt8)  (w : World) (hl : l.length = ni) (hnm : ni ≤ 2000000) (hnc : ni ≤ ci) (hcm : ci ≤ maxLen) (hv : RdV w ai (cu64 l)) (hcs : sc ≤ maxLen) (hnS : sa = none → sc = 0) (htg : tg.length = 16)  : Calls Tryd.prog 44 #[.agg ([U64 pv, U64 ep, I64 (kd), .slice ai ni ci, .slice sa 0 sc, U64 bl] ++ cu8 tg).toArray] w (Post w [] (fun v L => v = .agg ([U64 pv, U64 ep, I64 kd, .slice ai ni ci, .slice none 0 0, U64 bl] ++ cu8 tg).toArray ∧ L = [])) := by
 have hmx : maxLen = 9223372036854775807 := rfl
 refine enter (P := Tryd.prog) (f := 44) (fn := Tryd.f44) w [] 13 [] [.agg ([U64 pv, U64 ep, I64 (kd), .slice ai ni ci, .slice sa 0 sc, U64 bl] ++ cu8 tg).toArray] Tryd.func44 rfl rfl (by simp) (B2 (by simp) (by simp) (by simp)) ?_
 show JC _ _ _ [(0, .agg ([U64 pv, U64 ep, I64 (kd), .slice ai ni ci, .slice sa 0 sc, U64 bl] ++ cu8 tg).toArray)] _
 refine AI (AC (BG (CE (.agg ([U64 pv, U64 ep, I64 (kd), .slice ai ni ci, .slice sa 0 sc, U64 bl] ++ cu8 tg).toArray) ([U64 pv, U64 ep, I64 (kd), .slice ai ni ci, .slice sa 0 sc, U64 bl] ++ cu8 tg) rfl (by first | rfl | simp)) rfl ?_))
 rintro v1 L1 ⟨nb1, hnb1, rfl, rfl⟩
 show JL _ _ _ _ ((1, Ptr nb1 0) :: _) [⟨nb1, [U64 pv, U64 ep, I64 (kd), .slice ai ni ci, .slice sa 0 sc, U64 bl] ++ cu8 tg, 29, (0, 0)⟩]
 refine BG (DF _ ([U64 0, U64 0, I64 0, .slice none 0 0, .slice none 0 0, U64 0] ++ cu8 (zr8 16)) Tryd.zeroValue38 (by kernel_rfl)) rfl ?_
 rintro v1 L1 ⟨nb2, hnb2, rfl, rfl⟩
 show JL _ _ _ _ ((2, Ptr nb2 0) :: _) [_, ⟨nb2, [U64 0, U64 0, I64 0, .slice none 0 0, .slice none 0 0, U64 0] ++ cu8 (zr8 16), 38, (0, 0)⟩]
 refine AK (AE (AI (DC 13 3 [(0, Ptr nb1 0), (1, U64 pv), (2, Ptr nb1 1), (3, U64 ep), (4, Ptr nb1 2), (5, .agg #[I64 (kd), .slice ai ni ci, .slice sa 0 sc, U64 bl]), (7, Ptr nb1 6), (8, .agg (cu8 tg).toArray)] B9 rfl (by decide +kernel) ?_)))
 refine CP ⟨[], [0, 1, 2, 3, 4, 5, 7, 8], [], [0, 1, 2, 3, 4, 5, 7, 8], [6]⟩ 6 _ rfl rfl (by decide +kernel) rfl ⟨⟨_, rfl, AO rfl (AB 0 22 1 A3 rfl AP rfl rfl)⟩, ⟨_, rfl, AO rfl (AL rfl (AV AR (AY 0 rfl (AH (Seg.head)))))⟩, ⟨_, rfl, AO rfl (AB 1 22 1 A3 rfl AP rfl rfl)⟩, ⟨_, rfl, AO rfl (AL rfl (AV AR (AY 0 rfl (AH (AG (Seg.head))))))⟩, ⟨_, rfl, AO rfl (AB 2 26 4 A3 rfl BN rfl rfl)⟩, ⟨_, rfl, AO rfl (AL rfl (B1 CZ BN rfl (AY 0 rfl (CO (p := [U64 pv, U64 ep]) (q := cu8 tg) (vs := [I64 (kd), .slice ai ni ci, .slice sa 0 sc, U64 bl]) (by first | rfl | (simp only [List.append_assoc, List.nil_append, List.append_nil, List.cons_append]; done)) rfl))))⟩, ⟨_, rfl, AO rfl (AB 6 27 16 A3 rfl CG rfl rfl)⟩, ⟨_, rfl, AO rfl (AL rfl (B1 D3 CG (ET htg) (AY 0 rfl (Seg.right 6 0 rfl rfl (A1 _)))))⟩, trivial⟩ rfl (BJ rfl (A2 66 [.agg #[I64 (kd), .slice ai ni ci, .slice sa 0 sc, U64 bl]] (.agg #[I64 (kd), .slice ai ni ci, .slice none 0 0, U64 bl]) (A5 _ Tryd.call66 rfl) (fun w1 hw1 => order0_c (kd) ai ni ci l sa 0 sc ([] : List SealR) bl w1 hl (by omega) (by omega) (by omega) (BP hw1 rfl hv) rfl (by omega) (by omega) (by omega) RdV.nil rfl))) ?_
 rintro v1 L1 ⟨rfl, rfl⟩
 refine ⟨[(9, .agg ([U64 pv, U64 ep, I64 (kd), .slice ai ni ci, .slice none 0 0, U64 bl] ++ cu8 tg).toArray)], ?_⟩
 show DP _ _ _ _ _ _ _ _ [_, _]
 refine EU ⟨[6], [0, 1, 2, 3, 4, 5, 7, 8, 9], [4, 5], [0, 1, 2, 3, 7, 8, 9], [10]⟩ 10 rfl rfl (by decide +kernel) rfl ⟨⟨_, rfl, AO rfl (AB 0 22 1 A3 rfl AP rfl rfl)⟩, ⟨_, rfl, AO rfl (AL rfl (AV AR (AY 0 rfl (AH (Seg.head)))))⟩, ⟨_, rfl, AO rfl (AB 1 22 1 A3 rfl AP rfl rfl)⟩, ⟨_, rfl, AO rfl (AL rfl (AV AR (AY 0 rfl (AH (AG (Seg.head))))))⟩, ⟨_, rfl, AO rfl (AB 6 27 16 A3 rfl CG rfl rfl)⟩, ⟨_, rfl, AO rfl (AL rfl (B1 D3 CG (ET htg) (AY 0 rfl (Seg.right 6 0 rfl rfl (A1 _)))))⟩, ⟨_, rfl, AO rfl (EN [(0, U64 pv), (1, U64 ep), (2, .agg #[I64 (kd), .slice ai ni ci, .slice none 0 0, U64 bl]), (3, .agg (cu8 tg).toArray)] _ rfl (fun _ => bld38_0123 rfl rfl (by simp [CL]) (by simp [CL, htg])))⟩, trivial⟩ rfl (BJ rfl (C5 1 nb2 22 ([U64 0, U64 0, I64 0, .slice none 0 0, .slice none 0 0, U64 0] ++ cu8 (zr8 16)) 38 ([U64 pv, U64 ep, I64 (kd), .slice ai ni ci, .slice none 0 0, U64 bl] ++ cu8 tg) rfl rfl rfl CA (by simp [htg]) (D4 (by simp [Value.oneCell']) EZ) (by simp [(CL 16)]) (DN (by simp [(CL 16), htg])))) ?_
 show DP _ _ _ _ _ _ _ _ [_, ⟨nb2, [U64 pv, U64 ep, I64 (kd), .slice ai ni ci, .slice none 0 0, U64 bl] ++ cu8 tg, 38, (0, 0)⟩]
 refine DK ⟨[6, 10], [0, 1, 2, 3, 4, 5, 7, 8, 9], [0, 1, 2, 3, 4, 5, 7, 8, 9], [], []⟩ rfl rfl (by decide +kernel) rfl trivial ?_
 refine CY (F' := [(2, Ptr nb2 0)]) (by kernel_rfl) ?_
 refine AE (BA (BF [false, true] ?_))
 show JQ _ _ _ _ [_]
 refine A9 (.agg ([U64 pv, U64 ep, I64 (kd), .slice ai ni ci, .slice none 0 0, U64 bl] ++ cu8 tg).toArray) (res1 Tryd.results44 (RV_cell rfl (B1 DO CA (by simp [htg]) (AY 0 rfl (A1 _))))) fun w1 hw1 => ?_
 exact ⟨_, [], rfl, ⟨rfl, rfl⟩, hw1.sub (by simp) (by simp)⟩
theorem docTP_c (pv ep : UInt64) (kd : Int) (ai : Option Addr) (ni ci : Nat) (l : List UInt64) (sa : Option Addr) (ns sc : Nat) (ls : List SealR) (bl : UInt64) (tg : List UInt8)  (w : World) (hl : l.length = ni) (hnm : ni ≤ 2000000) (hnc : ni ≤ ci) (hcm : ci ≤ maxLen) (hv : RdV w ai (cu64 l)) (hls : ls.length = ns) (hnn : ns ≤ 2000000) (hnd : ns ≤ sc) (hcn : sc ≤ maxLen) (hs : RdV w sa (ls.flatMap sealC)) (hp0 : 0 < ns) (htg : tg.length = 16)  : Calls Tryd.prog 44 #[.agg ([U64 pv, U64 ep, I64 (kd), .slice ai ni ci, .slice sa ns sc, U64 bl] ++ cu8 tg).toArray] w (Post w [] (fun v L => ∃ g sp cap, v = .agg ([U64 pv, U64 ep, I64 kd, .slice ai ni ci, Slc g 0 ns cap, U64 bl] ++ cu8 tg).toArray ∧ L = [⟨g, ls.flatMap sealC ++ sp, 164, (0, 0)⟩] ∧ sp.length = cap * 49 - ns * 49 ∧ ns ≤ cap ∧ cap ≤ maxLen)) := by
 have hmx : maxLen = 9223372036854775807 := rfl
 refine enter (P := Tryd.prog) (f := 44) (fn := Tryd.f44) w [] 13 [] [.agg ([U64 pv, U64 ep, I64 (kd), .slice ai ni ci, .slice sa ns sc, U64 bl] ++ cu8 tg).toArray] Tryd.func44 rfl rfl (by simp) (B2 (by simp) (by simp) (by simp)) ?_
 show JC _ _ _ [(0, .agg ([U64 pv, U64 ep, I64 (kd), .slice ai ni ci, .slice sa ns sc, U64 bl] ++ cu8 tg).toArray)] _
 refine AI (AC (BG (CE (.agg ([U64 pv, U64 ep, I64 (kd), .slice ai ni ci, .slice sa ns sc, U64 bl] ++ cu8 tg).toArray) ([U64 pv, U64 ep, I64 (kd), .slice ai ni ci, .slice sa ns sc, U64 bl] ++ cu8 tg) rfl (by first | rfl | simp)) rfl ?_))
 rintro v1 L1 ⟨nb1, hnb1, rfl, rfl⟩
 show JL _ _ _ _ ((1, Ptr nb1 0) :: _) [⟨nb1, [U64 pv, U64 ep, I64 (kd), .slice ai ni ci, .slice sa ns sc, U64 bl] ++ cu8 tg, 29, (0, 0)⟩]
 refine BG (DF _ ([U64 0, U64 0, I64 0, .slice none 0 0, .slice none 0 0, U64 0] ++ cu8 (zr8 16)) Tryd.zeroValue38 (by kernel_rfl)) rfl ?_
 rintro v1 L1 ⟨nb2, hnb2, rfl, rfl⟩
 show JL _ _ _ _ ((2, Ptr nb2 0) :: _) [_, ⟨nb2, [U64 0, U64 0, I64 0, .slice none 0 0, .slice none 0 0, U64 0] ++ cu8 (zr8 16), 38, (0, 0)⟩]
 refine AK (AE (AI (DC 13 3 [(0, Ptr nb1 0), (1, U64 pv), (2, Ptr nb1 1), (3, U64 ep), (4, Ptr nb1 2), (5, .agg #[I64 (kd), .slice ai ni ci, .slice sa ns sc, U64 bl]), (7, Ptr nb1 6), (8, .agg (cu8 tg).toArray)] B9 rfl (by decide +kernel) ?_)))
 refine CP ⟨[], [0, 1, 2, 3, 4, 5, 7, 8], [], [0, 1, 2, 3, 4, 5, 7, 8], [6]⟩ 6 _ rfl rfl (by decide +kernel) rfl ⟨⟨_, rfl, AO rfl (AB 0 22 1 A3 rfl AP rfl rfl)⟩, ⟨_, rfl, AO rfl (AL rfl (AV AR (AY 0 rfl (AH (Seg.head)))))⟩, ⟨_, rfl, AO rfl (AB 1 22 1 A3 rfl AP rfl rfl)⟩, ⟨_, rfl, AO rfl (AL rfl (AV AR (AY 0 rfl (AH (AG (Seg.head))))))⟩, ⟨_, rfl, AO rfl (AB 2 26 4 A3 rfl BN rfl rfl)⟩, ⟨_, rfl, AO rfl (AL rfl (B1 CZ BN rfl (AY 0 rfl (CO (p := [U64 pv, U64 ep]) (q := cu8 tg) (vs := [I64 (kd), .slice ai ni ci, .slice sa ns sc, U64 bl]) (by first | rfl | (simp only [List.append_assoc, List.nil_append, List.append_nil, List.cons_append]; done)) rfl))))⟩, ⟨_, rfl, AO rfl (AB 6 27 16 A3 rfl CG rfl rfl)⟩, ⟨_, rfl, AO rfl (AL rfl (B1 D3 CG (ET htg) (AY 0 rfl (Seg.right 6 0 rfl rfl (A1 _)))))⟩, trivial⟩ rfl (BJ rfl (BV 66 [.agg #[I64 (kd), .slice ai ni ci, .slice sa ns sc, U64 bl]] _ (A5 _ Tryd.call66 rfl) (fun w1 hw1 => orderP_c (kd) ai ni ci l sa ns sc ls bl w1 hl (by omega) (by omega) (by omega) (BP hw1 rfl hv) hls (by omega) (by omega) (by omega) (BP hw1 rfl hs) (by omega)))) ?_
 rintro v1 L1 ⟨_, ⟨nb3, sp1, cp1, rfl, rfl, hc1, hc2, hc3⟩, rfl⟩
 refine ⟨[(9, .agg ([U64 pv, U64 ep, I64 (kd), .slice ai ni ci, Slc nb3 0 ns cp1, U64 bl] ++ cu8 tg).toArray)], ?_⟩
 show DP _ _ _ _ _ _ _ _ [_, _, ⟨nb3, (ls).flatMap sealC ++ sp1, 164, (0, 0)⟩]
 refine EU ⟨[6], [0, 1, 2, 3, 4, 5, 7, 8, 9], [4, 5], [0, 1, 2, 3, 7, 8, 9], [10]⟩ 10 rfl rfl (by decide +kernel) rfl ⟨⟨_, rfl, AO rfl (AB 0 22 1 A3 rfl AP rfl rfl)⟩, ⟨_, rfl, AO rfl (AL rfl (AV AR (AY 0 rfl (AH (Seg.head)))))⟩, ⟨_, rfl, AO rfl (AB 1 22 1 A3 rfl AP rfl rfl)⟩, ⟨_, rfl, AO rfl (AL rfl (AV AR (AY 0 rfl (AH (AG (Seg.head))))))⟩, ⟨_, rfl, AO rfl (AB 6 27 16 A3 rfl CG rfl rfl)⟩, ⟨_, rfl, AO rfl (AL rfl (B1 D3 CG (ET htg) (AY 0 rfl (Seg.right 6 0 rfl rfl (A1 _)))))⟩, ⟨_, rfl, AO rfl (EN [(0, U64 pv), (1, U64 ep), (2, .agg #[I64 (kd), .slice ai ni ci, Slc nb3 0 ns cp1, U64 bl]), (3, .agg (cu8 tg).toArray)] _ rfl (fun _ => bld38_0123 rfl rfl (by simp [CL]) (by simp [CL, htg])))⟩, trivial⟩ rfl (BJ rfl (C5 1 nb2 22 ([U64 0, U64 0, I64 0, .slice none 0 0, .slice none 0 0, U64 0] ++ cu8 (zr8 16)) 38 ([U64 pv, U64 ep, I64 (kd), .slice ai ni ci, Slc nb3 0 ns cp1, U64 bl] ++ cu8 tg) rfl rfl rfl CA (by simp [htg]) (D4 (by simp [Value.oneCell']) EZ) (by simp [(CL 16)]) (DN (by simp [(CL 16), htg])))) ?_
 show DP _ _ _ _ _ _ _ _ [_, ⟨nb2, [U64 pv, U64 ep, I64 (kd), .slice ai ni ci, Slc nb3 0 ns cp1, U64 bl] ++ cu8 tg, 38, (0, 0)⟩, _]
 refine DK ⟨[6, 10], [0, 1, 2, 3, 4, 5, 7, 8, 9], [0, 1, 2, 3, 4, 5, 7, 8, 9], [], []⟩ rfl rfl (by decide +kernel) rfl trivial ?_
 refine CY (F' := [(2, Ptr nb2 0)]) (by kernel_rfl) ?_
 refine AE (BA (BF [false, true, true] ?_))
 show JQ _ _ _ _ [_, _]
 refine A9 (.agg ([U64 pv, U64 ep, I64 (kd), .slice ai ni ci, Slc nb3 0 ns cp1, U64 bl] ++ cu8 tg).toArray) (res1 Tryd.results44 (RV_cell rfl (B1 DO CA (by simp [htg]) (AY 0 rfl (A1 _))))) fun w1 hw1 => ?_
 exact ⟨_, _, rfl, ⟨nb3, sp1, cp1, rfl, rfl, hc1, hc2, hc3⟩, hw1.sub (by simp) (by simp)⟩
attribute [local irreducible] blankB spanB reqR
theorem spanA_c (fs : UInt64) (mn : Int)  (w : World) (h : mn < 1)  : Calls Tryd.prog 86 #[I64 32, U64 fs, I64 (mn)] w (Post w [] (fun v L => v = .bool (spanB fs mn) ∧ L = [])) := by
 refine enter w [] 35 [] [I64 32, U64 fs, I64 (mn)] Tryd.func86 rfl rfl (by simp) (B2 (by simp) (by simp) (by simp)) ?_
 show JC _ _ _ [(0, I64 32), (1, U64 fs), (2, I64 (mn))] _
 refine AI (AC (AA _ (AF rfl) rfl ?_))
 refine AK (AE (AI (AI (AC (AA _ (AM rfl) rfl ?_)))))
 refine AA (.bool (decide ((32:Int) < (0:Int)))) (AQ rfl rfl fun _ => CX _ _) rfl ?_
 refine AA _ (AM rfl) rfl ?_
 refine AN 2 10 false _ _ rfl rfl (by decide) (AM rfl) rfl ?_
 refine AN 2 10 false _ (.bool (decide ((32:Int) < (32:Int)))) rfl rfl (by decide) (AQ rfl rfl fun _ => C2 _ _) rfl ?_
 refine AA _ (A0 _ rfl (by decide) rfl) rfl ?_
 refine AA _ (AM rfl) rfl ?_
 refine AN 6 14 false _ _ rfl rfl (by decide) (AM rfl) rfl ?_
 refine AN 6 14 false _ (.bool (decide ((mn) < (1:Int)))) rfl rfl (by decide) (AQ rfl rfl fun _ => CX _ _) rfl ?_
 refine AA _ (A0 _ rfl (by decide) rfl) rfl ?_
 refine AA _ (AM rfl) rfl ?_
 refine AD 10 18 false _ rfl rfl (decide_eq_true (by omega)) rfl ?_
 refine AD 10 18 false _ rfl rfl (decide_eq_true (by omega)) rfl ?_
 refine AA _ (BD _ rfl (decide_eq_true (by omega)) rfl) rfl ?_
 refine AK (AE (B5 _ rfl rfl ?_))
 refine AI (AC (AA _ (AF rfl) rfl ?_))
 refine AK (AE (BA (AU (A9 (.bool false) (res1 Tryd.results86 (A7 rfl)) fun w1 hw1 => ?_))))
 exact ⟨_, [], rfl, ⟨congrArg Value.bool (spanB_no (by omega)).symm, rfl⟩, hw1.sub (by simp) (by simp)⟩
theorem spanB_c (fs : UInt64) (mn : Int)  (w : World) (h : 256 < mn)  : Calls Tryd.prog 86 #[I64 32, U64 fs, I64 (mn)] w (Post w [] (fun v L => v = .bool (spanB fs mn) ∧ L = [])) := by
 refine enter w [] 35 [] [I64 32, U64 fs, I64 (mn)] Tryd.func86 rfl rfl (by simp) (B2 (by simp) (by simp) (by simp)) ?_
 show JC _ _ _ [(0, I64 32), (1, U64 fs), (2, I64 (mn))] _
 refine AI (AC (AA _ (AF rfl) rfl ?_))
 refine AK (AE (AI (AI (AC (AA _ (AM rfl) rfl ?_)))))
 refine AA (.bool (decide ((32:Int) < (0:Int)))) (AQ rfl rfl fun _ => CX _ _) rfl ?_
 refine AA _ (AM rfl) rfl ?_
 refine AN 2 10 false _ _ rfl rfl (by decide) (AM rfl) rfl ?_
 refine AN 2 10 false _ (.bool (decide ((32:Int) < (32:Int)))) rfl rfl (by decide) (AQ rfl rfl fun _ => C2 _ _) rfl ?_
 refine AA _ (A0 _ rfl (by decide) rfl) rfl ?_
 refine AA _ (AM rfl) rfl ?_
 refine AN 6 14 false _ _ rfl rfl (by decide) (AM rfl) rfl ?_
 refine AN 6 14 false _ (.bool (decide ((mn) < (1:Int)))) rfl rfl (by decide) (AQ rfl rfl fun _ => CX _ _) rfl ?_
 refine AA _ (A0 _ rfl (by decide) rfl) rfl ?_
 refine AA _ (AM rfl) rfl ?_
 refine AN 10 18 false _ _ rfl rfl (decide_eq_false (by omega)) (AM rfl) rfl ?_
 refine AN 10 18 false _ (.bool (decide ((256:Int) < (mn)))) rfl rfl (decide_eq_false (by omega)) (AQ rfl rfl fun _ => C2 _ _) rfl ?_
 refine AA _ (A0 _ rfl (decide_eq_false (by omega)) rfl) rfl ?_
 refine AK (AE (B5 _ rfl (decide_eq_true (by omega)) ?_))
 refine AI (AC (AA _ (AF rfl) rfl ?_))
 refine AK (AE (BA (AU (A9 (.bool false) (res1 Tryd.results86 (A7 rfl)) fun w1 hw1 => ?_))))
 exact ⟨_, [], rfl, ⟨congrArg Value.bool (spanB_no (by omega)).symm, rfl⟩, hw1.sub (by simp) (by simp)⟩
theorem rspanA_c (fs : UInt64) (mn : Int)  (w : World) (h : mn < 1)  : Calls Tryd.prog 80 #[I64 32, U64 fs, I64 (mn)] w (Post w [] (fun v L => v = .bool (spanB fs mn) ∧ L = [])) := by
 refine enter w [] 47 [] [I64 32, U64 fs, I64 (mn)] Tryd.func80 rfl rfl (by simp) (B2 (by simp) (by simp) (by simp)) ?_
 show JC _ _ _ [(0, I64 32), (1, U64 fs), (2, I64 (mn))] _
 refine AI (AC (AA _ (AF rfl) rfl ?_))
 refine AK (AE (AI (AI (AC (AA _ (AM rfl) rfl ?_)))))
 refine AA (.bool (decide ((32:Int) < (0:Int)))) (AQ rfl rfl fun _ => CX _ _) rfl ?_
 refine AA _ (AM rfl) rfl ?_
 refine AN 2 12 false _ _ rfl rfl (by decide) (AM rfl) rfl ?_
 refine AN 2 12 false _ (.bool (decide ((32:Int) < (32:Int)))) rfl rfl (by decide) (AQ rfl rfl fun _ => C2 _ _) rfl ?_
 refine AA _ (A0 _ rfl (by decide) rfl) rfl ?_
 refine AA _ (AM rfl) rfl ?_
 refine AN 6 16 false _ _ rfl rfl (by decide) (AM rfl) rfl ?_
 refine AN 6 16 false _ (.bool (decide ((mn) < (1:Int)))) rfl rfl (by decide) (AQ rfl rfl fun _ => CX _ _) rfl ?_
 refine AA _ (A0 _ rfl (by decide) rfl) rfl ?_
 refine AA _ (AM rfl) rfl ?_
 refine AD 10 20 false _ rfl rfl (decide_eq_true (by omega)) rfl ?_
 refine AD 10 20 false _ rfl rfl (decide_eq_true (by omega)) rfl ?_
 refine AA _ (BD _ rfl (decide_eq_true (by omega)) rfl) rfl ?_
 refine AK (AE (B5 _ rfl rfl ?_))
 refine AI (AC (AA _ (AF rfl) rfl ?_))
 refine AK (AE (BA (AU (A9 (.bool false) (res1 Tryd.results80 (A7 rfl)) fun w1 hw1 => ?_))))
 exact ⟨_, [], rfl, ⟨congrArg Value.bool (spanB_no (by omega)).symm, rfl⟩, hw1.sub (by simp) (by simp)⟩
theorem rspanB_c (fs : UInt64) (mn : Int)  (w : World) (h : 256 < mn)  : Calls Tryd.prog 80 #[I64 32, U64 fs, I64 (mn)] w (Post w [] (fun v L => v = .bool (spanB fs mn) ∧ L = [])) := by
 refine enter w [] 47 [] [I64 32, U64 fs, I64 (mn)] Tryd.func80 rfl rfl (by simp) (B2 (by simp) (by simp) (by simp)) ?_
 show JC _ _ _ [(0, I64 32), (1, U64 fs), (2, I64 (mn))] _
 refine AI (AC (AA _ (AF rfl) rfl ?_))
 refine AK (AE (AI (AI (AC (AA _ (AM rfl) rfl ?_)))))
 refine AA (.bool (decide ((32:Int) < (0:Int)))) (AQ rfl rfl fun _ => CX _ _) rfl ?_
 refine AA _ (AM rfl) rfl ?_
 refine AN 2 12 false _ _ rfl rfl (by decide) (AM rfl) rfl ?_
 refine AN 2 12 false _ (.bool (decide ((32:Int) < (32:Int)))) rfl rfl (by decide) (AQ rfl rfl fun _ => C2 _ _) rfl ?_
 refine AA _ (A0 _ rfl (by decide) rfl) rfl ?_
 refine AA _ (AM rfl) rfl ?_
 refine AN 6 16 false _ _ rfl rfl (by decide) (AM rfl) rfl ?_
 refine AN 6 16 false _ (.bool (decide ((mn) < (1:Int)))) rfl rfl (by decide) (AQ rfl rfl fun _ => CX _ _) rfl ?_
 refine AA _ (A0 _ rfl (by decide) rfl) rfl ?_
 refine AA _ (AM rfl) rfl ?_
 refine AN 10 20 false _ _ rfl rfl (decide_eq_false (by omega)) (AM rfl) rfl ?_
 refine AN 10 20 false _ (.bool (decide ((256:Int) < (mn)))) rfl rfl (decide_eq_false (by omega)) (AQ rfl rfl fun _ => C2 _ _) rfl ?_
 refine AA _ (A0 _ rfl (decide_eq_false (by omega)) rfl) rfl ?_
 refine AK (AE (B5 _ rfl (decide_eq_true (by omega)) ?_))
 refine AI (AC (AA _ (AF rfl) rfl ?_))
 refine AK (AE (BA (AU (A9 (.bool false) (res1 Tryd.results80 (A7 rfl)) fun w1 hw1 => ?_))))
 exact ⟨_, [], rfl, ⟨congrArg Value.bool (spanB_no (by omega)).symm, rfl⟩, hw1.sub (by simp) (by simp)⟩
theorem spanC_c (fs : UInt64) (mn : Nat)  (w : World) (h1 : 1 ≤ mn) (h2 : mn ≤ 256)  : Calls Tryd.prog 86 #[I64 32, U64 fs, I64 mn] w (Post w [] (fun v L => v = .bool (spanB fs (mn:Int)) ∧ L = [])) := by
 have hmx : maxLen = 9223372036854775807 := rfl
 refine enter w [] 35 [] [I64 32, U64 fs, I64 mn] Tryd.func86 rfl rfl (by simp) (B2 (by simp) (by simp) (by simp)) ?_
 show JC _ _ _ [(0, I64 32), (1, U64 fs), (2, I64 mn)] _
 refine AI (AC (AA _ (AF rfl) rfl ?_))
 refine AK (AE (AI (AI (AC (AA _ (AM rfl) rfl ?_)))))
 refine AA (.bool (decide ((32:Int) < (0:Int)))) (AQ rfl rfl fun _ => CX _ _) rfl ?_
 refine AA _ (AM rfl) rfl ?_
 refine AN 2 10 false _ _ rfl rfl (by decide) (AM rfl) rfl ?_
 refine AN 2 10 false _ (.bool (decide ((32:Int) < (32:Int)))) rfl rfl (by decide) (AQ rfl rfl fun _ => C2 _ _) rfl ?_
 refine AA _ (A0 _ rfl (by decide) rfl) rfl ?_
 refine AA _ (AM rfl) rfl ?_
 refine AN 6 14 false _ _ rfl rfl (by decide) (AM rfl) rfl ?_
 refine AN 6 14 false _ (.bool (decide (((mn:Int)) < (1:Int)))) rfl rfl (by decide) (AQ rfl rfl fun _ => CX _ _) rfl ?_
 refine AA _ (A0 _ rfl (by decide) rfl) rfl ?_
 refine AA _ (AM rfl) rfl ?_
 refine AN 10 18 false _ _ rfl rfl (decide_eq_false (by omega)) (AM rfl) rfl ?_
 refine AN 10 18 false _ (.bool (decide ((256:Int) < ((mn:Int))))) rfl rfl (decide_eq_false (by omega)) (AQ rfl rfl fun _ => C2 _ _) rfl ?_
 refine AA _ (A0 _ rfl (decide_eq_false (by omega)) rfl) rfl ?_
 refine AK (AE (BT _ rfl (decide_eq_false (by omega)) ?_))
 refine BM (AE (AI (AC (AA _ (AM rfl) rfl ?_))))
 refine AA (U64 ((1:UInt64) <<< (32:UInt64))) (AQ rfl rfl fun _ => bin_shl_u64 (1:UInt64) _ _ 32 (by decide) rfl) rfl ?_
 refine AA _ (AF rfl) rfl ?_
 refine AK (AE (AI (AC (AA _ (AM rfl) rfl ?_))))
 refine AA _ (AM rfl) rfl ?_
 refine AA (.bool (decide (fs < ((1:UInt64) <<< (32:UInt64))))) (AQ rfl rfl fun _ => bin_lss_u64 fs ((1:UInt64) <<< (32:UInt64))) rfl ?_
 refine AA _ (AM rfl) rfl ?_
 rcases Bool.eq_false_or_eq_true (decide (fs < ((1:UInt64) <<< (32:UInt64)))) with hb1 | hb1
 ·
  have hp1 : fs < ((1:UInt64) <<< (32:UInt64)) := of_decide_eq_true hb1
  refine AN 3 27 true _ _ rfl rfl hb1 (AM rfl) rfl ?_
  refine AN 3 27 true _ (U64 (UInt64.ofNat mn)) rfl rfl hb1 (DA _ _ rfl fun _ => D9 (by rw [BO]; rfl) BQ mn _ (by omega)) rfl ?_
  refine AN 3 27 true _ _ rfl rfl hb1 (AM rfl) rfl ?_
  refine AN 3 27 true _ _ rfl rfl hb1 (AM rfl) rfl ?_
  refine AN 3 27 true _ (U64 (((1:UInt64) <<< (32:UInt64)) - fs)) rfl rfl hb1 (AQ rfl rfl fun _ => bin_sub_u64 ((1:UInt64) <<< (32:UInt64)) fs) rfl ?_
  refine AN 3 27 true _ (.bool (decide ((UInt64.ofNat mn) ≤ (((1:UInt64) <<< (32:UInt64)) - fs)))) rfl rfl hb1 (AQ rfl rfl fun _ => bin_leq_u64 (UInt64.ofNat mn) (((1:UInt64) <<< (32:UInt64)) - fs)) rfl ?_
  refine AA _ (BD _ rfl hb1 rfl) rfl ?_
  refine AA _ (AF rfl) rfl ?_
  refine AK (AE (BA (A9 (.bool (decide ((UInt64.ofNat mn) ≤ (((1:UInt64) <<< (32:UInt64)) - fs)))) (res1 Tryd.results86 (A7 rfl)) fun w1 hw1 => ?_)))
  refine ⟨_, [], rfl, ⟨congrArg Value.bool ?_, rfl⟩, hw1.sub (by simp) (by simp)⟩
  rw [span_ok h1 h2]
  first | exact (decide_eq_false (span_no (by assumption) h1)).symm | exact decide_eq_decide.2 ⟨fun h => span_hi (by assumption) h h2, fun e => Classical.byContradiction (fun hn => span_lo (by assumption) hn h2 e)⟩
 ·
  have hp1 : ¬ (fs < ((1:UInt64) <<< (32:UInt64))) := of_decide_eq_false hb1
  refine AD 3 27 true _ rfl rfl hb1 rfl ?_
  refine AD 3 27 true _ rfl rfl hb1 rfl ?_
  refine AD 3 27 true _ rfl rfl hb1 rfl ?_
  refine AD 3 27 true _ rfl rfl hb1 rfl ?_
  refine AD 3 27 true _ rfl rfl hb1 rfl ?_
  refine AD 3 27 true _ rfl rfl hb1 rfl ?_
  refine AA _ (A0 _ rfl hb1 rfl) rfl ?_
  refine AA _ (AF rfl) rfl ?_
  refine AK (AE (BA (A9 (.bool false) (res1 Tryd.results86 (A7 rfl)) fun w1 hw1 => ?_)))
  refine ⟨_, [], rfl, ⟨congrArg Value.bool ?_, rfl⟩, hw1.sub (by simp) (by simp)⟩
  rw [span_ok h1 h2]
  first | exact (decide_eq_false (span_no (by assumption) h1)).symm | exact decide_eq_decide.2 ⟨fun h => span_hi (by assumption) h h2, fun e => Classical.byContradiction (fun hn => span_lo (by assumption) hn h2 e)⟩
theorem rspanC_c (fs : UInt64) (mn : Nat)  (w : World) (h1 : 1 ≤ mn) (h2 : mn ≤ 256)  : Calls Tryd.prog 80 #[I64 32, U64 fs, I64 mn] w (Post w [] (fun v L => v = .bool (spanB fs (mn:Int)) ∧ L = [])) := by
 have hmx : maxLen = 9223372036854775807 := rfl
 refine enter w [] 47 [] [I64 32, U64 fs, I64 mn] Tryd.func80 rfl rfl (by simp) (B2 (by simp) (by simp) (by simp)) ?_
 show JC _ _ _ [(0, I64 32), (1, U64 fs), (2, I64 mn)] _
 refine AI (AC (AA _ (AF rfl) rfl ?_))
 refine AK (AE (AI (AI (AC (AA _ (AM rfl) rfl ?_)))))
 refine AA (.bool (decide ((32:Int) < (0:Int)))) (AQ rfl rfl fun _ => CX _ _) rfl ?_
 refine AA _ (AM rfl) rfl ?_
 refine AN 2 12 false _ _ rfl rfl (by decide) (AM rfl) rfl ?_
 refine AN 2 12 false _ (.bool (decide ((32:Int) < (32:Int)))) rfl rfl (by decide) (AQ rfl rfl fun _ => C2 _ _) rfl ?_
 refine AA _ (A0 _ rfl (by decide) rfl) rfl ?_
 refine AA _ (AM rfl) rfl ?_
 refine AN 6 16 false _ _ rfl rfl (by decide) (AM rfl) rfl ?_
 refine AN 6 16 false _ (.bool (decide (((mn:Int)) < (1:Int)))) rfl rfl (by decide) (AQ rfl rfl fun _ => CX _ _) rfl ?_
 refine AA _ (A0 _ rfl (by decide) rfl) rfl ?_
 refine AA _ (AM rfl) rfl ?_
 refine AN 10 20 false _ _ rfl rfl (decide_eq_false (by omega)) (AM rfl) rfl ?_
 refine AN 10 20 false _ (.bool (decide ((256:Int) < ((mn:Int))))) rfl rfl (decide_eq_false (by omega)) (AQ rfl rfl fun _ => C2 _ _) rfl ?_
 refine AA _ (A0 _ rfl (decide_eq_false (by omega)) rfl) rfl ?_
 refine AK (AE (BT _ rfl (decide_eq_false (by omega)) ?_))
 refine BM (AE (AI (AC (AA _ (AF rfl) rfl ?_))))
 refine AK (AE (AI (AI (AC (AA _ (AF rfl) rfl ?_)))))
 refine AK (AE (BY (EG (ι := Nat × UInt64) (fun ⟨j, y⟩ => [(0, I64 32), (1, U64 fs), (2, I64 mn), (6, .bool false), (8, I64 j), (7, U64 y)]) (fun ⟨j, y⟩ => []) (fun ⟨j, y⟩ => j ≤ 32 ∧ y = UInt64.ofNat (2 ^ j)) (fun ⟨j, y⟩ => 32 - j) (0, 1) ⟨by omega, rfl⟩ (Sub.all rfl) rfl ?_)))
 rintro ⟨j, y⟩ ⟨hj1, hj2⟩
 show JC _ _ _ [(0, I64 32), (1, U64 fs), (2, I64 mn), (6, .bool false), (8, I64 j), (7, U64 y)] []
 refine AI (AI (AC (AA _ (AM rfl) rfl ?_)))
 refine AA _ (AM rfl) rfl ?_
 refine AA (.bool (decide (((j:Int)) < (32:Int)))) (AQ rfl rfl fun _ => CX _ _) rfl ?_
 refine AK (AE (BZ (decide (((j:Int)) < (32:Int))) rfl (fun hb1 => ?_) (fun hb1 => ?_)))
 ·
  have hp1 : ((j:Int)) < (32:Int) := of_decide_eq_true hb1
  refine BM (AE (AI (BY (AC (AA _ (AM rfl) rfl ?_)))))
  refine AA (U64 (y * (2:UInt64))) (AQ rfl rfl fun _ => bin_mul_u64 y (2:UInt64)) rfl ?_
  refine AA _ (AF rfl) rfl ?_
  refine AK (BR (AE (AC (AA _ (AM rfl) rfl ?_))))
  refine AA (I64 ((j:Int) + 1)) (AQ rfl rfl fun _ => DV _ _ ((j:Int) + 1) (by omega) (by omega)) rfl ?_
  refine AA _ (AF rfl) rfl ?_
  refine AK (DU (EM (j + 1, y * 2) ⟨by omega, by rw [hj2]; exact pow2_step j⟩ (by first | (simp; omega) | simp | (dsimp only; omega) | omega) (Sub.all rfl) rfl))
 ·
  have hp1 : ¬ (((j:Int)) < (32:Int)) := of_decide_eq_false hb1
  refine EH (BX (BX (DH (AE (AI (AI ?_))))))
  have hj3 : j = 32 := by omega
  have hy : y = 4294967296 := by rw [hj2, hj3]; rfl
  subst hy
  refine AC (AA _ (AF rfl) rfl ?_)
  refine AK (AE (BY (EG (ι := Nat) (fun i => [(1, U64 fs), (2, I64 mn), (7, U64 4294967296), (9, I64 i)]) (fun i => []) (fun i => i ≤ mn ∧ (0 < i → fs < 4294967296 ∧ UInt64.ofNat (i - 1) < 4294967296 - fs)) (fun i => mn - i) 0 ⟨by omega, fun h => absurd h (by omega)⟩ (Sub.all rfl) rfl ?_)))
  rintro i ⟨hi1, hi2⟩
  show JC _ _ _ [(1, U64 fs), (2, I64 mn), (7, U64 4294967296), (9, I64 i)] []
  refine AI (AI (AC (AA _ (AM rfl) rfl ?_)))
  refine AA _ (AM rfl) rfl ?_
  refine AA (.bool (decide (((i:Int)) < ((mn:Int))))) (AQ rfl rfl fun _ => CX _ _) rfl ?_
  refine AK (AE (BZ (decide (((i:Int)) < ((mn:Int)))) rfl (fun hb2 => ?_) (fun hb2 => ?_)))
  ·
   have hp2 : ((i:Int)) < ((mn:Int)) := of_decide_eq_true hb2
   refine BM (AE (AI (BY (AI (AC (AA _ (AM rfl) rfl ?_))))))
   refine AA _ (AM rfl) rfl ?_
   refine AA (.bool (decide ((4294967296:UInt64) ≤ fs))) (AQ rfl rfl fun _ => EF fs (4294967296:UInt64)) rfl ?_
   refine AA _ (AM rfl) rfl ?_
   rcases Bool.eq_false_or_eq_true (decide ((4294967296:UInt64) ≤ fs)) with hb3 | hb3
   ·
    have hp3 : (4294967296:UInt64) ≤ fs := of_decide_eq_true hb3
    refine AD 3 39 false _ rfl rfl hb3 rfl ?_
    refine AD 3 39 false _ rfl rfl hb3 rfl ?_
    refine AD 3 39 false _ rfl rfl hb3 rfl ?_
    refine AD 3 39 false _ rfl rfl hb3 rfl ?_
    refine AD 3 39 false _ rfl rfl hb3 rfl ?_
    refine AD 3 39 false _ rfl rfl hb3 rfl ?_
    refine AA _ (BD _ rfl hb3 rfl) rfl ?_
    refine AK (AE (B5 _ rfl rfl ?_))
    refine AI (AC (AA _ (AF rfl) rfl ?_))
    refine AK (AE (BA (BK (AU (AU (BK (AU (A9 (.bool false) (res1 Tryd.results80 (A7 rfl)) fun w1 hw1 => ?_))))))))
    refine ⟨_, [], rfl, ⟨congrArg Value.bool ?_, rfl⟩, hw1.sub (by simp) (by simp)⟩
    rw [span_ok h1 h2]
    refine (decide_eq_false ?_).symm
    exact span_no (UInt64.not_lt.2 (of_decide_eq_true hb3)) h1
   ·
    have hp3 : ¬ ((4294967296:UInt64) ≤ fs) := of_decide_eq_false hb3
    refine AN 3 39 false _ _ rfl rfl hb3 (AM rfl) rfl ?_
    refine AN 3 39 false _ (U64 (UInt64.ofNat i)) rfl rfl hb3 (DA _ _ rfl fun _ => D9 (by rw [BO]; rfl) BQ i _ (by omega)) rfl ?_
    refine AN 3 39 false _ _ rfl rfl hb3 (AM rfl) rfl ?_
    refine AN 3 39 false _ _ rfl rfl hb3 (AM rfl) rfl ?_
    refine AN 3 39 false _ (U64 ((4294967296:UInt64) - fs)) rfl rfl hb3 (AQ rfl rfl fun _ => bin_sub_u64 (4294967296:UInt64) fs) rfl ?_
    refine AN 3 39 false _ (.bool (decide (((4294967296:UInt64) - fs) ≤ (UInt64.ofNat i)))) rfl rfl hb3 (AQ rfl rfl fun _ => EF (UInt64.ofNat i) ((4294967296:UInt64) - fs)) rfl ?_
    refine AA _ (A0 _ rfl hb3 rfl) rfl ?_
    refine AK (AE (BZ (decide (((4294967296:UInt64) - fs) ≤ (UInt64.ofNat i))) rfl (fun hb4 => ?_) (fun hb4 => ?_)))
    ·
     have hp4 : ((4294967296:UInt64) - fs) ≤ (UInt64.ofNat i) := of_decide_eq_true hb4
     refine AI (AC (AA _ (AF rfl) rfl ?_))
     refine AK (AE (BA (BK (AU (AU (BK (AU (A9 (.bool false) (res1 Tryd.results80 (A7 rfl)) fun w1 hw1 => ?_))))))))
     refine ⟨_, [], rfl, ⟨congrArg Value.bool ?_, rfl⟩, hw1.sub (by simp) (by simp)⟩
     rw [span_ok h1 h2]
     refine (decide_eq_false ?_).symm
     exact span_gt (i := i) (UInt64.not_le.1 (of_decide_eq_false hb3)) (of_decide_eq_true hb4) (by omega) (by omega)
    ·
     have hp4 : ¬ (((4294967296:UInt64) - fs) ≤ (UInt64.ofNat i)) := of_decide_eq_false hb4
     refine BM (BR (AE (AC (AA _ (AM rfl) rfl ?_))))
     refine AA (I64 ((i:Int) + 1)) (AQ rfl rfl fun _ => DV _ _ ((i:Int) + 1) (by omega) (by omega)) rfl ?_
     refine AA _ (AF rfl) rfl ?_
     refine AK (DU (EM (i + 1) ⟨by omega, fun _ => ⟨UInt64.not_le.1 (of_decide_eq_false hb3), by rw [Nat.add_sub_cancel]; exact UInt64.not_le.1 (of_decide_eq_false hb4)⟩⟩ (by first | (simp; omega) | simp | (dsimp only; omega) | omega) (Sub.all rfl) rfl))
  ·
   have hp2 : ¬ (((i:Int)) < ((mn:Int))) := of_decide_eq_false hb2
   refine EH (BX (BX (DH (AE (AI (AC (AA _ (AF rfl) rfl ?_)))))))
   refine AK (AE (BA (A9 (.bool true) (res1 Tryd.results80 (A7 rfl)) fun w1 hw1 => ?_)))
   refine ⟨_, [], rfl, ⟨congrArg Value.bool ?_, rfl⟩, hw1.sub (by simp) (by simp)⟩
   rw [span_ok h1 h2]
   obtain rfl : i = mn := by omega
   obtain ⟨a1, a2⟩ := hi2 (by omega)
   exact (decide_eq_true (span_lt a1 a2 h1 h2)).symm
theorem span_w (fs : UInt64) (mn : Int) (w : World) : Calls Tryd.prog 86 #[I64 32, U64 fs, I64 mn] w (Post w [] (fun v L => v = .bool (spanB fs mn) ∧ L = [])) := by
  by_cases h1 : mn < 1
  · exact spanA_c fs mn w h1
  by_cases h2 : 256 < mn
  · exact spanB_c fs mn w h2
  · obtain ⟨k, rfl⟩ : ∃ k : Nat, mn = k := ⟨mn.toNat, by omega⟩
    exact spanC_c fs k w (by omega) (by omega)
theorem E3 (fs : UInt64) (mn : Int) (w : World) : Calls Tryd.prog 80 #[I64 32, U64 fs, I64 mn] w (Post w [] (fun v L => v = .bool (spanB fs mn) ∧ L = [])) := by
  by_cases h1 : mn < 1
  · exact rspanA_c fs mn w h1
  by_cases h2 : 256 < mn
  · exact rspanB_c fs mn w h2
  · obtain ⟨k, rfl⟩ : ∃ k : Nat, mn = k := ⟨mn.toNat, by omega⟩
    exact rspanC_c fs k w (by omega) (by omega)
theorem blank_c (pv ep : UInt64) (kd : Int) (ai : Option Addr) (ni ci : Nat) (l : List UInt64) (sa : Option Addr) (ns sc : Nat) (ls : List SealR) (bl : UInt64) (tg : List UInt8)  (w : World) (hl : l.length = ni) (hnm : ni ≤ 2000000) (hnc : ni ≤ ci) (hcm : ci ≤ maxLen) (hv : RdV w ai (cu64 l)) (hls : ls.length = ns) (hnn : ns ≤ 2000000) (hnd : ns ≤ sc) (hcn : sc ≤ maxLen) (hs : RdV w sa (ls.flatMap sealC)) (htg : tg.length = 16)  : Calls Tryd.prog 84 #[.agg ([U64 pv, U64 ep, I64 (kd), .slice ai ni ci, .slice sa ns sc, U64 bl] ++ cu8 tg).toArray] w (Post w [] (fun v L => v = .bool (blankB pv ep kd l ls bl tg) ∧ L = [])) := by
 have hmx : maxLen = 9223372036854775807 := rfl
 refine enter (P := Tryd.prog) (f := 84) (fn := Tryd.f84) w [] 6 [] [.agg ([U64 pv, U64 ep, I64 (kd), .slice ai ni ci, .slice sa ns sc, U64 bl] ++ cu8 tg).toArray] Tryd.func84 rfl rfl (by simp) (B2 (by simp) (by simp) (by simp)) ?_
 show JC _ _ _ [(0, .agg ([U64 pv, U64 ep, I64 (kd), .slice ai ni ci, .slice sa ns sc, U64 bl] ++ cu8 tg).toArray)] _
 refine AI (AC (BG (CE (.agg ([U64 pv, U64 ep, I64 (kd), .slice ai ni ci, .slice sa ns sc, U64 bl] ++ cu8 tg).toArray) ([U64 pv, U64 ep, I64 (kd), .slice ai ni ci, .slice sa ns sc, U64 bl] ++ cu8 tg) rfl (by first | rfl | simp)) rfl ?_))
 rintro v1 L1 ⟨nb1, hnb1, rfl, rfl⟩
 show JL _ _ _ _ ((1, Ptr nb1 0) :: _) [⟨nb1, [U64 pv, U64 ep, I64 (kd), .slice ai ni ci, .slice sa ns sc, U64 bl] ++ cu8 tg, 29, (0, 0)⟩]
 refine AA _ (AF rfl) rfl ?_
 refine AK (AE (AI (AC (AA (.agg ([U64 pv, U64 ep, I64 (kd), .slice ai ni ci, .slice sa ns sc, U64 bl] ++ cu8 tg).toArray) (AL rfl (B1 D2 CN (by simp [htg]) (AY 0 rfl (A1 _)))) rfl ?_))))
 refine AA (.agg ([U64 0, U64 0, I64 0, .slice none 0 0, .slice none 0 0, U64 0] ++ cu8 (zr8 16)).toArray) (EN [] _ rfl (fun _ => by kernel_rfl)) rfl ?_
 refine BS (A2 49 [.agg ([U64 pv, U64 ep, I64 (kd), .slice ai ni ci, .slice sa ns sc, U64 bl] ++ cu8 tg).toArray, .agg ([U64 0, U64 0, I64 0, .slice none 0 0, .slice none 0 0, U64 0] ++ cu8 (zr8 16)).toArray] (.bool (decide (pv = (0:UInt64) ∧ ep = (0:UInt64) ∧ tg = (zr8 16) ∧ (kd) = (0:Int) ∧ bl = (0:UInt64) ∧ l = ([] : List UInt64) ∧ ls = ([] : List SealR)))) (A5 _ Tryd.call49 rfl) (fun w1 hw1 => same13_c pv ep (kd) ai ni ci l sa ns sc ls bl tg (0:UInt64) (0:UInt64) (0:Int) none 0 0 ([] : List UInt64) none 0 0 ([] : List SealR) (0:UInt64) (zr8 16) w1 hl (by omega) (by omega) (by omega) (BP hw1 rfl hv) hls (by omega) (by omega) (by omega) (BP hw1 rfl hs) htg rfl (by omega) (by omega) (by omega) RdV.nil rfl (by omega) (by omega) (by omega) RdV.nil (CL 16))) rfl ?_
 show JL _ _ _ _ ((5, .bool (decide (pv = (0:UInt64) ∧ ep = (0:UInt64) ∧ tg = (zr8 16) ∧ (kd) = (0:Int) ∧ bl = (0:UInt64) ∧ l = ([] : List UInt64) ∧ ls = ([] : List SealR)))) :: _) [_]
 refine AA _ (AF rfl) rfl ?_
 refine AK (AE (BA (BF [false] ?_)))
 show JQ _ _ _ _ []
 refine A9 (.bool (decide (pv = (0:UInt64) ∧ ep = (0:UInt64) ∧ tg = (zr8 16) ∧ (kd) = (0:Int) ∧ bl = (0:UInt64) ∧ l = ([] : List UInt64) ∧ ls = ([] : List SealR)))) (res1 Tryd.results84 (A7 rfl)) fun w1 hw1 => ?_
 exact ⟨_, [], rfl, ⟨congrArg Value.bool (show _ = _ from by unfold blankB; rfl), rfl⟩, hw1.sub (by simp) (by simp)⟩
theorem rblank_c (pv ep : UInt64) (kd : Int) (ai : Option Addr) (ni ci : Nat) (l : List UInt64) (sa : Option Addr) (ns sc : Nat) (ls : List SealR) (bl : UInt64) (tg : List UInt8)  (w : World) (hl : l.length = ni) (hnm : ni ≤ 2000000) (hnc : ni ≤ ci) (hcm : ci ≤ maxLen) (hv : RdV w ai (cu64 l)) (hls : ls.length = ns) (hnn : ns ≤ 2000000) (hnd : ns ≤ sc) (hcn : sc ≤ maxLen) (hs : RdV w sa (ls.flatMap sealC)) (htg : tg.length = 16)  : Calls Tryd.prog 78 #[.agg ([U64 pv, U64 ep, I64 (kd), .slice ai ni ci, .slice sa ns sc, U64 bl] ++ cu8 tg).toArray] w (Post w [] (fun v L => v = .bool (blankB pv ep kd l ls bl tg) ∧ L = [])) := by
 have hmx : maxLen = 9223372036854775807 := rfl
 refine enter (P := Tryd.prog) (f := 78) (fn := Tryd.f78) w [] 6 [] [.agg ([U64 pv, U64 ep, I64 (kd), .slice ai ni ci, .slice sa ns sc, U64 bl] ++ cu8 tg).toArray] Tryd.func78 rfl rfl (by simp) (B2 (by simp) (by simp) (by simp)) ?_
 show JC _ _ _ [(0, .agg ([U64 pv, U64 ep, I64 (kd), .slice ai ni ci, .slice sa ns sc, U64 bl] ++ cu8 tg).toArray)] _
 refine AI (AC (BG (CE (.agg ([U64 pv, U64 ep, I64 (kd), .slice ai ni ci, .slice sa ns sc, U64 bl] ++ cu8 tg).toArray) ([U64 pv, U64 ep, I64 (kd), .slice ai ni ci, .slice sa ns sc, U64 bl] ++ cu8 tg) rfl (by first | rfl | simp)) rfl ?_))
 rintro v1 L1 ⟨nb1, hnb1, rfl, rfl⟩
 show JL _ _ _ _ ((1, Ptr nb1 0) :: _) [⟨nb1, [U64 pv, U64 ep, I64 (kd), .slice ai ni ci, .slice sa ns sc, U64 bl] ++ cu8 tg, 38, (0, 0)⟩]
 refine AA _ (AF rfl) rfl ?_
 refine AK (AE (AI (AC (AA (.agg ([U64 pv, U64 ep, I64 (kd), .slice ai ni ci, .slice sa ns sc, U64 bl] ++ cu8 tg).toArray) (AL rfl (B1 DO CA (by simp [htg]) (AY 0 rfl (A1 _)))) rfl ?_))))
 refine AA (.agg ([U64 0, U64 0, I64 0, .slice none 0 0, .slice none 0 0, U64 0] ++ cu8 (zr8 16)).toArray) (EN [] _ rfl (fun _ => by kernel_rfl)) rfl ?_
 refine BS (A2 51 [.agg ([U64 pv, U64 ep, I64 (kd), .slice ai ni ci, .slice sa ns sc, U64 bl] ++ cu8 tg).toArray, .agg ([U64 0, U64 0, I64 0, .slice none 0 0, .slice none 0 0, U64 0] ++ cu8 (zr8 16)).toArray] (.bool (decide (pv = (0:UInt64) ∧ ep = (0:UInt64) ∧ tg = (zr8 16) ∧ (kd) = (0:Int) ∧ bl = (0:UInt64) ∧ l = ([] : List UInt64) ∧ ls = ([] : List SealR)))) (A5 _ Tryd.call51 rfl) (fun w1 hw1 => rsame13_c pv ep (kd) ai ni ci l sa ns sc ls bl tg (0:UInt64) (0:UInt64) (0:Int) none 0 0 ([] : List UInt64) none 0 0 ([] : List SealR) (0:UInt64) (zr8 16) w1 hl (by omega) (by omega) (by omega) (BP hw1 rfl hv) hls (by omega) (by omega) (by omega) (BP hw1 rfl hs) htg rfl (by omega) (by omega) (by omega) RdV.nil rfl (by omega) (by omega) (by omega) RdV.nil (CL 16))) rfl ?_
 show JL _ _ _ _ ((5, .bool (decide (pv = (0:UInt64) ∧ ep = (0:UInt64) ∧ tg = (zr8 16) ∧ (kd) = (0:Int) ∧ bl = (0:UInt64) ∧ l = ([] : List UInt64) ∧ ls = ([] : List SealR)))) :: _) [_]
 refine AA _ (AF rfl) rfl ?_
 refine AK (AE (BA (BF [false] ?_)))
 show JQ _ _ _ _ []
 refine A9 (.bool (decide (pv = (0:UInt64) ∧ ep = (0:UInt64) ∧ tg = (zr8 16) ∧ (kd) = (0:Int) ∧ bl = (0:UInt64) ∧ l = ([] : List UInt64) ∧ ls = ([] : List SealR)))) (res1 Tryd.results78 (A7 rfl)) fun w1 hw1 => ?_
 exact ⟨_, [], rfl, ⟨congrArg Value.bool (show _ = _ from by unfold blankB; rfl), rfl⟩, hw1.sub (by simp) (by simp)⟩
theorem wmayK_c (pv ep : UInt64) (k : Nat) (ai : Option Addr) (ni ci : Nat) (l : List UInt64) (sa : Option Addr) (ns sc : Nat) (ls : List SealR) (bl : UInt64) (tg : List UInt8) (tot : Nat)  (w : World) (hl : l.length = ni) (hnm : ni ≤ 2000000) (hnc : ni ≤ ci) (hcm : ci ≤ maxLen) (hv : RdV w ai (cu64 l)) (hls : ls.length = ns) (hnn : ns ≤ 2000000) (hnd : ns ≤ sc) (hcn : sc ≤ maxLen) (hs : RdV w sa (ls.flatMap sealC)) (htg : tg.length = 16) (hmay : mayN pv ep (k:Int) l ls bl = 0) (hk : k = 1 ∨ k = 2 ∨ k = 3) (hsm : ns ≤ 300) (htot : tktN k ni ns = tot) (htb : tot ≤ 30000)  : Calls Tryd.prog 87 #[.agg ([U64 pv, U64 ep, I64 k, .slice ai ni ci, .slice sa ns sc, U64 bl] ++ cu8 tg).toArray] w (Post w [] (fun v L => v = .bool true ∧ L = [])) := by
 have hmx : maxLen = 9223372036854775807 := rfl
 refine enter (P := Tryd.prog) (f := 87) (fn := Tryd.f87) w [] 12 [] [.agg ([U64 pv, U64 ep, I64 k, .slice ai ni ci, .slice sa ns sc, U64 bl] ++ cu8 tg).toArray] Tryd.func87 rfl rfl (by simp) (B2 (by simp) (by simp) (by simp)) ?_
 show JC _ _ _ [(0, .agg ([U64 pv, U64 ep, I64 k, .slice ai ni ci, .slice sa ns sc, U64 bl] ++ cu8 tg).toArray)] _
 refine AI (AC (BG (CE (.agg ([U64 pv, U64 ep, I64 k, .slice ai ni ci, .slice sa ns sc, U64 bl] ++ cu8 tg).toArray) ([U64 pv, U64 ep, I64 k, .slice ai ni ci, .slice sa ns sc, U64 bl] ++ cu8 tg) rfl (by first | rfl | simp)) rfl ?_))
 rintro v1 L1 ⟨nb1, hnb1, rfl, rfl⟩
 show JL _ _ _ _ ((1, Ptr nb1 0) :: _) [⟨nb1, [U64 pv, U64 ep, I64 k, .slice ai ni ci, .slice sa ns sc, U64 bl] ++ cu8 tg, 29, (0, 0)⟩]
 refine AA _ (AF rfl) rfl ?_
 refine AK (AE (AI (AC (AA (.agg ([U64 pv, U64 ep, I64 k, .slice ai ni ci, .slice sa ns sc, U64 bl] ++ cu8 tg).toArray) (AL rfl (B1 D2 CN (by simp [htg]) (AY 0 rfl (A1 _)))) rfl ?_))))
 refine BG (BV 47 [.agg ([U64 pv, U64 ep, I64 k, .slice ai ni ci, .slice sa ns sc, U64 bl] ++ cu8 tg).toArray] _ (A5 _ Tryd.call47 rfl) (fun w1 hw1 => put13_c pv ep k ai ni ci l sa ns sc ls bl tg tot w1 hl (by omega) (by omega) (by omega) (BP hw1 rfl hv) hls (by omega) (by omega) (by omega) (BP hw1 rfl hs) htg hmay hk hsm htot (by omega))) rfl ?_
 rintro v1 L1 ⟨_, ⟨nb2, sp1, cp1, rfl, rfl, hc1, hc2, hc3⟩, rfl⟩
 show JL _ _ _ _ ((7, .tuple #[Slc nb2 0 (tot + 16) cp1, .nilIface]) :: _) [_, ⟨nb2, cu8 ((tktT pv ep k l ls bl) ++ tg) ++ sp1, 5, (0, 0)⟩]
 refine AA _ (AM rfl) rfl ?_
 refine AA _ (CC rfl rfl) rfl ?_
 refine AA _ (CC rfl rfl) rfl ?_
 refine AA _ (AF rfl) rfl ?_
 refine AA _ (AF rfl) rfl ?_
 refine AK (AE (AI (AC (AA _ (AM rfl) rfl ?_))))
 refine AA (.bool true) (D5 _ _ _ rfl rfl (fun _ => EK ..) fun _ => D6 CT) rfl ?_
 refine AA _ (AF rfl) rfl ?_
 refine AK (AE (BA (BF [false, false] ?_)))
 show JQ _ _ _ _ []
 refine A9 (.bool true) (res1 Tryd.results87 (A7 rfl)) fun w1 hw1 => ?_
 exact ⟨_, [], rfl, ⟨rfl, rfl⟩, hw1.sub (by simp) (by simp)⟩
theorem wmayB_c (pv ep : UInt64) (kd : Int) (ai : Option Addr) (ni ci : Nat) (l : List UInt64) (sa : Option Addr) (ns sc : Nat) (ls : List SealR) (bl : UInt64) (tg : List UInt8)  (w : World) (hl : l.length = ni) (hnm : ni ≤ 2000000) (hnc : ni ≤ ci) (hcm : ci ≤ maxLen) (hv : RdV w ai (cu64 l)) (hls : ls.length = ns) (hnn : ns ≤ 2000000) (hnd : ns ≤ sc) (hcn : sc ≤ maxLen) (hs : RdV w sa (ls.flatMap sealC)) (htg : tg.length = 16) (hm : mayN pv ep kd l ls bl ≠ 0)  : Calls Tryd.prog 87 #[.agg ([U64 pv, U64 ep, I64 (kd), .slice ai ni ci, .slice sa ns sc, U64 bl] ++ cu8 tg).toArray] w (Post w [] (fun v L => v = .bool false ∧ L = [])) := by
 have hmx : maxLen = 9223372036854775807 := rfl
 refine enter (P := Tryd.prog) (f := 87) (fn := Tryd.f87) w [] 12 [] [.agg ([U64 pv, U64 ep, I64 (kd), .slice ai ni ci, .slice sa ns sc, U64 bl] ++ cu8 tg).toArray] Tryd.func87 rfl rfl (by simp) (B2 (by simp) (by simp) (by simp)) ?_
 show JC _ _ _ [(0, .agg ([U64 pv, U64 ep, I64 (kd), .slice ai ni ci, .slice sa ns sc, U64 bl] ++ cu8 tg).toArray)] _
 refine AI (AC (BG (CE (.agg ([U64 pv, U64 ep, I64 (kd), .slice ai ni ci, .slice sa ns sc, U64 bl] ++ cu8 tg).toArray) ([U64 pv, U64 ep, I64 (kd), .slice ai ni ci, .slice sa ns sc, U64 bl] ++ cu8 tg) rfl (by first | rfl | simp)) rfl ?_))
 rintro v1 L1 ⟨nb1, hnb1, rfl, rfl⟩
 show JL _ _ _ _ ((1, Ptr nb1 0) :: _) [⟨nb1, [U64 pv, U64 ep, I64 (kd), .slice ai ni ci, .slice sa ns sc, U64 bl] ++ cu8 tg, 29, (0, 0)⟩]
 refine AA _ (AF rfl) rfl ?_
 refine AK (AE (AI (AC (AA (.agg ([U64 pv, U64 ep, I64 (kd), .slice ai ni ci, .slice sa ns sc, U64 bl] ++ cu8 tg).toArray) (AL rfl (B1 D2 CN (by simp [htg]) (AY 0 rfl (A1 _)))) rfl ?_))))
 refine BS (A2 47 [.agg ([U64 pv, U64 ep, I64 (kd), .slice ai ni ci, .slice sa ns sc, U64 bl] ++ cu8 tg).toArray] (.tuple #[.slice none 0 0, errV 50 (mayN pv ep (kd) l ls bl)]) (A5 _ Tryd.call47 rfl) (fun w1 hw1 => putB_c pv ep (kd) ai ni ci l sa ns sc ls bl tg w1 hl (by omega) (by omega) (by omega) (BP hw1 rfl hv) hls (by omega) (by omega) (by omega) (BP hw1 rfl hs) htg hm)) rfl ?_
 show JL _ _ _ _ ((7, .tuple #[.slice none 0 0, errV 50 (mayN pv ep (kd) l ls bl)]) :: _) [_]
 refine AA _ (AM rfl) rfl ?_
 refine AA _ (CC rfl rfl) rfl ?_
 refine AA _ (CC rfl rfl) rfl ?_
 refine AA _ (AF rfl) rfl ?_
 refine AA _ (AF rfl) rfl ?_
 refine AK (AE (AI (AC (AA _ (AM rfl) rfl ?_))))
 refine AA (.bool (decide (mayN pv ep (kd) l ls bl = 0))) (D5 _ _ _ rfl rfl (fun _ => FB ..) fun _ => eql_errV CT _ _) rfl ?_
 refine AA _ (AF rfl) rfl ?_
 refine AK (AE (BA (BF [false] ?_)))
 show JQ _ _ _ _ []
 refine A9 (.bool (decide (mayN pv ep (kd) l ls bl = 0))) (res1 Tryd.results87 (A7 rfl)) fun w1 hw1 => ?_
 exact ⟨_, [], rfl, ⟨congrArg Value.bool (decide_eq_false hm), rfl⟩, hw1.sub (by simp) (by simp)⟩
theorem wmay_w (pv ep : UInt64) (kd : Int) (ai : Option Addr) (ni ci : Nat) (l : List UInt64) (sa : Option Addr) (ns sc : Nat) (ls : List SealR) (bl : UInt64) (tg : List UInt8) (w : World) (hl : l.length = ni) (hnm : ni ≤ 2000000) (hnc : ni ≤ ci) (hcm : ci ≤ maxLen) (hv : RdV w ai (cu64 l)) (hls : ls.length = ns) (hnn : ns ≤ 2000000) (hnd : ns ≤ sc) (hcn : sc ≤ maxLen) (hs : RdV w sa (ls.flatMap sealC)) (htg : tg.length = 16) (hbi : ni ≤ 300) (hbs : ns ≤ 300) : Calls Tryd.prog 87 #[.agg ([U64 pv, U64 ep, I64 (kd), .slice ai ni ci, .slice sa ns sc, U64 bl] ++ cu8 tg).toArray] w (Post w [] (fun v L => v = .bool (decide (mayN pv ep kd l ls bl = 0)) ∧ L = [])) := by
  by_cases hm : mayN pv ep kd l ls bl = 0
  · obtain ⟨k, rfl, hk⟩ : ∃ k : Nat, kd = k ∧ (k = 1 ∨ k = 2 ∨ k = 3) := by
      rcases RightO_cases (mayN_right hm) with ⟨rfl, _⟩ | ⟨rfl, _⟩ | ⟨rfl, _⟩
      · exact ⟨1, rfl, .inl rfl⟩
      · exact ⟨2, rfl, .inr (.inl rfl)⟩
      · exact ⟨3, rfl, .inr (.inr rfl)⟩
    rw [decide_eq_true hm]
    exact wmayK_c pv ep k ai ni ci l sa ns sc ls bl tg (tktN k ni ns) w hl hnm hnc hcm hv hls hnn hnd hcn hs htg hm hk hbs rfl (tktN_le (by omega) (by omega))
  · rw [decide_eq_false hm]
    exact wmayB_c pv ep kd ai ni ci l sa ns sc ls bl tg w hl hnm hnc hcm hv hls hnn hnd hcn hs htg hm
end Go.Proofs.YtkdpdgpphpngeaaDoor
