import Derived.Test.YtkdpdgpphpngeaaDoorPkWR3
set_option linter.unusedVariables false
set_option linter.unusedSimpArgs false
set_option maxRecDepth 100000
namespace Go.Proofs.YtkdpdgpphpngeaaDoor
open Go Go.Sx
attribute [local irreducible] mid zr8 numK rnK valK constL initL putL RightB tktT mayN idxT selT blankB spanB reqR
set_option maxHeartbeats 4000000 in
theorem ED (sq : UInt64) (qk : Int) (aiq : Option Addr) (niq ciq : Nat) (lq : List UInt64) (fs : UInt64) (mn : Int) (pv ep : UInt64) (kd : Int) (ai : Option Addr) (ni ci : Nat) (l : List UInt64) (sa : Option Addr) (ns sc : Nat) (ls : List SealR) (bl : UInt64) (tg : List UInt8) (eq : UInt64)  (w : World) (hlq : lq.length = niq) (hnmq : niq ≤ 2000000) (hncq : niq ≤ ciq) (hcmq : ciq ≤ maxLen) (hvq : RdV w aiq (cu64 lq)) (hl : l.length = ni) (hnm : ni ≤ 2000000) (hnc : ni ≤ ci) (hcm : ci ≤ maxLen) (hv : RdV w ai (cu64 l)) (hls : ls.length = ns) (hnn : ns ≤ 2000000) (hnd : ns ≤ sc) (hcn : sc ≤ maxLen) (hs : RdV w sa (ls.flatMap sealC)) (htg : tg.length = 16) (hbi : ni ≤ 300) (hbs : ns ≤ 300)  : Calls Tryd.prog 22 #[.agg ([U64 sq, I64 (qk), .slice aiq niq ciq, U64 fs, I64 (mn), U64 pv, U64 ep, I64 (kd), .slice ai ni ci, .slice sa ns sc, U64 bl] ++ cu8 tg ++ [U64 eq]).toArray] w (Post w [] (fun v L => v = .bool (reqR qk lq fs mn eq (blankB pv ep kd l ls bl tg) (decide (mayN pv ep kd l ls bl = 0))) ∧ L = [])) := by
 have hmx : maxLen = 9223372036854775807 := rfl
 refine enter (P := Tryd.prog) (f := 22) (fn := Tryd.f22) w [] 86 [] [.agg ([U64 sq, I64 (qk), .slice aiq niq ciq, U64 fs, I64 (mn), U64 pv, U64 ep, I64 (kd), .slice ai ni ci, .slice sa ns sc, U64 bl] ++ cu8 tg ++ [U64 eq]).toArray] Tryd.func22 rfl rfl (by simp) (B2 (by simp) (by simp) (by simp)) ?_
 show JC _ _ _ [(0, .agg ([U64 sq, I64 (qk), .slice aiq niq ciq, U64 fs, I64 (mn), U64 pv, U64 ep, I64 (kd), .slice ai ni ci, .slice sa ns sc, U64 bl] ++ cu8 tg ++ [U64 eq]).toArray)] _
 refine AI (AC (BG (CE (.agg ([U64 sq, I64 (qk), .slice aiq niq ciq, U64 fs, I64 (mn), U64 pv, U64 ep, I64 (kd), .slice ai ni ci, .slice sa ns sc, U64 bl] ++ cu8 tg ++ [U64 eq]).toArray) ([U64 sq, I64 (qk), .slice aiq niq ciq, U64 fs, I64 (mn), U64 pv, U64 ep, I64 (kd), .slice ai ni ci, .slice sa ns sc, U64 bl] ++ cu8 tg ++ [U64 eq]) rfl (by first | rfl | simp)) rfl ?_))
 rintro v1 L1 ⟨nb1, hnb1, rfl, rfl⟩
 show JL _ _ _ _ ((1, Ptr nb1 0) :: _) [⟨nb1, [U64 sq, I64 (qk), .slice aiq niq ciq, U64 fs, I64 (mn), U64 pv, U64 ep, I64 (kd), .slice ai ni ci, .slice sa ns sc, U64 bl] ++ cu8 tg ++ [U64 eq], 31, (0, 0)⟩]
 refine AA _ (AF rfl) rfl ?_
 refine AK (AE (AI ?_))
 rcases Bool.eq_false_or_eq_true (decide ((0:UInt64) < fs)) with hb1 | hb1
 ·
  have hp1 : (0:UInt64) < fs := of_decide_eq_true hb1
  refine DC 86 2 [(0, Ptr nb1 2), (1, .slice aiq niq ciq), (2, I64 niq), (3, .bool (decide ((0:Int) < ((niq:Int))))), (4, Ptr nb1 3), (5, U64 fs), (6, .bool (decide ((0:UInt64) < fs))), (7, .bool (decide ((0:UInt64) < fs))), (8, undef), (9, undef), (10, undef), (11, .bool true), (12, Ptr nb1 5), (13, .agg ([U64 pv, U64 ep, I64 (kd), .slice ai ni ci, .slice sa ns sc, U64 bl] ++ cu8 tg).toArray), (16, Ptr nb1 27), (17, U64 eq), (18, .bool (decide ((0:UInt64) < eq)))] B9 rfl (by decide +kernel) ?_
  refine CP ⟨[], [0, 1, 2, 3, 4, 5, 6, 7, 8, 9, 10, 11, 12, 13, 16, 17, 18], [], [0, 1, 2, 3, 4, 5, 6, 7, 8, 9, 10, 11, 12, 13, 16, 17, 18], [14]⟩ 14 _ rfl rfl (by decide +kernel) rfl ⟨⟨_, rfl, AO rfl (AB 2 23 1 AS rfl BI rfl rfl)⟩, ⟨_, rfl, AO rfl (AL rfl (AV BL (AY 0 rfl (AH (AH (AG (AG (Seg.head))))))))⟩, ⟨_, rfl, AO rfl (C9 A8 rfl)⟩, ⟨_, rfl, AO rfl (AQ rfl rfl fun _ => C2 _ _)⟩, ⟨_, rfl, AO rfl (AB 3 22 1 AS rfl AP rfl rfl)⟩, ⟨_, rfl, AO rfl (AL rfl (AV AR (AY 0 rfl (AH (AH (AG (AG (AG (Seg.head)))))))))⟩, ⟨_, rfl, AO rfl (AQ rfl rfl fun _ => E8 fs (0:UInt64))⟩, CK rfl rfl rfl, ⟨_, rfl, B8 7 14 false _ rfl rfl rfl hb1⟩, ⟨_, rfl, B8 7 14 false _ rfl rfl rfl hb1⟩, ⟨_, rfl, B8 7 14 false _ rfl rfl rfl hb1⟩, ⟨_, rfl, AO rfl (BD _ rfl hb1 rfl)⟩, ⟨_, rfl, AO rfl (AB 5 29 22 AS rfl CN rfl rfl)⟩, ⟨_, rfl, AO rfl (AL rfl (B1 D2 CN (by simp [htg]) (AY 0 rfl (CO (p := [U64 sq, I64 (qk), .slice aiq niq ciq, U64 fs, I64 (mn)]) (q := [U64 eq]) (vs := [U64 pv, U64 ep, I64 (kd), .slice ai ni ci, .slice sa ns sc, U64 bl] ++ cu8 tg) (by first | rfl | (simp only [List.append_assoc, List.nil_append, List.append_nil, List.cons_append]; done)) rfl))))⟩, ⟨_, rfl, AO rfl (AB 27 22 1 AS rfl AP rfl rfl)⟩, ⟨_, rfl, AO rfl (AL rfl (AV AR (AY 0 rfl (Seg.right 27 0 (by simp [htg]) rfl (Seg.head)))))⟩, ⟨_, rfl, AO rfl (AQ rfl rfl fun _ => E8 eq (0:UInt64))⟩, trivial⟩ rfl (BJ rfl (A2 84 [.agg ([U64 pv, U64 ep, I64 (kd), .slice ai ni ci, .slice sa ns sc, U64 bl] ++ cu8 tg).toArray] (.bool (blankB pv ep (kd) l ls bl tg)) (A5 _ Tryd.call84 rfl) (fun w1 hw1 => blank_c pv ep (kd) ai ni ci l sa ns sc ls bl tg w1 hl (by omega) (by omega) (by omega) (BP hw1 rfl hv) hls (by omega) (by omega) (by omega) (BP hw1 rfl hs) htg))) ?_
  rintro v1 L1 ⟨rfl, rfl⟩
  refine ⟨[(15, .bool (!(blankB pv ep (kd) l ls bl tg))), (19, .bool (decide ((0:Int) < ((niq:Int))))), (20, .bool true), (21, .bool (!(blankB pv ep (kd) l ls bl tg))), (22, .bool (decide ((0:UInt64) < eq)))], ?_⟩
  show DP _ _ _ _ _ _ _ _ [_]
  refine DK ⟨[14], [0, 1, 2, 3, 4, 5, 6, 7, 8, 9, 10, 11, 12, 13, 15, 16, 17, 18, 19, 20, 21, 22], [4, 5, 6, 7, 12, 13], [0, 1, 2, 3, 8, 9, 10, 11, 15, 16, 17, 18, 19, 20, 21, 22], []⟩ rfl rfl (by decide +kernel) rfl ⟨⟨_, rfl, AO rfl (AB 2 23 1 AS rfl BI rfl rfl)⟩, ⟨_, rfl, AO rfl (AL rfl (AV BL (AY 0 rfl (AH (AH (AG (AG (Seg.head))))))))⟩, ⟨_, rfl, AO rfl (C9 A8 rfl)⟩, ⟨_, rfl, AO rfl (AQ rfl rfl fun _ => C2 _ _)⟩, ⟨_, rfl, B8 7 14 false _ rfl rfl rfl hb1⟩, ⟨_, rfl, B8 7 14 false _ rfl rfl rfl hb1⟩, ⟨_, rfl, B8 7 14 false _ rfl rfl rfl hb1⟩, ⟨_, rfl, AO rfl (BD _ rfl hb1 rfl)⟩, ⟨_, rfl, AO rfl (C8 rfl)⟩, ⟨_, rfl, AO rfl (AB 27 22 1 AS rfl AP rfl rfl)⟩, ⟨_, rfl, AO rfl (AL rfl (AV AR (AY 0 rfl (Seg.right 27 0 (by simp [htg]) rfl (Seg.head)))))⟩, ⟨_, rfl, AO rfl (AQ rfl rfl fun _ => E8 eq (0:UInt64))⟩, ⟨_, rfl, AO rfl (AF rfl)⟩, ⟨_, rfl, AO rfl (AF rfl)⟩, ⟨_, rfl, AO rfl (AF rfl)⟩, ⟨_, rfl, AO rfl (AF rfl)⟩, trivial⟩ ?_
  refine CY (F' := [(3, .bool (decide ((0:Int) < ((niq:Int))))), (4, .bool true), (5, .bool (!(blankB pv ep (kd) l ls bl tg))), (6, .bool (decide ((0:UInt64) < eq))), (1, Ptr nb1 0), (2, .bool false)]) (by kernel_rfl) ?_
  refine AE (AI (AI (AC (AA (Ptr nb1 1) (AB 1 3 1 AS rfl AT rfl rfl) rfl ?_))))
  refine AA (I64 (qk)) (AL rfl (AV AX (AY 0 rfl (AH (AH (AG (Seg.head))))))) rfl ?_
  refine AK (AE (BY (AI (AC (AA (.bool (decide ((qk) = (1:Int)))) (AQ rfl rfl fun _ => A4 _ _) rfl ?_)))))
  refine AA _ (AF rfl) rfl ?_
  refine AK (AE (BZ (decide ((qk) = (1:Int))) rfl (fun hb2 => ?_) (fun hb2 => ?_)))
  ·
   have hp2 : (qk) = (1:Int) := of_decide_eq_true hb2
   refine AI (AC (AA _ (AM rfl) rfl ?_))
   refine AA (.bool (!true)) (C8 rfl) rfl ?_
   refine AA _ (AM rfl) rfl ?_
   refine AD 2 32 true _ rfl rfl rfl rfl ?_
   refine AD 2 32 true _ rfl rfl rfl rfl ?_
   refine AA _ (A0 _ rfl rfl rfl) rfl ?_
   refine AA _ (AM rfl) rfl ?_
   refine AD 6 36 true _ rfl rfl rfl rfl ?_
   refine AD 6 36 true _ rfl rfl rfl rfl ?_
   refine AD 6 36 true _ rfl rfl rfl rfl ?_
   refine AA _ (A0 _ rfl rfl rfl) rfl ?_
   refine AA _ (AF rfl) rfl ?_
   refine AK (AE (BA (BK (AU (BF [false] ?_)))))
   show JQ _ _ _ _ []
   refine A9 (.bool false) (res1 CI (A7 rfl)) fun w1 hw1 => ?_
   refine ⟨_, [], rfl, ⟨congrArg Value.bool ?_, rfl⟩, hw1.sub (by simp) (by simp)⟩
   unfold reqR
   rw [hlq]
   first | (simp [AZ, *]; done) | (simp [AZ, *] at *; simp [*]; done) | (simp_all [AZ]; done) | (simp_all [AZ]; omega)
  ·
   have hp2 : ¬ ((qk) = (1:Int)) := of_decide_eq_false hb2
   refine AI (AC (AA (.bool (decide ((qk) = (2:Int)))) (AQ rfl rfl fun _ => A4 _ _) rfl ?_))
   refine AA _ (AF rfl) rfl ?_
   refine AK (AE (BZ (decide ((qk) = (2:Int))) rfl (fun hb3 => ?_) (fun hb3 => ?_)))
   ·
    have hp3 : (qk) = (2:Int) := of_decide_eq_true hb3
    refine AI (AC (AA _ (AM rfl) rfl ?_))
    refine AA (.bool (!(decide ((0:Int) < ((niq:Int)))))) (C8 rfl) rfl ?_
    refine AA _ (AM rfl) rfl ?_
    rcases Bool.eq_false_or_eq_true (decide ((0:Int) < ((niq:Int)))) with hb4 | hb4
    ·
     have hp4 : (0:Int) < ((niq:Int)) := of_decide_eq_true hb4
     refine AD 2 45 true _ rfl rfl (bnotT hb4) rfl ?_
     refine AD 2 45 true _ rfl rfl (bnotT hb4) rfl ?_
     refine AA _ (A0 _ rfl (bnotT hb4) rfl) rfl ?_
     refine AA _ (AM rfl) rfl ?_
     refine AD 6 49 true _ rfl rfl rfl rfl ?_
     refine AD 6 49 true _ rfl rfl rfl rfl ?_
     refine AD 6 49 true _ rfl rfl rfl rfl ?_
     refine AD 6 49 true _ rfl rfl rfl rfl ?_
     refine AD 6 49 true _ rfl rfl rfl rfl ?_
     refine AA _ (A0 _ rfl rfl rfl) rfl ?_
     refine AA _ (AF rfl) rfl ?_
     refine AK (AE (BA (BK (AU (BF [false] ?_)))))
     show JQ _ _ _ _ []
     refine A9 (.bool false) (res1 CI (A7 rfl)) fun w1 hw1 => ?_
     refine ⟨_, [], rfl, ⟨congrArg Value.bool ?_, rfl⟩, hw1.sub (by simp) (by simp)⟩
     have h9 : niq ≠ 0 := by omega
     unfold reqR
     rw [hlq]
     first | (simp [AZ, *]; done) | (simp [AZ, *] at *; simp [*]; done) | (simp_all [AZ]; done) | (simp_all [AZ]; omega)
    ·
     have hp4 : ¬ ((0:Int) < ((niq:Int))) := of_decide_eq_false hb4
     refine AN 2 45 true _ _ rfl rfl (bnotF hb4) (AM rfl) rfl ?_
     refine AN 2 45 true _ (.bool (!(!(blankB pv ep (kd) l ls bl tg)))) rfl rfl (bnotF hb4) (C8 rfl) rfl ?_
     refine AA _ (BD _ rfl (bnotF hb4) rfl) rfl ?_
     refine AA _ (AM rfl) rfl ?_
     rcases Bool.eq_false_or_eq_true (blankB pv ep (kd) l ls bl tg) with hb5 | hb5
     ·
      refine AN 6 49 true _ (Ptr nb1 3) rfl rfl (bnotF (bnotT hb5)) (AB 3 22 1 AS rfl AP rfl rfl) rfl ?_
      refine AN 6 49 true _ (U64 fs) rfl rfl (bnotF (bnotT hb5)) (AL rfl (AV AR (AY 0 rfl (AH (AH (AG (AG (AG (Seg.head))))))))) rfl ?_
      refine AN 6 49 true _ (Ptr nb1 4) rfl rfl (bnotF (bnotT hb5)) (AB 4 3 1 AS rfl AT rfl rfl) rfl ?_
      refine AN 6 49 true _ (I64 (mn)) rfl rfl (bnotF (bnotT hb5)) (AL rfl (AV AX (AY 0 rfl (AH (AH (AG (AG (AG (AG (Seg.head)))))))))) rfl ?_
      refine DB 6 49 true _ rfl rfl (bnotF (bnotT hb5)) (A2 86 [I64 32, U64 fs, I64 (mn)] (.bool (spanB fs (mn))) (A5 _ Tryd.call86 rfl) (fun w1 hw1 => span_w fs (mn) w1 )) rfl ?_
      rintro v1 L1 ⟨rfl, rfl⟩
      show JL _ _ _ _ ((54, .bool (spanB fs (mn))) :: _) [_]
      refine AA _ (BD _ rfl (bnotF (bnotT hb5)) rfl) rfl ?_
      refine AA _ (AF rfl) rfl ?_
      refine AK (AE (BA (BK (AU (BF [false] ?_)))))
      show JQ _ _ _ _ []
      refine A9 (.bool (spanB fs (mn))) (res1 CI (A7 rfl)) fun w1 hw1 => ?_
      refine ⟨_, [], rfl, ⟨congrArg Value.bool ?_, rfl⟩, hw1.sub (by simp) (by simp)⟩
      unfold reqR
      rw [hlq]
      first | (simp [AZ, *]; done) | (simp [AZ, *] at *; simp [*]; done) | (simp_all [AZ]; done) | (simp_all [AZ]; omega)
     ·
      refine AD 6 49 true _ rfl rfl (bnotT (bnotF hb5)) rfl ?_
      refine AD 6 49 true _ rfl rfl (bnotT (bnotF hb5)) rfl ?_
      refine AD 6 49 true _ rfl rfl (bnotT (bnotF hb5)) rfl ?_
      refine AD 6 49 true _ rfl rfl (bnotT (bnotF hb5)) rfl ?_
      refine AD 6 49 true _ rfl rfl (bnotT (bnotF hb5)) rfl ?_
      refine AA _ (A0 _ rfl (bnotT (bnotF hb5)) rfl) rfl ?_
      refine AA _ (AF rfl) rfl ?_
      refine AK (AE (BA (BK (AU (BF [false] ?_)))))
      show JQ _ _ _ _ []
      refine A9 (.bool false) (res1 CI (A7 rfl)) fun w1 hw1 => ?_
      refine ⟨_, [], rfl, ⟨congrArg Value.bool ?_, rfl⟩, hw1.sub (by simp) (by simp)⟩
      unfold reqR
      rw [hlq]
      first | (simp [AZ, *]; done) | (simp [AZ, *] at *; simp [*]; done) | (simp_all [AZ]; done) | (simp_all [AZ]; omega)
   ·
    have hp3 : ¬ ((qk) = (2:Int)) := of_decide_eq_false hb3
    refine AI (AC (AA (.bool (decide ((qk) = (3:Int)))) (AQ rfl rfl fun _ => A4 _ _) rfl ?_))
    refine AA _ (AF rfl) rfl ?_
    refine AK (AE (BZ (decide ((qk) = (3:Int))) rfl (fun hb6 => ?_) (fun hb6 => ?_)))
    ·
     have hp6 : (qk) = (3:Int) := of_decide_eq_true hb6
     refine AI (AC (AA _ (AM rfl) rfl ?_))
     refine AA (.bool (!(decide ((0:Int) < ((niq:Int)))))) (C8 rfl) rfl ?_
     refine AA _ (AM rfl) rfl ?_
     rcases Bool.eq_false_or_eq_true (decide ((0:Int) < ((niq:Int)))) with hb7 | hb7
     ·
      have hp7 : (0:Int) < ((niq:Int)) := of_decide_eq_true hb7
      refine AD 2 60 true _ rfl rfl (bnotT hb7) rfl ?_
      refine AD 2 60 true _ rfl rfl (bnotT hb7) rfl ?_
      refine AA _ (A0 _ rfl (bnotT hb7) rfl) rfl ?_
      refine AA _ (AM rfl) rfl ?_
      refine AD 6 64 true _ rfl rfl rfl rfl ?_
      refine AD 6 64 true _ rfl rfl rfl rfl ?_
      refine AA _ (A0 _ rfl rfl rfl) rfl ?_
      refine AA _ (AM rfl) rfl ?_
      refine AD 10 68 true _ rfl rfl rfl rfl ?_
      refine AD 10 68 true _ rfl rfl rfl rfl ?_
      refine AD 10 68 true _ rfl rfl rfl rfl ?_
      refine AA _ (A0 _ rfl rfl rfl) rfl ?_
      refine AA _ (AF rfl) rfl ?_
      refine AK (AE (BA (BK (AU (BF [false] ?_)))))
      show JQ _ _ _ _ []
      refine A9 (.bool false) (res1 CI (A7 rfl)) fun w1 hw1 => ?_
      refine ⟨_, [], rfl, ⟨congrArg Value.bool ?_, rfl⟩, hw1.sub (by simp) (by simp)⟩
      have h9 : niq ≠ 0 := by omega
      unfold reqR
      rw [hlq]
      first | (simp [AZ, *]; done) | (simp [AZ, *] at *; simp [*]; done) | (simp_all [AZ]; done) | (simp_all [AZ]; omega)
     ·
      have hp7 : ¬ ((0:Int) < ((niq:Int))) := of_decide_eq_false hb7
      refine AN 2 60 true _ _ rfl rfl (bnotF hb7) (AM rfl) rfl ?_
      refine AN 2 60 true _ (.bool (!true)) rfl rfl (bnotF hb7) (C8 rfl) rfl ?_
      refine AA _ (BD _ rfl (bnotF hb7) rfl) rfl ?_
      refine AA _ (AM rfl) rfl ?_
      refine AD 6 64 true _ rfl rfl rfl rfl ?_
      refine AD 6 64 true _ rfl rfl rfl rfl ?_
      refine AA _ (A0 _ rfl rfl rfl) rfl ?_
      refine AA _ (AM rfl) rfl ?_
      refine AD 10 68 true _ rfl rfl rfl rfl ?_
      refine AD 10 68 true _ rfl rfl rfl rfl ?_
      refine AD 10 68 true _ rfl rfl rfl rfl ?_
      refine AA _ (A0 _ rfl rfl rfl) rfl ?_
      refine AA _ (AF rfl) rfl ?_
      refine AK (AE (BA (BK (AU (BF [false] ?_)))))
      show JQ _ _ _ _ []
      refine A9 (.bool false) (res1 CI (A7 rfl)) fun w1 hw1 => ?_
      refine ⟨_, [], rfl, ⟨congrArg Value.bool ?_, rfl⟩, hw1.sub (by simp) (by simp)⟩
      unfold reqR
      rw [hlq]
      first | (simp [AZ, *]; done) | (simp [AZ, *] at *; simp [*]; done) | (simp_all [AZ]; done) | (simp_all [AZ]; omega)
    ·
     have hp6 : ¬ ((qk) = (3:Int)) := of_decide_eq_false hb6
     refine AI (AI (AC (AA (.bool (decide ((qk) = (4:Int)))) (AQ rfl rfl fun _ => A4 _ _) rfl ?_)))
     refine AA _ (AF rfl) rfl ?_
     refine AK (AE (BZ (decide ((qk) = (4:Int))) rfl (fun hb8 => ?_) (fun hb8 => ?_)))
     ·
      have hp8 : (qk) = (4:Int) := of_decide_eq_true hb8
      refine BM (AE (B5 _ rfl hb8 ?_))
      refine AI (AC (AA _ (AM rfl) rfl ?_))
      refine AA (.bool (!(decide ((0:Int) < ((niq:Int)))))) (C8 rfl) rfl ?_
      refine AA _ (AM rfl) rfl ?_
      rcases Bool.eq_false_or_eq_true (decide ((0:Int) < ((niq:Int)))) with hb9 | hb9
      ·
       have hp9 : (0:Int) < ((niq:Int)) := of_decide_eq_true hb9
       refine AD 2 78 true _ rfl rfl (bnotT hb9) rfl ?_
       refine AD 2 78 true _ rfl rfl (bnotT hb9) rfl ?_
       refine AA _ (A0 _ rfl (bnotT hb9) rfl) rfl ?_
       refine AA _ (AM rfl) rfl ?_
       refine AD 6 82 true _ rfl rfl rfl rfl ?_
       refine AD 6 82 true _ rfl rfl rfl rfl ?_
       refine AA _ (A0 _ rfl rfl rfl) rfl ?_
       refine AA _ (AF rfl) rfl ?_
       refine AK (AE (BA (BK (AU (BF [false] ?_)))))
       show JQ _ _ _ _ []
       refine A9 (.bool false) (res1 CI (A7 rfl)) fun w1 hw1 => ?_
       refine ⟨_, [], rfl, ⟨congrArg Value.bool ?_, rfl⟩, hw1.sub (by simp) (by simp)⟩
       have h9 : niq ≠ 0 := by omega
       unfold reqR
       rw [hlq]
       first | (simp [AZ, *]; done) | (simp [AZ, *] at *; simp [*]; done) | (simp_all [AZ]; done) | (simp_all [AZ]; omega)
      ·
       have hp9 : ¬ ((0:Int) < ((niq:Int))) := of_decide_eq_false hb9
       refine AN 2 78 true _ _ rfl rfl (bnotF hb9) (AM rfl) rfl ?_
       refine AN 2 78 true _ (.bool (!true)) rfl rfl (bnotF hb9) (C8 rfl) rfl ?_
       refine AA _ (BD _ rfl (bnotF hb9) rfl) rfl ?_
       refine AA _ (AM rfl) rfl ?_
       refine AD 6 82 true _ rfl rfl rfl rfl ?_
       refine AD 6 82 true _ rfl rfl rfl rfl ?_
       refine AA _ (A0 _ rfl rfl rfl) rfl ?_
       refine AA _ (AF rfl) rfl ?_
       refine AK (AE (BA (BK (AU (BF [false] ?_)))))
       show JQ _ _ _ _ []
       refine A9 (.bool false) (res1 CI (A7 rfl)) fun w1 hw1 => ?_
       refine ⟨_, [], rfl, ⟨congrArg Value.bool ?_, rfl⟩, hw1.sub (by simp) (by simp)⟩
       unfold reqR
       rw [hlq]
       first | (simp [AZ, *]; done) | (simp [AZ, *] at *; simp [*]; done) | (simp_all [AZ]; done) | (simp_all [AZ]; omega)
     ·
      have hp8 : ¬ ((qk) = (4:Int)) := of_decide_eq_false hb8
      refine AC (AA (.bool (decide ((qk) = (5:Int)))) (AQ rfl rfl fun _ => A4 _ _) rfl ?_)
      refine AA _ (AF rfl) rfl ?_
      refine AK (AE (BZ (decide ((qk) = (5:Int))) rfl (fun hb10 => ?_) (fun hb10 => ?_)))
      ·
       have hp10 : (qk) = (5:Int) := of_decide_eq_true hb10
       refine AI (AC (AA _ (AM rfl) rfl ?_))
       refine AA (.bool (!(decide ((0:Int) < ((niq:Int)))))) (C8 rfl) rfl ?_
       refine AA _ (AM rfl) rfl ?_
       rcases Bool.eq_false_or_eq_true (decide ((0:Int) < ((niq:Int)))) with hb11 | hb11
       ·
        have hp11 : (0:Int) < ((niq:Int)) := of_decide_eq_true hb11
        refine AD 2 78 true _ rfl rfl (bnotT hb11) rfl ?_
        refine AD 2 78 true _ rfl rfl (bnotT hb11) rfl ?_
        refine AA _ (A0 _ rfl (bnotT hb11) rfl) rfl ?_
        refine AA _ (AM rfl) rfl ?_
        refine AD 6 82 true _ rfl rfl rfl rfl ?_
        refine AD 6 82 true _ rfl rfl rfl rfl ?_
        refine AA _ (A0 _ rfl rfl rfl) rfl ?_
        refine AA _ (AF rfl) rfl ?_
        refine AK (AE (BA (BK (AU (BF [false] ?_)))))
        show JQ _ _ _ _ []
        refine A9 (.bool false) (res1 CI (A7 rfl)) fun w1 hw1 => ?_
        refine ⟨_, [], rfl, ⟨congrArg Value.bool ?_, rfl⟩, hw1.sub (by simp) (by simp)⟩
        have h9 : niq ≠ 0 := by omega
        unfold reqR
        rw [hlq]
        first | (simp [AZ, *]; done) | (simp [AZ, *] at *; simp [*]; done) | (simp_all [AZ]; done) | (simp_all [AZ]; omega)
       ·
        have hp11 : ¬ ((0:Int) < ((niq:Int))) := of_decide_eq_false hb11
        refine AN 2 78 true _ _ rfl rfl (bnotF hb11) (AM rfl) rfl ?_
        refine AN 2 78 true _ (.bool (!true)) rfl rfl (bnotF hb11) (C8 rfl) rfl ?_
        refine AA _ (BD _ rfl (bnotF hb11) rfl) rfl ?_
        refine AA _ (AM rfl) rfl ?_
        refine AD 6 82 true _ rfl rfl rfl rfl ?_
        refine AD 6 82 true _ rfl rfl rfl rfl ?_
        refine AA _ (A0 _ rfl rfl rfl) rfl ?_
        refine AA _ (AF rfl) rfl ?_
        refine AK (AE (BA (BK (AU (BF [false] ?_)))))
        show JQ _ _ _ _ []
        refine A9 (.bool false) (res1 CI (A7 rfl)) fun w1 hw1 => ?_
        refine ⟨_, [], rfl, ⟨congrArg Value.bool ?_, rfl⟩, hw1.sub (by simp) (by simp)⟩
        unfold reqR
        rw [hlq]
        first | (simp [AZ, *]; done) | (simp [AZ, *] at *; simp [*]; done) | (simp_all [AZ]; done) | (simp_all [AZ]; omega)
      ·
       have hp10 : ¬ ((qk) = (5:Int)) := of_decide_eq_false hb10
       refine BM (BR (AE (AI (AC (AA _ (AF rfl) rfl ?_)))))
       refine AK (AE (BA (BF [false] ?_)))
       show JQ _ _ _ _ []
       refine A9 (.bool false) (res1 CI (A7 rfl)) fun w1 hw1 => ?_
       refine ⟨_, [], rfl, ⟨congrArg Value.bool ?_, rfl⟩, hw1.sub (by simp) (by simp)⟩
       unfold reqR
       rw [hlq]
       first | (simp [AZ, *]; done) | (simp [AZ, *] at *; simp [*]; done) | (simp_all [AZ]; done) | (simp_all [AZ]; omega)
 ·
  have hp1 : ¬ ((0:UInt64) < fs) := of_decide_eq_false hb1
  refine DC 86 2 [(0, Ptr nb1 2), (1, .slice aiq niq ciq), (2, I64 niq), (3, .bool (decide ((0:Int) < ((niq:Int))))), (4, Ptr nb1 3), (5, U64 fs), (6, .bool (decide ((0:UInt64) < fs))), (7, .bool (decide ((0:UInt64) < fs))), (8, Ptr nb1 4), (9, I64 (mn)), (10, .bool (decide ((mn) ≠ (0:Int)))), (11, .bool (decide ((mn) ≠ (0:Int)))), (12, Ptr nb1 5), (13, .agg ([U64 pv, U64 ep, I64 (kd), .slice ai ni ci, .slice sa ns sc, U64 bl] ++ cu8 tg).toArray), (16, Ptr nb1 27), (17, U64 eq), (18, .bool (decide ((0:UInt64) < eq)))] B9 rfl (by decide +kernel) ?_
  refine CP ⟨[], [0, 1, 2, 3, 4, 5, 6, 7, 8, 9, 10, 11, 12, 13, 16, 17, 18], [], [0, 1, 2, 3, 4, 5, 6, 7, 8, 9, 10, 11, 12, 13, 16, 17, 18], [14]⟩ 14 _ rfl rfl (by decide +kernel) rfl ⟨⟨_, rfl, AO rfl (AB 2 23 1 AS rfl BI rfl rfl)⟩, ⟨_, rfl, AO rfl (AL rfl (AV BL (AY 0 rfl (AH (AH (AG (AG (Seg.head))))))))⟩, ⟨_, rfl, AO rfl (C9 A8 rfl)⟩, ⟨_, rfl, AO rfl (AQ rfl rfl fun _ => C2 _ _)⟩, ⟨_, rfl, AO rfl (AB 3 22 1 AS rfl AP rfl rfl)⟩, ⟨_, rfl, AO rfl (AL rfl (AV AR (AY 0 rfl (AH (AH (AG (AG (AG (Seg.head)))))))))⟩, ⟨_, rfl, AO rfl (AQ rfl rfl fun _ => E8 fs (0:UInt64))⟩, CK rfl rfl rfl, ⟨_, rfl, CF 7 14 false _ rfl rfl rfl hb1 (AB 4 3 1 AS rfl AT rfl rfl)⟩, ⟨_, rfl, CF 7 14 false _ rfl rfl rfl hb1 (AL rfl (AV AX (AY 0 rfl (AH (AH (AG (AG (AG (AG (Seg.head))))))))))⟩, ⟨_, rfl, CF 7 14 false _ rfl rfl rfl hb1 (AQ rfl rfl fun _ => DI _ _)⟩, ⟨_, rfl, AO rfl (A0 _ rfl hb1 rfl)⟩, ⟨_, rfl, AO rfl (AB 5 29 22 AS rfl CN rfl rfl)⟩, ⟨_, rfl, AO rfl (AL rfl (B1 D2 CN (by simp [htg]) (AY 0 rfl (CO (p := [U64 sq, I64 (qk), .slice aiq niq ciq, U64 fs, I64 (mn)]) (q := [U64 eq]) (vs := [U64 pv, U64 ep, I64 (kd), .slice ai ni ci, .slice sa ns sc, U64 bl] ++ cu8 tg) (by first | rfl | (simp only [List.append_assoc, List.nil_append, List.append_nil, List.cons_append]; done)) rfl))))⟩, ⟨_, rfl, AO rfl (AB 27 22 1 AS rfl AP rfl rfl)⟩, ⟨_, rfl, AO rfl (AL rfl (AV AR (AY 0 rfl (Seg.right 27 0 (by simp [htg]) rfl (Seg.head)))))⟩, ⟨_, rfl, AO rfl (AQ rfl rfl fun _ => E8 eq (0:UInt64))⟩, trivial⟩ rfl (BJ rfl (A2 84 [.agg ([U64 pv, U64 ep, I64 (kd), .slice ai ni ci, .slice sa ns sc, U64 bl] ++ cu8 tg).toArray] (.bool (blankB pv ep (kd) l ls bl tg)) (A5 _ Tryd.call84 rfl) (fun w1 hw1 => blank_c pv ep (kd) ai ni ci l sa ns sc ls bl tg w1 hl (by omega) (by omega) (by omega) (BP hw1 rfl hv) hls (by omega) (by omega) (by omega) (BP hw1 rfl hs) htg))) ?_
  rintro v1 L1 ⟨rfl, rfl⟩
  refine ⟨[(15, .bool (!(blankB pv ep (kd) l ls bl tg))), (19, .bool (decide ((0:Int) < ((niq:Int))))), (20, .bool (decide ((mn) ≠ (0:Int)))), (21, .bool (!(blankB pv ep (kd) l ls bl tg))), (22, .bool (decide ((0:UInt64) < eq)))], ?_⟩
  show DP _ _ _ _ _ _ _ _ [_]
  refine DK ⟨[14], [0, 1, 2, 3, 4, 5, 6, 7, 8, 9, 10, 11, 12, 13, 15, 16, 17, 18, 19, 20, 21, 22], [4, 5, 6, 7, 12, 13], [0, 1, 2, 3, 8, 9, 10, 11, 15, 16, 17, 18, 19, 20, 21, 22], []⟩ rfl rfl (by decide +kernel) rfl ⟨⟨_, rfl, AO rfl (AB 2 23 1 AS rfl BI rfl rfl)⟩, ⟨_, rfl, AO rfl (AL rfl (AV BL (AY 0 rfl (AH (AH (AG (AG (Seg.head))))))))⟩, ⟨_, rfl, AO rfl (C9 A8 rfl)⟩, ⟨_, rfl, AO rfl (AQ rfl rfl fun _ => C2 _ _)⟩, ⟨_, rfl, CF 7 14 false _ rfl rfl rfl hb1 (AB 4 3 1 AS rfl AT rfl rfl)⟩, ⟨_, rfl, CF 7 14 false _ rfl rfl rfl hb1 (AL rfl (AV AX (AY 0 rfl (AH (AH (AG (AG (AG (AG (Seg.head))))))))))⟩, ⟨_, rfl, CF 7 14 false _ rfl rfl rfl hb1 (AQ rfl rfl fun _ => DI _ _)⟩, ⟨_, rfl, AO rfl (A0 _ rfl hb1 rfl)⟩, ⟨_, rfl, AO rfl (C8 rfl)⟩, ⟨_, rfl, AO rfl (AB 27 22 1 AS rfl AP rfl rfl)⟩, ⟨_, rfl, AO rfl (AL rfl (AV AR (AY 0 rfl (Seg.right 27 0 (by simp [htg]) rfl (Seg.head)))))⟩, ⟨_, rfl, AO rfl (AQ rfl rfl fun _ => E8 eq (0:UInt64))⟩, ⟨_, rfl, AO rfl (AF rfl)⟩, ⟨_, rfl, AO rfl (AF rfl)⟩, ⟨_, rfl, AO rfl (AF rfl)⟩, ⟨_, rfl, AO rfl (AF rfl)⟩, trivial⟩ ?_
  refine CY (F' := [(3, .bool (decide ((0:Int) < ((niq:Int))))), (4, .bool (decide ((mn) ≠ (0:Int)))), (5, .bool (!(blankB pv ep (kd) l ls bl tg))), (6, .bool (decide ((0:UInt64) < eq))), (1, Ptr nb1 0), (2, .bool false)]) (by kernel_rfl) ?_
  refine AE (AI (AI (AC (AA (Ptr nb1 1) (AB 1 3 1 AS rfl AT rfl rfl) rfl ?_))))
  refine AA (I64 (qk)) (AL rfl (AV AX (AY 0 rfl (AH (AH (AG (Seg.head))))))) rfl ?_
  refine AK (AE (BY (AI (AC (AA (.bool (decide ((qk) = (1:Int)))) (AQ rfl rfl fun _ => A4 _ _) rfl ?_)))))
  refine AA _ (AF rfl) rfl ?_
  refine AK (AE (BZ (decide ((qk) = (1:Int))) rfl (fun hb12 => ?_) (fun hb12 => ?_)))
  ·
   have hp12 : (qk) = (1:Int) := of_decide_eq_true hb12
   refine AI (AC (AA _ (AM rfl) rfl ?_))
   refine AA (.bool (!(decide ((mn) ≠ (0:Int))))) (C8 rfl) rfl ?_
   refine AA _ (AM rfl) rfl ?_
   rcases Bool.eq_false_or_eq_true (decide ((mn) ≠ (0:Int))) with hb13 | hb13
   ·
    have hp13 : (mn) ≠ (0:Int) := of_decide_eq_true hb13
    refine AD 2 32 true _ rfl rfl (bnotT hb13) rfl ?_
    refine AD 2 32 true _ rfl rfl (bnotT hb13) rfl ?_
    refine AA _ (A0 _ rfl (bnotT hb13) rfl) rfl ?_
    refine AA _ (AM rfl) rfl ?_
    refine AD 6 36 true _ rfl rfl rfl rfl ?_
    refine AD 6 36 true _ rfl rfl rfl rfl ?_
    refine AD 6 36 true _ rfl rfl rfl rfl ?_
    refine AA _ (A0 _ rfl rfl rfl) rfl ?_
    refine AA _ (AF rfl) rfl ?_
    refine AK (AE (BA (BK (AU (BF [false] ?_)))))
    show JQ _ _ _ _ []
    refine A9 (.bool false) (res1 CI (A7 rfl)) fun w1 hw1 => ?_
    refine ⟨_, [], rfl, ⟨congrArg Value.bool ?_, rfl⟩, hw1.sub (by simp) (by simp)⟩
    unfold reqR
    rw [hlq]
    first | (simp [AZ, *]; done) | (simp [AZ, *] at *; simp [*]; done) | (simp_all [AZ]; done) | (simp_all [AZ]; omega)
   ·
    have hp13 : ¬ ((mn) ≠ (0:Int)) := of_decide_eq_false hb13
    refine AN 2 32 true _ _ rfl rfl (bnotF hb13) (AM rfl) rfl ?_
    refine AN 2 32 true _ (.bool (!(!(blankB pv ep (kd) l ls bl tg)))) rfl rfl (bnotF hb13) (C8 rfl) rfl ?_
    refine AA _ (BD _ rfl (bnotF hb13) rfl) rfl ?_
    refine AA _ (AM rfl) rfl ?_
    rcases Bool.eq_false_or_eq_true (blankB pv ep (kd) l ls bl tg) with hb14 | hb14
    ·
     refine AN 6 36 true _ (Ptr nb1 2) rfl rfl (bnotF (bnotT hb14)) (AB 2 23 1 AS rfl BI rfl rfl) rfl ?_
     refine AN 6 36 true _ (.slice aiq niq ciq) rfl rfl (bnotF (bnotT hb14)) (AL rfl (AV BL (AY 0 rfl (AH (AH (AG (AG (Seg.head)))))))) rfl ?_
     refine DB 6 36 true _ rfl rfl (bnotF (bnotT hb14)) (A2 85 [I64 32, .slice aiq niq ciq] (.bool (decide (RightI lq))) (A5 _ Tryd.call85 rfl) (fun w1 hw1 => pright_c aiq niq ciq lq w1 hlq (by omega) (by omega) (by omega) (BP hw1 rfl hvq))) rfl ?_
     rintro v1 L1 ⟨rfl, rfl⟩
     show JL _ _ _ _ ((39, .bool (decide (RightI lq))) :: _) [_]
     refine AA _ (BD _ rfl (bnotF (bnotT hb14)) rfl) rfl ?_
     refine AA _ (AF rfl) rfl ?_
     refine AK (AE (BA (BK (AU (BF [false] ?_)))))
     show JQ _ _ _ _ []
     refine A9 (.bool (decide (RightI lq))) (res1 CI (A7 rfl)) fun w1 hw1 => ?_
     refine ⟨_, [], rfl, ⟨congrArg Value.bool ?_, rfl⟩, hw1.sub (by simp) (by simp)⟩
     unfold reqR
     rw [hlq]
     first | (simp [AZ, *]; done) | (simp [AZ, *] at *; simp [*]; done) | (simp_all [AZ]; done) | (simp_all [AZ]; omega)
    ·
     refine AD 6 36 true _ rfl rfl (bnotT (bnotF hb14)) rfl ?_
     refine AD 6 36 true _ rfl rfl (bnotT (bnotF hb14)) rfl ?_
     refine AD 6 36 true _ rfl rfl (bnotT (bnotF hb14)) rfl ?_
     refine AA _ (A0 _ rfl (bnotT (bnotF hb14)) rfl) rfl ?_
     refine AA _ (AF rfl) rfl ?_
     refine AK (AE (BA (BK (AU (BF [false] ?_)))))
     show JQ _ _ _ _ []
     refine A9 (.bool false) (res1 CI (A7 rfl)) fun w1 hw1 => ?_
     refine ⟨_, [], rfl, ⟨congrArg Value.bool ?_, rfl⟩, hw1.sub (by simp) (by simp)⟩
     unfold reqR
     rw [hlq]
     first | (simp [AZ, *]; done) | (simp [AZ, *] at *; simp [*]; done) | (simp_all [AZ]; done) | (simp_all [AZ]; omega)
  ·
   have hp12 : ¬ ((qk) = (1:Int)) := of_decide_eq_false hb12
   refine AI (AC (AA (.bool (decide ((qk) = (2:Int)))) (AQ rfl rfl fun _ => A4 _ _) rfl ?_))
   refine AA _ (AF rfl) rfl ?_
   refine AK (AE (BZ (decide ((qk) = (2:Int))) rfl (fun hb15 => ?_) (fun hb15 => ?_)))
   ·
    have hp15 : (qk) = (2:Int) := of_decide_eq_true hb15
    refine AI (AC (AA _ (AM rfl) rfl ?_))
    refine AA (.bool (!(decide ((0:Int) < ((niq:Int)))))) (C8 rfl) rfl ?_
    refine AA _ (AM rfl) rfl ?_
    rcases Bool.eq_false_or_eq_true (decide ((0:Int) < ((niq:Int)))) with hb16 | hb16
    ·
     have hp16 : (0:Int) < ((niq:Int)) := of_decide_eq_true hb16
     refine AD 2 45 true _ rfl rfl (bnotT hb16) rfl ?_
     refine AD 2 45 true _ rfl rfl (bnotT hb16) rfl ?_
     refine AA _ (A0 _ rfl (bnotT hb16) rfl) rfl ?_
     refine AA _ (AM rfl) rfl ?_
     refine AD 6 49 true _ rfl rfl rfl rfl ?_
     refine AD 6 49 true _ rfl rfl rfl rfl ?_
     refine AD 6 49 true _ rfl rfl rfl rfl ?_
     refine AD 6 49 true _ rfl rfl rfl rfl ?_
     refine AD 6 49 true _ rfl rfl rfl rfl ?_
     refine AA _ (A0 _ rfl rfl rfl) rfl ?_
     refine AA _ (AF rfl) rfl ?_
     refine AK (AE (BA (BK (AU (BF [false] ?_)))))
     show JQ _ _ _ _ []
     refine A9 (.bool false) (res1 CI (A7 rfl)) fun w1 hw1 => ?_
     refine ⟨_, [], rfl, ⟨congrArg Value.bool ?_, rfl⟩, hw1.sub (by simp) (by simp)⟩
     have h9 : niq ≠ 0 := by omega
     unfold reqR
     rw [hlq]
     first | (simp [AZ, *]; done) | (simp [AZ, *] at *; simp [*]; done) | (simp_all [AZ]; done) | (simp_all [AZ]; omega)
    ·
     have hp16 : ¬ ((0:Int) < ((niq:Int))) := of_decide_eq_false hb16
     refine AN 2 45 true _ _ rfl rfl (bnotF hb16) (AM rfl) rfl ?_
     refine AN 2 45 true _ (.bool (!(!(blankB pv ep (kd) l ls bl tg)))) rfl rfl (bnotF hb16) (C8 rfl) rfl ?_
     refine AA _ (BD _ rfl (bnotF hb16) rfl) rfl ?_
     refine AA _ (AM rfl) rfl ?_
     rcases Bool.eq_false_or_eq_true (blankB pv ep (kd) l ls bl tg) with hb17 | hb17
     ·
      refine AN 6 49 true _ (Ptr nb1 3) rfl rfl (bnotF (bnotT hb17)) (AB 3 22 1 AS rfl AP rfl rfl) rfl ?_
      refine AN 6 49 true _ (U64 fs) rfl rfl (bnotF (bnotT hb17)) (AL rfl (AV AR (AY 0 rfl (AH (AH (AG (AG (AG (Seg.head))))))))) rfl ?_
      refine AN 6 49 true _ (Ptr nb1 4) rfl rfl (bnotF (bnotT hb17)) (AB 4 3 1 AS rfl AT rfl rfl) rfl ?_
      refine AN 6 49 true _ (I64 (mn)) rfl rfl (bnotF (bnotT hb17)) (AL rfl (AV AX (AY 0 rfl (AH (AH (AG (AG (AG (AG (Seg.head)))))))))) rfl ?_
      refine DB 6 49 true _ rfl rfl (bnotF (bnotT hb17)) (A2 86 [I64 32, U64 fs, I64 (mn)] (.bool (spanB fs (mn))) (A5 _ Tryd.call86 rfl) (fun w1 hw1 => span_w fs (mn) w1 )) rfl ?_
      rintro v1 L1 ⟨rfl, rfl⟩
      show JL _ _ _ _ ((54, .bool (spanB fs (mn))) :: _) [_]
      refine AA _ (BD _ rfl (bnotF (bnotT hb17)) rfl) rfl ?_
      refine AA _ (AF rfl) rfl ?_
      refine AK (AE (BA (BK (AU (BF [false] ?_)))))
      show JQ _ _ _ _ []
      refine A9 (.bool (spanB fs (mn))) (res1 CI (A7 rfl)) fun w1 hw1 => ?_
      refine ⟨_, [], rfl, ⟨congrArg Value.bool ?_, rfl⟩, hw1.sub (by simp) (by simp)⟩
      unfold reqR
      rw [hlq]
      first | (simp [AZ, *]; done) | (simp [AZ, *] at *; simp [*]; done) | (simp_all [AZ]; done) | (simp_all [AZ]; omega)
     ·
      refine AD 6 49 true _ rfl rfl (bnotT (bnotF hb17)) rfl ?_
      refine AD 6 49 true _ rfl rfl (bnotT (bnotF hb17)) rfl ?_
      refine AD 6 49 true _ rfl rfl (bnotT (bnotF hb17)) rfl ?_
      refine AD 6 49 true _ rfl rfl (bnotT (bnotF hb17)) rfl ?_
      refine AD 6 49 true _ rfl rfl (bnotT (bnotF hb17)) rfl ?_
      refine AA _ (A0 _ rfl (bnotT (bnotF hb17)) rfl) rfl ?_
      refine AA _ (AF rfl) rfl ?_
      refine AK (AE (BA (BK (AU (BF [false] ?_)))))
      show JQ _ _ _ _ []
      refine A9 (.bool false) (res1 CI (A7 rfl)) fun w1 hw1 => ?_
      refine ⟨_, [], rfl, ⟨congrArg Value.bool ?_, rfl⟩, hw1.sub (by simp) (by simp)⟩
      unfold reqR
      rw [hlq]
      first | (simp [AZ, *]; done) | (simp [AZ, *] at *; simp [*]; done) | (simp_all [AZ]; done) | (simp_all [AZ]; omega)
   ·
    have hp15 : ¬ ((qk) = (2:Int)) := of_decide_eq_false hb15
    refine AI (AC (AA (.bool (decide ((qk) = (3:Int)))) (AQ rfl rfl fun _ => A4 _ _) rfl ?_))
    refine AA _ (AF rfl) rfl ?_
    refine AK (AE (BZ (decide ((qk) = (3:Int))) rfl (fun hb18 => ?_) (fun hb18 => ?_)))
    ·
     have hp18 : (qk) = (3:Int) := of_decide_eq_true hb18
     refine AI (AC (AA _ (AM rfl) rfl ?_))
     refine AA (.bool (!(decide ((0:Int) < ((niq:Int)))))) (C8 rfl) rfl ?_
     refine AA _ (AM rfl) rfl ?_
     rcases Bool.eq_false_or_eq_true (decide ((0:Int) < ((niq:Int)))) with hb19 | hb19
     ·
      have hp19 : (0:Int) < ((niq:Int)) := of_decide_eq_true hb19
      refine AD 2 60 true _ rfl rfl (bnotT hb19) rfl ?_
      refine AD 2 60 true _ rfl rfl (bnotT hb19) rfl ?_
      refine AA _ (A0 _ rfl (bnotT hb19) rfl) rfl ?_
      refine AA _ (AM rfl) rfl ?_
      refine AD 6 64 true _ rfl rfl rfl rfl ?_
      refine AD 6 64 true _ rfl rfl rfl rfl ?_
      refine AA _ (A0 _ rfl rfl rfl) rfl ?_
      refine AA _ (AM rfl) rfl ?_
      refine AD 10 68 true _ rfl rfl rfl rfl ?_
      refine AD 10 68 true _ rfl rfl rfl rfl ?_
      refine AD 10 68 true _ rfl rfl rfl rfl ?_
      refine AA _ (A0 _ rfl rfl rfl) rfl ?_
      refine AA _ (AF rfl) rfl ?_
      refine AK (AE (BA (BK (AU (BF [false] ?_)))))
      show JQ _ _ _ _ []
      refine A9 (.bool false) (res1 CI (A7 rfl)) fun w1 hw1 => ?_
      refine ⟨_, [], rfl, ⟨congrArg Value.bool ?_, rfl⟩, hw1.sub (by simp) (by simp)⟩
      have h9 : niq ≠ 0 := by omega
      unfold reqR
      rw [hlq]
      first | (simp [AZ, *]; done) | (simp [AZ, *] at *; simp [*]; done) | (simp_all [AZ]; done) | (simp_all [AZ]; omega)
     ·
      have hp19 : ¬ ((0:Int) < ((niq:Int))) := of_decide_eq_false hb19
      refine AN 2 60 true _ _ rfl rfl (bnotF hb19) (AM rfl) rfl ?_
      refine AN 2 60 true _ (.bool (!(decide ((mn) ≠ (0:Int))))) rfl rfl (bnotF hb19) (C8 rfl) rfl ?_
      refine AA _ (BD _ rfl (bnotF hb19) rfl) rfl ?_
      refine AA _ (AM rfl) rfl ?_
      rcases Bool.eq_false_or_eq_true (decide ((mn) ≠ (0:Int))) with hb20 | hb20
      ·
       have hp20 : (mn) ≠ (0:Int) := of_decide_eq_true hb20
       refine AD 6 64 true _ rfl rfl (bnotT hb20) rfl ?_
       refine AD 6 64 true _ rfl rfl (bnotT hb20) rfl ?_
       refine AA _ (A0 _ rfl (bnotT hb20) rfl) rfl ?_
       refine AA _ (AM rfl) rfl ?_
       refine AD 10 68 true _ rfl rfl rfl rfl ?_
       refine AD 10 68 true _ rfl rfl rfl rfl ?_
       refine AD 10 68 true _ rfl rfl rfl rfl ?_
       refine AA _ (A0 _ rfl rfl rfl) rfl ?_
       refine AA _ (AF rfl) rfl ?_
       refine AK (AE (BA (BK (AU (BF [false] ?_)))))
       show JQ _ _ _ _ []
       refine A9 (.bool false) (res1 CI (A7 rfl)) fun w1 hw1 => ?_
       refine ⟨_, [], rfl, ⟨congrArg Value.bool ?_, rfl⟩, hw1.sub (by simp) (by simp)⟩
       unfold reqR
       rw [hlq]
       first | (simp [AZ, *]; done) | (simp [AZ, *] at *; simp [*]; done) | (simp_all [AZ]; done) | (simp_all [AZ]; omega)
      ·
       have hp20 : ¬ ((mn) ≠ (0:Int)) := of_decide_eq_false hb20
       refine AN 6 64 true _ _ rfl rfl (bnotF hb20) (AM rfl) rfl ?_
       refine AN 6 64 true _ (.bool (!(decide ((0:UInt64) < eq)))) rfl rfl (bnotF hb20) (C8 rfl) rfl ?_
       refine AA _ (BD _ rfl (bnotF hb20) rfl) rfl ?_
       refine AA _ (AM rfl) rfl ?_
       rcases Bool.eq_false_or_eq_true (decide ((0:UInt64) < eq)) with hb21 | hb21
       ·
        have hp21 : (0:UInt64) < eq := of_decide_eq_true hb21
        refine AD 10 68 true _ rfl rfl (bnotT hb21) rfl ?_
        refine AD 10 68 true _ rfl rfl (bnotT hb21) rfl ?_
        refine AD 10 68 true _ rfl rfl (bnotT hb21) rfl ?_
        refine AA _ (A0 _ rfl (bnotT hb21) rfl) rfl ?_
        refine AA _ (AF rfl) rfl ?_
        refine AK (AE (BA (BK (AU (BF [false] ?_)))))
        show JQ _ _ _ _ []
        refine A9 (.bool false) (res1 CI (A7 rfl)) fun w1 hw1 => ?_
        refine ⟨_, [], rfl, ⟨congrArg Value.bool ?_, rfl⟩, hw1.sub (by simp) (by simp)⟩
        unfold reqR
        rw [hlq]
        first | (simp [AZ, *]; done) | (simp [AZ, *] at *; simp [*]; done) | (simp_all [AZ]; done) | (simp_all [AZ]; omega)
       ·
        have hp21 : ¬ ((0:UInt64) < eq) := of_decide_eq_false hb21
        refine AN 10 68 true _ (Ptr nb1 5) rfl rfl (bnotF hb21) (AB 5 29 22 AS rfl CN rfl rfl) rfl ?_
        refine AN 10 68 true _ (.agg ([U64 pv, U64 ep, I64 (kd), .slice ai ni ci, .slice sa ns sc, U64 bl] ++ cu8 tg).toArray) rfl rfl (bnotF hb21) (AL rfl (B1 D2 CN (by simp [htg]) (AY 0 rfl (CO (p := [U64 sq, I64 (qk), .slice aiq niq ciq, U64 fs, I64 (mn)]) (q := [U64 eq]) (vs := [U64 pv, U64 ep, I64 (kd), .slice ai ni ci, .slice sa ns sc, U64 bl] ++ cu8 tg) (by first | rfl | (simp only [List.append_assoc, List.nil_append, List.append_nil, List.cons_append]; done)) rfl)))) rfl ?_
        refine DB 10 68 true _ rfl rfl (bnotF hb21) (A2 87 [.agg ([U64 pv, U64 ep, I64 (kd), .slice ai ni ci, .slice sa ns sc, U64 bl] ++ cu8 tg).toArray] (.bool (decide (mayN pv ep (kd) l ls bl = 0))) (A5 _ Tryd.call87 rfl) (fun w1 hw1 => wmay_w pv ep (kd) ai ni ci l sa ns sc ls bl tg w1 hl (by omega) (by omega) (by omega) (BP hw1 rfl hv) hls (by omega) (by omega) (by omega) (BP hw1 rfl hs) htg (by omega) (by omega))) rfl ?_
        rintro v1 L1 ⟨rfl, rfl⟩
        show JL _ _ _ _ ((71, .bool (decide (mayN pv ep (kd) l ls bl = 0))) :: _) [_]
        refine AA _ (BD _ rfl (bnotF hb21) rfl) rfl ?_
        refine AA _ (AF rfl) rfl ?_
        refine AK (AE (BA (BK (AU (BF [false] ?_)))))
        show JQ _ _ _ _ []
        refine A9 (.bool (decide (mayN pv ep (kd) l ls bl = 0))) (res1 CI (A7 rfl)) fun w1 hw1 => ?_
        refine ⟨_, [], rfl, ⟨congrArg Value.bool ?_, rfl⟩, hw1.sub (by simp) (by simp)⟩
        unfold reqR
        rw [hlq]
        first | (simp [AZ, *]; done) | (simp [AZ, *] at *; simp [*]; done) | (simp_all [AZ]; done) | (simp_all [AZ]; omega)
    ·
     have hp18 : ¬ ((qk) = (3:Int)) := of_decide_eq_false hb18
     refine AI (AI (AC (AA (.bool (decide ((qk) = (4:Int)))) (AQ rfl rfl fun _ => A4 _ _) rfl ?_)))
     refine AA _ (AF rfl) rfl ?_
     refine AK (AE (BZ (decide ((qk) = (4:Int))) rfl (fun hb22 => ?_) (fun hb22 => ?_)))
     ·
      have hp22 : (qk) = (4:Int) := of_decide_eq_true hb22
      refine BM (AE (B5 _ rfl hb22 ?_))
      refine AI (AC (AA _ (AM rfl) rfl ?_))
      refine AA (.bool (!(decide ((0:Int) < ((niq:Int)))))) (C8 rfl) rfl ?_
      refine AA _ (AM rfl) rfl ?_
      rcases Bool.eq_false_or_eq_true (decide ((0:Int) < ((niq:Int)))) with hb23 | hb23
      ·
       have hp23 : (0:Int) < ((niq:Int)) := of_decide_eq_true hb23
       refine AD 2 78 true _ rfl rfl (bnotT hb23) rfl ?_
       refine AD 2 78 true _ rfl rfl (bnotT hb23) rfl ?_
       refine AA _ (A0 _ rfl (bnotT hb23) rfl) rfl ?_
       refine AA _ (AM rfl) rfl ?_
       refine AD 6 82 true _ rfl rfl rfl rfl ?_
       refine AD 6 82 true _ rfl rfl rfl rfl ?_
       refine AA _ (A0 _ rfl rfl rfl) rfl ?_
       refine AA _ (AF rfl) rfl ?_
       refine AK (AE (BA (BK (AU (BF [false] ?_)))))
       show JQ _ _ _ _ []
       refine A9 (.bool false) (res1 CI (A7 rfl)) fun w1 hw1 => ?_
       refine ⟨_, [], rfl, ⟨congrArg Value.bool ?_, rfl⟩, hw1.sub (by simp) (by simp)⟩
       have h9 : niq ≠ 0 := by omega
       unfold reqR
       rw [hlq]
       first | (simp [AZ, *]; done) | (simp [AZ, *] at *; simp [*]; done) | (simp_all [AZ]; done) | (simp_all [AZ]; omega)
      ·
       have hp23 : ¬ ((0:Int) < ((niq:Int))) := of_decide_eq_false hb23
       refine AN 2 78 true _ _ rfl rfl (bnotF hb23) (AM rfl) rfl ?_
       refine AN 2 78 true _ (.bool (!(decide ((mn) ≠ (0:Int))))) rfl rfl (bnotF hb23) (C8 rfl) rfl ?_
       refine AA _ (BD _ rfl (bnotF hb23) rfl) rfl ?_
       refine AA _ (AM rfl) rfl ?_
       rcases Bool.eq_false_or_eq_true (decide ((mn) ≠ (0:Int))) with hb24 | hb24
       ·
        have hp24 : (mn) ≠ (0:Int) := of_decide_eq_true hb24
        refine AD 6 82 true _ rfl rfl (bnotT hb24) rfl ?_
        refine AD 6 82 true _ rfl rfl (bnotT hb24) rfl ?_
        refine AA _ (A0 _ rfl (bnotT hb24) rfl) rfl ?_
        refine AA _ (AF rfl) rfl ?_
        refine AK (AE (BA (BK (AU (BF [false] ?_)))))
        show JQ _ _ _ _ []
        refine A9 (.bool false) (res1 CI (A7 rfl)) fun w1 hw1 => ?_
        refine ⟨_, [], rfl, ⟨congrArg Value.bool ?_, rfl⟩, hw1.sub (by simp) (by simp)⟩
        unfold reqR
        rw [hlq]
        first | (simp [AZ, *]; done) | (simp [AZ, *] at *; simp [*]; done) | (simp_all [AZ]; done) | (simp_all [AZ]; omega)
       ·
        have hp24 : ¬ ((mn) ≠ (0:Int)) := of_decide_eq_false hb24
        refine AN 6 82 true _ _ rfl rfl (bnotF hb24) (AM rfl) rfl ?_
        refine AN 6 82 true _ (.bool (!(!(blankB pv ep (kd) l ls bl tg)))) rfl rfl (bnotF hb24) (C8 rfl) rfl ?_
        refine AA _ (BD _ rfl (bnotF hb24) rfl) rfl ?_
        refine AA _ (AF rfl) rfl ?_
        refine AK (AE (BA (BK (AU (BF [false] ?_)))))
        show JQ _ _ _ _ []
        refine A9 (.bool (!(!(blankB pv ep (kd) l ls bl tg)))) (res1 CI (A7 rfl)) fun w1 hw1 => ?_
        refine ⟨_, [], rfl, ⟨congrArg Value.bool ?_, rfl⟩, hw1.sub (by simp) (by simp)⟩
        unfold reqR
        rw [hlq]
        first | (simp [AZ, *]; done) | (simp [AZ, *] at *; simp [*]; done) | (simp_all [AZ]; done) | (simp_all [AZ]; omega)
     ·
      have hp22 : ¬ ((qk) = (4:Int)) := of_decide_eq_false hb22
      refine AC (AA (.bool (decide ((qk) = (5:Int)))) (AQ rfl rfl fun _ => A4 _ _) rfl ?_)
      refine AA _ (AF rfl) rfl ?_
      refine AK (AE (BZ (decide ((qk) = (5:Int))) rfl (fun hb25 => ?_) (fun hb25 => ?_)))
      ·
       have hp25 : (qk) = (5:Int) := of_decide_eq_true hb25
       refine AI (AC (AA _ (AM rfl) rfl ?_))
       refine AA (.bool (!(decide ((0:Int) < ((niq:Int)))))) (C8 rfl) rfl ?_
       refine AA _ (AM rfl) rfl ?_
       rcases Bool.eq_false_or_eq_true (decide ((0:Int) < ((niq:Int)))) with hb26 | hb26
       ·
        have hp26 : (0:Int) < ((niq:Int)) := of_decide_eq_true hb26
        refine AD 2 78 true _ rfl rfl (bnotT hb26) rfl ?_
        refine AD 2 78 true _ rfl rfl (bnotT hb26) rfl ?_
        refine AA _ (A0 _ rfl (bnotT hb26) rfl) rfl ?_
        refine AA _ (AM rfl) rfl ?_
        refine AD 6 82 true _ rfl rfl rfl rfl ?_
        refine AD 6 82 true _ rfl rfl rfl rfl ?_
        refine AA _ (A0 _ rfl rfl rfl) rfl ?_
        refine AA _ (AF rfl) rfl ?_
        refine AK (AE (BA (BK (AU (BF [false] ?_)))))
        show JQ _ _ _ _ []
        refine A9 (.bool false) (res1 CI (A7 rfl)) fun w1 hw1 => ?_
        refine ⟨_, [], rfl, ⟨congrArg Value.bool ?_, rfl⟩, hw1.sub (by simp) (by simp)⟩
        have h9 : niq ≠ 0 := by omega
        unfold reqR
        rw [hlq]
        first | (simp [AZ, *]; done) | (simp [AZ, *] at *; simp [*]; done) | (simp_all [AZ]; done) | (simp_all [AZ]; omega)
       ·
        have hp26 : ¬ ((0:Int) < ((niq:Int))) := of_decide_eq_false hb26
        refine AN 2 78 true _ _ rfl rfl (bnotF hb26) (AM rfl) rfl ?_
        refine AN 2 78 true _ (.bool (!(decide ((mn) ≠ (0:Int))))) rfl rfl (bnotF hb26) (C8 rfl) rfl ?_
        refine AA _ (BD _ rfl (bnotF hb26) rfl) rfl ?_
        refine AA _ (AM rfl) rfl ?_
        rcases Bool.eq_false_or_eq_true (decide ((mn) ≠ (0:Int))) with hb27 | hb27
        ·
         have hp27 : (mn) ≠ (0:Int) := of_decide_eq_true hb27
         refine AD 6 82 true _ rfl rfl (bnotT hb27) rfl ?_
         refine AD 6 82 true _ rfl rfl (bnotT hb27) rfl ?_
         refine AA _ (A0 _ rfl (bnotT hb27) rfl) rfl ?_
         refine AA _ (AF rfl) rfl ?_
         refine AK (AE (BA (BK (AU (BF [false] ?_)))))
         show JQ _ _ _ _ []
         refine A9 (.bool false) (res1 CI (A7 rfl)) fun w1 hw1 => ?_
         refine ⟨_, [], rfl, ⟨congrArg Value.bool ?_, rfl⟩, hw1.sub (by simp) (by simp)⟩
         unfold reqR
         rw [hlq]
         first | (simp [AZ, *]; done) | (simp [AZ, *] at *; simp [*]; done) | (simp_all [AZ]; done) | (simp_all [AZ]; omega)
        ·
         have hp27 : ¬ ((mn) ≠ (0:Int)) := of_decide_eq_false hb27
         refine AN 6 82 true _ _ rfl rfl (bnotF hb27) (AM rfl) rfl ?_
         refine AN 6 82 true _ (.bool (!(!(blankB pv ep (kd) l ls bl tg)))) rfl rfl (bnotF hb27) (C8 rfl) rfl ?_
         refine AA _ (BD _ rfl (bnotF hb27) rfl) rfl ?_
         refine AA _ (AF rfl) rfl ?_
         refine AK (AE (BA (BK (AU (BF [false] ?_)))))
         show JQ _ _ _ _ []
         refine A9 (.bool (!(!(blankB pv ep (kd) l ls bl tg)))) (res1 CI (A7 rfl)) fun w1 hw1 => ?_
         refine ⟨_, [], rfl, ⟨congrArg Value.bool ?_, rfl⟩, hw1.sub (by simp) (by simp)⟩
         unfold reqR
         rw [hlq]
         first | (simp [AZ, *]; done) | (simp [AZ, *] at *; simp [*]; done) | (simp_all [AZ]; done) | (simp_all [AZ]; omega)
      ·
       have hp25 : ¬ ((qk) = (5:Int)) := of_decide_eq_false hb25
       refine BM (BR (AE (AI (AC (AA _ (AF rfl) rfl ?_)))))
       refine AK (AE (BA (BF [false] ?_)))
       show JQ _ _ _ _ []
       refine A9 (.bool false) (res1 CI (A7 rfl)) fun w1 hw1 => ?_
       refine ⟨_, [], rfl, ⟨congrArg Value.bool ?_, rfl⟩, hw1.sub (by simp) (by simp)⟩
       unfold reqR
       rw [hlq]
       first | (simp [AZ, *]; done) | (simp [AZ, *] at *; simp [*]; done) | (simp_all [AZ]; done) | (simp_all [AZ]; omega)
set_option maxHeartbeats 4000000 in
theorem EY (sq : UInt64) (qk : Int) (aiq : Option Addr) (niq ciq : Nat) (lq : List UInt64) (fs : UInt64) (mn : Int) (pv ep : UInt64) (kd : Int) (ai : Option Addr) (ni ci : Nat) (l : List UInt64) (sa : Option Addr) (ns sc : Nat) (ls : List SealR) (bl : UInt64) (tg : List UInt8) (eq : UInt64)  (w : World) (hlq : lq.length = niq) (hnmq : niq ≤ 2000000) (hncq : niq ≤ ciq) (hcmq : ciq ≤ maxLen) (hvq : RdV w aiq (cu64 lq)) (hl : l.length = ni) (hnm : ni ≤ 2000000) (hnc : ni ≤ ci) (hcm : ci ≤ maxLen) (hv : RdV w ai (cu64 l)) (hls : ls.length = ns) (hnn : ns ≤ 2000000) (hnd : ns ≤ sc) (hcn : sc ≤ maxLen) (hs : RdV w sa (ls.flatMap sealC)) (htg : tg.length = 16) (hbi : ni ≤ 300) (hbs : ns ≤ 300)  : Calls Tryd.prog 20 #[.agg ([U64 sq, I64 (qk), .slice aiq niq ciq, U64 fs, I64 (mn), U64 pv, U64 ep, I64 (kd), .slice ai ni ci, .slice sa ns sc, U64 bl] ++ cu8 tg ++ [U64 eq]).toArray] w (Post w [] (fun v L => v = .bool (reqR qk lq fs mn eq (blankB pv ep kd l ls bl tg) (decide (mayN pv ep kd l ls bl = 0))) ∧ L = [])) := by
 have hmx : maxLen = 9223372036854775807 := rfl
 refine enter (P := Tryd.prog) (f := 20) (fn := Tryd.f20) w [] 76 [] [.agg ([U64 sq, I64 (qk), .slice aiq niq ciq, U64 fs, I64 (mn), U64 pv, U64 ep, I64 (kd), .slice ai ni ci, .slice sa ns sc, U64 bl] ++ cu8 tg ++ [U64 eq]).toArray] Tryd.func20 rfl rfl (by simp) (B2 (by simp) (by simp) (by simp)) ?_
 show JC _ _ _ [(0, .agg ([U64 sq, I64 (qk), .slice aiq niq ciq, U64 fs, I64 (mn), U64 pv, U64 ep, I64 (kd), .slice ai ni ci, .slice sa ns sc, U64 bl] ++ cu8 tg ++ [U64 eq]).toArray)] _
 refine AI (AC (BG (CE (.agg ([U64 sq, I64 (qk), .slice aiq niq ciq, U64 fs, I64 (mn), U64 pv, U64 ep, I64 (kd), .slice ai ni ci, .slice sa ns sc, U64 bl] ++ cu8 tg ++ [U64 eq]).toArray) ([U64 sq, I64 (qk), .slice aiq niq ciq, U64 fs, I64 (mn), U64 pv, U64 ep, I64 (kd), .slice ai ni ci, .slice sa ns sc, U64 bl] ++ cu8 tg ++ [U64 eq]) rfl (by first | rfl | simp)) rfl ?_))
 rintro v1 L1 ⟨nb1, hnb1, rfl, rfl⟩
 show JL _ _ _ _ ((1, Ptr nb1 0) :: _) [⟨nb1, [U64 sq, I64 (qk), .slice aiq niq ciq, U64 fs, I64 (mn), U64 pv, U64 ep, I64 (kd), .slice ai ni ci, .slice sa ns sc, U64 bl] ++ cu8 tg ++ [U64 eq], 40, (0, 0)⟩]
 refine AA _ (AF rfl) rfl ?_
 refine AK (AE (AI (AI (AC (AA (Ptr nb1 1) (AB 1 3 1 AJ rfl AT rfl rfl) rfl ?_)))))
 refine AA (I64 (qk)) (AL rfl (AV AX (AY 0 rfl (AH (AH (AG (Seg.head))))))) rfl ?_
 refine AA (.bool (decide ((qk) ≠ (1:Int)))) (AQ rfl rfl fun _ => DI _ _) rfl ?_
 refine AA _ (AM rfl) rfl ?_
 rcases Bool.eq_false_or_eq_true (decide ((qk) ≠ (1:Int))) with hb1 | hb1
 ·
  have hp1 : (qk) ≠ (1:Int) := of_decide_eq_true hb1
  refine AN 3 6 true _ (Ptr nb1 2) rfl rfl hb1 (AB 2 23 1 AJ rfl BI rfl rfl) rfl ?_
  refine AN 3 6 true _ (.slice aiq niq ciq) rfl rfl hb1 (AL rfl (AV BL (AY 0 rfl (AH (AH (AG (AG (Seg.head)))))))) rfl ?_
  refine AN 3 6 true _ (I64 niq) rfl rfl hb1 (C9 A8 rfl) rfl ?_
  refine AN 3 6 true _ (.bool (decide ((0:Int) < ((niq:Int))))) rfl rfl hb1 (AQ rfl rfl fun _ => C2 _ _) rfl ?_
  refine AA _ (BD _ rfl hb1 rfl) rfl ?_
  refine AA _ (AM rfl) rfl ?_
  rcases Bool.eq_false_or_eq_true (decide ((0:Int) < ((niq:Int)))) with hb2 | hb2
  ·
   have hp2 : (0:Int) < ((niq:Int)) := of_decide_eq_true hb2
   refine AD 9 12 false _ rfl rfl hb2 rfl ?_
   refine AD 9 12 false _ rfl rfl hb2 rfl ?_
   refine AD 9 12 false _ rfl rfl hb2 rfl ?_
   refine AD 9 12 false _ rfl rfl hb2 rfl ?_
   refine BW 13 16 true rfl rfl rfl ?_
   refine BW 13 16 true rfl rfl rfl ?_
   refine BW 13 16 true rfl rfl rfl ?_
   refine BW 13 16 true rfl rfl rfl ?_
   refine BW 17 20 false rfl rfl rfl ?_
   refine BW 17 20 false rfl rfl rfl ?_
   refine BW 17 20 false rfl rfl rfl ?_
   refine BW 13 16 true rfl rfl rfl ?_
   refine AD 9 12 false _ rfl rfl hb2 rfl ?_
   refine AA _ (BD _ rfl hb2 rfl) rfl ?_
   refine AA _ (AM rfl) rfl ?_
   refine AD 24 27 false _ rfl rfl rfl rfl ?_
   refine AD 24 27 false _ rfl rfl rfl rfl ?_
   refine AD 24 27 false _ rfl rfl rfl rfl ?_
   refine AD 24 27 false _ rfl rfl rfl rfl ?_
   refine BW 28 31 true rfl rfl rfl ?_
   refine BW 28 31 true rfl rfl rfl ?_
   refine BW 28 31 true rfl rfl rfl ?_
   refine BW 28 31 true rfl rfl rfl ?_
   refine AD 24 27 false _ rfl rfl rfl rfl ?_
   refine AA _ (BD _ rfl rfl rfl) rfl ?_
   refine AA _ (AM rfl) rfl ?_
   refine AD 35 38 false _ rfl rfl rfl rfl ?_
   refine AD 35 38 false _ rfl rfl rfl rfl ?_
   refine AD 35 38 false _ rfl rfl rfl rfl ?_
   refine AD 35 38 false _ rfl rfl rfl rfl ?_
   refine BW 39 42 true rfl rfl rfl ?_
   refine BW 39 42 true rfl rfl rfl ?_
   refine BW 39 42 true rfl rfl rfl ?_
   refine AD 35 38 false _ rfl rfl rfl rfl ?_
   refine AA _ (BD _ rfl rfl rfl) rfl ?_
   refine AK (AE (B5 _ rfl rfl ?_))
   refine AI (AC (AA _ (AF rfl) rfl ?_))
   refine AK (AE (BA (AU (BF [false] ?_))))
   show JQ _ _ _ _ []
   refine A9 (.bool false) (res1 BC (A7 rfl)) fun w1 hw1 => ?_
   refine ⟨_, [], rfl, ⟨congrArg Value.bool ?_, rfl⟩, hw1.sub (by simp) (by simp)⟩
   have h9 : niq ≠ 0 := by omega
   unfold reqR
   rw [hlq]
   first | (simp [AZ, *]; done) | (simp [AZ, *] at *; simp [*]; done) | (simp_all [AZ]; done) | (simp_all [AZ]; omega)
  ·
   have hp2 : ¬ ((0:Int) < ((niq:Int))) := of_decide_eq_false hb2
   refine AN 9 12 false _ (Ptr nb1 1) rfl rfl hb2 (AB 1 3 1 AJ rfl AT rfl rfl) rfl ?_
   refine AN 9 12 false _ (I64 (qk)) rfl rfl hb2 (AL rfl (AV AX (AY 0 rfl (AH (AH (AG (Seg.head))))))) rfl ?_
   refine AN 9 12 false _ (.bool (decide ((qk) ≠ (2:Int)))) rfl rfl hb2 (AQ rfl rfl fun _ => DI _ _) rfl ?_
   refine AN 9 12 false _ _ rfl rfl hb2 (AM rfl) rfl ?_
   rcases Bool.eq_false_or_eq_true (decide ((qk) ≠ (2:Int))) with hb3 | hb3
   ·
    have hp3 : (qk) ≠ (2:Int) := of_decide_eq_true hb3
    refine AN 13 16 true _ (Ptr nb1 3) rfl rfl hb3 (AB 3 22 1 AJ rfl AP rfl rfl) rfl ?_
    refine AN 13 16 true _ (U64 fs) rfl rfl hb3 (AL rfl (AV AR (AY 0 rfl (AH (AH (AG (AG (AG (Seg.head))))))))) rfl ?_
    refine AN 13 16 true _ (.bool (decide (fs ≠ (0:UInt64)))) rfl rfl hb3 (AQ rfl rfl fun _ => C4 fs (0:UInt64)) rfl ?_
    refine AN 13 16 true _ _ rfl rfl hb3 (AM rfl) rfl ?_
    rcases Bool.eq_false_or_eq_true (decide (fs ≠ (0:UInt64))) with hb4 | hb4
    ·
     have hp4 : fs ≠ (0:UInt64) := of_decide_eq_true hb4
     refine AD 17 20 false _ rfl rfl hb4 rfl ?_
     refine AD 17 20 false _ rfl rfl hb4 rfl ?_
     refine AD 17 20 false _ rfl rfl hb4 rfl ?_
     refine AN 13 16 true _ _ rfl rfl hb3 (BD _ rfl hb4 rfl) rfl ?_
     refine AN 9 12 false _ _ rfl rfl hb2 (BD _ rfl hb3 rfl) rfl ?_
     refine AA _ (A0 _ rfl hb2 rfl) rfl ?_
     refine AA _ (AM rfl) rfl ?_
     refine AD 24 27 false _ rfl rfl rfl rfl ?_
     refine AD 24 27 false _ rfl rfl rfl rfl ?_
     refine AD 24 27 false _ rfl rfl rfl rfl ?_
     refine AD 24 27 false _ rfl rfl rfl rfl ?_
     refine BW 28 31 true rfl rfl rfl ?_
     refine BW 28 31 true rfl rfl rfl ?_
     refine BW 28 31 true rfl rfl rfl ?_
     refine BW 28 31 true rfl rfl rfl ?_
     refine AD 24 27 false _ rfl rfl rfl rfl ?_
     refine AA _ (BD _ rfl rfl rfl) rfl ?_
     refine AA _ (AM rfl) rfl ?_
     refine AD 35 38 false _ rfl rfl rfl rfl ?_
     refine AD 35 38 false _ rfl rfl rfl rfl ?_
     refine AD 35 38 false _ rfl rfl rfl rfl ?_
     refine AD 35 38 false _ rfl rfl rfl rfl ?_
     refine BW 39 42 true rfl rfl rfl ?_
     refine BW 39 42 true rfl rfl rfl ?_
     refine BW 39 42 true rfl rfl rfl ?_
     refine AD 35 38 false _ rfl rfl rfl rfl ?_
     refine AA _ (BD _ rfl rfl rfl) rfl ?_
     refine AK (AE (B5 _ rfl rfl ?_))
     refine AI (AC (AA _ (AF rfl) rfl ?_))
     refine AK (AE (BA (AU (BF [false] ?_))))
     show JQ _ _ _ _ []
     refine A9 (.bool false) (res1 BC (A7 rfl)) fun w1 hw1 => ?_
     refine ⟨_, [], rfl, ⟨congrArg Value.bool ?_, rfl⟩, hw1.sub (by simp) (by simp)⟩
     unfold reqR
     rw [hlq]
     first | (simp [AZ, *]; done) | (simp [AZ, *] at *; simp [*]; done) | (simp_all [AZ]; done) | (simp_all [AZ]; omega)
    ·
     have hp4 : ¬ (fs ≠ (0:UInt64)) := of_decide_eq_false hb4
     refine AN 17 20 false _ (Ptr nb1 4) rfl rfl hb4 (AB 4 3 1 AJ rfl AT rfl rfl) rfl ?_
     refine AN 17 20 false _ (I64 (mn)) rfl rfl hb4 (AL rfl (AV AX (AY 0 rfl (AH (AH (AG (AG (AG (AG (Seg.head)))))))))) rfl ?_
     refine AN 17 20 false _ (.bool (decide ((mn) ≠ (0:Int)))) rfl rfl hb4 (AQ rfl rfl fun _ => DI _ _) rfl ?_
     refine AN 13 16 true _ _ rfl rfl hb3 (A0 _ rfl hb4 rfl) rfl ?_
     refine AN 9 12 false _ _ rfl rfl hb2 (BD _ rfl hb3 rfl) rfl ?_
     refine AA _ (A0 _ rfl hb2 rfl) rfl ?_
     refine AA _ (AM rfl) rfl ?_
     rcases Bool.eq_false_or_eq_true (decide ((mn) ≠ (0:Int))) with hb5 | hb5
     ·
      have hp5 : (mn) ≠ (0:Int) := of_decide_eq_true hb5
      refine AD 24 27 false _ rfl rfl hb5 rfl ?_
      refine AD 24 27 false _ rfl rfl hb5 rfl ?_
      refine AD 24 27 false _ rfl rfl hb5 rfl ?_
      refine AD 24 27 false _ rfl rfl hb5 rfl ?_
      refine BW 28 31 true rfl rfl rfl ?_
      refine BW 28 31 true rfl rfl rfl ?_
      refine BW 28 31 true rfl rfl rfl ?_
      refine BW 28 31 true rfl rfl rfl ?_
      refine AD 24 27 false _ rfl rfl hb5 rfl ?_
      refine AA _ (BD _ rfl hb5 rfl) rfl ?_
      refine AA _ (AM rfl) rfl ?_
      refine AD 35 38 false _ rfl rfl rfl rfl ?_
      refine AD 35 38 false _ rfl rfl rfl rfl ?_
      refine AD 35 38 false _ rfl rfl rfl rfl ?_
      refine AD 35 38 false _ rfl rfl rfl rfl ?_
      refine BW 39 42 true rfl rfl rfl ?_
      refine BW 39 42 true rfl rfl rfl ?_
      refine BW 39 42 true rfl rfl rfl ?_
      refine AD 35 38 false _ rfl rfl rfl rfl ?_
      refine AA _ (BD _ rfl rfl rfl) rfl ?_
      refine AK (AE (B5 _ rfl rfl ?_))
      refine AI (AC (AA _ (AF rfl) rfl ?_))
      refine AK (AE (BA (AU (BF [false] ?_))))
      show JQ _ _ _ _ []
      refine A9 (.bool false) (res1 BC (A7 rfl)) fun w1 hw1 => ?_
      refine ⟨_, [], rfl, ⟨congrArg Value.bool ?_, rfl⟩, hw1.sub (by simp) (by simp)⟩
      unfold reqR
      rw [hlq]
      first | (simp [AZ, *]; done) | (simp [AZ, *] at *; simp [*]; done) | (simp_all [AZ]; done) | (simp_all [AZ]; omega)
     ·
      have hp5 : ¬ ((mn) ≠ (0:Int)) := of_decide_eq_false hb5
      refine AN 24 27 false _ (Ptr nb1 1) rfl rfl hb5 (AB 1 3 1 AJ rfl AT rfl rfl) rfl ?_
      refine AN 24 27 false _ (I64 (qk)) rfl rfl hb5 (AL rfl (AV AX (AY 0 rfl (AH (AH (AG (Seg.head))))))) rfl ?_
      refine AN 24 27 false _ (.bool (decide ((qk) ≠ (3:Int)))) rfl rfl hb5 (AQ rfl rfl fun _ => DI _ _) rfl ?_
      refine AN 24 27 false _ _ rfl rfl hb5 (AM rfl) rfl ?_
      rcases Bool.eq_false_or_eq_true (decide ((qk) ≠ (3:Int))) with hb6 | hb6
      ·
       have hp6 : (qk) ≠ (3:Int) := of_decide_eq_true hb6
       refine AN 28 31 true _ (Ptr nb1 5) rfl rfl hb6 (AB 5 38 22 AJ rfl CA rfl rfl) rfl ?_
       refine AN 28 31 true _ (.agg ([U64 pv, U64 ep, I64 (kd), .slice ai ni ci, .slice sa ns sc, U64 bl] ++ cu8 tg).toArray) rfl rfl hb6 (AL rfl (B1 DO CA (by simp [htg]) (AY 0 rfl (CO (p := [U64 sq, I64 (qk), .slice aiq niq ciq, U64 fs, I64 (mn)]) (q := [U64 eq]) (vs := [U64 pv, U64 ep, I64 (kd), .slice ai ni ci, .slice sa ns sc, U64 bl] ++ cu8 tg) (by first | rfl | (simp only [List.append_assoc, List.nil_append, List.append_nil, List.cons_append]; done)) rfl)))) rfl ?_
       refine DB 28 31 true _ rfl rfl hb6 (A2 78 [.agg ([U64 pv, U64 ep, I64 (kd), .slice ai ni ci, .slice sa ns sc, U64 bl] ++ cu8 tg).toArray] (.bool (blankB pv ep (kd) l ls bl tg)) (A5 _ Tryd.call78 rfl) (fun w1 hw1 => rblank_c pv ep (kd) ai ni ci l sa ns sc ls bl tg w1 hl (by omega) (by omega) (by omega) (BP hw1 rfl hv) hls (by omega) (by omega) (by omega) (BP hw1 rfl hs) htg)) rfl ?_
       rintro v1 L1 ⟨rfl, rfl⟩
       show JL _ _ _ _ ((34, .bool (blankB pv ep (kd) l ls bl tg)) :: _) [_]
       refine AN 28 31 true _ (.bool (!(blankB pv ep (kd) l ls bl tg))) rfl rfl hb6 (C8 rfl) rfl ?_
       refine AN 24 27 false _ _ rfl rfl hb5 (BD _ rfl hb6 rfl) rfl ?_
       refine AA _ (A0 _ rfl hb5 rfl) rfl ?_
       refine AA _ (AM rfl) rfl ?_
       rcases Bool.eq_false_or_eq_true (blankB pv ep (kd) l ls bl tg) with hb7 | hb7
       ·
        refine AN 35 38 false _ (Ptr nb1 1) rfl rfl (bnotT hb7) (AB 1 3 1 AJ rfl AT rfl rfl) rfl ?_
        refine AN 35 38 false _ (I64 (qk)) rfl rfl (bnotT hb7) (AL rfl (AV AX (AY 0 rfl (AH (AH (AG (Seg.head))))))) rfl ?_
        refine AN 35 38 false _ (.bool (decide ((qk) = (3:Int)))) rfl rfl (bnotT hb7) (AQ rfl rfl fun _ => A4 _ _) rfl ?_
        refine AN 35 38 false _ _ rfl rfl (bnotT hb7) (AM rfl) rfl ?_
        rcases Bool.eq_false_or_eq_true (decide ((qk) = (3:Int))) with hb8 | hb8
        ·
         have hp8 : (qk) = (3:Int) := of_decide_eq_true hb8
         refine AN 39 42 true _ (Ptr nb1 27) rfl rfl hb8 (AB 27 22 1 AJ rfl AP rfl rfl) rfl ?_
         refine AN 39 42 true _ (U64 eq) rfl rfl hb8 (AL rfl (AV AR (AY 0 rfl (Seg.right 27 0 (by simp [htg]) rfl (Seg.head))))) rfl ?_
         refine AN 39 42 true _ (.bool (decide (eq ≠ (0:UInt64)))) rfl rfl hb8 (AQ rfl rfl fun _ => C4 eq (0:UInt64)) rfl ?_
         refine AN 35 38 false _ _ rfl rfl (bnotT hb7) (BD _ rfl hb8 rfl) rfl ?_
         refine AA _ (A0 _ rfl (bnotT hb7) rfl) rfl ?_
         refine AK (AE (BZ (decide (eq ≠ (0:UInt64))) rfl (fun hb9 => ?_) (fun hb9 => ?_)))
         ·
          have hp9 : eq ≠ (0:UInt64) := of_decide_eq_true hb9
          refine AI (AC (AA _ (AF rfl) rfl ?_))
          refine AK (AE (BA (AU (BF [false] ?_))))
          show JQ _ _ _ _ []
          refine A9 (.bool false) (res1 BC (A7 rfl)) fun w1 hw1 => ?_
          refine ⟨_, [], rfl, ⟨congrArg Value.bool ?_, rfl⟩, hw1.sub (by simp) (by simp)⟩
          unfold reqR
          rw [hlq]
          first | (simp [AZ, *]; done) | (simp [AZ, *] at *; simp [*]; done) | (simp_all [AZ]; done) | (simp_all [AZ]; omega)
         ·
          have hp9 : ¬ (eq ≠ (0:UInt64)) := of_decide_eq_false hb9
          refine BM (AE (AI (AI (AC (AA (Ptr nb1 1) (AB 1 3 1 AJ rfl AT rfl rfl) rfl ?_)))))
          refine AA (I64 (qk)) (AL rfl (AV AX (AY 0 rfl (AH (AH (AG (Seg.head))))))) rfl ?_
          refine AK (AE (BY (AI (AC (AA (.bool (decide ((qk) = (1:Int)))) (AQ rfl rfl fun _ => A4 _ _) rfl ?_)))))
          refine AA _ (AF rfl) rfl ?_
          refine AK (AE (BZ (decide ((qk) = (1:Int))) rfl (fun hb10 => ?_) (fun hb10 => ?_)))
          ·
           have hp10 : (qk) = (1:Int) := of_decide_eq_true hb10
           refine AI (AC (AA (Ptr nb1 2) (AB 2 23 1 AJ rfl BI rfl rfl) rfl ?_))
           refine AA (.slice aiq niq ciq) (AL rfl (AV BL (AY 0 rfl (AH (AH (AG (AG (Seg.head)))))))) rfl ?_
           refine BS (A2 79 [I64 32, .slice aiq niq ciq] (.bool (decide (RightI lq))) (A5 _ DY rfl) (fun w1 hw1 => EA aiq niq ciq lq w1 hlq (by omega) (by omega) (by omega) (BP hw1 rfl hvq))) rfl ?_
           show JL _ _ _ _ ((54, .bool (decide (RightI lq))) :: _) [_]
           refine AA _ (AF rfl) rfl ?_
           refine AK (AE (BA (BK (AU (BF [false] ?_)))))
           show JQ _ _ _ _ []
           refine A9 (.bool (decide (RightI lq))) (res1 BC (A7 rfl)) fun w1 hw1 => ?_
           refine ⟨_, [], rfl, ⟨congrArg Value.bool ?_, rfl⟩, hw1.sub (by simp) (by simp)⟩
           unfold reqR
           rw [hlq]
           first | (simp [AZ, *]; done) | (simp [AZ, *] at *; simp [*]; done) | (simp_all [AZ]; done) | (simp_all [AZ]; omega)
          ·
           have hp10 : ¬ ((qk) = (1:Int)) := of_decide_eq_false hb10
           refine AI (AC (AA (.bool (decide ((qk) = (2:Int)))) (AQ rfl rfl fun _ => A4 _ _) rfl ?_))
           refine AA _ (AF rfl) rfl ?_
           refine AK (AE (BZ (decide ((qk) = (2:Int))) rfl (fun hb11 => ?_) (fun hb11 => ?_)))
           ·
            have hp11 : (qk) = (2:Int) := of_decide_eq_true hb11
            refine AI (AC (AA (Ptr nb1 3) (AB 3 22 1 AJ rfl AP rfl rfl) rfl ?_))
            refine AA (U64 fs) (AL rfl (AV AR (AY 0 rfl (AH (AH (AG (AG (AG (Seg.head))))))))) rfl ?_
            refine AA (Ptr nb1 4) (AB 4 3 1 AJ rfl AT rfl rfl) rfl ?_
            refine AA (I64 (mn)) (AL rfl (AV AX (AY 0 rfl (AH (AH (AG (AG (AG (AG (Seg.head)))))))))) rfl ?_
            refine BS (A2 80 [I64 32, U64 fs, I64 (mn)] (.bool (spanB fs (mn))) (A5 _ D0 rfl) (fun w1 hw1 => E3 fs (mn) w1 )) rfl ?_
            show JL _ _ _ _ ((61, .bool (spanB fs (mn))) :: _) [_]
            refine AA _ (AF rfl) rfl ?_
            refine AK (AE (BA (BK (AU (BF [false] ?_)))))
            show JQ _ _ _ _ []
            refine A9 (.bool (spanB fs (mn))) (res1 BC (A7 rfl)) fun w1 hw1 => ?_
            refine ⟨_, [], rfl, ⟨congrArg Value.bool ?_, rfl⟩, hw1.sub (by simp) (by simp)⟩
            unfold reqR
            rw [hlq]
            first | (simp [AZ, *]; done) | (simp [AZ, *] at *; simp [*]; done) | (simp_all [AZ]; done) | (simp_all [AZ]; omega)
           ·
            have hp11 : ¬ ((qk) = (2:Int)) := of_decide_eq_false hb11
            refine AI (AC (AA (.bool (decide ((qk) = (3:Int)))) (AQ rfl rfl fun _ => A4 _ _) rfl ?_))
            refine AA _ (AF rfl) rfl ?_
            refine AK (AE (B5 _ rfl hb8 ?_))
            refine AI (AC (AA (Ptr nb1 5) (AB 5 38 22 AJ rfl CA rfl rfl) rfl ?_))
            refine AA (.agg ([U64 pv, U64 ep, I64 (kd), .slice ai ni ci, .slice sa ns sc, U64 bl] ++ cu8 tg).toArray) (AL rfl (B1 DO CA (by simp [htg]) (AY 0 rfl (CO (p := [U64 sq, I64 (qk), .slice aiq niq ciq, U64 fs, I64 (mn)]) (q := [U64 eq]) (vs := [U64 pv, U64 ep, I64 (kd), .slice ai ni ci, .slice sa ns sc, U64 bl] ++ cu8 tg) (by first | rfl | (simp only [List.append_assoc, List.nil_append, List.append_nil, List.cons_append]; done)) rfl)))) rfl ?_
            refine BS (A2 45 [.agg ([U64 pv, U64 ep, I64 (kd), .slice ai ni ci, .slice sa ns sc, U64 bl] ++ cu8 tg).toArray] (I64 (((mayN pv ep (kd) l ls bl):Int))) (A5 _ Tryd.call45 rfl) (fun w1 hw1 => rmay13_c pv ep (kd) ai ni ci l sa ns sc ls bl tg w1 hl (by omega) (by omega) (by omega) (BP hw1 rfl hv) hls (by omega) (by omega) (by omega) (BP hw1 rfl hs) htg)) rfl ?_
            show JL _ _ _ _ ((66, I64 (((mayN pv ep (kd) l ls bl):Int))) :: _) [_]
            refine AA (.bool (decide ((((mayN pv ep (kd) l ls bl):Int)) = (0:Int)))) (AQ rfl rfl fun _ => A4 _ _) rfl ?_
            refine AA _ (AF rfl) rfl ?_
            refine AK (AE (BA (BK (AU (BF [false] ?_)))))
            show JQ _ _ _ _ []
            refine A9 (.bool (decide ((((mayN pv ep (kd) l ls bl):Int)) = (0:Int)))) (res1 BC (A7 rfl)) fun w1 hw1 => ?_
            refine ⟨_, [], rfl, ⟨congrArg Value.bool ?_, rfl⟩, hw1.sub (by simp) (by simp)⟩
            unfold reqR
            rw [hlq]
            first | (simp [AZ, *]; done) | (simp [AZ, *] at *; simp [*]; done) | (simp_all [AZ]; done) | (simp_all [AZ]; omega)
        ·
         have hp8 : ¬ ((qk) = (3:Int)) := of_decide_eq_false hb8
         refine AD 39 42 true _ rfl rfl hb8 rfl ?_
         refine AD 39 42 true _ rfl rfl hb8 rfl ?_
         refine AD 39 42 true _ rfl rfl hb8 rfl ?_
         refine AN 35 38 false _ _ rfl rfl (bnotT hb7) (A0 _ rfl hb8 rfl) rfl ?_
         refine AA _ (A0 _ rfl (bnotT hb7) rfl) rfl ?_
         refine AK (AE (BT _ rfl rfl ?_))
         refine BM (AE (AI (AI (AC (AA (Ptr nb1 1) (AB 1 3 1 AJ rfl AT rfl rfl) rfl ?_)))))
         refine AA (I64 (qk)) (AL rfl (AV AX (AY 0 rfl (AH (AH (AG (Seg.head))))))) rfl ?_
         refine AK (AE (BY (AI (AC (AA (.bool (decide ((qk) = (1:Int)))) (AQ rfl rfl fun _ => A4 _ _) rfl ?_)))))
         refine AA _ (AF rfl) rfl ?_
         refine AK (AE (BZ (decide ((qk) = (1:Int))) rfl (fun hb12 => ?_) (fun hb12 => ?_)))
         ·
          have hp12 : (qk) = (1:Int) := of_decide_eq_true hb12
          refine AI (AC (AA (Ptr nb1 2) (AB 2 23 1 AJ rfl BI rfl rfl) rfl ?_))
          refine AA (.slice aiq niq ciq) (AL rfl (AV BL (AY 0 rfl (AH (AH (AG (AG (Seg.head)))))))) rfl ?_
          refine BS (A2 79 [I64 32, .slice aiq niq ciq] (.bool (decide (RightI lq))) (A5 _ DY rfl) (fun w1 hw1 => EA aiq niq ciq lq w1 hlq (by omega) (by omega) (by omega) (BP hw1 rfl hvq))) rfl ?_
          show JL _ _ _ _ ((54, .bool (decide (RightI lq))) :: _) [_]
          refine AA _ (AF rfl) rfl ?_
          refine AK (AE (BA (BK (AU (BF [false] ?_)))))
          show JQ _ _ _ _ []
          refine A9 (.bool (decide (RightI lq))) (res1 BC (A7 rfl)) fun w1 hw1 => ?_
          refine ⟨_, [], rfl, ⟨congrArg Value.bool ?_, rfl⟩, hw1.sub (by simp) (by simp)⟩
          unfold reqR
          rw [hlq]
          first | (simp [AZ, *]; done) | (simp [AZ, *] at *; simp [*]; done) | (simp_all [AZ]; done) | (simp_all [AZ]; omega)
         ·
          have hp12 : ¬ ((qk) = (1:Int)) := of_decide_eq_false hb12
          refine AI (AC (AA (.bool (decide ((qk) = (2:Int)))) (AQ rfl rfl fun _ => A4 _ _) rfl ?_))
          refine AA _ (AF rfl) rfl ?_
          refine AK (AE (BZ (decide ((qk) = (2:Int))) rfl (fun hb13 => ?_) (fun hb13 => ?_)))
          ·
           have hp13 : (qk) = (2:Int) := of_decide_eq_true hb13
           refine AI (AC (AA (Ptr nb1 3) (AB 3 22 1 AJ rfl AP rfl rfl) rfl ?_))
           refine AA (U64 fs) (AL rfl (AV AR (AY 0 rfl (AH (AH (AG (AG (AG (Seg.head))))))))) rfl ?_
           refine AA (Ptr nb1 4) (AB 4 3 1 AJ rfl AT rfl rfl) rfl ?_
           refine AA (I64 (mn)) (AL rfl (AV AX (AY 0 rfl (AH (AH (AG (AG (AG (AG (Seg.head)))))))))) rfl ?_
           refine BS (A2 80 [I64 32, U64 fs, I64 (mn)] (.bool (spanB fs (mn))) (A5 _ D0 rfl) (fun w1 hw1 => E3 fs (mn) w1 )) rfl ?_
           show JL _ _ _ _ ((61, .bool (spanB fs (mn))) :: _) [_]
           refine AA _ (AF rfl) rfl ?_
           refine AK (AE (BA (BK (AU (BF [false] ?_)))))
           show JQ _ _ _ _ []
           refine A9 (.bool (spanB fs (mn))) (res1 BC (A7 rfl)) fun w1 hw1 => ?_
           refine ⟨_, [], rfl, ⟨congrArg Value.bool ?_, rfl⟩, hw1.sub (by simp) (by simp)⟩
           unfold reqR
           rw [hlq]
           first | (simp [AZ, *]; done) | (simp [AZ, *] at *; simp [*]; done) | (simp_all [AZ]; done) | (simp_all [AZ]; omega)
          ·
           have hp13 : ¬ ((qk) = (2:Int)) := of_decide_eq_false hb13
           refine AI (AC (AA (.bool (decide ((qk) = (3:Int)))) (AQ rfl rfl fun _ => A4 _ _) rfl ?_))
           refine AA _ (AF rfl) rfl ?_
           refine AK (AE (BT _ rfl hb8 ?_))
           refine BM (BR (AE (AI (AC (AA (Ptr nb1 1) (AB 1 3 1 AJ rfl AT rfl rfl) rfl ?_)))))
           refine AA (I64 (qk)) (AL rfl (AV AX (AY 0 rfl (AH (AH (AG (Seg.head))))))) rfl ?_
           refine AA (.bool (decide ((qk) = (4:Int)))) (AQ rfl rfl fun _ => A4 _ _) rfl ?_
           refine AA _ (AM rfl) rfl ?_
           rcases Bool.eq_false_or_eq_true (decide ((qk) = (4:Int))) with hb14 | hb14
           ·
            have hp14 : (qk) = (4:Int) := of_decide_eq_true hb14
            refine AD 3 71 false _ rfl rfl hb14 rfl ?_
            refine AD 3 71 false _ rfl rfl hb14 rfl ?_
            refine AD 3 71 false _ rfl rfl hb14 rfl ?_
            refine AA _ (BD _ rfl hb14 rfl) rfl ?_
            refine AA _ (AF rfl) rfl ?_
            refine AK (AE (BA (BF [false] ?_)))
            show JQ _ _ _ _ []
            refine A9 (.bool true) (res1 BC (A7 rfl)) fun w1 hw1 => ?_
            refine ⟨_, [], rfl, ⟨congrArg Value.bool ?_, rfl⟩, hw1.sub (by simp) (by simp)⟩
            unfold reqR
            rw [hlq]
            first | (simp [AZ, *]; done) | (simp [AZ, *] at *; simp [*]; done) | (simp_all [AZ]; done) | (simp_all [AZ]; omega)
           ·
            have hp14 : ¬ ((qk) = (4:Int)) := of_decide_eq_false hb14
            refine AN 3 71 false _ (Ptr nb1 1) rfl rfl hb14 (AB 1 3 1 AJ rfl AT rfl rfl) rfl ?_
            refine AN 3 71 false _ (I64 (qk)) rfl rfl hb14 (AL rfl (AV AX (AY 0 rfl (AH (AH (AG (Seg.head))))))) rfl ?_
            refine AN 3 71 false _ (.bool (decide ((qk) = (5:Int)))) rfl rfl hb14 (AQ rfl rfl fun _ => A4 _ _) rfl ?_
            refine AA _ (A0 _ rfl hb14 rfl) rfl ?_
            refine AA _ (AF rfl) rfl ?_
            refine AK (AE (BA (BF [false] ?_)))
            show JQ _ _ _ _ []
            refine A9 (.bool (decide ((qk) = (5:Int)))) (res1 BC (A7 rfl)) fun w1 hw1 => ?_
            refine ⟨_, [], rfl, ⟨congrArg Value.bool ?_, rfl⟩, hw1.sub (by simp) (by simp)⟩
            unfold reqR
            rw [hlq]
            first | (simp [AZ, *]; done) | (simp [AZ, *] at *; simp [*]; done) | (simp_all [AZ]; done) | (simp_all [AZ]; omega)
       ·
        refine AD 35 38 false _ rfl rfl (bnotF hb7) rfl ?_
        refine AD 35 38 false _ rfl rfl (bnotF hb7) rfl ?_
        refine AD 35 38 false _ rfl rfl (bnotF hb7) rfl ?_
        refine AD 35 38 false _ rfl rfl (bnotF hb7) rfl ?_
        refine BW 39 42 true rfl rfl rfl ?_
        refine BW 39 42 true rfl rfl rfl ?_
        refine BW 39 42 true rfl rfl rfl ?_
        refine AD 35 38 false _ rfl rfl (bnotF hb7) rfl ?_
        refine AA _ (BD _ rfl (bnotF hb7) rfl) rfl ?_
        refine AK (AE (B5 _ rfl rfl ?_))
        refine AI (AC (AA _ (AF rfl) rfl ?_))
        refine AK (AE (BA (AU (BF [false] ?_))))
        show JQ _ _ _ _ []
        refine A9 (.bool false) (res1 BC (A7 rfl)) fun w1 hw1 => ?_
        refine ⟨_, [], rfl, ⟨congrArg Value.bool ?_, rfl⟩, hw1.sub (by simp) (by simp)⟩
        unfold reqR
        rw [hlq]
        first | (simp [AZ, *]; done) | (simp [AZ, *] at *; simp [*]; done) | (simp_all [AZ]; done) | (simp_all [AZ]; omega)
      ·
       have hp6 : ¬ ((qk) ≠ (3:Int)) := of_decide_eq_false hb6
       refine AD 28 31 true _ rfl rfl hb6 rfl ?_
       refine AD 28 31 true _ rfl rfl hb6 rfl ?_
       refine AD 28 31 true _ rfl rfl hb6 rfl ?_
       refine AD 28 31 true _ rfl rfl hb6 rfl ?_
       refine AN 24 27 false _ _ rfl rfl hb5 (A0 _ rfl hb6 rfl) rfl ?_
       refine AA _ (A0 _ rfl hb5 rfl) rfl ?_
       refine AA _ (AM rfl) rfl ?_
       refine AN 35 38 false _ (Ptr nb1 1) rfl rfl rfl (AB 1 3 1 AJ rfl AT rfl rfl) rfl ?_
       refine AN 35 38 false _ (I64 (qk)) rfl rfl rfl (AL rfl (AV AX (AY 0 rfl (AH (AH (AG (Seg.head))))))) rfl ?_
       refine AN 35 38 false _ (.bool (decide ((qk) = (3:Int)))) rfl rfl rfl (AQ rfl rfl fun _ => A4 _ _) rfl ?_
       refine AN 35 38 false _ _ rfl rfl rfl (AM rfl) rfl ?_
       rcases Bool.eq_false_or_eq_true (decide ((qk) = (3:Int))) with hb15 | hb15
       ·
        have hp15 : (qk) = (3:Int) := of_decide_eq_true hb15
        refine AN 39 42 true _ (Ptr nb1 27) rfl rfl hb15 (AB 27 22 1 AJ rfl AP rfl rfl) rfl ?_
        refine AN 39 42 true _ (U64 eq) rfl rfl hb15 (AL rfl (AV AR (AY 0 rfl (Seg.right 27 0 (by simp [htg]) rfl (Seg.head))))) rfl ?_
        refine AN 39 42 true _ (.bool (decide (eq ≠ (0:UInt64)))) rfl rfl hb15 (AQ rfl rfl fun _ => C4 eq (0:UInt64)) rfl ?_
        refine AN 35 38 false _ _ rfl rfl rfl (BD _ rfl hb15 rfl) rfl ?_
        refine AA _ (A0 _ rfl rfl rfl) rfl ?_
        refine AK (AE (BZ (decide (eq ≠ (0:UInt64))) rfl (fun hb16 => ?_) (fun hb16 => ?_)))
        ·
         have hp16 : eq ≠ (0:UInt64) := of_decide_eq_true hb16
         refine AI (AC (AA _ (AF rfl) rfl ?_))
         refine AK (AE (BA (AU (BF [false] ?_))))
         show JQ _ _ _ _ []
         refine A9 (.bool false) (res1 BC (A7 rfl)) fun w1 hw1 => ?_
         refine ⟨_, [], rfl, ⟨congrArg Value.bool ?_, rfl⟩, hw1.sub (by simp) (by simp)⟩
         unfold reqR
         rw [hlq]
         first | (simp [AZ, *]; done) | (simp [AZ, *] at *; simp [*]; done) | (simp_all [AZ]; done) | (simp_all [AZ]; omega)
        ·
         have hp16 : ¬ (eq ≠ (0:UInt64)) := of_decide_eq_false hb16
         refine BM (AE (AI (AI (AC (AA (Ptr nb1 1) (AB 1 3 1 AJ rfl AT rfl rfl) rfl ?_)))))
         refine AA (I64 (qk)) (AL rfl (AV AX (AY 0 rfl (AH (AH (AG (Seg.head))))))) rfl ?_
         refine AK (AE (BY (AI (AC (AA (.bool (decide ((qk) = (1:Int)))) (AQ rfl rfl fun _ => A4 _ _) rfl ?_)))))
         refine AA _ (AF rfl) rfl ?_
         refine AK (AE (BZ (decide ((qk) = (1:Int))) rfl (fun hb17 => ?_) (fun hb17 => ?_)))
         ·
          have hp17 : (qk) = (1:Int) := of_decide_eq_true hb17
          refine AI (AC (AA (Ptr nb1 2) (AB 2 23 1 AJ rfl BI rfl rfl) rfl ?_))
          refine AA (.slice aiq niq ciq) (AL rfl (AV BL (AY 0 rfl (AH (AH (AG (AG (Seg.head)))))))) rfl ?_
          refine BS (A2 79 [I64 32, .slice aiq niq ciq] (.bool (decide (RightI lq))) (A5 _ DY rfl) (fun w1 hw1 => EA aiq niq ciq lq w1 hlq (by omega) (by omega) (by omega) (BP hw1 rfl hvq))) rfl ?_
          show JL _ _ _ _ ((54, .bool (decide (RightI lq))) :: _) [_]
          refine AA _ (AF rfl) rfl ?_
          refine AK (AE (BA (BK (AU (BF [false] ?_)))))
          show JQ _ _ _ _ []
          refine A9 (.bool (decide (RightI lq))) (res1 BC (A7 rfl)) fun w1 hw1 => ?_
          refine ⟨_, [], rfl, ⟨congrArg Value.bool ?_, rfl⟩, hw1.sub (by simp) (by simp)⟩
          unfold reqR
          rw [hlq]
          first | (simp [AZ, *]; done) | (simp [AZ, *] at *; simp [*]; done) | (simp_all [AZ]; done) | (simp_all [AZ]; omega)
         ·
          have hp17 : ¬ ((qk) = (1:Int)) := of_decide_eq_false hb17
          refine AI (AC (AA (.bool (decide ((qk) = (2:Int)))) (AQ rfl rfl fun _ => A4 _ _) rfl ?_))
          refine AA _ (AF rfl) rfl ?_
          refine AK (AE (BZ (decide ((qk) = (2:Int))) rfl (fun hb18 => ?_) (fun hb18 => ?_)))
          ·
           have hp18 : (qk) = (2:Int) := of_decide_eq_true hb18
           refine AI (AC (AA (Ptr nb1 3) (AB 3 22 1 AJ rfl AP rfl rfl) rfl ?_))
           refine AA (U64 fs) (AL rfl (AV AR (AY 0 rfl (AH (AH (AG (AG (AG (Seg.head))))))))) rfl ?_
           refine AA (Ptr nb1 4) (AB 4 3 1 AJ rfl AT rfl rfl) rfl ?_
           refine AA (I64 (mn)) (AL rfl (AV AX (AY 0 rfl (AH (AH (AG (AG (AG (AG (Seg.head)))))))))) rfl ?_
           refine BS (A2 80 [I64 32, U64 fs, I64 (mn)] (.bool (spanB fs (mn))) (A5 _ D0 rfl) (fun w1 hw1 => E3 fs (mn) w1 )) rfl ?_
           show JL _ _ _ _ ((61, .bool (spanB fs (mn))) :: _) [_]
           refine AA _ (AF rfl) rfl ?_
           refine AK (AE (BA (BK (AU (BF [false] ?_)))))
           show JQ _ _ _ _ []
           refine A9 (.bool (spanB fs (mn))) (res1 BC (A7 rfl)) fun w1 hw1 => ?_
           refine ⟨_, [], rfl, ⟨congrArg Value.bool ?_, rfl⟩, hw1.sub (by simp) (by simp)⟩
           unfold reqR
           rw [hlq]
           first | (simp [AZ, *]; done) | (simp [AZ, *] at *; simp [*]; done) | (simp_all [AZ]; done) | (simp_all [AZ]; omega)
          ·
           have hp18 : ¬ ((qk) = (2:Int)) := of_decide_eq_false hb18
           refine AI (AC (AA (.bool (decide ((qk) = (3:Int)))) (AQ rfl rfl fun _ => A4 _ _) rfl ?_))
           refine AA _ (AF rfl) rfl ?_
           refine AK (AE (B5 _ rfl hb15 ?_))
           refine AI (AC (AA (Ptr nb1 5) (AB 5 38 22 AJ rfl CA rfl rfl) rfl ?_))
           refine AA (.agg ([U64 pv, U64 ep, I64 (kd), .slice ai ni ci, .slice sa ns sc, U64 bl] ++ cu8 tg).toArray) (AL rfl (B1 DO CA (by simp [htg]) (AY 0 rfl (CO (p := [U64 sq, I64 (qk), .slice aiq niq ciq, U64 fs, I64 (mn)]) (q := [U64 eq]) (vs := [U64 pv, U64 ep, I64 (kd), .slice ai ni ci, .slice sa ns sc, U64 bl] ++ cu8 tg) (by first | rfl | (simp only [List.append_assoc, List.nil_append, List.append_nil, List.cons_append]; done)) rfl)))) rfl ?_
           refine BS (A2 45 [.agg ([U64 pv, U64 ep, I64 (kd), .slice ai ni ci, .slice sa ns sc, U64 bl] ++ cu8 tg).toArray] (I64 (((mayN pv ep (kd) l ls bl):Int))) (A5 _ Tryd.call45 rfl) (fun w1 hw1 => rmay13_c pv ep (kd) ai ni ci l sa ns sc ls bl tg w1 hl (by omega) (by omega) (by omega) (BP hw1 rfl hv) hls (by omega) (by omega) (by omega) (BP hw1 rfl hs) htg)) rfl ?_
           show JL _ _ _ _ ((66, I64 (((mayN pv ep (kd) l ls bl):Int))) :: _) [_]
           refine AA (.bool (decide ((((mayN pv ep (kd) l ls bl):Int)) = (0:Int)))) (AQ rfl rfl fun _ => A4 _ _) rfl ?_
           refine AA _ (AF rfl) rfl ?_
           refine AK (AE (BA (BK (AU (BF [false] ?_)))))
           show JQ _ _ _ _ []
           refine A9 (.bool (decide ((((mayN pv ep (kd) l ls bl):Int)) = (0:Int)))) (res1 BC (A7 rfl)) fun w1 hw1 => ?_
           refine ⟨_, [], rfl, ⟨congrArg Value.bool ?_, rfl⟩, hw1.sub (by simp) (by simp)⟩
           unfold reqR
           rw [hlq]
           first | (simp [AZ, *]; done) | (simp [AZ, *] at *; simp [*]; done) | (simp_all [AZ]; done) | (simp_all [AZ]; omega)
       ·
        have hp15 : ¬ ((qk) = (3:Int)) := of_decide_eq_false hb15
        refine AD 39 42 true _ rfl rfl hb15 rfl ?_
        refine AD 39 42 true _ rfl rfl hb15 rfl ?_
        refine AD 39 42 true _ rfl rfl hb15 rfl ?_
        refine AN 35 38 false _ _ rfl rfl rfl (A0 _ rfl hb15 rfl) rfl ?_
        refine AA _ (A0 _ rfl rfl rfl) rfl ?_
        refine AK (AE (BT _ rfl rfl ?_))
        refine BM (AE (AI (AI (AC (AA (Ptr nb1 1) (AB 1 3 1 AJ rfl AT rfl rfl) rfl ?_)))))
        refine AA (I64 (qk)) (AL rfl (AV AX (AY 0 rfl (AH (AH (AG (Seg.head))))))) rfl ?_
        refine AK (AE (BY (AI (AC (AA (.bool (decide ((qk) = (1:Int)))) (AQ rfl rfl fun _ => A4 _ _) rfl ?_)))))
        refine AA _ (AF rfl) rfl ?_
        refine AK (AE (BZ (decide ((qk) = (1:Int))) rfl (fun hb19 => ?_) (fun hb19 => ?_)))
        ·
         have hp19 : (qk) = (1:Int) := of_decide_eq_true hb19
         refine AI (AC (AA (Ptr nb1 2) (AB 2 23 1 AJ rfl BI rfl rfl) rfl ?_))
         refine AA (.slice aiq niq ciq) (AL rfl (AV BL (AY 0 rfl (AH (AH (AG (AG (Seg.head)))))))) rfl ?_
         refine BS (A2 79 [I64 32, .slice aiq niq ciq] (.bool (decide (RightI lq))) (A5 _ DY rfl) (fun w1 hw1 => EA aiq niq ciq lq w1 hlq (by omega) (by omega) (by omega) (BP hw1 rfl hvq))) rfl ?_
         show JL _ _ _ _ ((54, .bool (decide (RightI lq))) :: _) [_]
         refine AA _ (AF rfl) rfl ?_
         refine AK (AE (BA (BK (AU (BF [false] ?_)))))
         show JQ _ _ _ _ []
         refine A9 (.bool (decide (RightI lq))) (res1 BC (A7 rfl)) fun w1 hw1 => ?_
         refine ⟨_, [], rfl, ⟨congrArg Value.bool ?_, rfl⟩, hw1.sub (by simp) (by simp)⟩
         unfold reqR
         rw [hlq]
         first | (simp [AZ, *]; done) | (simp [AZ, *] at *; simp [*]; done) | (simp_all [AZ]; done) | (simp_all [AZ]; omega)
        ·
         have hp19 : ¬ ((qk) = (1:Int)) := of_decide_eq_false hb19
         refine AI (AC (AA (.bool (decide ((qk) = (2:Int)))) (AQ rfl rfl fun _ => A4 _ _) rfl ?_))
         refine AA _ (AF rfl) rfl ?_
         refine AK (AE (BZ (decide ((qk) = (2:Int))) rfl (fun hb20 => ?_) (fun hb20 => ?_)))
         ·
          have hp20 : (qk) = (2:Int) := of_decide_eq_true hb20
          refine AI (AC (AA (Ptr nb1 3) (AB 3 22 1 AJ rfl AP rfl rfl) rfl ?_))
          refine AA (U64 fs) (AL rfl (AV AR (AY 0 rfl (AH (AH (AG (AG (AG (Seg.head))))))))) rfl ?_
          refine AA (Ptr nb1 4) (AB 4 3 1 AJ rfl AT rfl rfl) rfl ?_
          refine AA (I64 (mn)) (AL rfl (AV AX (AY 0 rfl (AH (AH (AG (AG (AG (AG (Seg.head)))))))))) rfl ?_
          refine BS (A2 80 [I64 32, U64 fs, I64 (mn)] (.bool (spanB fs (mn))) (A5 _ D0 rfl) (fun w1 hw1 => E3 fs (mn) w1 )) rfl ?_
          show JL _ _ _ _ ((61, .bool (spanB fs (mn))) :: _) [_]
          refine AA _ (AF rfl) rfl ?_
          refine AK (AE (BA (BK (AU (BF [false] ?_)))))
          show JQ _ _ _ _ []
          refine A9 (.bool (spanB fs (mn))) (res1 BC (A7 rfl)) fun w1 hw1 => ?_
          refine ⟨_, [], rfl, ⟨congrArg Value.bool ?_, rfl⟩, hw1.sub (by simp) (by simp)⟩
          unfold reqR
          rw [hlq]
          first | (simp [AZ, *]; done) | (simp [AZ, *] at *; simp [*]; done) | (simp_all [AZ]; done) | (simp_all [AZ]; omega)
         ·
          have hp20 : ¬ ((qk) = (2:Int)) := of_decide_eq_false hb20
          refine AI (AC (AA (.bool (decide ((qk) = (3:Int)))) (AQ rfl rfl fun _ => A4 _ _) rfl ?_))
          refine AA _ (AF rfl) rfl ?_
          refine AK (AE (BT _ rfl hb15 ?_))
          refine BM (BR (AE (AI (AC (AA (Ptr nb1 1) (AB 1 3 1 AJ rfl AT rfl rfl) rfl ?_)))))
          refine AA (I64 (qk)) (AL rfl (AV AX (AY 0 rfl (AH (AH (AG (Seg.head))))))) rfl ?_
          refine AA (.bool (decide ((qk) = (4:Int)))) (AQ rfl rfl fun _ => A4 _ _) rfl ?_
          refine AA _ (AM rfl) rfl ?_
          rcases Bool.eq_false_or_eq_true (decide ((qk) = (4:Int))) with hb21 | hb21
          ·
           have hp21 : (qk) = (4:Int) := of_decide_eq_true hb21
           refine AD 3 71 false _ rfl rfl hb21 rfl ?_
           refine AD 3 71 false _ rfl rfl hb21 rfl ?_
           refine AD 3 71 false _ rfl rfl hb21 rfl ?_
           refine AA _ (BD _ rfl hb21 rfl) rfl ?_
           refine AA _ (AF rfl) rfl ?_
           refine AK (AE (BA (BF [false] ?_)))
           show JQ _ _ _ _ []
           refine A9 (.bool true) (res1 BC (A7 rfl)) fun w1 hw1 => ?_
           refine ⟨_, [], rfl, ⟨congrArg Value.bool ?_, rfl⟩, hw1.sub (by simp) (by simp)⟩
           unfold reqR
           rw [hlq]
           first | (simp [AZ, *]; done) | (simp [AZ, *] at *; simp [*]; done) | (simp_all [AZ]; done) | (simp_all [AZ]; omega)
          ·
           have hp21 : ¬ ((qk) = (4:Int)) := of_decide_eq_false hb21
           refine AN 3 71 false _ (Ptr nb1 1) rfl rfl hb21 (AB 1 3 1 AJ rfl AT rfl rfl) rfl ?_
           refine AN 3 71 false _ (I64 (qk)) rfl rfl hb21 (AL rfl (AV AX (AY 0 rfl (AH (AH (AG (Seg.head))))))) rfl ?_
           refine AN 3 71 false _ (.bool (decide ((qk) = (5:Int)))) rfl rfl hb21 (AQ rfl rfl fun _ => A4 _ _) rfl ?_
           refine AA _ (A0 _ rfl hb21 rfl) rfl ?_
           refine AA _ (AF rfl) rfl ?_
           refine AK (AE (BA (BF [false] ?_)))
           show JQ _ _ _ _ []
           refine A9 (.bool (decide ((qk) = (5:Int)))) (res1 BC (A7 rfl)) fun w1 hw1 => ?_
           refine ⟨_, [], rfl, ⟨congrArg Value.bool ?_, rfl⟩, hw1.sub (by simp) (by simp)⟩
           unfold reqR
           rw [hlq]
           first | (simp [AZ, *]; done) | (simp [AZ, *] at *; simp [*]; done) | (simp_all [AZ]; done) | (simp_all [AZ]; omega)
   ·
    have hp3 : ¬ ((qk) ≠ (2:Int)) := of_decide_eq_false hb3
    refine AD 13 16 true _ rfl rfl hb3 rfl ?_
    refine AD 13 16 true _ rfl rfl hb3 rfl ?_
    refine AD 13 16 true _ rfl rfl hb3 rfl ?_
    refine AD 13 16 true _ rfl rfl hb3 rfl ?_
    refine BW 17 20 false rfl rfl rfl ?_
    refine BW 17 20 false rfl rfl rfl ?_
    refine BW 17 20 false rfl rfl rfl ?_
    refine AD 13 16 true _ rfl rfl hb3 rfl ?_
    refine AN 9 12 false _ _ rfl rfl hb2 (A0 _ rfl hb3 rfl) rfl ?_
    refine AA _ (A0 _ rfl hb2 rfl) rfl ?_
    refine AA _ (AM rfl) rfl ?_
    refine AN 24 27 false _ (Ptr nb1 1) rfl rfl rfl (AB 1 3 1 AJ rfl AT rfl rfl) rfl ?_
    refine AN 24 27 false _ (I64 (qk)) rfl rfl rfl (AL rfl (AV AX (AY 0 rfl (AH (AH (AG (Seg.head))))))) rfl ?_
    refine AN 24 27 false _ (.bool (decide ((qk) ≠ (3:Int)))) rfl rfl rfl (AQ rfl rfl fun _ => DI _ _) rfl ?_
    refine AN 24 27 false _ _ rfl rfl rfl (AM rfl) rfl ?_
    rcases Bool.eq_false_or_eq_true (decide ((qk) ≠ (3:Int))) with hb22 | hb22
    ·
     have hp22 : (qk) ≠ (3:Int) := of_decide_eq_true hb22
     refine AN 28 31 true _ (Ptr nb1 5) rfl rfl hb22 (AB 5 38 22 AJ rfl CA rfl rfl) rfl ?_
     refine AN 28 31 true _ (.agg ([U64 pv, U64 ep, I64 (kd), .slice ai ni ci, .slice sa ns sc, U64 bl] ++ cu8 tg).toArray) rfl rfl hb22 (AL rfl (B1 DO CA (by simp [htg]) (AY 0 rfl (CO (p := [U64 sq, I64 (qk), .slice aiq niq ciq, U64 fs, I64 (mn)]) (q := [U64 eq]) (vs := [U64 pv, U64 ep, I64 (kd), .slice ai ni ci, .slice sa ns sc, U64 bl] ++ cu8 tg) (by first | rfl | (simp only [List.append_assoc, List.nil_append, List.append_nil, List.cons_append]; done)) rfl)))) rfl ?_
     refine DB 28 31 true _ rfl rfl hb22 (A2 78 [.agg ([U64 pv, U64 ep, I64 (kd), .slice ai ni ci, .slice sa ns sc, U64 bl] ++ cu8 tg).toArray] (.bool (blankB pv ep (kd) l ls bl tg)) (A5 _ Tryd.call78 rfl) (fun w1 hw1 => rblank_c pv ep (kd) ai ni ci l sa ns sc ls bl tg w1 hl (by omega) (by omega) (by omega) (BP hw1 rfl hv) hls (by omega) (by omega) (by omega) (BP hw1 rfl hs) htg)) rfl ?_
     rintro v1 L1 ⟨rfl, rfl⟩
     show JL _ _ _ _ ((34, .bool (blankB pv ep (kd) l ls bl tg)) :: _) [_]
     refine AN 28 31 true _ (.bool (!(blankB pv ep (kd) l ls bl tg))) rfl rfl hb22 (C8 rfl) rfl ?_
     refine AN 24 27 false _ _ rfl rfl rfl (BD _ rfl hb22 rfl) rfl ?_
     refine AA _ (A0 _ rfl rfl rfl) rfl ?_
     refine AA _ (AM rfl) rfl ?_
     rcases Bool.eq_false_or_eq_true (blankB pv ep (kd) l ls bl tg) with hb23 | hb23
     ·
      refine AN 35 38 false _ (Ptr nb1 1) rfl rfl (bnotT hb23) (AB 1 3 1 AJ rfl AT rfl rfl) rfl ?_
      refine AN 35 38 false _ (I64 (qk)) rfl rfl (bnotT hb23) (AL rfl (AV AX (AY 0 rfl (AH (AH (AG (Seg.head))))))) rfl ?_
      refine AN 35 38 false _ (.bool (decide ((qk) = (3:Int)))) rfl rfl (bnotT hb23) (AQ rfl rfl fun _ => A4 _ _) rfl ?_
      refine AN 35 38 false _ _ rfl rfl (bnotT hb23) (AM rfl) rfl ?_
      rcases Bool.eq_false_or_eq_true (decide ((qk) = (3:Int))) with hb24 | hb24
      ·
       have hp24 : (qk) = (3:Int) := of_decide_eq_true hb24
       refine AN 39 42 true _ (Ptr nb1 27) rfl rfl hb24 (AB 27 22 1 AJ rfl AP rfl rfl) rfl ?_
       refine AN 39 42 true _ (U64 eq) rfl rfl hb24 (AL rfl (AV AR (AY 0 rfl (Seg.right 27 0 (by simp [htg]) rfl (Seg.head))))) rfl ?_
       refine AN 39 42 true _ (.bool (decide (eq ≠ (0:UInt64)))) rfl rfl hb24 (AQ rfl rfl fun _ => C4 eq (0:UInt64)) rfl ?_
       refine AN 35 38 false _ _ rfl rfl (bnotT hb23) (BD _ rfl hb24 rfl) rfl ?_
       refine AA _ (A0 _ rfl (bnotT hb23) rfl) rfl ?_
       refine AK (AE (BZ (decide (eq ≠ (0:UInt64))) rfl (fun hb25 => ?_) (fun hb25 => ?_)))
       ·
        have hp25 : eq ≠ (0:UInt64) := of_decide_eq_true hb25
        refine AI (AC (AA _ (AF rfl) rfl ?_))
        refine AK (AE (BA (AU (BF [false] ?_))))
        show JQ _ _ _ _ []
        refine A9 (.bool false) (res1 BC (A7 rfl)) fun w1 hw1 => ?_
        refine ⟨_, [], rfl, ⟨congrArg Value.bool ?_, rfl⟩, hw1.sub (by simp) (by simp)⟩
        unfold reqR
        rw [hlq]
        first | (simp [AZ, *]; done) | (simp [AZ, *] at *; simp [*]; done) | (simp_all [AZ]; done) | (simp_all [AZ]; omega)
       ·
        have hp25 : ¬ (eq ≠ (0:UInt64)) := of_decide_eq_false hb25
        refine BM (AE (AI (AI (AC (AA (Ptr nb1 1) (AB 1 3 1 AJ rfl AT rfl rfl) rfl ?_)))))
        refine AA (I64 (qk)) (AL rfl (AV AX (AY 0 rfl (AH (AH (AG (Seg.head))))))) rfl ?_
        refine AK (AE (BY (AI (AC (AA (.bool (decide ((qk) = (1:Int)))) (AQ rfl rfl fun _ => A4 _ _) rfl ?_)))))
        refine AA _ (AF rfl) rfl ?_
        refine AK (AE (BZ (decide ((qk) = (1:Int))) rfl (fun hb26 => ?_) (fun hb26 => ?_)))
        ·
         have hp26 : (qk) = (1:Int) := of_decide_eq_true hb26
         refine AI (AC (AA (Ptr nb1 2) (AB 2 23 1 AJ rfl BI rfl rfl) rfl ?_))
         refine AA (.slice aiq niq ciq) (AL rfl (AV BL (AY 0 rfl (AH (AH (AG (AG (Seg.head)))))))) rfl ?_
         refine BS (A2 79 [I64 32, .slice aiq niq ciq] (.bool (decide (RightI lq))) (A5 _ DY rfl) (fun w1 hw1 => EA aiq niq ciq lq w1 hlq (by omega) (by omega) (by omega) (BP hw1 rfl hvq))) rfl ?_
         show JL _ _ _ _ ((54, .bool (decide (RightI lq))) :: _) [_]
         refine AA _ (AF rfl) rfl ?_
         refine AK (AE (BA (BK (AU (BF [false] ?_)))))
         show JQ _ _ _ _ []
         refine A9 (.bool (decide (RightI lq))) (res1 BC (A7 rfl)) fun w1 hw1 => ?_
         refine ⟨_, [], rfl, ⟨congrArg Value.bool ?_, rfl⟩, hw1.sub (by simp) (by simp)⟩
         unfold reqR
         rw [hlq]
         first | (simp [AZ, *]; done) | (simp [AZ, *] at *; simp [*]; done) | (simp_all [AZ]; done) | (simp_all [AZ]; omega)
        ·
         have hp26 : ¬ ((qk) = (1:Int)) := of_decide_eq_false hb26
         refine AI (AC (AA (.bool (decide ((qk) = (2:Int)))) (AQ rfl rfl fun _ => A4 _ _) rfl ?_))
         refine AA _ (AF rfl) rfl ?_
         refine AK (AE (BZ (decide ((qk) = (2:Int))) rfl (fun hb27 => ?_) (fun hb27 => ?_)))
         ·
          have hp27 : (qk) = (2:Int) := of_decide_eq_true hb27
          refine AI (AC (AA (Ptr nb1 3) (AB 3 22 1 AJ rfl AP rfl rfl) rfl ?_))
          refine AA (U64 fs) (AL rfl (AV AR (AY 0 rfl (AH (AH (AG (AG (AG (Seg.head))))))))) rfl ?_
          refine AA (Ptr nb1 4) (AB 4 3 1 AJ rfl AT rfl rfl) rfl ?_
          refine AA (I64 (mn)) (AL rfl (AV AX (AY 0 rfl (AH (AH (AG (AG (AG (AG (Seg.head)))))))))) rfl ?_
          refine BS (A2 80 [I64 32, U64 fs, I64 (mn)] (.bool (spanB fs (mn))) (A5 _ D0 rfl) (fun w1 hw1 => E3 fs (mn) w1 )) rfl ?_
          show JL _ _ _ _ ((61, .bool (spanB fs (mn))) :: _) [_]
          refine AA _ (AF rfl) rfl ?_
          refine AK (AE (BA (BK (AU (BF [false] ?_)))))
          show JQ _ _ _ _ []
          refine A9 (.bool (spanB fs (mn))) (res1 BC (A7 rfl)) fun w1 hw1 => ?_
          refine ⟨_, [], rfl, ⟨congrArg Value.bool ?_, rfl⟩, hw1.sub (by simp) (by simp)⟩
          unfold reqR
          rw [hlq]
          first | (simp [AZ, *]; done) | (simp [AZ, *] at *; simp [*]; done) | (simp_all [AZ]; done) | (simp_all [AZ]; omega)
         ·
          have hp27 : ¬ ((qk) = (2:Int)) := of_decide_eq_false hb27
          refine AI (AC (AA (.bool (decide ((qk) = (3:Int)))) (AQ rfl rfl fun _ => A4 _ _) rfl ?_))
          refine AA _ (AF rfl) rfl ?_
          refine AK (AE (B5 _ rfl hb24 ?_))
          refine AI (AC (AA (Ptr nb1 5) (AB 5 38 22 AJ rfl CA rfl rfl) rfl ?_))
          refine AA (.agg ([U64 pv, U64 ep, I64 (kd), .slice ai ni ci, .slice sa ns sc, U64 bl] ++ cu8 tg).toArray) (AL rfl (B1 DO CA (by simp [htg]) (AY 0 rfl (CO (p := [U64 sq, I64 (qk), .slice aiq niq ciq, U64 fs, I64 (mn)]) (q := [U64 eq]) (vs := [U64 pv, U64 ep, I64 (kd), .slice ai ni ci, .slice sa ns sc, U64 bl] ++ cu8 tg) (by first | rfl | (simp only [List.append_assoc, List.nil_append, List.append_nil, List.cons_append]; done)) rfl)))) rfl ?_
          refine BS (A2 45 [.agg ([U64 pv, U64 ep, I64 (kd), .slice ai ni ci, .slice sa ns sc, U64 bl] ++ cu8 tg).toArray] (I64 (((mayN pv ep (kd) l ls bl):Int))) (A5 _ Tryd.call45 rfl) (fun w1 hw1 => rmay13_c pv ep (kd) ai ni ci l sa ns sc ls bl tg w1 hl (by omega) (by omega) (by omega) (BP hw1 rfl hv) hls (by omega) (by omega) (by omega) (BP hw1 rfl hs) htg)) rfl ?_
          show JL _ _ _ _ ((66, I64 (((mayN pv ep (kd) l ls bl):Int))) :: _) [_]
          refine AA (.bool (decide ((((mayN pv ep (kd) l ls bl):Int)) = (0:Int)))) (AQ rfl rfl fun _ => A4 _ _) rfl ?_
          refine AA _ (AF rfl) rfl ?_
          refine AK (AE (BA (BK (AU (BF [false] ?_)))))
          show JQ _ _ _ _ []
          refine A9 (.bool (decide ((((mayN pv ep (kd) l ls bl):Int)) = (0:Int)))) (res1 BC (A7 rfl)) fun w1 hw1 => ?_
          refine ⟨_, [], rfl, ⟨congrArg Value.bool ?_, rfl⟩, hw1.sub (by simp) (by simp)⟩
          unfold reqR
          rw [hlq]
          first | (simp [AZ, *]; done) | (simp [AZ, *] at *; simp [*]; done) | (simp_all [AZ]; done) | (simp_all [AZ]; omega)
      ·
       have hp24 : ¬ ((qk) = (3:Int)) := of_decide_eq_false hb24
       refine AD 39 42 true _ rfl rfl hb24 rfl ?_
       refine AD 39 42 true _ rfl rfl hb24 rfl ?_
       refine AD 39 42 true _ rfl rfl hb24 rfl ?_
       refine AN 35 38 false _ _ rfl rfl (bnotT hb23) (A0 _ rfl hb24 rfl) rfl ?_
       refine AA _ (A0 _ rfl (bnotT hb23) rfl) rfl ?_
       refine AK (AE (BT _ rfl rfl ?_))
       refine BM (AE (AI (AI (AC (AA (Ptr nb1 1) (AB 1 3 1 AJ rfl AT rfl rfl) rfl ?_)))))
       refine AA (I64 (qk)) (AL rfl (AV AX (AY 0 rfl (AH (AH (AG (Seg.head))))))) rfl ?_
       refine AK (AE (BY (AI (AC (AA (.bool (decide ((qk) = (1:Int)))) (AQ rfl rfl fun _ => A4 _ _) rfl ?_)))))
       refine AA _ (AF rfl) rfl ?_
       refine AK (AE (BZ (decide ((qk) = (1:Int))) rfl (fun hb28 => ?_) (fun hb28 => ?_)))
       ·
        have hp28 : (qk) = (1:Int) := of_decide_eq_true hb28
        refine AI (AC (AA (Ptr nb1 2) (AB 2 23 1 AJ rfl BI rfl rfl) rfl ?_))
        refine AA (.slice aiq niq ciq) (AL rfl (AV BL (AY 0 rfl (AH (AH (AG (AG (Seg.head)))))))) rfl ?_
        refine BS (A2 79 [I64 32, .slice aiq niq ciq] (.bool (decide (RightI lq))) (A5 _ DY rfl) (fun w1 hw1 => EA aiq niq ciq lq w1 hlq (by omega) (by omega) (by omega) (BP hw1 rfl hvq))) rfl ?_
        show JL _ _ _ _ ((54, .bool (decide (RightI lq))) :: _) [_]
        refine AA _ (AF rfl) rfl ?_
        refine AK (AE (BA (BK (AU (BF [false] ?_)))))
        show JQ _ _ _ _ []
        refine A9 (.bool (decide (RightI lq))) (res1 BC (A7 rfl)) fun w1 hw1 => ?_
        refine ⟨_, [], rfl, ⟨congrArg Value.bool ?_, rfl⟩, hw1.sub (by simp) (by simp)⟩
        unfold reqR
        rw [hlq]
        first | (simp [AZ, *]; done) | (simp [AZ, *] at *; simp [*]; done) | (simp_all [AZ]; done) | (simp_all [AZ]; omega)
       ·
        have hp28 : ¬ ((qk) = (1:Int)) := of_decide_eq_false hb28
        refine AI (AC (AA (.bool (decide ((qk) = (2:Int)))) (AQ rfl rfl fun _ => A4 _ _) rfl ?_))
        refine AA _ (AF rfl) rfl ?_
        refine AK (AE (BZ (decide ((qk) = (2:Int))) rfl (fun hb29 => ?_) (fun hb29 => ?_)))
        ·
         have hp29 : (qk) = (2:Int) := of_decide_eq_true hb29
         refine AI (AC (AA (Ptr nb1 3) (AB 3 22 1 AJ rfl AP rfl rfl) rfl ?_))
         refine AA (U64 fs) (AL rfl (AV AR (AY 0 rfl (AH (AH (AG (AG (AG (Seg.head))))))))) rfl ?_
         refine AA (Ptr nb1 4) (AB 4 3 1 AJ rfl AT rfl rfl) rfl ?_
         refine AA (I64 (mn)) (AL rfl (AV AX (AY 0 rfl (AH (AH (AG (AG (AG (AG (Seg.head)))))))))) rfl ?_
         refine BS (A2 80 [I64 32, U64 fs, I64 (mn)] (.bool (spanB fs (mn))) (A5 _ D0 rfl) (fun w1 hw1 => E3 fs (mn) w1 )) rfl ?_
         show JL _ _ _ _ ((61, .bool (spanB fs (mn))) :: _) [_]
         refine AA _ (AF rfl) rfl ?_
         refine AK (AE (BA (BK (AU (BF [false] ?_)))))
         show JQ _ _ _ _ []
         refine A9 (.bool (spanB fs (mn))) (res1 BC (A7 rfl)) fun w1 hw1 => ?_
         refine ⟨_, [], rfl, ⟨congrArg Value.bool ?_, rfl⟩, hw1.sub (by simp) (by simp)⟩
         unfold reqR
         rw [hlq]
         first | (simp [AZ, *]; done) | (simp [AZ, *] at *; simp [*]; done) | (simp_all [AZ]; done) | (simp_all [AZ]; omega)
        ·
         have hp29 : ¬ ((qk) = (2:Int)) := of_decide_eq_false hb29
         refine AI (AC (AA (.bool (decide ((qk) = (3:Int)))) (AQ rfl rfl fun _ => A4 _ _) rfl ?_))
         refine AA _ (AF rfl) rfl ?_
         refine AK (AE (BT _ rfl hb24 ?_))
         refine BM (BR (AE (AI (AC (AA (Ptr nb1 1) (AB 1 3 1 AJ rfl AT rfl rfl) rfl ?_)))))
         refine AA (I64 (qk)) (AL rfl (AV AX (AY 0 rfl (AH (AH (AG (Seg.head))))))) rfl ?_
         refine AA (.bool (decide ((qk) = (4:Int)))) (AQ rfl rfl fun _ => A4 _ _) rfl ?_
         refine AA _ (AM rfl) rfl ?_
         rcases Bool.eq_false_or_eq_true (decide ((qk) = (4:Int))) with hb30 | hb30
         ·
          have hp30 : (qk) = (4:Int) := of_decide_eq_true hb30
          refine AD 3 71 false _ rfl rfl hb30 rfl ?_
          refine AD 3 71 false _ rfl rfl hb30 rfl ?_
          refine AD 3 71 false _ rfl rfl hb30 rfl ?_
          refine AA _ (BD _ rfl hb30 rfl) rfl ?_
          refine AA _ (AF rfl) rfl ?_
          refine AK (AE (BA (BF [false] ?_)))
          show JQ _ _ _ _ []
          refine A9 (.bool true) (res1 BC (A7 rfl)) fun w1 hw1 => ?_
          refine ⟨_, [], rfl, ⟨congrArg Value.bool ?_, rfl⟩, hw1.sub (by simp) (by simp)⟩
          unfold reqR
          rw [hlq]
          first | (simp [AZ, *]; done) | (simp [AZ, *] at *; simp [*]; done) | (simp_all [AZ]; done) | (simp_all [AZ]; omega)
         ·
          have hp30 : ¬ ((qk) = (4:Int)) := of_decide_eq_false hb30
          refine AN 3 71 false _ (Ptr nb1 1) rfl rfl hb30 (AB 1 3 1 AJ rfl AT rfl rfl) rfl ?_
          refine AN 3 71 false _ (I64 (qk)) rfl rfl hb30 (AL rfl (AV AX (AY 0 rfl (AH (AH (AG (Seg.head))))))) rfl ?_
          refine AN 3 71 false _ (.bool (decide ((qk) = (5:Int)))) rfl rfl hb30 (AQ rfl rfl fun _ => A4 _ _) rfl ?_
          refine AA _ (A0 _ rfl hb30 rfl) rfl ?_
          refine AA _ (AF rfl) rfl ?_
          refine AK (AE (BA (BF [false] ?_)))
          show JQ _ _ _ _ []
          refine A9 (.bool (decide ((qk) = (5:Int)))) (res1 BC (A7 rfl)) fun w1 hw1 => ?_
          refine ⟨_, [], rfl, ⟨congrArg Value.bool ?_, rfl⟩, hw1.sub (by simp) (by simp)⟩
          unfold reqR
          rw [hlq]
          first | (simp [AZ, *]; done) | (simp [AZ, *] at *; simp [*]; done) | (simp_all [AZ]; done) | (simp_all [AZ]; omega)
     ·
      refine AD 35 38 false _ rfl rfl (bnotF hb23) rfl ?_
      refine AD 35 38 false _ rfl rfl (bnotF hb23) rfl ?_
      refine AD 35 38 false _ rfl rfl (bnotF hb23) rfl ?_
      refine AD 35 38 false _ rfl rfl (bnotF hb23) rfl ?_
      refine BW 39 42 true rfl rfl rfl ?_
      refine BW 39 42 true rfl rfl rfl ?_
      refine BW 39 42 true rfl rfl rfl ?_
      refine AD 35 38 false _ rfl rfl (bnotF hb23) rfl ?_
      refine AA _ (BD _ rfl (bnotF hb23) rfl) rfl ?_
      refine AK (AE (B5 _ rfl rfl ?_))
      refine AI (AC (AA _ (AF rfl) rfl ?_))
      refine AK (AE (BA (AU (BF [false] ?_))))
      show JQ _ _ _ _ []
      refine A9 (.bool false) (res1 BC (A7 rfl)) fun w1 hw1 => ?_
      refine ⟨_, [], rfl, ⟨congrArg Value.bool ?_, rfl⟩, hw1.sub (by simp) (by simp)⟩
      unfold reqR
      rw [hlq]
      first | (simp [AZ, *]; done) | (simp [AZ, *] at *; simp [*]; done) | (simp_all [AZ]; done) | (simp_all [AZ]; omega)
    ·
     have hp22 : ¬ ((qk) ≠ (3:Int)) := of_decide_eq_false hb22
     refine AD 28 31 true _ rfl rfl hb22 rfl ?_
     refine AD 28 31 true _ rfl rfl hb22 rfl ?_
     refine AD 28 31 true _ rfl rfl hb22 rfl ?_
     refine AD 28 31 true _ rfl rfl hb22 rfl ?_
     refine AN 24 27 false _ _ rfl rfl rfl (A0 _ rfl hb22 rfl) rfl ?_
     refine AA _ (A0 _ rfl rfl rfl) rfl ?_
     refine AA _ (AM rfl) rfl ?_
     refine AN 35 38 false _ (Ptr nb1 1) rfl rfl rfl (AB 1 3 1 AJ rfl AT rfl rfl) rfl ?_
     refine AN 35 38 false _ (I64 (qk)) rfl rfl rfl (AL rfl (AV AX (AY 0 rfl (AH (AH (AG (Seg.head))))))) rfl ?_
     refine AN 35 38 false _ (.bool (decide ((qk) = (3:Int)))) rfl rfl rfl (AQ rfl rfl fun _ => A4 _ _) rfl ?_
     refine AN 35 38 false _ _ rfl rfl rfl (AM rfl) rfl ?_
     rcases Bool.eq_false_or_eq_true (decide ((qk) = (3:Int))) with hb31 | hb31
     ·
      have hp31 : (qk) = (3:Int) := of_decide_eq_true hb31
      refine AN 39 42 true _ (Ptr nb1 27) rfl rfl hb31 (AB 27 22 1 AJ rfl AP rfl rfl) rfl ?_
      refine AN 39 42 true _ (U64 eq) rfl rfl hb31 (AL rfl (AV AR (AY 0 rfl (Seg.right 27 0 (by simp [htg]) rfl (Seg.head))))) rfl ?_
      refine AN 39 42 true _ (.bool (decide (eq ≠ (0:UInt64)))) rfl rfl hb31 (AQ rfl rfl fun _ => C4 eq (0:UInt64)) rfl ?_
      refine AN 35 38 false _ _ rfl rfl rfl (BD _ rfl hb31 rfl) rfl ?_
      refine AA _ (A0 _ rfl rfl rfl) rfl ?_
      refine AK (AE (BZ (decide (eq ≠ (0:UInt64))) rfl (fun hb32 => ?_) (fun hb32 => ?_)))
      ·
       have hp32 : eq ≠ (0:UInt64) := of_decide_eq_true hb32
       refine AI (AC (AA _ (AF rfl) rfl ?_))
       refine AK (AE (BA (AU (BF [false] ?_))))
       show JQ _ _ _ _ []
       refine A9 (.bool false) (res1 BC (A7 rfl)) fun w1 hw1 => ?_
       refine ⟨_, [], rfl, ⟨congrArg Value.bool ?_, rfl⟩, hw1.sub (by simp) (by simp)⟩
       unfold reqR
       rw [hlq]
       first | (simp [AZ, *]; done) | (simp [AZ, *] at *; simp [*]; done) | (simp_all [AZ]; done) | (simp_all [AZ]; omega)
      ·
       have hp32 : ¬ (eq ≠ (0:UInt64)) := of_decide_eq_false hb32
       refine BM (AE (AI (AI (AC (AA (Ptr nb1 1) (AB 1 3 1 AJ rfl AT rfl rfl) rfl ?_)))))
       refine AA (I64 (qk)) (AL rfl (AV AX (AY 0 rfl (AH (AH (AG (Seg.head))))))) rfl ?_
       refine AK (AE (BY (AI (AC (AA (.bool (decide ((qk) = (1:Int)))) (AQ rfl rfl fun _ => A4 _ _) rfl ?_)))))
       refine AA _ (AF rfl) rfl ?_
       refine AK (AE (BZ (decide ((qk) = (1:Int))) rfl (fun hb33 => ?_) (fun hb33 => ?_)))
       ·
        have hp33 : (qk) = (1:Int) := of_decide_eq_true hb33
        refine AI (AC (AA (Ptr nb1 2) (AB 2 23 1 AJ rfl BI rfl rfl) rfl ?_))
        refine AA (.slice aiq niq ciq) (AL rfl (AV BL (AY 0 rfl (AH (AH (AG (AG (Seg.head)))))))) rfl ?_
        refine BS (A2 79 [I64 32, .slice aiq niq ciq] (.bool (decide (RightI lq))) (A5 _ DY rfl) (fun w1 hw1 => EA aiq niq ciq lq w1 hlq (by omega) (by omega) (by omega) (BP hw1 rfl hvq))) rfl ?_
        show JL _ _ _ _ ((54, .bool (decide (RightI lq))) :: _) [_]
        refine AA _ (AF rfl) rfl ?_
        refine AK (AE (BA (BK (AU (BF [false] ?_)))))
        show JQ _ _ _ _ []
        refine A9 (.bool (decide (RightI lq))) (res1 BC (A7 rfl)) fun w1 hw1 => ?_
        refine ⟨_, [], rfl, ⟨congrArg Value.bool ?_, rfl⟩, hw1.sub (by simp) (by simp)⟩
        unfold reqR
        rw [hlq]
        first | (simp [AZ, *]; done) | (simp [AZ, *] at *; simp [*]; done) | (simp_all [AZ]; done) | (simp_all [AZ]; omega)
       ·
        have hp33 : ¬ ((qk) = (1:Int)) := of_decide_eq_false hb33
        refine AI (AC (AA (.bool (decide ((qk) = (2:Int)))) (AQ rfl rfl fun _ => A4 _ _) rfl ?_))
        refine AA _ (AF rfl) rfl ?_
        refine AK (AE (BZ (decide ((qk) = (2:Int))) rfl (fun hb34 => ?_) (fun hb34 => ?_)))
        ·
         have hp34 : (qk) = (2:Int) := of_decide_eq_true hb34
         refine AI (AC (AA (Ptr nb1 3) (AB 3 22 1 AJ rfl AP rfl rfl) rfl ?_))
         refine AA (U64 fs) (AL rfl (AV AR (AY 0 rfl (AH (AH (AG (AG (AG (Seg.head))))))))) rfl ?_
         refine AA (Ptr nb1 4) (AB 4 3 1 AJ rfl AT rfl rfl) rfl ?_
         refine AA (I64 (mn)) (AL rfl (AV AX (AY 0 rfl (AH (AH (AG (AG (AG (AG (Seg.head)))))))))) rfl ?_
         refine BS (A2 80 [I64 32, U64 fs, I64 (mn)] (.bool (spanB fs (mn))) (A5 _ D0 rfl) (fun w1 hw1 => E3 fs (mn) w1 )) rfl ?_
         show JL _ _ _ _ ((61, .bool (spanB fs (mn))) :: _) [_]
         refine AA _ (AF rfl) rfl ?_
         refine AK (AE (BA (BK (AU (BF [false] ?_)))))
         show JQ _ _ _ _ []
         refine A9 (.bool (spanB fs (mn))) (res1 BC (A7 rfl)) fun w1 hw1 => ?_
         refine ⟨_, [], rfl, ⟨congrArg Value.bool ?_, rfl⟩, hw1.sub (by simp) (by simp)⟩
         unfold reqR
         rw [hlq]
         first | (simp [AZ, *]; done) | (simp [AZ, *] at *; simp [*]; done) | (simp_all [AZ]; done) | (simp_all [AZ]; omega)
        ·
         have hp34 : ¬ ((qk) = (2:Int)) := of_decide_eq_false hb34
         refine AI (AC (AA (.bool (decide ((qk) = (3:Int)))) (AQ rfl rfl fun _ => A4 _ _) rfl ?_))
         refine AA _ (AF rfl) rfl ?_
         refine AK (AE (B5 _ rfl hb31 ?_))
         refine AI (AC (AA (Ptr nb1 5) (AB 5 38 22 AJ rfl CA rfl rfl) rfl ?_))
         refine AA (.agg ([U64 pv, U64 ep, I64 (kd), .slice ai ni ci, .slice sa ns sc, U64 bl] ++ cu8 tg).toArray) (AL rfl (B1 DO CA (by simp [htg]) (AY 0 rfl (CO (p := [U64 sq, I64 (qk), .slice aiq niq ciq, U64 fs, I64 (mn)]) (q := [U64 eq]) (vs := [U64 pv, U64 ep, I64 (kd), .slice ai ni ci, .slice sa ns sc, U64 bl] ++ cu8 tg) (by first | rfl | (simp only [List.append_assoc, List.nil_append, List.append_nil, List.cons_append]; done)) rfl)))) rfl ?_
         refine BS (A2 45 [.agg ([U64 pv, U64 ep, I64 (kd), .slice ai ni ci, .slice sa ns sc, U64 bl] ++ cu8 tg).toArray] (I64 (((mayN pv ep (kd) l ls bl):Int))) (A5 _ Tryd.call45 rfl) (fun w1 hw1 => rmay13_c pv ep (kd) ai ni ci l sa ns sc ls bl tg w1 hl (by omega) (by omega) (by omega) (BP hw1 rfl hv) hls (by omega) (by omega) (by omega) (BP hw1 rfl hs) htg)) rfl ?_
         show JL _ _ _ _ ((66, I64 (((mayN pv ep (kd) l ls bl):Int))) :: _) [_]
         refine AA (.bool (decide ((((mayN pv ep (kd) l ls bl):Int)) = (0:Int)))) (AQ rfl rfl fun _ => A4 _ _) rfl ?_
         refine AA _ (AF rfl) rfl ?_
         refine AK (AE (BA (BK (AU (BF [false] ?_)))))
         show JQ _ _ _ _ []
         refine A9 (.bool (decide ((((mayN pv ep (kd) l ls bl):Int)) = (0:Int)))) (res1 BC (A7 rfl)) fun w1 hw1 => ?_
         refine ⟨_, [], rfl, ⟨congrArg Value.bool ?_, rfl⟩, hw1.sub (by simp) (by simp)⟩
         unfold reqR
         rw [hlq]
         first | (simp [AZ, *]; done) | (simp [AZ, *] at *; simp [*]; done) | (simp_all [AZ]; done) | (simp_all [AZ]; omega)
     ·
      have hp31 : ¬ ((qk) = (3:Int)) := of_decide_eq_false hb31
      refine AD 39 42 true _ rfl rfl hb31 rfl ?_
      refine AD 39 42 true _ rfl rfl hb31 rfl ?_
      refine AD 39 42 true _ rfl rfl hb31 rfl ?_
      refine AN 35 38 false _ _ rfl rfl rfl (A0 _ rfl hb31 rfl) rfl ?_
      refine AA _ (A0 _ rfl rfl rfl) rfl ?_
      refine AK (AE (BT _ rfl rfl ?_))
      refine BM (AE (AI (AI (AC (AA (Ptr nb1 1) (AB 1 3 1 AJ rfl AT rfl rfl) rfl ?_)))))
      refine AA (I64 (qk)) (AL rfl (AV AX (AY 0 rfl (AH (AH (AG (Seg.head))))))) rfl ?_
      refine AK (AE (BY (AI (AC (AA (.bool (decide ((qk) = (1:Int)))) (AQ rfl rfl fun _ => A4 _ _) rfl ?_)))))
      refine AA _ (AF rfl) rfl ?_
      refine AK (AE (BZ (decide ((qk) = (1:Int))) rfl (fun hb35 => ?_) (fun hb35 => ?_)))
      ·
       have hp35 : (qk) = (1:Int) := of_decide_eq_true hb35
       refine AI (AC (AA (Ptr nb1 2) (AB 2 23 1 AJ rfl BI rfl rfl) rfl ?_))
       refine AA (.slice aiq niq ciq) (AL rfl (AV BL (AY 0 rfl (AH (AH (AG (AG (Seg.head)))))))) rfl ?_
       refine BS (A2 79 [I64 32, .slice aiq niq ciq] (.bool (decide (RightI lq))) (A5 _ DY rfl) (fun w1 hw1 => EA aiq niq ciq lq w1 hlq (by omega) (by omega) (by omega) (BP hw1 rfl hvq))) rfl ?_
       show JL _ _ _ _ ((54, .bool (decide (RightI lq))) :: _) [_]
       refine AA _ (AF rfl) rfl ?_
       refine AK (AE (BA (BK (AU (BF [false] ?_)))))
       show JQ _ _ _ _ []
       refine A9 (.bool (decide (RightI lq))) (res1 BC (A7 rfl)) fun w1 hw1 => ?_
       refine ⟨_, [], rfl, ⟨congrArg Value.bool ?_, rfl⟩, hw1.sub (by simp) (by simp)⟩
       unfold reqR
       rw [hlq]
       first | (simp [AZ, *]; done) | (simp [AZ, *] at *; simp [*]; done) | (simp_all [AZ]; done) | (simp_all [AZ]; omega)
      ·
       have hp35 : ¬ ((qk) = (1:Int)) := of_decide_eq_false hb35
       refine AI (AC (AA (.bool (decide ((qk) = (2:Int)))) (AQ rfl rfl fun _ => A4 _ _) rfl ?_))
       refine AA _ (AF rfl) rfl ?_
       refine AK (AE (BZ (decide ((qk) = (2:Int))) rfl (fun hb36 => ?_) (fun hb36 => ?_)))
       ·
        have hp36 : (qk) = (2:Int) := of_decide_eq_true hb36
        refine AI (AC (AA (Ptr nb1 3) (AB 3 22 1 AJ rfl AP rfl rfl) rfl ?_))
        refine AA (U64 fs) (AL rfl (AV AR (AY 0 rfl (AH (AH (AG (AG (AG (Seg.head))))))))) rfl ?_
        refine AA (Ptr nb1 4) (AB 4 3 1 AJ rfl AT rfl rfl) rfl ?_
        refine AA (I64 (mn)) (AL rfl (AV AX (AY 0 rfl (AH (AH (AG (AG (AG (AG (Seg.head)))))))))) rfl ?_
        refine BS (A2 80 [I64 32, U64 fs, I64 (mn)] (.bool (spanB fs (mn))) (A5 _ D0 rfl) (fun w1 hw1 => E3 fs (mn) w1 )) rfl ?_
        show JL _ _ _ _ ((61, .bool (spanB fs (mn))) :: _) [_]
        refine AA _ (AF rfl) rfl ?_
        refine AK (AE (BA (BK (AU (BF [false] ?_)))))
        show JQ _ _ _ _ []
        refine A9 (.bool (spanB fs (mn))) (res1 BC (A7 rfl)) fun w1 hw1 => ?_
        refine ⟨_, [], rfl, ⟨congrArg Value.bool ?_, rfl⟩, hw1.sub (by simp) (by simp)⟩
        unfold reqR
        rw [hlq]
        first | (simp [AZ, *]; done) | (simp [AZ, *] at *; simp [*]; done) | (simp_all [AZ]; done) | (simp_all [AZ]; omega)
       ·
        have hp36 : ¬ ((qk) = (2:Int)) := of_decide_eq_false hb36
        refine AI (AC (AA (.bool (decide ((qk) = (3:Int)))) (AQ rfl rfl fun _ => A4 _ _) rfl ?_))
        refine AA _ (AF rfl) rfl ?_
        refine AK (AE (BT _ rfl hb31 ?_))
        refine BM (BR (AE (AI (AC (AA (Ptr nb1 1) (AB 1 3 1 AJ rfl AT rfl rfl) rfl ?_)))))
        refine AA (I64 (qk)) (AL rfl (AV AX (AY 0 rfl (AH (AH (AG (Seg.head))))))) rfl ?_
        refine AA (.bool (decide ((qk) = (4:Int)))) (AQ rfl rfl fun _ => A4 _ _) rfl ?_
        refine AA _ (AM rfl) rfl ?_
        rcases Bool.eq_false_or_eq_true (decide ((qk) = (4:Int))) with hb37 | hb37
        ·
         have hp37 : (qk) = (4:Int) := of_decide_eq_true hb37
         refine AD 3 71 false _ rfl rfl hb37 rfl ?_
         refine AD 3 71 false _ rfl rfl hb37 rfl ?_
         refine AD 3 71 false _ rfl rfl hb37 rfl ?_
         refine AA _ (BD _ rfl hb37 rfl) rfl ?_
         refine AA _ (AF rfl) rfl ?_
         refine AK (AE (BA (BF [false] ?_)))
         show JQ _ _ _ _ []
         refine A9 (.bool true) (res1 BC (A7 rfl)) fun w1 hw1 => ?_
         refine ⟨_, [], rfl, ⟨congrArg Value.bool ?_, rfl⟩, hw1.sub (by simp) (by simp)⟩
         unfold reqR
         rw [hlq]
         first | (simp [AZ, *]; done) | (simp [AZ, *] at *; simp [*]; done) | (simp_all [AZ]; done) | (simp_all [AZ]; omega)
        ·
         have hp37 : ¬ ((qk) = (4:Int)) := of_decide_eq_false hb37
         refine AN 3 71 false _ (Ptr nb1 1) rfl rfl hb37 (AB 1 3 1 AJ rfl AT rfl rfl) rfl ?_
         refine AN 3 71 false _ (I64 (qk)) rfl rfl hb37 (AL rfl (AV AX (AY 0 rfl (AH (AH (AG (Seg.head))))))) rfl ?_
         refine AN 3 71 false _ (.bool (decide ((qk) = (5:Int)))) rfl rfl hb37 (AQ rfl rfl fun _ => A4 _ _) rfl ?_
         refine AA _ (A0 _ rfl hb37 rfl) rfl ?_
         refine AA _ (AF rfl) rfl ?_
         refine AK (AE (BA (BF [false] ?_)))
         show JQ _ _ _ _ []
         refine A9 (.bool (decide ((qk) = (5:Int)))) (res1 BC (A7 rfl)) fun w1 hw1 => ?_
         refine ⟨_, [], rfl, ⟨congrArg Value.bool ?_, rfl⟩, hw1.sub (by simp) (by simp)⟩
         unfold reqR
         rw [hlq]
         first | (simp [AZ, *]; done) | (simp [AZ, *] at *; simp [*]; done) | (simp_all [AZ]; done) | (simp_all [AZ]; omega)
 ·
  have hp1 : ¬ ((qk) ≠ (1:Int)) := of_decide_eq_false hb1
  refine AD 3 6 true _ rfl rfl hb1 rfl ?_
  refine AD 3 6 true _ rfl rfl hb1 rfl ?_
  refine AD 3 6 true _ rfl rfl hb1 rfl ?_
  refine AD 3 6 true _ rfl rfl hb1 rfl ?_
  refine AA _ (A0 _ rfl hb1 rfl) rfl ?_
  refine AA _ (AM rfl) rfl ?_
  refine AN 9 12 false _ (Ptr nb1 1) rfl rfl rfl (AB 1 3 1 AJ rfl AT rfl rfl) rfl ?_
  refine AN 9 12 false _ (I64 (qk)) rfl rfl rfl (AL rfl (AV AX (AY 0 rfl (AH (AH (AG (Seg.head))))))) rfl ?_
  refine AN 9 12 false _ (.bool (decide ((qk) ≠ (2:Int)))) rfl rfl rfl (AQ rfl rfl fun _ => DI _ _) rfl ?_
  refine AN 9 12 false _ _ rfl rfl rfl (AM rfl) rfl ?_
  rcases Bool.eq_false_or_eq_true (decide ((qk) ≠ (2:Int))) with hb38 | hb38
  ·
   have hp38 : (qk) ≠ (2:Int) := of_decide_eq_true hb38
   refine AN 13 16 true _ (Ptr nb1 3) rfl rfl hb38 (AB 3 22 1 AJ rfl AP rfl rfl) rfl ?_
   refine AN 13 16 true _ (U64 fs) rfl rfl hb38 (AL rfl (AV AR (AY 0 rfl (AH (AH (AG (AG (AG (Seg.head))))))))) rfl ?_
   refine AN 13 16 true _ (.bool (decide (fs ≠ (0:UInt64)))) rfl rfl hb38 (AQ rfl rfl fun _ => C4 fs (0:UInt64)) rfl ?_
   refine AN 13 16 true _ _ rfl rfl hb38 (AM rfl) rfl ?_
   rcases Bool.eq_false_or_eq_true (decide (fs ≠ (0:UInt64))) with hb39 | hb39
   ·
    have hp39 : fs ≠ (0:UInt64) := of_decide_eq_true hb39
    refine AD 17 20 false _ rfl rfl hb39 rfl ?_
    refine AD 17 20 false _ rfl rfl hb39 rfl ?_
    refine AD 17 20 false _ rfl rfl hb39 rfl ?_
    refine AN 13 16 true _ _ rfl rfl hb38 (BD _ rfl hb39 rfl) rfl ?_
    refine AN 9 12 false _ _ rfl rfl rfl (BD _ rfl hb38 rfl) rfl ?_
    refine AA _ (A0 _ rfl rfl rfl) rfl ?_
    refine AA _ (AM rfl) rfl ?_
    refine AD 24 27 false _ rfl rfl rfl rfl ?_
    refine AD 24 27 false _ rfl rfl rfl rfl ?_
    refine AD 24 27 false _ rfl rfl rfl rfl ?_
    refine AD 24 27 false _ rfl rfl rfl rfl ?_
    refine BW 28 31 true rfl rfl rfl ?_
    refine BW 28 31 true rfl rfl rfl ?_
    refine BW 28 31 true rfl rfl rfl ?_
    refine BW 28 31 true rfl rfl rfl ?_
    refine AD 24 27 false _ rfl rfl rfl rfl ?_
    refine AA _ (BD _ rfl rfl rfl) rfl ?_
    refine AA _ (AM rfl) rfl ?_
    refine AD 35 38 false _ rfl rfl rfl rfl ?_
    refine AD 35 38 false _ rfl rfl rfl rfl ?_
    refine AD 35 38 false _ rfl rfl rfl rfl ?_
    refine AD 35 38 false _ rfl rfl rfl rfl ?_
    refine BW 39 42 true rfl rfl rfl ?_
    refine BW 39 42 true rfl rfl rfl ?_
    refine BW 39 42 true rfl rfl rfl ?_
    refine AD 35 38 false _ rfl rfl rfl rfl ?_
    refine AA _ (BD _ rfl rfl rfl) rfl ?_
    refine AK (AE (B5 _ rfl rfl ?_))
    refine AI (AC (AA _ (AF rfl) rfl ?_))
    refine AK (AE (BA (AU (BF [false] ?_))))
    show JQ _ _ _ _ []
    refine A9 (.bool false) (res1 BC (A7 rfl)) fun w1 hw1 => ?_
    refine ⟨_, [], rfl, ⟨congrArg Value.bool ?_, rfl⟩, hw1.sub (by simp) (by simp)⟩
    unfold reqR
    rw [hlq]
    first | (simp [AZ, *]; done) | (simp [AZ, *] at *; simp [*]; done) | (simp_all [AZ]; done) | (simp_all [AZ]; omega)
   ·
    have hp39 : ¬ (fs ≠ (0:UInt64)) := of_decide_eq_false hb39
    refine AN 17 20 false _ (Ptr nb1 4) rfl rfl hb39 (AB 4 3 1 AJ rfl AT rfl rfl) rfl ?_
    refine AN 17 20 false _ (I64 (mn)) rfl rfl hb39 (AL rfl (AV AX (AY 0 rfl (AH (AH (AG (AG (AG (AG (Seg.head)))))))))) rfl ?_
    refine AN 17 20 false _ (.bool (decide ((mn) ≠ (0:Int)))) rfl rfl hb39 (AQ rfl rfl fun _ => DI _ _) rfl ?_
    refine AN 13 16 true _ _ rfl rfl hb38 (A0 _ rfl hb39 rfl) rfl ?_
    refine AN 9 12 false _ _ rfl rfl rfl (BD _ rfl hb38 rfl) rfl ?_
    refine AA _ (A0 _ rfl rfl rfl) rfl ?_
    refine AA _ (AM rfl) rfl ?_
    rcases Bool.eq_false_or_eq_true (decide ((mn) ≠ (0:Int))) with hb40 | hb40
    ·
     have hp40 : (mn) ≠ (0:Int) := of_decide_eq_true hb40
     refine AD 24 27 false _ rfl rfl hb40 rfl ?_
     refine AD 24 27 false _ rfl rfl hb40 rfl ?_
     refine AD 24 27 false _ rfl rfl hb40 rfl ?_
     refine AD 24 27 false _ rfl rfl hb40 rfl ?_
     refine BW 28 31 true rfl rfl rfl ?_
     refine BW 28 31 true rfl rfl rfl ?_
     refine BW 28 31 true rfl rfl rfl ?_
     refine BW 28 31 true rfl rfl rfl ?_
     refine AD 24 27 false _ rfl rfl hb40 rfl ?_
     refine AA _ (BD _ rfl hb40 rfl) rfl ?_
     refine AA _ (AM rfl) rfl ?_
     refine AD 35 38 false _ rfl rfl rfl rfl ?_
     refine AD 35 38 false _ rfl rfl rfl rfl ?_
     refine AD 35 38 false _ rfl rfl rfl rfl ?_
     refine AD 35 38 false _ rfl rfl rfl rfl ?_
     refine BW 39 42 true rfl rfl rfl ?_
     refine BW 39 42 true rfl rfl rfl ?_
     refine BW 39 42 true rfl rfl rfl ?_
     refine AD 35 38 false _ rfl rfl rfl rfl ?_
     refine AA _ (BD _ rfl rfl rfl) rfl ?_
     refine AK (AE (B5 _ rfl rfl ?_))
     refine AI (AC (AA _ (AF rfl) rfl ?_))
     refine AK (AE (BA (AU (BF [false] ?_))))
     show JQ _ _ _ _ []
     refine A9 (.bool false) (res1 BC (A7 rfl)) fun w1 hw1 => ?_
     refine ⟨_, [], rfl, ⟨congrArg Value.bool ?_, rfl⟩, hw1.sub (by simp) (by simp)⟩
     unfold reqR
     rw [hlq]
     first | (simp [AZ, *]; done) | (simp [AZ, *] at *; simp [*]; done) | (simp_all [AZ]; done) | (simp_all [AZ]; omega)
    ·
     have hp40 : ¬ ((mn) ≠ (0:Int)) := of_decide_eq_false hb40
     refine AN 24 27 false _ (Ptr nb1 1) rfl rfl hb40 (AB 1 3 1 AJ rfl AT rfl rfl) rfl ?_
     refine AN 24 27 false _ (I64 (qk)) rfl rfl hb40 (AL rfl (AV AX (AY 0 rfl (AH (AH (AG (Seg.head))))))) rfl ?_
     refine AN 24 27 false _ (.bool (decide ((qk) ≠ (3:Int)))) rfl rfl hb40 (AQ rfl rfl fun _ => DI _ _) rfl ?_
     refine AN 24 27 false _ _ rfl rfl hb40 (AM rfl) rfl ?_
     rcases Bool.eq_false_or_eq_true (decide ((qk) ≠ (3:Int))) with hb41 | hb41
     ·
      have hp41 : (qk) ≠ (3:Int) := of_decide_eq_true hb41
      refine AN 28 31 true _ (Ptr nb1 5) rfl rfl hb41 (AB 5 38 22 AJ rfl CA rfl rfl) rfl ?_
      refine AN 28 31 true _ (.agg ([U64 pv, U64 ep, I64 (kd), .slice ai ni ci, .slice sa ns sc, U64 bl] ++ cu8 tg).toArray) rfl rfl hb41 (AL rfl (B1 DO CA (by simp [htg]) (AY 0 rfl (CO (p := [U64 sq, I64 (qk), .slice aiq niq ciq, U64 fs, I64 (mn)]) (q := [U64 eq]) (vs := [U64 pv, U64 ep, I64 (kd), .slice ai ni ci, .slice sa ns sc, U64 bl] ++ cu8 tg) (by first | rfl | (simp only [List.append_assoc, List.nil_append, List.append_nil, List.cons_append]; done)) rfl)))) rfl ?_
      refine DB 28 31 true _ rfl rfl hb41 (A2 78 [.agg ([U64 pv, U64 ep, I64 (kd), .slice ai ni ci, .slice sa ns sc, U64 bl] ++ cu8 tg).toArray] (.bool (blankB pv ep (kd) l ls bl tg)) (A5 _ Tryd.call78 rfl) (fun w1 hw1 => rblank_c pv ep (kd) ai ni ci l sa ns sc ls bl tg w1 hl (by omega) (by omega) (by omega) (BP hw1 rfl hv) hls (by omega) (by omega) (by omega) (BP hw1 rfl hs) htg)) rfl ?_
      rintro v1 L1 ⟨rfl, rfl⟩
      show JL _ _ _ _ ((34, .bool (blankB pv ep (kd) l ls bl tg)) :: _) [_]
      refine AN 28 31 true _ (.bool (!(blankB pv ep (kd) l ls bl tg))) rfl rfl hb41 (C8 rfl) rfl ?_
      refine AN 24 27 false _ _ rfl rfl hb40 (BD _ rfl hb41 rfl) rfl ?_
      refine AA _ (A0 _ rfl hb40 rfl) rfl ?_
      refine AA _ (AM rfl) rfl ?_
      rcases Bool.eq_false_or_eq_true (blankB pv ep (kd) l ls bl tg) with hb42 | hb42
      ·
       refine AN 35 38 false _ (Ptr nb1 1) rfl rfl (bnotT hb42) (AB 1 3 1 AJ rfl AT rfl rfl) rfl ?_
       refine AN 35 38 false _ (I64 (qk)) rfl rfl (bnotT hb42) (AL rfl (AV AX (AY 0 rfl (AH (AH (AG (Seg.head))))))) rfl ?_
       refine AN 35 38 false _ (.bool (decide ((qk) = (3:Int)))) rfl rfl (bnotT hb42) (AQ rfl rfl fun _ => A4 _ _) rfl ?_
       refine AN 35 38 false _ _ rfl rfl (bnotT hb42) (AM rfl) rfl ?_
       rcases Bool.eq_false_or_eq_true (decide ((qk) = (3:Int))) with hb43 | hb43
       ·
        have hp43 : (qk) = (3:Int) := of_decide_eq_true hb43
        refine AN 39 42 true _ (Ptr nb1 27) rfl rfl hb43 (AB 27 22 1 AJ rfl AP rfl rfl) rfl ?_
        refine AN 39 42 true _ (U64 eq) rfl rfl hb43 (AL rfl (AV AR (AY 0 rfl (Seg.right 27 0 (by simp [htg]) rfl (Seg.head))))) rfl ?_
        refine AN 39 42 true _ (.bool (decide (eq ≠ (0:UInt64)))) rfl rfl hb43 (AQ rfl rfl fun _ => C4 eq (0:UInt64)) rfl ?_
        refine AN 35 38 false _ _ rfl rfl (bnotT hb42) (BD _ rfl hb43 rfl) rfl ?_
        refine AA _ (A0 _ rfl (bnotT hb42) rfl) rfl ?_
        refine AK (AE (BZ (decide (eq ≠ (0:UInt64))) rfl (fun hb44 => ?_) (fun hb44 => ?_)))
        ·
         have hp44 : eq ≠ (0:UInt64) := of_decide_eq_true hb44
         refine AI (AC (AA _ (AF rfl) rfl ?_))
         refine AK (AE (BA (AU (BF [false] ?_))))
         show JQ _ _ _ _ []
         refine A9 (.bool false) (res1 BC (A7 rfl)) fun w1 hw1 => ?_
         refine ⟨_, [], rfl, ⟨congrArg Value.bool ?_, rfl⟩, hw1.sub (by simp) (by simp)⟩
         unfold reqR
         rw [hlq]
         first | (simp [AZ, *]; done) | (simp [AZ, *] at *; simp [*]; done) | (simp_all [AZ]; done) | (simp_all [AZ]; omega)
        ·
         have hp44 : ¬ (eq ≠ (0:UInt64)) := of_decide_eq_false hb44
         refine BM (AE (AI (AI (AC (AA (Ptr nb1 1) (AB 1 3 1 AJ rfl AT rfl rfl) rfl ?_)))))
         refine AA (I64 (qk)) (AL rfl (AV AX (AY 0 rfl (AH (AH (AG (Seg.head))))))) rfl ?_
         refine AK (AE (BY (AI (AC (AA (.bool (decide ((qk) = (1:Int)))) (AQ rfl rfl fun _ => A4 _ _) rfl ?_)))))
         refine AA _ (AF rfl) rfl ?_
         refine AK (AE (BZ (decide ((qk) = (1:Int))) rfl (fun hb45 => ?_) (fun hb45 => ?_)))
         ·
          have hp45 : (qk) = (1:Int) := of_decide_eq_true hb45
          refine AI (AC (AA (Ptr nb1 2) (AB 2 23 1 AJ rfl BI rfl rfl) rfl ?_))
          refine AA (.slice aiq niq ciq) (AL rfl (AV BL (AY 0 rfl (AH (AH (AG (AG (Seg.head)))))))) rfl ?_
          refine BS (A2 79 [I64 32, .slice aiq niq ciq] (.bool (decide (RightI lq))) (A5 _ DY rfl) (fun w1 hw1 => EA aiq niq ciq lq w1 hlq (by omega) (by omega) (by omega) (BP hw1 rfl hvq))) rfl ?_
          show JL _ _ _ _ ((54, .bool (decide (RightI lq))) :: _) [_]
          refine AA _ (AF rfl) rfl ?_
          refine AK (AE (BA (BK (AU (BF [false] ?_)))))
          show JQ _ _ _ _ []
          refine A9 (.bool (decide (RightI lq))) (res1 BC (A7 rfl)) fun w1 hw1 => ?_
          refine ⟨_, [], rfl, ⟨congrArg Value.bool ?_, rfl⟩, hw1.sub (by simp) (by simp)⟩
          unfold reqR
          rw [hlq]
          first | (simp [AZ, *]; done) | (simp [AZ, *] at *; simp [*]; done) | (simp_all [AZ]; done) | (simp_all [AZ]; omega)
         ·
          have hp45 : ¬ ((qk) = (1:Int)) := of_decide_eq_false hb45
          refine AI (AC (AA (.bool (decide ((qk) = (2:Int)))) (AQ rfl rfl fun _ => A4 _ _) rfl ?_))
          refine AA _ (AF rfl) rfl ?_
          refine AK (AE (BZ (decide ((qk) = (2:Int))) rfl (fun hb46 => ?_) (fun hb46 => ?_)))
          ·
           have hp46 : (qk) = (2:Int) := of_decide_eq_true hb46
           refine AI (AC (AA (Ptr nb1 3) (AB 3 22 1 AJ rfl AP rfl rfl) rfl ?_))
           refine AA (U64 fs) (AL rfl (AV AR (AY 0 rfl (AH (AH (AG (AG (AG (Seg.head))))))))) rfl ?_
           refine AA (Ptr nb1 4) (AB 4 3 1 AJ rfl AT rfl rfl) rfl ?_
           refine AA (I64 (mn)) (AL rfl (AV AX (AY 0 rfl (AH (AH (AG (AG (AG (AG (Seg.head)))))))))) rfl ?_
           refine BS (A2 80 [I64 32, U64 fs, I64 (mn)] (.bool (spanB fs (mn))) (A5 _ D0 rfl) (fun w1 hw1 => E3 fs (mn) w1 )) rfl ?_
           show JL _ _ _ _ ((61, .bool (spanB fs (mn))) :: _) [_]
           refine AA _ (AF rfl) rfl ?_
           refine AK (AE (BA (BK (AU (BF [false] ?_)))))
           show JQ _ _ _ _ []
           refine A9 (.bool (spanB fs (mn))) (res1 BC (A7 rfl)) fun w1 hw1 => ?_
           refine ⟨_, [], rfl, ⟨congrArg Value.bool ?_, rfl⟩, hw1.sub (by simp) (by simp)⟩
           unfold reqR
           rw [hlq]
           first | (simp [AZ, *]; done) | (simp [AZ, *] at *; simp [*]; done) | (simp_all [AZ]; done) | (simp_all [AZ]; omega)
          ·
           have hp46 : ¬ ((qk) = (2:Int)) := of_decide_eq_false hb46
           refine AI (AC (AA (.bool (decide ((qk) = (3:Int)))) (AQ rfl rfl fun _ => A4 _ _) rfl ?_))
           refine AA _ (AF rfl) rfl ?_
           refine AK (AE (B5 _ rfl hb43 ?_))
           refine AI (AC (AA (Ptr nb1 5) (AB 5 38 22 AJ rfl CA rfl rfl) rfl ?_))
           refine AA (.agg ([U64 pv, U64 ep, I64 (kd), .slice ai ni ci, .slice sa ns sc, U64 bl] ++ cu8 tg).toArray) (AL rfl (B1 DO CA (by simp [htg]) (AY 0 rfl (CO (p := [U64 sq, I64 (qk), .slice aiq niq ciq, U64 fs, I64 (mn)]) (q := [U64 eq]) (vs := [U64 pv, U64 ep, I64 (kd), .slice ai ni ci, .slice sa ns sc, U64 bl] ++ cu8 tg) (by first | rfl | (simp only [List.append_assoc, List.nil_append, List.append_nil, List.cons_append]; done)) rfl)))) rfl ?_
           refine BS (A2 45 [.agg ([U64 pv, U64 ep, I64 (kd), .slice ai ni ci, .slice sa ns sc, U64 bl] ++ cu8 tg).toArray] (I64 (((mayN pv ep (kd) l ls bl):Int))) (A5 _ Tryd.call45 rfl) (fun w1 hw1 => rmay13_c pv ep (kd) ai ni ci l sa ns sc ls bl tg w1 hl (by omega) (by omega) (by omega) (BP hw1 rfl hv) hls (by omega) (by omega) (by omega) (BP hw1 rfl hs) htg)) rfl ?_
           show JL _ _ _ _ ((66, I64 (((mayN pv ep (kd) l ls bl):Int))) :: _) [_]
           refine AA (.bool (decide ((((mayN pv ep (kd) l ls bl):Int)) = (0:Int)))) (AQ rfl rfl fun _ => A4 _ _) rfl ?_
           refine AA _ (AF rfl) rfl ?_
           refine AK (AE (BA (BK (AU (BF [false] ?_)))))
           show JQ _ _ _ _ []
           refine A9 (.bool (decide ((((mayN pv ep (kd) l ls bl):Int)) = (0:Int)))) (res1 BC (A7 rfl)) fun w1 hw1 => ?_
           refine ⟨_, [], rfl, ⟨congrArg Value.bool ?_, rfl⟩, hw1.sub (by simp) (by simp)⟩
           unfold reqR
           rw [hlq]
           first | (simp [AZ, *]; done) | (simp [AZ, *] at *; simp [*]; done) | (simp_all [AZ]; done) | (simp_all [AZ]; omega)
       ·
        have hp43 : ¬ ((qk) = (3:Int)) := of_decide_eq_false hb43
        refine AD 39 42 true _ rfl rfl hb43 rfl ?_
        refine AD 39 42 true _ rfl rfl hb43 rfl ?_
        refine AD 39 42 true _ rfl rfl hb43 rfl ?_
        refine AN 35 38 false _ _ rfl rfl (bnotT hb42) (A0 _ rfl hb43 rfl) rfl ?_
        refine AA _ (A0 _ rfl (bnotT hb42) rfl) rfl ?_
        refine AK (AE (BT _ rfl rfl ?_))
        refine BM (AE (AI (AI (AC (AA (Ptr nb1 1) (AB 1 3 1 AJ rfl AT rfl rfl) rfl ?_)))))
        refine AA (I64 (qk)) (AL rfl (AV AX (AY 0 rfl (AH (AH (AG (Seg.head))))))) rfl ?_
        refine AK (AE (BY (AI (AC (AA (.bool (decide ((qk) = (1:Int)))) (AQ rfl rfl fun _ => A4 _ _) rfl ?_)))))
        refine AA _ (AF rfl) rfl ?_
        refine AK (AE (BZ (decide ((qk) = (1:Int))) rfl (fun hb47 => ?_) (fun hb47 => ?_)))
        ·
         have hp47 : (qk) = (1:Int) := of_decide_eq_true hb47
         refine AI (AC (AA (Ptr nb1 2) (AB 2 23 1 AJ rfl BI rfl rfl) rfl ?_))
         refine AA (.slice aiq niq ciq) (AL rfl (AV BL (AY 0 rfl (AH (AH (AG (AG (Seg.head)))))))) rfl ?_
         refine BS (A2 79 [I64 32, .slice aiq niq ciq] (.bool (decide (RightI lq))) (A5 _ DY rfl) (fun w1 hw1 => EA aiq niq ciq lq w1 hlq (by omega) (by omega) (by omega) (BP hw1 rfl hvq))) rfl ?_
         show JL _ _ _ _ ((54, .bool (decide (RightI lq))) :: _) [_]
         refine AA _ (AF rfl) rfl ?_
         refine AK (AE (BA (BK (AU (BF [false] ?_)))))
         show JQ _ _ _ _ []
         refine A9 (.bool (decide (RightI lq))) (res1 BC (A7 rfl)) fun w1 hw1 => ?_
         refine ⟨_, [], rfl, ⟨congrArg Value.bool ?_, rfl⟩, hw1.sub (by simp) (by simp)⟩
         unfold reqR
         rw [hlq]
         first | (simp [AZ, *]; done) | (simp [AZ, *] at *; simp [*]; done) | (simp_all [AZ]; done) | (simp_all [AZ]; omega)
        ·
         have hp47 : ¬ ((qk) = (1:Int)) := of_decide_eq_false hb47
         refine AI (AC (AA (.bool (decide ((qk) = (2:Int)))) (AQ rfl rfl fun _ => A4 _ _) rfl ?_))
         refine AA _ (AF rfl) rfl ?_
         refine AK (AE (BZ (decide ((qk) = (2:Int))) rfl (fun hb48 => ?_) (fun hb48 => ?_)))
         ·
          have hp48 : (qk) = (2:Int) := of_decide_eq_true hb48
          refine AI (AC (AA (Ptr nb1 3) (AB 3 22 1 AJ rfl AP rfl rfl) rfl ?_))
          refine AA (U64 fs) (AL rfl (AV AR (AY 0 rfl (AH (AH (AG (AG (AG (Seg.head))))))))) rfl ?_
          refine AA (Ptr nb1 4) (AB 4 3 1 AJ rfl AT rfl rfl) rfl ?_
          refine AA (I64 (mn)) (AL rfl (AV AX (AY 0 rfl (AH (AH (AG (AG (AG (AG (Seg.head)))))))))) rfl ?_
          refine BS (A2 80 [I64 32, U64 fs, I64 (mn)] (.bool (spanB fs (mn))) (A5 _ D0 rfl) (fun w1 hw1 => E3 fs (mn) w1 )) rfl ?_
          show JL _ _ _ _ ((61, .bool (spanB fs (mn))) :: _) [_]
          refine AA _ (AF rfl) rfl ?_
          refine AK (AE (BA (BK (AU (BF [false] ?_)))))
          show JQ _ _ _ _ []
          refine A9 (.bool (spanB fs (mn))) (res1 BC (A7 rfl)) fun w1 hw1 => ?_
          refine ⟨_, [], rfl, ⟨congrArg Value.bool ?_, rfl⟩, hw1.sub (by simp) (by simp)⟩
          unfold reqR
          rw [hlq]
          first | (simp [AZ, *]; done) | (simp [AZ, *] at *; simp [*]; done) | (simp_all [AZ]; done) | (simp_all [AZ]; omega)
         ·
          have hp48 : ¬ ((qk) = (2:Int)) := of_decide_eq_false hb48
          refine AI (AC (AA (.bool (decide ((qk) = (3:Int)))) (AQ rfl rfl fun _ => A4 _ _) rfl ?_))
          refine AA _ (AF rfl) rfl ?_
          refine AK (AE (BT _ rfl hb43 ?_))
          refine BM (BR (AE (AI (AC (AA (Ptr nb1 1) (AB 1 3 1 AJ rfl AT rfl rfl) rfl ?_)))))
          refine AA (I64 (qk)) (AL rfl (AV AX (AY 0 rfl (AH (AH (AG (Seg.head))))))) rfl ?_
          refine AA (.bool (decide ((qk) = (4:Int)))) (AQ rfl rfl fun _ => A4 _ _) rfl ?_
          refine AA _ (AM rfl) rfl ?_
          rcases Bool.eq_false_or_eq_true (decide ((qk) = (4:Int))) with hb49 | hb49
          ·
           have hp49 : (qk) = (4:Int) := of_decide_eq_true hb49
           refine AD 3 71 false _ rfl rfl hb49 rfl ?_
           refine AD 3 71 false _ rfl rfl hb49 rfl ?_
           refine AD 3 71 false _ rfl rfl hb49 rfl ?_
           refine AA _ (BD _ rfl hb49 rfl) rfl ?_
           refine AA _ (AF rfl) rfl ?_
           refine AK (AE (BA (BF [false] ?_)))
           show JQ _ _ _ _ []
           refine A9 (.bool true) (res1 BC (A7 rfl)) fun w1 hw1 => ?_
           refine ⟨_, [], rfl, ⟨congrArg Value.bool ?_, rfl⟩, hw1.sub (by simp) (by simp)⟩
           unfold reqR
           rw [hlq]
           first | (simp [AZ, *]; done) | (simp [AZ, *] at *; simp [*]; done) | (simp_all [AZ]; done) | (simp_all [AZ]; omega)
          ·
           have hp49 : ¬ ((qk) = (4:Int)) := of_decide_eq_false hb49
           refine AN 3 71 false _ (Ptr nb1 1) rfl rfl hb49 (AB 1 3 1 AJ rfl AT rfl rfl) rfl ?_
           refine AN 3 71 false _ (I64 (qk)) rfl rfl hb49 (AL rfl (AV AX (AY 0 rfl (AH (AH (AG (Seg.head))))))) rfl ?_
           refine AN 3 71 false _ (.bool (decide ((qk) = (5:Int)))) rfl rfl hb49 (AQ rfl rfl fun _ => A4 _ _) rfl ?_
           refine AA _ (A0 _ rfl hb49 rfl) rfl ?_
           refine AA _ (AF rfl) rfl ?_
           refine AK (AE (BA (BF [false] ?_)))
           show JQ _ _ _ _ []
           refine A9 (.bool (decide ((qk) = (5:Int)))) (res1 BC (A7 rfl)) fun w1 hw1 => ?_
           refine ⟨_, [], rfl, ⟨congrArg Value.bool ?_, rfl⟩, hw1.sub (by simp) (by simp)⟩
           unfold reqR
           rw [hlq]
           first | (simp [AZ, *]; done) | (simp [AZ, *] at *; simp [*]; done) | (simp_all [AZ]; done) | (simp_all [AZ]; omega)
      ·
       refine AD 35 38 false _ rfl rfl (bnotF hb42) rfl ?_
       refine AD 35 38 false _ rfl rfl (bnotF hb42) rfl ?_
       refine AD 35 38 false _ rfl rfl (bnotF hb42) rfl ?_
       refine AD 35 38 false _ rfl rfl (bnotF hb42) rfl ?_
       refine BW 39 42 true rfl rfl rfl ?_
       refine BW 39 42 true rfl rfl rfl ?_
       refine BW 39 42 true rfl rfl rfl ?_
       refine AD 35 38 false _ rfl rfl (bnotF hb42) rfl ?_
       refine AA _ (BD _ rfl (bnotF hb42) rfl) rfl ?_
       refine AK (AE (B5 _ rfl rfl ?_))
       refine AI (AC (AA _ (AF rfl) rfl ?_))
       refine AK (AE (BA (AU (BF [false] ?_))))
       show JQ _ _ _ _ []
       refine A9 (.bool false) (res1 BC (A7 rfl)) fun w1 hw1 => ?_
       refine ⟨_, [], rfl, ⟨congrArg Value.bool ?_, rfl⟩, hw1.sub (by simp) (by simp)⟩
       unfold reqR
       rw [hlq]
       first | (simp [AZ, *]; done) | (simp [AZ, *] at *; simp [*]; done) | (simp_all [AZ]; done) | (simp_all [AZ]; omega)
     ·
      have hp41 : ¬ ((qk) ≠ (3:Int)) := of_decide_eq_false hb41
      refine AD 28 31 true _ rfl rfl hb41 rfl ?_
      refine AD 28 31 true _ rfl rfl hb41 rfl ?_
      refine AD 28 31 true _ rfl rfl hb41 rfl ?_
      refine AD 28 31 true _ rfl rfl hb41 rfl ?_
      refine AN 24 27 false _ _ rfl rfl hb40 (A0 _ rfl hb41 rfl) rfl ?_
      refine AA _ (A0 _ rfl hb40 rfl) rfl ?_
      refine AA _ (AM rfl) rfl ?_
      refine AN 35 38 false _ (Ptr nb1 1) rfl rfl rfl (AB 1 3 1 AJ rfl AT rfl rfl) rfl ?_
      refine AN 35 38 false _ (I64 (qk)) rfl rfl rfl (AL rfl (AV AX (AY 0 rfl (AH (AH (AG (Seg.head))))))) rfl ?_
      refine AN 35 38 false _ (.bool (decide ((qk) = (3:Int)))) rfl rfl rfl (AQ rfl rfl fun _ => A4 _ _) rfl ?_
      refine AN 35 38 false _ _ rfl rfl rfl (AM rfl) rfl ?_
      rcases Bool.eq_false_or_eq_true (decide ((qk) = (3:Int))) with hb50 | hb50
      ·
       have hp50 : (qk) = (3:Int) := of_decide_eq_true hb50
       refine AN 39 42 true _ (Ptr nb1 27) rfl rfl hb50 (AB 27 22 1 AJ rfl AP rfl rfl) rfl ?_
       refine AN 39 42 true _ (U64 eq) rfl rfl hb50 (AL rfl (AV AR (AY 0 rfl (Seg.right 27 0 (by simp [htg]) rfl (Seg.head))))) rfl ?_
       refine AN 39 42 true _ (.bool (decide (eq ≠ (0:UInt64)))) rfl rfl hb50 (AQ rfl rfl fun _ => C4 eq (0:UInt64)) rfl ?_
       refine AN 35 38 false _ _ rfl rfl rfl (BD _ rfl hb50 rfl) rfl ?_
       refine AA _ (A0 _ rfl rfl rfl) rfl ?_
       refine AK (AE (BZ (decide (eq ≠ (0:UInt64))) rfl (fun hb51 => ?_) (fun hb51 => ?_)))
       ·
        have hp51 : eq ≠ (0:UInt64) := of_decide_eq_true hb51
        refine AI (AC (AA _ (AF rfl) rfl ?_))
        refine AK (AE (BA (AU (BF [false] ?_))))
        show JQ _ _ _ _ []
        refine A9 (.bool false) (res1 BC (A7 rfl)) fun w1 hw1 => ?_
        refine ⟨_, [], rfl, ⟨congrArg Value.bool ?_, rfl⟩, hw1.sub (by simp) (by simp)⟩
        unfold reqR
        rw [hlq]
        first | (simp [AZ, *]; done) | (simp [AZ, *] at *; simp [*]; done) | (simp_all [AZ]; done) | (simp_all [AZ]; omega)
       ·
        have hp51 : ¬ (eq ≠ (0:UInt64)) := of_decide_eq_false hb51
        refine BM (AE (AI (AI (AC (AA (Ptr nb1 1) (AB 1 3 1 AJ rfl AT rfl rfl) rfl ?_)))))
        refine AA (I64 (qk)) (AL rfl (AV AX (AY 0 rfl (AH (AH (AG (Seg.head))))))) rfl ?_
        refine AK (AE (BY (AI (AC (AA (.bool (decide ((qk) = (1:Int)))) (AQ rfl rfl fun _ => A4 _ _) rfl ?_)))))
        refine AA _ (AF rfl) rfl ?_
        refine AK (AE (BZ (decide ((qk) = (1:Int))) rfl (fun hb52 => ?_) (fun hb52 => ?_)))
        ·
         have hp52 : (qk) = (1:Int) := of_decide_eq_true hb52
         refine AI (AC (AA (Ptr nb1 2) (AB 2 23 1 AJ rfl BI rfl rfl) rfl ?_))
         refine AA (.slice aiq niq ciq) (AL rfl (AV BL (AY 0 rfl (AH (AH (AG (AG (Seg.head)))))))) rfl ?_
         refine BS (A2 79 [I64 32, .slice aiq niq ciq] (.bool (decide (RightI lq))) (A5 _ DY rfl) (fun w1 hw1 => EA aiq niq ciq lq w1 hlq (by omega) (by omega) (by omega) (BP hw1 rfl hvq))) rfl ?_
         show JL _ _ _ _ ((54, .bool (decide (RightI lq))) :: _) [_]
         refine AA _ (AF rfl) rfl ?_
         refine AK (AE (BA (BK (AU (BF [false] ?_)))))
         show JQ _ _ _ _ []
         refine A9 (.bool (decide (RightI lq))) (res1 BC (A7 rfl)) fun w1 hw1 => ?_
         refine ⟨_, [], rfl, ⟨congrArg Value.bool ?_, rfl⟩, hw1.sub (by simp) (by simp)⟩
         unfold reqR
         rw [hlq]
         first | (simp [AZ, *]; done) | (simp [AZ, *] at *; simp [*]; done) | (simp_all [AZ]; done) | (simp_all [AZ]; omega)
        ·
         have hp52 : ¬ ((qk) = (1:Int)) := of_decide_eq_false hb52
         refine AI (AC (AA (.bool (decide ((qk) = (2:Int)))) (AQ rfl rfl fun _ => A4 _ _) rfl ?_))
         refine AA _ (AF rfl) rfl ?_
         refine AK (AE (BZ (decide ((qk) = (2:Int))) rfl (fun hb53 => ?_) (fun hb53 => ?_)))
         ·
          have hp53 : (qk) = (2:Int) := of_decide_eq_true hb53
          refine AI (AC (AA (Ptr nb1 3) (AB 3 22 1 AJ rfl AP rfl rfl) rfl ?_))
          refine AA (U64 fs) (AL rfl (AV AR (AY 0 rfl (AH (AH (AG (AG (AG (Seg.head))))))))) rfl ?_
          refine AA (Ptr nb1 4) (AB 4 3 1 AJ rfl AT rfl rfl) rfl ?_
          refine AA (I64 (mn)) (AL rfl (AV AX (AY 0 rfl (AH (AH (AG (AG (AG (AG (Seg.head)))))))))) rfl ?_
          refine BS (A2 80 [I64 32, U64 fs, I64 (mn)] (.bool (spanB fs (mn))) (A5 _ D0 rfl) (fun w1 hw1 => E3 fs (mn) w1 )) rfl ?_
          show JL _ _ _ _ ((61, .bool (spanB fs (mn))) :: _) [_]
          refine AA _ (AF rfl) rfl ?_
          refine AK (AE (BA (BK (AU (BF [false] ?_)))))
          show JQ _ _ _ _ []
          refine A9 (.bool (spanB fs (mn))) (res1 BC (A7 rfl)) fun w1 hw1 => ?_
          refine ⟨_, [], rfl, ⟨congrArg Value.bool ?_, rfl⟩, hw1.sub (by simp) (by simp)⟩
          unfold reqR
          rw [hlq]
          first | (simp [AZ, *]; done) | (simp [AZ, *] at *; simp [*]; done) | (simp_all [AZ]; done) | (simp_all [AZ]; omega)
         ·
          have hp53 : ¬ ((qk) = (2:Int)) := of_decide_eq_false hb53
          refine AI (AC (AA (.bool (decide ((qk) = (3:Int)))) (AQ rfl rfl fun _ => A4 _ _) rfl ?_))
          refine AA _ (AF rfl) rfl ?_
          refine AK (AE (B5 _ rfl hb50 ?_))
          refine AI (AC (AA (Ptr nb1 5) (AB 5 38 22 AJ rfl CA rfl rfl) rfl ?_))
          refine AA (.agg ([U64 pv, U64 ep, I64 (kd), .slice ai ni ci, .slice sa ns sc, U64 bl] ++ cu8 tg).toArray) (AL rfl (B1 DO CA (by simp [htg]) (AY 0 rfl (CO (p := [U64 sq, I64 (qk), .slice aiq niq ciq, U64 fs, I64 (mn)]) (q := [U64 eq]) (vs := [U64 pv, U64 ep, I64 (kd), .slice ai ni ci, .slice sa ns sc, U64 bl] ++ cu8 tg) (by first | rfl | (simp only [List.append_assoc, List.nil_append, List.append_nil, List.cons_append]; done)) rfl)))) rfl ?_
          refine BS (A2 45 [.agg ([U64 pv, U64 ep, I64 (kd), .slice ai ni ci, .slice sa ns sc, U64 bl] ++ cu8 tg).toArray] (I64 (((mayN pv ep (kd) l ls bl):Int))) (A5 _ Tryd.call45 rfl) (fun w1 hw1 => rmay13_c pv ep (kd) ai ni ci l sa ns sc ls bl tg w1 hl (by omega) (by omega) (by omega) (BP hw1 rfl hv) hls (by omega) (by omega) (by omega) (BP hw1 rfl hs) htg)) rfl ?_
          show JL _ _ _ _ ((66, I64 (((mayN pv ep (kd) l ls bl):Int))) :: _) [_]
          refine AA (.bool (decide ((((mayN pv ep (kd) l ls bl):Int)) = (0:Int)))) (AQ rfl rfl fun _ => A4 _ _) rfl ?_
          refine AA _ (AF rfl) rfl ?_
          refine AK (AE (BA (BK (AU (BF [false] ?_)))))
          show JQ _ _ _ _ []
          refine A9 (.bool (decide ((((mayN pv ep (kd) l ls bl):Int)) = (0:Int)))) (res1 BC (A7 rfl)) fun w1 hw1 => ?_
          refine ⟨_, [], rfl, ⟨congrArg Value.bool ?_, rfl⟩, hw1.sub (by simp) (by simp)⟩
          unfold reqR
          rw [hlq]
          first | (simp [AZ, *]; done) | (simp [AZ, *] at *; simp [*]; done) | (simp_all [AZ]; done) | (simp_all [AZ]; omega)
      ·
       have hp50 : ¬ ((qk) = (3:Int)) := of_decide_eq_false hb50
       refine AD 39 42 true _ rfl rfl hb50 rfl ?_
       refine AD 39 42 true _ rfl rfl hb50 rfl ?_
       refine AD 39 42 true _ rfl rfl hb50 rfl ?_
       refine AN 35 38 false _ _ rfl rfl rfl (A0 _ rfl hb50 rfl) rfl ?_
       refine AA _ (A0 _ rfl rfl rfl) rfl ?_
       refine AK (AE (BT _ rfl rfl ?_))
       refine BM (AE (AI (AI (AC (AA (Ptr nb1 1) (AB 1 3 1 AJ rfl AT rfl rfl) rfl ?_)))))
       refine AA (I64 (qk)) (AL rfl (AV AX (AY 0 rfl (AH (AH (AG (Seg.head))))))) rfl ?_
       refine AK (AE (BY (AI (AC (AA (.bool (decide ((qk) = (1:Int)))) (AQ rfl rfl fun _ => A4 _ _) rfl ?_)))))
       refine AA _ (AF rfl) rfl ?_
       refine AK (AE (BZ (decide ((qk) = (1:Int))) rfl (fun hb54 => ?_) (fun hb54 => ?_)))
       ·
        have hp54 : (qk) = (1:Int) := of_decide_eq_true hb54
        refine AI (AC (AA (Ptr nb1 2) (AB 2 23 1 AJ rfl BI rfl rfl) rfl ?_))
        refine AA (.slice aiq niq ciq) (AL rfl (AV BL (AY 0 rfl (AH (AH (AG (AG (Seg.head)))))))) rfl ?_
        refine BS (A2 79 [I64 32, .slice aiq niq ciq] (.bool (decide (RightI lq))) (A5 _ DY rfl) (fun w1 hw1 => EA aiq niq ciq lq w1 hlq (by omega) (by omega) (by omega) (BP hw1 rfl hvq))) rfl ?_
        show JL _ _ _ _ ((54, .bool (decide (RightI lq))) :: _) [_]
        refine AA _ (AF rfl) rfl ?_
        refine AK (AE (BA (BK (AU (BF [false] ?_)))))
        show JQ _ _ _ _ []
        refine A9 (.bool (decide (RightI lq))) (res1 BC (A7 rfl)) fun w1 hw1 => ?_
        refine ⟨_, [], rfl, ⟨congrArg Value.bool ?_, rfl⟩, hw1.sub (by simp) (by simp)⟩
        unfold reqR
        rw [hlq]
        first | (simp [AZ, *]; done) | (simp [AZ, *] at *; simp [*]; done) | (simp_all [AZ]; done) | (simp_all [AZ]; omega)
       ·
        have hp54 : ¬ ((qk) = (1:Int)) := of_decide_eq_false hb54
        refine AI (AC (AA (.bool (decide ((qk) = (2:Int)))) (AQ rfl rfl fun _ => A4 _ _) rfl ?_))
        refine AA _ (AF rfl) rfl ?_
        refine AK (AE (BZ (decide ((qk) = (2:Int))) rfl (fun hb55 => ?_) (fun hb55 => ?_)))
        ·
         have hp55 : (qk) = (2:Int) := of_decide_eq_true hb55
         refine AI (AC (AA (Ptr nb1 3) (AB 3 22 1 AJ rfl AP rfl rfl) rfl ?_))
         refine AA (U64 fs) (AL rfl (AV AR (AY 0 rfl (AH (AH (AG (AG (AG (Seg.head))))))))) rfl ?_
         refine AA (Ptr nb1 4) (AB 4 3 1 AJ rfl AT rfl rfl) rfl ?_
         refine AA (I64 (mn)) (AL rfl (AV AX (AY 0 rfl (AH (AH (AG (AG (AG (AG (Seg.head)))))))))) rfl ?_
         refine BS (A2 80 [I64 32, U64 fs, I64 (mn)] (.bool (spanB fs (mn))) (A5 _ D0 rfl) (fun w1 hw1 => E3 fs (mn) w1 )) rfl ?_
         show JL _ _ _ _ ((61, .bool (spanB fs (mn))) :: _) [_]
         refine AA _ (AF rfl) rfl ?_
         refine AK (AE (BA (BK (AU (BF [false] ?_)))))
         show JQ _ _ _ _ []
         refine A9 (.bool (spanB fs (mn))) (res1 BC (A7 rfl)) fun w1 hw1 => ?_
         refine ⟨_, [], rfl, ⟨congrArg Value.bool ?_, rfl⟩, hw1.sub (by simp) (by simp)⟩
         unfold reqR
         rw [hlq]
         first | (simp [AZ, *]; done) | (simp [AZ, *] at *; simp [*]; done) | (simp_all [AZ]; done) | (simp_all [AZ]; omega)
        ·
         have hp55 : ¬ ((qk) = (2:Int)) := of_decide_eq_false hb55
         refine AI (AC (AA (.bool (decide ((qk) = (3:Int)))) (AQ rfl rfl fun _ => A4 _ _) rfl ?_))
         refine AA _ (AF rfl) rfl ?_
         refine AK (AE (BT _ rfl hb50 ?_))
         refine BM (BR (AE (AI (AC (AA (Ptr nb1 1) (AB 1 3 1 AJ rfl AT rfl rfl) rfl ?_)))))
         refine AA (I64 (qk)) (AL rfl (AV AX (AY 0 rfl (AH (AH (AG (Seg.head))))))) rfl ?_
         refine AA (.bool (decide ((qk) = (4:Int)))) (AQ rfl rfl fun _ => A4 _ _) rfl ?_
         refine AA _ (AM rfl) rfl ?_
         rcases Bool.eq_false_or_eq_true (decide ((qk) = (4:Int))) with hb56 | hb56
         ·
          have hp56 : (qk) = (4:Int) := of_decide_eq_true hb56
          refine AD 3 71 false _ rfl rfl hb56 rfl ?_
          refine AD 3 71 false _ rfl rfl hb56 rfl ?_
          refine AD 3 71 false _ rfl rfl hb56 rfl ?_
          refine AA _ (BD _ rfl hb56 rfl) rfl ?_
          refine AA _ (AF rfl) rfl ?_
          refine AK (AE (BA (BF [false] ?_)))
          show JQ _ _ _ _ []
          refine A9 (.bool true) (res1 BC (A7 rfl)) fun w1 hw1 => ?_
          refine ⟨_, [], rfl, ⟨congrArg Value.bool ?_, rfl⟩, hw1.sub (by simp) (by simp)⟩
          unfold reqR
          rw [hlq]
          first | (simp [AZ, *]; done) | (simp [AZ, *] at *; simp [*]; done) | (simp_all [AZ]; done) | (simp_all [AZ]; omega)
         ·
          have hp56 : ¬ ((qk) = (4:Int)) := of_decide_eq_false hb56
          refine AN 3 71 false _ (Ptr nb1 1) rfl rfl hb56 (AB 1 3 1 AJ rfl AT rfl rfl) rfl ?_
          refine AN 3 71 false _ (I64 (qk)) rfl rfl hb56 (AL rfl (AV AX (AY 0 rfl (AH (AH (AG (Seg.head))))))) rfl ?_
          refine AN 3 71 false _ (.bool (decide ((qk) = (5:Int)))) rfl rfl hb56 (AQ rfl rfl fun _ => A4 _ _) rfl ?_
          refine AA _ (A0 _ rfl hb56 rfl) rfl ?_
          refine AA _ (AF rfl) rfl ?_
          refine AK (AE (BA (BF [false] ?_)))
          show JQ _ _ _ _ []
          refine A9 (.bool (decide ((qk) = (5:Int)))) (res1 BC (A7 rfl)) fun w1 hw1 => ?_
          refine ⟨_, [], rfl, ⟨congrArg Value.bool ?_, rfl⟩, hw1.sub (by simp) (by simp)⟩
          unfold reqR
          rw [hlq]
          first | (simp [AZ, *]; done) | (simp [AZ, *] at *; simp [*]; done) | (simp_all [AZ]; done) | (simp_all [AZ]; omega)
  ·
   have hp38 : ¬ ((qk) ≠ (2:Int)) := of_decide_eq_false hb38
   refine AD 13 16 true _ rfl rfl hb38 rfl ?_
   refine AD 13 16 true _ rfl rfl hb38 rfl ?_
   refine AD 13 16 true _ rfl rfl hb38 rfl ?_
   refine AD 13 16 true _ rfl rfl hb38 rfl ?_
   refine BW 17 20 false rfl rfl rfl ?_
   refine BW 17 20 false rfl rfl rfl ?_
   refine BW 17 20 false rfl rfl rfl ?_
   refine AD 13 16 true _ rfl rfl hb38 rfl ?_
   refine AN 9 12 false _ _ rfl rfl rfl (A0 _ rfl hb38 rfl) rfl ?_
   refine AA _ (A0 _ rfl rfl rfl) rfl ?_
   refine AA _ (AM rfl) rfl ?_
   refine AN 24 27 false _ (Ptr nb1 1) rfl rfl rfl (AB 1 3 1 AJ rfl AT rfl rfl) rfl ?_
   refine AN 24 27 false _ (I64 (qk)) rfl rfl rfl (AL rfl (AV AX (AY 0 rfl (AH (AH (AG (Seg.head))))))) rfl ?_
   refine AN 24 27 false _ (.bool (decide ((qk) ≠ (3:Int)))) rfl rfl rfl (AQ rfl rfl fun _ => DI _ _) rfl ?_
   refine AN 24 27 false _ _ rfl rfl rfl (AM rfl) rfl ?_
   rcases Bool.eq_false_or_eq_true (decide ((qk) ≠ (3:Int))) with hb57 | hb57
   ·
    have hp57 : (qk) ≠ (3:Int) := of_decide_eq_true hb57
    refine AN 28 31 true _ (Ptr nb1 5) rfl rfl hb57 (AB 5 38 22 AJ rfl CA rfl rfl) rfl ?_
    refine AN 28 31 true _ (.agg ([U64 pv, U64 ep, I64 (kd), .slice ai ni ci, .slice sa ns sc, U64 bl] ++ cu8 tg).toArray) rfl rfl hb57 (AL rfl (B1 DO CA (by simp [htg]) (AY 0 rfl (CO (p := [U64 sq, I64 (qk), .slice aiq niq ciq, U64 fs, I64 (mn)]) (q := [U64 eq]) (vs := [U64 pv, U64 ep, I64 (kd), .slice ai ni ci, .slice sa ns sc, U64 bl] ++ cu8 tg) (by first | rfl | (simp only [List.append_assoc, List.nil_append, List.append_nil, List.cons_append]; done)) rfl)))) rfl ?_
    refine DB 28 31 true _ rfl rfl hb57 (A2 78 [.agg ([U64 pv, U64 ep, I64 (kd), .slice ai ni ci, .slice sa ns sc, U64 bl] ++ cu8 tg).toArray] (.bool (blankB pv ep (kd) l ls bl tg)) (A5 _ Tryd.call78 rfl) (fun w1 hw1 => rblank_c pv ep (kd) ai ni ci l sa ns sc ls bl tg w1 hl (by omega) (by omega) (by omega) (BP hw1 rfl hv) hls (by omega) (by omega) (by omega) (BP hw1 rfl hs) htg)) rfl ?_
    rintro v1 L1 ⟨rfl, rfl⟩
    show JL _ _ _ _ ((34, .bool (blankB pv ep (kd) l ls bl tg)) :: _) [_]
    refine AN 28 31 true _ (.bool (!(blankB pv ep (kd) l ls bl tg))) rfl rfl hb57 (C8 rfl) rfl ?_
    refine AN 24 27 false _ _ rfl rfl rfl (BD _ rfl hb57 rfl) rfl ?_
    refine AA _ (A0 _ rfl rfl rfl) rfl ?_
    refine AA _ (AM rfl) rfl ?_
    rcases Bool.eq_false_or_eq_true (blankB pv ep (kd) l ls bl tg) with hb58 | hb58
    ·
     refine AN 35 38 false _ (Ptr nb1 1) rfl rfl (bnotT hb58) (AB 1 3 1 AJ rfl AT rfl rfl) rfl ?_
     refine AN 35 38 false _ (I64 (qk)) rfl rfl (bnotT hb58) (AL rfl (AV AX (AY 0 rfl (AH (AH (AG (Seg.head))))))) rfl ?_
     refine AN 35 38 false _ (.bool (decide ((qk) = (3:Int)))) rfl rfl (bnotT hb58) (AQ rfl rfl fun _ => A4 _ _) rfl ?_
     refine AN 35 38 false _ _ rfl rfl (bnotT hb58) (AM rfl) rfl ?_
     rcases Bool.eq_false_or_eq_true (decide ((qk) = (3:Int))) with hb59 | hb59
     ·
      have hp59 : (qk) = (3:Int) := of_decide_eq_true hb59
      refine AN 39 42 true _ (Ptr nb1 27) rfl rfl hb59 (AB 27 22 1 AJ rfl AP rfl rfl) rfl ?_
      refine AN 39 42 true _ (U64 eq) rfl rfl hb59 (AL rfl (AV AR (AY 0 rfl (Seg.right 27 0 (by simp [htg]) rfl (Seg.head))))) rfl ?_
      refine AN 39 42 true _ (.bool (decide (eq ≠ (0:UInt64)))) rfl rfl hb59 (AQ rfl rfl fun _ => C4 eq (0:UInt64)) rfl ?_
      refine AN 35 38 false _ _ rfl rfl (bnotT hb58) (BD _ rfl hb59 rfl) rfl ?_
      refine AA _ (A0 _ rfl (bnotT hb58) rfl) rfl ?_
      refine AK (AE (BZ (decide (eq ≠ (0:UInt64))) rfl (fun hb60 => ?_) (fun hb60 => ?_)))
      ·
       have hp60 : eq ≠ (0:UInt64) := of_decide_eq_true hb60
       refine AI (AC (AA _ (AF rfl) rfl ?_))
       refine AK (AE (BA (AU (BF [false] ?_))))
       show JQ _ _ _ _ []
       refine A9 (.bool false) (res1 BC (A7 rfl)) fun w1 hw1 => ?_
       refine ⟨_, [], rfl, ⟨congrArg Value.bool ?_, rfl⟩, hw1.sub (by simp) (by simp)⟩
       unfold reqR
       rw [hlq]
       first | (simp [AZ, *]; done) | (simp [AZ, *] at *; simp [*]; done) | (simp_all [AZ]; done) | (simp_all [AZ]; omega)
      ·
       have hp60 : ¬ (eq ≠ (0:UInt64)) := of_decide_eq_false hb60
       refine BM (AE (AI (AI (AC (AA (Ptr nb1 1) (AB 1 3 1 AJ rfl AT rfl rfl) rfl ?_)))))
       refine AA (I64 (qk)) (AL rfl (AV AX (AY 0 rfl (AH (AH (AG (Seg.head))))))) rfl ?_
       refine AK (AE (BY (AI (AC (AA (.bool (decide ((qk) = (1:Int)))) (AQ rfl rfl fun _ => A4 _ _) rfl ?_)))))
       refine AA _ (AF rfl) rfl ?_
       refine AK (AE (BZ (decide ((qk) = (1:Int))) rfl (fun hb61 => ?_) (fun hb61 => ?_)))
       ·
        have hp61 : (qk) = (1:Int) := of_decide_eq_true hb61
        refine AI (AC (AA (Ptr nb1 2) (AB 2 23 1 AJ rfl BI rfl rfl) rfl ?_))
        refine AA (.slice aiq niq ciq) (AL rfl (AV BL (AY 0 rfl (AH (AH (AG (AG (Seg.head)))))))) rfl ?_
        refine BS (A2 79 [I64 32, .slice aiq niq ciq] (.bool (decide (RightI lq))) (A5 _ DY rfl) (fun w1 hw1 => EA aiq niq ciq lq w1 hlq (by omega) (by omega) (by omega) (BP hw1 rfl hvq))) rfl ?_
        show JL _ _ _ _ ((54, .bool (decide (RightI lq))) :: _) [_]
        refine AA _ (AF rfl) rfl ?_
        refine AK (AE (BA (BK (AU (BF [false] ?_)))))
        show JQ _ _ _ _ []
        refine A9 (.bool (decide (RightI lq))) (res1 BC (A7 rfl)) fun w1 hw1 => ?_
        refine ⟨_, [], rfl, ⟨congrArg Value.bool ?_, rfl⟩, hw1.sub (by simp) (by simp)⟩
        unfold reqR
        rw [hlq]
        first | (simp [AZ, *]; done) | (simp [AZ, *] at *; simp [*]; done) | (simp_all [AZ]; done) | (simp_all [AZ]; omega)
       ·
        have hp61 : ¬ ((qk) = (1:Int)) := of_decide_eq_false hb61
        refine AI (AC (AA (.bool (decide ((qk) = (2:Int)))) (AQ rfl rfl fun _ => A4 _ _) rfl ?_))
        refine AA _ (AF rfl) rfl ?_
        refine AK (AE (BZ (decide ((qk) = (2:Int))) rfl (fun hb62 => ?_) (fun hb62 => ?_)))
        ·
         have hp62 : (qk) = (2:Int) := of_decide_eq_true hb62
         refine AI (AC (AA (Ptr nb1 3) (AB 3 22 1 AJ rfl AP rfl rfl) rfl ?_))
         refine AA (U64 fs) (AL rfl (AV AR (AY 0 rfl (AH (AH (AG (AG (AG (Seg.head))))))))) rfl ?_
         refine AA (Ptr nb1 4) (AB 4 3 1 AJ rfl AT rfl rfl) rfl ?_
         refine AA (I64 (mn)) (AL rfl (AV AX (AY 0 rfl (AH (AH (AG (AG (AG (AG (Seg.head)))))))))) rfl ?_
         refine BS (A2 80 [I64 32, U64 fs, I64 (mn)] (.bool (spanB fs (mn))) (A5 _ D0 rfl) (fun w1 hw1 => E3 fs (mn) w1 )) rfl ?_
         show JL _ _ _ _ ((61, .bool (spanB fs (mn))) :: _) [_]
         refine AA _ (AF rfl) rfl ?_
         refine AK (AE (BA (BK (AU (BF [false] ?_)))))
         show JQ _ _ _ _ []
         refine A9 (.bool (spanB fs (mn))) (res1 BC (A7 rfl)) fun w1 hw1 => ?_
         refine ⟨_, [], rfl, ⟨congrArg Value.bool ?_, rfl⟩, hw1.sub (by simp) (by simp)⟩
         unfold reqR
         rw [hlq]
         first | (simp [AZ, *]; done) | (simp [AZ, *] at *; simp [*]; done) | (simp_all [AZ]; done) | (simp_all [AZ]; omega)
        ·
         have hp62 : ¬ ((qk) = (2:Int)) := of_decide_eq_false hb62
         refine AI (AC (AA (.bool (decide ((qk) = (3:Int)))) (AQ rfl rfl fun _ => A4 _ _) rfl ?_))
         refine AA _ (AF rfl) rfl ?_
         refine AK (AE (B5 _ rfl hb59 ?_))
         refine AI (AC (AA (Ptr nb1 5) (AB 5 38 22 AJ rfl CA rfl rfl) rfl ?_))
         refine AA (.agg ([U64 pv, U64 ep, I64 (kd), .slice ai ni ci, .slice sa ns sc, U64 bl] ++ cu8 tg).toArray) (AL rfl (B1 DO CA (by simp [htg]) (AY 0 rfl (CO (p := [U64 sq, I64 (qk), .slice aiq niq ciq, U64 fs, I64 (mn)]) (q := [U64 eq]) (vs := [U64 pv, U64 ep, I64 (kd), .slice ai ni ci, .slice sa ns sc, U64 bl] ++ cu8 tg) (by first | rfl | (simp only [List.append_assoc, List.nil_append, List.append_nil, List.cons_append]; done)) rfl)))) rfl ?_
         refine BS (A2 45 [.agg ([U64 pv, U64 ep, I64 (kd), .slice ai ni ci, .slice sa ns sc, U64 bl] ++ cu8 tg).toArray] (I64 (((mayN pv ep (kd) l ls bl):Int))) (A5 _ Tryd.call45 rfl) (fun w1 hw1 => rmay13_c pv ep (kd) ai ni ci l sa ns sc ls bl tg w1 hl (by omega) (by omega) (by omega) (BP hw1 rfl hv) hls (by omega) (by omega) (by omega) (BP hw1 rfl hs) htg)) rfl ?_
         show JL _ _ _ _ ((66, I64 (((mayN pv ep (kd) l ls bl):Int))) :: _) [_]
         refine AA (.bool (decide ((((mayN pv ep (kd) l ls bl):Int)) = (0:Int)))) (AQ rfl rfl fun _ => A4 _ _) rfl ?_
         refine AA _ (AF rfl) rfl ?_
         refine AK (AE (BA (BK (AU (BF [false] ?_)))))
         show JQ _ _ _ _ []
         refine A9 (.bool (decide ((((mayN pv ep (kd) l ls bl):Int)) = (0:Int)))) (res1 BC (A7 rfl)) fun w1 hw1 => ?_
         refine ⟨_, [], rfl, ⟨congrArg Value.bool ?_, rfl⟩, hw1.sub (by simp) (by simp)⟩
         unfold reqR
         rw [hlq]
         first | (simp [AZ, *]; done) | (simp [AZ, *] at *; simp [*]; done) | (simp_all [AZ]; done) | (simp_all [AZ]; omega)
     ·
      have hp59 : ¬ ((qk) = (3:Int)) := of_decide_eq_false hb59
      refine AD 39 42 true _ rfl rfl hb59 rfl ?_
      refine AD 39 42 true _ rfl rfl hb59 rfl ?_
      refine AD 39 42 true _ rfl rfl hb59 rfl ?_
      refine AN 35 38 false _ _ rfl rfl (bnotT hb58) (A0 _ rfl hb59 rfl) rfl ?_
      refine AA _ (A0 _ rfl (bnotT hb58) rfl) rfl ?_
      refine AK (AE (BT _ rfl rfl ?_))
      refine BM (AE (AI (AI (AC (AA (Ptr nb1 1) (AB 1 3 1 AJ rfl AT rfl rfl) rfl ?_)))))
      refine AA (I64 (qk)) (AL rfl (AV AX (AY 0 rfl (AH (AH (AG (Seg.head))))))) rfl ?_
      refine AK (AE (BY (AI (AC (AA (.bool (decide ((qk) = (1:Int)))) (AQ rfl rfl fun _ => A4 _ _) rfl ?_)))))
      refine AA _ (AF rfl) rfl ?_
      refine AK (AE (BZ (decide ((qk) = (1:Int))) rfl (fun hb63 => ?_) (fun hb63 => ?_)))
      ·
       have hp63 : (qk) = (1:Int) := of_decide_eq_true hb63
       refine AI (AC (AA (Ptr nb1 2) (AB 2 23 1 AJ rfl BI rfl rfl) rfl ?_))
       refine AA (.slice aiq niq ciq) (AL rfl (AV BL (AY 0 rfl (AH (AH (AG (AG (Seg.head)))))))) rfl ?_
       refine BS (A2 79 [I64 32, .slice aiq niq ciq] (.bool (decide (RightI lq))) (A5 _ DY rfl) (fun w1 hw1 => EA aiq niq ciq lq w1 hlq (by omega) (by omega) (by omega) (BP hw1 rfl hvq))) rfl ?_
       show JL _ _ _ _ ((54, .bool (decide (RightI lq))) :: _) [_]
       refine AA _ (AF rfl) rfl ?_
       refine AK (AE (BA (BK (AU (BF [false] ?_)))))
       show JQ _ _ _ _ []
       refine A9 (.bool (decide (RightI lq))) (res1 BC (A7 rfl)) fun w1 hw1 => ?_
       refine ⟨_, [], rfl, ⟨congrArg Value.bool ?_, rfl⟩, hw1.sub (by simp) (by simp)⟩
       unfold reqR
       rw [hlq]
       first | (simp [AZ, *]; done) | (simp [AZ, *] at *; simp [*]; done) | (simp_all [AZ]; done) | (simp_all [AZ]; omega)
      ·
       have hp63 : ¬ ((qk) = (1:Int)) := of_decide_eq_false hb63
       refine AI (AC (AA (.bool (decide ((qk) = (2:Int)))) (AQ rfl rfl fun _ => A4 _ _) rfl ?_))
       refine AA _ (AF rfl) rfl ?_
       refine AK (AE (BZ (decide ((qk) = (2:Int))) rfl (fun hb64 => ?_) (fun hb64 => ?_)))
       ·
        have hp64 : (qk) = (2:Int) := of_decide_eq_true hb64
        refine AI (AC (AA (Ptr nb1 3) (AB 3 22 1 AJ rfl AP rfl rfl) rfl ?_))
        refine AA (U64 fs) (AL rfl (AV AR (AY 0 rfl (AH (AH (AG (AG (AG (Seg.head))))))))) rfl ?_
        refine AA (Ptr nb1 4) (AB 4 3 1 AJ rfl AT rfl rfl) rfl ?_
        refine AA (I64 (mn)) (AL rfl (AV AX (AY 0 rfl (AH (AH (AG (AG (AG (AG (Seg.head)))))))))) rfl ?_
        refine BS (A2 80 [I64 32, U64 fs, I64 (mn)] (.bool (spanB fs (mn))) (A5 _ D0 rfl) (fun w1 hw1 => E3 fs (mn) w1 )) rfl ?_
        show JL _ _ _ _ ((61, .bool (spanB fs (mn))) :: _) [_]
        refine AA _ (AF rfl) rfl ?_
        refine AK (AE (BA (BK (AU (BF [false] ?_)))))
        show JQ _ _ _ _ []
        refine A9 (.bool (spanB fs (mn))) (res1 BC (A7 rfl)) fun w1 hw1 => ?_
        refine ⟨_, [], rfl, ⟨congrArg Value.bool ?_, rfl⟩, hw1.sub (by simp) (by simp)⟩
        unfold reqR
        rw [hlq]
        first | (simp [AZ, *]; done) | (simp [AZ, *] at *; simp [*]; done) | (simp_all [AZ]; done) | (simp_all [AZ]; omega)
       ·
        have hp64 : ¬ ((qk) = (2:Int)) := of_decide_eq_false hb64
        refine AI (AC (AA (.bool (decide ((qk) = (3:Int)))) (AQ rfl rfl fun _ => A4 _ _) rfl ?_))
        refine AA _ (AF rfl) rfl ?_
        refine AK (AE (BT _ rfl hb59 ?_))
        refine BM (BR (AE (AI (AC (AA (Ptr nb1 1) (AB 1 3 1 AJ rfl AT rfl rfl) rfl ?_)))))
        refine AA (I64 (qk)) (AL rfl (AV AX (AY 0 rfl (AH (AH (AG (Seg.head))))))) rfl ?_
        refine AA (.bool (decide ((qk) = (4:Int)))) (AQ rfl rfl fun _ => A4 _ _) rfl ?_
        refine AA _ (AM rfl) rfl ?_
        rcases Bool.eq_false_or_eq_true (decide ((qk) = (4:Int))) with hb65 | hb65
        ·
         have hp65 : (qk) = (4:Int) := of_decide_eq_true hb65
         refine AD 3 71 false _ rfl rfl hb65 rfl ?_
         refine AD 3 71 false _ rfl rfl hb65 rfl ?_
         refine AD 3 71 false _ rfl rfl hb65 rfl ?_
         refine AA _ (BD _ rfl hb65 rfl) rfl ?_
         refine AA _ (AF rfl) rfl ?_
         refine AK (AE (BA (BF [false] ?_)))
         show JQ _ _ _ _ []
         refine A9 (.bool true) (res1 BC (A7 rfl)) fun w1 hw1 => ?_
         refine ⟨_, [], rfl, ⟨congrArg Value.bool ?_, rfl⟩, hw1.sub (by simp) (by simp)⟩
         unfold reqR
         rw [hlq]
         first | (simp [AZ, *]; done) | (simp [AZ, *] at *; simp [*]; done) | (simp_all [AZ]; done) | (simp_all [AZ]; omega)
        ·
         have hp65 : ¬ ((qk) = (4:Int)) := of_decide_eq_false hb65
         refine AN 3 71 false _ (Ptr nb1 1) rfl rfl hb65 (AB 1 3 1 AJ rfl AT rfl rfl) rfl ?_
         refine AN 3 71 false _ (I64 (qk)) rfl rfl hb65 (AL rfl (AV AX (AY 0 rfl (AH (AH (AG (Seg.head))))))) rfl ?_
         refine AN 3 71 false _ (.bool (decide ((qk) = (5:Int)))) rfl rfl hb65 (AQ rfl rfl fun _ => A4 _ _) rfl ?_
         refine AA _ (A0 _ rfl hb65 rfl) rfl ?_
         refine AA _ (AF rfl) rfl ?_
         refine AK (AE (BA (BF [false] ?_)))
         show JQ _ _ _ _ []
         refine A9 (.bool (decide ((qk) = (5:Int)))) (res1 BC (A7 rfl)) fun w1 hw1 => ?_
         refine ⟨_, [], rfl, ⟨congrArg Value.bool ?_, rfl⟩, hw1.sub (by simp) (by simp)⟩
         unfold reqR
         rw [hlq]
         first | (simp [AZ, *]; done) | (simp [AZ, *] at *; simp [*]; done) | (simp_all [AZ]; done) | (simp_all [AZ]; omega)
    ·
     refine AD 35 38 false _ rfl rfl (bnotF hb58) rfl ?_
     refine AD 35 38 false _ rfl rfl (bnotF hb58) rfl ?_
     refine AD 35 38 false _ rfl rfl (bnotF hb58) rfl ?_
     refine AD 35 38 false _ rfl rfl (bnotF hb58) rfl ?_
     refine BW 39 42 true rfl rfl rfl ?_
     refine BW 39 42 true rfl rfl rfl ?_
     refine BW 39 42 true rfl rfl rfl ?_
     refine AD 35 38 false _ rfl rfl (bnotF hb58) rfl ?_
     refine AA _ (BD _ rfl (bnotF hb58) rfl) rfl ?_
     refine AK (AE (B5 _ rfl rfl ?_))
     refine AI (AC (AA _ (AF rfl) rfl ?_))
     refine AK (AE (BA (AU (BF [false] ?_))))
     show JQ _ _ _ _ []
     refine A9 (.bool false) (res1 BC (A7 rfl)) fun w1 hw1 => ?_
     refine ⟨_, [], rfl, ⟨congrArg Value.bool ?_, rfl⟩, hw1.sub (by simp) (by simp)⟩
     unfold reqR
     rw [hlq]
     first | (simp [AZ, *]; done) | (simp [AZ, *] at *; simp [*]; done) | (simp_all [AZ]; done) | (simp_all [AZ]; omega)
   ·
    have hp57 : ¬ ((qk) ≠ (3:Int)) := of_decide_eq_false hb57
    refine AD 28 31 true _ rfl rfl hb57 rfl ?_
    refine AD 28 31 true _ rfl rfl hb57 rfl ?_
    refine AD 28 31 true _ rfl rfl hb57 rfl ?_
    refine AD 28 31 true _ rfl rfl hb57 rfl ?_
    refine AN 24 27 false _ _ rfl rfl rfl (A0 _ rfl hb57 rfl) rfl ?_
    refine AA _ (A0 _ rfl rfl rfl) rfl ?_
    refine AA _ (AM rfl) rfl ?_
    refine AN 35 38 false _ (Ptr nb1 1) rfl rfl rfl (AB 1 3 1 AJ rfl AT rfl rfl) rfl ?_
    refine AN 35 38 false _ (I64 (qk)) rfl rfl rfl (AL rfl (AV AX (AY 0 rfl (AH (AH (AG (Seg.head))))))) rfl ?_
    refine AN 35 38 false _ (.bool (decide ((qk) = (3:Int)))) rfl rfl rfl (AQ rfl rfl fun _ => A4 _ _) rfl ?_
    refine AN 35 38 false _ _ rfl rfl rfl (AM rfl) rfl ?_
    rcases Bool.eq_false_or_eq_true (decide ((qk) = (3:Int))) with hb66 | hb66
    ·
     have hp66 : (qk) = (3:Int) := of_decide_eq_true hb66
     refine AN 39 42 true _ (Ptr nb1 27) rfl rfl hb66 (AB 27 22 1 AJ rfl AP rfl rfl) rfl ?_
     refine AN 39 42 true _ (U64 eq) rfl rfl hb66 (AL rfl (AV AR (AY 0 rfl (Seg.right 27 0 (by simp [htg]) rfl (Seg.head))))) rfl ?_
     refine AN 39 42 true _ (.bool (decide (eq ≠ (0:UInt64)))) rfl rfl hb66 (AQ rfl rfl fun _ => C4 eq (0:UInt64)) rfl ?_
     refine AN 35 38 false _ _ rfl rfl rfl (BD _ rfl hb66 rfl) rfl ?_
     refine AA _ (A0 _ rfl rfl rfl) rfl ?_
     refine AK (AE (BZ (decide (eq ≠ (0:UInt64))) rfl (fun hb67 => ?_) (fun hb67 => ?_)))
     ·
      have hp67 : eq ≠ (0:UInt64) := of_decide_eq_true hb67
      refine AI (AC (AA _ (AF rfl) rfl ?_))
      refine AK (AE (BA (AU (BF [false] ?_))))
      show JQ _ _ _ _ []
      refine A9 (.bool false) (res1 BC (A7 rfl)) fun w1 hw1 => ?_
      refine ⟨_, [], rfl, ⟨congrArg Value.bool ?_, rfl⟩, hw1.sub (by simp) (by simp)⟩
      unfold reqR
      rw [hlq]
      first | (simp [AZ, *]; done) | (simp [AZ, *] at *; simp [*]; done) | (simp_all [AZ]; done) | (simp_all [AZ]; omega)
     ·
      have hp67 : ¬ (eq ≠ (0:UInt64)) := of_decide_eq_false hb67
      refine BM (AE (AI (AI (AC (AA (Ptr nb1 1) (AB 1 3 1 AJ rfl AT rfl rfl) rfl ?_)))))
      refine AA (I64 (qk)) (AL rfl (AV AX (AY 0 rfl (AH (AH (AG (Seg.head))))))) rfl ?_
      refine AK (AE (BY (AI (AC (AA (.bool (decide ((qk) = (1:Int)))) (AQ rfl rfl fun _ => A4 _ _) rfl ?_)))))
      refine AA _ (AF rfl) rfl ?_
      refine AK (AE (BZ (decide ((qk) = (1:Int))) rfl (fun hb68 => ?_) (fun hb68 => ?_)))
      ·
       have hp68 : (qk) = (1:Int) := of_decide_eq_true hb68
       refine AI (AC (AA (Ptr nb1 2) (AB 2 23 1 AJ rfl BI rfl rfl) rfl ?_))
       refine AA (.slice aiq niq ciq) (AL rfl (AV BL (AY 0 rfl (AH (AH (AG (AG (Seg.head)))))))) rfl ?_
       refine BS (A2 79 [I64 32, .slice aiq niq ciq] (.bool (decide (RightI lq))) (A5 _ DY rfl) (fun w1 hw1 => EA aiq niq ciq lq w1 hlq (by omega) (by omega) (by omega) (BP hw1 rfl hvq))) rfl ?_
       show JL _ _ _ _ ((54, .bool (decide (RightI lq))) :: _) [_]
       refine AA _ (AF rfl) rfl ?_
       refine AK (AE (BA (BK (AU (BF [false] ?_)))))
       show JQ _ _ _ _ []
       refine A9 (.bool (decide (RightI lq))) (res1 BC (A7 rfl)) fun w1 hw1 => ?_
       refine ⟨_, [], rfl, ⟨congrArg Value.bool ?_, rfl⟩, hw1.sub (by simp) (by simp)⟩
       unfold reqR
       rw [hlq]
       first | (simp [AZ, *]; done) | (simp [AZ, *] at *; simp [*]; done) | (simp_all [AZ]; done) | (simp_all [AZ]; omega)
      ·
       have hp68 : ¬ ((qk) = (1:Int)) := of_decide_eq_false hb68
       refine AI (AC (AA (.bool (decide ((qk) = (2:Int)))) (AQ rfl rfl fun _ => A4 _ _) rfl ?_))
       refine AA _ (AF rfl) rfl ?_
       refine AK (AE (BZ (decide ((qk) = (2:Int))) rfl (fun hb69 => ?_) (fun hb69 => ?_)))
       ·
        have hp69 : (qk) = (2:Int) := of_decide_eq_true hb69
        refine AI (AC (AA (Ptr nb1 3) (AB 3 22 1 AJ rfl AP rfl rfl) rfl ?_))
        refine AA (U64 fs) (AL rfl (AV AR (AY 0 rfl (AH (AH (AG (AG (AG (Seg.head))))))))) rfl ?_
        refine AA (Ptr nb1 4) (AB 4 3 1 AJ rfl AT rfl rfl) rfl ?_
        refine AA (I64 (mn)) (AL rfl (AV AX (AY 0 rfl (AH (AH (AG (AG (AG (AG (Seg.head)))))))))) rfl ?_
        refine BS (A2 80 [I64 32, U64 fs, I64 (mn)] (.bool (spanB fs (mn))) (A5 _ D0 rfl) (fun w1 hw1 => E3 fs (mn) w1 )) rfl ?_
        show JL _ _ _ _ ((61, .bool (spanB fs (mn))) :: _) [_]
        refine AA _ (AF rfl) rfl ?_
        refine AK (AE (BA (BK (AU (BF [false] ?_)))))
        show JQ _ _ _ _ []
        refine A9 (.bool (spanB fs (mn))) (res1 BC (A7 rfl)) fun w1 hw1 => ?_
        refine ⟨_, [], rfl, ⟨congrArg Value.bool ?_, rfl⟩, hw1.sub (by simp) (by simp)⟩
        unfold reqR
        rw [hlq]
        first | (simp [AZ, *]; done) | (simp [AZ, *] at *; simp [*]; done) | (simp_all [AZ]; done) | (simp_all [AZ]; omega)
       ·
        have hp69 : ¬ ((qk) = (2:Int)) := of_decide_eq_false hb69
        refine AI (AC (AA (.bool (decide ((qk) = (3:Int)))) (AQ rfl rfl fun _ => A4 _ _) rfl ?_))
        refine AA _ (AF rfl) rfl ?_
        refine AK (AE (B5 _ rfl hb66 ?_))
        refine AI (AC (AA (Ptr nb1 5) (AB 5 38 22 AJ rfl CA rfl rfl) rfl ?_))
        refine AA (.agg ([U64 pv, U64 ep, I64 (kd), .slice ai ni ci, .slice sa ns sc, U64 bl] ++ cu8 tg).toArray) (AL rfl (B1 DO CA (by simp [htg]) (AY 0 rfl (CO (p := [U64 sq, I64 (qk), .slice aiq niq ciq, U64 fs, I64 (mn)]) (q := [U64 eq]) (vs := [U64 pv, U64 ep, I64 (kd), .slice ai ni ci, .slice sa ns sc, U64 bl] ++ cu8 tg) (by first | rfl | (simp only [List.append_assoc, List.nil_append, List.append_nil, List.cons_append]; done)) rfl)))) rfl ?_
        refine BS (A2 45 [.agg ([U64 pv, U64 ep, I64 (kd), .slice ai ni ci, .slice sa ns sc, U64 bl] ++ cu8 tg).toArray] (I64 (((mayN pv ep (kd) l ls bl):Int))) (A5 _ Tryd.call45 rfl) (fun w1 hw1 => rmay13_c pv ep (kd) ai ni ci l sa ns sc ls bl tg w1 hl (by omega) (by omega) (by omega) (BP hw1 rfl hv) hls (by omega) (by omega) (by omega) (BP hw1 rfl hs) htg)) rfl ?_
        show JL _ _ _ _ ((66, I64 (((mayN pv ep (kd) l ls bl):Int))) :: _) [_]
        refine AA (.bool (decide ((((mayN pv ep (kd) l ls bl):Int)) = (0:Int)))) (AQ rfl rfl fun _ => A4 _ _) rfl ?_
        refine AA _ (AF rfl) rfl ?_
        refine AK (AE (BA (BK (AU (BF [false] ?_)))))
        show JQ _ _ _ _ []
        refine A9 (.bool (decide ((((mayN pv ep (kd) l ls bl):Int)) = (0:Int)))) (res1 BC (A7 rfl)) fun w1 hw1 => ?_
        refine ⟨_, [], rfl, ⟨congrArg Value.bool ?_, rfl⟩, hw1.sub (by simp) (by simp)⟩
        unfold reqR
        rw [hlq]
        first | (simp [AZ, *]; done) | (simp [AZ, *] at *; simp [*]; done) | (simp_all [AZ]; done) | (simp_all [AZ]; omega)
    ·
     have hp66 : ¬ ((qk) = (3:Int)) := of_decide_eq_false hb66
     refine AD 39 42 true _ rfl rfl hb66 rfl ?_
     refine AD 39 42 true _ rfl rfl hb66 rfl ?_
     refine AD 39 42 true _ rfl rfl hb66 rfl ?_
     refine AN 35 38 false _ _ rfl rfl rfl (A0 _ rfl hb66 rfl) rfl ?_
     refine AA _ (A0 _ rfl rfl rfl) rfl ?_
     refine AK (AE (BT _ rfl rfl ?_))
     refine BM (AE (AI (AI (AC (AA (Ptr nb1 1) (AB 1 3 1 AJ rfl AT rfl rfl) rfl ?_)))))
     refine AA (I64 (qk)) (AL rfl (AV AX (AY 0 rfl (AH (AH (AG (Seg.head))))))) rfl ?_
     refine AK (AE (BY (AI (AC (AA (.bool (decide ((qk) = (1:Int)))) (AQ rfl rfl fun _ => A4 _ _) rfl ?_)))))
     refine AA _ (AF rfl) rfl ?_
     refine AK (AE (BZ (decide ((qk) = (1:Int))) rfl (fun hb70 => ?_) (fun hb70 => ?_)))
     ·
      have hp70 : (qk) = (1:Int) := of_decide_eq_true hb70
      refine AI (AC (AA (Ptr nb1 2) (AB 2 23 1 AJ rfl BI rfl rfl) rfl ?_))
      refine AA (.slice aiq niq ciq) (AL rfl (AV BL (AY 0 rfl (AH (AH (AG (AG (Seg.head)))))))) rfl ?_
      refine BS (A2 79 [I64 32, .slice aiq niq ciq] (.bool (decide (RightI lq))) (A5 _ DY rfl) (fun w1 hw1 => EA aiq niq ciq lq w1 hlq (by omega) (by omega) (by omega) (BP hw1 rfl hvq))) rfl ?_
      show JL _ _ _ _ ((54, .bool (decide (RightI lq))) :: _) [_]
      refine AA _ (AF rfl) rfl ?_
      refine AK (AE (BA (BK (AU (BF [false] ?_)))))
      show JQ _ _ _ _ []
      refine A9 (.bool (decide (RightI lq))) (res1 BC (A7 rfl)) fun w1 hw1 => ?_
      refine ⟨_, [], rfl, ⟨congrArg Value.bool ?_, rfl⟩, hw1.sub (by simp) (by simp)⟩
      unfold reqR
      rw [hlq]
      first | (simp [AZ, *]; done) | (simp [AZ, *] at *; simp [*]; done) | (simp_all [AZ]; done) | (simp_all [AZ]; omega)
     ·
      have hp70 : ¬ ((qk) = (1:Int)) := of_decide_eq_false hb70
      refine AI (AC (AA (.bool (decide ((qk) = (2:Int)))) (AQ rfl rfl fun _ => A4 _ _) rfl ?_))
      refine AA _ (AF rfl) rfl ?_
      refine AK (AE (BZ (decide ((qk) = (2:Int))) rfl (fun hb71 => ?_) (fun hb71 => ?_)))
      ·
       have hp71 : (qk) = (2:Int) := of_decide_eq_true hb71
       refine AI (AC (AA (Ptr nb1 3) (AB 3 22 1 AJ rfl AP rfl rfl) rfl ?_))
       refine AA (U64 fs) (AL rfl (AV AR (AY 0 rfl (AH (AH (AG (AG (AG (Seg.head))))))))) rfl ?_
       refine AA (Ptr nb1 4) (AB 4 3 1 AJ rfl AT rfl rfl) rfl ?_
       refine AA (I64 (mn)) (AL rfl (AV AX (AY 0 rfl (AH (AH (AG (AG (AG (AG (Seg.head)))))))))) rfl ?_
       refine BS (A2 80 [I64 32, U64 fs, I64 (mn)] (.bool (spanB fs (mn))) (A5 _ D0 rfl) (fun w1 hw1 => E3 fs (mn) w1 )) rfl ?_
       show JL _ _ _ _ ((61, .bool (spanB fs (mn))) :: _) [_]
       refine AA _ (AF rfl) rfl ?_
       refine AK (AE (BA (BK (AU (BF [false] ?_)))))
       show JQ _ _ _ _ []
       refine A9 (.bool (spanB fs (mn))) (res1 BC (A7 rfl)) fun w1 hw1 => ?_
       refine ⟨_, [], rfl, ⟨congrArg Value.bool ?_, rfl⟩, hw1.sub (by simp) (by simp)⟩
       unfold reqR
       rw [hlq]
       first | (simp [AZ, *]; done) | (simp [AZ, *] at *; simp [*]; done) | (simp_all [AZ]; done) | (simp_all [AZ]; omega)
      ·
       have hp71 : ¬ ((qk) = (2:Int)) := of_decide_eq_false hb71
       refine AI (AC (AA (.bool (decide ((qk) = (3:Int)))) (AQ rfl rfl fun _ => A4 _ _) rfl ?_))
       refine AA _ (AF rfl) rfl ?_
       refine AK (AE (BT _ rfl hb66 ?_))
       refine BM (BR (AE (AI (AC (AA (Ptr nb1 1) (AB 1 3 1 AJ rfl AT rfl rfl) rfl ?_)))))
       refine AA (I64 (qk)) (AL rfl (AV AX (AY 0 rfl (AH (AH (AG (Seg.head))))))) rfl ?_
       refine AA (.bool (decide ((qk) = (4:Int)))) (AQ rfl rfl fun _ => A4 _ _) rfl ?_
       refine AA _ (AM rfl) rfl ?_
       rcases Bool.eq_false_or_eq_true (decide ((qk) = (4:Int))) with hb72 | hb72
       ·
        have hp72 : (qk) = (4:Int) := of_decide_eq_true hb72
        refine AD 3 71 false _ rfl rfl hb72 rfl ?_
        refine AD 3 71 false _ rfl rfl hb72 rfl ?_
        refine AD 3 71 false _ rfl rfl hb72 rfl ?_
        refine AA _ (BD _ rfl hb72 rfl) rfl ?_
        refine AA _ (AF rfl) rfl ?_
        refine AK (AE (BA (BF [false] ?_)))
        show JQ _ _ _ _ []
        refine A9 (.bool true) (res1 BC (A7 rfl)) fun w1 hw1 => ?_
        refine ⟨_, [], rfl, ⟨congrArg Value.bool ?_, rfl⟩, hw1.sub (by simp) (by simp)⟩
        unfold reqR
        rw [hlq]
        first | (simp [AZ, *]; done) | (simp [AZ, *] at *; simp [*]; done) | (simp_all [AZ]; done) | (simp_all [AZ]; omega)
       ·
        have hp72 : ¬ ((qk) = (4:Int)) := of_decide_eq_false hb72
        refine AN 3 71 false _ (Ptr nb1 1) rfl rfl hb72 (AB 1 3 1 AJ rfl AT rfl rfl) rfl ?_
        refine AN 3 71 false _ (I64 (qk)) rfl rfl hb72 (AL rfl (AV AX (AY 0 rfl (AH (AH (AG (Seg.head))))))) rfl ?_
        refine AN 3 71 false _ (.bool (decide ((qk) = (5:Int)))) rfl rfl hb72 (AQ rfl rfl fun _ => A4 _ _) rfl ?_
        refine AA _ (A0 _ rfl hb72 rfl) rfl ?_
        refine AA _ (AF rfl) rfl ?_
        refine AK (AE (BA (BF [false] ?_)))
        show JQ _ _ _ _ []
        refine A9 (.bool (decide ((qk) = (5:Int)))) (res1 BC (A7 rfl)) fun w1 hw1 => ?_
        refine ⟨_, [], rfl, ⟨congrArg Value.bool ?_, rfl⟩, hw1.sub (by simp) (by simp)⟩
        unfold reqR
        rw [hlq]
        first | (simp [AZ, *]; done) | (simp [AZ, *] at *; simp [*]; done) | (simp_all [AZ]; done) | (simp_all [AZ]; omega)
end Go.Proofs.YtkdpdgpphpngeaaDoor
