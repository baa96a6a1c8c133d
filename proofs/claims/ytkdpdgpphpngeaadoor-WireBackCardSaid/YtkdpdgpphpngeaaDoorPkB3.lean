import Derived.Test.YtkdpdgpphpngeaaDoorPkB2
set_option linter.unusedVariables false
set_option linter.unusedSimpArgs false
set_option maxRecDepth 100000
namespace Go.Proofs.YtkdpdgpphpngeaaDoor
open Go Go.Sx
open Go.Value renaming slice → SL
attribute [local irreducible] mid zr8 numK valK constL initL putL RightB tktT mayN idxT selT blankB spanB reqR
theorem sp_n {fs : UInt64} {mn : Int} {b : Bool} (h : (decide ((0:UInt64) < fs) || decide (mn ≠ (0:Int))) = b) : (decide (fs = 0) && decide (mn = 0)) = !b := by
  rw [← h]
  by_cases h1 : fs = 0
  · subst h1; by_cases h2 : mn = 0 <;> simp [h2]
  · simp [h1, UInt64.pos_iff_ne_zero.2 h1]
theorem iq_n {lq : List UInt64} {n : Nat} {b : Bool} (hl : lq.length = n) (h : decide ((0:Int) < (n:Int)) = b) : decide (lq.length = 0) = !b := by
  rw [hl]; cases b
  · have := of_decide_eq_false h; exact decide_eq_true (by omega)
  · have := of_decide_eq_true h; exact decide_eq_false (by omega)
theorem pe_n {eq : UInt64} {b : Bool} (h : decide ((0:UInt64) < eq) = b) : decide (eq = 0) = !b := by
  rw [← h]; by_cases h1 : eq = 0
  · subst h1; simp
  · simp [h1, UInt64.pos_iff_ne_zero.2 h1]
set_option maxHeartbeats 4000000 in
theorem FP (sq : UInt64) (qk : Int) (aiq : Option Addr) (niq ciq : Nat) (lq : List UInt64) (fs : UInt64) (mn : Int) (pv ep : UInt64) (kd : Int) (ai : Option Addr) (ni ci : Nat) (l : List UInt64) (sa : Option Addr) (ns sc : Nat) (ls : List SealR) (bl : UInt64) (tg : List UInt8) (eq : UInt64)  (w : World) (hlq : lq.length = niq) (hnmq : niq ≤ 2000000) (hncq : niq ≤ ciq) (hcmq : ciq ≤ maxLen) (hvq : RdV w aiq (cu64 lq)) (hl : l.length = ni) (hnm : ni ≤ 2000000) (hnc : ni ≤ ci) (hcm : ci ≤ maxLen) (hv : RdV w ai (cu64 l)) (hls : ls.length = ns) (hnn : ns ≤ 2000000) (hnd : ns ≤ sc) (hcn : sc ≤ maxLen) (hs : RdV w sa (ls.flatMap sealC)) (htg : tg.length = 16) (hbi : ni ≤ 300) (hbs : ns ≤ 300)  : Calls Tryd.prog 22 #[.agg (V1 sq (qk) aiq niq ciq fs (mn) pv ep (kd) ai ni ci sa ns sc bl tg eq).toArray] w (Post w [] (fun v L => v = .bool (reqR qk lq fs mn eq (blankB pv ep kd l ls bl tg) (decide (mayN pv ep kd l ls bl = 0))) ∧ L = [])) := by
 have hmx : maxLen = 9223372036854775807 := rfl
 refine enter (P := Tryd.prog) (f := 22) (fn := Tryd.f22) w [] 86 [] [.agg (V1 sq (qk) aiq niq ciq fs (mn) pv ep (kd) ai ni ci sa ns sc bl tg eq).toArray] Tryd.func22 rfl rfl (by simp) (BZ (by simp) (by simp) (by simp)) ?_
 show JC _ _ _ [(0, .agg (V1 sq (qk) aiq niq ciq fs (mn) pv ep (kd) ai ni ci sa ns sc bl tg eq).toArray)] _
 refine AF (AC (A2 (CN (.agg (V1 sq (qk) aiq niq ciq fs (mn) pv ep (kd) ai ni ci sa ns sc bl tg eq).toArray) (V1 sq (qk) aiq niq ciq fs (mn) pv ep (kd) ai ni ci sa ns sc bl tg eq) rfl (by first | rfl | simp)) rfl ?_))
 rintro v1 L1 ⟨nb1, hnb1, rfl, rfl⟩
 show JL _ _ _ _ (_ :: _) [_]
 refine AA _ (AE rfl) rfl ?_
 refine AJ (AD (AF (F9 (ι := Unit) (fun _ => [(1, Ptr nb1 0), (2, .bool false), (3, .bool (decide ((0:Int) < (niq:Int)))), (4, .bool (decide ((0:UInt64) < fs) || decide (mn ≠ (0:Int)))), (5, .bool (!(blankB pv ep kd l ls bl tg))), (6, .bool (decide ((0:UInt64) < eq)))]) (fun _ => [(Ez nb1 (V1 sq (qk) aiq niq ciq fs (mn) pv ep (kd) ai ni ci sa ns sc bl tg eq) 31)]) (fun _ => True) ?_ ?_)))
 ·
  rcases Bool.eq_false_or_eq_true (decide ((0:UInt64) < fs)) with hb1 | hb1
  ·
   have hp1 : (0:UInt64) < fs := of_decide_eq_true hb1
   refine DB 86 2 [(0, Ptr nb1 2), (1, SL aiq niq ciq), (2, I64 niq), (3, .bool (decide ((0:Int) < ((niq:Int))))), (4, Ptr nb1 3), (5, U64 fs), (6, .bool (decide ((0:UInt64) < fs))), (7, .bool (decide ((0:UInt64) < fs))), (8, undef), (9, undef), (10, undef), (11, .bool true), (12, Ptr nb1 5), (13, .agg (V2 pv ep (kd) ai ni ci sa ns sc bl tg).toArray), (16, Ptr nb1 27), (17, U64 eq), (18, .bool (decide ((0:UInt64) < eq)))] B6 rfl (by decide +kernel) ?_
   refine C2 ⟨[], [0, 1, 2, 3, 4, 5, 6, 7, 8, 9, 10, 11, 12, 13, 16, 17, 18], [], [0, 1, 2, 3, 4, 5, 6, 7, 8, 9, 10, 11, 12, 13, 16, 17, 18], [14]⟩ 14 _ rfl rfl (by decide +kernel) rfl ⟨AP rfl rfl (AB 2 23 1 AS rfl BV rfl rfl), AP rfl rfl (AL rfl (AX B4 (AR 0 rfl (AI (AI (AH (AH (Seg.head)))))))), AP rfl rfl (DA BL rfl), AP rfl rfl (AT rfl rfl fun _ => DJ _ _), AP rfl rfl (AB 3 22 1 AS rfl A1 rfl rfl), AP rfl rfl (AL rfl (AX A8 (AR 0 rfl (AI (AI (AH (AH (AH (Seg.head))))))))), AP rfl rfl (AT rfl rfl fun _ => bin_gtr_u64 fs (0:UInt64)), CB rfl rfl rfl, ⟨_, rfl, D0 7 14 false _ rfl rfl rfl hb1⟩, ⟨_, rfl, D0 7 14 false _ rfl rfl rfl hb1⟩, ⟨_, rfl, D0 7 14 false _ rfl rfl rfl hb1⟩, AP rfl rfl (BA _ rfl hb1 rfl), AP rfl rfl (AB 5 29 22 AS rfl BB rfl rfl), AP rfl rfl (AL rfl (BR CA BB (by simp [htg]) (AR 0 rfl (DL (p := [U64 sq, I64 (qk), SL aiq niq ciq, U64 fs, I64 (mn)]) (q := [U64 eq]) (vs := (V2 pv ep (kd) ai ni ci sa ns sc bl tg)) (by first | rfl | (simp only [List.append_assoc, List.nil_append, List.append_nil, List.cons_append]; done)) rfl)))), AP rfl rfl (AB 27 22 1 AS rfl A1 rfl rfl), AP rfl rfl (AL rfl (AX A8 (AR 0 rfl (Seg.right 27 0 (by simp [htg]) rfl (Seg.head))))), AP rfl rfl (AT rfl rfl fun _ => bin_gtr_u64 eq (0:UInt64)), trivial⟩ rfl (BO rfl (A3 84 _ (.bool (blankB pv ep (kd) l ls bl tg)) (AV _ Tryd.call84 rfl) (fun w1 hw1 => blank_c pv ep (kd) ai ni ci l sa ns sc ls bl tg w1 hl (by omega) (by omega) (by omega) (CF hw1 rfl hv) hls (by omega) (by omega) (by omega) (CF hw1 rfl hs) htg))) ?_
   rintro v1 L1 ⟨rfl, rfl⟩
   refine ⟨[(15, .bool (!(blankB pv ep (kd) l ls bl tg))), (19, .bool (decide ((0:Int) < ((niq:Int))))), (20, .bool true), (21, .bool (!(blankB pv ep (kd) l ls bl tg))), (22, .bool (decide ((0:UInt64) < eq)))], ?_⟩
   show DP _ _ _ _ _ _ _ _ [_]
   refine DR ⟨[14], [0, 1, 2, 3, 4, 5, 6, 7, 8, 9, 10, 11, 12, 13, 15, 16, 17, 18, 19, 20, 21, 22], [4, 5, 6, 7, 12, 13], [0, 1, 2, 3, 8, 9, 10, 11, 15, 16, 17, 18, 19, 20, 21, 22], []⟩ rfl rfl (by decide +kernel) rfl ⟨AP rfl rfl (AB 2 23 1 AS rfl BV rfl rfl), AP rfl rfl (AL rfl (AX B4 (AR 0 rfl (AI (AI (AH (AH (Seg.head)))))))), AP rfl rfl (DA BL rfl), AP rfl rfl (AT rfl rfl fun _ => DJ _ _), ⟨_, rfl, D0 7 14 false _ rfl rfl rfl hb1⟩, ⟨_, rfl, D0 7 14 false _ rfl rfl rfl hb1⟩, ⟨_, rfl, D0 7 14 false _ rfl rfl rfl hb1⟩, AP rfl rfl (BA _ rfl hb1 rfl), AP rfl rfl (D1 rfl), AP rfl rfl (AB 27 22 1 AS rfl A1 rfl rfl), AP rfl rfl (AL rfl (AX A8 (AR 0 rfl (Seg.right 27 0 (by simp [htg]) rfl (Seg.head))))), AP rfl rfl (AT rfl rfl fun _ => bin_gtr_u64 eq (0:UInt64)), AP rfl rfl (AE rfl), AP rfl rfl (AE rfl), AP rfl rfl (AE rfl), AP rfl rfl (AE rfl), trivial⟩ ?_
   refine C5 (F' := [(3, .bool (decide ((0:Int) < ((niq:Int))))), (4, .bool true), (5, .bool (!(blankB pv ep (kd) l ls bl tg))), (6, .bool (decide ((0:UInt64) < eq))), (1, Ptr nb1 0), (2, .bool false)]) (by kernel_rfl) ?_
   refine D9 (()) trivial (Sub.cons rfl (Sub.cons rfl (Sub.cons rfl (Sub.cons (congrArg (fun b => some (Value.bool b)) (by simp only [hb1, Bool.true_and, Bool.false_and, Bool.true_or, Bool.false_or, Bool.or_false, Bool.and_false, Bool.not_true, Bool.not_false] <;> rfl : (true) = (decide ((0:UInt64) < fs) || decide (mn ≠ (0:Int))))) (Sub.all rfl))))) rfl
  ·
   have hp1 : ¬ ((0:UInt64) < fs) := of_decide_eq_false hb1
   refine DB 86 2 [(0, Ptr nb1 2), (1, SL aiq niq ciq), (2, I64 niq), (3, .bool (decide ((0:Int) < ((niq:Int))))), (4, Ptr nb1 3), (5, U64 fs), (6, .bool (decide ((0:UInt64) < fs))), (7, .bool (decide ((0:UInt64) < fs))), (8, Ptr nb1 4), (9, I64 (mn)), (10, .bool (decide ((mn) ≠ (0:Int)))), (11, .bool (decide ((mn) ≠ (0:Int)))), (12, Ptr nb1 5), (13, .agg (V2 pv ep (kd) ai ni ci sa ns sc bl tg).toArray), (16, Ptr nb1 27), (17, U64 eq), (18, .bool (decide ((0:UInt64) < eq)))] B6 rfl (by decide +kernel) ?_
   refine C2 ⟨[], [0, 1, 2, 3, 4, 5, 6, 7, 8, 9, 10, 11, 12, 13, 16, 17, 18], [], [0, 1, 2, 3, 4, 5, 6, 7, 8, 9, 10, 11, 12, 13, 16, 17, 18], [14]⟩ 14 _ rfl rfl (by decide +kernel) rfl ⟨AP rfl rfl (AB 2 23 1 AS rfl BV rfl rfl), AP rfl rfl (AL rfl (AX B4 (AR 0 rfl (AI (AI (AH (AH (Seg.head)))))))), AP rfl rfl (DA BL rfl), AP rfl rfl (AT rfl rfl fun _ => DJ _ _), AP rfl rfl (AB 3 22 1 AS rfl A1 rfl rfl), AP rfl rfl (AL rfl (AX A8 (AR 0 rfl (AI (AI (AH (AH (AH (Seg.head))))))))), AP rfl rfl (AT rfl rfl fun _ => bin_gtr_u64 fs (0:UInt64)), CB rfl rfl rfl, ⟨_, rfl, C8 7 14 false _ rfl rfl rfl hb1 (AB 4 3 1 AS rfl AW rfl rfl)⟩, ⟨_, rfl, C8 7 14 false _ rfl rfl rfl hb1 (AL rfl (AX A0 (AR 0 rfl (AI (AI (AH (AH (AH (AH (Seg.head))))))))))⟩, ⟨_, rfl, C8 7 14 false _ rfl rfl rfl hb1 (AT rfl rfl fun _ => E8 _ _)⟩, AP rfl rfl (A5 _ rfl hb1 rfl), AP rfl rfl (AB 5 29 22 AS rfl BB rfl rfl), AP rfl rfl (AL rfl (BR CA BB (by simp [htg]) (AR 0 rfl (DL (p := [U64 sq, I64 (qk), SL aiq niq ciq, U64 fs, I64 (mn)]) (q := [U64 eq]) (vs := (V2 pv ep (kd) ai ni ci sa ns sc bl tg)) (by first | rfl | (simp only [List.append_assoc, List.nil_append, List.append_nil, List.cons_append]; done)) rfl)))), AP rfl rfl (AB 27 22 1 AS rfl A1 rfl rfl), AP rfl rfl (AL rfl (AX A8 (AR 0 rfl (Seg.right 27 0 (by simp [htg]) rfl (Seg.head))))), AP rfl rfl (AT rfl rfl fun _ => bin_gtr_u64 eq (0:UInt64)), trivial⟩ rfl (BO rfl (A3 84 _ (.bool (blankB pv ep (kd) l ls bl tg)) (AV _ Tryd.call84 rfl) (fun w1 hw1 => blank_c pv ep (kd) ai ni ci l sa ns sc ls bl tg w1 hl (by omega) (by omega) (by omega) (CF hw1 rfl hv) hls (by omega) (by omega) (by omega) (CF hw1 rfl hs) htg))) ?_
   rintro v1 L1 ⟨rfl, rfl⟩
   refine ⟨[(15, .bool (!(blankB pv ep (kd) l ls bl tg))), (19, .bool (decide ((0:Int) < ((niq:Int))))), (20, .bool (decide ((mn) ≠ (0:Int)))), (21, .bool (!(blankB pv ep (kd) l ls bl tg))), (22, .bool (decide ((0:UInt64) < eq)))], ?_⟩
   show DP _ _ _ _ _ _ _ _ [_]
   refine DR ⟨[14], [0, 1, 2, 3, 4, 5, 6, 7, 8, 9, 10, 11, 12, 13, 15, 16, 17, 18, 19, 20, 21, 22], [4, 5, 6, 7, 12, 13], [0, 1, 2, 3, 8, 9, 10, 11, 15, 16, 17, 18, 19, 20, 21, 22], []⟩ rfl rfl (by decide +kernel) rfl ⟨AP rfl rfl (AB 2 23 1 AS rfl BV rfl rfl), AP rfl rfl (AL rfl (AX B4 (AR 0 rfl (AI (AI (AH (AH (Seg.head)))))))), AP rfl rfl (DA BL rfl), AP rfl rfl (AT rfl rfl fun _ => DJ _ _), ⟨_, rfl, C8 7 14 false _ rfl rfl rfl hb1 (AB 4 3 1 AS rfl AW rfl rfl)⟩, ⟨_, rfl, C8 7 14 false _ rfl rfl rfl hb1 (AL rfl (AX A0 (AR 0 rfl (AI (AI (AH (AH (AH (AH (Seg.head))))))))))⟩, ⟨_, rfl, C8 7 14 false _ rfl rfl rfl hb1 (AT rfl rfl fun _ => E8 _ _)⟩, AP rfl rfl (A5 _ rfl hb1 rfl), AP rfl rfl (D1 rfl), AP rfl rfl (AB 27 22 1 AS rfl A1 rfl rfl), AP rfl rfl (AL rfl (AX A8 (AR 0 rfl (Seg.right 27 0 (by simp [htg]) rfl (Seg.head))))), AP rfl rfl (AT rfl rfl fun _ => bin_gtr_u64 eq (0:UInt64)), AP rfl rfl (AE rfl), AP rfl rfl (AE rfl), AP rfl rfl (AE rfl), AP rfl rfl (AE rfl), trivial⟩ ?_
   refine C5 (F' := [(3, .bool (decide ((0:Int) < ((niq:Int))))), (4, .bool (decide ((mn) ≠ (0:Int)))), (5, .bool (!(blankB pv ep (kd) l ls bl tg))), (6, .bool (decide ((0:UInt64) < eq))), (1, Ptr nb1 0), (2, .bool false)]) (by kernel_rfl) ?_
   refine D9 (()) trivial (Sub.cons rfl (Sub.cons rfl (Sub.cons rfl (Sub.cons (congrArg (fun b => some (Value.bool b)) (by simp only [hb1, Bool.true_and, Bool.false_and, Bool.true_or, Bool.false_or, Bool.or_false, Bool.and_false, Bool.not_true, Bool.not_false] <;> rfl : (decide ((mn) ≠ (0:Int))) = (decide ((0:UInt64) < fs) || decide (mn ≠ (0:Int))))) (Sub.all rfl))))) rfl
 ·
  rintro _ hx
  obtain _ := hx
  show JQ _ _ _ [_, _, _, _, _, _] [_]
  refine AD (AF (AF (AC (AA (Ptr nb1 1) (AB 1 3 1 AS rfl AW rfl rfl) rfl ?_))))
  refine AA _ (AL rfl (AX A0 (AR 0 rfl (AI (AI (AH (Seg.head))))))) rfl ?_
  refine AJ (AD (B5 (AF (AC (AA (.bool (decide ((qk) = (1:Int)))) (AT rfl rfl fun _ => BP _ _) rfl ?_)))))
  refine AA _ (AE rfl) rfl ?_
  refine AJ (AD (CC (decide ((qk) = (1:Int))) rfl (fun hb2 => ?_) (fun hb2 => ?_)))
  ·
   have hp2 : (qk) = (1:Int) := of_decide_eq_true hb2
   refine AF (AC (AA _ (AG rfl) rfl ?_))
   refine AA (.bool (!(decide ((0:UInt64) < fs) || decide (mn ≠ (0:Int))))) (D1 rfl) rfl (AA _ (AG rfl) rfl ?_)
   rcases Bool.eq_false_or_eq_true (decide ((0:UInt64) < fs) || decide (mn ≠ (0:Int))) with hb3 | hb3
   ·
    refine A9 2 2 32 true _ rfl rfl (bnotT hb3) rfl (AA _ (A5 _ rfl (bnotT hb3) rfl) rfl ?_)
    refine AA _ (AG rfl) rfl ?_
    refine A9 3 6 36 true _ rfl rfl rfl rfl (AA _ (A5 _ rfl rfl rfl) rfl ?_)
    refine AA _ (AE rfl) rfl ?_
    refine AJ (AD (BK (CS (A6 (CD [false] ?_)))))
    show JQ _ _ _ _ []
    refine BJ (.bool false) (res1 D8 (BF rfl)) fun w1 hw1 => ?_
    refine ⟨_, [], rfl, ⟨congrArg Value.bool ?_, rfl⟩, hw1.no⟩
    have hk9 : qk = 1 := of_decide_eq_true hb2
    subst hk9
    unfold reqR
    rw [if_pos rfl, sp_n hb3] <;> (first | rfl | (rw [Bool.not_not]; rfl))
   ·
    refine AM 2 32 true _ _ rfl rfl (bnotF hb3) (AG rfl) rfl ?_
    refine AM 2 32 true _ (.bool (!(!(blankB pv ep kd l ls bl tg)))) rfl rfl (bnotF hb3) (D1 rfl) rfl (AA _ (BA _ rfl (bnotF hb3) rfl) rfl ?_)
    refine AA _ (AG rfl) rfl ?_
    rcases Bool.eq_false_or_eq_true (blankB pv ep kd l ls bl tg) with hb4 | hb4
    ·
     refine AM 6 36 true _ (Ptr nb1 2) rfl rfl (bnotF (bnotT hb4)) (AB 2 23 1 AS rfl BV rfl rfl) rfl ?_
     refine AM 6 36 true _ (SL aiq niq ciq) rfl rfl (bnotF (bnotT hb4)) (AL rfl (AX B4 (AR 0 rfl (AI (AI (AH (AH (Seg.head)))))))) rfl ?_
     refine DC 6 36 true _ rfl rfl (bnotF (bnotT hb4)) (A3 85 _ (.bool (decide (RightI lq))) (AV _ Tryd.call85 rfl) (fun w1 hw1 => pright_c aiq niq ciq lq w1 hlq (by omega) (by omega) (by omega) (CF hw1 rfl hvq))) rfl ?_
     rintro v1 L1 ⟨rfl, rfl⟩
     show JL _ _ _ _ ((39, .bool (decide (RightI lq))) :: _) [_]
     refine AA _ (BA _ rfl (bnotF (bnotT hb4)) rfl) rfl (AA _ (AE rfl) rfl ?_)
     refine AJ (AD (BK (CS (A6 (CD [false] ?_)))))
     show JQ _ _ _ _ []
     refine BJ (.bool (decide (RightI lq))) (res1 D8 (BF rfl)) fun w1 hw1 => ?_
     refine ⟨_, [], rfl, ⟨congrArg Value.bool ?_, rfl⟩, hw1.no⟩
     have hk9 : qk = 1 := of_decide_eq_true hb2
     subst hk9
     unfold reqR
     rw [if_pos rfl, sp_n hb3, hb4] <;> (first | rfl | (rw [Bool.not_not]; rfl))
    ·
     refine A9 3 6 36 true _ rfl rfl (bnotT (bnotF hb4)) rfl (AA _ (A5 _ rfl (bnotT (bnotF hb4)) rfl) rfl ?_)
     refine AA _ (AE rfl) rfl ?_
     refine AJ (AD (BK (CS (A6 (CD [false] ?_)))))
     show JQ _ _ _ _ []
     refine BJ (.bool false) (res1 D8 (BF rfl)) fun w1 hw1 => ?_
     refine ⟨_, [], rfl, ⟨congrArg Value.bool ?_, rfl⟩, hw1.no⟩
     have hk9 : qk = 1 := of_decide_eq_true hb2
     subst hk9
     unfold reqR
     rw [if_pos rfl, sp_n hb3, hb4] <;> (first | rfl | (rw [Bool.not_not]; rfl))
  ·
   have hp2 : ¬ ((qk) = (1:Int)) := of_decide_eq_false hb2
   refine AF (AC (AA (.bool (decide ((qk) = (2:Int)))) (AT rfl rfl fun _ => BP _ _) rfl ?_))
   refine AA _ (AE rfl) rfl ?_
   refine AJ (AD (CC (decide ((qk) = (2:Int))) rfl (fun hb5 => ?_) (fun hb5 => ?_)))
   ·
    have hp5 : (qk) = (2:Int) := of_decide_eq_true hb5
    refine AF (AC (AA _ (AG rfl) rfl ?_))
    refine AA (.bool (!(decide ((0:Int) < (niq:Int))))) (D1 rfl) rfl (AA _ (AG rfl) rfl ?_)
    rcases Bool.eq_false_or_eq_true (decide ((0:Int) < (niq:Int))) with hb6 | hb6
    ·
     have hp6 : (0:Int) < (niq:Int) := of_decide_eq_true hb6
     refine A9 2 2 45 true _ rfl rfl (bnotT hb6) rfl (AA _ (A5 _ rfl (bnotT hb6) rfl) rfl ?_)
     refine AA _ (AG rfl) rfl ?_
     refine A9 5 6 49 true _ rfl rfl rfl rfl (AA _ (A5 _ rfl rfl rfl) rfl ?_)
     refine AA _ (AE rfl) rfl ?_
     refine AJ (AD (BK (CS (A6 (CD [false] ?_)))))
     show JQ _ _ _ _ []
     refine BJ (.bool false) (res1 D8 (BF rfl)) fun w1 hw1 => ?_
     refine ⟨_, [], rfl, ⟨congrArg Value.bool ?_, rfl⟩, hw1.no⟩
     have hk9 : qk = 2 := of_decide_eq_true hb5
     subst hk9
     unfold reqR
     rw [if_neg (by decide), if_pos rfl, iq_n hlq hb6] <;> (first | rfl | (rw [Bool.not_not]; rfl))
    ·
     have hp6 : ¬ ((0:Int) < (niq:Int)) := of_decide_eq_false hb6
     refine AM 2 45 true _ _ rfl rfl (bnotF hb6) (AG rfl) rfl ?_
     refine AM 2 45 true _ (.bool (!(!(blankB pv ep kd l ls bl tg)))) rfl rfl (bnotF hb6) (D1 rfl) rfl (AA _ (BA _ rfl (bnotF hb6) rfl) rfl ?_)
     refine AA _ (AG rfl) rfl ?_
     rcases Bool.eq_false_or_eq_true (blankB pv ep kd l ls bl tg) with hb7 | hb7
     ·
      refine AM 6 49 true _ (Ptr nb1 3) rfl rfl (bnotF (bnotT hb7)) (AB 3 22 1 AS rfl A1 rfl rfl) rfl ?_
      refine AM 6 49 true _ (U64 fs) rfl rfl (bnotF (bnotT hb7)) (AL rfl (AX A8 (AR 0 rfl (AI (AI (AH (AH (AH (Seg.head))))))))) rfl ?_
      refine AM 6 49 true _ (Ptr nb1 4) rfl rfl (bnotF (bnotT hb7)) (AB 4 3 1 AS rfl AW rfl rfl) rfl ?_
      refine AM 6 49 true _ (I64 (mn)) rfl rfl (bnotF (bnotT hb7)) (AL rfl (AX A0 (AR 0 rfl (AI (AI (AH (AH (AH (AH (Seg.head)))))))))) rfl ?_
      refine DC 6 49 true _ rfl rfl (bnotF (bnotT hb7)) (A3 86 _ (.bool (spanB fs (mn))) (AV _ Tryd.call86 rfl) (fun w1 hw1 => span_w fs (mn) w1 )) rfl ?_
      rintro v1 L1 ⟨rfl, rfl⟩
      show JL _ _ _ _ ((54, .bool (spanB fs (mn))) :: _) [_]
      refine AA _ (BA _ rfl (bnotF (bnotT hb7)) rfl) rfl (AA _ (AE rfl) rfl ?_)
      refine AJ (AD (BK (CS (A6 (CD [false] ?_)))))
      show JQ _ _ _ _ []
      refine BJ (.bool (spanB fs (mn))) (res1 D8 (BF rfl)) fun w1 hw1 => ?_
      refine ⟨_, [], rfl, ⟨congrArg Value.bool ?_, rfl⟩, hw1.no⟩
      have hk9 : qk = 2 := of_decide_eq_true hb5
      subst hk9
      unfold reqR
      rw [if_neg (by decide), if_pos rfl, iq_n hlq hb6, hb7] <;> (first | rfl | (rw [Bool.not_not]; rfl))
     ·
      refine A9 5 6 49 true _ rfl rfl (bnotT (bnotF hb7)) rfl (AA _ (A5 _ rfl (bnotT (bnotF hb7)) rfl) rfl ?_)
      refine AA _ (AE rfl) rfl ?_
      refine AJ (AD (BK (CS (A6 (CD [false] ?_)))))
      show JQ _ _ _ _ []
      refine BJ (.bool false) (res1 D8 (BF rfl)) fun w1 hw1 => ?_
      refine ⟨_, [], rfl, ⟨congrArg Value.bool ?_, rfl⟩, hw1.no⟩
      have hk9 : qk = 2 := of_decide_eq_true hb5
      subst hk9
      unfold reqR
      rw [if_neg (by decide), if_pos rfl, iq_n hlq hb6, hb7] <;> (first | rfl | (rw [Bool.not_not]; rfl))
   ·
    have hp5 : ¬ ((qk) = (2:Int)) := of_decide_eq_false hb5
    refine AF (AC (AA (.bool (decide ((qk) = (3:Int)))) (AT rfl rfl fun _ => BP _ _) rfl ?_))
    refine AA _ (AE rfl) rfl ?_
    refine AJ (AD (CC (decide ((qk) = (3:Int))) rfl (fun hb8 => ?_) (fun hb8 => ?_)))
    ·
     have hp8 : (qk) = (3:Int) := of_decide_eq_true hb8
     refine AF (AC (AA _ (AG rfl) rfl ?_))
     refine AA (.bool (!(decide ((0:Int) < (niq:Int))))) (D1 rfl) rfl (AA _ (AG rfl) rfl ?_)
     rcases Bool.eq_false_or_eq_true (decide ((0:Int) < (niq:Int))) with hb9 | hb9
     ·
      have hp9 : (0:Int) < (niq:Int) := of_decide_eq_true hb9
      refine A9 2 2 60 true _ rfl rfl (bnotT hb9) rfl (AA _ (A5 _ rfl (bnotT hb9) rfl) rfl ?_)
      refine AA _ (AG rfl) rfl ?_
      refine A9 2 6 64 true _ rfl rfl rfl rfl (AA _ (A5 _ rfl rfl rfl) rfl ?_)
      refine AA _ (AG rfl) rfl ?_
      refine A9 3 10 68 true _ rfl rfl rfl rfl (AA _ (A5 _ rfl rfl rfl) rfl ?_)
      refine AA _ (AE rfl) rfl ?_
      refine AJ (AD (BK (CS (A6 (CD [false] ?_)))))
      show JQ _ _ _ _ []
      refine BJ (.bool false) (res1 D8 (BF rfl)) fun w1 hw1 => ?_
      refine ⟨_, [], rfl, ⟨congrArg Value.bool ?_, rfl⟩, hw1.no⟩
      have hk9 : qk = 3 := of_decide_eq_true hb8
      subst hk9
      unfold reqR
      rw [if_neg (by decide), if_neg (by decide), if_pos rfl, iq_n hlq hb9] <;> (first | rfl | (rw [Bool.not_not]; rfl))
     ·
      have hp9 : ¬ ((0:Int) < (niq:Int)) := of_decide_eq_false hb9
      refine AM 2 60 true _ _ rfl rfl (bnotF hb9) (AG rfl) rfl ?_
      refine AM 2 60 true _ (.bool (!(decide ((0:UInt64) < fs) || decide (mn ≠ (0:Int))))) rfl rfl (bnotF hb9) (D1 rfl) rfl (AA _ (BA _ rfl (bnotF hb9) rfl) rfl ?_)
      refine AA _ (AG rfl) rfl ?_
      rcases Bool.eq_false_or_eq_true (decide ((0:UInt64) < fs) || decide (mn ≠ (0:Int))) with hb10 | hb10
      ·
       refine A9 2 6 64 true _ rfl rfl (bnotT hb10) rfl (AA _ (A5 _ rfl (bnotT hb10) rfl) rfl ?_)
       refine AA _ (AG rfl) rfl ?_
       refine A9 3 10 68 true _ rfl rfl rfl rfl (AA _ (A5 _ rfl rfl rfl) rfl ?_)
       refine AA _ (AE rfl) rfl ?_
       refine AJ (AD (BK (CS (A6 (CD [false] ?_)))))
       show JQ _ _ _ _ []
       refine BJ (.bool false) (res1 D8 (BF rfl)) fun w1 hw1 => ?_
       refine ⟨_, [], rfl, ⟨congrArg Value.bool ?_, rfl⟩, hw1.no⟩
       have hk9 : qk = 3 := of_decide_eq_true hb8
       subst hk9
       unfold reqR
       rw [if_neg (by decide), if_neg (by decide), if_pos rfl, sp_n hb10, iq_n hlq hb9] <;> (first | rfl | (rw [Bool.not_not]; rfl))
      ·
       refine AM 6 64 true _ _ rfl rfl (bnotF hb10) (AG rfl) rfl ?_
       refine AM 6 64 true _ (.bool (!(decide ((0:UInt64) < eq)))) rfl rfl (bnotF hb10) (D1 rfl) rfl (AA _ (BA _ rfl (bnotF hb10) rfl) rfl ?_)
       refine AA _ (AG rfl) rfl ?_
       rcases Bool.eq_false_or_eq_true (decide ((0:UInt64) < eq)) with hb11 | hb11
       ·
        have hp11 : (0:UInt64) < eq := of_decide_eq_true hb11
        refine A9 3 10 68 true _ rfl rfl (bnotT hb11) rfl (AA _ (A5 _ rfl (bnotT hb11) rfl) rfl ?_)
        refine AA _ (AE rfl) rfl ?_
        refine AJ (AD (BK (CS (A6 (CD [false] ?_)))))
        show JQ _ _ _ _ []
        refine BJ (.bool false) (res1 D8 (BF rfl)) fun w1 hw1 => ?_
        refine ⟨_, [], rfl, ⟨congrArg Value.bool ?_, rfl⟩, hw1.no⟩
        have hk9 : qk = 3 := of_decide_eq_true hb8
        subst hk9
        unfold reqR
        rw [if_neg (by decide), if_neg (by decide), if_pos rfl, sp_n hb10, iq_n hlq hb9, pe_n hb11] <;> (first | rfl | (rw [Bool.not_not]; rfl))
       ·
        have hp11 : ¬ ((0:UInt64) < eq) := of_decide_eq_false hb11
        refine AM 10 68 true _ (Ptr nb1 5) rfl rfl (bnotF hb11) (AB 5 29 22 AS rfl BB rfl rfl) rfl ?_
        refine AM 10 68 true _ _ rfl rfl (bnotF hb11) (AL rfl (BR CA BB (by simp [htg]) (AR 0 rfl (DL (p := [U64 sq, I64 (qk), SL aiq niq ciq, U64 fs, I64 (mn)]) (q := [U64 eq]) (vs := (V2 pv ep (kd) ai ni ci sa ns sc bl tg)) (by first | rfl | (simp only [List.append_assoc, List.nil_append, List.append_nil, List.cons_append]; done)) rfl)))) rfl ?_
        refine DC 10 68 true _ rfl rfl (bnotF hb11) (A3 87 _ (.bool (decide (mayN pv ep (kd) l ls bl = 0))) (AV _ Tryd.call87 rfl) (fun w1 hw1 => wmay_w pv ep (kd) ai ni ci l sa ns sc ls bl tg w1 hl (by omega) (by omega) (by omega) (CF hw1 rfl hv) hls (by omega) (by omega) (by omega) (CF hw1 rfl hs) htg (by omega) (by omega))) rfl ?_
        rintro v1 L1 ⟨rfl, rfl⟩
        show JL _ _ _ _ ((71, .bool (decide (mayN pv ep (kd) l ls bl = 0))) :: _) [_]
        refine AA _ (BA _ rfl (bnotF hb11) rfl) rfl (AA _ (AE rfl) rfl ?_)
        refine AJ (AD (BK (CS (A6 (CD [false] ?_)))))
        show JQ _ _ _ _ []
        refine BJ (.bool (decide (mayN pv ep (kd) l ls bl = 0))) (res1 D8 (BF rfl)) fun w1 hw1 => ?_
        refine ⟨_, [], rfl, ⟨congrArg Value.bool ?_, rfl⟩, hw1.no⟩
        have hk9 : qk = 3 := of_decide_eq_true hb8
        subst hk9
        unfold reqR
        rw [if_neg (by decide), if_neg (by decide), if_pos rfl, sp_n hb10, iq_n hlq hb9, pe_n hb11] <;> (first | rfl | (rw [Bool.not_not]; rfl))
    ·
     have hp8 : ¬ ((qk) = (3:Int)) := of_decide_eq_false hb8
     refine AF (AF (AC (AA (.bool (decide ((qk) = (4:Int)))) (AT rfl rfl fun _ => BP _ _) rfl ?_)))
     refine AA _ (AE rfl) rfl ?_
     refine AJ (AD (CC (decide ((qk) = (4:Int))) rfl (fun hb12 => ?_) (fun hb12 => ?_)))
     ·
      have hp12 : (qk) = (4:Int) := of_decide_eq_true hb12
      refine BH (AD (CH _ rfl hb12 ?_))
      refine AF (AC (AA _ (AG rfl) rfl ?_))
      refine AA (.bool (!(decide ((0:Int) < (niq:Int))))) (D1 rfl) rfl (AA _ (AG rfl) rfl ?_)
      rcases Bool.eq_false_or_eq_true (decide ((0:Int) < (niq:Int))) with hb13 | hb13
      ·
       have hp13 : (0:Int) < (niq:Int) := of_decide_eq_true hb13
       refine A9 2 2 78 true _ rfl rfl (bnotT hb13) rfl (AA _ (A5 _ rfl (bnotT hb13) rfl) rfl ?_)
       refine AA _ (AG rfl) rfl ?_
       refine A9 2 6 82 true _ rfl rfl rfl rfl (AA _ (A5 _ rfl rfl rfl) rfl ?_)
       refine AA _ (AE rfl) rfl ?_
       refine AJ (AD (BK (CS (A6 (CD [false] ?_)))))
       show JQ _ _ _ _ []
       refine BJ (.bool false) (res1 D8 (BF rfl)) fun w1 hw1 => ?_
       refine ⟨_, [], rfl, ⟨congrArg Value.bool ?_, rfl⟩, hw1.no⟩
       have hk9 : qk = 4 := of_decide_eq_true hb12
       subst hk9
       unfold reqR
       rw [if_neg (by decide), if_neg (by decide), if_neg (by decide), if_pos (.inl rfl), iq_n hlq hb13] <;> (first | rfl | (rw [Bool.not_not]; rfl))
      ·
       have hp13 : ¬ ((0:Int) < (niq:Int)) := of_decide_eq_false hb13
       refine AM 2 78 true _ _ rfl rfl (bnotF hb13) (AG rfl) rfl ?_
       refine AM 2 78 true _ (.bool (!(decide ((0:UInt64) < fs) || decide (mn ≠ (0:Int))))) rfl rfl (bnotF hb13) (D1 rfl) rfl (AA _ (BA _ rfl (bnotF hb13) rfl) rfl ?_)
       refine AA _ (AG rfl) rfl ?_
       rcases Bool.eq_false_or_eq_true (decide ((0:UInt64) < fs) || decide (mn ≠ (0:Int))) with hb14 | hb14
       ·
        refine A9 2 6 82 true _ rfl rfl (bnotT hb14) rfl (AA _ (A5 _ rfl (bnotT hb14) rfl) rfl ?_)
        refine AA _ (AE rfl) rfl ?_
        refine AJ (AD (BK (CS (A6 (CD [false] ?_)))))
        show JQ _ _ _ _ []
        refine BJ (.bool false) (res1 D8 (BF rfl)) fun w1 hw1 => ?_
        refine ⟨_, [], rfl, ⟨congrArg Value.bool ?_, rfl⟩, hw1.no⟩
        have hk9 : qk = 4 := of_decide_eq_true hb12
        subst hk9
        unfold reqR
        rw [if_neg (by decide), if_neg (by decide), if_neg (by decide), if_pos (.inl rfl), sp_n hb14, iq_n hlq hb13] <;> (first | rfl | (rw [Bool.not_not]; rfl))
       ·
        refine AM 6 82 true _ _ rfl rfl (bnotF hb14) (AG rfl) rfl ?_
        refine AM 6 82 true _ (.bool (!(!(blankB pv ep kd l ls bl tg)))) rfl rfl (bnotF hb14) (D1 rfl) rfl (AA _ (BA _ rfl (bnotF hb14) rfl) rfl ?_)
        refine AA _ (AE rfl) rfl ?_
        refine AJ (AD (BK (CS (A6 (CD [false] ?_)))))
        show JQ _ _ _ _ []
        refine BJ (.bool (!(!(blankB pv ep kd l ls bl tg)))) (res1 D8 (BF rfl)) fun w1 hw1 => ?_
        refine ⟨_, [], rfl, ⟨congrArg Value.bool ?_, rfl⟩, hw1.no⟩
        have hk9 : qk = 4 := of_decide_eq_true hb12
        subst hk9
        unfold reqR
        rw [if_neg (by decide), if_neg (by decide), if_neg (by decide), if_pos (.inl rfl), sp_n hb14, iq_n hlq hb13] <;> (first | rfl | (rw [Bool.not_not]; rfl))
     ·
      have hp12 : ¬ ((qk) = (4:Int)) := of_decide_eq_false hb12
      refine AC (AA (.bool (decide ((qk) = (5:Int)))) (AT rfl rfl fun _ => BP _ _) rfl ?_)
      refine AA _ (AE rfl) rfl ?_
      refine AJ (AD (CC (decide ((qk) = (5:Int))) rfl (fun hb15 => ?_) (fun hb15 => ?_)))
      ·
       have hp15 : (qk) = (5:Int) := of_decide_eq_true hb15
       refine AF (AC (AA _ (AG rfl) rfl ?_))
       refine AA (.bool (!(decide ((0:Int) < (niq:Int))))) (D1 rfl) rfl (AA _ (AG rfl) rfl ?_)
       rcases Bool.eq_false_or_eq_true (decide ((0:Int) < (niq:Int))) with hb16 | hb16
       ·
        have hp16 : (0:Int) < (niq:Int) := of_decide_eq_true hb16
        refine A9 2 2 78 true _ rfl rfl (bnotT hb16) rfl (AA _ (A5 _ rfl (bnotT hb16) rfl) rfl ?_)
        refine AA _ (AG rfl) rfl ?_
        refine A9 2 6 82 true _ rfl rfl rfl rfl (AA _ (A5 _ rfl rfl rfl) rfl ?_)
        refine AA _ (AE rfl) rfl ?_
        refine AJ (AD (BK (CS (A6 (CD [false] ?_)))))
        show JQ _ _ _ _ []
        refine BJ (.bool false) (res1 D8 (BF rfl)) fun w1 hw1 => ?_
        refine ⟨_, [], rfl, ⟨congrArg Value.bool ?_, rfl⟩, hw1.no⟩
        have hk9 : qk = 5 := of_decide_eq_true hb15
        subst hk9
        unfold reqR
        rw [if_neg (by decide), if_neg (by decide), if_neg (by decide), if_pos (.inr rfl), iq_n hlq hb16] <;> (first | rfl | (rw [Bool.not_not]; rfl))
       ·
        have hp16 : ¬ ((0:Int) < (niq:Int)) := of_decide_eq_false hb16
        refine AM 2 78 true _ _ rfl rfl (bnotF hb16) (AG rfl) rfl ?_
        refine AM 2 78 true _ (.bool (!(decide ((0:UInt64) < fs) || decide (mn ≠ (0:Int))))) rfl rfl (bnotF hb16) (D1 rfl) rfl (AA _ (BA _ rfl (bnotF hb16) rfl) rfl ?_)
        refine AA _ (AG rfl) rfl ?_
        rcases Bool.eq_false_or_eq_true (decide ((0:UInt64) < fs) || decide (mn ≠ (0:Int))) with hb17 | hb17
        ·
         refine A9 2 6 82 true _ rfl rfl (bnotT hb17) rfl (AA _ (A5 _ rfl (bnotT hb17) rfl) rfl ?_)
         refine AA _ (AE rfl) rfl ?_
         refine AJ (AD (BK (CS (A6 (CD [false] ?_)))))
         show JQ _ _ _ _ []
         refine BJ (.bool false) (res1 D8 (BF rfl)) fun w1 hw1 => ?_
         refine ⟨_, [], rfl, ⟨congrArg Value.bool ?_, rfl⟩, hw1.no⟩
         have hk9 : qk = 5 := of_decide_eq_true hb15
         subst hk9
         unfold reqR
         rw [if_neg (by decide), if_neg (by decide), if_neg (by decide), if_pos (.inr rfl), sp_n hb17, iq_n hlq hb16] <;> (first | rfl | (rw [Bool.not_not]; rfl))
        ·
         refine AM 6 82 true _ _ rfl rfl (bnotF hb17) (AG rfl) rfl ?_
         refine AM 6 82 true _ (.bool (!(!(blankB pv ep kd l ls bl tg)))) rfl rfl (bnotF hb17) (D1 rfl) rfl (AA _ (BA _ rfl (bnotF hb17) rfl) rfl ?_)
         refine AA _ (AE rfl) rfl ?_
         refine AJ (AD (BK (CS (A6 (CD [false] ?_)))))
         show JQ _ _ _ _ []
         refine BJ (.bool (!(!(blankB pv ep kd l ls bl tg)))) (res1 D8 (BF rfl)) fun w1 hw1 => ?_
         refine ⟨_, [], rfl, ⟨congrArg Value.bool ?_, rfl⟩, hw1.no⟩
         have hk9 : qk = 5 := of_decide_eq_true hb15
         subst hk9
         unfold reqR
         rw [if_neg (by decide), if_neg (by decide), if_neg (by decide), if_pos (.inr rfl), sp_n hb17, iq_n hlq hb16] <;> (first | rfl | (rw [Bool.not_not]; rfl))
      ·
       have hp15 : ¬ ((qk) = (5:Int)) := of_decide_eq_false hb15
       refine BH (BU (AD (AF (AC (AA _ (AE rfl) rfl ?_)))))
       refine AJ (AD (BK (CD [false] ?_)))
       show JQ _ _ _ _ []
       refine BJ (.bool false) (res1 D8 (BF rfl)) fun w1 hw1 => ?_
       refine ⟨_, [], rfl, ⟨congrArg Value.bool ?_, rfl⟩, hw1.no⟩
       have hk1 : qk ≠ 1 := of_decide_eq_false hb2
       have hk2 : qk ≠ 2 := of_decide_eq_false hb5
       have hk3 : qk ≠ 3 := of_decide_eq_false hb8
       have hk4 : qk ≠ 4 := of_decide_eq_false hb12
       have hk5 : qk ≠ 5 := of_decide_eq_false hb15
       unfold reqR
       rw [if_neg hk1, if_neg hk2, if_neg hk3, if_neg (by omega)] <;> (first | rfl | (rw [Bool.not_not]; rfl))
theorem putReq1_c (sq : UInt64) (aiq : Option Addr) (niq ciq : Nat) (lq : List UInt64) (fs : UInt64) (mn : Int) (pv ep : UInt64) (kd : Int) (ai : Option Addr) (ni ci : Nat) (l : List UInt64) (sa : Option Addr) (ns sc : Nat) (ls : List SealR) (bl : UInt64) (tg : List UInt8) (eq : UInt64)  (w : World) (hlq : lq.length = niq) (hnmq : niq ≤ 2000000) (hncq : niq ≤ ciq) (hcmq : ciq ≤ maxLen) (hvq : RdV w aiq (cu64 lq)) (hl : l.length = ni) (hnm : ni ≤ 2000000) (hnc : ni ≤ ci) (hcm : ci ≤ maxLen) (hv : RdV w ai (cu64 l)) (hls : ls.length = ns) (hnn : ns ≤ 2000000) (hnd : ns ≤ sc) (hcn : sc ≤ maxLen) (hs : RdV w sa (ls.flatMap sealC)) (htg : tg.length = 16) (hbi : ni ≤ 300) (hbs : ns ≤ 300) (hR : reqR (1:Int) lq fs mn eq (blankB pv ep kd l ls bl tg) (decide (mayN pv ep kd l ls bl = 0)) = true)  : Calls Tryd.prog 21 #[.agg (V1 sq 1 aiq niq ciq fs (mn) pv ep (kd) ai ni ci sa ns sc bl tg eq).toArray] w (Post w [] (fun v L => ∃ g sp cap, v = .tuple #[Slc g 0 (4*niq + 18) cap, .nilIface] ∧ L = [(Ez g (cu8 ((((numK 8 sq 8 ++ numK 1 (1:UInt64) 1) ++ numK 8 eq 8) ++ numK 1 (UInt64.ofNat (niq - 1)) 1) ++ idxT lq niq) ++ sp) 5)] ∧ sp.length = cap - (4*niq + 18) ∧ 4*niq + 18 ≤ cap ∧ cap ≤ maxLen)) := by
 have hmx : maxLen = 9223372036854775807 := rfl
 have hRI := reqR_one hR
 have hRp := RightI_pos hRI
 rw [hlq] at hRp
 refine enter (P := Tryd.prog) (f := 21) (fn := Tryd.f21) w [] 82 [] [.agg (V1 sq 1 aiq niq ciq fs (mn) pv ep (kd) ai ni ci sa ns sc bl tg eq).toArray] Tryd.func21 rfl rfl (by simp) (BZ (by simp) (by simp) (by simp)) ?_
 show JC _ _ _ [(0, .agg (V1 sq 1 aiq niq ciq fs (mn) pv ep (kd) ai ni ci sa ns sc bl tg eq).toArray)] _
 refine AF (AC (A2 (CN (.agg (V1 sq 1 aiq niq ciq fs (mn) pv ep (kd) ai ni ci sa ns sc bl tg eq).toArray) (V1 sq 1 aiq niq ciq fs (mn) pv ep (kd) ai ni ci sa ns sc bl tg eq) rfl (by first | rfl | simp)) rfl ?_))
 rintro v1 L1 ⟨nb1, hnb1, rfl, rfl⟩
 show JL _ _ _ _ (_ :: _) [_]
 refine AA _ (AE rfl) rfl (AA _ (AE rfl) rfl ?_)
 refine AJ (AD (AF (AF (AC (AA _ (AL rfl (BR CW BX (by simp [htg]) (AR 0 rfl (AN _)))) rfl ?_)))))
 refine A7 (A3 22 _ (.bool (reqR (1:Int) lq fs (mn) eq (blankB pv ep (kd) l ls bl tg) (decide (mayN pv ep (kd) l ls bl = 0)))) (AV _ Tryd.call22 rfl) (fun w1 hw1 => FP sq (1:Int) aiq niq ciq lq fs (mn) pv ep (kd) ai ni ci l sa ns sc ls bl tg eq w1 hlq (by omega) (by omega) (by omega) (CF hw1 rfl hvq) hl (by omega) (by omega) (by omega) (CF hw1 rfl hv) hls (by omega) (by omega) (by omega) (CF hw1 rfl hs) htg (by omega) (by omega))) rfl ?_
 show JL _ _ _ _ ((10, .bool (reqR (1:Int) lq fs (mn) eq (blankB pv ep (kd) l ls bl tg) (decide (mayN pv ep (kd) l ls bl = 0)))) :: _) [_]
 refine AA (.bool (!(reqR (1:Int) lq fs (mn) eq (blankB pv ep (kd) l ls bl tg) (decide (mayN pv ep (kd) l ls bl = 0))))) (D1 rfl) rfl ?_
 refine AJ (AD (BT _ rfl (bnotT hR) ?_))
 refine BH (AD (AF (AC (AA (.agg #[.nilIface, SL none 0 0]) (CY [] _ rfl (fun _ => by kernel_rfl)) rfl ?_))))
 refine A2 (CN (.agg #[.nilIface, SL none 0 0]) ([.nilIface, SL none 0 0]) rfl (by first | rfl | simp)) rfl ?_
 rintro v1 L1 ⟨nb2, hnb2, rfl, rfl⟩
 show JL _ _ _ _ (_ :: _) [_, _]
 refine AA _ (AE rfl) rfl ?_
 refine AJ (AD (AF (DB 82 3 [(0, Ptr nb2 0), (1, Ptr nb1 0), (2, U64 sq), (4, Ptr nb1 1), (5, I64 1), (6, U64 1)] B6 rfl (by decide +kernel) ?_)))
 refine C2 ⟨[], [0, 1, 2, 4, 5, 6], [], [0, 1, 2, 4, 5, 6], [3]⟩ 3 _ rfl rfl (by decide +kernel) rfl ⟨CB rfl rfl rfl, AP rfl rfl (AB 0 22 1 AS rfl A1 rfl rfl), AP rfl rfl (AL rfl (AX A8 (AR 0 rfl (AI (AI (Seg.head)))))), AP rfl rfl (AB 1 3 1 AS rfl AW rfl rfl), AP rfl rfl (AL rfl (AX A0 (AR 0 rfl (AI (AI (AH (Seg.head))))))), AP rfl rfl (CV _ _ rfl fun _ => DX (by rw [A4]; rfl) AU rfl), trivial⟩ rfl (BO rfl (BD 81 _ [false, true] [nb2] _ (AV _ B9 rfl) rfl (fun w1 hw1 => numN_c nb2 8 .nilIface sq 8 w1 (hw1.en 1 rfl) (by unfold Szd; omega) (fun h => absurd h (by omega)) (by omega)))) ?_
 rintro v1 L1 ⟨_, ⟨rfl, nb3, sp1, cp1, rfl, hc1, hc2, hc3⟩, rfl⟩
 refine ⟨[], ?_⟩
 show DP _ _ _ _ _ _ _ _ [_, (Ez nb2 [.nilIface, Slc nb3 0 8 cp1] 149), (Ez nb3 (cu8 (numK 8 sq 8) ++ sp1) 5)]
 refine C2 ⟨[3], [0, 1, 2, 4, 5, 6], [0, 1, 2], [4, 5, 6], [7]⟩ 7 _ rfl rfl (by decide +kernel) rfl ⟨AP rfl rfl (AB 1 3 1 AS rfl AW rfl rfl), AP rfl rfl (AL rfl (AX A0 (AR 0 rfl (AI (AI (AH (Seg.head))))))), AP rfl rfl (CV _ _ rfl fun _ => DX (by rw [A4]; rfl) AU rfl), trivial⟩ rfl (BO rfl (BD 81 _ [false, true, true] [nb2, nb3] _ (AV _ B9 rfl) rfl (fun w1 hw1 => E1 nb2 nb3 8 cp1 9 .nilIface (numK 8 sq 8) sp1 (1:UInt64) 1 w1 (hw1.en 1 rfl) (hw1.en 2 rfl) (hw1.ne (i := 1) (j := 2) rfl rfl (by decide)) (show (numK 8 sq 8).length = 8 from (AZ _ _ _)) hc1 hc2 hc3 (by omega) (by unfold Szd; omega) (fun _ => by decide) (by omega)))) ?_
 rintro v1 L1 ⟨_, ⟨rfl, nb4, sp2, cp2, rfl, hc4, hc5, hc6⟩, rfl⟩
 refine ⟨[], ?_⟩
 show DP _ _ _ _ _ _ _ _ [_, (Ez nb2 [.nilIface, Slc nb4 0 9 cp2] 149), (Ez nb4 (cu8 ((numK 8 sq 8) ++ numK 1 (1:UInt64) 1) ++ sp2) 5)]
 refine DR ⟨[3, 7], [0, 1, 2, 4, 5, 6], [0, 1, 2, 4, 5, 6], [], []⟩ rfl rfl (by decide +kernel) rfl trivial ?_
 refine C5 (F' := [(1, Ptr nb1 0), (2, SL none 0 0), (3, .nilIface), (4, Ptr nb2 0)]) (by kernel_rfl) ?_
 refine AD (AF (AF (AC (AA (Ptr nb1 1) (AB 1 3 1 AS rfl AW rfl rfl) rfl ?_))))
 refine AA _ (AL rfl (AX A0 (AR 0 rfl (AI (AI (AH (Seg.head))))))) rfl ?_
 refine AA (.bool (decide ((1:Int) = (3:Int)))) (AT rfl rfl fun _ => BP _ _) rfl ?_
 refine AJ (AD (BT _ rfl (by decide) ?_))
 refine BH (AD (AF (AC (AA _ (AG rfl) rfl ?_))))
 refine AA (Ptr nb1 27) (AB 27 22 1 AS rfl A1 rfl rfl) rfl (AA _ (AL rfl (AX A8 (AR 0 rfl (Seg.right 27 0 (by simp [htg]) rfl (Seg.head))))) rfl ?_)
 refine A2 (BD 81 _ [false, true, true] [nb2, nb4] _ (AV _ B9 rfl) rfl (fun w1 hw1 => E1 nb2 nb4 9 cp2 17 .nilIface ((numK 8 sq 8) ++ numK 1 (1:UInt64) 1) sp2 eq 8 w1 (hw1.en 1 rfl) (hw1.en 2 rfl) (hw1.ne (i := 1) (j := 2) rfl rfl (by decide)) (show ((numK 8 sq 8) ++ numK 1 (1:UInt64) 1).length = 9 from (by rw [List.length_append, (show (numK 8 sq 8).length = 8 from (AZ _ _ _)), AZ] <;> omega)) hc4 hc5 hc6 (by omega) (by unfold Szd; omega) (fun h => absurd h (by omega)) (by omega))) rfl ?_
 rintro v1 L1 ⟨_, ⟨rfl, nb5, sp3, cp3, rfl, hc7, hc8, hc9⟩, rfl⟩
 show JL _ _ _ _ ((44, Ptr nb2 0) :: _) [_, (Ez nb2 [.nilIface, Slc nb5 0 17 cp3] 149), (Ez nb5 (cu8 (((numK 8 sq 8) ++ numK 1 (1:UInt64) 1) ++ numK 8 eq 8) ++ sp3) 5)]
 refine AJ (AD (AF (AF (AC (AA (Ptr nb1 1) (AB 1 3 1 AS rfl AW rfl rfl) rfl ?_)))))
 refine AA _ (AL rfl (AX A0 (AR 0 rfl (AI (AI (AH (Seg.head))))))) rfl ?_
 refine AJ (AD (B5 (AF (AC (AA (.bool (decide ((1:Int) = (1:Int)))) (AT rfl rfl fun _ => BP _ _) rfl ?_)))))
 refine AA _ (AE rfl) rfl ?_
 refine AJ (AD (CH _ rfl (by decide) ?_))
 refine AF (AC (AA _ (AG rfl) rfl ?_))
 refine AA (Ptr nb1 2) (AB 2 23 1 AS rfl BV rfl rfl) rfl (AA _ (AL rfl (AX B4 (AR 0 rfl (AI (AI (AH (AH (Seg.head)))))))) rfl ?_)
 refine AA (I64 niq) (DA BL rfl) rfl ?_
 refine AA (I64 ((niq:Int) - 1)) (AT rfl rfl fun _ => E7 _ _ ((niq:Int) - 1) (by omega) (by omega)) rfl ?_
 refine AA (U64 (UInt64.ofNat (niq - 1))) (CV _ _ rfl fun _ => EB (by rw [A4]; rfl) AU (niq - 1) _ (by omega)) rfl ?_
 refine A2 (BD 81 _ [false, true, true] [nb2, nb5] _ (AV _ B9 rfl) rfl (fun w1 hw1 => E1 nb2 nb5 17 cp3 18 .nilIface (((numK 8 sq 8) ++ numK 1 (1:UInt64) 1) ++ numK 8 eq 8) sp3 (UInt64.ofNat (niq - 1)) 1 w1 (hw1.en 1 rfl) (hw1.en 2 rfl) (hw1.ne (i := 1) (j := 2) rfl rfl (by decide)) (show (((numK 8 sq 8) ++ numK 1 (1:UInt64) 1) ++ numK 8 eq 8).length = 17 from (by rw [List.length_append, (show ((numK 8 sq 8) ++ numK 1 (1:UInt64) 1).length = 9 from (by rw [List.length_append, (show (numK 8 sq 8).length = 8 from (AZ _ _ _)), AZ] <;> omega)), AZ] <;> omega)) hc7 hc8 hc9 (by omega) (by unfold Szd; omega) (fun _ => shr8n (by omega)) (by omega))) rfl ?_
 rintro v1 L1 ⟨_, ⟨rfl, nb6, sp4, cp4, rfl, hc10, hc11, hc12⟩, rfl⟩
 show JL _ _ _ _ ((55, Ptr nb2 0) :: _) [_, (Ez nb2 [.nilIface, Slc nb6 0 18 cp4] 149), (Ez nb6 (cu8 ((((numK 8 sq 8) ++ numK 1 (1:UInt64) 1) ++ numK 8 eq 8) ++ numK 1 (UInt64.ofNat (niq - 1)) 1) ++ sp4) 5)]
 refine AJ (AD (AF (AC (AA (Ptr nb1 2) (AB 2 23 1 AS rfl BV rfl rfl) rfl ?_))))
 refine AA _ (AL rfl (AX B4 (AR 0 rfl (AI (AI (AH (AH (Seg.head)))))))) rfl ?_
 refine AA (I64 niq) (DA BL rfl) rfl (AA _ (AG rfl) rfl ?_)
 refine AJ (AD (B5 (CD [false, true, true] ?_)))
 show JC _ _ _ _ [_, _]
 refine EO (ι := Nat × List UInt8 × Nat × List Value × Nat) (fun ⟨i, oqi, gqi, spqi, cpqi⟩ => [(2, SL none 0 0), (3, .nilIface), (4, Ptr nb2 0), (57, SL aiq niq ciq), (58, I64 niq), (59, I64 i)]) (fun ⟨i, oqi, gqi, spqi, cpqi⟩ => [(Ez nb2 [.nilIface, Slc gqi 0 (4*i + 18) cpqi] 149), (Ez gqi (cu8 oqi ++ spqi) 5)]) (fun ⟨i, oqi, gqi, spqi, cpqi⟩ => i ≤ niq ∧ oqi = (((numK 8 sq 8 ++ numK 1 (1:UInt64) 1) ++ numK 8 eq 8) ++ numK 1 (UInt64.ofNat (niq - 1)) 1) ++ idxT lq i ∧ oqi.length = 4*i + 18 ∧ spqi.length = cpqi - (4*i + 18) ∧ 4*i + 18 ≤ cpqi ∧ cpqi ≤ maxLen) (fun ⟨i, oqi, gqi, spqi, cpqi⟩ => niq - i) (0, (((numK 8 sq 8) ++ numK 1 (1:UInt64) 1) ++ numK 8 eq 8) ++ numK 1 (UInt64.ofNat (niq - 1)) 1, nb6, sp4, cp4) ⟨by omega, by rw [idxT_zero, List.append_nil], (by have h := (show ((((numK 8 sq 8) ++ numK 1 (1:UInt64) 1) ++ numK 8 eq 8) ++ numK 1 (UInt64.ofNat (niq - 1)) 1).length = 18 from (by rw [List.length_append, (show (((numK 8 sq 8) ++ numK 1 (1:UInt64) 1) ++ numK 8 eq 8).length = 17 from (by rw [List.length_append, (show ((numK 8 sq 8) ++ numK 1 (1:UInt64) 1).length = 9 from (by rw [List.length_append, (show (numK 8 sq 8).length = 8 from (AZ _ _ _)), AZ] <;> omega)), AZ] <;> omega)), AZ] <;> omega)); omega), (by have h := hc10; omega), by omega, by omega⟩ (Sub.all rfl) (by first | rfl | (simp; done)) ?_
 rintro ⟨i, oqi, gqi, spqi, cpqi⟩ ⟨hi1, hi2, hi3, hi4, hi5, hi6⟩
 show JC _ _ _ [_, _, _, _, _, _] [_, _]
 refine AF (AC (AA (.bool (decide (((i:Int)) < ((niq:Int))))) (AT rfl rfl fun _ => CL _ _) rfl ?_))
 refine AJ (AD (AF (CC (decide (((i:Int)) < ((niq:Int)))) rfl (fun hb1 => ?_) (fun hb1 => ?_))))
 ·
  have hp1 : ((i:Int)) < ((niq:Int)) := of_decide_eq_true hb1
  refine BH (AD (AF (B5 (AF (AC ?_)))))
  obtain ⟨bz1, oz1, hz1, hm1⟩ := RdV.pos hvq (by rw [FS, hlq]; omega)
  refine AA (Ptr bz1 (i + oz1)) (DI 22 1 (i + oz1) BL A1 rfl hz1 rfl (by omega) (by omega) (by omega)) rfl (AA _ (AL rfl (AX A8 (C9 (hm1.mem (by simp)) (Seg.get (g64_get (i := i) (by rw [hlq]; omega))) (by first | omega | (simp; done) | (simp; omega))))) rfl ?_)
  refine AA _ (AE rfl) rfl ?_
  refine AJ (AD (AC (AA _ (AG rfl) rfl ?_)))
  refine AA _ (AG rfl) rfl ?_
  refine A2 (BD 81 _ [true, true] [nb2, gqi] _ (AV _ B9 rfl) rfl (fun w1 hw1 => E1 nb2 gqi (4*i + 18) cpqi (4*i + 22) .nilIface oqi spqi (g64 lq i) 4 w1 (hw1.en 0 rfl) (hw1.en 1 rfl) (hw1.ne (i := 0) (j := 1) rfl rfl (by decide)) hi3 hi4 hi5 hi6 (by omega) (by unfold Szd; omega) (fun _ => idx_fit hRI (by omega)) (by omega))) rfl ?_
  rintro v1 L1 ⟨_, ⟨rfl, nb7, sp5, cp5, rfl, hc13, hc14, hc15⟩, rfl⟩
  show JL _ _ _ _ ((65, Ptr nb2 0) :: _) [(Ez nb2 [.nilIface, Slc nb7 0 (4*i + 22) cp5] 149), (Ez nb7 (cu8 (oqi ++ numK 4 (g64 lq i) 4) ++ sp5) 5)]
  refine AJ (BU (AD (AC (AA (I64 ((i:Int) + 1)) (AT rfl rfl fun _ => DK _ _ ((i:Int) + 1) (by omega) (by omega)) rfl ?_))))
  refine AA _ (AG rfl) rfl ?_
  refine AJ (DU (EZ (i + 1, oqi ++ numK 4 (g64 lq i) 4, nb7, sp5, cp5) ⟨by omega, by rw [hi2, idxT_succ, List.append_assoc], (by have h := (show (oqi ++ numK 4 (g64 lq i) 4).length = (4*i + 22) from (by rw [List.length_append, hi3, AZ] <;> omega)); omega), (by have h := hc13; omega), by omega, by omega⟩ (by first | (simp; omega) | simp | (dsimp only; omega) | omega) (Sub.all rfl) (by first | rfl | rw [show (4*i + 22) = (4*(i + 1) + 18) by omega])))
 ·
  have hp1 : ¬ (((i:Int)) < ((niq:Int))) := of_decide_eq_false hb1
  refine EF (BC (BC (CX (BU (AD (AF (AC (AA _ (AG rfl) rfl ?_))))))))
  refine A2 (C6 83 _ _ (AV _ E4 rfl) (fun w1 hw1 => F8 nb2 0 gqi (4*i + 18) cpqi oqi w1 (RdA.of hw1 (AR 0 rfl (AN _)) (by simp)) rfl hi3 (by omega) (RdB.of hw1 (AR 1 rfl (AI (AN _))) (by simp)))) rfl ?_
  rintro v1 L1 ⟨_, ⟨nb8, sp6, cp6, rfl, rfl, hc16, hc17, hc18⟩, rfl⟩
  show JL _ _ _ _ ((79, .tuple #[Slc nb8 0 (4*i + 18) cp6, .nilIface]) :: _) [_, _, (Ez nb8 (cu8 oqi ++ sp6) 5)]
  refine AA _ (BI rfl rfl) rfl (AA _ (BI rfl rfl) rfl (AA _ (AE rfl) rfl (AA _ (AE rfl) rfl ?_)))
  refine AJ (AD (BK (CD [false, false, true] ?_)))
  show JQ _ _ _ _ [_]
  refine BJ (.tuple #[Slc nb8 0 (4*i + 18) cp6, .nilIface]) (res2 Tryd.results21 (BF rfl) (BF rfl)) fun w1 hw1 => ?_
  have hi7 : niq = i := by omega
  subst hi7
  have hq : oqi = (((numK 8 sq 8 ++ numK 1 (1:UInt64) 1) ++ numK 8 eq 8) ++ numK 1 (UInt64.ofNat (niq - 1)) 1) ++ idxT lq niq := hi2
  rw [hq] at hw1
  exact ⟨_, _, rfl, ⟨nb8, sp6, cp6, rfl, rfl, hc16, hc17, hc18⟩, hw1.sub (by simp) (by simp)⟩
theorem putReq2_c (sq : UInt64) (aiq : Option Addr) (niq ciq : Nat) (lq : List UInt64) (fs : UInt64) (mn : Nat) (pv ep : UInt64) (kd : Int) (ai : Option Addr) (ni ci : Nat) (l : List UInt64) (sa : Option Addr) (ns sc : Nat) (ls : List SealR) (bl : UInt64) (tg : List UInt8) (eq : UInt64)  (w : World) (hlq : lq.length = niq) (hnmq : niq ≤ 2000000) (hncq : niq ≤ ciq) (hcmq : ciq ≤ maxLen) (hvq : RdV w aiq (cu64 lq)) (hl : l.length = ni) (hnm : ni ≤ 2000000) (hnc : ni ≤ ci) (hcm : ci ≤ maxLen) (hv : RdV w ai (cu64 l)) (hls : ls.length = ns) (hnn : ns ≤ 2000000) (hnd : ns ≤ sc) (hcn : sc ≤ maxLen) (hs : RdV w sa (ls.flatMap sealC)) (htg : tg.length = 16) (hbi : ni ≤ 300) (hbs : ns ≤ 300) (hR : reqR (2:Int) lq fs mn eq (blankB pv ep kd l ls bl tg) (decide (mayN pv ep kd l ls bl = 0)) = true)  : Calls Tryd.prog 21 #[.agg (V1 sq 2 aiq niq ciq fs mn pv ep (kd) ai ni ci sa ns sc bl tg eq).toArray] w (Post w [] (fun v L => ∃ g sp cap, v = .tuple #[Slc g 0 (22) cap, .nilIface] ∧ L = [(Ez g (cu8 ((((numK 8 sq 8 ++ numK 1 (2:UInt64) 1) ++ numK 8 eq 8) ++ numK 4 fs 4) ++ numK 1 (UInt64.ofNat (mn - 1)) 1) ++ sp) 5)] ∧ sp.length = cap - (22) ∧ 22 ≤ cap ∧ cap ≤ maxLen)) := by
 have hmx : maxLen = 9223372036854775807 := rfl
 have hSp := reqR_two hR
 have hSb := span_bd hSp
 refine enter (P := Tryd.prog) (f := 21) (fn := Tryd.f21) w [] 82 [] [.agg (V1 sq 2 aiq niq ciq fs mn pv ep (kd) ai ni ci sa ns sc bl tg eq).toArray] Tryd.func21 rfl rfl (by simp) (BZ (by simp) (by simp) (by simp)) ?_
 show JC _ _ _ [(0, .agg (V1 sq 2 aiq niq ciq fs mn pv ep (kd) ai ni ci sa ns sc bl tg eq).toArray)] _
 refine AF (AC (A2 (CN (.agg (V1 sq 2 aiq niq ciq fs mn pv ep (kd) ai ni ci sa ns sc bl tg eq).toArray) (V1 sq 2 aiq niq ciq fs mn pv ep (kd) ai ni ci sa ns sc bl tg eq) rfl (by first | rfl | simp)) rfl ?_))
 rintro v1 L1 ⟨nb1, hnb1, rfl, rfl⟩
 show JL _ _ _ _ (_ :: _) [_]
 refine AA _ (AE rfl) rfl (AA _ (AE rfl) rfl ?_)
 refine AJ (AD (AF (AF (AC (AA _ (AL rfl (BR CW BX (by simp [htg]) (AR 0 rfl (AN _)))) rfl ?_)))))
 refine A7 (A3 22 _ (.bool (reqR (2:Int) lq fs ((mn:Int)) eq (blankB pv ep (kd) l ls bl tg) (decide (mayN pv ep (kd) l ls bl = 0)))) (AV _ Tryd.call22 rfl) (fun w1 hw1 => FP sq (2:Int) aiq niq ciq lq fs ((mn:Int)) pv ep (kd) ai ni ci l sa ns sc ls bl tg eq w1 hlq (by omega) (by omega) (by omega) (CF hw1 rfl hvq) hl (by omega) (by omega) (by omega) (CF hw1 rfl hv) hls (by omega) (by omega) (by omega) (CF hw1 rfl hs) htg (by omega) (by omega))) rfl ?_
 show JL _ _ _ _ ((10, .bool (reqR (2:Int) lq fs ((mn:Int)) eq (blankB pv ep (kd) l ls bl tg) (decide (mayN pv ep (kd) l ls bl = 0)))) :: _) [_]
 refine AA (.bool (!(reqR (2:Int) lq fs ((mn:Int)) eq (blankB pv ep (kd) l ls bl tg) (decide (mayN pv ep (kd) l ls bl = 0))))) (D1 rfl) rfl ?_
 refine AJ (AD (BT _ rfl (bnotT hR) ?_))
 refine BH (AD (AF (AC (AA (.agg #[.nilIface, SL none 0 0]) (CY [] _ rfl (fun _ => by kernel_rfl)) rfl ?_))))
 refine A2 (CN (.agg #[.nilIface, SL none 0 0]) ([.nilIface, SL none 0 0]) rfl (by first | rfl | simp)) rfl ?_
 rintro v1 L1 ⟨nb2, hnb2, rfl, rfl⟩
 show JL _ _ _ _ (_ :: _) [_, _]
 refine AA _ (AE rfl) rfl ?_
 refine AJ (AD (AF (DB 82 3 [(0, Ptr nb2 0), (1, Ptr nb1 0), (2, U64 sq), (4, Ptr nb1 1), (5, I64 2), (6, U64 2)] B6 rfl (by decide +kernel) ?_)))
 refine C2 ⟨[], [0, 1, 2, 4, 5, 6], [], [0, 1, 2, 4, 5, 6], [3]⟩ 3 _ rfl rfl (by decide +kernel) rfl ⟨CB rfl rfl rfl, AP rfl rfl (AB 0 22 1 AS rfl A1 rfl rfl), AP rfl rfl (AL rfl (AX A8 (AR 0 rfl (AI (AI (Seg.head)))))), AP rfl rfl (AB 1 3 1 AS rfl AW rfl rfl), AP rfl rfl (AL rfl (AX A0 (AR 0 rfl (AI (AI (AH (Seg.head))))))), AP rfl rfl (CV _ _ rfl fun _ => DX (by rw [A4]; rfl) AU rfl), trivial⟩ rfl (BO rfl (BD 81 _ [false, true] [nb2] _ (AV _ B9 rfl) rfl (fun w1 hw1 => numN_c nb2 8 .nilIface sq 8 w1 (hw1.en 1 rfl) (by unfold Szd; omega) (fun h => absurd h (by omega)) (by omega)))) ?_
 rintro v1 L1 ⟨_, ⟨rfl, nb3, sp1, cp1, rfl, hc1, hc2, hc3⟩, rfl⟩
 refine ⟨[], ?_⟩
 show DP _ _ _ _ _ _ _ _ [_, (Ez nb2 [.nilIface, Slc nb3 0 8 cp1] 149), (Ez nb3 (cu8 (numK 8 sq 8) ++ sp1) 5)]
 refine C2 ⟨[3], [0, 1, 2, 4, 5, 6], [0, 1, 2], [4, 5, 6], [7]⟩ 7 _ rfl rfl (by decide +kernel) rfl ⟨AP rfl rfl (AB 1 3 1 AS rfl AW rfl rfl), AP rfl rfl (AL rfl (AX A0 (AR 0 rfl (AI (AI (AH (Seg.head))))))), AP rfl rfl (CV _ _ rfl fun _ => DX (by rw [A4]; rfl) AU rfl), trivial⟩ rfl (BO rfl (BD 81 _ [false, true, true] [nb2, nb3] _ (AV _ B9 rfl) rfl (fun w1 hw1 => E1 nb2 nb3 8 cp1 9 .nilIface (numK 8 sq 8) sp1 (2:UInt64) 1 w1 (hw1.en 1 rfl) (hw1.en 2 rfl) (hw1.ne (i := 1) (j := 2) rfl rfl (by decide)) (show (numK 8 sq 8).length = 8 from (AZ _ _ _)) hc1 hc2 hc3 (by omega) (by unfold Szd; omega) (fun _ => by decide) (by omega)))) ?_
 rintro v1 L1 ⟨_, ⟨rfl, nb4, sp2, cp2, rfl, hc4, hc5, hc6⟩, rfl⟩
 refine ⟨[], ?_⟩
 show DP _ _ _ _ _ _ _ _ [_, (Ez nb2 [.nilIface, Slc nb4 0 9 cp2] 149), (Ez nb4 (cu8 ((numK 8 sq 8) ++ numK 1 (2:UInt64) 1) ++ sp2) 5)]
 refine DR ⟨[3, 7], [0, 1, 2, 4, 5, 6], [0, 1, 2, 4, 5, 6], [], []⟩ rfl rfl (by decide +kernel) rfl trivial ?_
 refine C5 (F' := [(1, Ptr nb1 0), (2, SL none 0 0), (3, .nilIface), (4, Ptr nb2 0)]) (by kernel_rfl) ?_
 refine AD (AF (AF (AC (AA (Ptr nb1 1) (AB 1 3 1 AS rfl AW rfl rfl) rfl ?_))))
 refine AA _ (AL rfl (AX A0 (AR 0 rfl (AI (AI (AH (Seg.head))))))) rfl ?_
 refine AA (.bool (decide ((2:Int) = (3:Int)))) (AT rfl rfl fun _ => BP _ _) rfl ?_
 refine AJ (AD (BT _ rfl (by decide) ?_))
 refine BH (AD (AF (AC (AA _ (AG rfl) rfl ?_))))
 refine AA (Ptr nb1 27) (AB 27 22 1 AS rfl A1 rfl rfl) rfl (AA _ (AL rfl (AX A8 (AR 0 rfl (Seg.right 27 0 (by simp [htg]) rfl (Seg.head))))) rfl ?_)
 refine A2 (BD 81 _ [false, true, true] [nb2, nb4] _ (AV _ B9 rfl) rfl (fun w1 hw1 => E1 nb2 nb4 9 cp2 17 .nilIface ((numK 8 sq 8) ++ numK 1 (2:UInt64) 1) sp2 eq 8 w1 (hw1.en 1 rfl) (hw1.en 2 rfl) (hw1.ne (i := 1) (j := 2) rfl rfl (by decide)) (show ((numK 8 sq 8) ++ numK 1 (2:UInt64) 1).length = 9 from (by rw [List.length_append, (show (numK 8 sq 8).length = 8 from (AZ _ _ _)), AZ] <;> omega)) hc4 hc5 hc6 (by omega) (by unfold Szd; omega) (fun h => absurd h (by omega)) (by omega))) rfl ?_
 rintro v1 L1 ⟨_, ⟨rfl, nb5, sp3, cp3, rfl, hc7, hc8, hc9⟩, rfl⟩
 show JL _ _ _ _ ((44, Ptr nb2 0) :: _) [_, (Ez nb2 [.nilIface, Slc nb5 0 17 cp3] 149), (Ez nb5 (cu8 (((numK 8 sq 8) ++ numK 1 (2:UInt64) 1) ++ numK 8 eq 8) ++ sp3) 5)]
 refine AJ (AD (AF (AF (AC (AA (Ptr nb1 1) (AB 1 3 1 AS rfl AW rfl rfl) rfl ?_)))))
 refine AA _ (AL rfl (AX A0 (AR 0 rfl (AI (AI (AH (Seg.head))))))) rfl ?_
 refine AJ (AD (B5 (AF (AC (AA (.bool (decide ((2:Int) = (1:Int)))) (AT rfl rfl fun _ => BP _ _) rfl ?_)))))
 refine AA _ (AE rfl) rfl ?_
 refine AJ (AD (BT _ rfl (by decide) ?_))
 refine AF (AC (AA (.bool (decide ((2:Int) = (2:Int)))) (AT rfl rfl fun _ => BP _ _) rfl ?_))
 refine AA _ (AE rfl) rfl ?_
 refine AJ (AD (CH _ rfl (by decide) ?_))
 refine DB 82 3 [(0, Ptr nb2 0), (1, Ptr nb1 3), (2, U64 fs), (4, Ptr nb1 4), (5, I64 mn), (6, I64 ((mn:Int) - 1)), (7, U64 (UInt64.ofNat (mn - 1)))] B6 rfl (by decide +kernel) ?_
 refine C2 ⟨[], [0, 1, 2, 4, 5, 6, 7], [], [0, 1, 2, 4, 5, 6, 7], [3]⟩ 3 _ rfl rfl (by decide +kernel) rfl ⟨CB rfl rfl rfl, AP rfl rfl (AB 3 22 1 AS rfl A1 rfl rfl), AP rfl rfl (AL rfl (AX A8 (AR 0 rfl (AI (AI (AH (AH (AH (Seg.head))))))))), AP rfl rfl (AB 4 3 1 AS rfl AW rfl rfl), AP rfl rfl (AL rfl (AX A0 (AR 0 rfl (AI (AI (AH (AH (AH (AH (Seg.head)))))))))), AP rfl rfl (AT rfl rfl fun _ => E7 _ _ ((mn:Int) - 1) (by omega) (by omega)), AP rfl rfl (CV _ _ rfl fun _ => EB (by rw [A4]; rfl) AU (mn - 1) _ (by omega)), trivial⟩ rfl (BO rfl (BD 81 _ [false, true, true] [nb2, nb5] _ (AV _ B9 rfl) rfl (fun w1 hw1 => E1 nb2 nb5 17 cp3 21 .nilIface (((numK 8 sq 8) ++ numK 1 (2:UInt64) 1) ++ numK 8 eq 8) sp3 fs 4 w1 (hw1.en 1 rfl) (hw1.en 2 rfl) (hw1.ne (i := 1) (j := 2) rfl rfl (by decide)) (show (((numK 8 sq 8) ++ numK 1 (2:UInt64) 1) ++ numK 8 eq 8).length = 17 from (by rw [List.length_append, (show ((numK 8 sq 8) ++ numK 1 (2:UInt64) 1).length = 9 from (by rw [List.length_append, (show (numK 8 sq 8).length = 8 from (AZ _ _ _)), AZ] <;> omega)), AZ] <;> omega)) hc7 hc8 hc9 (by omega) (by unfold Szd; omega) (fun _ => span_fit hSp) (by omega)))) ?_
 rintro v1 L1 ⟨_, ⟨rfl, nb6, sp4, cp4, rfl, hc10, hc11, hc12⟩, rfl⟩
 refine ⟨[], ?_⟩
 show DP _ _ _ _ _ _ _ _ [_, (Ez nb2 [.nilIface, Slc nb6 0 21 cp4] 149), (Ez nb6 (cu8 ((((numK 8 sq 8) ++ numK 1 (2:UInt64) 1) ++ numK 8 eq 8) ++ numK 4 fs 4) ++ sp4) 5)]
 refine C2 ⟨[3], [0, 1, 2, 4, 5, 6, 7], [0, 1, 2], [4, 5, 6, 7], [8]⟩ 8 _ rfl rfl (by decide +kernel) rfl ⟨AP rfl rfl (AB 4 3 1 AS rfl AW rfl rfl), AP rfl rfl (AL rfl (AX A0 (AR 0 rfl (AI (AI (AH (AH (AH (AH (Seg.head)))))))))), AP rfl rfl (AT rfl rfl fun _ => E7 _ _ ((mn:Int) - 1) (by omega) (by omega)), AP rfl rfl (CV _ _ rfl fun _ => EB (by rw [A4]; rfl) AU (mn - 1) _ (by omega)), trivial⟩ rfl (BO rfl (BD 81 _ [false, true, true] [nb2, nb6] _ (AV _ B9 rfl) rfl (fun w1 hw1 => E1 nb2 nb6 21 cp4 22 .nilIface ((((numK 8 sq 8) ++ numK 1 (2:UInt64) 1) ++ numK 8 eq 8) ++ numK 4 fs 4) sp4 (UInt64.ofNat (mn - 1)) 1 w1 (hw1.en 1 rfl) (hw1.en 2 rfl) (hw1.ne (i := 1) (j := 2) rfl rfl (by decide)) (show ((((numK 8 sq 8) ++ numK 1 (2:UInt64) 1) ++ numK 8 eq 8) ++ numK 4 fs 4).length = 21 from (by rw [List.length_append, (show (((numK 8 sq 8) ++ numK 1 (2:UInt64) 1) ++ numK 8 eq 8).length = 17 from (by rw [List.length_append, (show ((numK 8 sq 8) ++ numK 1 (2:UInt64) 1).length = 9 from (by rw [List.length_append, (show (numK 8 sq 8).length = 8 from (AZ _ _ _)), AZ] <;> omega)), AZ] <;> omega)), AZ] <;> omega)) hc10 hc11 hc12 (by omega) (by unfold Szd; omega) (fun _ => shr8n (by omega)) (by omega)))) ?_
 rintro v1 L1 ⟨_, ⟨rfl, nb7, sp5, cp5, rfl, hc13, hc14, hc15⟩, rfl⟩
 refine ⟨[], ?_⟩
 show DP _ _ _ _ _ _ _ _ [_, (Ez nb2 [.nilIface, Slc nb7 0 22 cp5] 149), (Ez nb7 (cu8 (((((numK 8 sq 8) ++ numK 1 (2:UInt64) 1) ++ numK 8 eq 8) ++ numK 4 fs 4) ++ numK 1 (UInt64.ofNat (mn - 1)) 1) ++ sp5) 5)]
 refine DR ⟨[3, 8], [0, 1, 2, 4, 5, 6, 7], [0, 1, 2, 4, 5, 6, 7], [], []⟩ rfl rfl (by decide +kernel) rfl trivial ?_
 refine C5 (F' := [(2, SL none 0 0), (3, .nilIface), (4, Ptr nb2 0)]) (by kernel_rfl) ?_
 refine BU (AD (AF (AC (AA _ (AG rfl) rfl ?_))))
 refine A2 (C6 83 _ _ (AV _ E4 rfl) (fun w1 hw1 => F8 nb2 0 nb7 22 cp5 (((((numK 8 sq 8) ++ numK 1 (2:UInt64) 1) ++ numK 8 eq 8) ++ numK 4 fs 4) ++ numK 1 (UInt64.ofNat (mn - 1)) 1) w1 (RdA.of hw1 (AR 1 rfl (AN _)) (by simp)) rfl (show (((((numK 8 sq 8) ++ numK 1 (2:UInt64) 1) ++ numK 8 eq 8) ++ numK 4 fs 4) ++ numK 1 (UInt64.ofNat (mn - 1)) 1).length = 22 from (by rw [List.length_append, (show ((((numK 8 sq 8) ++ numK 1 (2:UInt64) 1) ++ numK 8 eq 8) ++ numK 4 fs 4).length = 21 from (by rw [List.length_append, (show (((numK 8 sq 8) ++ numK 1 (2:UInt64) 1) ++ numK 8 eq 8).length = 17 from (by rw [List.length_append, (show ((numK 8 sq 8) ++ numK 1 (2:UInt64) 1).length = 9 from (by rw [List.length_append, (show (numK 8 sq 8).length = 8 from (AZ _ _ _)), AZ] <;> omega)), AZ] <;> omega)), AZ] <;> omega)), AZ] <;> omega)) (by omega) (RdB.of hw1 (AR 2 rfl (AI (AN _))) (by simp)))) rfl ?_
 rintro v1 L1 ⟨_, ⟨nb8, sp6, cp6, rfl, rfl, hc16, hc17, hc18⟩, rfl⟩
 show JL _ _ _ _ ((79, .tuple #[Slc nb8 0 22 cp6, .nilIface]) :: _) [_, _, _, (Ez nb8 (cu8 (((((numK 8 sq 8) ++ numK 1 (2:UInt64) 1) ++ numK 8 eq 8) ++ numK 4 fs 4) ++ numK 1 (UInt64.ofNat (mn - 1)) 1) ++ sp6) 5)]
 refine AA _ (BI rfl rfl) rfl (AA _ (BI rfl rfl) rfl (AA _ (AE rfl) rfl (AA _ (AE rfl) rfl ?_)))
 refine AJ (AD (BK (CD [false, false, false, true] ?_)))
 show JQ _ _ _ _ [_]
 refine BJ (.tuple #[Slc nb8 0 22 cp6, .nilIface]) (res2 Tryd.results21 (BF rfl) (BF rfl)) fun w1 hw1 => ?_
 skip
 exact ⟨_, _, rfl, ⟨nb8, sp6, cp6, rfl, rfl, hc16, hc17, hc18⟩, hw1.sub (by simp) (by simp)⟩
theorem putReq3_c (sq : UInt64) (aiq : Option Addr) (niq ciq : Nat) (lq : List UInt64) (fs : UInt64) (mn : Int) (pv ep : UInt64) (k : Nat) (ai : Option Addr) (ni ci : Nat) (l : List UInt64) (sa : Option Addr) (ns sc : Nat) (ls : List SealR) (bl : UInt64) (tg : List UInt8) (eq : UInt64) (tot : Nat)  (w : World) (hlq : lq.length = niq) (hnmq : niq ≤ 2000000) (hncq : niq ≤ ciq) (hcmq : ciq ≤ maxLen) (hvq : RdV w aiq (cu64 lq)) (hl : l.length = ni) (hnm : ni ≤ 2000000) (hnc : ni ≤ ci) (hcm : ci ≤ maxLen) (hv : RdV w ai (cu64 l)) (hls : ls.length = ns) (hnn : ns ≤ 2000000) (hnd : ns ≤ sc) (hcn : sc ≤ maxLen) (hs : RdV w sa (ls.flatMap sealC)) (htg : tg.length = 16) (hbi : ni ≤ 300) (hbs : ns ≤ 300) (hR : reqR (3:Int) lq fs mn eq (blankB pv ep (k:Int) l ls bl tg) (decide (mayN pv ep (k:Int) l ls bl = 0)) = true) (hmay : mayN pv ep (k:Int) l ls bl = 0) (hk : k = 1 ∨ k = 2 ∨ k = 3) (hsm : ns ≤ 300) (htot : tktN k ni ns = tot) (htb : tot ≤ 30000)  : Calls Tryd.prog 21 #[.agg (V1 sq 3 aiq niq ciq fs (mn) pv ep k ai ni ci sa ns sc bl tg eq).toArray] w (Post w [] (fun v L => ∃ g sp cap, v = .tuple #[Slc g 0 (tot + 25) cap, .nilIface] ∧ L = [(Ez g (cu8 ((numK 8 sq 8 ++ numK 1 (3:UInt64) 1) ++ ((tktT pv ep k l ls bl) ++ tg)) ++ sp) 5)] ∧ sp.length = cap - (tot + 25) ∧ tot + 25 ≤ cap ∧ cap ≤ maxLen)) := by
 have hmx : maxLen = 9223372036854775807 := rfl
 refine enter (P := Tryd.prog) (f := 21) (fn := Tryd.f21) w [] 82 [] [.agg (V1 sq 3 aiq niq ciq fs (mn) pv ep k ai ni ci sa ns sc bl tg eq).toArray] Tryd.func21 rfl rfl (by simp) (BZ (by simp) (by simp) (by simp)) ?_
 show JC _ _ _ [(0, .agg (V1 sq 3 aiq niq ciq fs (mn) pv ep k ai ni ci sa ns sc bl tg eq).toArray)] _
 refine AF (AC (A2 (CN (.agg (V1 sq 3 aiq niq ciq fs (mn) pv ep k ai ni ci sa ns sc bl tg eq).toArray) (V1 sq 3 aiq niq ciq fs (mn) pv ep k ai ni ci sa ns sc bl tg eq) rfl (by first | rfl | simp)) rfl ?_))
 rintro v1 L1 ⟨nb1, hnb1, rfl, rfl⟩
 show JL _ _ _ _ (_ :: _) [_]
 refine AA _ (AE rfl) rfl (AA _ (AE rfl) rfl ?_)
 refine AJ (AD (AF (AF (AC (AA _ (AL rfl (BR CW BX (by simp [htg]) (AR 0 rfl (AN _)))) rfl ?_)))))
 refine A7 (A3 22 _ (.bool (reqR (3:Int) lq fs (mn) eq (blankB pv ep ((k:Int)) l ls bl tg) (decide (mayN pv ep ((k:Int)) l ls bl = 0)))) (AV _ Tryd.call22 rfl) (fun w1 hw1 => FP sq (3:Int) aiq niq ciq lq fs (mn) pv ep ((k:Int)) ai ni ci l sa ns sc ls bl tg eq w1 hlq (by omega) (by omega) (by omega) (CF hw1 rfl hvq) hl (by omega) (by omega) (by omega) (CF hw1 rfl hv) hls (by omega) (by omega) (by omega) (CF hw1 rfl hs) htg (by omega) (by omega))) rfl ?_
 show JL _ _ _ _ ((10, .bool (reqR (3:Int) lq fs (mn) eq (blankB pv ep ((k:Int)) l ls bl tg) (decide (mayN pv ep ((k:Int)) l ls bl = 0)))) :: _) [_]
 refine AA (.bool (!(reqR (3:Int) lq fs (mn) eq (blankB pv ep ((k:Int)) l ls bl tg) (decide (mayN pv ep ((k:Int)) l ls bl = 0))))) (D1 rfl) rfl ?_
 refine AJ (AD (BT _ rfl (bnotT hR) ?_))
 refine BH (AD (AF (AC (AA (.agg #[.nilIface, SL none 0 0]) (CY [] _ rfl (fun _ => by kernel_rfl)) rfl ?_))))
 refine A2 (CN (.agg #[.nilIface, SL none 0 0]) ([.nilIface, SL none 0 0]) rfl (by first | rfl | simp)) rfl ?_
 rintro v1 L1 ⟨nb2, hnb2, rfl, rfl⟩
 show JL _ _ _ _ (_ :: _) [_, _]
 refine AA _ (AE rfl) rfl ?_
 refine AJ (AD (AF (DB 82 3 [(0, Ptr nb2 0), (1, Ptr nb1 0), (2, U64 sq), (4, Ptr nb1 1), (5, I64 3), (6, U64 3)] B6 rfl (by decide +kernel) ?_)))
 refine C2 ⟨[], [0, 1, 2, 4, 5, 6], [], [0, 1, 2, 4, 5, 6], [3]⟩ 3 _ rfl rfl (by decide +kernel) rfl ⟨CB rfl rfl rfl, AP rfl rfl (AB 0 22 1 AS rfl A1 rfl rfl), AP rfl rfl (AL rfl (AX A8 (AR 0 rfl (AI (AI (Seg.head)))))), AP rfl rfl (AB 1 3 1 AS rfl AW rfl rfl), AP rfl rfl (AL rfl (AX A0 (AR 0 rfl (AI (AI (AH (Seg.head))))))), AP rfl rfl (CV _ _ rfl fun _ => DX (by rw [A4]; rfl) AU rfl), trivial⟩ rfl (BO rfl (BD 81 _ [false, true] [nb2] _ (AV _ B9 rfl) rfl (fun w1 hw1 => numN_c nb2 8 .nilIface sq 8 w1 (hw1.en 1 rfl) (by unfold Szd; omega) (fun h => absurd h (by omega)) (by omega)))) ?_
 rintro v1 L1 ⟨_, ⟨rfl, nb3, sp1, cp1, rfl, hc1, hc2, hc3⟩, rfl⟩
 refine ⟨[], ?_⟩
 show DP _ _ _ _ _ _ _ _ [_, (Ez nb2 [.nilIface, Slc nb3 0 8 cp1] 149), (Ez nb3 (cu8 (numK 8 sq 8) ++ sp1) 5)]
 refine C2 ⟨[3], [0, 1, 2, 4, 5, 6], [0, 1, 2], [4, 5, 6], [7]⟩ 7 _ rfl rfl (by decide +kernel) rfl ⟨AP rfl rfl (AB 1 3 1 AS rfl AW rfl rfl), AP rfl rfl (AL rfl (AX A0 (AR 0 rfl (AI (AI (AH (Seg.head))))))), AP rfl rfl (CV _ _ rfl fun _ => DX (by rw [A4]; rfl) AU rfl), trivial⟩ rfl (BO rfl (BD 81 _ [false, true, true] [nb2, nb3] _ (AV _ B9 rfl) rfl (fun w1 hw1 => E1 nb2 nb3 8 cp1 9 .nilIface (numK 8 sq 8) sp1 (3:UInt64) 1 w1 (hw1.en 1 rfl) (hw1.en 2 rfl) (hw1.ne (i := 1) (j := 2) rfl rfl (by decide)) (show (numK 8 sq 8).length = 8 from (AZ _ _ _)) hc1 hc2 hc3 (by omega) (by unfold Szd; omega) (fun _ => by decide) (by omega)))) ?_
 rintro v1 L1 ⟨_, ⟨rfl, nb4, sp2, cp2, rfl, hc4, hc5, hc6⟩, rfl⟩
 refine ⟨[], ?_⟩
 show DP _ _ _ _ _ _ _ _ [_, (Ez nb2 [.nilIface, Slc nb4 0 9 cp2] 149), (Ez nb4 (cu8 ((numK 8 sq 8) ++ numK 1 (3:UInt64) 1) ++ sp2) 5)]
 refine DR ⟨[3, 7], [0, 1, 2, 4, 5, 6], [0, 1, 2, 4, 5, 6], [], []⟩ rfl rfl (by decide +kernel) rfl trivial ?_
 refine C5 (F' := [(1, Ptr nb1 0), (2, SL none 0 0), (3, .nilIface), (4, Ptr nb2 0)]) (by kernel_rfl) ?_
 refine AD (AF (AF (AC (AA (Ptr nb1 1) (AB 1 3 1 AS rfl AW rfl rfl) rfl ?_))))
 refine AA _ (AL rfl (AX A0 (AR 0 rfl (AI (AI (AH (Seg.head))))))) rfl ?_
 refine AA (.bool (decide ((3:Int) = (3:Int)))) (AT rfl rfl fun _ => BP _ _) rfl ?_
 refine AJ (AD (CH _ rfl (by decide) ?_))
 refine AF (AC (AA (Ptr nb1 5) (AB 5 29 22 AS rfl BB rfl rfl) rfl ?_))
 refine AA _ (AL rfl (BR CA BB (by simp [htg]) (AR 0 rfl (DL (p := [U64 sq, I64 3, SL aiq niq ciq, U64 fs, I64 (mn)]) (q := [U64 eq]) (vs := (V2 pv ep k ai ni ci sa ns sc bl tg)) (by first | rfl | (simp only [List.append_assoc, List.nil_append, List.append_nil, List.cons_append]; done)) rfl)))) rfl ?_
 refine A2 (C6 47 _ _ (AV _ Tryd.call47 rfl) (fun w1 hw1 => put13_c pv ep k ai ni ci l sa ns sc ls bl tg tot w1 hl (by omega) (by omega) (by omega) (CF hw1 rfl hv) hls (by omega) (by omega) (by omega) (CF hw1 rfl hs) htg hmay hk hsm htot (by omega))) rfl ?_
 rintro v1 L1 ⟨_, ⟨nb5, sp3, cp3, rfl, rfl, hc7, hc8, hc9⟩, rfl⟩
 show JL _ _ _ _ ((29, .tuple #[Slc nb5 0 (tot + 16) cp3, .nilIface]) :: _) [_, _, _, (Ez nb5 (cu8 ((tktT pv ep k l ls bl) ++ tg) ++ sp3) 5)]
 refine AA _ (AG rfl) rfl (AA _ (BI rfl rfl) rfl (AA _ (BI rfl rfl) rfl (AA _ (AE rfl) rfl (AA _ (AE rfl) rfl ?_))))
 refine AJ (AD (AF (AF (AC (AA _ (AG rfl) rfl ?_)))))
 refine AA (.bool false) (DM _ _ _ rfl rfl (fun _ => FW ..) fun _ => FJ BG) rfl ?_
 refine AJ (AD (BT _ rfl rfl ?_))
 refine BH (AD (AF (AC (AA _ (AG rfl) rfl ?_))))
 refine AA _ (AG rfl) rfl ?_
 refine A2 (BD 82 _ [false, true, true, false] [nb2, nb4] _ (AV _ Tryd.call82 rfl) rfl (fun w1 hw1 => rawO_c nb2 nb4 9 cp2 (tot + 25) .nilIface ((numK 8 sq 8) ++ numK 1 (3:UInt64) 1) sp2 (some ⟨nb5, 0, none⟩) (tot + 16) cp3 ((tktT pv ep k l ls bl) ++ tg) w1 (hw1.en 1 rfl) (hw1.en 2 rfl) (hw1.ne (i := 1) (j := 2) rfl rfl (by decide)) (show ((numK 8 sq 8) ++ numK 1 (3:UInt64) 1).length = 9 from (by rw [List.length_append, (show (numK 8 sq 8).length = 8 from (AZ _ _ _)), AZ] <;> omega)) hc4 hc5 hc6 (by omega) (show ((tktT pv ep k l ls bl) ++ tg).length = (tot + 16) from (by rw [List.length_append, ((FM hl hls).trans htot), htg])) (by omega) (RdB.of hw1 (AR 3 rfl (AI (AN _))) (by intro _; simp only [List.mem_cons, List.not_mem_nil, or_false, not_or]; exact ⟨hw1.ne (i := 3) (j := 1) rfl rfl (by decide), hw1.ne (i := 3) (j := 2) rfl rfl (by decide)⟩)) (by omega))) rfl ?_
 rintro v1 L1 ⟨_, ⟨rfl, nb6, sp4, cp4, rfl, hc10, hc11, hc12⟩, rfl⟩
 show JL _ _ _ _ ((37, Ptr nb2 0) :: _) [_, _, (Ez nb2 [.nilIface, Slc nb6 0 (tot + 25) cp4] 149), (Ez nb6 (cu8 (((numK 8 sq 8) ++ numK 1 (3:UInt64) 1) ++ ((tktT pv ep k l ls bl) ++ tg)) ++ sp4) 5)]
 refine A2 (C6 83 _ _ (AV _ E4 rfl) (fun w1 hw1 => F8 nb2 0 nb6 (tot + 25) cp4 (((numK 8 sq 8) ++ numK 1 (3:UInt64) 1) ++ ((tktT pv ep k l ls bl) ++ tg)) w1 (RdA.of hw1 (AR 2 rfl (AN _)) (by simp)) rfl (show (((numK 8 sq 8) ++ numK 1 (3:UInt64) 1) ++ ((tktT pv ep k l ls bl) ++ tg)).length = (tot + 25) from (by rw [List.length_append, (show ((numK 8 sq 8) ++ numK 1 (3:UInt64) 1).length = 9 from (by rw [List.length_append, (show (numK 8 sq 8).length = 8 from (AZ _ _ _)), AZ] <;> omega)), (show ((tktT pv ep k l ls bl) ++ tg).length = (tot + 16) from (by rw [List.length_append, ((FM hl hls).trans htot), htg]))] <;> omega)) (by omega) (RdB.of hw1 (AR 3 rfl (AI (AN _))) (by simp)))) rfl ?_
 rintro v1 L1 ⟨_, ⟨nb7, sp5, cp5, rfl, rfl, hc13, hc14, hc15⟩, rfl⟩
 show JL _ _ _ _ ((38, .tuple #[Slc nb7 0 (tot + 25) cp5, .nilIface]) :: _) [_, _, _, _, (Ez nb7 (cu8 (((numK 8 sq 8) ++ numK 1 (3:UInt64) 1) ++ ((tktT pv ep k l ls bl) ++ tg)) ++ sp5) 5)]
 refine AA _ (BI rfl rfl) rfl (AA _ (BI rfl rfl) rfl (AA _ (AE rfl) rfl (AA _ (AE rfl) rfl ?_)))
 refine AJ (AD (BK (A6 (CD [false, false, false, false, true] ?_))))
 show JQ _ _ _ _ [_]
 refine BJ (.tuple #[Slc nb7 0 (tot + 25) cp5, .nilIface]) (res2 Tryd.results21 (BF rfl) (BF rfl)) fun w1 hw1 => ?_
 skip
 exact ⟨_, _, rfl, ⟨nb7, sp5, cp5, rfl, rfl, hc13, hc14, hc15⟩, hw1.sub (by simp) (by simp)⟩
theorem putReq4_c (sq : UInt64) (aiq : Option Addr) (niq ciq : Nat) (lq : List UInt64) (fs : UInt64) (mn : Int) (pv ep : UInt64) (kd : Int) (ai : Option Addr) (ni ci : Nat) (l : List UInt64) (sa : Option Addr) (ns sc : Nat) (ls : List SealR) (bl : UInt64) (tg : List UInt8) (eq : UInt64)  (w : World) (hlq : lq.length = niq) (hnmq : niq ≤ 2000000) (hncq : niq ≤ ciq) (hcmq : ciq ≤ maxLen) (hvq : RdV w aiq (cu64 lq)) (hl : l.length = ni) (hnm : ni ≤ 2000000) (hnc : ni ≤ ci) (hcm : ci ≤ maxLen) (hv : RdV w ai (cu64 l)) (hls : ls.length = ns) (hnn : ns ≤ 2000000) (hnd : ns ≤ sc) (hcn : sc ≤ maxLen) (hs : RdV w sa (ls.flatMap sealC)) (htg : tg.length = 16) (hbi : ni ≤ 300) (hbs : ns ≤ 300) (hR : reqR (4:Int) lq fs mn eq (blankB pv ep kd l ls bl tg) (decide (mayN pv ep kd l ls bl = 0)) = true)  : Calls Tryd.prog 21 #[.agg (V1 sq 4 aiq niq ciq fs (mn) pv ep (kd) ai ni ci sa ns sc bl tg eq).toArray] w (Post w [] (fun v L => ∃ g sp cap, v = .tuple #[Slc g 0 (17) cap, .nilIface] ∧ L = [(Ez g (cu8 ((numK 8 sq 8 ++ numK 1 (4:UInt64) 1) ++ numK 8 eq 8) ++ sp) 5)] ∧ sp.length = cap - (17) ∧ 17 ≤ cap ∧ cap ≤ maxLen)) := by
 have hmx : maxLen = 9223372036854775807 := rfl
 refine enter (P := Tryd.prog) (f := 21) (fn := Tryd.f21) w [] 82 [] [.agg (V1 sq 4 aiq niq ciq fs (mn) pv ep (kd) ai ni ci sa ns sc bl tg eq).toArray] Tryd.func21 rfl rfl (by simp) (BZ (by simp) (by simp) (by simp)) ?_
 show JC _ _ _ [(0, .agg (V1 sq 4 aiq niq ciq fs (mn) pv ep (kd) ai ni ci sa ns sc bl tg eq).toArray)] _
 refine AF (AC (A2 (CN (.agg (V1 sq 4 aiq niq ciq fs (mn) pv ep (kd) ai ni ci sa ns sc bl tg eq).toArray) (V1 sq 4 aiq niq ciq fs (mn) pv ep (kd) ai ni ci sa ns sc bl tg eq) rfl (by first | rfl | simp)) rfl ?_))
 rintro v1 L1 ⟨nb1, hnb1, rfl, rfl⟩
 show JL _ _ _ _ (_ :: _) [_]
 refine AA _ (AE rfl) rfl (AA _ (AE rfl) rfl ?_)
 refine AJ (AD (AF (AF (AC (AA _ (AL rfl (BR CW BX (by simp [htg]) (AR 0 rfl (AN _)))) rfl ?_)))))
 refine A7 (A3 22 _ (.bool (reqR (4:Int) lq fs (mn) eq (blankB pv ep (kd) l ls bl tg) (decide (mayN pv ep (kd) l ls bl = 0)))) (AV _ Tryd.call22 rfl) (fun w1 hw1 => FP sq (4:Int) aiq niq ciq lq fs (mn) pv ep (kd) ai ni ci l sa ns sc ls bl tg eq w1 hlq (by omega) (by omega) (by omega) (CF hw1 rfl hvq) hl (by omega) (by omega) (by omega) (CF hw1 rfl hv) hls (by omega) (by omega) (by omega) (CF hw1 rfl hs) htg (by omega) (by omega))) rfl ?_
 show JL _ _ _ _ ((10, .bool (reqR (4:Int) lq fs (mn) eq (blankB pv ep (kd) l ls bl tg) (decide (mayN pv ep (kd) l ls bl = 0)))) :: _) [_]
 refine AA (.bool (!(reqR (4:Int) lq fs (mn) eq (blankB pv ep (kd) l ls bl tg) (decide (mayN pv ep (kd) l ls bl = 0))))) (D1 rfl) rfl ?_
 refine AJ (AD (BT _ rfl (bnotT hR) ?_))
 refine BH (AD (AF (AC (AA (.agg #[.nilIface, SL none 0 0]) (CY [] _ rfl (fun _ => by kernel_rfl)) rfl ?_))))
 refine A2 (CN (.agg #[.nilIface, SL none 0 0]) ([.nilIface, SL none 0 0]) rfl (by first | rfl | simp)) rfl ?_
 rintro v1 L1 ⟨nb2, hnb2, rfl, rfl⟩
 show JL _ _ _ _ (_ :: _) [_, _]
 refine AA _ (AE rfl) rfl ?_
 refine AJ (AD (AF (DB 82 3 [(0, Ptr nb2 0), (1, Ptr nb1 0), (2, U64 sq), (4, Ptr nb1 1), (5, I64 4), (6, U64 4)] B6 rfl (by decide +kernel) ?_)))
 refine C2 ⟨[], [0, 1, 2, 4, 5, 6], [], [0, 1, 2, 4, 5, 6], [3]⟩ 3 _ rfl rfl (by decide +kernel) rfl ⟨CB rfl rfl rfl, AP rfl rfl (AB 0 22 1 AS rfl A1 rfl rfl), AP rfl rfl (AL rfl (AX A8 (AR 0 rfl (AI (AI (Seg.head)))))), AP rfl rfl (AB 1 3 1 AS rfl AW rfl rfl), AP rfl rfl (AL rfl (AX A0 (AR 0 rfl (AI (AI (AH (Seg.head))))))), AP rfl rfl (CV _ _ rfl fun _ => DX (by rw [A4]; rfl) AU rfl), trivial⟩ rfl (BO rfl (BD 81 _ [false, true] [nb2] _ (AV _ B9 rfl) rfl (fun w1 hw1 => numN_c nb2 8 .nilIface sq 8 w1 (hw1.en 1 rfl) (by unfold Szd; omega) (fun h => absurd h (by omega)) (by omega)))) ?_
 rintro v1 L1 ⟨_, ⟨rfl, nb3, sp1, cp1, rfl, hc1, hc2, hc3⟩, rfl⟩
 refine ⟨[], ?_⟩
 show DP _ _ _ _ _ _ _ _ [_, (Ez nb2 [.nilIface, Slc nb3 0 8 cp1] 149), (Ez nb3 (cu8 (numK 8 sq 8) ++ sp1) 5)]
 refine C2 ⟨[3], [0, 1, 2, 4, 5, 6], [0, 1, 2], [4, 5, 6], [7]⟩ 7 _ rfl rfl (by decide +kernel) rfl ⟨AP rfl rfl (AB 1 3 1 AS rfl AW rfl rfl), AP rfl rfl (AL rfl (AX A0 (AR 0 rfl (AI (AI (AH (Seg.head))))))), AP rfl rfl (CV _ _ rfl fun _ => DX (by rw [A4]; rfl) AU rfl), trivial⟩ rfl (BO rfl (BD 81 _ [false, true, true] [nb2, nb3] _ (AV _ B9 rfl) rfl (fun w1 hw1 => E1 nb2 nb3 8 cp1 9 .nilIface (numK 8 sq 8) sp1 (4:UInt64) 1 w1 (hw1.en 1 rfl) (hw1.en 2 rfl) (hw1.ne (i := 1) (j := 2) rfl rfl (by decide)) (show (numK 8 sq 8).length = 8 from (AZ _ _ _)) hc1 hc2 hc3 (by omega) (by unfold Szd; omega) (fun _ => by decide) (by omega)))) ?_
 rintro v1 L1 ⟨_, ⟨rfl, nb4, sp2, cp2, rfl, hc4, hc5, hc6⟩, rfl⟩
 refine ⟨[], ?_⟩
 show DP _ _ _ _ _ _ _ _ [_, (Ez nb2 [.nilIface, Slc nb4 0 9 cp2] 149), (Ez nb4 (cu8 ((numK 8 sq 8) ++ numK 1 (4:UInt64) 1) ++ sp2) 5)]
 refine DR ⟨[3, 7], [0, 1, 2, 4, 5, 6], [0, 1, 2, 4, 5, 6], [], []⟩ rfl rfl (by decide +kernel) rfl trivial ?_
 refine C5 (F' := [(1, Ptr nb1 0), (2, SL none 0 0), (3, .nilIface), (4, Ptr nb2 0)]) (by kernel_rfl) ?_
 refine AD (AF (AF (AC (AA (Ptr nb1 1) (AB 1 3 1 AS rfl AW rfl rfl) rfl ?_))))
 refine AA _ (AL rfl (AX A0 (AR 0 rfl (AI (AI (AH (Seg.head))))))) rfl ?_
 refine AA (.bool (decide ((4:Int) = (3:Int)))) (AT rfl rfl fun _ => BP _ _) rfl ?_
 refine AJ (AD (BT _ rfl (by decide) ?_))
 refine BH (AD (AF (AC (AA _ (AG rfl) rfl ?_))))
 refine AA (Ptr nb1 27) (AB 27 22 1 AS rfl A1 rfl rfl) rfl (AA _ (AL rfl (AX A8 (AR 0 rfl (Seg.right 27 0 (by simp [htg]) rfl (Seg.head))))) rfl ?_)
 refine A2 (BD 81 _ [false, true, true] [nb2, nb4] _ (AV _ B9 rfl) rfl (fun w1 hw1 => E1 nb2 nb4 9 cp2 17 .nilIface ((numK 8 sq 8) ++ numK 1 (4:UInt64) 1) sp2 eq 8 w1 (hw1.en 1 rfl) (hw1.en 2 rfl) (hw1.ne (i := 1) (j := 2) rfl rfl (by decide)) (show ((numK 8 sq 8) ++ numK 1 (4:UInt64) 1).length = 9 from (by rw [List.length_append, (show (numK 8 sq 8).length = 8 from (AZ _ _ _)), AZ] <;> omega)) hc4 hc5 hc6 (by omega) (by unfold Szd; omega) (fun h => absurd h (by omega)) (by omega))) rfl ?_
 rintro v1 L1 ⟨_, ⟨rfl, nb5, sp3, cp3, rfl, hc7, hc8, hc9⟩, rfl⟩
 show JL _ _ _ _ ((44, Ptr nb2 0) :: _) [_, (Ez nb2 [.nilIface, Slc nb5 0 17 cp3] 149), (Ez nb5 (cu8 (((numK 8 sq 8) ++ numK 1 (4:UInt64) 1) ++ numK 8 eq 8) ++ sp3) 5)]
 refine AJ (AD (AF (AF (AC (AA (Ptr nb1 1) (AB 1 3 1 AS rfl AW rfl rfl) rfl ?_)))))
 refine AA _ (AL rfl (AX A0 (AR 0 rfl (AI (AI (AH (Seg.head))))))) rfl ?_
 refine AJ (AD (B5 (AF (AC (AA (.bool (decide ((4:Int) = (1:Int)))) (AT rfl rfl fun _ => BP _ _) rfl ?_)))))
 refine AA _ (AE rfl) rfl ?_
 refine AJ (AD (BT _ rfl (by decide) ?_))
 refine AF (AC (AA (.bool (decide ((4:Int) = (2:Int)))) (AT rfl rfl fun _ => BP _ _) rfl ?_))
 refine AA _ (AE rfl) rfl ?_
 refine AJ (AD (BT _ rfl (by decide) ?_))
 refine BH (BU (AD (AF (AC (AA _ (AG rfl) rfl ?_)))))
 refine A2 (C6 83 _ _ (AV _ E4 rfl) (fun w1 hw1 => F8 nb2 0 nb5 17 cp3 (((numK 8 sq 8) ++ numK 1 (4:UInt64) 1) ++ numK 8 eq 8) w1 (RdA.of hw1 (AR 1 rfl (AN _)) (by simp)) rfl (show (((numK 8 sq 8) ++ numK 1 (4:UInt64) 1) ++ numK 8 eq 8).length = 17 from (by rw [List.length_append, (show ((numK 8 sq 8) ++ numK 1 (4:UInt64) 1).length = 9 from (by rw [List.length_append, (show (numK 8 sq 8).length = 8 from (AZ _ _ _)), AZ] <;> omega)), AZ] <;> omega)) (by omega) (RdB.of hw1 (AR 2 rfl (AI (AN _))) (by simp)))) rfl ?_
 rintro v1 L1 ⟨_, ⟨nb6, sp4, cp4, rfl, rfl, hc10, hc11, hc12⟩, rfl⟩
 show JL _ _ _ _ ((79, .tuple #[Slc nb6 0 17 cp4, .nilIface]) :: _) [_, _, _, (Ez nb6 (cu8 (((numK 8 sq 8) ++ numK 1 (4:UInt64) 1) ++ numK 8 eq 8) ++ sp4) 5)]
 refine AA _ (BI rfl rfl) rfl (AA _ (BI rfl rfl) rfl (AA _ (AE rfl) rfl (AA _ (AE rfl) rfl ?_)))
 refine AJ (AD (BK (CD [false, false, false, true] ?_)))
 show JQ _ _ _ _ [_]
 refine BJ (.tuple #[Slc nb6 0 17 cp4, .nilIface]) (res2 Tryd.results21 (BF rfl) (BF rfl)) fun w1 hw1 => ?_
 skip
 exact ⟨_, _, rfl, ⟨nb6, sp4, cp4, rfl, rfl, hc10, hc11, hc12⟩, hw1.sub (by simp) (by simp)⟩
theorem putReq5_c (sq : UInt64) (aiq : Option Addr) (niq ciq : Nat) (lq : List UInt64) (fs : UInt64) (mn : Int) (pv ep : UInt64) (kd : Int) (ai : Option Addr) (ni ci : Nat) (l : List UInt64) (sa : Option Addr) (ns sc : Nat) (ls : List SealR) (bl : UInt64) (tg : List UInt8) (eq : UInt64)  (w : World) (hlq : lq.length = niq) (hnmq : niq ≤ 2000000) (hncq : niq ≤ ciq) (hcmq : ciq ≤ maxLen) (hvq : RdV w aiq (cu64 lq)) (hl : l.length = ni) (hnm : ni ≤ 2000000) (hnc : ni ≤ ci) (hcm : ci ≤ maxLen) (hv : RdV w ai (cu64 l)) (hls : ls.length = ns) (hnn : ns ≤ 2000000) (hnd : ns ≤ sc) (hcn : sc ≤ maxLen) (hs : RdV w sa (ls.flatMap sealC)) (htg : tg.length = 16) (hbi : ni ≤ 300) (hbs : ns ≤ 300) (hR : reqR (5:Int) lq fs mn eq (blankB pv ep kd l ls bl tg) (decide (mayN pv ep kd l ls bl = 0)) = true)  : Calls Tryd.prog 21 #[.agg (V1 sq 5 aiq niq ciq fs (mn) pv ep (kd) ai ni ci sa ns sc bl tg eq).toArray] w (Post w [] (fun v L => ∃ g sp cap, v = .tuple #[Slc g 0 (17) cap, .nilIface] ∧ L = [(Ez g (cu8 ((numK 8 sq 8 ++ numK 1 (5:UInt64) 1) ++ numK 8 eq 8) ++ sp) 5)] ∧ sp.length = cap - (17) ∧ 17 ≤ cap ∧ cap ≤ maxLen)) := by
 have hmx : maxLen = 9223372036854775807 := rfl
 refine enter (P := Tryd.prog) (f := 21) (fn := Tryd.f21) w [] 82 [] [.agg (V1 sq 5 aiq niq ciq fs (mn) pv ep (kd) ai ni ci sa ns sc bl tg eq).toArray] Tryd.func21 rfl rfl (by simp) (BZ (by simp) (by simp) (by simp)) ?_
 show JC _ _ _ [(0, .agg (V1 sq 5 aiq niq ciq fs (mn) pv ep (kd) ai ni ci sa ns sc bl tg eq).toArray)] _
 refine AF (AC (A2 (CN (.agg (V1 sq 5 aiq niq ciq fs (mn) pv ep (kd) ai ni ci sa ns sc bl tg eq).toArray) (V1 sq 5 aiq niq ciq fs (mn) pv ep (kd) ai ni ci sa ns sc bl tg eq) rfl (by first | rfl | simp)) rfl ?_))
 rintro v1 L1 ⟨nb1, hnb1, rfl, rfl⟩
 show JL _ _ _ _ (_ :: _) [_]
 refine AA _ (AE rfl) rfl (AA _ (AE rfl) rfl ?_)
 refine AJ (AD (AF (AF (AC (AA _ (AL rfl (BR CW BX (by simp [htg]) (AR 0 rfl (AN _)))) rfl ?_)))))
 refine A7 (A3 22 _ (.bool (reqR (5:Int) lq fs (mn) eq (blankB pv ep (kd) l ls bl tg) (decide (mayN pv ep (kd) l ls bl = 0)))) (AV _ Tryd.call22 rfl) (fun w1 hw1 => FP sq (5:Int) aiq niq ciq lq fs (mn) pv ep (kd) ai ni ci l sa ns sc ls bl tg eq w1 hlq (by omega) (by omega) (by omega) (CF hw1 rfl hvq) hl (by omega) (by omega) (by omega) (CF hw1 rfl hv) hls (by omega) (by omega) (by omega) (CF hw1 rfl hs) htg (by omega) (by omega))) rfl ?_
 show JL _ _ _ _ ((10, .bool (reqR (5:Int) lq fs (mn) eq (blankB pv ep (kd) l ls bl tg) (decide (mayN pv ep (kd) l ls bl = 0)))) :: _) [_]
 refine AA (.bool (!(reqR (5:Int) lq fs (mn) eq (blankB pv ep (kd) l ls bl tg) (decide (mayN pv ep (kd) l ls bl = 0))))) (D1 rfl) rfl ?_
 refine AJ (AD (BT _ rfl (bnotT hR) ?_))
 refine BH (AD (AF (AC (AA (.agg #[.nilIface, SL none 0 0]) (CY [] _ rfl (fun _ => by kernel_rfl)) rfl ?_))))
 refine A2 (CN (.agg #[.nilIface, SL none 0 0]) ([.nilIface, SL none 0 0]) rfl (by first | rfl | simp)) rfl ?_
 rintro v1 L1 ⟨nb2, hnb2, rfl, rfl⟩
 show JL _ _ _ _ (_ :: _) [_, _]
 refine AA _ (AE rfl) rfl ?_
 refine AJ (AD (AF (DB 82 3 [(0, Ptr nb2 0), (1, Ptr nb1 0), (2, U64 sq), (4, Ptr nb1 1), (5, I64 5), (6, U64 5)] B6 rfl (by decide +kernel) ?_)))
 refine C2 ⟨[], [0, 1, 2, 4, 5, 6], [], [0, 1, 2, 4, 5, 6], [3]⟩ 3 _ rfl rfl (by decide +kernel) rfl ⟨CB rfl rfl rfl, AP rfl rfl (AB 0 22 1 AS rfl A1 rfl rfl), AP rfl rfl (AL rfl (AX A8 (AR 0 rfl (AI (AI (Seg.head)))))), AP rfl rfl (AB 1 3 1 AS rfl AW rfl rfl), AP rfl rfl (AL rfl (AX A0 (AR 0 rfl (AI (AI (AH (Seg.head))))))), AP rfl rfl (CV _ _ rfl fun _ => DX (by rw [A4]; rfl) AU rfl), trivial⟩ rfl (BO rfl (BD 81 _ [false, true] [nb2] _ (AV _ B9 rfl) rfl (fun w1 hw1 => numN_c nb2 8 .nilIface sq 8 w1 (hw1.en 1 rfl) (by unfold Szd; omega) (fun h => absurd h (by omega)) (by omega)))) ?_
 rintro v1 L1 ⟨_, ⟨rfl, nb3, sp1, cp1, rfl, hc1, hc2, hc3⟩, rfl⟩
 refine ⟨[], ?_⟩
 show DP _ _ _ _ _ _ _ _ [_, (Ez nb2 [.nilIface, Slc nb3 0 8 cp1] 149), (Ez nb3 (cu8 (numK 8 sq 8) ++ sp1) 5)]
 refine C2 ⟨[3], [0, 1, 2, 4, 5, 6], [0, 1, 2], [4, 5, 6], [7]⟩ 7 _ rfl rfl (by decide +kernel) rfl ⟨AP rfl rfl (AB 1 3 1 AS rfl AW rfl rfl), AP rfl rfl (AL rfl (AX A0 (AR 0 rfl (AI (AI (AH (Seg.head))))))), AP rfl rfl (CV _ _ rfl fun _ => DX (by rw [A4]; rfl) AU rfl), trivial⟩ rfl (BO rfl (BD 81 _ [false, true, true] [nb2, nb3] _ (AV _ B9 rfl) rfl (fun w1 hw1 => E1 nb2 nb3 8 cp1 9 .nilIface (numK 8 sq 8) sp1 (5:UInt64) 1 w1 (hw1.en 1 rfl) (hw1.en 2 rfl) (hw1.ne (i := 1) (j := 2) rfl rfl (by decide)) (show (numK 8 sq 8).length = 8 from (AZ _ _ _)) hc1 hc2 hc3 (by omega) (by unfold Szd; omega) (fun _ => by decide) (by omega)))) ?_
 rintro v1 L1 ⟨_, ⟨rfl, nb4, sp2, cp2, rfl, hc4, hc5, hc6⟩, rfl⟩
 refine ⟨[], ?_⟩
 show DP _ _ _ _ _ _ _ _ [_, (Ez nb2 [.nilIface, Slc nb4 0 9 cp2] 149), (Ez nb4 (cu8 ((numK 8 sq 8) ++ numK 1 (5:UInt64) 1) ++ sp2) 5)]
 refine DR ⟨[3, 7], [0, 1, 2, 4, 5, 6], [0, 1, 2, 4, 5, 6], [], []⟩ rfl rfl (by decide +kernel) rfl trivial ?_
 refine C5 (F' := [(1, Ptr nb1 0), (2, SL none 0 0), (3, .nilIface), (4, Ptr nb2 0)]) (by kernel_rfl) ?_
 refine AD (AF (AF (AC (AA (Ptr nb1 1) (AB 1 3 1 AS rfl AW rfl rfl) rfl ?_))))
 refine AA _ (AL rfl (AX A0 (AR 0 rfl (AI (AI (AH (Seg.head))))))) rfl ?_
 refine AA (.bool (decide ((5:Int) = (3:Int)))) (AT rfl rfl fun _ => BP _ _) rfl ?_
 refine AJ (AD (BT _ rfl (by decide) ?_))
 refine BH (AD (AF (AC (AA _ (AG rfl) rfl ?_))))
 refine AA (Ptr nb1 27) (AB 27 22 1 AS rfl A1 rfl rfl) rfl (AA _ (AL rfl (AX A8 (AR 0 rfl (Seg.right 27 0 (by simp [htg]) rfl (Seg.head))))) rfl ?_)
 refine A2 (BD 81 _ [false, true, true] [nb2, nb4] _ (AV _ B9 rfl) rfl (fun w1 hw1 => E1 nb2 nb4 9 cp2 17 .nilIface ((numK 8 sq 8) ++ numK 1 (5:UInt64) 1) sp2 eq 8 w1 (hw1.en 1 rfl) (hw1.en 2 rfl) (hw1.ne (i := 1) (j := 2) rfl rfl (by decide)) (show ((numK 8 sq 8) ++ numK 1 (5:UInt64) 1).length = 9 from (by rw [List.length_append, (show (numK 8 sq 8).length = 8 from (AZ _ _ _)), AZ] <;> omega)) hc4 hc5 hc6 (by omega) (by unfold Szd; omega) (fun h => absurd h (by omega)) (by omega))) rfl ?_
 rintro v1 L1 ⟨_, ⟨rfl, nb5, sp3, cp3, rfl, hc7, hc8, hc9⟩, rfl⟩
 show JL _ _ _ _ ((44, Ptr nb2 0) :: _) [_, (Ez nb2 [.nilIface, Slc nb5 0 17 cp3] 149), (Ez nb5 (cu8 (((numK 8 sq 8) ++ numK 1 (5:UInt64) 1) ++ numK 8 eq 8) ++ sp3) 5)]
 refine AJ (AD (AF (AF (AC (AA (Ptr nb1 1) (AB 1 3 1 AS rfl AW rfl rfl) rfl ?_)))))
 refine AA _ (AL rfl (AX A0 (AR 0 rfl (AI (AI (AH (Seg.head))))))) rfl ?_
 refine AJ (AD (B5 (AF (AC (AA (.bool (decide ((5:Int) = (1:Int)))) (AT rfl rfl fun _ => BP _ _) rfl ?_)))))
 refine AA _ (AE rfl) rfl ?_
 refine AJ (AD (BT _ rfl (by decide) ?_))
 refine AF (AC (AA (.bool (decide ((5:Int) = (2:Int)))) (AT rfl rfl fun _ => BP _ _) rfl ?_))
 refine AA _ (AE rfl) rfl ?_
 refine AJ (AD (BT _ rfl (by decide) ?_))
 refine BH (BU (AD (AF (AC (AA _ (AG rfl) rfl ?_)))))
 refine A2 (C6 83 _ _ (AV _ E4 rfl) (fun w1 hw1 => F8 nb2 0 nb5 17 cp3 (((numK 8 sq 8) ++ numK 1 (5:UInt64) 1) ++ numK 8 eq 8) w1 (RdA.of hw1 (AR 1 rfl (AN _)) (by simp)) rfl (show (((numK 8 sq 8) ++ numK 1 (5:UInt64) 1) ++ numK 8 eq 8).length = 17 from (by rw [List.length_append, (show ((numK 8 sq 8) ++ numK 1 (5:UInt64) 1).length = 9 from (by rw [List.length_append, (show (numK 8 sq 8).length = 8 from (AZ _ _ _)), AZ] <;> omega)), AZ] <;> omega)) (by omega) (RdB.of hw1 (AR 2 rfl (AI (AN _))) (by simp)))) rfl ?_
 rintro v1 L1 ⟨_, ⟨nb6, sp4, cp4, rfl, rfl, hc10, hc11, hc12⟩, rfl⟩
 show JL _ _ _ _ ((79, .tuple #[Slc nb6 0 17 cp4, .nilIface]) :: _) [_, _, _, (Ez nb6 (cu8 (((numK 8 sq 8) ++ numK 1 (5:UInt64) 1) ++ numK 8 eq 8) ++ sp4) 5)]
 refine AA _ (BI rfl rfl) rfl (AA _ (BI rfl rfl) rfl (AA _ (AE rfl) rfl (AA _ (AE rfl) rfl ?_)))
 refine AJ (AD (BK (CD [false, false, false, true] ?_)))
 show JQ _ _ _ _ [_]
 refine BJ (.tuple #[Slc nb6 0 17 cp4, .nilIface]) (res2 Tryd.results21 (BF rfl) (BF rfl)) fun w1 hw1 => ?_
 skip
 exact ⟨_, _, rfl, ⟨nb6, sp4, cp4, rfl, rfl, hc10, hc11, hc12⟩, hw1.sub (by simp) (by simp)⟩
theorem putReqB_c (sq : UInt64) (qk : Int) (aiq : Option Addr) (niq ciq : Nat) (lq : List UInt64) (fs : UInt64) (mn : Int) (pv ep : UInt64) (kd : Int) (ai : Option Addr) (ni ci : Nat) (l : List UInt64) (sa : Option Addr) (ns sc : Nat) (ls : List SealR) (bl : UInt64) (tg : List UInt8) (eq : UInt64)  (w : World) (hlq : lq.length = niq) (hnmq : niq ≤ 2000000) (hncq : niq ≤ ciq) (hcmq : ciq ≤ maxLen) (hvq : RdV w aiq (cu64 lq)) (hl : l.length = ni) (hnm : ni ≤ 2000000) (hnc : ni ≤ ci) (hcm : ci ≤ maxLen) (hv : RdV w ai (cu64 l)) (hls : ls.length = ns) (hnn : ns ≤ 2000000) (hnd : ns ≤ sc) (hcn : sc ≤ maxLen) (hs : RdV w sa (ls.flatMap sealC)) (htg : tg.length = 16) (hbi : ni ≤ 300) (hbs : ns ≤ 300) (hR : reqR qk lq fs mn eq (blankB pv ep kd l ls bl tg) (decide (mayN pv ep kd l ls bl = 0)) = false)  : Calls Tryd.prog 21 #[.agg (V1 sq (qk) aiq niq ciq fs (mn) pv ep (kd) ai ni ci sa ns sc bl tg eq).toArray] w (Post w [] (fun v L => v = .tuple #[SL none 0 0, .iface 50 (I64 2)] ∧ L = [])) := by
 have hmx : maxLen = 9223372036854775807 := rfl
 refine enter (P := Tryd.prog) (f := 21) (fn := Tryd.f21) w [] 82 [] [.agg (V1 sq (qk) aiq niq ciq fs (mn) pv ep (kd) ai ni ci sa ns sc bl tg eq).toArray] Tryd.func21 rfl rfl (by simp) (BZ (by simp) (by simp) (by simp)) ?_
 show JC _ _ _ [(0, .agg (V1 sq (qk) aiq niq ciq fs (mn) pv ep (kd) ai ni ci sa ns sc bl tg eq).toArray)] _
 refine AF (AC (A2 (CN (.agg (V1 sq (qk) aiq niq ciq fs (mn) pv ep (kd) ai ni ci sa ns sc bl tg eq).toArray) (V1 sq (qk) aiq niq ciq fs (mn) pv ep (kd) ai ni ci sa ns sc bl tg eq) rfl (by first | rfl | simp)) rfl ?_))
 rintro v1 L1 ⟨nb1, hnb1, rfl, rfl⟩
 show JL _ _ _ _ (_ :: _) [_]
 refine AA _ (AE rfl) rfl (AA _ (AE rfl) rfl ?_)
 refine AJ (AD (AF (AF (AC (AA _ (AL rfl (BR CW BX (by simp [htg]) (AR 0 rfl (AN _)))) rfl ?_)))))
 refine A7 (A3 22 _ (.bool (reqR (qk) lq fs (mn) eq (blankB pv ep (kd) l ls bl tg) (decide (mayN pv ep (kd) l ls bl = 0)))) (AV _ Tryd.call22 rfl) (fun w1 hw1 => FP sq (qk) aiq niq ciq lq fs (mn) pv ep (kd) ai ni ci l sa ns sc ls bl tg eq w1 hlq (by omega) (by omega) (by omega) (CF hw1 rfl hvq) hl (by omega) (by omega) (by omega) (CF hw1 rfl hv) hls (by omega) (by omega) (by omega) (CF hw1 rfl hs) htg (by omega) (by omega))) rfl ?_
 show JL _ _ _ _ ((10, .bool (reqR (qk) lq fs (mn) eq (blankB pv ep (kd) l ls bl tg) (decide (mayN pv ep (kd) l ls bl = 0)))) :: _) [_]
 refine AA (.bool (!(reqR (qk) lq fs (mn) eq (blankB pv ep (kd) l ls bl tg) (decide (mayN pv ep (kd) l ls bl = 0))))) (D1 rfl) rfl ?_
 refine AJ (AD (CH _ rfl (bnotF hR) ?_))
 refine AF (AC (AA (.iface 50 (I64 2)) (DH BN rfl rfl) rfl ?_))
 refine AA _ (AE rfl) rfl (AA _ (AE rfl) rfl ?_)
 refine AJ (AD (BK (A6 (CD [false] ?_))))
 show JQ _ _ _ _ []
 refine BJ (.tuple #[SL none 0 0, .iface 50 (I64 2)]) (res2 Tryd.results21 (BF rfl) (BF rfl)) fun w1 hw1 => ?_
 exact ⟨_, [], rfl, ⟨rfl, rfl⟩, hw1.no⟩
def GLw (w : World) : Prop := RdA w 0 0 [.string (⟨⟨[]⟩⟩), .string (⟨⟨[114, 101, 97, 100]⟩⟩), .string (⟨⟨[115, 112, 97, 110]⟩⟩), .string (⟨⟨[99, 104, 97, 110, 103, 101]⟩⟩), .string (⟨⟨[99, 104, 97, 105, 110]⟩⟩), .string (⟨⟨[102, 111, 114, 103, 101, 116]⟩⟩)]
theorem GLw.at {C : Cx} {L : List Ent} {w : World} (hw : Hp C.w0 C.M L w) (h : GLw C.w0) (h1 : 0 ∉ C.M := by simp) : GLw w := RdA_at hw h (by simp) h1
theorem word1_c  (w : World) (hW : RdA w 0 0 [.string (⟨⟨[]⟩⟩), .string (⟨⟨[114, 101, 97, 100]⟩⟩), .string (⟨⟨[115, 112, 97, 110]⟩⟩), .string (⟨⟨[99, 104, 97, 110, 103, 101]⟩⟩), .string (⟨⟨[99, 104, 97, 105, 110]⟩⟩), .string (⟨⟨[102, 111, 114, 103, 101, 116]⟩⟩)])  : Calls Tryd.prog 74 #[I64 1] w (Post w [] (fun v L => v = .string (⟨⟨[114, 101, 97, 100]⟩⟩) ∧ L = [])) := by
 refine enter w [] 12 [] [I64 1] Tryd.func74 rfl rfl (by simp) (BZ (by simp) (by simp) (by simp)) ?_
 show JC _ _ _ [(0, I64 1)] _
 refine AF (AC (AA _ (AE rfl) rfl ?_))
 refine AJ (AD (AF (AF (AC (AA _ (AG rfl) rfl ?_)))))
 refine AA (.bool (decide ((1:Int) < (1:Int)))) (AT rfl rfl fun _ => CL _ _) rfl ?_
 refine AA _ (AG rfl) rfl ?_
 refine AM 2 5 false _ _ rfl rfl (by decide) (AG rfl) rfl ?_
 refine AM 2 5 false _ (.bool (decide ((5:Int) < (1:Int)))) rfl rfl (by decide) (AT rfl rfl fun _ => DJ _ _) rfl ?_
 refine AA _ (A5 _ rfl (by decide) rfl) rfl ?_
 refine AJ (AD (BT _ rfl (by decide) ?_))
 refine BH (AD (AF (AC (AA _ (AG rfl) rfl ?_))))
 refine AA (Ptr 0 1) (Ev_indexArr 6 9 1 1 Tryd.underlying217 Tryd.sizeOf9 rfl rfl (by omega) (by omega) (by omega)) rfl (AA _ (AL rfl (AX Tryd.isAgg9 (C9 (hW.mem (by simp)) (AH (Seg.head)) (by first | omega | (simp; done) | (simp; omega))))) rfl ?_)
 refine AA _ (AE rfl) rfl ?_
 refine AJ (AD (BK (BJ (.string (⟨⟨[114, 101, 97, 100]⟩⟩)) (res1 Tryd.results74 (BF rfl)) fun w1 hw1 => ?_)))
 exact ⟨_, [], rfl, ⟨rfl, rfl⟩, hw1.no⟩
theorem bld31_016 {w : World} {v0 : Value} {v1 : Value} {v6 : Value} (h0 : v0.cells = [v0].toArray) (h1 : v1.cells = [v1].toArray) (h6 : v6.cells = [v6].toArray) : (Instr.build 31 ([(0, v0), (1, v1), (6, v6)] : List (Nat × Value)).toArray).run Tryd.prog w = .ok (.agg ((((((([v0] : List Value) ++ ([v1] : List Value)) ++ ([.slice none 0 0] : List Value)) ++ ([U64 0] : List Value)) ++ ([I64 0] : List Value)) ++ ([U64 0, U64 0, I64 0, .slice none 0 0, .slice none 0 0, U64 0] ++ cu8 (zr8 16) : List Value)) ++ ([v6] : List Value)).toArray) w :=
 ET (places := #[(0, 1), (1, 1), (2, 1), (3, 1), (4, 1), (5, 22), (27, 1)]) (Z := (([U64 0] : List Value) ++ (([I64 0] : List Value) ++ (([.slice none 0 0] : List Value) ++ (([U64 0] : List Value) ++ (([I64 0] : List Value) ++ (([U64 0, U64 0, I64 0, .slice none 0 0, .slice none 0 0, U64 0] ++ cu8 (zr8 16) : List Value) ++ (([U64 0] : List Value) ++ [])))))))) (fun _ => by kernel_rfl) AS (fun _ => by kernel_rfl) ((FV ([U64 0] : List Value) (([I64 0] : List Value) ++ (([.slice none 0 0] : List Value) ++ (([U64 0] : List Value) ++ (([I64 0] : List Value) ++ (([U64 0, U64 0, I64 0, .slice none 0 0, .slice none 0 0, U64 0] ++ cu8 (zr8 16) : List Value) ++ (([U64 0] : List Value) ++ [])))))) ([v0] : List Value) h0 (by simp [AO]) rfl).trans ((E2 ([v0] : List Value) ([I64 0] : List Value) (([.slice none 0 0] : List Value) ++ (([U64 0] : List Value) ++ (([I64 0] : List Value) ++ (([U64 0, U64 0, I64 0, .slice none 0 0, .slice none 0 0, U64 0] ++ cu8 (zr8 16) : List Value) ++ (([U64 0] : List Value) ++ []))))) ([v1] : List Value) h1 (by simp [AO]) rfl).trans ((EW (([v0] : List Value) ++ ([v1] : List Value)) ([.slice none 0 0] : List Value) (([U64 0] : List Value) ++ (([I64 0] : List Value) ++ (([U64 0, U64 0, I64 0, .slice none 0 0, .slice none 0 0, U64 0] ++ cu8 (zr8 16) : List Value) ++ (([U64 0] : List Value) ++ []))))).trans ((EW ((([v0] : List Value) ++ ([v1] : List Value)) ++ ([.slice none 0 0] : List Value)) ([U64 0] : List Value) (([I64 0] : List Value) ++ (([U64 0, U64 0, I64 0, .slice none 0 0, .slice none 0 0, U64 0] ++ cu8 (zr8 16) : List Value) ++ (([U64 0] : List Value) ++ [])))).trans ((EW (((([v0] : List Value) ++ ([v1] : List Value)) ++ ([.slice none 0 0] : List Value)) ++ ([U64 0] : List Value)) ([I64 0] : List Value) (([U64 0, U64 0, I64 0, .slice none 0 0, .slice none 0 0, U64 0] ++ cu8 (zr8 16) : List Value) ++ (([U64 0] : List Value) ++ []))).trans ((EW ((((([v0] : List Value) ++ ([v1] : List Value)) ++ ([.slice none 0 0] : List Value)) ++ ([U64 0] : List Value)) ++ ([I64 0] : List Value)) ([U64 0, U64 0, I64 0, .slice none 0 0, .slice none 0 0, U64 0] ++ cu8 (zr8 16) : List Value) (([U64 0] : List Value) ++ [])).trans ((E2 (((((([v0] : List Value) ++ ([v1] : List Value)) ++ ([.slice none 0 0] : List Value)) ++ ([U64 0] : List Value)) ++ ([I64 0] : List Value)) ++ ([U64 0, U64 0, I64 0, .slice none 0 0, .slice none 0 0, U64 0] ++ cu8 (zr8 16) : List Value)) ([U64 0] : List Value) [] ([v6] : List Value) h6 (by simp [AO]) rfl).trans (by simp [Instr.fill]))))))))
theorem alive14_c  (w : World) (hW : GLw w)  : Calls Tryd.prog 17 #[] w (Post w [] (fun v L => v = .bool true ∧ L = [])) := by
 have hmx : maxLen = 9223372036854775807 := rfl
 refine enter w [] 37 [] [] Tryd.func17 rfl rfl (by simp) (BZ (by simp) (by simp) (by simp)) ?_
 show JC _ _ _ [] _
 refine AF (AC (AA _ (AE rfl) rfl ?_))
 refine AJ (AD (AF (AC (AA (.agg (V1 1 5 none 0 0 0 0 0 0 0 none 0 0 none 0 0 0 (zr8 16) 3).toArray) (CY [(0, U64 1), (1, I64 5), (6, U64 3)] _ rfl (fun _ => bld31_016 rfl rfl rfl)) rfl ?_))))
 refine A2 (C6 21 _ _ (AV _ Tryd.call21 rfl) (fun w1 hw1 => putReq5_c (1:UInt64) none 0 0 ([] : List UInt64) (0:UInt64) (0:Int) (0:UInt64) (0:UInt64) (0:Int) none 0 0 ([] : List UInt64) none 0 0 ([] : List SealR) (0:UInt64) (zr8 16) (3:UInt64) w1 rfl (by omega) (by omega) (by omega) RdV.nil rfl (by omega) (by omega) (by omega) RdV.nil rfl (by omega) (by omega) (by omega) RdV.nil (AO 16) (by omega) (by omega) (by decide +kernel))) rfl ?_
 rintro v1 L1 ⟨_, ⟨nb1, sp1, cp1, rfl, rfl, hc1, hc2, hc3⟩, rfl⟩
 show JL _ _ _ _ ((5, .tuple #[Slc nb1 0 17 cp1, .nilIface]) :: _) [(Ez nb1 (cu8 ((numK 8 (1:UInt64) 8 ++ numK 1 (5:UInt64) 1) ++ numK 8 (3:UInt64) 8) ++ sp1) 5)]
 refine AA _ (AG rfl) rfl (AA _ (BI rfl rfl) rfl (AA _ (BI rfl rfl) rfl (AA _ (AE rfl) rfl (AA _ (AE rfl) rfl ?_))))
 refine AJ (AD (AF (AC (AA _ (AG rfl) rfl ?_))))
 refine AA (.bool true) (DM _ _ _ rfl rfl (fun _ => FW ..) fun _ => F5 BG) rfl ?_
 refine AA _ (AG rfl) rfl ?_
 refine AM 2 10 true _ _ rfl rfl rfl (AG rfl) rfl ?_
 refine AM 2 10 true _ (I64 17) rfl rfl rfl (DA BM rfl) rfl ?_
 refine AM 2 10 true _ (.bool (decide ((17:Int) = (17:Int)))) rfl rfl rfl (AT rfl rfl fun _ => BP _ _) rfl ?_
 refine AA _ (BA _ rfl rfl rfl) rfl (AA _ (AG rfl) rfl ?_)
 refine AM 7 15 true _ _ rfl rfl (by decide) (AG rfl) rfl ?_
 refine AM 7 15 true _ (Ptr nb1 7) rfl rfl (by decide) (Ev_indexSl 5 1 7 BM B7 rfl rfl (by omega) (by omega) (by omega)) rfl ?_
 refine AM 7 15 true _ _ rfl rfl (by decide) (AL rfl (AX EP (AR 0 rfl (AI (Seg.get (g8_get (i := 7) (by rw [(show ((numK 8 (1:UInt64) 8 ++ numK 1 (5:UInt64) 1) ++ numK 8 (3:UInt64) 8).length = 17 from (show ((numK 8 (1:UInt64) 8 ++ numK 1 (5:UInt64) 1) ++ numK 8 (3:UInt64) 8).length = 17 from (by simp [AZ])))]; omega))))))) rfl ?_
 refine AM 7 15 true _ (.bool (decide ((g8 ((numK 8 (1:UInt64) 8 ++ numK 1 (5:UInt64) 1) ++ numK 8 (3:UInt64) 8) 7) = (1:UInt8)))) rfl rfl (by decide) (AT rfl rfl fun _ => bin_eql_u8 (g8 ((numK 8 (1:UInt64) 8 ++ numK 1 (5:UInt64) 1) ++ numK 8 (3:UInt64) 8) 7) (1:UInt8)) rfl ?_
 refine AA _ (BA _ rfl (by decide) rfl) rfl (AA _ (AG rfl) rfl ?_)
 refine AM 13 21 true _ _ rfl rfl (by decide +kernel) (AG rfl) rfl ?_
 refine AM 13 21 true _ (Ptr nb1 8) rfl rfl (by decide +kernel) (Ev_indexSl 5 1 8 BM B7 rfl rfl (by omega) (by omega) (by omega)) rfl ?_
 refine AM 13 21 true _ _ rfl rfl (by decide +kernel) (AL rfl (AX EP (AR 0 rfl (AI (Seg.get (g8_get (i := 8) (by rw [(show ((numK 8 (1:UInt64) 8 ++ numK 1 (5:UInt64) 1) ++ numK 8 (3:UInt64) 8).length = 17 from (show ((numK 8 (1:UInt64) 8 ++ numK 1 (5:UInt64) 1) ++ numK 8 (3:UInt64) 8).length = 17 from (by simp [AZ])))]; omega))))))) rfl ?_
 refine AM 13 21 true _ (.bool (decide ((g8 ((numK 8 (1:UInt64) 8 ++ numK 1 (5:UInt64) 1) ++ numK 8 (3:UInt64) 8) 8) = (5:UInt8)))) rfl rfl (by decide +kernel) (AT rfl rfl fun _ => bin_eql_u8 (g8 ((numK 8 (1:UInt64) 8 ++ numK 1 (5:UInt64) 1) ++ numK 8 (3:UInt64) 8) 8) (5:UInt8)) rfl ?_
 refine AA _ (BA _ rfl (by decide +kernel) rfl) rfl (AA _ (AG rfl) rfl ?_)
 refine AM 19 27 true _ _ rfl rfl (by decide +kernel) (AG rfl) rfl ?_
 refine AM 19 27 true _ (Ptr nb1 16) rfl rfl (by decide +kernel) (Ev_indexSl 5 1 16 BM B7 rfl rfl (by omega) (by omega) (by omega)) rfl ?_
 refine AM 19 27 true _ _ rfl rfl (by decide +kernel) (AL rfl (AX EP (AR 0 rfl (AI (Seg.get (g8_get (i := 16) (by rw [(show ((numK 8 (1:UInt64) 8 ++ numK 1 (5:UInt64) 1) ++ numK 8 (3:UInt64) 8).length = 17 from (show ((numK 8 (1:UInt64) 8 ++ numK 1 (5:UInt64) 1) ++ numK 8 (3:UInt64) 8).length = 17 from (by simp [AZ])))]; omega))))))) rfl ?_
 refine AM 19 27 true _ (.bool (decide ((g8 ((numK 8 (1:UInt64) 8 ++ numK 1 (5:UInt64) 1) ++ numK 8 (3:UInt64) 8) 16) = (3:UInt8)))) rfl rfl (by decide +kernel) (AT rfl rfl fun _ => bin_eql_u8 (g8 ((numK 8 (1:UInt64) 8 ++ numK 1 (5:UInt64) 1) ++ numK 8 (3:UInt64) 8) 16) (3:UInt8)) rfl ?_
 refine AA _ (BA _ rfl (by decide +kernel) rfl) rfl (AA _ (AG rfl) rfl ?_)
 refine DC 25 33 true _ rfl rfl (by decide +kernel) (A3 74 _ (.string (⟨⟨[114, 101, 97, 100]⟩⟩)) (AV _ Tryd.call74 rfl) (fun w1 hw1 => word1_c w1 (GLw.at hw1 hW))) rfl ?_
 rintro v1 L1 ⟨rfl, rfl⟩
 show JL _ _ _ _ ((34, .string (⟨⟨[114, 101, 97, 100]⟩⟩)) :: _) [_]
 refine AM 25 33 true _ (.bool (decide (([114, 101, 97, 100] : List UInt8) = ([114, 101, 97, 100] : List UInt8)))) rfl rfl (by decide +kernel) (DM _ _ _ rfl rfl (fun _ => eqGuard_str ..) fun _ => eql_str) rfl ?_
 refine AA _ (BA _ rfl (by decide +kernel) rfl) rfl (AA _ (AE rfl) rfl ?_)
 refine AJ (AD (BK (CD [false] ?_)))
 show JQ _ _ _ _ []
 refine BJ (.bool (decide (([114, 101, 97, 100] : List UInt8) = ([114, 101, 97, 100] : List UInt8)))) (res1 Tryd.results17 (BF rfl)) fun w1 hw1 => ?_
 exact ⟨_, [], rfl, ⟨congrArg Value.bool (decide_eq_true rfl), rfl⟩, hw1.no⟩
theorem bld40_0123456 {w : World} {v0 : Value} {v1 : Value} {v2 : Value} {v3 : Value} {v4 : Value} {c5 : List Value} {v6 : Value} (h0 : v0.cells = [v0].toArray) (h1 : v1.cells = [v1].toArray) (h2 : v2.cells = [v2].toArray) (h3 : v3.cells = [v3].toArray) (h4 : v4.cells = [v4].toArray) (h5 : c5.length = 22) (h6 : v6.cells = [v6].toArray) : (Instr.build 40 ([(0, v0), (1, v1), (2, v2), (3, v3), (4, v4), (5, .agg c5.toArray), (6, v6)] : List (Nat × Value)).toArray).run Tryd.prog w = .ok (.agg ((((((([v0] : List Value) ++ ([v1] : List Value)) ++ ([v2] : List Value)) ++ ([v3] : List Value)) ++ ([v4] : List Value)) ++ c5) ++ ([v6] : List Value)).toArray) w :=
 ET (places := #[(0, 1), (1, 1), (2, 1), (3, 1), (4, 1), (5, 22), (27, 1)]) (Z := (([U64 0] : List Value) ++ (([I64 0] : List Value) ++ (([.slice none 0 0] : List Value) ++ (([U64 0] : List Value) ++ (([I64 0] : List Value) ++ (([U64 0, U64 0, I64 0, .slice none 0 0, .slice none 0 0, U64 0] ++ cu8 (zr8 16) : List Value) ++ (([U64 0] : List Value) ++ [])))))))) (fun _ => by kernel_rfl) DE (fun _ => by kernel_rfl) ((FV ([U64 0] : List Value) (([I64 0] : List Value) ++ (([.slice none 0 0] : List Value) ++ (([U64 0] : List Value) ++ (([I64 0] : List Value) ++ (([U64 0, U64 0, I64 0, .slice none 0 0, .slice none 0 0, U64 0] ++ cu8 (zr8 16) : List Value) ++ (([U64 0] : List Value) ++ [])))))) ([v0] : List Value) h0 (by simp [AO]) rfl).trans ((E2 ([v0] : List Value) ([I64 0] : List Value) (([.slice none 0 0] : List Value) ++ (([U64 0] : List Value) ++ (([I64 0] : List Value) ++ (([U64 0, U64 0, I64 0, .slice none 0 0, .slice none 0 0, U64 0] ++ cu8 (zr8 16) : List Value) ++ (([U64 0] : List Value) ++ []))))) ([v1] : List Value) h1 (by simp [AO]) rfl).trans ((E2 (([v0] : List Value) ++ ([v1] : List Value)) ([.slice none 0 0] : List Value) (([U64 0] : List Value) ++ (([I64 0] : List Value) ++ (([U64 0, U64 0, I64 0, .slice none 0 0, .slice none 0 0, U64 0] ++ cu8 (zr8 16) : List Value) ++ (([U64 0] : List Value) ++ [])))) ([v2] : List Value) h2 (by simp [AO]) rfl).trans ((E2 ((([v0] : List Value) ++ ([v1] : List Value)) ++ ([v2] : List Value)) ([U64 0] : List Value) (([I64 0] : List Value) ++ (([U64 0, U64 0, I64 0, .slice none 0 0, .slice none 0 0, U64 0] ++ cu8 (zr8 16) : List Value) ++ (([U64 0] : List Value) ++ []))) ([v3] : List Value) h3 (by simp [AO]) rfl).trans ((E2 (((([v0] : List Value) ++ ([v1] : List Value)) ++ ([v2] : List Value)) ++ ([v3] : List Value)) ([I64 0] : List Value) (([U64 0, U64 0, I64 0, .slice none 0 0, .slice none 0 0, U64 0] ++ cu8 (zr8 16) : List Value) ++ (([U64 0] : List Value) ++ [])) ([v4] : List Value) h4 (by simp [AO]) rfl).trans ((E2 ((((([v0] : List Value) ++ ([v1] : List Value)) ++ ([v2] : List Value)) ++ ([v3] : List Value)) ++ ([v4] : List Value)) ([U64 0, U64 0, I64 0, .slice none 0 0, .slice none 0 0, U64 0] ++ cu8 (zr8 16) : List Value) (([U64 0] : List Value) ++ []) c5 rfl (by simp [AO, h5]) (by simp [h5, AO])).trans ((E2 (((((([v0] : List Value) ++ ([v1] : List Value)) ++ ([v2] : List Value)) ++ ([v3] : List Value)) ++ ([v4] : List Value)) ++ c5) ([U64 0] : List Value) [] ([v6] : List Value) h6 (by simp [AO, h5]) rfl).trans (by simp [Instr.fill]))))))))
attribute [local irreducible] plainV itB chB bB aB c1B c2B c3B c4B repR
theorem plain_c (b : Bool) (e : UInt64) (d t : List UInt8)  (w : World) (hd : d.length = 32) (ht : t.length = 16)  : Calls Tryd.prog 100 #[.agg (List.toArray (α := Value) (V3 b e d t))] w (Post w [] (fun v L => v = .bool (plainV b e d t) ∧ L = [])) := by
 refine enter (P := Tryd.prog) (f := 100) (fn := Tryd.f100) w [] 11 [] [.agg (List.toArray (α := Value) (V3 b e d t))] Tryd.func100 rfl rfl (by simp) (BZ (by simp) (by simp) (by simp)) ?_
 show JC _ _ _ [(0, .agg (List.toArray (α := Value) (V3 b e d t)))] _
 refine AF (AC (A2 (CN (.agg (List.toArray (α := Value) (V3 b e d t))) (V3 b e d t) rfl (by first | rfl | simp)) rfl ?_))
 rintro v1 L1 ⟨nb1, hnb1, rfl, rfl⟩
 show JL _ _ _ _ (_ :: _) [_]
 refine AA _ (AE rfl) rfl ?_
 refine AJ (AD (AF (AC (AA (Ptr nb1 0) (AB 0 4 1 DS rfl Tryd.sizeOf4 rfl rfl) rfl ?_))))
 refine AA _ (AL rfl (AX Tryd.isAgg4 (AR 0 rfl (AI (AI (Seg.head)))))) rfl (AA _ (AG rfl) rfl ?_)
 rcases Bool.eq_false_or_eq_true (b) with hb1 | hb1
 ·
  refine A9 4 2 5 false _ rfl rfl hb1 rfl (AA _ (BA _ rfl hb1 rfl) rfl ?_)
  refine AA _ (AE rfl) rfl ?_
  refine AJ (AD (BK (BJ (.bool true) (res1 Tryd.results100 (BF rfl)) fun w1 hw1 => ?_)))
  refine ⟨_, [], rfl, ⟨congrArg Value.bool ?_, rfl⟩, hw1.no⟩
  unfold plainV
  first | rfl | (simp [*]; done)
 ·
  refine AM 2 5 false _ (Ptr nb1 1) rfl rfl hb1 (AB 1 161 49 DS rfl BY rfl rfl) rfl ?_
  refine AM 2 5 false _ _ rfl rfl hb1 (AL rfl (BR DN BY (by simp [hd, ht]) (AR 0 rfl (DL (p := [.bool b]) (q := []) (vs := [U64 e] ++ cu8 d ++ cu8 t) (by first | rfl | (simp only [List.append_assoc, List.nil_append, List.append_nil, List.cons_append]; done)) rfl)))) rfl ?_
  refine AM 2 5 false _ (.agg ([U64 0] ++ cu8 (zr8 32) ++ cu8 (zr8 16)).toArray) rfl rfl hb1 (CY [] _ rfl (fun _ => by kernel_rfl)) rfl ?_
  refine AM 2 5 false _ (.bool (decide (e = (0:UInt64) ∧ d = (zr8 32) ∧ t = (zr8 16)))) rfl rfl hb1 (DM _ _ _ rfl rfl (fun _ => FY _ _ _ _ _ _ (by kernel_rfl)) (eql_struct (e = (0:UInt64) ∧ d = (zr8 32) ∧ t = (zr8 16)) (EqV.struct (d := 9999) (by kernel_rfl) (by kernel_rfl) (by kernel_rfl) (EqRs.cons 22 0 (U64 e) (U64 0) _ _ _ (PartV.one A8 (AI (AI (Seg.head)))) (PartV.one A8 (AI (AI (Seg.head)))) (EqV.u64 (d := 9998) AU e (0:UInt64)) (EqRs.cons 159 1 (.agg (cu8 d).toArray) (.agg (cu8 (zr8 32)).toArray) _ _ _ (PartV.agg Tryd.isAgg159 ER (FX (AI (Seg.right 1 0 rfl rfl (AN _))) (EJ hd) (by omega))) (PartV.agg Tryd.isAgg159 ER (FX (AI (Seg.right 1 0 rfl rfl (AN _))) (EJ (AO 32)) (by omega))) (EqV.arr8 (d := 9997) EC CO EP FA FU (by simp [hd]) (by simp [(AO 32)])) (EqRs.last 27 33 (.agg (cu8 t).toArray) (.agg (cu8 (zr8 16)).toArray) _ (PartV.agg EQ B3 (FX (Seg.right 33 0 (by simp [hd]) rfl (AN _)) (EJ ht) (by omega))) (PartV.agg EQ B3 (FX (Seg.right 33 0 (by simp [(AO 32)]) rfl (AN _)) (EJ (AO 16)) (by omega))) (EqV.arr8 (d := 9997) B1 CO EP FA FU (by simp [ht]) (by simp [(AO 16)])))))) (by first | rfl | (simp only [Bool.decide_and, Bool.and_assoc]; done) | (simp only [Bool.beq_eq_decide_eq, Bool.decide_and, Bool.and_assoc]; done) | (simp [Bool.and_assoc]; done)))) rfl ?_
  refine AA _ (A5 _ rfl hb1 rfl) rfl (AA _ (AE rfl) rfl ?_)
  refine AJ (AD (BK (BJ (.bool (decide (e = (0:UInt64) ∧ d = (zr8 32) ∧ t = (zr8 16)))) (res1 Tryd.results100 (BF rfl)) fun w1 hw1 => ?_)))
  refine ⟨_, [], rfl, ⟨congrArg Value.bool ?_, rfl⟩, hw1.no⟩
  unfold plainV
  first | rfl | (simp [*]; done)
theorem oddI_c (b : Bool) (e : UInt64) (d t : List UInt8)  (w : World) (hd : d.length = 32) (ht : t.length = 16)  : Calls Tryd.prog 99 #[.agg (List.toArray (α := Value) (V3 b e d t))] w (Post w [] (fun v L => v = .bool (!plainV b e d t) ∧ L = [])) := by
 refine enter (P := Tryd.prog) (f := 99) (fn := Tryd.f99) w [] 6 [] [.agg (List.toArray (α := Value) (V3 b e d t))] Tryd.func99 rfl rfl (by simp) (BZ (by simp) (by simp) (by simp)) ?_
 show JC _ _ _ [(0, .agg (List.toArray (α := Value) (V3 b e d t)))] _
 refine AF (AC (A2 (CN (.agg (List.toArray (α := Value) (V3 b e d t))) (V3 b e d t) rfl (by first | rfl | simp)) rfl ?_))
 rintro v1 L1 ⟨nb1, hnb1, rfl, rfl⟩
 show JL _ _ _ _ (_ :: _) [_]
 refine AA _ (AE rfl) rfl ?_
 refine AJ (AD (AF (AC (AA _ (AL rfl (BR Tryd.isAgg163 DD (by simp [hd, ht]) (AR 0 rfl (AN _)))) rfl ?_))))
 refine A7 (A3 100 _ (.bool (plainV b e d t)) (AV _ Tryd.call100 rfl) (fun w1 hw1 => plain_c b e d t w1 hd ht)) rfl ?_
 show JL _ _ _ _ ((4, .bool (plainV b e d t)) :: _) [_]
 refine AA (.bool (!(plainV b e d t))) (D1 rfl) rfl (AA _ (AE rfl) rfl ?_)
 refine AJ (AD (BK (BJ (.bool (!(plainV b e d t))) (res1 Tryd.results99 (BF rfl)) fun w1 hw1 => ?_)))
 exact ⟨_, [], rfl, ⟨rfl, rfl⟩, hw1.no⟩
theorem ixItem_c (aj : Option Addr) (nj cj : Nat) (lj : List ItemR)  (w : World) (hlj : lj.length = nj) (hnj : nj ≤ 2000000) (hdj : nj ≤ cj) (hcj : cj ≤ maxLen) (hj : RdV w aj (lj.flatMap itemC))  : Calls Tryd.prog 150 #[SL aj nj cj, .func (.func 99) #[] #[]] w (Post w [] (fun v L => v = I64 (findIx (fun x => !plainB x) lj) ∧ L = [])) := by
 have hmx : maxLen = 9223372036854775807 := rfl
 refine enter w [] 19 [] [SL aj nj cj, .func (.func 99) #[] #[]] Tryd.func150 rfl rfl (by simp) (BZ (by simp) (by simp) (by simp)) ?_
 show JC _ _ _ [(0, SL aj nj cj), (1, .func (.func 99) #[] #[])] _
 refine AF (AC (AA _ (AE rfl) rfl ?_))
 refine AJ (AD (AF (AF (AC (AA _ (AG rfl) rfl ?_)))))
 refine AA (I64 nj) (DA B2 rfl) rfl (AA _ (AG rfl) rfl ?_)
 refine AJ (AD (B5 (EO (ι := Nat) (fun i => [(0, SL aj nj cj), (1, .func (.func 99) #[] #[]), (7, I64 nj), (8, I64 i)]) (fun i => []) (fun i => i ≤ nj ∧ ∀ k, k < i → ∀ y, lj[k]? = some y → (fun x => !plainB x) y = false) (fun i => nj - i) 0 ⟨by omega, fun k hk => absurd hk (by omega)⟩ (Sub.all rfl) rfl ?_)))
 rintro i ⟨hi1, hi2⟩
 show JC _ _ _ [_, _, _, _] []
 refine AF (AC (AA (.bool (decide (((i:Int)) < ((nj:Int))))) (AT rfl rfl fun _ => CL _ _) rfl ?_))
 refine AJ (AD (AF (CC (decide (((i:Int)) < ((nj:Int)))) rfl (fun hb1 => ?_) (fun hb1 => ?_))))
 ·
  have hp1 : ((i:Int)) < ((nj:Int)) := of_decide_eq_true hb1
  refine BH (AD (AF (B5 (AF (AC (AA _ (AG rfl) rfl ?_))))))
  refine AA _ (AE rfl) rfl ?_
  refine AJ (AD (AF (AC (AA _ (AG rfl) rfl ?_))))
  refine AA _ (AG rfl) rfl (AA _ (AG rfl) rfl ?_)
  obtain ⟨x1, hx1⟩ : ∃ x, lj[i]? = some x := ⟨_, List.getElem?_eq_getElem (by rw [hlj]; omega)⟩
  obtain ⟨bz1, oz1, hz1, hm1⟩ := F6 itemC_len (by decide) hj hx1
  rw [itemC_eq] at hm1
  refine AA (Ptr bz1 (50*i + oz1)) (DI 163 50 (50*i + oz1) B2 DD rfl hz1 rfl (by omega) (by omega) (by omega)) rfl ?_
  refine AA (.agg (List.toArray (α := Value) (V3 x1.b x1.s.e x1.s.d x1.s.t))) (AL rfl (BR Tryd.isAgg163 DD (by simp [x1.s.hd, x1.s.ht]) (C9 (hm1.mem (by simp)) (AN _) (by first | omega | (simp; done) | (simp; omega))))) rfl ?_
  refine A7 (A3 99 _ (.bool (!(plainV x1.b x1.s.e x1.s.d x1.s.t))) (Cl_clo [.agg (List.toArray (α := Value) (V3 x1.b x1.s.e x1.s.d x1.s.t))] [] Tryd.call99 rfl rfl) (fun w1 hw1 => oddI_c x1.b x1.s.e x1.s.d x1.s.t w1 x1.s.hd x1.s.ht)) rfl ?_
  show JL _ _ _ _ ((16, .bool (!(plainV x1.b x1.s.e x1.s.d x1.s.t))) :: _) []
  refine AJ (AD (CC (!(plainV x1.b x1.s.e x1.s.d x1.s.t)) rfl (fun hb2 => ?_) (fun hb2 => ?_)))
  ·
   refine AF (AC (AA _ (AG rfl) rfl ?_))
   refine AA _ (AE rfl) rfl ?_
   refine AJ (AD (BK (CS (A6 (A6 (CS (A6 (BJ (I64 i) (res1 Tryd.results150 (BF rfl)) fun w1 hw1 => ?_))))))))
   have e1 : findIx (fun x => !plainB x) lj = i := findIx_at hx1 (by assumption : (!plainV _ _ _ _) = true) hi2
   exact ⟨_, [], rfl, ⟨by rw [e1], rfl⟩, hw1.no⟩
  ·
   refine BH (BU (AD (AC (AA (I64 ((i:Int) + 1)) (AT rfl rfl fun _ => DK _ _ ((i:Int) + 1) (by omega) (by omega)) rfl ?_))))
   refine AA _ (AG rfl) rfl ?_
   refine AJ (DU (EZ (i + 1) ⟨by omega, find_step hx1 (by assumption : (!plainV _ _ _ _) = false) hi2⟩ (by first | (simp; omega) | simp | (dsimp only; omega) | omega) (Sub.all rfl) rfl))
 ·
  have hp1 : ¬ (((i:Int)) < ((nj:Int))) := of_decide_eq_false hb1
  refine EF (BC (BC (CX (AD (AF (AC (AA _ (AE rfl) rfl ?_)))))))
  refine AJ (AD (BK (BJ (I64 (-1:Int)) (res1 Tryd.results150 (BF rfl)) fun w1 hw1 => ?_)))
  have e1 : findIx (fun x => !plainB x) lj = -1 := findIx_no (by rw [hlj]; intro k hk; exact hi2 k (by omega))
  exact ⟨_, [], rfl, ⟨by rw [e1], rfl⟩, hw1.no⟩
theorem cfItem_c (aj : Option Addr) (nj cj : Nat) (lj : List ItemR)  (w : World) (hlj : lj.length = nj) (hnj : nj ≤ 2000000) (hdj : nj ≤ cj) (hcj : cj ≤ maxLen) (hj : RdV w aj (lj.flatMap itemC))  : Calls Tryd.prog 101 #[SL aj nj cj, .func (.func 99) #[] #[]] w (Post w [] (fun v L => v = .bool (lj.any (fun x => !plainB x)) ∧ L = [])) := by
 refine enter w [] 9 [] [SL aj nj cj, .func (.func 99) #[] #[]] Tryd.func101 rfl rfl (by simp) (BZ (by simp) (by simp) (by simp)) ?_
 show JC _ _ _ [(0, SL aj nj cj), (1, .func (.func 99) #[] #[])] _
 refine AF (AC (AA _ (AE rfl) rfl ?_))
 refine AJ (AD (AF (AC (AA _ (AG rfl) rfl ?_))))
 refine AA _ (AG rfl) rfl ?_
 refine A7 (A3 150 _ (I64 ((findIx (fun x => !plainB x) lj))) (AV _ Tryd.call150 rfl) (fun w1 hw1 => ixItem_c aj nj cj lj w1 hlj (by omega) (by omega) (by omega) (CF hw1 rfl hj))) rfl ?_
 show JL _ _ _ _ ((7, I64 ((findIx (fun x => !plainB x) lj))) :: _) []
 refine AA (.bool (decide ((0:Int) ≤ ((findIx (fun x => !plainB x) lj))))) (AT rfl rfl fun _ => bin_geq_i _ _) rfl ?_
 refine AA _ (AE rfl) rfl ?_
 refine AJ (AD (BK (BJ (.bool (decide ((0:Int) ≤ ((findIx (fun x => !plainB x) lj))))) (res1 Tryd.results101 (BF rfl)) fun w1 hw1 => ?_)))
 exact ⟨_, [], rfl, ⟨congrArg Value.bool (findIx_ge _ _), rfl⟩, hw1.no⟩
end Go.Proofs.YtkdpdgpphpngeaaDoor
namespace Go.Proofs.YtkdpdgpphpngeaaDoor
open Go Go.Sx Go.RowKit
open Go.Value renaming slice → SL
open Go.ChangeShapes Go.WideShapes
def repT (rq : UInt64) (rk er : Int) (nj : Nat) (lj : List ItemR) (th : Bool) (pv ep : UInt64) (kd : Int) (l : List UInt64) (ls : List SealR) (bl : UInt64) (tg : List UInt8) (nha : Nat) (xha : List UInt8) (nhb : Nat) (xhb : List UInt8) : List UInt8 :=
 if er ≠ 0 then (numK 8 rq 8 ++ numK 1 (UInt64.ofNat rk.toNat) 1) ++ numK 1 (UInt64.ofNat er.toNat) 1
 else if rk = 1 then (((((numK 8 rq 8 ++ numK 1 (1:UInt64) 1) ++ numK 1 (0:UInt64) 1) ++ numK 1 (UInt64.ofNat (nj - 1)) 1) ++ itmsT lj) ++ numK 2 (UInt64.ofNat nhb) 2) ++ xhb
 else if rk = 2 then (((((((numK 8 rq 8 ++ numK 1 (2:UInt64) 1) ++ numK 1 (0:UInt64) 1) ++ numK 1 (UInt64.ofNat (nj - 1)) 1) ++ itmsT lj) ++ numK 2 (UInt64.ofNat nha) 2) ++ xha) ++ numK 2 (UInt64.ofNat nhb) 2) ++ xhb
 else if rk = 3 then (((((numK 8 rq 8 ++ numK 1 (3:UInt64) 1) ++ numK 1 (0:UInt64) 1) ++ numK 2 (UInt64.ofNat nha) 2) ++ xha) ++ numK 2 (UInt64.ofNat nhb) 2) ++ xhb
 else if rk = 4 then (if th then (((((((numK 8 rq 8 ++ numK 1 (4:UInt64) 1) ++ numK 1 (0:UInt64) 1) ++ numK 1 (bitU true) 1) ++ ((tktT pv ep kd.toNat l ls bl) ++ tg)) ++ numK 2 (UInt64.ofNat nha) 2) ++ xha) ++ numK 2 (UInt64.ofNat nhb) 2) ++ xhb else ((numK 8 rq 8 ++ numK 1 (4:UInt64) 1) ++ numK 1 (0:UInt64) 1) ++ numK 1 (bitU false) 1)
 else (numK 8 rq 8 ++ numK 1 (5:UInt64) 1) ++ numK 1 (0:UInt64) 1
def Gh (vs : List Value) (g : Nat) (cs : List Value) (a : Option Addr) : Prop := vs = [] ∨ (a = some ⟨g, 0, none⟩ ∧ ∃ sp, cs = vs ++ sp)
theorem Gh.at {C : Cx} {L : List Ent} {w : World} (hw : Hp C.w0 C.M L w) {vs cs : List Value} {g T : Nat} {fz : Nat × Nat} {a : Option Addr} (i : Nat) (hi : L[i]? = some ⟨g, cs, T, fz⟩) (h : Gh vs g cs a) : RdV w a vs := by
  rcases h with rfl | ⟨rfl, sp, rfl⟩
  · exact RdV.nil
  · exact RdV.of hw (AR i hi (AI (AN _)))
theorem Hp.one {w0 w : World} {M : List Nat} {L : List Ent} (h : Hp w0 M L w) (i : Nat) {e : Ent} (hi : L[i]? = some e) : Hp w0 M [e] w := by
  refine h.sub (fun x hx => ?_) (by simp)
  rcases List.mem_cons.1 hx with rfl | hx
  · exact List.mem_of_getElem? hi
  · cases hx
theorem Hp.two {w0 w : World} {M : List Nat} {L : List Ent} (h : Hp w0 M L w) (i j : Nat) {e f : Ent} (hi : L[i]? = some e) (hj : L[j]? = some f) (hij : i ≠ j) : Hp w0 M [e, f] w := by
  refine h.sub (fun x hx => ?_) ?_
  · rcases List.mem_cons.1 hx with rfl | hx
    · exact List.mem_of_getElem? hi
    · rcases List.mem_cons.1 hx with rfl | hx
      · exact List.mem_of_getElem? hj
      · cases hx
  · refine List.nodup_cons.2 ⟨fun hm => hij ?_, List.nodup_cons.2 ⟨by simp, List.nodup_nil⟩⟩
    have e1 : e.b = f.b := by simpa using hm
    obtain ⟨hlt, _⟩ := List.getElem?_eq_some_iff.1 hi
    exact (List.getElem?_inj (by simpa using hlt) h.nd).1 (by rw [List.getElem?_map, List.getElem?_map, hi, hj]; simp [e1])
def LargeQ (nj nha nhb ni ns : Nat) : Prop := 300 < nj ∨ 300 < nha ∨ (300 < nhb ∧ nhb ≤ 8192) ∨ 9000 < nhb ∨ LargeP ni ns
instance (nj nha nhb ni ns : Nat) : Decidable (LargeQ nj nha nhb ni ns) := by unfold LargeQ; infer_instance
theorem LargeQ.nz {nj nha nhb ni ns : Nat} (h : ¬ LargeQ nj nha nhb ni ns) : nj ≤ 300 ∧ nha ≤ 300 ∧ nhb ≤ 9000 ∧ (nhb ≤ 8192 → nhb ≤ 300) ∧ ni ≤ 300 ∧ ns ≤ 300 := by
 unfold LargeQ at h
 have h2 := large_not (n := ni) (m := ns) (fun e => h (by simp [e]))
 omega
theorem repR_4 {rk er : Int} {th bt my : Bool} {lj : List ItemR} {na nb : Nat} (h : repR rk er th lj bt my na nb = true) : na ≤ 256 ∧ nb ≤ 8192 := by
 have h1 := (repR_all h).2.2.2
 unfold c4B at h1
 rw [Bool.and_eq_true] at h1
 exact of_decide_eq_true h1.1
theorem repR_my {bt my : Bool} {lj : List ItemR} {na nb : Nat} (h : repR 4 0 true lj bt my na nb = true) : my = true := by
 have h1 := (repR_all h).2.2.1
 rwa [show chB 0 4 true = true from by decide +kernel] at h1
end Go.Proofs.YtkdpdgpphpngeaaDoor
namespace Go.Proofs.YtkdpdgpphpngeaaDoor
open Go Go.Sx
open Go.Value renaming slice → SL
attribute [local irreducible] mid zr8 numK valK constL initL putL RightB tktT mayN idxT selT blankB spanB reqR plainV itB chB bB aB c1B c2B c3B c4B repR
set_option maxHeartbeats 4000000 in
theorem partsG_c (rq : UInt64) (rk er : Int) (aj : Option Addr) (nj cj : Nat) (lj : List ItemR) (th : Bool) (pv ep : UInt64) (kd : Int) (ai : Option Addr) (ni ci : Nat) (l : List UInt64) (sa : Option Addr) (ns sc : Nat) (ls : List SealR) (bl : UInt64) (tg : List UInt8) (aha : Option Addr) (nha cha : Nat) (xha : List UInt8) (ahb : Option Addr) (nhb chb : Nat) (xhb : List UInt8)  (w : World) (htg : tg.length = 16)  : Calls Tryd.prog 95 #[.agg (V0 rq (rk) (er) aj nj cj th pv ep (kd) ai ni ci sa ns sc bl tg aha nha cha ahb nhb chb).toArray] w (Post w [] (fun v L => ∃ g cs T, v = .tuple #[.bool (itB er rk), .bool (chB er rk th), .bool (aB er rk th), .bool (bB er rk th)] ∧ L = [(Ez g cs T)])) := by
 refine enter (P := Tryd.prog) (f := 95) (fn := Tryd.f95) w [] 48 [] [.agg (V0 rq (rk) (er) aj nj cj th pv ep (kd) ai ni ci sa ns sc bl tg aha nha cha ahb nhb chb).toArray] Tryd.func95 rfl rfl (by simp) (BZ (by simp) (by simp) (by simp)) ?_
 show JC _ _ _ [(0, .agg (V0 rq (rk) (er) aj nj cj th pv ep (kd) ai ni ci sa ns sc bl tg aha nha cha ahb nhb chb).toArray)] _
 refine AF (AC (A2 (CN (.agg (V0 rq (rk) (er) aj nj cj th pv ep (kd) ai ni ci sa ns sc bl tg aha nha cha ahb nhb chb).toArray) (V0 rq (rk) (er) aj nj cj th pv ep (kd) ai ni ci sa ns sc bl tg aha nha cha ahb nhb chb) rfl (by first | rfl | simp)) rfl ?_))
 rintro v1 L1 ⟨nb1, hnb1, rfl, rfl⟩
 show JL _ _ _ _ (_ :: _) [_]
 refine AA _ (AE rfl) rfl (AA _ (AE rfl) rfl (AA _ (AE rfl) rfl (AA _ (AE rfl) rfl ?_)))
 refine AJ (AD (AF (AF (AC (AA (Ptr nb1 2) (AB 2 3 1 AK rfl AW rfl rfl) rfl ?_)))))
 refine AA _ (AL rfl (AX A0 (AR 0 rfl (AI (AI (AH (AH (Seg.head)))))))) rfl ?_
 refine AA (.bool (decide ((er) ≠ (0:Int)))) (AT rfl rfl fun _ => E8 _ _) rfl ?_
 refine AJ (AD (CC (decide ((er) ≠ (0:Int))) rfl (fun hb1 => ?_) (fun hb1 => ?_)))
 ·
  have hp1 : (er) ≠ (0:Int) := of_decide_eq_true hb1
  refine AF (AC (AA _ (AE rfl) rfl ?_))
  refine AA _ (AE rfl) rfl (AA _ (AE rfl) rfl (AA _ (AE rfl) rfl ?_))
  refine AJ (AD (BK (A6 (BJ (.tuple #[.bool false, .bool false, .bool false, .bool false]) (res4 Tryd.results95 (BF rfl) (BF rfl) (BF rfl) (BF rfl)) fun w1 hw1 => ?_))))
  refine ⟨_, _, rfl, ⟨_, _, _, ?_, rfl⟩, Hp.one hw1 0 rfl⟩
  have fx0 : er ≠ 0 := by omega
  simp [itB, chB, aB, bB, fx0]
 ·
  have hp1 : ¬ ((er) ≠ (0:Int)) := of_decide_eq_false hb1
  refine BH (AD (AF (AC (AA (Ptr nb1 1) (AB 1 3 1 AK rfl AW rfl rfl) rfl ?_))))
  refine AA _ (AL rfl (AX A0 (AR 0 rfl (AI (AI (AH (Seg.head))))))) rfl ?_
  refine AA (.bool (decide ((rk) = (4:Int)))) (AT rfl rfl fun _ => BP _ _) rfl ?_
  refine AA _ (AG rfl) rfl ?_
  rcases Bool.eq_false_or_eq_true (decide ((rk) = (4:Int))) with hb2 | hb2
  ·
   have hp2 : (rk) = (4:Int) := of_decide_eq_true hb2
   refine AM 3 12 true _ (Ptr nb1 4) rfl rfl hb2 (AB 4 4 1 AK rfl Tryd.sizeOf4 rfl rfl) rfl ?_
   refine AM 3 12 true _ _ rfl rfl hb2 (AL rfl (AX Tryd.isAgg4 (AR 0 rfl (AI (AI (AH (AH (AH (AH (Seg.head)))))))))) rfl (AA _ (BA _ rfl hb2 rfl) rfl ?_)
   refine AA _ (AE rfl) rfl ?_
   refine AJ (AD (AF (AC (AA (Ptr nb1 1) (AB 1 3 1 AK rfl AW rfl rfl) rfl ?_))))
   refine AA _ (AL rfl (AX A0 (AR 0 rfl (AI (AI (AH (Seg.head))))))) rfl ?_
   refine AA (.bool (decide ((rk) = (1:Int)))) (AT rfl rfl fun _ => BP _ _) rfl ?_
   refine AA _ (AG rfl) rfl ?_
   refine AM 3 19 false _ (Ptr nb1 1) rfl rfl (decide_eq_false (by omega)) (AB 1 3 1 AK rfl AW rfl rfl) rfl ?_
   refine AM 3 19 false _ (I64 (rk)) rfl rfl (decide_eq_false (by omega)) (AL rfl (AX A0 (AR 0 rfl (AI (AI (AH (Seg.head))))))) rfl ?_
   refine AM 3 19 false _ (.bool (decide ((rk) = (2:Int)))) rfl rfl (decide_eq_false (by omega)) (AT rfl rfl fun _ => BP _ _) rfl ?_
   refine AA _ (A5 _ rfl (decide_eq_false (by omega)) rfl) rfl (AA _ (AG rfl) rfl ?_)
   refine AM 8 24 false _ (Ptr nb1 1) rfl rfl (decide_eq_false (by omega)) (AB 1 3 1 AK rfl AW rfl rfl) rfl ?_
   refine AM 8 24 false _ (I64 (rk)) rfl rfl (decide_eq_false (by omega)) (AL rfl (AX A0 (AR 0 rfl (AI (AI (AH (Seg.head))))))) rfl ?_
   refine AM 8 24 false _ (.bool (decide ((rk) = (3:Int)))) rfl rfl (decide_eq_false (by omega)) (AT rfl rfl fun _ => BP _ _) rfl ?_
   refine AA _ (A5 _ rfl (decide_eq_false (by omega)) rfl) rfl (AA _ (AG rfl) rfl ?_)
   refine AM 13 29 false _ _ rfl rfl (decide_eq_false (by omega)) (AG rfl) rfl (AA _ (A5 _ rfl (decide_eq_false (by omega)) rfl) rfl ?_)
   refine AA _ (AE rfl) rfl ?_
   refine AJ (AD (AF ?_))
   rcases Bool.eq_false_or_eq_true (th) with hb3 | hb3
   ·
    refine DB 48 1 [(0, Ptr nb1 1), (1, I64 (rk)), (2, .bool (decide ((rk) = (1:Int)))), (3, .bool (decide ((rk) = (1:Int)))), (4, Ptr nb1 1), (5, I64 (rk)), (6, .bool (decide ((rk) = (2:Int)))), (7, .bool (decide ((rk) = (2:Int)))), (8, .bool th), (9, .bool th), (10, .bool th), (11, Ptr nb1 1), (12, I64 (rk)), (13, .bool (decide ((rk) ≠ (1:Int)))), (14, .bool (decide ((rk) ≠ (1:Int)))), (15, .bool th), (16, .bool (decide ((rk) = (2:Int)))), (17, .bool th), (18, .bool (decide ((rk) ≠ (1:Int)))), (19, .bool th)] B6 rfl (by decide +kernel) ?_
    refine DR ⟨[], [0, 1, 2, 3, 4, 5, 6, 7, 8, 9, 10, 11, 12, 13, 14, 15, 16, 17, 18, 19], [], [0, 1, 2, 3, 4, 5, 6, 7, 8, 9, 10, 11, 12, 13, 14, 15, 16, 17, 18, 19], []⟩ rfl rfl (by decide +kernel) rfl ⟨AP rfl rfl (AB 1 3 1 AK rfl AW rfl rfl), AP rfl rfl (AL rfl (AX A0 (AR 0 rfl (AI (AI (AH (Seg.head))))))), AP rfl rfl (AT rfl rfl fun _ => BP _ _), CB rfl rfl rfl, ⟨_, rfl, C8 3 35 false _ rfl rfl rfl (decide_eq_false (by omega)) (AB 1 3 1 AK rfl AW rfl rfl)⟩, ⟨_, rfl, C8 3 35 false _ rfl rfl rfl (decide_eq_false (by omega)) (AL rfl (AX A0 (AR 0 rfl (AI (AI (AH (Seg.head)))))))⟩, ⟨_, rfl, C8 3 35 false _ rfl rfl rfl (decide_eq_false (by omega)) (AT rfl rfl fun _ => BP _ _)⟩, AP rfl rfl (A5 _ rfl (decide_eq_false (by omega)) rfl), CB rfl rfl rfl, CB rfl rfl rfl, CB rfl rfl rfl, ⟨_, rfl, C8 10 42 true _ rfl rfl rfl hb3 (AB 1 3 1 AK rfl AW rfl rfl)⟩, ⟨_, rfl, C8 10 42 true _ rfl rfl rfl hb3 (AL rfl (AX A0 (AR 0 rfl (AI (AI (AH (Seg.head)))))))⟩, ⟨_, rfl, C8 10 42 true _ rfl rfl rfl hb3 (AT rfl rfl fun _ => E8 _ _)⟩, AP rfl rfl (BA _ rfl hb3 rfl), CB rfl rfl rfl, AP rfl rfl (AE rfl), AP rfl rfl (AE rfl), AP rfl rfl (AE rfl), AP rfl rfl (AE rfl), trivial⟩ ?_
    refine C5 (F' := [(2, .bool (decide ((rk) = (2:Int)))), (3, .bool th), (4, .bool (decide ((rk) ≠ (1:Int)))), (5, .bool th)]) (by kernel_rfl) ?_
    refine AD (BK (BJ (.tuple #[.bool (decide ((rk) = (2:Int))), .bool th, .bool (decide ((rk) ≠ (1:Int))), .bool th]) (res4 Tryd.results95 (BF rfl) (BF rfl) (BF rfl) (BF rfl)) fun w1 hw1 => ?_))
    refine ⟨_, _, rfl, ⟨_, _, _, ?_, rfl⟩, Hp.one hw1 0 rfl⟩
    have fx0 : er = 0 := by omega
    have fx1 : rk = 4 := by omega
    simp [itB, chB, aB, bB, fx0, fx1, hb3]
   ·
    refine DB 48 1 [(0, Ptr nb1 1), (1, I64 (rk)), (2, .bool (decide ((rk) = (1:Int)))), (3, .bool (decide ((rk) = (1:Int)))), (4, Ptr nb1 1), (5, I64 (rk)), (6, .bool (decide ((rk) = (2:Int)))), (7, .bool (decide ((rk) = (2:Int)))), (8, .bool th), (9, .bool th), (10, .bool th), (11, undef), (12, undef), (13, undef), (14, .bool false), (15, .bool th), (16, .bool (decide ((rk) = (2:Int)))), (17, .bool th), (18, .bool false), (19, .bool th)] B6 rfl (by decide +kernel) ?_
    refine DR ⟨[], [0, 1, 2, 3, 4, 5, 6, 7, 8, 9, 10, 11, 12, 13, 14, 15, 16, 17, 18, 19], [], [0, 1, 2, 3, 4, 5, 6, 7, 8, 9, 10, 11, 12, 13, 14, 15, 16, 17, 18, 19], []⟩ rfl rfl (by decide +kernel) rfl ⟨AP rfl rfl (AB 1 3 1 AK rfl AW rfl rfl), AP rfl rfl (AL rfl (AX A0 (AR 0 rfl (AI (AI (AH (Seg.head))))))), AP rfl rfl (AT rfl rfl fun _ => BP _ _), CB rfl rfl rfl, ⟨_, rfl, C8 3 35 false _ rfl rfl rfl (decide_eq_false (by omega)) (AB 1 3 1 AK rfl AW rfl rfl)⟩, ⟨_, rfl, C8 3 35 false _ rfl rfl rfl (decide_eq_false (by omega)) (AL rfl (AX A0 (AR 0 rfl (AI (AI (AH (Seg.head)))))))⟩, ⟨_, rfl, C8 3 35 false _ rfl rfl rfl (decide_eq_false (by omega)) (AT rfl rfl fun _ => BP _ _)⟩, AP rfl rfl (A5 _ rfl (decide_eq_false (by omega)) rfl), CB rfl rfl rfl, CB rfl rfl rfl, CB rfl rfl rfl, ⟨_, rfl, D0 10 42 true _ rfl rfl rfl hb3⟩, ⟨_, rfl, D0 10 42 true _ rfl rfl rfl hb3⟩, ⟨_, rfl, D0 10 42 true _ rfl rfl rfl hb3⟩, AP rfl rfl (A5 _ rfl hb3 rfl), CB rfl rfl rfl, AP rfl rfl (AE rfl), AP rfl rfl (AE rfl), AP rfl rfl (AE rfl), AP rfl rfl (AE rfl), trivial⟩ ?_
    refine C5 (F' := [(2, .bool (decide ((rk) = (2:Int)))), (3, .bool th), (4, .bool false), (5, .bool th)]) (by kernel_rfl) ?_
    refine AD (BK (BJ (.tuple #[.bool (decide ((rk) = (2:Int))), .bool th, .bool false, .bool th]) (res4 Tryd.results95 (BF rfl) (BF rfl) (BF rfl) (BF rfl)) fun w1 hw1 => ?_))
    refine ⟨_, _, rfl, ⟨_, _, _, ?_, rfl⟩, Hp.one hw1 0 rfl⟩
    have fx0 : er = 0 := by omega
    have fx1 : rk = 4 := by omega
    simp [itB, chB, aB, bB, fx0, fx1, hb3]
  ·
   have hp2 : ¬ ((rk) = (4:Int)) := of_decide_eq_false hb2
   refine A9 2 3 12 true _ rfl rfl hb2 rfl (AA _ (A5 _ rfl hb2 rfl) rfl ?_)
   refine AA _ (AE rfl) rfl ?_
   refine AJ (AD (AF (AC (AA (Ptr nb1 1) (AB 1 3 1 AK rfl AW rfl rfl) rfl ?_))))
   refine AA _ (AL rfl (AX A0 (AR 0 rfl (AI (AI (AH (Seg.head))))))) rfl ?_
   refine AA (.bool (decide ((rk) = (1:Int)))) (AT rfl rfl fun _ => BP _ _) rfl ?_
   refine AA _ (AG rfl) rfl ?_
   rcases Bool.eq_false_or_eq_true (decide ((rk) = (1:Int))) with hb4 | hb4
   ·
    have hp4 : (rk) = (1:Int) := of_decide_eq_true hb4
    refine A9 3 3 19 false _ rfl rfl hb4 rfl (AA _ (BA _ rfl hb4 rfl) rfl ?_)
    refine AA _ (AG rfl) rfl ?_
    refine A9 3 8 24 false _ rfl rfl rfl rfl (AA _ (BA _ rfl rfl rfl) rfl ?_)
    refine AA _ (AG rfl) rfl ?_
    refine FN 13 29 false _ rfl rfl rfl rfl (AA _ (BA _ rfl rfl rfl) rfl ?_)
    refine AA _ (AE rfl) rfl ?_
    refine AJ (AD (AF (DB 48 1 [(0, Ptr nb1 1), (1, I64 (rk)), (2, .bool (decide ((rk) = (1:Int)))), (3, .bool (decide ((rk) = (1:Int)))), (4, undef), (5, undef), (6, undef), (7, .bool true), (8, .bool false), (9, .bool true), (10, .bool true), (11, Ptr nb1 1), (12, I64 (rk)), (13, .bool (decide ((rk) ≠ (1:Int)))), (14, .bool (decide ((rk) ≠ (1:Int)))), (15, .bool true), (16, .bool true), (17, .bool false), (18, .bool (decide ((rk) ≠ (1:Int)))), (19, .bool true)] B6 rfl (by decide +kernel) ?_)))
    refine DR ⟨[], [0, 1, 2, 3, 4, 5, 6, 7, 8, 9, 10, 11, 12, 13, 14, 15, 16, 17, 18, 19], [], [0, 1, 2, 3, 4, 5, 6, 7, 8, 9, 10, 11, 12, 13, 14, 15, 16, 17, 18, 19], []⟩ rfl rfl (by decide +kernel) rfl ⟨AP rfl rfl (AB 1 3 1 AK rfl AW rfl rfl), AP rfl rfl (AL rfl (AX A0 (AR 0 rfl (AI (AI (AH (Seg.head))))))), AP rfl rfl (AT rfl rfl fun _ => BP _ _), CB rfl rfl rfl, ⟨_, rfl, D0 3 35 false _ rfl rfl rfl hb4⟩, ⟨_, rfl, D0 3 35 false _ rfl rfl rfl hb4⟩, ⟨_, rfl, D0 3 35 false _ rfl rfl rfl hb4⟩, AP rfl rfl (BA _ rfl hb4 rfl), CB rfl rfl rfl, CB rfl rfl rfl, CB rfl rfl rfl, ⟨_, rfl, C8 10 42 true _ rfl rfl rfl rfl (AB 1 3 1 AK rfl AW rfl rfl)⟩, ⟨_, rfl, C8 10 42 true _ rfl rfl rfl rfl (AL rfl (AX A0 (AR 0 rfl (AI (AI (AH (Seg.head)))))))⟩, ⟨_, rfl, C8 10 42 true _ rfl rfl rfl rfl (AT rfl rfl fun _ => E8 _ _)⟩, AP rfl rfl (BA _ rfl rfl rfl), CB rfl rfl rfl, AP rfl rfl (AE rfl), AP rfl rfl (AE rfl), AP rfl rfl (AE rfl), AP rfl rfl (AE rfl), trivial⟩ ?_
    refine C5 (F' := [(2, .bool true), (3, .bool false), (4, .bool (decide ((rk) ≠ (1:Int)))), (5, .bool true)]) (by kernel_rfl) ?_
    refine AD (BK (BJ (.tuple #[.bool true, .bool false, .bool (decide ((rk) ≠ (1:Int))), .bool true]) (res4 Tryd.results95 (BF rfl) (BF rfl) (BF rfl) (BF rfl)) fun w1 hw1 => ?_))
    refine ⟨_, _, rfl, ⟨_, _, _, ?_, rfl⟩, Hp.one hw1 0 rfl⟩
    have fx0 : er = 0 := by omega
    have fx1 : rk ≠ 4 := by omega
    have fx2 : rk = 1 := by omega
    simp [itB, chB, aB, bB, fx0, fx1, fx2]
   ·
    have hp4 : ¬ ((rk) = (1:Int)) := of_decide_eq_false hb4
    refine AM 3 19 false _ (Ptr nb1 1) rfl rfl hb4 (AB 1 3 1 AK rfl AW rfl rfl) rfl ?_
    refine AM 3 19 false _ _ rfl rfl hb4 (AL rfl (AX A0 (AR 0 rfl (AI (AI (AH (Seg.head))))))) rfl ?_
    refine AM 3 19 false _ (.bool (decide ((rk) = (2:Int)))) rfl rfl hb4 (AT rfl rfl fun _ => BP _ _) rfl ?_
    refine AA _ (A5 _ rfl hb4 rfl) rfl (AA _ (AG rfl) rfl ?_)
    rcases Bool.eq_false_or_eq_true (decide ((rk) = (2:Int))) with hb5 | hb5
    ·
     have hp5 : (rk) = (2:Int) := of_decide_eq_true hb5
     refine A9 3 8 24 false _ rfl rfl hb5 rfl (AA _ (BA _ rfl hb5 rfl) rfl ?_)
     refine AA _ (AG rfl) rfl ?_
     refine FN 13 29 false _ rfl rfl rfl rfl (AA _ (BA _ rfl rfl rfl) rfl ?_)
     refine AA _ (AE rfl) rfl ?_
     refine AJ (AD (AF (DB 48 1 [(0, Ptr nb1 1), (1, I64 (rk)), (2, .bool (decide ((rk) = (1:Int)))), (3, .bool (decide ((rk) = (1:Int)))), (4, Ptr nb1 1), (5, I64 (rk)), (6, .bool (decide ((rk) = (2:Int)))), (7, .bool (decide ((rk) = (2:Int)))), (8, .bool false), (9, .bool true), (10, .bool true), (11, Ptr nb1 1), (12, I64 (rk)), (13, .bool (decide ((rk) ≠ (1:Int)))), (14, .bool (decide ((rk) ≠ (1:Int)))), (15, .bool true), (16, .bool (decide ((rk) = (2:Int)))), (17, .bool false), (18, .bool (decide ((rk) ≠ (1:Int)))), (19, .bool true)] B6 rfl (by decide +kernel) ?_)))
     refine DR ⟨[], [0, 1, 2, 3, 4, 5, 6, 7, 8, 9, 10, 11, 12, 13, 14, 15, 16, 17, 18, 19], [], [0, 1, 2, 3, 4, 5, 6, 7, 8, 9, 10, 11, 12, 13, 14, 15, 16, 17, 18, 19], []⟩ rfl rfl (by decide +kernel) rfl ⟨AP rfl rfl (AB 1 3 1 AK rfl AW rfl rfl), AP rfl rfl (AL rfl (AX A0 (AR 0 rfl (AI (AI (AH (Seg.head))))))), AP rfl rfl (AT rfl rfl fun _ => BP _ _), CB rfl rfl rfl, ⟨_, rfl, C8 3 35 false _ rfl rfl rfl hb4 (AB 1 3 1 AK rfl AW rfl rfl)⟩, ⟨_, rfl, C8 3 35 false _ rfl rfl rfl hb4 (AL rfl (AX A0 (AR 0 rfl (AI (AI (AH (Seg.head)))))))⟩, ⟨_, rfl, C8 3 35 false _ rfl rfl rfl hb4 (AT rfl rfl fun _ => BP _ _)⟩, AP rfl rfl (A5 _ rfl hb4 rfl), CB rfl rfl rfl, CB rfl rfl rfl, CB rfl rfl rfl, ⟨_, rfl, C8 10 42 true _ rfl rfl rfl rfl (AB 1 3 1 AK rfl AW rfl rfl)⟩, ⟨_, rfl, C8 10 42 true _ rfl rfl rfl rfl (AL rfl (AX A0 (AR 0 rfl (AI (AI (AH (Seg.head)))))))⟩, ⟨_, rfl, C8 10 42 true _ rfl rfl rfl rfl (AT rfl rfl fun _ => E8 _ _)⟩, AP rfl rfl (BA _ rfl rfl rfl), CB rfl rfl rfl, AP rfl rfl (AE rfl), AP rfl rfl (AE rfl), AP rfl rfl (AE rfl), AP rfl rfl (AE rfl), trivial⟩ ?_
     refine C5 (F' := [(2, .bool (decide ((rk) = (2:Int)))), (3, .bool false), (4, .bool (decide ((rk) ≠ (1:Int)))), (5, .bool true)]) (by kernel_rfl) ?_
     refine AD (BK (BJ (.tuple #[.bool (decide ((rk) = (2:Int))), .bool false, .bool (decide ((rk) ≠ (1:Int))), .bool true]) (res4 Tryd.results95 (BF rfl) (BF rfl) (BF rfl) (BF rfl)) fun w1 hw1 => ?_))
     refine ⟨_, _, rfl, ⟨_, _, _, ?_, rfl⟩, Hp.one hw1 0 rfl⟩
     have fx0 : er = 0 := by omega
     have fx1 : rk ≠ 4 := by omega
     have fx2 : rk ≠ 1 := by omega
     have fx3 : rk = 2 := by omega
     simp [itB, chB, aB, bB, fx0, fx1, fx2, fx3]
    ·
     have hp5 : ¬ ((rk) = (2:Int)) := of_decide_eq_false hb5
     refine AM 8 24 false _ (Ptr nb1 1) rfl rfl hb5 (AB 1 3 1 AK rfl AW rfl rfl) rfl ?_
     refine AM 8 24 false _ _ rfl rfl hb5 (AL rfl (AX A0 (AR 0 rfl (AI (AI (AH (Seg.head))))))) rfl ?_
     refine AM 8 24 false _ (.bool (decide ((rk) = (3:Int)))) rfl rfl hb5 (AT rfl rfl fun _ => BP _ _) rfl ?_
     refine AA _ (A5 _ rfl hb5 rfl) rfl (AA _ (AG rfl) rfl ?_)
     rcases Bool.eq_false_or_eq_true (decide ((rk) = (3:Int))) with hb6 | hb6
     ·
      have hp6 : (rk) = (3:Int) := of_decide_eq_true hb6
      refine FN 13 29 false _ rfl rfl hb6 rfl (AA _ (BA _ rfl hb6 rfl) rfl ?_)
      refine AA _ (AE rfl) rfl ?_
      refine AJ (AD (AF (DB 48 1 [(0, Ptr nb1 1), (1, I64 (rk)), (2, .bool (decide ((rk) = (1:Int)))), (3, .bool (decide ((rk) = (1:Int)))), (4, Ptr nb1 1), (5, I64 (rk)), (6, .bool (decide ((rk) = (2:Int)))), (7, .bool (decide ((rk) = (2:Int)))), (8, .bool false), (9, .bool true), (10, .bool true), (11, Ptr nb1 1), (12, I64 (rk)), (13, .bool (decide ((rk) ≠ (1:Int)))), (14, .bool (decide ((rk) ≠ (1:Int)))), (15, .bool true), (16, .bool (decide ((rk) = (2:Int)))), (17, .bool false), (18, .bool (decide ((rk) ≠ (1:Int)))), (19, .bool true)] B6 rfl (by decide +kernel) ?_)))
      refine DR ⟨[], [0, 1, 2, 3, 4, 5, 6, 7, 8, 9, 10, 11, 12, 13, 14, 15, 16, 17, 18, 19], [], [0, 1, 2, 3, 4, 5, 6, 7, 8, 9, 10, 11, 12, 13, 14, 15, 16, 17, 18, 19], []⟩ rfl rfl (by decide +kernel) rfl ⟨AP rfl rfl (AB 1 3 1 AK rfl AW rfl rfl), AP rfl rfl (AL rfl (AX A0 (AR 0 rfl (AI (AI (AH (Seg.head))))))), AP rfl rfl (AT rfl rfl fun _ => BP _ _), CB rfl rfl rfl, ⟨_, rfl, C8 3 35 false _ rfl rfl rfl hb4 (AB 1 3 1 AK rfl AW rfl rfl)⟩, ⟨_, rfl, C8 3 35 false _ rfl rfl rfl hb4 (AL rfl (AX A0 (AR 0 rfl (AI (AI (AH (Seg.head)))))))⟩, ⟨_, rfl, C8 3 35 false _ rfl rfl rfl hb4 (AT rfl rfl fun _ => BP _ _)⟩, AP rfl rfl (A5 _ rfl hb4 rfl), CB rfl rfl rfl, CB rfl rfl rfl, CB rfl rfl rfl, ⟨_, rfl, C8 10 42 true _ rfl rfl rfl rfl (AB 1 3 1 AK rfl AW rfl rfl)⟩, ⟨_, rfl, C8 10 42 true _ rfl rfl rfl rfl (AL rfl (AX A0 (AR 0 rfl (AI (AI (AH (Seg.head)))))))⟩, ⟨_, rfl, C8 10 42 true _ rfl rfl rfl rfl (AT rfl rfl fun _ => E8 _ _)⟩, AP rfl rfl (BA _ rfl rfl rfl), CB rfl rfl rfl, AP rfl rfl (AE rfl), AP rfl rfl (AE rfl), AP rfl rfl (AE rfl), AP rfl rfl (AE rfl), trivial⟩ ?_
      refine C5 (F' := [(2, .bool (decide ((rk) = (2:Int)))), (3, .bool false), (4, .bool (decide ((rk) ≠ (1:Int)))), (5, .bool true)]) (by kernel_rfl) ?_
      refine AD (BK (BJ (.tuple #[.bool (decide ((rk) = (2:Int))), .bool false, .bool (decide ((rk) ≠ (1:Int))), .bool true]) (res4 Tryd.results95 (BF rfl) (BF rfl) (BF rfl) (BF rfl)) fun w1 hw1 => ?_))
      refine ⟨_, _, rfl, ⟨_, _, _, ?_, rfl⟩, Hp.one hw1 0 rfl⟩
      have fx0 : er = 0 := by omega
      have fx1 : rk ≠ 4 := by omega
      have fx2 : rk ≠ 1 := by omega
      have fx3 : rk ≠ 2 := by omega
      have fx4 : rk = 3 := by omega
      simp [itB, chB, aB, bB, fx0, fx1, fx2, fx3, fx4]
     ·
      have hp6 : ¬ ((rk) = (3:Int)) := of_decide_eq_false hb6
      refine AM 13 29 false _ _ rfl rfl hb6 (AG rfl) rfl (AA _ (A5 _ rfl hb6 rfl) rfl ?_)
      refine AA _ (AE rfl) rfl ?_
      refine AJ (AD (AF (DB 48 1 [(0, Ptr nb1 1), (1, I64 (rk)), (2, .bool (decide ((rk) = (1:Int)))), (3, .bool (decide ((rk) = (1:Int)))), (4, Ptr nb1 1), (5, I64 (rk)), (6, .bool (decide ((rk) = (2:Int)))), (7, .bool (decide ((rk) = (2:Int)))), (8, .bool false), (9, .bool false), (10, .bool false), (11, undef), (12, undef), (13, undef), (14, .bool false), (15, .bool false), (16, .bool (decide ((rk) = (2:Int)))), (17, .bool false), (18, .bool false), (19, .bool false)] B6 rfl (by decide +kernel) ?_)))
      refine DR ⟨[], [0, 1, 2, 3, 4, 5, 6, 7, 8, 9, 10, 11, 12, 13, 14, 15, 16, 17, 18, 19], [], [0, 1, 2, 3, 4, 5, 6, 7, 8, 9, 10, 11, 12, 13, 14, 15, 16, 17, 18, 19], []⟩ rfl rfl (by decide +kernel) rfl ⟨AP rfl rfl (AB 1 3 1 AK rfl AW rfl rfl), AP rfl rfl (AL rfl (AX A0 (AR 0 rfl (AI (AI (AH (Seg.head))))))), AP rfl rfl (AT rfl rfl fun _ => BP _ _), CB rfl rfl rfl, ⟨_, rfl, C8 3 35 false _ rfl rfl rfl hb4 (AB 1 3 1 AK rfl AW rfl rfl)⟩, ⟨_, rfl, C8 3 35 false _ rfl rfl rfl hb4 (AL rfl (AX A0 (AR 0 rfl (AI (AI (AH (Seg.head)))))))⟩, ⟨_, rfl, C8 3 35 false _ rfl rfl rfl hb4 (AT rfl rfl fun _ => BP _ _)⟩, AP rfl rfl (A5 _ rfl hb4 rfl), CB rfl rfl rfl, CB rfl rfl rfl, CB rfl rfl rfl, ⟨_, rfl, D0 10 42 true _ rfl rfl rfl rfl⟩, ⟨_, rfl, D0 10 42 true _ rfl rfl rfl rfl⟩, ⟨_, rfl, D0 10 42 true _ rfl rfl rfl rfl⟩, AP rfl rfl (A5 _ rfl rfl rfl), CB rfl rfl rfl, AP rfl rfl (AE rfl), AP rfl rfl (AE rfl), AP rfl rfl (AE rfl), AP rfl rfl (AE rfl), trivial⟩ ?_
      refine C5 (F' := [(2, .bool (decide ((rk) = (2:Int)))), (3, .bool false), (4, .bool false), (5, .bool false)]) (by kernel_rfl) ?_
      refine AD (BK (BJ (.tuple #[.bool (decide ((rk) = (2:Int))), .bool false, .bool false, .bool false]) (res4 Tryd.results95 (BF rfl) (BF rfl) (BF rfl) (BF rfl)) fun w1 hw1 => ?_))
      refine ⟨_, _, rfl, ⟨_, _, _, ?_, rfl⟩, Hp.one hw1 0 rfl⟩
      have fx0 : er = 0 := by omega
      have fx1 : rk ≠ 4 := by omega
      have fx2 : rk ≠ 1 := by omega
      have fx3 : rk ≠ 2 := by omega
      have fx4 : rk ≠ 3 := by omega
      simp [itB, chB, aB, bB, fx0, fx1, fx2, fx3, fx4]
theorem parts_c (rq : UInt64) (rk er : Int) (aj : Option Addr) (nj cj : Nat) (lj : List ItemR) (th : Bool) (pv ep : UInt64) (kd : Int) (ai : Option Addr) (ni ci : Nat) (l : List UInt64) (sa : Option Addr) (ns sc : Nat) (ls : List SealR) (bl : UInt64) (tg : List UInt8) (aha : Option Addr) (nha cha : Nat) (xha : List UInt8) (ahb : Option Addr) (nhb chb : Nat) (xhb : List UInt8) (w : World) (htg : tg.length = 16) : Calls Tryd.prog 95 #[.agg (V0 rq (rk) (er) aj nj cj th pv ep (kd) ai ni ci sa ns sc bl tg aha nha cha ahb nhb chb).toArray] w (Post w [] (fun v L => v = .tuple #[.bool (itB er rk), .bool (chB er rk th), .bool (aB er rk th), .bool (bB er rk th)] ∧ L = [])) := by
 refine (partsG_c rq rk er aj nj cj lj th pv ep kd ai ni ci l sa ns sc ls bl tg aha nha cha xha ahb nhb chb xhb w htg).mono ?_
 rintro E W ⟨v, L, rfl, ⟨_, _, _, hv, _⟩, hw⟩
 exact ⟨v, [], rfl, ⟨hv, rfl⟩, hw.sub (by simp) (by simp)⟩
theorem eqI_c (aj : Option Addr) (nj cj : Nat) (lj : List ItemR) (aj2 : Option Addr) (nj2 cj2 : Nat) (lj2 : List ItemR)  (w : World) (hlj : lj.length = nj) (hnj : nj ≤ 2000000) (hdj : nj ≤ cj) (hcj : cj ≤ maxLen) (hj : RdV w aj (lj.flatMap itemC)) (hlj2 : lj2.length = nj2) (hnj2 : nj2 ≤ 2000000) (hdj2 : nj2 ≤ cj2) (hcj2 : cj2 ≤ maxLen) (hj2 : RdV w aj2 (lj2.flatMap itemC))  : Calls Tryd.prog 102 #[SL aj nj cj, SL aj2 nj2 cj2] w (Post w [] (fun v L => v = .bool (decide (lj = lj2)) ∧ L = [])) := by
 have hmx : maxLen = 9223372036854775807 := rfl
 refine enter w [] 26 [] [SL aj nj cj, SL aj2 nj2 cj2] Tryd.func102 rfl rfl (by simp) (BZ (by simp) (by simp) (by simp)) ?_
 show JC _ _ _ [(0, SL aj nj cj), (1, SL aj2 nj2 cj2)] _
 refine AF (AC (AA _ (AE rfl) rfl ?_))
 refine AJ (AD (AF (AF (AC (AA _ (AG rfl) rfl ?_)))))
 refine AA (I64 nj) (DA B2 rfl) rfl (AA _ (AG rfl) rfl ?_)
 refine AA (I64 nj2) (DA B2 rfl) rfl ?_
 refine AA (.bool (decide (((nj:Int)) ≠ ((nj2:Int))))) (AT rfl rfl fun _ => E8 _ _) rfl ?_
 refine AJ (AD (CC (decide (((nj:Int)) ≠ ((nj2:Int)))) rfl (fun hb1 => ?_) (fun hb1 => ?_)))
 ·
  have hp1 : ((nj:Int)) ≠ ((nj2:Int)) := of_decide_eq_true hb1
  refine AF (AC (AA _ (AE rfl) rfl ?_))
  refine AJ (AD (BK (A6 (BJ (.bool false) (res1 Tryd.results102 (BF rfl)) fun w1 hw1 => ?_))))
  refine ⟨_, [], rfl, ⟨congrArg Value.bool ?_, rfl⟩, hw1.no⟩
  exact (decide_eq_false (fun h => by have := congrArg List.length h; omega)).symm
 ·
  have hp1 : ¬ (((nj:Int)) ≠ ((nj2:Int))) := of_decide_eq_false hb1
  refine BH (AD (AF (AF (AC (AA _ (AG rfl) rfl ?_)))))
  refine AA (I64 nj) (DA B2 rfl) rfl (AA _ (AG rfl) rfl ?_)
  refine AJ (AD (B5 (EO (ι := Nat) (fun i => [(0, SL aj nj cj), (1, SL aj2 nj2 cj2), (12, I64 nj), (13, I64 i)]) (fun i => []) (fun i => i ≤ nj ∧ ∀ k, k < i → ∀ x y, lj[k]? = some x → lj2[k]? = some y → x = y) (fun i => nj - i) 0 ⟨by omega, fun k hk => absurd hk (by omega)⟩ (Sub.all rfl) rfl ?_)))
  rintro i ⟨hi1, hi2⟩
  show JC _ _ _ [_, _, _, _] []
  refine AF (AC (AA (.bool (decide (((i:Int)) < ((nj:Int))))) (AT rfl rfl fun _ => CL _ _) rfl ?_))
  refine AJ (AD (AF (CC (decide (((i:Int)) < ((nj:Int)))) rfl (fun hb2 => ?_) (fun hb2 => ?_))))
  ·
   have hp2 : ((i:Int)) < ((nj:Int)) := of_decide_eq_true hb2
   refine BH (AD (AF (B5 (AF (AC (AA _ (AG rfl) rfl ?_))))))
   refine AA _ (AE rfl) rfl ?_
   refine AJ (AD (AF ?_))
   obtain ⟨x1, hx1⟩ : ∃ x, lj[i]? = some x := ⟨_, List.getElem?_eq_getElem (by rw [hlj]; omega)⟩
   obtain ⟨bz1, oz1, hz1, hm1⟩ := F6 itemC_len (by decide) hj hx1
   rw [itemC_eq] at hm1
   obtain ⟨x2, hx2⟩ : ∃ x, lj2[i]? = some x := ⟨_, List.getElem?_eq_getElem (by rw [hlj2]; omega)⟩
   obtain ⟨bz2, oz2, hz2, hm2⟩ := F6 itemC_len (by decide) hj2 hx2
   rw [itemC_eq] at hm2
   refine DB 26 1 [(0, SL aj nj cj), (1, I64 i), (2, Ptr bz1 (50*i + oz1)), (3, .agg (List.toArray (α := Value) (V3 x1.b x1.s.e x1.s.d x1.s.t))), (4, SL aj2 nj2 cj2), (5, I64 i), (6, Ptr bz2 (50*i + oz2)), (7, .agg (List.toArray (α := Value) (V3 x2.b x2.s.e x2.s.d x2.s.t))), (8, .bool (!(decide (x1.b = x2.b ∧ x1.s.e = x2.s.e ∧ x1.s.d = x2.s.d ∧ x1.s.t = x2.s.t))))] B6 rfl (by decide +kernel) ?_
   refine DR ⟨[], [0, 1, 2, 3, 4, 5, 6, 7, 8], [], [0, 1, 2, 3, 4, 5, 6, 7, 8], []⟩ rfl rfl (by decide +kernel) rfl ⟨CB rfl rfl rfl, CB rfl rfl rfl, AP rfl rfl (DI 163 50 (50*i + oz1) B2 DD rfl hz1 rfl (by omega) (by omega) (by omega)), AP rfl rfl (AL rfl (BR Tryd.isAgg163 DD (by simp [x1.s.hd, x1.s.ht]) (C9 (hm1.mem (by simp)) (AN _) (by first | omega | (simp; done) | (simp; omega))))), CB rfl rfl rfl, CB rfl rfl rfl, AP rfl rfl (DI 163 50 (50*i + oz2) B2 DD rfl hz2 rfl (by omega) (by omega) (by omega)), AP rfl rfl (AL rfl (BR Tryd.isAgg163 DD (by simp [x2.s.hd, x2.s.ht]) (C9 (hm2.mem (by simp)) (AN _) (by first | omega | (simp; done) | (simp; omega))))), AP rfl rfl (DM _ _ _ rfl rfl (fun _ => FY _ _ _ _ _ _ (by kernel_rfl)) (neq_struct (x1.b = x2.b ∧ x1.s.e = x2.s.e ∧ x1.s.d = x2.s.d ∧ x1.s.t = x2.s.t) (EqV.struct (d := 9999) (by kernel_rfl) (by kernel_rfl) (by kernel_rfl) (EqRs.cons 4 0 (.bool x1.b) (.bool x2.b) _ _ _ (PartV.one Tryd.isAgg4 (AI (AI (Seg.head)))) (PartV.one Tryd.isAgg4 (AI (AI (Seg.head)))) (EqV.bool (d := 9998) Tryd.underlying4 x1.b x2.b) (EqRs.last 161 1 (.agg ([U64 x1.s.e] ++ cu8 x1.s.d ++ cu8 x1.s.t).toArray) (.agg ([U64 x2.s.e] ++ cu8 x2.s.d ++ cu8 x2.s.t).toArray) _ (PartV.agg DN BY (FX (DL (p := [.bool x1.b]) (q := []) (vs := [U64 x1.s.e] ++ cu8 x1.s.d ++ cu8 x1.s.t) (by first | rfl | (simp only [List.append_assoc, List.nil_append, List.append_nil, List.cons_append]; done)) rfl) (by simp [x1.s.hd, x1.s.ht]) (by first | omega | (simp; done)))) (PartV.agg DN BY (FX (DL (p := [.bool x2.b]) (q := []) (vs := [U64 x2.s.e] ++ cu8 x2.s.d ++ cu8 x2.s.t) (by first | rfl | (simp only [List.append_assoc, List.nil_append, List.append_nil, List.cons_append]; done)) rfl) (by simp [x2.s.hd, x2.s.ht]) (by first | omega | (simp; done)))) (EqV.struct (d := 9998) (by kernel_rfl) (by kernel_rfl) (by kernel_rfl) (EqRs.cons 22 0 (U64 x1.s.e) (U64 x2.s.e) _ _ _ (PartV.one A8 (AI (AI (Seg.head)))) (PartV.one A8 (AI (AI (Seg.head)))) (EqV.u64 (d := 9997) AU x1.s.e x2.s.e) (EqRs.cons 159 1 (.agg (cu8 x1.s.d).toArray) (.agg (cu8 x2.s.d).toArray) _ _ _ (PartV.agg Tryd.isAgg159 ER (FX (AI (Seg.right 1 0 rfl rfl (AN _))) (EJ x1.s.hd) (by omega))) (PartV.agg Tryd.isAgg159 ER (FX (AI (Seg.right 1 0 rfl rfl (AN _))) (EJ x2.s.hd) (by omega))) (EqV.arr8 (d := 9996) EC CO EP FA FU (by simp [x1.s.hd]) (by simp [x2.s.hd])) (EqRs.last 27 33 (.agg (cu8 x1.s.t).toArray) (.agg (cu8 x2.s.t).toArray) _ (PartV.agg EQ B3 (FX (Seg.right 33 0 (by simp [x1.s.hd]) rfl (AN _)) (EJ x1.s.ht) (by omega))) (PartV.agg EQ B3 (FX (Seg.right 33 0 (by simp [x2.s.hd]) rfl (AN _)) (EJ x2.s.ht) (by omega))) (EqV.arr8 (d := 9996) B1 CO EP FA FU (by simp [x1.s.ht]) (by simp [x2.s.ht]))))))))) (by first | rfl | (simp only [Bool.decide_and, Bool.and_assoc]; done) | (simp only [Bool.beq_eq_decide_eq, Bool.decide_and, Bool.and_assoc]; done) | (simp [Bool.and_assoc]; done)))), trivial⟩ ?_
   refine C5 (F' := [(16, SL aj nj cj), (17, I64 i), (18, Ptr bz1 (50*i + oz1)), (19, .agg (List.toArray (α := Value) (V3 x1.b x1.s.e x1.s.d x1.s.t))), (20, SL aj2 nj2 cj2), (21, I64 i), (22, Ptr bz2 (50*i + oz2)), (23, .agg (List.toArray (α := Value) (V3 x2.b x2.s.e x2.s.d x2.s.t))), (24, .bool (!(decide (x1.b = x2.b ∧ x1.s.e = x2.s.e ∧ x1.s.d = x2.s.d ∧ x1.s.t = x2.s.t)))), (0, SL aj nj cj), (1, SL aj2 nj2 cj2), (12, I64 nj), (13, I64 i), (14, .bool (decide (((i:Int)) < ((nj:Int))))), (15, I64 i), (5, I64 i)]) (by kernel_rfl) ?_
   refine AD (CC (!(decide (x1.b = x2.b ∧ x1.s.e = x2.s.e ∧ x1.s.d = x2.s.d ∧ x1.s.t = x2.s.t))) rfl (fun hb3 => ?_) (fun hb3 => ?_))
   ·
    have hb4 : (decide (x1.b = x2.b ∧ x1.s.e = x2.s.e ∧ x1.s.d = x2.s.d ∧ x1.s.t = x2.s.t)) = false := by first | simpa using hb3 | exact Eq.mp (Bool.not_eq_true' _) hb3
    have hp4 : ¬ (x1.b = x2.b ∧ x1.s.e = x2.s.e ∧ x1.s.d = x2.s.d ∧ x1.s.t = x2.s.t) := of_decide_eq_false hb4
    refine AF (AC (AA _ (AE rfl) rfl ?_))
    refine AJ (AD (BK (CS (A6 (A6 (CS (A6 (BJ (.bool false) (res1 Tryd.results102 (BF rfl)) fun w1 hw1 => ?_))))))))
    refine ⟨_, [], rfl, ⟨congrArg Value.bool ?_, rfl⟩, hw1.no⟩
    exact (decide_eq_false (list_ne hx1 hx2 (fun e => (of_decide_eq_false hb4) ((ItemR.eq_iff _ _).1 e)))).symm
   ·
    have hb5 : (decide (x1.b = x2.b ∧ x1.s.e = x2.s.e ∧ x1.s.d = x2.s.d ∧ x1.s.t = x2.s.t)) = true := by first | simpa using hb3 | exact Eq.mp (Bool.not_eq_false' _) hb3
    have hp5 : x1.b = x2.b ∧ x1.s.e = x2.s.e ∧ x1.s.d = x2.s.d ∧ x1.s.t = x2.s.t := of_decide_eq_true hb5
    refine BH (BU (AD (AC (AA (I64 ((i:Int) + 1)) (AT rfl rfl fun _ => DK _ _ ((i:Int) + 1) (by omega) (by omega)) rfl ?_))))
    refine AA _ (AG rfl) rfl ?_
    refine AJ (DU (EZ (i + 1) ⟨by omega, eq_step hx1 hx2 ((ItemR.eq_iff _ _).2 (of_decide_eq_true hb5)) hi2⟩ (by first | (simp; omega) | simp | (dsimp only; omega) | omega) (Sub.all rfl) rfl))
  ·
   have hp2 : ¬ (((i:Int)) < ((nj:Int))) := of_decide_eq_false hb2
   refine EF (BC (BC (CX (AD (AF (AC (AA _ (AE rfl) rfl ?_)))))))
   refine AJ (AD (BK (BJ (.bool true) (res1 Tryd.results102 (BF rfl)) fun w1 hw1 => ?_)))
   refine ⟨_, [], rfl, ⟨congrArg Value.bool ?_, rfl⟩, hw1.no⟩
   exact (decide_eq_true (list_eq (by omega) (by rw [hlj]; intro k hk; exact hi2 k (by omega)))).symm
theorem eqH_c (ahq : Option Addr) (nhq chq : Nat) (xhq : List UInt8) (ahq2 : Option Addr) (nhq2 chq2 : Nat) (xhq2 : List UInt8)  (w : World) (hlhq : xhq.length = nhq * 32) (hnhq : nhq ≤ 9000) (hdhq : nhq ≤ chq) (hchq : chq ≤ maxLen) (hrhq : RdB w [] ahq xhq) (hlhq2 : xhq2.length = nhq2 * 32) (hnhq2 : nhq2 ≤ 9000) (hdhq2 : nhq2 ≤ chq2) (hchq2 : chq2 ≤ maxLen) (hrhq2 : RdB w [] ahq2 xhq2)  : Calls Tryd.prog 103 #[SL ahq nhq chq, SL ahq2 nhq2 chq2] w (Post w [] (fun v L => v = .bool (decide (xhq = xhq2)) ∧ L = [])) := by
 have hmx : maxLen = 9223372036854775807 := rfl
 refine enter w [] 26 [] [SL ahq nhq chq, SL ahq2 nhq2 chq2] Tryd.func103 rfl rfl (by simp) (BZ (by simp) (by simp) (by simp)) ?_
 show JC _ _ _ [(0, SL ahq nhq chq), (1, SL ahq2 nhq2 chq2)] _
 refine AF (AC (AA _ (AE rfl) rfl ?_))
 refine AJ (AD (AF (AF (AC (AA _ (AG rfl) rfl ?_)))))
 refine AA (I64 nhq) (DA CP rfl) rfl (AA _ (AG rfl) rfl ?_)
 refine AA (I64 nhq2) (DA CP rfl) rfl ?_
 refine AA (.bool (decide (((nhq:Int)) ≠ ((nhq2:Int))))) (AT rfl rfl fun _ => E8 _ _) rfl ?_
 refine AJ (AD (CC (decide (((nhq:Int)) ≠ ((nhq2:Int)))) rfl (fun hb1 => ?_) (fun hb1 => ?_)))
 ·
  have hp1 : ((nhq:Int)) ≠ ((nhq2:Int)) := of_decide_eq_true hb1
  refine AF (AC (AA _ (AE rfl) rfl ?_))
  refine AJ (AD (BK (A6 (BJ (.bool false) (res1 Tryd.results103 (BF rfl)) fun w1 hw1 => ?_))))
  refine ⟨_, [], rfl, ⟨congrArg Value.bool ?_, rfl⟩, hw1.no⟩
  exact (decide_eq_false (fun h => by have := congrArg List.length h; omega)).symm
 ·
  have hp1 : ¬ (((nhq:Int)) ≠ ((nhq2:Int))) := of_decide_eq_false hb1
  refine BH (AD (AF (AF (AC (AA _ (AG rfl) rfl ?_)))))
  refine AA (I64 nhq) (DA CP rfl) rfl (AA _ (AG rfl) rfl ?_)
  refine AJ (AD (B5 (EO (ι := Nat) (fun i => [(0, SL ahq nhq chq), (1, SL ahq2 nhq2 chq2), (12, I64 nhq), (13, I64 i)]) (fun i => []) (fun i => i ≤ nhq ∧ xhq.take (32*i) = xhq2.take (32*i)) (fun i => nhq - i) 0 ⟨by omega, by rw [Nat.mul_zero, List.take_zero, List.take_zero]⟩ (Sub.all rfl) rfl ?_)))
  rintro i ⟨hi1, hi2⟩
  show JC _ _ _ [_, _, _, _] []
  refine AF (AC (AA (.bool (decide (((i:Int)) < ((nhq:Int))))) (AT rfl rfl fun _ => CL _ _) rfl ?_))
  refine AJ (AD (AF (CC (decide (((i:Int)) < ((nhq:Int)))) rfl (fun hb2 => ?_) (fun hb2 => ?_))))
  ·
   have hp2 : ((i:Int)) < ((nhq:Int)) := of_decide_eq_true hb2
   refine BH (AD (AF (B5 (AF (AC (AA _ (AG rfl) rfl ?_))))))
   refine AA _ (AE rfl) rfl ?_
   refine AJ (AD (AF ?_))
   obtain ⟨bz1, oz1, hz1, hm1⟩ := hrhq.pos (by rw [hlhq]; omega)
   have hl1 : (mid xhq (32*i) 32).length = 32 := mid_len (by rw [hlhq]; omega)
   obtain ⟨bz2, oz2, hz2, hm2⟩ := hrhq2.pos (by rw [hlhq2]; omega)
   have hl2 : (mid xhq2 (32*i) 32).length = 32 := mid_len (by rw [hlhq2]; omega)
   refine DB 26 1 [(0, SL ahq nhq chq), (1, I64 i), (2, Ptr bz1 (32*i + oz1)), (3, .agg (cu8 (mid xhq (32*i) 32)).toArray), (4, SL ahq2 nhq2 chq2), (5, I64 i), (6, Ptr bz2 (32*i + oz2)), (7, .agg (cu8 (mid xhq2 (32*i) 32)).toArray), (8, .bool (!(decide ((mid xhq (32*i) 32) = (mid xhq2 (32*i) 32)))))] B6 rfl (by decide +kernel) ?_
   have hl3 : (mid xhq (32*i) 32).length = 32 := mid_len (by rw [hlhq]; omega)
   have hl4 : (mid xhq2 (32*i) 32).length = 32 := mid_len (by rw [hlhq2]; omega)
   refine DR ⟨[], [0, 1, 2, 3, 4, 5, 6, 7, 8], [], [0, 1, 2, 3, 4, 5, 6, 7, 8], []⟩ rfl rfl (by decide +kernel) rfl ⟨CB rfl rfl rfl, CB rfl rfl rfl, AP rfl rfl (DI 54 32 (32*i + oz1) CP D2 rfl hz1 rfl (by omega) (by omega) (by omega)), AP rfl rfl (AL rfl (BR Tryd.isAgg54 D2 (EJ hl3) (C9 (MemAt.base hm1.1 hm1.2.1 hm1.2.2) (segm_u8 (32*i) 32 (by rw [hlhq]; omega)) (by first | omega | (simp; done) | (simp; omega))))), CB rfl rfl rfl, CB rfl rfl rfl, AP rfl rfl (DI 54 32 (32*i + oz2) CP D2 rfl hz2 rfl (by omega) (by omega) (by omega)), AP rfl rfl (AL rfl (BR Tryd.isAgg54 D2 (EJ hl4) (C9 (MemAt.base hm2.1 hm2.2.1 hm2.2.2) (segm_u8 (32*i) 32 (by rw [hlhq2]; omega)) (by first | omega | (simp; done) | (simp; omega))))), AP rfl rfl (DM _ _ _ rfl rfl (fun _ => FY _ _ _ _ _ _ (by kernel_rfl)) fun _ => neq_arr8 EU CO EP FA FU (by simp [hl1]) (by simp [hl2])), trivial⟩ ?_
   refine C5 (F' := [(16, SL ahq nhq chq), (17, I64 i), (18, Ptr bz1 (32*i + oz1)), (19, .agg (cu8 (mid xhq (32*i) 32)).toArray), (20, SL ahq2 nhq2 chq2), (21, I64 i), (22, Ptr bz2 (32*i + oz2)), (23, .agg (cu8 (mid xhq2 (32*i) 32)).toArray), (24, .bool (!(decide ((mid xhq (32*i) 32) = (mid xhq2 (32*i) 32))))), (0, SL ahq nhq chq), (1, SL ahq2 nhq2 chq2), (12, I64 nhq), (13, I64 i), (14, .bool (decide (((i:Int)) < ((nhq:Int))))), (15, I64 i), (5, I64 i)]) (by kernel_rfl) ?_
   refine AD (CC (!(decide ((mid xhq (32*i) 32) = (mid xhq2 (32*i) 32)))) rfl (fun hb3 => ?_) (fun hb3 => ?_))
   ·
    have hb4 : (decide ((mid xhq (32*i) 32) = (mid xhq2 (32*i) 32))) = false := by simpa using hb3
    have hp4 : ¬ ((mid xhq (32*i) 32) = (mid xhq2 (32*i) 32)) := of_decide_eq_false hb4
    refine AF (AC (AA _ (AE rfl) rfl ?_))
    refine AJ (AD (BK (CS (A6 (A6 (CS (A6 (BJ (.bool false) (res1 Tryd.results103 (BF rfl)) fun w1 hw1 => ?_))))))))
    refine ⟨_, [], rfl, ⟨congrArg Value.bool ?_, rfl⟩, hw1.no⟩
    exact (decide_eq_false (fun h => (of_decide_eq_false hb4) (by rw [h]))).symm
   ·
    have hb5 : (decide ((mid xhq (32*i) 32) = (mid xhq2 (32*i) 32))) = true := by simpa using hb3
    have hp5 : (mid xhq (32*i) 32) = (mid xhq2 (32*i) 32) := of_decide_eq_true hb5
    refine BH (BU (AD (AC (AA (I64 ((i:Int) + 1)) (AT rfl rfl fun _ => DK _ _ ((i:Int) + 1) (by omega) (by omega)) rfl ?_))))
    refine AA _ (AG rfl) rfl ?_
    refine AJ (DU (EZ (i + 1) ⟨by omega, by rw [← take_mid2, ← take_mid2, hi2, of_decide_eq_true hb5]⟩ (by first | (simp; omega) | simp | (dsimp only; omega) | omega) (Sub.all rfl) rfl))
  ·
   have hp2 : ¬ (((i:Int)) < ((nhq:Int))) := of_decide_eq_false hb2
   refine EF (BC (BC (CX (AD (AF (AC (AA _ (AE rfl) rfl ?_)))))))
   refine AJ (AD (BK (BJ (.bool true) (res1 Tryd.results103 (BF rfl)) fun w1 hw1 => ?_)))
   refine ⟨_, [], rfl, ⟨congrArg Value.bool ?_, rfl⟩, hw1.no⟩
   rw [List.take_of_length_le (by omega), List.take_of_length_le (by omega)] at hi2
   exact (decide_eq_true hi2).symm
set_option maxHeartbeats 2000000 in
theorem FB (rq : UInt64) (rk er : Int) (aj : Option Addr) (nj cj : Nat) (lj : List ItemR) (th : Bool) (pv ep : UInt64) (kd : Int) (ai : Option Addr) (ni ci : Nat) (l : List UInt64) (sa : Option Addr) (ns sc : Nat) (ls : List SealR) (bl : UInt64) (tg : List UInt8) (aha : Option Addr) (nha cha : Nat) (xha : List UInt8) (ahb : Option Addr) (nhb chb : Nat) (xhb : List UInt8)  (w : World) (hlj : lj.length = nj) (hnj : nj ≤ 2000000) (hdj : nj ≤ cj) (hcj : cj ≤ maxLen) (hj : RdV w aj (lj.flatMap itemC)) (hl : l.length = ni) (hnm : ni ≤ 2000000) (hnc : ni ≤ ci) (hcm : ci ≤ maxLen) (hv : RdV w ai (cu64 l)) (hls : ls.length = ns) (hnn : ns ≤ 2000000) (hnd : ns ≤ sc) (hcn : sc ≤ maxLen) (hs : RdV w sa (ls.flatMap sealC)) (htg : tg.length = 16) (hlha : xha.length = nha * 32) (hnha : nha ≤ 9000) (hdha : nha ≤ cha) (hcha : cha ≤ maxLen) (hrha : RdB w [] aha xha) (hlhb : xhb.length = nhb * 32) (hnhb : nhb ≤ 9000) (hdhb : nhb ≤ chb) (hchb : chb ≤ maxLen) (hrhb : RdB w [] ahb xhb) (hbi : ni ≤ 300) (hbs : ns ≤ 300)  : Calls Tryd.prog 35 #[.agg (V0 rq (rk) (er) aj nj cj th pv ep (kd) ai ni ci sa ns sc bl tg aha nha cha ahb nhb chb).toArray] w (Post w [] (fun v L => v = .bool (repR rk er th lj (blankB pv ep kd l ls bl tg) (decide (mayN pv ep kd l ls bl = 0)) nha nhb) ∧ L = [])) := by
 have hmx : maxLen = 9223372036854775807 := rfl
 refine enter (P := Tryd.prog) (f := 35) (fn := Tryd.f35) w [] 113 [] [.agg (V0 rq (rk) (er) aj nj cj th pv ep (kd) ai ni ci sa ns sc bl tg aha nha cha ahb nhb chb).toArray] Tryd.func35 rfl rfl (by simp) (BZ (by simp) (by simp) (by simp)) ?_
 show JC _ _ _ [(0, .agg (V0 rq (rk) (er) aj nj cj th pv ep (kd) ai ni ci sa ns sc bl tg aha nha cha ahb nhb chb).toArray)] _
 refine AF (AC (A2 (CN (.agg (V0 rq (rk) (er) aj nj cj th pv ep (kd) ai ni ci sa ns sc bl tg aha nha cha ahb nhb chb).toArray) (V0 rq (rk) (er) aj nj cj th pv ep (kd) ai ni ci sa ns sc bl tg aha nha cha ahb nhb chb) rfl (by first | rfl | simp)) rfl ?_))
 rintro v1 L1 ⟨nb1, hnb1, rfl, rfl⟩
 show JL _ _ _ _ (_ :: _) [_]
 refine AA _ (AE rfl) rfl ?_
 refine AJ (AD (AF (AC (AA _ (AL rfl (BR B8 BQ (by simp [htg]) (AR 0 rfl (AN _)))) rfl ?_))))
 refine A7 (A3 95 _ (.tuple #[.bool (itB (er) (rk)), .bool (chB (er) (rk) th), .bool (aB (er) (rk) th), .bool (bB (er) (rk) th)]) (AV _ Tryd.call95 rfl) (fun w1 hw1 => parts_c rq (rk) (er) aj nj cj lj th pv ep (kd) ai ni ci l sa ns sc ls bl tg aha nha cha xha ahb nhb chb xhb w1 htg)) rfl ?_
 show JL _ _ _ _ ((10, .tuple #[.bool (itB (er) (rk)), .bool (chB (er) (rk) th), .bool (aB (er) (rk) th), .bool (bB (er) (rk) th)]) :: _) [_]
 refine AA _ (AG rfl) rfl (AA _ (BI rfl rfl) rfl (AA _ (BI rfl rfl) rfl (AA _ (BI rfl rfl) rfl (AA _ (BI rfl rfl) rfl (AA _ (AE rfl) rfl (AA _ (AE rfl) rfl (AA _ (AE rfl) rfl (AA _ (AE rfl) rfl ?_))))))))
 refine AJ (AD (AF (AC (AA _ (AE rfl) rfl ?_))))
 refine AJ (AD (AF (B5 (AF (F9 (ι := Unit) (fun _ => [(1, Ptr nb1 0), (2, .bool false), (3, .bool (itB (er) (rk))), (4, .bool (chB (er) (rk) th)), (5, .bool (aB (er) (rk) th)), (6, .bool (bB (er) (rk) th)), (7, .func (.func 99) #[] #[]), (15, .bool (!(c1B er rk)))]) (fun _ => [(Ez nb1 (V0 rq (rk) (er) aj nj cj th pv ep (kd) ai ni ci sa ns sc bl tg aha nha cha ahb nhb chb) 67)]) (fun _ => True) ?_ ?_)))))
 ·
  refine AC (AA (Ptr nb1 1) (AB 1 3 1 AK rfl AW rfl rfl) rfl ?_)
  refine AA _ (AL rfl (AX A0 (AR 0 rfl (AI (AI (AH (Seg.head))))))) rfl ?_
  refine AA (.bool (decide ((rk) < (1:Int)))) (AT rfl rfl fun _ => CL _ _) rfl ?_
  refine AA _ (AG rfl) rfl ?_
  rcases Bool.eq_false_or_eq_true (decide ((rk) < (1:Int))) with hb1 | hb1
  ·
   have hp1 : (rk) < (1:Int) := of_decide_eq_true hb1
   refine A9 3 3 19 false _ rfl rfl hb1 rfl (AA _ (BA _ rfl hb1 rfl) rfl ?_)
   refine AA _ (AG rfl) rfl ?_
   refine A9 3 8 24 false _ rfl rfl rfl rfl (AA _ (BA _ rfl rfl rfl) rfl ?_)
   refine AA _ (AG rfl) rfl ?_
   refine A9 3 13 29 false _ rfl rfl rfl rfl (AA _ (BA _ rfl rfl rfl) rfl ?_)
   refine AA _ (AE rfl) rfl ?_
   refine AJ (D9 (()) trivial (Sub.cons rfl (Sub.cons rfl (Sub.cons rfl (Sub.cons rfl (Sub.cons rfl (Sub.cons rfl (Sub.cons rfl (Sub.cons (congrArg (fun b => some (Value.bool b)) (c1_no (by omega) : (true) = (!(c1B er rk)))) (Sub.nil))))))))) rfl)
  ·
   have hp1 : ¬ ((rk) < (1:Int)) := of_decide_eq_false hb1
   refine AM 3 19 false _ (Ptr nb1 1) rfl rfl hb1 (AB 1 3 1 AK rfl AW rfl rfl) rfl ?_
   refine AM 3 19 false _ _ rfl rfl hb1 (AL rfl (AX A0 (AR 0 rfl (AI (AI (AH (Seg.head))))))) rfl ?_
   refine AM 3 19 false _ (.bool (decide ((5:Int) < (rk)))) rfl rfl hb1 (AT rfl rfl fun _ => DJ _ _) rfl ?_
   refine AA _ (A5 _ rfl hb1 rfl) rfl (AA _ (AG rfl) rfl ?_)
   rcases Bool.eq_false_or_eq_true (decide ((5:Int) < (rk))) with hb2 | hb2
   ·
    have hp2 : (5:Int) < (rk) := of_decide_eq_true hb2
    refine A9 3 8 24 false _ rfl rfl hb2 rfl (AA _ (BA _ rfl hb2 rfl) rfl ?_)
    refine AA _ (AG rfl) rfl ?_
    refine A9 3 13 29 false _ rfl rfl rfl rfl (AA _ (BA _ rfl rfl rfl) rfl ?_)
    refine AA _ (AE rfl) rfl ?_
    refine AJ (D9 (()) trivial (Sub.cons rfl (Sub.cons rfl (Sub.cons rfl (Sub.cons rfl (Sub.cons rfl (Sub.cons rfl (Sub.cons rfl (Sub.cons (congrArg (fun b => some (Value.bool b)) (c1_no (by omega) : (true) = (!(c1B er rk)))) (Sub.nil))))))))) rfl)
   ·
    have hp2 : ¬ ((5:Int) < (rk)) := of_decide_eq_false hb2
    refine AM 8 24 false _ (Ptr nb1 2) rfl rfl hb2 (AB 2 3 1 AK rfl AW rfl rfl) rfl ?_
    refine AM 8 24 false _ _ rfl rfl hb2 (AL rfl (AX A0 (AR 0 rfl (AI (AI (AH (AH (Seg.head)))))))) rfl ?_
    refine AM 8 24 false _ (.bool (decide ((er) < (0:Int)))) rfl rfl hb2 (AT rfl rfl fun _ => CL _ _) rfl ?_
    refine AA _ (A5 _ rfl hb2 rfl) rfl (AA _ (AG rfl) rfl ?_)
    rcases Bool.eq_false_or_eq_true (decide ((er) < (0:Int))) with hb3 | hb3
    ·
     have hp3 : (er) < (0:Int) := of_decide_eq_true hb3
     refine A9 3 13 29 false _ rfl rfl hb3 rfl (AA _ (BA _ rfl hb3 rfl) rfl ?_)
     refine AA _ (AE rfl) rfl ?_
     refine AJ (D9 (()) trivial (Sub.cons rfl (Sub.cons rfl (Sub.cons rfl (Sub.cons rfl (Sub.cons rfl (Sub.cons rfl (Sub.cons rfl (Sub.cons (congrArg (fun b => some (Value.bool b)) (c1_no (by omega) : (true) = (!(c1B er rk)))) (Sub.nil))))))))) rfl)
    ·
     have hp3 : ¬ ((er) < (0:Int)) := of_decide_eq_false hb3
     refine AM 13 29 false _ (Ptr nb1 2) rfl rfl hb3 (AB 2 3 1 AK rfl AW rfl rfl) rfl ?_
     refine AM 13 29 false _ _ rfl rfl hb3 (AL rfl (AX A0 (AR 0 rfl (AI (AI (AH (AH (Seg.head)))))))) rfl ?_
     refine AM 13 29 false _ (.bool (decide ((14:Int) < (er)))) rfl rfl hb3 (AT rfl rfl fun _ => DJ _ _) rfl ?_
     refine AA _ (A5 _ rfl hb3 rfl) rfl (AA _ (AE rfl) rfl ?_)
     refine AJ (D9 (()) trivial (Sub.cons rfl (Sub.cons rfl (Sub.cons rfl (Sub.cons rfl (Sub.cons rfl (Sub.cons rfl (Sub.cons rfl (Sub.cons (congrArg (fun b => some (Value.bool b)) (c1_last (by omega) : (decide ((14:Int) < (er))) = (!(c1B er rk)))) (Sub.nil))))))))) rfl)
 ·
  rintro _ hx
  obtain _ := hx
  show JQ _ _ _ [_, _, _, _, _, _, _, _] [_]
  refine AD (CC (!(c1B er rk)) rfl (fun hb4 => ?_) (fun hb4 => ?_))
  ·
   have hb5 : (c1B er rk) = false := by simpa using hb4
   refine AF (AC (AA _ (AE rfl) rfl ?_))
   refine AJ (AD (BK (CS (A6 (CD [false] ?_)))))
   show JQ _ _ _ _ []
   refine BJ (.bool false) (res1 Tryd.results35 (BF rfl)) fun w1 hw1 => ?_
   exact ⟨_, [], rfl, ⟨congrArg Value.bool (show _ = repR _ _ _ _ _ _ _ _ by unfold repR; rw [hb5]; rfl), rfl⟩, hw1.no⟩
  ·
   have hb6 : (c1B er rk) = true := by simpa using hb4
   refine AF (AF (F9 (ι := Unit) (fun _ => [(1, Ptr nb1 0), (2, .bool false), (3, .bool (itB (er) (rk))), (4, .bool (chB (er) (rk) th)), (5, .bool (aB (er) (rk) th)), (6, .bool (bB (er) (rk) th)), (34, .bool ((itB er rk) && !(c2B true lj)))]) (fun _ => [(Ez nb1 (V0 rq (rk) (er) aj nj cj th pv ep (kd) ai ni ci sa ns sc bl tg aha nha cha ahb nhb chb) 67)]) (fun _ => True) ?_ ?_))
   ·
    refine AC (AA _ (AG rfl) rfl ?_)
    refine AA _ (AG rfl) rfl ?_
    rcases Bool.eq_false_or_eq_true (itB (er) (rk)) with hb7 | hb7
    ·
     refine AM 1 36 true _ (Ptr nb1 3) rfl rfl hb7 (AB 3 64 1 AK rfl C1 rfl rfl) rfl ?_
     refine AM 1 36 true _ _ rfl rfl hb7 (AL rfl (AX DZ (AR 0 rfl (AI (AI (AH (AH (AH (Seg.head))))))))) rfl ?_
     refine AM 1 36 true _ (I64 nj) rfl rfl hb7 (DA B2 rfl) rfl ?_
     refine AM 1 36 true _ (.bool (decide (((nj:Int)) < (1:Int)))) rfl rfl hb7 (AT rfl rfl fun _ => CL _ _) rfl ?_
     refine AM 1 36 true _ _ rfl rfl hb7 (AG rfl) rfl ?_
     rcases Bool.eq_false_or_eq_true (decide (((nj:Int)) < (1:Int))) with hb8 | hb8
     ·
      have hp8 : ((nj:Int)) < (1:Int) := of_decide_eq_true hb8
      refine A9 4 6 41 false _ rfl rfl hb8 rfl ?_
      refine AM 1 36 true _ _ rfl rfl hb7 (BA _ rfl hb8 rfl) rfl ?_
      refine AM 1 36 true _ _ rfl rfl hb7 (AG rfl) rfl ?_
      refine A9 4 12 47 false _ rfl rfl rfl rfl ?_
      refine AM 1 36 true _ _ rfl rfl hb7 (BA _ rfl rfl rfl) rfl (AA _ (BA _ rfl hb7 rfl) rfl ?_)
      refine AA _ (AE rfl) rfl ?_
      refine AJ (D9 (()) trivial (Sub.cons rfl (Sub.cons rfl (Sub.cons rfl (Sub.cons rfl (Sub.cons rfl (Sub.cons rfl (Sub.cons (congrArg (fun b => some (Value.bool b)) (by rw [hb7]; exact c2_no hlj (by omega) : (true) = ((itB er rk) && !(c2B true lj)))) (Sub.nil)))))))) rfl)
     ·
      have hp8 : ¬ (((nj:Int)) < (1:Int)) := of_decide_eq_false hb8
      refine AM 6 41 false _ (Ptr nb1 3) rfl rfl hb8 (AB 3 64 1 AK rfl C1 rfl rfl) rfl ?_
      refine AM 6 41 false _ _ rfl rfl hb8 (AL rfl (AX DZ (AR 0 rfl (AI (AI (AH (AH (AH (Seg.head))))))))) rfl ?_
      refine AM 6 41 false _ (I64 nj) rfl rfl hb8 (DA B2 rfl) rfl ?_
      refine AM 6 41 false _ (.bool (decide ((256:Int) < ((nj:Int))))) rfl rfl hb8 (AT rfl rfl fun _ => DJ _ _) rfl ?_
      refine AM 1 36 true _ _ rfl rfl hb7 (A5 _ rfl hb8 rfl) rfl ?_
      refine AM 1 36 true _ _ rfl rfl hb7 (AG rfl) rfl ?_
      rcases Bool.eq_false_or_eq_true (decide ((256:Int) < ((nj:Int)))) with hb9 | hb9
      ·
       have hp9 : (256:Int) < ((nj:Int)) := of_decide_eq_true hb9
       refine A9 4 12 47 false _ rfl rfl hb9 rfl ?_
       refine AM 1 36 true _ _ rfl rfl hb7 (BA _ rfl hb9 rfl) rfl (AA _ (BA _ rfl hb7 rfl) rfl ?_)
       refine AA _ (AE rfl) rfl ?_
       refine AJ (D9 (()) trivial (Sub.cons rfl (Sub.cons rfl (Sub.cons rfl (Sub.cons rfl (Sub.cons rfl (Sub.cons rfl (Sub.cons (congrArg (fun b => some (Value.bool b)) (by rw [hb7]; exact c2_no hlj (by omega) : (true) = ((itB er rk) && !(c2B true lj)))) (Sub.nil)))))))) rfl)
      ·
       have hp9 : ¬ ((256:Int) < ((nj:Int))) := of_decide_eq_false hb9
       refine AM 12 47 false _ (Ptr nb1 3) rfl rfl hb9 (AB 3 64 1 AK rfl C1 rfl rfl) rfl ?_
       refine AM 12 47 false _ _ rfl rfl hb9 (AL rfl (AX DZ (AR 0 rfl (AI (AI (AH (AH (AH (Seg.head))))))))) rfl ?_
       refine AM 12 47 false _ _ rfl rfl hb9 (AG rfl) rfl ?_
       refine DC 12 47 false _ rfl rfl hb9 (A3 101 _ (.bool (lj.any (fun x => !plainB x))) (AV _ Tryd.call101 rfl) (fun w1 hw1 => cfItem_c aj nj cj lj w1 hlj (by omega) (by omega) (by omega) (CF hw1 rfl hj))) rfl ?_
       rintro v1 L1 ⟨rfl, rfl⟩
       show JL _ _ _ _ ((51, .bool (lj.any (fun x => !plainB x))) :: _) [_]
       refine AM 1 36 true _ _ rfl rfl hb7 (A5 _ rfl hb9 rfl) rfl (AA _ (BA _ rfl hb7 rfl) rfl ?_)
       refine AA _ (AE rfl) rfl ?_
       refine AJ (D9 (()) trivial (Sub.cons rfl (Sub.cons rfl (Sub.cons rfl (Sub.cons rfl (Sub.cons rfl (Sub.cons rfl (Sub.cons (congrArg (fun b => some (Value.bool b)) (by rw [hb7]; exact c2_e hlj (by omega) : (lj.any (fun x => !plainB x)) = ((itB er rk) && !(c2B true lj)))) (Sub.nil)))))))) rfl)
    ·
     refine A9 5 1 36 true _ rfl rfl hb7 rfl ?_
     refine CQ 6 41 false rfl rfl rfl ?_
     refine CQ 6 41 false rfl rfl rfl ?_
     refine CQ 6 41 false rfl rfl rfl ?_
     refine CQ 6 41 false rfl rfl rfl ?_
     refine A9 2 1 36 true _ rfl rfl hb7 rfl ?_
     refine CQ 12 47 false rfl rfl rfl ?_
     refine CQ 12 47 false rfl rfl rfl ?_
     refine CQ 12 47 false rfl rfl rfl ?_
     refine CQ 12 47 false rfl rfl rfl ?_
     refine FN 1 36 true _ rfl rfl hb7 rfl (AA _ (A5 _ rfl hb7 rfl) rfl ?_)
     refine AA _ (AE rfl) rfl ?_
     refine AJ (D9 (()) trivial (Sub.cons rfl (Sub.cons rfl (Sub.cons rfl (Sub.cons rfl (Sub.cons rfl (Sub.cons rfl (Sub.cons (congrArg (fun b => some (Value.bool b)) (by rw [hb7]; rfl : (false) = ((itB er rk) && !(c2B true lj)))) (Sub.nil)))))))) rfl)
   ·
    rintro _ hx
    obtain _ := hx
    show JQ _ _ _ [_, _, _, _, _, _, _] [_]
    refine AD (F9 (ι := Unit) (fun _ => [(1, Ptr nb1 0), (2, .bool false), (4, .bool (chB (er) (rk) th)), (5, .bool (aB (er) (rk) th)), (6, .bool (bB (er) (rk) th)), (34, .bool (!(c2B (itB er rk) lj)))]) (fun _ => [(Ez nb1 (V0 rq (rk) (er) aj nj cj th pv ep (kd) ai ni ci sa ns sc bl tg aha nha cha ahb nhb chb) 67)]) (fun _ => True) ?_ ?_)
    ·
     refine CC ((itB er rk) && !(c2B true lj)) rfl (fun hb10 => ?_) (fun hb10 => ?_)
     ·
      refine BH (D9 (()) trivial (Sub.cons rfl (Sub.cons rfl (Sub.cons rfl (Sub.cons rfl (Sub.cons rfl (Sub.cons (congrArg (fun b => some (Value.bool b)) (by rw [c2_t hb10]; exact hb10 : ((itB er rk) && !(c2B true lj)) = (!(c2B (itB er rk) lj)))) (Sub.nil))))))) rfl)
     ·
      refine AC (AA _ (AG rfl) rfl ?_)
      refine AA (.bool (!(itB (er) (rk)))) (D1 rfl) rfl (AA _ (AG rfl) rfl ?_)
      rcases Bool.eq_false_or_eq_true (itB (er) (rk)) with hb11 | hb11
      ·
       refine A9 4 2 56 true _ rfl rfl (bnotT hb11) rfl (AA _ (A5 _ rfl (bnotT hb11) rfl) rfl ?_)
       refine AA _ (AE rfl) rfl ?_
       refine AJ (D9 (()) trivial (Sub.cons rfl (Sub.cons rfl (Sub.cons rfl (Sub.cons rfl (Sub.cons rfl (Sub.cons (congrArg (fun b => some (Value.bool b)) (by rw [c2_f hb10 hb11]; rfl : (false) = (!(c2B (itB er rk) lj)))) (Sub.nil))))))) rfl)
      ·
       refine AM 2 56 true _ (Ptr nb1 3) rfl rfl (bnotF hb11) (AB 3 64 1 AK rfl C1 rfl rfl) rfl ?_
       refine AM 2 56 true _ _ rfl rfl (bnotF hb11) (AL rfl (AX DZ (AR 0 rfl (AI (AI (AH (AH (AH (Seg.head))))))))) rfl ?_
       refine AM 2 56 true _ (I64 nj) rfl rfl (bnotF hb11) (DA B2 rfl) rfl ?_
       refine AM 2 56 true _ (.bool (decide ((0:Int) < ((nj:Int))))) rfl rfl (bnotF hb11) (AT rfl rfl fun _ => DJ _ _) rfl ?_
       refine AA _ (BA _ rfl (bnotF hb11) rfl) rfl (AA _ (AE rfl) rfl ?_)
       refine AJ (D9 (()) trivial (Sub.cons rfl (Sub.cons rfl (Sub.cons rfl (Sub.cons rfl (Sub.cons rfl (Sub.cons (congrArg (fun b => some (Value.bool b)) (by rw [hb11, c2_n hlj, ← decide_not]; exact decide_eq_decide.2 (by omega) : (decide ((0:Int) < ((nj:Int)))) = (!(c2B (itB er rk) lj)))) (Sub.nil))))))) rfl)
    ·
     rintro _ hx
     obtain _ := hx
     show JQ _ _ _ [_, _, _, _, _, _] [_]
     refine AD (CC (!(c2B (itB er rk) lj)) rfl (fun hb12 => ?_) (fun hb12 => ?_))
     ·
      have hb13 : (c2B (itB er rk) lj) = false := by simpa using hb12
      refine AF (AC (AA _ (AE rfl) rfl ?_))
      refine AJ (AD (BK (CS (A6 (CD [false] ?_)))))
      show JQ _ _ _ _ []
      refine BJ (.bool false) (res1 Tryd.results35 (BF rfl)) fun w1 hw1 => ?_
      exact ⟨_, [], rfl, ⟨congrArg Value.bool (show _ = repR _ _ _ _ _ _ _ _ by unfold repR; rw [hb6, hb13]; rfl), rfl⟩, hw1.no⟩
     ·
      have hb14 : (c2B (itB er rk) lj) = true := by simpa using hb12
      refine AF (AF (F9 (ι := Unit) (fun _ => [(1, Ptr nb1 0), (2, .bool false), (4, .bool (chB (er) (rk) th)), (5, .bool (aB (er) (rk) th)), (6, .bool (bB (er) (rk) th)), (62, .bool ((chB er rk th) && !(decide (mayN pv ep kd l ls bl = 0))))]) (fun _ => [(Ez nb1 (V0 rq (rk) (er) aj nj cj th pv ep (kd) ai ni ci sa ns sc bl tg aha nha cha ahb nhb chb) 67)]) (fun _ => True) ?_ ?_))
      ·
       refine AC (AA _ (AG rfl) rfl ?_)
       refine AA _ (AG rfl) rfl ?_
       rcases Bool.eq_false_or_eq_true (chB (er) (rk) th) with hb15 | hb15
       ·
        refine AM 1 64 true _ (Ptr nb1 5) rfl rfl hb15 (AB 5 29 22 AK rfl BB rfl rfl) rfl ?_
        refine AM 1 64 true _ _ rfl rfl hb15 (AL rfl (BR CA BB (by simp [htg]) (AR 0 rfl (DL (p := [U64 rq, I64 (rk), I64 (er), SL aj nj cj, .bool th]) (q := [SL aha nha cha, SL ahb nhb chb]) (vs := (V2 pv ep (kd) ai ni ci sa ns sc bl tg)) (by first | rfl | (simp only [List.append_assoc, List.nil_append, List.append_nil, List.cons_append]; done)) rfl)))) rfl ?_
        refine DC 1 64 true _ rfl rfl hb15 (A3 87 _ (.bool (decide (mayN pv ep (kd) l ls bl = 0))) (AV _ Tryd.call87 rfl) (fun w1 hw1 => wmay_w pv ep (kd) ai ni ci l sa ns sc ls bl tg w1 hl (by omega) (by omega) (by omega) (CF hw1 rfl hv) hls (by omega) (by omega) (by omega) (CF hw1 rfl hs) htg (by omega) (by omega))) rfl ?_
        rintro v1 L1 ⟨rfl, rfl⟩
        show JL _ _ _ _ ((67, .bool (decide (mayN pv ep (kd) l ls bl = 0))) :: _) [_]
        refine AM 1 64 true _ (.bool (!(decide (mayN pv ep (kd) l ls bl = 0)))) rfl rfl hb15 (D1 rfl) rfl (AA _ (BA _ rfl hb15 rfl) rfl ?_)
        refine AA _ (AE rfl) rfl ?_
        refine AJ (D9 (()) trivial (Sub.cons rfl (Sub.cons rfl (Sub.cons rfl (Sub.cons rfl (Sub.cons rfl (Sub.cons (congrArg (fun b => some (Value.bool b)) (by rw [hb15]; rfl : (!(decide (mayN pv ep (kd) l ls bl = 0))) = ((chB er rk th) && !(decide (mayN pv ep kd l ls bl = 0))))) (Sub.nil))))))) rfl)
       ·
        refine A9 4 1 64 true _ rfl rfl hb15 rfl (AA _ (A5 _ rfl hb15 rfl) rfl ?_)
        refine AA _ (AE rfl) rfl ?_
        refine AJ (D9 (()) trivial (Sub.cons rfl (Sub.cons rfl (Sub.cons rfl (Sub.cons rfl (Sub.cons rfl (Sub.cons (congrArg (fun b => some (Value.bool b)) (by rw [hb15]; rfl : (false) = ((chB er rk th) && !(decide (mayN pv ep kd l ls bl = 0))))) (Sub.nil))))))) rfl)
      ·
       rintro _ hx
       obtain _ := hx
       show JQ _ _ _ [_, _, _, _, _, _] [_]
       refine AD (F9 (ι := Unit) (fun _ => [(1, Ptr nb1 0), (2, .bool false), (5, .bool (aB (er) (rk) th)), (6, .bool (bB (er) (rk) th)), (62, .bool (!(c3B (chB er rk th) th (blankB pv ep kd l ls bl tg) (decide (mayN pv ep kd l ls bl = 0)))))]) (fun _ => [(Ez nb1 (V0 rq (rk) (er) aj nj cj th pv ep (kd) ai ni ci sa ns sc bl tg aha nha cha ahb nhb chb) 67)]) (fun _ => True) ?_ ?_)
       ·
        refine CC ((chB er rk th) && !(decide (mayN pv ep kd l ls bl = 0))) rfl (fun hb16 => ?_) (fun hb16 => ?_)
        ·
         refine BH (D9 (()) trivial (Sub.cons rfl (Sub.cons rfl (Sub.cons rfl (Sub.cons rfl (Sub.cons (congrArg (fun b => some (Value.bool b)) (by rw [c3_t hb16]; exact hb16 : ((chB er rk th) && !(decide (mayN pv ep kd l ls bl = 0))) = (!(c3B (chB er rk th) th (blankB pv ep kd l ls bl tg) (decide (mayN pv ep kd l ls bl = 0)))))) (Sub.nil)))))) rfl)
        ·
         refine AC (AA _ (AG rfl) rfl ?_)
         refine AA (.bool (!(chB (er) (rk) th))) (D1 rfl) rfl (AA _ (AG rfl) rfl ?_)
         rcases Bool.eq_false_or_eq_true (chB (er) (rk) th) with hb17 | hb17
         ·
          refine A9 3 2 72 true _ rfl rfl (bnotT hb17) rfl ?_
          refine CQ 5 75 false rfl rfl rfl ?_
          refine CQ 5 75 false rfl rfl rfl ?_
          refine CQ 5 75 false rfl rfl rfl ?_
          refine CQ 5 75 false rfl rfl rfl ?_
          refine FN 2 72 true _ rfl rfl (bnotT hb17) rfl (AA _ (A5 _ rfl (bnotT hb17) rfl) rfl ?_)
          refine AA _ (AE rfl) rfl ?_
          refine AJ (D9 (()) trivial (Sub.cons rfl (Sub.cons rfl (Sub.cons rfl (Sub.cons rfl (Sub.cons (congrArg (fun b => some (Value.bool b)) (by rw [c3_f hb16 hb17]; rfl : (false) = (!(c3B (chB er rk th) th (blankB pv ep kd l ls bl tg) (decide (mayN pv ep kd l ls bl = 0)))))) (Sub.nil)))))) rfl)
         ·
          refine AM 2 72 true _ (Ptr nb1 4) rfl rfl (bnotF hb17) (AB 4 4 1 AK rfl Tryd.sizeOf4 rfl rfl) rfl ?_
          refine AM 2 72 true _ _ rfl rfl (bnotF hb17) (AL rfl (AX Tryd.isAgg4 (AR 0 rfl (AI (AI (AH (AH (AH (AH (Seg.head)))))))))) rfl ?_
          refine AM 2 72 true _ _ rfl rfl (bnotF hb17) (AG rfl) rfl ?_
          rcases Bool.eq_false_or_eq_true (th) with hb18 | hb18
          ·
           refine A9 4 5 75 false _ rfl rfl hb18 rfl ?_
           refine AM 2 72 true _ _ rfl rfl (bnotF hb17) (BA _ rfl hb18 rfl) rfl (AA _ (BA _ rfl (bnotF hb17) rfl) rfl ?_)
           refine AA _ (AE rfl) rfl ?_
           refine AJ (D9 (()) trivial (Sub.cons rfl (Sub.cons rfl (Sub.cons rfl (Sub.cons rfl (Sub.cons (congrArg (fun b => some (Value.bool b)) (by rw [hb17, c3_n, hb18]; rfl : (true) = (!(c3B (chB er rk th) th (blankB pv ep kd l ls bl tg) (decide (mayN pv ep kd l ls bl = 0)))))) (Sub.nil)))))) rfl)
          ·
           refine AM 5 75 false _ (Ptr nb1 5) rfl rfl hb18 (AB 5 29 22 AK rfl BB rfl rfl) rfl ?_
           refine AM 5 75 false _ _ rfl rfl hb18 (AL rfl (BR CA BB (by simp [htg]) (AR 0 rfl (DL (p := [U64 rq, I64 (rk), I64 (er), SL aj nj cj, .bool th]) (q := [SL aha nha cha, SL ahb nhb chb]) (vs := (V2 pv ep (kd) ai ni ci sa ns sc bl tg)) (by first | rfl | (simp only [List.append_assoc, List.nil_append, List.append_nil, List.cons_append]; done)) rfl)))) rfl ?_
           refine DC 5 75 false _ rfl rfl hb18 (A3 84 _ (.bool (blankB pv ep (kd) l ls bl tg)) (AV _ Tryd.call84 rfl) (fun w1 hw1 => blank_c pv ep (kd) ai ni ci l sa ns sc ls bl tg w1 hl (by omega) (by omega) (by omega) (CF hw1 rfl hv) hls (by omega) (by omega) (by omega) (CF hw1 rfl hs) htg)) rfl ?_
           rintro v1 L1 ⟨rfl, rfl⟩
           show JL _ _ _ _ ((78, .bool (blankB pv ep (kd) l ls bl tg)) :: _) [_]
           refine AM 5 75 false _ (.bool (!(blankB pv ep (kd) l ls bl tg))) rfl rfl hb18 (D1 rfl) rfl ?_
           refine AM 2 72 true _ _ rfl rfl (bnotF hb17) (A5 _ rfl hb18 rfl) rfl (AA _ (BA _ rfl (bnotF hb17) rfl) rfl ?_)
           refine AA _ (AE rfl) rfl ?_
           refine AJ (D9 (()) trivial (Sub.cons rfl (Sub.cons rfl (Sub.cons rfl (Sub.cons rfl (Sub.cons (congrArg (fun b => some (Value.bool b)) (by rw [hb17, c3_n, hb18]; rfl : (!(blankB pv ep (kd) l ls bl tg)) = (!(c3B (chB er rk th) th (blankB pv ep kd l ls bl tg) (decide (mayN pv ep kd l ls bl = 0)))))) (Sub.nil)))))) rfl)
       ·
        rintro _ hx
        obtain _ := hx
        show JQ _ _ _ [_, _, _, _, _] [_]
        refine AD (CC (!(c3B (chB er rk th) th (blankB pv ep kd l ls bl tg) (decide (mayN pv ep kd l ls bl = 0)))) rfl (fun hb19 => ?_) (fun hb19 => ?_))
        ·
         have hb20 : (c3B (chB er rk th) th (blankB pv ep kd l ls bl tg) (decide (mayN pv ep kd l ls bl = 0))) = false := by simpa using hb19
         refine AF (AC (AA _ (AE rfl) rfl ?_))
         refine AJ (AD (BK (CS (A6 (CD [false] ?_)))))
         show JQ _ _ _ _ []
         refine BJ (.bool false) (res1 Tryd.results35 (BF rfl)) fun w1 hw1 => ?_
         exact ⟨_, [], rfl, ⟨congrArg Value.bool (show _ = repR _ _ _ _ _ _ _ _ by unfold repR; rw [hb6, hb14, hb20]; rfl), rfl⟩, hw1.no⟩
        ·
         have hb21 : (c3B (chB er rk th) th (blankB pv ep kd l ls bl tg) (decide (mayN pv ep kd l ls bl = 0))) = true := by simpa using hb19
         refine AF (F9 (ι := Unit) (fun _ => [(2, .bool false), (82, .bool (!(c4B (aB er rk th) (bB er rk th) nha nhb)))]) (fun _ => [(Ez nb1 (V0 rq (rk) (er) aj nj cj th pv ep (kd) ai ni ci sa ns sc bl tg aha nha cha ahb nhb chb) 67)]) (fun _ => True) ?_ ?_)
         ·
          refine AC (AA (Ptr nb1 27) (AB 27 65 1 AK rfl CI rfl rfl) rfl ?_)
          refine AA _ (AL rfl (AX D3 (AR 0 rfl (Seg.right 27 0 (by simp [htg]) rfl (Seg.head))))) rfl ?_
          refine AA (I64 nha) (DA CP rfl) rfl ?_
          refine AA (.bool (decide ((256:Int) < ((nha:Int))))) (AT rfl rfl fun _ => DJ _ _) rfl ?_
          refine AA _ (AG rfl) rfl ?_
          rcases Bool.eq_false_or_eq_true (decide ((256:Int) < ((nha:Int)))) with hb22 | hb22
          ·
           have hp22 : (256:Int) < ((nha:Int)) := of_decide_eq_true hb22
           refine A9 4 4 87 false _ rfl rfl hb22 rfl (AA _ (BA _ rfl hb22 rfl) rfl ?_)
           refine AA _ (AG rfl) rfl ?_
           refine A9 3 10 93 false _ rfl rfl rfl rfl ?_
           refine CQ 13 96 true rfl rfl rfl ?_
           refine CQ 13 96 true rfl rfl rfl ?_
           refine CQ 13 96 true rfl rfl rfl ?_
           refine CQ 13 96 true rfl rfl rfl ?_
           refine FN 10 93 false _ rfl rfl rfl rfl (AA _ (BA _ rfl rfl rfl) rfl ?_)
           refine AA _ (AG rfl) rfl ?_
           refine A9 3 20 103 false _ rfl rfl rfl rfl ?_
           refine CQ 23 106 true rfl rfl rfl ?_
           refine CQ 23 106 true rfl rfl rfl ?_
           refine CQ 23 106 true rfl rfl rfl ?_
           refine CQ 23 106 true rfl rfl rfl ?_
           refine FN 20 103 false _ rfl rfl rfl rfl (AA _ (BA _ rfl rfl rfl) rfl ?_)
           refine AA _ (AE rfl) rfl ?_
           refine AJ ?_
           have fz0 : ¬ nha ≤ 256 := by omega
           refine D9 (()) trivial (Sub.cons rfl (Sub.cons (congrArg (fun b => some (Value.bool b)) (by unfold c4B; simp [fz0] : (true) = (!(c4B (aB er rk th) (bB er rk th) nha nhb)))) (Sub.nil))) rfl
          ·
           have hp22 : ¬ ((256:Int) < ((nha:Int))) := of_decide_eq_false hb22
           refine AM 4 87 false _ (Ptr nb1 28) rfl rfl hb22 (AB 28 65 1 AK rfl CI rfl rfl) rfl ?_
           refine AM 4 87 false _ _ rfl rfl hb22 (AL rfl (AX D3 (AR 0 rfl (Seg.right 27 1 (by simp [htg]) rfl (AH (Seg.head)))))) rfl ?_
           refine AM 4 87 false _ (I64 nhb) rfl rfl hb22 (DA CP rfl) rfl ?_
           refine AM 4 87 false _ (.bool (decide ((8192:Int) < ((nhb:Int))))) rfl rfl hb22 (AT rfl rfl fun _ => DJ _ _) rfl ?_
           refine AA _ (A5 _ rfl hb22 rfl) rfl (AA _ (AG rfl) rfl ?_)
           rcases Bool.eq_false_or_eq_true (decide ((8192:Int) < ((nhb:Int)))) with hb23 | hb23
           ·
            have hp23 : (8192:Int) < ((nhb:Int)) := of_decide_eq_true hb23
            refine A9 3 10 93 false _ rfl rfl hb23 rfl ?_
            refine CQ 13 96 true rfl rfl rfl ?_
            refine CQ 13 96 true rfl rfl rfl ?_
            refine CQ 13 96 true rfl rfl rfl ?_
            refine CQ 13 96 true rfl rfl rfl ?_
            refine FN 10 93 false _ rfl rfl hb23 rfl (AA _ (BA _ rfl hb23 rfl) rfl ?_)
            refine AA _ (AG rfl) rfl ?_
            refine A9 3 20 103 false _ rfl rfl rfl rfl ?_
            refine CQ 23 106 true rfl rfl rfl ?_
            refine CQ 23 106 true rfl rfl rfl ?_
            refine CQ 23 106 true rfl rfl rfl ?_
            refine CQ 23 106 true rfl rfl rfl ?_
            refine FN 20 103 false _ rfl rfl rfl rfl (AA _ (BA _ rfl rfl rfl) rfl ?_)
            refine AA _ (AE rfl) rfl ?_
            refine AJ ?_
            have fz0 : nha ≤ 256 := by omega
            have fz1 : ¬ nhb ≤ 8192 := by omega
            refine D9 (()) trivial (Sub.cons rfl (Sub.cons (congrArg (fun b => some (Value.bool b)) (by unfold c4B; simp [fz0, fz1] : (true) = (!(c4B (aB er rk th) (bB er rk th) nha nhb)))) (Sub.nil))) rfl
           ·
            have hp23 : ¬ ((8192:Int) < ((nhb:Int))) := of_decide_eq_false hb23
            refine AM 10 93 false _ _ rfl rfl hb23 (AG rfl) rfl ?_
            refine AM 10 93 false _ (.bool (!(aB (er) (rk) th))) rfl rfl hb23 (D1 rfl) rfl ?_
            refine AM 10 93 false _ _ rfl rfl hb23 (AG rfl) rfl ?_
            rcases Bool.eq_false_or_eq_true (aB (er) (rk) th) with hb24 | hb24
            ·
             refine A9 4 13 96 true _ rfl rfl (bnotT hb24) rfl ?_
             refine AM 10 93 false _ _ rfl rfl hb23 (A5 _ rfl (bnotT hb24) rfl) rfl (AA _ (A5 _ rfl hb23 rfl) rfl ?_)
             refine AA _ (AG rfl) rfl ?_
             refine AM 20 103 false _ _ rfl rfl rfl (AG rfl) rfl ?_
             refine AM 20 103 false _ (.bool (!(bB (er) (rk) th))) rfl rfl rfl (D1 rfl) rfl ?_
             refine AM 20 103 false _ _ rfl rfl rfl (AG rfl) rfl ?_
             rcases Bool.eq_false_or_eq_true (bB (er) (rk) th) with hb25 | hb25
             ·
              refine A9 4 23 106 true _ rfl rfl (bnotT hb25) rfl ?_
              refine AM 20 103 false _ _ rfl rfl rfl (A5 _ rfl (bnotT hb25) rfl) rfl (AA _ (A5 _ rfl rfl rfl) rfl ?_)
              refine AA _ (AE rfl) rfl ?_
              refine AJ ?_
              have fz0 : nha ≤ 256 := by omega
              have fz1 : nhb ≤ 8192 := by omega
              refine D9 (()) trivial (Sub.cons rfl (Sub.cons (congrArg (fun b => some (Value.bool b)) (by unfold c4B; simp [fz0, fz1, hb24, hb25] : (false) = (!(c4B (aB er rk th) (bB er rk th) nha nhb)))) (Sub.nil))) rfl
             ·
              refine AM 23 106 true _ (Ptr nb1 28) rfl rfl (bnotF hb25) (AB 28 65 1 AK rfl CI rfl rfl) rfl ?_
              refine AM 23 106 true _ _ rfl rfl (bnotF hb25) (AL rfl (AX D3 (AR 0 rfl (Seg.right 27 1 (by simp [htg]) rfl (AH (Seg.head)))))) rfl ?_
              refine AM 23 106 true _ (I64 nhb) rfl rfl (bnotF hb25) (DA CP rfl) rfl ?_
              refine AM 23 106 true _ (.bool (decide ((0:Int) < ((nhb:Int))))) rfl rfl (bnotF hb25) (AT rfl rfl fun _ => DJ _ _) rfl ?_
              refine AM 20 103 false _ _ rfl rfl rfl (BA _ rfl (bnotF hb25) rfl) rfl (AA _ (A5 _ rfl rfl rfl) rfl ?_)
              refine AA _ (AE rfl) rfl ?_
              refine AJ ?_
              have fz0 : nha ≤ 256 := by omega
              have fz1 : nhb ≤ 8192 := by omega
              refine D9 (()) trivial (Sub.cons rfl (Sub.cons (congrArg (fun b => some (Value.bool b)) (by rw [show (decide ((0:Int) < ((nhb:Int)))) = decide (¬ nhb = 0) from decide_eq_decide.2 (by omega)]; unfold c4B; simp [fz0, fz1, hb24, hb25] : (decide ((0:Int) < ((nhb:Int)))) = (!(c4B (aB er rk th) (bB er rk th) nha nhb)))) (Sub.nil))) rfl
            ·
             refine AM 13 96 true _ (Ptr nb1 27) rfl rfl (bnotF hb24) (AB 27 65 1 AK rfl CI rfl rfl) rfl ?_
             refine AM 13 96 true _ _ rfl rfl (bnotF hb24) (AL rfl (AX D3 (AR 0 rfl (Seg.right 27 0 (by simp [htg]) rfl (Seg.head))))) rfl ?_
             refine AM 13 96 true _ (I64 nha) rfl rfl (bnotF hb24) (DA CP rfl) rfl ?_
             refine AM 13 96 true _ (.bool (decide ((0:Int) < ((nha:Int))))) rfl rfl (bnotF hb24) (AT rfl rfl fun _ => DJ _ _) rfl ?_
             refine AM 10 93 false _ _ rfl rfl hb23 (BA _ rfl (bnotF hb24) rfl) rfl (AA _ (A5 _ rfl hb23 rfl) rfl ?_)
             refine AA _ (AG rfl) rfl ?_
             rcases Bool.eq_false_or_eq_true (decide ((0:Int) < ((nha:Int)))) with hb26 | hb26
             ·
              have hp26 : (0:Int) < ((nha:Int)) := of_decide_eq_true hb26
              refine A9 3 20 103 false _ rfl rfl hb26 rfl ?_
              refine CQ 23 106 true rfl rfl rfl ?_
              refine CQ 23 106 true rfl rfl rfl ?_
              refine CQ 23 106 true rfl rfl rfl ?_
              refine CQ 23 106 true rfl rfl rfl ?_
              refine FN 20 103 false _ rfl rfl hb26 rfl (AA _ (BA _ rfl hb26 rfl) rfl ?_)
              refine AA _ (AE rfl) rfl ?_
              refine AJ ?_
              have fz0 : nha ≤ 256 := by omega
              have fz1 : nhb ≤ 8192 := by omega
              have fz2 : nha ≠ 0 := by omega
              refine D9 (()) trivial (Sub.cons rfl (Sub.cons (congrArg (fun b => some (Value.bool b)) (by unfold c4B; simp [fz0, fz1, fz2, hb24] : (true) = (!(c4B (aB er rk th) (bB er rk th) nha nhb)))) (Sub.nil))) rfl
             ·
              have hp26 : ¬ ((0:Int) < ((nha:Int))) := of_decide_eq_false hb26
              refine AM 20 103 false _ _ rfl rfl hb26 (AG rfl) rfl ?_
              refine AM 20 103 false _ (.bool (!(bB (er) (rk) th))) rfl rfl hb26 (D1 rfl) rfl ?_
              refine AM 20 103 false _ _ rfl rfl hb26 (AG rfl) rfl ?_
              rcases Bool.eq_false_or_eq_true (bB (er) (rk) th) with hb27 | hb27
              ·
               refine A9 4 23 106 true _ rfl rfl (bnotT hb27) rfl ?_
               refine AM 20 103 false _ _ rfl rfl hb26 (A5 _ rfl (bnotT hb27) rfl) rfl (AA _ (A5 _ rfl hb26 rfl) rfl ?_)
               refine AA _ (AE rfl) rfl ?_
               refine AJ ?_
               have fz0 : nha ≤ 256 := by omega
               have fz1 : nhb ≤ 8192 := by omega
               have fz2 : nha = 0 := by omega
               refine D9 (()) trivial (Sub.cons rfl (Sub.cons (congrArg (fun b => some (Value.bool b)) (by unfold c4B; simp [fz0, fz1, fz2, hb24, hb27] : (false) = (!(c4B (aB er rk th) (bB er rk th) nha nhb)))) (Sub.nil))) rfl
              ·
               refine AM 23 106 true _ (Ptr nb1 28) rfl rfl (bnotF hb27) (AB 28 65 1 AK rfl CI rfl rfl) rfl ?_
               refine AM 23 106 true _ _ rfl rfl (bnotF hb27) (AL rfl (AX D3 (AR 0 rfl (Seg.right 27 1 (by simp [htg]) rfl (AH (Seg.head)))))) rfl ?_
               refine AM 23 106 true _ (I64 nhb) rfl rfl (bnotF hb27) (DA CP rfl) rfl ?_
               refine AM 23 106 true _ (.bool (decide ((0:Int) < ((nhb:Int))))) rfl rfl (bnotF hb27) (AT rfl rfl fun _ => DJ _ _) rfl ?_
               refine AM 20 103 false _ _ rfl rfl hb26 (BA _ rfl (bnotF hb27) rfl) rfl (AA _ (A5 _ rfl hb26 rfl) rfl ?_)
               refine AA _ (AE rfl) rfl ?_
               refine AJ ?_
               have fz0 : nha ≤ 256 := by omega
               have fz1 : nhb ≤ 8192 := by omega
               have fz2 : nha = 0 := by omega
               refine D9 (()) trivial (Sub.cons rfl (Sub.cons (congrArg (fun b => some (Value.bool b)) (by rw [show (decide ((0:Int) < ((nhb:Int)))) = decide (¬ nhb = 0) from decide_eq_decide.2 (by omega)]; unfold c4B; simp [fz0, fz1, fz2, hb24, hb27] : (decide ((0:Int) < ((nhb:Int)))) = (!(c4B (aB er rk th) (bB er rk th) nha nhb)))) (Sub.nil))) rfl
         ·
          rintro _ hx
          obtain _ := hx
          show JQ _ _ _ [_, _] [_]
          refine AD (CC (!(c4B (aB er rk th) (bB er rk th) nha nhb)) rfl (fun hb28 => ?_) (fun hb28 => ?_))
          ·
           have hb29 : (c4B (aB er rk th) (bB er rk th) nha nhb) = false := by simpa using hb28
           refine AF (AC (AA _ (AE rfl) rfl ?_))
           refine AJ (AD (BK (CS (A6 (CD [false] ?_)))))
           show JQ _ _ _ _ []
           refine BJ (.bool false) (res1 Tryd.results35 (BF rfl)) fun w1 hw1 => ?_
           exact ⟨_, [], rfl, ⟨congrArg Value.bool (show _ = repR _ _ _ _ _ _ _ _ by unfold repR; rw [hb6, hb14, hb21, hb29]; rfl), rfl⟩, hw1.no⟩
          ·
           have hb30 : (c4B (aB er rk th) (bB er rk th) nha nhb) = true := by simpa using hb28
           refine BH (BU (AD (AF (AC (AA _ (AE rfl) rfl ?_)))))
           refine AJ (AD (BK (CD [false] ?_)))
           show JQ _ _ _ _ []
           refine BJ (.bool true) (res1 Tryd.results35 (BF rfl)) fun w1 hw1 => ?_
           exact ⟨_, [], rfl, ⟨congrArg Value.bool (show _ = repR _ _ _ _ _ _ _ _ by unfold repR; rw [hb6, hb14, hb21, hb30]; rfl), rfl⟩, hw1.no⟩
theorem hashesO_c (wb gb n cap0 tot : Nat) (ev : Value) (o : List UInt8) (sp0 : List Value) (ahq : Option Addr) (nhq chq : Nat) (xhq : List UInt8)  (w : World) (h0 : w.heap[wb]? = some (.cells [ev, Slc gb 0 n cap0].toArray 149 (0, 0))) (h1 : w.heap[gb]? = some (.cells (cu8 o ++ sp0).toArray 5 (0, 0))) (hne : wb ≠ gb) (ho : o.length = n) (hsp : sp0.length = cap0 - n) (hca : n ≤ cap0) (hcm : cap0 ≤ maxLen) (hn : n ≤ 1000000000) (hlhq : xhq.length = nhq * 32) (hnhq : nhq ≤ 8192) (hdhq : nhq ≤ chq) (hchq : chq ≤ maxLen) (hrhq : RdB w [wb, gb] ahq xhq) (ht : n + 2 + nhq*32 = tot) (htb : tot ≤ 1000000000)  : Calls Tryd.prog 98 #[Ptr wb 0, SL ahq nhq chq] w (Post w [wb, gb] (fun v L => v = .tuple #[] ∧ ∃ g sp cap, L = [(Ez wb [ev, Slc g 0 tot cap] 149), (Ez g (cu8 ((o ++ numK 2 (UInt64.ofNat nhq) 2) ++ xhq) ++ sp) 5)] ∧ sp.length = cap - tot ∧ tot ≤ cap ∧ cap ≤ maxLen)) := by
 have hmx : maxLen = 9223372036854775807 := rfl
 refine enter w [wb, gb] 21 [(Ez wb [ev, Slc gb 0 n cap0] 149), (Ez gb (cu8 o ++ sp0) 5)] [Ptr wb 0, SL ahq nhq chq] Tryd.func98 rfl rfl (by simp) (BZ (by simp; exact ⟨h0, h1⟩) (by simp; exact hne) (by simp)) ?_
 show JC _ _ _ [(0, Ptr wb 0), (1, SL ahq nhq chq)] _
 refine AF (AC (AA _ (AG rfl) rfl ?_))
 refine AA _ (AG rfl) rfl ?_
 refine AA (I64 nhq) (DA CP rfl) rfl ?_
 refine AA (U64 (UInt64.ofNat nhq)) (CV _ _ rfl fun _ => EB (by rw [A4]; rfl) AU nhq _ (by omega)) rfl ?_
 refine A2 (BD 81 _ [true, true] [wb, gb] _ (AV _ B9 rfl) rfl (fun w1 hw1 => E1 wb gb n cap0 (n + 2) ev o sp0 (UInt64.ofNat nhq) 2 w1 (hw1.en 0 rfl) (hw1.en 1 rfl) (hw1.ne (i := 0) (j := 1) rfl rfl (by decide)) ho hsp hca hcm (by omega) (by unfold Szd; omega) (fun _ => shr16 (by omega)) (by omega))) rfl ?_
 rintro v1 L1 ⟨_, ⟨rfl, nb1, sp1, cp1, rfl, hc1, hc2, hc3⟩, rfl⟩
 show JL _ _ _ _ ((10, Ptr wb 0) :: _) [(Ez wb [ev, Slc nb1 0 (n + 2) cp1] 149), (Ez nb1 (cu8 (o ++ numK 2 (UInt64.ofNat nhq) 2) ++ sp1) 5)]
 refine AJ (AD (AF (AC (AA _ (AG rfl) rfl ?_))))
 refine AA (I64 nhq) (DA CP rfl) rfl (AA _ (AG rfl) rfl ?_)
 refine AJ (AD (B5 (EO (ι := Nat × List UInt8 × Nat × List Value × Nat) (fun ⟨i, oqi, gqi, spqi, cpqi⟩ => [(0, Ptr wb 0), (11, SL ahq nhq chq), (12, I64 nhq), (13, I64 i)]) (fun ⟨i, oqi, gqi, spqi, cpqi⟩ => [(Ez wb [ev, Slc gqi 0 (32*i + n + 2) cpqi] 149), (Ez gqi (cu8 oqi ++ spqi) 5)]) (fun ⟨i, oqi, gqi, spqi, cpqi⟩ => i ≤ nhq ∧ oqi = (o ++ numK 2 (UInt64.ofNat nhq) 2) ++ xhq.take (32*i) ∧ oqi.length = (32*i + n + 2) ∧ spqi.length = cpqi - (32*i + n + 2) ∧ (32*i + n + 2) ≤ cpqi ∧ cpqi ≤ maxLen) (fun ⟨i, oqi, gqi, spqi, cpqi⟩ => nhq - i) (0, o ++ numK 2 (UInt64.ofNat nhq) 2, nb1, sp1, cp1) ⟨by omega, by rw [Nat.mul_zero, List.take_zero, List.append_nil], (by have h := (show (o ++ numK 2 (UInt64.ofNat nhq) 2).length = (n + 2) from (by rw [List.length_append, ho, AZ] <;> omega)); omega), (by have h := hc1; omega), by omega, by omega⟩ (Sub.all rfl) (by first | rfl | (simp; done)) ?_)))
 rintro ⟨i, oqi, gqi, spqi, cpqi⟩ ⟨hi1, hi2, hi3, hi4, hi5, hi6⟩
 show JC _ _ _ [_, _, _, _] [_, _]
 refine AF (AC (AA (.bool (decide (((i:Int)) < ((nhq:Int))))) (AT rfl rfl fun _ => CL _ _) rfl ?_))
 refine AJ (AD (AF (CC (decide (((i:Int)) < ((nhq:Int)))) rfl (fun hb1 => ?_) (fun hb1 => ?_))))
 ·
  have hp1 : ((i:Int)) < ((nhq:Int)) := of_decide_eq_true hb1
  refine BH (AD (AF (B5 (AF (AC ?_)))))
  obtain ⟨bz1, oz1, hz1, hm1⟩ := hrhq.pos (by rw [hlhq]; omega)
  refine AA (Ptr bz1 (32*i + oz1)) (DI 54 32 (32*i + oz1) CP D2 rfl hz1 rfl (by omega) (by omega) (by omega)) rfl ?_
  have hl1 : (mid xhq (32*i) 32).length = 32 := mid_len (by rw [hlhq]; omega)
  refine AA (.agg (cu8 (mid xhq (32*i) 32)).toArray) (AL rfl (BR Tryd.isAgg54 D2 (EJ hl1) (C9 (MemAt.base hm1.1 hm1.2.1 hm1.2.2) (segm_u8 (32*i) 32 (by rw [hlhq]; omega)) (by first | omega | (simp; done) | (simp; omega))))) rfl ?_
  refine A2 (C4 _ (cu8 (zr8 32)) Tryd.zeroValue54 (by kernel_rfl)) rfl ?_
  rintro v1 L1 ⟨nb2, hnb2, rfl, rfl⟩
  show JL _ _ _ _ (_ :: _) [_, _, _]
  refine A7 (BS 2 nb2 32 _ 54 (cu8 (mid xhq (32*i) 32)) rfl rfl rfl D2 (EJ hl1) (by first | exact CZ | exact one_u32 | exact one_u64 | (simp [cu8, cu32, cu64, Value.oneCell']; done)) (by simp [(AO 32)]) (BW (by simp [(AO 32), hl1]))) rfl ?_
  show JL _ _ _ _ _ [_, _, _]
  refine AJ (AD (AC (AA _ (AG rfl) rfl ?_)))
  refine AA _ (AL rfl (BR Tryd.isAgg54 D2 (EJ hl1) (AR 2 rfl (AN _)))) rfl ?_
  refine A2 (BD 149 _ [true, true, false] [wb, gqi] _ (AV _ Tryd.call149 rfl) rfl (fun w1 hw1 => hashO_c wb gqi (32*i + n + 2) cpqi (32*i + n + 34) ev oqi spqi (mid xhq (32*i) 32) w1 (hw1.en 0 rfl) (hw1.en 1 rfl) (hw1.ne (i := 0) (j := 1) rfl rfl (by decide)) hi3 hi4 hi5 hi6 (by omega) hl1 (by omega))) rfl ?_
  rintro v1 L1 ⟨_, ⟨rfl, nb3, sp2, cp2, rfl, hc4, hc5, hc6⟩, rfl⟩
  show JL _ _ _ _ ((19, Ptr wb 0) :: _) [_, (Ez wb [ev, Slc nb3 0 (32*i + n + 34) cp2] 149), (Ez nb3 (cu8 (oqi ++ (mid xhq (32*i) 32)) ++ sp2) 5)]
  refine AJ (BU (AD (AC (AA (I64 ((i:Int) + 1)) (AT rfl rfl fun _ => DK _ _ ((i:Int) + 1) (by omega) (by omega)) rfl ?_))))
  refine AA _ (AG rfl) rfl ?_
  refine AJ (DU (CD [false, true, true] ?_))
  show K _ _ [_, _] _
  refine EZ (i + 1, oqi ++ (mid xhq (32*i) 32), nb3, sp2, cp2) ⟨by omega, by rw [hi2, List.append_assoc, take_mid2], (by have h := (show (oqi ++ (mid xhq (32*i) 32)).length = (32*i + n + 34) from (by rw [List.length_append, hi3, hl1] <;> omega)); omega), (by have h := hc4; omega), by omega, by omega⟩ (by first | (simp; omega) | simp | (dsimp only; omega) | omega) (Sub.all rfl) (by first | rfl | rw [show (32*i + n + 34) = (32*(i + 1) + n + 2) by omega])
 ·
  have hp1 : ¬ (((i:Int)) < ((nhq:Int))) := of_decide_eq_false hb1
  refine EF (BC (BC (CX (JQ_end (.tuple #[]) (res0 Tryd.results98 ) fun w1 hw1 => ?_))))
  obtain rfl : nhq = i := by omega
  obtain rfl : tot = (32*nhq + n + 2) := by omega
  rw [List.take_of_length_le (by omega)] at hi2
  subst hi2
  exact ⟨_, _, rfl, ⟨rfl, gqi, spqi, cpqi, rfl, hi4, hi5, hi6⟩, hw1⟩
end Go.Proofs.YtkdpdgpphpngeaaDoor
