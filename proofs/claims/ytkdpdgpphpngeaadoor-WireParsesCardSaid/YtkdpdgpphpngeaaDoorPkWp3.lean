import Derived.Test.YtkdpdgpphpngeaaDoorPkWp2
set_option maxHeartbeats 8000000
set_option linter.unusedVariables false
set_option linter.unusedSimpArgs false
set_option maxRecDepth 100000
namespace Go.Proofs.YtkdpdgpphpngeaaDoor
open Go Go.Sx
open Go.Value renaming slice → SL
attribute [local irreducible] mid zr8 numK valK rvalK constL initL putL RightB tktT mayN idxT selT blankB spanB reqR JL JC JQ DP Ev Ld MemAt Seg Step Cl RV Qok Cok
theorem sp_n {fs : UInt64} {mn : Int} {b : Bool} (h : (decide ((0:UInt64) < fs) || decide (mn ≠ (0:Int))) = b) : (decide (fs = 0) && decide (mn = 0)) = !b := by
 rw [← h]
 by_cases h1 : fs = 0
 ·
  subst h1; by_cases h2 : mn = 0 <;> simp [h2]
 ·
  simp [h1, UInt64.pos_iff_ne_zero.2 h1]
theorem iq_n {lq : List UInt64} {n : Nat} {b : Bool} (hl : lq.length = n) (h : decide ((0:Int) < (n:Int)) = b) : decide (lq.length = 0) = !b := by
 rw [hl]; cases b
 ·
  have := of_decide_eq_false h; exact decide_eq_true ZO
 ·
  have := of_decide_eq_true h; exact decide_eq_false ZO
theorem pe_n {eq : UInt64} {b : Bool} (h : decide ((0:UInt64) < eq) = b) : decide (eq = 0) = !b := by
 rw [← h]; by_cases h1 : eq = 0
 ·
  subst h1; simp
 ·
  simp [h1, UInt64.pos_iff_ne_zero.2 h1]
theorem bad_n {qk : Int} {lq : List UInt64} {niq : Nat} {fs eq : UInt64} {mn : Int} {bt my : Bool} (hl : lq.length = niq) (h : ((decide (qk ≠ (1:Int)) && decide ((0:Int) < (niq:Int))) || ((decide (qk ≠ (2:Int)) && (decide (fs ≠ (0:UInt64)) || decide (mn ≠ (0:Int)))) || ((decide (qk ≠ (3:Int)) && !bt) || (decide (qk = (3:Int)) && decide (eq ≠ (0:UInt64)))))) = true) : false = reqR qk lq fs mn eq bt my := by
 have e1 : decide ((0:Int) < (niq:Int)) = !decide (niq = 0) := by
  by_cases h9 : niq = 0
  ·
   subst h9; rfl
  ·
   rw [decide_eq_true ZO, decide_eq_false h9]; rfl
 rw [e1] at h
 simp only [ne_eq, decide_not] at h
 unfold reqR
 rw [hl]
 generalize decide (niq = 0) = a at h ⊢
 generalize decide (fs = 0) = b at h ⊢
 generalize decide (mn = 0) = c at h ⊢
 generalize decide (eq = 0) = d at h ⊢
 generalize decide (RightI lq) = e
 generalize spanB fs mn = f
 by_cases h1 : qk = 1
 ·
  subst h1; revert h; cases a <;> cases b <;> cases c <;> cases d <;> cases bt <;> simp
 by_cases h2 : qk = 2
 ·
  subst h2; revert h; cases a <;> cases b <;> cases c <;> cases d <;> cases bt <;> simp
 by_cases h3 : qk = 3
 ·
  subst h3; revert h; cases a <;> cases b <;> cases c <;> cases d <;> cases bt <;> simp
 ·
  rw [if_neg h1, if_neg h2, if_neg h3]
  rw [decide_eq_false h1, decide_eq_false h2, decide_eq_false h3] at h
  by_cases h4 : qk = 4 ∨ qk = 5
  ·
   rw [if_pos h4]; revert h; cases a <;> cases b <;> cases c <;> cases d <;> cases bt <;> simp
  ·
   rw [if_neg h4]
theorem ok_n {qk : Int} {lq : List UInt64} {niq : Nat} {fs eq : UInt64} {mn : Int} {bt my r : Bool} (hl : lq.length = niq) (h : ((decide (qk ≠ (1:Int)) && decide ((0:Int) < (niq:Int))) || ((decide (qk ≠ (2:Int)) && (decide (fs ≠ (0:UInt64)) || decide (mn ≠ (0:Int)))) || ((decide (qk ≠ (3:Int)) && !bt) || (decide (qk = (3:Int)) && decide (eq ≠ (0:UInt64)))))) = false) (hr : r = if qk = 1 then decide (RightI lq) else if qk = 2 then spanB fs mn else if qk = 3 then my else decide (qk = 4 ∨ qk = 5)) : r = reqR qk lq fs mn eq bt my := by
 subst hr
 have e1 : decide ((0:Int) < (niq:Int)) = !decide (niq = 0) := by
  by_cases h9 : niq = 0
  ·
   subst h9; rfl
  ·
   rw [decide_eq_true ZO, decide_eq_false h9]; rfl
 rw [e1] at h
 simp only [ne_eq, decide_not] at h
 unfold reqR
 rw [hl]
 generalize decide (niq = 0) = a at h ⊢
 generalize decide (fs = 0) = b at h ⊢
 generalize decide (mn = 0) = c at h ⊢
 generalize decide (eq = 0) = d at h ⊢
 generalize decide (RightI lq) = e
 generalize spanB fs mn = f
 by_cases h1 : qk = 1
 ·
  subst h1; revert h; cases a <;> cases b <;> cases c <;> cases d <;> cases bt <;> simp
 by_cases h2 : qk = 2
 ·
  subst h2; revert h; cases a <;> cases b <;> cases c <;> cases d <;> cases bt <;> simp
 by_cases h3 : qk = 3
 ·
  subst h3; revert h; cases a <;> cases b <;> cases c <;> cases d <;> cases bt <;> simp
 ·
  rw [if_neg h1, if_neg h2, if_neg h3]
  rw [decide_eq_false h1, decide_eq_false h2, decide_eq_false h3] at h
  rw [if_neg h1, if_neg h2, if_neg h3]
  by_cases h4 : qk = 4 ∨ qk = 5
  ·
   rw [if_pos h4, decide_eq_true h4]; revert h; cases a <;> cases b <;> cases c <;> cases d <;> cases bt <;> simp
  ·
   rw [if_neg h4, decide_eq_false h4]
theorem rightReq_c (sq : UInt64) (qk : Int) (aiq : Option Addr) (niq ciq : Nat) (lq : List UInt64) (fs : UInt64) (mn : Int) (pv ep : UInt64) (kd : Int) (ai : Option Addr) (ni ci : Nat) (l : List UInt64) (sa : Option Addr) (ns sc : Nat) (ls : List SealR) (bl : UInt64) (tg : List UInt8) (eq : UInt64)  (w : World) (hlq : lq.length = niq) (hnmq : niq ≤ 2000000) (hncq : niq ≤ ciq) (hcmq : ciq ≤ maxLen) (hvq : RdV w aiq (cu64 lq)) (hl : l.length = ni) (hnm : ni ≤ 2000000) (hnc : ni ≤ ci) (hcm : ci ≤ maxLen) (hv : RdV w ai (cu64 l)) (hls : ls.length = ns) (hnn : ns ≤ 2000000) (hnd : ns ≤ sc) (hcn : sc ≤ maxLen) (hs : RdV w sa (ls.flatMap sealC)) (htg : tg.length = 16) (hbi : ni ≤ 300) (hbs : ns ≤ 300)  : Calls Tryd.prog 22 #[.agg (V1 sq (qk) aiq niq ciq fs (mn) pv ep (kd) ai ni ci sa ns sc bl tg eq).toArray] w (Post w [] (fun v L => v = .bool (reqR qk lq fs mn eq (blankB pv ep kd l ls bl tg) (decide (mayN pv ep kd l ls bl = 0))) ∧ L = [])) := by
 have hmx : maxLen = 9223372036854775807 := rfl
 refine enter (P := Tryd.prog) (f := 22) (fn := Tryd.f22) w [] 86 [] [.agg (V1 sq (qk) aiq niq ciq fs (mn) pv ep (kd) ai ni ci sa ns sc bl tg eq).toArray] Tryd.func22 rfl rfl ZM (A2 ZM ZM ZM) ?_
 show JC _ _ _ [_] _
 refine A4 (AO (AF (B2 (.agg (V1 sq (qk) aiq niq ciq fs (mn) pv ep (kd) ai ni ci sa ns sc bl tg eq).toArray) (V1 sq (qk) aiq niq ciq fs (mn) pv ep (kd) ai ni ci sa ns sc bl tg eq) rfl (by first | rfl | simp)) rfl ?_))
 rintro v1 L1 ⟨nb1, hnb1, rfl, rfl⟩
 show JL _ _ _ _ (_ :: _) [_]
 refine Z2 4 ?_
 refine ED (ι := Unit) (fun _ => [(1, Ptr nb1 0), (2, .bool false), (3, .bool (decide ((0:Int) < (niq:Int)))), (4, .bool (decide ((0:UInt64) < fs) || decide (mn ≠ (0:Int)))), (5, .bool (!(blankB pv ep kd l ls bl tg))), (6, .bool (decide ((0:UInt64) < eq)))]) (fun _ => [(Ez nb1 (V1 sq (qk) aiq niq ciq fs (mn) pv ep (kd) ai ni ci sa ns sc bl tg eq) 31)]) (fun _ => True) ?_ ?_
 ·
  rcases Bool.eq_false_or_eq_true (decide ((0:UInt64) < fs)) with hb1 | hb1
  ·
   have hp1 := of_decide_eq_true hb1
   refine Z8 86 2 [(0, Ptr nb1 2), (1, SL aiq niq ciq), (2, I64 niq), (3, .bool (decide ((0:Int) < ((niq:Int))))), (4, Ptr nb1 3), (5, U64 fs), (6, .bool (decide ((0:UInt64) < fs))), (7, .bool (decide ((0:UInt64) < fs))), (8, undef), (9, undef), (10, undef), (11, .bool true), (12, Ptr nb1 5), (13, .agg (V2 pv ep (kd) ai ni ci sa ns sc bl tg).toArray), (16, Ptr nb1 27), (17, U64 eq), (18, .bool (decide ((0:UInt64) < eq)))] ?_
   refine Z7 ⟨[], [0, 1, 2, 3, 4, 5, 6, 7, 8, 9, 10, 11, 12, 13, 16, 17, 18], [], [0, 1, 2, 3, 4, 5, 6, 7, 8, 9, 10, 11, 12, 13, 16, 17, 18], [14]⟩ 14 (hq := ⟨AA rfl rfl ZE, AA rfl rfl ZE, AA rfl rfl ZE, AA rfl rfl ZE, AA rfl rfl ZE, AA rfl rfl ZE, AA rfl rfl (AT rfl rfl fun _ => FH fs (0:UInt64)), BM rfl rfl rfl, ⟨_, rfl, BN 7 14 false _ rfl rfl rfl hb1⟩, ⟨_, rfl, BN 7 14 false _ rfl rfl rfl hb1⟩, ⟨_, rfl, BN 7 14 false _ rfl rfl rfl hb1⟩, AA rfl rfl ZE, AA rfl rfl ZE, AA rfl rfl (AR rfl (BV CQ BH (by simp [htg]) (A0 0 rfl (CB (p := [U64 sq, I64 (qk), SL aiq niq ciq, U64 fs, I64 (mn)]) (q := [U64 eq]) (vs := (V2 pv ep (kd) ai ni ci sa ns sc bl tg)) (by first | rfl | (simp only [List.append_assoc, List.nil_append, List.append_nil, List.cons_append]; done)) rfl)))), AA rfl rfl ZE, AA rfl rfl (AR rfl (B1 BD (A0 0 rfl (Seg.right 27 0 (by simp [htg]) rfl (Seg.head))))), AA rfl rfl (AT rfl rfl fun _ => FH eq (0:UInt64)), trivial⟩) (AL rfl (AJ 84 _ (.bool (blankB pv ep (kd) l ls bl tg)) (AH _ Tryd.call84 rfl) (fun w1 hw1 => blank_c pv ep (kd) ai ni ci l sa ns sc ls bl tg w1 hl ZO ZO ZO (CF hw1 rfl hv) hls ZO ZO ZO (CF hw1 rfl hs) htg))) ?_
   rintro v1 L1 ⟨rfl, rfl⟩
   refine ⟨[(15, .bool (!(blankB pv ep (kd) l ls bl tg))), (19, .bool (decide ((0:Int) < ((niq:Int))))), (20, .bool true), (21, .bool (!(blankB pv ep (kd) l ls bl tg))), (22, .bool (decide ((0:UInt64) < eq)))], ?_⟩
   show DP _ _ _ _ _ _ _ _ [_]
   refine Z5 ⟨[14], [0, 1, 2, 3, 4, 5, 6, 7, 8, 9, 10, 11, 12, 13, 15, 16, 17, 18, 19, 20, 21, 22], [4, 5, 6, 7, 12, 13], [0, 1, 2, 3, 8, 9, 10, 11, 15, 16, 17, 18, 19, 20, 21, 22], []⟩ (hq := ⟨AA rfl rfl ZE, AA rfl rfl ZE, AA rfl rfl ZE, AA rfl rfl ZE, ⟨_, rfl, BN 7 14 false _ rfl rfl rfl hb1⟩, ⟨_, rfl, BN 7 14 false _ rfl rfl rfl hb1⟩, ⟨_, rfl, BN 7 14 false _ rfl rfl rfl hb1⟩, AA rfl rfl ZE, AA rfl rfl ZE, AA rfl rfl ZE, AA rfl rfl (AR rfl (B1 BD (A0 0 rfl (Seg.right 27 0 (by simp [htg]) rfl (Seg.head))))), AA rfl rfl (AT rfl rfl fun _ => FH eq (0:UInt64)), AA rfl rfl ZE, AA rfl rfl ZE, AA rfl rfl ZE, AA rfl rfl ZE, trivial⟩) ?_
   refine A9 (F' := [(3, .bool (decide ((0:Int) < ((niq:Int))))), (4, .bool true), (5, .bool (!(blankB pv ep (kd) l ls bl tg))), (6, .bool (decide ((0:UInt64) < eq))), (1, Ptr nb1 0), (2, .bool false)]) ZR ?_
   refine BU (()) trivial (Sub.cons rfl (Sub.cons rfl (Sub.cons rfl (Sub.cons (congrArg (fun b => some (Value.bool b)) (by simp only [hb1, Bool.true_and, Bool.false_and, Bool.true_or, Bool.false_or, Bool.or_false, Bool.and_false, Bool.not_true, Bool.not_false] <;> rfl : (true) = (decide ((0:UInt64) < fs) || decide (mn ≠ (0:Int))))) (Sub.all rfl))))) rfl
  have hp1 := of_decide_eq_false hb1
  refine Z8 86 2 [(0, Ptr nb1 2), (1, SL aiq niq ciq), (2, I64 niq), (3, .bool (decide ((0:Int) < ((niq:Int))))), (4, Ptr nb1 3), (5, U64 fs), (6, .bool (decide ((0:UInt64) < fs))), (7, .bool (decide ((0:UInt64) < fs))), (8, Ptr nb1 4), (9, I64 (mn)), (10, .bool (decide ((mn) ≠ (0:Int)))), (11, .bool (decide ((mn) ≠ (0:Int)))), (12, Ptr nb1 5), (13, .agg (V2 pv ep (kd) ai ni ci sa ns sc bl tg).toArray), (16, Ptr nb1 27), (17, U64 eq), (18, .bool (decide ((0:UInt64) < eq)))] ?_
  refine Z7 ⟨[], [0, 1, 2, 3, 4, 5, 6, 7, 8, 9, 10, 11, 12, 13, 16, 17, 18], [], [0, 1, 2, 3, 4, 5, 6, 7, 8, 9, 10, 11, 12, 13, 16, 17, 18], [14]⟩ 14 (hq := ⟨AA rfl rfl ZE, AA rfl rfl ZE, AA rfl rfl ZE, AA rfl rfl ZE, AA rfl rfl ZE, AA rfl rfl ZE, AA rfl rfl (AT rfl rfl fun _ => FH fs (0:UInt64)), BM rfl rfl rfl, ⟨_, rfl, BA 7 14 false _ rfl rfl rfl hb1 (BX 4 3 1 Tryd.underlying31 rfl CZ rfl rfl)⟩, ⟨_, rfl, BA 7 14 false _ rfl rfl rfl hb1 (AR rfl (B1 Tryd.isAgg3 (A0 0 rfl (AU (AU (B0 (B0 (B0 (B0 (Seg.head))))))))))⟩, ⟨_, rfl, BA 7 14 false _ rfl rfl rfl hb1 (AT rfl rfl fun _ => bin_neq_i _ _)⟩, AA rfl rfl ZE, AA rfl rfl ZE, AA rfl rfl (AR rfl (BV CQ BH (by simp [htg]) (A0 0 rfl (CB (p := [U64 sq, I64 (qk), SL aiq niq ciq, U64 fs, I64 (mn)]) (q := [U64 eq]) (vs := (V2 pv ep (kd) ai ni ci sa ns sc bl tg)) (by first | rfl | (simp only [List.append_assoc, List.nil_append, List.append_nil, List.cons_append]; done)) rfl)))), AA rfl rfl ZE, AA rfl rfl (AR rfl (B1 BD (A0 0 rfl (Seg.right 27 0 (by simp [htg]) rfl (Seg.head))))), AA rfl rfl (AT rfl rfl fun _ => FH eq (0:UInt64)), trivial⟩) (AL rfl (AJ 84 _ (.bool (blankB pv ep (kd) l ls bl tg)) (AH _ Tryd.call84 rfl) (fun w1 hw1 => blank_c pv ep (kd) ai ni ci l sa ns sc ls bl tg w1 hl ZO ZO ZO (CF hw1 rfl hv) hls ZO ZO ZO (CF hw1 rfl hs) htg))) ?_
  rintro v1 L1 ⟨rfl, rfl⟩
  refine ⟨[(15, .bool (!(blankB pv ep (kd) l ls bl tg))), (19, .bool (decide ((0:Int) < ((niq:Int))))), (20, .bool (decide ((mn) ≠ (0:Int)))), (21, .bool (!(blankB pv ep (kd) l ls bl tg))), (22, .bool (decide ((0:UInt64) < eq)))], ?_⟩
  show DP _ _ _ _ _ _ _ _ [_]
  refine Z5 ⟨[14], [0, 1, 2, 3, 4, 5, 6, 7, 8, 9, 10, 11, 12, 13, 15, 16, 17, 18, 19, 20, 21, 22], [4, 5, 6, 7, 12, 13], [0, 1, 2, 3, 8, 9, 10, 11, 15, 16, 17, 18, 19, 20, 21, 22], []⟩ (hq := ⟨AA rfl rfl ZE, AA rfl rfl ZE, AA rfl rfl ZE, AA rfl rfl ZE, ⟨_, rfl, BA 7 14 false _ rfl rfl rfl hb1 (BX 4 3 1 Tryd.underlying31 rfl CZ rfl rfl)⟩, ⟨_, rfl, BA 7 14 false _ rfl rfl rfl hb1 (AR rfl (B1 Tryd.isAgg3 (A0 0 rfl (AU (AU (B0 (B0 (B0 (B0 (Seg.head))))))))))⟩, ⟨_, rfl, BA 7 14 false _ rfl rfl rfl hb1 (AT rfl rfl fun _ => bin_neq_i _ _)⟩, AA rfl rfl ZE, AA rfl rfl ZE, AA rfl rfl ZE, AA rfl rfl (AR rfl (B1 BD (A0 0 rfl (Seg.right 27 0 (by simp [htg]) rfl (Seg.head))))), AA rfl rfl (AT rfl rfl fun _ => FH eq (0:UInt64)), AA rfl rfl ZE, AA rfl rfl ZE, AA rfl rfl ZE, AA rfl rfl ZE, trivial⟩) ?_
  refine A9 (F' := [(3, .bool (decide ((0:Int) < ((niq:Int))))), (4, .bool (decide ((mn) ≠ (0:Int)))), (5, .bool (!(blankB pv ep (kd) l ls bl tg))), (6, .bool (decide ((0:UInt64) < eq))), (1, Ptr nb1 0), (2, .bool false)]) ZR ?_
  refine BU (()) trivial (Sub.cons rfl (Sub.cons rfl (Sub.cons rfl (Sub.cons (congrArg (fun b => some (Value.bool b)) (by simp only [hb1, Bool.true_and, Bool.false_and, Bool.true_or, Bool.false_or, Bool.or_false, Bool.and_false, Bool.not_true, Bool.not_false] <;> rfl : (decide ((mn) ≠ (0:Int))) = (decide ((0:UInt64) < fs) || decide (mn ≠ (0:Int))))) (Sub.all rfl))))) rfl
 rintro _ hx
 obtain _ := hx
 show JQ _ _ _ [_, _, _, _, _, _] [_]
 refine Z2 15 ?_
 refine AX _ rfl (fun hb2 => ?_) (fun hb2 => ?_)
 ·
  have hp2 := of_decide_eq_true hb2
  refine Z2 5 ?_
  rcases Bool.eq_false_or_eq_true (decide ((0:UInt64) < fs) || decide (mn ≠ (0:Int))) with hb3 | hb3
  ·
   refine Z2 14 ?_
   refine A8 [false] ?_
   show JQ _ _ _ _ []
   refine Z1 fun w1 hw1 => ?_
   refine ⟨_, [], rfl, ⟨congrArg Value.bool ?_, rfl⟩, hw1.no⟩
   have hk9 : qk = 1 := of_decide_eq_true hb2
   subst hk9
   unfold reqR
   rw [if_pos rfl, sp_n hb3] <;> (first | rfl | (rw [Bool.not_not]; rfl))
  refine Z2 4 ?_
  rcases Bool.eq_false_or_eq_true (blankB pv ep kd l ls bl tg) with hb4 | hb4
  ·
   refine AD 6 36 true _ (Ptr nb1 2) rfl rfl (bnotF (bnotT hb4)) ZE rfl ?_
   refine AD 6 36 true _ (SL aiq niq ciq) rfl rfl (bnotF (bnotT hb4)) ZE rfl ?_
   refine B6 6 36 true _ rfl rfl (bnotF (bnotT hb4)) (AJ 85 _ (.bool (decide (RightI lq))) (AH _ Tryd.call85 rfl) (fun w1 hw1 => pright_c aiq niq ciq lq w1 hlq ZO ZO ZO (CF hw1 rfl hvq))) rfl ?_
   rintro v1 L1 ⟨rfl, rfl⟩
   show JL _ _ _ _ (_ :: _) [_]
   refine AE _ (CC _ rfl (bnotF (bnotT hb4)) rfl) rfl ?_
   refine Z2 6 ?_
   refine A8 [false] ?_
   show JQ _ _ _ _ []
   refine Z1 fun w1 hw1 => ?_
   refine ⟨_, [], rfl, ⟨congrArg Value.bool ?_, rfl⟩, hw1.no⟩
   have hk9 : qk = 1 := of_decide_eq_true hb2
   subst hk9
   unfold reqR
   rw [if_pos rfl, sp_n hb3, hb4] <;> (first | rfl | (rw [Bool.not_not]; rfl))
  refine D4 3 6 36 true _ rfl rfl (bnotT (bnotF hb4)) rfl (AE _ (BO _ rfl (bnotT (bnotF hb4)) rfl) rfl ?_)
  refine Z2 6 ?_
  refine A8 [false] ?_
  show JQ _ _ _ _ []
  refine Z1 fun w1 hw1 => ?_
  refine ⟨_, [], rfl, ⟨congrArg Value.bool ?_, rfl⟩, hw1.no⟩
  have hk9 : qk = 1 := of_decide_eq_true hb2
  subst hk9
  unfold reqR
  rw [if_pos rfl, sp_n hb3, hb4] <;> (first | rfl | (rw [Bool.not_not]; rfl))
 have hp2 := of_decide_eq_false hb2
 refine Z2 6 ?_
 refine AX _ rfl (fun hb5 => ?_) (fun hb5 => ?_)
 ·
  have hp5 := of_decide_eq_true hb5
  refine Z2 5 ?_
  rcases Bool.eq_false_or_eq_true (decide ((0:Int) < (niq:Int))) with hb6 | hb6
  ·
   have hp6 := of_decide_eq_true hb6
   refine Z2 16 ?_
   refine A8 [false] ?_
   show JQ _ _ _ _ []
   refine Z1 fun w1 hw1 => ?_
   refine ⟨_, [], rfl, ⟨congrArg Value.bool ?_, rfl⟩, hw1.no⟩
   have hk9 : qk = 2 := of_decide_eq_true hb5
   subst hk9
   unfold reqR
   rw [if_neg ZD, if_pos rfl, iq_n hlq hb6] <;> (first | rfl | (rw [Bool.not_not]; rfl))
  have hp6 := of_decide_eq_false hb6
  refine Z2 4 ?_
  rcases Bool.eq_false_or_eq_true (blankB pv ep kd l ls bl tg) with hb7 | hb7
  ·
   refine AD 6 49 true _ (Ptr nb1 3) rfl rfl (bnotF (bnotT hb7)) ZE rfl ?_
   refine AD 6 49 true _ (U64 fs) rfl rfl (bnotF (bnotT hb7)) ZE rfl ?_
   refine AD 6 49 true _ (Ptr nb1 4) rfl rfl (bnotF (bnotT hb7)) ZE rfl ?_
   refine AD 6 49 true _ (I64 (mn)) rfl rfl (bnotF (bnotT hb7)) ZE rfl ?_
   refine B6 6 49 true _ rfl rfl (bnotF (bnotT hb7)) (AJ 86 _ (.bool (spanB fs (mn))) (AH _ Tryd.call86 rfl) (fun w1 hw1 => span_w fs (mn) w1 )) rfl ?_
   rintro v1 L1 ⟨rfl, rfl⟩
   show JL _ _ _ _ (_ :: _) [_]
   refine AE _ (CC _ rfl (bnotF (bnotT hb7)) rfl) rfl ?_
   refine Z2 6 ?_
   refine A8 [false] ?_
   show JQ _ _ _ _ []
   refine Z1 fun w1 hw1 => ?_
   refine ⟨_, [], rfl, ⟨congrArg Value.bool ?_, rfl⟩, hw1.no⟩
   have hk9 : qk = 2 := of_decide_eq_true hb5
   subst hk9
   unfold reqR
   rw [if_neg ZD, if_pos rfl, iq_n hlq hb6, hb7] <;> (first | rfl | (rw [Bool.not_not]; rfl))
  refine D4 5 6 49 true _ rfl rfl (bnotT (bnotF hb7)) rfl (AE _ (BO _ rfl (bnotT (bnotF hb7)) rfl) rfl ?_)
  refine Z2 6 ?_
  refine A8 [false] ?_
  show JQ _ _ _ _ []
  refine Z1 fun w1 hw1 => ?_
  refine ⟨_, [], rfl, ⟨congrArg Value.bool ?_, rfl⟩, hw1.no⟩
  have hk9 : qk = 2 := of_decide_eq_true hb5
  subst hk9
  unfold reqR
  rw [if_neg ZD, if_pos rfl, iq_n hlq hb6, hb7] <;> (first | rfl | (rw [Bool.not_not]; rfl))
 have hp5 := of_decide_eq_false hb5
 refine Z2 6 ?_
 refine AX _ rfl (fun hb8 => ?_) (fun hb8 => ?_)
 ·
  have hp8 := of_decide_eq_true hb8
  refine Z2 5 ?_
  rcases Bool.eq_false_or_eq_true (decide ((0:Int) < (niq:Int))) with hb9 | hb9
  ·
   have hp9 := of_decide_eq_true hb9
   refine Z2 18 ?_
   refine A8 [false] ?_
   show JQ _ _ _ _ []
   refine Z1 fun w1 hw1 => ?_
   refine ⟨_, [], rfl, ⟨congrArg Value.bool ?_, rfl⟩, hw1.no⟩
   have hk9 : qk = 3 := of_decide_eq_true hb8
   subst hk9
   unfold reqR
   rw [if_neg ZD, if_neg ZD, if_pos rfl, iq_n hlq hb9] <;> (first | rfl | (rw [Bool.not_not]; rfl))
  have hp9 := of_decide_eq_false hb9
  refine Z2 4 ?_
  rcases Bool.eq_false_or_eq_true (decide ((0:UInt64) < fs) || decide (mn ≠ (0:Int))) with hb10 | hb10
  ·
   refine Z2 14 ?_
   refine A8 [false] ?_
   show JQ _ _ _ _ []
   refine Z1 fun w1 hw1 => ?_
   refine ⟨_, [], rfl, ⟨congrArg Value.bool ?_, rfl⟩, hw1.no⟩
   have hk9 : qk = 3 := of_decide_eq_true hb8
   subst hk9
   unfold reqR
   rw [if_neg ZD, if_neg ZD, if_pos rfl, sp_n hb10, iq_n hlq hb9] <;> (first | rfl | (rw [Bool.not_not]; rfl))
  refine Z2 4 ?_
  rcases Bool.eq_false_or_eq_true (decide ((0:UInt64) < eq)) with hb11 | hb11
  ·
   have hp11 := of_decide_eq_true hb11
   refine Z2 10 ?_
   refine A8 [false] ?_
   show JQ _ _ _ _ []
   refine Z1 fun w1 hw1 => ?_
   refine ⟨_, [], rfl, ⟨congrArg Value.bool ?_, rfl⟩, hw1.no⟩
   have hk9 : qk = 3 := of_decide_eq_true hb8
   subst hk9
   unfold reqR
   rw [if_neg ZD, if_neg ZD, if_pos rfl, sp_n hb10, iq_n hlq hb9, pe_n hb11] <;> (first | rfl | (rw [Bool.not_not]; rfl))
  have hp11 := of_decide_eq_false hb11
  refine Z2 1 ?_
  refine AD 10 68 true _ _ rfl rfl (bnotF hb11) (AR rfl (BV CQ BH (by simp [htg]) (A0 0 rfl (CB (p := [U64 sq, I64 (qk), SL aiq niq ciq, U64 fs, I64 (mn)]) (q := [U64 eq]) (vs := (V2 pv ep (kd) ai ni ci sa ns sc bl tg)) (by first | rfl | (simp only [List.append_assoc, List.nil_append, List.append_nil, List.cons_append]; done)) rfl)))) rfl ?_
  refine B6 10 68 true _ rfl rfl (bnotF hb11) (AJ 87 _ (.bool (decide (mayN pv ep (kd) l ls bl = 0))) (AH _ Tryd.call87 rfl) (fun w1 hw1 => wmay_w pv ep (kd) ai ni ci l sa ns sc ls bl tg w1 hl ZO ZO ZO (CF hw1 rfl hv) hls ZO ZO ZO (CF hw1 rfl hs) htg ZO ZO)) rfl ?_
  rintro v1 L1 ⟨rfl, rfl⟩
  show JL _ _ _ _ (_ :: _) [_]
  refine Z2 7 ?_
  refine A8 [false] ?_
  show JQ _ _ _ _ []
  refine Z1 fun w1 hw1 => ?_
  refine ⟨_, [], rfl, ⟨congrArg Value.bool ?_, rfl⟩, hw1.no⟩
  have hk9 : qk = 3 := of_decide_eq_true hb8
  subst hk9
  unfold reqR
  rw [if_neg ZD, if_neg ZD, if_pos rfl, sp_n hb10, iq_n hlq hb9, pe_n hb11] <;> (first | rfl | (rw [Bool.not_not]; rfl))
 have hp8 := of_decide_eq_false hb8
 refine Z2 7 ?_
 refine AX _ rfl (fun hb12 => ?_) (fun hb12 => ?_)
 ·
  have hp12 := of_decide_eq_true hb12
  refine CY (AK (A7 _ rfl hb12 ?_))
  refine Z2 5 ?_
  rcases Bool.eq_false_or_eq_true (decide ((0:Int) < (niq:Int))) with hb13 | hb13
  ·
   have hp13 := of_decide_eq_true hb13
   refine Z2 13 ?_
   refine A8 [false] ?_
   show JQ _ _ _ _ []
   refine Z1 fun w1 hw1 => ?_
   refine ⟨_, [], rfl, ⟨congrArg Value.bool ?_, rfl⟩, hw1.no⟩
   have hk9 : qk = 4 := of_decide_eq_true hb12
   subst hk9
   unfold reqR
   rw [if_neg ZD, if_neg ZD, if_neg ZD, if_pos (.inl rfl), iq_n hlq hb13] <;> (first | rfl | (rw [Bool.not_not]; rfl))
  have hp13 := of_decide_eq_false hb13
  refine Z2 4 ?_
  rcases Bool.eq_false_or_eq_true (decide ((0:UInt64) < fs) || decide (mn ≠ (0:Int))) with hb14 | hb14
  ·
   refine Z2 9 ?_
   refine A8 [false] ?_
   show JQ _ _ _ _ []
   refine Z1 fun w1 hw1 => ?_
   refine ⟨_, [], rfl, ⟨congrArg Value.bool ?_, rfl⟩, hw1.no⟩
   have hk9 : qk = 4 := of_decide_eq_true hb12
   subst hk9
   unfold reqR
   rw [if_neg ZD, if_neg ZD, if_neg ZD, if_pos (.inl rfl), sp_n hb14, iq_n hlq hb13] <;> (first | rfl | (rw [Bool.not_not]; rfl))
  refine Z2 9 ?_
  refine A8 [false] ?_
  show JQ _ _ _ _ []
  refine Z1 fun w1 hw1 => ?_
  refine ⟨_, [], rfl, ⟨congrArg Value.bool ?_, rfl⟩, hw1.no⟩
  have hk9 : qk = 4 := of_decide_eq_true hb12
  subst hk9
  unfold reqR
  rw [if_neg ZD, if_neg ZD, if_neg ZD, if_pos (.inl rfl), sp_n hb14, iq_n hlq hb13] <;> (first | rfl | (rw [Bool.not_not]; rfl))
 have hp12 := of_decide_eq_false hb12
 refine Z2 5 ?_
 refine AX _ rfl (fun hb15 => ?_) (fun hb15 => ?_)
 ·
  have hp15 := of_decide_eq_true hb15
  refine Z2 5 ?_
  rcases Bool.eq_false_or_eq_true (decide ((0:Int) < (niq:Int))) with hb16 | hb16
  ·
   have hp16 := of_decide_eq_true hb16
   refine Z2 13 ?_
   refine A8 [false] ?_
   show JQ _ _ _ _ []
   refine Z1 fun w1 hw1 => ?_
   refine ⟨_, [], rfl, ⟨congrArg Value.bool ?_, rfl⟩, hw1.no⟩
   have hk9 : qk = 5 := of_decide_eq_true hb15
   subst hk9
   unfold reqR
   rw [if_neg ZD, if_neg ZD, if_neg ZD, if_pos (.inr rfl), iq_n hlq hb16] <;> (first | rfl | (rw [Bool.not_not]; rfl))
  have hp16 := of_decide_eq_false hb16
  refine Z2 4 ?_
  rcases Bool.eq_false_or_eq_true (decide ((0:UInt64) < fs) || decide (mn ≠ (0:Int))) with hb17 | hb17
  ·
   refine Z2 9 ?_
   refine A8 [false] ?_
   show JQ _ _ _ _ []
   refine Z1 fun w1 hw1 => ?_
   refine ⟨_, [], rfl, ⟨congrArg Value.bool ?_, rfl⟩, hw1.no⟩
   have hk9 : qk = 5 := of_decide_eq_true hb15
   subst hk9
   unfold reqR
   rw [if_neg ZD, if_neg ZD, if_neg ZD, if_pos (.inr rfl), sp_n hb17, iq_n hlq hb16] <;> (first | rfl | (rw [Bool.not_not]; rfl))
  refine Z2 9 ?_
  refine A8 [false] ?_
  show JQ _ _ _ _ []
  refine Z1 fun w1 hw1 => ?_
  refine ⟨_, [], rfl, ⟨congrArg Value.bool ?_, rfl⟩, hw1.no⟩
  have hk9 : qk = 5 := of_decide_eq_true hb15
  subst hk9
  unfold reqR
  rw [if_neg ZD, if_neg ZD, if_neg ZD, if_pos (.inr rfl), sp_n hb17, iq_n hlq hb16] <;> (first | rfl | (rw [Bool.not_not]; rfl))
 have hp15 := of_decide_eq_false hb15
 refine Z2 9 ?_
 refine A8 [false] ?_
 show JQ _ _ _ _ []
 refine Z1 fun w1 hw1 => ?_
 refine ⟨_, [], rfl, ⟨congrArg Value.bool ?_, rfl⟩, hw1.no⟩
 have hk1 : qk ≠ 1 := of_decide_eq_false hb2
 have hk2 : qk ≠ 2 := of_decide_eq_false hb5
 have hk3 : qk ≠ 3 := of_decide_eq_false hb8
 have hk4 : qk ≠ 4 := of_decide_eq_false hb12
 have hk5 : qk ≠ 5 := of_decide_eq_false hb15
 unfold reqR
 rw [if_neg hk1, if_neg hk2, if_neg hk3, if_neg ZO] <;> (first | rfl | (rw [Bool.not_not]; rfl))
theorem rrightReq_c (sq : UInt64) (qk : Int) (aiq : Option Addr) (niq ciq : Nat) (lq : List UInt64) (fs : UInt64) (mn : Int) (pv ep : UInt64) (kd : Int) (ai : Option Addr) (ni ci : Nat) (l : List UInt64) (sa : Option Addr) (ns sc : Nat) (ls : List SealR) (bl : UInt64) (tg : List UInt8) (eq : UInt64)  (w : World) (hlq : lq.length = niq) (hnmq : niq ≤ 2000000) (hncq : niq ≤ ciq) (hcmq : ciq ≤ maxLen) (hvq : RdV w aiq (cu64 lq)) (hl : l.length = ni) (hnm : ni ≤ 2000000) (hnc : ni ≤ ci) (hcm : ci ≤ maxLen) (hv : RdV w ai (cu64 l)) (hls : ls.length = ns) (hnn : ns ≤ 2000000) (hnd : ns ≤ sc) (hcn : sc ≤ maxLen) (hs : RdV w sa (ls.flatMap sealC)) (htg : tg.length = 16) (hbi : ni ≤ 300) (hbs : ns ≤ 300)  : Calls Tryd.prog 20 #[.agg (V1 sq (qk) aiq niq ciq fs (mn) pv ep (kd) ai ni ci sa ns sc bl tg eq).toArray] w (Post w [] (fun v L => v = .bool (reqR qk lq fs mn eq (blankB pv ep kd l ls bl tg) (decide (mayN pv ep kd l ls bl = 0))) ∧ L = [])) := by
 have hmx : maxLen = 9223372036854775807 := rfl
 refine enter (P := Tryd.prog) (f := 20) (fn := Tryd.f20) w [] 76 [] [.agg (V1 sq (qk) aiq niq ciq fs (mn) pv ep (kd) ai ni ci sa ns sc bl tg eq).toArray] Tryd.func20 rfl rfl ZM (A2 ZM ZM ZM) ?_
 show JC _ _ _ [_] _
 refine A4 (AO (AF (B2 (.agg (V1 sq (qk) aiq niq ciq fs (mn) pv ep (kd) ai ni ci sa ns sc bl tg eq).toArray) (V1 sq (qk) aiq niq ciq fs (mn) pv ep (kd) ai ni ci sa ns sc bl tg eq) rfl (by first | rfl | simp)) rfl ?_))
 rintro v1 L1 ⟨nb1, hnb1, rfl, rfl⟩
 show JL _ _ _ _ (_ :: _) [_]
 refine Z2 5 ?_
 refine ED (ι := Unit) (fun _ => [(1, Ptr nb1 0), (2, .bool false), (47, .bool ((decide (qk ≠ (1:Int)) && decide ((0:Int) < (niq:Int))) || ((decide (qk ≠ (2:Int)) && (decide (fs ≠ (0:UInt64)) || decide (mn ≠ (0:Int)))) || ((decide (qk ≠ (3:Int)) && !(blankB pv ep kd l ls bl tg)) || (decide (qk = (3:Int)) && decide (eq ≠ (0:UInt64)))))))]) (fun _ => [(Ez nb1 (V1 sq (qk) aiq niq ciq fs (mn) pv ep (kd) ai ni ci sa ns sc bl tg eq) 40)]) (fun _ => True) ?_ ?_
 ·
  refine Z2 5 ?_
  rcases Bool.eq_false_or_eq_true (decide ((qk) ≠ (1:Int))) with hb1 | hb1
  ·
   have hp1 := of_decide_eq_true hb1
   refine Z2 6 ?_
   rcases Bool.eq_false_or_eq_true (decide ((0:Int) < ((niq:Int)))) with hb2 | hb2
   ·
    have hp2 := of_decide_eq_true hb2
    refine Z2 35 ?_
    refine A1 (BU (()) trivial (Sub.cons rfl (Sub.cons rfl (Sub.cons (congrArg (fun b => some (Value.bool b)) (by simp only [hb1, hb2, Bool.true_and, Bool.false_and, Bool.true_or, Bool.false_or, Bool.or_false, Bool.and_false, Bool.not_true, Bool.not_false] <;> rfl : (true) = (((decide (qk ≠ (1:Int)) && decide ((0:Int) < (niq:Int))) || ((decide (qk ≠ (2:Int)) && (decide (fs ≠ (0:UInt64)) || decide (mn ≠ (0:Int)))) || ((decide (qk ≠ (3:Int)) && !(blankB pv ep kd l ls bl tg)) || (decide (qk = (3:Int)) && decide (eq ≠ (0:UInt64))))))))) (Sub.nil)))) rfl)
   have hp2 := of_decide_eq_false hb2
   refine Z2 4 ?_
   rcases Bool.eq_false_or_eq_true (decide ((qk) ≠ (2:Int))) with hb3 | hb3
   ·
    have hp3 := of_decide_eq_true hb3
    refine Z2 2 ?_
    refine AD 13 16 true _ (.bool (decide (fs ≠ (0:UInt64)))) rfl rfl hb3 (AT rfl rfl fun _ => CL fs (0:UInt64)) rfl ?_
    refine Z2 1 ?_
    rcases Bool.eq_false_or_eq_true (decide (fs ≠ (0:UInt64))) with hb4 | hb4
    ·
     have hp4 := of_decide_eq_true hb4
     refine Z2 27 ?_
     refine A1 (BU (()) trivial (Sub.cons rfl (Sub.cons rfl (Sub.cons (congrArg (fun b => some (Value.bool b)) (by simp only [hb1, hb2, hb3, hb4, Bool.true_and, Bool.false_and, Bool.true_or, Bool.false_or, Bool.or_false, Bool.and_false, Bool.not_true, Bool.not_false] <;> rfl : (true) = (((decide (qk ≠ (1:Int)) && decide ((0:Int) < (niq:Int))) || ((decide (qk ≠ (2:Int)) && (decide (fs ≠ (0:UInt64)) || decide (mn ≠ (0:Int)))) || ((decide (qk ≠ (3:Int)) && !(blankB pv ep kd l ls bl tg)) || (decide (qk = (3:Int)) && decide (eq ≠ (0:UInt64))))))))) (Sub.nil)))) rfl)
    have hp4 := of_decide_eq_false hb4
    refine Z2 7 ?_
    rcases Bool.eq_false_or_eq_true (decide ((mn) ≠ (0:Int))) with hb5 | hb5
    ·
     have hp5 := of_decide_eq_true hb5
     refine Z2 20 ?_
     refine A1 (BU (()) trivial (Sub.cons rfl (Sub.cons rfl (Sub.cons (congrArg (fun b => some (Value.bool b)) (by simp only [hb1, hb2, hb3, hb4, hb5, Bool.true_and, Bool.false_and, Bool.true_or, Bool.false_or, Bool.or_false, Bool.and_false, Bool.not_true, Bool.not_false] <;> rfl : (true) = (((decide (qk ≠ (1:Int)) && decide ((0:Int) < (niq:Int))) || ((decide (qk ≠ (2:Int)) && (decide (fs ≠ (0:UInt64)) || decide (mn ≠ (0:Int)))) || ((decide (qk ≠ (3:Int)) && !(blankB pv ep kd l ls bl tg)) || (decide (qk = (3:Int)) && decide (eq ≠ (0:UInt64))))))))) (Sub.nil)))) rfl)
    have hp5 := of_decide_eq_false hb5
    refine Z2 4 ?_
    rcases Bool.eq_false_or_eq_true (decide ((qk) ≠ (3:Int))) with hb6 | hb6
    ·
     have hp6 := of_decide_eq_true hb6
     refine Z2 1 ?_
     refine AD 28 31 true _ _ rfl rfl hb6 (AR rfl (BV Tryd.isAgg38 B8 (by simp [htg]) (A0 0 rfl (CB (p := [U64 sq, I64 (qk), SL aiq niq ciq, U64 fs, I64 (mn)]) (q := [U64 eq]) (vs := (V2 pv ep (kd) ai ni ci sa ns sc bl tg)) (by first | rfl | (simp only [List.append_assoc, List.nil_append, List.append_nil, List.cons_append]; done)) rfl)))) rfl ?_
     refine B6 28 31 true _ rfl rfl hb6 (AJ 78 _ (.bool (blankB pv ep (kd) l ls bl tg)) (AH _ Tryd.call78 rfl) (fun w1 hw1 => rblank_c pv ep (kd) ai ni ci l sa ns sc ls bl tg w1 hl ZO ZO ZO (CF hw1 rfl hv) hls ZO ZO ZO (CF hw1 rfl hs) htg)) rfl ?_
     rintro v1 L1 ⟨rfl, rfl⟩
     show JL _ _ _ _ (_ :: _) [_]
     refine Z2 4 ?_
     rcases Bool.eq_false_or_eq_true (blankB pv ep (kd) l ls bl tg) with hb7 | hb7
     ·
      refine Z2 4 ?_
      refine D4 3 39 42 true _ rfl rfl (decide_eq_false ZO) rfl ?_
      refine AD 35 38 false _ _ rfl rfl (bnotT hb7) (BO _ rfl (decide_eq_false ZO) rfl) rfl ?_
      refine Z2 2 ?_
      have hk3e : decide (qk = (3:Int)) = false := (decide_eq_false ZO)
      refine BU (()) trivial (Sub.cons rfl (Sub.cons rfl (Sub.cons (congrArg (fun b => some (Value.bool b)) (by simp only [hb1, hb2, hb3, hb4, hb5, hb6, hb7, hk3e, Bool.true_and, Bool.false_and, Bool.true_or, Bool.false_or, Bool.or_false, Bool.and_false, Bool.not_true, Bool.not_false] <;> rfl : (false) = (((decide (qk ≠ (1:Int)) && decide ((0:Int) < (niq:Int))) || ((decide (qk ≠ (2:Int)) && (decide (fs ≠ (0:UInt64)) || decide (mn ≠ (0:Int)))) || ((decide (qk ≠ (3:Int)) && !(blankB pv ep kd l ls bl tg)) || (decide (qk = (3:Int)) && decide (eq ≠ (0:UInt64))))))))) (Sub.nil)))) rfl
     refine Z2 10 ?_
     have hk3e : decide (qk = (3:Int)) = false := (decide_eq_false ZO)
     refine BU (()) trivial (Sub.cons rfl (Sub.cons rfl (Sub.cons (congrArg (fun b => some (Value.bool b)) (by simp only [hb1, hb2, hb3, hb4, hb5, hb6, hb7, hk3e, Bool.true_and, Bool.false_and, Bool.true_or, Bool.false_or, Bool.or_false, Bool.and_false, Bool.not_true, Bool.not_false] <;> rfl : (true) = (((decide (qk ≠ (1:Int)) && decide ((0:Int) < (niq:Int))) || ((decide (qk ≠ (2:Int)) && (decide (fs ≠ (0:UInt64)) || decide (mn ≠ (0:Int)))) || ((decide (qk ≠ (3:Int)) && !(blankB pv ep kd l ls bl tg)) || (decide (qk = (3:Int)) && decide (eq ≠ (0:UInt64))))))))) (Sub.nil)))) rfl
    have hp6 := of_decide_eq_false hb6
    refine Z2 11 ?_
    refine AD 39 42 true _ (Ptr nb1 27) rfl rfl (decide_eq_true ZO) ZE rfl ?_
    refine AD 39 42 true _ (U64 eq) rfl rfl (decide_eq_true ZO) (AR rfl (B1 BD (A0 0 rfl (Seg.right 27 0 (by simp [htg]) rfl (Seg.head))))) rfl ?_
    refine AD 39 42 true _ (.bool (decide (eq ≠ (0:UInt64)))) rfl rfl (decide_eq_true ZO) (AT rfl rfl fun _ => CL eq (0:UInt64)) rfl ?_
    refine AD 35 38 false _ _ rfl rfl rfl (CC _ rfl (decide_eq_true ZO) rfl) rfl ?_
    refine Z2 2 ?_
    have hk3e : decide (qk = (3:Int)) = true := (decide_eq_true ZO)
    refine BU (()) trivial (Sub.cons rfl (Sub.cons rfl (Sub.cons (congrArg (fun b => some (Value.bool b)) (by simp only [hb1, hb2, hb3, hb4, hb5, hb6, hk3e, Bool.true_and, Bool.false_and, Bool.true_or, Bool.false_or, Bool.or_false, Bool.and_false, Bool.not_true, Bool.not_false] <;> rfl : (decide (eq ≠ (0:UInt64))) = (((decide (qk ≠ (1:Int)) && decide ((0:Int) < (niq:Int))) || ((decide (qk ≠ (2:Int)) && (decide (fs ≠ (0:UInt64)) || decide (mn ≠ (0:Int)))) || ((decide (qk ≠ (3:Int)) && !(blankB pv ep kd l ls bl tg)) || (decide (qk = (3:Int)) && decide (eq ≠ (0:UInt64))))))))) (Sub.nil)))) rfl
   have hp3 := of_decide_eq_false hb3
   refine Z2 15 ?_
   refine AD 28 31 true _ (Ptr nb1 5) rfl rfl (decide_eq_true ZO) ZE rfl ?_
   refine AD 28 31 true _ (.agg (V2 pv ep (kd) ai ni ci sa ns sc bl tg).toArray) rfl rfl (decide_eq_true ZO) (AR rfl (BV Tryd.isAgg38 B8 (by simp [htg]) (A0 0 rfl (CB (p := [U64 sq, I64 (qk), SL aiq niq ciq, U64 fs, I64 (mn)]) (q := [U64 eq]) (vs := (V2 pv ep (kd) ai ni ci sa ns sc bl tg)) (by first | rfl | (simp only [List.append_assoc, List.nil_append, List.append_nil, List.cons_append]; done)) rfl)))) rfl ?_
   refine B6 28 31 true _ rfl rfl (decide_eq_true ZO) (AJ 78 _ (.bool (blankB pv ep (kd) l ls bl tg)) (AH _ Tryd.call78 rfl) (fun w1 hw1 => rblank_c pv ep (kd) ai ni ci l sa ns sc ls bl tg w1 hl ZO ZO ZO (CF hw1 rfl hv) hls ZO ZO ZO (CF hw1 rfl hs) htg)) rfl ?_
   rintro v1 L1 ⟨rfl, rfl⟩
   show JL _ _ _ _ (_ :: _) [_]
   refine AD 28 31 true _ (.bool (!(blankB pv ep (kd) l ls bl tg))) rfl rfl (decide_eq_true ZO) ZE rfl ?_
   refine AD 24 27 false _ _ rfl rfl rfl (CC _ rfl (decide_eq_true ZO) rfl) rfl ?_
   refine Z2 2 ?_
   rcases Bool.eq_false_or_eq_true (blankB pv ep (kd) l ls bl tg) with hb8 | hb8
   ·
    refine Z2 4 ?_
    refine D4 3 39 42 true _ rfl rfl (decide_eq_false ZO) rfl ?_
    refine AD 35 38 false _ _ rfl rfl (bnotT hb8) (BO _ rfl (decide_eq_false ZO) rfl) rfl ?_
    refine Z2 2 ?_
    have hk3e : decide (qk = (3:Int)) = false := (decide_eq_false ZO)
    have hk3n : decide (qk ≠ (3:Int)) = true := (decide_eq_true ZO)
    refine BU (()) trivial (Sub.cons rfl (Sub.cons rfl (Sub.cons (congrArg (fun b => some (Value.bool b)) (by simp only [hb1, hb2, hb3, hb8, hk3e, hk3n, Bool.true_and, Bool.false_and, Bool.true_or, Bool.false_or, Bool.or_false, Bool.and_false, Bool.not_true, Bool.not_false] <;> rfl : (false) = (((decide (qk ≠ (1:Int)) && decide ((0:Int) < (niq:Int))) || ((decide (qk ≠ (2:Int)) && (decide (fs ≠ (0:UInt64)) || decide (mn ≠ (0:Int)))) || ((decide (qk ≠ (3:Int)) && !(blankB pv ep kd l ls bl tg)) || (decide (qk = (3:Int)) && decide (eq ≠ (0:UInt64))))))))) (Sub.nil)))) rfl
   refine Z2 10 ?_
   have hk3e : decide (qk = (3:Int)) = false := (decide_eq_false ZO)
   have hk3n : decide (qk ≠ (3:Int)) = true := (decide_eq_true ZO)
   refine BU (()) trivial (Sub.cons rfl (Sub.cons rfl (Sub.cons (congrArg (fun b => some (Value.bool b)) (by simp only [hb1, hb2, hb3, hb8, hk3e, hk3n, Bool.true_and, Bool.false_and, Bool.true_or, Bool.false_or, Bool.or_false, Bool.and_false, Bool.not_true, Bool.not_false] <;> rfl : (true) = (((decide (qk ≠ (1:Int)) && decide ((0:Int) < (niq:Int))) || ((decide (qk ≠ (2:Int)) && (decide (fs ≠ (0:UInt64)) || decide (mn ≠ (0:Int)))) || ((decide (qk ≠ (3:Int)) && !(blankB pv ep kd l ls bl tg)) || (decide (qk = (3:Int)) && decide (eq ≠ (0:UInt64))))))))) (Sub.nil)))) rfl
  have hp1 := of_decide_eq_false hb1
  refine Z2 10 ?_
  refine AD 13 16 true _ (Ptr nb1 3) rfl rfl (decide_eq_true ZO) ZE rfl ?_
  refine AD 13 16 true _ (U64 fs) rfl rfl (decide_eq_true ZO) ZE rfl ?_
  refine AD 13 16 true _ (.bool (decide (fs ≠ (0:UInt64)))) rfl rfl (decide_eq_true ZO) (AT rfl rfl fun _ => CL fs (0:UInt64)) rfl ?_
  refine AD 13 16 true _ _ rfl rfl (decide_eq_true ZO) ZE rfl ?_
  rcases Bool.eq_false_or_eq_true (decide (fs ≠ (0:UInt64))) with hb9 | hb9
  ·
   have hp9 := of_decide_eq_true hb9
   refine Z2 3 ?_
   refine AD 13 16 true _ _ rfl rfl (decide_eq_true ZO) ZE rfl ?_
   refine AD 9 12 false _ _ rfl rfl rfl (CC _ rfl (decide_eq_true ZO) rfl) rfl ?_
   refine Z2 23 ?_
   have hk2n : decide (qk ≠ (2:Int)) = true := (decide_eq_true ZO)
   have hk3e : decide (qk = (3:Int)) = false := (decide_eq_false ZO)
   have hk3n : decide (qk ≠ (3:Int)) = true := (decide_eq_true ZO)
   refine BU (()) trivial (Sub.cons rfl (Sub.cons rfl (Sub.cons (congrArg (fun b => some (Value.bool b)) (by simp only [hb1, hb9, hk2n, hk3e, hk3n, Bool.true_and, Bool.false_and, Bool.true_or, Bool.false_or, Bool.or_false, Bool.and_false, Bool.not_true, Bool.not_false] <;> rfl : (true) = (((decide (qk ≠ (1:Int)) && decide ((0:Int) < (niq:Int))) || ((decide (qk ≠ (2:Int)) && (decide (fs ≠ (0:UInt64)) || decide (mn ≠ (0:Int)))) || ((decide (qk ≠ (3:Int)) && !(blankB pv ep kd l ls bl tg)) || (decide (qk = (3:Int)) && decide (eq ≠ (0:UInt64))))))))) (Sub.nil)))) rfl
  have hp9 := of_decide_eq_false hb9
  refine Z2 3 ?_
  refine AD 13 16 true _ _ rfl rfl (decide_eq_true ZO) ZE rfl ?_
  refine AD 9 12 false _ _ rfl rfl rfl (CC _ rfl (decide_eq_true ZO) rfl) rfl ?_
  refine Z2 2 ?_
  rcases Bool.eq_false_or_eq_true (decide ((mn) ≠ (0:Int))) with hb10 | hb10
  ·
   have hp10 := of_decide_eq_true hb10
   refine Z2 21 ?_
   have hk2n : decide (qk ≠ (2:Int)) = true := (decide_eq_true ZO)
   have hk3e : decide (qk = (3:Int)) = false := (decide_eq_false ZO)
   have hk3n : decide (qk ≠ (3:Int)) = true := (decide_eq_true ZO)
   refine BU (()) trivial (Sub.cons rfl (Sub.cons rfl (Sub.cons (congrArg (fun b => some (Value.bool b)) (by simp only [hb1, hb9, hb10, hk2n, hk3e, hk3n, Bool.true_and, Bool.false_and, Bool.true_or, Bool.false_or, Bool.or_false, Bool.and_false, Bool.not_true, Bool.not_false] <;> rfl : (true) = (((decide (qk ≠ (1:Int)) && decide ((0:Int) < (niq:Int))) || ((decide (qk ≠ (2:Int)) && (decide (fs ≠ (0:UInt64)) || decide (mn ≠ (0:Int)))) || ((decide (qk ≠ (3:Int)) && !(blankB pv ep kd l ls bl tg)) || (decide (qk = (3:Int)) && decide (eq ≠ (0:UInt64))))))))) (Sub.nil)))) rfl
  have hp10 := of_decide_eq_false hb10
  refine Z2 4 ?_
  refine AD 28 31 true _ (Ptr nb1 5) rfl rfl (decide_eq_true ZO) ZE rfl ?_
  refine AD 28 31 true _ (.agg (V2 pv ep (kd) ai ni ci sa ns sc bl tg).toArray) rfl rfl (decide_eq_true ZO) (AR rfl (BV Tryd.isAgg38 B8 (by simp [htg]) (A0 0 rfl (CB (p := [U64 sq, I64 (qk), SL aiq niq ciq, U64 fs, I64 (mn)]) (q := [U64 eq]) (vs := (V2 pv ep (kd) ai ni ci sa ns sc bl tg)) (by first | rfl | (simp only [List.append_assoc, List.nil_append, List.append_nil, List.cons_append]; done)) rfl)))) rfl ?_
  refine B6 28 31 true _ rfl rfl (decide_eq_true ZO) (AJ 78 _ (.bool (blankB pv ep (kd) l ls bl tg)) (AH _ Tryd.call78 rfl) (fun w1 hw1 => rblank_c pv ep (kd) ai ni ci l sa ns sc ls bl tg w1 hl ZO ZO ZO (CF hw1 rfl hv) hls ZO ZO ZO (CF hw1 rfl hs) htg)) rfl ?_
  rintro v1 L1 ⟨rfl, rfl⟩
  show JL _ _ _ _ (_ :: _) [_]
  refine AD 28 31 true _ (.bool (!(blankB pv ep (kd) l ls bl tg))) rfl rfl (decide_eq_true ZO) ZE rfl ?_
  refine AD 24 27 false _ _ rfl rfl hb10 (CC _ rfl (decide_eq_true ZO) rfl) rfl ?_
  refine Z2 2 ?_
  rcases Bool.eq_false_or_eq_true (blankB pv ep (kd) l ls bl tg) with hb11 | hb11
  ·
   refine Z2 4 ?_
   refine D4 3 39 42 true _ rfl rfl (decide_eq_false ZO) rfl ?_
   refine AD 35 38 false _ _ rfl rfl (bnotT hb11) (BO _ rfl (decide_eq_false ZO) rfl) rfl ?_
   refine Z2 2 ?_
   have hk2n : decide (qk ≠ (2:Int)) = true := (decide_eq_true ZO)
   have hk3e : decide (qk = (3:Int)) = false := (decide_eq_false ZO)
   have hk3n : decide (qk ≠ (3:Int)) = true := (decide_eq_true ZO)
   refine BU (()) trivial (Sub.cons rfl (Sub.cons rfl (Sub.cons (congrArg (fun b => some (Value.bool b)) (by simp only [hb1, hb9, hb10, hb11, hk2n, hk3e, hk3n, Bool.true_and, Bool.false_and, Bool.true_or, Bool.false_or, Bool.or_false, Bool.and_false, Bool.not_true, Bool.not_false] <;> rfl : (false) = (((decide (qk ≠ (1:Int)) && decide ((0:Int) < (niq:Int))) || ((decide (qk ≠ (2:Int)) && (decide (fs ≠ (0:UInt64)) || decide (mn ≠ (0:Int)))) || ((decide (qk ≠ (3:Int)) && !(blankB pv ep kd l ls bl tg)) || (decide (qk = (3:Int)) && decide (eq ≠ (0:UInt64))))))))) (Sub.nil)))) rfl
  refine Z2 10 ?_
  have hk2n : decide (qk ≠ (2:Int)) = true := (decide_eq_true ZO)
  have hk3e : decide (qk = (3:Int)) = false := (decide_eq_false ZO)
  have hk3n : decide (qk ≠ (3:Int)) = true := (decide_eq_true ZO)
  refine BU (()) trivial (Sub.cons rfl (Sub.cons rfl (Sub.cons (congrArg (fun b => some (Value.bool b)) (by simp only [hb1, hb9, hb10, hb11, hk2n, hk3e, hk3n, Bool.true_and, Bool.false_and, Bool.true_or, Bool.false_or, Bool.or_false, Bool.and_false, Bool.not_true, Bool.not_false] <;> rfl : (true) = (((decide (qk ≠ (1:Int)) && decide ((0:Int) < (niq:Int))) || ((decide (qk ≠ (2:Int)) && (decide (fs ≠ (0:UInt64)) || decide (mn ≠ (0:Int)))) || ((decide (qk ≠ (3:Int)) && !(blankB pv ep kd l ls bl tg)) || (decide (qk = (3:Int)) && decide (eq ≠ (0:UInt64))))))))) (Sub.nil)))) rfl
 rintro _ hx
 obtain _ := hx
 show JQ _ _ _ [_, _, _] [_]
 refine AK (AX _ rfl (fun hb12 => ?_) (fun hb12 => ?_))
 ·
  refine Z2 7 ?_
  refine A8 [false] ?_
  show JQ _ _ _ _ []
  refine Z1 fun w1 hw1 => ?_
  refine ⟨_, [], rfl, ⟨congrArg Value.bool ?_, rfl⟩, hw1.no⟩
  exact bad_n hlq hb12
 refine Z2 16 ?_
 refine AX _ rfl (fun hb13 => ?_) (fun hb13 => ?_)
 ·
  have hp13 := of_decide_eq_true hb13
  refine Z2 4 ?_
  refine AC (AJ 79 _ (.bool (decide (RightI lq))) (AH _ Tryd.call79 rfl) (fun w1 hw1 => rpright_c aiq niq ciq lq w1 hlq ZO ZO ZO (CF hw1 rfl hvq))) rfl ?_
  show JL _ _ _ _ (_ :: _) [_]
  refine Z2 6 ?_
  refine A8 [false] ?_
  show JQ _ _ _ _ []
  refine Z1 fun w1 hw1 => ?_
  refine ⟨_, [], rfl, ⟨congrArg Value.bool ?_, rfl⟩, hw1.no⟩
  refine ok_n hlq hb12 ?_
  have hk9 : qk = 1 := of_decide_eq_true hb13
  subst hk9
  simp
 have hp13 := of_decide_eq_false hb13
 refine Z2 6 ?_
 refine AX _ rfl (fun hb14 => ?_) (fun hb14 => ?_)
 ·
  have hp14 := of_decide_eq_true hb14
  refine Z2 6 ?_
  refine AC (AJ 80 _ (.bool (spanB fs (mn))) (AH _ Tryd.call80 rfl) (fun w1 hw1 => rspan_w fs (mn) w1 )) rfl ?_
  show JL _ _ _ _ (_ :: _) [_]
  refine Z2 6 ?_
  refine A8 [false] ?_
  show JQ _ _ _ _ []
  refine Z1 fun w1 hw1 => ?_
  refine ⟨_, [], rfl, ⟨congrArg Value.bool ?_, rfl⟩, hw1.no⟩
  refine ok_n hlq hb12 ?_
  have hk9 : qk = 2 := of_decide_eq_true hb14
  subst hk9
  simp
 have hp14 := of_decide_eq_false hb14
 refine Z2 6 ?_
 refine AX _ rfl (fun hb15 => ?_) (fun hb15 => ?_)
 ·
  have hp15 := of_decide_eq_true hb15
  refine Z2 3 ?_
  refine AE _ (AR rfl (BV Tryd.isAgg38 B8 (by simp [htg]) (A0 0 rfl (CB (p := [U64 sq, I64 (qk), SL aiq niq ciq, U64 fs, I64 (mn)]) (q := [U64 eq]) (vs := (V2 pv ep (kd) ai ni ci sa ns sc bl tg)) (by first | rfl | (simp only [List.append_assoc, List.nil_append, List.append_nil, List.cons_append]; done)) rfl)))) rfl ?_
  refine AC (AJ 45 _ (I64 (((mayN pv ep (kd) l ls bl):Int))) (AH _ Tryd.call45 rfl) (fun w1 hw1 => rmay13_c pv ep (kd) ai ni ci l sa ns sc ls bl tg w1 hl ZO ZO ZO (CF hw1 rfl hv) hls ZO ZO ZO (CF hw1 rfl hs) htg)) rfl ?_
  show JL _ _ _ _ (_ :: _) [_]
  refine Z2 7 ?_
  refine A8 [false] ?_
  show JQ _ _ _ _ []
  refine Z1 fun w1 hw1 => ?_
  refine ⟨_, [], rfl, ⟨congrArg Value.bool ?_, rfl⟩, hw1.no⟩
  refine ok_n hlq hb12 ?_
  have hk9 : qk = 3 := of_decide_eq_true hb15
  subst hk9
  simp
 have hp15 := of_decide_eq_false hb15
 refine Z2 9 ?_
 rcases Bool.eq_false_or_eq_true (decide ((qk) = (4:Int))) with hb16 | hb16
 ·
  have hp16 := of_decide_eq_true hb16
  refine Z2 8 ?_
  refine A8 [false] ?_
  show JQ _ _ _ _ []
  refine Z1 fun w1 hw1 => ?_
  refine ⟨_, [], rfl, ⟨congrArg Value.bool ?_, rfl⟩, hw1.no⟩
  refine ok_n hlq hb12 ?_
  have hk9 : qk = 4 := of_decide_eq_true hb16
  subst hk9
  simp
 have hp16 := of_decide_eq_false hb16
 refine Z2 8 ?_
 refine A8 [false] ?_
 show JQ _ _ _ _ []
 refine Z1 fun w1 hw1 => ?_
 refine ⟨_, [], rfl, ⟨congrArg Value.bool ?_, rfl⟩, hw1.no⟩
 refine ok_n hlq hb12 ?_
 have hk1 : qk ≠ 1 := of_decide_eq_false hb13
 have hk2 : qk ≠ 2 := of_decide_eq_false hb14
 have hk3 : qk ≠ 3 := of_decide_eq_false hb15
 have hk4 : qk ≠ 4 := of_decide_eq_false hb16
 simp [hk1, hk2, hk3, hk4]
theorem putReq5_c (sq : UInt64) (aiq : Option Addr) (niq ciq : Nat) (lq : List UInt64) (fs : UInt64) (mn : Int) (pv ep : UInt64) (kd : Int) (ai : Option Addr) (ni ci : Nat) (l : List UInt64) (sa : Option Addr) (ns sc : Nat) (ls : List SealR) (bl : UInt64) (tg : List UInt8) (eq : UInt64)  (w : World) (hlq : lq.length = niq) (hnmq : niq ≤ 2000000) (hncq : niq ≤ ciq) (hcmq : ciq ≤ maxLen) (hvq : RdV w aiq (cu64 lq)) (hl : l.length = ni) (hnm : ni ≤ 2000000) (hnc : ni ≤ ci) (hcm : ci ≤ maxLen) (hv : RdV w ai (cu64 l)) (hls : ls.length = ns) (hnn : ns ≤ 2000000) (hnd : ns ≤ sc) (hcn : sc ≤ maxLen) (hs : RdV w sa (ls.flatMap sealC)) (htg : tg.length = 16) (hbi : ni ≤ 300) (hbs : ns ≤ 300) (hR : reqR (5:Int) lq fs mn eq (blankB pv ep kd l ls bl tg) (decide (mayN pv ep kd l ls bl = 0)) = true)  : Calls Tryd.prog 21 #[.agg (V1 sq 5 aiq niq ciq fs (mn) pv ep (kd) ai ni ci sa ns sc bl tg eq).toArray] w (Post w [] (fun v L => ∃ g sp cap, v = .tuple #[Slc g 0 (17) cap, .nilIface] ∧ L = [(Ez g (cu8 ((numK 8 sq 8 ++ numK 1 (5:UInt64) 1) ++ numK 8 eq 8) ++ sp) 5)] ∧ sp.length = cap - (17) ∧ 17 ≤ cap ∧ cap ≤ maxLen)) := by
 have hmx : maxLen = 9223372036854775807 := rfl
 refine enter (P := Tryd.prog) (f := 21) (fn := Tryd.f21) w [] 82 [] [.agg (V1 sq 5 aiq niq ciq fs (mn) pv ep (kd) ai ni ci sa ns sc bl tg eq).toArray] Tryd.func21 rfl rfl ZM (A2 ZM ZM ZM) ?_
 show JC _ _ _ [_] _
 refine A4 (AO (AF (B2 (.agg (V1 sq 5 aiq niq ciq fs (mn) pv ep (kd) ai ni ci sa ns sc bl tg eq).toArray) (V1 sq 5 aiq niq ciq fs (mn) pv ep (kd) ai ni ci sa ns sc bl tg eq) rfl (by first | rfl | simp)) rfl ?_))
 rintro v1 L1 ⟨nb1, hnb1, rfl, rfl⟩
 show JL _ _ _ _ (_ :: _) [_]
 refine Z2 8 ?_
 refine AC (AJ 22 _ (.bool (reqR (5:Int) lq fs (mn) eq (blankB pv ep (kd) l ls bl tg) (decide (mayN pv ep (kd) l ls bl = 0)))) (AH _ Tryd.call22 rfl) (fun w1 hw1 => rightReq_c sq (5:Int) aiq niq ciq lq fs (mn) pv ep (kd) ai ni ci l sa ns sc ls bl tg eq w1 hlq ZO ZO ZO (CF hw1 rfl hvq) hl ZO ZO ZO (CF hw1 rfl hv) hls ZO ZO ZO (CF hw1 rfl hs) htg ZO ZO)) rfl ?_
 show JL _ _ _ _ (_ :: _) [_]
 refine Z2 3 ?_
 refine AY _ rfl (bnotT hR) ?_
 refine Z2 4 ?_
 refine AE (.agg #[.nilIface, SL none 0 0]) Ze rfl ?_
 refine AF (B2 (.agg #[.nilIface, SL none 0 0]) ([.nilIface, SL none 0 0]) rfl (by first | rfl | simp)) rfl ?_
 rintro v1 L1 ⟨nb2, hnb2, rfl, rfl⟩
 show JL _ _ _ _ (_ :: _) [_, _]
 refine Z2 4 ?_
 refine Z8 82 3 [(0, Ptr nb2 0), (1, Ptr nb1 0), (2, U64 sq), (4, Ptr nb1 1), (5, I64 5), (6, U64 5)] ?_
 refine Z7 ⟨[], [0, 1, 2, 4, 5, 6], [], [0, 1, 2, 4, 5, 6], [3]⟩ 3 (hq := ⟨BM rfl rfl rfl, AA rfl rfl ZE, AA rfl rfl ZE, AA rfl rfl ZE, AA rfl rfl ZE, AA rfl rfl (EW _ _ rfl fun _ => conv_lit (by rw [DM]; rfl) BQ rfl), trivial⟩) (AL rfl (BE 81 _ [false, true] [nb2] _ (AH _ Tryd.call81 rfl) rfl (fun w1 hw1 => numN_c nb2 8 .nilIface sq 8 w1 (hw1.en 1 rfl) ZU (fun h => absurd h ZO) ZO))) ?_
 rintro v1 L1 ⟨_, ⟨rfl, nb3, sp1, cp1, rfl, hc1, hc2, hc3⟩, rfl⟩
 refine ⟨[], ?_⟩
 show DP _ _ _ _ _ _ _ _ [_, _, _]
 refine Z7 ⟨[3], [0, 1, 2, 4, 5, 6], [0, 1, 2], [4, 5, 6], [7]⟩ 7 (hq := ⟨AA rfl rfl ZE, AA rfl rfl ZE, AA rfl rfl (EW _ _ rfl fun _ => conv_lit (by rw [DM]; rfl) BQ rfl), trivial⟩) (AL rfl (BE 81 _ [false, true, true] [nb2, nb3] _ (AH _ Tryd.call81 rfl) rfl (fun w1 hw1 => numO_c nb2 nb3 8 cp1 9 .nilIface (numK 8 sq 8) sp1 (5:UInt64) 1 w1 (hw1.en 1 rfl) (hw1.en 2 rfl) (hw1.ne (i := 1) (j := 2) rfl rfl ZD) (show (numK 8 sq 8).length = 8 from (BI _ _ _)) hc1 hc2 hc3 ZO ZU (fun _ => by decide) ZO))) ?_
 rintro v1 L1 ⟨_, ⟨rfl, nb4, sp2, cp2, rfl, hc4, hc5, hc6⟩, rfl⟩
 refine ⟨[], ?_⟩
 show DP _ _ _ _ _ _ _ _ [_, _, _]
 refine Z5 ⟨[3, 7], [0, 1, 2, 4, 5, 6], [0, 1, 2, 4, 5, 6], [], []⟩ ?_
 refine A9 (F' := [(1, Ptr nb1 0), (2, SL none 0 0), (3, .nilIface), (4, Ptr nb2 0)]) ZR ?_
 refine Z2 9 ?_
 refine AY _ rfl ZD ?_
 refine Z2 6 ?_
 refine AE _ (AR rfl (B1 BD (A0 0 rfl (Seg.right 27 0 (by simp [htg]) rfl (Seg.head))))) rfl ?_
 refine AF (BE 81 _ [false, true, true] [nb2, nb4] _ (AH _ Tryd.call81 rfl) rfl (fun w1 hw1 => numO_c nb2 nb4 9 cp2 17 .nilIface ((numK 8 sq 8) ++ numK 1 (5:UInt64) 1) sp2 eq 8 w1 (hw1.en 1 rfl) (hw1.en 2 rfl) (hw1.ne (i := 1) (j := 2) rfl rfl ZD) (show ((numK 8 sq 8) ++ numK 1 (5:UInt64) 1).length = 9 from (by rw [List.length_append, (show (numK 8 sq 8).length = 8 from (BI _ _ _)), BI] <;> omega)) hc4 hc5 hc6 ZO ZU (fun h => absurd h ZO) ZO)) rfl ?_
 rintro v1 L1 ⟨_, ⟨rfl, nb5, sp3, cp3, rfl, hc7, hc8, hc9⟩, rfl⟩
 show JL _ _ _ _ (_ :: _) [_, _, _]
 refine Z2 16 ?_
 refine AY _ rfl ZD ?_
 refine Z2 6 ?_
 refine AY _ rfl ZD ?_
 refine Z2 6 ?_
 refine AF (A5 83 _ _ (AH _ Tryd.call83 rfl) (fun w1 hw1 => doneO_c nb2 0 nb5 17 cp3 (((numK 8 sq 8) ++ numK 1 (5:UInt64) 1) ++ numK 8 eq 8) w1 (RdA.of hw1 (A0 1 rfl (AG _)) ZM) rfl (show (((numK 8 sq 8) ++ numK 1 (5:UInt64) 1) ++ numK 8 eq 8).length = 17 from (by rw [List.length_append, (show ((numK 8 sq 8) ++ numK 1 (5:UInt64) 1).length = 9 from (by rw [List.length_append, (show (numK 8 sq 8).length = 8 from (BI _ _ _)), BI] <;> omega)), BI] <;> omega)) ZO (RdB.of hw1 (A0 2 rfl (AU (AG _))) ZM))) rfl ?_
 rintro v1 L1 ⟨_, ⟨nb6, sp4, cp4, rfl, rfl, hc10, hc11, hc12⟩, rfl⟩
 show JL _ _ _ _ (_ :: _) [_, _, _, _]
 refine Z2 7 ?_
 refine A8 [false, false, false, true] ?_
 show JQ _ _ _ _ [_]
 refine Z1 fun w1 hw1 => ?_
 skip
 exact ⟨_, _, rfl, ⟨nb6, sp4, cp4, rfl, rfl, hc10, hc11, hc12⟩, hw1.sub ZM ZM⟩
def GLw (w : World) : Prop := RdA w 0 0 [.string (⟨⟨[]⟩⟩), .string (⟨⟨[114, 101, 97, 100]⟩⟩), .string (⟨⟨[115, 112, 97, 110]⟩⟩), .string (⟨⟨[99, 104, 97, 110, 103, 101]⟩⟩), .string (⟨⟨[99, 104, 97, 105, 110]⟩⟩), .string (⟨⟨[102, 111, 114, 103, 101, 116]⟩⟩)]
theorem GLw.at {C : Cx} {L : List Ent} {w : World} (hw : Hp C.w0 C.M L w) (h : GLw C.w0) (h1 : 0 ∉ C.M := by simp) : GLw w := RdA_at hw h ZM h1
theorem word1_c  (w : World) (hW : RdA w 0 0 [.string (⟨⟨[]⟩⟩), .string (⟨⟨[114, 101, 97, 100]⟩⟩), .string (⟨⟨[115, 112, 97, 110]⟩⟩), .string (⟨⟨[99, 104, 97, 110, 103, 101]⟩⟩), .string (⟨⟨[99, 104, 97, 105, 110]⟩⟩), .string (⟨⟨[102, 111, 114, 103, 101, 116]⟩⟩)])  : Calls Tryd.prog 74 #[I64 1] w (Post w [] (fun v L => v = .string (⟨⟨[114, 101, 97, 100]⟩⟩) ∧ L = [])) := by
 refine enter w [] 12 [] [I64 1] Tryd.func74 rfl rfl ZM (A2 ZM ZM ZM) ?_
 show JC _ _ _ [_] _
 refine Z2 11 ?_
 refine AD 2 5 false _ _ rfl rfl ZD ZE rfl ?_
 refine AD 2 5 false _ (.bool (decide ((5:Int) < (1:Int)))) rfl rfl ZD ZE rfl ?_
 refine AE _ (BO _ rfl ZD rfl) rfl ?_
 refine A1 (AK (AY _ rfl ZD ?_))
 refine Z2 5 ?_
 refine AE (Ptr 0 1) (FA 6 9 1 1 Tryd.underlying217 Tryd.sizeOf9 rfl rfl ZO ZO ZO) rfl (AE _ (AR rfl (B1 Tryd.isAgg9 (BP (hW.mem ZM) (B0 (Seg.head)) (by first | omega | (simp; done) | (simp; omega))))) rfl ?_)
 refine Z2 4 ?_
 refine Z1 fun w1 hw1 => ?_
 exact ⟨_, [], rfl, ⟨rfl, rfl⟩, hw1.no⟩
theorem bld31_016 {w : World} {v0 : Value} {v1 : Value} {v6 : Value} (h0 : v0.cells = [v0].toArray) (h1 : v1.cells = [v1].toArray) (h6 : v6.cells = [v6].toArray) : (Instr.build 31 ([(0, v0), (1, v1), (6, v6)] : List (Nat × Value)).toArray).run Tryd.prog w = .ok (.agg ((((((([v0] : List Value) ++ ([v1] : List Value)) ++ ([.slice none 0 0] : List Value)) ++ ([U64 0] : List Value)) ++ ([I64 0] : List Value)) ++ ([U64 0, U64 0, I64 0, .slice none 0 0, .slice none 0 0, U64 0] ++ cu8 (zr8 16) : List Value)) ++ ([v6] : List Value)).toArray) w :=
 C8 (places := #[(0, 1), (1, 1), (2, 1), (3, 1), (4, 1), (5, 22), (27, 1)]) (Z := (([U64 0] : List Value) ++ (([I64 0] : List Value) ++ (([.slice none 0 0] : List Value) ++ (([U64 0] : List Value) ++ (([I64 0] : List Value) ++ (([U64 0, U64 0, I64 0, .slice none 0 0, .slice none 0 0, U64 0] ++ cu8 (zr8 16) : List Value) ++ (([U64 0] : List Value) ++ [])))))))) (fun _ => by kernel_rfl) Tryd.underlying31 (fun _ => by kernel_rfl) ((EI ([U64 0] : List Value) (([I64 0] : List Value) ++ (([.slice none 0 0] : List Value) ++ (([U64 0] : List Value) ++ (([I64 0] : List Value) ++ (([U64 0, U64 0, I64 0, .slice none 0 0, .slice none 0 0, U64 0] ++ cu8 (zr8 16) : List Value) ++ (([U64 0] : List Value) ++ [])))))) ([v0] : List Value) h0 (by simp [AN]) rfl).trans ((DL ([v0] : List Value) ([I64 0] : List Value) (([.slice none 0 0] : List Value) ++ (([U64 0] : List Value) ++ (([I64 0] : List Value) ++ (([U64 0, U64 0, I64 0, .slice none 0 0, .slice none 0 0, U64 0] ++ cu8 (zr8 16) : List Value) ++ (([U64 0] : List Value) ++ []))))) ([v1] : List Value) h1 (by simp [AN]) rfl).trans ((D0 (([v0] : List Value) ++ ([v1] : List Value)) ([.slice none 0 0] : List Value) (([U64 0] : List Value) ++ (([I64 0] : List Value) ++ (([U64 0, U64 0, I64 0, .slice none 0 0, .slice none 0 0, U64 0] ++ cu8 (zr8 16) : List Value) ++ (([U64 0] : List Value) ++ []))))).trans ((D0 ((([v0] : List Value) ++ ([v1] : List Value)) ++ ([.slice none 0 0] : List Value)) ([U64 0] : List Value) (([I64 0] : List Value) ++ (([U64 0, U64 0, I64 0, .slice none 0 0, .slice none 0 0, U64 0] ++ cu8 (zr8 16) : List Value) ++ (([U64 0] : List Value) ++ [])))).trans ((D0 (((([v0] : List Value) ++ ([v1] : List Value)) ++ ([.slice none 0 0] : List Value)) ++ ([U64 0] : List Value)) ([I64 0] : List Value) (([U64 0, U64 0, I64 0, .slice none 0 0, .slice none 0 0, U64 0] ++ cu8 (zr8 16) : List Value) ++ (([U64 0] : List Value) ++ []))).trans ((D0 ((((([v0] : List Value) ++ ([v1] : List Value)) ++ ([.slice none 0 0] : List Value)) ++ ([U64 0] : List Value)) ++ ([I64 0] : List Value)) ([U64 0, U64 0, I64 0, .slice none 0 0, .slice none 0 0, U64 0] ++ cu8 (zr8 16) : List Value) (([U64 0] : List Value) ++ [])).trans ((DL (((((([v0] : List Value) ++ ([v1] : List Value)) ++ ([.slice none 0 0] : List Value)) ++ ([U64 0] : List Value)) ++ ([I64 0] : List Value)) ++ ([U64 0, U64 0, I64 0, .slice none 0 0, .slice none 0 0, U64 0] ++ cu8 (zr8 16) : List Value)) ([U64 0] : List Value) [] ([v6] : List Value) h6 (by simp [AN]) rfl).trans (by simp [Instr.fill]))))))))
theorem alive14_c  (w : World) (hW : GLw w)  : Calls Tryd.prog 17 #[] w (Post w [] (fun v L => v = .bool true ∧ L = [])) := by
 have hmx : maxLen = 9223372036854775807 := rfl
 refine enter w [] 37 [] [] Tryd.func17 rfl rfl ZM (A2 ZM ZM ZM) ?_
 show JC _ _ _ [] _
 refine Z2 7 ?_
 refine AE (.agg (V1 1 5 none 0 0 0 0 0 0 0 none 0 0 none 0 0 0 (zr8 16) 3).toArray) (DN [(0, U64 1), (1, I64 5), (6, U64 3)] _ rfl (fun _ => bld31_016 rfl rfl rfl)) rfl ?_
 refine AF (A5 21 _ _ (AH _ Tryd.call21 rfl) (fun w1 hw1 => putReq5_c (1:UInt64) none 0 0 ([] : List UInt64) (0:UInt64) (0:Int) (0:UInt64) (0:UInt64) (0:Int) none 0 0 ([] : List UInt64) none 0 0 ([] : List SealR) (0:UInt64) (zr8 16) (3:UInt64) w1 rfl ZO ZO ZO RdV.nil rfl ZO ZO ZO RdV.nil rfl ZO ZO ZO RdV.nil (AN 16) ZO ZO ZK)) rfl ?_
 rintro v1 L1 ⟨_, ⟨nb1, sp1, cp1, rfl, rfl, hc1, hc2, hc3⟩, rfl⟩
 show JL _ _ _ _ (_ :: _) [_]
 refine Z2 10 ?_
 refine AE (.bool true) (CG _ _ _ rfl rfl (fun _ => eqGuard_nn ..) fun _ => eql_if_nil_nil AV) rfl ?_
 refine Z2 6 ?_
 refine AD 7 15 true _ _ rfl rfl ZD ZE rfl ?_
 refine AD 7 15 true _ (Ptr nb1 7) rfl rfl ZD (Ev_indexSl 5 1 7 AM AW rfl rfl ZO ZO ZO) rfl ?_
 refine AD 7 15 true _ _ rfl rfl ZD (AR rfl (B1 CM (A0 0 rfl (AU (Seg.get (g8_get (i := 7) (by rw [(show ((numK 8 (1:UInt64) 8 ++ numK 1 (5:UInt64) 1) ++ numK 8 (3:UInt64) 8).length = 17 from (show ((numK 8 (1:UInt64) 8 ++ numK 1 (5:UInt64) 1) ++ numK 8 (3:UInt64) 8).length = 17 from (by simp [BI])))]; omega))))))) rfl ?_
 refine AD 7 15 true _ (.bool (decide ((g8 ((numK 8 (1:UInt64) 8 ++ numK 1 (5:UInt64) 1) ++ numK 8 (3:UInt64) 8) 7) = (1:UInt8)))) rfl rfl ZD (AT rfl rfl fun _ => bin_eql_u8 (g8 ((numK 8 (1:UInt64) 8 ++ numK 1 (5:UInt64) 1) ++ numK 8 (3:UInt64) 8) 7) (1:UInt8)) rfl ?_
 refine AE _ (CC _ rfl ZD rfl) rfl ?_
 refine Z2 1 ?_
 refine AD 13 21 true _ _ rfl rfl ZK ZE rfl ?_
 refine AD 13 21 true _ (Ptr nb1 8) rfl rfl ZK (Ev_indexSl 5 1 8 AM AW rfl rfl ZO ZO ZO) rfl ?_
 refine AD 13 21 true _ _ rfl rfl ZK (AR rfl (B1 CM (A0 0 rfl (AU (Seg.get (g8_get (i := 8) (by rw [(show ((numK 8 (1:UInt64) 8 ++ numK 1 (5:UInt64) 1) ++ numK 8 (3:UInt64) 8).length = 17 from (show ((numK 8 (1:UInt64) 8 ++ numK 1 (5:UInt64) 1) ++ numK 8 (3:UInt64) 8).length = 17 from (by simp [BI])))]; omega))))))) rfl ?_
 refine AD 13 21 true _ (.bool (decide ((g8 ((numK 8 (1:UInt64) 8 ++ numK 1 (5:UInt64) 1) ++ numK 8 (3:UInt64) 8) 8) = (5:UInt8)))) rfl rfl ZK (AT rfl rfl fun _ => bin_eql_u8 (g8 ((numK 8 (1:UInt64) 8 ++ numK 1 (5:UInt64) 1) ++ numK 8 (3:UInt64) 8) 8) (5:UInt8)) rfl ?_
 refine AE _ (CC _ rfl ZK rfl) rfl ?_
 refine Z2 1 ?_
 refine AD 19 27 true _ _ rfl rfl ZK ZE rfl ?_
 refine AD 19 27 true _ (Ptr nb1 16) rfl rfl ZK (Ev_indexSl 5 1 16 AM AW rfl rfl ZO ZO ZO) rfl ?_
 refine AD 19 27 true _ _ rfl rfl ZK (AR rfl (B1 CM (A0 0 rfl (AU (Seg.get (g8_get (i := 16) (by rw [(show ((numK 8 (1:UInt64) 8 ++ numK 1 (5:UInt64) 1) ++ numK 8 (3:UInt64) 8).length = 17 from (show ((numK 8 (1:UInt64) 8 ++ numK 1 (5:UInt64) 1) ++ numK 8 (3:UInt64) 8).length = 17 from (by simp [BI])))]; omega))))))) rfl ?_
 refine AD 19 27 true _ (.bool (decide ((g8 ((numK 8 (1:UInt64) 8 ++ numK 1 (5:UInt64) 1) ++ numK 8 (3:UInt64) 8) 16) = (3:UInt8)))) rfl rfl ZK (AT rfl rfl fun _ => bin_eql_u8 (g8 ((numK 8 (1:UInt64) 8 ++ numK 1 (5:UInt64) 1) ++ numK 8 (3:UInt64) 8) 16) (3:UInt8)) rfl ?_
 refine AE _ (CC _ rfl ZK rfl) rfl ?_
 refine Z2 1 ?_
 refine B6 25 33 true _ rfl rfl ZK (AJ 74 _ (.string (⟨⟨[114, 101, 97, 100]⟩⟩)) (AH _ Tryd.call74 rfl) (fun w1 hw1 => word1_c w1 (GLw.at hw1 hW))) rfl ?_
 rintro v1 L1 ⟨rfl, rfl⟩
 show JL _ _ _ _ (_ :: _) [_]
 refine AD 25 33 true _ (.bool (decide (([114, 101, 97, 100] : List UInt8) = ([114, 101, 97, 100] : List UInt8)))) rfl rfl ZK (CG _ _ _ rfl rfl (fun _ => eqGuard_str ..) fun _ => eql_str) rfl ?_
 refine AE _ (CC _ rfl ZK rfl) rfl ?_
 refine Z2 4 ?_
 refine A8 [false] ?_
 show JQ _ _ _ _ []
 refine Z1 fun w1 hw1 => ?_
 exact ⟨_, [], rfl, ⟨congrArg Value.bool (decide_eq_true rfl), rfl⟩, hw1.no⟩
theorem bld40_0123456 {w : World} {v0 : Value} {v1 : Value} {v2 : Value} {v3 : Value} {v4 : Value} {c5 : List Value} {v6 : Value} (h0 : v0.cells = [v0].toArray) (h1 : v1.cells = [v1].toArray) (h2 : v2.cells = [v2].toArray) (h3 : v3.cells = [v3].toArray) (h4 : v4.cells = [v4].toArray) (h5 : c5.length = 22) (h6 : v6.cells = [v6].toArray) : (Instr.build 40 ([(0, v0), (1, v1), (2, v2), (3, v3), (4, v4), (5, .agg c5.toArray), (6, v6)] : List (Nat × Value)).toArray).run Tryd.prog w = .ok (.agg ((((((([v0] : List Value) ++ ([v1] : List Value)) ++ ([v2] : List Value)) ++ ([v3] : List Value)) ++ ([v4] : List Value)) ++ c5) ++ ([v6] : List Value)).toArray) w :=
 C8 (places := #[(0, 1), (1, 1), (2, 1), (3, 1), (4, 1), (5, 22), (27, 1)]) (Z := (([U64 0] : List Value) ++ (([I64 0] : List Value) ++ (([.slice none 0 0] : List Value) ++ (([U64 0] : List Value) ++ (([I64 0] : List Value) ++ (([U64 0, U64 0, I64 0, .slice none 0 0, .slice none 0 0, U64 0] ++ cu8 (zr8 16) : List Value) ++ (([U64 0] : List Value) ++ [])))))))) (fun _ => by kernel_rfl) Tryd.underlying40 (fun _ => by kernel_rfl) ((EI ([U64 0] : List Value) (([I64 0] : List Value) ++ (([.slice none 0 0] : List Value) ++ (([U64 0] : List Value) ++ (([I64 0] : List Value) ++ (([U64 0, U64 0, I64 0, .slice none 0 0, .slice none 0 0, U64 0] ++ cu8 (zr8 16) : List Value) ++ (([U64 0] : List Value) ++ [])))))) ([v0] : List Value) h0 (by simp [AN]) rfl).trans ((DL ([v0] : List Value) ([I64 0] : List Value) (([.slice none 0 0] : List Value) ++ (([U64 0] : List Value) ++ (([I64 0] : List Value) ++ (([U64 0, U64 0, I64 0, .slice none 0 0, .slice none 0 0, U64 0] ++ cu8 (zr8 16) : List Value) ++ (([U64 0] : List Value) ++ []))))) ([v1] : List Value) h1 (by simp [AN]) rfl).trans ((DL (([v0] : List Value) ++ ([v1] : List Value)) ([.slice none 0 0] : List Value) (([U64 0] : List Value) ++ (([I64 0] : List Value) ++ (([U64 0, U64 0, I64 0, .slice none 0 0, .slice none 0 0, U64 0] ++ cu8 (zr8 16) : List Value) ++ (([U64 0] : List Value) ++ [])))) ([v2] : List Value) h2 (by simp [AN]) rfl).trans ((DL ((([v0] : List Value) ++ ([v1] : List Value)) ++ ([v2] : List Value)) ([U64 0] : List Value) (([I64 0] : List Value) ++ (([U64 0, U64 0, I64 0, .slice none 0 0, .slice none 0 0, U64 0] ++ cu8 (zr8 16) : List Value) ++ (([U64 0] : List Value) ++ []))) ([v3] : List Value) h3 (by simp [AN]) rfl).trans ((DL (((([v0] : List Value) ++ ([v1] : List Value)) ++ ([v2] : List Value)) ++ ([v3] : List Value)) ([I64 0] : List Value) (([U64 0, U64 0, I64 0, .slice none 0 0, .slice none 0 0, U64 0] ++ cu8 (zr8 16) : List Value) ++ (([U64 0] : List Value) ++ [])) ([v4] : List Value) h4 (by simp [AN]) rfl).trans ((DL ((((([v0] : List Value) ++ ([v1] : List Value)) ++ ([v2] : List Value)) ++ ([v3] : List Value)) ++ ([v4] : List Value)) ([U64 0, U64 0, I64 0, .slice none 0 0, .slice none 0 0, U64 0] ++ cu8 (zr8 16) : List Value) (([U64 0] : List Value) ++ []) c5 rfl (by simp [AN, h5]) (by simp [h5, AN])).trans ((DL (((((([v0] : List Value) ++ ([v1] : List Value)) ++ ([v2] : List Value)) ++ ([v3] : List Value)) ++ ([v4] : List Value)) ++ c5) ([U64 0] : List Value) [] ([v6] : List Value) h6 (by simp [AN, h5]) rfl).trans (by simp [Instr.fill]))))))))
attribute [local irreducible] plainV itB chB bB aB c1B c2B c3B c4B repR
theorem plain_c (b : Bool) (e : UInt64) (d t : List UInt8)  (w : World) (hd : d.length = 32) (ht : t.length = 16)  : Calls Tryd.prog 100 #[.agg (List.toArray (α := Value) (V3 b e d t))] w (Post w [] (fun v L => v = .bool (plainV b e d t) ∧ L = [])) := by
 refine enter (P := Tryd.prog) (f := 100) (fn := Tryd.f100) w [] 11 [] [.agg (List.toArray (α := Value) (V3 b e d t))] Tryd.func100 rfl rfl ZM (A2 ZM ZM ZM) ?_
 show JC _ _ _ [_] _
 refine A4 (AO (AF (B2 (.agg (List.toArray (α := Value) (V3 b e d t))) (V3 b e d t) rfl (by first | rfl | simp)) rfl ?_))
 rintro v1 L1 ⟨nb1, hnb1, rfl, rfl⟩
 show JL _ _ _ _ (_ :: _) [_]
 refine Z2 8 ?_
 rcases Bool.eq_false_or_eq_true (b) with hb1 | hb1
 ·
  refine Z2 9 ?_
  refine Z1 fun w1 hw1 => ?_
  refine ⟨_, [], rfl, ⟨congrArg Value.bool ?_, rfl⟩, hw1.no⟩
  unfold plainV
  first | rfl | (simp [*]; done)
 refine Z2 1 ?_
 refine AD 2 5 false _ _ rfl rfl hb1 (AR rfl (BV CT BC (by simp [hd, ht]) (A0 0 rfl (CB (p := [.bool b]) (q := []) (vs := [U64 e] ++ cu8 d ++ cu8 t) (by first | rfl | (simp only [List.append_assoc, List.nil_append, List.append_nil, List.cons_append]; done)) rfl)))) rfl ?_
 refine AD 2 5 false _ (.agg ([U64 0] ++ cu8 (zr8 32) ++ cu8 (zr8 16)).toArray) rfl rfl hb1 Ze rfl ?_
 refine AD 2 5 false _ (.bool (decide (e = (0:UInt64) ∧ d = (zr8 32) ∧ t = (zr8 16)))) rfl rfl hb1 (CG _ _ _ rfl rfl (fun _ => EG _ _ _ _ _ _ ZR) (eql_struct (e = (0:UInt64) ∧ d = (zr8 32) ∧ t = (zr8 16)) (EqV.struct (d := 9999) ZR ZR ZR (EqRs.cons 22 0 (U64 e) (U64 0) _ _ _ (PartV.one BD (AU (AU (Seg.head)))) (PartV.one BD (AU (AU (Seg.head)))) (EqV.u64 (d := 9998) BQ e (0:UInt64)) (EqRs.cons 159 1 (.agg (cu8 d).toArray) (.agg (cu8 (zr8 32)).toArray) _ _ _ (PartV.agg D3 DW (EC (AU (Seg.right 1 0 rfl rfl (AG _))) (CI hd) ZO)) (PartV.agg D3 DW (EC (AU (Seg.right 1 0 rfl rfl (AG _))) (CI (AN 32)) ZO)) (EqV.arr8 (d := 9997) CJ BS CM DT D9 (by simp [hd]) ZS) (EqRs.last 27 33 (.agg (cu8 t).toArray) (.agg (cu8 (zr8 16)).toArray) _ (PartV.agg CU CO (EC (Seg.right 33 0 (by simp [hd]) rfl (AG _)) (CI ht) ZO)) (PartV.agg CU CO (EC (Seg.right 33 0 ZS rfl (AG _)) (CI (AN 16)) ZO)) (EqV.arr8 (d := 9997) AZ BS CM DT D9 (by simp [ht]) ZS))))) (by first | rfl | (simp only [Bool.decide_and, Bool.and_assoc]; done) | (simp only [Bool.beq_eq_decide_eq, Bool.decide_and, Bool.and_assoc]; done) | (simp [Bool.and_assoc]; done)))) rfl ?_
 refine Z2 5 ?_
 refine Z1 fun w1 hw1 => ?_
 refine ⟨_, [], rfl, ⟨congrArg Value.bool ?_, rfl⟩, hw1.no⟩
 unfold plainV
 first | rfl | (simp [*]; done)
theorem oddI_c (b : Bool) (e : UInt64) (d t : List UInt8)  (w : World) (hd : d.length = 32) (ht : t.length = 16)  : Calls Tryd.prog 99 #[.agg (List.toArray (α := Value) (V3 b e d t))] w (Post w [] (fun v L => v = .bool (!plainV b e d t) ∧ L = [])) := by
 refine enter (P := Tryd.prog) (f := 99) (fn := Tryd.f99) w [] 6 [] [.agg (List.toArray (α := Value) (V3 b e d t))] Tryd.func99 rfl rfl ZM (A2 ZM ZM ZM) ?_
 show JC _ _ _ [_] _
 refine A4 (AO (AF (B2 (.agg (List.toArray (α := Value) (V3 b e d t))) (V3 b e d t) rfl (by first | rfl | simp)) rfl ?_))
 rintro v1 L1 ⟨nb1, hnb1, rfl, rfl⟩
 show JL _ _ _ _ (_ :: _) [_]
 refine Z2 6 ?_
 refine AC (AJ 100 _ (.bool (plainV b e d t)) (AH _ Tryd.call100 rfl) (fun w1 hw1 => plain_c b e d t w1 hd ht)) rfl ?_
 show JL _ _ _ _ (_ :: _) [_]
 refine Z2 5 ?_
 refine Z1 fun w1 hw1 => ?_
 exact ⟨_, [], rfl, ⟨rfl, rfl⟩, hw1.no⟩
theorem ixItem_c (aj : Option Addr) (nj cj : Nat) (lj : List ItemR)  (w : World) (hlj : lj.length = nj) (hnj : nj ≤ 2000000) (hdj : nj ≤ cj) (hcj : cj ≤ maxLen) (hj : RdV w aj (lj.flatMap itemC))  : Calls Tryd.prog 150 #[SL aj nj cj, .func (.func 99) #[] #[]] w (Post w [] (fun v L => v = I64 (findIx (fun x => !plainB x) lj) ∧ L = [])) := by
 have hmx : maxLen = 9223372036854775807 := rfl
 refine enter w [] 19 [] [SL aj nj cj, .func (.func 99) #[] #[]] Tryd.func150 rfl rfl ZM (A2 ZM ZM ZM) ?_
 show JC _ _ _ [_, _] _
 refine Z2 14 ?_
 refine C3 (ι := Nat) (fun i => [(0, SL aj nj cj), (1, .func (.func 99) #[] #[]), (7, I64 nj), (8, I64 i)]) (fun i => []) (fun i => i ≤ nj ∧ ∀ k, k < i → ∀ y, lj[k]? = some y → (fun x => !plainB x) y = false) (fun i => nj - i) 0 ⟨ZO, fun k hk => absurd hk ZO⟩ (Sub.all rfl) rfl ?_
 rintro i ⟨hi1, hi2⟩
 show JC _ _ _ [_, _, _, _] []
 refine Z2 6 ?_
 refine AX _ rfl (fun hb1 => ?_) (fun hb1 => ?_)
 ·
  have hp1 := of_decide_eq_true hb1
  refine Z2 15 ?_
  obtain ⟨x1, hx1⟩ : ∃ x, lj[i]? = some x := ⟨_, List.getElem?_eq_getElem (by rw [hlj]; omega)⟩
  obtain ⟨bz1, oz1, hz1, hm1⟩ := EJ FG ZD hj hx1
  rw [itemC_eq] at hm1
  refine AE (Ptr bz1 (50*i + oz1)) (BK 163 50 (50*i + oz1) C0 CN rfl hz1 rfl ZO ZO ZO) rfl ?_
  refine AE (.agg (List.toArray (α := Value) (V3 x1.b x1.s.e x1.s.d x1.s.t))) (AR rfl (BV Tryd.isAgg163 CN (by simp [x1.s.hd, x1.s.ht]) (BP (hm1.mem ZM) (AG _) (by first | omega | (simp; done) | (simp; omega))))) rfl ?_
  refine AC (AJ 99 _ (.bool (!(plainV x1.b x1.s.e x1.s.d x1.s.t))) (Cl_clo [.agg (List.toArray (α := Value) (V3 x1.b x1.s.e x1.s.d x1.s.t))] [] Tryd.call99 rfl rfl) (fun w1 hw1 => oddI_c x1.b x1.s.e x1.s.d x1.s.t w1 x1.s.hd x1.s.ht)) rfl ?_
  show JL _ _ _ _ (_ :: _) []
  refine A1 (AK (AX _ rfl (fun hb2 => ?_) (fun hb2 => ?_)))
  ·
   refine Z2 12 ?_
   refine Z1 fun w1 hw1 => ?_
   have e1 : findIx (fun x => !plainB x) lj = i := findIx_at hx1 (by assumption : (!plainV _ _ _ _) = true) hi2
   exact ⟨_, [], rfl, ⟨by rw [e1], rfl⟩, hw1.no⟩
  refine Z2 4 ?_
  refine AE (I64 ((i:Int) + 1)) (AT rfl rfl fun _ => BR _ _ ((i:Int) + 1) ZO ZO) rfl ?_
  refine Z2 1 ?_
  refine A1 (B5 (C1 (i + 1) ⟨ZO, find_step hx1 (by assumption : (!plainV _ _ _ _) = false) hi2⟩ (by first | (simp; omega) | simp | (dsimp only; omega) | omega) (Sub.all rfl) rfl))
 have hp1 := of_decide_eq_false hb1
 refine Z2 11 ?_
 refine Z1 fun w1 hw1 => ?_
 have e1 : findIx (fun x => !plainB x) lj = -1 := findIx_no (by rw [hlj]; intro k hk; exact hi2 k ZO)
 exact ⟨_, [], rfl, ⟨by rw [e1], rfl⟩, hw1.no⟩
theorem cfItem_c (aj : Option Addr) (nj cj : Nat) (lj : List ItemR)  (w : World) (hlj : lj.length = nj) (hnj : nj ≤ 2000000) (hdj : nj ≤ cj) (hcj : cj ≤ maxLen) (hj : RdV w aj (lj.flatMap itemC))  : Calls Tryd.prog 101 #[SL aj nj cj, .func (.func 99) #[] #[]] w (Post w [] (fun v L => v = .bool (lj.any (fun x => !plainB x)) ∧ L = [])) := by
 refine enter w [] 9 [] [SL aj nj cj, .func (.func 99) #[] #[]] Tryd.func101 rfl rfl ZM (A2 ZM ZM ZM) ?_
 show JC _ _ _ [_, _] _
 refine Z2 9 ?_
 refine AC (AJ 150 _ (I64 ((findIx (fun x => !plainB x) lj))) (AH _ Tryd.call150 rfl) (fun w1 hw1 => ixItem_c aj nj cj lj w1 hlj ZO ZO ZO (CF hw1 rfl hj))) rfl ?_
 show JL _ _ _ _ (_ :: _) []
 refine Z2 5 ?_
 refine Z1 fun w1 hw1 => ?_
 exact ⟨_, [], rfl, ⟨congrArg Value.bool (findIx_ge _ _), rfl⟩, hw1.no⟩
end Go.Proofs.YtkdpdgpphpngeaaDoor
namespace Go.Proofs.YtkdpdgpphpngeaaDoor
open Go Go.Sx Go.RowKit
open Go.Value renaming slice → SL
open Go.ChangeShapes Go.WideShapes
def repT (rq : UInt64) (rk er : Int) (nj : Nat) (lj : List ItemR) (th : Bool) (pv ep : UInt64) (kd : Int) (l : List UInt64) (ls : List SealR) (bl : UInt64) (tg : List UInt8) (nha : Nat) (xha : List UInt8) (nhb : Nat) (xhb : List UInt8) : List UInt8 :=
 if er ≠ 0 then (numK 8 rq 8 ++ numK 1 (UInt64.ofNat rk.toNat) 1) ++ numK 1 (UInt64.ofNat er.toNat) 1
 else if rk = 1 then (((((numK 8 rq 8 ++ numK 1 (1:UInt64) 1) ++ numK 1 (0:UInt64) 1) ++ numK 1 (UInt64.ofNat (nj - 1)) 1) ++ itmsT lj) ++ numK 2 (UInt64.ofNat nhb) 2) ++ xhb
 else if rk = 2 then (((((((numK 8 rq 8 ++ numK 1 (2:UInt64) 1) ++ numK 1 (0:UInt64) 1) ++ numK 1 (UInt64.ofNat (nj - 1)) 1) ++ itmsT lj) ++ numK 2 (UInt64.ofNat nha) 2) ++ xha) ++ numK 2 (UInt64.ofNat nhb) 2) ++ xhb
 else if rk = 3 then (((((numK 8 rq 8 ++ numK 1 (3:UInt64) 1) ++ numK 1 (0:UInt64) 1) ++ numK 2 (UInt64.ofNat nha) 2) ++ xha) ++ numK 2 (UInt64.ofNat nhb) 2) ++ xhb
 else if rk = 4 then (if th then (((((((numK 8 rq 8 ++ numK 1 (4:UInt64) 1) ++ numK 1 (0:UInt64) 1) ++ numK 1 (bitU true) 1) ++ ((tktT pv ep kd.toNat l ls bl) ++ tg)) ++ numK 2 (UInt64.ofNat nha) 2) ++ xha) ++ numK 2 (UInt64.ofNat nhb) 2) ++ xhb else ((numK 8 rq 8 ++ numK 1 (4:UInt64) 1) ++ numK 1 (0:UInt64) 1) ++ numK 1 (bitU false) 1)
 else (numK 8 rq 8 ++ numK 1 (5:UInt64) 1) ++ numK 1 (0:UInt64) 1
def Gh (vs : List Value) (g : Nat) (cs : List Value) (a : Option Addr) : Prop := vs = [] ∨ (a = some ⟨g, 0, none⟩ ∧ ∃ sp, cs = vs ++ sp)
theorem Gh.at {C : Cx} {L : List Ent} {w : World} (hw : Hp C.w0 C.M L w) {vs cs : List Value} {g T : Nat} {fz : Nat × Nat} {a : Option Addr} (i : Nat) (hi : L[i]? = some ⟨g, cs, T, fz⟩) (h : Gh vs g cs a) : RdV w a vs := by
 rcases h with rfl | ⟨rfl, sp, rfl⟩
 ·
  exact RdV.nil
 ·
  exact RdV.of hw (A0 i hi (AU (AG _)))
theorem Gh.itm {l : List ItemR} {g : Nat} {cs : List Value} {a : Option Addr} {n : Nat} (h : l.length = n) (h0 : n = 0) : Gh (l.flatMap itemC) g cs a := by
 subst h0; rw [List.eq_nil_of_length_eq_zero h]; exact .inl rfl
theorem Hp.one {w0 w : World} {M : List Nat} {L : List Ent} (h : Hp w0 M L w) (i : Nat) {e : Ent} (hi : L[i]? = some e) : Hp w0 M [e] w := by
 refine h.sub (fun x hx => ?_) (by simp)
 rcases List.mem_cons.1 hx with rfl | hx
 ·
  exact List.mem_of_getElem? hi
 ·
  cases hx
theorem E2 {w0 w : World} {M : List Nat} {L : List Ent} (h : Hp w0 M L w) (i j : Nat) {e f : Ent} (hi : L[i]? = some e) (hj : L[j]? = some f) (hij : i ≠ j) : Hp w0 M [e, f] w := by
 refine h.sub (fun x hx => ?_) ?_
 ·
  rcases List.mem_cons.1 hx with rfl | hx
  ·
   exact List.mem_of_getElem? hi
  ·
   rcases List.mem_cons.1 hx with rfl | hx
   ·
    exact List.mem_of_getElem? hj
   ·
    cases hx
 ·
  refine List.nodup_cons.2 ⟨fun hm => hij ?_, List.nodup_cons.2 ⟨by simp, List.nodup_nil⟩⟩
  have e1 : e.b = f.b := by simpa using hm
  obtain ⟨hlt, _⟩ := List.getElem?_eq_some_iff.1 hi
  exact (List.getElem?_inj (by simpa using hlt) h.nd).1 (by rw [List.getElem?_map, List.getElem?_map, hi, hj]; simp [e1])
def LargeQ (nj nha nhb ni ns : Nat) : Prop := 300 < nj ∨ 300 < nha ∨ (300 < nhb ∧ nhb ≤ 8192) ∨ 9000 < nhb ∨ LargeP ni ns
instance (nj nha nhb ni ns : Nat) : Decidable (LargeQ nj nha nhb ni ns) := by unfold LargeQ; infer_instance
theorem repR_4 {rk er : Int} {th bt my : Bool} {lj : List ItemR} {na nb : Nat} (h : repR rk er th lj bt my na nb = true) : na ≤ 256 ∧ nb ≤ 8192 := by
 have h1 := (repR_all h).2.2.2
 unfold c4B at h1
 rw [Bool.and_eq_true] at h1
 exact of_decide_eq_true h1.1
end Go.Proofs.YtkdpdgpphpngeaaDoor
namespace Go.Proofs.YtkdpdgpphpngeaaDoor
open Go Go.Sx
open Go.Value renaming slice → SL
attribute [local irreducible] mid zr8 numK valK rvalK constL initL putL RightB tktT mayN idxT selT blankB spanB reqR plainV itB chB bB aB c1B c2B c3B c4B repR JL JC JQ DP Ev Ld MemAt Seg Step Cl RV Qok Cok
theorem partsG_c (rq : UInt64) (rk er : Int) (aj : Option Addr) (nj cj : Nat) (lj : List ItemR) (th : Bool) (pv ep : UInt64) (kd : Int) (ai : Option Addr) (ni ci : Nat) (l : List UInt64) (sa : Option Addr) (ns sc : Nat) (ls : List SealR) (bl : UInt64) (tg : List UInt8) (aha : Option Addr) (nha cha : Nat) (xha : List UInt8) (ahb : Option Addr) (nhb chb : Nat) (xhb : List UInt8)  (w : World) (htg : tg.length = 16)  : Calls Tryd.prog 95 #[.agg (V0 rq (rk) (er) aj nj cj th pv ep (kd) ai ni ci sa ns sc bl tg aha nha cha ahb nhb chb).toArray] w (Post w [] (fun v L => ∃ g cs T, v = .tuple #[.bool (itB er rk), .bool (chB er rk th), .bool (aB er rk th), .bool (bB er rk th)] ∧ L = [(Ez g cs T)])) := by
 refine enter (P := Tryd.prog) (f := 95) (fn := Tryd.f95) w [] 48 [] [.agg (V0 rq (rk) (er) aj nj cj th pv ep (kd) ai ni ci sa ns sc bl tg aha nha cha ahb nhb chb).toArray] Tryd.func95 rfl rfl ZM (A2 ZM ZM ZM) ?_
 show JC _ _ _ [_] _
 refine A4 (AO (AF (B2 (.agg (V0 rq (rk) (er) aj nj cj th pv ep (kd) ai ni ci sa ns sc bl tg aha nha cha ahb nhb chb).toArray) (V0 rq (rk) (er) aj nj cj th pv ep (kd) ai ni ci sa ns sc bl tg aha nha cha ahb nhb chb) rfl (by first | rfl | simp)) rfl ?_))
 rintro v1 L1 ⟨nb1, hnb1, rfl, rfl⟩
 show JL _ _ _ _ (_ :: _) [_]
 refine Z2 14 ?_
 refine AX _ rfl (fun hb1 => ?_) (fun hb1 => ?_)
 ·
  have hp1 := of_decide_eq_true hb1
  refine Z2 10 ?_
  refine DR (.tuple #[.bool false, .bool false, .bool false, .bool false]) (res4 Tryd.results95 (EP rfl) (EP rfl) (EP rfl) (EP rfl)) fun w1 hw1 => ?_
  refine ⟨_, _, rfl, ⟨_, _, _, ?_, rfl⟩, Hp.one hw1 0 rfl⟩
  have fx0 : er ≠ 0 := by omega
  simp [itB, chB, aB, bB, fx0]
 have hp1 := of_decide_eq_false hb1
 refine Z2 8 ?_
 rcases Bool.eq_false_or_eq_true (decide ((rk) = (4:Int))) with hb2 | hb2
 ·
  have hp2 := of_decide_eq_true hb2
  refine Z2 12 ?_
  refine AD 3 19 false _ (Ptr nb1 1) rfl rfl (decide_eq_false ZO) ZE rfl ?_
  refine AD 3 19 false _ (I64 (rk)) rfl rfl (decide_eq_false ZO) ZE rfl ?_
  refine AD 3 19 false _ (.bool (decide ((rk) = (2:Int)))) rfl rfl (decide_eq_false ZO) ZE rfl ?_
  refine AE _ (BO _ rfl (decide_eq_false ZO) rfl) rfl ?_
  refine Z2 1 ?_
  refine AD 8 24 false _ (Ptr nb1 1) rfl rfl (decide_eq_false ZO) ZE rfl ?_
  refine AD 8 24 false _ (I64 (rk)) rfl rfl (decide_eq_false ZO) ZE rfl ?_
  refine AD 8 24 false _ (.bool (decide ((rk) = (3:Int)))) rfl rfl (decide_eq_false ZO) ZE rfl ?_
  refine AE _ (BO _ rfl (decide_eq_false ZO) rfl) rfl ?_
  refine Z2 1 ?_
  refine AD 13 29 false _ _ rfl rfl (decide_eq_false ZO) ZE rfl ?_
  refine AE _ (BO _ rfl (decide_eq_false ZO) rfl) rfl ?_
  refine Z2 4 ?_
  rcases Bool.eq_false_or_eq_true (th) with hb3 | hb3
  ·
   refine Z8 48 1 [(0, Ptr nb1 1), (1, I64 (rk)), (2, .bool (decide ((rk) = (1:Int)))), (3, .bool (decide ((rk) = (1:Int)))), (4, Ptr nb1 1), (5, I64 (rk)), (6, .bool (decide ((rk) = (2:Int)))), (7, .bool (decide ((rk) = (2:Int)))), (8, .bool th), (9, .bool th), (10, .bool th), (11, Ptr nb1 1), (12, I64 (rk)), (13, .bool (decide ((rk) ≠ (1:Int)))), (14, .bool (decide ((rk) ≠ (1:Int)))), (15, .bool th), (16, .bool (decide ((rk) = (2:Int)))), (17, .bool th), (18, .bool (decide ((rk) ≠ (1:Int)))), (19, .bool th)] ?_
   refine Z5 ⟨[], [0, 1, 2, 3, 4, 5, 6, 7, 8, 9, 10, 11, 12, 13, 14, 15, 16, 17, 18, 19], [], [0, 1, 2, 3, 4, 5, 6, 7, 8, 9, 10, 11, 12, 13, 14, 15, 16, 17, 18, 19], []⟩ (hq := ⟨AA rfl rfl ZE, AA rfl rfl ZE, AA rfl rfl ZE, BM rfl rfl rfl, ⟨_, rfl, BA 3 35 false _ rfl rfl rfl (decide_eq_false ZO) (BX 1 3 1 CD rfl CZ rfl rfl)⟩, ⟨_, rfl, BA 3 35 false _ rfl rfl rfl (decide_eq_false ZO) (AR rfl (B1 Tryd.isAgg3 (A0 0 rfl (AU (AU (B0 (Seg.head)))))))⟩, ⟨_, rfl, BA 3 35 false _ rfl rfl rfl (decide_eq_false ZO) (AT rfl rfl fun _ => bin_eql_i _ _)⟩, AA rfl rfl (BO _ rfl (decide_eq_false ZO) rfl), BM rfl rfl rfl, BM rfl rfl rfl, BM rfl rfl rfl, ⟨_, rfl, BA 10 42 true _ rfl rfl rfl hb3 (BX 1 3 1 CD rfl CZ rfl rfl)⟩, ⟨_, rfl, BA 10 42 true _ rfl rfl rfl hb3 (AR rfl (B1 Tryd.isAgg3 (A0 0 rfl (AU (AU (B0 (Seg.head)))))))⟩, ⟨_, rfl, BA 10 42 true _ rfl rfl rfl hb3 (AT rfl rfl fun _ => bin_neq_i _ _)⟩, AA rfl rfl ZE, BM rfl rfl rfl, AA rfl rfl ZE, AA rfl rfl ZE, AA rfl rfl ZE, AA rfl rfl ZE, trivial⟩) ?_
   refine A9 (F' := [(2, .bool (decide ((rk) = (2:Int)))), (3, .bool th), (4, .bool (decide ((rk) ≠ (1:Int)))), (5, .bool th)]) ZR ?_
   refine AK (CH (DR (.tuple #[.bool (decide ((rk) = (2:Int))), .bool th, .bool (decide ((rk) ≠ (1:Int))), .bool th]) (res4 Tryd.results95 (EP rfl) (EP rfl) (EP rfl) (EP rfl)) fun w1 hw1 => ?_))
   refine ⟨_, _, rfl, ⟨_, _, _, ?_, rfl⟩, Hp.one hw1 0 rfl⟩
   have fx0 : er = 0 := by omega
   have fx1 : rk = 4 := by omega
   simp [itB, chB, aB, bB, fx0, fx1, hb3]
  refine Z8 48 1 [(0, Ptr nb1 1), (1, I64 (rk)), (2, .bool (decide ((rk) = (1:Int)))), (3, .bool (decide ((rk) = (1:Int)))), (4, Ptr nb1 1), (5, I64 (rk)), (6, .bool (decide ((rk) = (2:Int)))), (7, .bool (decide ((rk) = (2:Int)))), (8, .bool th), (9, .bool th), (10, .bool th), (11, undef), (12, undef), (13, undef), (14, .bool false), (15, .bool th), (16, .bool (decide ((rk) = (2:Int)))), (17, .bool th), (18, .bool false), (19, .bool th)] ?_
  refine Z5 ⟨[], [0, 1, 2, 3, 4, 5, 6, 7, 8, 9, 10, 11, 12, 13, 14, 15, 16, 17, 18, 19], [], [0, 1, 2, 3, 4, 5, 6, 7, 8, 9, 10, 11, 12, 13, 14, 15, 16, 17, 18, 19], []⟩ (hq := ⟨AA rfl rfl ZE, AA rfl rfl ZE, AA rfl rfl ZE, BM rfl rfl rfl, ⟨_, rfl, BA 3 35 false _ rfl rfl rfl (decide_eq_false ZO) (BX 1 3 1 CD rfl CZ rfl rfl)⟩, ⟨_, rfl, BA 3 35 false _ rfl rfl rfl (decide_eq_false ZO) (AR rfl (B1 Tryd.isAgg3 (A0 0 rfl (AU (AU (B0 (Seg.head)))))))⟩, ⟨_, rfl, BA 3 35 false _ rfl rfl rfl (decide_eq_false ZO) (AT rfl rfl fun _ => bin_eql_i _ _)⟩, AA rfl rfl (BO _ rfl (decide_eq_false ZO) rfl), BM rfl rfl rfl, BM rfl rfl rfl, BM rfl rfl rfl, ⟨_, rfl, BN 10 42 true _ rfl rfl rfl hb3⟩, ⟨_, rfl, BN 10 42 true _ rfl rfl rfl hb3⟩, ⟨_, rfl, BN 10 42 true _ rfl rfl rfl hb3⟩, AA rfl rfl ZE, BM rfl rfl rfl, AA rfl rfl ZE, AA rfl rfl ZE, AA rfl rfl ZE, AA rfl rfl ZE, trivial⟩) ?_
  refine A9 (F' := [(2, .bool (decide ((rk) = (2:Int)))), (3, .bool th), (4, .bool false), (5, .bool th)]) ZR ?_
  refine AK (CH (DR (.tuple #[.bool (decide ((rk) = (2:Int))), .bool th, .bool false, .bool th]) (res4 Tryd.results95 (EP rfl) (EP rfl) (EP rfl) (EP rfl)) fun w1 hw1 => ?_))
  refine ⟨_, _, rfl, ⟨_, _, _, ?_, rfl⟩, Hp.one hw1 0 rfl⟩
  have fx0 : er = 0 := by omega
  have fx1 : rk = 4 := by omega
  simp [itB, chB, aB, bB, fx0, fx1, hb3]
 have hp2 := of_decide_eq_false hb2
 refine Z2 12 ?_
 rcases Bool.eq_false_or_eq_true (decide ((rk) = (1:Int))) with hb4 | hb4
 ·
  have hp4 := of_decide_eq_true hb4
  refine Z2 16 ?_
  refine Z8 48 1 [(0, Ptr nb1 1), (1, I64 (rk)), (2, .bool (decide ((rk) = (1:Int)))), (3, .bool (decide ((rk) = (1:Int)))), (4, undef), (5, undef), (6, undef), (7, .bool true), (8, .bool false), (9, .bool true), (10, .bool true), (11, Ptr nb1 1), (12, I64 (rk)), (13, .bool (decide ((rk) ≠ (1:Int)))), (14, .bool (decide ((rk) ≠ (1:Int)))), (15, .bool true), (16, .bool true), (17, .bool false), (18, .bool (decide ((rk) ≠ (1:Int)))), (19, .bool true)] ?_
  refine Z5 ⟨[], [0, 1, 2, 3, 4, 5, 6, 7, 8, 9, 10, 11, 12, 13, 14, 15, 16, 17, 18, 19], [], [0, 1, 2, 3, 4, 5, 6, 7, 8, 9, 10, 11, 12, 13, 14, 15, 16, 17, 18, 19], []⟩ (hq := ⟨AA rfl rfl ZE, AA rfl rfl ZE, AA rfl rfl ZE, BM rfl rfl rfl, ⟨_, rfl, BN 3 35 false _ rfl rfl rfl hb4⟩, ⟨_, rfl, BN 3 35 false _ rfl rfl rfl hb4⟩, ⟨_, rfl, BN 3 35 false _ rfl rfl rfl hb4⟩, AA rfl rfl ZE, BM rfl rfl rfl, BM rfl rfl rfl, BM rfl rfl rfl, ⟨_, rfl, BA 10 42 true _ rfl rfl rfl rfl (BX 1 3 1 CD rfl CZ rfl rfl)⟩, ⟨_, rfl, BA 10 42 true _ rfl rfl rfl rfl (AR rfl (B1 Tryd.isAgg3 (A0 0 rfl (AU (AU (B0 (Seg.head)))))))⟩, ⟨_, rfl, BA 10 42 true _ rfl rfl rfl rfl (AT rfl rfl fun _ => bin_neq_i _ _)⟩, AA rfl rfl ZE, BM rfl rfl rfl, AA rfl rfl ZE, AA rfl rfl ZE, AA rfl rfl ZE, AA rfl rfl ZE, trivial⟩) ?_
  refine A9 (F' := [(2, .bool true), (3, .bool false), (4, .bool (decide ((rk) ≠ (1:Int)))), (5, .bool true)]) ZR ?_
  refine AK (CH (DR (.tuple #[.bool true, .bool false, .bool (decide ((rk) ≠ (1:Int))), .bool true]) (res4 Tryd.results95 (EP rfl) (EP rfl) (EP rfl) (EP rfl)) fun w1 hw1 => ?_))
  refine ⟨_, _, rfl, ⟨_, _, _, ?_, rfl⟩, Hp.one hw1 0 rfl⟩
  have fx0 : er = 0 := by omega
  have fx1 : rk ≠ 4 := by omega
  have fx2 : rk = 1 := by omega
  simp [itB, chB, aB, bB, fx0, fx1, fx2]
 have hp4 := of_decide_eq_false hb4
 refine Z2 5 ?_
 rcases Bool.eq_false_or_eq_true (decide ((rk) = (2:Int))) with hb5 | hb5
 ·
  have hp5 := of_decide_eq_true hb5
  refine Z2 11 ?_
  refine Z8 48 1 [(0, Ptr nb1 1), (1, I64 (rk)), (2, .bool (decide ((rk) = (1:Int)))), (3, .bool (decide ((rk) = (1:Int)))), (4, Ptr nb1 1), (5, I64 (rk)), (6, .bool (decide ((rk) = (2:Int)))), (7, .bool (decide ((rk) = (2:Int)))), (8, .bool false), (9, .bool true), (10, .bool true), (11, Ptr nb1 1), (12, I64 (rk)), (13, .bool (decide ((rk) ≠ (1:Int)))), (14, .bool (decide ((rk) ≠ (1:Int)))), (15, .bool true), (16, .bool (decide ((rk) = (2:Int)))), (17, .bool false), (18, .bool (decide ((rk) ≠ (1:Int)))), (19, .bool true)] ?_
  refine Z5 ⟨[], [0, 1, 2, 3, 4, 5, 6, 7, 8, 9, 10, 11, 12, 13, 14, 15, 16, 17, 18, 19], [], [0, 1, 2, 3, 4, 5, 6, 7, 8, 9, 10, 11, 12, 13, 14, 15, 16, 17, 18, 19], []⟩ (hq := ⟨AA rfl rfl ZE, AA rfl rfl ZE, AA rfl rfl ZE, BM rfl rfl rfl, ⟨_, rfl, BA 3 35 false _ rfl rfl rfl hb4 (BX 1 3 1 CD rfl CZ rfl rfl)⟩, ⟨_, rfl, BA 3 35 false _ rfl rfl rfl hb4 (AR rfl (B1 Tryd.isAgg3 (A0 0 rfl (AU (AU (B0 (Seg.head)))))))⟩, ⟨_, rfl, BA 3 35 false _ rfl rfl rfl hb4 (AT rfl rfl fun _ => bin_eql_i _ _)⟩, AA rfl rfl ZE, BM rfl rfl rfl, BM rfl rfl rfl, BM rfl rfl rfl, ⟨_, rfl, BA 10 42 true _ rfl rfl rfl rfl (BX 1 3 1 CD rfl CZ rfl rfl)⟩, ⟨_, rfl, BA 10 42 true _ rfl rfl rfl rfl (AR rfl (B1 Tryd.isAgg3 (A0 0 rfl (AU (AU (B0 (Seg.head)))))))⟩, ⟨_, rfl, BA 10 42 true _ rfl rfl rfl rfl (AT rfl rfl fun _ => bin_neq_i _ _)⟩, AA rfl rfl ZE, BM rfl rfl rfl, AA rfl rfl ZE, AA rfl rfl ZE, AA rfl rfl ZE, AA rfl rfl ZE, trivial⟩) ?_
  refine A9 (F' := [(2, .bool (decide ((rk) = (2:Int)))), (3, .bool false), (4, .bool (decide ((rk) ≠ (1:Int)))), (5, .bool true)]) ZR ?_
  refine AK (CH (DR (.tuple #[.bool (decide ((rk) = (2:Int))), .bool false, .bool (decide ((rk) ≠ (1:Int))), .bool true]) (res4 Tryd.results95 (EP rfl) (EP rfl) (EP rfl) (EP rfl)) fun w1 hw1 => ?_))
  refine ⟨_, _, rfl, ⟨_, _, _, ?_, rfl⟩, Hp.one hw1 0 rfl⟩
  have fx0 : er = 0 := by omega
  have fx1 : rk ≠ 4 := by omega
  have fx2 : rk ≠ 1 := by omega
  have fx3 : rk = 2 := by omega
  simp [itB, chB, aB, bB, fx0, fx1, fx2, fx3]
 have hp5 := of_decide_eq_false hb5
 refine Z2 5 ?_
 rcases Bool.eq_false_or_eq_true (decide ((rk) = (3:Int))) with hb6 | hb6
 ·
  have hp6 := of_decide_eq_true hb6
  refine Z2 6 ?_
  refine Z8 48 1 [(0, Ptr nb1 1), (1, I64 (rk)), (2, .bool (decide ((rk) = (1:Int)))), (3, .bool (decide ((rk) = (1:Int)))), (4, Ptr nb1 1), (5, I64 (rk)), (6, .bool (decide ((rk) = (2:Int)))), (7, .bool (decide ((rk) = (2:Int)))), (8, .bool false), (9, .bool true), (10, .bool true), (11, Ptr nb1 1), (12, I64 (rk)), (13, .bool (decide ((rk) ≠ (1:Int)))), (14, .bool (decide ((rk) ≠ (1:Int)))), (15, .bool true), (16, .bool (decide ((rk) = (2:Int)))), (17, .bool false), (18, .bool (decide ((rk) ≠ (1:Int)))), (19, .bool true)] ?_
  refine Z5 ⟨[], [0, 1, 2, 3, 4, 5, 6, 7, 8, 9, 10, 11, 12, 13, 14, 15, 16, 17, 18, 19], [], [0, 1, 2, 3, 4, 5, 6, 7, 8, 9, 10, 11, 12, 13, 14, 15, 16, 17, 18, 19], []⟩ (hq := ⟨AA rfl rfl ZE, AA rfl rfl ZE, AA rfl rfl ZE, BM rfl rfl rfl, ⟨_, rfl, BA 3 35 false _ rfl rfl rfl hb4 (BX 1 3 1 CD rfl CZ rfl rfl)⟩, ⟨_, rfl, BA 3 35 false _ rfl rfl rfl hb4 (AR rfl (B1 Tryd.isAgg3 (A0 0 rfl (AU (AU (B0 (Seg.head)))))))⟩, ⟨_, rfl, BA 3 35 false _ rfl rfl rfl hb4 (AT rfl rfl fun _ => bin_eql_i _ _)⟩, AA rfl rfl ZE, BM rfl rfl rfl, BM rfl rfl rfl, BM rfl rfl rfl, ⟨_, rfl, BA 10 42 true _ rfl rfl rfl rfl (BX 1 3 1 CD rfl CZ rfl rfl)⟩, ⟨_, rfl, BA 10 42 true _ rfl rfl rfl rfl (AR rfl (B1 Tryd.isAgg3 (A0 0 rfl (AU (AU (B0 (Seg.head)))))))⟩, ⟨_, rfl, BA 10 42 true _ rfl rfl rfl rfl (AT rfl rfl fun _ => bin_neq_i _ _)⟩, AA rfl rfl ZE, BM rfl rfl rfl, AA rfl rfl ZE, AA rfl rfl ZE, AA rfl rfl ZE, AA rfl rfl ZE, trivial⟩) ?_
  refine A9 (F' := [(2, .bool (decide ((rk) = (2:Int)))), (3, .bool false), (4, .bool (decide ((rk) ≠ (1:Int)))), (5, .bool true)]) ZR ?_
  refine AK (CH (DR (.tuple #[.bool (decide ((rk) = (2:Int))), .bool false, .bool (decide ((rk) ≠ (1:Int))), .bool true]) (res4 Tryd.results95 (EP rfl) (EP rfl) (EP rfl) (EP rfl)) fun w1 hw1 => ?_))
  refine ⟨_, _, rfl, ⟨_, _, _, ?_, rfl⟩, Hp.one hw1 0 rfl⟩
  have fx0 : er = 0 := by omega
  have fx1 : rk ≠ 4 := by omega
  have fx2 : rk ≠ 1 := by omega
  have fx3 : rk ≠ 2 := by omega
  have fx4 : rk = 3 := by omega
  simp [itB, chB, aB, bB, fx0, fx1, fx2, fx3, fx4]
 have hp6 := of_decide_eq_false hb6
 refine Z2 6 ?_
 refine Z8 48 1 [(0, Ptr nb1 1), (1, I64 (rk)), (2, .bool (decide ((rk) = (1:Int)))), (3, .bool (decide ((rk) = (1:Int)))), (4, Ptr nb1 1), (5, I64 (rk)), (6, .bool (decide ((rk) = (2:Int)))), (7, .bool (decide ((rk) = (2:Int)))), (8, .bool false), (9, .bool false), (10, .bool false), (11, undef), (12, undef), (13, undef), (14, .bool false), (15, .bool false), (16, .bool (decide ((rk) = (2:Int)))), (17, .bool false), (18, .bool false), (19, .bool false)] ?_
 refine Z5 ⟨[], [0, 1, 2, 3, 4, 5, 6, 7, 8, 9, 10, 11, 12, 13, 14, 15, 16, 17, 18, 19], [], [0, 1, 2, 3, 4, 5, 6, 7, 8, 9, 10, 11, 12, 13, 14, 15, 16, 17, 18, 19], []⟩ (hq := ⟨AA rfl rfl ZE, AA rfl rfl ZE, AA rfl rfl ZE, BM rfl rfl rfl, ⟨_, rfl, BA 3 35 false _ rfl rfl rfl hb4 (BX 1 3 1 CD rfl CZ rfl rfl)⟩, ⟨_, rfl, BA 3 35 false _ rfl rfl rfl hb4 (AR rfl (B1 Tryd.isAgg3 (A0 0 rfl (AU (AU (B0 (Seg.head)))))))⟩, ⟨_, rfl, BA 3 35 false _ rfl rfl rfl hb4 (AT rfl rfl fun _ => bin_eql_i _ _)⟩, AA rfl rfl ZE, BM rfl rfl rfl, BM rfl rfl rfl, BM rfl rfl rfl, ⟨_, rfl, BN 10 42 true _ rfl rfl rfl rfl⟩, ⟨_, rfl, BN 10 42 true _ rfl rfl rfl rfl⟩, ⟨_, rfl, BN 10 42 true _ rfl rfl rfl rfl⟩, AA rfl rfl ZE, BM rfl rfl rfl, AA rfl rfl ZE, AA rfl rfl ZE, AA rfl rfl ZE, AA rfl rfl ZE, trivial⟩) ?_
 refine A9 (F' := [(2, .bool (decide ((rk) = (2:Int)))), (3, .bool false), (4, .bool false), (5, .bool false)]) ZR ?_
 refine AK (CH (DR (.tuple #[.bool (decide ((rk) = (2:Int))), .bool false, .bool false, .bool false]) (res4 Tryd.results95 (EP rfl) (EP rfl) (EP rfl) (EP rfl)) fun w1 hw1 => ?_))
 refine ⟨_, _, rfl, ⟨_, _, _, ?_, rfl⟩, Hp.one hw1 0 rfl⟩
 have fx0 : er = 0 := by omega
 have fx1 : rk ≠ 4 := by omega
 have fx2 : rk ≠ 1 := by omega
 have fx3 : rk ≠ 2 := by omega
 have fx4 : rk ≠ 3 := by omega
 simp [itB, chB, aB, bB, fx0, fx1, fx2, fx3, fx4]
theorem parts_c (rq : UInt64) (rk er : Int) (aj : Option Addr) (nj cj : Nat) (lj : List ItemR) (th : Bool) (pv ep : UInt64) (kd : Int) (ai : Option Addr) (ni ci : Nat) (l : List UInt64) (sa : Option Addr) (ns sc : Nat) (ls : List SealR) (bl : UInt64) (tg : List UInt8) (aha : Option Addr) (nha cha : Nat) (xha : List UInt8) (ahb : Option Addr) (nhb chb : Nat) (xhb : List UInt8) (w : World) (htg : tg.length = 16) : Calls Tryd.prog 95 #[.agg (V0 rq (rk) (er) aj nj cj th pv ep (kd) ai ni ci sa ns sc bl tg aha nha cha ahb nhb chb).toArray] w (Post w [] (fun v L => v = .tuple #[.bool (itB er rk), .bool (chB er rk th), .bool (aB er rk th), .bool (bB er rk th)] ∧ L = [])) := by
 refine (partsG_c rq rk er aj nj cj lj th pv ep kd ai ni ci l sa ns sc ls bl tg aha nha cha xha ahb nhb chb xhb w htg).mono ?_
 rintro E W ⟨v, L, rfl, ⟨_, _, _, hv, _⟩, hw⟩
 exact ⟨v, [], rfl, ⟨hv, rfl⟩, hw.sub ZM ZM⟩
theorem hasG_c (rq : UInt64) (rk er : Int) (aj : Option Addr) (nj cj : Nat) (lj : List ItemR) (th : Bool) (pv ep : UInt64) (kd : Int) (ai : Option Addr) (ni ci : Nat) (l : List UInt64) (sa : Option Addr) (ns sc : Nat) (ls : List SealR) (bl : UInt64) (tg : List UInt8) (aha : Option Addr) (nha cha : Nat) (xha : List UInt8) (ahb : Option Addr) (nhb chb : Nat) (xhb : List UInt8)  (w : World) (htg : tg.length = 16)  : Calls Tryd.prog 94 #[.agg (V0 rq (rk) (er) aj nj cj th pv ep (kd) ai ni ci sa ns sc bl tg aha nha cha ahb nhb chb).toArray] w (Post w [] (fun v L => ∃ g cs T g2 cs2 T2, v = .agg #[.bool (itB er rk), .bool (chB er rk th), .bool (aB er rk th), .bool (bB er rk th)] ∧ L = [(Ez g cs T), (Ez g2 cs2 T2)])) := by
 refine enter (P := Tryd.prog) (f := 94) (fn := Tryd.f94) w [] 28 [] [.agg (V0 rq (rk) (er) aj nj cj th pv ep (kd) ai ni ci sa ns sc bl tg aha nha cha ahb nhb chb).toArray] Tryd.func94 rfl rfl ZM (A2 ZM ZM ZM) ?_
 show JC _ _ _ [_] _
 refine A4 (AO (AF (B2 (.agg (V0 rq (rk) (er) aj nj cj th pv ep (kd) ai ni ci sa ns sc bl tg aha nha cha ahb nhb chb).toArray) (V0 rq (rk) (er) aj nj cj th pv ep (kd) ai ni ci sa ns sc bl tg aha nha cha ahb nhb chb) rfl (by first | rfl | simp)) rfl ?_))
 rintro v1 L1 ⟨nb1, hnb1, rfl, rfl⟩
 show JL _ _ _ _ (_ :: _) [_]
 refine AF (AS _ ([.bool false, .bool false, .bool false, .bool false]) Tryd.zeroValue168 ZR) rfl ?_
 rintro v1 L1 ⟨nb2, hnb2, rfl, rfl⟩
 show JL _ _ _ _ (_ :: _) [_, _]
 refine Z2 10 ?_
 refine AX _ rfl (fun hb1 => ?_) (fun hb1 => ?_)
 ·
  have hp1 := of_decide_eq_true hb1
  refine A4 (AO (AE (.agg #[.bool false, .bool false, .bool false, .bool false]) Ze rfl ?_))
  refine Z2 5 ?_
  refine Z1 fun w1 hw1 => ?_
  refine ⟨_, _, rfl, ⟨_, _, _, _, _, _, ?_, rfl⟩, E2 hw1 0 1 rfl rfl ZD⟩
  have fx0 : er ≠ 0 := by omega
  simp [itB, chB, aB, bB, fx0]
 have hp1 := of_decide_eq_false hb1
 refine Z2 16 ?_
 refine AX _ rfl (fun hb2 => ?_) (fun hb2 => ?_)
 ·
  have hp2 := of_decide_eq_true hb2
  refine A4 (AO (AE (.agg #[.bool true, .bool false, .bool false, .bool true]) (DN [(0, .bool true), (1, .bool false), (2, .bool false), (3, .bool true)] _ rfl (fun _ => by kernel_rfl)) rfl ?_))
  refine Z2 6 ?_
  refine Z1 fun w1 hw1 => ?_
  refine ⟨_, _, rfl, ⟨_, _, _, _, _, _, ?_, rfl⟩, E2 hw1 0 1 rfl rfl ZD⟩
  have fx0 : er = 0 := by omega
  have fx1 : rk = 1 := by omega
  simp [itB, chB, aB, bB, fx0, fx1]
 have hp2 := of_decide_eq_false hb2
 refine Z2 6 ?_
 refine AX _ rfl (fun hb3 => ?_) (fun hb3 => ?_)
 ·
  have hp3 := of_decide_eq_true hb3
  refine A4 (AO (AE (.agg #[.bool true, .bool false, .bool true, .bool true]) (DN [(0, .bool true), (1, .bool false), (2, .bool true), (3, .bool true)] _ rfl (fun _ => by kernel_rfl)) rfl ?_))
  refine Z2 6 ?_
  refine Z1 fun w1 hw1 => ?_
  refine ⟨_, _, rfl, ⟨_, _, _, _, _, _, ?_, rfl⟩, E2 hw1 0 1 rfl rfl ZD⟩
  have fx0 : er = 0 := by omega
  have fx1 : rk ≠ 1 := by omega
  have fx2 : rk = 2 := by omega
  simp [itB, chB, aB, bB, fx0, fx1, fx2]
 have hp3 := of_decide_eq_false hb3
 refine Z2 6 ?_
 refine AX _ rfl (fun hb4 => ?_) (fun hb4 => ?_)
 ·
  have hp4 := of_decide_eq_true hb4
  refine A4 (AO (AE (.agg #[.bool false, .bool false, .bool true, .bool true]) (DN [(0, .bool false), (1, .bool false), (2, .bool true), (3, .bool true)] _ rfl (fun _ => by kernel_rfl)) rfl ?_))
  refine Z2 6 ?_
  refine Z1 fun w1 hw1 => ?_
  refine ⟨_, _, rfl, ⟨_, _, _, _, _, _, ?_, rfl⟩, E2 hw1 0 1 rfl rfl ZD⟩
  have fx0 : er = 0 := by omega
  have fx1 : rk ≠ 1 := by omega
  have fx2 : rk ≠ 2 := by omega
  have fx3 : rk = 3 := by omega
  simp [itB, chB, aB, bB, fx0, fx1, fx2, fx3]
 have hp4 := of_decide_eq_false hb4
 refine Z2 6 ?_
 refine AX _ rfl (fun hb5 => ?_) (fun hb5 => ?_)
 ·
  have hp5 := of_decide_eq_true hb5
  refine Z2 8 ?_
  refine AE (.agg #[.bool false, .bool th, .bool th, .bool th]) (DN [(0, .bool false), (1, .bool th), (2, .bool th), (3, .bool th)] _ rfl (fun _ => by kernel_rfl)) rfl ?_
  refine Z2 6 ?_
  refine Z1 fun w1 hw1 => ?_
  refine ⟨_, _, rfl, ⟨_, _, _, _, _, _, ?_, rfl⟩, E2 hw1 0 1 rfl rfl ZD⟩
  have fx0 : er = 0 := by omega
  have fx1 : rk ≠ 1 := by omega
  have fx2 : rk ≠ 2 := by omega
  have fx3 : rk ≠ 3 := by omega
  have fx4 : rk = 4 := by omega
  simp [itB, chB, aB, bB, fx0, fx1, fx2, fx3, fx4]
 have hp5 := of_decide_eq_false hb5
 refine Z2 5 ?_
 refine AE (.agg #[.bool false, .bool false, .bool false, .bool false]) Ze rfl ?_
 refine Z2 4 ?_
 refine Z1 fun w1 hw1 => ?_
 refine ⟨_, _, rfl, ⟨_, _, _, _, _, _, ?_, rfl⟩, E2 hw1 0 1 rfl rfl ZD⟩
 have fx0 : er = 0 := by omega
 have fx1 : rk ≠ 1 := by omega
 have fx2 : rk ≠ 2 := by omega
 have fx3 : rk ≠ 3 := by omega
 have fx4 : rk ≠ 4 := by omega
 simp [itB, chB, aB, bB, fx0, fx1, fx2, fx3, fx4]
theorem has_c (rq : UInt64) (rk er : Int) (aj : Option Addr) (nj cj : Nat) (lj : List ItemR) (th : Bool) (pv ep : UInt64) (kd : Int) (ai : Option Addr) (ni ci : Nat) (l : List UInt64) (sa : Option Addr) (ns sc : Nat) (ls : List SealR) (bl : UInt64) (tg : List UInt8) (aha : Option Addr) (nha cha : Nat) (xha : List UInt8) (ahb : Option Addr) (nhb chb : Nat) (xhb : List UInt8) (w : World) (htg : tg.length = 16) : Calls Tryd.prog 94 #[.agg (V0 rq (rk) (er) aj nj cj th pv ep (kd) ai ni ci sa ns sc bl tg aha nha cha ahb nhb chb).toArray] w (Post w [] (fun v L => v = .agg #[.bool (itB er rk), .bool (chB er rk th), .bool (aB er rk th), .bool (bB er rk th)] ∧ L = [])) := by
 refine (hasG_c rq rk er aj nj cj lj th pv ep kd ai ni ci l sa ns sc ls bl tg aha nha cha xha ahb nhb chb xhb w htg).mono ?_
 rintro E W ⟨v, L, rfl, ⟨_, _, _, _, _, _, hv, _⟩, hw⟩
 exact ⟨v, [], rfl, ⟨hv, rfl⟩, hw.sub ZM ZM⟩
theorem rightRep_c (rq : UInt64) (rk er : Int) (aj : Option Addr) (nj cj : Nat) (lj : List ItemR) (th : Bool) (pv ep : UInt64) (kd : Int) (ai : Option Addr) (ni ci : Nat) (l : List UInt64) (sa : Option Addr) (ns sc : Nat) (ls : List SealR) (bl : UInt64) (tg : List UInt8) (aha : Option Addr) (nha cha : Nat) (xha : List UInt8) (ahb : Option Addr) (nhb chb : Nat) (xhb : List UInt8)  (w : World) (hlj : lj.length = nj) (hnj : nj ≤ 2000000) (hdj : nj ≤ cj) (hcj : cj ≤ maxLen) (hj : RdV w aj (lj.flatMap itemC)) (hl : l.length = ni) (hnm : ni ≤ 2000000) (hnc : ni ≤ ci) (hcm : ci ≤ maxLen) (hv : RdV w ai (cu64 l)) (hls : ls.length = ns) (hnn : ns ≤ 2000000) (hnd : ns ≤ sc) (hcn : sc ≤ maxLen) (hs : RdV w sa (ls.flatMap sealC)) (htg : tg.length = 16) (hlha : xha.length = nha * 32) (hnha : nha ≤ 9000) (hdha : nha ≤ cha) (hcha : cha ≤ maxLen) (hrha : RdB w [] aha xha) (hlhb : xhb.length = nhb * 32) (hnhb : nhb ≤ 9000) (hdhb : nhb ≤ chb) (hchb : chb ≤ maxLen) (hrhb : RdB w [] ahb xhb) (hbi : ni ≤ 300) (hbs : ns ≤ 300)  : Calls Tryd.prog 35 #[.agg (V0 rq (rk) (er) aj nj cj th pv ep (kd) ai ni ci sa ns sc bl tg aha nha cha ahb nhb chb).toArray] w (Post w [] (fun v L => v = .bool (repR rk er th lj (blankB pv ep kd l ls bl tg) (decide (mayN pv ep kd l ls bl = 0)) nha nhb) ∧ L = [])) := by
 have hmx : maxLen = 9223372036854775807 := rfl
 refine enter (P := Tryd.prog) (f := 35) (fn := Tryd.f35) w [] 113 [] [.agg (V0 rq (rk) (er) aj nj cj th pv ep (kd) ai ni ci sa ns sc bl tg aha nha cha ahb nhb chb).toArray] Tryd.func35 rfl rfl ZM (A2 ZM ZM ZM) ?_
 show JC _ _ _ [_] _
 refine A4 (AO (AF (B2 (.agg (V0 rq (rk) (er) aj nj cj th pv ep (kd) ai ni ci sa ns sc bl tg aha nha cha ahb nhb chb).toArray) (V0 rq (rk) (er) aj nj cj th pv ep (kd) ai ni ci sa ns sc bl tg aha nha cha ahb nhb chb) rfl (by first | rfl | simp)) rfl ?_))
 rintro v1 L1 ⟨nb1, hnb1, rfl, rfl⟩
 show JL _ _ _ _ (_ :: _) [_]
 refine Z2 6 ?_
 refine AC (AJ 95 _ (.tuple #[.bool (itB (er) (rk)), .bool (chB (er) (rk) th), .bool (aB (er) (rk) th), .bool (bB (er) (rk) th)]) (AH _ Tryd.call95 rfl) (fun w1 hw1 => parts_c rq (rk) (er) aj nj cj lj th pv ep (kd) ai ni ci l sa ns sc ls bl tg aha nha cha xha ahb nhb chb xhb w1 htg)) rfl ?_
 show JL _ _ _ _ (_ :: _) [_]
 refine Z2 19 ?_
 refine ED (ι := Unit) (fun _ => [(1, Ptr nb1 0), (2, .bool false), (3, .bool (itB (er) (rk))), (4, .bool (chB (er) (rk) th)), (5, .bool (aB (er) (rk) th)), (6, .bool (bB (er) (rk) th)), (7, .func (.func 99) #[] #[]), (15, .bool (!(c1B er rk)))]) (fun _ => [(Ez nb1 (V0 rq (rk) (er) aj nj cj th pv ep (kd) ai ni ci sa ns sc bl tg aha nha cha ahb nhb chb) 67)]) (fun _ => True) ?_ ?_
 ·
  refine Z2 5 ?_
  rcases Bool.eq_false_or_eq_true (decide ((rk) < (1:Int))) with hb1 | hb1
  ·
   have hp1 := of_decide_eq_true hb1
   refine Z2 15 ?_
   refine A1 (BU (()) trivial (Sub.cons rfl (Sub.cons rfl (Sub.cons rfl (Sub.cons rfl (Sub.cons rfl (Sub.cons rfl (Sub.cons rfl (Sub.cons (congrArg (fun b => some (Value.bool b)) (c1_no ZO : (true) = (!(c1B er rk)))) (Sub.nil))))))))) rfl)
  have hp1 := of_decide_eq_false hb1
  refine Z2 5 ?_
  rcases Bool.eq_false_or_eq_true (decide ((5:Int) < (rk))) with hb2 | hb2
  ·
   have hp2 := of_decide_eq_true hb2
   refine Z2 10 ?_
   refine A1 (BU (()) trivial (Sub.cons rfl (Sub.cons rfl (Sub.cons rfl (Sub.cons rfl (Sub.cons rfl (Sub.cons rfl (Sub.cons rfl (Sub.cons (congrArg (fun b => some (Value.bool b)) (c1_no ZO : (true) = (!(c1B er rk)))) (Sub.nil))))))))) rfl)
  have hp2 := of_decide_eq_false hb2
  refine Z2 5 ?_
  rcases Bool.eq_false_or_eq_true (decide ((er) < (0:Int))) with hb3 | hb3
  ·
   have hp3 := of_decide_eq_true hb3
   refine Z2 5 ?_
   refine A1 (BU (()) trivial (Sub.cons rfl (Sub.cons rfl (Sub.cons rfl (Sub.cons rfl (Sub.cons rfl (Sub.cons rfl (Sub.cons rfl (Sub.cons (congrArg (fun b => some (Value.bool b)) (c1_no ZO : (true) = (!(c1B er rk)))) (Sub.nil))))))))) rfl)
  have hp3 := of_decide_eq_false hb3
  refine Z2 5 ?_
  refine A1 (BU (()) trivial (Sub.cons rfl (Sub.cons rfl (Sub.cons rfl (Sub.cons rfl (Sub.cons rfl (Sub.cons rfl (Sub.cons rfl (Sub.cons (congrArg (fun b => some (Value.bool b)) (c1_last ZO : (decide ((14:Int) < (er))) = (!(c1B er rk)))) (Sub.nil))))))))) rfl)
 rintro _ hx
 obtain _ := hx
 show JQ _ _ _ [_, _, _, _, _, _, _, _] [_]
 refine AK (AX _ rfl (fun hb4 => ?_) (fun hb4 => ?_))
 ·
  have hb5 : (c1B er rk) = false := by simpa using hb4
  refine Z2 8 ?_
  refine A8 [false] ?_
  show JQ _ _ _ _ []
  refine Z1 fun w1 hw1 => ?_
  exact ⟨_, [], rfl, ⟨congrArg Value.bool (show _ = repR _ _ _ _ _ _ _ _ by unfold repR; rw [hb5]; rfl), rfl⟩, hw1.no⟩
 have hb6 : (c1B er rk) = true := by simpa using hb4
 refine A4 (A4 (ED (ι := Unit) (fun _ => [(1, Ptr nb1 0), (2, .bool false), (3, .bool (itB (er) (rk))), (4, .bool (chB (er) (rk) th)), (5, .bool (aB (er) (rk) th)), (6, .bool (bB (er) (rk) th)), (34, .bool ((itB er rk) && !(c2B true lj)))]) (fun _ => [(Ez nb1 (V0 rq (rk) (er) aj nj cj th pv ep (kd) ai ni ci sa ns sc bl tg aha nha cha ahb nhb chb) 67)]) (fun _ => True) ?_ ?_))
 ·
  refine Z2 3 ?_
  rcases Bool.eq_false_or_eq_true (itB (er) (rk)) with hb7 | hb7
  ·
   refine Z2 5 ?_
   rcases Bool.eq_false_or_eq_true (decide (((nj:Int)) < (1:Int))) with hb8 | hb8
   ·
    have hp8 := of_decide_eq_true hb8
    refine Z2 13 ?_
    refine A1 (BU (()) trivial (Sub.cons rfl (Sub.cons rfl (Sub.cons rfl (Sub.cons rfl (Sub.cons rfl (Sub.cons rfl (Sub.cons (congrArg (fun b => some (Value.bool b)) (by rw [hb7]; exact c2_no hlj ZO : (true) = ((itB er rk) && !(c2B true lj)))) (Sub.nil)))))))) rfl)
   have hp8 := of_decide_eq_false hb8
   refine Z2 6 ?_
   rcases Bool.eq_false_or_eq_true (decide ((256:Int) < ((nj:Int)))) with hb9 | hb9
   ·
    have hp9 := of_decide_eq_true hb9
    refine Z2 7 ?_
    refine A1 (BU (()) trivial (Sub.cons rfl (Sub.cons rfl (Sub.cons rfl (Sub.cons rfl (Sub.cons rfl (Sub.cons rfl (Sub.cons (congrArg (fun b => some (Value.bool b)) (by rw [hb7]; exact c2_no hlj ZO : (true) = ((itB er rk) && !(c2B true lj)))) (Sub.nil)))))))) rfl)
   have hp9 := of_decide_eq_false hb9
   refine Z2 3 ?_
   refine B6 12 47 false _ rfl rfl hb9 (AJ 101 _ (.bool (lj.any (fun x => !plainB x))) (AH _ Tryd.call101 rfl) (fun w1 hw1 => cfItem_c aj nj cj lj w1 hlj ZO ZO ZO (CF hw1 rfl hj))) rfl ?_
   rintro v1 L1 ⟨rfl, rfl⟩
   show JL _ _ _ _ (_ :: _) [_]
   refine Z2 3 ?_
   refine A1 (BU (()) trivial (Sub.cons rfl (Sub.cons rfl (Sub.cons rfl (Sub.cons rfl (Sub.cons rfl (Sub.cons rfl (Sub.cons (congrArg (fun b => some (Value.bool b)) (by rw [hb7]; exact c2_e hlj ZO : (lj.any (fun x => !plainB x)) = ((itB er rk) && !(c2B true lj)))) (Sub.nil)))))))) rfl)
  refine Z2 18 ?_
  refine A1 (BU (()) trivial (Sub.cons rfl (Sub.cons rfl (Sub.cons rfl (Sub.cons rfl (Sub.cons rfl (Sub.cons rfl (Sub.cons (congrArg (fun b => some (Value.bool b)) (by rw [hb7]; rfl : (false) = ((itB er rk) && !(c2B true lj)))) (Sub.nil)))))))) rfl)
 rintro _ hx
 obtain _ := hx
 show JQ _ _ _ [_, _, _, _, _, _, _] [_]
 refine AK (ED (ι := Unit) (fun _ => [(1, Ptr nb1 0), (2, .bool false), (4, .bool (chB (er) (rk) th)), (5, .bool (aB (er) (rk) th)), (6, .bool (bB (er) (rk) th)), (34, .bool (!(c2B (itB er rk) lj)))]) (fun _ => [(Ez nb1 (V0 rq (rk) (er) aj nj cj th pv ep (kd) ai ni ci sa ns sc bl tg aha nha cha ahb nhb chb) 67)]) (fun _ => True) ?_ ?_)
 ·
  refine AX _ rfl (fun hb10 => ?_) (fun hb10 => ?_)
  ·
   refine CY (BU (()) trivial (Sub.cons rfl (Sub.cons rfl (Sub.cons rfl (Sub.cons rfl (Sub.cons rfl (Sub.cons (congrArg (fun b => some (Value.bool b)) (by rw [c2_t hb10]; exact hb10 : ((itB er rk) && !(c2B true lj)) = (!(c2B (itB er rk) lj)))) (Sub.nil))))))) rfl)
  refine Z2 4 ?_
  rcases Bool.eq_false_or_eq_true (itB (er) (rk)) with hb11 | hb11
  ·
   refine Z2 6 ?_
   refine A1 (BU (()) trivial (Sub.cons rfl (Sub.cons rfl (Sub.cons rfl (Sub.cons rfl (Sub.cons rfl (Sub.cons (congrArg (fun b => some (Value.bool b)) (by rw [c2_f hb10 hb11]; rfl : (false) = (!(c2B (itB er rk) lj)))) (Sub.nil))))))) rfl)
  refine Z2 6 ?_
  refine A1 (BU (()) trivial (Sub.cons rfl (Sub.cons rfl (Sub.cons rfl (Sub.cons rfl (Sub.cons rfl (Sub.cons (congrArg (fun b => some (Value.bool b)) (by rw [hb11, c2_n hlj, ← decide_not]; exact decide_eq_decide.2 ZO : (decide ((0:Int) < ((nj:Int)))) = (!(c2B (itB er rk) lj)))) (Sub.nil))))))) rfl)
 rintro _ hx
 obtain _ := hx
 show JQ _ _ _ [_, _, _, _, _, _] [_]
 refine AK (AX _ rfl (fun hb12 => ?_) (fun hb12 => ?_))
 ·
  have hb13 : (c2B (itB er rk) lj) = false := by simpa using hb12
  refine Z2 8 ?_
  refine A8 [false] ?_
  show JQ _ _ _ _ []
  refine Z1 fun w1 hw1 => ?_
  exact ⟨_, [], rfl, ⟨congrArg Value.bool (show _ = repR _ _ _ _ _ _ _ _ by unfold repR; rw [hb6, hb13]; rfl), rfl⟩, hw1.no⟩
 have hb14 : (c2B (itB er rk) lj) = true := by simpa using hb12
 refine A4 (A4 (ED (ι := Unit) (fun _ => [(1, Ptr nb1 0), (2, .bool false), (4, .bool (chB (er) (rk) th)), (5, .bool (aB (er) (rk) th)), (6, .bool (bB (er) (rk) th)), (62, .bool ((chB er rk th) && !(decide (mayN pv ep kd l ls bl = 0))))]) (fun _ => [(Ez nb1 (V0 rq (rk) (er) aj nj cj th pv ep (kd) ai ni ci sa ns sc bl tg aha nha cha ahb nhb chb) 67)]) (fun _ => True) ?_ ?_))
 ·
  refine Z2 3 ?_
  rcases Bool.eq_false_or_eq_true (chB (er) (rk) th) with hb15 | hb15
  ·
   refine Z2 1 ?_
   refine AD 1 64 true _ _ rfl rfl hb15 (AR rfl (BV CQ BH (by simp [htg]) (A0 0 rfl (CB (p := [U64 rq, I64 (rk), I64 (er), SL aj nj cj, .bool th]) (q := [SL aha nha cha, SL ahb nhb chb]) (vs := (V2 pv ep (kd) ai ni ci sa ns sc bl tg)) (by first | rfl | (simp only [List.append_assoc, List.nil_append, List.append_nil, List.cons_append]; done)) rfl)))) rfl ?_
   refine B6 1 64 true _ rfl rfl hb15 (AJ 87 _ (.bool (decide (mayN pv ep (kd) l ls bl = 0))) (AH _ Tryd.call87 rfl) (fun w1 hw1 => wmay_w pv ep (kd) ai ni ci l sa ns sc ls bl tg w1 hl ZO ZO ZO (CF hw1 rfl hv) hls ZO ZO ZO (CF hw1 rfl hs) htg ZO ZO)) rfl ?_
   rintro v1 L1 ⟨rfl, rfl⟩
   show JL _ _ _ _ (_ :: _) [_]
   refine Z2 3 ?_
   refine A1 (BU (()) trivial (Sub.cons rfl (Sub.cons rfl (Sub.cons rfl (Sub.cons rfl (Sub.cons rfl (Sub.cons (congrArg (fun b => some (Value.bool b)) (by rw [hb15]; rfl : (!(decide (mayN pv ep (kd) l ls bl = 0))) = ((chB er rk th) && !(decide (mayN pv ep kd l ls bl = 0))))) (Sub.nil))))))) rfl)
  refine Z2 6 ?_
  refine A1 (BU (()) trivial (Sub.cons rfl (Sub.cons rfl (Sub.cons rfl (Sub.cons rfl (Sub.cons rfl (Sub.cons (congrArg (fun b => some (Value.bool b)) (by rw [hb15]; rfl : (false) = ((chB er rk th) && !(decide (mayN pv ep kd l ls bl = 0))))) (Sub.nil))))))) rfl)
 rintro _ hx
 obtain _ := hx
 show JQ _ _ _ [_, _, _, _, _, _] [_]
 refine AK (ED (ι := Unit) (fun _ => [(1, Ptr nb1 0), (2, .bool false), (5, .bool (aB (er) (rk) th)), (6, .bool (bB (er) (rk) th)), (62, .bool (!(c3B (chB er rk th) th (blankB pv ep kd l ls bl tg) (decide (mayN pv ep kd l ls bl = 0)))))]) (fun _ => [(Ez nb1 (V0 rq (rk) (er) aj nj cj th pv ep (kd) ai ni ci sa ns sc bl tg aha nha cha ahb nhb chb) 67)]) (fun _ => True) ?_ ?_)
 ·
  refine AX _ rfl (fun hb16 => ?_) (fun hb16 => ?_)
  ·
   refine CY (BU (()) trivial (Sub.cons rfl (Sub.cons rfl (Sub.cons rfl (Sub.cons rfl (Sub.cons (congrArg (fun b => some (Value.bool b)) (by rw [c3_t hb16]; exact hb16 : ((chB er rk th) && !(decide (mayN pv ep kd l ls bl = 0))) = (!(c3B (chB er rk th) th (blankB pv ep kd l ls bl tg) (decide (mayN pv ep kd l ls bl = 0)))))) (Sub.nil)))))) rfl)
  refine Z2 4 ?_
  rcases Bool.eq_false_or_eq_true (chB (er) (rk) th) with hb17 | hb17
  ·
   refine Z2 10 ?_
   refine A1 (BU (()) trivial (Sub.cons rfl (Sub.cons rfl (Sub.cons rfl (Sub.cons rfl (Sub.cons (congrArg (fun b => some (Value.bool b)) (by rw [c3_f hb16 hb17]; rfl : (false) = (!(c3B (chB er rk th) th (blankB pv ep kd l ls bl tg) (decide (mayN pv ep kd l ls bl = 0)))))) (Sub.nil)))))) rfl)
  refine Z2 3 ?_
  rcases Bool.eq_false_or_eq_true (th) with hb18 | hb18
  ·
   refine Z2 7 ?_
   refine A1 (BU (()) trivial (Sub.cons rfl (Sub.cons rfl (Sub.cons rfl (Sub.cons rfl (Sub.cons (congrArg (fun b => some (Value.bool b)) (by rw [hb17, c3_n, hb18]; rfl : (true) = (!(c3B (chB er rk th) th (blankB pv ep kd l ls bl tg) (decide (mayN pv ep kd l ls bl = 0)))))) (Sub.nil)))))) rfl)
  refine Z2 1 ?_
  refine AD 5 75 false _ _ rfl rfl hb18 (AR rfl (BV CQ BH (by simp [htg]) (A0 0 rfl (CB (p := [U64 rq, I64 (rk), I64 (er), SL aj nj cj, .bool th]) (q := [SL aha nha cha, SL ahb nhb chb]) (vs := (V2 pv ep (kd) ai ni ci sa ns sc bl tg)) (by first | rfl | (simp only [List.append_assoc, List.nil_append, List.append_nil, List.cons_append]; done)) rfl)))) rfl ?_
  refine B6 5 75 false _ rfl rfl hb18 (AJ 84 _ (.bool (blankB pv ep (kd) l ls bl tg)) (AH _ Tryd.call84 rfl) (fun w1 hw1 => blank_c pv ep (kd) ai ni ci l sa ns sc ls bl tg w1 hl ZO ZO ZO (CF hw1 rfl hv) hls ZO ZO ZO (CF hw1 rfl hs) htg)) rfl ?_
  rintro v1 L1 ⟨rfl, rfl⟩
  show JL _ _ _ _ (_ :: _) [_]
  refine Z2 4 ?_
  refine A1 (BU (()) trivial (Sub.cons rfl (Sub.cons rfl (Sub.cons rfl (Sub.cons rfl (Sub.cons (congrArg (fun b => some (Value.bool b)) (by rw [hb17, c3_n, hb18]; rfl : (!(blankB pv ep (kd) l ls bl tg)) = (!(c3B (chB er rk th) th (blankB pv ep kd l ls bl tg) (decide (mayN pv ep kd l ls bl = 0)))))) (Sub.nil)))))) rfl)
 rintro _ hx
 obtain _ := hx
 show JQ _ _ _ [_, _, _, _, _] [_]
 refine AK (AX _ rfl (fun hb19 => ?_) (fun hb19 => ?_))
 ·
  have hb20 : (c3B (chB er rk th) th (blankB pv ep kd l ls bl tg) (decide (mayN pv ep kd l ls bl = 0))) = false := by simpa using hb19
  refine Z2 8 ?_
  refine A8 [false] ?_
  show JQ _ _ _ _ []
  refine Z1 fun w1 hw1 => ?_
  exact ⟨_, [], rfl, ⟨congrArg Value.bool (show _ = repR _ _ _ _ _ _ _ _ by unfold repR; rw [hb6, hb14, hb20]; rfl), rfl⟩, hw1.no⟩
 have hb21 : (c3B (chB er rk th) th (blankB pv ep kd l ls bl tg) (decide (mayN pv ep kd l ls bl = 0))) = true := by simpa using hb19
 refine A4 (ED (ι := Unit) (fun _ => [(2, .bool false), (82, .bool (!(c4B (aB er rk th) (bB er rk th) nha nhb)))]) (fun _ => [(Ez nb1 (V0 rq (rk) (er) aj nj cj th pv ep (kd) ai ni ci sa ns sc bl tg aha nha cha ahb nhb chb) 67)]) (fun _ => True) ?_ ?_)
 ·
  refine Z2 2 ?_
  refine AE _ (AR rfl (B1 B9 (A0 0 rfl (Seg.right 27 0 (by simp [htg]) rfl (Seg.head))))) rfl ?_
  refine Z2 3 ?_
  rcases Bool.eq_false_or_eq_true (decide ((256:Int) < ((nha:Int)))) with hb22 | hb22
  ·
   have hp22 := of_decide_eq_true hb22
   refine Z2 27 ?_
   have fz0 : ¬ nha ≤ 256 := by omega
   refine BU (()) trivial (Sub.cons rfl (Sub.cons (congrArg (fun b => some (Value.bool b)) (by unfold c4B; simp [fz0] : (true) = (!(c4B (aB er rk th) (bB er rk th) nha nhb)))) (Sub.nil))) rfl
  have hp22 := of_decide_eq_false hb22
  refine Z2 1 ?_
  refine AD 4 87 false _ _ rfl rfl hb22 (AR rfl (B1 B9 (A0 0 rfl (Seg.right 27 1 (by simp [htg]) rfl (B0 (Seg.head)))))) rfl ?_
  refine Z2 4 ?_
  rcases Bool.eq_false_or_eq_true (decide ((8192:Int) < ((nhb:Int)))) with hb23 | hb23
  ·
   have hp23 := of_decide_eq_true hb23
   refine Z2 21 ?_
   have fz0 : nha ≤ 256 := by omega
   have fz1 : ¬ nhb ≤ 8192 := by omega
   refine BU (()) trivial (Sub.cons rfl (Sub.cons (congrArg (fun b => some (Value.bool b)) (by unfold c4B; simp [fz0, fz1] : (true) = (!(c4B (aB er rk th) (bB er rk th) nha nhb)))) (Sub.nil))) rfl
  have hp23 := of_decide_eq_false hb23
  refine Z2 3 ?_
  rcases Bool.eq_false_or_eq_true (aB (er) (rk) th) with hb24 | hb24
  ·
   refine Z2 10 ?_
   rcases Bool.eq_false_or_eq_true (bB (er) (rk) th) with hb25 | hb25
   ·
    refine Z2 8 ?_
    have fz0 : nha ≤ 256 := by omega
    have fz1 : nhb ≤ 8192 := by omega
    refine BU (()) trivial (Sub.cons rfl (Sub.cons (congrArg (fun b => some (Value.bool b)) (by unfold c4B; simp [fz0, fz1, hb24, hb25] : (false) = (!(c4B (aB er rk th) (bB er rk th) nha nhb)))) (Sub.nil))) rfl
   refine Z2 1 ?_
   refine AD 23 106 true _ _ rfl rfl (bnotF hb25) (AR rfl (B1 B9 (A0 0 rfl (Seg.right 27 1 (by simp [htg]) rfl (B0 (Seg.head)))))) rfl ?_
   refine Z2 6 ?_
   have fz0 : nha ≤ 256 := by omega
   have fz1 : nhb ≤ 8192 := by omega
   refine BU (()) trivial (Sub.cons rfl (Sub.cons (congrArg (fun b => some (Value.bool b)) (by rw [show (decide ((0:Int) < ((nhb:Int)))) = decide (¬ nhb = 0) from decide_eq_decide.2 ZO]; unfold c4B; simp [fz0, fz1, hb24, hb25] : (decide ((0:Int) < ((nhb:Int)))) = (!(c4B (aB er rk th) (bB er rk th) nha nhb)))) (Sub.nil))) rfl
  refine Z2 1 ?_
  refine AD 13 96 true _ _ rfl rfl (bnotF hb24) (AR rfl (B1 B9 (A0 0 rfl (Seg.right 27 0 (by simp [htg]) rfl (Seg.head))))) rfl ?_
  refine Z2 5 ?_
  rcases Bool.eq_false_or_eq_true (decide ((0:Int) < ((nha:Int)))) with hb26 | hb26
  ·
   have hp26 := of_decide_eq_true hb26
   refine Z2 11 ?_
   have fz0 : nha ≤ 256 := by omega
   have fz1 : nhb ≤ 8192 := by omega
   have fz2 : nha ≠ 0 := by omega
   refine BU (()) trivial (Sub.cons rfl (Sub.cons (congrArg (fun b => some (Value.bool b)) (by unfold c4B; simp [fz0, fz1, fz2, hb24] : (true) = (!(c4B (aB er rk th) (bB er rk th) nha nhb)))) (Sub.nil))) rfl
  have hp26 := of_decide_eq_false hb26
  refine Z2 3 ?_
  rcases Bool.eq_false_or_eq_true (bB (er) (rk) th) with hb27 | hb27
  ·
   refine Z2 8 ?_
   have fz0 : nha ≤ 256 := by omega
   have fz1 : nhb ≤ 8192 := by omega
   have fz2 : nha = 0 := by omega
   refine BU (()) trivial (Sub.cons rfl (Sub.cons (congrArg (fun b => some (Value.bool b)) (by unfold c4B; simp [fz0, fz1, fz2, hb24, hb27] : (false) = (!(c4B (aB er rk th) (bB er rk th) nha nhb)))) (Sub.nil))) rfl
  refine Z2 1 ?_
  refine AD 23 106 true _ _ rfl rfl (bnotF hb27) (AR rfl (B1 B9 (A0 0 rfl (Seg.right 27 1 (by simp [htg]) rfl (B0 (Seg.head)))))) rfl ?_
  refine Z2 6 ?_
  have fz0 : nha ≤ 256 := by omega
  have fz1 : nhb ≤ 8192 := by omega
  have fz2 : nha = 0 := by omega
  refine BU (()) trivial (Sub.cons rfl (Sub.cons (congrArg (fun b => some (Value.bool b)) (by rw [show (decide ((0:Int) < ((nhb:Int)))) = decide (¬ nhb = 0) from decide_eq_decide.2 ZO]; unfold c4B; simp [fz0, fz1, fz2, hb24, hb27] : (decide ((0:Int) < ((nhb:Int)))) = (!(c4B (aB er rk th) (bB er rk th) nha nhb)))) (Sub.nil))) rfl
 rintro _ hx
 obtain _ := hx
 show JQ _ _ _ [_, _] [_]
 refine AK (AX _ rfl (fun hb28 => ?_) (fun hb28 => ?_))
 ·
  have hb29 : (c4B (aB er rk th) (bB er rk th) nha nhb) = false := by simpa using hb28
  refine Z2 8 ?_
  refine A8 [false] ?_
  show JQ _ _ _ _ []
  refine Z1 fun w1 hw1 => ?_
  exact ⟨_, [], rfl, ⟨congrArg Value.bool (show _ = repR _ _ _ _ _ _ _ _ by unfold repR; rw [hb6, hb14, hb21, hb29]; rfl), rfl⟩, hw1.no⟩
 have hb30 : (c4B (aB er rk th) (bB er rk th) nha nhb) = true := by simpa using hb28
 refine Z2 9 ?_
 refine A8 [false] ?_
 show JQ _ _ _ _ []
 refine Z1 fun w1 hw1 => ?_
 exact ⟨_, [], rfl, ⟨congrArg Value.bool (show _ = repR _ _ _ _ _ _ _ _ by unfold repR; rw [hb6, hb14, hb21, hb30]; rfl), rfl⟩, hw1.no⟩
theorem rrightRep_c (rq : UInt64) (rk er : Int) (aj : Option Addr) (nj cj : Nat) (lj : List ItemR) (th : Bool) (pv ep : UInt64) (kd : Int) (ai : Option Addr) (ni ci : Nat) (l : List UInt64) (sa : Option Addr) (ns sc : Nat) (ls : List SealR) (bl : UInt64) (tg : List UInt8) (aha : Option Addr) (nha cha : Nat) (xha : List UInt8) (ahb : Option Addr) (nhb chb : Nat) (xhb : List UInt8)  (w : World) (hlj : lj.length = nj) (hnj : nj ≤ 2000000) (hdj : nj ≤ cj) (hcj : cj ≤ maxLen) (hj : RdV w aj (lj.flatMap itemC)) (hl : l.length = ni) (hnm : ni ≤ 2000000) (hnc : ni ≤ ci) (hcm : ci ≤ maxLen) (hv : RdV w ai (cu64 l)) (hls : ls.length = ns) (hnn : ns ≤ 2000000) (hnd : ns ≤ sc) (hcn : sc ≤ maxLen) (hs : RdV w sa (ls.flatMap sealC)) (htg : tg.length = 16) (hlha : xha.length = nha * 32) (hnha : nha ≤ 9000) (hdha : nha ≤ cha) (hcha : cha ≤ maxLen) (hrha : RdB w [] aha xha) (hlhb : xhb.length = nhb * 32) (hnhb : nhb ≤ 9000) (hdhb : nhb ≤ chb) (hchb : chb ≤ maxLen) (hrhb : RdB w [] ahb xhb) (hbi : ni ≤ 300) (hbs : ns ≤ 300)  : Calls Tryd.prog 33 #[.agg (V0 rq (rk) (er) aj nj cj th pv ep (kd) ai ni ci sa ns sc bl tg aha nha cha ahb nhb chb).toArray] w (Post w [] (fun v L => v = .bool (repR rk er th lj (blankB pv ep kd l ls bl tg) (decide (mayN pv ep kd l ls bl = 0)) nha nhb) ∧ L = [])) := by
 have hmx : maxLen = 9223372036854775807 := rfl
 refine enter (P := Tryd.prog) (f := 33) (fn := Tryd.f33) w [] 115 [] [.agg (V0 rq (rk) (er) aj nj cj th pv ep (kd) ai ni ci sa ns sc bl tg aha nha cha ahb nhb chb).toArray] Tryd.func33 rfl rfl ZM (A2 ZM ZM ZM) ?_
 show JC _ _ _ [_] _
 refine A4 (AO (AF (B2 (.agg (V0 rq (rk) (er) aj nj cj th pv ep (kd) ai ni ci sa ns sc bl tg aha nha cha ahb nhb chb).toArray) (V0 rq (rk) (er) aj nj cj th pv ep (kd) ai ni ci sa ns sc bl tg aha nha cha ahb nhb chb) rfl (by first | rfl | simp)) rfl ?_))
 rintro v1 L1 ⟨nb1, hnb1, rfl, rfl⟩
 show JL _ _ _ _ (_ :: _) [_]
 refine Z2 6 ?_
 refine AC (AJ 94 _ (.agg #[.bool (itB (er) (rk)), .bool (chB (er) (rk) th), .bool (aB (er) (rk) th), .bool (bB (er) (rk) th)]) (AH _ Tryd.call94 rfl) (fun w1 hw1 => has_c rq (rk) (er) aj nj cj lj th pv ep (kd) ai ni ci l sa ns sc ls bl tg aha nha cha xha ahb nhb chb xhb w1 htg)) rfl ?_
 show JL _ _ _ _ (_ :: _) [_]
 refine AF (AS _ ([.bool false, .bool false, .bool false, .bool false]) Tryd.zeroValue168 ZR) rfl ?_
 rintro v1 L1 ⟨nb2, hnb2, rfl, rfl⟩
 show JL _ _ _ _ (_ :: _) [_, _]
 refine Z2 5 ?_
 refine ED (ι := Unit) (fun _ => [(1, Ptr nb1 0), (2, .bool false), (3, Ptr nb2 0), (24, .bool (!(c1B er rk)))]) (fun _ => [(Ez nb1 (V0 rq (rk) (er) aj nj cj th pv ep (kd) ai ni ci sa ns sc bl tg aha nha cha ahb nhb chb) 71), (Ez nb2 [.bool (itB (er) (rk)), .bool (chB (er) (rk) th), .bool (aB (er) (rk) th), .bool (bB (er) (rk) th)] 168)]) (fun _ => True) ?_ ?_
 ·
  refine Z2 5 ?_
  rcases Bool.eq_false_or_eq_true (decide ((rk) < (1:Int))) with hb1 | hb1
  ·
   have hp1 := of_decide_eq_true hb1
   refine Z2 14 ?_
   refine A1 (BU (()) trivial (Sub.cons rfl (Sub.cons rfl (Sub.cons rfl (Sub.cons (congrArg (fun b => some (Value.bool b)) (c1_no ZO : (true) = (!(c1B er rk)))) (Sub.nil))))) rfl)
  have hp1 := of_decide_eq_false hb1
  refine Z2 5 ?_
  rcases Bool.eq_false_or_eq_true (decide ((5:Int) < (rk))) with hb2 | hb2
  ·
   have hp2 := of_decide_eq_true hb2
   refine Z2 9 ?_
   refine A1 (BU (()) trivial (Sub.cons rfl (Sub.cons rfl (Sub.cons rfl (Sub.cons (congrArg (fun b => some (Value.bool b)) (c1_no ZO : (true) = (!(c1B er rk)))) (Sub.nil))))) rfl)
  have hp2 := of_decide_eq_false hb2
  refine Z2 5 ?_
  rcases Bool.eq_false_or_eq_true (decide ((er) < (0:Int))) with hb3 | hb3
  ·
   have hp3 := of_decide_eq_true hb3
   refine Z2 4 ?_
   refine A1 (BU (()) trivial (Sub.cons rfl (Sub.cons rfl (Sub.cons rfl (Sub.cons (congrArg (fun b => some (Value.bool b)) (c1_no ZO : (true) = (!(c1B er rk)))) (Sub.nil))))) rfl)
  have hp3 := of_decide_eq_false hb3
  refine Z2 4 ?_
  refine A1 (BU (()) trivial (Sub.cons rfl (Sub.cons rfl (Sub.cons rfl (Sub.cons (congrArg (fun b => some (Value.bool b)) (c1_last ZO : (decide ((14:Int) < (er))) = (!(c1B er rk)))) (Sub.nil))))) rfl)
 rintro _ hx
 obtain _ := hx
 show JQ _ _ _ [_, _, _, _] [_, _]
 refine AK (AX _ rfl (fun hb4 => ?_) (fun hb4 => ?_))
 ·
  have hb5 : (c1B er rk) = false := by simpa using hb4
  refine Z2 7 ?_
  refine A8 [false, false] ?_
  show JQ _ _ _ _ []
  refine Z1 fun w1 hw1 => ?_
  exact ⟨_, [], rfl, ⟨congrArg Value.bool (show _ = repR _ _ _ _ _ _ _ _ by unfold repR; rw [hb5]; rfl), rfl⟩, hw1.no⟩
 have hb6 : (c1B er rk) = true := by simpa using hb4
 refine Z2 4 ?_
 refine ED (ι := Unit) (fun _ => [(1, Ptr nb1 0), (2, .bool false), (3, Ptr nb2 0), (37, .bool (c2x (itB er rk) nj))]) (fun _ => [(Ez nb1 (V0 rq (rk) (er) aj nj cj th pv ep (kd) ai ni ci sa ns sc bl tg aha nha cha ahb nhb chb) 71), (Ez nb2 [.bool (itB (er) (rk)), .bool (chB (er) (rk) th), .bool (aB (er) (rk) th), .bool (bB (er) (rk) th)] 168)]) (fun _ => True) ?_ ?_
 ·
  refine AO (AE (Ptr nb2 0) (FA 4 4 1 0 DC DU rfl rfl ZO ZO ZO) rfl ?_)
  refine Z2 5 ?_
  refine AE (.bool (!((itB (er) (rk)) == (decide ((0:Int) < ((nj:Int))))))) (CG _ _ _ rfl rfl (fun _ => eqGuard_bool ..) fun _ => neq_bool Tryd.underlying4) rfl ?_
  refine Z2 1 ?_
  rcases Bool.eq_false_or_eq_true ((itB (er) (rk)) == (decide ((0:Int) < ((nj:Int))))) with hb7 | hb7
  ·
   refine Z2 5 ?_
   refine A1 (BU (()) trivial (Sub.cons rfl (Sub.cons rfl (Sub.cons rfl (Sub.cons (congrArg (fun b => some (Value.bool b)) (by unfold c2x; rw [hb7]; rfl : (decide ((256:Int) < ((nj:Int)))) = (c2x (itB er rk) nj))) (Sub.nil))))) rfl)
  refine Z2 5 ?_
  refine A1 (BU (()) trivial (Sub.cons rfl (Sub.cons rfl (Sub.cons rfl (Sub.cons (congrArg (fun b => some (Value.bool b)) (by unfold c2x; rw [hb7]; rfl : (true) = (c2x (itB er rk) nj))) (Sub.nil))))) rfl)
 rintro _ hx
 obtain _ := hx
 show JQ _ _ _ [_, _, _, _] [_, _]
 refine AK (AX _ rfl (fun hb8 => ?_) (fun hb8 => ?_))
 ·
  refine Z2 7 ?_
  refine A8 [false, false] ?_
  show JQ _ _ _ _ []
  refine Z1 fun w1 hw1 => ?_
  exact ⟨_, [], rfl, ⟨congrArg Value.bool (show _ = repR _ _ _ _ _ _ _ _ by unfold repR; rw [hb6, c2x_t hlj hb8]; rfl), rfl⟩, hw1.no⟩
 refine Z2 9 ?_
 refine C3 (ι := Nat) (fun i => [(1, Ptr nb1 0), (3, Ptr nb2 0), (4, I64 i)]) (fun i => [(Ez nb1 (V0 rq (rk) (er) aj nj cj th pv ep (kd) ai ni ci sa ns sc bl tg aha nha cha ahb nhb chb) 71), (Ez nb2 [.bool (itB (er) (rk)), .bool (chB (er) (rk) th), .bool (aB (er) (rk) th), .bool (bB (er) (rk) th)] 168)]) (fun i => i ≤ nj ∧ ∀ k, k < i → ∀ y, lj[k]? = some y → (fun x => !plainB x) y = false) (fun i => nj - i) 0 ⟨ZO, fun k hk => absurd hk ZO⟩ (Sub.all rfl) rfl ?_
 rintro i ⟨hi1, hi2⟩
 show JC _ _ _ [_, _, _] [_, _]
 refine Z2 10 ?_
 refine AX _ rfl (fun hb9 => ?_) (fun hb9 => ?_)
 ·
  have hp9 := of_decide_eq_true hb9
  refine Z2 5 ?_
  obtain ⟨x1, hx1⟩ : ∃ x, lj[i]? = some x := ⟨_, List.getElem?_eq_getElem (by rw [hlj]; omega)⟩
  obtain ⟨bz1, oz1, hz1, hm1⟩ := EJ FG ZD hj hx1
  rw [itemC_eq] at hm1
  refine Z2 4 ?_
  refine AE (Ptr bz1 (50*i + oz1)) (BK 167 50 (50*i + oz1) B7 C6 rfl hz1 rfl ZO ZO ZO) rfl ?_
  refine Z2 1 ?_
  refine AE _ (AR rfl (B1 Tryd.isAgg4 (BP (hm1.mem ZM) (AU (AU (Seg.head))) (by first | omega | (simp; done) | (simp; omega))))) rfl ?_
  refine Z2 2 ?_
  rcases Bool.eq_false_or_eq_true (x1.b) with hb10 | hb10
  ·
   refine Z2 11 ?_
   refine AY _ rfl rfl ?_
   refine Z2 5 ?_
   refine AE (I64 ((i:Int) + 1)) (AT rfl rfl fun _ => BR _ _ ((i:Int) + 1) ZO ZO) rfl ?_
   refine Z2 1 ?_
   refine A1 (B5 (C1 (i + 1) ⟨ZO, find_step hx1 (plain_b hb10) hi2⟩ (by first | (simp; omega) | simp | (dsimp only; omega) | omega) (Sub.all rfl) rfl))
  refine Z2 3 ?_
  refine AD 7 52 true _ (Ptr bz1 (50*i + oz1)) rfl rfl (bnotF hb10) (BK 167 50 (50*i + oz1) B7 C6 rfl hz1 rfl ZO ZO ZO) rfl ?_
  refine Z2 1 ?_
  refine AD 7 52 true _ (.agg ([U64 x1.s.e] ++ cu8 x1.s.d ++ cu8 x1.s.t).toArray) rfl rfl (bnotF hb10) (AR rfl (BV Tryd.isAgg164 BW (by simp [x1.s.hd, x1.s.ht]) (BP (hm1.mem ZM) (CB (p := [.bool x1.b]) (q := []) (vs := [U64 x1.s.e] ++ cu8 x1.s.d ++ cu8 x1.s.t) (by first | rfl | (simp only [List.append_assoc, List.nil_append, List.append_nil, List.cons_append]; done)) rfl) (by first | omega | (simp; done) | (simp; omega))))) rfl ?_
  refine AD 7 52 true _ (.agg ([U64 0] ++ cu8 (zr8 32) ++ cu8 (zr8 16)).toArray) rfl rfl (bnotF hb10) Ze rfl ?_
  refine AD 7 52 true _ (.bool (!(decide (x1.s.e = (0:UInt64) ∧ x1.s.d = (zr8 32) ∧ x1.s.t = (zr8 16))))) rfl rfl (bnotF hb10) (CG _ _ _ rfl rfl (fun _ => EG _ _ _ _ _ _ ZR) (neq_struct (x1.s.e = (0:UInt64) ∧ x1.s.d = (zr8 32) ∧ x1.s.t = (zr8 16)) (EqV.struct (d := 9999) ZR ZR ZR (EqRs.cons 22 0 (U64 x1.s.e) (U64 0) _ _ _ (PartV.one BD (AU (AU (Seg.head)))) (PartV.one BD (AU (AU (Seg.head)))) (EqV.u64 (d := 9998) BQ x1.s.e (0:UInt64)) (EqRs.cons 159 1 (.agg (cu8 x1.s.d).toArray) (.agg (cu8 (zr8 32)).toArray) _ _ _ (PartV.agg D3 DW (EC (AU (Seg.right 1 0 rfl rfl (AG _))) (CI x1.s.hd) ZO)) (PartV.agg D3 DW (EC (AU (Seg.right 1 0 rfl rfl (AG _))) (CI (AN 32)) ZO)) (EqV.arr8 (d := 9997) CJ BS CM DT D9 (by simp [x1.s.hd]) ZS) (EqRs.last 27 33 (.agg (cu8 x1.s.t).toArray) (.agg (cu8 (zr8 16)).toArray) _ (PartV.agg CU CO (EC (Seg.right 33 0 (by simp [x1.s.hd]) rfl (AG _)) (CI x1.s.ht) ZO)) (PartV.agg CU CO (EC (Seg.right 33 0 ZS rfl (AG _)) (CI (AN 16)) ZO)) (EqV.arr8 (d := 9997) AZ BS CM DT D9 (by simp [x1.s.ht]) ZS))))) (by first | rfl | (simp only [Bool.decide_and, Bool.and_assoc]; done) | (simp only [Bool.beq_eq_decide_eq, Bool.decide_and, Bool.and_assoc]; done) | (simp [Bool.and_assoc]; done)))) rfl ?_
  refine Z2 3 ?_
  refine AX _ rfl (fun hb11 => ?_) (fun hb11 => ?_)
  ·
   have hb12 : (decide (x1.s.e = (0:UInt64) ∧ x1.s.d = (zr8 32) ∧ x1.s.t = (zr8 16))) = false := by first | simpa using hb11 | exact Eq.mp (Bool.not_eq_true' _) hb11
   have hp12 := of_decide_eq_false hb12
   refine Z2 11 ?_
   refine A8 [false, false] ?_
   show JQ _ _ _ _ []
   refine Z1 fun w1 hw1 => ?_
   exact ⟨_, [], rfl, ⟨congrArg Value.bool (show _ = repR _ _ _ _ _ _ _ _ by unfold repR; rw [hb6, c2_any hlj (c2x_f hb8).1 ZO (any_odd hx1 (plain_n hb10 hb12))]; rfl), rfl⟩, hw1.no⟩
  have hb13 : (decide (x1.s.e = (0:UInt64) ∧ x1.s.d = (zr8 32) ∧ x1.s.t = (zr8 16))) = true := by first | simpa using hb11 | exact Eq.mp (Bool.not_eq_false' _) hb11
  have hp13 := of_decide_eq_true hb13
  refine Z2 5 ?_
  refine AE (I64 ((i:Int) + 1)) (AT rfl rfl fun _ => BR _ _ ((i:Int) + 1) ZO ZO) rfl ?_
  refine Z2 1 ?_
  refine A1 (B5 (C1 (i + 1) ⟨ZO, find_step hx1 (plain_s hb13) hi2⟩ (by first | (simp; omega) | simp | (dsimp only; omega) | omega) (Sub.all rfl) rfl))
 have hp9 := of_decide_eq_false hb9
 refine Z2 7 ?_
 refine ED (ι := Unit) (fun _ => [(1, Ptr nb1 0), (3, Ptr nb2 0), (84, .bool (!(c3B (chB er rk th) th (blankB pv ep kd l ls bl tg) (decide (mayN pv ep kd l ls bl = 0)))))]) (fun _ => [(Ez nb1 (V0 rq (rk) (er) aj nj cj th pv ep (kd) ai ni ci sa ns sc bl tg aha nha cha ahb nhb chb) 71), (Ez nb2 [.bool (itB (er) (rk)), .bool (chB (er) (rk) th), .bool (aB (er) (rk) th), .bool (bB (er) (rk) th)] 168)]) (fun _ => True) ?_ ?_
 ·
  refine AO (AE (Ptr nb2 1) (FA 4 4 1 1 DC DU rfl rfl ZO ZO ZO) rfl ?_)
  refine Z2 2 ?_
  rcases Bool.eq_false_or_eq_true (chB (er) (rk) th) with hb14 | hb14
  ·
   refine Z2 1 ?_
   refine AD 2 64 true _ _ rfl rfl hb14 (AR rfl (BV Tryd.isAgg38 B8 (by simp [htg]) (A0 0 rfl (CB (p := [U64 rq, I64 (rk), I64 (er), SL aj nj cj, .bool th]) (q := [SL aha nha cha, SL ahb nhb chb]) (vs := (V2 pv ep (kd) ai ni ci sa ns sc bl tg)) (by first | rfl | (simp only [List.append_assoc, List.nil_append, List.append_nil, List.cons_append]; done)) rfl)))) rfl ?_
   refine B6 2 64 true _ rfl rfl hb14 (AJ 45 _ (I64 (((mayN pv ep (kd) l ls bl):Int))) (AH _ Tryd.call45 rfl) (fun w1 hw1 => rmay13_c pv ep (kd) ai ni ci l sa ns sc ls bl tg w1 hl ZO ZO ZO (CF hw1 rfl hv) hls ZO ZO ZO (CF hw1 rfl hs) htg)) rfl ?_
   rintro v1 L1 ⟨rfl, rfl⟩
   show JL _ _ _ _ (_ :: _) [_, _]
   refine Z2 3 ?_
   rcases Bool.eq_false_or_eq_true (decide ((((mayN pv ep (kd) l ls bl):Int)) ≠ (0:Int))) with hb15 | hb15
   ·
    have hp15 := of_decide_eq_true hb15
    refine Z2 14 ?_
    refine A1 (BU (()) trivial (Sub.cons rfl (Sub.cons rfl (Sub.cons (congrArg (fun b => some (Value.bool b)) (by rw [hb14]; unfold c3B; rw [if_pos rfl, decide_eq_false (by have h9 := of_decide_eq_true hb15; omega)]; rfl : (true) = (!(c3B (chB er rk th) th (blankB pv ep kd l ls bl tg) (decide (mayN pv ep kd l ls bl = 0)))))) (Sub.nil)))) rfl)
   have hp15 := of_decide_eq_false hb15
   refine AD 8 70 false _ (Ptr nb2 1) rfl rfl hb15 (FA 4 4 1 1 DC DU rfl rfl ZO ZO ZO) rfl ?_
   refine Z2 13 ?_
   refine A1 (BU (()) trivial (Sub.cons rfl (Sub.cons rfl (Sub.cons (congrArg (fun b => some (Value.bool b)) (by rw [hb14]; unfold c3B; rw [if_pos rfl, decide_eq_true (by have h9 := of_decide_eq_false hb15; omega)]; rfl : (false) = (!(c3B (chB er rk th) th (blankB pv ep kd l ls bl tg) (decide (mayN pv ep kd l ls bl = 0)))))) (Sub.nil)))) rfl)
  refine Z2 6 ?_
  refine AD 8 70 false _ (Ptr nb2 1) rfl rfl rfl (FA 4 4 1 1 DC DU rfl rfl ZO ZO ZO) rfl ?_
  refine Z2 6 ?_
  rcases Bool.eq_false_or_eq_true (th) with hb16 | hb16
  ·
   refine Z2 7 ?_
   refine A1 (BU (()) trivial (Sub.cons rfl (Sub.cons rfl (Sub.cons (congrArg (fun b => some (Value.bool b)) (by rw [hb14, c3_n, hb16]; rfl : (true) = (!(c3B (chB er rk th) th (blankB pv ep kd l ls bl tg) (decide (mayN pv ep kd l ls bl = 0)))))) (Sub.nil)))) rfl)
  refine Z2 1 ?_
  refine AD 15 77 false _ _ rfl rfl hb16 (AR rfl (BV Tryd.isAgg38 B8 (by simp [htg]) (A0 0 rfl (CB (p := [U64 rq, I64 (rk), I64 (er), SL aj nj cj, .bool th]) (q := [SL aha nha cha, SL ahb nhb chb]) (vs := (V2 pv ep (kd) ai ni ci sa ns sc bl tg)) (by first | rfl | (simp only [List.append_assoc, List.nil_append, List.append_nil, List.cons_append]; done)) rfl)))) rfl ?_
  refine B6 15 77 false _ rfl rfl hb16 (AJ 78 _ (.bool (blankB pv ep (kd) l ls bl tg)) (AH _ Tryd.call78 rfl) (fun w1 hw1 => rblank_c pv ep (kd) ai ni ci l sa ns sc ls bl tg w1 hl ZO ZO ZO (CF hw1 rfl hv) hls ZO ZO ZO (CF hw1 rfl hs) htg)) rfl ?_
  rintro v1 L1 ⟨rfl, rfl⟩
  show JL _ _ _ _ (_ :: _) [_, _]
  refine Z2 4 ?_
  refine A1 (BU (()) trivial (Sub.cons rfl (Sub.cons rfl (Sub.cons (congrArg (fun b => some (Value.bool b)) (by rw [hb14, c3_n, hb16]; rfl : (!(blankB pv ep (kd) l ls bl tg)) = (!(c3B (chB er rk th) th (blankB pv ep kd l ls bl tg) (decide (mayN pv ep kd l ls bl = 0)))))) (Sub.nil)))) rfl)
 rintro _ hx
 obtain _ := hx
 show JQ _ _ _ [_, _, _] [_, _]
 refine AK (AX _ rfl (fun hb17 => ?_) (fun hb17 => ?_))
 ·
  have hb18 : (c3B (chB er rk th) th (blankB pv ep kd l ls bl tg) (decide (mayN pv ep kd l ls bl = 0))) = false := by simpa using hb17
  refine Z2 7 ?_
  refine A8 [false, false] ?_
  show JQ _ _ _ _ []
  refine Z1 fun w1 hw1 => ?_
  exact ⟨_, [], rfl, ⟨congrArg Value.bool (show _ = repR _ _ _ _ _ _ _ _ by unfold repR; rw [hb6, c2_same hlj (c2x_f hb8).1 (c2x_f hb8).2 (any_no (by rw [hlj]; intro k hk; exact hi2 k ZO)), hb18]; rfl), rfl⟩, hw1.no⟩
 have hb19 : (c3B (chB er rk th) th (blankB pv ep kd l ls bl tg) (decide (mayN pv ep kd l ls bl = 0))) = true := by simpa using hb17
 refine CY (AK (A4 (ED (ι := Unit) (fun _ => [(2, .bool (c4B (aB er rk th) (bB er rk th) nha nhb))]) (fun _ => [(Ez nb1 (V0 rq (rk) (er) aj nj cj th pv ep (kd) ai ni ci sa ns sc bl tg aha nha cha ahb nhb chb) 71), (Ez nb2 [.bool (itB (er) (rk)), .bool (chB (er) (rk) th), .bool (aB (er) (rk) th), .bool (bB (er) (rk) th)] 168)]) (fun _ => True) ?_ ?_)))
 ·
  refine Z2 2 ?_
  refine AE _ (AR rfl (B1 B9 (A0 0 rfl (Seg.right 27 0 (by simp [htg]) rfl (Seg.head))))) rfl ?_
  refine Z2 3 ?_
  rcases Bool.eq_false_or_eq_true (decide (((nha:Int)) ≤ (256:Int))) with hb20 | hb20
  ·
   have hp20 := of_decide_eq_true hb20
   refine Z2 1 ?_
   refine AD 4 89 true _ _ rfl rfl hb20 (AR rfl (B1 B9 (A0 0 rfl (Seg.right 27 1 (by simp [htg]) rfl (B0 (Seg.head)))))) rfl ?_
   refine Z2 4 ?_
   rcases Bool.eq_false_or_eq_true (decide (((nhb:Int)) ≤ (8192:Int))) with hb21 | hb21
   ·
    have hp21 := of_decide_eq_true hb21
    refine AD 10 95 true _ (Ptr nb2 2) rfl rfl hb21 (FA 4 4 1 2 DC DU rfl rfl ZO ZO ZO) rfl ?_
    refine Z2 2 ?_
    rcases Bool.eq_false_or_eq_true (aB (er) (rk) th) with hb22 | hb22
    ·
     refine Z2 7 ?_
     refine AD 20 105 true _ (Ptr nb2 3) rfl rfl rfl (FA 4 4 1 3 DC DU rfl rfl ZO ZO ZO) rfl ?_
     refine Z2 2 ?_
     rcases Bool.eq_false_or_eq_true (bB (er) (rk) th) with hb23 | hb23
     ·
      refine Z2 8 ?_
      have fz0 : nha ≤ 256 := by omega
      have fz1 : nhb ≤ 8192 := by omega
      refine BU (()) trivial (Sub.cons (congrArg (fun b => some (Value.bool b)) (by unfold c4B; simp [fz0, fz1, hb22, hb23] : (true) = (c4B (aB er rk th) (bB er rk th) nha nhb))) (Sub.nil)) rfl
     refine Z2 1 ?_
     refine AD 23 108 false _ _ rfl rfl hb23 (AR rfl (B1 B9 (A0 0 rfl (Seg.right 27 1 (by simp [htg]) rfl (B0 (Seg.head)))))) rfl ?_
     refine Z2 6 ?_
     have fz0 : nha ≤ 256 := by omega
     have fz1 : nhb ≤ 8192 := by omega
     refine BU (()) trivial (Sub.cons (congrArg (fun b => some (Value.bool b)) (by rw [show (decide (((nhb:Int)) = (0:Int))) = decide (nhb = 0) from decide_eq_decide.2 ZO]; unfold c4B; simp [fz0, fz1, hb22, hb23] : (decide (((nhb:Int)) = (0:Int))) = (c4B (aB er rk th) (bB er rk th) nha nhb))) (Sub.nil)) rfl
    refine Z2 1 ?_
    refine AD 13 98 false _ _ rfl rfl hb22 (AR rfl (B1 B9 (A0 0 rfl (Seg.right 27 0 (by simp [htg]) rfl (Seg.head))))) rfl ?_
    refine Z2 5 ?_
    rcases Bool.eq_false_or_eq_true (decide (((nha:Int)) = (0:Int))) with hb24 | hb24
    ·
     have hp24 := of_decide_eq_true hb24
     refine AD 20 105 true _ (Ptr nb2 3) rfl rfl hb24 (FA 4 4 1 3 DC DU rfl rfl ZO ZO ZO) rfl ?_
     refine Z2 2 ?_
     rcases Bool.eq_false_or_eq_true (bB (er) (rk) th) with hb25 | hb25
     ·
      refine Z2 8 ?_
      have fz0 : nha = 0 := by omega
      have fz1 : nha ≤ 256 := by omega
      have fz2 : nhb ≤ 8192 := by omega
      refine BU (()) trivial (Sub.cons (congrArg (fun b => some (Value.bool b)) (by unfold c4B; simp [fz0, fz1, fz2, hb22, hb25] : (true) = (c4B (aB er rk th) (bB er rk th) nha nhb))) (Sub.nil)) rfl
     refine Z2 1 ?_
     refine AD 23 108 false _ _ rfl rfl hb25 (AR rfl (B1 B9 (A0 0 rfl (Seg.right 27 1 (by simp [htg]) rfl (B0 (Seg.head)))))) rfl ?_
     refine Z2 6 ?_
     have fz0 : nha = 0 := by omega
     have fz1 : nha ≤ 256 := by omega
     have fz2 : nhb ≤ 8192 := by omega
     refine BU (()) trivial (Sub.cons (congrArg (fun b => some (Value.bool b)) (by rw [show (decide (((nhb:Int)) = (0:Int))) = decide (nhb = 0) from decide_eq_decide.2 ZO]; unfold c4B; simp [fz0, fz1, fz2, hb22, hb25] : (decide (((nhb:Int)) = (0:Int))) = (c4B (aB er rk th) (bB er rk th) nha nhb))) (Sub.nil)) rfl
    have hp24 := of_decide_eq_false hb24
    refine Z2 11 ?_
    have fz0 : nha ≠ 0 := by omega
    have fz1 : nha ≤ 256 := by omega
    have fz2 : nhb ≤ 8192 := by omega
    refine BU (()) trivial (Sub.cons (congrArg (fun b => some (Value.bool b)) (by unfold c4B; simp [fz0, fz1, fz2, hb22] : (false) = (c4B (aB er rk th) (bB er rk th) nha nhb))) (Sub.nil)) rfl
   have hp21 := of_decide_eq_false hb21
   refine Z2 21 ?_
   have fz0 : nha ≤ 256 := by omega
   have fz1 : ¬ nhb ≤ 8192 := by omega
   refine BU (()) trivial (Sub.cons (congrArg (fun b => some (Value.bool b)) (by unfold c4B; simp [fz0, fz1] : (false) = (c4B (aB er rk th) (bB er rk th) nha nhb))) (Sub.nil)) rfl
  have hp20 := of_decide_eq_false hb20
  refine Z2 27 ?_
  have fz0 : ¬ nha ≤ 256 := by omega
  refine BU (()) trivial (Sub.cons (congrArg (fun b => some (Value.bool b)) (by unfold c4B; simp [fz0] : (false) = (c4B (aB er rk th) (bB er rk th) nha nhb))) (Sub.nil)) rfl
 rintro _ hx
 obtain _ := hx
 show JQ _ _ _ [_] [_, _]
 refine AK (CH (A8 [false, false] ?_))
 show JQ _ _ _ _ []
 refine Z1 fun w1 hw1 => ?_
 exact ⟨_, [], rfl, ⟨congrArg Value.bool (show _ = repR _ _ _ _ _ _ _ _ by unfold repR; rw [hb6, c2_same hlj (c2x_f hb8).1 (c2x_f hb8).2 (any_no (by rw [hlj]; intro k hk; exact hi2 k ZO)), hb19]; rfl), rfl⟩, hw1.no⟩
attribute [local irreducible] repT LargeQ
theorem bld71_0124567 {w : World} {v0 : Value} {v1 : Value} {v2 : Value} {v4 : Value} {c5 : List Value} {v6 : Value} {v7 : Value} (h0 : v0.cells = [v0].toArray) (h1 : v1.cells = [v1].toArray) (h2 : v2.cells = [v2].toArray) (h4 : v4.cells = [v4].toArray) (h5 : c5.length = 22) (h6 : v6.cells = [v6].toArray) (h7 : v7.cells = [v7].toArray) : (Instr.build 71 ([(0, v0), (1, v1), (2, v2), (4, v4), (5, .agg c5.toArray), (6, v6), (7, v7)] : List (Nat × Value)).toArray).run Tryd.prog w = .ok (.agg (((((((([v0] : List Value) ++ ([v1] : List Value)) ++ ([v2] : List Value)) ++ ([.slice none 0 0] : List Value)) ++ ([v4] : List Value)) ++ c5) ++ ([v6] : List Value)) ++ ([v7] : List Value)).toArray) w :=
 C8 (places := #[(0, 1), (1, 1), (2, 1), (3, 1), (4, 1), (5, 22), (27, 1), (28, 1)]) (Z := (([U64 0] : List Value) ++ (([I64 0] : List Value) ++ (([I64 0] : List Value) ++ (([.slice none 0 0] : List Value) ++ (([.bool false] : List Value) ++ (([U64 0, U64 0, I64 0, .slice none 0 0, .slice none 0 0, U64 0] ++ cu8 (zr8 16) : List Value) ++ (([.slice none 0 0] : List Value) ++ (([.slice none 0 0] : List Value) ++ []))))))))) (fun _ => by kernel_rfl) Tryd.underlying71 (fun _ => by kernel_rfl) ((EI ([U64 0] : List Value) (([I64 0] : List Value) ++ (([I64 0] : List Value) ++ (([.slice none 0 0] : List Value) ++ (([.bool false] : List Value) ++ (([U64 0, U64 0, I64 0, .slice none 0 0, .slice none 0 0, U64 0] ++ cu8 (zr8 16) : List Value) ++ (([.slice none 0 0] : List Value) ++ (([.slice none 0 0] : List Value) ++ []))))))) ([v0] : List Value) h0 (by simp [AN]) rfl).trans ((DL ([v0] : List Value) ([I64 0] : List Value) (([I64 0] : List Value) ++ (([.slice none 0 0] : List Value) ++ (([.bool false] : List Value) ++ (([U64 0, U64 0, I64 0, .slice none 0 0, .slice none 0 0, U64 0] ++ cu8 (zr8 16) : List Value) ++ (([.slice none 0 0] : List Value) ++ (([.slice none 0 0] : List Value) ++ [])))))) ([v1] : List Value) h1 (by simp [AN]) rfl).trans ((DL (([v0] : List Value) ++ ([v1] : List Value)) ([I64 0] : List Value) (([.slice none 0 0] : List Value) ++ (([.bool false] : List Value) ++ (([U64 0, U64 0, I64 0, .slice none 0 0, .slice none 0 0, U64 0] ++ cu8 (zr8 16) : List Value) ++ (([.slice none 0 0] : List Value) ++ (([.slice none 0 0] : List Value) ++ []))))) ([v2] : List Value) h2 (by simp [AN]) rfl).trans ((D0 ((([v0] : List Value) ++ ([v1] : List Value)) ++ ([v2] : List Value)) ([.slice none 0 0] : List Value) (([.bool false] : List Value) ++ (([U64 0, U64 0, I64 0, .slice none 0 0, .slice none 0 0, U64 0] ++ cu8 (zr8 16) : List Value) ++ (([.slice none 0 0] : List Value) ++ (([.slice none 0 0] : List Value) ++ []))))).trans ((DL (((([v0] : List Value) ++ ([v1] : List Value)) ++ ([v2] : List Value)) ++ ([.slice none 0 0] : List Value)) ([.bool false] : List Value) (([U64 0, U64 0, I64 0, .slice none 0 0, .slice none 0 0, U64 0] ++ cu8 (zr8 16) : List Value) ++ (([.slice none 0 0] : List Value) ++ (([.slice none 0 0] : List Value) ++ []))) ([v4] : List Value) h4 (by simp [AN]) rfl).trans ((DL ((((([v0] : List Value) ++ ([v1] : List Value)) ++ ([v2] : List Value)) ++ ([.slice none 0 0] : List Value)) ++ ([v4] : List Value)) ([U64 0, U64 0, I64 0, .slice none 0 0, .slice none 0 0, U64 0] ++ cu8 (zr8 16) : List Value) (([.slice none 0 0] : List Value) ++ (([.slice none 0 0] : List Value) ++ [])) c5 rfl (by simp [AN, h5]) (by simp [h5, AN])).trans ((DL (((((([v0] : List Value) ++ ([v1] : List Value)) ++ ([v2] : List Value)) ++ ([.slice none 0 0] : List Value)) ++ ([v4] : List Value)) ++ c5) ([.slice none 0 0] : List Value) (([.slice none 0 0] : List Value) ++ []) ([v6] : List Value) h6 (by simp [AN, h5]) rfl).trans ((DL ((((((([v0] : List Value) ++ ([v1] : List Value)) ++ ([v2] : List Value)) ++ ([.slice none 0 0] : List Value)) ++ ([v4] : List Value)) ++ c5) ++ ([v6] : List Value)) ([.slice none 0 0] : List Value) [] ([v7] : List Value) h7 (by simp [AN, h5]) rfl).trans (by simp [Instr.fill])))))))))
theorem bld167_01 {w : World} {v0 : Value} {c1 : List Value} (h0 : v0.cells = [v0].toArray) (h1 : c1.length = 49) : (Instr.build 167 ([(0, v0), (1, .agg c1.toArray)] : List (Nat × Value)).toArray).run Tryd.prog w = .ok (.agg (([v0] : List Value) ++ c1).toArray) w :=
 C8 (places := #[(0, 1), (1, 49)]) (Z := (([.bool false] : List Value) ++ (([U64 0] ++ cu8 (zr8 32) ++ cu8 (zr8 16) : List Value) ++ []))) (fun _ => by kernel_rfl) Tryd.underlying167 (fun _ => by kernel_rfl) ((EI ([.bool false] : List Value) (([U64 0] ++ cu8 (zr8 32) ++ cu8 (zr8 16) : List Value) ++ []) ([v0] : List Value) h0 (by simp [AN]) rfl).trans ((DL ([v0] : List Value) ([U64 0] ++ cu8 (zr8 32) ++ cu8 (zr8 16) : List Value) [] c1 rfl (by simp [AN, h1]) (by simp [h1, AN])).trans (by simp [Instr.fill])))
end Go.Proofs.YtkdpdgpphpngeaaDoor
namespace Go.Proofs.YtkdpdgpphpngeaaDoor
open Go Go.Sx
open Go.Value renaming slice → SL
theorem valK_lt (z : List UInt8) : ∀ k, k ≤ 8 → (valK z k).toNat < 256 ^ k ∧ (k + 1 ≤ 8 → (valK z (k + 1)).toNat = (valK z k).toNat * 256 + (g8 z k).toNat)
 | 0, _ => ⟨Nat.zero_lt_one, fun _ => by
  have hb := UInt8.toNat_lt (g8 z 0)
  have h0 : (valK z 0).toNat = 0 := rfl
  have h1 : valK z (0 + 1) = (valK z 0 <<< 8) ||| (g8 z 0).toUInt64 := rfl
  rw [h1, shl_or, UInt64.toNat_add, UInt64.toNat_mul, UInt8.toNat_toUInt64, h0]
  show (0 * 256 % 2 ^ 64 + (g8 z 0).toNat) % 2 ^ 64 = _
  omega⟩
 | k + 1, h => by
  obtain ⟨h1, h2⟩ := valK_lt z k (by omega)
  have h3 := h2 h
  have hb := UInt8.toNat_lt (g8 z k)
  have hb' := UInt8.toNat_lt (g8 z (k + 1))
  have hp : 256 ^ (k + 1) = 256 ^ k * 256 := Nat.pow_succ ..
  have h4 : (valK z (k + 1)).toNat < 256 ^ (k + 1) := by omega
  refine ⟨h4, fun h5 => ?_⟩
  have hq : 256 ^ (k + 1) ≤ 256 ^ 7 := Nat.pow_le_pow_right (by omega) (by omega)
  rw [valK, shl_or, UInt64.toNat_add, UInt64.toNat_mul, UInt8.toNat_toUInt64]
  show ((valK z (k + 1)).toNat * 256 % 2 ^ 64 + (g8 z (k + 1)).toNat) % 2 ^ 64 = _
  omega
theorem valK_pre (z : List UInt8) (i : Nat) : ∀ d, i + d ≤ 8 → (valK z (i + d)).toNat / 256 ^ d = (valK z i).toNat
 | 0, _ => by simp
 | d + 1, h => by
  have h1 := (valK_lt z (i + d) (by omega)).2 (by omega)
  have hb := UInt8.toNat_lt (g8 z (i + d))
  have ih := valK_pre z i d (by omega)
  rw [show i + (d + 1) = i + d + 1 from rfl, h1, Nat.pow_succ, Nat.mul_comm (256 ^ d) 256, ← Nat.div_div_eq_div_mul]
  rw [show ((valK z (i + d)).toNat * 256 + (g8 z (i + d)).toNat) / 256 = (valK z (i + d)).toNat by omega]
  exact ih
theorem g8_mid {z : List UInt8} {o n i : Nat} (h : i < n) : g8 (mid z o n) i = g8 z (o + i) := by
 simp [g8, mid, List.getD_eq_getElem?_getD, List.getElem?_take, h]
theorem numK_val {z : List UInt8} {k : Nat} (hk : k ≤ 8) (hz : k ≤ z.length) : numK k (valK z k) k = mid z 0 k := by
 refine ext8n (by rw [BI, EK (by omega)]) (fun i hi => ?_)
 rw [BI] at hi
 rw [g8_mid hi, Nat.zero_add, numK, g8_mr hi]
 apply UInt8.toNat_inj.1
 rw [UInt64.toNat_toUInt8, show 8*k - 8*i - 8 = 8*(k - 1 - i) by omega, shr_divK _ _ (by omega)]
 have h1 := valK_pre z (i + 1) (k - 1 - i) (by omega)
 rw [show i + 1 + (k - 1 - i) = k by omega] at h1
 rw [h1, (valK_lt z i (by omega)).2 (by omega)]
 have hb := UInt8.toNat_lt (g8 z i)
 omega
theorem take_mid (z : List UInt8) (p s : Nat) : z.take (p + s) = z.take p ++ mid (z.drop p) 0 s := by
 rw [List.take_add]; rfl
theorem numK_q {z0 : List UInt8} {p s : Nat} (hs : s ≤ 8) (h : p + s ≤ z0.length) : z0.take p ++ numK s (vQ z0 p s) s = z0.take (p + s) := by
 rw [vQ, if_pos h, numK_val hs (by rw [List.length_drop]; omega), take_mid]
def mQ (z0 : List UInt8) : Nat := (vQ z0 17 1).toNat + 1
def Ok1 (z0 : List UInt8) : Prop := vQ z0 16 1 = 1 ∧ 60*mQ z0 + 34 ≤ z0.length ∧ mayN (vQ z0 0 8) (vQ z0 8 8) (((vQ z0 16 1).toNat:Int)) (ixQ z0 18 (mQ z0)) (seQ z0 (4*mQ z0 + 18) (mQ z0)) (0:UInt64) = 0
def Ok2 (z0 : List UInt8) : Prop := vQ z0 16 1 = 2 ∧ 4*mQ z0 + 34 ≤ z0.length ∧ mayN (vQ z0 0 8) (vQ z0 8 8) (((vQ z0 16 1).toNat:Int)) (ixQ z0 18 (mQ z0)) ([] : List SealR) (0:UInt64) = 0
def Ok3 (z0 : List UInt8) : Prop := vQ z0 16 1 = 3 ∧ 41 ≤ z0.length ∧ mayN (vQ z0 0 8) (vQ z0 8 8) (((vQ z0 16 1).toNat:Int)) ([] : List UInt64) ([] : List SealR) (vQ z0 17 8) = 0
theorem EN {e k : Nat} (hk : k ≠ 0) : erN e k ≠ 0 := by unfold erN; split <;> omega
def BadQ (z0 : List UInt8) : Prop := ¬ Ok1 z0 ∧ ¬ Ok2 z0 ∧ ¬ Ok3 z0
theorem mQ_eq (z0 : List UInt8) : mQ z0 = (vQ z0 17 1).toNat + 1 := rfl
theorem kdn {x : UInt64} {k : Nat} (hk : k < 18446744073709551616) (h : ((x.toNat:Int)) = (k:Int)) : x = UInt64.ofNat k := UInt64.toNat_inj.1 (by rw [UInt64.toNat_ofNat']; omega)
theorem kd12 {x : UInt64} (h : (decide (((x.toNat:Int)) = (1:Int)) || decide (((x.toNat:Int)) = (2:Int))) = true) : x = 1 ∨ x = 2 := by
 rcases Bool.or_eq_true .. ▸ h with h | h
 ·
  exact .inl (kdn (k := 1) (by decide) (of_decide_eq_true h))
 ·
  exact .inr (kdn (k := 2) (by decide) (of_decide_eq_true h))
theorem kd3 {x : UInt64} (h : decide (((x.toNat:Int)) = (3:Int)) = true) : x = 3 := kdn (k := 3) (by decide) (of_decide_eq_true h)
theorem minQ {z0 z : List UInt8} (hq : Lq z0 z 18) : ∃ m : Nat, min (((vQ z0 17 1).toNat:Int) + 1) ((leftN (eQ z0 18) z.length : Nat) : Int) = (m:Int) ∧ m ≤ 256 ∧ (m = mQ z0 ∨ (m < mQ z0 ∧ z0.length ≤ m + 18)) := by
 have h9 := E6 z0 17
 have hm := mQ_eq z0
 refine ⟨min (mQ z0) (leftN (eQ z0 18) z.length), by omega, by omega, ?_⟩
 by_cases h : 18 ≤ z0.length
 ·
  have hl := hq.len h
  rw [E5 h, leftN, if_pos rfl]
  omega
 ·
  rw [DJ h, leftN, if_neg (by decide)]
  omega
theorem bad1 {z0 : List UInt8} (hk : vQ z0 16 1 = 1) (h : ¬ (60*mQ z0 + 34 ≤ z0.length ∧ mayN (vQ z0 0 8) (vQ z0 8 8) (((vQ z0 16 1).toNat:Int)) (ixQ z0 18 (mQ z0)) (seQ z0 (4*mQ z0 + 18) (mQ z0)) (0:UInt64) = 0)) : BadQ z0 :=
 ⟨fun e => h e.2, fun e => absurd (hk.symm.trans e.1) (by decide), fun e => absurd (hk.symm.trans e.1) (by decide)⟩
theorem bad2 {z0 : List UInt8} (hk : vQ z0 16 1 = 2) (h : ¬ (4*mQ z0 + 34 ≤ z0.length ∧ mayN (vQ z0 0 8) (vQ z0 8 8) (((vQ z0 16 1).toNat:Int)) (ixQ z0 18 (mQ z0)) ([] : List SealR) (0:UInt64) = 0)) : BadQ z0 :=
 ⟨fun e => absurd (hk.symm.trans e.1) (by decide), fun e => h e.2, fun e => absurd (hk.symm.trans e.1) (by decide)⟩
theorem bad3 {z0 : List UInt8} (hk : vQ z0 16 1 = 3) (h : ¬ (41 ≤ z0.length ∧ mayN (vQ z0 0 8) (vQ z0 8 8) (((vQ z0 16 1).toNat:Int)) ([] : List UInt64) ([] : List SealR) (vQ z0 17 8) = 0)) : BadQ z0 :=
 ⟨fun e => absurd (hk.symm.trans e.1) (by decide), fun e => absurd (hk.symm.trans e.1) (by decide), fun e => h e.2⟩
theorem bad_nil : BadQ [] := ⟨fun e => by have := e.2.1; simp at this, fun e => by have := e.2.1; simp at this, fun e => by have := e.2.1; simp at this⟩
theorem may_nil {pv ep : UInt64} {kd : Int} {bl : UInt64} (h : kd ≠ 3) : mayN pv ep kd ([] : List UInt64) ([] : List SealR) bl ≠ 0 := fun e => by
 have hR := mayN_right e
 by_cases h1 : kd = 1 ∨ kd = 2
 ·
  have := (RightO_idx hR h1).1
  simp at this
 ·
  rw [mayN_kd ⟨fun e => h1 (.inl e), fun e => h1 (.inr e), h⟩] at e
  omega
theorem bad0 {z0 : List UInt8} {bl : UInt64} (h3 : decide ((((vQ z0 16 1).toNat:Int)) = (3:Int)) = false) (h : (decide ((((vQ z0 16 1).toNat:Int)) = (1:Int)) || decide ((((vQ z0 16 1).toNat:Int)) = (2:Int))) = false) :
  BadQ z0 ∧ mayN (vQ z0 0 8) (vQ z0 8 8) (((vQ z0 16 1).toNat:Int)) ([] : List UInt64) ([] : List SealR) bl ≠ 0 := by
 obtain ⟨h1, h2⟩ := Bool.or_eq_false_iff.1 h
 have h1 := of_decide_eq_false h1
 have h2 := of_decide_eq_false h2
 have h3 := of_decide_eq_false h3
 exact ⟨⟨fun e => h1 (by rw [e.1]; rfl), fun e => h2 (by rw [e.1]; rfl), fun e => h3 (by rw [e.1]; rfl)⟩, may_nil h3⟩
theorem bad12 {z0 : List UInt8} {bl : UInt64} (hk : vQ z0 16 1 = 1 ∨ vQ z0 16 1 = 2) (h : z0.length < mQ z0 + 18) :
  BadQ z0 ∧ mayN (vQ z0 0 8) (vQ z0 8 8) (((vQ z0 16 1).toNat:Int)) ([] : List UInt64) ([] : List SealR) bl ≠ 0 := by
 rcases hk with hk | hk
 ·
  exact ⟨bad1 hk (fun e => by omega), may_nil (by rw [hk]; decide)⟩
 ·
  exact ⟨bad2 hk (fun e => by omega), may_nil (by rw [hk]; decide)⟩
theorem kd12U {x : UInt64} (h : (decide (x = 1) || decide (x = 2)) = true) : x = 1 ∨ x = 2 := by simpa using h
theorem kd3U {x : UInt64} (h : x = 1 ∨ x = 2) (h3 : x = 3) : False := by rcases h with h | h <;> exact absurd (h.symm.trans h3) (by decide)
theorem bad0U {z0 : List UInt8} {bl : UInt64} (h3 : vQ z0 16 1 ≠ 3) (h : (decide (vQ z0 16 1 = 1) || decide (vQ z0 16 1 = 2)) = false) :
  BadQ z0 ∧ mayN (vQ z0 0 8) (vQ z0 8 8) (((vQ z0 16 1).toNat:Int)) ([] : List UInt64) ([] : List SealR) bl ≠ 0 := by
 obtain ⟨h1, h2⟩ := Bool.or_eq_false_iff.1 h
 have h1 := of_decide_eq_false h1
 have h2 := of_decide_eq_false h2
 exact ⟨⟨fun e => h1 e.1, fun e => h2 e.1, fun e => h3 e.1⟩, may_nil (fun e => h3 (kdn (k := 3) (by decide) e))⟩
theorem bad12b {z0 : List UInt8} (hk : vQ z0 16 1 = 1 ∨ vQ z0 16 1 = 2) (h : z0.length < 4*mQ z0 + 34) : BadQ z0 := by
 rcases hk with hk | hk
 ·
  exact bad1 hk (fun e => by have := e.1; omega)
 ·
  exact bad2 hk (fun e => by have := e.1; omega)
theorem FF {z0 a b : List UInt8} {p s : Nat} {x : UInt64} (hz : z0 = a ++ (numK s x s ++ b)) (ha : a.length = p) (hs : s ≤ 8) (hx : x.toNat / 256 ^ s = 0) : vQ z0 p s = x := by
 subst hz; subst ha
 have hl : a.length + s ≤ (a ++ (numK s x s ++ b)).length := by rw [List.length_append, List.length_append, BI]; omega
 rw [vQ, if_pos hl, List.drop_left, ← valK_back s x hs hx]
 refine valK_congr s (fun i hi => ?_)
 rw [valK_back s x hs hx]
 simp only [g8, List.getD_eq_getElem?_getD]
 rw [List.getElem?_append_left (by rw [BI]; exact hi)]
theorem bQ_at {z0 a t b : List UInt8} {p s : Nat} (hz : z0 = a ++ (t ++ b)) (ha : a.length = p) (ht : t.length = s) : bQ z0 p s = t := by
 subst hz; subst ha; subst ht
 rw [bQ, if_pos (by rw [List.length_append, List.length_append]; omega), List.drop_left]
 simp [mid]
end Go.Proofs.YtkdpdgpphpngeaaDoor
namespace Go.Proofs.YtkdpdgpphpngeaaDoor
open Go Go.Sx Go.RowKit
open Go.Value renaming slice → SL
open Go.ChangeShapes Go.WideShapes
theorem FL {cs a b c vs r : List Value} {o : Nat} (h : cs = a ++ b ++ c) (ha : a.length = o) (hb : b.length = vs.length) (hr : a ++ vs ++ c = r) : lay cs o vs = r := by
 subst h
 subst hr
 rw [List.append_assoc, List.append_assoc]
 exact DB o 0 ha (by omega) (lay_left (by omega) (AI hb.symm))
theorem vQ_neg {z0 : List UInt8} {p s : Nat} (h : ¬ p + s ≤ z0.length) : vQ z0 p s = 0 := if_neg h
theorem eQ_drop {z0 : List UInt8} {p t : Nat} (h : p ≤ z0.length) : eQ (z0.drop p) t = eQ z0 (p + t) := by
 unfold eQ; rw [List.length_drop]
 by_cases hc : t ≤ z0.length - p
 ·
  rw [if_pos hc, if_pos (by omega)]
 ·
  rw [if_neg hc, if_neg (by omega)]
theorem Lq.drop {z0 z : List UInt8} {p t : Nat} (hp : p ≤ z0.length) (h : Lq (z0.drop p) z t) : Lq z0 z (p + t) := fun hl => by
 rw [h (by rw [List.length_drop]; omega), List.drop_drop]
def TkR (z : List UInt8) (pv ep : UInt64) (kd : Int) (l : List UInt64) (ls : List SealR) (bl : UInt64) (tg : List UInt8) (tot : Nat) : Prop :=
 (Ok3 z ∧ pv = vQ z 0 8 ∧ ep = vQ z 8 8 ∧ kd = ((vQ z 16 1).toNat:Int) ∧ l = [] ∧ ls = [] ∧ bl = vQ z 17 8 ∧ tg = bQ z 25 16 ∧ tot = 41) ∨
 (Ok2 z ∧ pv = vQ z 0 8 ∧ ep = vQ z 8 8 ∧ kd = ((vQ z 16 1).toNat:Int) ∧ l = ixQ z 18 (mQ z) ∧ ls = [] ∧ bl = 0 ∧ tg = bQ z (4*mQ z + 18) 16 ∧ tot = 4*mQ z + 34) ∨
 (Ok1 z ∧ pv = vQ z 0 8 ∧ ep = vQ z 8 8 ∧ kd = ((vQ z 16 1).toNat:Int) ∧ l = ixQ z 18 (mQ z) ∧ ls = seQ z (4*mQ z + 18) (mQ z) ∧ bl = 0 ∧ tg = bQ z (60*mQ z + 18) 16 ∧ tot = 60*mQ z + 34) ∨
 (BadQ z ∧ pv = 0 ∧ ep = 0 ∧ kd = 0 ∧ l = [] ∧ ls = [] ∧ bl = 0 ∧ tg = zr8 16 ∧ tot = z.length + 1)
theorem FJ (z : List UInt8) (h : BadQ z) : TkR z 0 0 0 [] [] 0 (zr8 16) (z.length + 1) := .inr (.inr (.inr ⟨h, rfl, rfl, rfl, rfl, rfl, rfl, rfl, rfl⟩))
theorem mQ_le (z : List UInt8) : mQ z ≤ 256 := by have := E6 z 17; unfold mQ; omega
theorem Ok12 {z : List UInt8} (h : Ok1 z) (h2 : Ok2 z) : False := absurd (h.1.symm.trans h2.1) (by decide)
theorem Ok13 {z : List UInt8} (h : Ok1 z) (h2 : Ok3 z) : False := absurd (h.1.symm.trans h2.1) (by decide)
theorem Ok23 {z : List UInt8} (h : Ok2 z) (h2 : Ok3 z) : False := absurd (h.1.symm.trans h2.1) (by decide)
theorem TkR.one {z : List UInt8} {pv ep : UInt64} {kd : Int} {l : List UInt64} {ls : List SealR} {bl : UInt64} {tg : List UInt8} {tot : Nat} {pv' ep' : UInt64} {kd' : Int} {l' : List UInt64} {ls' : List SealR} {bl' : UInt64} {tg' : List UInt8} {tot' : Nat}
  (h : TkR z pv ep kd l ls bl tg tot) (h' : TkR z pv' ep' kd' l' ls' bl' tg' tot') : pv = pv' ∧ ep = ep' ∧ kd = kd' ∧ l = l' ∧ ls = ls' ∧ bl = bl' ∧ tg = tg' ∧ tot = tot' := by
 rcases h with ⟨h0, rfl, rfl, rfl, rfl, rfl, rfl, rfl, rfl⟩ | ⟨h0, rfl, rfl, rfl, rfl, rfl, rfl, rfl, rfl⟩ | ⟨h0, rfl, rfl, rfl, rfl, rfl, rfl, rfl, rfl⟩ | ⟨h0, rfl, rfl, rfl, rfl, rfl, rfl, rfl, rfl⟩ <;>
 rcases h' with ⟨h1, rfl, rfl, rfl, rfl, rfl, rfl, rfl, rfl⟩ | ⟨h1, rfl, rfl, rfl, rfl, rfl, rfl, rfl, rfl⟩ | ⟨h1, rfl, rfl, rfl, rfl, rfl, rfl, rfl, rfl⟩ | ⟨h1, rfl, rfl, rfl, rfl, rfl, rfl, rfl, rfl⟩ <;>
 first
 | exact ⟨rfl, rfl, rfl, rfl, rfl, rfl, rfl, rfl⟩
 | exact (Ok12 h0 h1).elim
 | exact (Ok13 h0 h1).elim
 | exact (Ok23 h0 h1).elim
 | exact (Ok12 h1 h0).elim
 | exact (Ok13 h1 h0).elim
 | exact (Ok23 h1 h0).elim
 | exact (h0.1 h1).elim
 | exact (h0.2.1 h1).elim
 | exact (h0.2.2 h1).elim
 | exact (h1.1 h0).elim
 | exact (h1.2.1 h0).elim
 | exact (h1.2.2 h0).elim
theorem CS {w0 w : World} {M : List Nat} {L : List Ent} (h : Hp w0 M L w) (i j k : Nat) {e f g : Ent} (hi : L[i]? = some e) (hj : L[j]? = some f) (hk : L[k]? = some g) (hij : i ≠ j) (hik : i ≠ k) (hjk : j ≠ k) : Hp w0 M [e, f, g] w := by
 have h1 := E2 h i j hi hj hij
 have h2 := E2 h i k hi hk hik
 have h3 := E2 h j k hj hk hjk
 refine h.sub (fun x hx => ?_) ?_
 ·
  rcases List.mem_cons.1 hx with rfl | hx
  ·
   exact List.mem_of_getElem? hi
  ·
   rcases List.mem_cons.1 hx with rfl | hx
   ·
    exact List.mem_of_getElem? hj
   ·
    rcases List.mem_cons.1 hx with rfl | hx
    ·
     exact List.mem_of_getElem? hk
    ·
     cases hx
 ·
  have n1 := h1.nd
  have n2 := h2.nd
  have n3 := h3.nd
  simp at n1 n2 n3 ⊢
  exact ⟨⟨n1, n2⟩, n3⟩
theorem Gh.u64 {l : List UInt64} {g : Nat} {cs : List Value} {a : Option Addr} (h : l = []) : Gh (cu64 l) g cs a := by subst h; exact .inl rfl
def fQ (z0 : List UInt8) (p : Nat) : Bool := decide (p + 1 ≤ z0.length ∧ g8 (z0.drop p) 0 = 1)
def fN (z0 : List UInt8) (p : Nat) : Nat := if p + 1 ≤ z0.length ∧ g8 (z0.drop p) 0 ≤ 1 then 1 else z0.length + 1
theorem fN_ok {z0 : List UInt8} {p : Nat} : p + fN z0 p ≤ z0.length ↔ (p + 1 ≤ z0.length ∧ g8 (z0.drop p) 0 ≤ 1) := by
 unfold fN; split
 ·
  rename_i h; exact ⟨fun _ => h, fun _ => h.1⟩
 ·
  rename_i h; exact ⟨fun e => by omega, fun e => absurd e h⟩
theorem fN_one {z0 : List UInt8} {p : Nat} (h : p + fN z0 p ≤ z0.length) : fN z0 p = 1 := if_pos (fN_ok.1 h)
theorem FgOk_q {z0 z : List UInt8} {p : Nat} (h : Lq z0 z p) : FgOk z (eQ z0 p) ↔ p + fN z0 p ≤ z0.length := by
 rw [fN_ok]
 unfold FgOk
 rw [eQ_zero]
 refine ⟨fun ⟨h1, h2, h3⟩ => ?_, fun ⟨h1, h2⟩ => ?_⟩
 ·
  rw [h h1] at h2 h3; rw [List.length_drop] at h2; exact ⟨by omega, h3⟩
 ·
  have hp : p ≤ z0.length := by omega
  rw [h hp, List.length_drop]; exact ⟨hp, by omega, h2⟩
theorem fgV_q {z0 z : List UInt8} {p : Nat} (h : Lq z0 z p) : fgV z (eQ z0 p) = fQ z0 p := by
 unfold fgV fQ
 refine decide_eq_decide.2 ⟨fun ⟨h1, h2⟩ => ?_, fun ⟨h1, h2⟩ => ?_⟩
 ·
  have h3 := (fN_ok.1 ((FgOk_q h).1 h1)).1
  rw [h (by omega)] at h2; exact ⟨h3, h2⟩
 ·
  have hp : p ≤ z0.length := by omega
  exact ⟨(FgOk_q h).2 (fN_ok.2 ⟨h1, by rw [h2]; decide⟩), by rw [h hp]; exact h2⟩
theorem fgZ_q {z0 z : List UInt8} {p : Nat} (h : Lq z0 z p) : Lq z0 (fgZ z (eQ z0 p)) (p + fN z0 p) := fun hp => by
 have h1 := fN_one hp
 rw [fgZ, if_pos ((FgOk_q h).2 hp), h (by omega), List.drop_drop, h1]
theorem HsOk_q {z0 z : List UInt8} {p : Nat} (h : Lq z0 z p) : HsOk z (eQ z0 p) ↔ p + 32 ≤ z0.length := by
 unfold HsOk
 rw [eQ_zero]
 refine ⟨fun ⟨h1, h2⟩ => ?_, fun h1 => ?_⟩
 ·
  rw [h h1, List.length_drop] at h2; omega
 ·
  rw [h (by omega), List.length_drop]; exact ⟨by omega, by omega⟩
theorem hsV_q {z0 z : List UInt8} {p : Nat} (h : Lq z0 z p) : hsV z (eQ z0 p) = bQ z0 p 32 := by
 unfold hsV bQ
 by_cases hc : p + 32 ≤ z0.length
 ·
  rw [if_pos ((HsOk_q h).2 hc), if_pos hc, h (by omega)]
 ·
  rw [if_neg (fun e => hc ((HsOk_q h).1 e)), if_neg hc]
theorem hsZ_q {z0 z : List UInt8} {p : Nat} (h : Lq z0 z p) : Lq z0 (hsZ z (eQ z0 p)) (p + 32) := fun hp => by
 rw [hsZ, if_pos ((HsOk_q h).2 hp), h (by omega), List.drop_drop]
theorem E4 {z0 z : List UInt8} {p : Nat} (h : Lq z0 z p) : endN (eQ z0 p) z.length = 0 ↔ p = z0.length := by
 unfold endN
 by_cases hp : p ≤ z0.length
 ·
  rw [if_pos (E5 hp), h.len hp]
  split
  ·
   exact ⟨fun _ => by omega, fun _ => rfl⟩
  ·
   exact ⟨fun e => absurd e (by decide), fun e => by omega⟩
 ·
  rw [if_neg (by rw [DJ hp]; decide), DJ hp]
  exact ⟨fun e => absurd e (by decide), fun e => absurd (Nat.le_of_eq e) hp⟩
def RqR (z : List UInt8) (sq : UInt64) (qk : Int) (lq : List UInt64) (fs : UInt64) (mn : Int) (pv ep : UInt64) (kd : Int) (l : List UInt64) (ls : List SealR) (bl : UInt64) (tg : List UInt8) (eq : UInt64) (tot : Nat) : Prop :=
  sq = vQ z 0 8 ∧ qk = ((vQ z 8 1).toNat:Int) ∧
  ((vQ z 8 1 = 3 ∧ lq = [] ∧ fs = 0 ∧ mn = 0 ∧ eq = 0 ∧ ∃ t, TkR (z.drop 9) pv ep kd l ls bl tg t ∧ tot = 9 + t) ∨
   (vQ z 8 1 ≠ 3 ∧ pv = 0 ∧ ep = 0 ∧ kd = 0 ∧ l = [] ∧ ls = [] ∧ bl = 0 ∧ tg = zr8 16 ∧ eq = vQ z 9 8 ∧
    ((vQ z 8 1 = 1 ∧ lq = ixQ z 18 (mQ z) ∧ fs = 0 ∧ mn = 0 ∧ tot = 4*mQ z + 18) ∨
     (vQ z 8 1 = 2 ∧ lq = [] ∧ fs = vQ z 17 4 ∧ mn = ((vQ z 21 1).toNat:Int) + 1 ∧ tot = 22) ∨
     (vQ z 8 1 ≠ 1 ∧ vQ z 8 1 ≠ 2 ∧ lq = [] ∧ fs = 0 ∧ mn = 0 ∧ tot = 17))))
def GRq (z : List UInt8) (sq : UInt64) (qk : Int) (lq : List UInt64) (fs : UInt64) (mn : Int) (pv ep : UInt64) (kd : Int) (l : List UInt64) (ls : List SealR) (bl : UInt64) (tg : List UInt8) (eq : UInt64) : Prop :=
 RqR z sq qk lq fs mn pv ep kd l ls bl tg eq z.length ∧ reqR qk lq fs mn eq (blankB pv ep kd l ls bl tg) (decide (mayN pv ep kd l ls bl = 0)) = true
def BadRq (z : List UInt8) : Prop := ∀ sq qk lq fs mn pv ep kd l ls bl tg eq, ¬ GRq z sq qk lq fs mn pv ep kd l ls bl tg eq
theorem RqR.one {z : List UInt8} {sq : UInt64} {qk : Int} {lq : List UInt64} {fs : UInt64} {mn : Int} {pv ep : UInt64} {kd : Int} {l : List UInt64} {ls : List SealR} {bl : UInt64} {tg : List UInt8} {eq : UInt64} {tot : Nat}
  {sq' : UInt64} {qk' : Int} {lq' : List UInt64} {fs' : UInt64} {mn' : Int} {pv' ep' : UInt64} {kd' : Int} {l' : List UInt64} {ls' : List SealR} {bl' : UInt64} {tg' : List UInt8} {eq' : UInt64} {tot' : Nat}
  (h : RqR z sq qk lq fs mn pv ep kd l ls bl tg eq tot) (h' : RqR z sq' qk' lq' fs' mn' pv' ep' kd' l' ls' bl' tg' eq' tot') :
  sq = sq' ∧ qk = qk' ∧ lq = lq' ∧ fs = fs' ∧ mn = mn' ∧ pv = pv' ∧ ep = ep' ∧ kd = kd' ∧ l = l' ∧ ls = ls' ∧ bl = bl' ∧ tg = tg' ∧ eq = eq' ∧ tot = tot' := by
 obtain ⟨rfl, rfl, h⟩ := h
 obtain ⟨rfl, rfl, h'⟩ := h'
 rcases h with ⟨h3, rfl, rfl, rfl, rfl, t, hT, rfl⟩ | ⟨h3, rfl, rfl, rfl, rfl, rfl, rfl, rfl, rfl, h⟩ <;>
 rcases h' with ⟨h3', rfl, rfl, rfl, rfl, t', hT', rfl⟩ | ⟨h3', rfl, rfl, rfl, rfl, rfl, rfl, rfl, rfl, h'⟩
 ·
  obtain ⟨rfl, rfl, rfl, rfl, rfl, rfl, rfl, rfl⟩ := hT.one hT'
  exact ⟨rfl, rfl, rfl, rfl, rfl, rfl, rfl, rfl, rfl, rfl, rfl, rfl, rfl, rfl⟩
 ·
  exact absurd h3 h3'
 ·
  exact absurd h3' h3
 ·
  rcases h with ⟨h1, rfl, rfl, rfl, rfl⟩ | ⟨h1, rfl, rfl, rfl, rfl⟩ | ⟨h1, h2, rfl, rfl, rfl, rfl⟩ <;>
  rcases h' with ⟨h1', rfl, rfl, rfl, rfl⟩ | ⟨h1', rfl, rfl, rfl, rfl⟩ | ⟨h1', h2', rfl, rfl, rfl, rfl⟩ <;>
  first
  | exact ⟨rfl, rfl, rfl, rfl, rfl, rfl, rfl, rfl, rfl, rfl, rfl, rfl, rfl, rfl⟩
  | exact absurd (h1.symm.trans h1') (by decide)
  | exact absurd h1 h1'
  | exact absurd h1 h2'
  | exact absurd h1' h1
  | exact absurd h1' h2
theorem BadRq.of {z : List UInt8} {sq : UInt64} {qk : Int} {lq : List UInt64} {fs : UInt64} {mn : Int} {pv ep : UInt64} {kd : Int} {l : List UInt64} {ls : List SealR} {bl : UInt64} {tg : List UInt8} {eq : UInt64} {tot : Nat}
  (h : RqR z sq qk lq fs mn pv ep kd l ls bl tg eq tot) (hb : tot = z.length → reqR qk lq fs mn eq (blankB pv ep kd l ls bl tg) (decide (mayN pv ep kd l ls bl = 0)) = false) : BadRq z := by
 intro sq' qk' lq' fs' mn' pv' ep' kd' l' ls' bl' tg' eq' ⟨h', hr⟩
 obtain ⟨rfl, rfl, rfl, rfl, rfl, rfl, rfl, rfl, rfl, rfl, rfl, rfl, rfl, ht⟩ := h.one h'
 rw [hb ht] at hr
 exact absurd hr (by decide)
theorem RqR.k3 {z : List UInt8} {pv ep : UInt64} {kd : Int} {l : List UInt64} {ls : List SealR} {bl : UInt64} {tg : List UInt8} {t : Nat} (h3 : vQ z 8 1 = 3) (hT : TkR (z.drop 9) pv ep kd l ls bl tg t) :
  RqR z (vQ z 0 8) ((vQ z 8 1).toNat:Int) [] 0 0 pv ep kd l ls bl tg 0 (9 + t) := ⟨rfl, rfl, .inl ⟨h3, rfl, rfl, rfl, rfl, t, hT, rfl⟩⟩
theorem RqR.k1 {z : List UInt8} (h : vQ z 8 1 = 1) : RqR z (vQ z 0 8) ((vQ z 8 1).toNat:Int) (ixQ z 18 (mQ z)) 0 0 0 0 0 [] [] 0 (zr8 16) (vQ z 9 8) (4*mQ z + 18) :=
 ⟨rfl, rfl, .inr ⟨(by rw [h]; decide), rfl, rfl, rfl, rfl, rfl, rfl, rfl, rfl, .inl ⟨h, rfl, rfl, rfl, rfl⟩⟩⟩
theorem RqR.k2 {z : List UInt8} (h : vQ z 8 1 = 2) : RqR z (vQ z 0 8) ((vQ z 8 1).toNat:Int) [] (vQ z 17 4) (((vQ z 21 1).toNat:Int) + 1) 0 0 0 [] [] 0 (zr8 16) (vQ z 9 8) 22 :=
 ⟨rfl, rfl, .inr ⟨(by rw [h]; decide), rfl, rfl, rfl, rfl, rfl, rfl, rfl, rfl, .inr (.inl ⟨h, rfl, rfl, rfl, rfl⟩)⟩⟩
theorem RqR.k0 {z : List UInt8} (h3 : vQ z 8 1 ≠ 3) (h1 : vQ z 8 1 ≠ 1) (h2 : vQ z 8 1 ≠ 2) : RqR z (vQ z 0 8) ((vQ z 8 1).toNat:Int) [] 0 0 0 0 0 [] [] 0 (zr8 16) (vQ z 9 8) 17 :=
 ⟨rfl, rfl, .inr ⟨h3, rfl, rfl, rfl, rfl, rfl, rfl, rfl, rfl, .inr (.inr ⟨h1, h2, rfl, rfl, rfl, rfl⟩)⟩⟩
theorem kQT {x : UInt64} {k : Nat} (hk : k < 256) (h : decide ((x.toNat:Int) = (k:Int)) = true) : x = UInt64.ofNat k := kdn (by omega) (of_decide_eq_true h)
theorem kQF {x : UInt64} {k : Nat} (hk : k < 256) (h : decide ((x.toNat:Int) = (k:Int)) = false) : x ≠ UInt64.ofNat k := fun e => (of_decide_eq_false h) (by rw [e, UInt64.toNat_ofNat']; omega)
theorem reqR_nil {fs : UInt64} {mn : Int} {eq : UInt64} {b m : Bool} : reqR 1 [] fs mn eq b m = false := by
 cases h : reqR 1 [] fs mn eq b m
 ·
  rfl
 ·
  exact absurd (RightI_pos (reqR_one h)) (by simp)
theorem vQ_lt2 (z0 : List UInt8) (p : Nat) : (vQ z0 p 2).toNat < 65536 := by
 unfold vQ
 split
 ·
  exact (valK_lt (z0.drop p) 2 (by omega)).1
 ·
  decide
theorem u64_lt {i : Nat} {x : UInt64} (hi : i < 18446744073709551616) (h : UInt64.ofNat i < x) : i < x.toNat := by
 have h2 := UInt64.lt_iff_toNat_lt.1 h
 rwa [UInt64.toNat_ofNat', Nat.mod_eq_of_lt (by omega)] at h2
theorem u64_ge {i : Nat} {x : UInt64} (hi : i < 18446744073709551616) (h : ¬ UInt64.ofNat i < x) : x.toNat ≤ i := by
 have h2 := UInt64.le_iff_toNat_le.1 (UInt64.not_lt.1 h)
 rwa [UInt64.toNat_ofNat', Nat.mod_eq_of_lt (by omega)] at h2
theorem u64_suc (i : Nat) : UInt64.ofNat i + 1 = UInt64.ofNat (i + 1) := (UInt64.ofNat_add i 1).symm
theorem brk_lt {z0 z : List UInt8} {P q : Nat} (h : Lq z0 z P) (hl : leftN (eQ z0 P) z.length = 0) (hq : P < q) : z0.length < q := by
 by_cases hp : P ≤ z0.length
 ·
  rw [leftN, if_pos (E5 hp), h.len hp] at hl; omega
 ·
  omega
theorem brk_q {z0 z : List UInt8} {P q : Nat} (h : Lq z0 z P) (hl : leftN (eQ z0 P) z.length = 0) (hq : P < q) : erN (eQ z0 P) 2 = eQ z0 q := by
 rw [DJ (p := q) (by have := brk_lt h hl hq; omega)]
 by_cases hp : P ≤ z0.length
 ·
  rw [E5 hp]; rfl
 ·
  rw [DJ hp]; rfl
theorem erQ_q {z0 : List UInt8} {P q : Nat} (hq : z0.length < q) : erN (eQ z0 P) 2 = eQ z0 q := by
 rw [DJ (p := q) (by omega)]
 by_cases hp : P ≤ z0.length
 ·
  rw [E5 hp]; rfl
 ·
  rw [DJ hp]; rfl
def hQ (z0 : List UInt8) (p : Nat) : Nat → List UInt8
 | 0 => []
 | i + 1 => hQ z0 p i ++ bQ z0 (p + 32*i) 32
theorem hQ_succ (z0 : List UInt8) (p i : Nat) : hQ z0 p (i + 1) = hQ z0 p i ++ bQ z0 (p + 32*i) 32 := rfl
theorem hQ_len (z0 : List UInt8) (p : Nat) : ∀ i, (hQ z0 p i).length = i*32
 | 0 => rfl
 | i + 1 => by rw [hQ_succ, List.length_append, hQ_len z0 p i, BG]; omega
theorem hQ_zero (z0 : List UInt8) (p : Nat) : hQ z0 p 0 = [] := rfl
theorem hQ_one (z0 : List UInt8) (p : Nat) : [] ++ bQ z0 p 32 = hQ z0 p 1 := rfl
def qI (z0 : List UInt8) (p : Nat) : Nat → Nat
 | 0 => p
 | i + 1 => qI z0 p i + fN z0 (qI z0 p i) + (if fQ z0 (qI z0 p i) then 56 else 0)
def zS : SealR := ⟨0, zr8 32, zr8 16, AN 32, AN 16⟩
def iQ (z0 : List UInt8) (q : Nat) : ItemR := if fQ z0 q then ⟨true, sQ z0 (q + fN z0 q)⟩ else ⟨false, zS⟩
def itQ (z0 : List UInt8) (p : Nat) : Nat → List ItemR
 | 0 => []
 | i + 1 => itQ z0 p i ++ [iQ z0 (qI z0 p i)]
theorem itQ_suc (z0 : List UInt8) (p i : Nat) : itQ z0 p (i + 1) = itQ z0 p i ++ [iQ z0 (qI z0 p i)] := rfl
theorem iQ_t {z0 : List UInt8} {q r : Nat} (h : fQ z0 q = true) (hr : r = q + fN z0 q) (h1 : (bQ z0 (r + 8) 32).length = 32) (h2 : (bQ z0 (r + 40) 16).length = 16) : ItemR.mk (fQ z0 q) (SealR.mk (vQ z0 r 8) (bQ z0 (r + 8) 32) (bQ z0 (r + 40) 16) h1 h2) = iQ z0 q := by
 subst hr; unfold iQ; rw [if_pos h, h]; rfl
theorem iQ_f {z0 : List UInt8} {q : Nat} (h : fQ z0 q = false) (h1 : (zr8 32).length = 32) (h2 : (zr8 16).length = 16) : ItemR.mk (fQ z0 q) (SealR.mk 0 (zr8 32) (zr8 16) h1 h2) = iQ z0 q := by
 unfold iQ; rw [if_neg (by rw [h]; decide), h]; rfl
theorem qI_t {z0 : List UInt8} {p i q r : Nat} (hq : q = qI z0 p i) (h : fQ z0 q = true) (hr : r = q + fN z0 q) : r + 56 = qI z0 p (i + 1) := by
 subst hr; subst hq
 show _ = qI z0 p i + fN z0 (qI z0 p i) + (if fQ z0 (qI z0 p i) then 56 else 0)
 rw [if_pos h]
theorem qI_f {z0 : List UInt8} {p i q r : Nat} (hq : q = qI z0 p i) (h : fQ z0 q = false) (hr : r = q + fN z0 q) : r = qI z0 p (i + 1) := by
 subst hr; subst hq
 show _ = qI z0 p i + fN z0 (qI z0 p i) + (if fQ z0 (qI z0 p i) then 56 else 0)
 rw [if_neg (by rw [h]; decide)]; rfl
theorem fN_pos (z0 : List UInt8) (p : Nat) : 1 ≤ fN z0 p := by unfold fN; split <;> omega
theorem qI_ge (z0 : List UInt8) (p : Nat) : ∀ i, p + i ≤ qI z0 p i
 | 0 => Nat.le_refl _
 | i + 1 => by
  have := qI_ge z0 p i
  have := fN_pos z0 (qI z0 p i)
  show _ ≤ qI z0 p i + fN z0 (qI z0 p i) + _
  omega
theorem qI_mono (z0 : List UInt8) (p : Nat) : ∀ i, qI z0 p i ≤ qI z0 p (i + 1) := fun i => by
 show _ ≤ qI z0 p i + fN z0 (qI z0 p i) + _
 omega
theorem minI {z0 z : List UInt8} (hq : Lq z0 z 11) : ∃ m : Nat, min (((vQ z0 10 1).toNat:Int) + 1) ((leftN (eQ z0 11) z.length : Nat) : Int) = (m:Int) ∧ m ≤ 256 ∧ (m = (vQ z0 10 1).toNat + 1 ∨ (m < (vQ z0 10 1).toNat + 1 ∧ z0.length ≤ m + 11)) := by
 have h1 := E6 z0 10
 by_cases hp : 11 ≤ z0.length
 ·
  rw [E5 hp, leftN, if_pos rfl, hq.len hp]
  by_cases hc : (vQ z0 10 1).toNat + 1 ≤ z0.length - 11
  ·
   exact ⟨(vQ z0 10 1).toNat + 1, by omega, by omega, .inl rfl⟩
  ·
   exact ⟨z0.length - 11, by omega, by omega, .inr ⟨by omega, by omega⟩⟩
 ·
  rw [DJ hp, leftN, if_neg (by decide)]
  exact ⟨0, by omega, by omega, .inr ⟨by omega, by omega⟩⟩
theorem qI_le (z0 : List UInt8) (p i : Nat) : ∀ k, qI z0 p i ≤ qI z0 p (i + k)
 | 0 => Nat.le_refl _
 | k + 1 => Nat.le_trans (qI_le z0 p i k) (qI_mono z0 p (i + k))
def rkZ (z : List UInt8) : Int := ((vQ z 8 1).toNat:Int)
def erZ (z : List UInt8) : Int := ((vQ z 9 1).toNat:Int)
def nI (z : List UInt8) : Nat := (vQ z 10 1).toNat + 1
def itZ (z : List UInt8) : Bool := itB (erZ z) (rkZ z)
def F4 (z : List UInt8) : Bool := decide (erZ z = 0) && decide (rkZ z = 4)
def P1 (z : List UInt8) : Nat := if itZ z then qI z 11 (nI z) else 10
def ljZ (z : List UInt8) : List ItemR := if itZ z then itQ z 11 (nI z) else []
def thZ (z : List UInt8) : Bool := F4 z && fQ z (P1 z)
def P2 (z : List UInt8) : Nat := if F4 z then P1 z + fN z (P1 z) else P1 z
def chZ (z : List UInt8) : Bool := chB (erZ z) (rkZ z) (thZ z)
def aZ (z : List UInt8) : Bool := aB (erZ z) (rkZ z) (thZ z)
def bZ (z : List UInt8) : Bool := bB (erZ z) (rkZ z) (thZ z)
noncomputable def tkN (z : List UInt8) : Nat := @ite _ (Ok3 z) (Classical.propDecidable _) 41 (@ite _ (Ok2 z) (Classical.propDecidable _) (4*mQ z + 34) (@ite _ (Ok1 z) (Classical.propDecidable _) (60*mQ z + 34) (z.length + 1)))
theorem TkR.tot {z : List UInt8} {pv ep : UInt64} {kd : Int} {l : List UInt64} {ls : List SealR} {bl : UInt64} {tg : List UInt8} {tot : Nat} (h : TkR z pv ep kd l ls bl tg tot) : tot = tkN z := by
 unfold tkN
 rcases h with ⟨h0, _, _, _, _, _, _, _, rfl⟩ | ⟨h0, _, _, _, _, _, _, _, rfl⟩ | ⟨h0, _, _, _, _, _, _, _, rfl⟩ | ⟨h0, _, _, _, _, _, _, _, rfl⟩
 ·
  rw [if_pos h0]
 ·
  rw [if_neg (fun e => Ok23 h0 e), if_pos h0]
 ·
  rw [if_neg (fun e => Ok13 h0 e), if_neg (fun e => Ok12 h0 e), if_pos h0]
 ·
  rw [if_neg h0.2.2, if_neg h0.2.1, if_neg h0.1]
noncomputable def P3 (z : List UInt8) : Nat := if chZ z then P2 z + tkN (z.drop (P2 z)) else P2 z
def hN (z : List UInt8) (p : Nat) : Nat := (vQ z p 2).toNat
noncomputable def P4 (z : List UInt8) : Nat := if aZ z then P3 z + 2 + 32*hN z (P3 z) else P3 z
noncomputable def P5 (z : List UInt8) : Nat := if bZ z then P4 z + 2 + 32*hN z (P4 z) else P4 z
noncomputable def naZ (z : List UInt8) : Nat := if aZ z then hN z (P3 z) else 0
noncomputable def xaZ (z : List UInt8) : List UInt8 := if aZ z then hQ z (P3 z + 2) (hN z (P3 z)) else []
noncomputable def nbZ (z : List UInt8) : Nat := if bZ z then hN z (P4 z) else 0
noncomputable def xbZ (z : List UInt8) : List UInt8 := if bZ z then hQ z (P4 z + 2) (hN z (P4 z)) else []
def TkZ (z : List UInt8) (pv ep : UInt64) (kd : Int) (l : List UInt64) (ls : List SealR) (bl : UInt64) (tg : List UInt8) : Prop :=
 (chZ z = true ∧ TkR (z.drop (P2 z)) pv ep kd l ls bl tg (tkN (z.drop (P2 z)))) ∨ (chZ z = false ∧ pv = 0 ∧ ep = 0 ∧ kd = 0 ∧ l = [] ∧ ls = [] ∧ bl = 0 ∧ tg = zr8 16)
def CRp (z : List UInt8) (rq : UInt64) (rk er : Int) (lj : List ItemR) (th : Bool) (pv ep : UInt64) (kd : Int) (l : List UInt64) (ls : List SealR) (bl : UInt64) (tg : List UInt8) (na : Nat) (xa : List UInt8) (nb : Nat) (xb : List UInt8) : Prop :=
 P5 z = z.length ∧ rq = vQ z 0 8 ∧ rk = rkZ z ∧ er = erZ z ∧ lj = ljZ z ∧ th = thZ z ∧ TkZ z pv ep kd l ls bl tg ∧ na = naZ z ∧ xa = xaZ z ∧ nb = nbZ z ∧ xb = xbZ z
def GRp (z : List UInt8) (rq : UInt64) (rk er : Int) (lj : List ItemR) (th : Bool) (pv ep : UInt64) (kd : Int) (l : List UInt64) (ls : List SealR) (bl : UInt64) (tg : List UInt8) (na : Nat) (xa : List UInt8) (nb : Nat) (xb : List UInt8) : Prop :=
 CRp z rq rk er lj th pv ep kd l ls bl tg na xa nb xb ∧ repR rk er th lj (blankB pv ep kd l ls bl tg) (decide (mayN pv ep kd l ls bl = 0)) na nb = true
def BadRp (z : List UInt8) : Prop := ∀ rq rk er lj th pv ep kd l ls bl tg na xa nb xb, ¬ GRp z rq rk er lj th pv ep kd l ls bl tg na xa nb xb
theorem TkZ.one {z : List UInt8} {pv ep : UInt64} {kd : Int} {l : List UInt64} {ls : List SealR} {bl : UInt64} {tg : List UInt8} {pv' ep' : UInt64} {kd' : Int} {l' : List UInt64} {ls' : List SealR} {bl' : UInt64} {tg' : List UInt8}
  (h : TkZ z pv ep kd l ls bl tg) (h' : TkZ z pv' ep' kd' l' ls' bl' tg') : pv = pv' ∧ ep = ep' ∧ kd = kd' ∧ l = l' ∧ ls = ls' ∧ bl = bl' ∧ tg = tg' := by
 rcases h with ⟨h1, hT⟩ | ⟨h1, rfl, rfl, rfl, rfl, rfl, rfl, rfl⟩ <;> rcases h' with ⟨h2, hT'⟩ | ⟨h2, rfl, rfl, rfl, rfl, rfl, rfl, rfl⟩
 ·
  obtain ⟨rfl, rfl, rfl, rfl, rfl, rfl, rfl, _⟩ := hT.one hT'
  exact ⟨rfl, rfl, rfl, rfl, rfl, rfl, rfl⟩
 ·
  rw [h1] at h2; exact absurd h2 (by decide)
 ·
  rw [h1] at h2; exact absurd h2 (by decide)
 ·
  exact ⟨rfl, rfl, rfl, rfl, rfl, rfl, rfl⟩
theorem BadRp.far {z : List UInt8} (h : P5 z ≠ z.length) : BadRp z := by
 intro rq rk er lj th pv ep kd l ls bl tg na xa nb xb hg
 exact h hg.1.1
theorem BadRp.of {z : List UInt8} {rq : UInt64} {rk er : Int} {lj : List ItemR} {th : Bool} {pv ep : UInt64} {kd : Int} {l : List UInt64} {ls : List SealR} {bl : UInt64} {tg : List UInt8} {na : Nat} {xa : List UInt8} {nb : Nat} {xb : List UInt8}
  (h : CRp z rq rk er lj th pv ep kd l ls bl tg na xa nb xb) (hb : repR rk er th lj (blankB pv ep kd l ls bl tg) (decide (mayN pv ep kd l ls bl = 0)) na nb = false) : BadRp z := by
 intro rq' rk' er' lj' th' pv' ep' kd' l' ls' bl' tg' na' xa' nb' xb' ⟨h', hr⟩
 obtain ⟨_, rfl, rfl, rfl, rfl, rfl, hT, rfl, rfl, rfl, rfl⟩ := h
 obtain ⟨_, rfl, rfl, rfl, rfl, rfl, hT', rfl, rfl, rfl, rfl⟩ := h'
 obtain ⟨rfl, rfl, rfl, rfl, rfl, rfl, rfl⟩ := hT.one hT'
 rw [hb] at hr
 exact absurd hr (by decide)
theorem P1_t {z : List UInt8} (h : itZ z = true) : P1 z = qI z 11 (nI z) := by unfold P1; rw [if_pos h]
theorem P1_f {z : List UInt8} (h : itZ z = false) : P1 z = 10 := by unfold P1; rw [if_neg (by rw [h]; decide)]
theorem ljZ_t {z : List UInt8} (h : itZ z = true) : ljZ z = itQ z 11 (nI z) := by unfold ljZ; rw [if_pos h]
theorem ljZ_f {z : List UInt8} (h : itZ z = false) : ljZ z = [] := by unfold ljZ; rw [if_neg (by rw [h]; decide)]
theorem P2_t {z : List UInt8} (h : F4 z = true) : P2 z = P1 z + fN z (P1 z) := by unfold P2; rw [if_pos h]
theorem P2_f {z : List UInt8} (h : F4 z = false) : P2 z = P1 z := by unfold P2; rw [if_neg (by rw [h]; decide)]
theorem thZ_t {z : List UInt8} (h : F4 z = true) : thZ z = fQ z (P1 z) := by unfold thZ; rw [h]; rfl
theorem thZ_f {z : List UInt8} (h : F4 z = false) : thZ z = false := by unfold thZ; rw [h]; rfl
theorem P3_t {z : List UInt8} (h : chZ z = true) : P3 z = P2 z + tkN (z.drop (P2 z)) := by unfold P3; rw [if_pos h]
theorem P3_f {z : List UInt8} (h : chZ z = false) : P3 z = P2 z := by unfold P3; rw [if_neg (by rw [h]; decide)]
theorem P4_t {z : List UInt8} (h : aZ z = true) : P4 z = P3 z + 2 + 32*hN z (P3 z) := by unfold P4; rw [if_pos h]
theorem P4_f {z : List UInt8} (h : aZ z = false) : P4 z = P3 z := by unfold P4; rw [if_neg (by rw [h]; decide)]
theorem P5_t {z : List UInt8} (h : bZ z = true) : P5 z = P4 z + 2 + 32*hN z (P4 z) := by unfold P5; rw [if_pos h]
theorem P5_f {z : List UInt8} (h : bZ z = false) : P5 z = P4 z := by unfold P5; rw [if_neg (by rw [h]; decide)]
theorem A_t {z : List UInt8} (h : aZ z = true) : naZ z = hN z (P3 z) ∧ xaZ z = hQ z (P3 z + 2) (hN z (P3 z)) := by unfold naZ xaZ; rw [if_pos h, if_pos h]; exact ⟨rfl, rfl⟩
theorem A_f {z : List UInt8} (h : aZ z = false) : naZ z = 0 ∧ xaZ z = [] := by unfold naZ xaZ; rw [if_neg (by rw [h]; decide), if_neg (by rw [h]; decide)]; exact ⟨rfl, rfl⟩
theorem B_t {z : List UInt8} (h : bZ z = true) : nbZ z = hN z (P4 z) ∧ xbZ z = hQ z (P4 z + 2) (hN z (P4 z)) := by unfold nbZ xbZ; rw [if_pos h, if_pos h]; exact ⟨rfl, rfl⟩
theorem B_f {z : List UInt8} (h : bZ z = false) : nbZ z = 0 ∧ xbZ z = [] := by unfold nbZ xbZ; rw [if_neg (by rw [h]; decide), if_neg (by rw [h]; decide)]; exact ⟨rfl, rfl⟩
theorem bB_ch {er rk : Int} {th : Bool} (h : chB er rk th = true) : bB er rk th = true := by
 unfold chB at h; unfold bB
 rw [Bool.and_eq_true] at h
 rw [h.1, h.2]; simp
theorem aB_ch {er rk : Int} {th : Bool} (h : chB er rk th = true) : aB er rk th = true := by
 unfold aB; rw [bB_ch h]
 unfold chB at h
 rw [Bool.and_eq_true, Bool.and_eq_true] at h
 have := of_decide_eq_true h.2.1
 rw [decide_eq_true (by omega)]; rfl
theorem F4_t {z : List UInt8} (h0 : decide (erZ z = 0) = true) (h4 : decide (rkZ z = 4) = true) : F4 z = true := by unfold F4; rw [h0, h4]; rfl
theorem F4_n0 {z : List UInt8} (h0 : decide (erZ z = 0) = false) : F4 z = false := by unfold F4; rw [h0]; rfl
theorem F4_n4 {z : List UInt8} (h4 : decide (rkZ z = 4) = false) : F4 z = false := by unfold F4; rw [h4, Bool.and_false]
theorem Gh.rdB {C : Cx} {L : List Ent} {w : World} (hw : Hp C.w0 C.M L w) {x : List UInt8} {cs : List Value} {g T : Nat} {fz : Nat × Nat} {a : Option Addr} (i : Nat) (hi : L[i]? = some ⟨g, cs, T, fz⟩) (h : Gh (cu8 x) g cs a) : RdB w [] a x := by
 rcases h with h | ⟨rfl, sp, rfl⟩
 ·
  have h2 := congrArg List.length h
  rw [cu8_length] at h2
  exact .inl (List.eq_nil_of_length_eq_zero h2)
 ·
  exact RdB.of hw (A0 i hi (AU (AG _))) (by simp)
theorem Gh.h0 {z0 : List UInt8} {p g : Nat} {cs : List Value} {a : Option Addr} : Gh (cu8 (hQ z0 p 0)) g cs a := .inl rfl
def Pick (L : List Ent) : List Nat → List Ent → Prop
 | [], [] => True
 | i :: is, e :: es => L[i]? = some e ∧ Pick L is es
 | _, _ => False
theorem Pick.mem {L : List Ent} : ∀ {is : List Nat} {es : List Ent}, Pick L is es → ∀ e ∈ es, ∃ i ∈ is, L[i]? = some e
 | [], [], _, e, he => by cases he
 | i :: is, x :: es, h, e, he => by
  rcases List.mem_cons.1 he with rfl | he
  ·
   exact ⟨i, List.mem_cons_self, h.1⟩
  ·
   obtain ⟨j, hj, hl⟩ := Pick.mem h.2 e he
   exact ⟨j, List.mem_cons_of_mem _ hj, hl⟩
 | [], _ :: _, h, _, _ => by cases h
 | _ :: _, [], h, e, he => by cases he
theorem Pick.nd {w0 w : World} {M : List Nat} {L : List Ent} (hp : Hp w0 M L w) : ∀ {is : List Nat} {es : List Ent}, Pick L is es → is.Nodup → (es.map Ent.b).Nodup
 | [], [], _, _ => List.nodup_nil
 | i :: is, x :: es, h, hn => by
  rw [List.map_cons, List.nodup_cons]
  obtain ⟨h1, h2⟩ := List.nodup_cons.1 hn
  refine ⟨fun hm => ?_, Pick.nd hp h.2 h2⟩
  obtain ⟨f, hf, hb⟩ := List.mem_map.1 hm
  obtain ⟨j, hj, hl⟩ := Pick.mem h.2 f hf
  obtain ⟨hlt, _⟩ := List.getElem?_eq_some_iff.1 hl
  have e : j = i := (List.getElem?_inj (by simpa using hlt) hp.nd).1 (by rw [List.getElem?_map, List.getElem?_map, hl, h.1]; simp [hb])
  subst e
  exact h1 hj
 | [], _ :: _, h, _ => by cases h
 | _ :: _, [], h, _ => by cases h
theorem Hp.pick {w0 w : World} {M : List Nat} {L : List Ent} (h : Hp w0 M L w) (is : List Nat) {es : List Ent} (hp : Pick L is es) (hn : is.Nodup) : Hp w0 M es w :=
 h.sub (fun e he => by obtain ⟨i, _, hi⟩ := Pick.mem hp e he; exact List.mem_of_getElem? hi) (Pick.nd h hp hn)
def reqT (sq : UInt64) (qk : Int) (niq : Nat) (lq : List UInt64) (fs : UInt64) (mn : Int) (pv ep : UInt64) (kd : Int) (l : List UInt64) (ls : List SealR) (bl : UInt64) (tg : List UInt8) (eq : UInt64) : List UInt8 :=
 if qk = 1 then (((numK 8 sq 8 ++ numK 1 (1:UInt64) 1) ++ numK 8 eq 8) ++ numK 1 (UInt64.ofNat (niq - 1)) 1) ++ idxT lq niq
 else if qk = 2 then (((numK 8 sq 8 ++ numK 1 (2:UInt64) 1) ++ numK 8 eq 8) ++ numK 4 fs 4) ++ numK 1 (UInt64.ofNat (mn.toNat - 1)) 1
 else if qk = 3 then (numK 8 sq 8 ++ numK 1 (3:UInt64) 1) ++ ((tktT pv ep kd.toNat l ls bl) ++ tg)
 else if qk = 4 then (numK 8 sq 8 ++ numK 1 (4:UInt64) 1) ++ numK 8 eq 8
 else (numK 8 sq 8 ++ numK 1 (5:UInt64) 1) ++ numK 8 eq 8
theorem q0 {z : List UInt8} {s : Nat} (hs : s ≤ 8) (h : s ≤ z.length) : numK s (vQ z 0 s) s = z.take s := by
 have := numK_q (z0 := z) (p := 0) (s := s) hs (by omega)
 rwa [List.take_zero, List.nil_append, Nat.zero_add] at this
theorem P1_ge (z : List UInt8) : 10 ≤ P1 z := by
 unfold P1; split
 ·
  have := qI_ge z 11 (nI z); omega
 ·
  omega
theorem P2_ge (z : List UInt8) : P1 z ≤ P2 z := by unfold P2; split <;> omega
theorem P3_ge (z : List UInt8) : P2 z ≤ P3 z := by unfold P3; split <;> omega
theorem P4_ge (z : List UInt8) : P3 z ≤ P4 z := by unfold P4; split <;> omega
theorem P5_ge (z : List UInt8) : P4 z ≤ P5 z := by unfold P5; split <;> omega
theorem BadRp.short {z : List UInt8} (h : z.length < 10) : BadRp z := BadRp.far (fun e => by
 have h1 := P1_ge z
 have h2 := P2_ge z
 have h3 := P3_ge z
 have h4 := P4_ge z
 have h5 := P5_ge z
 omega)
theorem BadRq.nil : BadRq [] := BadRq.of (RqR.k0 (z := []) (by rw [vQ_neg (by decide)]; decide) (by rw [vQ_neg (by decide)]; decide) (by rw [vQ_neg (by decide)]; decide)) (fun e => absurd e (by decide))
theorem GRq.right {z : List UInt8} {sq : UInt64} {qk : Int} {lq : List UInt64} {fs : UInt64} {mn : Int} {pv ep : UInt64} {kd : Int} {l : List UInt64} {ls : List SealR} {bl : UInt64} {tg : List UInt8} {eq : UInt64}
  (hg : GRq z sq qk lq fs mn pv ep kd l ls bl tg eq) : reqR qk lq fs mn eq (blankB pv ep kd l ls bl tg) (decide (mayN pv ep kd l ls bl = 0)) = true := hg.2
theorem GRp.right {z : List UInt8} {rq : UInt64} {rk er : Int} {lj : List ItemR} {th : Bool} {pv ep : UInt64} {kd : Int} {l : List UInt64} {ls : List SealR} {bl : UInt64} {tg : List UInt8} {na : Nat} {xa : List UInt8} {nb : Nat} {xb : List UInt8}
  (hg : GRp z rq rk er lj th pv ep kd l ls bl tg na xa nb xb) : repR rk er th lj (blankB pv ep kd l ls bl tg) (decide (mayN pv ep kd l ls bl = 0)) na nb = true := hg.2
end Go.Proofs.YtkdpdgpphpngeaaDoor
namespace Go.Proofs.YtkdpdgpphpngeaaDoor
open Go Go.Sx
open Go.Value renaming slice → SL
theorem idx_split (l : List UInt64) {i : Nat} : ∀ n, i < n → ∃ r, idxT l n = idxT l i ++ (numK 4 (g64 l i) 4 ++ r)
 | n + 1, h => by
  by_cases hi : i < n
  ·
   obtain ⟨r, hr⟩ := idx_split l n hi
   exact ⟨r ++ numK 4 (g64 l n) 4, by rw [idxT_succ, hr, List.append_assoc, List.append_assoc]⟩
  ·
   obtain rfl : i = n := by omega
   exact ⟨[], by rw [idxT_succ, List.append_nil]⟩
theorem shr_fit {x : UInt64} {s : Nat} (hs : s ≤ 7) (h : x >>> UInt64.ofNat (8*s) = 0) : x.toNat / 256 ^ s = 0 := by
 rw [← shr_divK x s hs, h]; rfl
theorem fit8 (x : UInt64) : x.toNat / 256 ^ 8 = 0 := Nat.div_eq_of_lt (UInt64.toNat_lt x)
theorem fit1 {n : Nat} (h : n < 256) : (UInt64.ofNat n).toNat / 256 ^ 1 = 0 := by
 rw [UInt64.toNat_ofNat', Nat.mod_eq_of_lt (by omega)]
 exact Nat.div_eq_of_lt h
theorem ixQ_back {z0 : List UInt8} {l : List UInt64} {A B : List UInt8} (hz : z0 = A ++ (idxT l l.length ++ B)) {p : Nat} (hA : A.length = p) (hR : RightI l) : ∀ i, i ≤ l.length → ixQ z0 p i = l.take i
 | 0, _ => by simp [ixQ]
 | i + 1, h => by
  obtain ⟨r, hr⟩ := idx_split l l.length (i := i) (by omega)
  have e : vQ z0 (p + 4*i) 4 = g64 l i := by
   refine FF (a := A ++ idxT l i) (b := r ++ B) ?_ (by rw [List.length_append, idxT_len, hA]) (by omega) (shr_fit (by omega) (idx_fit hR (by omega)))
   rw [hz, hr]; simp [List.append_assoc]
  rw [ixQ_succ, ixQ_back hz hA hR i (by omega), e]
  exact EZ (E0 (by omega))
theorem seQ_back {z0 : List UInt8} {ls : List SealR} {A B : List UInt8} (hz : z0 = A ++ (selT ls ++ B)) {p : Nat} (hA : A.length = p) : ∀ j, j ≤ ls.length → seQ z0 p j = ls.take j
 | 0, _ => by simp [seQ]
 | j + 1, h => by
  obtain ⟨x, hx⟩ : ∃ x, ls[j]? = some x := ⟨_, List.getElem?_eq_getElem (by omega)⟩
  have hs : selT ls = selT (ls.take j) ++ ((numK 8 x.e 8 ++ (x.d ++ x.t)) ++ selT (ls.drop (j + 1))) := by
   have h0 : ls.drop j = x :: ls.drop (j + 1) := by
    obtain ⟨hj, he⟩ := List.getElem?_eq_some_iff.1 hx
    rw [List.drop_eq_getElem_cons hj, he]
   have h1 : ls = ls.take j ++ x :: ls.drop (j + 1) := by
    rw [← h0]; exact (List.take_append_drop j ls).symm
   have h2 : selT (ls.take j ++ x :: ls.drop (j + 1)) = selT (ls.take j) ++ (putL x.e x.d x.t ++ selT (ls.drop (j + 1))) := by
    unfold selT; rw [List.flatMap_append, List.flatMap_cons]
   rw [← h1] at h2
   rw [h2]; unfold putL; simp [List.append_assoc]
  have hl : (A ++ selT (ls.take j)).length = p + 56*j := by
   rw [List.length_append, selT_len, hA, List.length_take]; omega
  have e1 : vQ z0 (p + 56*j) 8 = x.e := by
   refine FF (a := A ++ selT (ls.take j)) (b := x.d ++ (x.t ++ (selT (ls.drop (j + 1)) ++ B))) ?_ hl (by omega) (fit8 _)
   rw [hz, hs]; simp [List.append_assoc]
  have e2 : bQ z0 (p + 56*j + 8) 32 = x.d := by
   refine bQ_at (a := (A ++ selT (ls.take j)) ++ numK 8 x.e 8) (b := x.t ++ (selT (ls.drop (j + 1)) ++ B)) ?_ (by rw [List.length_append, hl, BI]) x.hd
   rw [hz, hs]; simp [List.append_assoc]
  have e3 : bQ z0 (p + 56*j + 40) 16 = x.t := by
   refine bQ_at (a := ((A ++ selT (ls.take j)) ++ numK 8 x.e 8) ++ x.d) (b := selT (ls.drop (j + 1)) ++ B) ?_ (by rw [List.length_append, List.length_append, hl, BI, x.hd]) x.ht
   rw [hz, hs]; simp [List.append_assoc]
  have e : sQ z0 (p + 56*j) = x := (SealR.eq_iff _ _).2 ⟨e1, e2, e3⟩
  rw [seQ_succ, seQ_back hz hA j (by omega), e]
  exact EZ hx
theorem back3 {z0 tg : List UInt8} {pv ep bl : UInt64} (hz : z0 = tktT pv ep 3 [] [] bl ++ tg) (ht : tg.length = 16) (hm : mayN pv ep 3 [] [] bl = 0) :
  Ok3 z0 ∧ vQ z0 0 8 = pv ∧ vQ z0 8 8 = ep ∧ (vQ z0 16 1).toNat = 3 ∧ vQ z0 17 8 = bl ∧ bQ z0 25 16 = tg ∧ z0.length = 41 := by
 have hT : tktT pv ep 3 [] [] bl = ((numK 8 pv 8 ++ numK 8 ep 8) ++ numK 1 (UInt64.ofNat 3) 1) ++ numK 8 bl 8 := if_pos rfl
 rw [hT] at hz
 have e0 : vQ z0 0 8 = pv := FF (a := []) (b := numK 8 ep 8 ++ (numK 1 (UInt64.ofNat 3) 1 ++ (numK 8 bl 8 ++ tg))) (by rw [hz]; simp [List.append_assoc]) rfl (by omega) (fit8 _)
 have e1 : vQ z0 8 8 = ep := FF (a := numK 8 pv 8) (b := numK 1 (UInt64.ofNat 3) 1 ++ (numK 8 bl 8 ++ tg)) (by rw [hz]; simp [List.append_assoc]) (by rw [BI]) (by omega) (fit8 _)
 have e2 : vQ z0 16 1 = UInt64.ofNat 3 := FF (a := numK 8 pv 8 ++ numK 8 ep 8) (b := numK 8 bl 8 ++ tg) (by rw [hz]; simp [List.append_assoc]) (by simp [BI]) (by omega) (fit1 (by omega))
 have e3 : vQ z0 17 8 = bl := FF (a := (numK 8 pv 8 ++ numK 8 ep 8) ++ numK 1 (UInt64.ofNat 3) 1) (b := tg) (by rw [hz]; simp [List.append_assoc]) (by simp [BI]) (by omega) (fit8 _)
 have e4 : bQ z0 25 16 = tg := bQ_at (a := ((numK 8 pv 8 ++ numK 8 ep 8) ++ numK 1 (UInt64.ofNat 3) 1) ++ numK 8 bl 8) (b := []) (by rw [hz, List.append_nil]) (by simp [BI]) ht
 have hl : z0.length = 41 := by rw [hz]; simp [BI, ht]
 exact ⟨⟨by rw [e2]; rfl, by omega, by rw [e0, e1, e2, e3]; exact hm⟩, e0, e1, by rw [e2]; rfl, e3, e4, hl⟩
theorem back12 {z0 tg : List UInt8} {pv ep bl : UInt64} {k : Nat} {l : List UInt64} {ls : List SealR} (hz : z0 = tktT pv ep k l ls bl ++ tg) (ht : tg.length = 16) (hk : k = 1 ∨ k = 2) (hm : mayN pv ep (k:Int) l ls bl = 0) {ni ns : Nat} (hl : l.length = ni) (hls : ls.length = ns) :
  vQ z0 0 8 = pv ∧ vQ z0 8 8 = ep ∧ vQ z0 16 1 = UInt64.ofNat k ∧ mQ z0 = ni ∧ ixQ z0 18 ni = l ∧ seQ z0 (4*ni + 18) ns = ls ∧ bQ z0 (56*ns + 4*ni + 18) 16 = tg ∧ z0.length = 56*ns + 4*ni + 34 := by
 have hR := RightO_idx (mayN_right hm) (by omega)
 have hp := RightI_pos hR
 have hT : tktT pv ep k l ls bl = ((((numK 8 pv 8 ++ numK 8 ep 8) ++ numK 1 (UInt64.ofNat k) 1) ++ numK 1 (UInt64.ofNat (l.length - 1)) 1) ++ idxT l l.length) ++ selT ls := if_neg (by omega)
 rw [hT] at hz
 have hA : ((((numK 8 pv 8 ++ numK 8 ep 8) ++ numK 1 (UInt64.ofNat k) 1) ++ numK 1 (UInt64.ofNat (l.length - 1)) 1)).length = 18 := by simp [BI]
 have e0 : vQ z0 0 8 = pv := FF (a := []) (b := numK 8 ep 8 ++ (numK 1 (UInt64.ofNat k) 1 ++ (numK 1 (UInt64.ofNat (l.length - 1)) 1 ++ (idxT l l.length ++ (selT ls ++ tg))))) (by rw [hz]; simp [List.append_assoc]) rfl (by omega) (fit8 _)
 have e1 : vQ z0 8 8 = ep := FF (a := numK 8 pv 8) (b := numK 1 (UInt64.ofNat k) 1 ++ (numK 1 (UInt64.ofNat (l.length - 1)) 1 ++ (idxT l l.length ++ (selT ls ++ tg)))) (by rw [hz]; simp [List.append_assoc]) (by rw [BI]) (by omega) (fit8 _)
 have e2 : vQ z0 16 1 = UInt64.ofNat k := FF (a := numK 8 pv 8 ++ numK 8 ep 8) (b := numK 1 (UInt64.ofNat (l.length - 1)) 1 ++ (idxT l l.length ++ (selT ls ++ tg))) (by rw [hz]; simp [List.append_assoc]) (by simp [BI]) (by omega) (fit1 (by omega))
 have e3 : vQ z0 17 1 = UInt64.ofNat (l.length - 1) := FF (a := (numK 8 pv 8 ++ numK 8 ep 8) ++ numK 1 (UInt64.ofNat k) 1) (b := idxT l l.length ++ (selT ls ++ tg)) (by rw [hz]; simp [List.append_assoc]) (by simp [BI]) (by omega) (fit1 (by omega))
 have e4 : mQ z0 = ni := by
  rw [mQ_eq, e3, UInt64.toNat_ofNat', Nat.mod_eq_of_lt (by omega)]; omega
 have e5 : ixQ z0 18 ni = l := by
  have := ixQ_back (z0 := z0) (l := l) (B := selT ls ++ tg) (by rw [hz, List.append_assoc, List.append_assoc]) hA hR ni (by omega)
  rw [this, List.take_of_length_le (by omega)]
 have e6 : seQ z0 (4*ni + 18) ns = ls := by
  have := seQ_back (z0 := z0) (ls := ls) (A := (((((numK 8 pv 8 ++ numK 8 ep 8) ++ numK 1 (UInt64.ofNat k) 1) ++ numK 1 (UInt64.ofNat (l.length - 1)) 1)) ++ idxT l l.length)) (B := tg) (p := 4*ni + 18) (by rw [hz, List.append_assoc]) (by rw [List.length_append, hA, idxT_len]; omega) ns (by omega)
  rw [this, List.take_of_length_le (by omega)]
 have e7 : bQ z0 (56*ns + 4*ni + 18) 16 = tg := bQ_at (a := _) (b := []) (by rw [hz, List.append_nil]) (by rw [List.length_append, List.length_append, hA, idxT_len, selT_len]; omega) ht
 have hl2 : z0.length = 56*ns + 4*ni + 34 := by rw [hz, List.length_append, List.length_append, List.length_append, hA, idxT_len, selT_len, ht]; omega
 exact ⟨e0, e1, e2, e4, e5, e6, e7, hl2⟩
theorem RightO_bl {kd : Int} {l : List UInt64} {ls : List SealR} {bl : UInt64} (h : RightO kd l ls bl = true) (hk : kd = 1 ∨ kd = 2) : bl = 0 := by
 unfold RightO at h
 rcases hk with rfl | rfl
 ·
  rw [if_pos rfl] at h
  simp only [Bool.and_eq_true, decide_eq_true_eq] at h
  exact h.1
 ·
  rw [if_neg (by decide), if_pos rfl] at h
  simp only [Bool.and_eq_true, decide_eq_true_eq] at h
  exact h.1
theorem back2 {z0 tg : List UInt8} {pv ep bl : UInt64} {l : List UInt64} {ni : Nat} (hz : z0 = tktT pv ep 2 l [] bl ++ tg) (ht : tg.length = 16) (hm : mayN pv ep 2 l [] bl = 0) (hl : l.length = ni) :
  Ok2 z0 ∧ vQ z0 0 8 = pv ∧ vQ z0 8 8 = ep ∧ (vQ z0 16 1).toNat = 2 ∧ mQ z0 = ni ∧ ixQ z0 18 ni = l ∧ bQ z0 (4*ni + 18) 16 = tg ∧ z0.length = 4*ni + 34 ∧ bl = 0 := by
 obtain ⟨e0, e1, e2, e3, e4, _, e6, e7⟩ := back12 hz ht (.inr rfl) hm hl (ls := []) (ns := 0) rfl
 have hb : bl = 0 := RightO_bl (mayN_right hm) (.inr rfl)
 rw [show 56*0 + 4*ni + 18 = 4*ni + 18 by omega] at e6
 exact ⟨⟨by rw [e2]; rfl, by omega, by rw [e0, e1, e2, e3, e4, ← hb]; exact hm⟩, e0, e1, by rw [e2]; rfl, e3, e4, e6, by omega, hb⟩
theorem back1 {z0 tg : List UInt8} {pv ep bl : UInt64} {l : List UInt64} {ls : List SealR} {ni : Nat} (hz : z0 = tktT pv ep 1 l ls bl ++ tg) (ht : tg.length = 16) (hm : mayN pv ep 1 l ls bl = 0) (hl : l.length = ni) (hls : ls.length = ni) :
  Ok1 z0 ∧ vQ z0 0 8 = pv ∧ vQ z0 8 8 = ep ∧ (vQ z0 16 1).toNat = 1 ∧ mQ z0 = ni ∧ ixQ z0 18 ni = l ∧ seQ z0 (4*ni + 18) ni = ls ∧ bQ z0 (60*ni + 18) 16 = tg ∧ z0.length = 60*ni + 34 ∧ bl = 0 := by
 obtain ⟨e0, e1, e2, e3, e4, e5, e6, e7⟩ := back12 hz ht (.inl rfl) hm hl hls
 have hb : bl = 0 := RightO_bl (mayN_right hm) (.inl rfl)
 rw [show 56*ni + 4*ni + 18 = 60*ni + 18 by omega] at e6
 exact ⟨⟨by rw [e2]; rfl, by omega, by rw [e0, e1, e2, e3, e4, e5, ← hb]; exact hm⟩, e0, e1, by rw [e2]; rfl, e3, e4, e5, e6, by omega, hb⟩
end Go.Proofs.YtkdpdgpphpngeaaDoor
namespace Go.Proofs.YtkdpdgpphpngeaaDoor
open Go Go.Sx Go.RowKit
open Go.Value renaming slice → SL
open Go.ChangeShapes Go.WideShapes
theorem valK_app (x b : List UInt8) : ∀ k, k ≤ x.length → valK (x ++ b) k = valK x k
 | 0, _ => rfl
 | k + 1, h => by
  show (valK (x ++ b) k <<< 8) ||| (g8 (x ++ b) k).toUInt64 = (valK x k <<< 8) ||| (g8 x k).toUInt64
  rw [valK_app x b k (by omega), g8_app, if_pos (by omega)]
theorem ER {a b : List UInt8} {p s : Nat} (h : p + s ≤ a.length) : vQ (a ++ b) p s = vQ a p s := by
 unfold vQ
 rw [if_pos (by rw [List.length_append]; omega), if_pos h, List.drop_append_of_le_length (by omega), valK_app _ _ _ (by rw [List.length_drop]; omega)]
theorem bQ_pre {a b : List UInt8} {p s : Nat} (h : p + s ≤ a.length) : bQ (a ++ b) p s = bQ a p s := by
 unfold bQ
 rw [if_pos (by rw [List.length_append]; omega), if_pos h, List.drop_append_of_le_length (by omega)]
 unfold mid
 rw [List.drop_zero, List.drop_zero, List.take_append_of_le_length (by rw [List.length_drop]; omega)]
theorem ixQ_pre {a b : List UInt8} {p : Nat} : ∀ n, p + 4*n ≤ a.length → ixQ (a ++ b) p n = ixQ a p n
 | 0, _ => rfl
 | n + 1, h => by rw [ixQ_succ, ixQ_succ, ixQ_pre n (by omega), ER (by omega)]
theorem sQ_pre {a b : List UInt8} {p : Nat} (h : p + 56 ≤ a.length) : sQ (a ++ b) p = sQ a p := by
 unfold sQ
 congr 1
 ·
  exact ER (by omega)
 ·
  exact bQ_pre (by omega)
 ·
  exact bQ_pre (by omega)
theorem seQ_pre {a b : List UInt8} {p : Nat} : ∀ n, p + 56*n ≤ a.length → seQ (a ++ b) p n = seQ a p n
 | 0, _ => rfl
 | n + 1, h => by rw [seQ_succ, seQ_succ, seQ_pre n (by omega), sQ_pre (by omega)]
theorem TkR.app {a : List UInt8} (b : List UInt8) {pv ep : UInt64} {kd : Int} {l : List UInt64} {ls : List SealR} {bl : UInt64} {tg : List UInt8} {tot : Nat} (h : TkR a pv ep kd l ls bl tg tot) (ht : tot ≤ a.length) :
  TkR (a ++ b) pv ep kd l ls bl tg tot := by
 have hl : (a ++ b).length = a.length + b.length := List.length_append
 rcases h with ⟨h0, rfl, rfl, rfl, rfl, rfl, rfl, rfl, rfl⟩ | ⟨h0, rfl, rfl, rfl, rfl, rfl, rfl, rfl, rfl⟩ | ⟨h0, rfl, rfl, rfl, rfl, rfl, rfl, rfl, rfl⟩ | ⟨h0, rfl, rfl, rfl, rfl, rfl, rfl, rfl, rfl⟩
 ·
  obtain ⟨h1, h2, h3⟩ := h0
  refine .inl ⟨⟨by rw [ER (by omega)]; exact h1, by omega, ?_⟩, ?_, ?_, ?_, rfl, rfl, ?_, ?_, rfl⟩
  ·
   rw [ER (by omega), ER (by omega), ER (by omega), ER (by omega)]; exact h3
  ·
   rw [ER (by omega)]
  ·
   rw [ER (by omega)]
  ·
   rw [ER (by omega)]
  ·
   rw [ER (by omega)]
  ·
   rw [bQ_pre (by omega)]
 ·
  have hm : mQ (a ++ b) = mQ a := by unfold mQ; rw [ER (by omega)]
  obtain ⟨h1, h2, h3⟩ := h0
  refine .inr (.inl ⟨⟨by rw [ER (by omega)]; exact h1, by omega, ?_⟩, ?_, ?_, ?_, ?_, rfl, rfl, ?_, by rw [hm]⟩)
  ·
   rw [hm, ER (by omega), ER (by omega), ER (by omega), ixQ_pre _ (by omega)]; exact h3
  ·
   rw [ER (by omega)]
  ·
   rw [ER (by omega)]
  ·
   rw [ER (by omega)]
  ·
   rw [hm, ixQ_pre _ (by omega)]
  ·
   rw [hm, bQ_pre (by omega)]
 ·
  have hm : mQ (a ++ b) = mQ a := by unfold mQ; rw [ER (by omega)]
  obtain ⟨h1, h2, h3⟩ := h0
  refine .inr (.inr (.inl ⟨⟨by rw [ER (by omega)]; exact h1, by omega, ?_⟩, ?_, ?_, ?_, ?_, ?_, rfl, ?_, by rw [hm]⟩))
  ·
   rw [hm, ER (by omega), ER (by omega), ER (by omega), ixQ_pre _ (by omega), seQ_pre _ (by omega)]; exact h3
  ·
   rw [ER (by omega)]
  ·
   rw [ER (by omega)]
  ·
   rw [ER (by omega)]
  ·
   rw [hm, ixQ_pre _ (by omega)]
  ·
   rw [hm, seQ_pre _ (by omega)]
  ·
   rw [hm, bQ_pre (by omega)]
 ·
  omega
theorem intN {x : UInt64} {k : Nat} (h : x.toNat = k) : (k:Int) = ((x.toNat:Int)) := by rw [h]
theorem tkt_R {pv ep : UInt64} {kd : Int} {l : List UInt64} {ls : List SealR} {bl : UInt64} {tg : List UInt8} (hm : mayN pv ep kd l ls bl = 0) (ht : tg.length = 16) :
  TkR (tktT pv ep kd.toNat l ls bl ++ tg) pv ep kd l ls bl tg (tktT pv ep kd.toNat l ls bl ++ tg).length := by
 rcases RightO_cases (mayN_right hm) with ⟨rfl, h1, h2⟩ | ⟨rfl, h1, h2⟩ | ⟨rfl, h1, h2⟩
 ·
  show TkR (tktT pv ep 1 l ls bl ++ tg) _ _ _ _ _ _ _ (tktT pv ep 1 l ls bl ++ tg).length
  obtain ⟨h0, e0, e1, e2, e3, e4, e5, e6, e7, e8⟩ := back1 (z0 := tktT pv ep 1 l ls bl ++ tg) rfl ht hm rfl h2
  subst e8
  refine .inr (.inr (.inl ⟨h0, e0.symm, e1.symm, intN e2, ?_, ?_, rfl, ?_, ?_⟩))
  ·
   rw [e3]; exact e4.symm
  ·
   rw [e3]; exact e5.symm
  ·
   rw [e3]; exact e6.symm
  ·
   rw [e3]; exact e7
 ·
  obtain rfl : ls = [] := List.eq_nil_of_length_eq_zero h2
  show TkR (tktT pv ep 2 l [] bl ++ tg) _ _ _ _ _ _ _ (tktT pv ep 2 l [] bl ++ tg).length
  obtain ⟨h0, e0, e1, e2, e3, e4, e5, e6, e7⟩ := back2 (z0 := tktT pv ep 2 l [] bl ++ tg) rfl ht hm rfl
  subst e7
  refine .inr (.inl ⟨h0, e0.symm, e1.symm, intN e2, ?_, rfl, rfl, ?_, ?_⟩)
  ·
   rw [e3]; exact e4.symm
  ·
   rw [e3]; exact e5.symm
  ·
   rw [e3]; exact e6
 ·
  obtain rfl : l = [] := List.eq_nil_of_length_eq_zero h1
  obtain rfl : ls = [] := List.eq_nil_of_length_eq_zero h2
  show TkR (tktT pv ep 3 [] [] bl ++ tg) _ _ _ _ _ _ _ (tktT pv ep 3 [] [] bl ++ tg).length
  obtain ⟨h0, e0, e1, e2, e3, e4, e5⟩ := back3 (z0 := tktT pv ep 3 [] [] bl ++ tg) rfl ht hm
  exact .inl ⟨h0, e0.symm, e1.symm, intN e2, rfl, rfl, e3.symm, e4.symm, e5⟩
theorem drop_at {z A B : List UInt8} {p : Nat} (hz : z = A ++ B) (hA : A.length = p) : z.drop p = B := by subst hz; exact List.drop_left' hA
theorem blank_all {pv ep : UInt64} {kd : Int} {l : List UInt64} {ls : List SealR} {bl : UInt64} {tg : List UInt8} (h : blankB pv ep kd l ls bl tg = true) : pv = 0 ∧ ep = 0 ∧ tg = zr8 16 ∧ kd = 0 ∧ bl = 0 ∧ l = [] ∧ ls = [] := of_decide_eq_true h
theorem fit4 {x : UInt64} (h : x >>> UInt64.ofNat (8 * 4) = 0) : x.toNat / 256 ^ 4 = 0 := shr_fit (s := 4) (by omega) h
theorem GRq.put {sq : UInt64} {qk : Int} {niq : Nat} {lq : List UInt64} {fs : UInt64} {mn : Int} {pv ep : UInt64} {kd : Int} {l : List UInt64} {ls : List SealR} {bl : UInt64} {tg : List UInt8} {eq : UInt64}
  (hR : reqR qk lq fs mn eq (blankB pv ep kd l ls bl tg) (decide (mayN pv ep kd l ls bl = 0)) = true) (hl : lq.length = niq) (ht : tg.length = 16) :
  GRq (reqT sq qk niq lq fs mn pv ep kd l ls bl tg eq) sq qk lq fs mn pv ep kd l ls bl tg eq := by
 refine ⟨?_, hR⟩
 by_cases h3 : qk = 3
 ·
  subst h3
  have hm := of_decide_eq_true (reqR_three hR)
  have hz : ∀ z, z = reqT sq 3 niq lq fs mn pv ep kd l ls bl tg eq → z = (numK 8 sq 8 ++ numK 1 (3:UInt64) 1) ++ (tktT pv ep kd.toNat l ls bl ++ tg) := fun z h => by
   rw [h]; unfold reqT; rw [if_neg (by decide), if_neg (by decide), if_pos rfl]
  generalize reqT sq 3 niq lq fs mn pv ep kd l ls bl tg eq = z at hz
  replace hz := hz z rfl
  have e0 : vQ z 0 8 = sq := FF (a := []) (b := numK 1 (3:UInt64) 1 ++ (tktT pv ep kd.toNat l ls bl ++ tg)) (by rw [hz, List.append_assoc]; rfl) rfl (by omega) (fit8 _)
  have e8 : vQ z 8 1 = 3 := FF (a := numK 8 sq 8) (b := tktT pv ep kd.toNat l ls bl ++ tg) (by rw [hz, List.append_assoc]) (BI _ _ _) (by omega) (by decide)
  have ed : z.drop 9 = tktT pv ep kd.toNat l ls bl ++ tg := drop_at hz (by simp [BI])
  have el : z.length = 9 + (tktT pv ep kd.toNat l ls bl ++ tg).length := by rw [hz, List.length_append]; simp only [List.length_append, BI]
  unfold reqR at hR
  rw [if_neg (by decide), if_neg (by decide), if_pos rfl] at hR
  simp only [Bool.and_eq_true, decide_eq_true_eq] at hR
  obtain ⟨a1, ⟨a2, a3⟩, a4, _⟩ := hR
  exact ⟨e0.symm, by rw [e8]; rfl, .inl ⟨e8, List.eq_nil_of_length_eq_zero a1, a2, a3, a4, _, by rw [ed]; exact tkt_R hm ht, el⟩⟩
 ·
  obtain ⟨hb, hk⟩ := reqR_blank hR h3
  obtain ⟨rfl, rfl, rfl, rfl, rfl, rfl, rfl⟩ := blank_all hb
  rcases hk with rfl | rfl | rfl | rfl
  ·
   have hI := reqR_one hR
   have hp := RightI_pos hI
   have hz : ∀ z, z = reqT sq 1 niq lq fs mn 0 0 0 [] [] 0 (zr8 16) eq → z = numK 8 sq 8 ++ (numK 1 (1:UInt64) 1 ++ (numK 8 eq 8 ++ (numK 1 (UInt64.ofNat (niq - 1)) 1 ++ idxT lq niq))) := fun z h => by
    rw [h]; unfold reqT; rw [if_pos rfl]; simp only [List.append_assoc]
   generalize reqT sq 1 niq lq fs mn 0 0 0 [] [] 0 (zr8 16) eq = z at hz
   replace hz := hz z rfl
   have e0 : vQ z 0 8 = sq := FF (a := []) (b := _) hz rfl (by omega) (fit8 _)
   have e8 : vQ z 8 1 = 1 := FF (a := numK 8 sq 8) (b := _) hz (BI _ _ _) (by omega) (by decide)
   have e9 : vQ z 9 8 = eq := FF (a := numK 8 sq 8 ++ numK 1 (1:UInt64) 1) (b := (numK 1 (UInt64.ofNat (niq - 1)) 1 ++ idxT lq niq)) (by rw [hz]; simp only [List.append_assoc]) (by simp [BI]) (by omega) (fit8 _)
   have e17 : vQ z 17 1 = UInt64.ofNat (niq - 1) := FF (a := (numK 8 sq 8 ++ numK 1 (1:UInt64) 1) ++ numK 8 eq 8) (b := idxT lq niq) (by rw [hz]; simp only [List.append_assoc]) (by simp [BI]) (by omega) (fit1 (by omega))
   have em : mQ z = niq := by rw [mQ_eq, e17, UInt64.toNat_ofNat', Nat.mod_eq_of_lt (by omega)]; omega
   have ei : ixQ z 18 niq = lq := by
    have h := ixQ_back (z0 := z) (l := lq) (A := ((numK 8 sq 8 ++ numK 1 (1:UInt64) 1) ++ numK 8 eq 8) ++ numK 1 (UInt64.ofNat (niq - 1)) 1) (B := []) (p := 18) (by rw [hz, hl, List.append_nil]; simp only [List.append_assoc]) (by simp [BI]) hI niq (by omega)
    rw [h, List.take_of_length_le (by omega)]
   have el : z.length = 4*niq + 18 := by rw [hz]; simp [BI, idxT_len]; omega
   unfold reqR at hR
   rw [if_pos rfl] at hR
   simp only [Bool.and_eq_true, decide_eq_true_eq] at hR
   obtain ⟨⟨a1, a2⟩, _⟩ := hR
   exact ⟨e0.symm, by rw [e8]; rfl, .inr ⟨by rw [e8]; decide, rfl, rfl, rfl, rfl, rfl, rfl, rfl, e9.symm, .inl ⟨e8, by rw [em]; exact ei.symm, a1, a2, by rw [em]; exact el⟩⟩⟩
  ·
   have hs := reqR_two hR
   have hn := span_nn hs
   obtain ⟨m, rfl⟩ : ∃ m : Nat, mn = m := ⟨mn.toNat, by omega⟩
   have hz : ∀ z, z = reqT sq 2 niq lq fs (m:Int) 0 0 0 [] [] 0 (zr8 16) eq → z = numK 8 sq 8 ++ (numK 1 (2:UInt64) 1 ++ (numK 8 eq 8 ++ (numK 4 fs 4 ++ numK 1 (UInt64.ofNat (m - 1)) 1))) := fun z h => by
    rw [h]; unfold reqT; rw [if_neg (by decide), if_pos rfl]; simp only [List.append_assoc, Int.toNat_natCast]
   generalize reqT sq 2 niq lq fs (m:Int) 0 0 0 [] [] 0 (zr8 16) eq = z at hz
   replace hz := hz z rfl
   have e0 : vQ z 0 8 = sq := FF (a := []) (b := _) hz rfl (by omega) (fit8 _)
   have e8 : vQ z 8 1 = 2 := FF (a := numK 8 sq 8) (b := _) hz (BI _ _ _) (by omega) (by decide)
   have e9 : vQ z 9 8 = eq := FF (a := numK 8 sq 8 ++ numK 1 (2:UInt64) 1) (b := numK 4 fs 4 ++ numK 1 (UInt64.ofNat (m - 1)) 1) (by rw [hz]; simp only [List.append_assoc]) (by simp [BI]) (by omega) (fit8 _)
   have e17 : vQ z 17 4 = fs := FF (a := (numK 8 sq 8 ++ numK 1 (2:UInt64) 1) ++ numK 8 eq 8) (b := numK 1 (UInt64.ofNat (m - 1)) 1) (by rw [hz]; simp only [List.append_assoc]) (by simp [BI]) (by omega) (fit4 (span_fit hs))
   have e21 : vQ z 21 1 = UInt64.ofNat (m - 1) := FF (a := ((numK 8 sq 8 ++ numK 1 (2:UInt64) 1) ++ numK 8 eq 8) ++ numK 4 fs 4) (b := []) (by rw [hz, List.append_nil]; simp only [List.append_assoc]) (by simp [BI]) (by omega) (fit1 (by omega))
   have el : z.length = 22 := by rw [hz]; simp [BI]
   unfold reqR at hR
   rw [if_neg (by decide), if_pos rfl] at hR
   simp only [Bool.and_eq_true, decide_eq_true_eq] at hR
   exact ⟨e0.symm, by rw [e8]; rfl, .inr ⟨by rw [e8]; decide, rfl, rfl, rfl, rfl, rfl, rfl, rfl, e9.symm, .inr (.inl ⟨e8, List.eq_nil_of_length_eq_zero hR.1, e17.symm, by rw [e21, UInt64.toNat_ofNat', Nat.mod_eq_of_lt (by omega)]; omega, el⟩)⟩⟩
  ·
   have hz : ∀ z, z = reqT sq 4 niq lq fs mn 0 0 0 [] [] 0 (zr8 16) eq → z = numK 8 sq 8 ++ (numK 1 (4:UInt64) 1 ++ (numK 8 eq 8 ++ [])) := fun z h => by
    rw [h]; unfold reqT; rw [if_neg (by decide), if_neg (by decide), if_neg (by decide), if_pos rfl]; simp only [List.append_assoc, List.append_nil]
   generalize reqT sq 4 niq lq fs mn 0 0 0 [] [] 0 (zr8 16) eq = z at hz
   replace hz := hz z rfl
   have e0 : vQ z 0 8 = sq := FF (a := []) (b := _) hz rfl (by omega) (fit8 _)
   have e8 : vQ z 8 1 = 4 := FF (a := numK 8 sq 8) (b := _) hz (BI _ _ _) (by omega) (by decide)
   have e9 : vQ z 9 8 = eq := FF (a := numK 8 sq 8 ++ numK 1 (4:UInt64) 1) (b := []) (by rw [hz]; simp only [List.append_assoc]) (by simp [BI]) (by omega) (fit8 _)
   have el : z.length = 17 := by rw [hz]; simp [BI]
   unfold reqR at hR
   rw [if_neg (by decide), if_neg (by decide), if_neg (by decide), if_pos (.inl rfl)] at hR
   simp only [Bool.and_eq_true, decide_eq_true_eq] at hR
   obtain ⟨a1, ⟨a2, a3⟩, _⟩ := hR
   exact ⟨e0.symm, by rw [e8]; rfl, .inr ⟨by rw [e8]; decide, rfl, rfl, rfl, rfl, rfl, rfl, rfl, e9.symm, .inr (.inr ⟨by rw [e8]; decide, by rw [e8]; decide, List.eq_nil_of_length_eq_zero a1, a2, a3, el⟩)⟩⟩
  ·
   have hz : ∀ z, z = reqT sq 5 niq lq fs mn 0 0 0 [] [] 0 (zr8 16) eq → z = numK 8 sq 8 ++ (numK 1 (5:UInt64) 1 ++ (numK 8 eq 8 ++ [])) := fun z h => by
    rw [h]; unfold reqT; rw [if_neg (by decide), if_neg (by decide), if_neg (by decide), if_neg (by decide)]; simp only [List.append_assoc, List.append_nil]
   generalize reqT sq 5 niq lq fs mn 0 0 0 [] [] 0 (zr8 16) eq = z at hz
   replace hz := hz z rfl
   have e0 : vQ z 0 8 = sq := FF (a := []) (b := _) hz rfl (by omega) (fit8 _)
   have e8 : vQ z 8 1 = 5 := FF (a := numK 8 sq 8) (b := _) hz (BI _ _ _) (by omega) (by decide)
   have e9 : vQ z 9 8 = eq := FF (a := numK 8 sq 8 ++ numK 1 (5:UInt64) 1) (b := []) (by rw [hz]; simp only [List.append_assoc]) (by simp [BI]) (by omega) (fit8 _)
   have el : z.length = 17 := by rw [hz]; simp [BI]
   unfold reqR at hR
   rw [if_neg (by decide), if_neg (by decide), if_neg (by decide), if_pos (.inr rfl)] at hR
   simp only [Bool.and_eq_true, decide_eq_true_eq] at hR
   obtain ⟨a1, ⟨a2, a3⟩, _⟩ := hR
   exact ⟨e0.symm, by rw [e8]; rfl, .inr ⟨by rw [e8]; decide, rfl, rfl, rfl, rfl, rfl, rfl, rfl, e9.symm, .inr (.inr ⟨by rw [e8]; decide, by rw [e8]; decide, List.eq_nil_of_length_eq_zero a1, a2, a3, el⟩)⟩⟩
theorem hQ_back {z x A B : List UInt8} {p : Nat} (hz : z = A ++ (x ++ B)) (hA : A.length = p) : ∀ n, 32*n ≤ x.length → hQ z p n = x.take (32*n)
 | 0, _ => by rw [hQ_zero, Nat.mul_zero, List.take_zero]
 | n + 1, h => by
  rw [hQ_succ, hQ_back hz hA n (by omega)]
  have e : bQ z (p + 32*n) 32 = mid x (32*n) 32 := bQ_at (a := A ++ x.take (32*n)) (b := x.drop (32*n + 32) ++ B) (by
   rw [hz, List.append_assoc]
   congr 1
   rw [← List.append_assoc, ← List.append_assoc]
   congr 1
   unfold mid
   rw [List.append_assoc, ← List.drop_drop, List.take_append_drop, List.take_append_drop]) (by rw [List.length_append, hA, List.length_take]; omega) (EK (by omega))
  rw [e]
  unfold mid
  rw [show 32*(n + 1) = 32*n + 32 by omega, List.take_add]
theorem lst_at {z x A B : List UInt8} {p n : Nat} (hz : z = A ++ (numK 2 (UInt64.ofNat n) 2 ++ (x ++ B))) (hA : A.length = p) (hn : n < 65536) (hx : x.length = n*32) : hN z p = n ∧ hQ z (p + 2) n = x := by
 refine ⟨?_, ?_⟩
 ·
  have e : vQ z p 2 = UInt64.ofNat n := FF hz hA (by omega) (by rw [UInt64.toNat_ofNat', Nat.mod_eq_of_lt (by omega)]; exact Nat.div_eq_of_lt (by omega))
  rw [hN, e, UInt64.toNat_ofNat', Nat.mod_eq_of_lt (by omega)]
 ·
  have e := hQ_back (z := z) (x := x) (A := A ++ numK 2 (UInt64.ofNat n) 2) (B := B) (p := p + 2) (by rw [hz, List.append_assoc]) (by rw [List.length_append, hA, BI]) n (by omega)
  rw [e, List.take_of_length_le (by omega)]
theorem fl_at {z A B : List UInt8} {p : Nat} {b : Bool} (hz : z = A ++ (numK 1 (bitU b) 1 ++ B)) (hA : A.length = p) : fQ z p = b ∧ fN z p = 1 := by
 have hd : z.drop p = numK 1 (bitU b) 1 ++ B := drop_at hz hA
 have hl : z.length = p + (1 + B.length) := by rw [hz, List.length_append, List.length_append, BI, hA]
 have hg : g8 (z.drop p) 0 = (if b then 1 else 0) := by rw [hd, g8_app, if_pos (by rw [BI]; omega)]; cases b <;> decide +kernel
 unfold fQ fN
 rw [hg]
 cases b
 ·
  exact ⟨decide_eq_false (fun e => absurd e.2 (by decide)), if_pos ⟨by omega, by decide⟩⟩
 ·
  exact ⟨decide_eq_true ⟨by omega, rfl⟩, if_pos ⟨by omega, by decide⟩⟩
theorem plain_no {x : ItemR} (h : plainB x = true) (hb : x.b = false) : x = ⟨false, zS⟩ := by
 obtain ⟨b, ⟨e, d, t, h1, h2⟩⟩ := x
 simp only at hb
 subst hb
 unfold plainB plainV at h
 simp only [Bool.false_or, decide_eq_true_eq] at h
 obtain ⟨rfl, rfl, rfl⟩ := h
 rfl
theorem plain_all {l : List ItemR} (h : c2B true l = true) : ∀ x ∈ l, plainB x = true := fun x hx => by
 unfold c2B at h
 rw [if_pos rfl, Bool.and_eq_true, Bool.not_eq_true'] at h
 have := List.any_eq_false.1 h.2 x hx
 simpa using this
theorem itms_back {z : List UInt8} {lj : List ItemR} {A B : List UInt8} (hz : z = A ++ (itmsT lj ++ B)) {p : Nat} (hA : A.length = p) (hp : ∀ x ∈ lj, plainB x = true) :
  ∀ i, i ≤ lj.length → itQ z p i = lj.take i ∧ qI z p i = p + (itmsT (lj.take i)).length
 | 0, _ => ⟨rfl, rfl⟩
 | i + 1, h => by
  obtain ⟨h1, h2⟩ := itms_back hz hA hp i (by omega)
  obtain ⟨x, hx⟩ : ∃ x, lj[i]? = some x := ⟨_, List.getElem?_eq_getElem (by omega)⟩
  have hst := itms_step hx
  obtain ⟨R, hR⟩ : ∃ R, itmsT lj = itmsT (lj.take (i + 1)) ++ R := ⟨itmsT (lj.drop (i + 1)), by unfold itmsT; rw [← List.flatMap_append]; exact congrArg (fun q => List.flatMap itmT q) (List.take_append_drop (i + 1) lj).symm⟩
  have hA2 : (A ++ itmsT (lj.take i)).length = qI z p i := by rw [List.length_append, hA, h2]
  have hz2 : z = (A ++ itmsT (lj.take i)) ++ (itmT x ++ (R ++ B)) := by rw [hz, hR, ← hst]; simp only [List.append_assoc]
  have hlen : (itmsT (lj.take (i + 1))).length = (itmsT (lj.take i)).length + (itmT x).length := by rw [← hst, List.length_append]
  rw [itQ_suc, h1]
  have hq : qI z p (i + 1) = qI z p i + fN z (qI z p i) + (if fQ z (qI z p i) then 56 else 0) := rfl
  cases hb : x.b with
  | true =>
   have hT : itmT x = numK 1 (bitU true) 1 ++ putL x.s.e x.s.d x.s.t := by unfold itmT; rw [hb, if_pos rfl]
   have hf := fl_at (z := z) (b := true) (B := putL x.s.e x.s.d x.s.t ++ (R ++ B)) (by rw [hz2, hT]; simp only [List.append_assoc]) hA2
   have hs : sQ z (qI z p i + 1) = x.s := by
    have e := seQ_back (z0 := z) (ls := [x.s]) (A := (A ++ itmsT (lj.take i)) ++ numK 1 (bitU true) 1) (B := R ++ B) (p := qI z p i + 1) (by rw [hz2, hT, show selT [x.s] = putL x.s.e x.s.d x.s.t from List.append_nil _]; simp only [List.append_assoc]) (by rw [List.length_append, hA2, BI]) 1 (Nat.le_refl _)
    rw [seQ_one] at e
    exact (List.cons.inj e).1
   have hi : iQ z (qI z p i) = x := by
    unfold iQ
    rw [hf.1, if_pos rfl, hf.2, hs]
    obtain ⟨b, s⟩ := x
    simp only at hb
    rw [hb]
   refine ⟨by rw [hi]; exact EZ hx, ?_⟩
   rw [hq, hf.1, hf.2, if_pos rfl, hlen, h2, hT, List.length_append, BI, show (putL x.s.e x.s.d x.s.t).length = 56 from putL_len x.s.hd x.s.ht]
   omega
  | false =>
   have hT : itmT x = numK 1 (bitU false) 1 := by unfold itmT; rw [hb, if_neg (by decide)]
   have hf := fl_at (z := z) (b := false) (B := R ++ B) (by rw [hz2, hT]) hA2
   have hi : iQ z (qI z p i) = x := by
    unfold iQ
    rw [hf.1, if_neg (by decide)]
    exact (plain_no (hp x (List.mem_of_getElem? hx)) hb).symm
   refine ⟨by rw [hi]; exact EZ hx, ?_⟩
   rw [hq, hf.1, hf.2, if_neg (by decide), hlen, h2, hT, BI]
   omega
def sgH (rq : UInt64) (rk er : Int) : List UInt8 := numK 8 rq 8 ++ (numK 1 (UInt64.ofNat rk.toNat) 1 ++ numK 1 (UInt64.ofNat er.toNat) 1)
def sgI (rk er : Int) (nj : Nat) (lj : List ItemR) : List UInt8 := if itB er rk then numK 1 (UInt64.ofNat (nj - 1)) 1 ++ itmsT lj else []
def sgF (rk er : Int) (th : Bool) : List UInt8 := if decide (er = 0) && decide (rk = 4) then numK 1 (bitU th) 1 else []
def sgT (rk er : Int) (th : Bool) (t : List UInt8) : List UInt8 := if chB er rk th then t else []
def sgL (b : Bool) (n : Nat) (x : List UInt8) : List UInt8 := if b then numK 2 (UInt64.ofNat n) 2 ++ x else []
theorem repT_seg {rq : UInt64} {rk er : Int} {nj : Nat} {lj : List ItemR} {th : Bool} {pv ep : UInt64} {kd : Int} {l : List UInt64} {ls : List SealR} {bl : UInt64} {tg : List UInt8} {na : Nat} {xa : List UInt8} {nb : Nat} {xb : List UInt8} (h1 : 1 ≤ rk ∧ rk ≤ 5) :
  repT rq rk er nj lj th pv ep kd l ls bl tg na xa nb xb = sgH rq rk er ++ (sgI rk er nj lj ++ (sgF rk er th ++ (sgT rk er th (tktT pv ep kd.toNat l ls bl ++ tg) ++ (sgL (aB er rk th) na xa ++ sgL (bB er rk th) nb xb)))) := by
 unfold repT
 by_cases hE : er = 0
 ·
  subst hE
  rw [if_neg (by decide)]
  obtain rfl | rfl | rfl | rfl | rfl : rk = 1 ∨ rk = 2 ∨ rk = 3 ∨ rk = 4 ∨ rk = 5 := by omega
  ·
   rw [if_pos rfl, show sgF 1 0 th = [] from rfl, show sgI 1 0 nj lj = numK 1 (UInt64.ofNat (nj - 1)) 1 ++ itmsT lj from rfl, show sgT 1 0 th (tktT pv ep kd.toNat l ls bl ++ tg) = [] from by cases th <;> rfl, show sgL (aB 0 1 th) na xa = [] from by cases th <;> rfl, show sgL (bB 0 1 th) nb xb = numK 2 (UInt64.ofNat nb) 2 ++ xb from by cases th <;> rfl]
   unfold sgH; simp only [List.append_assoc, List.nil_append]; rfl
  ·
   rw [if_neg (by decide), if_pos rfl, show sgF 2 0 th = [] from rfl, show sgI 2 0 nj lj = numK 1 (UInt64.ofNat (nj - 1)) 1 ++ itmsT lj from rfl, show sgT 2 0 th (tktT pv ep kd.toNat l ls bl ++ tg) = [] from by cases th <;> rfl, show sgL (aB 0 2 th) na xa = numK 2 (UInt64.ofNat na) 2 ++ xa from by cases th <;> rfl, show sgL (bB 0 2 th) nb xb = numK 2 (UInt64.ofNat nb) 2 ++ xb from by cases th <;> rfl]
   unfold sgH; simp only [List.append_assoc, List.nil_append]; rfl
  ·
   rw [if_neg (by decide), if_neg (by decide), if_pos rfl, show sgF 3 0 th = [] from rfl, show sgI 3 0 nj lj = [] from rfl, show sgT 3 0 th (tktT pv ep kd.toNat l ls bl ++ tg) = [] from by cases th <;> rfl, show sgL (aB 0 3 th) na xa = numK 2 (UInt64.ofNat na) 2 ++ xa from by cases th <;> rfl, show sgL (bB 0 3 th) nb xb = numK 2 (UInt64.ofNat nb) 2 ++ xb from by cases th <;> rfl]
   unfold sgH; simp only [List.append_assoc, List.nil_append]; rfl
  ·
   rw [if_neg (by decide), if_neg (by decide), if_neg (by decide), if_pos rfl, show sgF 4 0 th = numK 1 (bitU th) 1 from rfl, show sgI 4 0 nj lj = [] from rfl]
   cases th with
   | true =>
    rw [if_pos rfl, show sgT 4 0 true (tktT pv ep kd.toNat l ls bl ++ tg) = tktT pv ep kd.toNat l ls bl ++ tg from rfl, show sgL (aB 0 4 true) na xa = numK 2 (UInt64.ofNat na) 2 ++ xa from rfl, show sgL (bB 0 4 true) nb xb = numK 2 (UInt64.ofNat nb) 2 ++ xb from rfl]
    unfold sgH; simp only [List.append_assoc, List.nil_append]; rfl
   | false =>
    rw [if_neg (by decide), show sgT 4 0 false (tktT pv ep kd.toNat l ls bl ++ tg) = [] from rfl, show sgL (aB 0 4 false) na xa = [] from rfl, show sgL (bB 0 4 false) nb xb = [] from rfl]
    unfold sgH; simp only [List.append_assoc, List.nil_append, List.append_nil]; rfl
  ·
   rw [if_neg (by decide), if_neg (by decide), if_neg (by decide), if_neg (by decide), show sgF 5 0 th = [] from rfl, show sgI 5 0 nj lj = [] from rfl, show sgT 5 0 th (tktT pv ep kd.toNat l ls bl ++ tg) = [] from by cases th <;> rfl, show sgL (aB 0 5 th) na xa = [] from by cases th <;> rfl, show sgL (bB 0 5 th) nb xb = [] from by cases th <;> rfl]
   unfold sgH; simp only [List.append_assoc, List.nil_append, List.append_nil]; rfl
 ·
  rw [if_pos hE]
  have hd := decide_eq_false hE
  unfold sgI sgF sgT sgL
  rw [itB_ne hE, chB_ne hE, aB_ne hE, bB_ne hE, hd]
  unfold sgH
  simp
theorem ofI {n : Int} (h0 : 0 ≤ n) (h : n < 256) : ((UInt64.ofNat n.toNat).toNat : Int) = n := by rw [UInt64.toNat_ofNat', Nat.mod_eq_of_lt (by omega)]; omega
theorem GRp.put {rq : UInt64} {rk er : Int} {nj : Nat} {lj : List ItemR} {th : Bool} {pv ep : UInt64} {kd : Int} {l : List UInt64} {ls : List SealR} {bl : UInt64} {tg : List UInt8} {na : Nat} {xa : List UInt8} {nb : Nat} {xb : List UInt8}
  (hR : repR rk er th lj (blankB pv ep kd l ls bl tg) (decide (mayN pv ep kd l ls bl = 0)) na nb = true) (hl : lj.length = nj) (ht : tg.length = 16) (hxa : xa.length = na*32) (hxb : xb.length = nb*32) :
  GRp (repT rq rk er nj lj th pv ep kd l ls bl tg na xa nb xb) rq rk er lj th pv ep kd l ls bl tg na xa nb xb := by
 refine ⟨?_, hR⟩
 obtain ⟨c1, c2, c3, c4⟩ := repR_all hR
 have c1 : 1 ≤ rk ∧ rk ≤ 5 ∧ 0 ≤ er ∧ er ≤ 14 := of_decide_eq_true c1
 rw [repT_seg ⟨c1.1, c1.2.1⟩]
 obtain ⟨z, hz⟩ : ∃ z, z = sgH rq rk er ++ (sgI rk er nj lj ++ (sgF rk er th ++ (sgT rk er th (tktT pv ep kd.toNat l ls bl ++ tg) ++ (sgL (aB er rk th) na xa ++ sgL (bB er rk th) nb xb)))) := ⟨_, rfl⟩
 rw [← hz]
 have hH : (sgH rq rk er).length = 10 := by unfold sgH; simp [BI]
 have e0 : vQ z 0 8 = rq := FF (a := []) (b := (numK 1 (UInt64.ofNat rk.toNat) 1 ++ numK 1 (UInt64.ofNat er.toNat) 1) ++ (sgI rk er nj lj ++ (sgF rk er th ++ (sgT rk er th (tktT pv ep kd.toNat l ls bl ++ tg) ++ (sgL (aB er rk th) na xa ++ sgL (bB er rk th) nb xb))))) (by rw [hz]; unfold sgH; simp only [List.append_assoc, List.nil_append]) rfl (by omega) (fit8 _)
 have e8 : vQ z 8 1 = UInt64.ofNat rk.toNat := FF (a := numK 8 rq 8) (b := numK 1 (UInt64.ofNat er.toNat) 1 ++ (sgI rk er nj lj ++ (sgF rk er th ++ (sgT rk er th (tktT pv ep kd.toNat l ls bl ++ tg) ++ (sgL (aB er rk th) na xa ++ sgL (bB er rk th) nb xb))))) (by rw [hz]; unfold sgH; simp only [List.append_assoc]) (BI _ _ _) (by omega) (fit1 (by omega))
 have e9 : vQ z 9 1 = UInt64.ofNat er.toNat := FF (a := numK 8 rq 8 ++ numK 1 (UInt64.ofNat rk.toNat) 1) (b := (sgI rk er nj lj ++ (sgF rk er th ++ (sgT rk er th (tktT pv ep kd.toNat l ls bl ++ tg) ++ (sgL (aB er rk th) na xa ++ sgL (bB er rk th) nb xb))))) (by rw [hz]; unfold sgH; simp only [List.append_assoc]) (by simp [BI]) (by omega) (fit1 (by omega))
 have hk : rkZ z = rk := by unfold rkZ; rw [e8]; exact ofI (by omega) (by omega)
 have he : erZ z = er := by unfold erZ; rw [e9]; exact ofI (by omega) (by omega)
 have hit : itZ z = itB er rk := by unfold itZ; rw [hk, he]
 have hf4 : F4 z = (decide (er = 0) && decide (rk = 4)) := by unfold F4; rw [hk, he]
 -- the items
 have p1 : P1 z = (sgH rq rk er ++ sgI rk er nj lj).length ∧ lj = ljZ z := by
  cases hi : itB er rk with
  | true =>
   rw [hi] at c2 hit
   have hj := c2_len1 hl c2
   have hs : sgI rk er nj lj = numK 1 (UInt64.ofNat (nj - 1)) 1 ++ itmsT lj := by unfold sgI; rw [hi, if_pos rfl]
   have e10 : vQ z 10 1 = UInt64.ofNat (nj - 1) := FF (a := sgH rq rk er) (b := itmsT lj ++ (sgF rk er th ++ (sgT rk er th (tktT pv ep kd.toNat l ls bl ++ tg) ++ (sgL (aB er rk th) na xa ++ sgL (bB er rk th) nb xb)))) (by rw [hz, hs]; simp only [List.append_assoc]) hH (by omega) (fit1 (by omega))
   have hn : nI z = nj := by unfold nI; rw [e10, UInt64.toNat_ofNat', Nat.mod_eq_of_lt (by omega)]; omega
   have hb := itms_back (z := z) (lj := lj) (A := sgH rq rk er ++ numK 1 (UInt64.ofNat (nj - 1)) 1) (B := sgF rk er th ++ (sgT rk er th (tktT pv ep kd.toNat l ls bl ++ tg) ++ (sgL (aB er rk th) na xa ++ sgL (bB er rk th) nb xb))) (by rw [hz, hs]; simp only [List.append_assoc]) (p := 11) (by rw [List.length_append, hH, BI]) (plain_all c2) nj (by omega)
   rw [List.take_of_length_le (by omega)] at hb
   refine ⟨?_, ?_⟩
   ·
    rw [P1_t hit, hn, hb.2, hs, List.length_append, List.length_append, hH, BI]; omega
   ·
    rw [ljZ_t hit, hn, hb.1]
  | false =>
   rw [hi] at c2 hit
   have hj := c2_len0 hl c2
   have hs : sgI rk er nj lj = [] := by unfold sgI; rw [hi, if_neg (by decide)]
   refine ⟨?_, ?_⟩
   ·
    rw [P1_f hit, hs, List.append_nil, hH]
   ·
    rw [ljZ_f hit]; exact List.eq_nil_of_length_eq_zero (by omega)
 -- the flag
 have p2 : P2 z = ((sgH rq rk er ++ sgI rk er nj lj) ++ sgF rk er th).length ∧ th = thZ z := by
  cases hi : decide (er = 0) && decide (rk = 4) with
  | true =>
   rw [hi] at hf4
   have hs : sgF rk er th = numK 1 (bitU th) 1 := by unfold sgF; rw [hi, if_pos rfl]
   have hb := fl_at (z := z) (A := sgH rq rk er ++ sgI rk er nj lj) (B := sgT rk er th (tktT pv ep kd.toNat l ls bl ++ tg) ++ (sgL (aB er rk th) na xa ++ sgL (bB er rk th) nb xb)) (b := th) (by rw [hz, hs]; simp only [List.append_assoc]) p1.1.symm
   exact ⟨by rw [P2_t hf4, hb.2, hs, List.length_append, ← p1.1, BI], by rw [thZ_t hf4, hb.1]⟩
  | false =>
   rw [hi] at hf4
   have hs : sgF rk er th = [] := by unfold sgF; rw [hi, if_neg (by decide)]
   have hc : chB er rk th = false := by
    unfold chB
    rw [← Bool.and_assoc, hi]; rfl
   rw [hc] at c3
   unfold c3B at c3
   rw [if_neg (by decide), Bool.and_eq_true, Bool.not_eq_true'] at c3
   exact ⟨by rw [P2_f hf4, hs, List.append_nil, ← p1.1], by rw [thZ_f hf4]; exact c3.1⟩
 have hch : chZ z = chB er rk th := by unfold chZ; rw [hk, he, ← p2.2]
 have hab : aZ z = aB er rk th := by unfold aZ; rw [hk, he, ← p2.2]
 have hbb : bZ z = bB er rk th := by unfold bZ; rw [hk, he, ← p2.2]
 -- the ticket
 have p3 : P3 z = (((sgH rq rk er ++ sgI rk er nj lj) ++ sgF rk er th) ++ sgT rk er th (tktT pv ep kd.toNat l ls bl ++ tg)).length ∧ TkZ z pv ep kd l ls bl tg := by
  cases hc : chB er rk th with
  | true =>
   rw [hc] at c3 hch
   have hm : mayN pv ep kd l ls bl = 0 := of_decide_eq_true c3
   have hs : sgT rk er th (tktT pv ep kd.toNat l ls bl ++ tg) = tktT pv ep kd.toNat l ls bl ++ tg := by unfold sgT; rw [hc, if_pos rfl]
   have hd : z.drop (P2 z) = (tktT pv ep kd.toNat l ls bl ++ tg) ++ (sgL (aB er rk th) na xa ++ sgL (bB er rk th) nb xb) := drop_at (A := (sgH rq rk er ++ sgI rk er nj lj) ++ sgF rk er th) (by rw [hz, hs]; simp only [List.append_assoc]) p2.1.symm
   have hT := (tkt_R hm ht).app (sgL (aB er rk th) na xa ++ sgL (bB er rk th) nb xb) (Nat.le_refl _)
   rw [← hd] at hT
   have htot := TkR.tot hT
   refine ⟨?_, .inl ⟨hch, by rw [← htot]; exact hT⟩⟩
   rw [P3_t hch, ← htot, hs, p2.1]; simp only [List.length_append]
  | false =>
   rw [hc] at c3 hch
   have hs : sgT rk er th (tktT pv ep kd.toNat l ls bl ++ tg) = [] := by unfold sgT; rw [hc, if_neg (by decide)]
   unfold c3B at c3
   rw [if_neg (by decide), Bool.and_eq_true] at c3
   obtain ⟨rfl, rfl, rfl, rfl, rfl, rfl, rfl⟩ := blank_all c3.2
   exact ⟨by rw [P3_f hch, hs, List.append_nil, ← p2.1], .inr ⟨hch, rfl, rfl, rfl, rfl, rfl, rfl, rfl⟩⟩
 unfold c4B at c4
 simp only [Bool.and_eq_true, Bool.or_eq_true, decide_eq_true_eq] at c4
 obtain ⟨⟨n1, n2⟩, n3, n4⟩ := c4
 -- hashes
 have p4 : P4 z = ((((sgH rq rk er ++ sgI rk er nj lj) ++ sgF rk er th) ++ sgT rk er th (tktT pv ep kd.toNat l ls bl ++ tg)) ++ sgL (aB er rk th) na xa).length ∧ na = naZ z ∧ xa = xaZ z := by
  cases hc : aB er rk th with
  | true =>
   rw [hc] at hab
   have hs : sgL true na xa = numK 2 (UInt64.ofNat na) 2 ++ xa := rfl
   have hb := lst_at (z := z) (x := xa) (n := na) (A := ((sgH rq rk er ++ sgI rk er nj lj) ++ sgF rk er th) ++ sgT rk er th (tktT pv ep kd.toNat l ls bl ++ tg)) (B := sgL (bB er rk th) nb xb) (by rw [hz, hc, hs]; simp only [List.append_assoc]) p3.1.symm (by omega) hxa
   refine ⟨?_, ?_, ?_⟩
   ·
    rw [P4_t hab, hb.1, hs, List.length_append, ← p3.1, List.length_append, BI, hxa]; omega
   ·
    rw [(A_t hab).1, hb.1]
   ·
    rw [(A_t hab).2, hb.1, hb.2]
  | false =>
   rw [hc] at hab n3
   have h0 : na = 0 := by simpa using n3
   subst h0
   refine ⟨?_, (A_f hab).1.symm, ?_⟩
   ·
    rw [P4_f hab, show sgL false 0 xa = [] from rfl, List.append_nil, ← p3.1]
   ·
    rw [(A_f hab).2]; exact List.eq_nil_of_length_eq_zero (by omega)
 have p5 : P5 z = z.length ∧ nb = nbZ z ∧ xb = xbZ z := by
  cases hc : bB er rk th with
  | true =>
   rw [hc] at hbb
   have hs : sgL true nb xb = numK 2 (UInt64.ofNat nb) 2 ++ xb := rfl
   have hb := lst_at (z := z) (x := xb) (n := nb) (A := (((sgH rq rk er ++ sgI rk er nj lj) ++ sgF rk er th) ++ sgT rk er th (tktT pv ep kd.toNat l ls bl ++ tg)) ++ sgL (aB er rk th) na xa) (B := []) (by rw [hz, hc, hs, List.append_nil]; simp only [List.append_assoc]) p4.1.symm (by omega) hxb
   refine ⟨?_, ?_, ?_⟩
   ·
    rw [P5_t hbb, hb.1, p4.1, hz, hc, hs]; simp only [List.length_append, BI, hxb]; omega
   ·
    rw [(B_t hbb).1, hb.1]
   ·
    rw [(B_t hbb).2, hb.1, hb.2]
  | false =>
   rw [hc] at hbb n4
   have h0 : nb = 0 := by simpa using n4
   subst h0
   refine ⟨?_, (B_f hbb).1.symm, ?_⟩
   ·
    rw [P5_f hbb, p4.1, hz, hc, show sgL false 0 xb = [] from rfl]; simp only [List.length_append, List.length_nil, Nat.add_zero]; omega
   ·
    rw [(B_f hbb).2]; exact List.eq_nil_of_length_eq_zero (by omega)
 exact ⟨p5.1, e0.symm, hk.symm, he.symm, p1.2, p2.2, p3.2, p4.2.1, p4.2.2, p5.2.1, p5.2.2⟩
theorem GRp.one {z : List UInt8} {rq : UInt64} {rk er : Int} {lj : List ItemR} {th : Bool} {pv ep : UInt64} {kd : Int} {l : List UInt64} {ls : List SealR} {bl : UInt64} {tg : List UInt8} {na : Nat} {xa : List UInt8} {nb : Nat} {xb : List UInt8}
  {rq' : UInt64} {rk' er' : Int} {lj' : List ItemR} {th' : Bool} {pv' ep' : UInt64} {kd' : Int} {l' : List UInt64} {ls' : List SealR} {bl' : UInt64} {tg' : List UInt8} {na' : Nat} {xa' : List UInt8} {nb' : Nat} {xb' : List UInt8} (h : GRp z rq rk er lj th pv ep kd l ls bl tg na xa nb xb) (h' : GRp z rq' rk' er' lj' th' pv' ep' kd' l' ls' bl' tg' na' xa' nb' xb') : rq = rq' ∧ rk = rk' ∧ er = er' ∧ lj = lj' ∧ th = th' ∧ pv = pv' ∧ ep = ep' ∧ kd = kd' ∧ l = l' ∧ ls = ls' ∧ bl = bl' ∧ tg = tg' ∧ na = na' ∧ xa = xa' ∧ nb = nb' ∧ xb = xb' := by
 obtain ⟨⟨_, a1, a2, a3, a4, a5, hT, a6, a7, a8, a9⟩, _⟩ := h
 obtain ⟨⟨_, b1, b2, b3, b4, b5, hT', b6, b7, b8, b9⟩, _⟩ := h'
 obtain ⟨c1, c2, c3, c4, c5, c6, c7⟩ := hT.one hT'
 exact ⟨a1.trans b1.symm, a2.trans b2.symm, a3.trans b3.symm, a4.trans b4.symm, a5.trans b5.symm, c1, c2, c3, c4, c5, c6, c7, a6.trans b6.symm, a7.trans b7.symm, a8.trans b8.symm, a9.trans b9.symm⟩
end Go.Proofs.YtkdpdgpphpngeaaDoor
namespace Go.Proofs.YtkdpdgpphpngeaaDoor
open Go Go.Sx
open Go.Value renaming slice → SL
attribute [local irreducible] mid zr8 numK valK rvalK constL initL putL RightB tktT mayN idxT selT blankB spanB reqR plainV itB chB bB aB c1B c2B c3B c4B repR repT LargeQ eQ vQ tQ bQ sQ ixQ seQ fQ fN hQ JL JC JQ DP Ev Ld MemAt Seg Step Cl RV Qok Cok
theorem ordG_c (kd : Int) (ai : Option Addr) (ni ci : Nat) (l : List UInt64) (sa : Option Addr) (ns sc : Nat) (ls : List SealR) (bl : UInt64)  (w : World) (hl : l.length = ni) (hnm : ni ≤ 2000000) (hnc : ni ≤ ci) (hcm : ci ≤ maxLen) (hv : RdV w ai (cu64 l)) (hls : ls.length = ns) (hnn : ns ≤ 2000000) (hnd : ns ≤ sc) (hcn : sc ≤ maxLen) (hs : RdV w sa (ls.flatMap sealC))  : Calls Tryd.prog 66 #[.agg #[I64 (kd), SL ai ni ci, SL sa ns sc, U64 bl]] w (Post w [] (fun v L => ∃ g cs T a c, v = .agg #[I64 kd, SL ai ni ci, SL a ns c, U64 bl] ∧ L = [(Ez g cs T)] ∧ Gh (ls.flatMap sealC) g cs a ∧ ns ≤ c ∧ c ≤ maxLen)) := by
 have hmx : maxLen = 9223372036854775807 := rfl
 refine enter (P := Tryd.prog) (f := 66) (fn := Tryd.f66) w [] 29 [] [.agg #[I64 (kd), SL ai ni ci, SL sa ns sc, U64 bl]] Tryd.func66 rfl rfl ZM (A2 ZM ZM ZM) ?_
 show JC _ _ _ [_] _
 refine A4 (AO (AF (B2 (.agg #[I64 (kd), SL ai ni ci, SL sa ns sc, U64 bl]) ([I64 (kd), SL ai ni ci, SL sa ns sc, U64 bl]) rfl (by first | rfl | simp)) rfl ?_))
 rintro v1 L1 ⟨nb1, hnb1, rfl, rfl⟩
 show JL _ _ _ _ (_ :: _) [_]
 refine AF (AS _ ([I64 0, SL none 0 0, SL none 0 0, U64 0]) Tryd.zeroValue36 ZR) rfl ?_
 rintro v1 L1 ⟨nb2, hnb2, rfl, rfl⟩
 show JL _ _ _ _ (_ :: _) [_, _]
 refine Z2 10 ?_
 refine AE (.agg #[I64 (kd), SL ai ni ci, SL none 0 0, U64 bl]) (DN [(0, I64 (kd)), (1, SL ai ni ci), (3, U64 bl)] _ rfl (fun _ => bld36_013 rfl rfl rfl)) rfl ?_
 refine AF (AS _ ([I64 0, SL none 0 0, SL none 0 0, U64 0]) Tryd.zeroValue36 ZR) rfl ?_
 rintro v1 L1 ⟨nb3, hnb3, rfl, rfl⟩
 show JL _ _ _ _ (_ :: _) [_, _, _]
 refine Z2 13 ?_
 refine C3 (ι := (Unit) ⊕ (Nat × List SealR × Nat × List Value × Nat)) (fun x => match x with | .inl _ => [(2, Ptr nb2 0), (3, Ptr nb3 0), (14, SL sa ns sc), (15, I64 ns), (16, I64 0)] | .inr ⟨i, rr, gb, sp, cp⟩ => [(2, Ptr nb2 0), (3, Ptr nb3 0), (14, SL sa ns sc), (15, I64 ns), (16, I64 i)]) (fun x => match x with | .inl _ => [(Ez nb1 [I64 (kd), SL ai ni ci, SL sa ns sc, U64 bl] 26), (Ez nb2 [I64 0, SL none 0 0, SL none 0 0, U64 0] 36), (Ez nb3 [I64 (kd), SL ai ni ci, SL none 0 0, U64 bl] 36)] | .inr ⟨i, rr, gb, sp, cp⟩ => [(Ez nb1 [I64 (kd), SL ai ni ci, SL sa ns sc, U64 bl] 26), (Ez nb2 [I64 0, SL none 0 0, SL none 0 0, U64 0] 36), (Ez nb3 [I64 (kd), SL ai ni ci, Slc gb 0 i cp, U64 bl] 36), (Ez gb ((rr).flatMap sealC ++ sp) 164)]) (fun x => match x with | .inl _ => True | .inr ⟨i, rr, gb, sp, cp⟩ => 0 < i ∧ i ≤ ns ∧ rr = ls.take i ∧ rr.length = i ∧ sp.length = cp * 49 - i * 49 ∧ i ≤ cp ∧ cp ≤ maxLen) (fun x => match x with | .inl _ => ns + 2 | .inr ⟨i, rr, gb, sp, cp⟩ => ns + 1 - i) (.inl ()) trivial (Sub.all rfl) rfl ?_
 rintro (_ | ⟨i, rr, gb, sp, cp⟩) hx
 ·
  obtain _ := hx
  show JC _ _ _ [_, _, _, _, _] [_, _, _]
  refine Z2 6 ?_
  refine AX _ rfl (fun hb1 => ?_) (fun hb1 => ?_)
  ·
   have hp1 := of_decide_eq_true hb1
   refine Z2 6 ?_
   obtain ⟨x1, hx1⟩ : ∃ x, ls[0]? = some x := ⟨_, List.getElem?_eq_getElem (by rw [hls]; omega)⟩
   obtain ⟨bz1, oz1, hz1, hm1⟩ := EJ D8 ZD hs hx1
   refine AE (Ptr bz1 oz1) (BK 161 49 oz1 DA BC rfl hz1 rfl ZO ZO ZO) rfl ?_
   refine AE (.agg ([U64 x1.e] ++ cu8 x1.d ++ cu8 x1.t).toArray) (AR rfl (BV CT BC (by simp [x1.hd, x1.ht]) (BP (hm1.mem ZM) (AG _) (by first | omega | (simp; done) | (simp; omega))))) rfl ?_
   refine AF (AS _ ([U64 0] ++ cu8 (zr8 32) ++ cu8 (zr8 16)) Tryd.zeroValue161 ZR) rfl ?_
   rintro v1 L1 ⟨nb4, hnb4, rfl, rfl⟩
   show JL _ _ _ _ (_ :: _) [_, _, _, _]
   refine AC (AB 3 nb4 49 _ 161 ([U64 x1.e] ++ cu8 x1.d ++ cu8 x1.t) rfl rfl rfl BC (by simp [x1.hd, x1.ht]) (AQ (AQ ZC A6) A6) ZS (AI (by simp [(AN 32), (AN 16), x1.hd, x1.ht]))) rfl ?_
   show JL _ _ _ _ _ [_, _, _, _]
   refine A1 (AK (Z8 29 5 [(0, Ptr nb3 2), (1, SL none 0 0), (2, .agg ([U64 x1.e] ++ cu8 x1.d ++ cu8 x1.t).toArray)] ?_))
   refine Z6 ⟨[], [0, 1, 2], [], [0, 1, 2], [3]⟩ 3 (hq := ⟨AA rfl rfl ZE, AA rfl rfl ZE, AA rfl rfl (AR rfl (BV CT BC (by simp [x1.hd, x1.ht]) (A0 3 rfl (AG _)))), trivial⟩) (AL rfl (AJ 93 _ (.agg ([U64 x1.e] ++ cu8 x1.d ++ cu8 x1.t).toArray) (AH _ Tryd.call93 rfl) (fun w1 hw1 => doc7_c x1.e x1.d x1.t w1 x1.hd x1.ht))) ?_
   show DP _ _ _ _ _ _ _ _ [_, _, _, _]
   refine Z7 ⟨[3], [0, 1, 2], [2], [0, 1], [4]⟩ 4 (AL rfl (BF 164 49 _ [(0, .agg ([U64 x1.e] ++ cu8 x1.d ++ cu8 x1.t).toArray)] ([U64 x1.e] ++ cu8 x1.d ++ cu8 x1.t) CE BW DO rfl rfl rfl (EL (Z := [U64 0] ++ cu8 (zr8 32) ++ cu8 (zr8 16)) (by simp [x1.hd, x1.ht]) ZR (by simp [zr8])))) ?_
   rintro v1 L1 ⟨nb5, hnb5, rfl, rfl⟩
   refine ⟨[], ?_⟩
   show DP _ _ _ _ _ _ _ _ [_, _, _, _, _]
   refine Z7 ⟨[3, 4], [0, 1, 2], [2], [0, 1], [5]⟩ 5 (AL rfl (Step_appS 34 164 56 (.agg ([U64 0] ++ cu8 (zr8 32) ++ cu8 (zr8 16)).toArray) [false, false, false, false, false] (SL none 0 0) 0 ([] : List SealR) x1 (some ⟨nb5, 0, none⟩) 1 1 CE ZR ZR rfl (.inl ⟨rfl, rfl, rfl, rfl⟩) rfl (SrcAt.mem (A0 4 rfl (AG _))) ZO ZX ZO)) ?_
   rintro v1 L1 ⟨nb6, sp1, cp1, hg1, rfl, rfl, ha1, ha2, ha3, ha4⟩
   refine ⟨[(6, Ptr nb3 2)], ?_⟩
   show DP _ _ _ _ _ _ _ _ [_, _, _, _, _, _]
   refine Z6 ⟨[3, 4, 5], [0, 1, 2, 6], [0, 1, 2], [6], [7]⟩ 7 (AL rfl ZW) ?_
   show DP _ _ _ _ _ _ _ _ [_, _, _, _, _, _]
   refine Z5 ⟨[3, 4, 5, 7], [0, 1, 2, 6], [0, 1, 2, 6], [], []⟩ ?_
   refine A9 (F' := [(20, Ptr nb3 2), (21, SL none 0 0), (22, .agg ([U64 x1.e] ++ cu8 x1.d ++ cu8 x1.t).toArray), (23, .agg ([U64 x1.e] ++ cu8 x1.d ++ cu8 x1.t).toArray), (24, Slc nb5 0 1 1), (25, Slc nb6 0 1 cp1), (26, Ptr nb3 2), (2, Ptr nb2 0), (3, Ptr nb3 0), (14, SL sa ns sc), (15, I64 ns), (16, I64 0), (17, .bool (decide ((0:Int) < ((ns:Int))))), (18, Ptr bz1 oz1), (19, .agg ([U64 x1.e] ++ cu8 x1.d ++ cu8 x1.t).toArray), (5, Ptr nb4 0)]) ZR ?_
   refine DH (AK (AO (AE (I64 1) (AT rfl rfl fun _ => BR _ _ (1:Int) ZO ZO) rfl ?_)))
   refine Z2 2 ?_
   refine B5 (D7 [true, true, true, false, false, true] ?_)
   show K _ _ [_, _, _, _] _
   refine C1 (.inr (1, ([] : List SealR) ++ [x1], nb6, sp1, cp1)) ⟨ZO, ZO, EZ (i := 0) hx1, (ha1).trans (by first | rfl | simp +arith), (ha2).trans (by first | rfl | simp +arith), ZO, ZO⟩ (by first | (simp; omega) | simp | (dsimp only; omega) | omega) (Sub.all rfl) rfl
  have hp1 := of_decide_eq_false hb1
  refine Z2 12 ?_
  refine Z1 fun w1 hw1 => ?_
  obtain rfl : ns = 0 := by omega
  obtain rfl : ls = [] := List.eq_nil_of_length_eq_zero hls
  exact ⟨_, _, rfl, ⟨_, _, _, none, 0, rfl, rfl, .inl rfl, ZO, by first | omega | (unfold maxLen; omega)⟩, Hp.one hw1 0 rfl⟩
 obtain ⟨hi1, hi2, hi3, hi4, hi5, hi6, hi7⟩ := hx
 show JC _ _ _ [_, _, _, _, _] [_, _, _, _]
 refine Z2 6 ?_
 refine AX _ rfl (fun hb2 => ?_) (fun hb2 => ?_)
 ·
  have hp2 := of_decide_eq_true hb2
  refine Z2 6 ?_
  obtain ⟨x2, hx2⟩ : ∃ x, ls[i]? = some x := ⟨_, List.getElem?_eq_getElem (by rw [hls]; omega)⟩
  obtain ⟨bz2, oz2, hz2, hm2⟩ := EJ D8 ZD hs hx2
  refine AE (Ptr bz2 (49*i + oz2)) (BK 161 49 (49*i + oz2) DA BC rfl hz2 rfl ZO ZO ZO) rfl ?_
  refine AE (.agg ([U64 x2.e] ++ cu8 x2.d ++ cu8 x2.t).toArray) (AR rfl (BV CT BC (by simp [x2.hd, x2.ht]) (BP (hm2.mem ZM) (AG _) (by first | omega | (simp; done) | (simp; omega))))) rfl ?_
  refine AF (AS _ ([U64 0] ++ cu8 (zr8 32) ++ cu8 (zr8 16)) Tryd.zeroValue161 ZR) rfl ?_
  rintro v1 L1 ⟨nb7, hnb7, rfl, rfl⟩
  show JL _ _ _ _ (_ :: _) [_, _, _, _, _]
  refine AC (AB 4 nb7 49 _ 161 ([U64 x2.e] ++ cu8 x2.d ++ cu8 x2.t) rfl rfl rfl BC (by simp [x2.hd, x2.ht]) (AQ (AQ ZC A6) A6) ZS (AI (by simp [(AN 32), (AN 16), x2.hd, x2.ht]))) rfl ?_
  show JL _ _ _ _ _ [_, _, _, _, _]
  refine A1 (AK (Z8 29 5 [(0, Ptr nb3 2), (1, Slc gb 0 i cp), (2, .agg ([U64 x2.e] ++ cu8 x2.d ++ cu8 x2.t).toArray)] ?_))
  refine Z6 ⟨[], [0, 1, 2], [], [0, 1, 2], [3]⟩ 3 (hq := ⟨AA rfl rfl ZE, AA rfl rfl ZE, AA rfl rfl (AR rfl (BV CT BC (by simp [x2.hd, x2.ht]) (A0 4 rfl (AG _)))), trivial⟩) (AL rfl (AJ 93 _ (.agg ([U64 x2.e] ++ cu8 x2.d ++ cu8 x2.t).toArray) (AH _ Tryd.call93 rfl) (fun w1 hw1 => doc7_c x2.e x2.d x2.t w1 x2.hd x2.ht))) ?_
  show DP _ _ _ _ _ _ _ _ [_, _, _, _, _]
  refine Z7 ⟨[3], [0, 1, 2], [2], [0, 1], [4]⟩ 4 (AL rfl (BF 164 49 _ [(0, .agg ([U64 x2.e] ++ cu8 x2.d ++ cu8 x2.t).toArray)] ([U64 x2.e] ++ cu8 x2.d ++ cu8 x2.t) CE BW DO rfl rfl rfl (EL (Z := [U64 0] ++ cu8 (zr8 32) ++ cu8 (zr8 16)) (by simp [x2.hd, x2.ht]) ZR (by simp [zr8])))) ?_
  rintro v1 L1 ⟨nb8, hnb8, rfl, rfl⟩
  refine ⟨[], ?_⟩
  show DP _ _ _ _ _ _ _ _ [_, _, _, _, _, _]
  refine Z7 ⟨[3, 4], [0, 1, 2], [2], [0, 1], [5]⟩ 5 (AL rfl (Step_appS 34 164 56 (.agg ([U64 0] ++ cu8 (zr8 32) ++ cu8 (zr8 16)).toArray) [false, false, false, true, false, false] (Slc gb 0 i cp) i rr x2 (some ⟨nb8, 0, none⟩) 1 (i + 1) CE ZR ZR rfl (.inr ⟨gb, sp, cp, rfl, rfl, (by have h : (rr).length = i := hi4; omega), (by first | exact hi5 | omega), ZO, ZO⟩) rfl (SrcAt.mem (A0 5 rfl (AG _))) ZO ZX ZO)) ?_
  rintro v1 L1 ⟨nb9, sp2, cp2, hg2, rfl, rfl, ha5, ha6, ha7, ha8⟩
  refine ⟨[(6, Ptr nb3 2)], ?_⟩
  show DP _ _ _ _ _ _ _ _ [_, _, _, _, _, _]
  refine Z6 ⟨[3, 4, 5], [0, 1, 2, 6], [0, 1, 2], [6], [7]⟩ 7 (AL rfl ZW) ?_
  show DP _ _ _ _ _ _ _ _ [_, _, _, _, _, _]
  refine Z5 ⟨[3, 4, 5, 7], [0, 1, 2, 6], [0, 1, 2, 6], [], []⟩ ?_
  refine A9 (F' := [(20, Ptr nb3 2), (21, Slc gb 0 i cp), (22, .agg ([U64 x2.e] ++ cu8 x2.d ++ cu8 x2.t).toArray), (23, .agg ([U64 x2.e] ++ cu8 x2.d ++ cu8 x2.t).toArray), (24, Slc nb8 0 1 1), (25, Slc nb9 0 (i + 1) cp2), (26, Ptr nb3 2), (2, Ptr nb2 0), (3, Ptr nb3 0), (14, SL sa ns sc), (15, I64 ns), (16, I64 i), (17, .bool (decide (((i:Int)) < ((ns:Int))))), (18, Ptr bz2 (49*i + oz2)), (19, .agg ([U64 x2.e] ++ cu8 x2.d ++ cu8 x2.t).toArray), (5, Ptr nb7 0)]) ZR ?_
  refine DH (AK (AO (AE (I64 ((i:Int) + 1)) (AT rfl rfl fun _ => BR _ _ ((i:Int) + 1) ZO ZO) rfl ?_)))
  refine Z2 2 ?_
  refine B5 (D7 [true, true, true, false, false, true] ?_)
  show K _ _ [_, _, _, _] _
  refine C1 (.inr (i + 1, rr ++ [x2], nb9, sp2, cp2)) ⟨ZO, ZO, (by rw [hi3]; exact EZ hx2), (ha5).trans (by first | rfl | simp +arith), (ha6).trans (by first | rfl | simp +arith), ZO, ZO⟩ (by first | (simp; omega) | simp | (dsimp only; omega) | omega) (Sub.all rfl) rfl
 have hp2 := of_decide_eq_false hb2
 refine Z2 12 ?_
 refine Z1 fun w1 hw1 => ?_
 obtain rfl : i = ns := by omega
 have hr : rr = ls := by rw [hi3]; exact List.take_of_length_le ZO
 exact ⟨_, _, rfl, ⟨gb, _, _, (some ⟨gb, 0, none⟩), cp, rfl, rfl, .inr ⟨rfl, _, by rw [hr]⟩, ZO, hi7⟩, Hp.one hw1 3 rfl⟩
theorem docH_c (pv ep : UInt64) (kd : Int) (ai : Option Addr) (ni ci : Nat) (l : List UInt64) (sa : Option Addr) (ns sc : Nat) (ls : List SealR) (bl : UInt64) (tg : List UInt8)  (w : World) (hl : l.length = ni) (hnm : ni ≤ 2000000) (hnc : ni ≤ ci) (hcm : ci ≤ maxLen) (hv : RdV w ai (cu64 l)) (hls : ls.length = ns) (hnn : ns ≤ 2000000) (hnd : ns ≤ sc) (hcn : sc ≤ maxLen) (hs : RdV w sa (ls.flatMap sealC)) (htg : tg.length = 16)  : Calls Tryd.prog 44 #[.agg (V2 pv ep (kd) ai ni ci sa ns sc bl tg).toArray] w (Post w [] (fun v L => ∃ g cs T a c, v = .agg (V2 pv ep kd ai ni ci a ns c bl tg).toArray ∧ L = [(Ez g cs T)] ∧ Gh (ls.flatMap sealC) g cs a ∧ ns ≤ c ∧ c ≤ maxLen)) := by
 have hmx : maxLen = 9223372036854775807 := rfl
 refine enter (P := Tryd.prog) (f := 44) (fn := Tryd.f44) w [] 13 [] [.agg (V2 pv ep (kd) ai ni ci sa ns sc bl tg).toArray] Tryd.func44 rfl rfl ZM (A2 ZM ZM ZM) ?_
 show JC _ _ _ [_] _
 refine A4 (AO (AF (B2 (.agg (V2 pv ep (kd) ai ni ci sa ns sc bl tg).toArray) (V2 pv ep (kd) ai ni ci sa ns sc bl tg) rfl (by first | rfl | simp)) rfl ?_))
 rintro v1 L1 ⟨nb1, hnb1, rfl, rfl⟩
 show JL _ _ _ _ (_ :: _) [_]
 refine AF (AS _ (V4) Tryd.zeroValue38 ZR) rfl ?_
 rintro v1 L1 ⟨nb2, hnb2, rfl, rfl⟩
 show JL _ _ _ _ (_ :: _) [_, _]
 refine A1 (AK (A4 (Z8 13 3 [(0, Ptr nb1 0), (1, U64 pv), (2, Ptr nb1 1), (3, U64 ep), (4, Ptr nb1 2), (5, .agg #[I64 (kd), SL ai ni ci, SL sa ns sc, U64 bl]), (7, Ptr nb1 6), (8, .agg (cu8 tg).toArray)] ?_)))
 refine Z7 ⟨[], [0, 1, 2, 3, 4, 5, 7, 8], [], [0, 1, 2, 3, 4, 5, 7, 8], [6]⟩ 6 (hq := ⟨AA rfl rfl ZE, AA rfl rfl ZE, AA rfl rfl ZE, AA rfl rfl ZE, AA rfl rfl ZE, AA rfl rfl (AR rfl (BV DQ CX rfl (A0 0 rfl (CB (p := [U64 pv, U64 ep]) (q := cu8 tg) (vs := [I64 (kd), SL ai ni ci, SL sa ns sc, U64 bl]) (by first | rfl | (simp only [List.append_assoc, List.nil_append, List.append_nil, List.cons_append]; done)) rfl)))), AA rfl rfl ZE, AA rfl rfl (AR rfl (BV CU CO (CI htg) (A0 0 rfl (Seg.right 6 0 rfl rfl (AG _))))), trivial⟩) (AL rfl (A5 66 _ _ (AH _ Tryd.call66 rfl) (fun w1 hw1 => ordG_c (kd) ai ni ci l sa ns sc ls bl w1 hl ZO ZO ZO (CF hw1 rfl hv) hls ZO ZO ZO (CF hw1 rfl hs)))) ?_
 rintro v1 L1 ⟨_, ⟨ng1, cs1, nT1, na1, nc1, rfl, rfl, hc1, hc2, hc3⟩, rfl⟩
 refine ⟨[(9, .agg (V2 pv ep (kd) ai ni ci na1 ns nc1 bl tg).toArray)], ?_⟩
 show DP _ _ _ _ _ _ _ _ [_, _, _]
 refine Z6 ⟨[6], [0, 1, 2, 3, 4, 5, 7, 8, 9], [4, 5], [0, 1, 2, 3, 7, 8, 9], [10]⟩ 10 (hq := ⟨AA rfl rfl ZE, AA rfl rfl ZE, AA rfl rfl ZE, AA rfl rfl ZE, AA rfl rfl ZE, AA rfl rfl (AR rfl (BV CU CO (CI htg) (A0 0 rfl (Seg.right 6 0 rfl rfl (AG _))))), AA rfl rfl (DN [(0, U64 pv), (1, U64 ep), (2, .agg #[I64 (kd), SL ai ni ci, SL na1 ns nc1, U64 bl]), (3, .agg (cu8 tg).toArray)] _ rfl (fun _ => bld38_0123 rfl rfl (by simp [AN]) (by simp [AN, htg]))), trivial⟩) (AL rfl (AB 1 nb2 22 _ 38 (V2 pv ep (kd) ai ni ci na1 ns nc1 bl tg) rfl rfl rfl B8 (by simp [htg]) (AQ ZC A6) ZS (AI (by simp [(AN 16), htg])))) ?_
 show DP _ _ _ _ _ _ _ _ [_, _, _]
 refine Z5 ⟨[6, 10], [0, 1, 2, 3, 4, 5, 7, 8, 9], [0, 1, 2, 3, 4, 5, 7, 8, 9], [], []⟩ ?_
 refine A9 (F' := [(2, Ptr nb2 0)]) ZR ?_
 refine AK (CH (Z1 fun w1 hw1 => ?_))
 exact ⟨_, _, rfl, ⟨_, _, _, _, _, rfl, rfl, hc1, ZO, ZO⟩, Hp.one hw1 2 rfl⟩
theorem reqH_c (sq : UInt64) (qk : Int) (aiq : Option Addr) (niq ciq : Nat) (lq : List UInt64) (fs : UInt64) (mn : Int) (pv ep : UInt64) (kd : Int) (ai : Option Addr) (ni ci : Nat) (l : List UInt64) (sa : Option Addr) (ns sc : Nat) (ls : List SealR) (bl : UInt64) (tg : List UInt8) (eq : UInt64)  (w : World) (hlq : lq.length = niq) (hnmq : niq ≤ 2000000) (hncq : niq ≤ ciq) (hcmq : ciq ≤ maxLen) (hvq : RdV w aiq (cu64 lq)) (hl : l.length = ni) (hnm : ni ≤ 2000000) (hnc : ni ≤ ci) (hcm : ci ≤ maxLen) (hv : RdV w ai (cu64 l)) (hls : ls.length = ns) (hnn : ns ≤ 2000000) (hnd : ns ≤ sc) (hcn : sc ≤ maxLen) (hs : RdV w sa (ls.flatMap sealC)) (htg : tg.length = 16)  : Calls Tryd.prog 19 #[.agg (V1 sq (qk) aiq niq ciq fs (mn) pv ep (kd) ai ni ci sa ns sc bl tg eq).toArray] w (Post w [] (fun v L => ∃ g cs T a c, v = .agg (V1 sq qk aiq niq ciq fs mn pv ep kd ai ni ci a ns c bl tg eq).toArray ∧ L = [(Ez g cs T)] ∧ Gh (ls.flatMap sealC) g cs a ∧ ns ≤ c ∧ c ≤ maxLen)) := by
 have hmx : maxLen = 9223372036854775807 := rfl
 refine enter (P := Tryd.prog) (f := 19) (fn := Tryd.f19) w [] 19 [] [.agg (V1 sq (qk) aiq niq ciq fs (mn) pv ep (kd) ai ni ci sa ns sc bl tg eq).toArray] Tryd.func19 rfl rfl ZM (A2 ZM ZM ZM) ?_
 show JC _ _ _ [_] _
 refine A4 (AO (AF (B2 (.agg (V1 sq (qk) aiq niq ciq fs (mn) pv ep (kd) ai ni ci sa ns sc bl tg eq).toArray) (V1 sq (qk) aiq niq ciq fs (mn) pv ep (kd) ai ni ci sa ns sc bl tg eq) rfl (by first | rfl | simp)) rfl ?_))
 rintro v1 L1 ⟨nb1, hnb1, rfl, rfl⟩
 show JL _ _ _ _ (_ :: _) [_]
 refine AF (AS _ (V5) Tryd.zeroValue40 ZR) rfl ?_
 rintro v1 L1 ⟨nb2, hnb2, rfl, rfl⟩
 show JL _ _ _ _ (_ :: _) [_, _]
 refine A1 (AK (A4 (Z8 19 3 [(0, Ptr nb1 0), (1, U64 sq), (2, Ptr nb1 1), (3, I64 (qk)), (4, Ptr nb1 2), (5, SL aiq niq ciq), (6, Ptr nb1 3), (7, U64 fs), (8, Ptr nb1 4), (9, I64 (mn)), (10, Ptr nb1 5), (11, .agg (V2 pv ep (kd) ai ni ci sa ns sc bl tg).toArray), (13, Ptr nb1 27), (14, U64 eq)] ?_)))
 refine Z7 ⟨[], [0, 1, 2, 3, 4, 5, 6, 7, 8, 9, 10, 11, 13, 14], [], [0, 1, 2, 3, 4, 5, 6, 7, 8, 9, 10, 11, 13, 14], [12]⟩ 12 (hq := ⟨AA rfl rfl ZE, AA rfl rfl ZE, AA rfl rfl ZE, AA rfl rfl ZE, AA rfl rfl ZE, AA rfl rfl ZE, AA rfl rfl ZE, AA rfl rfl ZE, AA rfl rfl ZE, AA rfl rfl ZE, AA rfl rfl ZE, AA rfl rfl (AR rfl (BV CQ BH (by simp [htg]) (A0 0 rfl (CB (p := [U64 sq, I64 (qk), SL aiq niq ciq, U64 fs, I64 (mn)]) (q := [U64 eq]) (vs := (V2 pv ep (kd) ai ni ci sa ns sc bl tg)) (by first | rfl | (simp only [List.append_assoc, List.nil_append, List.append_nil, List.cons_append]; done)) rfl)))), AA rfl rfl ZE, AA rfl rfl (AR rfl (B1 BD (A0 0 rfl (Seg.right 27 0 (by simp [htg]) rfl (Seg.head))))), trivial⟩) (AL rfl (A5 44 _ _ (AH _ Tryd.call44 rfl) (fun w1 hw1 => docH_c pv ep (kd) ai ni ci l sa ns sc ls bl tg w1 hl ZO ZO ZO (CF hw1 rfl hv) hls ZO ZO ZO (CF hw1 rfl hs) htg))) ?_
 rintro v1 L1 ⟨_, ⟨ng1, cs1, nT1, na1, nc1, rfl, rfl, hc1, hc2, hc3⟩, rfl⟩
 refine ⟨[(15, .agg (V1 sq (qk) aiq niq ciq fs (mn) pv ep (kd) ai ni ci na1 ns nc1 bl tg eq).toArray)], ?_⟩
 show DP _ _ _ _ _ _ _ _ [_, _, _]
 refine Z6 ⟨[12], [0, 1, 2, 3, 4, 5, 6, 7, 8, 9, 10, 11, 13, 14, 15], [10, 11], [0, 1, 2, 3, 4, 5, 6, 7, 8, 9, 13, 14, 15], [16]⟩ 16 (hq := ⟨AA rfl rfl ZE, AA rfl rfl ZE, AA rfl rfl ZE, AA rfl rfl ZE, AA rfl rfl ZE, AA rfl rfl ZE, AA rfl rfl ZE, AA rfl rfl ZE, AA rfl rfl ZE, AA rfl rfl ZE, AA rfl rfl ZE, AA rfl rfl (AR rfl (B1 BD (A0 0 rfl (Seg.right 27 0 (by simp [htg]) rfl (Seg.head))))), AA rfl rfl (DN [(0, U64 sq), (1, I64 (qk)), (2, SL aiq niq ciq), (3, U64 fs), (4, I64 (mn)), (5, .agg (V2 pv ep (kd) ai ni ci na1 ns nc1 bl tg).toArray), (6, U64 eq)] _ rfl (fun _ => bld40_0123456 rfl rfl rfl rfl rfl (by simp [AN, htg]) rfl)), trivial⟩) (AL rfl (AB 1 nb2 28 _ 40 (V1 sq (qk) aiq niq ciq fs (mn) pv ep (kd) ai ni ci na1 ns nc1 bl tg eq) rfl rfl rfl DI (by simp [htg]) (AQ (AQ ZC A6) ZC) ZS (AI (by simp [(AN 16), htg])))) ?_
 show DP _ _ _ _ _ _ _ _ [_, _, _]
 refine Z5 ⟨[12, 16], [0, 1, 2, 3, 4, 5, 6, 7, 8, 9, 10, 11, 13, 14, 15], [0, 1, 2, 3, 4, 5, 6, 7, 8, 9, 10, 11, 13, 14, 15], [], []⟩ ?_
 refine A9 (F' := [(2, Ptr nb2 0)]) ZR ?_
 refine AK (CH (Z1 fun w1 hw1 => ?_))
 exact ⟨_, _, rfl, ⟨_, _, _, _, _, rfl, rfl, hc1, ZO, ZO⟩, Hp.one hw1 2 rfl⟩
theorem rsameT13_c (pv ep : UInt64) (kd : Int) (ai : Option Addr) (ni ci : Nat) (l : List UInt64) (sa : Option Addr) (ns sc : Nat) (ls : List SealR) (bl : UInt64) (tg : List UInt8) (ai2 : Option Addr) (ci2 : Nat) (sa2 : Option Addr) (sc2 : Nat)  (w : World) (hl : l.length = ni) (hnm : ni ≤ 2000000) (hnc : ni ≤ ci) (hcm : ci ≤ maxLen) (hv : RdV w ai (cu64 l)) (hls : ls.length = ns) (hnn : ns ≤ 2000000) (hnd : ns ≤ sc) (hcn : sc ≤ maxLen) (hs : RdV w sa (ls.flatMap sealC)) (htg : tg.length = 16) (hnc2 : ni ≤ ci2) (hcm2 : ci2 ≤ maxLen) (hv2 : RdV w ai2 (cu64 l)) (hnd2 : ns ≤ sc2) (hcn2 : sc2 ≤ maxLen) (hs2 : RdV w sa2 (ls.flatMap sealC))  : Calls Tryd.prog 51 #[.agg (V2 pv ep (kd) ai ni ci sa ns sc bl tg).toArray, .agg (V2 pv ep (kd) ai2 ni ci2 sa2 ns sc2 bl tg).toArray] w (Post w [] (fun v L => v = .bool true ∧ L = [])) := by
 have hmx : maxLen = 9223372036854775807 := rfl
 refine enter (P := Tryd.prog) (f := 51) (fn := Tryd.f51) w [] 108 [] [.agg (V2 pv ep (kd) ai ni ci sa ns sc bl tg).toArray, .agg (V2 pv ep (kd) ai2 ni ci2 sa2 ns sc2 bl tg).toArray] Tryd.func51 rfl rfl ZM (A2 ZM ZM ZM) ?_
 show JC _ _ _ [_, _] _
 refine A4 (AO (AF (B2 (.agg (V2 pv ep (kd) ai ni ci sa ns sc bl tg).toArray) (V2 pv ep (kd) ai ni ci sa ns sc bl tg) rfl (by first | rfl | simp)) rfl ?_))
 rintro v1 L1 ⟨nb1, hnb1, rfl, rfl⟩
 show JL _ _ _ _ (_ :: _) [_]
 refine AF (B2 (.agg (V2 pv ep (kd) ai2 ni ci2 sa2 ns sc2 bl tg).toArray) (V2 pv ep (kd) ai2 ni ci2 sa2 ns sc2 bl tg) rfl (by first | rfl | simp)) rfl ?_
 rintro v1 L1 ⟨nb2, hnb2, rfl, rfl⟩
 show JL _ _ _ _ (_ :: _) [_, _]
 refine Z2 10 ?_
 refine AE (.bool (decide (pv ≠ pv))) (AT rfl rfl fun _ => CL pv pv) rfl ?_
 refine Z2 1 ?_
 refine AD 5 12 false _ (Ptr nb1 1) rfl rfl (decide_eq_false (fun h => h rfl)) ZE rfl ?_
 refine AD 5 12 false _ (U64 ep) rfl rfl (decide_eq_false (fun h => h rfl)) ZE rfl ?_
 refine AD 5 12 false _ (Ptr nb2 1) rfl rfl (decide_eq_false (fun h => h rfl)) ZE rfl ?_
 refine AD 5 12 false _ (U64 ep) rfl rfl (decide_eq_false (fun h => h rfl)) ZE rfl ?_
 refine AD 5 12 false _ (.bool (decide (ep ≠ ep))) rfl rfl (decide_eq_false (fun h => h rfl)) (AT rfl rfl fun _ => CL ep ep) rfl ?_
 refine AE _ (BO _ rfl (decide_eq_false (fun h => h rfl)) rfl) rfl ?_
 refine Z2 1 ?_
 refine AD 12 19 false _ (Ptr nb1 6) rfl rfl (decide_eq_false (fun h => h rfl)) ZE rfl ?_
 refine AD 12 19 false _ (.agg (cu8 tg).toArray) rfl rfl (decide_eq_false (fun h => h rfl)) (AR rfl (BV CU CO (CI htg) (A0 0 rfl (Seg.right 6 0 rfl rfl (AG _))))) rfl ?_
 refine AD 12 19 false _ (Ptr nb2 6) rfl rfl (decide_eq_false (fun h => h rfl)) ZE rfl ?_
 refine AD 12 19 false _ (.agg (cu8 tg).toArray) rfl rfl (decide_eq_false (fun h => h rfl)) (AR rfl (BV CU CO (CI htg) (A0 1 rfl (Seg.right 6 0 rfl rfl (AG _))))) rfl ?_
 refine AD 12 19 false _ (.bool (!(decide (tg = tg)))) rfl rfl (decide_eq_false (fun h => h rfl)) (CG _ _ _ rfl rfl (fun _ => EG _ _ _ _ _ _ ZR) fun _ => neq_arr8 AZ BS CM DT D9 (by simp [htg]) (by simp [htg])) rfl ?_
 refine AE _ (BO _ rfl (decide_eq_false (fun h => h rfl)) rfl) rfl ?_
 refine Z2 1 ?_
 refine AD 19 26 false _ (Ptr nb1 2) rfl rfl (bnotT (decide_eq_true ZM)) ZE rfl ?_
 refine AD 19 26 false _ (Ptr nb1 2) rfl rfl (bnotT (decide_eq_true ZM)) ZE rfl ?_
 refine AD 19 26 false _ (I64 (kd)) rfl rfl (bnotT (decide_eq_true ZM)) ZE rfl ?_
 refine AD 19 26 false _ (Ptr nb2 2) rfl rfl (bnotT (decide_eq_true ZM)) ZE rfl ?_
 refine AD 19 26 false _ (Ptr nb2 2) rfl rfl (bnotT (decide_eq_true ZM)) ZE rfl ?_
 refine AD 19 26 false _ (I64 (kd)) rfl rfl (bnotT (decide_eq_true ZM)) ZE rfl ?_
 refine AD 19 26 false _ (.bool (decide ((kd) ≠ (kd)))) rfl rfl (bnotT (decide_eq_true ZM)) ZE rfl ?_
 refine AE _ (BO _ rfl (bnotT (decide_eq_true ZM)) rfl) rfl ?_
 refine Z2 1 ?_
 refine AD 28 35 false _ (Ptr nb1 2) rfl rfl ZM ZE rfl ?_
 refine AD 28 35 false _ (Ptr nb1 5) rfl rfl ZM ZE rfl ?_
 refine AD 28 35 false _ _ rfl rfl ZM ZE rfl ?_
 refine AD 28 35 false _ (Ptr nb2 2) rfl rfl ZM ZE rfl ?_
 refine AD 28 35 false _ (Ptr nb2 5) rfl rfl ZM ZE rfl ?_
 refine AD 28 35 false _ _ rfl rfl ZM ZE rfl ?_
 refine AD 28 35 false _ (.bool (decide (bl ≠ bl))) rfl rfl ZM (AT rfl rfl fun _ => CL bl bl) rfl ?_
 refine AE _ (BO _ rfl ZM rfl) rfl ?_
 refine Z2 1 ?_
 refine AD 37 44 false _ (Ptr nb1 2) rfl rfl (decide_eq_false (fun h => h rfl)) ZE rfl ?_
 refine AD 37 44 false _ (Ptr nb1 3) rfl rfl (decide_eq_false (fun h => h rfl)) ZE rfl ?_
 refine AD 37 44 false _ (SL ai ni ci) rfl rfl (decide_eq_false (fun h => h rfl)) ZE rfl ?_
 refine AD 37 44 false _ (I64 ni) rfl rfl (decide_eq_false (fun h => h rfl)) ZE rfl ?_
 refine AD 37 44 false _ (Ptr nb2 2) rfl rfl (decide_eq_false (fun h => h rfl)) ZE rfl ?_
 refine AD 37 44 false _ (Ptr nb2 3) rfl rfl (decide_eq_false (fun h => h rfl)) ZE rfl ?_
 refine AD 37 44 false _ (SL ai2 ni ci2) rfl rfl (decide_eq_false (fun h => h rfl)) ZE rfl ?_
 refine AD 37 44 false _ (I64 ni) rfl rfl (decide_eq_false (fun h => h rfl)) ZE rfl ?_
 refine AD 37 44 false _ (.bool (decide (((ni:Int)) ≠ ((ni:Int))))) rfl rfl (decide_eq_false (fun h => h rfl)) ZE rfl ?_
 refine AE _ (BO _ rfl (decide_eq_false (fun h => h rfl)) rfl) rfl ?_
 refine Z2 1 ?_
 refine AD 48 55 false _ (Ptr nb1 2) rfl rfl ZM ZE rfl ?_
 refine AD 48 55 false _ (Ptr nb1 4) rfl rfl ZM ZE rfl ?_
 refine AD 48 55 false _ _ rfl rfl ZM ZE rfl ?_
 refine AD 48 55 false _ (I64 ns) rfl rfl ZM ZE rfl ?_
 refine AD 48 55 false _ (Ptr nb2 2) rfl rfl ZM ZE rfl ?_
 refine AD 48 55 false _ (Ptr nb2 4) rfl rfl ZM ZE rfl ?_
 refine AD 48 55 false _ _ rfl rfl ZM ZE rfl ?_
 refine AD 48 55 false _ (I64 ns) rfl rfl ZM ZE rfl ?_
 refine AD 48 55 false _ (.bool (decide (((ns:Int)) ≠ ((ns:Int))))) rfl rfl ZM ZE rfl ?_
 refine AE _ (BO _ rfl ZM rfl) rfl ?_
 refine A1 (AK (AY _ rfl ZM ?_))
 refine Z2 9 ?_
 refine C3 (ι := Nat) (fun i => [(2, Ptr nb1 0), (3, Ptr nb2 0), (5, I64 i)]) (fun i => [(Ez nb1 (V2 pv ep (kd) ai ni ci sa ns sc bl tg) 38), (Ez nb2 (V2 pv ep (kd) ai2 ni ci2 sa2 ns sc2 bl tg) 38)]) (fun i => i ≤ ni) (fun i => ni - i) 0 ZO (Sub.all rfl) rfl ?_
 rintro i hxi
 show JC _ _ _ [_, _, _] [_, _]
 refine Z2 11 ?_
 refine AX _ rfl (fun hb1 => ?_) (fun hb1 => ?_)
 ·
  have hp1 := of_decide_eq_true hb1
  refine Z2 5 ?_
  obtain ⟨bz1, oz1, hz1, hm1⟩ := RdV.pos hv (by rw [EA, hl]; omega)
  obtain ⟨bz2, oz2, hz2, hm2⟩ := RdV.pos hv2 (by rw [EA, hl]; omega)
  refine Z8 108 1 [(0, Ptr nb1 2), (1, Ptr nb1 3), (2, SL ai ni ci), (3, I64 i), (4, Ptr bz1 (i + oz1)), (5, U64 (g64 l i)), (6, Ptr nb2 2), (7, Ptr nb2 3), (8, SL ai2 ni ci2), (9, I64 i), (10, Ptr bz2 (i + oz2)), (11, U64 (g64 l i)), (12, .bool (decide ((g64 l i) ≠ (g64 l i))))] ?_
  refine Z5 ⟨[], [0, 1, 2, 3, 4, 5, 6, 7, 8, 9, 10, 11, 12], [], [0, 1, 2, 3, 4, 5, 6, 7, 8, 9, 10, 11, 12], []⟩ (hq := ⟨AA rfl rfl ZE, AA rfl rfl ZE, AA rfl rfl ZE, BM rfl rfl rfl, AA rfl rfl (BK 22 1 (i + oz1) BB BJ rfl hz1 rfl ZO ZO ZO), AA rfl rfl (AR rfl (B1 BD (BP (hm1.mem ZM) (Seg.get (FE (i := i) (by rw [hl]; omega))) (by first | omega | (simp; done) | (simp; omega))))), AA rfl rfl ZE, AA rfl rfl ZE, AA rfl rfl ZE, BM rfl rfl rfl, AA rfl rfl (BK 22 1 (i + oz2) BB BJ rfl hz2 rfl ZO ZO ZO), AA rfl rfl (AR rfl (B1 BD (BP (hm2.mem ZM) (Seg.get (FE (i := i) (by rw [hl]; omega))) (by first | omega | (simp; done) | (simp; omega))))), AA rfl rfl (AT rfl rfl fun _ => CL (g64 l i) (g64 l i)), trivial⟩) ?_
  refine A9 (F' := [(74, Ptr nb1 2), (75, Ptr nb1 3), (76, SL ai ni ci), (77, I64 i), (78, Ptr bz1 (i + oz1)), (79, U64 (g64 l i)), (80, Ptr nb2 2), (81, Ptr nb2 3), (82, SL ai2 ni ci2), (83, I64 i), (84, Ptr bz2 (i + oz2)), (85, U64 (g64 l i)), (86, .bool (decide ((g64 l i) ≠ (g64 l i)))), (2, Ptr nb1 0), (3, Ptr nb2 0), (5, I64 i), (66, I64 i), (67, Ptr nb1 2), (68, Ptr nb1 3), (69, SL ai ni ci), (70, I64 ni), (71, .bool (decide (((i:Int)) < ((ni:Int)))))]) ZR ?_
  refine AK (AY _ rfl (decide_eq_false (fun h => h rfl)) ?_)
  refine Z2 5 ?_
  refine AE (I64 ((i:Int) + 1)) (AT rfl rfl fun _ => BR _ _ ((i:Int) + 1) ZO ZO) rfl ?_
  refine Z2 1 ?_
  refine A1 (B5 (C1 (i + 1) ZO ZO (Sub.all rfl) rfl))
 have hp1 := of_decide_eq_false hb1
 refine Z2 12 ?_
 refine C3 (ι := Nat) (fun j => [(2, Ptr nb1 0), (3, Ptr nb2 0), (6, I64 j)]) (fun j => [(Ez nb1 (V2 pv ep (kd) ai ni ci sa ns sc bl tg) 38), (Ez nb2 (V2 pv ep (kd) ai2 ni ci2 sa2 ns sc2 bl tg) 38)]) (fun j => j ≤ ns) (fun j => ns - j) 0 ZO (Sub.all rfl) rfl ?_
 rintro j hxj
 show JC _ _ _ [_, _, _] [_, _]
 refine Z2 11 ?_
 refine AX _ rfl (fun hb2 => ?_) (fun hb2 => ?_)
 ·
  have hp2 := of_decide_eq_true hb2
  refine Z2 5 ?_
  obtain ⟨x1, hx1⟩ : ∃ x, ls[j]? = some x := ⟨_, List.getElem?_eq_getElem (by rw [hls]; omega)⟩
  obtain ⟨bz3, oz3, hz3, hm3⟩ := EJ D8 ZD hs hx1
  obtain ⟨bz4, oz4, hz4, hm4⟩ := EJ D8 ZD hs2 hx1
  refine Z8 108 1 [(0, Ptr nb1 2), (1, Ptr nb1 4), (2, SL sa ns sc), (3, I64 j), (4, Ptr bz3 (49*j + oz3)), (5, .agg ([U64 x1.e] ++ cu8 x1.d ++ cu8 x1.t).toArray), (6, Ptr nb2 2), (7, Ptr nb2 4), (8, SL sa2 ns sc2), (9, I64 j), (10, Ptr bz4 (49*j + oz4)), (11, .agg ([U64 x1.e] ++ cu8 x1.d ++ cu8 x1.t).toArray), (12, .bool (!(decide (x1.e = x1.e ∧ x1.d = x1.d ∧ x1.t = x1.t))))] ?_
  refine Z5 ⟨[], [0, 1, 2, 3, 4, 5, 6, 7, 8, 9, 10, 11, 12], [], [0, 1, 2, 3, 4, 5, 6, 7, 8, 9, 10, 11, 12], []⟩ (hq := ⟨AA rfl rfl ZE, AA rfl rfl ZE, AA rfl rfl ZE, BM rfl rfl rfl, AA rfl rfl (BK 164 49 (49*j + oz3) CE BW rfl hz3 rfl ZO ZO ZO), AA rfl rfl (AR rfl (BV Tryd.isAgg164 BW (by simp [x1.hd, x1.ht]) (BP (hm3.mem ZM) (AG _) (by first | omega | (simp; done) | (simp; omega))))), AA rfl rfl ZE, AA rfl rfl ZE, AA rfl rfl ZE, BM rfl rfl rfl, AA rfl rfl (BK 164 49 (49*j + oz4) CE BW rfl hz4 rfl ZO ZO ZO), AA rfl rfl (AR rfl (BV Tryd.isAgg164 BW (by simp [x1.hd, x1.ht]) (BP (hm4.mem ZM) (AG _) (by first | omega | (simp; done) | (simp; omega))))), AA rfl rfl (CG _ _ _ rfl rfl (fun _ => EG _ _ _ _ _ _ ZR) (neq_struct (x1.e = x1.e ∧ x1.d = x1.d ∧ x1.t = x1.t) (EqV.struct (d := 9999) ZR ZR ZR (EqRs.cons 22 0 (U64 x1.e) (U64 x1.e) _ _ _ (PartV.one BD (AU (AU (Seg.head)))) (PartV.one BD (AU (AU (Seg.head)))) (EqV.u64 (d := 9998) BQ x1.e x1.e) (EqRs.cons 159 1 (.agg (cu8 x1.d).toArray) (.agg (cu8 x1.d).toArray) _ _ _ (PartV.agg D3 DW (EC (AU (Seg.right 1 0 rfl rfl (AG _))) (CI x1.hd) ZO)) (PartV.agg D3 DW (EC (AU (Seg.right 1 0 rfl rfl (AG _))) (CI x1.hd) ZO)) (EqV.arr8 (d := 9997) CJ BS CM DT D9 (by simp [x1.hd]) (by simp [x1.hd])) (EqRs.last 27 33 (.agg (cu8 x1.t).toArray) (.agg (cu8 x1.t).toArray) _ (PartV.agg CU CO (EC (Seg.right 33 0 (by simp [x1.hd]) rfl (AG _)) (CI x1.ht) ZO)) (PartV.agg CU CO (EC (Seg.right 33 0 (by simp [x1.hd]) rfl (AG _)) (CI x1.ht) ZO)) (EqV.arr8 (d := 9997) AZ BS CM DT D9 (by simp [x1.ht]) (by simp [x1.ht])))))) (by first | rfl | (simp only [Bool.decide_and, Bool.and_assoc]; done) | (simp only [Bool.beq_eq_decide_eq, Bool.decide_and, Bool.and_assoc]; done) | (simp [Bool.and_assoc]; done)))), trivial⟩) ?_
  refine A9 (F' := [(95, Ptr nb1 2), (96, Ptr nb1 4), (97, SL sa ns sc), (98, I64 j), (99, Ptr bz3 (49*j + oz3)), (100, .agg ([U64 x1.e] ++ cu8 x1.d ++ cu8 x1.t).toArray), (101, Ptr nb2 2), (102, Ptr nb2 4), (103, SL sa2 ns sc2), (104, I64 j), (105, Ptr bz4 (49*j + oz4)), (106, .agg ([U64 x1.e] ++ cu8 x1.d ++ cu8 x1.t).toArray), (107, .bool (!(decide (x1.e = x1.e ∧ x1.d = x1.d ∧ x1.t = x1.t)))), (2, Ptr nb1 0), (3, Ptr nb2 0), (6, I64 j), (87, I64 j), (88, Ptr nb1 2), (89, Ptr nb1 4), (90, SL sa ns sc), (91, I64 ns), (92, .bool (decide (((j:Int)) < ((ns:Int)))))]) ZR ?_
  refine AK (AY _ rfl (bnotT (decide_eq_true ZM)) ?_)
  refine Z2 5 ?_
  refine AE (I64 ((j:Int) + 1)) (AT rfl rfl fun _ => BR _ _ ((j:Int) + 1) ZO ZO) rfl ?_
  refine Z2 1 ?_
  refine A1 (B5 (C1 (j + 1) ZO ZO (Sub.all rfl) rfl))
 have hp2 := of_decide_eq_false hb2
 refine Z2 11 ?_
 refine A8 [false, false] ?_
 show JQ _ _ _ _ []
 refine Z1 fun w1 hw1 => ?_
 exact ⟨_, [], rfl, ⟨rfl, rfl⟩, hw1.no⟩
theorem rsameReqT_c (sq : UInt64) (qk : Int) (aiq : Option Addr) (niq ciq : Nat) (lq : List UInt64) (fs : UInt64) (mn : Int) (pv ep : UInt64) (kd : Int) (ai : Option Addr) (ni ci : Nat) (l : List UInt64) (sa : Option Addr) (ns sc : Nat) (ls : List SealR) (bl : UInt64) (tg : List UInt8) (eq : UInt64) (aiq2 : Option Addr) (ciq2 : Nat) (ai2 : Option Addr) (ci2 : Nat) (sa2 : Option Addr) (sc2 : Nat)  (w : World) (hlq : lq.length = niq) (hnmq : niq ≤ 2000000) (hncq : niq ≤ ciq) (hcmq : ciq ≤ maxLen) (hvq : RdV w aiq (cu64 lq)) (hl : l.length = ni) (hnm : ni ≤ 2000000) (hnc : ni ≤ ci) (hcm : ci ≤ maxLen) (hv : RdV w ai (cu64 l)) (hls : ls.length = ns) (hnn : ns ≤ 2000000) (hnd : ns ≤ sc) (hcn : sc ≤ maxLen) (hs : RdV w sa (ls.flatMap sealC)) (htg : tg.length = 16) (hncq2 : niq ≤ ciq2) (hcmq2 : ciq2 ≤ maxLen) (hvq2 : RdV w aiq2 (cu64 lq)) (hnc2 : ni ≤ ci2) (hcm2 : ci2 ≤ maxLen) (hv2 : RdV w ai2 (cu64 l)) (hnd2 : ns ≤ sc2) (hcn2 : sc2 ≤ maxLen) (hs2 : RdV w sa2 (ls.flatMap sealC))  : Calls Tryd.prog 57 #[.agg (V1 sq (qk) aiq niq ciq fs (mn) pv ep (kd) ai ni ci sa ns sc bl tg eq).toArray, .agg (V1 sq (qk) aiq2 niq ciq2 fs (mn) pv ep (kd) ai2 ni ci2 sa2 ns sc2 bl tg eq).toArray] w (Post w [] (fun v L => v = .bool true ∧ L = [])) := by
 have hmx : maxLen = 9223372036854775807 := rfl
 refine enter (P := Tryd.prog) (f := 57) (fn := Tryd.f57) w [] 74 [] [.agg (V1 sq (qk) aiq niq ciq fs (mn) pv ep (kd) ai ni ci sa ns sc bl tg eq).toArray, .agg (V1 sq (qk) aiq2 niq ciq2 fs (mn) pv ep (kd) ai2 ni ci2 sa2 ns sc2 bl tg eq).toArray] Tryd.func57 rfl rfl ZM (A2 ZM ZM ZM) ?_
 show JC _ _ _ [_, _] _
 refine A4 (AO (AF (B2 (.agg (V1 sq (qk) aiq niq ciq fs (mn) pv ep (kd) ai ni ci sa ns sc bl tg eq).toArray) (V1 sq (qk) aiq niq ciq fs (mn) pv ep (kd) ai ni ci sa ns sc bl tg eq) rfl (by first | rfl | simp)) rfl ?_))
 rintro v1 L1 ⟨nb1, hnb1, rfl, rfl⟩
 show JL _ _ _ _ (_ :: _) [_]
 refine AF (B2 (.agg (V1 sq (qk) aiq2 niq ciq2 fs (mn) pv ep (kd) ai2 ni ci2 sa2 ns sc2 bl tg eq).toArray) (V1 sq (qk) aiq2 niq ciq2 fs (mn) pv ep (kd) ai2 ni ci2 sa2 ns sc2 bl tg eq) rfl (by first | rfl | simp)) rfl ?_
 rintro v1 L1 ⟨nb2, hnb2, rfl, rfl⟩
 show JL _ _ _ _ (_ :: _) [_, _]
 refine Z2 10 ?_
 refine AE (.bool (decide (sq ≠ sq))) (AT rfl rfl fun _ => CL sq sq) rfl ?_
 refine Z2 1 ?_
 refine AD 5 11 false _ (Ptr nb1 1) rfl rfl (decide_eq_false (fun h => h rfl)) ZE rfl ?_
 refine AD 5 11 false _ (I64 (qk)) rfl rfl (decide_eq_false (fun h => h rfl)) ZE rfl ?_
 refine AD 5 11 false _ (Ptr nb2 1) rfl rfl (decide_eq_false (fun h => h rfl)) ZE rfl ?_
 refine AD 5 11 false _ (I64 (qk)) rfl rfl (decide_eq_false (fun h => h rfl)) ZE rfl ?_
 refine AD 5 11 false _ (.bool (decide ((qk) ≠ (qk)))) rfl rfl (decide_eq_false (fun h => h rfl)) ZE rfl ?_
 refine AE _ (BO _ rfl (decide_eq_false (fun h => h rfl)) rfl) rfl ?_
 refine Z2 1 ?_
 refine AD 12 18 false _ (Ptr nb1 3) rfl rfl ZM ZE rfl ?_
 refine AD 12 18 false _ _ rfl rfl ZM ZE rfl ?_
 refine AD 12 18 false _ (Ptr nb2 3) rfl rfl ZM ZE rfl ?_
 refine AD 12 18 false _ _ rfl rfl ZM ZE rfl ?_
 refine AD 12 18 false _ (.bool (decide (fs ≠ fs))) rfl rfl ZM (AT rfl rfl fun _ => CL fs fs) rfl ?_
 refine AE _ (BO _ rfl ZM rfl) rfl ?_
 refine Z2 1 ?_
 refine AD 19 25 false _ (Ptr nb1 4) rfl rfl (decide_eq_false (fun h => h rfl)) ZE rfl ?_
 refine AD 19 25 false _ (I64 (mn)) rfl rfl (decide_eq_false (fun h => h rfl)) ZE rfl ?_
 refine AD 19 25 false _ (Ptr nb2 4) rfl rfl (decide_eq_false (fun h => h rfl)) ZE rfl ?_
 refine AD 19 25 false _ (I64 (mn)) rfl rfl (decide_eq_false (fun h => h rfl)) ZE rfl ?_
 refine AD 19 25 false _ (.bool (decide ((mn) ≠ (mn)))) rfl rfl (decide_eq_false (fun h => h rfl)) ZE rfl ?_
 refine AE _ (BO _ rfl (decide_eq_false (fun h => h rfl)) rfl) rfl ?_
 refine Z2 1 ?_
 refine AD 26 32 false _ (Ptr nb1 27) rfl rfl ZM ZE rfl ?_
 refine AD 26 32 false _ _ rfl rfl ZM (AR rfl (B1 BD (A0 0 rfl (Seg.right 27 0 (by simp [htg]) rfl (Seg.head))))) rfl ?_
 refine AD 26 32 false _ (Ptr nb2 27) rfl rfl ZM ZE rfl ?_
 refine AD 26 32 false _ _ rfl rfl ZM (AR rfl (B1 BD (A0 1 rfl (Seg.right 27 0 (by simp [htg]) rfl (Seg.head))))) rfl ?_
 refine AD 26 32 false _ (.bool (decide (eq ≠ eq))) rfl rfl ZM (AT rfl rfl fun _ => CL eq eq) rfl ?_
 refine AE _ (BO _ rfl ZM rfl) rfl ?_
 refine Z2 1 ?_
 refine AD 33 39 false _ (Ptr nb1 5) rfl rfl (decide_eq_false (fun h => h rfl)) ZE rfl ?_
 refine AD 33 39 false _ (.agg (V2 pv ep (kd) ai ni ci sa ns sc bl tg).toArray) rfl rfl (decide_eq_false (fun h => h rfl)) (AR rfl (BV Tryd.isAgg38 B8 (by simp [htg]) (A0 0 rfl (CB (p := [U64 sq, I64 (qk), SL aiq niq ciq, U64 fs, I64 (mn)]) (q := [U64 eq]) (vs := (V2 pv ep (kd) ai ni ci sa ns sc bl tg)) (by first | rfl | (simp only [List.append_assoc, List.nil_append, List.append_nil, List.cons_append]; done)) rfl)))) rfl ?_
 refine AD 33 39 false _ (Ptr nb2 5) rfl rfl (decide_eq_false (fun h => h rfl)) ZE rfl ?_
 refine AD 33 39 false _ (.agg (V2 pv ep (kd) ai2 ni ci2 sa2 ns sc2 bl tg).toArray) rfl rfl (decide_eq_false (fun h => h rfl)) (AR rfl (BV Tryd.isAgg38 B8 (by simp [htg]) (A0 1 rfl (CB (p := [U64 sq, I64 (qk), SL aiq2 niq ciq2, U64 fs, I64 (mn)]) (q := [U64 eq]) (vs := (V2 pv ep (kd) ai2 ni ci2 sa2 ns sc2 bl tg)) (by first | rfl | (simp only [List.append_assoc, List.nil_append, List.append_nil, List.cons_append]; done)) rfl)))) rfl ?_
 refine B6 33 39 false _ rfl rfl (decide_eq_false (fun h => h rfl)) (AJ 51 _ (.bool true) (AH _ Tryd.call51 rfl) (fun w1 hw1 => rsameT13_c pv ep (kd) ai ni ci l sa ns sc ls bl tg ai2 ci2 sa2 sc2 w1 hl ZO ZO ZO (CF hw1 rfl hv) hls ZO ZO ZO (CF hw1 rfl hs) htg ZO ZO (CF hw1 rfl hv2) ZO ZO (CF hw1 rfl hs2))) rfl ?_
 rintro v1 L1 ⟨rfl, rfl⟩
 show JL _ _ _ _ (_ :: _) [_, _]
 refine AD 33 39 false _ (.bool (!true)) rfl rfl (decide_eq_false (fun h => h rfl)) ZE rfl ?_
 refine AE _ (BO _ rfl (decide_eq_false (fun h => h rfl)) rfl) rfl ?_
 refine Z2 11 ?_
 refine AY _ rfl ZM ?_
 refine Z2 9 ?_
 refine C3 (ι := Nat) (fun i => [(2, Ptr nb1 0), (3, Ptr nb2 0), (5, I64 i)]) (fun i => [(Ez nb1 (V1 sq (qk) aiq niq ciq fs (mn) pv ep (kd) ai ni ci sa ns sc bl tg eq) 40), (Ez nb2 (V1 sq (qk) aiq2 niq ciq2 fs (mn) pv ep (kd) ai2 ni ci2 sa2 ns sc2 bl tg eq) 40)]) (fun i => i ≤ niq) (fun i => niq - i) 0 ZO (Sub.all rfl) rfl ?_
 rintro i hxi
 show JC _ _ _ [_, _, _] [_, _]
 refine Z2 10 ?_
 refine AX _ rfl (fun hb1 => ?_) (fun hb1 => ?_)
 ·
  have hp1 := of_decide_eq_true hb1
  refine Z2 5 ?_
  obtain ⟨bz1, oz1, hz1, hm1⟩ := RdV.pos hvq (by rw [EA, hlq]; omega)
  obtain ⟨bz2, oz2, hz2, hm2⟩ := RdV.pos hvq2 (by rw [EA, hlq]; omega)
  refine Z8 74 1 [(0, Ptr nb1 2), (1, SL aiq niq ciq), (2, I64 i), (3, Ptr bz1 (i + oz1)), (4, U64 (g64 lq i)), (5, Ptr nb2 2), (6, SL aiq2 niq ciq2), (7, I64 i), (8, Ptr bz2 (i + oz2)), (9, U64 (g64 lq i)), (10, .bool (decide ((g64 lq i) ≠ (g64 lq i))))] ?_
  refine Z5 ⟨[], [0, 1, 2, 3, 4, 5, 6, 7, 8, 9, 10], [], [0, 1, 2, 3, 4, 5, 6, 7, 8, 9, 10], []⟩ (hq := ⟨AA rfl rfl ZE, AA rfl rfl ZE, BM rfl rfl rfl, AA rfl rfl (BK 22 1 (i + oz1) BB BJ rfl hz1 rfl ZO ZO ZO), AA rfl rfl (AR rfl (B1 BD (BP (hm1.mem ZM) (Seg.get (FE (i := i) (by rw [hlq]; omega))) (by first | omega | (simp; done) | (simp; omega))))), AA rfl rfl ZE, AA rfl rfl ZE, BM rfl rfl rfl, AA rfl rfl (BK 22 1 (i + oz2) BB BJ rfl hz2 rfl ZO ZO ZO), AA rfl rfl (AR rfl (B1 BD (BP (hm2.mem ZM) (Seg.get (FE (i := i) (by rw [hlq]; omega))) (by first | omega | (simp; done) | (simp; omega))))), AA rfl rfl (AT rfl rfl fun _ => CL (g64 lq i) (g64 lq i)), trivial⟩) ?_
  refine A9 (F' := [(63, Ptr nb1 2), (64, SL aiq niq ciq), (65, I64 i), (66, Ptr bz1 (i + oz1)), (67, U64 (g64 lq i)), (68, Ptr nb2 2), (69, SL aiq2 niq ciq2), (70, I64 i), (71, Ptr bz2 (i + oz2)), (72, U64 (g64 lq i)), (73, .bool (decide ((g64 lq i) ≠ (g64 lq i)))), (2, Ptr nb1 0), (3, Ptr nb2 0), (5, I64 i), (56, I64 i), (57, Ptr nb1 2), (58, SL aiq niq ciq), (59, I64 niq), (60, .bool (decide (((i:Int)) < ((niq:Int)))))]) ZR ?_
  refine AK (AY _ rfl (decide_eq_false (fun h => h rfl)) ?_)
  refine Z2 5 ?_
  refine AE (I64 ((i:Int) + 1)) (AT rfl rfl fun _ => BR _ _ ((i:Int) + 1) ZO ZO) rfl ?_
  refine Z2 1 ?_
  refine A1 (B5 (C1 (i + 1) ZO ZO (Sub.all rfl) rfl))
 have hp1 := of_decide_eq_false hb1
 refine Z2 11 ?_
 refine A8 [false, false] ?_
 show JQ _ _ _ _ []
 refine Z1 fun w1 hw1 => ?_
 exact ⟨_, [], rfl, ⟨rfl, rfl⟩, hw1.no⟩
end Go.Proofs.YtkdpdgpphpngeaaDoor
