import Derived.Test.YtkdpdgpphpngeaaDoorPkW3
set_option linter.unusedVariables false
set_option linter.unusedSimpArgs false
set_option maxRecDepth 100000
namespace Go.Proofs.YtkdpdgpphpngeaaDoor
open Go Go.Sx
open Go.Value renaming slice → SL
attribute [local irreducible] mid zr8 numK valK constL initL putL RightB tktT mayN idxT selT blankB spanB reqR plainV itB chB bB aB c1B c2B c3B c4B repR
set_option maxHeartbeats 2000000 in
theorem E5 (rq : UInt64) (rk er : Int) (aj : Option Addr) (nj cj : Nat) (lj : List ItemR) (th : Bool) (pv ep : UInt64) (kd : Int) (ai : Option Addr) (ni ci : Nat) (l : List UInt64) (sa : Option Addr) (ns sc : Nat) (ls : List SealR) (bl : UInt64) (tg : List UInt8) (aha : Option Addr) (nha cha : Nat) (xha : List UInt8) (ahb : Option Addr) (nhb chb : Nat) (xhb : List UInt8)  (w : World) (hlj : lj.length = nj) (hnj : nj ≤ 2000000) (hdj : nj ≤ cj) (hcj : cj ≤ maxLen) (hj : RdV w aj (lj.flatMap itemC)) (hl : l.length = ni) (hnm : ni ≤ 2000000) (hnc : ni ≤ ci) (hcm : ci ≤ maxLen) (hv : RdV w ai (cu64 l)) (hls : ls.length = ns) (hnn : ns ≤ 2000000) (hnd : ns ≤ sc) (hcn : sc ≤ maxLen) (hs : RdV w sa (ls.flatMap sealC)) (htg : tg.length = 16) (hlha : xha.length = nha * 32) (hnha : nha ≤ 9000) (hdha : nha ≤ cha) (hcha : cha ≤ maxLen) (hrha : RdB w [] aha xha) (hlhb : xhb.length = nhb * 32) (hnhb : nhb ≤ 9000) (hdhb : nhb ≤ chb) (hchb : chb ≤ maxLen) (hrhb : RdB w [] ahb xhb) (hbi : ni ≤ 300) (hbs : ns ≤ 300)  : Calls Tryd.prog 35 #[.agg ([U64 rq, I64 (rk), I64 (er), SL aj nj cj, .bool th, U64 pv, U64 ep, I64 (kd), SL ai ni ci, SL sa ns sc, U64 bl] ++ cu8 tg ++ [SL aha nha cha, SL ahb nhb chb]).toArray] w (Post w [] (fun v L => v = .bool (repR rk er th lj (blankB pv ep kd l ls bl tg) (decide (mayN pv ep kd l ls bl = 0)) nha nhb) ∧ L = [])) := by
 have hmx : maxLen = 9223372036854775807 := rfl
 refine enter (P := Tryd.prog) (f := 35) (fn := Tryd.f35) w [] 113 [] [.agg ([U64 rq, I64 (rk), I64 (er), SL aj nj cj, .bool th, U64 pv, U64 ep, I64 (kd), SL ai ni ci, SL sa ns sc, U64 bl] ++ cu8 tg ++ [SL aha nha cha, SL ahb nhb chb]).toArray] Tryd.func35 rfl rfl (by simp) (BW (by simp) (by simp) (by simp)) ?_
 show JC _ _ _ [(0, .agg ([U64 rq, I64 (rk), I64 (er), SL aj nj cj, .bool th, U64 pv, U64 ep, I64 (kd), SL ai ni ci, SL sa ns sc, U64 bl] ++ cu8 tg ++ [SL aha nha cha, SL ahb nhb chb]).toArray)] _
 refine AH (AB (A4 (C5 (.agg ([U64 rq, I64 (rk), I64 (er), SL aj nj cj, .bool th, U64 pv, U64 ep, I64 (kd), SL ai ni ci, SL sa ns sc, U64 bl] ++ cu8 tg ++ [SL aha nha cha, SL ahb nhb chb]).toArray) ([U64 rq, I64 (rk), I64 (er), SL aj nj cj, .bool th, U64 pv, U64 ep, I64 (kd), SL ai ni ci, SL sa ns sc, U64 bl] ++ cu8 tg ++ [SL aha nha cha, SL ahb nhb chb]) rfl (by first | rfl | simp)) rfl ?_))
 rintro v1 L1 ⟨nb1, hnb1, rfl, rfl⟩
 show JL _ _ _ _ ((1, Ptr nb1 0) :: _) [⟨nb1, [U64 rq, I64 (rk), I64 (er), SL aj nj cj, .bool th, U64 pv, U64 ep, I64 (kd), SL ai ni ci, SL sa ns sc, U64 bl] ++ cu8 tg ++ [SL aha nha cha, SL ahb nhb chb], 67, (0, 0)⟩]
 refine AA _ (AE rfl) rfl ?_
 refine AI (AC (AH (AB (AA (.agg ([U64 rq, I64 (rk), I64 (er), SL aj nj cj, .bool th, U64 pv, U64 ep, I64 (kd), SL ai ni ci, SL sa ns sc, U64 bl] ++ cu8 tg ++ [SL aha nha cha, SL ahb nhb chb]).toArray) (AO rfl (BU CC BR (by simp [htg]) (AU 0 rfl (AQ _)))) rfl ?_))))
 refine A7 (A2 95 [.agg ([U64 rq, I64 (rk), I64 (er), SL aj nj cj, .bool th, U64 pv, U64 ep, I64 (kd), SL ai ni ci, SL sa ns sc, U64 bl] ++ cu8 tg ++ [SL aha nha cha, SL ahb nhb chb]).toArray] (.tuple #[.bool (itB (er) (rk)), .bool (chB (er) (rk) th), .bool (aB (er) (rk) th), .bool (bB (er) (rk) th)]) (AS _ Tryd.call95 rfl) (fun w1 hw1 => parts_c rq (rk) (er) aj nj cj lj th pv ep (kd) ai ni ci l sa ns sc ls bl tg aha nha cha xha ahb nhb chb xhb w1 htg)) rfl ?_
 show JL _ _ _ _ ((10, .tuple #[.bool (itB (er) (rk)), .bool (chB (er) (rk) th), .bool (aB (er) (rk) th), .bool (bB (er) (rk) th)]) :: _) [_]
 refine AA _ (AF rfl) rfl ?_
 refine AA _ (BE rfl rfl) rfl ?_
 refine AA _ (BE rfl rfl) rfl ?_
 refine AA _ (BE rfl rfl) rfl ?_
 refine AA _ (BE rfl rfl) rfl ?_
 refine AA _ (AE rfl) rfl ?_
 refine AA _ (AE rfl) rfl ?_
 refine AA _ (AE rfl) rfl ?_
 refine AA _ (AE rfl) rfl ?_
 refine AI (AC (AH (AB (AA _ (AE rfl) rfl ?_))))
 refine AI (AC (AH (B5 (AH (FK (ι := Unit) (fun _ => [(1, Ptr nb1 0), (2, .bool false), (3, .bool (itB (er) (rk))), (4, .bool (chB (er) (rk) th)), (5, .bool (aB (er) (rk) th)), (6, .bool (bB (er) (rk) th)), (7, .func (.func 99) #[] #[]), (15, .bool (!(c1B er rk)))]) (fun _ => [⟨nb1, [U64 rq, I64 (rk), I64 (er), SL aj nj cj, .bool th, U64 pv, U64 ep, I64 (kd), SL ai ni ci, SL sa ns sc, U64 bl] ++ cu8 tg ++ [SL aha nha cha, SL ahb nhb chb], 67, (0, 0)⟩]) (fun _ => True) ?_ ?_)))))
 ·
  refine AB (AA (Ptr nb1 1) (AD 1 3 1 AM rfl AT rfl rfl) rfl ?_)
  refine AA (I64 (rk)) (AO rfl (A0 AY (AU 0 rfl (AJ (AJ (AK (Seg.head))))))) rfl ?_
  refine AA (.bool (decide ((rk) < (1:Int)))) (AR rfl rfl fun _ => CH _ _) rfl ?_
  refine AA _ (AF rfl) rfl ?_
  rcases Bool.eq_false_or_eq_true (decide ((rk) < (1:Int))) with hb1 | hb1
  ·
   have hp1 : (rk) < (1:Int) := of_decide_eq_true hb1
   refine AG 3 19 false _ rfl rfl hb1 rfl ?_
   refine AG 3 19 false _ rfl rfl hb1 rfl ?_
   refine AG 3 19 false _ rfl rfl hb1 rfl ?_
   refine AA _ (BD _ rfl hb1 rfl) rfl ?_
   refine AA _ (AF rfl) rfl ?_
   refine AG 8 24 false _ rfl rfl rfl rfl ?_
   refine AG 8 24 false _ rfl rfl rfl rfl ?_
   refine AG 8 24 false _ rfl rfl rfl rfl ?_
   refine AA _ (BD _ rfl rfl rfl) rfl ?_
   refine AA _ (AF rfl) rfl ?_
   refine AG 13 29 false _ rfl rfl rfl rfl ?_
   refine AG 13 29 false _ rfl rfl rfl rfl ?_
   refine AG 13 29 false _ rfl rfl rfl rfl ?_
   refine AA _ (BD _ rfl rfl rfl) rfl ?_
   refine AA _ (AE rfl) rfl ?_
   refine AI (DT (()) trivial (Sub.cons rfl (Sub.cons rfl (Sub.cons rfl (Sub.cons rfl (Sub.cons rfl (Sub.cons rfl (Sub.cons rfl (Sub.cons (congrArg (fun b => some (Value.bool b)) (c1_no (by omega) : (true) = (!(c1B er rk)))) (Sub.nil))))))))) rfl)
  ·
   have hp1 : ¬ ((rk) < (1:Int)) := of_decide_eq_false hb1
   refine AP 3 19 false _ (Ptr nb1 1) rfl rfl hb1 (AD 1 3 1 AM rfl AT rfl rfl) rfl ?_
   refine AP 3 19 false _ (I64 (rk)) rfl rfl hb1 (AO rfl (A0 AY (AU 0 rfl (AJ (AJ (AK (Seg.head))))))) rfl ?_
   refine AP 3 19 false _ (.bool (decide ((5:Int) < (rk)))) rfl rfl hb1 (AR rfl rfl fun _ => DD _ _) rfl ?_
   refine AA _ (A3 _ rfl hb1 rfl) rfl ?_
   refine AA _ (AF rfl) rfl ?_
   rcases Bool.eq_false_or_eq_true (decide ((5:Int) < (rk))) with hb2 | hb2
   ·
    have hp2 : (5:Int) < (rk) := of_decide_eq_true hb2
    refine AG 8 24 false _ rfl rfl hb2 rfl ?_
    refine AG 8 24 false _ rfl rfl hb2 rfl ?_
    refine AG 8 24 false _ rfl rfl hb2 rfl ?_
    refine AA _ (BD _ rfl hb2 rfl) rfl ?_
    refine AA _ (AF rfl) rfl ?_
    refine AG 13 29 false _ rfl rfl rfl rfl ?_
    refine AG 13 29 false _ rfl rfl rfl rfl ?_
    refine AG 13 29 false _ rfl rfl rfl rfl ?_
    refine AA _ (BD _ rfl rfl rfl) rfl ?_
    refine AA _ (AE rfl) rfl ?_
    refine AI (DT (()) trivial (Sub.cons rfl (Sub.cons rfl (Sub.cons rfl (Sub.cons rfl (Sub.cons rfl (Sub.cons rfl (Sub.cons rfl (Sub.cons (congrArg (fun b => some (Value.bool b)) (c1_no (by omega) : (true) = (!(c1B er rk)))) (Sub.nil))))))))) rfl)
   ·
    have hp2 : ¬ ((5:Int) < (rk)) := of_decide_eq_false hb2
    refine AP 8 24 false _ (Ptr nb1 2) rfl rfl hb2 (AD 2 3 1 AM rfl AT rfl rfl) rfl ?_
    refine AP 8 24 false _ (I64 (er)) rfl rfl hb2 (AO rfl (A0 AY (AU 0 rfl (AJ (AJ (AK (AK (Seg.head)))))))) rfl ?_
    refine AP 8 24 false _ (.bool (decide ((er) < (0:Int)))) rfl rfl hb2 (AR rfl rfl fun _ => CH _ _) rfl ?_
    refine AA _ (A3 _ rfl hb2 rfl) rfl ?_
    refine AA _ (AF rfl) rfl ?_
    rcases Bool.eq_false_or_eq_true (decide ((er) < (0:Int))) with hb3 | hb3
    ·
     have hp3 : (er) < (0:Int) := of_decide_eq_true hb3
     refine AG 13 29 false _ rfl rfl hb3 rfl ?_
     refine AG 13 29 false _ rfl rfl hb3 rfl ?_
     refine AG 13 29 false _ rfl rfl hb3 rfl ?_
     refine AA _ (BD _ rfl hb3 rfl) rfl ?_
     refine AA _ (AE rfl) rfl ?_
     refine AI (DT (()) trivial (Sub.cons rfl (Sub.cons rfl (Sub.cons rfl (Sub.cons rfl (Sub.cons rfl (Sub.cons rfl (Sub.cons rfl (Sub.cons (congrArg (fun b => some (Value.bool b)) (c1_no (by omega) : (true) = (!(c1B er rk)))) (Sub.nil))))))))) rfl)
    ·
     have hp3 : ¬ ((er) < (0:Int)) := of_decide_eq_false hb3
     refine AP 13 29 false _ (Ptr nb1 2) rfl rfl hb3 (AD 2 3 1 AM rfl AT rfl rfl) rfl ?_
     refine AP 13 29 false _ (I64 (er)) rfl rfl hb3 (AO rfl (A0 AY (AU 0 rfl (AJ (AJ (AK (AK (Seg.head)))))))) rfl ?_
     refine AP 13 29 false _ (.bool (decide ((14:Int) < (er)))) rfl rfl hb3 (AR rfl rfl fun _ => DD _ _) rfl ?_
     refine AA _ (A3 _ rfl hb3 rfl) rfl ?_
     refine AA _ (AE rfl) rfl ?_
     refine AI (DT (()) trivial (Sub.cons rfl (Sub.cons rfl (Sub.cons rfl (Sub.cons rfl (Sub.cons rfl (Sub.cons rfl (Sub.cons rfl (Sub.cons (congrArg (fun b => some (Value.bool b)) (c1_last (by omega) : (decide ((14:Int) < (er))) = (!(c1B er rk)))) (Sub.nil))))))))) rfl)
 ·
  rintro _ hx
  obtain _ := hx
  show JQ _ _ _ [(1, Ptr nb1 0), (2, .bool false), (3, .bool (itB (er) (rk))), (4, .bool (chB (er) (rk) th)), (5, .bool (aB (er) (rk) th)), (6, .bool (bB (er) (rk) th)), (7, .func (.func 99) #[] #[]), (15, .bool (!(c1B er rk)))] [⟨nb1, [U64 rq, I64 (rk), I64 (er), SL aj nj cj, .bool th, U64 pv, U64 ep, I64 (kd), SL ai ni ci, SL sa ns sc, U64 bl] ++ cu8 tg ++ [SL aha nha cha, SL ahb nhb chb], 67, (0, 0)⟩]
  refine AC (B9 (!(c1B er rk)) rfl (fun hb4 => ?_) (fun hb4 => ?_))
  ·
   have hb5 : (c1B er rk) = false := by simpa using hb4
   refine AH (AB (AA _ (AE rfl) rfl ?_))
   refine AI (AC (BI (CD (A1 (B4 [false] ?_)))))
   show JQ _ _ _ _ []
   refine BH (.bool false) (res1 Tryd.results35 (BC rfl)) fun w1 hw1 => ?_
   exact ⟨_, [], rfl, ⟨congrArg Value.bool (show _ = repR _ _ _ _ _ _ _ _ by unfold repR; rw [hb5]; rfl), rfl⟩, hw1.sub (by simp) (by simp)⟩
  ·
   have hb6 : (c1B er rk) = true := by simpa using hb4
   refine AH (AH (FK (ι := Unit) (fun _ => [(1, Ptr nb1 0), (2, .bool false), (3, .bool (itB (er) (rk))), (4, .bool (chB (er) (rk) th)), (5, .bool (aB (er) (rk) th)), (6, .bool (bB (er) (rk) th)), (34, .bool ((itB er rk) && !(c2B true lj)))]) (fun _ => [⟨nb1, [U64 rq, I64 (rk), I64 (er), SL aj nj cj, .bool th, U64 pv, U64 ep, I64 (kd), SL ai ni ci, SL sa ns sc, U64 bl] ++ cu8 tg ++ [SL aha nha cha, SL ahb nhb chb], 67, (0, 0)⟩]) (fun _ => True) ?_ ?_))
   ·
    refine AB (AA _ (AF rfl) rfl ?_)
    refine AA _ (AF rfl) rfl ?_
    rcases Bool.eq_false_or_eq_true (itB (er) (rk)) with hb7 | hb7
    ·
     refine AP 1 36 true _ (Ptr nb1 3) rfl rfl hb7 (AD 3 64 1 AM rfl CX rfl rfl) rfl ?_
     refine AP 1 36 true _ (SL aj nj cj) rfl rfl hb7 (AO rfl (A0 D1 (AU 0 rfl (AJ (AJ (AK (AK (AK (Seg.head))))))))) rfl ?_
     refine AP 1 36 true _ (I64 nj) rfl rfl hb7 (DY CE rfl) rfl ?_
     refine AP 1 36 true _ (.bool (decide (((nj:Int)) < (1:Int)))) rfl rfl hb7 (AR rfl rfl fun _ => CH _ _) rfl ?_
     refine AP 1 36 true _ _ rfl rfl hb7 (AF rfl) rfl ?_
     rcases Bool.eq_false_or_eq_true (decide (((nj:Int)) < (1:Int))) with hb8 | hb8
     ·
      have hp8 : ((nj:Int)) < (1:Int) := of_decide_eq_true hb8
      refine AG 6 41 false _ rfl rfl hb8 rfl ?_
      refine AG 6 41 false _ rfl rfl hb8 rfl ?_
      refine AG 6 41 false _ rfl rfl hb8 rfl ?_
      refine AG 6 41 false _ rfl rfl hb8 rfl ?_
      refine AP 1 36 true _ _ rfl rfl hb7 (BD _ rfl hb8 rfl) rfl ?_
      refine AP 1 36 true _ _ rfl rfl hb7 (AF rfl) rfl ?_
      refine AG 12 47 false _ rfl rfl rfl rfl ?_
      refine AG 12 47 false _ rfl rfl rfl rfl ?_
      refine AG 12 47 false _ rfl rfl rfl rfl ?_
      refine AG 12 47 false _ rfl rfl rfl rfl ?_
      refine AP 1 36 true _ _ rfl rfl hb7 (BD _ rfl rfl rfl) rfl ?_
      refine AA _ (BD _ rfl hb7 rfl) rfl ?_
      refine AA _ (AE rfl) rfl ?_
      refine AI (DT (()) trivial (Sub.cons rfl (Sub.cons rfl (Sub.cons rfl (Sub.cons rfl (Sub.cons rfl (Sub.cons rfl (Sub.cons (congrArg (fun b => some (Value.bool b)) (by rw [hb7]; exact c2_no hlj (by omega) : (true) = ((itB er rk) && !(c2B true lj)))) (Sub.nil)))))))) rfl)
     ·
      have hp8 : ¬ (((nj:Int)) < (1:Int)) := of_decide_eq_false hb8
      refine AP 6 41 false _ (Ptr nb1 3) rfl rfl hb8 (AD 3 64 1 AM rfl CX rfl rfl) rfl ?_
      refine AP 6 41 false _ (SL aj nj cj) rfl rfl hb8 (AO rfl (A0 D1 (AU 0 rfl (AJ (AJ (AK (AK (AK (Seg.head))))))))) rfl ?_
      refine AP 6 41 false _ (I64 nj) rfl rfl hb8 (DY CE rfl) rfl ?_
      refine AP 6 41 false _ (.bool (decide ((256:Int) < ((nj:Int))))) rfl rfl hb8 (AR rfl rfl fun _ => DD _ _) rfl ?_
      refine AP 1 36 true _ _ rfl rfl hb7 (A3 _ rfl hb8 rfl) rfl ?_
      refine AP 1 36 true _ _ rfl rfl hb7 (AF rfl) rfl ?_
      rcases Bool.eq_false_or_eq_true (decide ((256:Int) < ((nj:Int)))) with hb9 | hb9
      ·
       have hp9 : (256:Int) < ((nj:Int)) := of_decide_eq_true hb9
       refine AG 12 47 false _ rfl rfl hb9 rfl ?_
       refine AG 12 47 false _ rfl rfl hb9 rfl ?_
       refine AG 12 47 false _ rfl rfl hb9 rfl ?_
       refine AG 12 47 false _ rfl rfl hb9 rfl ?_
       refine AP 1 36 true _ _ rfl rfl hb7 (BD _ rfl hb9 rfl) rfl ?_
       refine AA _ (BD _ rfl hb7 rfl) rfl ?_
       refine AA _ (AE rfl) rfl ?_
       refine AI (DT (()) trivial (Sub.cons rfl (Sub.cons rfl (Sub.cons rfl (Sub.cons rfl (Sub.cons rfl (Sub.cons rfl (Sub.cons (congrArg (fun b => some (Value.bool b)) (by rw [hb7]; exact c2_no hlj (by omega) : (true) = ((itB er rk) && !(c2B true lj)))) (Sub.nil)))))))) rfl)
      ·
       have hp9 : ¬ ((256:Int) < ((nj:Int))) := of_decide_eq_false hb9
       refine AP 12 47 false _ (Ptr nb1 3) rfl rfl hb9 (AD 3 64 1 AM rfl CX rfl rfl) rfl ?_
       refine AP 12 47 false _ (SL aj nj cj) rfl rfl hb9 (AO rfl (A0 D1 (AU 0 rfl (AJ (AJ (AK (AK (AK (Seg.head))))))))) rfl ?_
       refine AP 12 47 false _ _ rfl rfl hb9 (AF rfl) rfl ?_
       refine DL 12 47 false _ rfl rfl hb9 (A2 101 [SL aj nj cj, .func (.func 99) #[] #[]] (.bool (lj.any (fun x => !plainB x))) (AS _ Tryd.call101 rfl) (fun w1 hw1 => cfItem_c aj nj cj lj w1 hlj (by omega) (by omega) (by omega) (C2 hw1 rfl hj))) rfl ?_
       rintro v1 L1 ⟨rfl, rfl⟩
       show JL _ _ _ _ ((51, .bool (lj.any (fun x => !plainB x))) :: _) [_]
       refine AP 1 36 true _ _ rfl rfl hb7 (A3 _ rfl hb9 rfl) rfl ?_
       refine AA _ (BD _ rfl hb7 rfl) rfl ?_
       refine AA _ (AE rfl) rfl ?_
       refine AI (DT (()) trivial (Sub.cons rfl (Sub.cons rfl (Sub.cons rfl (Sub.cons rfl (Sub.cons rfl (Sub.cons rfl (Sub.cons (congrArg (fun b => some (Value.bool b)) (by rw [hb7]; exact c2_e hlj (by omega) : (lj.any (fun x => !plainB x)) = ((itB er rk) && !(c2B true lj)))) (Sub.nil)))))))) rfl)
    ·
     refine AG 1 36 true _ rfl rfl hb7 rfl ?_
     refine AG 1 36 true _ rfl rfl hb7 rfl ?_
     refine AG 1 36 true _ rfl rfl hb7 rfl ?_
     refine AG 1 36 true _ rfl rfl hb7 rfl ?_
     refine AG 1 36 true _ rfl rfl hb7 rfl ?_
     refine C8 6 41 false rfl rfl rfl ?_
     refine C8 6 41 false rfl rfl rfl ?_
     refine C8 6 41 false rfl rfl rfl ?_
     refine C8 6 41 false rfl rfl rfl ?_
     refine AG 1 36 true _ rfl rfl hb7 rfl ?_
     refine AG 1 36 true _ rfl rfl hb7 rfl ?_
     refine C8 12 47 false rfl rfl rfl ?_
     refine C8 12 47 false rfl rfl rfl ?_
     refine C8 12 47 false rfl rfl rfl ?_
     refine C8 12 47 false rfl rfl rfl ?_
     refine AG 1 36 true _ rfl rfl hb7 rfl ?_
     refine AA _ (A3 _ rfl hb7 rfl) rfl ?_
     refine AA _ (AE rfl) rfl ?_
     refine AI (DT (()) trivial (Sub.cons rfl (Sub.cons rfl (Sub.cons rfl (Sub.cons rfl (Sub.cons rfl (Sub.cons rfl (Sub.cons (congrArg (fun b => some (Value.bool b)) (by rw [hb7]; rfl : (false) = ((itB er rk) && !(c2B true lj)))) (Sub.nil)))))))) rfl)
   ·
    rintro _ hx
    obtain _ := hx
    show JQ _ _ _ [(1, Ptr nb1 0), (2, .bool false), (3, .bool (itB (er) (rk))), (4, .bool (chB (er) (rk) th)), (5, .bool (aB (er) (rk) th)), (6, .bool (bB (er) (rk) th)), (34, .bool ((itB er rk) && !(c2B true lj)))] [⟨nb1, [U64 rq, I64 (rk), I64 (er), SL aj nj cj, .bool th, U64 pv, U64 ep, I64 (kd), SL ai ni ci, SL sa ns sc, U64 bl] ++ cu8 tg ++ [SL aha nha cha, SL ahb nhb chb], 67, (0, 0)⟩]
    refine AC (FK (ι := Unit) (fun _ => [(1, Ptr nb1 0), (2, .bool false), (4, .bool (chB (er) (rk) th)), (5, .bool (aB (er) (rk) th)), (6, .bool (bB (er) (rk) th)), (34, .bool (!(c2B (itB er rk) lj)))]) (fun _ => [⟨nb1, [U64 rq, I64 (rk), I64 (er), SL aj nj cj, .bool th, U64 pv, U64 ep, I64 (kd), SL ai ni ci, SL sa ns sc, U64 bl] ++ cu8 tg ++ [SL aha nha cha, SL ahb nhb chb], 67, (0, 0)⟩]) (fun _ => True) ?_ ?_)
    ·
     refine B9 ((itB er rk) && !(c2B true lj)) rfl (fun hb10 => ?_) (fun hb10 => ?_)
     ·
      refine BF (DT (()) trivial (Sub.cons rfl (Sub.cons rfl (Sub.cons rfl (Sub.cons rfl (Sub.cons rfl (Sub.cons (congrArg (fun b => some (Value.bool b)) (by rw [c2_t hb10]; exact hb10 : ((itB er rk) && !(c2B true lj)) = (!(c2B (itB er rk) lj)))) (Sub.nil))))))) rfl)
     ·
      refine AB (AA _ (AF rfl) rfl ?_)
      refine AA (.bool (!(itB (er) (rk)))) (DG rfl) rfl ?_
      refine AA _ (AF rfl) rfl ?_
      rcases Bool.eq_false_or_eq_true (itB (er) (rk)) with hb11 | hb11
      ·
       refine AG 2 56 true _ rfl rfl (bnotT hb11) rfl ?_
       refine AG 2 56 true _ rfl rfl (bnotT hb11) rfl ?_
       refine AG 2 56 true _ rfl rfl (bnotT hb11) rfl ?_
       refine AG 2 56 true _ rfl rfl (bnotT hb11) rfl ?_
       refine AA _ (A3 _ rfl (bnotT hb11) rfl) rfl ?_
       refine AA _ (AE rfl) rfl ?_
       refine AI (DT (()) trivial (Sub.cons rfl (Sub.cons rfl (Sub.cons rfl (Sub.cons rfl (Sub.cons rfl (Sub.cons (congrArg (fun b => some (Value.bool b)) (by rw [c2_f hb10 hb11]; rfl : (false) = (!(c2B (itB er rk) lj)))) (Sub.nil))))))) rfl)
      ·
       refine AP 2 56 true _ (Ptr nb1 3) rfl rfl (bnotF hb11) (AD 3 64 1 AM rfl CX rfl rfl) rfl ?_
       refine AP 2 56 true _ (SL aj nj cj) rfl rfl (bnotF hb11) (AO rfl (A0 D1 (AU 0 rfl (AJ (AJ (AK (AK (AK (Seg.head))))))))) rfl ?_
       refine AP 2 56 true _ (I64 nj) rfl rfl (bnotF hb11) (DY CE rfl) rfl ?_
       refine AP 2 56 true _ (.bool (decide ((0:Int) < ((nj:Int))))) rfl rfl (bnotF hb11) (AR rfl rfl fun _ => DD _ _) rfl ?_
       refine AA _ (BD _ rfl (bnotF hb11) rfl) rfl ?_
       refine AA _ (AE rfl) rfl ?_
       refine AI (DT (()) trivial (Sub.cons rfl (Sub.cons rfl (Sub.cons rfl (Sub.cons rfl (Sub.cons rfl (Sub.cons (congrArg (fun b => some (Value.bool b)) (by rw [hb11, c2_n hlj, ← decide_not]; exact decide_eq_decide.2 (by omega) : (decide ((0:Int) < ((nj:Int)))) = (!(c2B (itB er rk) lj)))) (Sub.nil))))))) rfl)
    ·
     rintro _ hx
     obtain _ := hx
     show JQ _ _ _ [(1, Ptr nb1 0), (2, .bool false), (4, .bool (chB (er) (rk) th)), (5, .bool (aB (er) (rk) th)), (6, .bool (bB (er) (rk) th)), (34, .bool (!(c2B (itB er rk) lj)))] [⟨nb1, [U64 rq, I64 (rk), I64 (er), SL aj nj cj, .bool th, U64 pv, U64 ep, I64 (kd), SL ai ni ci, SL sa ns sc, U64 bl] ++ cu8 tg ++ [SL aha nha cha, SL ahb nhb chb], 67, (0, 0)⟩]
     refine AC (B9 (!(c2B (itB er rk) lj)) rfl (fun hb12 => ?_) (fun hb12 => ?_))
     ·
      have hb13 : (c2B (itB er rk) lj) = false := by simpa using hb12
      refine AH (AB (AA _ (AE rfl) rfl ?_))
      refine AI (AC (BI (CD (A1 (B4 [false] ?_)))))
      show JQ _ _ _ _ []
      refine BH (.bool false) (res1 Tryd.results35 (BC rfl)) fun w1 hw1 => ?_
      exact ⟨_, [], rfl, ⟨congrArg Value.bool (show _ = repR _ _ _ _ _ _ _ _ by unfold repR; rw [hb6, hb13]; rfl), rfl⟩, hw1.sub (by simp) (by simp)⟩
     ·
      have hb14 : (c2B (itB er rk) lj) = true := by simpa using hb12
      refine AH (AH (FK (ι := Unit) (fun _ => [(1, Ptr nb1 0), (2, .bool false), (4, .bool (chB (er) (rk) th)), (5, .bool (aB (er) (rk) th)), (6, .bool (bB (er) (rk) th)), (62, .bool ((chB er rk th) && !(decide (mayN pv ep kd l ls bl = 0))))]) (fun _ => [⟨nb1, [U64 rq, I64 (rk), I64 (er), SL aj nj cj, .bool th, U64 pv, U64 ep, I64 (kd), SL ai ni ci, SL sa ns sc, U64 bl] ++ cu8 tg ++ [SL aha nha cha, SL ahb nhb chb], 67, (0, 0)⟩]) (fun _ => True) ?_ ?_))
      ·
       refine AB (AA _ (AF rfl) rfl ?_)
       refine AA _ (AF rfl) rfl ?_
       rcases Bool.eq_false_or_eq_true (chB (er) (rk) th) with hb15 | hb15
       ·
        refine AP 1 64 true _ (Ptr nb1 5) rfl rfl hb15 (AD 5 29 22 AM rfl BG rfl rfl) rfl ?_
        refine AP 1 64 true _ (.agg ([U64 pv, U64 ep, I64 (kd), SL ai ni ci, SL sa ns sc, U64 bl] ++ cu8 tg).toArray) rfl rfl hb15 (AO rfl (BU B7 BG (by simp [htg]) (AU 0 rfl (D6 (p := [U64 rq, I64 (rk), I64 (er), SL aj nj cj, .bool th]) (q := [SL aha nha cha, SL ahb nhb chb]) (vs := [U64 pv, U64 ep, I64 (kd), SL ai ni ci, SL sa ns sc, U64 bl] ++ cu8 tg) (by first | rfl | (simp only [List.append_assoc, List.nil_append, List.append_nil, List.cons_append]; done)) rfl)))) rfl ?_
        refine DL 1 64 true _ rfl rfl hb15 (A2 87 [.agg ([U64 pv, U64 ep, I64 (kd), SL ai ni ci, SL sa ns sc, U64 bl] ++ cu8 tg).toArray] (.bool (decide (mayN pv ep (kd) l ls bl = 0))) (AS _ Tryd.call87 rfl) (fun w1 hw1 => wmay_w pv ep (kd) ai ni ci l sa ns sc ls bl tg w1 hl (by omega) (by omega) (by omega) (C2 hw1 rfl hv) hls (by omega) (by omega) (by omega) (C2 hw1 rfl hs) htg (by omega) (by omega))) rfl ?_
        rintro v1 L1 ⟨rfl, rfl⟩
        show JL _ _ _ _ ((67, .bool (decide (mayN pv ep (kd) l ls bl = 0))) :: _) [_]
        refine AP 1 64 true _ (.bool (!(decide (mayN pv ep (kd) l ls bl = 0)))) rfl rfl hb15 (DG rfl) rfl ?_
        refine AA _ (BD _ rfl hb15 rfl) rfl ?_
        refine AA _ (AE rfl) rfl ?_
        refine AI (DT (()) trivial (Sub.cons rfl (Sub.cons rfl (Sub.cons rfl (Sub.cons rfl (Sub.cons rfl (Sub.cons (congrArg (fun b => some (Value.bool b)) (by rw [hb15]; rfl : (!(decide (mayN pv ep (kd) l ls bl = 0))) = ((chB er rk th) && !(decide (mayN pv ep kd l ls bl = 0))))) (Sub.nil))))))) rfl)
       ·
        refine AG 1 64 true _ rfl rfl hb15 rfl ?_
        refine AG 1 64 true _ rfl rfl hb15 rfl ?_
        refine AG 1 64 true _ rfl rfl hb15 rfl ?_
        refine AG 1 64 true _ rfl rfl hb15 rfl ?_
        refine AA _ (A3 _ rfl hb15 rfl) rfl ?_
        refine AA _ (AE rfl) rfl ?_
        refine AI (DT (()) trivial (Sub.cons rfl (Sub.cons rfl (Sub.cons rfl (Sub.cons rfl (Sub.cons rfl (Sub.cons (congrArg (fun b => some (Value.bool b)) (by rw [hb15]; rfl : (false) = ((chB er rk th) && !(decide (mayN pv ep kd l ls bl = 0))))) (Sub.nil))))))) rfl)
      ·
       rintro _ hx
       obtain _ := hx
       show JQ _ _ _ [(1, Ptr nb1 0), (2, .bool false), (4, .bool (chB (er) (rk) th)), (5, .bool (aB (er) (rk) th)), (6, .bool (bB (er) (rk) th)), (62, .bool ((chB er rk th) && !(decide (mayN pv ep kd l ls bl = 0))))] [⟨nb1, [U64 rq, I64 (rk), I64 (er), SL aj nj cj, .bool th, U64 pv, U64 ep, I64 (kd), SL ai ni ci, SL sa ns sc, U64 bl] ++ cu8 tg ++ [SL aha nha cha, SL ahb nhb chb], 67, (0, 0)⟩]
       refine AC (FK (ι := Unit) (fun _ => [(1, Ptr nb1 0), (2, .bool false), (5, .bool (aB (er) (rk) th)), (6, .bool (bB (er) (rk) th)), (62, .bool (!(c3B (chB er rk th) th (blankB pv ep kd l ls bl tg) (decide (mayN pv ep kd l ls bl = 0)))))]) (fun _ => [⟨nb1, [U64 rq, I64 (rk), I64 (er), SL aj nj cj, .bool th, U64 pv, U64 ep, I64 (kd), SL ai ni ci, SL sa ns sc, U64 bl] ++ cu8 tg ++ [SL aha nha cha, SL ahb nhb chb], 67, (0, 0)⟩]) (fun _ => True) ?_ ?_)
       ·
        refine B9 ((chB er rk th) && !(decide (mayN pv ep kd l ls bl = 0))) rfl (fun hb16 => ?_) (fun hb16 => ?_)
        ·
         refine BF (DT (()) trivial (Sub.cons rfl (Sub.cons rfl (Sub.cons rfl (Sub.cons rfl (Sub.cons (congrArg (fun b => some (Value.bool b)) (by rw [c3_t hb16]; exact hb16 : ((chB er rk th) && !(decide (mayN pv ep kd l ls bl = 0))) = (!(c3B (chB er rk th) th (blankB pv ep kd l ls bl tg) (decide (mayN pv ep kd l ls bl = 0)))))) (Sub.nil)))))) rfl)
        ·
         refine AB (AA _ (AF rfl) rfl ?_)
         refine AA (.bool (!(chB (er) (rk) th))) (DG rfl) rfl ?_
         refine AA _ (AF rfl) rfl ?_
         rcases Bool.eq_false_or_eq_true (chB (er) (rk) th) with hb17 | hb17
         ·
          refine AG 2 72 true _ rfl rfl (bnotT hb17) rfl ?_
          refine AG 2 72 true _ rfl rfl (bnotT hb17) rfl ?_
          refine AG 2 72 true _ rfl rfl (bnotT hb17) rfl ?_
          refine C8 5 75 false rfl rfl rfl ?_
          refine C8 5 75 false rfl rfl rfl ?_
          refine C8 5 75 false rfl rfl rfl ?_
          refine C8 5 75 false rfl rfl rfl ?_
          refine AG 2 72 true _ rfl rfl (bnotT hb17) rfl ?_
          refine AA _ (A3 _ rfl (bnotT hb17) rfl) rfl ?_
          refine AA _ (AE rfl) rfl ?_
          refine AI (DT (()) trivial (Sub.cons rfl (Sub.cons rfl (Sub.cons rfl (Sub.cons rfl (Sub.cons (congrArg (fun b => some (Value.bool b)) (by rw [c3_f hb16 hb17]; rfl : (false) = (!(c3B (chB er rk th) th (blankB pv ep kd l ls bl tg) (decide (mayN pv ep kd l ls bl = 0)))))) (Sub.nil)))))) rfl)
         ·
          refine AP 2 72 true _ (Ptr nb1 4) rfl rfl (bnotF hb17) (AD 4 4 1 AM rfl Tryd.sizeOf4 rfl rfl) rfl ?_
          refine AP 2 72 true _ (.bool th) rfl rfl (bnotF hb17) (AO rfl (A0 Tryd.isAgg4 (AU 0 rfl (AJ (AJ (AK (AK (AK (AK (Seg.head)))))))))) rfl ?_
          refine AP 2 72 true _ _ rfl rfl (bnotF hb17) (AF rfl) rfl ?_
          rcases Bool.eq_false_or_eq_true (th) with hb18 | hb18
          ·
           refine AG 5 75 false _ rfl rfl hb18 rfl ?_
           refine AG 5 75 false _ rfl rfl hb18 rfl ?_
           refine AG 5 75 false _ rfl rfl hb18 rfl ?_
           refine AG 5 75 false _ rfl rfl hb18 rfl ?_
           refine AP 2 72 true _ _ rfl rfl (bnotF hb17) (BD _ rfl hb18 rfl) rfl ?_
           refine AA _ (BD _ rfl (bnotF hb17) rfl) rfl ?_
           refine AA _ (AE rfl) rfl ?_
           refine AI (DT (()) trivial (Sub.cons rfl (Sub.cons rfl (Sub.cons rfl (Sub.cons rfl (Sub.cons (congrArg (fun b => some (Value.bool b)) (by rw [hb17, c3_n, hb18]; rfl : (true) = (!(c3B (chB er rk th) th (blankB pv ep kd l ls bl tg) (decide (mayN pv ep kd l ls bl = 0)))))) (Sub.nil)))))) rfl)
          ·
           refine AP 5 75 false _ (Ptr nb1 5) rfl rfl hb18 (AD 5 29 22 AM rfl BG rfl rfl) rfl ?_
           refine AP 5 75 false _ (.agg ([U64 pv, U64 ep, I64 (kd), SL ai ni ci, SL sa ns sc, U64 bl] ++ cu8 tg).toArray) rfl rfl hb18 (AO rfl (BU B7 BG (by simp [htg]) (AU 0 rfl (D6 (p := [U64 rq, I64 (rk), I64 (er), SL aj nj cj, .bool th]) (q := [SL aha nha cha, SL ahb nhb chb]) (vs := [U64 pv, U64 ep, I64 (kd), SL ai ni ci, SL sa ns sc, U64 bl] ++ cu8 tg) (by first | rfl | (simp only [List.append_assoc, List.nil_append, List.append_nil, List.cons_append]; done)) rfl)))) rfl ?_
           refine DL 5 75 false _ rfl rfl hb18 (A2 84 [.agg ([U64 pv, U64 ep, I64 (kd), SL ai ni ci, SL sa ns sc, U64 bl] ++ cu8 tg).toArray] (.bool (blankB pv ep (kd) l ls bl tg)) (AS _ Tryd.call84 rfl) (fun w1 hw1 => blank_c pv ep (kd) ai ni ci l sa ns sc ls bl tg w1 hl (by omega) (by omega) (by omega) (C2 hw1 rfl hv) hls (by omega) (by omega) (by omega) (C2 hw1 rfl hs) htg)) rfl ?_
           rintro v1 L1 ⟨rfl, rfl⟩
           show JL _ _ _ _ ((78, .bool (blankB pv ep (kd) l ls bl tg)) :: _) [_]
           refine AP 5 75 false _ (.bool (!(blankB pv ep (kd) l ls bl tg))) rfl rfl hb18 (DG rfl) rfl ?_
           refine AP 2 72 true _ _ rfl rfl (bnotF hb17) (A3 _ rfl hb18 rfl) rfl ?_
           refine AA _ (BD _ rfl (bnotF hb17) rfl) rfl ?_
           refine AA _ (AE rfl) rfl ?_
           refine AI (DT (()) trivial (Sub.cons rfl (Sub.cons rfl (Sub.cons rfl (Sub.cons rfl (Sub.cons (congrArg (fun b => some (Value.bool b)) (by rw [hb17, c3_n, hb18]; rfl : (!(blankB pv ep (kd) l ls bl tg)) = (!(c3B (chB er rk th) th (blankB pv ep kd l ls bl tg) (decide (mayN pv ep kd l ls bl = 0)))))) (Sub.nil)))))) rfl)
       ·
        rintro _ hx
        obtain _ := hx
        show JQ _ _ _ [(1, Ptr nb1 0), (2, .bool false), (5, .bool (aB (er) (rk) th)), (6, .bool (bB (er) (rk) th)), (62, .bool (!(c3B (chB er rk th) th (blankB pv ep kd l ls bl tg) (decide (mayN pv ep kd l ls bl = 0)))))] [⟨nb1, [U64 rq, I64 (rk), I64 (er), SL aj nj cj, .bool th, U64 pv, U64 ep, I64 (kd), SL ai ni ci, SL sa ns sc, U64 bl] ++ cu8 tg ++ [SL aha nha cha, SL ahb nhb chb], 67, (0, 0)⟩]
        refine AC (B9 (!(c3B (chB er rk th) th (blankB pv ep kd l ls bl tg) (decide (mayN pv ep kd l ls bl = 0)))) rfl (fun hb19 => ?_) (fun hb19 => ?_))
        ·
         have hb20 : (c3B (chB er rk th) th (blankB pv ep kd l ls bl tg) (decide (mayN pv ep kd l ls bl = 0))) = false := by simpa using hb19
         refine AH (AB (AA _ (AE rfl) rfl ?_))
         refine AI (AC (BI (CD (A1 (B4 [false] ?_)))))
         show JQ _ _ _ _ []
         refine BH (.bool false) (res1 Tryd.results35 (BC rfl)) fun w1 hw1 => ?_
         exact ⟨_, [], rfl, ⟨congrArg Value.bool (show _ = repR _ _ _ _ _ _ _ _ by unfold repR; rw [hb6, hb14, hb20]; rfl), rfl⟩, hw1.sub (by simp) (by simp)⟩
        ·
         have hb21 : (c3B (chB er rk th) th (blankB pv ep kd l ls bl tg) (decide (mayN pv ep kd l ls bl = 0))) = true := by simpa using hb19
         refine AH (FK (ι := Unit) (fun _ => [(2, .bool false), (82, .bool (!(c4B (aB er rk th) (bB er rk th) nha nhb)))]) (fun _ => [⟨nb1, [U64 rq, I64 (rk), I64 (er), SL aj nj cj, .bool th, U64 pv, U64 ep, I64 (kd), SL ai ni ci, SL sa ns sc, U64 bl] ++ cu8 tg ++ [SL aha nha cha, SL ahb nhb chb], 67, (0, 0)⟩]) (fun _ => True) ?_ ?_)
         ·
          refine AB (AA (Ptr nb1 27) (AD 27 65 1 AM rfl CU rfl rfl) rfl ?_)
          refine AA (SL aha nha cha) (AO rfl (A0 Tryd.isAgg65 (AU 0 rfl (Seg.right 27 0 (by simp [htg]) rfl (Seg.head))))) rfl ?_
          refine AA (I64 nha) (DY D2 rfl) rfl ?_
          refine AA (.bool (decide ((256:Int) < ((nha:Int))))) (AR rfl rfl fun _ => DD _ _) rfl ?_
          refine AA _ (AF rfl) rfl ?_
          rcases Bool.eq_false_or_eq_true (decide ((256:Int) < ((nha:Int)))) with hb22 | hb22
          ·
           have hp22 : (256:Int) < ((nha:Int)) := of_decide_eq_true hb22
           refine AG 4 87 false _ rfl rfl hb22 rfl ?_
           refine AG 4 87 false _ rfl rfl hb22 rfl ?_
           refine AG 4 87 false _ rfl rfl hb22 rfl ?_
           refine AG 4 87 false _ rfl rfl hb22 rfl ?_
           refine AA _ (BD _ rfl hb22 rfl) rfl ?_
           refine AA _ (AF rfl) rfl ?_
           refine AG 10 93 false _ rfl rfl rfl rfl ?_
           refine AG 10 93 false _ rfl rfl rfl rfl ?_
           refine AG 10 93 false _ rfl rfl rfl rfl ?_
           refine C8 13 96 true rfl rfl rfl ?_
           refine C8 13 96 true rfl rfl rfl ?_
           refine C8 13 96 true rfl rfl rfl ?_
           refine C8 13 96 true rfl rfl rfl ?_
           refine AG 10 93 false _ rfl rfl rfl rfl ?_
           refine AA _ (BD _ rfl rfl rfl) rfl ?_
           refine AA _ (AF rfl) rfl ?_
           refine AG 20 103 false _ rfl rfl rfl rfl ?_
           refine AG 20 103 false _ rfl rfl rfl rfl ?_
           refine AG 20 103 false _ rfl rfl rfl rfl ?_
           refine C8 23 106 true rfl rfl rfl ?_
           refine C8 23 106 true rfl rfl rfl ?_
           refine C8 23 106 true rfl rfl rfl ?_
           refine C8 23 106 true rfl rfl rfl ?_
           refine AG 20 103 false _ rfl rfl rfl rfl ?_
           refine AA _ (BD _ rfl rfl rfl) rfl ?_
           refine AA _ (AE rfl) rfl ?_
           refine AI ?_
           have fz0 : ¬ nha ≤ 256 := by omega
           refine DT (()) trivial (Sub.cons rfl (Sub.cons (congrArg (fun b => some (Value.bool b)) (by unfold c4B; simp [fz0] : (true) = (!(c4B (aB er rk th) (bB er rk th) nha nhb)))) (Sub.nil))) rfl
          ·
           have hp22 : ¬ ((256:Int) < ((nha:Int))) := of_decide_eq_false hb22
           refine AP 4 87 false _ (Ptr nb1 28) rfl rfl hb22 (AD 28 65 1 AM rfl CU rfl rfl) rfl ?_
           refine AP 4 87 false _ (SL ahb nhb chb) rfl rfl hb22 (AO rfl (A0 Tryd.isAgg65 (AU 0 rfl (Seg.right 27 1 (by simp [htg]) rfl (AK (Seg.head)))))) rfl ?_
           refine AP 4 87 false _ (I64 nhb) rfl rfl hb22 (DY D2 rfl) rfl ?_
           refine AP 4 87 false _ (.bool (decide ((8192:Int) < ((nhb:Int))))) rfl rfl hb22 (AR rfl rfl fun _ => DD _ _) rfl ?_
           refine AA _ (A3 _ rfl hb22 rfl) rfl ?_
           refine AA _ (AF rfl) rfl ?_
           rcases Bool.eq_false_or_eq_true (decide ((8192:Int) < ((nhb:Int)))) with hb23 | hb23
           ·
            have hp23 : (8192:Int) < ((nhb:Int)) := of_decide_eq_true hb23
            refine AG 10 93 false _ rfl rfl hb23 rfl ?_
            refine AG 10 93 false _ rfl rfl hb23 rfl ?_
            refine AG 10 93 false _ rfl rfl hb23 rfl ?_
            refine C8 13 96 true rfl rfl rfl ?_
            refine C8 13 96 true rfl rfl rfl ?_
            refine C8 13 96 true rfl rfl rfl ?_
            refine C8 13 96 true rfl rfl rfl ?_
            refine AG 10 93 false _ rfl rfl hb23 rfl ?_
            refine AA _ (BD _ rfl hb23 rfl) rfl ?_
            refine AA _ (AF rfl) rfl ?_
            refine AG 20 103 false _ rfl rfl rfl rfl ?_
            refine AG 20 103 false _ rfl rfl rfl rfl ?_
            refine AG 20 103 false _ rfl rfl rfl rfl ?_
            refine C8 23 106 true rfl rfl rfl ?_
            refine C8 23 106 true rfl rfl rfl ?_
            refine C8 23 106 true rfl rfl rfl ?_
            refine C8 23 106 true rfl rfl rfl ?_
            refine AG 20 103 false _ rfl rfl rfl rfl ?_
            refine AA _ (BD _ rfl rfl rfl) rfl ?_
            refine AA _ (AE rfl) rfl ?_
            refine AI ?_
            have fz0 : nha ≤ 256 := by omega
            have fz1 : ¬ nhb ≤ 8192 := by omega
            refine DT (()) trivial (Sub.cons rfl (Sub.cons (congrArg (fun b => some (Value.bool b)) (by unfold c4B; simp [fz0, fz1] : (true) = (!(c4B (aB er rk th) (bB er rk th) nha nhb)))) (Sub.nil))) rfl
           ·
            have hp23 : ¬ ((8192:Int) < ((nhb:Int))) := of_decide_eq_false hb23
            refine AP 10 93 false _ _ rfl rfl hb23 (AF rfl) rfl ?_
            refine AP 10 93 false _ (.bool (!(aB (er) (rk) th))) rfl rfl hb23 (DG rfl) rfl ?_
            refine AP 10 93 false _ _ rfl rfl hb23 (AF rfl) rfl ?_
            rcases Bool.eq_false_or_eq_true (aB (er) (rk) th) with hb24 | hb24
            ·
             refine AG 13 96 true _ rfl rfl (bnotT hb24) rfl ?_
             refine AG 13 96 true _ rfl rfl (bnotT hb24) rfl ?_
             refine AG 13 96 true _ rfl rfl (bnotT hb24) rfl ?_
             refine AG 13 96 true _ rfl rfl (bnotT hb24) rfl ?_
             refine AP 10 93 false _ _ rfl rfl hb23 (A3 _ rfl (bnotT hb24) rfl) rfl ?_
             refine AA _ (A3 _ rfl hb23 rfl) rfl ?_
             refine AA _ (AF rfl) rfl ?_
             refine AP 20 103 false _ _ rfl rfl rfl (AF rfl) rfl ?_
             refine AP 20 103 false _ (.bool (!(bB (er) (rk) th))) rfl rfl rfl (DG rfl) rfl ?_
             refine AP 20 103 false _ _ rfl rfl rfl (AF rfl) rfl ?_
             rcases Bool.eq_false_or_eq_true (bB (er) (rk) th) with hb25 | hb25
             ·
              refine AG 23 106 true _ rfl rfl (bnotT hb25) rfl ?_
              refine AG 23 106 true _ rfl rfl (bnotT hb25) rfl ?_
              refine AG 23 106 true _ rfl rfl (bnotT hb25) rfl ?_
              refine AG 23 106 true _ rfl rfl (bnotT hb25) rfl ?_
              refine AP 20 103 false _ _ rfl rfl rfl (A3 _ rfl (bnotT hb25) rfl) rfl ?_
              refine AA _ (A3 _ rfl rfl rfl) rfl ?_
              refine AA _ (AE rfl) rfl ?_
              refine AI ?_
              have fz0 : nha ≤ 256 := by omega
              have fz1 : nhb ≤ 8192 := by omega
              refine DT (()) trivial (Sub.cons rfl (Sub.cons (congrArg (fun b => some (Value.bool b)) (by unfold c4B; simp [fz0, fz1, hb24, hb25] : (false) = (!(c4B (aB er rk th) (bB er rk th) nha nhb)))) (Sub.nil))) rfl
             ·
              refine AP 23 106 true _ (Ptr nb1 28) rfl rfl (bnotF hb25) (AD 28 65 1 AM rfl CU rfl rfl) rfl ?_
              refine AP 23 106 true _ (SL ahb nhb chb) rfl rfl (bnotF hb25) (AO rfl (A0 Tryd.isAgg65 (AU 0 rfl (Seg.right 27 1 (by simp [htg]) rfl (AK (Seg.head)))))) rfl ?_
              refine AP 23 106 true _ (I64 nhb) rfl rfl (bnotF hb25) (DY D2 rfl) rfl ?_
              refine AP 23 106 true _ (.bool (decide ((0:Int) < ((nhb:Int))))) rfl rfl (bnotF hb25) (AR rfl rfl fun _ => DD _ _) rfl ?_
              refine AP 20 103 false _ _ rfl rfl rfl (BD _ rfl (bnotF hb25) rfl) rfl ?_
              refine AA _ (A3 _ rfl rfl rfl) rfl ?_
              refine AA _ (AE rfl) rfl ?_
              refine AI ?_
              have fz0 : nha ≤ 256 := by omega
              have fz1 : nhb ≤ 8192 := by omega
              refine DT (()) trivial (Sub.cons rfl (Sub.cons (congrArg (fun b => some (Value.bool b)) (by rw [show (decide ((0:Int) < ((nhb:Int)))) = decide (¬ nhb = 0) from decide_eq_decide.2 (by omega)]; unfold c4B; simp [fz0, fz1, hb24, hb25] : (decide ((0:Int) < ((nhb:Int)))) = (!(c4B (aB er rk th) (bB er rk th) nha nhb)))) (Sub.nil))) rfl
            ·
             refine AP 13 96 true _ (Ptr nb1 27) rfl rfl (bnotF hb24) (AD 27 65 1 AM rfl CU rfl rfl) rfl ?_
             refine AP 13 96 true _ (SL aha nha cha) rfl rfl (bnotF hb24) (AO rfl (A0 Tryd.isAgg65 (AU 0 rfl (Seg.right 27 0 (by simp [htg]) rfl (Seg.head))))) rfl ?_
             refine AP 13 96 true _ (I64 nha) rfl rfl (bnotF hb24) (DY D2 rfl) rfl ?_
             refine AP 13 96 true _ (.bool (decide ((0:Int) < ((nha:Int))))) rfl rfl (bnotF hb24) (AR rfl rfl fun _ => DD _ _) rfl ?_
             refine AP 10 93 false _ _ rfl rfl hb23 (BD _ rfl (bnotF hb24) rfl) rfl ?_
             refine AA _ (A3 _ rfl hb23 rfl) rfl ?_
             refine AA _ (AF rfl) rfl ?_
             rcases Bool.eq_false_or_eq_true (decide ((0:Int) < ((nha:Int)))) with hb26 | hb26
             ·
              have hp26 : (0:Int) < ((nha:Int)) := of_decide_eq_true hb26
              refine AG 20 103 false _ rfl rfl hb26 rfl ?_
              refine AG 20 103 false _ rfl rfl hb26 rfl ?_
              refine AG 20 103 false _ rfl rfl hb26 rfl ?_
              refine C8 23 106 true rfl rfl rfl ?_
              refine C8 23 106 true rfl rfl rfl ?_
              refine C8 23 106 true rfl rfl rfl ?_
              refine C8 23 106 true rfl rfl rfl ?_
              refine AG 20 103 false _ rfl rfl hb26 rfl ?_
              refine AA _ (BD _ rfl hb26 rfl) rfl ?_
              refine AA _ (AE rfl) rfl ?_
              refine AI ?_
              have fz0 : nha ≤ 256 := by omega
              have fz1 : nhb ≤ 8192 := by omega
              have fz2 : nha ≠ 0 := by omega
              refine DT (()) trivial (Sub.cons rfl (Sub.cons (congrArg (fun b => some (Value.bool b)) (by unfold c4B; simp [fz0, fz1, fz2, hb24] : (true) = (!(c4B (aB er rk th) (bB er rk th) nha nhb)))) (Sub.nil))) rfl
             ·
              have hp26 : ¬ ((0:Int) < ((nha:Int))) := of_decide_eq_false hb26
              refine AP 20 103 false _ _ rfl rfl hb26 (AF rfl) rfl ?_
              refine AP 20 103 false _ (.bool (!(bB (er) (rk) th))) rfl rfl hb26 (DG rfl) rfl ?_
              refine AP 20 103 false _ _ rfl rfl hb26 (AF rfl) rfl ?_
              rcases Bool.eq_false_or_eq_true (bB (er) (rk) th) with hb27 | hb27
              ·
               refine AG 23 106 true _ rfl rfl (bnotT hb27) rfl ?_
               refine AG 23 106 true _ rfl rfl (bnotT hb27) rfl ?_
               refine AG 23 106 true _ rfl rfl (bnotT hb27) rfl ?_
               refine AG 23 106 true _ rfl rfl (bnotT hb27) rfl ?_
               refine AP 20 103 false _ _ rfl rfl hb26 (A3 _ rfl (bnotT hb27) rfl) rfl ?_
               refine AA _ (A3 _ rfl hb26 rfl) rfl ?_
               refine AA _ (AE rfl) rfl ?_
               refine AI ?_
               have fz0 : nha ≤ 256 := by omega
               have fz1 : nhb ≤ 8192 := by omega
               have fz2 : nha = 0 := by omega
               refine DT (()) trivial (Sub.cons rfl (Sub.cons (congrArg (fun b => some (Value.bool b)) (by unfold c4B; simp [fz0, fz1, fz2, hb24, hb27] : (false) = (!(c4B (aB er rk th) (bB er rk th) nha nhb)))) (Sub.nil))) rfl
              ·
               refine AP 23 106 true _ (Ptr nb1 28) rfl rfl (bnotF hb27) (AD 28 65 1 AM rfl CU rfl rfl) rfl ?_
               refine AP 23 106 true _ (SL ahb nhb chb) rfl rfl (bnotF hb27) (AO rfl (A0 Tryd.isAgg65 (AU 0 rfl (Seg.right 27 1 (by simp [htg]) rfl (AK (Seg.head)))))) rfl ?_
               refine AP 23 106 true _ (I64 nhb) rfl rfl (bnotF hb27) (DY D2 rfl) rfl ?_
               refine AP 23 106 true _ (.bool (decide ((0:Int) < ((nhb:Int))))) rfl rfl (bnotF hb27) (AR rfl rfl fun _ => DD _ _) rfl ?_
               refine AP 20 103 false _ _ rfl rfl hb26 (BD _ rfl (bnotF hb27) rfl) rfl ?_
               refine AA _ (A3 _ rfl hb26 rfl) rfl ?_
               refine AA _ (AE rfl) rfl ?_
               refine AI ?_
               have fz0 : nha ≤ 256 := by omega
               have fz1 : nhb ≤ 8192 := by omega
               have fz2 : nha = 0 := by omega
               refine DT (()) trivial (Sub.cons rfl (Sub.cons (congrArg (fun b => some (Value.bool b)) (by rw [show (decide ((0:Int) < ((nhb:Int)))) = decide (¬ nhb = 0) from decide_eq_decide.2 (by omega)]; unfold c4B; simp [fz0, fz1, fz2, hb24, hb27] : (decide ((0:Int) < ((nhb:Int)))) = (!(c4B (aB er rk th) (bB er rk th) nha nhb)))) (Sub.nil))) rfl
         ·
          rintro _ hx
          obtain _ := hx
          show JQ _ _ _ [(2, .bool false), (82, .bool (!(c4B (aB er rk th) (bB er rk th) nha nhb)))] [⟨nb1, [U64 rq, I64 (rk), I64 (er), SL aj nj cj, .bool th, U64 pv, U64 ep, I64 (kd), SL ai ni ci, SL sa ns sc, U64 bl] ++ cu8 tg ++ [SL aha nha cha, SL ahb nhb chb], 67, (0, 0)⟩]
          refine AC (B9 (!(c4B (aB er rk th) (bB er rk th) nha nhb)) rfl (fun hb28 => ?_) (fun hb28 => ?_))
          ·
           have hb29 : (c4B (aB er rk th) (bB er rk th) nha nhb) = false := by simpa using hb28
           refine AH (AB (AA _ (AE rfl) rfl ?_))
           refine AI (AC (BI (CD (A1 (B4 [false] ?_)))))
           show JQ _ _ _ _ []
           refine BH (.bool false) (res1 Tryd.results35 (BC rfl)) fun w1 hw1 => ?_
           exact ⟨_, [], rfl, ⟨congrArg Value.bool (show _ = repR _ _ _ _ _ _ _ _ by unfold repR; rw [hb6, hb14, hb21, hb29]; rfl), rfl⟩, hw1.sub (by simp) (by simp)⟩
          ·
           have hb30 : (c4B (aB er rk th) (bB er rk th) nha nhb) = true := by simpa using hb28
           refine BF (BS (AC (AH (AB (AA _ (AE rfl) rfl ?_)))))
           refine AI (AC (BI (B4 [false] ?_)))
           show JQ _ _ _ _ []
           refine BH (.bool true) (res1 Tryd.results35 (BC rfl)) fun w1 hw1 => ?_
           exact ⟨_, [], rfl, ⟨congrArg Value.bool (show _ = repR _ _ _ _ _ _ _ _ by unfold repR; rw [hb6, hb14, hb21, hb30]; rfl), rfl⟩, hw1.sub (by simp) (by simp)⟩
theorem hashesO_c (wb gb n cap0 tot : Nat) (ev : Value) (o : List UInt8) (sp0 : List Value) (ahq : Option Addr) (nhq chq : Nat) (xhq : List UInt8)  (w : World) (h0 : w.heap[wb]? = some (.cells [ev, Slc gb 0 n cap0].toArray 149 (0, 0))) (h1 : w.heap[gb]? = some (.cells (cu8 o ++ sp0).toArray 5 (0, 0))) (hne : wb ≠ gb) (ho : o.length = n) (hsp : sp0.length = cap0 - n) (hca : n ≤ cap0) (hcm : cap0 ≤ maxLen) (hn : n ≤ 1000000000) (hlhq : xhq.length = nhq * 32) (hnhq : nhq ≤ 8192) (hdhq : nhq ≤ chq) (hchq : chq ≤ maxLen) (hrhq : RdB w [wb, gb] ahq xhq) (ht : n + 2 + nhq*32 = tot) (htb : tot ≤ 1000000000)  : Calls Tryd.prog 98 #[Ptr wb 0, SL ahq nhq chq] w (Post w [wb, gb] (fun v L => v = .tuple #[] ∧ ∃ g sp cap, L = [⟨wb, [ev, Slc g 0 tot cap], 149, (0, 0)⟩, ⟨g, cu8 ((o ++ numK 2 (UInt64.ofNat nhq) 2) ++ xhq) ++ sp, 5, (0, 0)⟩] ∧ sp.length = cap - tot ∧ tot ≤ cap ∧ cap ≤ maxLen)) := by
 have hmx : maxLen = 9223372036854775807 := rfl
 refine enter w [wb, gb] 21 [⟨wb, [ev, Slc gb 0 n cap0], 149, (0, 0)⟩, ⟨gb, cu8 o ++ sp0, 5, (0, 0)⟩] [Ptr wb 0, SL ahq nhq chq] Tryd.func98 rfl rfl (by simp) (BW (by simp; exact ⟨h0, h1⟩) (by simp; exact hne) (by simp)) ?_
 show JC _ _ _ [(0, Ptr wb 0), (1, SL ahq nhq chq)] _
 refine AH (AB (AA _ (AF rfl) rfl ?_))
 refine AA _ (AF rfl) rfl ?_
 refine AA (I64 nhq) (DY D2 rfl) rfl ?_
 refine AA (U64 (UInt64.ofNat nhq)) (CM _ _ rfl fun _ => DW (by rw [A6]; rfl) AW nhq _ (by omega)) rfl ?_
 refine A4 (A8 81 _ [true, true] [wb, gb] _ (AS [Ptr wb 0, U64 (UInt64.ofNat nhq), I64 2] B0 rfl) rfl (fun w1 hw1 => EO wb gb n cap0 (n + 2) ev o sp0 (UInt64.ofNat nhq) 2 w1 (hw1.ent _ (List.mem_of_getElem? (i := 0) rfl)) (hw1.ent _ (List.mem_of_getElem? (i := 1) rfl)) (hw1.ne (i := 0) (j := 1) rfl rfl (by decide)) ho hsp hca hcm (by omega) (by unfold Szd; omega) (fun _ => shr16 (by omega)) (by omega))) rfl ?_
 rintro v1 L1 ⟨_, ⟨rfl, nb1, sp1, cp1, rfl, hc1, hc2, hc3⟩, rfl⟩
 show JL _ _ _ _ ((10, Ptr wb 0) :: _) [⟨wb, [ev, Slc nb1 0 (n + 2) cp1], 149, (0, 0)⟩, ⟨nb1, cu8 (o ++ numK 2 (UInt64.ofNat nhq) 2) ++ sp1, 5, (0, 0)⟩]
 refine AI (AC (AH (AB (AA _ (AF rfl) rfl ?_))))
 refine AA (I64 nhq) (DY D2 rfl) rfl ?_
 refine AA _ (AF rfl) rfl ?_
 refine AI (AC (B5 (EM (ι := Nat × List UInt8 × Nat × List Value × Nat) (fun ⟨i, oqi, gqi, spqi, cpqi⟩ => [(0, Ptr wb 0), (11, SL ahq nhq chq), (12, I64 nhq), (13, I64 i)]) (fun ⟨i, oqi, gqi, spqi, cpqi⟩ => [⟨wb, [ev, Slc gqi 0 (32*i + n + 2) cpqi], 149, (0, 0)⟩, ⟨gqi, cu8 oqi ++ spqi, 5, (0, 0)⟩]) (fun ⟨i, oqi, gqi, spqi, cpqi⟩ => i ≤ nhq ∧ oqi = (o ++ numK 2 (UInt64.ofNat nhq) 2) ++ xhq.take (32*i) ∧ oqi.length = (32*i + n + 2) ∧ spqi.length = cpqi - (32*i + n + 2) ∧ (32*i + n + 2) ≤ cpqi ∧ cpqi ≤ maxLen) (fun ⟨i, oqi, gqi, spqi, cpqi⟩ => nhq - i) (0, o ++ numK 2 (UInt64.ofNat nhq) 2, nb1, sp1, cp1) ⟨by omega, by rw [Nat.mul_zero, List.take_zero, List.append_nil], (by have h := (show (o ++ numK 2 (UInt64.ofNat nhq) 2).length = (n + 2) from (by rw [List.length_append, ho, A5] <;> omega)); omega), (by have h := hc1; omega), by omega, by omega⟩ (Sub.all rfl) (by first | rfl | (simp; done)) ?_)))
 rintro ⟨i, oqi, gqi, spqi, cpqi⟩ ⟨hi1, hi2, hi3, hi4, hi5, hi6⟩
 show JC _ _ _ [(0, Ptr wb 0), (11, SL ahq nhq chq), (12, I64 nhq), (13, I64 i)] [⟨wb, [ev, Slc gqi 0 (32*i + n + 2) cpqi], 149, (0, 0)⟩, ⟨gqi, cu8 oqi ++ spqi, 5, (0, 0)⟩]
 refine AH (AB (AA (.bool (decide (((i:Int)) < ((nhq:Int))))) (AR rfl rfl fun _ => CH _ _) rfl ?_))
 refine AI (AC (AH (B9 (decide (((i:Int)) < ((nhq:Int)))) rfl (fun hb1 => ?_) (fun hb1 => ?_))))
 ·
  have hp1 : ((i:Int)) < ((nhq:Int)) := of_decide_eq_true hb1
  refine BF (AC (AH (B5 (AH (AB ?_)))))
  obtain ⟨bz1, oz1, hz1, hm1⟩ := hrhq.pos (by rw [hlhq]; omega)
  refine AA (Ptr bz1 (32*i + oz1)) (EA 54 32 (32*i + oz1) D2 EC rfl hz1 rfl (by omega) (by omega) (by omega)) rfl ?_
  have hl1 : (mid xhq (32*i) 32).length = 32 := mid_len (by rw [hlhq]; omega)
  refine AA (.agg (cu8 (mid xhq (32*i) 32)).toArray) (AO rfl (BU Tryd.isAgg54 EC (EW hl1) (DB (MemAt.base hm1.1 hm1.2.1 hm1.2.2) (segm_u8 (32*i) 32 (by rw [hlhq]; omega)) (by first | omega | (simp; done) | (simp; omega))))) rfl ?_
  refine A4 (C0 _ (cu8 (zr8 32)) Tryd.zeroValue54 (by kernel_rfl)) rfl ?_
  rintro v1 L1 ⟨nb2, hnb2, rfl, rfl⟩
  show JL _ _ _ _ ((5, Ptr nb2 0) :: _) [_, _, ⟨nb2, cu8 (zr8 32), 54, (0, 0)⟩]
  refine A7 (BQ 2 nb2 32 (cu8 (zr8 32)) 54 (cu8 (mid xhq (32*i) 32)) rfl rfl rfl EC (EW hl1) (by first | exact CT | exact one_u32 | exact one_u64 | (simp [cu8, cu32, cu64, Value.oneCell']; done)) (by simp [(AN 32)]) (BT (by simp [(AN 32), hl1]))) rfl ?_
  show JL _ _ _ _ _ [_, _, ⟨nb2, cu8 (mid xhq (32*i) 32), 54, (0, 0)⟩]
  refine AI (AC (AB (AA _ (AF rfl) rfl ?_)))
  refine AA (.agg (cu8 (mid xhq (32*i) 32)).toArray) (AO rfl (BU Tryd.isAgg54 EC (EW hl1) (AU 2 rfl (AQ _)))) rfl ?_
  refine A4 (A8 149 _ [true, true, false] [wb, gqi] _ (AS [Ptr wb 0, .agg (cu8 (mid xhq (32*i) 32)).toArray] Tryd.call149 rfl) rfl (fun w1 hw1 => hashO_c wb gqi (32*i + n + 2) cpqi (32*i + n + 34) ev oqi spqi (mid xhq (32*i) 32) w1 (hw1.ent _ (List.mem_of_getElem? (i := 0) rfl)) (hw1.ent _ (List.mem_of_getElem? (i := 1) rfl)) (hw1.ne (i := 0) (j := 1) rfl rfl (by decide)) hi3 hi4 hi5 hi6 (by omega) hl1 (by omega))) rfl ?_
  rintro v1 L1 ⟨_, ⟨rfl, nb3, sp2, cp2, rfl, hc4, hc5, hc6⟩, rfl⟩
  show JL _ _ _ _ ((19, Ptr wb 0) :: _) [_, ⟨wb, [ev, Slc nb3 0 (32*i + n + 34) cp2], 149, (0, 0)⟩, ⟨nb3, cu8 (oqi ++ (mid xhq (32*i) 32)) ++ sp2, 5, (0, 0)⟩]
  refine AI (BS (AC (AB (AA (I64 ((i:Int) + 1)) (AR rfl rfl fun _ => DQ _ _ ((i:Int) + 1) (by omega) (by omega)) rfl ?_))))
  refine AA _ (AF rfl) rfl ?_
  refine AI (D0 (B4 [false, true, true] ?_))
  show K _ _ [_, _] _
  refine EV (i + 1, oqi ++ (mid xhq (32*i) 32), nb3, sp2, cp2) ⟨by omega, by rw [hi2, List.append_assoc, take_mid2], (by have h := (show (oqi ++ (mid xhq (32*i) 32)).length = (32*i + n + 34) from (by rw [List.length_append, hi3, hl1] <;> omega)); omega), (by have h := hc4; omega), by omega, by omega⟩ (by first | (simp; omega) | simp | (dsimp only; omega) | omega) (Sub.all rfl) (by first | rfl | rw [show (32*i + n + 34) = (32*(i + 1) + n + 2) by omega])
 ·
  have hp1 : ¬ (((i:Int)) < ((nhq:Int))) := of_decide_eq_false hb1
  refine ED (BJ (BJ (C1 (JQ_end (.tuple #[]) (res0 Tryd.results98 ) fun w1 hw1 => ?_))))
  obtain rfl : nhq = i := by omega
  obtain rfl : tot = (32*nhq + n + 2) := by omega
  rw [List.take_of_length_le (by omega)] at hi2
  subst hi2
  exact ⟨_, _, rfl, ⟨rfl, gqi, spqi, cpqi, rfl, hi4, hi5, hi6⟩, hw1⟩
set_option maxHeartbeats 2000000 in
theorem putRepE_c (rq : UInt64) (rk er : Nat) (aj : Option Addr) (nj cj : Nat) (lj : List ItemR) (th : Bool) (pv ep : UInt64) (kd : Int) (ai : Option Addr) (ni ci : Nat) (l : List UInt64) (sa : Option Addr) (ns sc : Nat) (ls : List SealR) (bl : UInt64) (tg : List UInt8) (aha : Option Addr) (nha cha : Nat) (xha : List UInt8) (ahb : Option Addr) (nhb chb : Nat) (xhb : List UInt8)  (w : World) (hlj : lj.length = nj) (hnj : nj ≤ 2000000) (hdj : nj ≤ cj) (hcj : cj ≤ maxLen) (hj : RdV w aj (lj.flatMap itemC)) (hl : l.length = ni) (hnm : ni ≤ 2000000) (hnc : ni ≤ ci) (hcm : ci ≤ maxLen) (hv : RdV w ai (cu64 l)) (hls : ls.length = ns) (hnn : ns ≤ 2000000) (hnd : ns ≤ sc) (hcn : sc ≤ maxLen) (hs : RdV w sa (ls.flatMap sealC)) (htg : tg.length = 16) (hlha : xha.length = nha * 32) (hnha : nha ≤ 9000) (hdha : nha ≤ cha) (hcha : cha ≤ maxLen) (hrha : RdB w [] aha xha) (hlhb : xhb.length = nhb * 32) (hnhb : nhb ≤ 9000) (hdhb : nhb ≤ chb) (hchb : chb ≤ maxLen) (hrhb : RdB w [] ahb xhb) (hbi : ni ≤ 300) (hbs : ns ≤ 300) (hA : nha ≤ 300) (hB : nhb ≤ 8192) (hR : repR ((rk:Int)) ((er:Int)) th lj (blankB pv ep kd l ls bl tg) (decide (mayN pv ep kd l ls bl = 0)) nha nhb = true) (hE : (er:Int) ≠ 0)  : Calls Tryd.prog 34 #[.agg ([U64 rq, I64 rk, I64 er, SL aj nj cj, .bool th, U64 pv, U64 ep, I64 (kd), SL ai ni ci, SL sa ns sc, U64 bl] ++ cu8 tg ++ [SL aha nha cha, SL ahb nhb chb]).toArray] w (Post w [] (fun v L => ∃ g sp cap, v = .tuple #[Slc g 0 (10) cap, .nilIface] ∧ L = [⟨g, cu8 ((numK 8 rq 8 ++ numK 1 (UInt64.ofNat rk) 1) ++ numK 1 (UInt64.ofNat er) 1) ++ sp, 5, (0, 0)⟩] ∧ sp.length = cap - 10 ∧ 10 ≤ cap ∧ cap ≤ maxLen)) := by
 have hmx : maxLen = 9223372036854775807 := rfl
 have hf := repR_f hlj hR
 have hn0 := repR_E hlj hE hR
 refine enter (P := Tryd.prog) (f := 34) (fn := Tryd.f34) w [] 103 [] [.agg ([U64 rq, I64 rk, I64 er, SL aj nj cj, .bool th, U64 pv, U64 ep, I64 (kd), SL ai ni ci, SL sa ns sc, U64 bl] ++ cu8 tg ++ [SL aha nha cha, SL ahb nhb chb]).toArray] Tryd.func34 rfl rfl (by simp) (BW (by simp) (by simp) (by simp)) ?_
 show JC _ _ _ [(0, .agg ([U64 rq, I64 rk, I64 er, SL aj nj cj, .bool th, U64 pv, U64 ep, I64 (kd), SL ai ni ci, SL sa ns sc, U64 bl] ++ cu8 tg ++ [SL aha nha cha, SL ahb nhb chb]).toArray)] _
 refine AH (AB (A4 (C5 (.agg ([U64 rq, I64 rk, I64 er, SL aj nj cj, .bool th, U64 pv, U64 ep, I64 (kd), SL ai ni ci, SL sa ns sc, U64 bl] ++ cu8 tg ++ [SL aha nha cha, SL ahb nhb chb]).toArray) ([U64 rq, I64 rk, I64 er, SL aj nj cj, .bool th, U64 pv, U64 ep, I64 (kd), SL ai ni ci, SL sa ns sc, U64 bl] ++ cu8 tg ++ [SL aha nha cha, SL ahb nhb chb]) rfl (by first | rfl | simp)) rfl ?_))
 rintro v1 L1 ⟨nb1, hnb1, rfl, rfl⟩
 show JL _ _ _ _ ((1, Ptr nb1 0) :: _) [⟨nb1, [U64 rq, I64 rk, I64 er, SL aj nj cj, .bool th, U64 pv, U64 ep, I64 (kd), SL ai ni ci, SL sa ns sc, U64 bl] ++ cu8 tg ++ [SL aha nha cha, SL ahb nhb chb], 67, (0, 0)⟩]
 refine AA _ (AE rfl) rfl ?_
 refine AA _ (AE rfl) rfl ?_
 refine AI (AC (AH (AH (AB (AA (.agg ([U64 rq, I64 rk, I64 er, SL aj nj cj, .bool th, U64 pv, U64 ep, I64 (kd), SL ai ni ci, SL sa ns sc, U64 bl] ++ cu8 tg ++ [SL aha nha cha, SL ahb nhb chb]).toArray) (AO rfl (BU CC BR (by simp [htg]) (AU 0 rfl (AQ _)))) rfl ?_)))))
 refine A7 (A2 35 [.agg ([U64 rq, I64 rk, I64 er, SL aj nj cj, .bool th, U64 pv, U64 ep, I64 (kd), SL ai ni ci, SL sa ns sc, U64 bl] ++ cu8 tg ++ [SL aha nha cha, SL ahb nhb chb]).toArray] (.bool (repR ((rk:Int)) ((er:Int)) th lj (blankB pv ep (kd) l ls bl tg) (decide (mayN pv ep (kd) l ls bl = 0)) nha nhb)) (AS _ Tryd.call35 rfl) (fun w1 hw1 => E5 rq ((rk:Int)) ((er:Int)) aj nj cj lj th pv ep (kd) ai ni ci l sa ns sc ls bl tg aha nha cha xha ahb nhb chb xhb w1 hlj (by omega) (by omega) (by omega) (C2 hw1 rfl hj) hl (by omega) (by omega) (by omega) (C2 hw1 rfl hv) hls (by omega) (by omega) (by omega) (C2 hw1 rfl hs) htg hlha (by omega) (by omega) (by omega) (hrha.at (M' := []) hw1 (by simp)) hlhb (by omega) (by omega) (by omega) (hrhb.at (M' := []) hw1 (by simp)) (by omega) (by omega))) rfl ?_
 show JL _ _ _ _ ((14, .bool (repR ((rk:Int)) ((er:Int)) th lj (blankB pv ep (kd) l ls bl tg) (decide (mayN pv ep (kd) l ls bl = 0)) nha nhb)) :: _) [_]
 refine AA (.bool (!(repR ((rk:Int)) ((er:Int)) th lj (blankB pv ep (kd) l ls bl tg) (decide (mayN pv ep (kd) l ls bl = 0)) nha nhb))) (DG rfl) rfl ?_
 refine AI (AC (BP _ rfl (bnotT hR) ?_))
 refine BF (AC (AH (AB (AA (.agg ([U64 rq, I64 rk, I64 er, SL aj nj cj, .bool th, U64 pv, U64 ep, I64 (kd), SL ai ni ci, SL sa ns sc, U64 bl] ++ cu8 tg ++ [SL aha nha cha, SL ahb nhb chb]).toArray) (AO rfl (BU CC BR (by simp [htg]) (AU 0 rfl (AQ _)))) rfl ?_))))
 refine A7 (A2 95 [.agg ([U64 rq, I64 rk, I64 er, SL aj nj cj, .bool th, U64 pv, U64 ep, I64 (kd), SL ai ni ci, SL sa ns sc, U64 bl] ++ cu8 tg ++ [SL aha nha cha, SL ahb nhb chb]).toArray] (.tuple #[.bool (itB ((er:Int)) ((rk:Int))), .bool (chB ((er:Int)) ((rk:Int)) th), .bool (aB ((er:Int)) ((rk:Int)) th), .bool (bB ((er:Int)) ((rk:Int)) th)]) (AS _ Tryd.call95 rfl) (fun w1 hw1 => parts_c rq ((rk:Int)) ((er:Int)) aj nj cj lj th pv ep (kd) ai ni ci l sa ns sc ls bl tg aha nha cha xha ahb nhb chb xhb w1 htg)) rfl ?_
 show JL _ _ _ _ ((19, .tuple #[.bool (itB ((er:Int)) ((rk:Int))), .bool (chB ((er:Int)) ((rk:Int)) th), .bool (aB ((er:Int)) ((rk:Int)) th), .bool (bB ((er:Int)) ((rk:Int)) th)]) :: _) [_]
 refine AA _ (AF rfl) rfl ?_
 refine AA _ (BE rfl rfl) rfl ?_
 refine AA _ (BE rfl rfl) rfl ?_
 refine AA _ (BE rfl rfl) rfl ?_
 refine AA _ (BE rfl rfl) rfl ?_
 refine AA _ (AE rfl) rfl ?_
 refine AA _ (AE rfl) rfl ?_
 refine AA _ (AE rfl) rfl ?_
 refine AA _ (AE rfl) rfl ?_
 refine AI (AC (AH (AB (AA (.agg #[.nilIface, SL none 0 0]) (CP [] _ rfl (fun _ => by kernel_rfl)) rfl ?_))))
 refine A4 (C5 (.agg #[.nilIface, SL none 0 0]) ([.nilIface, SL none 0 0]) rfl (by first | rfl | simp)) rfl ?_
 rintro v1 L1 ⟨nb2, hnb2, rfl, rfl⟩
 show JL _ _ _ _ ((25, Ptr nb2 0) :: _) [_, ⟨nb2, [.nilIface, SL none 0 0], 149, (0, 0)⟩]
 refine AA _ (AE rfl) rfl ?_
 refine AI (AC (AH (DC 103 4 [(0, Ptr nb2 0), (1, Ptr nb1 0), (2, U64 rq), (4, Ptr nb1 1), (5, I64 rk), (6, U64 (UInt64.ofNat rk)), (8, Ptr nb1 2), (9, I64 er), (10, U64 (UInt64.ofNat er))] CA rfl (by decide +kernel) ?_)))
 refine CW ⟨[], [0, 1, 2, 4, 5, 6, 8, 9, 10], [], [0, 1, 2, 4, 5, 6, 8, 9, 10], [3]⟩ 3 _ rfl rfl (by decide +kernel) rfl ⟨CG rfl rfl rfl, ⟨_, rfl, AL rfl (AD 0 22 1 AM rfl A9 rfl rfl)⟩, ⟨_, rfl, AL rfl (AO rfl (A0 BN (AU 0 rfl (AJ (AJ (Seg.head))))))⟩, ⟨_, rfl, AL rfl (AD 1 3 1 AM rfl AT rfl rfl)⟩, ⟨_, rfl, AL rfl (AO rfl (A0 AY (AU 0 rfl (AJ (AJ (AK (Seg.head)))))))⟩, ⟨_, rfl, AL rfl (CM _ _ rfl fun _ => DW (by rw [A6]; rfl) AW rk _ (by omega))⟩, ⟨_, rfl, AL rfl (AD 2 3 1 AM rfl AT rfl rfl)⟩, ⟨_, rfl, AL rfl (AO rfl (A0 AY (AU 0 rfl (AJ (AJ (AK (AK (Seg.head))))))))⟩, ⟨_, rfl, AL rfl (CM _ _ rfl fun _ => DW (by rw [A6]; rfl) AW er _ (by omega))⟩, trivial⟩ rfl (BO rfl (A8 81 _ [false, true] [nb2] _ (AS [Ptr nb2 0, U64 rq, I64 8] B0 rfl) rfl (fun w1 hw1 => numN_c nb2 8 .nilIface rq 8 w1 (hw1.ent _ (List.mem_of_getElem? (i := 1) rfl)) (by unfold Szd; omega) (fun h => absurd h (by omega)) (by omega)))) ?_
 rintro v1 L1 ⟨_, ⟨rfl, nb3, sp1, cp1, rfl, hc1, hc2, hc3⟩, rfl⟩
 refine ⟨[], ?_⟩
 show DP _ _ _ _ _ _ _ _ [_, ⟨nb2, [.nilIface, Slc nb3 0 8 cp1], 149, (0, 0)⟩, ⟨nb3, cu8 (numK 8 rq 8) ++ sp1, 5, (0, 0)⟩]
 refine CW ⟨[3], [0, 1, 2, 4, 5, 6, 8, 9, 10], [0, 1, 2], [4, 5, 6, 8, 9, 10], [7]⟩ 7 _ rfl rfl (by decide +kernel) rfl ⟨⟨_, rfl, AL rfl (AD 1 3 1 AM rfl AT rfl rfl)⟩, ⟨_, rfl, AL rfl (AO rfl (A0 AY (AU 0 rfl (AJ (AJ (AK (Seg.head)))))))⟩, ⟨_, rfl, AL rfl (CM _ _ rfl fun _ => DW (by rw [A6]; rfl) AW rk _ (by omega))⟩, ⟨_, rfl, AL rfl (AD 2 3 1 AM rfl AT rfl rfl)⟩, ⟨_, rfl, AL rfl (AO rfl (A0 AY (AU 0 rfl (AJ (AJ (AK (AK (Seg.head))))))))⟩, ⟨_, rfl, AL rfl (CM _ _ rfl fun _ => DW (by rw [A6]; rfl) AW er _ (by omega))⟩, trivial⟩ rfl (BO rfl (A8 81 _ [false, true, true] [nb2, nb3] _ (AS [Ptr nb2 0, U64 (UInt64.ofNat rk), I64 1] B0 rfl) rfl (fun w1 hw1 => EO nb2 nb3 8 cp1 9 .nilIface (numK 8 rq 8) sp1 (UInt64.ofNat rk) 1 w1 (hw1.ent _ (List.mem_of_getElem? (i := 1) rfl)) (hw1.ent _ (List.mem_of_getElem? (i := 2) rfl)) (hw1.ne (i := 1) (j := 2) rfl rfl (by decide)) (show (numK 8 rq 8).length = 8 from (A5 _ _ _)) hc1 hc2 hc3 (by omega) (by unfold Szd; omega) (fun _ => shr8n (by omega)) (by omega)))) ?_
 rintro v1 L1 ⟨_, ⟨rfl, nb4, sp2, cp2, rfl, hc4, hc5, hc6⟩, rfl⟩
 refine ⟨[], ?_⟩
 show DP _ _ _ _ _ _ _ _ [_, ⟨nb2, [.nilIface, Slc nb4 0 9 cp2], 149, (0, 0)⟩, ⟨nb4, cu8 ((numK 8 rq 8) ++ numK 1 (UInt64.ofNat rk) 1) ++ sp2, 5, (0, 0)⟩]
 refine CW ⟨[3, 7], [0, 1, 2, 4, 5, 6, 8, 9, 10], [0, 1, 2, 4, 5, 6], [8, 9, 10], [11]⟩ 11 _ rfl rfl (by decide +kernel) rfl ⟨⟨_, rfl, AL rfl (AD 2 3 1 AM rfl AT rfl rfl)⟩, ⟨_, rfl, AL rfl (AO rfl (A0 AY (AU 0 rfl (AJ (AJ (AK (AK (Seg.head))))))))⟩, ⟨_, rfl, AL rfl (CM _ _ rfl fun _ => DW (by rw [A6]; rfl) AW er _ (by omega))⟩, trivial⟩ rfl (BO rfl (A8 81 _ [false, true, true] [nb2, nb4] _ (AS [Ptr nb2 0, U64 (UInt64.ofNat er), I64 1] B0 rfl) rfl (fun w1 hw1 => EO nb2 nb4 9 cp2 10 .nilIface ((numK 8 rq 8) ++ numK 1 (UInt64.ofNat rk) 1) sp2 (UInt64.ofNat er) 1 w1 (hw1.ent _ (List.mem_of_getElem? (i := 1) rfl)) (hw1.ent _ (List.mem_of_getElem? (i := 2) rfl)) (hw1.ne (i := 1) (j := 2) rfl rfl (by decide)) (show ((numK 8 rq 8) ++ numK 1 (UInt64.ofNat rk) 1).length = 9 from (by rw [List.length_append, (show (numK 8 rq 8).length = 8 from (A5 _ _ _)), A5] <;> omega)) hc4 hc5 hc6 (by omega) (by unfold Szd; omega) (fun _ => shr8n (by omega)) (by omega)))) ?_
 rintro v1 L1 ⟨_, ⟨rfl, nb5, sp3, cp3, rfl, hc7, hc8, hc9⟩, rfl⟩
 refine ⟨[], ?_⟩
 show DP _ _ _ _ _ _ _ _ [_, ⟨nb2, [.nilIface, Slc nb5 0 10 cp3], 149, (0, 0)⟩, ⟨nb5, cu8 (((numK 8 rq 8) ++ numK 1 (UInt64.ofNat rk) 1) ++ numK 1 (UInt64.ofNat er) 1) ++ sp3, 5, (0, 0)⟩]
 refine DU ⟨[3, 7, 11], [0, 1, 2, 4, 5, 6, 8, 9, 10], [0, 1, 2, 4, 5, 6, 8, 9, 10], [], []⟩ rfl rfl (by decide +kernel) rfl trivial ?_
 refine C6 (F' := [(1, Ptr nb1 0), (2, SL none 0 0), (3, .nilIface), (4, .bool (itB ((er:Int)) ((rk:Int)))), (5, .bool (chB ((er:Int)) ((rk:Int)) th)), (6, .bool (aB ((er:Int)) ((rk:Int)) th)), (7, .bool (bB ((er:Int)) ((rk:Int)) th)), (8, Ptr nb2 0)]) (by kernel_rfl) ?_
 refine AC (AH (AH (AB (AA _ (AF rfl) rfl ?_))))
 refine AI (AC (BP _ rfl (itB_ne hE) ?_))
 refine BF (AC (AH (AH (AB (AA (Ptr nb1 3) (AD 3 64 1 AM rfl CX rfl rfl) rfl ?_)))))
 refine AA (SL aj nj cj) (AO rfl (A0 D1 (AU 0 rfl (AJ (AJ (AK (AK (AK (Seg.head))))))))) rfl ?_
 refine AA (I64 nj) (DY CE rfl) rfl ?_
 refine AA _ (AF rfl) rfl ?_
 refine AI (AC (B5 (EM (ι := Unit) (fun _ => [(1, Ptr nb1 0), (2, SL none 0 0), (3, .nilIface), (5, .bool (chB ((er:Int)) ((rk:Int)) th)), (6, .bool (aB ((er:Int)) ((rk:Int)) th)), (7, .bool (bB ((er:Int)) ((rk:Int)) th)), (8, Ptr nb2 0), (47, SL aj nj cj), (48, I64 nj), (49, I64 0)]) (fun _ => [⟨nb1, [U64 rq, I64 rk, I64 er, SL aj nj cj, .bool th, U64 pv, U64 ep, I64 (kd), SL ai ni ci, SL sa ns sc, U64 bl] ++ cu8 tg ++ [SL aha nha cha, SL ahb nhb chb], 67, (0, 0)⟩, ⟨nb2, [.nilIface, Slc nb5 0 10 cp3], 149, (0, 0)⟩, ⟨nb5, cu8 (((numK 8 rq 8) ++ numK 1 (UInt64.ofNat rk) 1) ++ numK 1 (UInt64.ofNat er) 1) ++ sp3, 5, (0, 0)⟩]) (fun _ => True) (fun _ => 1) () trivial (Sub.all rfl) rfl ?_)))
 rintro _ _
 show JC _ _ _ [(1, Ptr nb1 0), (2, SL none 0 0), (3, .nilIface), (5, .bool (chB ((er:Int)) ((rk:Int)) th)), (6, .bool (aB ((er:Int)) ((rk:Int)) th)), (7, .bool (bB ((er:Int)) ((rk:Int)) th)), (8, Ptr nb2 0), (47, SL aj nj cj), (48, I64 nj), (49, I64 0)] [⟨nb1, [U64 rq, I64 rk, I64 er, SL aj nj cj, .bool th, U64 pv, U64 ep, I64 (kd), SL ai ni ci, SL sa ns sc, U64 bl] ++ cu8 tg ++ [SL aha nha cha, SL ahb nhb chb], 67, (0, 0)⟩, ⟨nb2, [.nilIface, Slc nb5 0 10 cp3], 149, (0, 0)⟩, ⟨nb5, cu8 (((numK 8 rq 8) ++ numK 1 (UInt64.ofNat rk) 1) ++ numK 1 (UInt64.ofNat er) 1) ++ sp3, 5, (0, 0)⟩]
 refine AH (AB (AA (.bool (decide ((0:Int) < ((nj:Int))))) (AR rfl rfl fun _ => CH _ _) rfl ?_))
 refine AI (AC (AH (BP _ rfl (decide_eq_false (by omega)) ?_)))
 refine ED (BJ (BJ (C1 (AC (AH (AH (AB (AA (Ptr nb1 2) (AD 2 3 1 AM rfl AT rfl rfl) rfl ?_))))))))
 refine AA (I64 er) (AO rfl (A0 AY (AU 0 rfl (AJ (AJ (AK (AK (Seg.head)))))))) rfl ?_
 refine AA (.bool (decide (((er:Int)) = (0:Int)))) (AR rfl rfl fun _ => BK _ _) rfl ?_
 refine AA _ (AF rfl) rfl ?_
 refine AG 3 68 true _ rfl rfl (decide_eq_false hE) rfl ?_
 refine AG 3 68 true _ rfl rfl (decide_eq_false hE) rfl ?_
 refine AG 3 68 true _ rfl rfl (decide_eq_false hE) rfl ?_
 refine AA _ (A3 _ rfl (decide_eq_false hE) rfl) rfl ?_
 refine AI (AC (BP _ rfl rfl ?_))
 refine BF (AC (AH (AH (AB (AA _ (AF rfl) rfl ?_)))))
 refine AI (AC (BP _ rfl (chB_ne hE) ?_))
 refine BF (AC (AH (AH (AB (AA _ (AF rfl) rfl ?_)))))
 refine AI (AC (BP _ rfl (aB_ne hE) ?_))
 refine BF (AC (AH (AH (AB (AA _ (AF rfl) rfl ?_)))))
 refine AI (AC (BP _ rfl (bB_ne hE) ?_))
 refine BF (AC (AH (AB (AA _ (AF rfl) rfl ?_))))
 refine A4 (CZ 83 [Ptr nb2 0] _ (AS _ EQ rfl) (fun w1 hw1 => FJ nb2 0 nb5 10 cp3 (((numK 8 rq 8) ++ numK 1 (UInt64.ofNat rk) 1) ++ numK 1 (UInt64.ofNat er) 1) w1 (RdA.of hw1 (AU 1 rfl (AQ _)) (by simp)) rfl (show (((numK 8 rq 8) ++ numK 1 (UInt64.ofNat rk) 1) ++ numK 1 (UInt64.ofNat er) 1).length = 10 from (by rw [List.length_append, (show ((numK 8 rq 8) ++ numK 1 (UInt64.ofNat rk) 1).length = 9 from (by rw [List.length_append, (show (numK 8 rq 8).length = 8 from (A5 _ _ _)), A5] <;> omega)), A5] <;> omega)) (by omega) (RdB.of hw1 (AU 2 rfl (AJ (AQ _))) (by simp)))) rfl ?_
 rintro v1 L1 ⟨_, ⟨nb6, sp4, cp4, rfl, rfl, hc10, hc11, hc12⟩, rfl⟩
 show JL _ _ _ _ ((100, .tuple #[Slc nb6 0 10 cp4, .nilIface]) :: _) [_, _, _, ⟨nb6, cu8 (((numK 8 rq 8) ++ numK 1 (UInt64.ofNat rk) 1) ++ numK 1 (UInt64.ofNat er) 1) ++ sp4, 5, (0, 0)⟩]
 refine AA _ (BE rfl rfl) rfl ?_
 refine AA _ (BE rfl rfl) rfl ?_
 refine AA _ (AE rfl) rfl ?_
 refine AA _ (AE rfl) rfl ?_
 refine AI (AC (BI (B4 [false, false, false, true] ?_)))
 show JQ _ _ _ _ [_]
 refine BH (.tuple #[Slc nb6 0 10 cp4, .nilIface]) (res2 Tryd.results34 (BC rfl) (BC rfl)) fun w1 hw1 => ?_
 skip
 exact ⟨_, _, rfl, ⟨nb6, sp4, cp4, rfl, rfl, hc10, hc11, hc12⟩, hw1.sub (by simp) (by simp)⟩
set_option maxHeartbeats 2000000 in
theorem putRep1_c (rq : UInt64) (aj : Option Addr) (nj cj : Nat) (lj : List ItemR) (th : Bool) (pv ep : UInt64) (kd : Int) (ai : Option Addr) (ni ci : Nat) (l : List UInt64) (sa : Option Addr) (ns sc : Nat) (ls : List SealR) (bl : UInt64) (tg : List UInt8) (aha : Option Addr) (nha cha : Nat) (xha : List UInt8) (ahb : Option Addr) (nhb chb : Nat) (xhb : List UInt8) (si : Nat)  (w : World) (hlj : lj.length = nj) (hnj : nj ≤ 2000000) (hdj : nj ≤ cj) (hcj : cj ≤ maxLen) (hj : RdV w aj (lj.flatMap itemC)) (hl : l.length = ni) (hnm : ni ≤ 2000000) (hnc : ni ≤ ci) (hcm : ci ≤ maxLen) (hv : RdV w ai (cu64 l)) (hls : ls.length = ns) (hnn : ns ≤ 2000000) (hnd : ns ≤ sc) (hcn : sc ≤ maxLen) (hs : RdV w sa (ls.flatMap sealC)) (htg : tg.length = 16) (hlha : xha.length = nha * 32) (hnha : nha ≤ 9000) (hdha : nha ≤ cha) (hcha : cha ≤ maxLen) (hrha : RdB w [] aha xha) (hlhb : xhb.length = nhb * 32) (hnhb : nhb ≤ 9000) (hdhb : nhb ≤ chb) (hchb : chb ≤ maxLen) (hrhb : RdB w [] ahb xhb) (hbi : ni ≤ 300) (hbs : ns ≤ 300) (hA : nha ≤ 300) (hB : nhb ≤ 8192) (hR : repR (1:Int) (0:Int) th lj (blankB pv ep kd l ls bl tg) (decide (mayN pv ep kd l ls bl = 0)) nha nhb = true) (hsi : (itmsT lj).length = si)  : Calls Tryd.prog 34 #[.agg ([U64 rq, I64 1, I64 0, SL aj nj cj, .bool th, U64 pv, U64 ep, I64 (kd), SL ai ni ci, SL sa ns sc, U64 bl] ++ cu8 tg ++ [SL aha nha cha, SL ahb nhb chb]).toArray] w (Post w [] (fun v L => ∃ g sp cap, v = .tuple #[Slc g 0 ((32*nhb + si + 13)) cap, .nilIface] ∧ L = [⟨g, cu8 ((((((numK 8 rq 8 ++ numK 1 (1:UInt64) 1) ++ numK 1 (0:UInt64) 1) ++ numK 1 (UInt64.ofNat (nj - 1)) 1) ++ itmsT lj) ++ numK 2 (UInt64.ofNat nhb) 2) ++ xhb) ++ sp, 5, (0, 0)⟩] ∧ sp.length = cap - (32*nhb + si + 13) ∧ (32*nhb + si + 13) ≤ cap ∧ cap ≤ maxLen)) := by
 have hmx : maxLen = 9223372036854775807 := rfl
 have hf := repR_f hlj hR
 have hn0 := c2_len1 hlj (repR_2 hR (by decide +kernel))
 refine enter (P := Tryd.prog) (f := 34) (fn := Tryd.f34) w [] 103 [] [.agg ([U64 rq, I64 1, I64 0, SL aj nj cj, .bool th, U64 pv, U64 ep, I64 (kd), SL ai ni ci, SL sa ns sc, U64 bl] ++ cu8 tg ++ [SL aha nha cha, SL ahb nhb chb]).toArray] Tryd.func34 rfl rfl (by simp) (BW (by simp) (by simp) (by simp)) ?_
 show JC _ _ _ [(0, .agg ([U64 rq, I64 1, I64 0, SL aj nj cj, .bool th, U64 pv, U64 ep, I64 (kd), SL ai ni ci, SL sa ns sc, U64 bl] ++ cu8 tg ++ [SL aha nha cha, SL ahb nhb chb]).toArray)] _
 refine AH (AB (A4 (C5 (.agg ([U64 rq, I64 1, I64 0, SL aj nj cj, .bool th, U64 pv, U64 ep, I64 (kd), SL ai ni ci, SL sa ns sc, U64 bl] ++ cu8 tg ++ [SL aha nha cha, SL ahb nhb chb]).toArray) ([U64 rq, I64 1, I64 0, SL aj nj cj, .bool th, U64 pv, U64 ep, I64 (kd), SL ai ni ci, SL sa ns sc, U64 bl] ++ cu8 tg ++ [SL aha nha cha, SL ahb nhb chb]) rfl (by first | rfl | simp)) rfl ?_))
 rintro v1 L1 ⟨nb1, hnb1, rfl, rfl⟩
 show JL _ _ _ _ ((1, Ptr nb1 0) :: _) [⟨nb1, [U64 rq, I64 1, I64 0, SL aj nj cj, .bool th, U64 pv, U64 ep, I64 (kd), SL ai ni ci, SL sa ns sc, U64 bl] ++ cu8 tg ++ [SL aha nha cha, SL ahb nhb chb], 67, (0, 0)⟩]
 refine AA _ (AE rfl) rfl ?_
 refine AA _ (AE rfl) rfl ?_
 refine AI (AC (AH (AH (AB (AA (.agg ([U64 rq, I64 1, I64 0, SL aj nj cj, .bool th, U64 pv, U64 ep, I64 (kd), SL ai ni ci, SL sa ns sc, U64 bl] ++ cu8 tg ++ [SL aha nha cha, SL ahb nhb chb]).toArray) (AO rfl (BU CC BR (by simp [htg]) (AU 0 rfl (AQ _)))) rfl ?_)))))
 refine A7 (A2 35 [.agg ([U64 rq, I64 1, I64 0, SL aj nj cj, .bool th, U64 pv, U64 ep, I64 (kd), SL ai ni ci, SL sa ns sc, U64 bl] ++ cu8 tg ++ [SL aha nha cha, SL ahb nhb chb]).toArray] (.bool (repR (1:Int) (0:Int) th lj (blankB pv ep (kd) l ls bl tg) (decide (mayN pv ep (kd) l ls bl = 0)) nha nhb)) (AS _ Tryd.call35 rfl) (fun w1 hw1 => E5 rq (1:Int) (0:Int) aj nj cj lj th pv ep (kd) ai ni ci l sa ns sc ls bl tg aha nha cha xha ahb nhb chb xhb w1 hlj (by omega) (by omega) (by omega) (C2 hw1 rfl hj) hl (by omega) (by omega) (by omega) (C2 hw1 rfl hv) hls (by omega) (by omega) (by omega) (C2 hw1 rfl hs) htg hlha (by omega) (by omega) (by omega) (hrha.at (M' := []) hw1 (by simp)) hlhb (by omega) (by omega) (by omega) (hrhb.at (M' := []) hw1 (by simp)) (by omega) (by omega))) rfl ?_
 show JL _ _ _ _ ((14, .bool (repR (1:Int) (0:Int) th lj (blankB pv ep (kd) l ls bl tg) (decide (mayN pv ep (kd) l ls bl = 0)) nha nhb)) :: _) [_]
 refine AA (.bool (!(repR (1:Int) (0:Int) th lj (blankB pv ep (kd) l ls bl tg) (decide (mayN pv ep (kd) l ls bl = 0)) nha nhb))) (DG rfl) rfl ?_
 refine AI (AC (BP _ rfl (bnotT hR) ?_))
 refine BF (AC (AH (AB (AA (.agg ([U64 rq, I64 1, I64 0, SL aj nj cj, .bool th, U64 pv, U64 ep, I64 (kd), SL ai ni ci, SL sa ns sc, U64 bl] ++ cu8 tg ++ [SL aha nha cha, SL ahb nhb chb]).toArray) (AO rfl (BU CC BR (by simp [htg]) (AU 0 rfl (AQ _)))) rfl ?_))))
 refine A7 (A2 95 [.agg ([U64 rq, I64 1, I64 0, SL aj nj cj, .bool th, U64 pv, U64 ep, I64 (kd), SL ai ni ci, SL sa ns sc, U64 bl] ++ cu8 tg ++ [SL aha nha cha, SL ahb nhb chb]).toArray] (.tuple #[.bool (itB (0:Int) (1:Int)), .bool (chB (0:Int) (1:Int) th), .bool (aB (0:Int) (1:Int) th), .bool (bB (0:Int) (1:Int) th)]) (AS _ Tryd.call95 rfl) (fun w1 hw1 => parts_c rq (1:Int) (0:Int) aj nj cj lj th pv ep (kd) ai ni ci l sa ns sc ls bl tg aha nha cha xha ahb nhb chb xhb w1 htg)) rfl ?_
 show JL _ _ _ _ ((19, .tuple #[.bool (itB (0:Int) (1:Int)), .bool (chB (0:Int) (1:Int) th), .bool (aB (0:Int) (1:Int) th), .bool (bB (0:Int) (1:Int) th)]) :: _) [_]
 refine AA _ (AF rfl) rfl ?_
 refine AA _ (BE rfl rfl) rfl ?_
 refine AA _ (BE rfl rfl) rfl ?_
 refine AA _ (BE rfl rfl) rfl ?_
 refine AA _ (BE rfl rfl) rfl ?_
 refine AA _ (AE rfl) rfl ?_
 refine AA _ (AE rfl) rfl ?_
 refine AA _ (AE rfl) rfl ?_
 refine AA _ (AE rfl) rfl ?_
 refine AI (AC (AH (AB (AA (.agg #[.nilIface, SL none 0 0]) (CP [] _ rfl (fun _ => by kernel_rfl)) rfl ?_))))
 refine A4 (C5 (.agg #[.nilIface, SL none 0 0]) ([.nilIface, SL none 0 0]) rfl (by first | rfl | simp)) rfl ?_
 rintro v1 L1 ⟨nb2, hnb2, rfl, rfl⟩
 show JL _ _ _ _ ((25, Ptr nb2 0) :: _) [_, ⟨nb2, [.nilIface, SL none 0 0], 149, (0, 0)⟩]
 refine AA _ (AE rfl) rfl ?_
 refine AI (AC (AH (DC 103 4 [(0, Ptr nb2 0), (1, Ptr nb1 0), (2, U64 rq), (4, Ptr nb1 1), (5, I64 1), (6, U64 1), (8, Ptr nb1 2), (9, I64 0), (10, U64 0)] CA rfl (by decide +kernel) ?_)))
 refine CW ⟨[], [0, 1, 2, 4, 5, 6, 8, 9, 10], [], [0, 1, 2, 4, 5, 6, 8, 9, 10], [3]⟩ 3 _ rfl rfl (by decide +kernel) rfl ⟨CG rfl rfl rfl, ⟨_, rfl, AL rfl (AD 0 22 1 AM rfl A9 rfl rfl)⟩, ⟨_, rfl, AL rfl (AO rfl (A0 BN (AU 0 rfl (AJ (AJ (Seg.head))))))⟩, ⟨_, rfl, AL rfl (AD 1 3 1 AM rfl AT rfl rfl)⟩, ⟨_, rfl, AL rfl (AO rfl (A0 AY (AU 0 rfl (AJ (AJ (AK (Seg.head)))))))⟩, ⟨_, rfl, AL rfl (CM _ _ rfl fun _ => DK (by rw [A6]; rfl) AW rfl)⟩, ⟨_, rfl, AL rfl (AD 2 3 1 AM rfl AT rfl rfl)⟩, ⟨_, rfl, AL rfl (AO rfl (A0 AY (AU 0 rfl (AJ (AJ (AK (AK (Seg.head))))))))⟩, ⟨_, rfl, AL rfl (CM _ _ rfl fun _ => DK (by rw [A6]; rfl) AW rfl)⟩, trivial⟩ rfl (BO rfl (A8 81 _ [false, true] [nb2] _ (AS [Ptr nb2 0, U64 rq, I64 8] B0 rfl) rfl (fun w1 hw1 => numN_c nb2 8 .nilIface rq 8 w1 (hw1.ent _ (List.mem_of_getElem? (i := 1) rfl)) (by unfold Szd; omega) (fun h => absurd h (by omega)) (by omega)))) ?_
 rintro v1 L1 ⟨_, ⟨rfl, nb3, sp1, cp1, rfl, hc1, hc2, hc3⟩, rfl⟩
 refine ⟨[], ?_⟩
 show DP _ _ _ _ _ _ _ _ [_, ⟨nb2, [.nilIface, Slc nb3 0 8 cp1], 149, (0, 0)⟩, ⟨nb3, cu8 (numK 8 rq 8) ++ sp1, 5, (0, 0)⟩]
 refine CW ⟨[3], [0, 1, 2, 4, 5, 6, 8, 9, 10], [0, 1, 2], [4, 5, 6, 8, 9, 10], [7]⟩ 7 _ rfl rfl (by decide +kernel) rfl ⟨⟨_, rfl, AL rfl (AD 1 3 1 AM rfl AT rfl rfl)⟩, ⟨_, rfl, AL rfl (AO rfl (A0 AY (AU 0 rfl (AJ (AJ (AK (Seg.head)))))))⟩, ⟨_, rfl, AL rfl (CM _ _ rfl fun _ => DK (by rw [A6]; rfl) AW rfl)⟩, ⟨_, rfl, AL rfl (AD 2 3 1 AM rfl AT rfl rfl)⟩, ⟨_, rfl, AL rfl (AO rfl (A0 AY (AU 0 rfl (AJ (AJ (AK (AK (Seg.head))))))))⟩, ⟨_, rfl, AL rfl (CM _ _ rfl fun _ => DK (by rw [A6]; rfl) AW rfl)⟩, trivial⟩ rfl (BO rfl (A8 81 _ [false, true, true] [nb2, nb3] _ (AS [Ptr nb2 0, U64 1, I64 1] B0 rfl) rfl (fun w1 hw1 => EO nb2 nb3 8 cp1 9 .nilIface (numK 8 rq 8) sp1 (1:UInt64) 1 w1 (hw1.ent _ (List.mem_of_getElem? (i := 1) rfl)) (hw1.ent _ (List.mem_of_getElem? (i := 2) rfl)) (hw1.ne (i := 1) (j := 2) rfl rfl (by decide)) (show (numK 8 rq 8).length = 8 from (A5 _ _ _)) hc1 hc2 hc3 (by omega) (by unfold Szd; omega) (fun _ => by decide) (by omega)))) ?_
 rintro v1 L1 ⟨_, ⟨rfl, nb4, sp2, cp2, rfl, hc4, hc5, hc6⟩, rfl⟩
 refine ⟨[], ?_⟩
 show DP _ _ _ _ _ _ _ _ [_, ⟨nb2, [.nilIface, Slc nb4 0 9 cp2], 149, (0, 0)⟩, ⟨nb4, cu8 ((numK 8 rq 8) ++ numK 1 (1:UInt64) 1) ++ sp2, 5, (0, 0)⟩]
 refine CW ⟨[3, 7], [0, 1, 2, 4, 5, 6, 8, 9, 10], [0, 1, 2, 4, 5, 6], [8, 9, 10], [11]⟩ 11 _ rfl rfl (by decide +kernel) rfl ⟨⟨_, rfl, AL rfl (AD 2 3 1 AM rfl AT rfl rfl)⟩, ⟨_, rfl, AL rfl (AO rfl (A0 AY (AU 0 rfl (AJ (AJ (AK (AK (Seg.head))))))))⟩, ⟨_, rfl, AL rfl (CM _ _ rfl fun _ => DK (by rw [A6]; rfl) AW rfl)⟩, trivial⟩ rfl (BO rfl (A8 81 _ [false, true, true] [nb2, nb4] _ (AS [Ptr nb2 0, U64 0, I64 1] B0 rfl) rfl (fun w1 hw1 => EO nb2 nb4 9 cp2 10 .nilIface ((numK 8 rq 8) ++ numK 1 (1:UInt64) 1) sp2 (0:UInt64) 1 w1 (hw1.ent _ (List.mem_of_getElem? (i := 1) rfl)) (hw1.ent _ (List.mem_of_getElem? (i := 2) rfl)) (hw1.ne (i := 1) (j := 2) rfl rfl (by decide)) (show ((numK 8 rq 8) ++ numK 1 (1:UInt64) 1).length = 9 from (by rw [List.length_append, (show (numK 8 rq 8).length = 8 from (A5 _ _ _)), A5] <;> omega)) hc4 hc5 hc6 (by omega) (by unfold Szd; omega) (fun _ => by decide) (by omega)))) ?_
 rintro v1 L1 ⟨_, ⟨rfl, nb5, sp3, cp3, rfl, hc7, hc8, hc9⟩, rfl⟩
 refine ⟨[], ?_⟩
 show DP _ _ _ _ _ _ _ _ [_, ⟨nb2, [.nilIface, Slc nb5 0 10 cp3], 149, (0, 0)⟩, ⟨nb5, cu8 (((numK 8 rq 8) ++ numK 1 (1:UInt64) 1) ++ numK 1 (0:UInt64) 1) ++ sp3, 5, (0, 0)⟩]
 refine DU ⟨[3, 7, 11], [0, 1, 2, 4, 5, 6, 8, 9, 10], [0, 1, 2, 4, 5, 6, 8, 9, 10], [], []⟩ rfl rfl (by decide +kernel) rfl trivial ?_
 refine C6 (F' := [(1, Ptr nb1 0), (2, SL none 0 0), (3, .nilIface), (4, .bool (itB (0:Int) (1:Int))), (5, .bool (chB (0:Int) (1:Int) th)), (6, .bool (aB (0:Int) (1:Int) th)), (7, .bool (bB (0:Int) (1:Int) th)), (8, Ptr nb2 0)]) (by kernel_rfl) ?_
 refine AC (AH (AH (AB (AA _ (AF rfl) rfl ?_))))
 refine AI (AC (B3 _ rfl (by decide +kernel) ?_))
 refine AB (AA _ (AF rfl) rfl ?_)
 refine AA (Ptr nb1 3) (AD 3 64 1 AM rfl CX rfl rfl) rfl ?_
 refine AA (SL aj nj cj) (AO rfl (A0 D1 (AU 0 rfl (AJ (AJ (AK (AK (AK (Seg.head))))))))) rfl ?_
 refine AA (I64 nj) (DY CE rfl) rfl ?_
 refine AA (I64 ((nj:Int) - 1)) (AR rfl rfl fun _ => EG _ _ ((nj:Int) - 1) (by omega) (by omega)) rfl ?_
 refine AA (U64 (UInt64.ofNat (nj - 1))) (CM _ _ rfl fun _ => DW (by rw [A6]; rfl) AW (nj - 1) _ (by omega)) rfl ?_
 refine A4 (A8 81 _ [false, true, true] [nb2, nb5] _ (AS [Ptr nb2 0, U64 (UInt64.ofNat (nj - 1)), I64 1] B0 rfl) rfl (fun w1 hw1 => EO nb2 nb5 10 cp3 11 .nilIface (((numK 8 rq 8) ++ numK 1 (1:UInt64) 1) ++ numK 1 (0:UInt64) 1) sp3 (UInt64.ofNat (nj - 1)) 1 w1 (hw1.ent _ (List.mem_of_getElem? (i := 1) rfl)) (hw1.ent _ (List.mem_of_getElem? (i := 2) rfl)) (hw1.ne (i := 1) (j := 2) rfl rfl (by decide)) (show (((numK 8 rq 8) ++ numK 1 (1:UInt64) 1) ++ numK 1 (0:UInt64) 1).length = 10 from (by rw [List.length_append, (show ((numK 8 rq 8) ++ numK 1 (1:UInt64) 1).length = 9 from (by rw [List.length_append, (show (numK 8 rq 8).length = 8 from (A5 _ _ _)), A5] <;> omega)), A5] <;> omega)) hc7 hc8 hc9 (by omega) (by unfold Szd; omega) (fun _ => shr8n (by omega)) (by omega))) rfl ?_
 rintro v1 L1 ⟨_, ⟨rfl, nb6, sp4, cp4, rfl, hc10, hc11, hc12⟩, rfl⟩
 show JL _ _ _ _ ((45, Ptr nb2 0) :: _) [_, ⟨nb2, [.nilIface, Slc nb6 0 11 cp4], 149, (0, 0)⟩, ⟨nb6, cu8 ((((numK 8 rq 8) ++ numK 1 (1:UInt64) 1) ++ numK 1 (0:UInt64) 1) ++ numK 1 (UInt64.ofNat (nj - 1)) 1) ++ sp4, 5, (0, 0)⟩]
 refine AI (AC (AH (AH (AB (AA (Ptr nb1 3) (AD 3 64 1 AM rfl CX rfl rfl) rfl ?_)))))
 refine AA (SL aj nj cj) (AO rfl (A0 D1 (AU 0 rfl (AJ (AJ (AK (AK (AK (Seg.head))))))))) rfl ?_
 refine AA (I64 nj) (DY CE rfl) rfl ?_
 refine AA _ (AF rfl) rfl ?_
 refine AI (AC (B5 (EM (ι := Nat × Nat × List UInt8 × Nat × List Value × Nat) (fun ⟨i, q, oqi, gqi, spqi, cpqi⟩ => [(1, Ptr nb1 0), (2, SL none 0 0), (3, .nilIface), (5, .bool (chB (0:Int) (1:Int) th)), (6, .bool (aB (0:Int) (1:Int) th)), (7, .bool (bB (0:Int) (1:Int) th)), (8, Ptr nb2 0), (47, SL aj nj cj), (48, I64 nj), (49, I64 i)]) (fun ⟨i, q, oqi, gqi, spqi, cpqi⟩ => [⟨nb1, [U64 rq, I64 1, I64 0, SL aj nj cj, .bool th, U64 pv, U64 ep, I64 (kd), SL ai ni ci, SL sa ns sc, U64 bl] ++ cu8 tg ++ [SL aha nha cha, SL ahb nhb chb], 67, (0, 0)⟩, ⟨nb2, [.nilIface, Slc gqi 0 q cpqi], 149, (0, 0)⟩, ⟨gqi, cu8 oqi ++ spqi, 5, (0, 0)⟩]) (fun ⟨i, q, oqi, gqi, spqi, cpqi⟩ => i ≤ nj ∧ oqi = (((numK 8 rq 8 ++ numK 1 (1:UInt64) 1) ++ numK 1 (0:UInt64) 1) ++ numK 1 (UInt64.ofNat (nj - 1)) 1) ++ itmsT (lj.take i) ∧ oqi.length = q ∧ spqi.length = cpqi - q ∧ q ≤ cpqi ∧ cpqi ≤ maxLen ∧ q ≤ 57*i + 11) (fun ⟨i, q, oqi, gqi, spqi, cpqi⟩ => nj - i) (0, 11, (((numK 8 rq 8) ++ numK 1 (1:UInt64) 1) ++ numK 1 (0:UInt64) 1) ++ numK 1 (UInt64.ofNat (nj - 1)) 1, nb6, sp4, cp4) ⟨by omega, by rw [List.take_zero, itmsT_nil, List.append_nil], (by have h := (show ((((numK 8 rq 8) ++ numK 1 (1:UInt64) 1) ++ numK 1 (0:UInt64) 1) ++ numK 1 (UInt64.ofNat (nj - 1)) 1).length = 11 from (by rw [List.length_append, (show (((numK 8 rq 8) ++ numK 1 (1:UInt64) 1) ++ numK 1 (0:UInt64) 1).length = 10 from (by rw [List.length_append, (show ((numK 8 rq 8) ++ numK 1 (1:UInt64) 1).length = 9 from (by rw [List.length_append, (show (numK 8 rq 8).length = 8 from (A5 _ _ _)), A5] <;> omega)), A5] <;> omega)), A5] <;> omega)); omega), (by have h := hc10; omega), by omega, by omega, by omega⟩ (Sub.all rfl) (by first | rfl | (simp; done)) ?_)))
 rintro ⟨i, q, oqi, gqi, spqi, cpqi⟩ ⟨hi1, hi2, hi3, hi4, hi5, hi6, hi7⟩
 show JC _ _ _ [(1, Ptr nb1 0), (2, SL none 0 0), (3, .nilIface), (5, .bool (chB (0:Int) (1:Int) th)), (6, .bool (aB (0:Int) (1:Int) th)), (7, .bool (bB (0:Int) (1:Int) th)), (8, Ptr nb2 0), (47, SL aj nj cj), (48, I64 nj), (49, I64 i)] [⟨nb1, [U64 rq, I64 1, I64 0, SL aj nj cj, .bool th, U64 pv, U64 ep, I64 (kd), SL ai ni ci, SL sa ns sc, U64 bl] ++ cu8 tg ++ [SL aha nha cha, SL ahb nhb chb], 67, (0, 0)⟩, ⟨nb2, [.nilIface, Slc gqi 0 q cpqi], 149, (0, 0)⟩, ⟨gqi, cu8 oqi ++ spqi, 5, (0, 0)⟩]
 refine AH (AB (AA (.bool (decide (((i:Int)) < ((nj:Int))))) (AR rfl rfl fun _ => CH _ _) rfl ?_))
 refine AI (AC (AH (B9 (decide (((i:Int)) < ((nj:Int)))) rfl (fun hb1 => ?_) (fun hb1 => ?_))))
 ·
  have hp1 : ((i:Int)) < ((nj:Int)) := of_decide_eq_true hb1
  refine BF (AC (AH (B5 (AH (AB ?_)))))
  obtain ⟨x1, hx1⟩ : ∃ x, lj[i]? = some x := ⟨_, List.getElem?_eq_getElem (by rw [hlj]; omega)⟩
  obtain ⟨bz1, oz1, hz1, hm1⟩ := rows_at itemC_len (by decide) hj hx1
  rw [itemC_eq] at hm1
  refine AA (Ptr bz1 (50*i + oz1)) (EA 163 50 (50*i + oz1) CE DH rfl hz1 rfl (by omega) (by omega) (by omega)) rfl ?_
  refine AA (.agg (List.toArray (α := Value) ([.bool x1.b, U64 x1.s.e] ++ cu8 x1.s.d ++ cu8 x1.s.t))) (AO rfl (BU Tryd.isAgg163 DH (by simp [x1.s.hd, x1.s.ht]) (DB (hm1.mem (by simp)) (AQ _) (by first | omega | (simp; done) | (simp; omega))))) rfl ?_
  refine A4 (C0 _ ([.bool false, U64 0] ++ cu8 (zr8 32) ++ cu8 (zr8 16)) Tryd.zeroValue163 (by kernel_rfl)) rfl ?_
  rintro v1 L1 ⟨nb7, hnb7, rfl, rfl⟩
  show JL _ _ _ _ ((10, Ptr nb7 0) :: _) [_, _, _, ⟨nb7, [.bool false, U64 0] ++ cu8 (zr8 32) ++ cu8 (zr8 16), 163, (0, 0)⟩]
  refine A7 (BQ 3 nb7 50 ([.bool false, U64 0] ++ cu8 (zr8 32) ++ cu8 (zr8 16)) 163 ([.bool x1.b, U64 x1.s.e] ++ cu8 x1.s.d ++ cu8 x1.s.t) rfl rfl rfl DH (by simp [x1.s.hd, x1.s.ht]) (BY (BY (by simp [Value.oneCell']) CT) CT) (by simp [(AN 32), (AN 16)]) (BT (by simp [(AN 32), (AN 16), x1.s.hd, x1.s.ht]))) rfl ?_
  show JL _ _ _ _ _ [_, _, _, ⟨nb7, [.bool x1.b, U64 x1.s.e] ++ cu8 x1.s.d ++ cu8 x1.s.t, 163, (0, 0)⟩]
  refine AI (AC (AH (AB (AA _ (AF rfl) rfl ?_))))
  refine AA (Ptr nb7 0) (AD 0 4 1 DO rfl Tryd.sizeOf4 rfl rfl) rfl ?_
  refine AA (.bool x1.b) (AO rfl (A0 Tryd.isAgg4 (AU 3 rfl (AJ (AJ (Seg.head)))))) rfl ?_
  refine A4 (A8 96 _ [false, true, true, false] [nb2, gqi] _ (AS [Ptr nb2 0, .bool x1.b] Tryd.call96 rfl) rfl (fun w1 hw1 => flagO_c nb2 gqi q cpqi (q + 1) .nilIface oqi spqi x1.b w1 (hw1.ent _ (List.mem_of_getElem? (i := 1) rfl)) (hw1.ent _ (List.mem_of_getElem? (i := 2) rfl)) (hw1.ne (i := 1) (j := 2) rfl rfl (by decide)) hi3 hi4 hi5 hi6 (by omega) (by omega))) rfl ?_
  rintro v1 L1 ⟨_, ⟨rfl, nb8, sp5, cp5, rfl, hc13, hc14, hc15⟩, rfl⟩
  show JL _ _ _ _ ((56, Ptr nb2 0) :: _) [_, _, ⟨nb2, [.nilIface, Slc nb8 0 (q + 1) cp5], 149, (0, 0)⟩, ⟨nb8, cu8 (oqi ++ numK 1 (bitU x1.b) 1) ++ sp5, 5, (0, 0)⟩]
  refine AI (AC (AH (AB (AA (Ptr nb7 0) (AD 0 4 1 DO rfl Tryd.sizeOf4 rfl rfl) rfl ?_))))
  refine AA (.bool x1.b) (AO rfl (A0 Tryd.isAgg4 (AU 1 rfl (AJ (AJ (Seg.head)))))) rfl ?_
  refine AI (AC (B9 (x1.b) rfl (fun hb2 => ?_) (fun hb2 => ?_)))
  ·
   refine AB (AA _ (AF rfl) rfl ?_)
   refine AA (Ptr nb7 1) (AD 1 161 49 DO rfl B1 rfl rfl) rfl ?_
   refine AA (.agg ([U64 x1.s.e] ++ cu8 x1.s.d ++ cu8 x1.s.t).toArray) (AO rfl (BU D5 B1 (by simp [x1.s.hd, x1.s.ht]) (AU 1 rfl (D6 (p := [.bool x1.b]) (q := []) (vs := [U64 x1.s.e] ++ cu8 x1.s.d ++ cu8 x1.s.t) (by first | rfl | (simp only [List.append_assoc, List.nil_append, List.append_nil, List.cons_append]; done)) rfl)))) rfl ?_
   refine A4 (CZ 97 [.agg ([U64 x1.s.e] ++ cu8 x1.s.d ++ cu8 x1.s.t).toArray] _ (AS _ Tryd.call97 rfl) (fun w1 hw1 => put7_c x1.s.e x1.s.d x1.s.t w1 x1.s.hd x1.s.ht)) rfl ?_
   rintro v1 L1 ⟨_, ⟨nb9, sp6, cp6, rfl, rfl, hc16, hc17, hc18⟩, rfl⟩
   show JL _ _ _ _ ((62, Slc nb9 0 56 cp6) :: _) [_, _, _, _, ⟨nb9, cu8 (putL x1.s.e x1.s.d x1.s.t) ++ sp6, 5, (0, 0)⟩]
   refine A4 (A8 82 _ [false, false, true, true, false] [nb2, nb8] _ (AS [Ptr nb2 0, Slc nb9 0 56 cp6] Tryd.call82 rfl) rfl (fun w1 hw1 => rawO_c nb2 nb8 (q + 1) cp5 (q + 57) .nilIface (oqi ++ numK 1 (bitU x1.b) 1) sp5 (some ⟨nb9, 0, none⟩) 56 cp6 (putL x1.s.e x1.s.d x1.s.t) w1 (hw1.ent _ (List.mem_of_getElem? (i := 2) rfl)) (hw1.ent _ (List.mem_of_getElem? (i := 3) rfl)) (hw1.ne (i := 2) (j := 3) rfl rfl (by decide)) (show (oqi ++ numK 1 (bitU x1.b) 1).length = (q + 1) from (by rw [List.length_append, hi3, A5] <;> omega)) hc13 hc14 hc15 (by omega) (show (putL x1.s.e x1.s.d x1.s.t).length = 56 from (putL_len x1.s.hd x1.s.ht)) (by omega) (RdB.of hw1 (AU 4 rfl (AJ (AQ _))) (by intro _; simp only [List.mem_cons, List.not_mem_nil, or_false, not_or]; exact ⟨hw1.ne (i := 4) (j := 2) rfl rfl (by decide), hw1.ne (i := 4) (j := 3) rfl rfl (by decide)⟩)) (by omega))) rfl ?_
   rintro v1 L1 ⟨_, ⟨rfl, nb10, sp7, cp7, rfl, hc19, hc20, hc21⟩, rfl⟩
   show JL _ _ _ _ ((63, Ptr nb2 0) :: _) [_, _, _, ⟨nb2, [.nilIface, Slc nb10 0 (q + 57) cp7], 149, (0, 0)⟩, ⟨nb10, cu8 ((oqi ++ numK 1 (bitU x1.b) 1) ++ (putL x1.s.e x1.s.d x1.s.t)) ++ sp7, 5, (0, 0)⟩]
   refine AI (BS (AC (AB (AA (I64 ((i:Int) + 1)) (AR rfl rfl fun _ => DQ _ _ ((i:Int) + 1) (by omega) (by omega)) rfl ?_))))
   refine AA _ (AF rfl) rfl ?_
   refine AI (D0 (B4 [true, false, false, true, true] ?_))
   show K _ _ [_, _, _] _
   refine EV (i + 1, (q + 57), (oqi ++ numK 1 (bitU x1.b) 1) ++ (putL x1.s.e x1.s.d x1.s.t), nb10, sp7, cp7) ⟨by omega, by rw [hi2, List.append_assoc, List.append_assoc, ← itm_t hb2, itms_step hx1], (by have h := (show ((oqi ++ numK 1 (bitU x1.b) 1) ++ (putL x1.s.e x1.s.d x1.s.t)).length = (q + 57) from (by rw [List.length_append, (show (oqi ++ numK 1 (bitU x1.b) 1).length = (q + 1) from (by rw [List.length_append, hi3, A5] <;> omega)), (show (putL x1.s.e x1.s.d x1.s.t).length = 56 from (putL_len x1.s.hd x1.s.ht))] <;> omega)); omega), (by have h := hc19; omega), by omega, by omega, by omega⟩ (by first | (simp; omega) | simp | (dsimp only; omega) | omega) (Sub.all rfl) rfl
  ·
   refine BF (BS (AC (AB (AA (I64 ((i:Int) + 1)) (AR rfl rfl fun _ => DQ _ _ ((i:Int) + 1) (by omega) (by omega)) rfl ?_))))
   refine AA _ (AF rfl) rfl ?_
   refine AI (D0 (B4 [true, false, true, true] ?_))
   show K _ _ [_, _, _] _
   refine EV (i + 1, (q + 1), oqi ++ numK 1 (bitU x1.b) 1, nb8, sp5, cp5) ⟨by omega, by rw [hi2, List.append_assoc, ← itm_f hb2, itms_step hx1], (by have h := (show (oqi ++ numK 1 (bitU x1.b) 1).length = (q + 1) from (by rw [List.length_append, hi3, A5] <;> omega)); omega), (by have h := hc13; omega), by omega, by omega, by omega⟩ (by first | (simp; omega) | simp | (dsimp only; omega) | omega) (Sub.all rfl) rfl
 ·
  have hp1 : ¬ (((i:Int)) < ((nj:Int))) := of_decide_eq_false hb1
  refine ED (BJ (BJ (C1 (AC (AH (AH ?_))))))
  have ei : nj = i := by omega
  subst ei
  rw [List.take_of_length_le (by omega)] at hi2
  have eq : q = si + 11 := by rw [← hi3, hi2]; simp [A5, hsi]; omega
  subst eq
  subst hi2
  show JC _ _ _ _ [⟨nb1, [U64 rq, I64 1, I64 0, SL aj nj cj, .bool th, U64 pv, U64 ep, I64 (kd), SL ai ni ci, SL sa ns sc, U64 bl] ++ cu8 tg ++ [SL aha nha cha, SL ahb nhb chb], 67, (0, 0)⟩, ⟨nb2, [.nilIface, Slc gqi 0 (si + 11) cpqi], 149, (0, 0)⟩, ⟨gqi, cu8 ((((numK 8 rq 8 ++ numK 1 (1:UInt64) 1) ++ numK 1 (0:UInt64) 1) ++ numK 1 (UInt64.ofNat (nj - 1)) 1) ++ itmsT lj) ++ spqi, 5, (0, 0)⟩]
  refine AB (AA (Ptr nb1 2) (AD 2 3 1 AM rfl AT rfl rfl) rfl ?_)
  refine AA (I64 0) (AO rfl (A0 AY (AU 0 rfl (AJ (AJ (AK (AK (Seg.head)))))))) rfl ?_
  refine AA (.bool (decide ((0:Int) = (0:Int)))) (AR rfl rfl fun _ => BK _ _) rfl ?_
  refine AA _ (AF rfl) rfl ?_
  refine AP 3 68 true _ (Ptr nb1 1) rfl rfl (by decide) (AD 1 3 1 AM rfl AT rfl rfl) rfl ?_
  refine AP 3 68 true _ (I64 1) rfl rfl (by decide) (AO rfl (A0 AY (AU 0 rfl (AJ (AJ (AK (Seg.head))))))) rfl ?_
  refine AP 3 68 true _ (.bool (decide ((1:Int) = (4:Int)))) rfl rfl (by decide) (AR rfl rfl fun _ => BK _ _) rfl ?_
  refine AA _ (BD _ rfl (by decide) rfl) rfl ?_
  refine AI (AC (BP _ rfl (by decide) ?_))
  refine BF (AC (AH (AH (AB (AA _ (AF rfl) rfl ?_)))))
  refine AI (AC (BP _ rfl ((by decide +kernel : ∀ t : Bool, (chB (0:Int) (1:Int) t) = false) th) ?_))
  refine BF (AC (AH (AH (AB (AA _ (AF rfl) rfl ?_)))))
  refine AI (AC (BP _ rfl ((by decide +kernel : ∀ t : Bool, (aB (0:Int) (1:Int) t) = false) th) ?_))
  refine BF (AC (AH (AH (AB (AA _ (AF rfl) rfl ?_)))))
  refine AI (AC (B3 _ rfl ((by decide +kernel : ∀ t : Bool, (bB (0:Int) (1:Int) t) = true) th) ?_))
  refine AB (AA _ (AF rfl) rfl ?_)
  refine AA (Ptr nb1 28) (AD 28 65 1 AM rfl CU rfl rfl) rfl ?_
  refine AA (SL ahb nhb chb) (AO rfl (A0 Tryd.isAgg65 (AU 0 rfl (Seg.right 27 1 (by simp [htg]) rfl (AK (Seg.head)))))) rfl ?_
  refine A4 (A8 98 _ [false, true, true] [nb2, gqi] _ (AS [Ptr nb2 0, SL ahb nhb chb] Tryd.call98 rfl) rfl (fun w1 hw1 => hashesO_c nb2 gqi (si + 11) cpqi (32*nhb + si + 13) .nilIface ((((numK 8 rq 8 ++ numK 1 (1:UInt64) 1) ++ numK 1 (0:UInt64) 1) ++ numK 1 (UInt64.ofNat (nj - 1)) 1) ++ itmsT lj) spqi ahb nhb chb xhb w1 (hw1.ent _ (List.mem_of_getElem? (i := 1) rfl)) (hw1.ent _ (List.mem_of_getElem? (i := 2) rfl)) (hw1.ne (i := 1) (j := 2) rfl rfl (by decide)) hi3 hi4 hi5 hi6 (by omega) hlhb (by omega) (by omega) (by omega) (hrhb.at (M' := [nb2, gqi]) hw1 (hw1.apart [1, 2] _ rfl)) (by omega) (by omega))) rfl ?_
  rintro v1 L1 ⟨_, ⟨rfl, nb11, sp8, cp8, rfl, hc22, hc23, hc24⟩, rfl⟩
  show JL _ _ _ _ ((98, .tuple #[]) :: _) [_, ⟨nb2, [.nilIface, Slc nb11 0 (32*nhb + si + 13) cp8], 149, (0, 0)⟩, ⟨nb11, cu8 ((((((numK 8 rq 8 ++ numK 1 (1:UInt64) 1) ++ numK 1 (0:UInt64) 1) ++ numK 1 (UInt64.ofNat (nj - 1)) 1) ++ itmsT lj) ++ numK 2 (UInt64.ofNat nhb) 2) ++ xhb) ++ sp8, 5, (0, 0)⟩]
  refine AI (AC (AH (AB (AA _ (AF rfl) rfl ?_))))
  refine A4 (CZ 83 [Ptr nb2 0] _ (AS _ EQ rfl) (fun w1 hw1 => FJ nb2 0 nb11 (32*nhb + si + 13) cp8 ((((((numK 8 rq 8 ++ numK 1 (1:UInt64) 1) ++ numK 1 (0:UInt64) 1) ++ numK 1 (UInt64.ofNat (nj - 1)) 1) ++ itmsT lj) ++ numK 2 (UInt64.ofNat nhb) 2) ++ xhb) w1 (RdA.of hw1 (AU 1 rfl (AQ _)) (by simp)) rfl (show ((((((numK 8 rq 8 ++ numK 1 (1:UInt64) 1) ++ numK 1 (0:UInt64) 1) ++ numK 1 (UInt64.ofNat (nj - 1)) 1) ++ itmsT lj) ++ numK 2 (UInt64.ofNat nhb) 2) ++ xhb).length = (32*nhb + si + 13) from (by rw [List.length_append, List.length_append, A5, hi3, hlhb] <;> omega)) (by omega) (RdB.of hw1 (AU 2 rfl (AJ (AQ _))) (by simp)))) rfl ?_
  rintro v1 L1 ⟨_, ⟨nb12, sp9, cp9, rfl, rfl, hc25, hc26, hc27⟩, rfl⟩
  show JL _ _ _ _ ((100, .tuple #[Slc nb12 0 (32*nhb + si + 13) cp9, .nilIface]) :: _) [_, _, _, ⟨nb12, cu8 ((((((numK 8 rq 8 ++ numK 1 (1:UInt64) 1) ++ numK 1 (0:UInt64) 1) ++ numK 1 (UInt64.ofNat (nj - 1)) 1) ++ itmsT lj) ++ numK 2 (UInt64.ofNat nhb) 2) ++ xhb) ++ sp9, 5, (0, 0)⟩]
  refine AA _ (BE rfl rfl) rfl ?_
  refine AA _ (BE rfl rfl) rfl ?_
  refine AA _ (AE rfl) rfl ?_
  refine AA _ (AE rfl) rfl ?_
  refine AI (AC (BI (B4 [false, false, false, true] ?_)))
  show JQ _ _ _ _ [_]
  refine BH (.tuple #[Slc nb12 0 (32*nhb + si + 13) cp9, .nilIface]) (res2 Tryd.results34 (BC rfl) (BC rfl)) fun w1 hw1 => ?_
  skip
  exact ⟨_, _, rfl, ⟨nb12, sp9, cp9, rfl, rfl, hc25, hc26, hc27⟩, hw1.sub (by simp) (by simp)⟩
set_option maxHeartbeats 2000000 in
theorem putRep2_c (rq : UInt64) (aj : Option Addr) (nj cj : Nat) (lj : List ItemR) (th : Bool) (pv ep : UInt64) (kd : Int) (ai : Option Addr) (ni ci : Nat) (l : List UInt64) (sa : Option Addr) (ns sc : Nat) (ls : List SealR) (bl : UInt64) (tg : List UInt8) (aha : Option Addr) (nha cha : Nat) (xha : List UInt8) (ahb : Option Addr) (nhb chb : Nat) (xhb : List UInt8) (si : Nat)  (w : World) (hlj : lj.length = nj) (hnj : nj ≤ 2000000) (hdj : nj ≤ cj) (hcj : cj ≤ maxLen) (hj : RdV w aj (lj.flatMap itemC)) (hl : l.length = ni) (hnm : ni ≤ 2000000) (hnc : ni ≤ ci) (hcm : ci ≤ maxLen) (hv : RdV w ai (cu64 l)) (hls : ls.length = ns) (hnn : ns ≤ 2000000) (hnd : ns ≤ sc) (hcn : sc ≤ maxLen) (hs : RdV w sa (ls.flatMap sealC)) (htg : tg.length = 16) (hlha : xha.length = nha * 32) (hnha : nha ≤ 9000) (hdha : nha ≤ cha) (hcha : cha ≤ maxLen) (hrha : RdB w [] aha xha) (hlhb : xhb.length = nhb * 32) (hnhb : nhb ≤ 9000) (hdhb : nhb ≤ chb) (hchb : chb ≤ maxLen) (hrhb : RdB w [] ahb xhb) (hbi : ni ≤ 300) (hbs : ns ≤ 300) (hA : nha ≤ 300) (hB : nhb ≤ 8192) (hR : repR (2:Int) (0:Int) th lj (blankB pv ep kd l ls bl tg) (decide (mayN pv ep kd l ls bl = 0)) nha nhb = true) (hsi : (itmsT lj).length = si)  : Calls Tryd.prog 34 #[.agg ([U64 rq, I64 2, I64 0, SL aj nj cj, .bool th, U64 pv, U64 ep, I64 (kd), SL ai ni ci, SL sa ns sc, U64 bl] ++ cu8 tg ++ [SL aha nha cha, SL ahb nhb chb]).toArray] w (Post w [] (fun v L => ∃ g sp cap, v = .tuple #[Slc g 0 ((32*nha + 32*nhb + si + 15)) cap, .nilIface] ∧ L = [⟨g, cu8 ((((((((numK 8 rq 8 ++ numK 1 (2:UInt64) 1) ++ numK 1 (0:UInt64) 1) ++ numK 1 (UInt64.ofNat (nj - 1)) 1) ++ itmsT lj) ++ numK 2 (UInt64.ofNat nha) 2) ++ xha) ++ numK 2 (UInt64.ofNat nhb) 2) ++ xhb) ++ sp, 5, (0, 0)⟩] ∧ sp.length = cap - (32*nha + 32*nhb + si + 15) ∧ (32*nha + 32*nhb + si + 15) ≤ cap ∧ cap ≤ maxLen)) := by
 have hmx : maxLen = 9223372036854775807 := rfl
 have hf := repR_f hlj hR
 have hn0 := c2_len1 hlj (repR_2 hR (by decide +kernel))
 refine enter (P := Tryd.prog) (f := 34) (fn := Tryd.f34) w [] 103 [] [.agg ([U64 rq, I64 2, I64 0, SL aj nj cj, .bool th, U64 pv, U64 ep, I64 (kd), SL ai ni ci, SL sa ns sc, U64 bl] ++ cu8 tg ++ [SL aha nha cha, SL ahb nhb chb]).toArray] Tryd.func34 rfl rfl (by simp) (BW (by simp) (by simp) (by simp)) ?_
 show JC _ _ _ [(0, .agg ([U64 rq, I64 2, I64 0, SL aj nj cj, .bool th, U64 pv, U64 ep, I64 (kd), SL ai ni ci, SL sa ns sc, U64 bl] ++ cu8 tg ++ [SL aha nha cha, SL ahb nhb chb]).toArray)] _
 refine AH (AB (A4 (C5 (.agg ([U64 rq, I64 2, I64 0, SL aj nj cj, .bool th, U64 pv, U64 ep, I64 (kd), SL ai ni ci, SL sa ns sc, U64 bl] ++ cu8 tg ++ [SL aha nha cha, SL ahb nhb chb]).toArray) ([U64 rq, I64 2, I64 0, SL aj nj cj, .bool th, U64 pv, U64 ep, I64 (kd), SL ai ni ci, SL sa ns sc, U64 bl] ++ cu8 tg ++ [SL aha nha cha, SL ahb nhb chb]) rfl (by first | rfl | simp)) rfl ?_))
 rintro v1 L1 ⟨nb1, hnb1, rfl, rfl⟩
 show JL _ _ _ _ ((1, Ptr nb1 0) :: _) [⟨nb1, [U64 rq, I64 2, I64 0, SL aj nj cj, .bool th, U64 pv, U64 ep, I64 (kd), SL ai ni ci, SL sa ns sc, U64 bl] ++ cu8 tg ++ [SL aha nha cha, SL ahb nhb chb], 67, (0, 0)⟩]
 refine AA _ (AE rfl) rfl ?_
 refine AA _ (AE rfl) rfl ?_
 refine AI (AC (AH (AH (AB (AA (.agg ([U64 rq, I64 2, I64 0, SL aj nj cj, .bool th, U64 pv, U64 ep, I64 (kd), SL ai ni ci, SL sa ns sc, U64 bl] ++ cu8 tg ++ [SL aha nha cha, SL ahb nhb chb]).toArray) (AO rfl (BU CC BR (by simp [htg]) (AU 0 rfl (AQ _)))) rfl ?_)))))
 refine A7 (A2 35 [.agg ([U64 rq, I64 2, I64 0, SL aj nj cj, .bool th, U64 pv, U64 ep, I64 (kd), SL ai ni ci, SL sa ns sc, U64 bl] ++ cu8 tg ++ [SL aha nha cha, SL ahb nhb chb]).toArray] (.bool (repR (2:Int) (0:Int) th lj (blankB pv ep (kd) l ls bl tg) (decide (mayN pv ep (kd) l ls bl = 0)) nha nhb)) (AS _ Tryd.call35 rfl) (fun w1 hw1 => E5 rq (2:Int) (0:Int) aj nj cj lj th pv ep (kd) ai ni ci l sa ns sc ls bl tg aha nha cha xha ahb nhb chb xhb w1 hlj (by omega) (by omega) (by omega) (C2 hw1 rfl hj) hl (by omega) (by omega) (by omega) (C2 hw1 rfl hv) hls (by omega) (by omega) (by omega) (C2 hw1 rfl hs) htg hlha (by omega) (by omega) (by omega) (hrha.at (M' := []) hw1 (by simp)) hlhb (by omega) (by omega) (by omega) (hrhb.at (M' := []) hw1 (by simp)) (by omega) (by omega))) rfl ?_
 show JL _ _ _ _ ((14, .bool (repR (2:Int) (0:Int) th lj (blankB pv ep (kd) l ls bl tg) (decide (mayN pv ep (kd) l ls bl = 0)) nha nhb)) :: _) [_]
 refine AA (.bool (!(repR (2:Int) (0:Int) th lj (blankB pv ep (kd) l ls bl tg) (decide (mayN pv ep (kd) l ls bl = 0)) nha nhb))) (DG rfl) rfl ?_
 refine AI (AC (BP _ rfl (bnotT hR) ?_))
 refine BF (AC (AH (AB (AA (.agg ([U64 rq, I64 2, I64 0, SL aj nj cj, .bool th, U64 pv, U64 ep, I64 (kd), SL ai ni ci, SL sa ns sc, U64 bl] ++ cu8 tg ++ [SL aha nha cha, SL ahb nhb chb]).toArray) (AO rfl (BU CC BR (by simp [htg]) (AU 0 rfl (AQ _)))) rfl ?_))))
 refine A7 (A2 95 [.agg ([U64 rq, I64 2, I64 0, SL aj nj cj, .bool th, U64 pv, U64 ep, I64 (kd), SL ai ni ci, SL sa ns sc, U64 bl] ++ cu8 tg ++ [SL aha nha cha, SL ahb nhb chb]).toArray] (.tuple #[.bool (itB (0:Int) (2:Int)), .bool (chB (0:Int) (2:Int) th), .bool (aB (0:Int) (2:Int) th), .bool (bB (0:Int) (2:Int) th)]) (AS _ Tryd.call95 rfl) (fun w1 hw1 => parts_c rq (2:Int) (0:Int) aj nj cj lj th pv ep (kd) ai ni ci l sa ns sc ls bl tg aha nha cha xha ahb nhb chb xhb w1 htg)) rfl ?_
 show JL _ _ _ _ ((19, .tuple #[.bool (itB (0:Int) (2:Int)), .bool (chB (0:Int) (2:Int) th), .bool (aB (0:Int) (2:Int) th), .bool (bB (0:Int) (2:Int) th)]) :: _) [_]
 refine AA _ (AF rfl) rfl ?_
 refine AA _ (BE rfl rfl) rfl ?_
 refine AA _ (BE rfl rfl) rfl ?_
 refine AA _ (BE rfl rfl) rfl ?_
 refine AA _ (BE rfl rfl) rfl ?_
 refine AA _ (AE rfl) rfl ?_
 refine AA _ (AE rfl) rfl ?_
 refine AA _ (AE rfl) rfl ?_
 refine AA _ (AE rfl) rfl ?_
 refine AI (AC (AH (AB (AA (.agg #[.nilIface, SL none 0 0]) (CP [] _ rfl (fun _ => by kernel_rfl)) rfl ?_))))
 refine A4 (C5 (.agg #[.nilIface, SL none 0 0]) ([.nilIface, SL none 0 0]) rfl (by first | rfl | simp)) rfl ?_
 rintro v1 L1 ⟨nb2, hnb2, rfl, rfl⟩
 show JL _ _ _ _ ((25, Ptr nb2 0) :: _) [_, ⟨nb2, [.nilIface, SL none 0 0], 149, (0, 0)⟩]
 refine AA _ (AE rfl) rfl ?_
 refine AI (AC (AH (DC 103 4 [(0, Ptr nb2 0), (1, Ptr nb1 0), (2, U64 rq), (4, Ptr nb1 1), (5, I64 2), (6, U64 2), (8, Ptr nb1 2), (9, I64 0), (10, U64 0)] CA rfl (by decide +kernel) ?_)))
 refine CW ⟨[], [0, 1, 2, 4, 5, 6, 8, 9, 10], [], [0, 1, 2, 4, 5, 6, 8, 9, 10], [3]⟩ 3 _ rfl rfl (by decide +kernel) rfl ⟨CG rfl rfl rfl, ⟨_, rfl, AL rfl (AD 0 22 1 AM rfl A9 rfl rfl)⟩, ⟨_, rfl, AL rfl (AO rfl (A0 BN (AU 0 rfl (AJ (AJ (Seg.head))))))⟩, ⟨_, rfl, AL rfl (AD 1 3 1 AM rfl AT rfl rfl)⟩, ⟨_, rfl, AL rfl (AO rfl (A0 AY (AU 0 rfl (AJ (AJ (AK (Seg.head)))))))⟩, ⟨_, rfl, AL rfl (CM _ _ rfl fun _ => DK (by rw [A6]; rfl) AW rfl)⟩, ⟨_, rfl, AL rfl (AD 2 3 1 AM rfl AT rfl rfl)⟩, ⟨_, rfl, AL rfl (AO rfl (A0 AY (AU 0 rfl (AJ (AJ (AK (AK (Seg.head))))))))⟩, ⟨_, rfl, AL rfl (CM _ _ rfl fun _ => DK (by rw [A6]; rfl) AW rfl)⟩, trivial⟩ rfl (BO rfl (A8 81 _ [false, true] [nb2] _ (AS [Ptr nb2 0, U64 rq, I64 8] B0 rfl) rfl (fun w1 hw1 => numN_c nb2 8 .nilIface rq 8 w1 (hw1.ent _ (List.mem_of_getElem? (i := 1) rfl)) (by unfold Szd; omega) (fun h => absurd h (by omega)) (by omega)))) ?_
 rintro v1 L1 ⟨_, ⟨rfl, nb3, sp1, cp1, rfl, hc1, hc2, hc3⟩, rfl⟩
 refine ⟨[], ?_⟩
 show DP _ _ _ _ _ _ _ _ [_, ⟨nb2, [.nilIface, Slc nb3 0 8 cp1], 149, (0, 0)⟩, ⟨nb3, cu8 (numK 8 rq 8) ++ sp1, 5, (0, 0)⟩]
 refine CW ⟨[3], [0, 1, 2, 4, 5, 6, 8, 9, 10], [0, 1, 2], [4, 5, 6, 8, 9, 10], [7]⟩ 7 _ rfl rfl (by decide +kernel) rfl ⟨⟨_, rfl, AL rfl (AD 1 3 1 AM rfl AT rfl rfl)⟩, ⟨_, rfl, AL rfl (AO rfl (A0 AY (AU 0 rfl (AJ (AJ (AK (Seg.head)))))))⟩, ⟨_, rfl, AL rfl (CM _ _ rfl fun _ => DK (by rw [A6]; rfl) AW rfl)⟩, ⟨_, rfl, AL rfl (AD 2 3 1 AM rfl AT rfl rfl)⟩, ⟨_, rfl, AL rfl (AO rfl (A0 AY (AU 0 rfl (AJ (AJ (AK (AK (Seg.head))))))))⟩, ⟨_, rfl, AL rfl (CM _ _ rfl fun _ => DK (by rw [A6]; rfl) AW rfl)⟩, trivial⟩ rfl (BO rfl (A8 81 _ [false, true, true] [nb2, nb3] _ (AS [Ptr nb2 0, U64 2, I64 1] B0 rfl) rfl (fun w1 hw1 => EO nb2 nb3 8 cp1 9 .nilIface (numK 8 rq 8) sp1 (2:UInt64) 1 w1 (hw1.ent _ (List.mem_of_getElem? (i := 1) rfl)) (hw1.ent _ (List.mem_of_getElem? (i := 2) rfl)) (hw1.ne (i := 1) (j := 2) rfl rfl (by decide)) (show (numK 8 rq 8).length = 8 from (A5 _ _ _)) hc1 hc2 hc3 (by omega) (by unfold Szd; omega) (fun _ => by decide) (by omega)))) ?_
 rintro v1 L1 ⟨_, ⟨rfl, nb4, sp2, cp2, rfl, hc4, hc5, hc6⟩, rfl⟩
 refine ⟨[], ?_⟩
 show DP _ _ _ _ _ _ _ _ [_, ⟨nb2, [.nilIface, Slc nb4 0 9 cp2], 149, (0, 0)⟩, ⟨nb4, cu8 ((numK 8 rq 8) ++ numK 1 (2:UInt64) 1) ++ sp2, 5, (0, 0)⟩]
 refine CW ⟨[3, 7], [0, 1, 2, 4, 5, 6, 8, 9, 10], [0, 1, 2, 4, 5, 6], [8, 9, 10], [11]⟩ 11 _ rfl rfl (by decide +kernel) rfl ⟨⟨_, rfl, AL rfl (AD 2 3 1 AM rfl AT rfl rfl)⟩, ⟨_, rfl, AL rfl (AO rfl (A0 AY (AU 0 rfl (AJ (AJ (AK (AK (Seg.head))))))))⟩, ⟨_, rfl, AL rfl (CM _ _ rfl fun _ => DK (by rw [A6]; rfl) AW rfl)⟩, trivial⟩ rfl (BO rfl (A8 81 _ [false, true, true] [nb2, nb4] _ (AS [Ptr nb2 0, U64 0, I64 1] B0 rfl) rfl (fun w1 hw1 => EO nb2 nb4 9 cp2 10 .nilIface ((numK 8 rq 8) ++ numK 1 (2:UInt64) 1) sp2 (0:UInt64) 1 w1 (hw1.ent _ (List.mem_of_getElem? (i := 1) rfl)) (hw1.ent _ (List.mem_of_getElem? (i := 2) rfl)) (hw1.ne (i := 1) (j := 2) rfl rfl (by decide)) (show ((numK 8 rq 8) ++ numK 1 (2:UInt64) 1).length = 9 from (by rw [List.length_append, (show (numK 8 rq 8).length = 8 from (A5 _ _ _)), A5] <;> omega)) hc4 hc5 hc6 (by omega) (by unfold Szd; omega) (fun _ => by decide) (by omega)))) ?_
 rintro v1 L1 ⟨_, ⟨rfl, nb5, sp3, cp3, rfl, hc7, hc8, hc9⟩, rfl⟩
 refine ⟨[], ?_⟩
 show DP _ _ _ _ _ _ _ _ [_, ⟨nb2, [.nilIface, Slc nb5 0 10 cp3], 149, (0, 0)⟩, ⟨nb5, cu8 (((numK 8 rq 8) ++ numK 1 (2:UInt64) 1) ++ numK 1 (0:UInt64) 1) ++ sp3, 5, (0, 0)⟩]
 refine DU ⟨[3, 7, 11], [0, 1, 2, 4, 5, 6, 8, 9, 10], [0, 1, 2, 4, 5, 6, 8, 9, 10], [], []⟩ rfl rfl (by decide +kernel) rfl trivial ?_
 refine C6 (F' := [(1, Ptr nb1 0), (2, SL none 0 0), (3, .nilIface), (4, .bool (itB (0:Int) (2:Int))), (5, .bool (chB (0:Int) (2:Int) th)), (6, .bool (aB (0:Int) (2:Int) th)), (7, .bool (bB (0:Int) (2:Int) th)), (8, Ptr nb2 0)]) (by kernel_rfl) ?_
 refine AC (AH (AH (AB (AA _ (AF rfl) rfl ?_))))
 refine AI (AC (B3 _ rfl (by decide +kernel) ?_))
 refine AB (AA _ (AF rfl) rfl ?_)
 refine AA (Ptr nb1 3) (AD 3 64 1 AM rfl CX rfl rfl) rfl ?_
 refine AA (SL aj nj cj) (AO rfl (A0 D1 (AU 0 rfl (AJ (AJ (AK (AK (AK (Seg.head))))))))) rfl ?_
 refine AA (I64 nj) (DY CE rfl) rfl ?_
 refine AA (I64 ((nj:Int) - 1)) (AR rfl rfl fun _ => EG _ _ ((nj:Int) - 1) (by omega) (by omega)) rfl ?_
 refine AA (U64 (UInt64.ofNat (nj - 1))) (CM _ _ rfl fun _ => DW (by rw [A6]; rfl) AW (nj - 1) _ (by omega)) rfl ?_
 refine A4 (A8 81 _ [false, true, true] [nb2, nb5] _ (AS [Ptr nb2 0, U64 (UInt64.ofNat (nj - 1)), I64 1] B0 rfl) rfl (fun w1 hw1 => EO nb2 nb5 10 cp3 11 .nilIface (((numK 8 rq 8) ++ numK 1 (2:UInt64) 1) ++ numK 1 (0:UInt64) 1) sp3 (UInt64.ofNat (nj - 1)) 1 w1 (hw1.ent _ (List.mem_of_getElem? (i := 1) rfl)) (hw1.ent _ (List.mem_of_getElem? (i := 2) rfl)) (hw1.ne (i := 1) (j := 2) rfl rfl (by decide)) (show (((numK 8 rq 8) ++ numK 1 (2:UInt64) 1) ++ numK 1 (0:UInt64) 1).length = 10 from (by rw [List.length_append, (show ((numK 8 rq 8) ++ numK 1 (2:UInt64) 1).length = 9 from (by rw [List.length_append, (show (numK 8 rq 8).length = 8 from (A5 _ _ _)), A5] <;> omega)), A5] <;> omega)) hc7 hc8 hc9 (by omega) (by unfold Szd; omega) (fun _ => shr8n (by omega)) (by omega))) rfl ?_
 rintro v1 L1 ⟨_, ⟨rfl, nb6, sp4, cp4, rfl, hc10, hc11, hc12⟩, rfl⟩
 show JL _ _ _ _ ((45, Ptr nb2 0) :: _) [_, ⟨nb2, [.nilIface, Slc nb6 0 11 cp4], 149, (0, 0)⟩, ⟨nb6, cu8 ((((numK 8 rq 8) ++ numK 1 (2:UInt64) 1) ++ numK 1 (0:UInt64) 1) ++ numK 1 (UInt64.ofNat (nj - 1)) 1) ++ sp4, 5, (0, 0)⟩]
 refine AI (AC (AH (AH (AB (AA (Ptr nb1 3) (AD 3 64 1 AM rfl CX rfl rfl) rfl ?_)))))
 refine AA (SL aj nj cj) (AO rfl (A0 D1 (AU 0 rfl (AJ (AJ (AK (AK (AK (Seg.head))))))))) rfl ?_
 refine AA (I64 nj) (DY CE rfl) rfl ?_
 refine AA _ (AF rfl) rfl ?_
 refine AI (AC (B5 (EM (ι := Nat × Nat × List UInt8 × Nat × List Value × Nat) (fun ⟨i, q, oqi, gqi, spqi, cpqi⟩ => [(1, Ptr nb1 0), (2, SL none 0 0), (3, .nilIface), (5, .bool (chB (0:Int) (2:Int) th)), (6, .bool (aB (0:Int) (2:Int) th)), (7, .bool (bB (0:Int) (2:Int) th)), (8, Ptr nb2 0), (47, SL aj nj cj), (48, I64 nj), (49, I64 i)]) (fun ⟨i, q, oqi, gqi, spqi, cpqi⟩ => [⟨nb1, [U64 rq, I64 2, I64 0, SL aj nj cj, .bool th, U64 pv, U64 ep, I64 (kd), SL ai ni ci, SL sa ns sc, U64 bl] ++ cu8 tg ++ [SL aha nha cha, SL ahb nhb chb], 67, (0, 0)⟩, ⟨nb2, [.nilIface, Slc gqi 0 q cpqi], 149, (0, 0)⟩, ⟨gqi, cu8 oqi ++ spqi, 5, (0, 0)⟩]) (fun ⟨i, q, oqi, gqi, spqi, cpqi⟩ => i ≤ nj ∧ oqi = (((numK 8 rq 8 ++ numK 1 (2:UInt64) 1) ++ numK 1 (0:UInt64) 1) ++ numK 1 (UInt64.ofNat (nj - 1)) 1) ++ itmsT (lj.take i) ∧ oqi.length = q ∧ spqi.length = cpqi - q ∧ q ≤ cpqi ∧ cpqi ≤ maxLen ∧ q ≤ 57*i + 11) (fun ⟨i, q, oqi, gqi, spqi, cpqi⟩ => nj - i) (0, 11, (((numK 8 rq 8) ++ numK 1 (2:UInt64) 1) ++ numK 1 (0:UInt64) 1) ++ numK 1 (UInt64.ofNat (nj - 1)) 1, nb6, sp4, cp4) ⟨by omega, by rw [List.take_zero, itmsT_nil, List.append_nil], (by have h := (show ((((numK 8 rq 8) ++ numK 1 (2:UInt64) 1) ++ numK 1 (0:UInt64) 1) ++ numK 1 (UInt64.ofNat (nj - 1)) 1).length = 11 from (by rw [List.length_append, (show (((numK 8 rq 8) ++ numK 1 (2:UInt64) 1) ++ numK 1 (0:UInt64) 1).length = 10 from (by rw [List.length_append, (show ((numK 8 rq 8) ++ numK 1 (2:UInt64) 1).length = 9 from (by rw [List.length_append, (show (numK 8 rq 8).length = 8 from (A5 _ _ _)), A5] <;> omega)), A5] <;> omega)), A5] <;> omega)); omega), (by have h := hc10; omega), by omega, by omega, by omega⟩ (Sub.all rfl) (by first | rfl | (simp; done)) ?_)))
 rintro ⟨i, q, oqi, gqi, spqi, cpqi⟩ ⟨hi1, hi2, hi3, hi4, hi5, hi6, hi7⟩
 show JC _ _ _ [(1, Ptr nb1 0), (2, SL none 0 0), (3, .nilIface), (5, .bool (chB (0:Int) (2:Int) th)), (6, .bool (aB (0:Int) (2:Int) th)), (7, .bool (bB (0:Int) (2:Int) th)), (8, Ptr nb2 0), (47, SL aj nj cj), (48, I64 nj), (49, I64 i)] [⟨nb1, [U64 rq, I64 2, I64 0, SL aj nj cj, .bool th, U64 pv, U64 ep, I64 (kd), SL ai ni ci, SL sa ns sc, U64 bl] ++ cu8 tg ++ [SL aha nha cha, SL ahb nhb chb], 67, (0, 0)⟩, ⟨nb2, [.nilIface, Slc gqi 0 q cpqi], 149, (0, 0)⟩, ⟨gqi, cu8 oqi ++ spqi, 5, (0, 0)⟩]
 refine AH (AB (AA (.bool (decide (((i:Int)) < ((nj:Int))))) (AR rfl rfl fun _ => CH _ _) rfl ?_))
 refine AI (AC (AH (B9 (decide (((i:Int)) < ((nj:Int)))) rfl (fun hb1 => ?_) (fun hb1 => ?_))))
 ·
  have hp1 : ((i:Int)) < ((nj:Int)) := of_decide_eq_true hb1
  refine BF (AC (AH (B5 (AH (AB ?_)))))
  obtain ⟨x1, hx1⟩ : ∃ x, lj[i]? = some x := ⟨_, List.getElem?_eq_getElem (by rw [hlj]; omega)⟩
  obtain ⟨bz1, oz1, hz1, hm1⟩ := rows_at itemC_len (by decide) hj hx1
  rw [itemC_eq] at hm1
  refine AA (Ptr bz1 (50*i + oz1)) (EA 163 50 (50*i + oz1) CE DH rfl hz1 rfl (by omega) (by omega) (by omega)) rfl ?_
  refine AA (.agg (List.toArray (α := Value) ([.bool x1.b, U64 x1.s.e] ++ cu8 x1.s.d ++ cu8 x1.s.t))) (AO rfl (BU Tryd.isAgg163 DH (by simp [x1.s.hd, x1.s.ht]) (DB (hm1.mem (by simp)) (AQ _) (by first | omega | (simp; done) | (simp; omega))))) rfl ?_
  refine A4 (C0 _ ([.bool false, U64 0] ++ cu8 (zr8 32) ++ cu8 (zr8 16)) Tryd.zeroValue163 (by kernel_rfl)) rfl ?_
  rintro v1 L1 ⟨nb7, hnb7, rfl, rfl⟩
  show JL _ _ _ _ ((10, Ptr nb7 0) :: _) [_, _, _, ⟨nb7, [.bool false, U64 0] ++ cu8 (zr8 32) ++ cu8 (zr8 16), 163, (0, 0)⟩]
  refine A7 (BQ 3 nb7 50 ([.bool false, U64 0] ++ cu8 (zr8 32) ++ cu8 (zr8 16)) 163 ([.bool x1.b, U64 x1.s.e] ++ cu8 x1.s.d ++ cu8 x1.s.t) rfl rfl rfl DH (by simp [x1.s.hd, x1.s.ht]) (BY (BY (by simp [Value.oneCell']) CT) CT) (by simp [(AN 32), (AN 16)]) (BT (by simp [(AN 32), (AN 16), x1.s.hd, x1.s.ht]))) rfl ?_
  show JL _ _ _ _ _ [_, _, _, ⟨nb7, [.bool x1.b, U64 x1.s.e] ++ cu8 x1.s.d ++ cu8 x1.s.t, 163, (0, 0)⟩]
  refine AI (AC (AH (AB (AA _ (AF rfl) rfl ?_))))
  refine AA (Ptr nb7 0) (AD 0 4 1 DO rfl Tryd.sizeOf4 rfl rfl) rfl ?_
  refine AA (.bool x1.b) (AO rfl (A0 Tryd.isAgg4 (AU 3 rfl (AJ (AJ (Seg.head)))))) rfl ?_
  refine A4 (A8 96 _ [false, true, true, false] [nb2, gqi] _ (AS [Ptr nb2 0, .bool x1.b] Tryd.call96 rfl) rfl (fun w1 hw1 => flagO_c nb2 gqi q cpqi (q + 1) .nilIface oqi spqi x1.b w1 (hw1.ent _ (List.mem_of_getElem? (i := 1) rfl)) (hw1.ent _ (List.mem_of_getElem? (i := 2) rfl)) (hw1.ne (i := 1) (j := 2) rfl rfl (by decide)) hi3 hi4 hi5 hi6 (by omega) (by omega))) rfl ?_
  rintro v1 L1 ⟨_, ⟨rfl, nb8, sp5, cp5, rfl, hc13, hc14, hc15⟩, rfl⟩
  show JL _ _ _ _ ((56, Ptr nb2 0) :: _) [_, _, ⟨nb2, [.nilIface, Slc nb8 0 (q + 1) cp5], 149, (0, 0)⟩, ⟨nb8, cu8 (oqi ++ numK 1 (bitU x1.b) 1) ++ sp5, 5, (0, 0)⟩]
  refine AI (AC (AH (AB (AA (Ptr nb7 0) (AD 0 4 1 DO rfl Tryd.sizeOf4 rfl rfl) rfl ?_))))
  refine AA (.bool x1.b) (AO rfl (A0 Tryd.isAgg4 (AU 1 rfl (AJ (AJ (Seg.head)))))) rfl ?_
  refine AI (AC (B9 (x1.b) rfl (fun hb2 => ?_) (fun hb2 => ?_)))
  ·
   refine AB (AA _ (AF rfl) rfl ?_)
   refine AA (Ptr nb7 1) (AD 1 161 49 DO rfl B1 rfl rfl) rfl ?_
   refine AA (.agg ([U64 x1.s.e] ++ cu8 x1.s.d ++ cu8 x1.s.t).toArray) (AO rfl (BU D5 B1 (by simp [x1.s.hd, x1.s.ht]) (AU 1 rfl (D6 (p := [.bool x1.b]) (q := []) (vs := [U64 x1.s.e] ++ cu8 x1.s.d ++ cu8 x1.s.t) (by first | rfl | (simp only [List.append_assoc, List.nil_append, List.append_nil, List.cons_append]; done)) rfl)))) rfl ?_
   refine A4 (CZ 97 [.agg ([U64 x1.s.e] ++ cu8 x1.s.d ++ cu8 x1.s.t).toArray] _ (AS _ Tryd.call97 rfl) (fun w1 hw1 => put7_c x1.s.e x1.s.d x1.s.t w1 x1.s.hd x1.s.ht)) rfl ?_
   rintro v1 L1 ⟨_, ⟨nb9, sp6, cp6, rfl, rfl, hc16, hc17, hc18⟩, rfl⟩
   show JL _ _ _ _ ((62, Slc nb9 0 56 cp6) :: _) [_, _, _, _, ⟨nb9, cu8 (putL x1.s.e x1.s.d x1.s.t) ++ sp6, 5, (0, 0)⟩]
   refine A4 (A8 82 _ [false, false, true, true, false] [nb2, nb8] _ (AS [Ptr nb2 0, Slc nb9 0 56 cp6] Tryd.call82 rfl) rfl (fun w1 hw1 => rawO_c nb2 nb8 (q + 1) cp5 (q + 57) .nilIface (oqi ++ numK 1 (bitU x1.b) 1) sp5 (some ⟨nb9, 0, none⟩) 56 cp6 (putL x1.s.e x1.s.d x1.s.t) w1 (hw1.ent _ (List.mem_of_getElem? (i := 2) rfl)) (hw1.ent _ (List.mem_of_getElem? (i := 3) rfl)) (hw1.ne (i := 2) (j := 3) rfl rfl (by decide)) (show (oqi ++ numK 1 (bitU x1.b) 1).length = (q + 1) from (by rw [List.length_append, hi3, A5] <;> omega)) hc13 hc14 hc15 (by omega) (show (putL x1.s.e x1.s.d x1.s.t).length = 56 from (putL_len x1.s.hd x1.s.ht)) (by omega) (RdB.of hw1 (AU 4 rfl (AJ (AQ _))) (by intro _; simp only [List.mem_cons, List.not_mem_nil, or_false, not_or]; exact ⟨hw1.ne (i := 4) (j := 2) rfl rfl (by decide), hw1.ne (i := 4) (j := 3) rfl rfl (by decide)⟩)) (by omega))) rfl ?_
   rintro v1 L1 ⟨_, ⟨rfl, nb10, sp7, cp7, rfl, hc19, hc20, hc21⟩, rfl⟩
   show JL _ _ _ _ ((63, Ptr nb2 0) :: _) [_, _, _, ⟨nb2, [.nilIface, Slc nb10 0 (q + 57) cp7], 149, (0, 0)⟩, ⟨nb10, cu8 ((oqi ++ numK 1 (bitU x1.b) 1) ++ (putL x1.s.e x1.s.d x1.s.t)) ++ sp7, 5, (0, 0)⟩]
   refine AI (BS (AC (AB (AA (I64 ((i:Int) + 1)) (AR rfl rfl fun _ => DQ _ _ ((i:Int) + 1) (by omega) (by omega)) rfl ?_))))
   refine AA _ (AF rfl) rfl ?_
   refine AI (D0 (B4 [true, false, false, true, true] ?_))
   show K _ _ [_, _, _] _
   refine EV (i + 1, (q + 57), (oqi ++ numK 1 (bitU x1.b) 1) ++ (putL x1.s.e x1.s.d x1.s.t), nb10, sp7, cp7) ⟨by omega, by rw [hi2, List.append_assoc, List.append_assoc, ← itm_t hb2, itms_step hx1], (by have h := (show ((oqi ++ numK 1 (bitU x1.b) 1) ++ (putL x1.s.e x1.s.d x1.s.t)).length = (q + 57) from (by rw [List.length_append, (show (oqi ++ numK 1 (bitU x1.b) 1).length = (q + 1) from (by rw [List.length_append, hi3, A5] <;> omega)), (show (putL x1.s.e x1.s.d x1.s.t).length = 56 from (putL_len x1.s.hd x1.s.ht))] <;> omega)); omega), (by have h := hc19; omega), by omega, by omega, by omega⟩ (by first | (simp; omega) | simp | (dsimp only; omega) | omega) (Sub.all rfl) rfl
  ·
   refine BF (BS (AC (AB (AA (I64 ((i:Int) + 1)) (AR rfl rfl fun _ => DQ _ _ ((i:Int) + 1) (by omega) (by omega)) rfl ?_))))
   refine AA _ (AF rfl) rfl ?_
   refine AI (D0 (B4 [true, false, true, true] ?_))
   show K _ _ [_, _, _] _
   refine EV (i + 1, (q + 1), oqi ++ numK 1 (bitU x1.b) 1, nb8, sp5, cp5) ⟨by omega, by rw [hi2, List.append_assoc, ← itm_f hb2, itms_step hx1], (by have h := (show (oqi ++ numK 1 (bitU x1.b) 1).length = (q + 1) from (by rw [List.length_append, hi3, A5] <;> omega)); omega), (by have h := hc13; omega), by omega, by omega, by omega⟩ (by first | (simp; omega) | simp | (dsimp only; omega) | omega) (Sub.all rfl) rfl
 ·
  have hp1 : ¬ (((i:Int)) < ((nj:Int))) := of_decide_eq_false hb1
  refine ED (BJ (BJ (C1 (AC (AH (AH ?_))))))
  have ei : nj = i := by omega
  subst ei
  rw [List.take_of_length_le (by omega)] at hi2
  have eq : q = si + 11 := by rw [← hi3, hi2]; simp [A5, hsi]; omega
  subst eq
  subst hi2
  show JC _ _ _ _ [⟨nb1, [U64 rq, I64 2, I64 0, SL aj nj cj, .bool th, U64 pv, U64 ep, I64 (kd), SL ai ni ci, SL sa ns sc, U64 bl] ++ cu8 tg ++ [SL aha nha cha, SL ahb nhb chb], 67, (0, 0)⟩, ⟨nb2, [.nilIface, Slc gqi 0 (si + 11) cpqi], 149, (0, 0)⟩, ⟨gqi, cu8 ((((numK 8 rq 8 ++ numK 1 (2:UInt64) 1) ++ numK 1 (0:UInt64) 1) ++ numK 1 (UInt64.ofNat (nj - 1)) 1) ++ itmsT lj) ++ spqi, 5, (0, 0)⟩]
  refine AB (AA (Ptr nb1 2) (AD 2 3 1 AM rfl AT rfl rfl) rfl ?_)
  refine AA (I64 0) (AO rfl (A0 AY (AU 0 rfl (AJ (AJ (AK (AK (Seg.head)))))))) rfl ?_
  refine AA (.bool (decide ((0:Int) = (0:Int)))) (AR rfl rfl fun _ => BK _ _) rfl ?_
  refine AA _ (AF rfl) rfl ?_
  refine AP 3 68 true _ (Ptr nb1 1) rfl rfl (by decide) (AD 1 3 1 AM rfl AT rfl rfl) rfl ?_
  refine AP 3 68 true _ (I64 2) rfl rfl (by decide) (AO rfl (A0 AY (AU 0 rfl (AJ (AJ (AK (Seg.head))))))) rfl ?_
  refine AP 3 68 true _ (.bool (decide ((2:Int) = (4:Int)))) rfl rfl (by decide) (AR rfl rfl fun _ => BK _ _) rfl ?_
  refine AA _ (BD _ rfl (by decide) rfl) rfl ?_
  refine AI (AC (BP _ rfl (by decide) ?_))
  refine BF (AC (AH (AH (AB (AA _ (AF rfl) rfl ?_)))))
  refine AI (AC (BP _ rfl ((by decide +kernel : ∀ t : Bool, (chB (0:Int) (2:Int) t) = false) th) ?_))
  refine BF (AC (AH (AH (AB (AA _ (AF rfl) rfl ?_)))))
  refine AI (AC (B3 _ rfl ((by decide +kernel : ∀ t : Bool, (aB (0:Int) (2:Int) t) = true) th) ?_))
  refine AB (AA _ (AF rfl) rfl ?_)
  refine AA (Ptr nb1 27) (AD 27 65 1 AM rfl CU rfl rfl) rfl ?_
  refine AA (SL aha nha cha) (AO rfl (A0 Tryd.isAgg65 (AU 0 rfl (Seg.right 27 0 (by simp [htg]) rfl (Seg.head))))) rfl ?_
  refine A4 (A8 98 _ [false, true, true] [nb2, gqi] _ (AS [Ptr nb2 0, SL aha nha cha] Tryd.call98 rfl) rfl (fun w1 hw1 => hashesO_c nb2 gqi (si + 11) cpqi (32*nha + si + 13) .nilIface ((((numK 8 rq 8 ++ numK 1 (2:UInt64) 1) ++ numK 1 (0:UInt64) 1) ++ numK 1 (UInt64.ofNat (nj - 1)) 1) ++ itmsT lj) spqi aha nha cha xha w1 (hw1.ent _ (List.mem_of_getElem? (i := 1) rfl)) (hw1.ent _ (List.mem_of_getElem? (i := 2) rfl)) (hw1.ne (i := 1) (j := 2) rfl rfl (by decide)) hi3 hi4 hi5 hi6 (by omega) hlha (by omega) (by omega) (by omega) (hrha.at (M' := [nb2, gqi]) hw1 (hw1.apart [1, 2] _ rfl)) (by omega) (by omega))) rfl ?_
  rintro v1 L1 ⟨_, ⟨rfl, nb11, sp8, cp8, rfl, hc22, hc23, hc24⟩, rfl⟩
  show JL _ _ _ _ ((93, .tuple #[]) :: _) [_, ⟨nb2, [.nilIface, Slc nb11 0 (32*nha + si + 13) cp8], 149, (0, 0)⟩, ⟨nb11, cu8 ((((((numK 8 rq 8 ++ numK 1 (2:UInt64) 1) ++ numK 1 (0:UInt64) 1) ++ numK 1 (UInt64.ofNat (nj - 1)) 1) ++ itmsT lj) ++ numK 2 (UInt64.ofNat nha) 2) ++ xha) ++ sp8, 5, (0, 0)⟩]
  refine AI (AC (AH (AH (AB (AA _ (AF rfl) rfl ?_)))))
  refine AI (AC (B3 _ rfl ((by decide +kernel : ∀ t : Bool, (bB (0:Int) (2:Int) t) = true) th) ?_))
  refine AB (AA _ (AF rfl) rfl ?_)
  refine AA (Ptr nb1 28) (AD 28 65 1 AM rfl CU rfl rfl) rfl ?_
  refine AA (SL ahb nhb chb) (AO rfl (A0 Tryd.isAgg65 (AU 0 rfl (Seg.right 27 1 (by simp [htg]) rfl (AK (Seg.head)))))) rfl ?_
  refine A4 (A8 98 _ [false, true, true] [nb2, nb11] _ (AS [Ptr nb2 0, SL ahb nhb chb] Tryd.call98 rfl) rfl (fun w1 hw1 => hashesO_c nb2 nb11 (32*nha + si + 13) cp8 (32*nha + 32*nhb + si + 15) .nilIface ((((((numK 8 rq 8 ++ numK 1 (2:UInt64) 1) ++ numK 1 (0:UInt64) 1) ++ numK 1 (UInt64.ofNat (nj - 1)) 1) ++ itmsT lj) ++ numK 2 (UInt64.ofNat nha) 2) ++ xha) sp8 ahb nhb chb xhb w1 (hw1.ent _ (List.mem_of_getElem? (i := 1) rfl)) (hw1.ent _ (List.mem_of_getElem? (i := 2) rfl)) (hw1.ne (i := 1) (j := 2) rfl rfl (by decide)) (show ((((((numK 8 rq 8 ++ numK 1 (2:UInt64) 1) ++ numK 1 (0:UInt64) 1) ++ numK 1 (UInt64.ofNat (nj - 1)) 1) ++ itmsT lj) ++ numK 2 (UInt64.ofNat nha) 2) ++ xha).length = (32*nha + si + 13) from (by rw [List.length_append, List.length_append, A5, hi3, hlha] <;> omega)) hc22 hc23 hc24 (by omega) hlhb (by omega) (by omega) (by omega) (hrhb.at (M' := [nb2, nb11]) hw1 (hw1.apart [1, 2] _ rfl)) (by omega) (by omega))) rfl ?_
  rintro v1 L1 ⟨_, ⟨rfl, nb12, sp9, cp9, rfl, hc25, hc26, hc27⟩, rfl⟩
  show JL _ _ _ _ ((98, .tuple #[]) :: _) [_, ⟨nb2, [.nilIface, Slc nb12 0 (32*nha + 32*nhb + si + 15) cp9], 149, (0, 0)⟩, ⟨nb12, cu8 ((((((((numK 8 rq 8 ++ numK 1 (2:UInt64) 1) ++ numK 1 (0:UInt64) 1) ++ numK 1 (UInt64.ofNat (nj - 1)) 1) ++ itmsT lj) ++ numK 2 (UInt64.ofNat nha) 2) ++ xha) ++ numK 2 (UInt64.ofNat nhb) 2) ++ xhb) ++ sp9, 5, (0, 0)⟩]
  refine AI (AC (AH (AB (AA _ (AF rfl) rfl ?_))))
  refine A4 (CZ 83 [Ptr nb2 0] _ (AS _ EQ rfl) (fun w1 hw1 => FJ nb2 0 nb12 (32*nha + 32*nhb + si + 15) cp9 ((((((((numK 8 rq 8 ++ numK 1 (2:UInt64) 1) ++ numK 1 (0:UInt64) 1) ++ numK 1 (UInt64.ofNat (nj - 1)) 1) ++ itmsT lj) ++ numK 2 (UInt64.ofNat nha) 2) ++ xha) ++ numK 2 (UInt64.ofNat nhb) 2) ++ xhb) w1 (RdA.of hw1 (AU 1 rfl (AQ _)) (by simp)) rfl (show ((((((((numK 8 rq 8 ++ numK 1 (2:UInt64) 1) ++ numK 1 (0:UInt64) 1) ++ numK 1 (UInt64.ofNat (nj - 1)) 1) ++ itmsT lj) ++ numK 2 (UInt64.ofNat nha) 2) ++ xha) ++ numK 2 (UInt64.ofNat nhb) 2) ++ xhb).length = (32*nha + 32*nhb + si + 15) from (by rw [List.length_append, List.length_append, A5, (show ((((((numK 8 rq 8 ++ numK 1 (2:UInt64) 1) ++ numK 1 (0:UInt64) 1) ++ numK 1 (UInt64.ofNat (nj - 1)) 1) ++ itmsT lj) ++ numK 2 (UInt64.ofNat nha) 2) ++ xha).length = (32*nha + si + 13) from (by rw [List.length_append, List.length_append, A5, hi3, hlha] <;> omega)), hlhb] <;> omega)) (by omega) (RdB.of hw1 (AU 2 rfl (AJ (AQ _))) (by simp)))) rfl ?_
  rintro v1 L1 ⟨_, ⟨nb13, sp10, cp10, rfl, rfl, hc28, hc29, hc30⟩, rfl⟩
  show JL _ _ _ _ ((100, .tuple #[Slc nb13 0 (32*nha + 32*nhb + si + 15) cp10, .nilIface]) :: _) [_, _, _, ⟨nb13, cu8 ((((((((numK 8 rq 8 ++ numK 1 (2:UInt64) 1) ++ numK 1 (0:UInt64) 1) ++ numK 1 (UInt64.ofNat (nj - 1)) 1) ++ itmsT lj) ++ numK 2 (UInt64.ofNat nha) 2) ++ xha) ++ numK 2 (UInt64.ofNat nhb) 2) ++ xhb) ++ sp10, 5, (0, 0)⟩]
  refine AA _ (BE rfl rfl) rfl ?_
  refine AA _ (BE rfl rfl) rfl ?_
  refine AA _ (AE rfl) rfl ?_
  refine AA _ (AE rfl) rfl ?_
  refine AI (AC (BI (B4 [false, false, false, true] ?_)))
  show JQ _ _ _ _ [_]
  refine BH (.tuple #[Slc nb13 0 (32*nha + 32*nhb + si + 15) cp10, .nilIface]) (res2 Tryd.results34 (BC rfl) (BC rfl)) fun w1 hw1 => ?_
  skip
  exact ⟨_, _, rfl, ⟨nb13, sp10, cp10, rfl, rfl, hc28, hc29, hc30⟩, hw1.sub (by simp) (by simp)⟩
set_option maxHeartbeats 2000000 in
theorem putRep3_c (rq : UInt64) (aj : Option Addr) (nj cj : Nat) (lj : List ItemR) (th : Bool) (pv ep : UInt64) (kd : Int) (ai : Option Addr) (ni ci : Nat) (l : List UInt64) (sa : Option Addr) (ns sc : Nat) (ls : List SealR) (bl : UInt64) (tg : List UInt8) (aha : Option Addr) (nha cha : Nat) (xha : List UInt8) (ahb : Option Addr) (nhb chb : Nat) (xhb : List UInt8)  (w : World) (hlj : lj.length = nj) (hnj : nj ≤ 2000000) (hdj : nj ≤ cj) (hcj : cj ≤ maxLen) (hj : RdV w aj (lj.flatMap itemC)) (hl : l.length = ni) (hnm : ni ≤ 2000000) (hnc : ni ≤ ci) (hcm : ci ≤ maxLen) (hv : RdV w ai (cu64 l)) (hls : ls.length = ns) (hnn : ns ≤ 2000000) (hnd : ns ≤ sc) (hcn : sc ≤ maxLen) (hs : RdV w sa (ls.flatMap sealC)) (htg : tg.length = 16) (hlha : xha.length = nha * 32) (hnha : nha ≤ 9000) (hdha : nha ≤ cha) (hcha : cha ≤ maxLen) (hrha : RdB w [] aha xha) (hlhb : xhb.length = nhb * 32) (hnhb : nhb ≤ 9000) (hdhb : nhb ≤ chb) (hchb : chb ≤ maxLen) (hrhb : RdB w [] ahb xhb) (hbi : ni ≤ 300) (hbs : ns ≤ 300) (hA : nha ≤ 300) (hB : nhb ≤ 8192) (hR : repR (3:Int) (0:Int) th lj (blankB pv ep kd l ls bl tg) (decide (mayN pv ep kd l ls bl = 0)) nha nhb = true)  : Calls Tryd.prog 34 #[.agg ([U64 rq, I64 3, I64 0, SL aj nj cj, .bool th, U64 pv, U64 ep, I64 (kd), SL ai ni ci, SL sa ns sc, U64 bl] ++ cu8 tg ++ [SL aha nha cha, SL ahb nhb chb]).toArray] w (Post w [] (fun v L => ∃ g sp cap, v = .tuple #[Slc g 0 ((32*nha + 32*nhb + 14)) cap, .nilIface] ∧ L = [⟨g, cu8 ((((((numK 8 rq 8 ++ numK 1 (3:UInt64) 1) ++ numK 1 (0:UInt64) 1) ++ numK 2 (UInt64.ofNat nha) 2) ++ xha) ++ numK 2 (UInt64.ofNat nhb) 2) ++ xhb) ++ sp, 5, (0, 0)⟩] ∧ sp.length = cap - (32*nha + 32*nhb + 14) ∧ (32*nha + 32*nhb + 14) ≤ cap ∧ cap ≤ maxLen)) := by
 have hmx : maxLen = 9223372036854775807 := rfl
 have hf := repR_f hlj hR
 have hn0 := c2_len0 hlj (repR_2 hR (by decide +kernel))
 refine enter (P := Tryd.prog) (f := 34) (fn := Tryd.f34) w [] 103 [] [.agg ([U64 rq, I64 3, I64 0, SL aj nj cj, .bool th, U64 pv, U64 ep, I64 (kd), SL ai ni ci, SL sa ns sc, U64 bl] ++ cu8 tg ++ [SL aha nha cha, SL ahb nhb chb]).toArray] Tryd.func34 rfl rfl (by simp) (BW (by simp) (by simp) (by simp)) ?_
 show JC _ _ _ [(0, .agg ([U64 rq, I64 3, I64 0, SL aj nj cj, .bool th, U64 pv, U64 ep, I64 (kd), SL ai ni ci, SL sa ns sc, U64 bl] ++ cu8 tg ++ [SL aha nha cha, SL ahb nhb chb]).toArray)] _
 refine AH (AB (A4 (C5 (.agg ([U64 rq, I64 3, I64 0, SL aj nj cj, .bool th, U64 pv, U64 ep, I64 (kd), SL ai ni ci, SL sa ns sc, U64 bl] ++ cu8 tg ++ [SL aha nha cha, SL ahb nhb chb]).toArray) ([U64 rq, I64 3, I64 0, SL aj nj cj, .bool th, U64 pv, U64 ep, I64 (kd), SL ai ni ci, SL sa ns sc, U64 bl] ++ cu8 tg ++ [SL aha nha cha, SL ahb nhb chb]) rfl (by first | rfl | simp)) rfl ?_))
 rintro v1 L1 ⟨nb1, hnb1, rfl, rfl⟩
 show JL _ _ _ _ ((1, Ptr nb1 0) :: _) [⟨nb1, [U64 rq, I64 3, I64 0, SL aj nj cj, .bool th, U64 pv, U64 ep, I64 (kd), SL ai ni ci, SL sa ns sc, U64 bl] ++ cu8 tg ++ [SL aha nha cha, SL ahb nhb chb], 67, (0, 0)⟩]
 refine AA _ (AE rfl) rfl ?_
 refine AA _ (AE rfl) rfl ?_
 refine AI (AC (AH (AH (AB (AA (.agg ([U64 rq, I64 3, I64 0, SL aj nj cj, .bool th, U64 pv, U64 ep, I64 (kd), SL ai ni ci, SL sa ns sc, U64 bl] ++ cu8 tg ++ [SL aha nha cha, SL ahb nhb chb]).toArray) (AO rfl (BU CC BR (by simp [htg]) (AU 0 rfl (AQ _)))) rfl ?_)))))
 refine A7 (A2 35 [.agg ([U64 rq, I64 3, I64 0, SL aj nj cj, .bool th, U64 pv, U64 ep, I64 (kd), SL ai ni ci, SL sa ns sc, U64 bl] ++ cu8 tg ++ [SL aha nha cha, SL ahb nhb chb]).toArray] (.bool (repR (3:Int) (0:Int) th lj (blankB pv ep (kd) l ls bl tg) (decide (mayN pv ep (kd) l ls bl = 0)) nha nhb)) (AS _ Tryd.call35 rfl) (fun w1 hw1 => E5 rq (3:Int) (0:Int) aj nj cj lj th pv ep (kd) ai ni ci l sa ns sc ls bl tg aha nha cha xha ahb nhb chb xhb w1 hlj (by omega) (by omega) (by omega) (C2 hw1 rfl hj) hl (by omega) (by omega) (by omega) (C2 hw1 rfl hv) hls (by omega) (by omega) (by omega) (C2 hw1 rfl hs) htg hlha (by omega) (by omega) (by omega) (hrha.at (M' := []) hw1 (by simp)) hlhb (by omega) (by omega) (by omega) (hrhb.at (M' := []) hw1 (by simp)) (by omega) (by omega))) rfl ?_
 show JL _ _ _ _ ((14, .bool (repR (3:Int) (0:Int) th lj (blankB pv ep (kd) l ls bl tg) (decide (mayN pv ep (kd) l ls bl = 0)) nha nhb)) :: _) [_]
 refine AA (.bool (!(repR (3:Int) (0:Int) th lj (blankB pv ep (kd) l ls bl tg) (decide (mayN pv ep (kd) l ls bl = 0)) nha nhb))) (DG rfl) rfl ?_
 refine AI (AC (BP _ rfl (bnotT hR) ?_))
 refine BF (AC (AH (AB (AA (.agg ([U64 rq, I64 3, I64 0, SL aj nj cj, .bool th, U64 pv, U64 ep, I64 (kd), SL ai ni ci, SL sa ns sc, U64 bl] ++ cu8 tg ++ [SL aha nha cha, SL ahb nhb chb]).toArray) (AO rfl (BU CC BR (by simp [htg]) (AU 0 rfl (AQ _)))) rfl ?_))))
 refine A7 (A2 95 [.agg ([U64 rq, I64 3, I64 0, SL aj nj cj, .bool th, U64 pv, U64 ep, I64 (kd), SL ai ni ci, SL sa ns sc, U64 bl] ++ cu8 tg ++ [SL aha nha cha, SL ahb nhb chb]).toArray] (.tuple #[.bool (itB (0:Int) (3:Int)), .bool (chB (0:Int) (3:Int) th), .bool (aB (0:Int) (3:Int) th), .bool (bB (0:Int) (3:Int) th)]) (AS _ Tryd.call95 rfl) (fun w1 hw1 => parts_c rq (3:Int) (0:Int) aj nj cj lj th pv ep (kd) ai ni ci l sa ns sc ls bl tg aha nha cha xha ahb nhb chb xhb w1 htg)) rfl ?_
 show JL _ _ _ _ ((19, .tuple #[.bool (itB (0:Int) (3:Int)), .bool (chB (0:Int) (3:Int) th), .bool (aB (0:Int) (3:Int) th), .bool (bB (0:Int) (3:Int) th)]) :: _) [_]
 refine AA _ (AF rfl) rfl ?_
 refine AA _ (BE rfl rfl) rfl ?_
 refine AA _ (BE rfl rfl) rfl ?_
 refine AA _ (BE rfl rfl) rfl ?_
 refine AA _ (BE rfl rfl) rfl ?_
 refine AA _ (AE rfl) rfl ?_
 refine AA _ (AE rfl) rfl ?_
 refine AA _ (AE rfl) rfl ?_
 refine AA _ (AE rfl) rfl ?_
 refine AI (AC (AH (AB (AA (.agg #[.nilIface, SL none 0 0]) (CP [] _ rfl (fun _ => by kernel_rfl)) rfl ?_))))
 refine A4 (C5 (.agg #[.nilIface, SL none 0 0]) ([.nilIface, SL none 0 0]) rfl (by first | rfl | simp)) rfl ?_
 rintro v1 L1 ⟨nb2, hnb2, rfl, rfl⟩
 show JL _ _ _ _ ((25, Ptr nb2 0) :: _) [_, ⟨nb2, [.nilIface, SL none 0 0], 149, (0, 0)⟩]
 refine AA _ (AE rfl) rfl ?_
 refine AI (AC (AH (DC 103 4 [(0, Ptr nb2 0), (1, Ptr nb1 0), (2, U64 rq), (4, Ptr nb1 1), (5, I64 3), (6, U64 3), (8, Ptr nb1 2), (9, I64 0), (10, U64 0)] CA rfl (by decide +kernel) ?_)))
 refine CW ⟨[], [0, 1, 2, 4, 5, 6, 8, 9, 10], [], [0, 1, 2, 4, 5, 6, 8, 9, 10], [3]⟩ 3 _ rfl rfl (by decide +kernel) rfl ⟨CG rfl rfl rfl, ⟨_, rfl, AL rfl (AD 0 22 1 AM rfl A9 rfl rfl)⟩, ⟨_, rfl, AL rfl (AO rfl (A0 BN (AU 0 rfl (AJ (AJ (Seg.head))))))⟩, ⟨_, rfl, AL rfl (AD 1 3 1 AM rfl AT rfl rfl)⟩, ⟨_, rfl, AL rfl (AO rfl (A0 AY (AU 0 rfl (AJ (AJ (AK (Seg.head)))))))⟩, ⟨_, rfl, AL rfl (CM _ _ rfl fun _ => DK (by rw [A6]; rfl) AW rfl)⟩, ⟨_, rfl, AL rfl (AD 2 3 1 AM rfl AT rfl rfl)⟩, ⟨_, rfl, AL rfl (AO rfl (A0 AY (AU 0 rfl (AJ (AJ (AK (AK (Seg.head))))))))⟩, ⟨_, rfl, AL rfl (CM _ _ rfl fun _ => DK (by rw [A6]; rfl) AW rfl)⟩, trivial⟩ rfl (BO rfl (A8 81 _ [false, true] [nb2] _ (AS [Ptr nb2 0, U64 rq, I64 8] B0 rfl) rfl (fun w1 hw1 => numN_c nb2 8 .nilIface rq 8 w1 (hw1.ent _ (List.mem_of_getElem? (i := 1) rfl)) (by unfold Szd; omega) (fun h => absurd h (by omega)) (by omega)))) ?_
 rintro v1 L1 ⟨_, ⟨rfl, nb3, sp1, cp1, rfl, hc1, hc2, hc3⟩, rfl⟩
 refine ⟨[], ?_⟩
 show DP _ _ _ _ _ _ _ _ [_, ⟨nb2, [.nilIface, Slc nb3 0 8 cp1], 149, (0, 0)⟩, ⟨nb3, cu8 (numK 8 rq 8) ++ sp1, 5, (0, 0)⟩]
 refine CW ⟨[3], [0, 1, 2, 4, 5, 6, 8, 9, 10], [0, 1, 2], [4, 5, 6, 8, 9, 10], [7]⟩ 7 _ rfl rfl (by decide +kernel) rfl ⟨⟨_, rfl, AL rfl (AD 1 3 1 AM rfl AT rfl rfl)⟩, ⟨_, rfl, AL rfl (AO rfl (A0 AY (AU 0 rfl (AJ (AJ (AK (Seg.head)))))))⟩, ⟨_, rfl, AL rfl (CM _ _ rfl fun _ => DK (by rw [A6]; rfl) AW rfl)⟩, ⟨_, rfl, AL rfl (AD 2 3 1 AM rfl AT rfl rfl)⟩, ⟨_, rfl, AL rfl (AO rfl (A0 AY (AU 0 rfl (AJ (AJ (AK (AK (Seg.head))))))))⟩, ⟨_, rfl, AL rfl (CM _ _ rfl fun _ => DK (by rw [A6]; rfl) AW rfl)⟩, trivial⟩ rfl (BO rfl (A8 81 _ [false, true, true] [nb2, nb3] _ (AS [Ptr nb2 0, U64 3, I64 1] B0 rfl) rfl (fun w1 hw1 => EO nb2 nb3 8 cp1 9 .nilIface (numK 8 rq 8) sp1 (3:UInt64) 1 w1 (hw1.ent _ (List.mem_of_getElem? (i := 1) rfl)) (hw1.ent _ (List.mem_of_getElem? (i := 2) rfl)) (hw1.ne (i := 1) (j := 2) rfl rfl (by decide)) (show (numK 8 rq 8).length = 8 from (A5 _ _ _)) hc1 hc2 hc3 (by omega) (by unfold Szd; omega) (fun _ => by decide) (by omega)))) ?_
 rintro v1 L1 ⟨_, ⟨rfl, nb4, sp2, cp2, rfl, hc4, hc5, hc6⟩, rfl⟩
 refine ⟨[], ?_⟩
 show DP _ _ _ _ _ _ _ _ [_, ⟨nb2, [.nilIface, Slc nb4 0 9 cp2], 149, (0, 0)⟩, ⟨nb4, cu8 ((numK 8 rq 8) ++ numK 1 (3:UInt64) 1) ++ sp2, 5, (0, 0)⟩]
 refine CW ⟨[3, 7], [0, 1, 2, 4, 5, 6, 8, 9, 10], [0, 1, 2, 4, 5, 6], [8, 9, 10], [11]⟩ 11 _ rfl rfl (by decide +kernel) rfl ⟨⟨_, rfl, AL rfl (AD 2 3 1 AM rfl AT rfl rfl)⟩, ⟨_, rfl, AL rfl (AO rfl (A0 AY (AU 0 rfl (AJ (AJ (AK (AK (Seg.head))))))))⟩, ⟨_, rfl, AL rfl (CM _ _ rfl fun _ => DK (by rw [A6]; rfl) AW rfl)⟩, trivial⟩ rfl (BO rfl (A8 81 _ [false, true, true] [nb2, nb4] _ (AS [Ptr nb2 0, U64 0, I64 1] B0 rfl) rfl (fun w1 hw1 => EO nb2 nb4 9 cp2 10 .nilIface ((numK 8 rq 8) ++ numK 1 (3:UInt64) 1) sp2 (0:UInt64) 1 w1 (hw1.ent _ (List.mem_of_getElem? (i := 1) rfl)) (hw1.ent _ (List.mem_of_getElem? (i := 2) rfl)) (hw1.ne (i := 1) (j := 2) rfl rfl (by decide)) (show ((numK 8 rq 8) ++ numK 1 (3:UInt64) 1).length = 9 from (by rw [List.length_append, (show (numK 8 rq 8).length = 8 from (A5 _ _ _)), A5] <;> omega)) hc4 hc5 hc6 (by omega) (by unfold Szd; omega) (fun _ => by decide) (by omega)))) ?_
 rintro v1 L1 ⟨_, ⟨rfl, nb5, sp3, cp3, rfl, hc7, hc8, hc9⟩, rfl⟩
 refine ⟨[], ?_⟩
 show DP _ _ _ _ _ _ _ _ [_, ⟨nb2, [.nilIface, Slc nb5 0 10 cp3], 149, (0, 0)⟩, ⟨nb5, cu8 (((numK 8 rq 8) ++ numK 1 (3:UInt64) 1) ++ numK 1 (0:UInt64) 1) ++ sp3, 5, (0, 0)⟩]
 refine DU ⟨[3, 7, 11], [0, 1, 2, 4, 5, 6, 8, 9, 10], [0, 1, 2, 4, 5, 6, 8, 9, 10], [], []⟩ rfl rfl (by decide +kernel) rfl trivial ?_
 refine C6 (F' := [(1, Ptr nb1 0), (2, SL none 0 0), (3, .nilIface), (4, .bool (itB (0:Int) (3:Int))), (5, .bool (chB (0:Int) (3:Int) th)), (6, .bool (aB (0:Int) (3:Int) th)), (7, .bool (bB (0:Int) (3:Int) th)), (8, Ptr nb2 0)]) (by kernel_rfl) ?_
 refine AC (AH (AH (AB (AA _ (AF rfl) rfl ?_))))
 refine AI (AC (BP _ rfl (by decide +kernel) ?_))
 refine BF (AC (AH (AH (AB (AA (Ptr nb1 3) (AD 3 64 1 AM rfl CX rfl rfl) rfl ?_)))))
 refine AA (SL aj nj cj) (AO rfl (A0 D1 (AU 0 rfl (AJ (AJ (AK (AK (AK (Seg.head))))))))) rfl ?_
 refine AA (I64 nj) (DY CE rfl) rfl ?_
 refine AA _ (AF rfl) rfl ?_
 refine AI (AC (B5 (EM (ι := Unit) (fun _ => [(1, Ptr nb1 0), (2, SL none 0 0), (3, .nilIface), (5, .bool (chB (0:Int) (3:Int) th)), (6, .bool (aB (0:Int) (3:Int) th)), (7, .bool (bB (0:Int) (3:Int) th)), (8, Ptr nb2 0), (47, SL aj nj cj), (48, I64 nj), (49, I64 0)]) (fun _ => [⟨nb1, [U64 rq, I64 3, I64 0, SL aj nj cj, .bool th, U64 pv, U64 ep, I64 (kd), SL ai ni ci, SL sa ns sc, U64 bl] ++ cu8 tg ++ [SL aha nha cha, SL ahb nhb chb], 67, (0, 0)⟩, ⟨nb2, [.nilIface, Slc nb5 0 10 cp3], 149, (0, 0)⟩, ⟨nb5, cu8 (((numK 8 rq 8) ++ numK 1 (3:UInt64) 1) ++ numK 1 (0:UInt64) 1) ++ sp3, 5, (0, 0)⟩]) (fun _ => True) (fun _ => 1) () trivial (Sub.all rfl) rfl ?_)))
 rintro _ _
 show JC _ _ _ [(1, Ptr nb1 0), (2, SL none 0 0), (3, .nilIface), (5, .bool (chB (0:Int) (3:Int) th)), (6, .bool (aB (0:Int) (3:Int) th)), (7, .bool (bB (0:Int) (3:Int) th)), (8, Ptr nb2 0), (47, SL aj nj cj), (48, I64 nj), (49, I64 0)] [⟨nb1, [U64 rq, I64 3, I64 0, SL aj nj cj, .bool th, U64 pv, U64 ep, I64 (kd), SL ai ni ci, SL sa ns sc, U64 bl] ++ cu8 tg ++ [SL aha nha cha, SL ahb nhb chb], 67, (0, 0)⟩, ⟨nb2, [.nilIface, Slc nb5 0 10 cp3], 149, (0, 0)⟩, ⟨nb5, cu8 (((numK 8 rq 8) ++ numK 1 (3:UInt64) 1) ++ numK 1 (0:UInt64) 1) ++ sp3, 5, (0, 0)⟩]
 refine AH (AB (AA (.bool (decide ((0:Int) < ((nj:Int))))) (AR rfl rfl fun _ => CH _ _) rfl ?_))
 refine AI (AC (AH (BP _ rfl (decide_eq_false (by omega)) ?_)))
 refine ED (BJ (BJ (C1 (AC (AH (AH (AB (AA (Ptr nb1 2) (AD 2 3 1 AM rfl AT rfl rfl) rfl ?_))))))))
 refine AA (I64 0) (AO rfl (A0 AY (AU 0 rfl (AJ (AJ (AK (AK (Seg.head)))))))) rfl ?_
 refine AA (.bool (decide ((0:Int) = (0:Int)))) (AR rfl rfl fun _ => BK _ _) rfl ?_
 refine AA _ (AF rfl) rfl ?_
 refine AP 3 68 true _ (Ptr nb1 1) rfl rfl (by decide) (AD 1 3 1 AM rfl AT rfl rfl) rfl ?_
 refine AP 3 68 true _ (I64 3) rfl rfl (by decide) (AO rfl (A0 AY (AU 0 rfl (AJ (AJ (AK (Seg.head))))))) rfl ?_
 refine AP 3 68 true _ (.bool (decide ((3:Int) = (4:Int)))) rfl rfl (by decide) (AR rfl rfl fun _ => BK _ _) rfl ?_
 refine AA _ (BD _ rfl (by decide) rfl) rfl ?_
 refine AI (AC (BP _ rfl (by decide) ?_))
 refine BF (AC (AH (AH (AB (AA _ (AF rfl) rfl ?_)))))
 refine AI (AC (BP _ rfl ((by decide +kernel : ∀ t : Bool, (chB (0:Int) (3:Int) t) = false) th) ?_))
 refine BF (AC (AH (AH (AB (AA _ (AF rfl) rfl ?_)))))
 refine AI (AC (B3 _ rfl ((by decide +kernel : ∀ t : Bool, (aB (0:Int) (3:Int) t) = true) th) ?_))
 refine AB (AA _ (AF rfl) rfl ?_)
 refine AA (Ptr nb1 27) (AD 27 65 1 AM rfl CU rfl rfl) rfl ?_
 refine AA (SL aha nha cha) (AO rfl (A0 Tryd.isAgg65 (AU 0 rfl (Seg.right 27 0 (by simp [htg]) rfl (Seg.head))))) rfl ?_
 refine A4 (A8 98 _ [false, true, true] [nb2, nb5] _ (AS [Ptr nb2 0, SL aha nha cha] Tryd.call98 rfl) rfl (fun w1 hw1 => hashesO_c nb2 nb5 10 cp3 (32*nha + 12) .nilIface (((numK 8 rq 8) ++ numK 1 (3:UInt64) 1) ++ numK 1 (0:UInt64) 1) sp3 aha nha cha xha w1 (hw1.ent _ (List.mem_of_getElem? (i := 1) rfl)) (hw1.ent _ (List.mem_of_getElem? (i := 2) rfl)) (hw1.ne (i := 1) (j := 2) rfl rfl (by decide)) (show (((numK 8 rq 8) ++ numK 1 (3:UInt64) 1) ++ numK 1 (0:UInt64) 1).length = 10 from (by rw [List.length_append, (show ((numK 8 rq 8) ++ numK 1 (3:UInt64) 1).length = 9 from (by rw [List.length_append, (show (numK 8 rq 8).length = 8 from (A5 _ _ _)), A5] <;> omega)), A5] <;> omega)) hc7 hc8 hc9 (by omega) hlha (by omega) (by omega) (by omega) (hrha.at (M' := [nb2, nb5]) hw1 (hw1.apart [1, 2] _ rfl)) (by omega) (by omega))) rfl ?_
 rintro v1 L1 ⟨_, ⟨rfl, nb6, sp4, cp4, rfl, hc10, hc11, hc12⟩, rfl⟩
 show JL _ _ _ _ ((93, .tuple #[]) :: _) [_, ⟨nb2, [.nilIface, Slc nb6 0 (32*nha + 12) cp4], 149, (0, 0)⟩, ⟨nb6, cu8 (((((numK 8 rq 8) ++ numK 1 (3:UInt64) 1) ++ numK 1 (0:UInt64) 1) ++ numK 2 (UInt64.ofNat nha) 2) ++ xha) ++ sp4, 5, (0, 0)⟩]
 refine AI (AC (AH (AH (AB (AA _ (AF rfl) rfl ?_)))))
 refine AI (AC (B3 _ rfl ((by decide +kernel : ∀ t : Bool, (bB (0:Int) (3:Int) t) = true) th) ?_))
 refine AB (AA _ (AF rfl) rfl ?_)
 refine AA (Ptr nb1 28) (AD 28 65 1 AM rfl CU rfl rfl) rfl ?_
 refine AA (SL ahb nhb chb) (AO rfl (A0 Tryd.isAgg65 (AU 0 rfl (Seg.right 27 1 (by simp [htg]) rfl (AK (Seg.head)))))) rfl ?_
 refine A4 (A8 98 _ [false, true, true] [nb2, nb6] _ (AS [Ptr nb2 0, SL ahb nhb chb] Tryd.call98 rfl) rfl (fun w1 hw1 => hashesO_c nb2 nb6 (32*nha + 12) cp4 (32*nha + 32*nhb + 14) .nilIface (((((numK 8 rq 8) ++ numK 1 (3:UInt64) 1) ++ numK 1 (0:UInt64) 1) ++ numK 2 (UInt64.ofNat nha) 2) ++ xha) sp4 ahb nhb chb xhb w1 (hw1.ent _ (List.mem_of_getElem? (i := 1) rfl)) (hw1.ent _ (List.mem_of_getElem? (i := 2) rfl)) (hw1.ne (i := 1) (j := 2) rfl rfl (by decide)) (show (((((numK 8 rq 8) ++ numK 1 (3:UInt64) 1) ++ numK 1 (0:UInt64) 1) ++ numK 2 (UInt64.ofNat nha) 2) ++ xha).length = (32*nha + 12) from (by rw [List.length_append, List.length_append, A5, (show (((numK 8 rq 8) ++ numK 1 (3:UInt64) 1) ++ numK 1 (0:UInt64) 1).length = 10 from (by rw [List.length_append, (show ((numK 8 rq 8) ++ numK 1 (3:UInt64) 1).length = 9 from (by rw [List.length_append, (show (numK 8 rq 8).length = 8 from (A5 _ _ _)), A5] <;> omega)), A5] <;> omega)), hlha] <;> omega)) hc10 hc11 hc12 (by omega) hlhb (by omega) (by omega) (by omega) (hrhb.at (M' := [nb2, nb6]) hw1 (hw1.apart [1, 2] _ rfl)) (by omega) (by omega))) rfl ?_
 rintro v1 L1 ⟨_, ⟨rfl, nb7, sp5, cp5, rfl, hc13, hc14, hc15⟩, rfl⟩
 show JL _ _ _ _ ((98, .tuple #[]) :: _) [_, ⟨nb2, [.nilIface, Slc nb7 0 (32*nha + 32*nhb + 14) cp5], 149, (0, 0)⟩, ⟨nb7, cu8 (((((((numK 8 rq 8) ++ numK 1 (3:UInt64) 1) ++ numK 1 (0:UInt64) 1) ++ numK 2 (UInt64.ofNat nha) 2) ++ xha) ++ numK 2 (UInt64.ofNat nhb) 2) ++ xhb) ++ sp5, 5, (0, 0)⟩]
 refine AI (AC (AH (AB (AA _ (AF rfl) rfl ?_))))
 refine A4 (CZ 83 [Ptr nb2 0] _ (AS _ EQ rfl) (fun w1 hw1 => FJ nb2 0 nb7 (32*nha + 32*nhb + 14) cp5 (((((((numK 8 rq 8) ++ numK 1 (3:UInt64) 1) ++ numK 1 (0:UInt64) 1) ++ numK 2 (UInt64.ofNat nha) 2) ++ xha) ++ numK 2 (UInt64.ofNat nhb) 2) ++ xhb) w1 (RdA.of hw1 (AU 1 rfl (AQ _)) (by simp)) rfl (show (((((((numK 8 rq 8) ++ numK 1 (3:UInt64) 1) ++ numK 1 (0:UInt64) 1) ++ numK 2 (UInt64.ofNat nha) 2) ++ xha) ++ numK 2 (UInt64.ofNat nhb) 2) ++ xhb).length = (32*nha + 32*nhb + 14) from (by rw [List.length_append, List.length_append, A5, (show (((((numK 8 rq 8) ++ numK 1 (3:UInt64) 1) ++ numK 1 (0:UInt64) 1) ++ numK 2 (UInt64.ofNat nha) 2) ++ xha).length = (32*nha + 12) from (by rw [List.length_append, List.length_append, A5, (show (((numK 8 rq 8) ++ numK 1 (3:UInt64) 1) ++ numK 1 (0:UInt64) 1).length = 10 from (by rw [List.length_append, (show ((numK 8 rq 8) ++ numK 1 (3:UInt64) 1).length = 9 from (by rw [List.length_append, (show (numK 8 rq 8).length = 8 from (A5 _ _ _)), A5] <;> omega)), A5] <;> omega)), hlha] <;> omega)), hlhb] <;> omega)) (by omega) (RdB.of hw1 (AU 2 rfl (AJ (AQ _))) (by simp)))) rfl ?_
 rintro v1 L1 ⟨_, ⟨nb8, sp6, cp6, rfl, rfl, hc16, hc17, hc18⟩, rfl⟩
 show JL _ _ _ _ ((100, .tuple #[Slc nb8 0 (32*nha + 32*nhb + 14) cp6, .nilIface]) :: _) [_, _, _, ⟨nb8, cu8 (((((((numK 8 rq 8) ++ numK 1 (3:UInt64) 1) ++ numK 1 (0:UInt64) 1) ++ numK 2 (UInt64.ofNat nha) 2) ++ xha) ++ numK 2 (UInt64.ofNat nhb) 2) ++ xhb) ++ sp6, 5, (0, 0)⟩]
 refine AA _ (BE rfl rfl) rfl ?_
 refine AA _ (BE rfl rfl) rfl ?_
 refine AA _ (AE rfl) rfl ?_
 refine AA _ (AE rfl) rfl ?_
 refine AI (AC (BI (B4 [false, false, false, true] ?_)))
 show JQ _ _ _ _ [_]
 refine BH (.tuple #[Slc nb8 0 (32*nha + 32*nhb + 14) cp6, .nilIface]) (res2 Tryd.results34 (BC rfl) (BC rfl)) fun w1 hw1 => ?_
 skip
 exact ⟨_, _, rfl, ⟨nb8, sp6, cp6, rfl, rfl, hc16, hc17, hc18⟩, hw1.sub (by simp) (by simp)⟩
set_option maxHeartbeats 2000000 in
theorem putRep4t_c (rq : UInt64) (aj : Option Addr) (nj cj : Nat) (lj : List ItemR) (pv ep : UInt64) (k : Nat) (ai : Option Addr) (ni ci : Nat) (l : List UInt64) (sa : Option Addr) (ns sc : Nat) (ls : List SealR) (bl : UInt64) (tg : List UInt8) (aha : Option Addr) (nha cha : Nat) (xha : List UInt8) (ahb : Option Addr) (nhb chb : Nat) (xhb : List UInt8) (tot : Nat)  (w : World) (hlj : lj.length = nj) (hnj : nj ≤ 2000000) (hdj : nj ≤ cj) (hcj : cj ≤ maxLen) (hj : RdV w aj (lj.flatMap itemC)) (hl : l.length = ni) (hnm : ni ≤ 2000000) (hnc : ni ≤ ci) (hcm : ci ≤ maxLen) (hv : RdV w ai (cu64 l)) (hls : ls.length = ns) (hnn : ns ≤ 2000000) (hnd : ns ≤ sc) (hcn : sc ≤ maxLen) (hs : RdV w sa (ls.flatMap sealC)) (htg : tg.length = 16) (hlha : xha.length = nha * 32) (hnha : nha ≤ 9000) (hdha : nha ≤ cha) (hcha : cha ≤ maxLen) (hrha : RdB w [] aha xha) (hlhb : xhb.length = nhb * 32) (hnhb : nhb ≤ 9000) (hdhb : nhb ≤ chb) (hchb : chb ≤ maxLen) (hrhb : RdB w [] ahb xhb) (hbi : ni ≤ 300) (hbs : ns ≤ 300) (hA : nha ≤ 300) (hB : nhb ≤ 8192) (hR : repR (4:Int) (0:Int) true lj (blankB pv ep (k:Int) l ls bl tg) (decide (mayN pv ep (k:Int) l ls bl = 0)) nha nhb = true) (hmay : mayN pv ep (k:Int) l ls bl = 0) (hk : k = 1 ∨ k = 2 ∨ k = 3) (hsm : ns ≤ 300) (htot : tktN k ni ns = tot) (htb : tot ≤ 30000)  : Calls Tryd.prog 34 #[.agg ([U64 rq, I64 4, I64 0, SL aj nj cj, .bool true, U64 pv, U64 ep, I64 k, SL ai ni ci, SL sa ns sc, U64 bl] ++ cu8 tg ++ [SL aha nha cha, SL ahb nhb chb]).toArray] w (Post w [] (fun v L => ∃ g sp cap, v = .tuple #[Slc g 0 ((32*nha + 32*nhb + tot + 31)) cap, .nilIface] ∧ L = [⟨g, cu8 ((((((((numK 8 rq 8 ++ numK 1 (4:UInt64) 1) ++ numK 1 (0:UInt64) 1) ++ numK 1 (bitU true) 1) ++ ((tktT pv ep k l ls bl) ++ tg)) ++ numK 2 (UInt64.ofNat nha) 2) ++ xha) ++ numK 2 (UInt64.ofNat nhb) 2) ++ xhb) ++ sp, 5, (0, 0)⟩] ∧ sp.length = cap - (32*nha + 32*nhb + tot + 31) ∧ (32*nha + 32*nhb + tot + 31) ≤ cap ∧ cap ≤ maxLen)) := by
 have hmx : maxLen = 9223372036854775807 := rfl
 have hf := repR_f hlj hR
 have hn0 := c2_len0 hlj (repR_2 hR (by decide +kernel))
 refine enter (P := Tryd.prog) (f := 34) (fn := Tryd.f34) w [] 103 [] [.agg ([U64 rq, I64 4, I64 0, SL aj nj cj, .bool true, U64 pv, U64 ep, I64 k, SL ai ni ci, SL sa ns sc, U64 bl] ++ cu8 tg ++ [SL aha nha cha, SL ahb nhb chb]).toArray] Tryd.func34 rfl rfl (by simp) (BW (by simp) (by simp) (by simp)) ?_
 show JC _ _ _ [(0, .agg ([U64 rq, I64 4, I64 0, SL aj nj cj, .bool true, U64 pv, U64 ep, I64 k, SL ai ni ci, SL sa ns sc, U64 bl] ++ cu8 tg ++ [SL aha nha cha, SL ahb nhb chb]).toArray)] _
 refine AH (AB (A4 (C5 (.agg ([U64 rq, I64 4, I64 0, SL aj nj cj, .bool true, U64 pv, U64 ep, I64 k, SL ai ni ci, SL sa ns sc, U64 bl] ++ cu8 tg ++ [SL aha nha cha, SL ahb nhb chb]).toArray) ([U64 rq, I64 4, I64 0, SL aj nj cj, .bool true, U64 pv, U64 ep, I64 k, SL ai ni ci, SL sa ns sc, U64 bl] ++ cu8 tg ++ [SL aha nha cha, SL ahb nhb chb]) rfl (by first | rfl | simp)) rfl ?_))
 rintro v1 L1 ⟨nb1, hnb1, rfl, rfl⟩
 show JL _ _ _ _ ((1, Ptr nb1 0) :: _) [⟨nb1, [U64 rq, I64 4, I64 0, SL aj nj cj, .bool true, U64 pv, U64 ep, I64 k, SL ai ni ci, SL sa ns sc, U64 bl] ++ cu8 tg ++ [SL aha nha cha, SL ahb nhb chb], 67, (0, 0)⟩]
 refine AA _ (AE rfl) rfl ?_
 refine AA _ (AE rfl) rfl ?_
 refine AI (AC (AH (AH (AB (AA (.agg ([U64 rq, I64 4, I64 0, SL aj nj cj, .bool true, U64 pv, U64 ep, I64 k, SL ai ni ci, SL sa ns sc, U64 bl] ++ cu8 tg ++ [SL aha nha cha, SL ahb nhb chb]).toArray) (AO rfl (BU CC BR (by simp [htg]) (AU 0 rfl (AQ _)))) rfl ?_)))))
 refine A7 (A2 35 [.agg ([U64 rq, I64 4, I64 0, SL aj nj cj, .bool true, U64 pv, U64 ep, I64 k, SL ai ni ci, SL sa ns sc, U64 bl] ++ cu8 tg ++ [SL aha nha cha, SL ahb nhb chb]).toArray] (.bool (repR (4:Int) (0:Int) true lj (blankB pv ep ((k:Int)) l ls bl tg) (decide (mayN pv ep ((k:Int)) l ls bl = 0)) nha nhb)) (AS _ Tryd.call35 rfl) (fun w1 hw1 => E5 rq (4:Int) (0:Int) aj nj cj lj true pv ep ((k:Int)) ai ni ci l sa ns sc ls bl tg aha nha cha xha ahb nhb chb xhb w1 hlj (by omega) (by omega) (by omega) (C2 hw1 rfl hj) hl (by omega) (by omega) (by omega) (C2 hw1 rfl hv) hls (by omega) (by omega) (by omega) (C2 hw1 rfl hs) htg hlha (by omega) (by omega) (by omega) (hrha.at (M' := []) hw1 (by simp)) hlhb (by omega) (by omega) (by omega) (hrhb.at (M' := []) hw1 (by simp)) (by omega) (by omega))) rfl ?_
 show JL _ _ _ _ ((14, .bool (repR (4:Int) (0:Int) true lj (blankB pv ep ((k:Int)) l ls bl tg) (decide (mayN pv ep ((k:Int)) l ls bl = 0)) nha nhb)) :: _) [_]
 refine AA (.bool (!(repR (4:Int) (0:Int) true lj (blankB pv ep ((k:Int)) l ls bl tg) (decide (mayN pv ep ((k:Int)) l ls bl = 0)) nha nhb))) (DG rfl) rfl ?_
 refine AI (AC (BP _ rfl (bnotT hR) ?_))
 refine BF (AC (AH (AB (AA (.agg ([U64 rq, I64 4, I64 0, SL aj nj cj, .bool true, U64 pv, U64 ep, I64 k, SL ai ni ci, SL sa ns sc, U64 bl] ++ cu8 tg ++ [SL aha nha cha, SL ahb nhb chb]).toArray) (AO rfl (BU CC BR (by simp [htg]) (AU 0 rfl (AQ _)))) rfl ?_))))
 refine A7 (A2 95 [.agg ([U64 rq, I64 4, I64 0, SL aj nj cj, .bool true, U64 pv, U64 ep, I64 k, SL ai ni ci, SL sa ns sc, U64 bl] ++ cu8 tg ++ [SL aha nha cha, SL ahb nhb chb]).toArray] (.tuple #[.bool (itB (0:Int) (4:Int)), .bool (chB (0:Int) (4:Int) true), .bool (aB (0:Int) (4:Int) true), .bool (bB (0:Int) (4:Int) true)]) (AS _ Tryd.call95 rfl) (fun w1 hw1 => parts_c rq (4:Int) (0:Int) aj nj cj lj true pv ep ((k:Int)) ai ni ci l sa ns sc ls bl tg aha nha cha xha ahb nhb chb xhb w1 htg)) rfl ?_
 show JL _ _ _ _ ((19, .tuple #[.bool (itB (0:Int) (4:Int)), .bool (chB (0:Int) (4:Int) true), .bool (aB (0:Int) (4:Int) true), .bool (bB (0:Int) (4:Int) true)]) :: _) [_]
 refine AA _ (AF rfl) rfl ?_
 refine AA _ (BE rfl rfl) rfl ?_
 refine AA _ (BE rfl rfl) rfl ?_
 refine AA _ (BE rfl rfl) rfl ?_
 refine AA _ (BE rfl rfl) rfl ?_
 refine AA _ (AE rfl) rfl ?_
 refine AA _ (AE rfl) rfl ?_
 refine AA _ (AE rfl) rfl ?_
 refine AA _ (AE rfl) rfl ?_
 refine AI (AC (AH (AB (AA (.agg #[.nilIface, SL none 0 0]) (CP [] _ rfl (fun _ => by kernel_rfl)) rfl ?_))))
 refine A4 (C5 (.agg #[.nilIface, SL none 0 0]) ([.nilIface, SL none 0 0]) rfl (by first | rfl | simp)) rfl ?_
 rintro v1 L1 ⟨nb2, hnb2, rfl, rfl⟩
 show JL _ _ _ _ ((25, Ptr nb2 0) :: _) [_, ⟨nb2, [.nilIface, SL none 0 0], 149, (0, 0)⟩]
 refine AA _ (AE rfl) rfl ?_
 refine AI (AC (AH (DC 103 4 [(0, Ptr nb2 0), (1, Ptr nb1 0), (2, U64 rq), (4, Ptr nb1 1), (5, I64 4), (6, U64 4), (8, Ptr nb1 2), (9, I64 0), (10, U64 0)] CA rfl (by decide +kernel) ?_)))
 refine CW ⟨[], [0, 1, 2, 4, 5, 6, 8, 9, 10], [], [0, 1, 2, 4, 5, 6, 8, 9, 10], [3]⟩ 3 _ rfl rfl (by decide +kernel) rfl ⟨CG rfl rfl rfl, ⟨_, rfl, AL rfl (AD 0 22 1 AM rfl A9 rfl rfl)⟩, ⟨_, rfl, AL rfl (AO rfl (A0 BN (AU 0 rfl (AJ (AJ (Seg.head))))))⟩, ⟨_, rfl, AL rfl (AD 1 3 1 AM rfl AT rfl rfl)⟩, ⟨_, rfl, AL rfl (AO rfl (A0 AY (AU 0 rfl (AJ (AJ (AK (Seg.head)))))))⟩, ⟨_, rfl, AL rfl (CM _ _ rfl fun _ => DK (by rw [A6]; rfl) AW rfl)⟩, ⟨_, rfl, AL rfl (AD 2 3 1 AM rfl AT rfl rfl)⟩, ⟨_, rfl, AL rfl (AO rfl (A0 AY (AU 0 rfl (AJ (AJ (AK (AK (Seg.head))))))))⟩, ⟨_, rfl, AL rfl (CM _ _ rfl fun _ => DK (by rw [A6]; rfl) AW rfl)⟩, trivial⟩ rfl (BO rfl (A8 81 _ [false, true] [nb2] _ (AS [Ptr nb2 0, U64 rq, I64 8] B0 rfl) rfl (fun w1 hw1 => numN_c nb2 8 .nilIface rq 8 w1 (hw1.ent _ (List.mem_of_getElem? (i := 1) rfl)) (by unfold Szd; omega) (fun h => absurd h (by omega)) (by omega)))) ?_
 rintro v1 L1 ⟨_, ⟨rfl, nb3, sp1, cp1, rfl, hc1, hc2, hc3⟩, rfl⟩
 refine ⟨[], ?_⟩
 show DP _ _ _ _ _ _ _ _ [_, ⟨nb2, [.nilIface, Slc nb3 0 8 cp1], 149, (0, 0)⟩, ⟨nb3, cu8 (numK 8 rq 8) ++ sp1, 5, (0, 0)⟩]
 refine CW ⟨[3], [0, 1, 2, 4, 5, 6, 8, 9, 10], [0, 1, 2], [4, 5, 6, 8, 9, 10], [7]⟩ 7 _ rfl rfl (by decide +kernel) rfl ⟨⟨_, rfl, AL rfl (AD 1 3 1 AM rfl AT rfl rfl)⟩, ⟨_, rfl, AL rfl (AO rfl (A0 AY (AU 0 rfl (AJ (AJ (AK (Seg.head)))))))⟩, ⟨_, rfl, AL rfl (CM _ _ rfl fun _ => DK (by rw [A6]; rfl) AW rfl)⟩, ⟨_, rfl, AL rfl (AD 2 3 1 AM rfl AT rfl rfl)⟩, ⟨_, rfl, AL rfl (AO rfl (A0 AY (AU 0 rfl (AJ (AJ (AK (AK (Seg.head))))))))⟩, ⟨_, rfl, AL rfl (CM _ _ rfl fun _ => DK (by rw [A6]; rfl) AW rfl)⟩, trivial⟩ rfl (BO rfl (A8 81 _ [false, true, true] [nb2, nb3] _ (AS [Ptr nb2 0, U64 4, I64 1] B0 rfl) rfl (fun w1 hw1 => EO nb2 nb3 8 cp1 9 .nilIface (numK 8 rq 8) sp1 (4:UInt64) 1 w1 (hw1.ent _ (List.mem_of_getElem? (i := 1) rfl)) (hw1.ent _ (List.mem_of_getElem? (i := 2) rfl)) (hw1.ne (i := 1) (j := 2) rfl rfl (by decide)) (show (numK 8 rq 8).length = 8 from (A5 _ _ _)) hc1 hc2 hc3 (by omega) (by unfold Szd; omega) (fun _ => by decide) (by omega)))) ?_
 rintro v1 L1 ⟨_, ⟨rfl, nb4, sp2, cp2, rfl, hc4, hc5, hc6⟩, rfl⟩
 refine ⟨[], ?_⟩
 show DP _ _ _ _ _ _ _ _ [_, ⟨nb2, [.nilIface, Slc nb4 0 9 cp2], 149, (0, 0)⟩, ⟨nb4, cu8 ((numK 8 rq 8) ++ numK 1 (4:UInt64) 1) ++ sp2, 5, (0, 0)⟩]
 refine CW ⟨[3, 7], [0, 1, 2, 4, 5, 6, 8, 9, 10], [0, 1, 2, 4, 5, 6], [8, 9, 10], [11]⟩ 11 _ rfl rfl (by decide +kernel) rfl ⟨⟨_, rfl, AL rfl (AD 2 3 1 AM rfl AT rfl rfl)⟩, ⟨_, rfl, AL rfl (AO rfl (A0 AY (AU 0 rfl (AJ (AJ (AK (AK (Seg.head))))))))⟩, ⟨_, rfl, AL rfl (CM _ _ rfl fun _ => DK (by rw [A6]; rfl) AW rfl)⟩, trivial⟩ rfl (BO rfl (A8 81 _ [false, true, true] [nb2, nb4] _ (AS [Ptr nb2 0, U64 0, I64 1] B0 rfl) rfl (fun w1 hw1 => EO nb2 nb4 9 cp2 10 .nilIface ((numK 8 rq 8) ++ numK 1 (4:UInt64) 1) sp2 (0:UInt64) 1 w1 (hw1.ent _ (List.mem_of_getElem? (i := 1) rfl)) (hw1.ent _ (List.mem_of_getElem? (i := 2) rfl)) (hw1.ne (i := 1) (j := 2) rfl rfl (by decide)) (show ((numK 8 rq 8) ++ numK 1 (4:UInt64) 1).length = 9 from (by rw [List.length_append, (show (numK 8 rq 8).length = 8 from (A5 _ _ _)), A5] <;> omega)) hc4 hc5 hc6 (by omega) (by unfold Szd; omega) (fun _ => by decide) (by omega)))) ?_
 rintro v1 L1 ⟨_, ⟨rfl, nb5, sp3, cp3, rfl, hc7, hc8, hc9⟩, rfl⟩
 refine ⟨[], ?_⟩
 show DP _ _ _ _ _ _ _ _ [_, ⟨nb2, [.nilIface, Slc nb5 0 10 cp3], 149, (0, 0)⟩, ⟨nb5, cu8 (((numK 8 rq 8) ++ numK 1 (4:UInt64) 1) ++ numK 1 (0:UInt64) 1) ++ sp3, 5, (0, 0)⟩]
 refine DU ⟨[3, 7, 11], [0, 1, 2, 4, 5, 6, 8, 9, 10], [0, 1, 2, 4, 5, 6, 8, 9, 10], [], []⟩ rfl rfl (by decide +kernel) rfl trivial ?_
 refine C6 (F' := [(1, Ptr nb1 0), (2, SL none 0 0), (3, .nilIface), (4, .bool (itB (0:Int) (4:Int))), (5, .bool (chB (0:Int) (4:Int) true)), (6, .bool (aB (0:Int) (4:Int) true)), (7, .bool (bB (0:Int) (4:Int) true)), (8, Ptr nb2 0)]) (by kernel_rfl) ?_
 refine AC (AH (AH (AB (AA _ (AF rfl) rfl ?_))))
 refine AI (AC (BP _ rfl (by decide +kernel) ?_))
 refine BF (AC (AH (AH (AB (AA (Ptr nb1 3) (AD 3 64 1 AM rfl CX rfl rfl) rfl ?_)))))
 refine AA (SL aj nj cj) (AO rfl (A0 D1 (AU 0 rfl (AJ (AJ (AK (AK (AK (Seg.head))))))))) rfl ?_
 refine AA (I64 nj) (DY CE rfl) rfl ?_
 refine AA _ (AF rfl) rfl ?_
 refine AI (AC (B5 (EM (ι := Unit) (fun _ => [(1, Ptr nb1 0), (2, SL none 0 0), (3, .nilIface), (5, .bool (chB (0:Int) (4:Int) true)), (6, .bool (aB (0:Int) (4:Int) true)), (7, .bool (bB (0:Int) (4:Int) true)), (8, Ptr nb2 0), (47, SL aj nj cj), (48, I64 nj), (49, I64 0)]) (fun _ => [⟨nb1, [U64 rq, I64 4, I64 0, SL aj nj cj, .bool true, U64 pv, U64 ep, I64 k, SL ai ni ci, SL sa ns sc, U64 bl] ++ cu8 tg ++ [SL aha nha cha, SL ahb nhb chb], 67, (0, 0)⟩, ⟨nb2, [.nilIface, Slc nb5 0 10 cp3], 149, (0, 0)⟩, ⟨nb5, cu8 (((numK 8 rq 8) ++ numK 1 (4:UInt64) 1) ++ numK 1 (0:UInt64) 1) ++ sp3, 5, (0, 0)⟩]) (fun _ => True) (fun _ => 1) () trivial (Sub.all rfl) rfl ?_)))
 rintro _ _
 show JC _ _ _ [(1, Ptr nb1 0), (2, SL none 0 0), (3, .nilIface), (5, .bool (chB (0:Int) (4:Int) true)), (6, .bool (aB (0:Int) (4:Int) true)), (7, .bool (bB (0:Int) (4:Int) true)), (8, Ptr nb2 0), (47, SL aj nj cj), (48, I64 nj), (49, I64 0)] [⟨nb1, [U64 rq, I64 4, I64 0, SL aj nj cj, .bool true, U64 pv, U64 ep, I64 k, SL ai ni ci, SL sa ns sc, U64 bl] ++ cu8 tg ++ [SL aha nha cha, SL ahb nhb chb], 67, (0, 0)⟩, ⟨nb2, [.nilIface, Slc nb5 0 10 cp3], 149, (0, 0)⟩, ⟨nb5, cu8 (((numK 8 rq 8) ++ numK 1 (4:UInt64) 1) ++ numK 1 (0:UInt64) 1) ++ sp3, 5, (0, 0)⟩]
 refine AH (AB (AA (.bool (decide ((0:Int) < ((nj:Int))))) (AR rfl rfl fun _ => CH _ _) rfl ?_))
 refine AI (AC (AH (BP _ rfl (decide_eq_false (by omega)) ?_)))
 refine ED (BJ (BJ (C1 (AC (AH (AH (AB (AA (Ptr nb1 2) (AD 2 3 1 AM rfl AT rfl rfl) rfl ?_))))))))
 refine AA (I64 0) (AO rfl (A0 AY (AU 0 rfl (AJ (AJ (AK (AK (Seg.head)))))))) rfl ?_
 refine AA (.bool (decide ((0:Int) = (0:Int)))) (AR rfl rfl fun _ => BK _ _) rfl ?_
 refine AA _ (AF rfl) rfl ?_
 refine AP 3 68 true _ (Ptr nb1 1) rfl rfl (by decide) (AD 1 3 1 AM rfl AT rfl rfl) rfl ?_
 refine AP 3 68 true _ (I64 4) rfl rfl (by decide) (AO rfl (A0 AY (AU 0 rfl (AJ (AJ (AK (Seg.head))))))) rfl ?_
 refine AP 3 68 true _ (.bool (decide ((4:Int) = (4:Int)))) rfl rfl (by decide) (AR rfl rfl fun _ => BK _ _) rfl ?_
 refine AA _ (BD _ rfl (by decide) rfl) rfl ?_
 refine AI (AC (B3 _ rfl (by decide) ?_))
 refine AB (AA _ (AF rfl) rfl ?_)
 refine AA _ (AF rfl) rfl ?_
 refine A4 (A8 96 _ [false, true, true] [nb2, nb5] _ (AS [Ptr nb2 0, .bool (chB (0:Int) (4:Int) true)] Tryd.call96 rfl) rfl (fun w1 hw1 => flagO_c nb2 nb5 10 cp3 11 .nilIface (((numK 8 rq 8) ++ numK 1 (4:UInt64) 1) ++ numK 1 (0:UInt64) 1) sp3 (chB (0:Int) (4:Int) true) w1 (hw1.ent _ (List.mem_of_getElem? (i := 1) rfl)) (hw1.ent _ (List.mem_of_getElem? (i := 2) rfl)) (hw1.ne (i := 1) (j := 2) rfl rfl (by decide)) (show (((numK 8 rq 8) ++ numK 1 (4:UInt64) 1) ++ numK 1 (0:UInt64) 1).length = 10 from (by rw [List.length_append, (show ((numK 8 rq 8) ++ numK 1 (4:UInt64) 1).length = 9 from (by rw [List.length_append, (show (numK 8 rq 8).length = 8 from (A5 _ _ _)), A5] <;> omega)), A5] <;> omega)) hc7 hc8 hc9 (by omega) (by omega))) rfl ?_
 rintro v1 L1 ⟨_, ⟨rfl, nb6, sp4, cp4, rfl, hc10, hc11, hc12⟩, rfl⟩
 show JL _ _ _ _ ((75, Ptr nb2 0) :: _) [_, ⟨nb2, [.nilIface, Slc nb6 0 11 cp4], 149, (0, 0)⟩, ⟨nb6, cu8 ((((numK 8 rq 8) ++ numK 1 (4:UInt64) 1) ++ numK 1 (0:UInt64) 1) ++ numK 1 (bitU (chB (0:Int) (4:Int) true)) 1) ++ sp4, 5, (0, 0)⟩]
 refine AI (AC (AH (AH (AB (AA _ (AF rfl) rfl ?_)))))
 refine AI (AC (B3 _ rfl (by decide +kernel) ?_))
 refine AH (AB (AA (Ptr nb1 5) (AD 5 29 22 AM rfl BG rfl rfl) rfl ?_))
 refine AA (.agg ([U64 pv, U64 ep, I64 k, SL ai ni ci, SL sa ns sc, U64 bl] ++ cu8 tg).toArray) (AO rfl (BU B7 BG (by simp [htg]) (AU 0 rfl (D6 (p := [U64 rq, I64 4, I64 0, SL aj nj cj, .bool true]) (q := [SL aha nha cha, SL ahb nhb chb]) (vs := [U64 pv, U64 ep, I64 k, SL ai ni ci, SL sa ns sc, U64 bl] ++ cu8 tg) (by first | rfl | (simp only [List.append_assoc, List.nil_append, List.append_nil, List.cons_append]; done)) rfl)))) rfl ?_
 refine A4 (CZ 47 [.agg ([U64 pv, U64 ep, I64 k, SL ai ni ci, SL sa ns sc, U64 bl] ++ cu8 tg).toArray] _ (AS _ Tryd.call47 rfl) (fun w1 hw1 => put13_c pv ep k ai ni ci l sa ns sc ls bl tg tot w1 hl (by omega) (by omega) (by omega) (C2 hw1 rfl hv) hls (by omega) (by omega) (by omega) (C2 hw1 rfl hs) htg hmay hk hsm htot (by omega))) rfl ?_
 rintro v1 L1 ⟨_, ⟨nb7, sp5, cp5, rfl, rfl, hc13, hc14, hc15⟩, rfl⟩
 show JL _ _ _ _ ((80, .tuple #[Slc nb7 0 (tot + 16) cp5, .nilIface]) :: _) [_, _, _, ⟨nb7, cu8 ((tktT pv ep k l ls bl) ++ tg) ++ sp5, 5, (0, 0)⟩]
 refine AA _ (AF rfl) rfl ?_
 refine AA _ (BE rfl rfl) rfl ?_
 refine AA _ (BE rfl rfl) rfl ?_
 refine AA _ (AE rfl) rfl ?_
 refine AA _ (AE rfl) rfl ?_
 refine AI (AC (AH (AH (AB (AA _ (AF rfl) rfl ?_)))))
 refine AA (.bool false) (C7 _ _ _ rfl rfl (fun _ => FB ..) fun _ => E3 BB) rfl ?_
 refine AI (AC (BP _ rfl rfl ?_))
 refine BF (AC (AB (AA _ (AF rfl) rfl ?_)))
 refine AA _ (AF rfl) rfl ?_
 refine A4 (A8 82 _ [false, true, true, false] [nb2, nb6] _ (AS [Ptr nb2 0, Slc nb7 0 (tot + 16) cp5] Tryd.call82 rfl) rfl (fun w1 hw1 => rawO_c nb2 nb6 11 cp4 (tot + 27) .nilIface ((((numK 8 rq 8) ++ numK 1 (4:UInt64) 1) ++ numK 1 (0:UInt64) 1) ++ numK 1 (bitU (chB (0:Int) (4:Int) true)) 1) sp4 (some ⟨nb7, 0, none⟩) (tot + 16) cp5 ((tktT pv ep k l ls bl) ++ tg) w1 (hw1.ent _ (List.mem_of_getElem? (i := 1) rfl)) (hw1.ent _ (List.mem_of_getElem? (i := 2) rfl)) (hw1.ne (i := 1) (j := 2) rfl rfl (by decide)) (show ((((numK 8 rq 8) ++ numK 1 (4:UInt64) 1) ++ numK 1 (0:UInt64) 1) ++ numK 1 (bitU (chB (0:Int) (4:Int) true)) 1).length = 11 from (by rw [List.length_append, (show (((numK 8 rq 8) ++ numK 1 (4:UInt64) 1) ++ numK 1 (0:UInt64) 1).length = 10 from (by rw [List.length_append, (show ((numK 8 rq 8) ++ numK 1 (4:UInt64) 1).length = 9 from (by rw [List.length_append, (show (numK 8 rq 8).length = 8 from (A5 _ _ _)), A5] <;> omega)), A5] <;> omega)), A5] <;> omega)) hc10 hc11 hc12 (by omega) (show ((tktT pv ep k l ls bl) ++ tg).length = (tot + 16) from (by rw [List.length_append, ((FD hl hls).trans htot), htg])) (by omega) (RdB.of hw1 (AU 3 rfl (AJ (AQ _))) (by intro _; simp only [List.mem_cons, List.not_mem_nil, or_false, not_or]; exact ⟨hw1.ne (i := 3) (j := 1) rfl rfl (by decide), hw1.ne (i := 3) (j := 2) rfl rfl (by decide)⟩)) (by omega))) rfl ?_
 rintro v1 L1 ⟨_, ⟨rfl, nb8, sp6, cp6, rfl, hc16, hc17, hc18⟩, rfl⟩
 show JL _ _ _ _ ((88, Ptr nb2 0) :: _) [_, _, ⟨nb2, [.nilIface, Slc nb8 0 (tot + 27) cp6], 149, (0, 0)⟩, ⟨nb8, cu8 (((((numK 8 rq 8) ++ numK 1 (4:UInt64) 1) ++ numK 1 (0:UInt64) 1) ++ numK 1 (bitU (chB (0:Int) (4:Int) true)) 1) ++ ((tktT pv ep k l ls bl) ++ tg)) ++ sp6, 5, (0, 0)⟩]
 refine AI (AC (AH (AH (AB (AA _ (AF rfl) rfl ?_)))))
 refine AI (AC (B3 _ rfl (by decide +kernel) ?_))
 refine AB (AA _ (AF rfl) rfl ?_)
 refine AA (Ptr nb1 27) (AD 27 65 1 AM rfl CU rfl rfl) rfl ?_
 refine AA (SL aha nha cha) (AO rfl (A0 Tryd.isAgg65 (AU 0 rfl (Seg.right 27 0 (by simp [htg]) rfl (Seg.head))))) rfl ?_
 refine A4 (A8 98 _ [false, false, true, true] [nb2, nb8] _ (AS [Ptr nb2 0, SL aha nha cha] Tryd.call98 rfl) rfl (fun w1 hw1 => hashesO_c nb2 nb8 (tot + 27) cp6 (32*nha + tot + 29) .nilIface (((((numK 8 rq 8) ++ numK 1 (4:UInt64) 1) ++ numK 1 (0:UInt64) 1) ++ numK 1 (bitU (chB (0:Int) (4:Int) true)) 1) ++ ((tktT pv ep k l ls bl) ++ tg)) sp6 aha nha cha xha w1 (hw1.ent _ (List.mem_of_getElem? (i := 2) rfl)) (hw1.ent _ (List.mem_of_getElem? (i := 3) rfl)) (hw1.ne (i := 2) (j := 3) rfl rfl (by decide)) (show (((((numK 8 rq 8) ++ numK 1 (4:UInt64) 1) ++ numK 1 (0:UInt64) 1) ++ numK 1 (bitU (chB (0:Int) (4:Int) true)) 1) ++ ((tktT pv ep k l ls bl) ++ tg)).length = (tot + 27) from (by rw [List.length_append, (show ((((numK 8 rq 8) ++ numK 1 (4:UInt64) 1) ++ numK 1 (0:UInt64) 1) ++ numK 1 (bitU (chB (0:Int) (4:Int) true)) 1).length = 11 from (by rw [List.length_append, (show (((numK 8 rq 8) ++ numK 1 (4:UInt64) 1) ++ numK 1 (0:UInt64) 1).length = 10 from (by rw [List.length_append, (show ((numK 8 rq 8) ++ numK 1 (4:UInt64) 1).length = 9 from (by rw [List.length_append, (show (numK 8 rq 8).length = 8 from (A5 _ _ _)), A5] <;> omega)), A5] <;> omega)), A5] <;> omega)), (show ((tktT pv ep k l ls bl) ++ tg).length = (tot + 16) from (by rw [List.length_append, ((FD hl hls).trans htot), htg]))] <;> omega)) hc16 hc17 hc18 (by omega) hlha (by omega) (by omega) (by omega) (hrha.at (M' := [nb2, nb8]) hw1 (hw1.apart [2, 3] _ rfl)) (by omega) (by omega))) rfl ?_
 rintro v1 L1 ⟨_, ⟨rfl, nb9, sp7, cp7, rfl, hc19, hc20, hc21⟩, rfl⟩
 show JL _ _ _ _ ((93, .tuple #[]) :: _) [_, _, ⟨nb2, [.nilIface, Slc nb9 0 (32*nha + tot + 29) cp7], 149, (0, 0)⟩, ⟨nb9, cu8 (((((((numK 8 rq 8) ++ numK 1 (4:UInt64) 1) ++ numK 1 (0:UInt64) 1) ++ numK 1 (bitU (chB (0:Int) (4:Int) true)) 1) ++ ((tktT pv ep k l ls bl) ++ tg)) ++ numK 2 (UInt64.ofNat nha) 2) ++ xha) ++ sp7, 5, (0, 0)⟩]
 refine AI (AC (AH (AH (AB (AA _ (AF rfl) rfl ?_)))))
 refine AI (AC (B3 _ rfl (by decide +kernel) ?_))
 refine AB (AA _ (AF rfl) rfl ?_)
 refine AA (Ptr nb1 28) (AD 28 65 1 AM rfl CU rfl rfl) rfl ?_
 refine AA (SL ahb nhb chb) (AO rfl (A0 Tryd.isAgg65 (AU 0 rfl (Seg.right 27 1 (by simp [htg]) rfl (AK (Seg.head)))))) rfl ?_
 refine A4 (A8 98 _ [false, false, true, true] [nb2, nb9] _ (AS [Ptr nb2 0, SL ahb nhb chb] Tryd.call98 rfl) rfl (fun w1 hw1 => hashesO_c nb2 nb9 (32*nha + tot + 29) cp7 (32*nha + 32*nhb + tot + 31) .nilIface (((((((numK 8 rq 8) ++ numK 1 (4:UInt64) 1) ++ numK 1 (0:UInt64) 1) ++ numK 1 (bitU (chB (0:Int) (4:Int) true)) 1) ++ ((tktT pv ep k l ls bl) ++ tg)) ++ numK 2 (UInt64.ofNat nha) 2) ++ xha) sp7 ahb nhb chb xhb w1 (hw1.ent _ (List.mem_of_getElem? (i := 2) rfl)) (hw1.ent _ (List.mem_of_getElem? (i := 3) rfl)) (hw1.ne (i := 2) (j := 3) rfl rfl (by decide)) (show (((((((numK 8 rq 8) ++ numK 1 (4:UInt64) 1) ++ numK 1 (0:UInt64) 1) ++ numK 1 (bitU (chB (0:Int) (4:Int) true)) 1) ++ ((tktT pv ep k l ls bl) ++ tg)) ++ numK 2 (UInt64.ofNat nha) 2) ++ xha).length = (32*nha + tot + 29) from (by rw [List.length_append, List.length_append, A5, (show (((((numK 8 rq 8) ++ numK 1 (4:UInt64) 1) ++ numK 1 (0:UInt64) 1) ++ numK 1 (bitU (chB (0:Int) (4:Int) true)) 1) ++ ((tktT pv ep k l ls bl) ++ tg)).length = (tot + 27) from (by rw [List.length_append, (show ((((numK 8 rq 8) ++ numK 1 (4:UInt64) 1) ++ numK 1 (0:UInt64) 1) ++ numK 1 (bitU (chB (0:Int) (4:Int) true)) 1).length = 11 from (by rw [List.length_append, (show (((numK 8 rq 8) ++ numK 1 (4:UInt64) 1) ++ numK 1 (0:UInt64) 1).length = 10 from (by rw [List.length_append, (show ((numK 8 rq 8) ++ numK 1 (4:UInt64) 1).length = 9 from (by rw [List.length_append, (show (numK 8 rq 8).length = 8 from (A5 _ _ _)), A5] <;> omega)), A5] <;> omega)), A5] <;> omega)), (show ((tktT pv ep k l ls bl) ++ tg).length = (tot + 16) from (by rw [List.length_append, ((FD hl hls).trans htot), htg]))] <;> omega)), hlha] <;> omega)) hc19 hc20 hc21 (by omega) hlhb (by omega) (by omega) (by omega) (hrhb.at (M' := [nb2, nb9]) hw1 (hw1.apart [2, 3] _ rfl)) (by omega) (by omega))) rfl ?_
 rintro v1 L1 ⟨_, ⟨rfl, nb10, sp8, cp8, rfl, hc22, hc23, hc24⟩, rfl⟩
 show JL _ _ _ _ ((98, .tuple #[]) :: _) [_, _, ⟨nb2, [.nilIface, Slc nb10 0 (32*nha + 32*nhb + tot + 31) cp8], 149, (0, 0)⟩, ⟨nb10, cu8 (((((((((numK 8 rq 8) ++ numK 1 (4:UInt64) 1) ++ numK 1 (0:UInt64) 1) ++ numK 1 (bitU (chB (0:Int) (4:Int) true)) 1) ++ ((tktT pv ep k l ls bl) ++ tg)) ++ numK 2 (UInt64.ofNat nha) 2) ++ xha) ++ numK 2 (UInt64.ofNat nhb) 2) ++ xhb) ++ sp8, 5, (0, 0)⟩]
 refine AI (AC (AH (AB (AA _ (AF rfl) rfl ?_))))
 refine A4 (CZ 83 [Ptr nb2 0] _ (AS _ EQ rfl) (fun w1 hw1 => FJ nb2 0 nb10 (32*nha + 32*nhb + tot + 31) cp8 (((((((((numK 8 rq 8) ++ numK 1 (4:UInt64) 1) ++ numK 1 (0:UInt64) 1) ++ numK 1 (bitU (chB (0:Int) (4:Int) true)) 1) ++ ((tktT pv ep k l ls bl) ++ tg)) ++ numK 2 (UInt64.ofNat nha) 2) ++ xha) ++ numK 2 (UInt64.ofNat nhb) 2) ++ xhb) w1 (RdA.of hw1 (AU 2 rfl (AQ _)) (by simp)) rfl (show (((((((((numK 8 rq 8) ++ numK 1 (4:UInt64) 1) ++ numK 1 (0:UInt64) 1) ++ numK 1 (bitU (chB (0:Int) (4:Int) true)) 1) ++ ((tktT pv ep k l ls bl) ++ tg)) ++ numK 2 (UInt64.ofNat nha) 2) ++ xha) ++ numK 2 (UInt64.ofNat nhb) 2) ++ xhb).length = (32*nha + 32*nhb + tot + 31) from (by rw [List.length_append, List.length_append, A5, (show (((((((numK 8 rq 8) ++ numK 1 (4:UInt64) 1) ++ numK 1 (0:UInt64) 1) ++ numK 1 (bitU (chB (0:Int) (4:Int) true)) 1) ++ ((tktT pv ep k l ls bl) ++ tg)) ++ numK 2 (UInt64.ofNat nha) 2) ++ xha).length = (32*nha + tot + 29) from (by rw [List.length_append, List.length_append, A5, (show (((((numK 8 rq 8) ++ numK 1 (4:UInt64) 1) ++ numK 1 (0:UInt64) 1) ++ numK 1 (bitU (chB (0:Int) (4:Int) true)) 1) ++ ((tktT pv ep k l ls bl) ++ tg)).length = (tot + 27) from (by rw [List.length_append, (show ((((numK 8 rq 8) ++ numK 1 (4:UInt64) 1) ++ numK 1 (0:UInt64) 1) ++ numK 1 (bitU (chB (0:Int) (4:Int) true)) 1).length = 11 from (by rw [List.length_append, (show (((numK 8 rq 8) ++ numK 1 (4:UInt64) 1) ++ numK 1 (0:UInt64) 1).length = 10 from (by rw [List.length_append, (show ((numK 8 rq 8) ++ numK 1 (4:UInt64) 1).length = 9 from (by rw [List.length_append, (show (numK 8 rq 8).length = 8 from (A5 _ _ _)), A5] <;> omega)), A5] <;> omega)), A5] <;> omega)), (show ((tktT pv ep k l ls bl) ++ tg).length = (tot + 16) from (by rw [List.length_append, ((FD hl hls).trans htot), htg]))] <;> omega)), hlha] <;> omega)), hlhb] <;> omega)) (by omega) (RdB.of hw1 (AU 3 rfl (AJ (AQ _))) (by simp)))) rfl ?_
 rintro v1 L1 ⟨_, ⟨nb11, sp9, cp9, rfl, rfl, hc25, hc26, hc27⟩, rfl⟩
 show JL _ _ _ _ ((100, .tuple #[Slc nb11 0 (32*nha + 32*nhb + tot + 31) cp9, .nilIface]) :: _) [_, _, _, _, ⟨nb11, cu8 (((((((((numK 8 rq 8) ++ numK 1 (4:UInt64) 1) ++ numK 1 (0:UInt64) 1) ++ numK 1 (bitU (chB (0:Int) (4:Int) true)) 1) ++ ((tktT pv ep k l ls bl) ++ tg)) ++ numK 2 (UInt64.ofNat nha) 2) ++ xha) ++ numK 2 (UInt64.ofNat nhb) 2) ++ xhb) ++ sp9, 5, (0, 0)⟩]
 refine AA _ (BE rfl rfl) rfl ?_
 refine AA _ (BE rfl rfl) rfl ?_
 refine AA _ (AE rfl) rfl ?_
 refine AA _ (AE rfl) rfl ?_
 refine AI (AC (BI (B4 [false, false, false, false, true] ?_)))
 show JQ _ _ _ _ [_]
 refine BH (.tuple #[Slc nb11 0 (32*nha + 32*nhb + tot + 31) cp9, .nilIface]) (res2 Tryd.results34 (BC rfl) (BC rfl)) fun w1 hw1 => ?_
 have hq : ((((((((numK 8 rq 8) ++ numK 1 (4:UInt64) 1) ++ numK 1 (0:UInt64) 1) ++ numK 1 (bitU (chB (0:Int) (4:Int) true)) 1) ++ ((tktT pv ep k l ls bl) ++ tg)) ++ numK 2 (UInt64.ofNat nha) 2) ++ xha) ++ numK 2 (UInt64.ofNat nhb) 2) ++ xhb = (((((((numK 8 rq 8 ++ numK 1 (4:UInt64) 1) ++ numK 1 (0:UInt64) 1) ++ numK 1 (bitU true) 1) ++ ((tktT pv ep k l ls bl) ++ tg)) ++ numK 2 (UInt64.ofNat nha) 2) ++ xha) ++ numK 2 (UInt64.ofNat nhb) 2) ++ xhb := by simp only [List.append_assoc, show chB 0 4 true = true from by decide +kernel]
 rw [hq] at hw1
 exact ⟨_, _, rfl, ⟨nb11, sp9, cp9, rfl, rfl, hc25, hc26, hc27⟩, hw1.sub (by simp) (by simp)⟩
set_option maxHeartbeats 2000000 in
theorem putRep4f_c (rq : UInt64) (aj : Option Addr) (nj cj : Nat) (lj : List ItemR) (pv ep : UInt64) (kd : Int) (ai : Option Addr) (ni ci : Nat) (l : List UInt64) (sa : Option Addr) (ns sc : Nat) (ls : List SealR) (bl : UInt64) (tg : List UInt8) (aha : Option Addr) (nha cha : Nat) (xha : List UInt8) (ahb : Option Addr) (nhb chb : Nat) (xhb : List UInt8)  (w : World) (hlj : lj.length = nj) (hnj : nj ≤ 2000000) (hdj : nj ≤ cj) (hcj : cj ≤ maxLen) (hj : RdV w aj (lj.flatMap itemC)) (hl : l.length = ni) (hnm : ni ≤ 2000000) (hnc : ni ≤ ci) (hcm : ci ≤ maxLen) (hv : RdV w ai (cu64 l)) (hls : ls.length = ns) (hnn : ns ≤ 2000000) (hnd : ns ≤ sc) (hcn : sc ≤ maxLen) (hs : RdV w sa (ls.flatMap sealC)) (htg : tg.length = 16) (hlha : xha.length = nha * 32) (hnha : nha ≤ 9000) (hdha : nha ≤ cha) (hcha : cha ≤ maxLen) (hrha : RdB w [] aha xha) (hlhb : xhb.length = nhb * 32) (hnhb : nhb ≤ 9000) (hdhb : nhb ≤ chb) (hchb : chb ≤ maxLen) (hrhb : RdB w [] ahb xhb) (hbi : ni ≤ 300) (hbs : ns ≤ 300) (hA : nha ≤ 300) (hB : nhb ≤ 8192) (hR : repR (4:Int) (0:Int) false lj (blankB pv ep kd l ls bl tg) (decide (mayN pv ep kd l ls bl = 0)) nha nhb = true)  : Calls Tryd.prog 34 #[.agg ([U64 rq, I64 4, I64 0, SL aj nj cj, .bool false, U64 pv, U64 ep, I64 (kd), SL ai ni ci, SL sa ns sc, U64 bl] ++ cu8 tg ++ [SL aha nha cha, SL ahb nhb chb]).toArray] w (Post w [] (fun v L => ∃ g sp cap, v = .tuple #[Slc g 0 (11) cap, .nilIface] ∧ L = [⟨g, cu8 (((numK 8 rq 8 ++ numK 1 (4:UInt64) 1) ++ numK 1 (0:UInt64) 1) ++ numK 1 (bitU false) 1) ++ sp, 5, (0, 0)⟩] ∧ sp.length = cap - 11 ∧ 11 ≤ cap ∧ cap ≤ maxLen)) := by
 have hmx : maxLen = 9223372036854775807 := rfl
 have hf := repR_f hlj hR
 have hn0 := c2_len0 hlj (repR_2 hR (by decide +kernel))
 refine enter (P := Tryd.prog) (f := 34) (fn := Tryd.f34) w [] 103 [] [.agg ([U64 rq, I64 4, I64 0, SL aj nj cj, .bool false, U64 pv, U64 ep, I64 (kd), SL ai ni ci, SL sa ns sc, U64 bl] ++ cu8 tg ++ [SL aha nha cha, SL ahb nhb chb]).toArray] Tryd.func34 rfl rfl (by simp) (BW (by simp) (by simp) (by simp)) ?_
 show JC _ _ _ [(0, .agg ([U64 rq, I64 4, I64 0, SL aj nj cj, .bool false, U64 pv, U64 ep, I64 (kd), SL ai ni ci, SL sa ns sc, U64 bl] ++ cu8 tg ++ [SL aha nha cha, SL ahb nhb chb]).toArray)] _
 refine AH (AB (A4 (C5 (.agg ([U64 rq, I64 4, I64 0, SL aj nj cj, .bool false, U64 pv, U64 ep, I64 (kd), SL ai ni ci, SL sa ns sc, U64 bl] ++ cu8 tg ++ [SL aha nha cha, SL ahb nhb chb]).toArray) ([U64 rq, I64 4, I64 0, SL aj nj cj, .bool false, U64 pv, U64 ep, I64 (kd), SL ai ni ci, SL sa ns sc, U64 bl] ++ cu8 tg ++ [SL aha nha cha, SL ahb nhb chb]) rfl (by first | rfl | simp)) rfl ?_))
 rintro v1 L1 ⟨nb1, hnb1, rfl, rfl⟩
 show JL _ _ _ _ ((1, Ptr nb1 0) :: _) [⟨nb1, [U64 rq, I64 4, I64 0, SL aj nj cj, .bool false, U64 pv, U64 ep, I64 (kd), SL ai ni ci, SL sa ns sc, U64 bl] ++ cu8 tg ++ [SL aha nha cha, SL ahb nhb chb], 67, (0, 0)⟩]
 refine AA _ (AE rfl) rfl ?_
 refine AA _ (AE rfl) rfl ?_
 refine AI (AC (AH (AH (AB (AA (.agg ([U64 rq, I64 4, I64 0, SL aj nj cj, .bool false, U64 pv, U64 ep, I64 (kd), SL ai ni ci, SL sa ns sc, U64 bl] ++ cu8 tg ++ [SL aha nha cha, SL ahb nhb chb]).toArray) (AO rfl (BU CC BR (by simp [htg]) (AU 0 rfl (AQ _)))) rfl ?_)))))
 refine A7 (A2 35 [.agg ([U64 rq, I64 4, I64 0, SL aj nj cj, .bool false, U64 pv, U64 ep, I64 (kd), SL ai ni ci, SL sa ns sc, U64 bl] ++ cu8 tg ++ [SL aha nha cha, SL ahb nhb chb]).toArray] (.bool (repR (4:Int) (0:Int) false lj (blankB pv ep (kd) l ls bl tg) (decide (mayN pv ep (kd) l ls bl = 0)) nha nhb)) (AS _ Tryd.call35 rfl) (fun w1 hw1 => E5 rq (4:Int) (0:Int) aj nj cj lj false pv ep (kd) ai ni ci l sa ns sc ls bl tg aha nha cha xha ahb nhb chb xhb w1 hlj (by omega) (by omega) (by omega) (C2 hw1 rfl hj) hl (by omega) (by omega) (by omega) (C2 hw1 rfl hv) hls (by omega) (by omega) (by omega) (C2 hw1 rfl hs) htg hlha (by omega) (by omega) (by omega) (hrha.at (M' := []) hw1 (by simp)) hlhb (by omega) (by omega) (by omega) (hrhb.at (M' := []) hw1 (by simp)) (by omega) (by omega))) rfl ?_
 show JL _ _ _ _ ((14, .bool (repR (4:Int) (0:Int) false lj (blankB pv ep (kd) l ls bl tg) (decide (mayN pv ep (kd) l ls bl = 0)) nha nhb)) :: _) [_]
 refine AA (.bool (!(repR (4:Int) (0:Int) false lj (blankB pv ep (kd) l ls bl tg) (decide (mayN pv ep (kd) l ls bl = 0)) nha nhb))) (DG rfl) rfl ?_
 refine AI (AC (BP _ rfl (bnotT hR) ?_))
 refine BF (AC (AH (AB (AA (.agg ([U64 rq, I64 4, I64 0, SL aj nj cj, .bool false, U64 pv, U64 ep, I64 (kd), SL ai ni ci, SL sa ns sc, U64 bl] ++ cu8 tg ++ [SL aha nha cha, SL ahb nhb chb]).toArray) (AO rfl (BU CC BR (by simp [htg]) (AU 0 rfl (AQ _)))) rfl ?_))))
 refine A7 (A2 95 [.agg ([U64 rq, I64 4, I64 0, SL aj nj cj, .bool false, U64 pv, U64 ep, I64 (kd), SL ai ni ci, SL sa ns sc, U64 bl] ++ cu8 tg ++ [SL aha nha cha, SL ahb nhb chb]).toArray] (.tuple #[.bool (itB (0:Int) (4:Int)), .bool (chB (0:Int) (4:Int) false), .bool (aB (0:Int) (4:Int) false), .bool (bB (0:Int) (4:Int) false)]) (AS _ Tryd.call95 rfl) (fun w1 hw1 => parts_c rq (4:Int) (0:Int) aj nj cj lj false pv ep (kd) ai ni ci l sa ns sc ls bl tg aha nha cha xha ahb nhb chb xhb w1 htg)) rfl ?_
 show JL _ _ _ _ ((19, .tuple #[.bool (itB (0:Int) (4:Int)), .bool (chB (0:Int) (4:Int) false), .bool (aB (0:Int) (4:Int) false), .bool (bB (0:Int) (4:Int) false)]) :: _) [_]
 refine AA _ (AF rfl) rfl ?_
 refine AA _ (BE rfl rfl) rfl ?_
 refine AA _ (BE rfl rfl) rfl ?_
 refine AA _ (BE rfl rfl) rfl ?_
 refine AA _ (BE rfl rfl) rfl ?_
 refine AA _ (AE rfl) rfl ?_
 refine AA _ (AE rfl) rfl ?_
 refine AA _ (AE rfl) rfl ?_
 refine AA _ (AE rfl) rfl ?_
 refine AI (AC (AH (AB (AA (.agg #[.nilIface, SL none 0 0]) (CP [] _ rfl (fun _ => by kernel_rfl)) rfl ?_))))
 refine A4 (C5 (.agg #[.nilIface, SL none 0 0]) ([.nilIface, SL none 0 0]) rfl (by first | rfl | simp)) rfl ?_
 rintro v1 L1 ⟨nb2, hnb2, rfl, rfl⟩
 show JL _ _ _ _ ((25, Ptr nb2 0) :: _) [_, ⟨nb2, [.nilIface, SL none 0 0], 149, (0, 0)⟩]
 refine AA _ (AE rfl) rfl ?_
 refine AI (AC (AH (DC 103 4 [(0, Ptr nb2 0), (1, Ptr nb1 0), (2, U64 rq), (4, Ptr nb1 1), (5, I64 4), (6, U64 4), (8, Ptr nb1 2), (9, I64 0), (10, U64 0)] CA rfl (by decide +kernel) ?_)))
 refine CW ⟨[], [0, 1, 2, 4, 5, 6, 8, 9, 10], [], [0, 1, 2, 4, 5, 6, 8, 9, 10], [3]⟩ 3 _ rfl rfl (by decide +kernel) rfl ⟨CG rfl rfl rfl, ⟨_, rfl, AL rfl (AD 0 22 1 AM rfl A9 rfl rfl)⟩, ⟨_, rfl, AL rfl (AO rfl (A0 BN (AU 0 rfl (AJ (AJ (Seg.head))))))⟩, ⟨_, rfl, AL rfl (AD 1 3 1 AM rfl AT rfl rfl)⟩, ⟨_, rfl, AL rfl (AO rfl (A0 AY (AU 0 rfl (AJ (AJ (AK (Seg.head)))))))⟩, ⟨_, rfl, AL rfl (CM _ _ rfl fun _ => DK (by rw [A6]; rfl) AW rfl)⟩, ⟨_, rfl, AL rfl (AD 2 3 1 AM rfl AT rfl rfl)⟩, ⟨_, rfl, AL rfl (AO rfl (A0 AY (AU 0 rfl (AJ (AJ (AK (AK (Seg.head))))))))⟩, ⟨_, rfl, AL rfl (CM _ _ rfl fun _ => DK (by rw [A6]; rfl) AW rfl)⟩, trivial⟩ rfl (BO rfl (A8 81 _ [false, true] [nb2] _ (AS [Ptr nb2 0, U64 rq, I64 8] B0 rfl) rfl (fun w1 hw1 => numN_c nb2 8 .nilIface rq 8 w1 (hw1.ent _ (List.mem_of_getElem? (i := 1) rfl)) (by unfold Szd; omega) (fun h => absurd h (by omega)) (by omega)))) ?_
 rintro v1 L1 ⟨_, ⟨rfl, nb3, sp1, cp1, rfl, hc1, hc2, hc3⟩, rfl⟩
 refine ⟨[], ?_⟩
 show DP _ _ _ _ _ _ _ _ [_, ⟨nb2, [.nilIface, Slc nb3 0 8 cp1], 149, (0, 0)⟩, ⟨nb3, cu8 (numK 8 rq 8) ++ sp1, 5, (0, 0)⟩]
 refine CW ⟨[3], [0, 1, 2, 4, 5, 6, 8, 9, 10], [0, 1, 2], [4, 5, 6, 8, 9, 10], [7]⟩ 7 _ rfl rfl (by decide +kernel) rfl ⟨⟨_, rfl, AL rfl (AD 1 3 1 AM rfl AT rfl rfl)⟩, ⟨_, rfl, AL rfl (AO rfl (A0 AY (AU 0 rfl (AJ (AJ (AK (Seg.head)))))))⟩, ⟨_, rfl, AL rfl (CM _ _ rfl fun _ => DK (by rw [A6]; rfl) AW rfl)⟩, ⟨_, rfl, AL rfl (AD 2 3 1 AM rfl AT rfl rfl)⟩, ⟨_, rfl, AL rfl (AO rfl (A0 AY (AU 0 rfl (AJ (AJ (AK (AK (Seg.head))))))))⟩, ⟨_, rfl, AL rfl (CM _ _ rfl fun _ => DK (by rw [A6]; rfl) AW rfl)⟩, trivial⟩ rfl (BO rfl (A8 81 _ [false, true, true] [nb2, nb3] _ (AS [Ptr nb2 0, U64 4, I64 1] B0 rfl) rfl (fun w1 hw1 => EO nb2 nb3 8 cp1 9 .nilIface (numK 8 rq 8) sp1 (4:UInt64) 1 w1 (hw1.ent _ (List.mem_of_getElem? (i := 1) rfl)) (hw1.ent _ (List.mem_of_getElem? (i := 2) rfl)) (hw1.ne (i := 1) (j := 2) rfl rfl (by decide)) (show (numK 8 rq 8).length = 8 from (A5 _ _ _)) hc1 hc2 hc3 (by omega) (by unfold Szd; omega) (fun _ => by decide) (by omega)))) ?_
 rintro v1 L1 ⟨_, ⟨rfl, nb4, sp2, cp2, rfl, hc4, hc5, hc6⟩, rfl⟩
 refine ⟨[], ?_⟩
 show DP _ _ _ _ _ _ _ _ [_, ⟨nb2, [.nilIface, Slc nb4 0 9 cp2], 149, (0, 0)⟩, ⟨nb4, cu8 ((numK 8 rq 8) ++ numK 1 (4:UInt64) 1) ++ sp2, 5, (0, 0)⟩]
 refine CW ⟨[3, 7], [0, 1, 2, 4, 5, 6, 8, 9, 10], [0, 1, 2, 4, 5, 6], [8, 9, 10], [11]⟩ 11 _ rfl rfl (by decide +kernel) rfl ⟨⟨_, rfl, AL rfl (AD 2 3 1 AM rfl AT rfl rfl)⟩, ⟨_, rfl, AL rfl (AO rfl (A0 AY (AU 0 rfl (AJ (AJ (AK (AK (Seg.head))))))))⟩, ⟨_, rfl, AL rfl (CM _ _ rfl fun _ => DK (by rw [A6]; rfl) AW rfl)⟩, trivial⟩ rfl (BO rfl (A8 81 _ [false, true, true] [nb2, nb4] _ (AS [Ptr nb2 0, U64 0, I64 1] B0 rfl) rfl (fun w1 hw1 => EO nb2 nb4 9 cp2 10 .nilIface ((numK 8 rq 8) ++ numK 1 (4:UInt64) 1) sp2 (0:UInt64) 1 w1 (hw1.ent _ (List.mem_of_getElem? (i := 1) rfl)) (hw1.ent _ (List.mem_of_getElem? (i := 2) rfl)) (hw1.ne (i := 1) (j := 2) rfl rfl (by decide)) (show ((numK 8 rq 8) ++ numK 1 (4:UInt64) 1).length = 9 from (by rw [List.length_append, (show (numK 8 rq 8).length = 8 from (A5 _ _ _)), A5] <;> omega)) hc4 hc5 hc6 (by omega) (by unfold Szd; omega) (fun _ => by decide) (by omega)))) ?_
 rintro v1 L1 ⟨_, ⟨rfl, nb5, sp3, cp3, rfl, hc7, hc8, hc9⟩, rfl⟩
 refine ⟨[], ?_⟩
 show DP _ _ _ _ _ _ _ _ [_, ⟨nb2, [.nilIface, Slc nb5 0 10 cp3], 149, (0, 0)⟩, ⟨nb5, cu8 (((numK 8 rq 8) ++ numK 1 (4:UInt64) 1) ++ numK 1 (0:UInt64) 1) ++ sp3, 5, (0, 0)⟩]
 refine DU ⟨[3, 7, 11], [0, 1, 2, 4, 5, 6, 8, 9, 10], [0, 1, 2, 4, 5, 6, 8, 9, 10], [], []⟩ rfl rfl (by decide +kernel) rfl trivial ?_
 refine C6 (F' := [(1, Ptr nb1 0), (2, SL none 0 0), (3, .nilIface), (4, .bool (itB (0:Int) (4:Int))), (5, .bool (chB (0:Int) (4:Int) false)), (6, .bool (aB (0:Int) (4:Int) false)), (7, .bool (bB (0:Int) (4:Int) false)), (8, Ptr nb2 0)]) (by kernel_rfl) ?_
 refine AC (AH (AH (AB (AA _ (AF rfl) rfl ?_))))
 refine AI (AC (BP _ rfl (by decide +kernel) ?_))
 refine BF (AC (AH (AH (AB (AA (Ptr nb1 3) (AD 3 64 1 AM rfl CX rfl rfl) rfl ?_)))))
 refine AA (SL aj nj cj) (AO rfl (A0 D1 (AU 0 rfl (AJ (AJ (AK (AK (AK (Seg.head))))))))) rfl ?_
 refine AA (I64 nj) (DY CE rfl) rfl ?_
 refine AA _ (AF rfl) rfl ?_
 refine AI (AC (B5 (EM (ι := Unit) (fun _ => [(1, Ptr nb1 0), (2, SL none 0 0), (3, .nilIface), (5, .bool (chB (0:Int) (4:Int) false)), (6, .bool (aB (0:Int) (4:Int) false)), (7, .bool (bB (0:Int) (4:Int) false)), (8, Ptr nb2 0), (47, SL aj nj cj), (48, I64 nj), (49, I64 0)]) (fun _ => [⟨nb1, [U64 rq, I64 4, I64 0, SL aj nj cj, .bool false, U64 pv, U64 ep, I64 (kd), SL ai ni ci, SL sa ns sc, U64 bl] ++ cu8 tg ++ [SL aha nha cha, SL ahb nhb chb], 67, (0, 0)⟩, ⟨nb2, [.nilIface, Slc nb5 0 10 cp3], 149, (0, 0)⟩, ⟨nb5, cu8 (((numK 8 rq 8) ++ numK 1 (4:UInt64) 1) ++ numK 1 (0:UInt64) 1) ++ sp3, 5, (0, 0)⟩]) (fun _ => True) (fun _ => 1) () trivial (Sub.all rfl) rfl ?_)))
 rintro _ _
 show JC _ _ _ [(1, Ptr nb1 0), (2, SL none 0 0), (3, .nilIface), (5, .bool (chB (0:Int) (4:Int) false)), (6, .bool (aB (0:Int) (4:Int) false)), (7, .bool (bB (0:Int) (4:Int) false)), (8, Ptr nb2 0), (47, SL aj nj cj), (48, I64 nj), (49, I64 0)] [⟨nb1, [U64 rq, I64 4, I64 0, SL aj nj cj, .bool false, U64 pv, U64 ep, I64 (kd), SL ai ni ci, SL sa ns sc, U64 bl] ++ cu8 tg ++ [SL aha nha cha, SL ahb nhb chb], 67, (0, 0)⟩, ⟨nb2, [.nilIface, Slc nb5 0 10 cp3], 149, (0, 0)⟩, ⟨nb5, cu8 (((numK 8 rq 8) ++ numK 1 (4:UInt64) 1) ++ numK 1 (0:UInt64) 1) ++ sp3, 5, (0, 0)⟩]
 refine AH (AB (AA (.bool (decide ((0:Int) < ((nj:Int))))) (AR rfl rfl fun _ => CH _ _) rfl ?_))
 refine AI (AC (AH (BP _ rfl (decide_eq_false (by omega)) ?_)))
 refine ED (BJ (BJ (C1 (AC (AH (AH (AB (AA (Ptr nb1 2) (AD 2 3 1 AM rfl AT rfl rfl) rfl ?_))))))))
 refine AA (I64 0) (AO rfl (A0 AY (AU 0 rfl (AJ (AJ (AK (AK (Seg.head)))))))) rfl ?_
 refine AA (.bool (decide ((0:Int) = (0:Int)))) (AR rfl rfl fun _ => BK _ _) rfl ?_
 refine AA _ (AF rfl) rfl ?_
 refine AP 3 68 true _ (Ptr nb1 1) rfl rfl (by decide) (AD 1 3 1 AM rfl AT rfl rfl) rfl ?_
 refine AP 3 68 true _ (I64 4) rfl rfl (by decide) (AO rfl (A0 AY (AU 0 rfl (AJ (AJ (AK (Seg.head))))))) rfl ?_
 refine AP 3 68 true _ (.bool (decide ((4:Int) = (4:Int)))) rfl rfl (by decide) (AR rfl rfl fun _ => BK _ _) rfl ?_
 refine AA _ (BD _ rfl (by decide) rfl) rfl ?_
 refine AI (AC (B3 _ rfl (by decide) ?_))
 refine AB (AA _ (AF rfl) rfl ?_)
 refine AA _ (AF rfl) rfl ?_
 refine A4 (A8 96 _ [false, true, true] [nb2, nb5] _ (AS [Ptr nb2 0, .bool (chB (0:Int) (4:Int) false)] Tryd.call96 rfl) rfl (fun w1 hw1 => flagO_c nb2 nb5 10 cp3 11 .nilIface (((numK 8 rq 8) ++ numK 1 (4:UInt64) 1) ++ numK 1 (0:UInt64) 1) sp3 (chB (0:Int) (4:Int) false) w1 (hw1.ent _ (List.mem_of_getElem? (i := 1) rfl)) (hw1.ent _ (List.mem_of_getElem? (i := 2) rfl)) (hw1.ne (i := 1) (j := 2) rfl rfl (by decide)) (show (((numK 8 rq 8) ++ numK 1 (4:UInt64) 1) ++ numK 1 (0:UInt64) 1).length = 10 from (by rw [List.length_append, (show ((numK 8 rq 8) ++ numK 1 (4:UInt64) 1).length = 9 from (by rw [List.length_append, (show (numK 8 rq 8).length = 8 from (A5 _ _ _)), A5] <;> omega)), A5] <;> omega)) hc7 hc8 hc9 (by omega) (by omega))) rfl ?_
 rintro v1 L1 ⟨_, ⟨rfl, nb6, sp4, cp4, rfl, hc10, hc11, hc12⟩, rfl⟩
 show JL _ _ _ _ ((75, Ptr nb2 0) :: _) [_, ⟨nb2, [.nilIface, Slc nb6 0 11 cp4], 149, (0, 0)⟩, ⟨nb6, cu8 ((((numK 8 rq 8) ++ numK 1 (4:UInt64) 1) ++ numK 1 (0:UInt64) 1) ++ numK 1 (bitU (chB (0:Int) (4:Int) false)) 1) ++ sp4, 5, (0, 0)⟩]
 refine AI (AC (AH (AH (AB (AA _ (AF rfl) rfl ?_)))))
 refine AI (AC (BP _ rfl (by decide +kernel) ?_))
 refine BF (AC (AH (AH (AB (AA _ (AF rfl) rfl ?_)))))
 refine AI (AC (BP _ rfl (by decide +kernel) ?_))
 refine BF (AC (AH (AH (AB (AA _ (AF rfl) rfl ?_)))))
 refine AI (AC (BP _ rfl (by decide +kernel) ?_))
 refine BF (AC (AH (AB (AA _ (AF rfl) rfl ?_))))
 refine A4 (CZ 83 [Ptr nb2 0] _ (AS _ EQ rfl) (fun w1 hw1 => FJ nb2 0 nb6 11 cp4 ((((numK 8 rq 8) ++ numK 1 (4:UInt64) 1) ++ numK 1 (0:UInt64) 1) ++ numK 1 (bitU (chB (0:Int) (4:Int) false)) 1) w1 (RdA.of hw1 (AU 1 rfl (AQ _)) (by simp)) rfl (show ((((numK 8 rq 8) ++ numK 1 (4:UInt64) 1) ++ numK 1 (0:UInt64) 1) ++ numK 1 (bitU (chB (0:Int) (4:Int) false)) 1).length = 11 from (by rw [List.length_append, (show (((numK 8 rq 8) ++ numK 1 (4:UInt64) 1) ++ numK 1 (0:UInt64) 1).length = 10 from (by rw [List.length_append, (show ((numK 8 rq 8) ++ numK 1 (4:UInt64) 1).length = 9 from (by rw [List.length_append, (show (numK 8 rq 8).length = 8 from (A5 _ _ _)), A5] <;> omega)), A5] <;> omega)), A5] <;> omega)) (by omega) (RdB.of hw1 (AU 2 rfl (AJ (AQ _))) (by simp)))) rfl ?_
 rintro v1 L1 ⟨_, ⟨nb7, sp5, cp5, rfl, rfl, hc13, hc14, hc15⟩, rfl⟩
 show JL _ _ _ _ ((100, .tuple #[Slc nb7 0 11 cp5, .nilIface]) :: _) [_, _, _, ⟨nb7, cu8 ((((numK 8 rq 8) ++ numK 1 (4:UInt64) 1) ++ numK 1 (0:UInt64) 1) ++ numK 1 (bitU (chB (0:Int) (4:Int) false)) 1) ++ sp5, 5, (0, 0)⟩]
 refine AA _ (BE rfl rfl) rfl ?_
 refine AA _ (BE rfl rfl) rfl ?_
 refine AA _ (AE rfl) rfl ?_
 refine AA _ (AE rfl) rfl ?_
 refine AI (AC (BI (B4 [false, false, false, true] ?_)))
 show JQ _ _ _ _ [_]
 refine BH (.tuple #[Slc nb7 0 11 cp5, .nilIface]) (res2 Tryd.results34 (BC rfl) (BC rfl)) fun w1 hw1 => ?_
 have hq : (((numK 8 rq 8) ++ numK 1 (4:UInt64) 1) ++ numK 1 (0:UInt64) 1) ++ numK 1 (bitU (chB (0:Int) (4:Int) false)) 1 = ((numK 8 rq 8 ++ numK 1 (4:UInt64) 1) ++ numK 1 (0:UInt64) 1) ++ numK 1 (bitU false) 1 := by simp only [List.append_assoc, show chB 0 4 false = false from by decide +kernel]
 rw [hq] at hw1
 exact ⟨_, _, rfl, ⟨nb7, sp5, cp5, rfl, rfl, hc13, hc14, hc15⟩, hw1.sub (by simp) (by simp)⟩
set_option maxHeartbeats 2000000 in
theorem putRep5_c (rq : UInt64) (aj : Option Addr) (nj cj : Nat) (lj : List ItemR) (th : Bool) (pv ep : UInt64) (kd : Int) (ai : Option Addr) (ni ci : Nat) (l : List UInt64) (sa : Option Addr) (ns sc : Nat) (ls : List SealR) (bl : UInt64) (tg : List UInt8) (aha : Option Addr) (nha cha : Nat) (xha : List UInt8) (ahb : Option Addr) (nhb chb : Nat) (xhb : List UInt8)  (w : World) (hlj : lj.length = nj) (hnj : nj ≤ 2000000) (hdj : nj ≤ cj) (hcj : cj ≤ maxLen) (hj : RdV w aj (lj.flatMap itemC)) (hl : l.length = ni) (hnm : ni ≤ 2000000) (hnc : ni ≤ ci) (hcm : ci ≤ maxLen) (hv : RdV w ai (cu64 l)) (hls : ls.length = ns) (hnn : ns ≤ 2000000) (hnd : ns ≤ sc) (hcn : sc ≤ maxLen) (hs : RdV w sa (ls.flatMap sealC)) (htg : tg.length = 16) (hlha : xha.length = nha * 32) (hnha : nha ≤ 9000) (hdha : nha ≤ cha) (hcha : cha ≤ maxLen) (hrha : RdB w [] aha xha) (hlhb : xhb.length = nhb * 32) (hnhb : nhb ≤ 9000) (hdhb : nhb ≤ chb) (hchb : chb ≤ maxLen) (hrhb : RdB w [] ahb xhb) (hbi : ni ≤ 300) (hbs : ns ≤ 300) (hA : nha ≤ 300) (hB : nhb ≤ 8192) (hR : repR (5:Int) (0:Int) th lj (blankB pv ep kd l ls bl tg) (decide (mayN pv ep kd l ls bl = 0)) nha nhb = true)  : Calls Tryd.prog 34 #[.agg ([U64 rq, I64 5, I64 0, SL aj nj cj, .bool th, U64 pv, U64 ep, I64 (kd), SL ai ni ci, SL sa ns sc, U64 bl] ++ cu8 tg ++ [SL aha nha cha, SL ahb nhb chb]).toArray] w (Post w [] (fun v L => ∃ g sp cap, v = .tuple #[Slc g 0 (10) cap, .nilIface] ∧ L = [⟨g, cu8 ((numK 8 rq 8 ++ numK 1 (5:UInt64) 1) ++ numK 1 (0:UInt64) 1) ++ sp, 5, (0, 0)⟩] ∧ sp.length = cap - 10 ∧ 10 ≤ cap ∧ cap ≤ maxLen)) := by
 have hmx : maxLen = 9223372036854775807 := rfl
 have hf := repR_f hlj hR
 have hn0 := c2_len0 hlj (repR_2 hR (by decide +kernel))
 refine enter (P := Tryd.prog) (f := 34) (fn := Tryd.f34) w [] 103 [] [.agg ([U64 rq, I64 5, I64 0, SL aj nj cj, .bool th, U64 pv, U64 ep, I64 (kd), SL ai ni ci, SL sa ns sc, U64 bl] ++ cu8 tg ++ [SL aha nha cha, SL ahb nhb chb]).toArray] Tryd.func34 rfl rfl (by simp) (BW (by simp) (by simp) (by simp)) ?_
 show JC _ _ _ [(0, .agg ([U64 rq, I64 5, I64 0, SL aj nj cj, .bool th, U64 pv, U64 ep, I64 (kd), SL ai ni ci, SL sa ns sc, U64 bl] ++ cu8 tg ++ [SL aha nha cha, SL ahb nhb chb]).toArray)] _
 refine AH (AB (A4 (C5 (.agg ([U64 rq, I64 5, I64 0, SL aj nj cj, .bool th, U64 pv, U64 ep, I64 (kd), SL ai ni ci, SL sa ns sc, U64 bl] ++ cu8 tg ++ [SL aha nha cha, SL ahb nhb chb]).toArray) ([U64 rq, I64 5, I64 0, SL aj nj cj, .bool th, U64 pv, U64 ep, I64 (kd), SL ai ni ci, SL sa ns sc, U64 bl] ++ cu8 tg ++ [SL aha nha cha, SL ahb nhb chb]) rfl (by first | rfl | simp)) rfl ?_))
 rintro v1 L1 ⟨nb1, hnb1, rfl, rfl⟩
 show JL _ _ _ _ ((1, Ptr nb1 0) :: _) [⟨nb1, [U64 rq, I64 5, I64 0, SL aj nj cj, .bool th, U64 pv, U64 ep, I64 (kd), SL ai ni ci, SL sa ns sc, U64 bl] ++ cu8 tg ++ [SL aha nha cha, SL ahb nhb chb], 67, (0, 0)⟩]
 refine AA _ (AE rfl) rfl ?_
 refine AA _ (AE rfl) rfl ?_
 refine AI (AC (AH (AH (AB (AA (.agg ([U64 rq, I64 5, I64 0, SL aj nj cj, .bool th, U64 pv, U64 ep, I64 (kd), SL ai ni ci, SL sa ns sc, U64 bl] ++ cu8 tg ++ [SL aha nha cha, SL ahb nhb chb]).toArray) (AO rfl (BU CC BR (by simp [htg]) (AU 0 rfl (AQ _)))) rfl ?_)))))
 refine A7 (A2 35 [.agg ([U64 rq, I64 5, I64 0, SL aj nj cj, .bool th, U64 pv, U64 ep, I64 (kd), SL ai ni ci, SL sa ns sc, U64 bl] ++ cu8 tg ++ [SL aha nha cha, SL ahb nhb chb]).toArray] (.bool (repR (5:Int) (0:Int) th lj (blankB pv ep (kd) l ls bl tg) (decide (mayN pv ep (kd) l ls bl = 0)) nha nhb)) (AS _ Tryd.call35 rfl) (fun w1 hw1 => E5 rq (5:Int) (0:Int) aj nj cj lj th pv ep (kd) ai ni ci l sa ns sc ls bl tg aha nha cha xha ahb nhb chb xhb w1 hlj (by omega) (by omega) (by omega) (C2 hw1 rfl hj) hl (by omega) (by omega) (by omega) (C2 hw1 rfl hv) hls (by omega) (by omega) (by omega) (C2 hw1 rfl hs) htg hlha (by omega) (by omega) (by omega) (hrha.at (M' := []) hw1 (by simp)) hlhb (by omega) (by omega) (by omega) (hrhb.at (M' := []) hw1 (by simp)) (by omega) (by omega))) rfl ?_
 show JL _ _ _ _ ((14, .bool (repR (5:Int) (0:Int) th lj (blankB pv ep (kd) l ls bl tg) (decide (mayN pv ep (kd) l ls bl = 0)) nha nhb)) :: _) [_]
 refine AA (.bool (!(repR (5:Int) (0:Int) th lj (blankB pv ep (kd) l ls bl tg) (decide (mayN pv ep (kd) l ls bl = 0)) nha nhb))) (DG rfl) rfl ?_
 refine AI (AC (BP _ rfl (bnotT hR) ?_))
 refine BF (AC (AH (AB (AA (.agg ([U64 rq, I64 5, I64 0, SL aj nj cj, .bool th, U64 pv, U64 ep, I64 (kd), SL ai ni ci, SL sa ns sc, U64 bl] ++ cu8 tg ++ [SL aha nha cha, SL ahb nhb chb]).toArray) (AO rfl (BU CC BR (by simp [htg]) (AU 0 rfl (AQ _)))) rfl ?_))))
 refine A7 (A2 95 [.agg ([U64 rq, I64 5, I64 0, SL aj nj cj, .bool th, U64 pv, U64 ep, I64 (kd), SL ai ni ci, SL sa ns sc, U64 bl] ++ cu8 tg ++ [SL aha nha cha, SL ahb nhb chb]).toArray] (.tuple #[.bool (itB (0:Int) (5:Int)), .bool (chB (0:Int) (5:Int) th), .bool (aB (0:Int) (5:Int) th), .bool (bB (0:Int) (5:Int) th)]) (AS _ Tryd.call95 rfl) (fun w1 hw1 => parts_c rq (5:Int) (0:Int) aj nj cj lj th pv ep (kd) ai ni ci l sa ns sc ls bl tg aha nha cha xha ahb nhb chb xhb w1 htg)) rfl ?_
 show JL _ _ _ _ ((19, .tuple #[.bool (itB (0:Int) (5:Int)), .bool (chB (0:Int) (5:Int) th), .bool (aB (0:Int) (5:Int) th), .bool (bB (0:Int) (5:Int) th)]) :: _) [_]
 refine AA _ (AF rfl) rfl ?_
 refine AA _ (BE rfl rfl) rfl ?_
 refine AA _ (BE rfl rfl) rfl ?_
 refine AA _ (BE rfl rfl) rfl ?_
 refine AA _ (BE rfl rfl) rfl ?_
 refine AA _ (AE rfl) rfl ?_
 refine AA _ (AE rfl) rfl ?_
 refine AA _ (AE rfl) rfl ?_
 refine AA _ (AE rfl) rfl ?_
 refine AI (AC (AH (AB (AA (.agg #[.nilIface, SL none 0 0]) (CP [] _ rfl (fun _ => by kernel_rfl)) rfl ?_))))
 refine A4 (C5 (.agg #[.nilIface, SL none 0 0]) ([.nilIface, SL none 0 0]) rfl (by first | rfl | simp)) rfl ?_
 rintro v1 L1 ⟨nb2, hnb2, rfl, rfl⟩
 show JL _ _ _ _ ((25, Ptr nb2 0) :: _) [_, ⟨nb2, [.nilIface, SL none 0 0], 149, (0, 0)⟩]
 refine AA _ (AE rfl) rfl ?_
 refine AI (AC (AH (DC 103 4 [(0, Ptr nb2 0), (1, Ptr nb1 0), (2, U64 rq), (4, Ptr nb1 1), (5, I64 5), (6, U64 5), (8, Ptr nb1 2), (9, I64 0), (10, U64 0)] CA rfl (by decide +kernel) ?_)))
 refine CW ⟨[], [0, 1, 2, 4, 5, 6, 8, 9, 10], [], [0, 1, 2, 4, 5, 6, 8, 9, 10], [3]⟩ 3 _ rfl rfl (by decide +kernel) rfl ⟨CG rfl rfl rfl, ⟨_, rfl, AL rfl (AD 0 22 1 AM rfl A9 rfl rfl)⟩, ⟨_, rfl, AL rfl (AO rfl (A0 BN (AU 0 rfl (AJ (AJ (Seg.head))))))⟩, ⟨_, rfl, AL rfl (AD 1 3 1 AM rfl AT rfl rfl)⟩, ⟨_, rfl, AL rfl (AO rfl (A0 AY (AU 0 rfl (AJ (AJ (AK (Seg.head)))))))⟩, ⟨_, rfl, AL rfl (CM _ _ rfl fun _ => DK (by rw [A6]; rfl) AW rfl)⟩, ⟨_, rfl, AL rfl (AD 2 3 1 AM rfl AT rfl rfl)⟩, ⟨_, rfl, AL rfl (AO rfl (A0 AY (AU 0 rfl (AJ (AJ (AK (AK (Seg.head))))))))⟩, ⟨_, rfl, AL rfl (CM _ _ rfl fun _ => DK (by rw [A6]; rfl) AW rfl)⟩, trivial⟩ rfl (BO rfl (A8 81 _ [false, true] [nb2] _ (AS [Ptr nb2 0, U64 rq, I64 8] B0 rfl) rfl (fun w1 hw1 => numN_c nb2 8 .nilIface rq 8 w1 (hw1.ent _ (List.mem_of_getElem? (i := 1) rfl)) (by unfold Szd; omega) (fun h => absurd h (by omega)) (by omega)))) ?_
 rintro v1 L1 ⟨_, ⟨rfl, nb3, sp1, cp1, rfl, hc1, hc2, hc3⟩, rfl⟩
 refine ⟨[], ?_⟩
 show DP _ _ _ _ _ _ _ _ [_, ⟨nb2, [.nilIface, Slc nb3 0 8 cp1], 149, (0, 0)⟩, ⟨nb3, cu8 (numK 8 rq 8) ++ sp1, 5, (0, 0)⟩]
 refine CW ⟨[3], [0, 1, 2, 4, 5, 6, 8, 9, 10], [0, 1, 2], [4, 5, 6, 8, 9, 10], [7]⟩ 7 _ rfl rfl (by decide +kernel) rfl ⟨⟨_, rfl, AL rfl (AD 1 3 1 AM rfl AT rfl rfl)⟩, ⟨_, rfl, AL rfl (AO rfl (A0 AY (AU 0 rfl (AJ (AJ (AK (Seg.head)))))))⟩, ⟨_, rfl, AL rfl (CM _ _ rfl fun _ => DK (by rw [A6]; rfl) AW rfl)⟩, ⟨_, rfl, AL rfl (AD 2 3 1 AM rfl AT rfl rfl)⟩, ⟨_, rfl, AL rfl (AO rfl (A0 AY (AU 0 rfl (AJ (AJ (AK (AK (Seg.head))))))))⟩, ⟨_, rfl, AL rfl (CM _ _ rfl fun _ => DK (by rw [A6]; rfl) AW rfl)⟩, trivial⟩ rfl (BO rfl (A8 81 _ [false, true, true] [nb2, nb3] _ (AS [Ptr nb2 0, U64 5, I64 1] B0 rfl) rfl (fun w1 hw1 => EO nb2 nb3 8 cp1 9 .nilIface (numK 8 rq 8) sp1 (5:UInt64) 1 w1 (hw1.ent _ (List.mem_of_getElem? (i := 1) rfl)) (hw1.ent _ (List.mem_of_getElem? (i := 2) rfl)) (hw1.ne (i := 1) (j := 2) rfl rfl (by decide)) (show (numK 8 rq 8).length = 8 from (A5 _ _ _)) hc1 hc2 hc3 (by omega) (by unfold Szd; omega) (fun _ => by decide) (by omega)))) ?_
 rintro v1 L1 ⟨_, ⟨rfl, nb4, sp2, cp2, rfl, hc4, hc5, hc6⟩, rfl⟩
 refine ⟨[], ?_⟩
 show DP _ _ _ _ _ _ _ _ [_, ⟨nb2, [.nilIface, Slc nb4 0 9 cp2], 149, (0, 0)⟩, ⟨nb4, cu8 ((numK 8 rq 8) ++ numK 1 (5:UInt64) 1) ++ sp2, 5, (0, 0)⟩]
 refine CW ⟨[3, 7], [0, 1, 2, 4, 5, 6, 8, 9, 10], [0, 1, 2, 4, 5, 6], [8, 9, 10], [11]⟩ 11 _ rfl rfl (by decide +kernel) rfl ⟨⟨_, rfl, AL rfl (AD 2 3 1 AM rfl AT rfl rfl)⟩, ⟨_, rfl, AL rfl (AO rfl (A0 AY (AU 0 rfl (AJ (AJ (AK (AK (Seg.head))))))))⟩, ⟨_, rfl, AL rfl (CM _ _ rfl fun _ => DK (by rw [A6]; rfl) AW rfl)⟩, trivial⟩ rfl (BO rfl (A8 81 _ [false, true, true] [nb2, nb4] _ (AS [Ptr nb2 0, U64 0, I64 1] B0 rfl) rfl (fun w1 hw1 => EO nb2 nb4 9 cp2 10 .nilIface ((numK 8 rq 8) ++ numK 1 (5:UInt64) 1) sp2 (0:UInt64) 1 w1 (hw1.ent _ (List.mem_of_getElem? (i := 1) rfl)) (hw1.ent _ (List.mem_of_getElem? (i := 2) rfl)) (hw1.ne (i := 1) (j := 2) rfl rfl (by decide)) (show ((numK 8 rq 8) ++ numK 1 (5:UInt64) 1).length = 9 from (by rw [List.length_append, (show (numK 8 rq 8).length = 8 from (A5 _ _ _)), A5] <;> omega)) hc4 hc5 hc6 (by omega) (by unfold Szd; omega) (fun _ => by decide) (by omega)))) ?_
 rintro v1 L1 ⟨_, ⟨rfl, nb5, sp3, cp3, rfl, hc7, hc8, hc9⟩, rfl⟩
 refine ⟨[], ?_⟩
 show DP _ _ _ _ _ _ _ _ [_, ⟨nb2, [.nilIface, Slc nb5 0 10 cp3], 149, (0, 0)⟩, ⟨nb5, cu8 (((numK 8 rq 8) ++ numK 1 (5:UInt64) 1) ++ numK 1 (0:UInt64) 1) ++ sp3, 5, (0, 0)⟩]
 refine DU ⟨[3, 7, 11], [0, 1, 2, 4, 5, 6, 8, 9, 10], [0, 1, 2, 4, 5, 6, 8, 9, 10], [], []⟩ rfl rfl (by decide +kernel) rfl trivial ?_
 refine C6 (F' := [(1, Ptr nb1 0), (2, SL none 0 0), (3, .nilIface), (4, .bool (itB (0:Int) (5:Int))), (5, .bool (chB (0:Int) (5:Int) th)), (6, .bool (aB (0:Int) (5:Int) th)), (7, .bool (bB (0:Int) (5:Int) th)), (8, Ptr nb2 0)]) (by kernel_rfl) ?_
 refine AC (AH (AH (AB (AA _ (AF rfl) rfl ?_))))
 refine AI (AC (BP _ rfl (by decide +kernel) ?_))
 refine BF (AC (AH (AH (AB (AA (Ptr nb1 3) (AD 3 64 1 AM rfl CX rfl rfl) rfl ?_)))))
 refine AA (SL aj nj cj) (AO rfl (A0 D1 (AU 0 rfl (AJ (AJ (AK (AK (AK (Seg.head))))))))) rfl ?_
 refine AA (I64 nj) (DY CE rfl) rfl ?_
 refine AA _ (AF rfl) rfl ?_
 refine AI (AC (B5 (EM (ι := Unit) (fun _ => [(1, Ptr nb1 0), (2, SL none 0 0), (3, .nilIface), (5, .bool (chB (0:Int) (5:Int) th)), (6, .bool (aB (0:Int) (5:Int) th)), (7, .bool (bB (0:Int) (5:Int) th)), (8, Ptr nb2 0), (47, SL aj nj cj), (48, I64 nj), (49, I64 0)]) (fun _ => [⟨nb1, [U64 rq, I64 5, I64 0, SL aj nj cj, .bool th, U64 pv, U64 ep, I64 (kd), SL ai ni ci, SL sa ns sc, U64 bl] ++ cu8 tg ++ [SL aha nha cha, SL ahb nhb chb], 67, (0, 0)⟩, ⟨nb2, [.nilIface, Slc nb5 0 10 cp3], 149, (0, 0)⟩, ⟨nb5, cu8 (((numK 8 rq 8) ++ numK 1 (5:UInt64) 1) ++ numK 1 (0:UInt64) 1) ++ sp3, 5, (0, 0)⟩]) (fun _ => True) (fun _ => 1) () trivial (Sub.all rfl) rfl ?_)))
 rintro _ _
 show JC _ _ _ [(1, Ptr nb1 0), (2, SL none 0 0), (3, .nilIface), (5, .bool (chB (0:Int) (5:Int) th)), (6, .bool (aB (0:Int) (5:Int) th)), (7, .bool (bB (0:Int) (5:Int) th)), (8, Ptr nb2 0), (47, SL aj nj cj), (48, I64 nj), (49, I64 0)] [⟨nb1, [U64 rq, I64 5, I64 0, SL aj nj cj, .bool th, U64 pv, U64 ep, I64 (kd), SL ai ni ci, SL sa ns sc, U64 bl] ++ cu8 tg ++ [SL aha nha cha, SL ahb nhb chb], 67, (0, 0)⟩, ⟨nb2, [.nilIface, Slc nb5 0 10 cp3], 149, (0, 0)⟩, ⟨nb5, cu8 (((numK 8 rq 8) ++ numK 1 (5:UInt64) 1) ++ numK 1 (0:UInt64) 1) ++ sp3, 5, (0, 0)⟩]
 refine AH (AB (AA (.bool (decide ((0:Int) < ((nj:Int))))) (AR rfl rfl fun _ => CH _ _) rfl ?_))
 refine AI (AC (AH (BP _ rfl (decide_eq_false (by omega)) ?_)))
 refine ED (BJ (BJ (C1 (AC (AH (AH (AB (AA (Ptr nb1 2) (AD 2 3 1 AM rfl AT rfl rfl) rfl ?_))))))))
 refine AA (I64 0) (AO rfl (A0 AY (AU 0 rfl (AJ (AJ (AK (AK (Seg.head)))))))) rfl ?_
 refine AA (.bool (decide ((0:Int) = (0:Int)))) (AR rfl rfl fun _ => BK _ _) rfl ?_
 refine AA _ (AF rfl) rfl ?_
 refine AP 3 68 true _ (Ptr nb1 1) rfl rfl (by decide) (AD 1 3 1 AM rfl AT rfl rfl) rfl ?_
 refine AP 3 68 true _ (I64 5) rfl rfl (by decide) (AO rfl (A0 AY (AU 0 rfl (AJ (AJ (AK (Seg.head))))))) rfl ?_
 refine AP 3 68 true _ (.bool (decide ((5:Int) = (4:Int)))) rfl rfl (by decide) (AR rfl rfl fun _ => BK _ _) rfl ?_
 refine AA _ (BD _ rfl (by decide) rfl) rfl ?_
 refine AI (AC (BP _ rfl (by decide) ?_))
 refine BF (AC (AH (AH (AB (AA _ (AF rfl) rfl ?_)))))
 refine AI (AC (BP _ rfl ((by decide +kernel : ∀ t : Bool, (chB (0:Int) (5:Int) t) = false) th) ?_))
 refine BF (AC (AH (AH (AB (AA _ (AF rfl) rfl ?_)))))
 refine AI (AC (BP _ rfl ((by decide +kernel : ∀ t : Bool, (aB (0:Int) (5:Int) t) = false) th) ?_))
 refine BF (AC (AH (AH (AB (AA _ (AF rfl) rfl ?_)))))
 refine AI (AC (BP _ rfl ((by decide +kernel : ∀ t : Bool, (bB (0:Int) (5:Int) t) = false) th) ?_))
 refine BF (AC (AH (AB (AA _ (AF rfl) rfl ?_))))
 refine A4 (CZ 83 [Ptr nb2 0] _ (AS _ EQ rfl) (fun w1 hw1 => FJ nb2 0 nb5 10 cp3 (((numK 8 rq 8) ++ numK 1 (5:UInt64) 1) ++ numK 1 (0:UInt64) 1) w1 (RdA.of hw1 (AU 1 rfl (AQ _)) (by simp)) rfl (show (((numK 8 rq 8) ++ numK 1 (5:UInt64) 1) ++ numK 1 (0:UInt64) 1).length = 10 from (by rw [List.length_append, (show ((numK 8 rq 8) ++ numK 1 (5:UInt64) 1).length = 9 from (by rw [List.length_append, (show (numK 8 rq 8).length = 8 from (A5 _ _ _)), A5] <;> omega)), A5] <;> omega)) (by omega) (RdB.of hw1 (AU 2 rfl (AJ (AQ _))) (by simp)))) rfl ?_
 rintro v1 L1 ⟨_, ⟨nb6, sp4, cp4, rfl, rfl, hc10, hc11, hc12⟩, rfl⟩
 show JL _ _ _ _ ((100, .tuple #[Slc nb6 0 10 cp4, .nilIface]) :: _) [_, _, _, ⟨nb6, cu8 (((numK 8 rq 8) ++ numK 1 (5:UInt64) 1) ++ numK 1 (0:UInt64) 1) ++ sp4, 5, (0, 0)⟩]
 refine AA _ (BE rfl rfl) rfl ?_
 refine AA _ (BE rfl rfl) rfl ?_
 refine AA _ (AE rfl) rfl ?_
 refine AA _ (AE rfl) rfl ?_
 refine AI (AC (BI (B4 [false, false, false, true] ?_)))
 show JQ _ _ _ _ [_]
 refine BH (.tuple #[Slc nb6 0 10 cp4, .nilIface]) (res2 Tryd.results34 (BC rfl) (BC rfl)) fun w1 hw1 => ?_
 skip
 exact ⟨_, _, rfl, ⟨nb6, sp4, cp4, rfl, rfl, hc10, hc11, hc12⟩, hw1.sub (by simp) (by simp)⟩
attribute [local irreducible] repT LargeQ
theorem putRep_w (rq : UInt64) (rk er : Int) (aj : Option Addr) (nj cj : Nat) (lj : List ItemR) (th : Bool) (pv ep : UInt64) (kd : Int) (ai : Option Addr) (ni ci : Nat) (l : List UInt64) (sa : Option Addr) (ns sc : Nat) (ls : List SealR) (bl : UInt64) (tg : List UInt8) (aha : Option Addr) (nha cha : Nat) (xha : List UInt8) (ahb : Option Addr) (nhb chb : Nat) (xhb : List UInt8) (n : Nat) (w : World) (hlj : lj.length = nj) (hnj : nj ≤ 2000000) (hdj : nj ≤ cj) (hcj : cj ≤ maxLen) (hj : RdV w aj (lj.flatMap itemC)) (hl : l.length = ni) (hnm : ni ≤ 2000000) (hnc : ni ≤ ci) (hcm : ci ≤ maxLen) (hv : RdV w ai (cu64 l)) (hls : ls.length = ns) (hnn : ns ≤ 2000000) (hnd : ns ≤ sc) (hcn : sc ≤ maxLen) (hs : RdV w sa (ls.flatMap sealC)) (htg : tg.length = 16) (hlha : xha.length = nha * 32) (hnha : nha ≤ 9000) (hdha : nha ≤ cha) (hcha : cha ≤ maxLen) (hrha : RdB w [] aha xha) (hlhb : xhb.length = nhb * 32) (hnhb : nhb ≤ 9000) (hdhb : nhb ≤ chb) (hchb : chb ≤ maxLen) (hrhb : RdB w [] ahb xhb) (hbi : ni ≤ 300) (hbs : ns ≤ 300) (hA : nha ≤ 300) (hB : nhb ≤ 8192) (hR : repR rk er th lj (blankB pv ep kd l ls bl tg) (decide (mayN pv ep kd l ls bl = 0)) nha nhb = true) (hn : (repT rq rk er nj lj th pv ep kd l ls bl tg nha xha nhb xhb).length = n) : Calls Tryd.prog 34 #[.agg ([U64 rq, I64 (rk), I64 (er), SL aj nj cj, .bool th, U64 pv, U64 ep, I64 (kd), SL ai ni ci, SL sa ns sc, U64 bl] ++ cu8 tg ++ [SL aha nha cha, SL ahb nhb chb]).toArray] w (Post w [] (fun v L => ∃ g sp cap, v = .tuple #[Slc g 0 n cap, .nilIface] ∧ L = [⟨g, cu8 (repT rq rk er nj lj th pv ep kd l ls bl tg nha xha nhb xhb) ++ sp, 5, (0, 0)⟩] ∧ sp.length = cap - n ∧ n ≤ cap ∧ cap ≤ maxLen)) := by
  obtain ⟨h1, h2, h3, h4⟩ := repR_f hlj hR
  by_cases hE : er = 0
  · subst hE
    obtain rfl | rfl | rfl | rfl | rfl : rk = 1 ∨ rk = 2 ∨ rk = 3 ∨ rk = 4 ∨ rk = 5 := by omega
    · have e : repT rq 1 0 nj lj th pv ep kd l ls bl tg nha xha nhb xhb = (((((numK 8 rq 8 ++ numK 1 (1:UInt64) 1) ++ numK 1 (0:UInt64) 1) ++ numK 1 (UInt64.ofNat (nj - 1)) 1) ++ itmsT lj) ++ numK 2 (UInt64.ofNat nhb) 2) ++ xhb := by unfold repT; rw [if_neg (by decide), if_pos rfl]
      have hn2 : n = (32*nhb + (itmsT lj).length + 13) := by rw [← hn, e]; simp [A5, hlha, hlhb]; try omega
      subst hn2
      rw [e]
      exact putRep1_c rq aj nj cj lj th pv ep kd ai ni ci l sa ns sc ls bl tg aha nha cha xha ahb nhb chb xhb (itmsT lj).length w hlj hnj hdj hcj hj hl hnm hnc hcm hv hls hnn hnd hcn hs htg hlha hnha hdha hcha hrha hlhb hnhb hdhb hchb hrhb hbi hbs hA hB hR rfl
    · have e : repT rq 2 0 nj lj th pv ep kd l ls bl tg nha xha nhb xhb = (((((((numK 8 rq 8 ++ numK 1 (2:UInt64) 1) ++ numK 1 (0:UInt64) 1) ++ numK 1 (UInt64.ofNat (nj - 1)) 1) ++ itmsT lj) ++ numK 2 (UInt64.ofNat nha) 2) ++ xha) ++ numK 2 (UInt64.ofNat nhb) 2) ++ xhb := by unfold repT; rw [if_neg (by decide), if_neg (by decide), if_pos rfl]
      have hn2 : n = (32*nha + 32*nhb + (itmsT lj).length + 15) := by rw [← hn, e]; simp [A5, hlha, hlhb]; try omega
      subst hn2
      rw [e]
      exact putRep2_c rq aj nj cj lj th pv ep kd ai ni ci l sa ns sc ls bl tg aha nha cha xha ahb nhb chb xhb (itmsT lj).length w hlj hnj hdj hcj hj hl hnm hnc hcm hv hls hnn hnd hcn hs htg hlha hnha hdha hcha hrha hlhb hnhb hdhb hchb hrhb hbi hbs hA hB hR rfl
    · have e : repT rq 3 0 nj lj th pv ep kd l ls bl tg nha xha nhb xhb = (((((numK 8 rq 8 ++ numK 1 (3:UInt64) 1) ++ numK 1 (0:UInt64) 1) ++ numK 2 (UInt64.ofNat nha) 2) ++ xha) ++ numK 2 (UInt64.ofNat nhb) 2) ++ xhb := by unfold repT; rw [if_neg (by decide), if_neg (by decide), if_neg (by decide), if_pos rfl]
      have hn2 : n = (32*nha + 32*nhb + 14) := by rw [← hn, e]; simp [A5, hlha, hlhb]; try omega
      subst hn2
      rw [e]
      exact putRep3_c rq aj nj cj lj th pv ep kd ai ni ci l sa ns sc ls bl tg aha nha cha xha ahb nhb chb xhb w hlj hnj hdj hcj hj hl hnm hnc hcm hv hls hnn hnd hcn hs htg hlha hnha hdha hcha hrha hlhb hnhb hdhb hchb hrhb hbi hbs hA hB hR
    · cases th with
      | true =>
        have hmay := of_decide_eq_true (repR_my hR)
        rcases RightO_cases (mayN_right hmay) with ⟨rfl, _⟩ | ⟨rfl, _⟩ | ⟨rfl, _⟩
        · have e : repT rq 4 0 nj lj true pv ep 1 l ls bl tg nha xha nhb xhb = (((((((numK 8 rq 8 ++ numK 1 (4:UInt64) 1) ++ numK 1 (0:UInt64) 1) ++ numK 1 (bitU true) 1) ++ ((tktT pv ep 1 l ls bl) ++ tg)) ++ numK 2 (UInt64.ofNat nha) 2) ++ xha) ++ numK 2 (UInt64.ofNat nhb) 2) ++ xhb := by unfold repT; rw [if_neg (by decide), if_neg (by decide), if_neg (by decide), if_neg (by decide), if_pos rfl, if_pos rfl]; rfl
          have hn2 : n = (32*nha + 32*nhb + (tktN 1 ni ns) + 31) := by rw [← hn, e]; simp [A5, hlha, hlhb, htg, FD hl hls]; try omega
          subst hn2
          rw [e]
          exact putRep4t_c rq aj nj cj lj pv ep 1 ai ni ci l sa ns sc ls bl tg aha nha cha xha ahb nhb chb xhb (tktN 1 ni ns) w hlj hnj hdj hcj hj hl hnm hnc hcm hv hls hnn hnd hcn hs htg hlha hnha hdha hcha hrha hlhb hnhb hdhb hchb hrhb hbi hbs hA hB hR hmay (.inl rfl) hbs rfl (tktN_le hbi hbs)
        · have e : repT rq 4 0 nj lj true pv ep 2 l ls bl tg nha xha nhb xhb = (((((((numK 8 rq 8 ++ numK 1 (4:UInt64) 1) ++ numK 1 (0:UInt64) 1) ++ numK 1 (bitU true) 1) ++ ((tktT pv ep 2 l ls bl) ++ tg)) ++ numK 2 (UInt64.ofNat nha) 2) ++ xha) ++ numK 2 (UInt64.ofNat nhb) 2) ++ xhb := by unfold repT; rw [if_neg (by decide), if_neg (by decide), if_neg (by decide), if_neg (by decide), if_pos rfl, if_pos rfl]; rfl
          have hn2 : n = (32*nha + 32*nhb + (tktN 2 ni ns) + 31) := by rw [← hn, e]; simp [A5, hlha, hlhb, htg, FD hl hls]; try omega
          subst hn2
          rw [e]
          exact putRep4t_c rq aj nj cj lj pv ep 2 ai ni ci l sa ns sc ls bl tg aha nha cha xha ahb nhb chb xhb (tktN 2 ni ns) w hlj hnj hdj hcj hj hl hnm hnc hcm hv hls hnn hnd hcn hs htg hlha hnha hdha hcha hrha hlhb hnhb hdhb hchb hrhb hbi hbs hA hB hR hmay (.inr (.inl rfl)) hbs rfl (tktN_le hbi hbs)
        · have e : repT rq 4 0 nj lj true pv ep 3 l ls bl tg nha xha nhb xhb = (((((((numK 8 rq 8 ++ numK 1 (4:UInt64) 1) ++ numK 1 (0:UInt64) 1) ++ numK 1 (bitU true) 1) ++ ((tktT pv ep 3 l ls bl) ++ tg)) ++ numK 2 (UInt64.ofNat nha) 2) ++ xha) ++ numK 2 (UInt64.ofNat nhb) 2) ++ xhb := by unfold repT; rw [if_neg (by decide), if_neg (by decide), if_neg (by decide), if_neg (by decide), if_pos rfl, if_pos rfl]; rfl
          have hn2 : n = (32*nha + 32*nhb + (tktN 3 ni ns) + 31) := by rw [← hn, e]; simp [A5, hlha, hlhb, htg, FD hl hls]; try omega
          subst hn2
          rw [e]
          exact putRep4t_c rq aj nj cj lj pv ep 3 ai ni ci l sa ns sc ls bl tg aha nha cha xha ahb nhb chb xhb (tktN 3 ni ns) w hlj hnj hdj hcj hj hl hnm hnc hcm hv hls hnn hnd hcn hs htg hlha hnha hdha hcha hrha hlhb hnhb hdhb hchb hrhb hbi hbs hA hB hR hmay (.inr (.inr rfl)) hbs rfl (tktN_le hbi hbs)
      | false =>
        have e : repT rq 4 0 nj lj false pv ep kd l ls bl tg nha xha nhb xhb = ((numK 8 rq 8 ++ numK 1 (4:UInt64) 1) ++ numK 1 (0:UInt64) 1) ++ numK 1 (bitU false) 1 := by unfold repT; rw [if_neg (by decide), if_neg (by decide), if_neg (by decide), if_neg (by decide), if_pos rfl, if_neg (by decide)]
        have hn2 : n = 11 := by rw [← hn, e]; simp [A5, hlha, hlhb]; try omega
        subst hn2
        rw [e]
        exact putRep4f_c rq aj nj cj lj pv ep kd ai ni ci l sa ns sc ls bl tg aha nha cha xha ahb nhb chb xhb w hlj hnj hdj hcj hj hl hnm hnc hcm hv hls hnn hnd hcn hs htg hlha hnha hdha hcha hrha hlhb hnhb hdhb hchb hrhb hbi hbs hA hB hR
    · have e : repT rq 5 0 nj lj th pv ep kd l ls bl tg nha xha nhb xhb = (numK 8 rq 8 ++ numK 1 (5:UInt64) 1) ++ numK 1 (0:UInt64) 1 := by unfold repT; rw [if_neg (by decide), if_neg (by decide), if_neg (by decide), if_neg (by decide), if_neg (by decide)]
      have hn2 : n = 10 := by rw [← hn, e]; simp [A5, hlha, hlhb]; try omega
      subst hn2
      rw [e]
      exact putRep5_c rq aj nj cj lj th pv ep kd ai ni ci l sa ns sc ls bl tg aha nha cha xha ahb nhb chb xhb w hlj hnj hdj hcj hj hl hnm hnc hcm hv hls hnn hnd hcn hs htg hlha hnha hdha hcha hrha hlhb hnhb hdhb hchb hrhb hbi hbs hA hB hR
  · obtain ⟨rk, rfl⟩ : ∃ m : Nat, rk = m := ⟨rk.toNat, by omega⟩
    obtain ⟨er, rfl⟩ : ∃ m : Nat, er = m := ⟨er.toNat, by omega⟩
    have e : repT rq (rk:Int) (er:Int) nj lj th pv ep kd l ls bl tg nha xha nhb xhb = (numK 8 rq 8 ++ numK 1 (UInt64.ofNat rk) 1) ++ numK 1 (UInt64.ofNat er) 1 := by unfold repT; rw [if_pos hE]; rfl
    have hn2 : n = 10 := by rw [← hn, e]; simp [A5, hlha, hlhb]; try omega
    subst hn2
    rw [e]
    exact putRepE_c rq rk er aj nj cj lj th pv ep kd ai ni ci l sa ns sc ls bl tg aha nha cha xha ahb nhb chb xhb w hlj hnj hdj hcj hj hl hnm hnc hcm hv hls hnn hnd hcn hs htg hlha hnha hdha hcha hrha hlhb hnhb hdhb hchb hrhb hbi hbs hA hB hR hE
attribute [local irreducible] eQ vQ bQ sQ ixQ seQ fQ fN hQ reqT GRq GRp
theorem putReqG_w (sq : UInt64) (qk : Int) (aiq : Option Addr) (niq ciq : Nat) (lq : List UInt64) (fs : UInt64) (mn : Int) (pv ep : UInt64) (kd : Int) (ai : Option Addr) (ni ci : Nat) (l : List UInt64) (sa : Option Addr) (ns sc : Nat) (ls : List SealR) (bl : UInt64) (tg : List UInt8) (eq : UInt64) (z0 : List UInt8) (w : World) (hlq : lq.length = niq) (hnmq : niq ≤ 2000000) (hncq : niq ≤ ciq) (hcmq : ciq ≤ maxLen) (hvq : RdV w aiq (cu64 lq)) (hl : l.length = ni) (hnm : ni ≤ 2000000) (hnc : ni ≤ ci) (hcm : ci ≤ maxLen) (hv : RdV w ai (cu64 l)) (hls : ls.length = ns) (hnn : ns ≤ 2000000) (hnd : ns ≤ sc) (hcn : sc ≤ maxLen) (hs : RdV w sa (ls.flatMap sealC)) (htg : tg.length = 16) (hbi : ni ≤ 300) (hbs : ns ≤ 300) (hG : GRq z0 sq qk lq fs mn pv ep kd l ls bl tg eq) : Calls Tryd.prog 21 #[.agg ([U64 sq, I64 (qk), SL aiq niq ciq, U64 fs, I64 (mn), U64 pv, U64 ep, I64 (kd), SL ai ni ci, SL sa ns sc, U64 bl] ++ cu8 tg ++ [U64 eq]).toArray] w (Post w [] (fun v L => ∃ g sp cap, v = .tuple #[Slc g 0 z0.length cap, .nilIface] ∧ L = [⟨g, cu8 z0 ++ sp, 5, (0, 0)⟩] ∧ sp.length = cap - z0.length ∧ z0.length ≤ cap ∧ cap ≤ maxLen)) := by
  have ht := hG.text hlq
  have hR := hG.right
  clear hG
  by_cases h3 : qk = 3
  · subst h3
    have hmay := of_decide_eq_true (reqR_three hR)
    rcases RightO_cases (mayN_right hmay) with ⟨rfl, _⟩ | ⟨rfl, _⟩ | ⟨rfl, _⟩
    · have e : reqT sq 3 niq lq fs mn pv ep 1 l ls bl tg eq = (numK 8 sq 8 ++ numK 1 (3:UInt64) 1) ++ ((tktT pv ep 1 l ls bl) ++ tg) := by unfold reqT; rw [if_neg (by decide), if_neg (by decide), if_pos rfl]; rfl
      have hz : z0 = (numK 8 sq 8 ++ numK 1 (3:UInt64) 1) ++ ((tktT pv ep 1 l ls bl) ++ tg) := ht.symm.trans e
      have hn : z0.length = tktN 1 ni ns + 25 := by rw [hz]; simp [A5, idxT_len, htg, FD hl hls]; try omega
      rw [hn, hz]
      exact putReq3_c sq aiq niq ciq lq fs mn pv ep 1 ai ni ci l sa ns sc ls bl tg eq (tktN 1 ni ns) w hlq hnmq hncq hcmq hvq hl hnm hnc hcm hv hls hnn hnd hcn hs htg hbi hbs hR hmay (.inl rfl) hbs rfl (tktN_le hbi hbs)
    · have e : reqT sq 3 niq lq fs mn pv ep 2 l ls bl tg eq = (numK 8 sq 8 ++ numK 1 (3:UInt64) 1) ++ ((tktT pv ep 2 l ls bl) ++ tg) := by unfold reqT; rw [if_neg (by decide), if_neg (by decide), if_pos rfl]; rfl
      have hz : z0 = (numK 8 sq 8 ++ numK 1 (3:UInt64) 1) ++ ((tktT pv ep 2 l ls bl) ++ tg) := ht.symm.trans e
      have hn : z0.length = tktN 2 ni ns + 25 := by rw [hz]; simp [A5, idxT_len, htg, FD hl hls]; try omega
      rw [hn, hz]
      exact putReq3_c sq aiq niq ciq lq fs mn pv ep 2 ai ni ci l sa ns sc ls bl tg eq (tktN 2 ni ns) w hlq hnmq hncq hcmq hvq hl hnm hnc hcm hv hls hnn hnd hcn hs htg hbi hbs hR hmay (.inr (.inl rfl)) hbs rfl (tktN_le hbi hbs)
    · have e : reqT sq 3 niq lq fs mn pv ep 3 l ls bl tg eq = (numK 8 sq 8 ++ numK 1 (3:UInt64) 1) ++ ((tktT pv ep 3 l ls bl) ++ tg) := by unfold reqT; rw [if_neg (by decide), if_neg (by decide), if_pos rfl]; rfl
      have hz : z0 = (numK 8 sq 8 ++ numK 1 (3:UInt64) 1) ++ ((tktT pv ep 3 l ls bl) ++ tg) := ht.symm.trans e
      have hn : z0.length = tktN 3 ni ns + 25 := by rw [hz]; simp [A5, idxT_len, htg, FD hl hls]; try omega
      rw [hn, hz]
      exact putReq3_c sq aiq niq ciq lq fs mn pv ep 3 ai ni ci l sa ns sc ls bl tg eq (tktN 3 ni ns) w hlq hnmq hncq hcmq hvq hl hnm hnc hcm hv hls hnn hnd hcn hs htg hbi hbs hR hmay (.inr (.inr rfl)) hbs rfl (tktN_le hbi hbs)
  · obtain ⟨hb, hk⟩ := reqR_blank hR h3
    rcases hk with rfl | rfl | rfl | rfl
    · have e : reqT sq 1 niq lq fs mn pv ep kd l ls bl tg eq = (((numK 8 sq 8 ++ numK 1 (1:UInt64) 1) ++ numK 8 eq 8) ++ numK 1 (UInt64.ofNat (niq - 1)) 1) ++ idxT lq niq := by unfold reqT; rw [if_pos rfl]
      have hz : z0 = (((numK 8 sq 8 ++ numK 1 (1:UInt64) 1) ++ numK 8 eq 8) ++ numK 1 (UInt64.ofNat (niq - 1)) 1) ++ idxT lq niq := ht.symm.trans e
      have hn : z0.length = 4*niq + 18 := by rw [hz]; simp [A5, idxT_len]; try omega
      rw [hn, hz]
      exact putReq1_c sq aiq niq ciq lq fs mn pv ep kd ai ni ci l sa ns sc ls bl tg eq w hlq hnmq hncq hcmq hvq hl hnm hnc hcm hv hls hnn hnd hcn hs htg hbi hbs hR
    · have hsp := span_nn (reqR_two hR)
      obtain ⟨mm, rfl⟩ : ∃ mm : Nat, mn = mm := ⟨mn.toNat, by omega⟩
      have e : reqT sq 2 niq lq fs (mm:Int) pv ep kd l ls bl tg eq = (((numK 8 sq 8 ++ numK 1 (2:UInt64) 1) ++ numK 8 eq 8) ++ numK 4 fs 4) ++ numK 1 (UInt64.ofNat (mm - 1)) 1 := by unfold reqT; rw [if_neg (by decide), if_pos rfl]; rfl
      have hz : z0 = (((numK 8 sq 8 ++ numK 1 (2:UInt64) 1) ++ numK 8 eq 8) ++ numK 4 fs 4) ++ numK 1 (UInt64.ofNat (mm - 1)) 1 := ht.symm.trans e
      have hn : z0.length = 22 := by rw [hz]; simp [A5, idxT_len]; try omega
      rw [hn, hz]
      exact putReq2_c sq aiq niq ciq lq fs mm pv ep kd ai ni ci l sa ns sc ls bl tg eq w hlq hnmq hncq hcmq hvq hl hnm hnc hcm hv hls hnn hnd hcn hs htg hbi hbs hR
    · have e : reqT sq 4 niq lq fs mn pv ep kd l ls bl tg eq = (numK 8 sq 8 ++ numK 1 (4:UInt64) 1) ++ numK 8 eq 8 := by unfold reqT; rw [if_neg (by decide), if_neg (by decide), if_neg (by decide), if_pos rfl]
      have hz : z0 = (numK 8 sq 8 ++ numK 1 (4:UInt64) 1) ++ numK 8 eq 8 := ht.symm.trans e
      have hn : z0.length = 17 := by rw [hz]; simp [A5, idxT_len]; try omega
      rw [hn, hz]
      exact putReq4_c sq aiq niq ciq lq fs mn pv ep kd ai ni ci l sa ns sc ls bl tg eq w hlq hnmq hncq hcmq hvq hl hnm hnc hcm hv hls hnn hnd hcn hs htg hbi hbs hR
    · have e : reqT sq 5 niq lq fs mn pv ep kd l ls bl tg eq = (numK 8 sq 8 ++ numK 1 (5:UInt64) 1) ++ numK 8 eq 8 := by unfold reqT; rw [if_neg (by decide), if_neg (by decide), if_neg (by decide), if_neg (by decide)]
      have hz : z0 = (numK 8 sq 8 ++ numK 1 (5:UInt64) 1) ++ numK 8 eq 8 := ht.symm.trans e
      have hn : z0.length = 17 := by rw [hz]; simp [A5, idxT_len]; try omega
      rw [hn, hz]
      exact putReq5_c sq aiq niq ciq lq fs mn pv ep kd ai ni ci l sa ns sc ls bl tg eq w hlq hnmq hncq hcmq hvq hl hnm hnc hcm hv hls hnn hnd hcn hs htg hbi hbs hR
theorem putRepG_w (rq : UInt64) (rk er : Int) (aj : Option Addr) (nj cj : Nat) (lj : List ItemR) (th : Bool) (pv ep : UInt64) (kd : Int) (ai : Option Addr) (ni ci : Nat) (l : List UInt64) (sa : Option Addr) (ns sc : Nat) (ls : List SealR) (bl : UInt64) (tg : List UInt8) (aha : Option Addr) (nha cha : Nat) (xha : List UInt8) (ahb : Option Addr) (nhb chb : Nat) (xhb : List UInt8) (z0 : List UInt8) (w : World) (hlj : lj.length = nj) (hnj : nj ≤ 2000000) (hdj : nj ≤ cj) (hcj : cj ≤ maxLen) (hj : RdV w aj (lj.flatMap itemC)) (hl : l.length = ni) (hnm : ni ≤ 2000000) (hnc : ni ≤ ci) (hcm : ci ≤ maxLen) (hv : RdV w ai (cu64 l)) (hls : ls.length = ns) (hnn : ns ≤ 2000000) (hnd : ns ≤ sc) (hcn : sc ≤ maxLen) (hs : RdV w sa (ls.flatMap sealC)) (htg : tg.length = 16) (hlha : xha.length = nha * 32) (hnha : nha ≤ 9000) (hdha : nha ≤ cha) (hcha : cha ≤ maxLen) (hrha : RdB w [] aha xha) (hlhb : xhb.length = nhb * 32) (hnhb : nhb ≤ 9000) (hdhb : nhb ≤ chb) (hchb : chb ≤ maxLen) (hrhb : RdB w [] ahb xhb) (hbi : ni ≤ 300) (hbs : ns ≤ 300) (hG : GRp z0 rq rk er lj th pv ep kd l ls bl tg nha xha nhb xhb) : Calls Tryd.prog 34 #[.agg ([U64 rq, I64 (rk), I64 (er), SL aj nj cj, .bool th, U64 pv, U64 ep, I64 (kd), SL ai ni ci, SL sa ns sc, U64 bl] ++ cu8 tg ++ [SL aha nha cha, SL ahb nhb chb]).toArray] w (Post w [] (fun v L => ∃ g sp cap, v = .tuple #[Slc g 0 z0.length cap, .nilIface] ∧ L = [⟨g, cu8 z0 ++ sp, 5, (0, 0)⟩] ∧ sp.length = cap - z0.length ∧ z0.length ≤ cap ∧ cap ≤ maxLen)) := by
 have h4 := repR_4 hG.right
 have h := putRep_w rq rk er aj nj cj lj th pv ep kd ai ni ci l sa ns sc ls bl tg aha nha cha xha ahb nhb chb xhb z0.length w hlj hnj hdj hcj hj hl hnm hnc hcm hv hls hnn hnd hcn hs htg hlha hnha hdha hcha hrha hlhb hnhb hdhb hchb hrhb hbi hbs (by omega) h4.2 hG.right (by rw [hG.text hlj])
 rw [hG.text hlj] at h
 exact h
end Go.Proofs.YtkdpdgpphpngeaaDoor
namespace Go.Proofs.YtkdpdgpphpngeaaDoor
open Go Go.Sx
open Go.Value renaming slice → SL
attribute [local irreducible] mid zr8 numK valK
theorem stEq {rb T R e1 e2 n1 n2 c c2 : Nat} {a : Option Addr} {f : Nat × Nat} (h : e1 = e2) (h' : n1 = n2) (h2 : c = c2) : [(⟨rb, [errV T e1, .slice a n1 c], R, f⟩ : Ent)] = [⟨rb, [errV T e2, .slice a n2 c2], R, f⟩] := by rw [h, h', h2]
theorem okE_ok {e : Nat} {p : Prop} [Decidable p] (he : e = 0) (hp : p) : e = okE e (decide p) := by subst he; rw [decide_eq_true hp]; rfl
theorem okE_bad {e : Nat} {p : Prop} [Decidable p] (hp : ¬ p) : erN e 2 = okE e (decide p) := by rw [decide_eq_false hp]; rfl
theorem numR_w (rb e : Nat) (ao : Option Addr) (n c : Nat) (z : List UInt8) (s : Int) (w : World) (h0 : w.heap[rb]? = some (.cells [errV 50 e, SL ao n c].toArray 204 (0, 0))) (hz : z.length = n) (hn : n ≤ 2000000000) (hc : n ≤ c) (hcm : c ≤ maxLen) (hr : RdB w [rb] ao z) : Calls Tryd.prog 109 #[Ptr rb 0, I64 s] w (Post w [rb] (fun v L => v = U64 (nuV z e s) ∧ ∃ ao' c', Adv ao z c ao' (nuZ z e s) c' ∧ L = [⟨rb, [errV 50 (okE e (decide (NuOk z e s))), .slice ao' (nuZ z e s).length c'], 204, (0, 0)⟩])) := by
  by_cases hok : NuOk z e s
  · obtain ⟨he, hs, hl⟩ := id hok
    obtain ⟨k, rfl⟩ : ∃ k : Nat, s = k := ⟨s.toNat, by unfold Szd at hs; omega⟩
    have hk : k ≤ n := by omega
    refine (numROk_c rb e ao n c z k (n - k) (c - k) w h0 hz hn hc hcm hr he hs hk (by omega) (by omega)).mono ?_
    rintro E W ⟨v, L, rfl, ⟨rfl, rfl⟩, hw⟩
    refine ⟨_, _, rfl, ⟨by rw [nuV, if_pos hok]; rfl, advA ao c k, c - k, by rw [nuZ, if_pos hok]; exact Adv.drop k (by omega) (by omega) hcm, ?_⟩, hw⟩
    rw [nuZ, if_pos hok]
    exact stEq (okE_ok he hok) (by simp [hz]) rfl
  · by_cases hs : Szd s
    · by_cases he : e = 0
      · have hl : (n:Int) < s := by
          rcases Int.lt_or_le (n:Int) s with h | h
          · exact h
          · exact absurd ⟨he, hs, by rw [hz]; exact h⟩ hok
        refine (numRS_c rb e ao n c s w h0 he hs hl).mono ?_
        rintro E W ⟨v, L, rfl, ⟨rfl, rfl⟩, hw⟩
        exact ⟨_, _, rfl, ⟨(by rw [nuV, if_neg hok]), ao, c, by rw [nuZ, if_neg hok]; exact Adv.same (by omega) hcm, by rw [nuZ, if_neg hok]; exact stEq (okE_bad hok) hz.symm rfl⟩, hw⟩
      · refine (numRE_c rb e _ s w h0 he hs).mono ?_
        rintro E W ⟨v, L, rfl, ⟨rfl, rfl⟩, hw⟩
        exact ⟨_, _, rfl, ⟨(by rw [nuV, if_neg hok]), ao, c, by rw [nuZ, if_neg hok]; exact Adv.same (by omega) hcm, by rw [nuZ, if_neg hok]; exact stEq (okE_bad hok) hz.symm rfl⟩, hw⟩
    · refine (numRF_c rb e _ s w h0 hs).mono ?_
      rintro E W ⟨v, L, rfl, ⟨rfl, rfl⟩, hw⟩
      exact ⟨_, _, rfl, ⟨(by rw [nuV, if_neg hok]), ao, c, by rw [nuZ, if_neg hok]; exact Adv.same (by omega) hcm, by rw [nuZ, if_neg hok]; exact stEq (okE_bad hok) hz.symm rfl⟩, hw⟩
theorem hasR_w (rb e : Nat) (ao : Option Addr) (n c : Nat) (z : List UInt8) (w : World) (h0 : w.heap[rb]? = some (.cells [errV 50 e, SL ao n c].toArray 204 (0, 0))) (hz : z.length = n) (hn : n ≤ 2000000000) (hc : n ≤ c) (hcm : c ≤ maxLen) (hr : RdB w [rb] ao z) : Calls Tryd.prog 152 #[Ptr rb 0] w (Post w [rb] (fun v L => v = .agg (cu8 (hsV z e)).toArray ∧ ∃ ao' c', Adv ao z c ao' (hsZ z e) c' ∧ L = [⟨rb, [errV 50 (okE e (decide (HsOk z e))), .slice ao' (hsZ z e).length c'], 204, (0, 0)⟩])) := by
  by_cases hok : HsOk z e
  · obtain ⟨he, hl⟩ := id hok
    refine (hasROk_c rb e ao n c z w h0 hz hn hc hcm hr he (by omega)).mono ?_
    rintro E W ⟨v, L, rfl, ⟨rfl, rfl⟩, hw⟩
    refine ⟨_, _, rfl, ⟨by rw [hsV, if_pos hok], advA ao c 32, c - 32, by rw [hsZ, if_pos hok]; exact Adv.drop 32 hl (by omega) hcm, ?_⟩, hw⟩
    rw [hsZ, if_pos hok]
    exact stEq (okE_ok he hok) (by simp [hz]) rfl
  · by_cases he : e = 0
    · have hl : n < 32 := by
        rcases Nat.lt_or_ge n 32 with h | h
        · exact h
        · exact absurd ⟨he, by omega⟩ hok
      refine (hasRS_c rb e ao n c w h0 he hl).mono ?_
      rintro E W ⟨v, L, rfl, ⟨rfl, rfl⟩, hw⟩
      exact ⟨_, _, rfl, ⟨(by rw [hsV, if_neg hok]), ao, c, by rw [hsZ, if_neg hok]; exact Adv.same (by omega) hcm, by rw [hsZ, if_neg hok]; exact stEq (okE_bad hok) hz.symm rfl⟩, hw⟩
    · refine (hasRE_c rb e _ w h0 he).mono ?_
      rintro E W ⟨v, L, rfl, ⟨rfl, rfl⟩, hw⟩
      exact ⟨_, _, rfl, ⟨(by rw [hsV, if_neg hok]), ao, c, by rw [hsZ, if_neg hok]; exact Adv.same (by omega) hcm, by rw [hsZ, if_neg hok]; exact stEq (okE_bad hok) hz.symm rfl⟩, hw⟩
theorem flgR_w (rb e : Nat) (ao : Option Addr) (n c : Nat) (z : List UInt8) (w : World) (h0 : w.heap[rb]? = some (.cells [errV 50 e, SL ao n c].toArray 204 (0, 0))) (hz : z.length = n) (hn : n ≤ 2000000000) (hc : n ≤ c) (hcm : c ≤ maxLen) (hr : RdB w [rb] ao z) : Calls Tryd.prog 119 #[Ptr rb 0] w (Post w [rb] (fun v L => v = .bool (fgV z e) ∧ ∃ ao' c', Adv ao z c ao' (fgZ z e) c' ∧ L = [⟨rb, [errV 50 (okE e (decide (FgOk z e))), .slice ao' (fgZ z e).length c'], 204, (0, 0)⟩])) := by
  by_cases hok : FgOk z e
  · obtain ⟨he, hl, hb⟩ := id hok
    refine (flgROk_c rb e ao n c z w h0 hz hn hc hcm hr he (by omega) (UInt8.not_lt.2 hb)).mono ?_
    rintro E W ⟨v, L, rfl, ⟨rfl, rfl⟩, hw⟩
    refine ⟨_, _, rfl, ⟨congrArg Value.bool (decide_eq_decide.2 ⟨fun h => ⟨hok, h⟩, fun h => h.2⟩), advA ao c 1, c - 1, by rw [fgZ, if_pos hok]; exact Adv.drop 1 hl (by omega) hcm, ?_⟩, hw⟩
    rw [fgZ, if_pos hok]
    exact stEq (okE_ok he hok) (by simp [hz]) rfl
  · by_cases he : e = 0
    · by_cases hl : 1 ≤ n
      · have hb : (1:UInt8) < g8 z 0 := by
          by_cases h : g8 z 0 ≤ 1
          · exact absurd ⟨he, by omega, h⟩ hok
          · exact UInt8.not_le.1 h
        refine (flgRB_c rb e ao n c z w h0 hz hn hc hcm hr he hl hb).mono ?_
        rintro E W ⟨v, L, rfl, ⟨rfl, rfl⟩, hw⟩
        exact ⟨_, _, rfl, ⟨(by rw [fgV, decide_eq_false (fun h => hok h.1)]), ao, c, by rw [fgZ, if_neg hok]; exact Adv.same (by omega) hcm, by rw [fgZ, if_neg hok]; exact stEq (okE_bad hok) hz.symm rfl⟩, hw⟩
      · refine (flgRS_c rb e ao n c w h0 he (by omega)).mono ?_
        rintro E W ⟨v, L, rfl, ⟨rfl, rfl⟩, hw⟩
        exact ⟨_, _, rfl, ⟨(by rw [fgV, decide_eq_false (fun h => hok h.1)]), ao, c, by rw [fgZ, if_neg hok]; exact Adv.same (by omega) hcm, by rw [fgZ, if_neg hok]; exact stEq (okE_bad hok) hz.symm rfl⟩, hw⟩
    · refine (flgRE_c rb e _ w h0 he).mono ?_
      rintro E W ⟨v, L, rfl, ⟨rfl, rfl⟩, hw⟩
      exact ⟨_, _, rfl, ⟨(by rw [fgV, decide_eq_false (fun h => hok h.1)]), ao, c, by rw [fgZ, if_neg hok]; exact Adv.same (by omega) hcm, by rw [fgZ, if_neg hok]; exact stEq (okE_bad hok) hz.symm rfl⟩, hw⟩
attribute [local irreducible] constL initL putL RightB tktT mayN idxT selT eQ vQ bQ sQ ixQ seQ
theorem E1 (rb p s : Nat) (ao : Option Addr) (n c : Nat) (z0 z : List UInt8) (w : World) (h0 : w.heap[rb]? = some (.cells [errV 50 (eQ z0 p), SL ao n c].toArray 204 (0, 0))) (hz : z.length = n) (hn : n ≤ 2000000000) (hc : n ≤ c) (hcm : c ≤ maxLen) (hr : RdB w [rb] ao z) (hq : Lq z0 z p) (hs : Szd (s : Int)) : Calls Tryd.prog 109 #[Ptr rb 0, I64 (s : Int)] w (Post w [rb] (fun v L => v = U64 (vQ z0 p s) ∧ ∃ ao' z' c', Lq z0 z' (p + s) ∧ Adv ao z c ao' z' c' ∧ L = [⟨rb, [errV 50 (eQ z0 (p + s)), SL ao' z'.length c'], 204, (0, 0)⟩])) := by
 refine (numR_w rb (eQ z0 p) ao n c z s w h0 hz hn hc hcm hr).mono ?_
 rintro E W ⟨v, L, rfl, ⟨hv, ao', c', hA, hL⟩, hw⟩
 exact ⟨v, L, rfl, ⟨by rw [hv, nuV_q hq hs], ao', _, c', nuZ_q hq hs, hA, by rw [hL, okE_q (NuOk_q hq hs)]⟩, hw⟩
theorem rawA_w (rb p s : Nat) (ao : Option Addr) (n c : Nat) (z0 z : List UInt8) (w : World) (h0 : w.heap[rb]? = some (.cells [errV 50 (eQ z0 p), SL ao n c].toArray 204 (0, 0))) (hz : z.length = n) (hn : n ≤ 2000000000) (hc : n ≤ c) (hcm : c ≤ maxLen) (hr : RdB w [rb] ao z) (hq : Lq z0 z p) (hs0 : 0 < s) : Calls Tryd.prog 127 #[Ptr rb 0, I64 (s : Int)] w (Post w [rb] (fun v L => ∃ ao' z' c', Lq z0 z' (p + s) ∧ Adv ao z c ao' z' c' ∧ ((p + s ≤ z0.length ∧ ∃ g sp cap, v = Slc g 0 s cap ∧ L = [⟨rb, [errV 50 (eQ z0 (p + s)), SL ao' z'.length c'], 204, (0, 0)⟩, ⟨g, cu8 (bQ z0 p s) ++ sp, 5, (0, 0)⟩] ∧ sp.length = cap - s ∧ s ≤ cap ∧ cap ≤ maxLen) ∨ (¬ p + s ≤ z0.length ∧ v = SL none 0 0 ∧ L = [⟨rb, [errV 50 (eQ z0 (p + s)), SL ao' z'.length c'], 204, (0, 0)⟩])))) := by
  by_cases hg : p + s ≤ z0.length
  · have hp : p ≤ z0.length := by omega
    have hl := hq.len hp
    refine (rawROk_c rb (eQ z0 p) ao n c z s (n - s) (c - s) w h0 hz hn hc hcm hr (eQ_ok hp) hs0 (by omega) (by omega) (by omega)).mono ?_
    rintro E W ⟨v, L, rfl, ⟨g, sp, cap, rfl, rfl, h1, h2, h3⟩, hw⟩
    have e1 : mid z 0 s = bQ z0 p s := by rw [bQ, if_pos hg, hq hp]
    have e2 : (z.drop s).length = n - s := by rw [List.length_drop, hz]
    have e3 : eQ z0 p = eQ z0 (p + s) := by rw [eQ_ok hp, eQ_ok hg]
    refine ⟨_, _, rfl, ⟨advA ao c s, z.drop s, c - s, (fun _ => by rw [hq hp, List.drop_drop]), Adv.drop s (by omega) (by omega) hcm, .inl ⟨hg, g, sp, cap, rfl, ?_, h1, h2, h3⟩⟩, hw⟩
    rw [e1, e2, e3]
  · have e3 : erN (eQ z0 p) 2 = eQ z0 (p + s) := by
      rw [EU hg]; unfold eQ
      by_cases hp : p ≤ z0.length
      · rw [if_pos hp]; rfl
      · rw [if_neg hp]; rfl
    by_cases hp : p ≤ z0.length
    · have hl := hq.len hp
      refine (rawRB0_c rb (eQ z0 p) ao n c s w h0 (eQ_ok hp) (.inr (by omega))).mono ?_
      rintro E W ⟨v, L, rfl, ⟨rfl, rfl⟩, hw⟩
      exact ⟨_, _, rfl, ⟨ao, z, c, (fun h => absurd h hg), Adv.same (by omega) hcm, .inr ⟨hg, rfl, by rw [e3, hz]⟩⟩, hw⟩
    · refine (rawRB1_c rb (eQ z0 p) (SL ao n c) s w h0 (by rw [EU hp]; decide) (by omega)).mono ?_
      rintro E W ⟨v, L, rfl, ⟨rfl, rfl⟩, hw⟩
      exact ⟨_, _, rfl, ⟨ao, z, c, (fun h => absurd h hg), Adv.same (by omega) hcm, .inr ⟨hg, rfl, by rw [e3, hz]⟩⟩, hw⟩
theorem bld161_0 {w : World} {v0 : Value} (h0 : v0.cells = [v0].toArray) : (Instr.build 161 ([(0, v0)] : List (Nat × Value)).toArray).run Tryd.prog w = .ok (.agg ((([v0] : List Value) ++ (cu8 (zr8 32) : List Value)) ++ (cu8 (zr8 16) : List Value)).toArray) w :=
 EY (places := #[(0, 1), (1, 32), (33, 16)]) (Z := (([U64 0] : List Value) ++ ((cu8 (zr8 32) : List Value) ++ ((cu8 (zr8 16) : List Value) ++ [])))) (fun _ => by kernel_rfl) CN (fun _ => by kernel_rfl) ((fill_start ([U64 0] : List Value) ((cu8 (zr8 32) : List Value) ++ ((cu8 (zr8 16) : List Value) ++ [])) ([v0] : List Value) h0 (by simp [AN]) rfl).trans ((EP ([v0] : List Value) (cu8 (zr8 32) : List Value) ((cu8 (zr8 16) : List Value) ++ [])).trans ((EP (([v0] : List Value) ++ (cu8 (zr8 32) : List Value)) (cu8 (zr8 16) : List Value) []).trans (by simp [Instr.fill]))))
theorem sreadQ_c (rb p : Nat) (ao : Option Addr) (n c : Nat) (z0 z : List UInt8)  (w : World) (h0 : w.heap[rb]? = some (.cells [errV 50 (eQ z0 p), SL ao n c].toArray 204 (0, 0))) (hz : z.length = n) (hn : n ≤ 2000000000) (hc : n ≤ c) (hcm : c ≤ maxLen) (hr : RdB w [rb] ao z) (hq : Lq z0 z p)  : Calls Tryd.prog 120 #[Ptr rb 0] w (Post w [rb] (fun v L => v = .agg ([U64 (vQ z0 p 8)] ++ cu8 (bQ z0 (p + 8) 32) ++ cu8 (bQ z0 (p + 40) 16)).toArray ∧ ∃ ao' z' c', Lq z0 z' (p + 56) ∧ Adv ao z c ao' z' c' ∧ L = [⟨rb, [errV 50 (eQ z0 (p + 56)), SL ao' z'.length c'], 204, (0, 0)⟩])) := by
 have hmx : maxLen = 9223372036854775807 := rfl
 refine enter w [rb] 18 [⟨rb, [errV 50 (eQ z0 p), SL ao n c], 204, (0, 0)⟩] [Ptr rb 0] Tryd.func120 rfl rfl (by simp) (BW (by simpa using h0) (by simp) (by simp)) ?_
 show JC _ _ _ [(0, Ptr rb 0)] _
 refine AH (AB (A4 (C0 _ ([U64 0] ++ cu8 (zr8 32) ++ cu8 (zr8 16)) Tryd.zeroValue161 (by kernel_rfl)) rfl ?_))
 rintro v1 L1 ⟨nb1, hnb1, rfl, rfl⟩
 show JL _ _ _ _ ((2, Ptr nb1 0) :: _) [_, ⟨nb1, [U64 0] ++ cu8 (zr8 32) ++ cu8 (zr8 16), 161, (0, 0)⟩]
 refine AI (AC (AH (AB (AA _ (AF rfl) rfl ?_))))
 have hz1 : (z).length = n := hz
 refine A4 (A8 109 _ [true, false] [rb] _ (AS [Ptr rb 0, I64 8] CV rfl) rfl (fun w1 hw1 => E1 rb p 8 ao n c z0 z w1 (hw1.ent _ (List.mem_of_getElem? (i := 0) rfl)) hz (by omega) (by omega) (by omega) ((fun _ _ h => h) _ _ (hr.at (M' := [rb]) hw1 (hw1.apart [0] _ rfl))) hq (by unfold Szd; omega))) rfl ?_
 rintro v1 L1 ⟨_, ⟨rfl, ao1, zz1, ca1, hq1, ⟨hA1, hb1, hb2, hb3⟩, rfl⟩, rfl⟩
 show JL _ _ _ _ ((5, U64 (vQ z0 p 8)) :: _) [_, ⟨rb, [errV 50 (eQ z0 (p + 8)), SL ao1 zz1.length ca1], 204, (0, 0)⟩]
 refine AA (.agg ([U64 (vQ z0 p 8)] ++ cu8 (zr8 32) ++ cu8 (zr8 16)).toArray) (CP [(0, U64 (vQ z0 p 8))] _ rfl (fun _ => bld161_0 rfl)) rfl ?_
 refine A4 (C0 _ ([U64 0] ++ cu8 (zr8 32) ++ cu8 (zr8 16)) Tryd.zeroValue161 (by kernel_rfl)) rfl ?_
 rintro v1 L1 ⟨nb2, hnb2, rfl, rfl⟩
 show JL _ _ _ _ ((3, Ptr nb2 0) :: _) [_, _, ⟨nb2, [U64 0] ++ cu8 (zr8 32) ++ cu8 (zr8 16), 161, (0, 0)⟩]
 refine A7 (BQ 2 nb2 49 ([U64 0] ++ cu8 (zr8 32) ++ cu8 (zr8 16)) 161 ([U64 (vQ z0 p 8)] ++ cu8 (zr8 32) ++ cu8 (zr8 16)) rfl rfl rfl B1 (by simp [(AN 32), (AN 16)]) (BY (BY (by simp [Value.oneCell']) CT) CT) (by simp [(AN 32), (AN 16)]) (BT (by simp [(AN 32), (AN 16), (AN 32), (AN 16)]))) rfl ?_
 show JL _ _ _ _ _ [_, _, ⟨nb2, [U64 (vQ z0 p 8)] ++ cu8 (zr8 32) ++ cu8 (zr8 16), 161, (0, 0)⟩]
 refine AI (AC (AH (DC 18 3 [(0, Ptr nb2 1), (1, Slc nb2 1 32 32), (2, Ptr rb 0)] CA rfl (by decide +kernel) ?_)))
 have hz2 : (zz1).length = zz1.length := rfl
 refine CW ⟨[], [0, 1, 2], [], [0, 1, 2], [3]⟩ 3 _ rfl rfl (by decide +kernel) rfl ⟨⟨_, rfl, AL rfl (AD 1 159 32 CN rfl Tryd.sizeOf159 rfl rfl)⟩, ⟨_, rfl, AL rfl (DF 32 5 1 0 32 1 32 Tryd.underlying159 BZ rfl rfl rfl (by omega) (by omega) (by omega) (by omega) (by omega) 32 (by omega))⟩, CG rfl rfl rfl, trivial⟩ rfl (BO rfl (A8 127 _ [false, true, false] [rb] _ (AS [Ptr rb 0, I64 32] Tryd.call127 rfl) rfl (fun w1 hw1 => rawA_w rb (p + 8) 32 ao1 zz1.length ca1 z0 zz1 w1 (hw1.ent _ (List.mem_of_getElem? (i := 1) rfl)) rfl (by omega) (by omega) (by omega) ((fun w M h => hA1 w M ((fun _ _ h => h) w M h)) _ _ (hr.at (M' := [rb]) hw1 (hw1.apart [1] _ rfl))) hq1 (by omega)))) ?_
 rintro v1 L1 ⟨_, ⟨ao2, zz2, ca2, hq2, ⟨hA2, hb4, hb5, hb6⟩, (⟨hg1, nb3, sp1, cp1, rfl, rfl, hc1, hc2, hc3⟩ | ⟨hg1, rfl, rfl⟩)⟩, rfl⟩
 ·
  refine ⟨[], ?_⟩
  show DP _ _ _ _ _ _ _ _ [_, _, ⟨rb, [errV 50 (eQ z0 (p + 40)), SL ao2 zz2.length ca2], 204, (0, 0)⟩, ⟨nb3, cu8 (bQ z0 (p + 8) 32) ++ sp1, 5, (0, 0)⟩]
  refine EH ⟨[3], [0, 1, 2], [2], [0, 1], [4]⟩ 4 rfl rfl (by decide +kernel) rfl ⟨⟨_, rfl, AL rfl (AD 1 159 32 CN rfl Tryd.sizeOf159 rfl rfl)⟩, ⟨_, rfl, AL rfl (DF 32 5 1 0 32 1 32 Tryd.underlying159 BZ rfl rfl rfl (by omega) (by omega) (by omega) (by omega) (by omega) 32 (by omega))⟩, trivial⟩ rfl (BO rfl (ET 43 43 5 1 nb2 1 32 32 ([U64 (vQ z0 p 8)] ++ cu8 (zr8 32) ++ cu8 (zr8 16)) 161 (some ⟨nb3, 0, none⟩) 32 cp1 32 (cu8 (bQ z0 (p + 8) 32)) ([U64 (vQ z0 p 8)] ++ cu8 (bQ z0 (p + 8) 32) ++ cu8 (zr8 16)) BA D4 rfl rfl rfl rfl (by simp [(show (bQ z0 (p + 8) 32).length = 32 from (B8 _ _ _))]; try omega) (SrcAt.mem (AU 3 rfl (AJ (AQ _)))) (by simp [(AN 32), (AN 16)]; try omega) (by first | exact CT | exact one_u32 | exact one_u64 | (simp [cu8, cu32, cu64, Value.oneCell']; done)) (EF (p := [U64 (vQ z0 p 8)] ++ cu8 (zr8 32)) (vs := cu8 (bQ z0 (p + 8) 32)) (o := 1) (by simp [(AN 32), (show (bQ z0 (p + 8) 32).length = 32 from (B8 _ _ _))]) (ES 1 0 rfl rfl (BT (by simp [(AN 32), (show (bQ z0 (p + 8) 32).length = 32 from (B8 _ _ _))])))))) ?_
  show DP _ _ _ _ _ _ _ _ [_, ⟨nb2, [U64 (vQ z0 p 8)] ++ cu8 (bQ z0 (p + 8) 32) ++ cu8 (zr8 16), 161, (0, 0)⟩, _, _]
  refine DU ⟨[3, 4], [0, 1, 2], [0, 1, 2], [], []⟩ rfl rfl (by decide +kernel) rfl trivial ?_
  refine C6 (F' := [(0, Ptr rb 0), (2, Ptr nb1 0), (3, Ptr nb2 0)]) (by kernel_rfl) ?_
  refine AC (AH (DC 18 3 [(0, Ptr nb2 33), (1, Slc nb2 33 16 16), (2, Ptr rb 0)] CA rfl (by decide +kernel) ?_))
  have hz3 : (zz2).length = zz2.length := rfl
  refine CW ⟨[], [0, 1, 2], [], [0, 1, 2], [3]⟩ 3 _ rfl rfl (by decide +kernel) rfl ⟨⟨_, rfl, AL rfl (AD 33 27 16 CN rfl CI rfl rfl)⟩, ⟨_, rfl, AL rfl (DF 16 5 1 0 16 33 16 CF BZ rfl rfl rfl (by omega) (by omega) (by omega) (by omega) (by omega) 16 (by omega))⟩, CG rfl rfl rfl, trivial⟩ rfl (BO rfl (A8 127 _ [false, false, true, false] [rb] _ (AS [Ptr rb 0, I64 16] Tryd.call127 rfl) rfl (fun w1 hw1 => rawA_w rb (p + 40) 16 ao2 zz2.length ca2 z0 zz2 w1 (hw1.ent _ (List.mem_of_getElem? (i := 2) rfl)) rfl (by omega) (by omega) (by omega) ((fun w M h => hA2 w M ((fun w M h => hA1 w M ((fun _ _ h => h) w M h)) w M h)) _ _ (hr.at (M' := [rb]) hw1 (hw1.apart [2] _ rfl))) hq2 (by omega)))) ?_
  rintro v1 L1 ⟨_, ⟨ao3, zz3, ca3, hq3, ⟨hA3, hb7, hb8, hb9⟩, (⟨hg2, nb4, sp2, cp2, rfl, rfl, hc4, hc5, hc6⟩ | ⟨hg2, rfl, rfl⟩)⟩, rfl⟩
  ·
   refine ⟨[], ?_⟩
   show DP _ _ _ _ _ _ _ _ [_, _, _, ⟨rb, [errV 50 (eQ z0 (p + 56)), SL ao3 zz3.length ca3], 204, (0, 0)⟩, ⟨nb4, cu8 (bQ z0 (p + 40) 16) ++ sp2, 5, (0, 0)⟩]
   refine EH ⟨[3], [0, 1, 2], [2], [0, 1], [4]⟩ 4 rfl rfl (by decide +kernel) rfl ⟨⟨_, rfl, AL rfl (AD 33 27 16 CN rfl CI rfl rfl)⟩, ⟨_, rfl, AL rfl (DF 16 5 1 0 16 33 16 CF BZ rfl rfl rfl (by omega) (by omega) (by omega) (by omega) (by omega) 16 (by omega))⟩, trivial⟩ rfl (BO rfl (ET 43 43 5 1 nb2 33 16 16 ([U64 (vQ z0 p 8)] ++ cu8 (bQ z0 (p + 8) 32) ++ cu8 (zr8 16)) 161 (some ⟨nb4, 0, none⟩) 16 cp2 16 (cu8 (bQ z0 (p + 40) 16)) ([U64 (vQ z0 p 8)] ++ cu8 (bQ z0 (p + 8) 32) ++ cu8 (bQ z0 (p + 40) 16)) BA D4 rfl rfl rfl rfl (by simp [(show (bQ z0 (p + 40) 16).length = 16 from (B8 _ _ _))]; try omega) (SrcAt.mem (AU 4 rfl (AJ (AQ _)))) (by simp [(show (bQ z0 (p + 8) 32).length = 32 from (B8 _ _ _)), (AN 16)]; try omega) (by first | exact CT | exact one_u32 | exact one_u64 | (simp [cu8, cu32, cu64, Value.oneCell']; done)) (ES 33 0 (by simp [(show (bQ z0 (p + 8) 32).length = 32 from (B8 _ _ _))]) rfl (BT (by simp [(AN 16), (show (bQ z0 (p + 40) 16).length = 16 from (B8 _ _ _))]))))) ?_
   show DP _ _ _ _ _ _ _ _ [_, ⟨nb2, [U64 (vQ z0 p 8)] ++ cu8 (bQ z0 (p + 8) 32) ++ cu8 (bQ z0 (p + 40) 16), 161, (0, 0)⟩, _, _, _]
   refine DU ⟨[3, 4], [0, 1, 2], [0, 1, 2], [], []⟩ rfl rfl (by decide +kernel) rfl trivial ?_
   refine C6 (F' := [(2, Ptr nb1 0), (3, Ptr nb2 0)]) (by kernel_rfl) ?_
   refine AC (AH (AB (AA (.agg ([U64 (vQ z0 p 8)] ++ cu8 (bQ z0 (p + 8) 32) ++ cu8 (bQ z0 (p + 40) 16)).toArray) (AO rfl (BU D5 B1 (by simp [(show (bQ z0 (p + 8) 32).length = 32 from (B8 _ _ _)), (show (bQ z0 (p + 40) 16).length = 16 from (B8 _ _ _))]) (AU 1 rfl (AQ _)))) rfl ?_)))
   refine A7 (BQ 0 nb1 49 ([U64 0] ++ cu8 (zr8 32) ++ cu8 (zr8 16)) 161 ([U64 (vQ z0 p 8)] ++ cu8 (bQ z0 (p + 8) 32) ++ cu8 (bQ z0 (p + 40) 16)) rfl rfl rfl B1 (by simp [(show (bQ z0 (p + 8) 32).length = 32 from (B8 _ _ _)), (show (bQ z0 (p + 40) 16).length = 16 from (B8 _ _ _))]) (BY (BY (by simp [Value.oneCell']) CT) CT) (by simp [(AN 32), (AN 16)]) (BT (by simp [(AN 32), (AN 16), (show (bQ z0 (p + 8) 32).length = 32 from (B8 _ _ _)), (show (bQ z0 (p + 40) 16).length = 16 from (B8 _ _ _))]))) rfl ?_
   show JL _ _ _ _ _ [⟨nb1, [U64 (vQ z0 p 8)] ++ cu8 (bQ z0 (p + 8) 32) ++ cu8 (bQ z0 (p + 40) 16), 161, (0, 0)⟩, _, _, _, _]
   refine AI (AC (BI (B4 [true, false, false, true, false] ?_)))
   show JQ _ _ _ _ [_, _]
   refine BH (.agg ([U64 (vQ z0 p 8)] ++ cu8 (bQ z0 (p + 8) 32) ++ cu8 (bQ z0 (p + 40) 16)).toArray) (res1 Tryd.results120 (DM rfl (BU D5 B1 (by simp [(show (bQ z0 (p + 8) 32).length = 32 from (B8 _ _ _)), (show (bQ z0 (p + 40) 16).length = 16 from (B8 _ _ _))]) (AU 0 rfl (AQ _))))) fun w1 hw1 => ?_
   first | (exfalso; omega) | exact ⟨_, _, rfl, ⟨rfl, ao3, zz3, ca3, hq3, ⟨(fun w M h => hA3 w M ((fun w M h => hA2 w M ((fun w M h => hA1 w M ((fun _ _ h => h) w M h)) w M h)) w M h)), by omega, by omega, by omega⟩, rfl⟩, hw1.sub (by simp) (by simp)⟩
  ·
   refine ⟨[], ?_⟩
   show DP _ _ _ _ _ _ _ _ [_, _, _, ⟨rb, [errV 50 (eQ z0 (p + 56)), SL ao3 zz3.length ca3], 204, (0, 0)⟩]
   refine EH ⟨[3], [0, 1, 2], [2], [0, 1], [4]⟩ 4 rfl rfl (by decide +kernel) rfl ⟨⟨_, rfl, AL rfl (AD 33 27 16 CN rfl CI rfl rfl)⟩, ⟨_, rfl, AL rfl (DF 16 5 1 0 16 33 16 CF BZ rfl rfl rfl (by omega) (by omega) (by omega) (by omega) (by omega) 16 (by omega))⟩, trivial⟩ rfl (BO rfl (ET 43 43 5 1 nb2 33 16 16 ([U64 (vQ z0 p 8)] ++ cu8 (bQ z0 (p + 8) 32) ++ cu8 (zr8 16)) 161 none 0 0 0 [] ([U64 (vQ z0 p 8)] ++ cu8 (bQ z0 (p + 8) 32) ++ cu8 (zr8 16)) BA D4 rfl rfl rfl rfl rfl SrcAt.nil (by simp [(show (bQ z0 (p + 8) 32).length = 32 from (B8 _ _ _)), (AN 16)]) one_nil (lay_nil _ _))) ?_
   show DP _ _ _ _ _ _ _ _ [_, _, _, _]
   refine DU ⟨[3, 4], [0, 1, 2], [0, 1, 2], [], []⟩ rfl rfl (by decide +kernel) rfl trivial ?_
   refine C6 (F' := [(2, Ptr nb1 0), (3, Ptr nb2 0)]) (by kernel_rfl) ?_
   refine AC (AH (AB (AA (.agg ([U64 (vQ z0 p 8)] ++ cu8 (bQ z0 (p + 8) 32) ++ cu8 (zr8 16)).toArray) (AO rfl (BU D5 B1 (by simp [(show (bQ z0 (p + 8) 32).length = 32 from (B8 _ _ _)), (AN 16)]) (AU 1 rfl (AQ _)))) rfl ?_)))
   refine A7 (BQ 0 nb1 49 ([U64 0] ++ cu8 (zr8 32) ++ cu8 (zr8 16)) 161 ([U64 (vQ z0 p 8)] ++ cu8 (bQ z0 (p + 8) 32) ++ cu8 (zr8 16)) rfl rfl rfl B1 (by simp [(show (bQ z0 (p + 8) 32).length = 32 from (B8 _ _ _)), (AN 16)]) (BY (BY (by simp [Value.oneCell']) CT) CT) (by simp [(AN 32), (AN 16)]) (BT (by simp [(AN 32), (AN 16), (show (bQ z0 (p + 8) 32).length = 32 from (B8 _ _ _)), (AN 16)]))) rfl ?_
   show JL _ _ _ _ _ [⟨nb1, [U64 (vQ z0 p 8)] ++ cu8 (bQ z0 (p + 8) 32) ++ cu8 (zr8 16), 161, (0, 0)⟩, _, _, _]
   refine AI (AC (BI (B4 [true, false, false, true] ?_)))
   show JQ _ _ _ _ [_, _]
   refine BH (.agg ([U64 (vQ z0 p 8)] ++ cu8 (bQ z0 (p + 8) 32) ++ cu8 (zr8 16)).toArray) (res1 Tryd.results120 (DM rfl (BU D5 B1 (by simp [(show (bQ z0 (p + 8) 32).length = 32 from (B8 _ _ _)), (AN 16)]) (AU 0 rfl (AQ _))))) fun w1 hw1 => ?_
   first | (exfalso; omega) | exact ⟨_, _, rfl, ⟨by rw [show bQ z0 (p + 40) 16 = zr8 16 from bQ_neg (by omega)], ao3, zz3, ca3, hq3, ⟨(fun w M h => hA3 w M ((fun w M h => hA2 w M ((fun w M h => hA1 w M ((fun _ _ h => h) w M h)) w M h)) w M h)), by omega, by omega, by omega⟩, rfl⟩, hw1.sub (by simp) (by simp)⟩
 ·
  refine ⟨[], ?_⟩
  show DP _ _ _ _ _ _ _ _ [_, _, ⟨rb, [errV 50 (eQ z0 (p + 40)), SL ao2 zz2.length ca2], 204, (0, 0)⟩]
  refine EH ⟨[3], [0, 1, 2], [2], [0, 1], [4]⟩ 4 rfl rfl (by decide +kernel) rfl ⟨⟨_, rfl, AL rfl (AD 1 159 32 CN rfl Tryd.sizeOf159 rfl rfl)⟩, ⟨_, rfl, AL rfl (DF 32 5 1 0 32 1 32 Tryd.underlying159 BZ rfl rfl rfl (by omega) (by omega) (by omega) (by omega) (by omega) 32 (by omega))⟩, trivial⟩ rfl (BO rfl (ET 43 43 5 1 nb2 1 32 32 ([U64 (vQ z0 p 8)] ++ cu8 (zr8 32) ++ cu8 (zr8 16)) 161 none 0 0 0 [] ([U64 (vQ z0 p 8)] ++ cu8 (zr8 32) ++ cu8 (zr8 16)) BA D4 rfl rfl rfl rfl rfl SrcAt.nil (by simp [(AN 32), (AN 16)]) one_nil (lay_nil _ _))) ?_
  show DP _ _ _ _ _ _ _ _ [_, _, _]
  refine DU ⟨[3, 4], [0, 1, 2], [0, 1, 2], [], []⟩ rfl rfl (by decide +kernel) rfl trivial ?_
  refine C6 (F' := [(0, Ptr rb 0), (2, Ptr nb1 0), (3, Ptr nb2 0)]) (by kernel_rfl) ?_
  refine AC (AH (DC 18 3 [(0, Ptr nb2 33), (1, Slc nb2 33 16 16), (2, Ptr rb 0)] CA rfl (by decide +kernel) ?_))
  have hz4 : (zz2).length = zz2.length := rfl
  refine CW ⟨[], [0, 1, 2], [], [0, 1, 2], [3]⟩ 3 _ rfl rfl (by decide +kernel) rfl ⟨⟨_, rfl, AL rfl (AD 33 27 16 CN rfl CI rfl rfl)⟩, ⟨_, rfl, AL rfl (DF 16 5 1 0 16 33 16 CF BZ rfl rfl rfl (by omega) (by omega) (by omega) (by omega) (by omega) 16 (by omega))⟩, CG rfl rfl rfl, trivial⟩ rfl (BO rfl (A8 127 _ [false, false, true] [rb] _ (AS [Ptr rb 0, I64 16] Tryd.call127 rfl) rfl (fun w1 hw1 => rawA_w rb (p + 40) 16 ao2 zz2.length ca2 z0 zz2 w1 (hw1.ent _ (List.mem_of_getElem? (i := 2) rfl)) rfl (by omega) (by omega) (by omega) ((fun w M h => hA2 w M ((fun w M h => hA1 w M ((fun _ _ h => h) w M h)) w M h)) _ _ (hr.at (M' := [rb]) hw1 (hw1.apart [2] _ rfl))) hq2 (by omega)))) ?_
  rintro v1 L1 ⟨_, ⟨ao4, zz4, ca4, hq4, ⟨hA4, hb10, hb11, hb12⟩, (⟨hg3, nb5, sp3, cp3, rfl, rfl, hc7, hc8, hc9⟩ | ⟨hg3, rfl, rfl⟩)⟩, rfl⟩
  ·
   refine ⟨[], ?_⟩
   show DP _ _ _ _ _ _ _ _ [_, _, ⟨rb, [errV 50 (eQ z0 (p + 56)), SL ao4 zz4.length ca4], 204, (0, 0)⟩, ⟨nb5, cu8 (bQ z0 (p + 40) 16) ++ sp3, 5, (0, 0)⟩]
   refine EH ⟨[3], [0, 1, 2], [2], [0, 1], [4]⟩ 4 rfl rfl (by decide +kernel) rfl ⟨⟨_, rfl, AL rfl (AD 33 27 16 CN rfl CI rfl rfl)⟩, ⟨_, rfl, AL rfl (DF 16 5 1 0 16 33 16 CF BZ rfl rfl rfl (by omega) (by omega) (by omega) (by omega) (by omega) 16 (by omega))⟩, trivial⟩ rfl (BO rfl (ET 43 43 5 1 nb2 33 16 16 ([U64 (vQ z0 p 8)] ++ cu8 (zr8 32) ++ cu8 (zr8 16)) 161 (some ⟨nb5, 0, none⟩) 16 cp3 16 (cu8 (bQ z0 (p + 40) 16)) ([U64 (vQ z0 p 8)] ++ cu8 (zr8 32) ++ cu8 (bQ z0 (p + 40) 16)) BA D4 rfl rfl rfl rfl (by simp [(show (bQ z0 (p + 40) 16).length = 16 from (B8 _ _ _))]; try omega) (SrcAt.mem (AU 3 rfl (AJ (AQ _)))) (by simp [(AN 32), (AN 16)]; try omega) (by first | exact CT | exact one_u32 | exact one_u64 | (simp [cu8, cu32, cu64, Value.oneCell']; done)) (ES 33 0 (by simp [(AN 32)]) rfl (BT (by simp [(AN 16), (show (bQ z0 (p + 40) 16).length = 16 from (B8 _ _ _))]))))) ?_
   show DP _ _ _ _ _ _ _ _ [_, ⟨nb2, [U64 (vQ z0 p 8)] ++ cu8 (zr8 32) ++ cu8 (bQ z0 (p + 40) 16), 161, (0, 0)⟩, _, _]
   refine DU ⟨[3, 4], [0, 1, 2], [0, 1, 2], [], []⟩ rfl rfl (by decide +kernel) rfl trivial ?_
   refine C6 (F' := [(2, Ptr nb1 0), (3, Ptr nb2 0)]) (by kernel_rfl) ?_
   refine AC (AH (AB (AA (.agg ([U64 (vQ z0 p 8)] ++ cu8 (zr8 32) ++ cu8 (bQ z0 (p + 40) 16)).toArray) (AO rfl (BU D5 B1 (by simp [(AN 32), (show (bQ z0 (p + 40) 16).length = 16 from (B8 _ _ _))]) (AU 1 rfl (AQ _)))) rfl ?_)))
   refine A7 (BQ 0 nb1 49 ([U64 0] ++ cu8 (zr8 32) ++ cu8 (zr8 16)) 161 ([U64 (vQ z0 p 8)] ++ cu8 (zr8 32) ++ cu8 (bQ z0 (p + 40) 16)) rfl rfl rfl B1 (by simp [(AN 32), (show (bQ z0 (p + 40) 16).length = 16 from (B8 _ _ _))]) (BY (BY (by simp [Value.oneCell']) CT) CT) (by simp [(AN 32), (AN 16)]) (BT (by simp [(AN 32), (AN 16), (AN 32), (show (bQ z0 (p + 40) 16).length = 16 from (B8 _ _ _))]))) rfl ?_
   show JL _ _ _ _ _ [⟨nb1, [U64 (vQ z0 p 8)] ++ cu8 (zr8 32) ++ cu8 (bQ z0 (p + 40) 16), 161, (0, 0)⟩, _, _, _]
   refine AI (AC (BI (B4 [true, false, true, false] ?_)))
   show JQ _ _ _ _ [_, _]
   refine BH (.agg ([U64 (vQ z0 p 8)] ++ cu8 (zr8 32) ++ cu8 (bQ z0 (p + 40) 16)).toArray) (res1 Tryd.results120 (DM rfl (BU D5 B1 (by simp [(AN 32), (show (bQ z0 (p + 40) 16).length = 16 from (B8 _ _ _))]) (AU 0 rfl (AQ _))))) fun w1 hw1 => ?_
   first | (exfalso; omega) | exact ⟨_, _, rfl, ⟨by rw [show bQ z0 (p + 8) 32 = zr8 32 from bQ_neg (by omega)], ao4, zz4, ca4, hq4, ⟨(fun w M h => hA4 w M ((fun w M h => hA2 w M ((fun w M h => hA1 w M ((fun _ _ h => h) w M h)) w M h)) w M h)), by omega, by omega, by omega⟩, rfl⟩, hw1.sub (by simp) (by simp)⟩
  ·
   refine ⟨[], ?_⟩
   show DP _ _ _ _ _ _ _ _ [_, _, ⟨rb, [errV 50 (eQ z0 (p + 56)), SL ao4 zz4.length ca4], 204, (0, 0)⟩]
   refine EH ⟨[3], [0, 1, 2], [2], [0, 1], [4]⟩ 4 rfl rfl (by decide +kernel) rfl ⟨⟨_, rfl, AL rfl (AD 33 27 16 CN rfl CI rfl rfl)⟩, ⟨_, rfl, AL rfl (DF 16 5 1 0 16 33 16 CF BZ rfl rfl rfl (by omega) (by omega) (by omega) (by omega) (by omega) 16 (by omega))⟩, trivial⟩ rfl (BO rfl (ET 43 43 5 1 nb2 33 16 16 ([U64 (vQ z0 p 8)] ++ cu8 (zr8 32) ++ cu8 (zr8 16)) 161 none 0 0 0 [] ([U64 (vQ z0 p 8)] ++ cu8 (zr8 32) ++ cu8 (zr8 16)) BA D4 rfl rfl rfl rfl rfl SrcAt.nil (by simp [(AN 32), (AN 16)]) one_nil (lay_nil _ _))) ?_
   show DP _ _ _ _ _ _ _ _ [_, _, _]
   refine DU ⟨[3, 4], [0, 1, 2], [0, 1, 2], [], []⟩ rfl rfl (by decide +kernel) rfl trivial ?_
   refine C6 (F' := [(2, Ptr nb1 0), (3, Ptr nb2 0)]) (by kernel_rfl) ?_
   refine AC (AH (AB (AA (.agg ([U64 (vQ z0 p 8)] ++ cu8 (zr8 32) ++ cu8 (zr8 16)).toArray) (AO rfl (BU D5 B1 (by simp [(AN 32), (AN 16)]) (AU 1 rfl (AQ _)))) rfl ?_)))
   refine A7 (BQ 0 nb1 49 ([U64 0] ++ cu8 (zr8 32) ++ cu8 (zr8 16)) 161 ([U64 (vQ z0 p 8)] ++ cu8 (zr8 32) ++ cu8 (zr8 16)) rfl rfl rfl B1 (by simp [(AN 32), (AN 16)]) (BY (BY (by simp [Value.oneCell']) CT) CT) (by simp [(AN 32), (AN 16)]) (BT (by simp [(AN 32), (AN 16), (AN 32), (AN 16)]))) rfl ?_
   show JL _ _ _ _ _ [⟨nb1, [U64 (vQ z0 p 8)] ++ cu8 (zr8 32) ++ cu8 (zr8 16), 161, (0, 0)⟩, _, _]
   refine AI (AC (BI (B4 [true, false, true] ?_)))
   show JQ _ _ _ _ [_, _]
   refine BH (.agg ([U64 (vQ z0 p 8)] ++ cu8 (zr8 32) ++ cu8 (zr8 16)).toArray) (res1 Tryd.results120 (DM rfl (BU D5 B1 (by simp [(AN 32), (AN 16)]) (AU 0 rfl (AQ _))))) fun w1 hw1 => ?_
   first | (exfalso; omega) | exact ⟨_, _, rfl, ⟨by rw [show bQ z0 (p + 8) 32 = zr8 32 from bQ_neg (by omega), show bQ z0 (p + 40) 16 = zr8 16 from bQ_neg (by omega)], ao4, zz4, ca4, hq4, ⟨(fun w M h => hA4 w M ((fun w M h => hA2 w M ((fun w M h => hA1 w M ((fun _ _ h => h) w M h)) w M h)) w M h)), by omega, by omega, by omega⟩, rfl⟩, hw1.sub (by simp) (by simp)⟩
attribute [local irreducible] blankB spanB reqR plainV itB chB bB aB c1B c2B c3B c4B repR repT LargeQ fQ fN
theorem flgQ_w (rb p : Nat) (ao : Option Addr) (n c : Nat) (z0 z : List UInt8) (w : World) (h0 : w.heap[rb]? = some (.cells [errV 50 (eQ z0 p), SL ao n c].toArray 204 (0, 0))) (hz : z.length = n) (hn : n ≤ 2000000000) (hc : n ≤ c) (hcm : c ≤ maxLen) (hr : RdB w [rb] ao z) (hq : Lq z0 z p) : Calls Tryd.prog 119 #[Ptr rb 0] w (Post w [rb] (fun v L => v = .bool (fQ z0 p) ∧ ∃ q ao' z' c', q = p + fN z0 p ∧ Lq z0 z' q ∧ Adv ao z c ao' z' c' ∧ L = [⟨rb, [errV 50 (eQ z0 q), SL ao' z'.length c'], 204, (0, 0)⟩])) := by
 refine (flgR_w rb (eQ z0 p) ao n c z w h0 hz hn hc hcm hr).mono ?_
 rintro E W ⟨v, L, rfl, ⟨hv, ao', c', hA, hL⟩, hw⟩
 exact ⟨v, L, rfl, ⟨by rw [hv, fgV_q hq], _, ao', _, c', rfl, fgZ_q hq, hA, by rw [hL, okE_q (FgOk_q hq)]⟩, hw⟩
theorem hasQ_w (rb p : Nat) (ao : Option Addr) (n c : Nat) (z0 z : List UInt8) (w : World) (h0 : w.heap[rb]? = some (.cells [errV 50 (eQ z0 p), SL ao n c].toArray 204 (0, 0))) (hz : z.length = n) (hn : n ≤ 2000000000) (hc : n ≤ c) (hcm : c ≤ maxLen) (hr : RdB w [rb] ao z) (hq : Lq z0 z p) : Calls Tryd.prog 152 #[Ptr rb 0] w (Post w [rb] (fun v L => v = .agg (cu8 (bQ z0 p 32)).toArray ∧ ∃ ao' z' c', Lq z0 z' (p + 32) ∧ Adv ao z c ao' z' c' ∧ L = [⟨rb, [errV 50 (eQ z0 (p + 32)), SL ao' z'.length c'], 204, (0, 0)⟩])) := by
 refine (hasR_w rb (eQ z0 p) ao n c z w h0 hz hn hc hcm hr).mono ?_
 rintro E W ⟨v, L, rfl, ⟨hv, ao', c', hA, hL⟩, hw⟩
 exact ⟨v, L, rfl, ⟨by rw [hv, hsV_q hq], ao', _, c', hsZ_q hq, hA, by rw [hL, okE_q (HsOk_q hq)]⟩, hw⟩
theorem fromQ_w (ax : Option Addr) (p cx : Nat) (z : List UInt8) (w : World) (ha : ax.isNone = false) (hz : z.length = p) (hn : p ≤ 2000000000) (hr : RdB w [] ax z) : Calls Tryd.prog 59 #[SL ax p cx] w (Post w [] (fun v L => ∃ rb g sp cap, v = Ptr rb 0 ∧ L = [⟨rb, [errV 50 (eQ z 0), Slc g 0 p cap], 204, (0, 0)⟩, ⟨g, cu8 z ++ sp, 5, (0, 0)⟩] ∧ sp.length = cap - p ∧ p ≤ cap ∧ cap ≤ maxLen)) := by
 rw [show errV 50 (eQ z 0) = .nilIface from by rw [eQ_ok (Nat.zero_le _)]; rfl]
 exact from_c ax p cx z w ha hz hn hr
end Go.Proofs.YtkdpdgpphpngeaaDoor
