import Derived.Test.YtkdpdgpphpngeaaDoorPkWp3
set_option maxHeartbeats 8000000
set_option linter.unusedVariables false
set_option linter.unusedSimpArgs false
set_option maxRecDepth 100000
namespace Go.Proofs.YtkdpdgpphpngeaaDoor
open Go Go.Sx
open Go.Value renaming slice → SL
attribute [local irreducible] mid zr8 numK valK rvalK constL initL putL RightB tktT mayN idxT selT blankB spanB reqR plainV itB chB bB aB c1B c2B c3B c4B repR eQ vQ tQ bQ sQ ixQ seQ fQ fN JL JC JQ DP Ev Ld MemAt Seg Step Cl RV Qok Cok
theorem repH_c (rq : UInt64) (rk er : Int) (aj : Option Addr) (nj cj : Nat) (lj : List ItemR) (th : Bool) (pv ep : UInt64) (kd : Int) (ai : Option Addr) (ni ci : Nat) (l : List UInt64) (sa : Option Addr) (ns sc : Nat) (ls : List SealR) (bl : UInt64) (tg : List UInt8) (aha : Option Addr) (nha cha : Nat) (xha : List UInt8) (ahb : Option Addr) (nhb chb : Nat) (xhb : List UInt8)  (w : World) (hlj : lj.length = nj) (hnj : nj ≤ 2000000) (hdj : nj ≤ cj) (hcj : cj ≤ maxLen) (hj : RdV w aj (lj.flatMap itemC)) (hl : l.length = ni) (hnm : ni ≤ 2000000) (hnc : ni ≤ ci) (hcm : ci ≤ maxLen) (hv : RdV w ai (cu64 l)) (hls : ls.length = ns) (hnn : ns ≤ 2000000) (hnd : ns ≤ sc) (hcn : sc ≤ maxLen) (hs : RdV w sa (ls.flatMap sealC)) (htg : tg.length = 16) (hlha : xha.length = nha * 32) (hnha : nha ≤ 9000) (hdha : nha ≤ cha) (hcha : cha ≤ maxLen) (hrha : RdB w [] aha xha) (hlhb : xhb.length = nhb * 32) (hnhb : nhb ≤ 9000) (hdhb : nhb ≤ chb) (hchb : chb ≤ maxLen) (hrhb : RdB w [] ahb xhb)  : Calls Tryd.prog 32 #[.agg (V0 rq (rk) (er) aj nj cj th pv ep (kd) ai ni ci sa ns sc bl tg aha nha cha ahb nhb chb).toArray] w (Post w [] (fun v L => ∃ g1 cs1 T1 a1 c1 g2 cs2 T2 a2 c2, v = .agg (V0 rq rk er a1 nj c1 th pv ep kd ai ni ci a2 ns c2 bl tg aha nha cha ahb nhb chb).toArray ∧ L = [(Ez g1 cs1 T1), (Ez g2 cs2 T2)] ∧ Gh (lj.flatMap itemC) g1 cs1 a1 ∧ nj ≤ c1 ∧ c1 ≤ maxLen ∧ Gh (ls.flatMap sealC) g2 cs2 a2 ∧ ns ≤ c2 ∧ c2 ≤ maxLen)) := by
 have hmx : maxLen = 9223372036854775807 := rfl
 refine enter (P := Tryd.prog) (f := 32) (fn := Tryd.f32) w [] 42 [] [.agg (V0 rq (rk) (er) aj nj cj th pv ep (kd) ai ni ci sa ns sc bl tg aha nha cha ahb nhb chb).toArray] Tryd.func32 rfl rfl ZM (A2 ZM ZM ZM) ?_
 show JC _ _ _ [_] _
 refine A4 (AO (AF (B2 (.agg (V0 rq (rk) (er) aj nj cj th pv ep (kd) ai ni ci sa ns sc bl tg aha nha cha ahb nhb chb).toArray) (V0 rq (rk) (er) aj nj cj th pv ep (kd) ai ni ci sa ns sc bl tg aha nha cha ahb nhb chb) rfl (by first | rfl | simp)) rfl ?_))
 rintro v1 L1 ⟨nb1, hnb1, rfl, rfl⟩
 show JL _ _ _ _ (_ :: _) [_]
 refine AF (AS _ (V6) Tryd.zeroValue71 ZR) rfl ?_
 rintro v1 L1 ⟨nb2, hnb2, rfl, rfl⟩
 show JL _ _ _ _ (_ :: _) [_, _]
 refine A1 (AK (A4 (Z8 42 4 [(0, Ptr nb1 0), (1, U64 rq), (2, Ptr nb1 1), (3, I64 (rk)), (4, Ptr nb1 2), (5, I64 (er)), (6, Ptr nb1 4), (7, .bool th), (8, Ptr nb1 5), (9, .agg (V2 pv ep (kd) ai ni ci sa ns sc bl tg).toArray), (11, Ptr nb1 27), (12, SL aha nha cha), (13, Ptr nb1 28), (14, SL ahb nhb chb)] ?_)))
 refine DP_two ⟨[], [0, 1, 2, 3, 4, 5, 6, 7, 8, 9, 11, 12, 13, 14], [], [0, 1, 2, 3, 4, 5, 6, 7, 8, 9, 11, 12, 13, 14], [10, 16]⟩ 10 16 _ _ rfl rfl ZK rfl ⟨AA rfl rfl (BX 0 22 1 CD rfl BJ rfl rfl), AA rfl rfl (AR rfl (B1 BD (A0 0 rfl (AU (AU (Seg.head)))))), AA rfl rfl (BX 1 3 1 CD rfl CZ rfl rfl), AA rfl rfl (AR rfl (B1 Tryd.isAgg3 (A0 0 rfl (AU (AU (B0 (Seg.head))))))), AA rfl rfl (BX 2 3 1 CD rfl CZ rfl rfl), AA rfl rfl (AR rfl (B1 Tryd.isAgg3 (A0 0 rfl (AU (AU (B0 (B0 (Seg.head)))))))), AA rfl rfl (BX 4 4 1 CD rfl DU rfl rfl), AA rfl rfl (AR rfl (B1 Tryd.isAgg4 (A0 0 rfl (AU (AU (B0 (B0 (B0 (B0 (Seg.head)))))))))), AA rfl rfl (BX 5 29 22 CD rfl BH rfl rfl), AA rfl rfl (AR rfl (BV CQ BH (by simp [htg]) (A0 0 rfl (CB (p := [U64 rq, I64 (rk), I64 (er), SL aj nj cj, .bool th]) (q := [SL aha nha cha, SL ahb nhb chb]) (vs := (V2 pv ep (kd) ai ni ci sa ns sc bl tg)) (by first | rfl | (simp only [List.append_assoc, List.nil_append, List.append_nil, List.cons_append]; done)) rfl)))), AA rfl rfl (BX 27 65 1 CD rfl D2 rfl rfl), AA rfl rfl (AR rfl (B1 B9 (A0 0 rfl (Seg.right 27 0 (by simp [htg]) rfl (Seg.head))))), AA rfl rfl (BX 28 65 1 CD rfl D2 rfl rfl), AA rfl rfl (AR rfl (B1 B9 (A0 0 rfl (Seg.right 27 1 (by simp [htg]) rfl (B0 (Seg.head)))))), trivial⟩ rfl rfl (AL rfl (A5 44 _ _ (AH _ Tryd.call44 rfl) (fun w1 hw1 => docH_c pv ep (kd) ai ni ci l sa ns sc ls bl tg w1 hl ZO ZO ZO (CF hw1 rfl hv) hls ZO ZO ZO (CF hw1 rfl hs) htg))) (AL rfl (AS _ (V6) Tryd.zeroValue71 ZR)) ?_ ?_
 ·
  rintro v1 L1 ⟨_, ⟨ng1, cs1, nT1, na1, nc1, rfl, rfl, hc1, hc2, hc3⟩, rfl⟩
  refine ⟨[(15, .agg (V0 rq (rk) (er) none 0 0 th pv ep (kd) ai ni ci na1 ns nc1 bl tg aha nha cha ahb nhb chb).toArray)], ?_⟩
  show DP _ _ _ _ _ _ _ _ [_, _, _]
  refine Z7 ⟨[10], [0, 1, 2, 3, 4, 5, 6, 7, 8, 9, 11, 12, 13, 14, 15], [8, 9], [0, 1, 2, 3, 4, 5, 6, 7, 11, 12, 13, 14, 15], [16]⟩ 16 (hq := ⟨AA rfl rfl ZE, AA rfl rfl ZE, AA rfl rfl ZE, AA rfl rfl ZE, AA rfl rfl ZE, AA rfl rfl ZE, AA rfl rfl ZE, AA rfl rfl ZE, AA rfl rfl ZE, AA rfl rfl (AR rfl (B1 B9 (A0 0 rfl (Seg.right 27 0 (by simp [htg]) rfl (Seg.head))))), AA rfl rfl ZE, AA rfl rfl (AR rfl (B1 B9 (A0 0 rfl (Seg.right 27 1 (by simp [htg]) rfl (B0 (Seg.head)))))), AA rfl rfl (DN [(0, U64 rq), (1, I64 (rk)), (2, I64 (er)), (4, .bool th), (5, .agg (V2 pv ep (kd) ai ni ci na1 ns nc1 bl tg).toArray), (6, SL aha nha cha), (7, SL ahb nhb chb)] _ rfl (fun _ => (bld71_0124567 (c5 := (V2 pv ep (kd) ai ni ci na1 ns nc1 bl tg)) rfl rfl rfl rfl (by simp [AN, htg]) rfl rfl ).trans (by first | rfl | simp only [List.append_assoc, List.cons_append, List.nil_append]))), trivial⟩) (AL rfl (AS _ (V6) Tryd.zeroValue71 ZR)) ?_
  rintro v1 L1 ⟨nb4, hnb4, rfl, rfl⟩
  refine ⟨[], ?_⟩
  show DP _ _ _ _ _ _ _ _ [_, _, _, _]
  refine Z6 ⟨[10, 16], [0, 1, 2, 3, 4, 5, 6, 7, 8, 9, 11, 12, 13, 14, 15], [8, 9], [0, 1, 2, 3, 4, 5, 6, 7, 11, 12, 13, 14, 15], [17]⟩ 17 (hq := ⟨AA rfl rfl ZE, AA rfl rfl ZE, AA rfl rfl ZE, AA rfl rfl ZE, AA rfl rfl ZE, AA rfl rfl ZE, AA rfl rfl ZE, AA rfl rfl ZE, AA rfl rfl ZE, AA rfl rfl (AR rfl (B1 B9 (A0 0 rfl (Seg.right 27 0 (by simp [htg]) rfl (Seg.head))))), AA rfl rfl ZE, AA rfl rfl (AR rfl (B1 B9 (A0 0 rfl (Seg.right 27 1 (by simp [htg]) rfl (B0 (Seg.head)))))), AA rfl rfl (DN [(0, U64 rq), (1, I64 (rk)), (2, I64 (er)), (4, .bool th), (5, .agg (V2 pv ep (kd) ai ni ci na1 ns nc1 bl tg).toArray), (6, SL aha nha cha), (7, SL ahb nhb chb)] _ rfl (fun _ => (bld71_0124567 (c5 := (V2 pv ep (kd) ai ni ci na1 ns nc1 bl tg)) rfl rfl rfl rfl (by simp [AN, htg]) rfl rfl ).trans (by first | rfl | simp only [List.append_assoc, List.cons_append, List.nil_append]))), trivial⟩) (AL rfl (AB 3 nb4 29 _ 71 (V0 rq (rk) (er) none 0 0 th pv ep (kd) ai ni ci na1 ns nc1 bl tg aha nha cha ahb nhb chb) rfl rfl rfl D1 (by simp [htg]) (AQ (AQ ZC A6) ZC) ZS (AI (by simp [(AN 16), htg])))) ?_
  show DP _ _ _ _ _ _ _ _ [_, _, _, _]
  refine Z5 ⟨[10, 16, 17], [0, 1, 2, 3, 4, 5, 6, 7, 8, 9, 11, 12, 13, 14, 15], [0, 1, 2, 3, 4, 5, 6, 7, 8, 9, 11, 12, 13, 14, 15], [], []⟩ ?_
  refine A9 (F' := [(3, Ptr nb4 0), (1, Ptr nb1 0), (2, Ptr nb2 0)]) ZR ?_
  refine Z2 11 ?_
  refine JC_mask [false, true, true, true] ?_
  show JC _ _ _ _ [_, _, _]
  refine C3 (ι := (Unit) ⊕ (Nat × List ItemR × Nat × List Value × Nat)) (fun x => match x with | .inl _ => [(2, Ptr nb2 0), (3, Ptr nb4 0), (23, SL aj nj cj), (24, I64 nj), (25, I64 0)] | .inr ⟨i, rr, gb, sp, cp⟩ => [(2, Ptr nb2 0), (3, Ptr nb4 0), (23, SL aj nj cj), (24, I64 nj), (25, I64 i)]) (fun x => match x with | .inl _ => [(Ez nb2 (V6) 71), (Ez ng1 cs1 nT1), (Ez nb4 (V0 rq (rk) (er) none 0 0 th pv ep (kd) ai ni ci na1 ns nc1 bl tg aha nha cha ahb nhb chb) 71)] | .inr ⟨i, rr, gb, sp, cp⟩ => [(Ez nb2 (V6) 71), (Ez ng1 cs1 nT1), (Ez nb4 ([U64 rq, I64 (rk), I64 (er), Slc gb 0 i cp, .bool th, U64 pv, U64 ep, I64 (kd), SL ai ni ci, SL na1 ns nc1, U64 bl] ++ cu8 tg ++ [SL aha nha cha, SL ahb nhb chb]) 71), (Ez gb ((rr).flatMap itemC ++ sp) 167)]) (fun x => match x with | .inl _ => True | .inr ⟨i, rr, gb, sp, cp⟩ => 0 < i ∧ i ≤ nj ∧ rr = lj.take i ∧ rr.length = i ∧ sp.length = cp * 50 - i * 50 ∧ i ≤ cp ∧ cp ≤ maxLen) (fun x => match x with | .inl _ => nj + 2 | .inr ⟨i, rr, gb, sp, cp⟩ => nj + 1 - i) (.inl ()) trivial (Sub.all rfl) rfl ?_
  rintro (_ | ⟨i, rr, gb, sp, cp⟩) hx
  ·
   obtain _ := hx
   show JC _ _ _ [_, _, _, _, _] [_, _, _]
   refine Z2 6 ?_
   refine AX _ rfl (fun hb1 => ?_) (fun hb1 => ?_)
   ·
    have hp1 := of_decide_eq_true hb1
    refine Z2 6 ?_
    obtain ⟨x1, hx1⟩ : ∃ x, lj[0]? = some x := ⟨_, List.getElem?_eq_getElem (by rw [hlj]; omega)⟩
    obtain ⟨bz1, oz1, hz1, hm1⟩ := EJ FG ZD hj hx1
    rw [itemC_eq] at hm1
    refine AE (Ptr bz1 oz1) (BK 163 50 oz1 C0 CN rfl hz1 rfl ZO ZO ZO) rfl ?_
    refine AE (.agg (List.toArray (α := Value) (V3 x1.b x1.s.e x1.s.d x1.s.t))) (AR rfl (BV Tryd.isAgg163 CN (by simp [x1.s.hd, x1.s.ht]) (BP (hm1.mem ZM) (AG _) (by first | omega | (simp; done) | (simp; omega))))) rfl ?_
    refine AF (AS _ (V7) DY ZR) rfl ?_
    rintro v1 L1 ⟨nb5, hnb5, rfl, rfl⟩
    show JL _ _ _ _ (_ :: _) [_, _, _, _]
    refine AC (AB 3 nb5 50 _ 163 (V3 x1.b x1.s.e x1.s.d x1.s.t) rfl rfl rfl CN (by simp [x1.s.hd, x1.s.ht]) (AQ (AQ ZC A6) A6) ZS (AI (by simp [(AN 32), (AN 16), x1.s.hd, x1.s.ht]))) rfl ?_
    show JL _ _ _ _ _ [_, _, _, _]
    refine A1 (AK (Z8 42 5 [(0, Ptr nb4 3), (1, SL none 0 0), (2, Ptr nb5 0), (3, .bool x1.b), (4, Ptr nb5 1), (5, .agg ([U64 x1.s.e] ++ cu8 x1.s.d ++ cu8 x1.s.t).toArray)] ?_))
    refine Z7 ⟨[], [0, 1, 2, 3, 4, 5], [], [0, 1, 2, 3, 4, 5], [6]⟩ 6 (hq := ⟨AA rfl rfl ZE, AA rfl rfl ZE, AA rfl rfl ZE, AA rfl rfl ZE, AA rfl rfl ZE, AA rfl rfl (AR rfl (BV CT BC (by simp [x1.s.hd, x1.s.ht]) (A0 3 rfl (CB (p := [.bool x1.b]) (q := []) (vs := [U64 x1.s.e] ++ cu8 x1.s.d ++ cu8 x1.s.t) (by first | rfl | (simp only [List.append_assoc, List.nil_append, List.append_nil, List.cons_append]; done)) rfl)))), trivial⟩) (AL rfl (AJ 93 _ (.agg ([U64 x1.s.e] ++ cu8 x1.s.d ++ cu8 x1.s.t).toArray) (AH _ Tryd.call93 rfl) (fun w1 hw1 => doc7_c x1.s.e x1.s.d x1.s.t w1 x1.s.hd x1.s.ht))) ?_
    rintro v1 L1 ⟨rfl, rfl⟩
    refine ⟨[(7, .agg (List.toArray (α := Value) (V3 x1.b x1.s.e x1.s.d x1.s.t)))], ?_⟩
    show DP _ _ _ _ _ _ _ _ [_, _, _, _]
    refine Z7 ⟨[6], [0, 1, 2, 3, 4, 5, 7], [4, 5], [0, 1, 2, 3, 7], [8]⟩ 8 (hq := ⟨AA rfl rfl ZE, AA rfl rfl ZE, AA rfl rfl ZE, AA rfl rfl ZE, AA rfl rfl (DN [(0, .bool x1.b), (1, .agg ([U64 x1.s.e] ++ cu8 x1.s.d ++ cu8 x1.s.t).toArray)] _ rfl (fun _ => bld167_01 rfl (by simp [AN, x1.s.hd, x1.s.ht]))), trivial⟩) (AL rfl (BF 167 50 _ [(0, .agg (List.toArray (α := Value) (V3 x1.b x1.s.e x1.s.d x1.s.t)))] (V3 x1.b x1.s.e x1.s.d x1.s.t) B7 C6 DX rfl rfl rfl (EL (Z := V7) (by simp [x1.s.hd, x1.s.ht]) ZR (by simp [zr8])))) ?_
    rintro v1 L1 ⟨nb6, hnb6, rfl, rfl⟩
    refine ⟨[], ?_⟩
    show DP _ _ _ _ _ _ _ _ [_, _, _, _, _]
    refine Z7 ⟨[6, 8], [0, 1, 2, 3, 4, 5, 7], [2, 3, 4, 5, 7], [0, 1], [9]⟩ 9 (AL rfl (E1 69 167 64 (.agg (List.toArray (α := Value) (V7))) [false, false, false, false, false] (SL none 0 0) 0 ([] : List ItemR) x1 (some ⟨nb6, 0, none⟩) 1 1 B7 ZR ZR rfl (.inl ⟨rfl, rfl, rfl, rfl⟩) rfl (SrcAt.mem (A0 4 rfl (AG _))) ZO ZO ZO)) ?_
    rintro v1 L1 ⟨nb7, sp1, cp1, hg1, rfl, rfl, ha1, ha2, ha3, ha4⟩
    refine ⟨[(10, Ptr nb4 3)], ?_⟩
    show DP _ _ _ _ _ _ _ _ [_, _, _, _, _, _]
    refine Z6 ⟨[6, 8, 9], [0, 1, 2, 3, 4, 5, 7, 10], [0, 1, 2, 3, 4, 5, 7], [10], [11]⟩ 11 (AL rfl ZW) ?_
    show DP _ _ _ _ _ _ _ _ [_, _, _, _, _, _]
    refine Z5 ⟨[6, 8, 9, 11], [0, 1, 2, 3, 4, 5, 7, 10], [0, 1, 2, 3, 4, 5, 7, 10], [], []⟩ ?_
    refine A9 (F' := [(29, Ptr nb4 3), (30, SL none 0 0), (31, Ptr nb5 0), (32, .bool x1.b), (33, Ptr nb5 1), (34, .agg ([U64 x1.s.e] ++ cu8 x1.s.d ++ cu8 x1.s.t).toArray), (35, .agg ([U64 x1.s.e] ++ cu8 x1.s.d ++ cu8 x1.s.t).toArray), (36, .agg (List.toArray (α := Value) (V3 x1.b x1.s.e x1.s.d x1.s.t))), (37, Slc nb6 0 1 1), (38, Slc nb7 0 1 cp1), (39, Ptr nb4 3), (2, Ptr nb2 0), (3, Ptr nb4 0), (23, SL aj nj cj), (24, I64 nj), (25, I64 0), (26, .bool (decide ((0:Int) < ((nj:Int))))), (27, Ptr bz1 oz1), (28, .agg (List.toArray (α := Value) (V3 x1.b x1.s.e x1.s.d x1.s.t))), (5, Ptr nb5 0)]) ZR ?_
    refine DH (AK (AO (AE (I64 1) (AT rfl rfl fun _ => BR _ _ (1:Int) ZO ZO) rfl ?_)))
    refine Z2 2 ?_
    refine B5 (D7 [true, true, true, false, false, true] ?_)
    show K _ _ [_, _, _, _] _
    refine C1 (.inr (1, ([] : List ItemR) ++ [x1], nb7, sp1, cp1)) ⟨ZO, ZO, EZ (i := 0) hx1, (ha1).trans (by first | rfl | simp +arith), (ha2).trans (by first | rfl | simp +arith), ZO, ZO⟩ (by first | (simp; omega) | simp | (dsimp only; omega) | omega) (Sub.all rfl) rfl
   have hp1 := of_decide_eq_false hb1
   refine Z2 8 ?_
   refine AC (AB 0 nb2 29 _ 71 (V0 rq (rk) (er) none 0 0 th pv ep (kd) ai ni ci na1 ns nc1 bl tg aha nha cha ahb nhb chb) rfl rfl rfl D1 (by simp [htg]) (AQ (AQ ZC A6) ZC) ZS (AI (by simp [(AN 16), htg]))) rfl ?_
   show JL _ _ _ _ _ [_, _, _]
   refine A1 (AK (CH (Z1 fun w1 hw1 => ?_)))
   obtain rfl : nj = 0 := by omega
   exact ⟨_, _, rfl, ⟨_, _, _, none, 0, _, _, _, _, _, rfl, rfl, Gh.itm hlj rfl, ZO, by first | omega | (unfold maxLen; omega), hc1, ZO, ZO⟩, E2 hw1 0 1 rfl rfl ZD⟩
  obtain ⟨hi1, hi2, hi3, hi4, hi5, hi6, hi7⟩ := hx
  show JC _ _ _ [_, _, _, _, _] [_, _, _, _]
  refine Z2 6 ?_
  refine AX _ rfl (fun hb2 => ?_) (fun hb2 => ?_)
  ·
   have hp2 := of_decide_eq_true hb2
   refine Z2 6 ?_
   obtain ⟨x2, hx2⟩ : ∃ x, lj[i]? = some x := ⟨_, List.getElem?_eq_getElem (by rw [hlj]; omega)⟩
   obtain ⟨bz2, oz2, hz2, hm2⟩ := EJ FG ZD hj hx2
   rw [itemC_eq] at hm2
   refine AE (Ptr bz2 (50*i + oz2)) (BK 163 50 (50*i + oz2) C0 CN rfl hz2 rfl ZO ZO ZO) rfl ?_
   refine AE (.agg (List.toArray (α := Value) (V3 x2.b x2.s.e x2.s.d x2.s.t))) (AR rfl (BV Tryd.isAgg163 CN (by simp [x2.s.hd, x2.s.ht]) (BP (hm2.mem ZM) (AG _) (by first | omega | (simp; done) | (simp; omega))))) rfl ?_
   refine AF (AS _ (V7) DY ZR) rfl ?_
   rintro v1 L1 ⟨nb8, hnb8, rfl, rfl⟩
   show JL _ _ _ _ (_ :: _) [_, _, _, _, _]
   refine AC (AB 4 nb8 50 _ 163 (V3 x2.b x2.s.e x2.s.d x2.s.t) rfl rfl rfl CN (by simp [x2.s.hd, x2.s.ht]) (AQ (AQ ZC A6) A6) ZS (AI (by simp [(AN 32), (AN 16), x2.s.hd, x2.s.ht]))) rfl ?_
   show JL _ _ _ _ _ [_, _, _, _, _]
   refine A1 (AK (Z8 42 5 [(0, Ptr nb4 3), (1, Slc gb 0 i cp), (2, Ptr nb8 0), (3, .bool x2.b), (4, Ptr nb8 1), (5, .agg ([U64 x2.s.e] ++ cu8 x2.s.d ++ cu8 x2.s.t).toArray)] ?_))
   refine Z7 ⟨[], [0, 1, 2, 3, 4, 5], [], [0, 1, 2, 3, 4, 5], [6]⟩ 6 (hq := ⟨AA rfl rfl ZE, AA rfl rfl ZE, AA rfl rfl ZE, AA rfl rfl ZE, AA rfl rfl ZE, AA rfl rfl (AR rfl (BV CT BC (by simp [x2.s.hd, x2.s.ht]) (A0 4 rfl (CB (p := [.bool x2.b]) (q := []) (vs := [U64 x2.s.e] ++ cu8 x2.s.d ++ cu8 x2.s.t) (by first | rfl | (simp only [List.append_assoc, List.nil_append, List.append_nil, List.cons_append]; done)) rfl)))), trivial⟩) (AL rfl (AJ 93 _ (.agg ([U64 x2.s.e] ++ cu8 x2.s.d ++ cu8 x2.s.t).toArray) (AH _ Tryd.call93 rfl) (fun w1 hw1 => doc7_c x2.s.e x2.s.d x2.s.t w1 x2.s.hd x2.s.ht))) ?_
   rintro v1 L1 ⟨rfl, rfl⟩
   refine ⟨[(7, .agg (List.toArray (α := Value) (V3 x2.b x2.s.e x2.s.d x2.s.t)))], ?_⟩
   show DP _ _ _ _ _ _ _ _ [_, _, _, _, _]
   refine Z7 ⟨[6], [0, 1, 2, 3, 4, 5, 7], [4, 5], [0, 1, 2, 3, 7], [8]⟩ 8 (hq := ⟨AA rfl rfl ZE, AA rfl rfl ZE, AA rfl rfl ZE, AA rfl rfl ZE, AA rfl rfl (DN [(0, .bool x2.b), (1, .agg ([U64 x2.s.e] ++ cu8 x2.s.d ++ cu8 x2.s.t).toArray)] _ rfl (fun _ => bld167_01 rfl (by simp [AN, x2.s.hd, x2.s.ht]))), trivial⟩) (AL rfl (BF 167 50 _ [(0, .agg (List.toArray (α := Value) (V3 x2.b x2.s.e x2.s.d x2.s.t)))] (V3 x2.b x2.s.e x2.s.d x2.s.t) B7 C6 DX rfl rfl rfl (EL (Z := V7) (by simp [x2.s.hd, x2.s.ht]) ZR (by simp [zr8])))) ?_
   rintro v1 L1 ⟨nb9, hnb9, rfl, rfl⟩
   refine ⟨[], ?_⟩
   show DP _ _ _ _ _ _ _ _ [_, _, _, _, _, _]
   refine Z7 ⟨[6, 8], [0, 1, 2, 3, 4, 5, 7], [2, 3, 4, 5, 7], [0, 1], [9]⟩ 9 (AL rfl (E1 69 167 64 (.agg (List.toArray (α := Value) (V7))) [false, false, false, true, false, false] (Slc gb 0 i cp) i rr x2 (some ⟨nb9, 0, none⟩) 1 (i + 1) B7 ZR ZR rfl (.inr ⟨gb, sp, cp, rfl, rfl, (by have h : (rr).length = i := hi4; omega), (by first | exact hi5 | omega), ZO, ZO⟩) rfl (SrcAt.mem (A0 5 rfl (AG _))) ZO ZO ZO)) ?_
   rintro v1 L1 ⟨nb10, sp2, cp2, hg2, rfl, rfl, ha5, ha6, ha7, ha8⟩
   refine ⟨[(10, Ptr nb4 3)], ?_⟩
   show DP _ _ _ _ _ _ _ _ [_, _, _, _, _, _]
   refine Z6 ⟨[6, 8, 9], [0, 1, 2, 3, 4, 5, 7, 10], [0, 1, 2, 3, 4, 5, 7], [10], [11]⟩ 11 (AL rfl ZW) ?_
   show DP _ _ _ _ _ _ _ _ [_, _, _, _, _, _]
   refine Z5 ⟨[6, 8, 9, 11], [0, 1, 2, 3, 4, 5, 7, 10], [0, 1, 2, 3, 4, 5, 7, 10], [], []⟩ ?_
   refine A9 (F' := [(29, Ptr nb4 3), (30, Slc gb 0 i cp), (31, Ptr nb8 0), (32, .bool x2.b), (33, Ptr nb8 1), (34, .agg ([U64 x2.s.e] ++ cu8 x2.s.d ++ cu8 x2.s.t).toArray), (35, .agg ([U64 x2.s.e] ++ cu8 x2.s.d ++ cu8 x2.s.t).toArray), (36, .agg (List.toArray (α := Value) (V3 x2.b x2.s.e x2.s.d x2.s.t))), (37, Slc nb9 0 1 1), (38, Slc nb10 0 (i + 1) cp2), (39, Ptr nb4 3), (2, Ptr nb2 0), (3, Ptr nb4 0), (23, SL aj nj cj), (24, I64 nj), (25, I64 i), (26, .bool (decide (((i:Int)) < ((nj:Int))))), (27, Ptr bz2 (50*i + oz2)), (28, .agg (List.toArray (α := Value) (V3 x2.b x2.s.e x2.s.d x2.s.t))), (5, Ptr nb8 0)]) ZR ?_
   refine DH (AK (AO (AE (I64 ((i:Int) + 1)) (AT rfl rfl fun _ => BR _ _ ((i:Int) + 1) ZO ZO) rfl ?_)))
   refine Z2 2 ?_
   refine B5 (D7 [true, true, true, false, false, true] ?_)
   show K _ _ [_, _, _, _] _
   refine C1 (.inr (i + 1, rr ++ [x2], nb10, sp2, cp2)) ⟨ZO, ZO, (by rw [hi3]; exact EZ hx2), (ha5).trans (by first | rfl | simp +arith), (ha6).trans (by first | rfl | simp +arith), ZO, ZO⟩ (by first | (simp; omega) | simp | (dsimp only; omega) | omega) (Sub.all rfl) rfl
  have hp2 := of_decide_eq_false hb2
  refine Z2 8 ?_
  refine AC (AB 0 nb2 29 _ 71 ([U64 rq, I64 (rk), I64 (er), Slc gb 0 i cp, .bool th, U64 pv, U64 ep, I64 (kd), SL ai ni ci, SL na1 ns nc1, U64 bl] ++ cu8 tg ++ [SL aha nha cha, SL ahb nhb chb]) rfl rfl rfl D1 (by simp [htg]) (AQ (AQ ZC A6) ZC) ZS (AI (by simp [(AN 16), htg]))) rfl ?_
  show JL _ _ _ _ _ [_, _, _, _]
  refine A1 (AK (CH (Z1 fun w1 hw1 => ?_)))
  have hr : rr = lj := by rw [hi3]; exact List.take_of_length_le ZO
  obtain rfl : i = nj := by omega
  exact ⟨_, _, rfl, ⟨_, _, _, (some ⟨gb, 0, none⟩), cp, _, _, _, _, _, rfl, rfl, .inr ⟨rfl, _, by rw [hr]⟩, ZO, by first | omega | (unfold maxLen; omega), hc1, ZO, ZO⟩, E2 hw1 3 1 rfl rfl ZD⟩
 rintro v1 L1 ⟨nb3, hnb3, rfl, rfl⟩
 refine ⟨[], ?_⟩
 show DP _ _ _ _ _ _ _ _ [_, _, _]
 refine Z7 ⟨[16], [0, 1, 2, 3, 4, 5, 6, 7, 8, 9, 11, 12, 13, 14], [], [0, 1, 2, 3, 4, 5, 6, 7, 8, 9, 11, 12, 13, 14], [10]⟩ 10 (hq := ⟨AA rfl rfl ZE, AA rfl rfl ZE, AA rfl rfl ZE, AA rfl rfl ZE, AA rfl rfl ZE, AA rfl rfl ZE, AA rfl rfl ZE, AA rfl rfl ZE, AA rfl rfl ZE, AA rfl rfl (AR rfl (BV CQ BH (by simp [htg]) (A0 0 rfl (CB (p := [U64 rq, I64 (rk), I64 (er), SL aj nj cj, .bool th]) (q := [SL aha nha cha, SL ahb nhb chb]) (vs := (V2 pv ep (kd) ai ni ci sa ns sc bl tg)) (by first | rfl | (simp only [List.append_assoc, List.nil_append, List.append_nil, List.cons_append]; done)) rfl)))), AA rfl rfl ZE, AA rfl rfl (AR rfl (B1 B9 (A0 0 rfl (Seg.right 27 0 (by simp [htg]) rfl (Seg.head))))), AA rfl rfl ZE, AA rfl rfl (AR rfl (B1 B9 (A0 0 rfl (Seg.right 27 1 (by simp [htg]) rfl (B0 (Seg.head)))))), trivial⟩) (AL rfl (A5 44 _ _ (AH _ Tryd.call44 rfl) (fun w1 hw1 => docH_c pv ep (kd) ai ni ci l sa ns sc ls bl tg w1 hl ZO ZO ZO (CF hw1 rfl hv) hls ZO ZO ZO (CF hw1 rfl hs) htg))) ?_
 rintro v1 L1 ⟨_, ⟨ng2, cs2, nT2, na2, nc2, rfl, rfl, hc4, hc5, hc6⟩, rfl⟩
 refine ⟨[(15, .agg (V0 rq (rk) (er) none 0 0 th pv ep (kd) ai ni ci na2 ns nc2 bl tg aha nha cha ahb nhb chb).toArray)], ?_⟩
 show DP _ _ _ _ _ _ _ _ [_, _, _, _]
 refine Z6 ⟨[16, 10], [0, 1, 2, 3, 4, 5, 6, 7, 8, 9, 11, 12, 13, 14, 15], [8, 9], [0, 1, 2, 3, 4, 5, 6, 7, 11, 12, 13, 14, 15], [17]⟩ 17 (hq := ⟨AA rfl rfl ZE, AA rfl rfl ZE, AA rfl rfl ZE, AA rfl rfl ZE, AA rfl rfl ZE, AA rfl rfl ZE, AA rfl rfl ZE, AA rfl rfl ZE, AA rfl rfl ZE, AA rfl rfl (AR rfl (B1 B9 (A0 0 rfl (Seg.right 27 0 (by simp [htg]) rfl (Seg.head))))), AA rfl rfl ZE, AA rfl rfl (AR rfl (B1 B9 (A0 0 rfl (Seg.right 27 1 (by simp [htg]) rfl (B0 (Seg.head)))))), AA rfl rfl (DN [(0, U64 rq), (1, I64 (rk)), (2, I64 (er)), (4, .bool th), (5, .agg (V2 pv ep (kd) ai ni ci na2 ns nc2 bl tg).toArray), (6, SL aha nha cha), (7, SL ahb nhb chb)] _ rfl (fun _ => (bld71_0124567 (c5 := (V2 pv ep (kd) ai ni ci na2 ns nc2 bl tg)) rfl rfl rfl rfl (by simp [AN, htg]) rfl rfl ).trans (by first | rfl | simp only [List.append_assoc, List.cons_append, List.nil_append]))), trivial⟩) (AL rfl (AB 2 nb3 29 _ 71 (V0 rq (rk) (er) none 0 0 th pv ep (kd) ai ni ci na2 ns nc2 bl tg aha nha cha ahb nhb chb) rfl rfl rfl D1 (by simp [htg]) (AQ (AQ ZC A6) ZC) ZS (AI (by simp [(AN 16), htg])))) ?_
 show DP _ _ _ _ _ _ _ _ [_, _, _, _]
 refine Z5 ⟨[16, 10, 17], [0, 1, 2, 3, 4, 5, 6, 7, 8, 9, 11, 12, 13, 14, 15], [0, 1, 2, 3, 4, 5, 6, 7, 8, 9, 11, 12, 13, 14, 15], [], []⟩ ?_
 refine A9 (F' := [(3, Ptr nb3 0), (1, Ptr nb1 0), (2, Ptr nb2 0)]) ZR ?_
 refine Z2 11 ?_
 refine JC_mask [false, true, true, true] ?_
 show JC _ _ _ _ [_, _, _]
 refine C3 (ι := (Unit) ⊕ (Nat × List ItemR × Nat × List Value × Nat)) (fun x => match x with | .inl _ => [(2, Ptr nb2 0), (3, Ptr nb3 0), (23, SL aj nj cj), (24, I64 nj), (25, I64 0)] | .inr ⟨i, rr, gb, sp, cp⟩ => [(2, Ptr nb2 0), (3, Ptr nb3 0), (23, SL aj nj cj), (24, I64 nj), (25, I64 i)]) (fun x => match x with | .inl _ => [(Ez nb2 (V6) 71), (Ez nb3 (V0 rq (rk) (er) none 0 0 th pv ep (kd) ai ni ci na2 ns nc2 bl tg aha nha cha ahb nhb chb) 71), (Ez ng2 cs2 nT2)] | .inr ⟨i, rr, gb, sp, cp⟩ => [(Ez nb2 (V6) 71), (Ez nb3 ([U64 rq, I64 (rk), I64 (er), Slc gb 0 i cp, .bool th, U64 pv, U64 ep, I64 (kd), SL ai ni ci, SL na2 ns nc2, U64 bl] ++ cu8 tg ++ [SL aha nha cha, SL ahb nhb chb]) 71), (Ez ng2 cs2 nT2), (Ez gb ((rr).flatMap itemC ++ sp) 167)]) (fun x => match x with | .inl _ => True | .inr ⟨i, rr, gb, sp, cp⟩ => 0 < i ∧ i ≤ nj ∧ rr = lj.take i ∧ rr.length = i ∧ sp.length = cp * 50 - i * 50 ∧ i ≤ cp ∧ cp ≤ maxLen) (fun x => match x with | .inl _ => nj + 2 | .inr ⟨i, rr, gb, sp, cp⟩ => nj + 1 - i) (.inl ()) trivial (Sub.all rfl) rfl ?_
 rintro (_ | ⟨i, rr, gb, sp, cp⟩) hx
 ·
  obtain _ := hx
  show JC _ _ _ [_, _, _, _, _] [_, _, _]
  refine Z2 6 ?_
  refine AX _ rfl (fun hb3 => ?_) (fun hb3 => ?_)
  ·
   have hp3 := of_decide_eq_true hb3
   refine Z2 6 ?_
   obtain ⟨x3, hx3⟩ : ∃ x, lj[0]? = some x := ⟨_, List.getElem?_eq_getElem (by rw [hlj]; omega)⟩
   obtain ⟨bz3, oz3, hz3, hm3⟩ := EJ FG ZD hj hx3
   rw [itemC_eq] at hm3
   refine AE (Ptr bz3 oz3) (BK 163 50 oz3 C0 CN rfl hz3 rfl ZO ZO ZO) rfl ?_
   refine AE (.agg (List.toArray (α := Value) (V3 x3.b x3.s.e x3.s.d x3.s.t))) (AR rfl (BV Tryd.isAgg163 CN (by simp [x3.s.hd, x3.s.ht]) (BP (hm3.mem ZM) (AG _) (by first | omega | (simp; done) | (simp; omega))))) rfl ?_
   refine AF (AS _ (V7) DY ZR) rfl ?_
   rintro v1 L1 ⟨nb11, hnb11, rfl, rfl⟩
   show JL _ _ _ _ (_ :: _) [_, _, _, _]
   refine AC (AB 3 nb11 50 _ 163 (V3 x3.b x3.s.e x3.s.d x3.s.t) rfl rfl rfl CN (by simp [x3.s.hd, x3.s.ht]) (AQ (AQ ZC A6) A6) ZS (AI (by simp [(AN 32), (AN 16), x3.s.hd, x3.s.ht]))) rfl ?_
   show JL _ _ _ _ _ [_, _, _, _]
   refine A1 (AK (Z8 42 5 [(0, Ptr nb3 3), (1, SL none 0 0), (2, Ptr nb11 0), (3, .bool x3.b), (4, Ptr nb11 1), (5, .agg ([U64 x3.s.e] ++ cu8 x3.s.d ++ cu8 x3.s.t).toArray)] ?_))
   refine Z7 ⟨[], [0, 1, 2, 3, 4, 5], [], [0, 1, 2, 3, 4, 5], [6]⟩ 6 (hq := ⟨AA rfl rfl ZE, AA rfl rfl ZE, AA rfl rfl ZE, AA rfl rfl ZE, AA rfl rfl ZE, AA rfl rfl (AR rfl (BV CT BC (by simp [x3.s.hd, x3.s.ht]) (A0 3 rfl (CB (p := [.bool x3.b]) (q := []) (vs := [U64 x3.s.e] ++ cu8 x3.s.d ++ cu8 x3.s.t) (by first | rfl | (simp only [List.append_assoc, List.nil_append, List.append_nil, List.cons_append]; done)) rfl)))), trivial⟩) (AL rfl (AJ 93 _ (.agg ([U64 x3.s.e] ++ cu8 x3.s.d ++ cu8 x3.s.t).toArray) (AH _ Tryd.call93 rfl) (fun w1 hw1 => doc7_c x3.s.e x3.s.d x3.s.t w1 x3.s.hd x3.s.ht))) ?_
   rintro v1 L1 ⟨rfl, rfl⟩
   refine ⟨[(7, .agg (List.toArray (α := Value) (V3 x3.b x3.s.e x3.s.d x3.s.t)))], ?_⟩
   show DP _ _ _ _ _ _ _ _ [_, _, _, _]
   refine Z7 ⟨[6], [0, 1, 2, 3, 4, 5, 7], [4, 5], [0, 1, 2, 3, 7], [8]⟩ 8 (hq := ⟨AA rfl rfl ZE, AA rfl rfl ZE, AA rfl rfl ZE, AA rfl rfl ZE, AA rfl rfl (DN [(0, .bool x3.b), (1, .agg ([U64 x3.s.e] ++ cu8 x3.s.d ++ cu8 x3.s.t).toArray)] _ rfl (fun _ => bld167_01 rfl (by simp [AN, x3.s.hd, x3.s.ht]))), trivial⟩) (AL rfl (BF 167 50 _ [(0, .agg (List.toArray (α := Value) (V3 x3.b x3.s.e x3.s.d x3.s.t)))] (V3 x3.b x3.s.e x3.s.d x3.s.t) B7 C6 DX rfl rfl rfl (EL (Z := V7) (by simp [x3.s.hd, x3.s.ht]) ZR (by simp [zr8])))) ?_
   rintro v1 L1 ⟨nb12, hnb12, rfl, rfl⟩
   refine ⟨[], ?_⟩
   show DP _ _ _ _ _ _ _ _ [_, _, _, _, _]
   refine Z7 ⟨[6, 8], [0, 1, 2, 3, 4, 5, 7], [2, 3, 4, 5, 7], [0, 1], [9]⟩ 9 (AL rfl (E1 69 167 64 (.agg (List.toArray (α := Value) (V7))) [false, false, false, false, false] (SL none 0 0) 0 ([] : List ItemR) x3 (some ⟨nb12, 0, none⟩) 1 1 B7 ZR ZR rfl (.inl ⟨rfl, rfl, rfl, rfl⟩) rfl (SrcAt.mem (A0 4 rfl (AG _))) ZO ZO ZO)) ?_
   rintro v1 L1 ⟨nb13, sp3, cp3, hg3, rfl, rfl, ha9, ha10, ha11, ha12⟩
   refine ⟨[(10, Ptr nb3 3)], ?_⟩
   show DP _ _ _ _ _ _ _ _ [_, _, _, _, _, _]
   refine Z6 ⟨[6, 8, 9], [0, 1, 2, 3, 4, 5, 7, 10], [0, 1, 2, 3, 4, 5, 7], [10], [11]⟩ 11 (AL rfl ZW) ?_
   show DP _ _ _ _ _ _ _ _ [_, _, _, _, _, _]
   refine Z5 ⟨[6, 8, 9, 11], [0, 1, 2, 3, 4, 5, 7, 10], [0, 1, 2, 3, 4, 5, 7, 10], [], []⟩ ?_
   refine A9 (F' := [(29, Ptr nb3 3), (30, SL none 0 0), (31, Ptr nb11 0), (32, .bool x3.b), (33, Ptr nb11 1), (34, .agg ([U64 x3.s.e] ++ cu8 x3.s.d ++ cu8 x3.s.t).toArray), (35, .agg ([U64 x3.s.e] ++ cu8 x3.s.d ++ cu8 x3.s.t).toArray), (36, .agg (List.toArray (α := Value) (V3 x3.b x3.s.e x3.s.d x3.s.t))), (37, Slc nb12 0 1 1), (38, Slc nb13 0 1 cp3), (39, Ptr nb3 3), (2, Ptr nb2 0), (3, Ptr nb3 0), (23, SL aj nj cj), (24, I64 nj), (25, I64 0), (26, .bool (decide ((0:Int) < ((nj:Int))))), (27, Ptr bz3 oz3), (28, .agg (List.toArray (α := Value) (V3 x3.b x3.s.e x3.s.d x3.s.t))), (5, Ptr nb11 0)]) ZR ?_
   refine DH (AK (AO (AE (I64 1) (AT rfl rfl fun _ => BR _ _ (1:Int) ZO ZO) rfl ?_)))
   refine Z2 2 ?_
   refine B5 (D7 [true, true, true, false, false, true] ?_)
   show K _ _ [_, _, _, _] _
   refine C1 (.inr (1, ([] : List ItemR) ++ [x3], nb13, sp3, cp3)) ⟨ZO, ZO, EZ (i := 0) hx3, (ha9).trans (by first | rfl | simp +arith), (ha10).trans (by first | rfl | simp +arith), ZO, ZO⟩ (by first | (simp; omega) | simp | (dsimp only; omega) | omega) (Sub.all rfl) rfl
  have hp3 := of_decide_eq_false hb3
  refine Z2 8 ?_
  refine AC (AB 0 nb2 29 _ 71 (V0 rq (rk) (er) none 0 0 th pv ep (kd) ai ni ci na2 ns nc2 bl tg aha nha cha ahb nhb chb) rfl rfl rfl D1 (by simp [htg]) (AQ (AQ ZC A6) ZC) ZS (AI (by simp [(AN 16), htg]))) rfl ?_
  show JL _ _ _ _ _ [_, _, _]
  refine A1 (AK (CH (Z1 fun w1 hw1 => ?_)))
  obtain rfl : nj = 0 := by omega
  exact ⟨_, _, rfl, ⟨_, _, _, none, 0, _, _, _, _, _, rfl, rfl, Gh.itm hlj rfl, ZO, by first | omega | (unfold maxLen; omega), hc4, ZO, ZO⟩, E2 hw1 0 2 rfl rfl ZD⟩
 obtain ⟨hi1, hi2, hi3, hi4, hi5, hi6, hi7⟩ := hx
 show JC _ _ _ [_, _, _, _, _] [_, _, _, _]
 refine Z2 6 ?_
 refine AX _ rfl (fun hb4 => ?_) (fun hb4 => ?_)
 ·
  have hp4 := of_decide_eq_true hb4
  refine Z2 6 ?_
  obtain ⟨x4, hx4⟩ : ∃ x, lj[i]? = some x := ⟨_, List.getElem?_eq_getElem (by rw [hlj]; omega)⟩
  obtain ⟨bz4, oz4, hz4, hm4⟩ := EJ FG ZD hj hx4
  rw [itemC_eq] at hm4
  refine AE (Ptr bz4 (50*i + oz4)) (BK 163 50 (50*i + oz4) C0 CN rfl hz4 rfl ZO ZO ZO) rfl ?_
  refine AE (.agg (List.toArray (α := Value) (V3 x4.b x4.s.e x4.s.d x4.s.t))) (AR rfl (BV Tryd.isAgg163 CN (by simp [x4.s.hd, x4.s.ht]) (BP (hm4.mem ZM) (AG _) (by first | omega | (simp; done) | (simp; omega))))) rfl ?_
  refine AF (AS _ (V7) DY ZR) rfl ?_
  rintro v1 L1 ⟨nb14, hnb14, rfl, rfl⟩
  show JL _ _ _ _ (_ :: _) [_, _, _, _, _]
  refine AC (AB 4 nb14 50 _ 163 (V3 x4.b x4.s.e x4.s.d x4.s.t) rfl rfl rfl CN (by simp [x4.s.hd, x4.s.ht]) (AQ (AQ ZC A6) A6) ZS (AI (by simp [(AN 32), (AN 16), x4.s.hd, x4.s.ht]))) rfl ?_
  show JL _ _ _ _ _ [_, _, _, _, _]
  refine A1 (AK (Z8 42 5 [(0, Ptr nb3 3), (1, Slc gb 0 i cp), (2, Ptr nb14 0), (3, .bool x4.b), (4, Ptr nb14 1), (5, .agg ([U64 x4.s.e] ++ cu8 x4.s.d ++ cu8 x4.s.t).toArray)] ?_))
  refine Z7 ⟨[], [0, 1, 2, 3, 4, 5], [], [0, 1, 2, 3, 4, 5], [6]⟩ 6 (hq := ⟨AA rfl rfl ZE, AA rfl rfl ZE, AA rfl rfl ZE, AA rfl rfl ZE, AA rfl rfl ZE, AA rfl rfl (AR rfl (BV CT BC (by simp [x4.s.hd, x4.s.ht]) (A0 4 rfl (CB (p := [.bool x4.b]) (q := []) (vs := [U64 x4.s.e] ++ cu8 x4.s.d ++ cu8 x4.s.t) (by first | rfl | (simp only [List.append_assoc, List.nil_append, List.append_nil, List.cons_append]; done)) rfl)))), trivial⟩) (AL rfl (AJ 93 _ (.agg ([U64 x4.s.e] ++ cu8 x4.s.d ++ cu8 x4.s.t).toArray) (AH _ Tryd.call93 rfl) (fun w1 hw1 => doc7_c x4.s.e x4.s.d x4.s.t w1 x4.s.hd x4.s.ht))) ?_
  rintro v1 L1 ⟨rfl, rfl⟩
  refine ⟨[(7, .agg (List.toArray (α := Value) (V3 x4.b x4.s.e x4.s.d x4.s.t)))], ?_⟩
  show DP _ _ _ _ _ _ _ _ [_, _, _, _, _]
  refine Z7 ⟨[6], [0, 1, 2, 3, 4, 5, 7], [4, 5], [0, 1, 2, 3, 7], [8]⟩ 8 (hq := ⟨AA rfl rfl ZE, AA rfl rfl ZE, AA rfl rfl ZE, AA rfl rfl ZE, AA rfl rfl (DN [(0, .bool x4.b), (1, .agg ([U64 x4.s.e] ++ cu8 x4.s.d ++ cu8 x4.s.t).toArray)] _ rfl (fun _ => bld167_01 rfl (by simp [AN, x4.s.hd, x4.s.ht]))), trivial⟩) (AL rfl (BF 167 50 _ [(0, .agg (List.toArray (α := Value) (V3 x4.b x4.s.e x4.s.d x4.s.t)))] (V3 x4.b x4.s.e x4.s.d x4.s.t) B7 C6 DX rfl rfl rfl (EL (Z := V7) (by simp [x4.s.hd, x4.s.ht]) ZR (by simp [zr8])))) ?_
  rintro v1 L1 ⟨nb15, hnb15, rfl, rfl⟩
  refine ⟨[], ?_⟩
  show DP _ _ _ _ _ _ _ _ [_, _, _, _, _, _]
  refine Z7 ⟨[6, 8], [0, 1, 2, 3, 4, 5, 7], [2, 3, 4, 5, 7], [0, 1], [9]⟩ 9 (AL rfl (E1 69 167 64 (.agg (List.toArray (α := Value) (V7))) [false, false, false, true, false, false] (Slc gb 0 i cp) i rr x4 (some ⟨nb15, 0, none⟩) 1 (i + 1) B7 ZR ZR rfl (.inr ⟨gb, sp, cp, rfl, rfl, (by have h : (rr).length = i := hi4; omega), (by first | exact hi5 | omega), ZO, ZO⟩) rfl (SrcAt.mem (A0 5 rfl (AG _))) ZO ZO ZO)) ?_
  rintro v1 L1 ⟨nb16, sp4, cp4, hg4, rfl, rfl, ha13, ha14, ha15, ha16⟩
  refine ⟨[(10, Ptr nb3 3)], ?_⟩
  show DP _ _ _ _ _ _ _ _ [_, _, _, _, _, _]
  refine Z6 ⟨[6, 8, 9], [0, 1, 2, 3, 4, 5, 7, 10], [0, 1, 2, 3, 4, 5, 7], [10], [11]⟩ 11 (AL rfl ZW) ?_
  show DP _ _ _ _ _ _ _ _ [_, _, _, _, _, _]
  refine Z5 ⟨[6, 8, 9, 11], [0, 1, 2, 3, 4, 5, 7, 10], [0, 1, 2, 3, 4, 5, 7, 10], [], []⟩ ?_
  refine A9 (F' := [(29, Ptr nb3 3), (30, Slc gb 0 i cp), (31, Ptr nb14 0), (32, .bool x4.b), (33, Ptr nb14 1), (34, .agg ([U64 x4.s.e] ++ cu8 x4.s.d ++ cu8 x4.s.t).toArray), (35, .agg ([U64 x4.s.e] ++ cu8 x4.s.d ++ cu8 x4.s.t).toArray), (36, .agg (List.toArray (α := Value) (V3 x4.b x4.s.e x4.s.d x4.s.t))), (37, Slc nb15 0 1 1), (38, Slc nb16 0 (i + 1) cp4), (39, Ptr nb3 3), (2, Ptr nb2 0), (3, Ptr nb3 0), (23, SL aj nj cj), (24, I64 nj), (25, I64 i), (26, .bool (decide (((i:Int)) < ((nj:Int))))), (27, Ptr bz4 (50*i + oz4)), (28, .agg (List.toArray (α := Value) (V3 x4.b x4.s.e x4.s.d x4.s.t))), (5, Ptr nb14 0)]) ZR ?_
  refine DH (AK (AO (AE (I64 ((i:Int) + 1)) (AT rfl rfl fun _ => BR _ _ ((i:Int) + 1) ZO ZO) rfl ?_)))
  refine Z2 2 ?_
  refine B5 (D7 [true, true, true, false, false, true] ?_)
  show K _ _ [_, _, _, _] _
  refine C1 (.inr (i + 1, rr ++ [x4], nb16, sp4, cp4)) ⟨ZO, ZO, (by rw [hi3]; exact EZ hx4), (ha13).trans (by first | rfl | simp +arith), (ha14).trans (by first | rfl | simp +arith), ZO, ZO⟩ (by first | (simp; omega) | simp | (dsimp only; omega) | omega) (Sub.all rfl) rfl
 have hp4 := of_decide_eq_false hb4
 refine Z2 8 ?_
 refine AC (AB 0 nb2 29 _ 71 ([U64 rq, I64 (rk), I64 (er), Slc gb 0 i cp, .bool th, U64 pv, U64 ep, I64 (kd), SL ai ni ci, SL na2 ns nc2, U64 bl] ++ cu8 tg ++ [SL aha nha cha, SL ahb nhb chb]) rfl rfl rfl D1 (by simp [htg]) (AQ (AQ ZC A6) ZC) ZS (AI (by simp [(AN 16), htg]))) rfl ?_
 show JL _ _ _ _ _ [_, _, _, _]
 refine A1 (AK (CH (Z1 fun w1 hw1 => ?_)))
 have hr : rr = lj := by rw [hi3]; exact List.take_of_length_le ZO
 obtain rfl : i = nj := by omega
 exact ⟨_, _, rfl, ⟨_, _, _, (some ⟨gb, 0, none⟩), cp, _, _, _, _, _, rfl, rfl, .inr ⟨rfl, _, by rw [hr]⟩, ZO, by first | omega | (unfold maxLen; omega), hc4, ZO, ZO⟩, E2 hw1 3 2 rfl rfl ZD⟩
theorem rsameRepT_c (rq : UInt64) (rk er : Int) (aj : Option Addr) (nj cj : Nat) (lj : List ItemR) (th : Bool) (pv ep : UInt64) (kd : Int) (ai : Option Addr) (ni ci : Nat) (l : List UInt64) (sa : Option Addr) (ns sc : Nat) (ls : List SealR) (bl : UInt64) (tg : List UInt8) (aha : Option Addr) (nha cha : Nat) (xha : List UInt8) (ahb : Option Addr) (nhb chb : Nat) (xhb : List UInt8) (aj2 : Option Addr) (cj2 : Nat) (ai2 : Option Addr) (ci2 : Nat) (sa2 : Option Addr) (sc2 : Nat) (aha2 : Option Addr) (cha2 : Nat) (ahb2 : Option Addr) (chb2 : Nat)  (w : World) (hlj : lj.length = nj) (hnj : nj ≤ 2000000) (hdj : nj ≤ cj) (hcj : cj ≤ maxLen) (hj : RdV w aj (lj.flatMap itemC)) (hl : l.length = ni) (hnm : ni ≤ 2000000) (hnc : ni ≤ ci) (hcm : ci ≤ maxLen) (hv : RdV w ai (cu64 l)) (hls : ls.length = ns) (hnn : ns ≤ 2000000) (hnd : ns ≤ sc) (hcn : sc ≤ maxLen) (hs : RdV w sa (ls.flatMap sealC)) (htg : tg.length = 16) (hlha : xha.length = nha * 32) (hnha : nha ≤ 9000) (hdha : nha ≤ cha) (hcha : cha ≤ maxLen) (hrha : RdB w [] aha xha) (hlhb : xhb.length = nhb * 32) (hnhb : nhb ≤ 9000) (hdhb : nhb ≤ chb) (hchb : chb ≤ maxLen) (hrhb : RdB w [] ahb xhb) (hdj2 : nj ≤ cj2) (hcj2 : cj2 ≤ maxLen) (hj2 : RdV w aj2 (lj.flatMap itemC)) (hnc2 : ni ≤ ci2) (hcm2 : ci2 ≤ maxLen) (hv2 : RdV w ai2 (cu64 l)) (hnd2 : ns ≤ sc2) (hcn2 : sc2 ≤ maxLen) (hs2 : RdV w sa2 (ls.flatMap sealC)) (hdha2 : nha ≤ cha2) (hcha2 : cha2 ≤ maxLen) (hrha2 : RdB w [] aha2 xha) (hdhb2 : nhb ≤ chb2) (hchb2 : chb2 ≤ maxLen) (hrhb2 : RdB w [] ahb2 xhb)  : Calls Tryd.prog 37 #[.agg (V0 rq (rk) (er) aj nj cj th pv ep (kd) ai ni ci sa ns sc bl tg aha nha cha ahb nhb chb).toArray, .agg (V0 rq (rk) (er) aj2 nj cj2 th pv ep (kd) ai2 ni ci2 sa2 ns sc2 bl tg aha2 nha cha2 ahb2 nhb chb2).toArray] w (Post w [] (fun v L => v = .bool true ∧ L = [])) := by
 have hmx : maxLen = 9223372036854775807 := rfl
 refine enter (P := Tryd.prog) (f := 37) (fn := Tryd.f37) w [] 123 [] [.agg (V0 rq (rk) (er) aj nj cj th pv ep (kd) ai ni ci sa ns sc bl tg aha nha cha ahb nhb chb).toArray, .agg (V0 rq (rk) (er) aj2 nj cj2 th pv ep (kd) ai2 ni ci2 sa2 ns sc2 bl tg aha2 nha cha2 ahb2 nhb chb2).toArray] Tryd.func37 rfl rfl ZM (A2 ZM ZM ZM) ?_
 show JC _ _ _ [_, _] _
 refine A4 (AO (AF (B2 (.agg (V0 rq (rk) (er) aj nj cj th pv ep (kd) ai ni ci sa ns sc bl tg aha nha cha ahb nhb chb).toArray) (V0 rq (rk) (er) aj nj cj th pv ep (kd) ai ni ci sa ns sc bl tg aha nha cha ahb nhb chb) rfl (by first | rfl | simp)) rfl ?_))
 rintro v1 L1 ⟨nb1, hnb1, rfl, rfl⟩
 show JL _ _ _ _ (_ :: _) [_]
 refine AF (B2 (.agg (V0 rq (rk) (er) aj2 nj cj2 th pv ep (kd) ai2 ni ci2 sa2 ns sc2 bl tg aha2 nha cha2 ahb2 nhb chb2).toArray) (V0 rq (rk) (er) aj2 nj cj2 th pv ep (kd) ai2 ni ci2 sa2 ns sc2 bl tg aha2 nha cha2 ahb2 nhb chb2) rfl (by first | rfl | simp)) rfl ?_
 rintro v1 L1 ⟨nb2, hnb2, rfl, rfl⟩
 show JL _ _ _ _ (_ :: _) [_, _]
 refine Z2 10 ?_
 refine AE (.bool (decide (rq ≠ rq))) (AT rfl rfl fun _ => CL rq rq) rfl ?_
 refine Z2 1 ?_
 refine AD 5 13 false _ (Ptr nb1 1) rfl rfl (decide_eq_false (fun h => h rfl)) ZE rfl ?_
 refine AD 5 13 false _ (I64 (rk)) rfl rfl (decide_eq_false (fun h => h rfl)) ZE rfl ?_
 refine AD 5 13 false _ (Ptr nb2 1) rfl rfl (decide_eq_false (fun h => h rfl)) ZE rfl ?_
 refine AD 5 13 false _ (I64 (rk)) rfl rfl (decide_eq_false (fun h => h rfl)) ZE rfl ?_
 refine AD 5 13 false _ (.bool (decide ((rk) ≠ (rk)))) rfl rfl (decide_eq_false (fun h => h rfl)) ZE rfl ?_
 refine AE _ (BO _ rfl (decide_eq_false (fun h => h rfl)) rfl) rfl ?_
 refine Z2 1 ?_
 refine AD 12 20 false _ (Ptr nb1 2) rfl rfl ZM ZE rfl ?_
 refine AD 12 20 false _ _ rfl rfl ZM ZE rfl ?_
 refine AD 12 20 false _ (Ptr nb2 2) rfl rfl ZM ZE rfl ?_
 refine AD 12 20 false _ _ rfl rfl ZM ZE rfl ?_
 refine AD 12 20 false _ (.bool (decide ((er) ≠ (er)))) rfl rfl ZM ZE rfl ?_
 refine AE _ (BO _ rfl ZM rfl) rfl ?_
 refine Z2 1 ?_
 refine AD 19 27 false _ (Ptr nb1 4) rfl rfl ZM ZE rfl ?_
 refine AD 19 27 false _ _ rfl rfl ZM ZE rfl ?_
 refine AD 19 27 false _ (Ptr nb2 4) rfl rfl ZM ZE rfl ?_
 refine AD 19 27 false _ _ rfl rfl ZM ZE rfl ?_
 refine AD 19 27 false _ (.bool (!(th == th))) rfl rfl ZM (CG _ _ _ rfl rfl (fun _ => eqGuard_bool ..) fun _ => neq_bool Tryd.underlying4) rfl ?_
 refine AE _ (BO _ rfl ZM rfl) rfl ?_
 refine Z2 1 ?_
 refine AD 26 34 false _ (Ptr nb1 5) rfl rfl (bnotT (beq_self_eq_true _)) ZE rfl ?_
 refine AD 26 34 false _ (.agg (V2 pv ep (kd) ai ni ci sa ns sc bl tg).toArray) rfl rfl (bnotT (beq_self_eq_true _)) (AR rfl (BV Tryd.isAgg38 B8 (by simp [htg]) (A0 0 rfl (CB (p := [U64 rq, I64 (rk), I64 (er), SL aj nj cj, .bool th]) (q := [SL aha nha cha, SL ahb nhb chb]) (vs := (V2 pv ep (kd) ai ni ci sa ns sc bl tg)) (by first | rfl | (simp only [List.append_assoc, List.nil_append, List.append_nil, List.cons_append]; done)) rfl)))) rfl ?_
 refine AD 26 34 false _ (Ptr nb2 5) rfl rfl (bnotT (beq_self_eq_true _)) ZE rfl ?_
 refine AD 26 34 false _ (.agg (V2 pv ep (kd) ai2 ni ci2 sa2 ns sc2 bl tg).toArray) rfl rfl (bnotT (beq_self_eq_true _)) (AR rfl (BV Tryd.isAgg38 B8 (by simp [htg]) (A0 1 rfl (CB (p := [U64 rq, I64 (rk), I64 (er), SL aj2 nj cj2, .bool th]) (q := [SL aha2 nha cha2, SL ahb2 nhb chb2]) (vs := (V2 pv ep (kd) ai2 ni ci2 sa2 ns sc2 bl tg)) (by first | rfl | (simp only [List.append_assoc, List.nil_append, List.append_nil, List.cons_append]; done)) rfl)))) rfl ?_
 refine B6 26 34 false _ rfl rfl (bnotT (beq_self_eq_true _)) (AJ 51 _ (.bool true) (AH _ Tryd.call51 rfl) (fun w1 hw1 => rsameT13_c pv ep (kd) ai ni ci l sa ns sc ls bl tg ai2 ci2 sa2 sc2 w1 hl ZO ZO ZO (CF hw1 rfl hv) hls ZO ZO ZO (CF hw1 rfl hs) htg ZO ZO (CF hw1 rfl hv2) ZO ZO (CF hw1 rfl hs2))) rfl ?_
 rintro v1 L1 ⟨rfl, rfl⟩
 show JL _ _ _ _ (_ :: _) [_, _]
 refine AD 26 34 false _ (.bool (!true)) rfl rfl (bnotT (beq_self_eq_true _)) ZE rfl ?_
 refine AE _ (BO _ rfl (bnotT (beq_self_eq_true _)) rfl) rfl ?_
 refine Z2 10 ?_
 refine AD 43 51 false _ (Ptr nb1 27) rfl rfl ZM ZE rfl ?_
 refine AD 43 51 false _ _ rfl rfl ZM (AR rfl (B1 B9 (A0 0 rfl (Seg.right 27 0 (by simp [htg]) rfl (Seg.head))))) rfl ?_
 refine AD 43 51 false _ (I64 nha) rfl rfl ZM ZE rfl ?_
 refine AD 43 51 false _ (Ptr nb2 27) rfl rfl ZM ZE rfl ?_
 refine AD 43 51 false _ _ rfl rfl ZM (AR rfl (B1 B9 (A0 1 rfl (Seg.right 27 0 (by simp [htg]) rfl (Seg.head))))) rfl ?_
 refine AD 43 51 false _ (I64 nha) rfl rfl ZM ZE rfl ?_
 refine AD 43 51 false _ (.bool (decide (((nha:Int)) ≠ ((nha:Int))))) rfl rfl ZM ZE rfl ?_
 refine AE _ (BO _ rfl ZM rfl) rfl ?_
 refine Z2 1 ?_
 refine AD 52 60 false _ (Ptr nb1 28) rfl rfl ZM ZE rfl ?_
 refine AD 52 60 false _ _ rfl rfl ZM (AR rfl (B1 B9 (A0 0 rfl (Seg.right 27 1 (by simp [htg]) rfl (B0 (Seg.head)))))) rfl ?_
 refine AD 52 60 false _ (I64 nhb) rfl rfl ZM ZE rfl ?_
 refine AD 52 60 false _ (Ptr nb2 28) rfl rfl ZM ZE rfl ?_
 refine AD 52 60 false _ _ rfl rfl ZM (AR rfl (B1 B9 (A0 1 rfl (Seg.right 27 1 (by simp [htg]) rfl (B0 (Seg.head)))))) rfl ?_
 refine AD 52 60 false _ (I64 nhb) rfl rfl ZM ZE rfl ?_
 refine AD 52 60 false _ (.bool (decide (((nhb:Int)) ≠ ((nhb:Int))))) rfl rfl ZM ZE rfl ?_
 refine AE _ (BO _ rfl ZM rfl) rfl ?_
 refine A1 (AK (AY _ rfl ZM ?_))
 refine Z2 9 ?_
 refine C3 (ι := Nat) (fun i => [(2, Ptr nb1 0), (3, Ptr nb2 0), (5, I64 i)]) (fun i => [(Ez nb1 (V0 rq (rk) (er) aj nj cj th pv ep (kd) ai ni ci sa ns sc bl tg aha nha cha ahb nhb chb) 71), (Ez nb2 (V0 rq (rk) (er) aj2 nj cj2 th pv ep (kd) ai2 ni ci2 sa2 ns sc2 bl tg aha2 nha cha2 ahb2 nhb chb2) 71)]) (fun i => i ≤ nj) (fun i => nj - i) 0 ZO (Sub.all rfl) rfl ?_
 rintro i hxi
 show JC _ _ _ [_, _, _] [_, _]
 refine Z2 10 ?_
 refine AX _ rfl (fun hb1 => ?_) (fun hb1 => ?_)
 ·
  have hp1 := of_decide_eq_true hb1
  refine Z2 5 ?_
  obtain ⟨x1, hx1⟩ : ∃ x, lj[i]? = some x := ⟨_, List.getElem?_eq_getElem (by rw [hlj]; omega)⟩
  obtain ⟨bz1, oz1, hz1, hm1⟩ := EJ FG ZD hj hx1
  rw [itemC_eq] at hm1
  obtain ⟨bz2, oz2, hz2, hm2⟩ := EJ FG ZD hj2 hx1
  rw [itemC_eq] at hm2
  refine Z8 123 1 [(0, Ptr nb1 3), (1, SL aj nj cj), (2, I64 i), (3, Ptr bz1 (50*i + oz1)), (4, .agg (List.toArray (α := Value) (V3 x1.b x1.s.e x1.s.d x1.s.t))), (5, Ptr nb2 3), (6, SL aj2 nj cj2), (7, I64 i), (8, Ptr bz2 (50*i + oz2)), (9, .agg (List.toArray (α := Value) (V3 x1.b x1.s.e x1.s.d x1.s.t))), (10, .bool (!(decide (x1.b = x1.b ∧ x1.s.e = x1.s.e ∧ x1.s.d = x1.s.d ∧ x1.s.t = x1.s.t))))] ?_
  refine Z5 ⟨[], [0, 1, 2, 3, 4, 5, 6, 7, 8, 9, 10], [], [0, 1, 2, 3, 4, 5, 6, 7, 8, 9, 10], []⟩ (hq := ⟨AA rfl rfl ZE, AA rfl rfl ZE, BM rfl rfl rfl, AA rfl rfl (BK 167 50 (50*i + oz1) B7 C6 rfl hz1 rfl ZO ZO ZO), AA rfl rfl (AR rfl (BV Tryd.isAgg167 C6 (by simp [x1.s.hd, x1.s.ht]) (BP (hm1.mem ZM) (AG _) (by first | omega | (simp; done) | (simp; omega))))), AA rfl rfl ZE, AA rfl rfl ZE, BM rfl rfl rfl, AA rfl rfl (BK 167 50 (50*i + oz2) B7 C6 rfl hz2 rfl ZO ZO ZO), AA rfl rfl (AR rfl (BV Tryd.isAgg167 C6 (by simp [x1.s.hd, x1.s.ht]) (BP (hm2.mem ZM) (AG _) (by first | omega | (simp; done) | (simp; omega))))), AA rfl rfl (CG _ _ _ rfl rfl (fun _ => EG _ _ _ _ _ _ ZR) (neq_struct (x1.b = x1.b ∧ x1.s.e = x1.s.e ∧ x1.s.d = x1.s.d ∧ x1.s.t = x1.s.t) (EqV.struct (d := 9999) ZR ZR ZR (EqRs.cons 4 0 (.bool x1.b) (.bool x1.b) _ _ _ (PartV.one Tryd.isAgg4 (AU (AU (Seg.head)))) (PartV.one Tryd.isAgg4 (AU (AU (Seg.head)))) (EqV.bool (d := 9998) Tryd.underlying4 x1.b x1.b) (EqRs.last 164 1 (.agg ([U64 x1.s.e] ++ cu8 x1.s.d ++ cu8 x1.s.t).toArray) (.agg ([U64 x1.s.e] ++ cu8 x1.s.d ++ cu8 x1.s.t).toArray) _ (PartV.agg Tryd.isAgg164 BW (EC (CB (p := [.bool x1.b]) (q := []) (vs := [U64 x1.s.e] ++ cu8 x1.s.d ++ cu8 x1.s.t) (by first | rfl | (simp only [List.append_assoc, List.nil_append, List.append_nil, List.cons_append]; done)) rfl) (by simp [x1.s.hd, x1.s.ht]) (by first | omega | (simp; done)))) (PartV.agg Tryd.isAgg164 BW (EC (CB (p := [.bool x1.b]) (q := []) (vs := [U64 x1.s.e] ++ cu8 x1.s.d ++ cu8 x1.s.t) (by first | rfl | (simp only [List.append_assoc, List.nil_append, List.append_nil, List.cons_append]; done)) rfl) (by simp [x1.s.hd, x1.s.ht]) (by first | omega | (simp; done)))) (EqV.struct (d := 9998) ZR ZR ZR (EqRs.cons 22 0 (U64 x1.s.e) (U64 x1.s.e) _ _ _ (PartV.one BD (AU (AU (Seg.head)))) (PartV.one BD (AU (AU (Seg.head)))) (EqV.u64 (d := 9997) BQ x1.s.e x1.s.e) (EqRs.cons 159 1 (.agg (cu8 x1.s.d).toArray) (.agg (cu8 x1.s.d).toArray) _ _ _ (PartV.agg D3 DW (EC (AU (Seg.right 1 0 rfl rfl (AG _))) (CI x1.s.hd) ZO)) (PartV.agg D3 DW (EC (AU (Seg.right 1 0 rfl rfl (AG _))) (CI x1.s.hd) ZO)) (EqV.arr8 (d := 9996) CJ BS CM DT D9 (by simp [x1.s.hd]) (by simp [x1.s.hd])) (EqRs.last 27 33 (.agg (cu8 x1.s.t).toArray) (.agg (cu8 x1.s.t).toArray) _ (PartV.agg CU CO (EC (Seg.right 33 0 (by simp [x1.s.hd]) rfl (AG _)) (CI x1.s.ht) ZO)) (PartV.agg CU CO (EC (Seg.right 33 0 (by simp [x1.s.hd]) rfl (AG _)) (CI x1.s.ht) ZO)) (EqV.arr8 (d := 9996) AZ BS CM DT D9 (by simp [x1.s.ht]) (by simp [x1.s.ht]))))))))) (by first | rfl | (simp only [Bool.decide_and, Bool.and_assoc]; done) | (simp only [Bool.beq_eq_decide_eq, Bool.decide_and, Bool.and_assoc]; done) | (simp [Bool.and_assoc]; done)))), trivial⟩) ?_
  refine A9 (F' := [(76, Ptr nb1 3), (77, SL aj nj cj), (78, I64 i), (79, Ptr bz1 (50*i + oz1)), (80, .agg (List.toArray (α := Value) (V3 x1.b x1.s.e x1.s.d x1.s.t))), (81, Ptr nb2 3), (82, SL aj2 nj cj2), (83, I64 i), (84, Ptr bz2 (50*i + oz2)), (85, .agg (List.toArray (α := Value) (V3 x1.b x1.s.e x1.s.d x1.s.t))), (86, .bool (!(decide (x1.b = x1.b ∧ x1.s.e = x1.s.e ∧ x1.s.d = x1.s.d ∧ x1.s.t = x1.s.t)))), (2, Ptr nb1 0), (3, Ptr nb2 0), (5, I64 i), (69, I64 i), (70, Ptr nb1 3), (71, SL aj nj cj), (72, I64 nj), (73, .bool (decide (((i:Int)) < ((nj:Int)))))]) ZR ?_
  refine AK (AY _ rfl (bnotT (decide_eq_true ZM)) ?_)
  refine Z2 5 ?_
  refine AE (I64 ((i:Int) + 1)) (AT rfl rfl fun _ => BR _ _ ((i:Int) + 1) ZO ZO) rfl ?_
  refine Z2 1 ?_
  refine A1 (B5 (C1 (i + 1) ZO ZO (Sub.all rfl) rfl))
 have hp1 := of_decide_eq_false hb1
 refine Z2 12 ?_
 refine C3 (ι := Nat) (fun j => [(2, Ptr nb1 0), (3, Ptr nb2 0), (6, I64 j)]) (fun j => [(Ez nb1 (V0 rq (rk) (er) aj nj cj th pv ep (kd) ai ni ci sa ns sc bl tg aha nha cha ahb nhb chb) 71), (Ez nb2 (V0 rq (rk) (er) aj2 nj cj2 th pv ep (kd) ai2 ni ci2 sa2 ns sc2 bl tg aha2 nha cha2 ahb2 nhb chb2) 71)]) (fun j => j ≤ nha) (fun j => nha - j) 0 ZO (Sub.all rfl) rfl ?_
 rintro j hxj
 show JC _ _ _ [_, _, _] [_, _]
 refine Z2 5 ?_
 refine AE _ (AR rfl (B1 B9 (A0 0 rfl (Seg.right 27 0 (by simp [htg]) rfl (Seg.head))))) rfl ?_
 refine Z2 4 ?_
 refine AX _ rfl (fun hb2 => ?_) (fun hb2 => ?_)
 ·
  have hp2 := of_decide_eq_true hb2
  refine Z2 5 ?_
  obtain ⟨bz3, oz3, hz3, hm3⟩ := hrha.pos (by rw [hlha]; omega)
  have hl1 : (mid xha (32*j) 32).length = 32 := EK (by rw [hlha]; omega)
  obtain ⟨bz4, oz4, hz4, hm4⟩ := hrha2.pos (by rw [hlha]; omega)
  have hl2 : (mid xha (32*j) 32).length = 32 := EK (by rw [hlha]; omega)
  refine Z8 123 1 [(0, Ptr nb1 27), (1, SL aha nha cha), (2, I64 j), (3, Ptr bz3 (32*j + oz3)), (4, .agg (cu8 (mid xha (32*j) 32)).toArray), (5, Ptr nb2 27), (6, SL aha2 nha cha2), (7, I64 j), (8, Ptr bz4 (32*j + oz4)), (9, .agg (cu8 (mid xha (32*j) 32)).toArray), (10, .bool (!(decide ((mid xha (32*j) 32) = (mid xha (32*j) 32)))))] ?_
  have hl3 : (mid xha (32*j) 32).length = 32 := EK (by rw [hlha]; omega)
  have hl4 : (mid xha (32*j) 32).length = 32 := EK (by rw [hlha]; omega)
  refine Z5 ⟨[], [0, 1, 2, 3, 4, 5, 6, 7, 8, 9, 10], [], [0, 1, 2, 3, 4, 5, 6, 7, 8, 9, 10], []⟩ (hq := ⟨AA rfl rfl ZE, AA rfl rfl (AR rfl (B1 B9 (A0 0 rfl (Seg.right 27 0 (by simp [htg]) rfl (Seg.head))))), BM rfl rfl rfl, AA rfl rfl (BK 54 32 (32*j + oz3) C9 BY rfl hz3 rfl ZO ZO ZO), AA rfl rfl (AR rfl (BV DG BY (CI hl3) (BP (MemAt.base hm3.1 hm3.2.1 hm3.2.2) (segm_u8 (32*j) 32 (by rw [hlha]; omega)) (by first | omega | (simp; done) | (simp; omega))))), AA rfl rfl ZE, AA rfl rfl (AR rfl (B1 B9 (A0 1 rfl (Seg.right 27 0 (by simp [htg]) rfl (Seg.head))))), BM rfl rfl rfl, AA rfl rfl (BK 54 32 (32*j + oz4) C9 BY rfl hz4 rfl ZO ZO ZO), AA rfl rfl (AR rfl (BV DG BY (CI hl4) (BP (MemAt.base hm4.1 hm4.2.1 hm4.2.2) (segm_u8 (32*j) 32 (by rw [hlha]; omega)) (by first | omega | (simp; done) | (simp; omega))))), AA rfl rfl (CG _ _ _ rfl rfl (fun _ => EG _ _ _ _ _ _ ZR) fun _ => neq_arr8 DK BS CM DT D9 (by simp [hl1]) (by simp [hl2])), trivial⟩) ?_
  refine A9 (F' := [(94, Ptr nb1 27), (95, SL aha nha cha), (96, I64 j), (97, Ptr bz3 (32*j + oz3)), (98, .agg (cu8 (mid xha (32*j) 32)).toArray), (99, Ptr nb2 27), (100, SL aha2 nha cha2), (101, I64 j), (102, Ptr bz4 (32*j + oz4)), (103, .agg (cu8 (mid xha (32*j) 32)).toArray), (104, .bool (!(decide ((mid xha (32*j) 32) = (mid xha (32*j) 32))))), (2, Ptr nb1 0), (3, Ptr nb2 0), (6, I64 j), (87, I64 j), (88, Ptr nb1 27), (89, SL aha nha cha), (90, I64 nha), (91, .bool (decide (((j:Int)) < ((nha:Int)))))]) ZR ?_
  refine AK (AY _ rfl (bnotT (decide_eq_true ZM)) ?_)
  refine Z2 5 ?_
  refine AE (I64 ((j:Int) + 1)) (AT rfl rfl fun _ => BR _ _ ((j:Int) + 1) ZO ZO) rfl ?_
  refine Z2 1 ?_
  refine A1 (B5 (C1 (j + 1) ZO ZO (Sub.all rfl) rfl))
 have hp2 := of_decide_eq_false hb2
 refine Z2 12 ?_
 refine C3 (ι := Nat) (fun m => [(2, Ptr nb1 0), (3, Ptr nb2 0), (7, I64 m)]) (fun m => [(Ez nb1 (V0 rq (rk) (er) aj nj cj th pv ep (kd) ai ni ci sa ns sc bl tg aha nha cha ahb nhb chb) 71), (Ez nb2 (V0 rq (rk) (er) aj2 nj cj2 th pv ep (kd) ai2 ni ci2 sa2 ns sc2 bl tg aha2 nha cha2 ahb2 nhb chb2) 71)]) (fun m => m ≤ nhb) (fun m => nhb - m) 0 ZO (Sub.all rfl) rfl ?_
 rintro m hxm
 show JC _ _ _ [_, _, _] [_, _]
 refine Z2 5 ?_
 refine AE _ (AR rfl (B1 B9 (A0 0 rfl (Seg.right 27 1 (by simp [htg]) rfl (B0 (Seg.head)))))) rfl ?_
 refine Z2 4 ?_
 refine AX _ rfl (fun hb3 => ?_) (fun hb3 => ?_)
 ·
  have hp3 := of_decide_eq_true hb3
  refine Z2 5 ?_
  obtain ⟨bz5, oz5, hz5, hm5⟩ := hrhb.pos (by rw [hlhb]; omega)
  have hl5 : (mid xhb (32*m) 32).length = 32 := EK (by rw [hlhb]; omega)
  obtain ⟨bz6, oz6, hz6, hm6⟩ := hrhb2.pos (by rw [hlhb]; omega)
  have hl6 : (mid xhb (32*m) 32).length = 32 := EK (by rw [hlhb]; omega)
  refine Z8 123 1 [(0, Ptr nb1 28), (1, SL ahb nhb chb), (2, I64 m), (3, Ptr bz5 (32*m + oz5)), (4, .agg (cu8 (mid xhb (32*m) 32)).toArray), (5, Ptr nb2 28), (6, SL ahb2 nhb chb2), (7, I64 m), (8, Ptr bz6 (32*m + oz6)), (9, .agg (cu8 (mid xhb (32*m) 32)).toArray), (10, .bool (!(decide ((mid xhb (32*m) 32) = (mid xhb (32*m) 32)))))] ?_
  have hl7 : (mid xhb (32*m) 32).length = 32 := EK (by rw [hlhb]; omega)
  have hl8 : (mid xhb (32*m) 32).length = 32 := EK (by rw [hlhb]; omega)
  refine Z5 ⟨[], [0, 1, 2, 3, 4, 5, 6, 7, 8, 9, 10], [], [0, 1, 2, 3, 4, 5, 6, 7, 8, 9, 10], []⟩ (hq := ⟨AA rfl rfl ZE, AA rfl rfl (AR rfl (B1 B9 (A0 0 rfl (Seg.right 27 1 (by simp [htg]) rfl (B0 (Seg.head)))))), BM rfl rfl rfl, AA rfl rfl (BK 54 32 (32*m + oz5) C9 BY rfl hz5 rfl ZO ZO ZO), AA rfl rfl (AR rfl (BV DG BY (CI hl7) (BP (MemAt.base hm5.1 hm5.2.1 hm5.2.2) (segm_u8 (32*m) 32 (by rw [hlhb]; omega)) (by first | omega | (simp; done) | (simp; omega))))), AA rfl rfl ZE, AA rfl rfl (AR rfl (B1 B9 (A0 1 rfl (Seg.right 27 1 (by simp [htg]) rfl (B0 (Seg.head)))))), BM rfl rfl rfl, AA rfl rfl (BK 54 32 (32*m + oz6) C9 BY rfl hz6 rfl ZO ZO ZO), AA rfl rfl (AR rfl (BV DG BY (CI hl8) (BP (MemAt.base hm6.1 hm6.2.1 hm6.2.2) (segm_u8 (32*m) 32 (by rw [hlhb]; omega)) (by first | omega | (simp; done) | (simp; omega))))), AA rfl rfl (CG _ _ _ rfl rfl (fun _ => EG _ _ _ _ _ _ ZR) fun _ => neq_arr8 DK BS CM DT D9 (by simp [hl5]) (by simp [hl6])), trivial⟩) ?_
  refine A9 (F' := [(112, Ptr nb1 28), (113, SL ahb nhb chb), (114, I64 m), (115, Ptr bz5 (32*m + oz5)), (116, .agg (cu8 (mid xhb (32*m) 32)).toArray), (117, Ptr nb2 28), (118, SL ahb2 nhb chb2), (119, I64 m), (120, Ptr bz6 (32*m + oz6)), (121, .agg (cu8 (mid xhb (32*m) 32)).toArray), (122, .bool (!(decide ((mid xhb (32*m) 32) = (mid xhb (32*m) 32))))), (2, Ptr nb1 0), (3, Ptr nb2 0), (7, I64 m), (105, I64 m), (106, Ptr nb1 28), (107, SL ahb nhb chb), (108, I64 nhb), (109, .bool (decide (((m:Int)) < ((nhb:Int)))))]) ZR ?_
  refine AK (AY _ rfl (bnotT (decide_eq_true ZM)) ?_)
  refine Z2 5 ?_
  refine AE (I64 ((m:Int) + 1)) (AT rfl rfl fun _ => BR _ _ ((m:Int) + 1) ZO ZO) rfl ?_
  refine Z2 1 ?_
  refine A1 (B5 (C1 (m + 1) ZO ZO (Sub.all rfl) rfl))
 have hp3 := of_decide_eq_false hb3
 refine Z2 11 ?_
 refine A8 [false, false] ?_
 show JQ _ _ _ _ []
 refine Z1 fun w1 hw1 => ?_
 exact ⟨_, [], rfl, ⟨rfl, rfl⟩, hw1.no⟩
end Go.Proofs.YtkdpdgpphpngeaaDoor
namespace Go.Proofs.YtkdpdgpphpngeaaDoor
open Go Go.Sx
open Go.Value renaming slice → SL
attribute [local irreducible] mid zr8 numK valK rvalK
theorem stEq {rb T R e1 e2 n1 n2 c c2 : Nat} {a : Option Addr} {f : Nat × Nat} (h : e1 = e2) (h' : n1 = n2) (h2 : c = c2) : [(⟨rb, [errV T e1, .slice a n1 c], R, f⟩ : Ent)] = [⟨rb, [errV T e2, .slice a n2 c2], R, f⟩] := by rw [h, h', h2]
theorem okE_ok {e : Nat} {p : Prop} [Decidable p] (he : e = 0) (hp : p) : e = okE e (decide p) := by subst he; rw [decide_eq_true hp]; rfl
theorem okE_bad {e : Nat} {p : Prop} [Decidable p] (hp : ¬ p) : erN e 2 = okE e (decide p) := by rw [decide_eq_false hp]; rfl
theorem okE_keep {e : Nat} {p : Prop} [Decidable p] (he : e ≠ 0) (hp : ¬ p) : e = okE e (decide p) := by rw [decide_eq_false hp]; exact (erN_pos he).symm
theorem numR_w (rb e : Nat) (ao : Option Addr) (n c : Nat) (z : List UInt8) (s : Int) (w : World) (h0 : w.heap[rb]? = some (.cells [errV 50 e, SL ao n c].toArray 204 (0, 0))) (hz : z.length = n) (hn : n ≤ 2000000000) (hc : n ≤ c) (hcm : c ≤ maxLen) (hr : RdB w [rb] ao z) : Calls Tryd.prog 109 #[Ptr rb 0, I64 s] w (Post w [rb] (fun v L => v = U64 (nuV z e s) ∧ ∃ ao' c', Adv ao z c ao' (nuZ z e s) c' ∧ L = [(Ez rb [errV 50 (okE e (decide (NuOk z e s))), .slice ao' (nuZ z e s).length c'] 204)])) := by
 by_cases hok : NuOk z e s
 ·
  obtain ⟨he, hs, hl⟩ := id hok
  obtain ⟨k, rfl⟩ : ∃ k : Nat, s = k := ⟨s.toNat, by unfold Szd at hs; omega⟩
  have hk : k ≤ n := by omega
  refine (numROk_c rb e ao n c z k (n - k) (c - k) w h0 hz hn hc hcm hr he hs hk (by omega) (by omega)).mono ?_
  rintro E W ⟨v, L, rfl, ⟨rfl, rfl⟩, hw⟩
  refine ⟨_, _, rfl, ⟨by rw [nuV, if_pos hok]; rfl, advA ao c k, c - k, by rw [nuZ, if_pos hok]; exact Adv.drop k (by omega) (by omega) hcm, ?_⟩, hw⟩
  rw [nuZ, if_pos hok]
  exact stEq (okE_ok he hok) (by simp [hz]) rfl
 ·
  by_cases hs : Szd s
  ·
   by_cases he : e = 0
   ·
    have hl : (n:Int) < s := by
     rcases Int.lt_or_le (n:Int) s with h | h
     ·
      exact h
     ·
      exact absurd ⟨he, hs, by rw [hz]; exact h⟩ hok
    refine (numRS_c rb e ao n c s w h0 he hs hl).mono ?_
    rintro E W ⟨v, L, rfl, ⟨rfl, rfl⟩, hw⟩
    exact ⟨_, _, rfl, ⟨(by rw [nuV, if_neg hok]), ao, c, by rw [nuZ, if_neg hok]; exact EE (by omega) hcm, by rw [nuZ, if_neg hok]; exact stEq (okE_bad hok) hz.symm rfl⟩, hw⟩
   ·
    refine (numRE_c rb e _ s w h0 he hs).mono ?_
    rintro E W ⟨v, L, rfl, ⟨rfl, rfl⟩, hw⟩
    exact ⟨_, _, rfl, ⟨(by rw [nuV, if_neg hok]), ao, c, by rw [nuZ, if_neg hok]; exact EE (by omega) hcm, by rw [nuZ, if_neg hok]; exact stEq (okE_bad hok) hz.symm rfl⟩, hw⟩
  ·
   refine (numRF_c rb e _ s w h0 hs).mono ?_
   rintro E W ⟨v, L, rfl, ⟨rfl, rfl⟩, hw⟩
   exact ⟨_, _, rfl, ⟨(by rw [nuV, if_neg hok]), ao, c, by rw [nuZ, if_neg hok]; exact EE (by omega) hcm, by rw [nuZ, if_neg hok]; exact stEq (okE_bad hok) hz.symm rfl⟩, hw⟩
theorem hasR_w (rb e : Nat) (ao : Option Addr) (n c : Nat) (z : List UInt8) (w : World) (h0 : w.heap[rb]? = some (.cells [errV 50 e, SL ao n c].toArray 204 (0, 0))) (hz : z.length = n) (hn : n ≤ 2000000000) (hc : n ≤ c) (hcm : c ≤ maxLen) (hr : RdB w [rb] ao z) : Calls Tryd.prog 152 #[Ptr rb 0] w (Post w [rb] (fun v L => v = .agg (cu8 (hsV z e)).toArray ∧ ∃ ao' c', Adv ao z c ao' (hsZ z e) c' ∧ L = [(Ez rb [errV 50 (okE e (decide (HsOk z e))), .slice ao' (hsZ z e).length c'] 204)])) := by
 by_cases hok : HsOk z e
 ·
  obtain ⟨he, hl⟩ := id hok
  refine (hasROk_c rb e ao n c z w h0 hz hn hc hcm hr he (by omega)).mono ?_
  rintro E W ⟨v, L, rfl, ⟨rfl, rfl⟩, hw⟩
  refine ⟨_, _, rfl, ⟨by rw [hsV, if_pos hok], advA ao c 32, c - 32, by rw [hsZ, if_pos hok]; exact Adv.drop 32 hl (by omega) hcm, ?_⟩, hw⟩
  rw [hsZ, if_pos hok]
  exact stEq (okE_ok he hok) (by simp [hz]) rfl
 ·
  by_cases he : e = 0
  ·
   have hl : n < 32 := by
    rcases Nat.lt_or_ge n 32 with h | h
    ·
     exact h
    ·
     exact absurd ⟨he, by omega⟩ hok
   refine (hasRS_c rb e ao n c w h0 he hl).mono ?_
   rintro E W ⟨v, L, rfl, ⟨rfl, rfl⟩, hw⟩
   exact ⟨_, _, rfl, ⟨(by rw [hsV, if_neg hok]), ao, c, by rw [hsZ, if_neg hok]; exact EE (by omega) hcm, by rw [hsZ, if_neg hok]; exact stEq (okE_bad hok) hz.symm rfl⟩, hw⟩
  ·
   refine (hasRE_c rb e _ w h0 he).mono ?_
   rintro E W ⟨v, L, rfl, ⟨rfl, rfl⟩, hw⟩
   exact ⟨_, _, rfl, ⟨(by rw [hsV, if_neg hok]), ao, c, by rw [hsZ, if_neg hok]; exact EE (by omega) hcm, by rw [hsZ, if_neg hok]; exact stEq (okE_bad hok) hz.symm rfl⟩, hw⟩
theorem flgR_w (rb e : Nat) (ao : Option Addr) (n c : Nat) (z : List UInt8) (w : World) (h0 : w.heap[rb]? = some (.cells [errV 50 e, SL ao n c].toArray 204 (0, 0))) (hz : z.length = n) (hn : n ≤ 2000000000) (hc : n ≤ c) (hcm : c ≤ maxLen) (hr : RdB w [rb] ao z) : Calls Tryd.prog 119 #[Ptr rb 0] w (Post w [rb] (fun v L => v = .bool (fgV z e) ∧ ∃ ao' c', Adv ao z c ao' (fgZ z e) c' ∧ L = [(Ez rb [errV 50 (okE e (decide (FgOk z e))), .slice ao' (fgZ z e).length c'] 204)])) := by
 by_cases hok : FgOk z e
 ·
  obtain ⟨he, hl, hb⟩ := id hok
  refine (flgROk_c rb e ao n c z w h0 hz hn hc hcm hr he (by omega) (UInt8.not_lt.2 hb)).mono ?_
  rintro E W ⟨v, L, rfl, ⟨rfl, rfl⟩, hw⟩
  refine ⟨_, _, rfl, ⟨congrArg Value.bool (decide_eq_decide.2 ⟨fun h => ⟨hok, h⟩, fun h => h.2⟩), advA ao c 1, c - 1, by rw [fgZ, if_pos hok]; exact Adv.drop 1 hl (by omega) hcm, ?_⟩, hw⟩
  rw [fgZ, if_pos hok]
  exact stEq (okE_ok he hok) (by simp [hz]) rfl
 ·
  by_cases he : e = 0
  ·
   by_cases hl : 1 ≤ n
   ·
    have hb : (1:UInt8) < g8 z 0 := by
     by_cases h : g8 z 0 ≤ 1
     ·
      exact absurd ⟨he, by omega, h⟩ hok
     ·
      exact UInt8.not_le.1 h
    refine (flgRB_c rb e ao n c z w h0 hz hn hc hcm hr he hl hb).mono ?_
    rintro E W ⟨v, L, rfl, ⟨rfl, rfl⟩, hw⟩
    exact ⟨_, _, rfl, ⟨(by rw [fgV, decide_eq_false (fun h => hok h.1)]), ao, c, by rw [fgZ, if_neg hok]; exact EE (by omega) hcm, by rw [fgZ, if_neg hok]; exact stEq (okE_bad hok) hz.symm rfl⟩, hw⟩
   ·
    refine (flgRS_c rb e ao n c w h0 he (by omega)).mono ?_
    rintro E W ⟨v, L, rfl, ⟨rfl, rfl⟩, hw⟩
    exact ⟨_, _, rfl, ⟨(by rw [fgV, decide_eq_false (fun h => hok h.1)]), ao, c, by rw [fgZ, if_neg hok]; exact EE (by omega) hcm, by rw [fgZ, if_neg hok]; exact stEq (okE_bad hok) hz.symm rfl⟩, hw⟩
  ·
   refine (flgRE_c rb e _ w h0 he).mono ?_
   rintro E W ⟨v, L, rfl, ⟨rfl, rfl⟩, hw⟩
   exact ⟨_, _, rfl, ⟨(by rw [fgV, decide_eq_false (fun h => hok h.1)]), ao, c, by rw [fgZ, if_neg hok]; exact EE (by omega) hcm, by rw [fgZ, if_neg hok]; exact stEq (okE_bad hok) hz.symm rfl⟩, hw⟩
attribute [local irreducible] JL JC JQ DP Ev Ld MemAt Seg Step Cl RV Qok Cok
theorem takeE_c (ao : Option Addr) (n c e : Nat) (s : Int) (w : World) (he : e ≠ 0) : Calls Tryd.prog 126 #[.agg #[SL ao n c, I64 e], I64 (s)] w (Post w [] (fun v L => v = .tuple #[SL none 0 0, .agg #[SL ao n c, I64 (e)]] ∧ L = [])) := by
 refine enter (P := Tryd.prog) (f := 126) (fn := Tryd.f126) w [] 33 [] [.agg #[SL ao n c, I64 e], I64 (s)] Tryd.func126 rfl rfl ZM (A2 ZM ZM ZM) ?_
 show JC _ _ _ [_, _] _
 refine A4 (AO (AF (B2 (.agg #[SL ao n c, I64 e]) ([SL ao n c, I64 e]) rfl (by first | rfl | simp)) rfl ?_))
 rintro v1 L1 ⟨nb1, hnb1, rfl, rfl⟩
 show JL _ _ _ _ (_ :: _) [_]
 refine Z2 1 ?_
 refine AF (AS _ ([SL none 0 0, I64 0]) A3 ZR) rfl ?_
 rintro v1 L1 ⟨nb2, hnb2, rfl, rfl⟩
 show JL _ _ _ _ (_ :: _) [_, _]
 refine Z2 10 ?_
 refine A7 _ rfl (decide_eq_true ZO) ?_
 refine A4 (Z8 33 2 [(0, .agg #[SL ao n c, I64 e]), (1, SL none 0 0)] ?_)
 refine Z6 ⟨[], [0, 1], [], [0, 1], [2]⟩ 2 (AL rfl ZW) ?_
 show DP _ _ _ _ _ _ _ _ [_, _]
 refine Z5 ⟨[2], [0, 1], [0, 1], [], []⟩ ?_
 refine A9 (F' := [(4, SL none 0 0), (1, I64 (s)), (2, Ptr nb1 0), (5, Ptr nb2 0)]) ZR ?_
 refine AK (CH (C2 (Z1 fun w1 hw1 => ?_)))
 exact ⟨_, [], rfl, ⟨rfl, rfl⟩, hw1.no⟩
theorem takeB_c (ao : Option Addr) (n c e : Nat) (s : Int) (w : World) (he : e = 0) (hs : s < 0 ∨ (n:Int) < s) : Calls Tryd.prog 126 #[.agg #[SL ao n c, I64 e], I64 (s)] w (Post w [] (fun v L => v = .tuple #[SL none 0 0, .agg #[SL ao n c, I64 (2)]] ∧ L = [])) := by
 refine enter (P := Tryd.prog) (f := 126) (fn := Tryd.f126) w [] 33 [] [.agg #[SL ao n c, I64 e], I64 (s)] Tryd.func126 rfl rfl ZM (A2 ZM ZM ZM) ?_
 show JC _ _ _ [_, _] _
 refine A4 (AO (AF (B2 (.agg #[SL ao n c, I64 e]) ([SL ao n c, I64 e]) rfl (by first | rfl | simp)) rfl ?_))
 rintro v1 L1 ⟨nb1, hnb1, rfl, rfl⟩
 show JL _ _ _ _ (_ :: _) [_]
 refine Z2 1 ?_
 refine AF (AS _ ([SL none 0 0, I64 0]) A3 ZR) rfl ?_
 rintro v1 L1 ⟨nb2, hnb2, rfl, rfl⟩
 show JL _ _ _ _ (_ :: _) [_, _]
 refine Z2 10 ?_
 refine AY _ rfl (decide_eq_false ZO) ?_
 refine Z2 8 ?_
 rcases Bool.eq_false_or_eq_true (decide ((s) < (0:Int))) with hb1 | hb1
 ·
  have hp1 := of_decide_eq_true hb1
  refine Z2 8 ?_
  refine A7 _ rfl rfl ?_
  refine Z2 7 ?_
  refine Z8 33 2 [(0, .agg #[SL ao n c, I64 2]), (1, SL none 0 0)] ?_
  refine Z6 ⟨[], [0, 1], [], [0, 1], [2]⟩ 2 (AL rfl ZW) ?_
  show DP _ _ _ _ _ _ _ _ [_, _]
  refine Z5 ⟨[2], [0, 1], [0, 1], [], []⟩ ?_
  refine A9 (F' := [(4, SL none 0 0), (1, I64 (s)), (2, Ptr nb1 0), (5, Ptr nb2 0)]) ZR ?_
  refine AK (CH (C2 (Z1 fun w1 hw1 => ?_)))
  exact ⟨_, [], rfl, ⟨rfl, rfl⟩, hw1.no⟩
 have hp1 := of_decide_eq_false hb1
 refine Z2 8 ?_
 refine A7 _ rfl (decide_eq_true ZO) ?_
 refine Z2 7 ?_
 refine Z8 33 2 [(0, .agg #[SL ao n c, I64 2]), (1, SL none 0 0)] ?_
 refine Z6 ⟨[], [0, 1], [], [0, 1], [2]⟩ 2 (AL rfl ZW) ?_
 show DP _ _ _ _ _ _ _ _ [_, _]
 refine Z5 ⟨[2], [0, 1], [0, 1], [], []⟩ ?_
 refine A9 (F' := [(4, SL none 0 0), (1, I64 (s)), (2, Ptr nb1 0), (5, Ptr nb2 0)]) ZR ?_
 refine AK (CH (C2 (Z1 fun w1 hw1 => ?_)))
 exact ⟨_, [], rfl, ⟨rfl, rfl⟩, hw1.no⟩
theorem takeOk_c (ao : Option Addr) (n c e : Nat) (z : List UInt8) (s : Nat) (n2 c2 : Nat) (w : World) (hz : z.length = n) (hn : n ≤ 2000000000) (hc : n ≤ c) (hcm : c ≤ maxLen) (hr : RdB w [] ao z) (he : e = 0) (h2 : s ≤ n) (ht1 : s + n2 = n) (ht2 : s + c2 = c) : Calls Tryd.prog 126 #[.agg #[SL ao n c, I64 e], I64 s] w (Post w [] (fun v L => v = .tuple #[SL ao s c, .agg #[SL (advA ao c s) n2 c2, I64 (e)]] ∧ L = [])) := by
 refine enter (P := Tryd.prog) (f := 126) (fn := Tryd.f126) w [] 33 [] [.agg #[SL ao n c, I64 e], I64 s] Tryd.func126 rfl rfl ZM (A2 ZM ZM ZM) ?_
 show JC _ _ _ [_, _] _
 refine A4 (AO (AF (B2 (.agg #[SL ao n c, I64 e]) ([SL ao n c, I64 e]) rfl (by first | rfl | simp)) rfl ?_))
 rintro v1 L1 ⟨nb1, hnb1, rfl, rfl⟩
 show JL _ _ _ _ (_ :: _) [_]
 refine Z2 1 ?_
 refine AF (AS _ ([SL none 0 0, I64 0]) A3 ZR) rfl ?_
 rintro v1 L1 ⟨nb2, hnb2, rfl, rfl⟩
 show JL _ _ _ _ (_ :: _) [_, _]
 refine Z2 10 ?_
 refine AY _ rfl (decide_eq_false ZO) ?_
 refine Z2 8 ?_
 refine AD 2 13 false _ _ rfl rfl (decide_eq_false ZO) ZE rfl ?_
 refine AD 2 13 false _ (Ptr nb1 0) rfl rfl (decide_eq_false ZO) ZE rfl ?_
 refine AD 2 13 false _ (SL ao n c) rfl rfl (decide_eq_false ZO) ZE rfl ?_
 refine AD 2 13 false _ (I64 n) rfl rfl (decide_eq_false ZO) ZE rfl ?_
 refine AD 2 13 false _ (.bool (decide (((n:Int)) < ((s:Int))))) rfl rfl (decide_eq_false ZO) ZE rfl ?_
 refine AE _ (BO _ rfl (decide_eq_false ZO) rfl) rfl ?_
 refine A1 (AK (AY _ rfl (decide_eq_false ZO) ?_))
 refine Z2 7 ?_
 have hl1 : (mid z 0 s).length = s := EK (by rw [hz]; omega)
 have hr1 := RdB.pre hr s
 refine AE (SL ao s c) (Ev_sliceHi 5 1 s AM AW rfl rfl ZO) rfl ?_
 refine Z2 8 ?_
 have hl2 : (z.drop s).length = (n - s) := by rw [List.length_drop, hz] <;> omega
 have hr2 := RdB.adv (c := c) hr s (by rw [hz]; omega) (by rw [hz]; omega)
 refine AE (SL (advA ao c s) (n - s) (c - s)) (Ev_sliceLo 5 s (n - s) (c - s) AM AW rfl rfl ZO ZO ZO ZO) rfl ?_
 refine Z2 5 ?_
 refine Z8 33 2 [(0, SL ao s c), (1, .agg #[SL (advA ao c s) (n - s) (c - s), I64 e]), (2, SL ao s c)] ?_
 refine Z6 ⟨[], [0, 1, 2], [], [0, 1, 2], [3]⟩ 3 (AL rfl ZW) ?_
 show DP _ _ _ _ _ _ _ _ [_, _]
 refine Z5 ⟨[3], [0, 1, 2], [0, 1, 2], [], []⟩ ?_
 refine A9 (F' := [(4, SL ao s c), (5, Ptr nb2 0)]) ZR ?_
 refine AK (CH (Z1 fun w1 hw1 => ?_))
 obtain rfl : n2 = (n - s) := by omega
 obtain rfl : c2 = (c - s) := by omega
 exact ⟨_, [], rfl, ⟨rfl, rfl⟩, hw1.no⟩
theorem value_c (ao : Option Addr) (n c : Nat) (z : List UInt8) (w : World) (hz : z.length = n) (hn : n ≤ 2000000000) (hr : RdB w [] ao z) : Calls Tryd.prog 110 #[SL ao n c] w (Post w [] (fun v L => v = U64 (rvalK z n) ∧ L = [])) := by
 refine enter w [] 20 [] [SL ao n c] Tryd.func110 rfl rfl ZM (A2 ZM ZM ZM) ?_
 show JC _ _ _ [_] _
 refine Z2 17 ?_
 refine C3 (ι := Nat × UInt64) (fun ⟨j, y⟩ => [(0, SL ao n c), (2, U64 0), (4, I64 j), (3, U64 y)]) (fun ⟨j, y⟩ => []) (fun ⟨j, y⟩ => j ≤ n ∧ y = rvalK z j) (fun ⟨j, y⟩ => n - j) (0, 0) ⟨ZO, by rw [rvalK]⟩ (Sub.all rfl) rfl ?_
 rintro ⟨j, y⟩ ⟨hx1, hx2⟩
 show JC _ _ _ [_, _, _, _] []
 refine Z2 9 ?_
 refine AX _ rfl (fun hb1 => ?_) (fun hb1 => ?_)
 ·
  have hp1 := of_decide_eq_true hb1
  refine Z2 6 ?_
  refine AE (U64 (y * (256:UInt64))) (AT rfl rfl fun _ => bin_mul_u64 y (256:UInt64)) rfl ?_
  refine Z2 2 ?_
  obtain ⟨bz1, oz1, hz1, hm1⟩ := hr.pos (by rw [hz]; omega)
  refine AE (Ptr bz1 (j + oz1)) (BK 5 1 (j + oz1) AM AW rfl hz1 rfl ZO ZO ZO) rfl (AE _ (AR rfl (B1 CM (BP (MemAt.base hm1.1 hm1.2.1 hm1.2.2) (Seg.get (g8_get (i := j) (by rw [hz]; omega))) (by first | omega | (simp; done) | (simp; omega))))) rfl ?_)
  refine AE (U64 ((g8 z j).toUInt64)) (EW _ _ rfl fun _ => conv_u8_u64 (by rw [BS]; rfl) BQ _) rfl ?_
  refine AE (U64 ((y * (256:UInt64)) + ((g8 z j).toUInt64))) (AT rfl rfl fun _ => bin_add_u64 (y * (256:UInt64)) ((g8 z j).toUInt64)) rfl ?_
  refine Z2 6 ?_
  refine AE (I64 ((j:Int) + 1)) (AT rfl rfl fun _ => BR _ _ ((j:Int) + 1) ZO ZO) rfl ?_
  refine Z2 1 ?_
  refine A1 (B5 (C1 (j + 1, (y * (256:UInt64)) + ((g8 z j).toUInt64)) ⟨ZO, by rw [rvalK, ← hx2]⟩ (by first | (simp; omega) | simp | (dsimp only; omega) | omega) (Sub.all rfl) rfl))
 have hp1 := of_decide_eq_false hb1
 refine Z2 12 ?_
 refine Z1 fun w1 hw1 => ?_
 have e1 : j = n := by omega
 rw [hx2, e1] at *
 exact ⟨_, [], rfl, ⟨rfl, rfl⟩, hw1.no⟩
theorem FK  (w : World) : Calls Tryd.prog 110 #[SL none 0 0] w (Post w [] (fun v L => v = U64 0 ∧ L = [])) := by
 refine enter w [] 20 [] [SL none 0 0] Tryd.func110 rfl rfl ZM (A2 ZM ZM ZM) ?_
 show JC _ _ _ [_] _
 refine Z2 17 ?_
 refine C3 (ι := Unit) (fun _ => [(0, SL none 0 0), (2, U64 0), (4, I64 0), (3, U64 0)]) (fun _ => []) (fun _ => True) (fun _ => 1) () trivial (Sub.all rfl) rfl ?_
 rintro _ _
 show JC _ _ _ [_, _, _, _] []
 refine Z2 9 ?_
 refine AY _ rfl ZD ?_
 refine Z2 12 ?_
 refine Z1 fun w1 hw1 => ?_
 exact ⟨_, [], rfl, ⟨rfl, rfl⟩, hw1.no⟩
theorem readE_c (ao : Option Addr) (n c e : Nat) (s : Int) (w : World) (he : e ≠ 0) : Calls Tryd.prog 118 #[.agg #[SL ao n c, I64 e], I64 (s)] w (Post w [] (fun v L => v = .tuple #[U64 0, .agg #[SL ao n c, I64 (e)]] ∧ L = [])) := by
 refine enter (P := Tryd.prog) (f := 118) (fn := Tryd.f118) w [] 36 [] [.agg #[SL ao n c, I64 e], I64 (s)] Tryd.func118 rfl rfl ZM (A2 ZM ZM ZM) ?_
 show JC _ _ _ [_, _] _
 refine A4 (AO (AF (B2 (.agg #[SL ao n c, I64 e]) ([SL ao n c, I64 e]) rfl (by first | rfl | simp)) rfl ?_))
 rintro v1 L1 ⟨nb1, hnb1, rfl, rfl⟩
 show JL _ _ _ _ (_ :: _) [_]
 refine Z2 1 ?_
 refine AF (AS _ ([SL none 0 0, I64 0]) A3 ZR) rfl ?_
 rintro v1 L1 ⟨nb2, hnb2, rfl, rfl⟩
 show JL _ _ _ _ (_ :: _) [_, _]
 refine Z2 10 ?_
 refine A7 _ rfl (decide_eq_true ZO) ?_
 refine A4 (Z8 36 2 [(0, .agg #[SL ao n c, I64 e]), (1, U64 0)] ?_)
 refine Z6 ⟨[], [0, 1], [], [0, 1], [2]⟩ 2 (AL rfl ZW) ?_
 show DP _ _ _ _ _ _ _ _ [_, _]
 refine Z5 ⟨[2], [0, 1], [0, 1], [], []⟩ ?_
 refine A9 (F' := [(4, U64 0), (1, I64 (s)), (2, Ptr nb1 0), (5, Ptr nb2 0)]) ZR ?_
 refine AK (CH (C2 (Z1 fun w1 hw1 => ?_)))
 exact ⟨_, [], rfl, ⟨rfl, rfl⟩, hw1.no⟩
theorem readF_c (ao : Option Addr) (n c e : Nat) (s : Int) (w : World) (he : e = 0) (hs : ¬ Szd s) : Calls Tryd.prog 118 #[.agg #[SL ao n c, I64 e], I64 (s)] w (Post w [] (fun v L => v = .tuple #[U64 0, .agg #[SL ao n c, I64 (2)]] ∧ L = [])) := by
 refine enter (P := Tryd.prog) (f := 118) (fn := Tryd.f118) w [] 36 [] [.agg #[SL ao n c, I64 e], I64 (s)] Tryd.func118 rfl rfl ZM (A2 ZM ZM ZM) ?_
 show JC _ _ _ [_, _] _
 refine A4 (AO (AF (B2 (.agg #[SL ao n c, I64 e]) ([SL ao n c, I64 e]) rfl (by first | rfl | simp)) rfl ?_))
 rintro v1 L1 ⟨nb1, hnb1, rfl, rfl⟩
 show JL _ _ _ _ (_ :: _) [_]
 refine Z2 1 ?_
 refine AF (AS _ ([SL none 0 0, I64 0]) A3 ZR) rfl ?_
 rintro v1 L1 ⟨nb2, hnb2, rfl, rfl⟩
 show JL _ _ _ _ (_ :: _) [_, _]
 refine Z2 10 ?_
 refine AY _ rfl (decide_eq_false ZO) ?_
 refine Z2 8 ?_
 rcases Bool.eq_false_or_eq_true (decide ((s) ≠ (1:Int))) with hb1 | hb1
 ·
  have hp1 := of_decide_eq_true hb1
  refine Z2 4 ?_
  rcases Bool.eq_false_or_eq_true (decide ((s) ≠ (2:Int))) with hb2 | hb2
  ·
   have hp2 := of_decide_eq_true hb2
   refine Z2 4 ?_
   rcases Bool.eq_false_or_eq_true (decide ((s) ≠ (4:Int))) with hb3 | hb3
   ·
    have hp3 := of_decide_eq_true hb3
    refine Z2 5 ?_
    refine AX _ rfl (fun hb4 => ?_) (fun hb4 => ?_)
    ·
     have hp4 := of_decide_eq_true hb4
     refine Z2 7 ?_
     refine Z8 36 2 [(0, .agg #[SL ao n c, I64 2]), (1, U64 0)] ?_
     refine Z6 ⟨[], [0, 1], [], [0, 1], [2]⟩ 2 (AL rfl ZW) ?_
     show DP _ _ _ _ _ _ _ _ [_, _]
     refine Z5 ⟨[2], [0, 1], [0, 1], [], []⟩ ?_
     refine A9 (F' := [(4, U64 0), (1, I64 (s)), (2, Ptr nb1 0), (5, Ptr nb2 0)]) ZR ?_
     refine AK (CH (C2 (Z1 fun w1 hw1 => ?_)))
     exact ⟨_, [], rfl, ⟨rfl, rfl⟩, hw1.no⟩
    have hp4 := of_decide_eq_false hb4
    refine Z2 6 ?_
    refine AC (AJ 126 _ (.tuple #[SL none 0 0, .agg #[SL ao n c, I64 2]]) (AH _ CV rfl) (fun w1 hw1 => takeB_c ao n c e (s) w1 he (by exfalso; apply hs; unfold Szd; omega))) rfl ?_
    show JL _ _ _ _ (_ :: _) [_, _]
    refine Z2 8 ?_
    refine Z8 36 3 [(0, SL none 0 0), (2, .agg #[SL ao n c, I64 2])] ?_
    refine Z7 ⟨[], [0, 2], [], [0, 2], [1]⟩ 1 (AL rfl (AJ 110 _ (U64 0) (AH _ Tryd.call110 rfl) (fun w1 hw1 => FK w1))) ?_
    rintro v1 L1 ⟨rfl, rfl⟩
    refine ⟨[(3, U64 0)], ?_⟩
    show DP _ _ _ _ _ _ _ _ [_, _]
    refine Z6 ⟨[1], [0, 2, 3], [0], [2, 3], [4]⟩ 4 (AL rfl ZW) ?_
    show DP _ _ _ _ _ _ _ _ [_, _]
    refine Z5 ⟨[1, 4], [0, 2, 3], [0, 2, 3], [], []⟩ ?_
    refine A9 (F' := [(4, U64 0), (5, Ptr nb2 0)]) ZR ?_
    refine AK (CH (Z1 fun w1 hw1 => ?_))
    exact ⟨_, [], rfl, ⟨rfl, rfl⟩, hw1.no⟩
   have hp3 := of_decide_eq_false hb3
   refine Z2 5 ?_
   refine AY _ rfl rfl ?_
   refine Z2 6 ?_
   refine AC (AJ 126 _ (.tuple #[SL none 0 0, .agg #[SL ao n c, I64 2]]) (AH _ CV rfl) (fun w1 hw1 => takeB_c ao n c e (s) w1 he (by exfalso; apply hs; unfold Szd; omega))) rfl ?_
   show JL _ _ _ _ (_ :: _) [_, _]
   refine Z2 8 ?_
   refine Z8 36 3 [(0, SL none 0 0), (2, .agg #[SL ao n c, I64 2])] ?_
   refine Z7 ⟨[], [0, 2], [], [0, 2], [1]⟩ 1 (AL rfl (AJ 110 _ (U64 0) (AH _ Tryd.call110 rfl) (fun w1 hw1 => FK w1))) ?_
   rintro v1 L1 ⟨rfl, rfl⟩
   refine ⟨[(3, U64 0)], ?_⟩
   show DP _ _ _ _ _ _ _ _ [_, _]
   refine Z6 ⟨[1], [0, 2, 3], [0], [2, 3], [4]⟩ 4 (AL rfl ZW) ?_
   show DP _ _ _ _ _ _ _ _ [_, _]
   refine Z5 ⟨[1, 4], [0, 2, 3], [0, 2, 3], [], []⟩ ?_
   refine A9 (F' := [(4, U64 0), (5, Ptr nb2 0)]) ZR ?_
   refine AK (CH (Z1 fun w1 hw1 => ?_))
   exact ⟨_, [], rfl, ⟨rfl, rfl⟩, hw1.no⟩
  have hp2 := of_decide_eq_false hb2
  refine Z2 9 ?_
  refine AY _ rfl rfl ?_
  refine Z2 6 ?_
  refine AC (AJ 126 _ (.tuple #[SL none 0 0, .agg #[SL ao n c, I64 2]]) (AH _ CV rfl) (fun w1 hw1 => takeB_c ao n c e (s) w1 he (by exfalso; apply hs; unfold Szd; omega))) rfl ?_
  show JL _ _ _ _ (_ :: _) [_, _]
  refine Z2 8 ?_
  refine Z8 36 3 [(0, SL none 0 0), (2, .agg #[SL ao n c, I64 2])] ?_
  refine Z7 ⟨[], [0, 2], [], [0, 2], [1]⟩ 1 (AL rfl (AJ 110 _ (U64 0) (AH _ Tryd.call110 rfl) (fun w1 hw1 => FK w1))) ?_
  rintro v1 L1 ⟨rfl, rfl⟩
  refine ⟨[(3, U64 0)], ?_⟩
  show DP _ _ _ _ _ _ _ _ [_, _]
  refine Z6 ⟨[1], [0, 2, 3], [0], [2, 3], [4]⟩ 4 (AL rfl ZW) ?_
  show DP _ _ _ _ _ _ _ _ [_, _]
  refine Z5 ⟨[1, 4], [0, 2, 3], [0, 2, 3], [], []⟩ ?_
  refine A9 (F' := [(4, U64 0), (5, Ptr nb2 0)]) ZR ?_
  refine AK (CH (Z1 fun w1 hw1 => ?_))
  exact ⟨_, [], rfl, ⟨rfl, rfl⟩, hw1.no⟩
 have hp1 := of_decide_eq_false hb1
 refine Z2 13 ?_
 refine AY _ rfl rfl ?_
 refine Z2 6 ?_
 refine AC (AJ 126 _ (.tuple #[SL none 0 0, .agg #[SL ao n c, I64 2]]) (AH _ CV rfl) (fun w1 hw1 => takeB_c ao n c e (s) w1 he (by exfalso; apply hs; unfold Szd; omega))) rfl ?_
 show JL _ _ _ _ (_ :: _) [_, _]
 refine Z2 8 ?_
 refine Z8 36 3 [(0, SL none 0 0), (2, .agg #[SL ao n c, I64 2])] ?_
 refine Z7 ⟨[], [0, 2], [], [0, 2], [1]⟩ 1 (AL rfl (AJ 110 _ (U64 0) (AH _ Tryd.call110 rfl) (fun w1 hw1 => FK w1))) ?_
 rintro v1 L1 ⟨rfl, rfl⟩
 refine ⟨[(3, U64 0)], ?_⟩
 show DP _ _ _ _ _ _ _ _ [_, _]
 refine Z6 ⟨[1], [0, 2, 3], [0], [2, 3], [4]⟩ 4 (AL rfl ZW) ?_
 show DP _ _ _ _ _ _ _ _ [_, _]
 refine Z5 ⟨[1, 4], [0, 2, 3], [0, 2, 3], [], []⟩ ?_
 refine A9 (F' := [(4, U64 0), (5, Ptr nb2 0)]) ZR ?_
 refine AK (CH (Z1 fun w1 hw1 => ?_))
 exact ⟨_, [], rfl, ⟨rfl, rfl⟩, hw1.no⟩
theorem readS_c (ao : Option Addr) (n c e : Nat) (s : Int) (w : World) (he : e = 0) (hs : Szd s) (hl : (n:Int) < s) : Calls Tryd.prog 118 #[.agg #[SL ao n c, I64 e], I64 (s)] w (Post w [] (fun v L => v = .tuple #[U64 0, .agg #[SL ao n c, I64 (2)]] ∧ L = [])) := by
 refine enter (P := Tryd.prog) (f := 118) (fn := Tryd.f118) w [] 36 [] [.agg #[SL ao n c, I64 e], I64 (s)] Tryd.func118 rfl rfl ZM (A2 ZM ZM ZM) ?_
 show JC _ _ _ [_, _] _
 refine A4 (AO (AF (B2 (.agg #[SL ao n c, I64 e]) ([SL ao n c, I64 e]) rfl (by first | rfl | simp)) rfl ?_))
 rintro v1 L1 ⟨nb1, hnb1, rfl, rfl⟩
 show JL _ _ _ _ (_ :: _) [_]
 refine Z2 1 ?_
 refine AF (AS _ ([SL none 0 0, I64 0]) A3 ZR) rfl ?_
 rintro v1 L1 ⟨nb2, hnb2, rfl, rfl⟩
 show JL _ _ _ _ (_ :: _) [_, _]
 refine Z2 10 ?_
 refine AY _ rfl (decide_eq_false ZO) ?_
 refine Z2 8 ?_
 rcases Bool.eq_false_or_eq_true (decide ((s) ≠ (1:Int))) with hb1 | hb1
 ·
  have hp1 := of_decide_eq_true hb1
  refine Z2 4 ?_
  rcases Bool.eq_false_or_eq_true (decide ((s) ≠ (2:Int))) with hb2 | hb2
  ·
   have hp2 := of_decide_eq_true hb2
   refine Z2 4 ?_
   rcases Bool.eq_false_or_eq_true (decide ((s) ≠ (4:Int))) with hb3 | hb3
   ·
    have hp3 := of_decide_eq_true hb3
    refine Z2 5 ?_
    refine AX _ rfl (fun hb4 => ?_) (fun hb4 => ?_)
    ·
     have hp4 := of_decide_eq_true hb4
     refine Z2 7 ?_
     refine Z8 36 2 [(0, .agg #[SL ao n c, I64 2]), (1, U64 0)] ?_
     refine Z6 ⟨[], [0, 1], [], [0, 1], [2]⟩ 2 (AL rfl ZW) ?_
     show DP _ _ _ _ _ _ _ _ [_, _]
     refine Z5 ⟨[2], [0, 1], [0, 1], [], []⟩ ?_
     refine A9 (F' := [(4, U64 0), (1, I64 (s)), (2, Ptr nb1 0), (5, Ptr nb2 0)]) ZR ?_
     refine AK (CH (C2 (Z1 fun w1 hw1 => ?_)))
     exact ⟨_, [], rfl, ⟨rfl, rfl⟩, hw1.no⟩
    have hp4 := of_decide_eq_false hb4
    refine Z2 6 ?_
    refine AC (AJ 126 _ (.tuple #[SL none 0 0, .agg #[SL ao n c, I64 2]]) (AH _ CV rfl) (fun w1 hw1 => takeB_c ao n c e (s) w1 he (.inr hl))) rfl ?_
    show JL _ _ _ _ (_ :: _) [_, _]
    refine Z2 8 ?_
    refine Z8 36 3 [(0, SL none 0 0), (2, .agg #[SL ao n c, I64 2])] ?_
    refine Z7 ⟨[], [0, 2], [], [0, 2], [1]⟩ 1 (AL rfl (AJ 110 _ (U64 0) (AH _ Tryd.call110 rfl) (fun w1 hw1 => FK w1))) ?_
    rintro v1 L1 ⟨rfl, rfl⟩
    refine ⟨[(3, U64 0)], ?_⟩
    show DP _ _ _ _ _ _ _ _ [_, _]
    refine Z6 ⟨[1], [0, 2, 3], [0], [2, 3], [4]⟩ 4 (AL rfl ZW) ?_
    show DP _ _ _ _ _ _ _ _ [_, _]
    refine Z5 ⟨[1, 4], [0, 2, 3], [0, 2, 3], [], []⟩ ?_
    refine A9 (F' := [(4, U64 0), (5, Ptr nb2 0)]) ZR ?_
    refine AK (CH (Z1 fun w1 hw1 => ?_))
    exact ⟨_, [], rfl, ⟨rfl, rfl⟩, hw1.no⟩
   have hp3 := of_decide_eq_false hb3
   refine Z2 5 ?_
   refine AY _ rfl rfl ?_
   refine Z2 6 ?_
   refine AC (AJ 126 _ (.tuple #[SL none 0 0, .agg #[SL ao n c, I64 2]]) (AH _ CV rfl) (fun w1 hw1 => takeB_c ao n c e (s) w1 he (.inr hl))) rfl ?_
   show JL _ _ _ _ (_ :: _) [_, _]
   refine Z2 8 ?_
   refine Z8 36 3 [(0, SL none 0 0), (2, .agg #[SL ao n c, I64 2])] ?_
   refine Z7 ⟨[], [0, 2], [], [0, 2], [1]⟩ 1 (AL rfl (AJ 110 _ (U64 0) (AH _ Tryd.call110 rfl) (fun w1 hw1 => FK w1))) ?_
   rintro v1 L1 ⟨rfl, rfl⟩
   refine ⟨[(3, U64 0)], ?_⟩
   show DP _ _ _ _ _ _ _ _ [_, _]
   refine Z6 ⟨[1], [0, 2, 3], [0], [2, 3], [4]⟩ 4 (AL rfl ZW) ?_
   show DP _ _ _ _ _ _ _ _ [_, _]
   refine Z5 ⟨[1, 4], [0, 2, 3], [0, 2, 3], [], []⟩ ?_
   refine A9 (F' := [(4, U64 0), (5, Ptr nb2 0)]) ZR ?_
   refine AK (CH (Z1 fun w1 hw1 => ?_))
   exact ⟨_, [], rfl, ⟨rfl, rfl⟩, hw1.no⟩
  have hp2 := of_decide_eq_false hb2
  refine Z2 9 ?_
  refine AY _ rfl rfl ?_
  refine Z2 6 ?_
  refine AC (AJ 126 _ (.tuple #[SL none 0 0, .agg #[SL ao n c, I64 2]]) (AH _ CV rfl) (fun w1 hw1 => takeB_c ao n c e (s) w1 he (.inr hl))) rfl ?_
  show JL _ _ _ _ (_ :: _) [_, _]
  refine Z2 8 ?_
  refine Z8 36 3 [(0, SL none 0 0), (2, .agg #[SL ao n c, I64 2])] ?_
  refine Z7 ⟨[], [0, 2], [], [0, 2], [1]⟩ 1 (AL rfl (AJ 110 _ (U64 0) (AH _ Tryd.call110 rfl) (fun w1 hw1 => FK w1))) ?_
  rintro v1 L1 ⟨rfl, rfl⟩
  refine ⟨[(3, U64 0)], ?_⟩
  show DP _ _ _ _ _ _ _ _ [_, _]
  refine Z6 ⟨[1], [0, 2, 3], [0], [2, 3], [4]⟩ 4 (AL rfl ZW) ?_
  show DP _ _ _ _ _ _ _ _ [_, _]
  refine Z5 ⟨[1, 4], [0, 2, 3], [0, 2, 3], [], []⟩ ?_
  refine A9 (F' := [(4, U64 0), (5, Ptr nb2 0)]) ZR ?_
  refine AK (CH (Z1 fun w1 hw1 => ?_))
  exact ⟨_, [], rfl, ⟨rfl, rfl⟩, hw1.no⟩
 have hp1 := of_decide_eq_false hb1
 refine Z2 13 ?_
 refine AY _ rfl rfl ?_
 refine Z2 6 ?_
 refine AC (AJ 126 _ (.tuple #[SL none 0 0, .agg #[SL ao n c, I64 2]]) (AH _ CV rfl) (fun w1 hw1 => takeB_c ao n c e (s) w1 he (.inr hl))) rfl ?_
 show JL _ _ _ _ (_ :: _) [_, _]
 refine Z2 8 ?_
 refine Z8 36 3 [(0, SL none 0 0), (2, .agg #[SL ao n c, I64 2])] ?_
 refine Z7 ⟨[], [0, 2], [], [0, 2], [1]⟩ 1 (AL rfl (AJ 110 _ (U64 0) (AH _ Tryd.call110 rfl) (fun w1 hw1 => FK w1))) ?_
 rintro v1 L1 ⟨rfl, rfl⟩
 refine ⟨[(3, U64 0)], ?_⟩
 show DP _ _ _ _ _ _ _ _ [_, _]
 refine Z6 ⟨[1], [0, 2, 3], [0], [2, 3], [4]⟩ 4 (AL rfl ZW) ?_
 show DP _ _ _ _ _ _ _ _ [_, _]
 refine Z5 ⟨[1, 4], [0, 2, 3], [0, 2, 3], [], []⟩ ?_
 refine A9 (F' := [(4, U64 0), (5, Ptr nb2 0)]) ZR ?_
 refine AK (CH (Z1 fun w1 hw1 => ?_))
 exact ⟨_, [], rfl, ⟨rfl, rfl⟩, hw1.no⟩
theorem readOk_c (ao : Option Addr) (n c e : Nat) (z : List UInt8) (k : Nat) (n2 c2 : Nat) (w : World) (hz : z.length = n) (hn : n ≤ 2000000000) (hc : n ≤ c) (hcm : c ≤ maxLen) (hr : RdB w [] ao z) (he : e = 0) (hs : Szd (k:Int)) (h2 : k ≤ n) (ht1 : k + n2 = n) (ht2 : k + c2 = c) : Calls Tryd.prog 118 #[.agg #[SL ao n c, I64 e], I64 k] w (Post w [] (fun v L => v = .tuple #[U64 (valK z k), .agg #[SL (advA ao c k) n2 c2, I64 (e)]] ∧ L = [])) := by
 refine enter (P := Tryd.prog) (f := 118) (fn := Tryd.f118) w [] 36 [] [.agg #[SL ao n c, I64 e], I64 k] Tryd.func118 rfl rfl ZM (A2 ZM ZM ZM) ?_
 show JC _ _ _ [_, _] _
 refine A4 (AO (AF (B2 (.agg #[SL ao n c, I64 e]) ([SL ao n c, I64 e]) rfl (by first | rfl | simp)) rfl ?_))
 rintro v1 L1 ⟨nb1, hnb1, rfl, rfl⟩
 show JL _ _ _ _ (_ :: _) [_]
 refine Z2 1 ?_
 refine AF (AS _ ([SL none 0 0, I64 0]) A3 ZR) rfl ?_
 rintro v1 L1 ⟨nb2, hnb2, rfl, rfl⟩
 show JL _ _ _ _ (_ :: _) [_, _]
 refine Z2 10 ?_
 refine AY _ rfl (decide_eq_false ZO) ?_
 refine Z2 8 ?_
 rcases Bool.eq_false_or_eq_true (decide (((k:Int)) ≠ (1:Int))) with hb1 | hb1
 ·
  have hp1 := of_decide_eq_true hb1
  refine Z2 4 ?_
  rcases Bool.eq_false_or_eq_true (decide (((k:Int)) ≠ (2:Int))) with hb2 | hb2
  ·
   have hp2 := of_decide_eq_true hb2
   refine Z2 4 ?_
   rcases Bool.eq_false_or_eq_true (decide (((k:Int)) ≠ (4:Int))) with hb3 | hb3
   ·
    have hp3 := of_decide_eq_true hb3
    refine Z2 5 ?_
    refine AX _ rfl (fun hb4 => ?_) (fun hb4 => ?_)
    ·
     have hp4 := of_decide_eq_true hb4
     refine Z2 7 ?_
     refine Z8 36 2 [(0, .agg #[SL ao n c, I64 2]), (1, U64 0)] ?_
     refine Z6 ⟨[], [0, 1], [], [0, 1], [2]⟩ 2 (AL rfl ZW) ?_
     show DP _ _ _ _ _ _ _ _ [_, _]
     refine Z5 ⟨[2], [0, 1], [0, 1], [], []⟩ ?_
     refine A9 (F' := [(4, U64 0), (1, I64 k), (2, Ptr nb1 0), (5, Ptr nb2 0)]) ZR ?_
     refine AK (CH (C2 (Z1 fun w1 hw1 => ?_)))
     exfalso; unfold Szd at hs; omega
    have hp4 := of_decide_eq_false hb4
    refine Z2 6 ?_
    have hl1 : (z.drop k).length = (n - k) := by rw [List.length_drop, hz] <;> omega
    have hr1 := RdB.adv (c := c) hr k (by rw [hz]; omega) (by rw [hz]; omega)
    have hl2 : (mid z 0 k).length = k := EK (by rw [hz]; omega)
    have hr2 := RdB.pre hr k
    refine AC (AJ 126 _ (.tuple #[SL ao k c, .agg #[SL (advA ao c k) (n - k) (c - k), I64 e]]) (AH _ CV rfl) (fun w1 hw1 => takeOk_c ao n c e z k (n - k) (c - k) w1 hz ZO ZO ZO (hr.at (M' := []) hw1 ZM) he h2 ZO ZO)) rfl ?_
    show JL _ _ _ _ (_ :: _) [_, _]
    refine Z2 8 ?_
    refine Z8 36 3 [(0, SL ao k c), (2, .agg #[SL (advA ao c k) (n - k) (c - k), I64 e])] ?_
    refine Z7 ⟨[], [0, 2], [], [0, 2], [1]⟩ 1 (AL rfl (AJ 110 _ (U64 (rvalK (mid z 0 k) k)) (AH _ Tryd.call110 rfl) (fun w1 hw1 => value_c ao k c (mid z 0 k) w1 hl2 ZO (hr2.at (M' := []) hw1 ZM)))) ?_
    rintro v1 L1 ⟨rfl, rfl⟩
    refine ⟨[(3, U64 (rvalK (mid z 0 k) k))], ?_⟩
    show DP _ _ _ _ _ _ _ _ [_, _]
    refine Z6 ⟨[1], [0, 2, 3], [0], [2, 3], [4]⟩ 4 (AL rfl ZW) ?_
    show DP _ _ _ _ _ _ _ _ [_, _]
    refine Z5 ⟨[1, 4], [0, 2, 3], [0, 2, 3], [], []⟩ ?_
    refine A9 (F' := [(4, U64 (rvalK (mid z 0 k) k)), (5, Ptr nb2 0)]) ZR ?_
    refine AK (CH (Z1 fun w1 hw1 => ?_))
    have e2 : rvalK (mid z 0 k) k = valK z k := (rvalK_eq _ _).trans (valK_congr k fun i hi => by rw [g8_mid hi, Nat.zero_add])
    rw [e2]
    obtain rfl : n2 = (n - k) := by omega
    obtain rfl : c2 = (c - k) := by omega
    exact ⟨_, [], rfl, ⟨rfl, rfl⟩, hw1.no⟩
   have hp3 := of_decide_eq_false hb3
   refine Z2 5 ?_
   refine AY _ rfl rfl ?_
   refine Z2 6 ?_
   have hl3 : (z.drop k).length = (n - k) := by rw [List.length_drop, hz] <;> omega
   have hr3 := RdB.adv (c := c) hr k (by rw [hz]; omega) (by rw [hz]; omega)
   have hl4 : (mid z 0 k).length = k := EK (by rw [hz]; omega)
   have hr4 := RdB.pre hr k
   refine AC (AJ 126 _ (.tuple #[SL ao k c, .agg #[SL (advA ao c k) (n - k) (c - k), I64 e]]) (AH _ CV rfl) (fun w1 hw1 => takeOk_c ao n c e z k (n - k) (c - k) w1 hz ZO ZO ZO (hr.at (M' := []) hw1 ZM) he h2 ZO ZO)) rfl ?_
   show JL _ _ _ _ (_ :: _) [_, _]
   refine Z2 8 ?_
   refine Z8 36 3 [(0, SL ao k c), (2, .agg #[SL (advA ao c k) (n - k) (c - k), I64 e])] ?_
   refine Z7 ⟨[], [0, 2], [], [0, 2], [1]⟩ 1 (AL rfl (AJ 110 _ (U64 (rvalK (mid z 0 k) k)) (AH _ Tryd.call110 rfl) (fun w1 hw1 => value_c ao k c (mid z 0 k) w1 hl4 ZO (hr4.at (M' := []) hw1 ZM)))) ?_
   rintro v1 L1 ⟨rfl, rfl⟩
   refine ⟨[(3, U64 (rvalK (mid z 0 k) k))], ?_⟩
   show DP _ _ _ _ _ _ _ _ [_, _]
   refine Z6 ⟨[1], [0, 2, 3], [0], [2, 3], [4]⟩ 4 (AL rfl ZW) ?_
   show DP _ _ _ _ _ _ _ _ [_, _]
   refine Z5 ⟨[1, 4], [0, 2, 3], [0, 2, 3], [], []⟩ ?_
   refine A9 (F' := [(4, U64 (rvalK (mid z 0 k) k)), (5, Ptr nb2 0)]) ZR ?_
   refine AK (CH (Z1 fun w1 hw1 => ?_))
   have e2 : rvalK (mid z 0 k) k = valK z k := (rvalK_eq _ _).trans (valK_congr k fun i hi => by rw [g8_mid hi, Nat.zero_add])
   rw [e2]
   obtain rfl : n2 = (n - k) := by omega
   obtain rfl : c2 = (c - k) := by omega
   exact ⟨_, [], rfl, ⟨rfl, rfl⟩, hw1.no⟩
  have hp2 := of_decide_eq_false hb2
  refine Z2 9 ?_
  refine AY _ rfl rfl ?_
  refine Z2 6 ?_
  have hl5 : (z.drop k).length = (n - k) := by rw [List.length_drop, hz] <;> omega
  have hr5 := RdB.adv (c := c) hr k (by rw [hz]; omega) (by rw [hz]; omega)
  have hl6 : (mid z 0 k).length = k := EK (by rw [hz]; omega)
  have hr6 := RdB.pre hr k
  refine AC (AJ 126 _ (.tuple #[SL ao k c, .agg #[SL (advA ao c k) (n - k) (c - k), I64 e]]) (AH _ CV rfl) (fun w1 hw1 => takeOk_c ao n c e z k (n - k) (c - k) w1 hz ZO ZO ZO (hr.at (M' := []) hw1 ZM) he h2 ZO ZO)) rfl ?_
  show JL _ _ _ _ (_ :: _) [_, _]
  refine Z2 8 ?_
  refine Z8 36 3 [(0, SL ao k c), (2, .agg #[SL (advA ao c k) (n - k) (c - k), I64 e])] ?_
  refine Z7 ⟨[], [0, 2], [], [0, 2], [1]⟩ 1 (AL rfl (AJ 110 _ (U64 (rvalK (mid z 0 k) k)) (AH _ Tryd.call110 rfl) (fun w1 hw1 => value_c ao k c (mid z 0 k) w1 hl6 ZO (hr6.at (M' := []) hw1 ZM)))) ?_
  rintro v1 L1 ⟨rfl, rfl⟩
  refine ⟨[(3, U64 (rvalK (mid z 0 k) k))], ?_⟩
  show DP _ _ _ _ _ _ _ _ [_, _]
  refine Z6 ⟨[1], [0, 2, 3], [0], [2, 3], [4]⟩ 4 (AL rfl ZW) ?_
  show DP _ _ _ _ _ _ _ _ [_, _]
  refine Z5 ⟨[1, 4], [0, 2, 3], [0, 2, 3], [], []⟩ ?_
  refine A9 (F' := [(4, U64 (rvalK (mid z 0 k) k)), (5, Ptr nb2 0)]) ZR ?_
  refine AK (CH (Z1 fun w1 hw1 => ?_))
  have e2 : rvalK (mid z 0 k) k = valK z k := (rvalK_eq _ _).trans (valK_congr k fun i hi => by rw [g8_mid hi, Nat.zero_add])
  rw [e2]
  obtain rfl : n2 = (n - k) := by omega
  obtain rfl : c2 = (c - k) := by omega
  exact ⟨_, [], rfl, ⟨rfl, rfl⟩, hw1.no⟩
 have hp1 := of_decide_eq_false hb1
 refine Z2 13 ?_
 refine AY _ rfl rfl ?_
 refine Z2 6 ?_
 have hl7 : (z.drop k).length = (n - k) := by rw [List.length_drop, hz] <;> omega
 have hr7 := RdB.adv (c := c) hr k (by rw [hz]; omega) (by rw [hz]; omega)
 have hl8 : (mid z 0 k).length = k := EK (by rw [hz]; omega)
 have hr8 := RdB.pre hr k
 refine AC (AJ 126 _ (.tuple #[SL ao k c, .agg #[SL (advA ao c k) (n - k) (c - k), I64 e]]) (AH _ CV rfl) (fun w1 hw1 => takeOk_c ao n c e z k (n - k) (c - k) w1 hz ZO ZO ZO (hr.at (M' := []) hw1 ZM) he h2 ZO ZO)) rfl ?_
 show JL _ _ _ _ (_ :: _) [_, _]
 refine Z2 8 ?_
 refine Z8 36 3 [(0, SL ao k c), (2, .agg #[SL (advA ao c k) (n - k) (c - k), I64 e])] ?_
 refine Z7 ⟨[], [0, 2], [], [0, 2], [1]⟩ 1 (AL rfl (AJ 110 _ (U64 (rvalK (mid z 0 k) k)) (AH _ Tryd.call110 rfl) (fun w1 hw1 => value_c ao k c (mid z 0 k) w1 hl8 ZO (hr8.at (M' := []) hw1 ZM)))) ?_
 rintro v1 L1 ⟨rfl, rfl⟩
 refine ⟨[(3, U64 (rvalK (mid z 0 k) k))], ?_⟩
 show DP _ _ _ _ _ _ _ _ [_, _]
 refine Z6 ⟨[1], [0, 2, 3], [0], [2, 3], [4]⟩ 4 (AL rfl ZW) ?_
 show DP _ _ _ _ _ _ _ _ [_, _]
 refine Z5 ⟨[1, 4], [0, 2, 3], [0, 2, 3], [], []⟩ ?_
 refine A9 (F' := [(4, U64 (rvalK (mid z 0 k) k)), (5, Ptr nb2 0)]) ZR ?_
 refine AK (CH (Z1 fun w1 hw1 => ?_))
 have e2 : rvalK (mid z 0 k) k = valK z k := (rvalK_eq _ _).trans (valK_congr k fun i hi => by rw [g8_mid hi, Nat.zero_add])
 rw [e2]
 obtain rfl : n2 = (n - k) := by omega
 obtain rfl : c2 = (c - k) := by omega
 exact ⟨_, [], rfl, ⟨rfl, rfl⟩, hw1.no⟩
theorem boolE_c (ao : Option Addr) (n c e : Nat)  (w : World) (he : e ≠ 0) : Calls Tryd.prog 123 #[.agg #[SL ao n c, I64 e]] w (Post w [] (fun v L => v = .tuple #[.bool false, .agg #[SL ao n c, I64 (e)]] ∧ L = [])) := by
 refine enter (P := Tryd.prog) (f := 123) (fn := Tryd.f123) w [] 30 [] [.agg #[SL ao n c, I64 e]] Tryd.func123 rfl rfl ZM (A2 ZM ZM ZM) ?_
 show JC _ _ _ [_] _
 refine A4 (AO (AF (B2 (.agg #[SL ao n c, I64 e]) ([SL ao n c, I64 e]) rfl (by first | rfl | simp)) rfl ?_))
 rintro v1 L1 ⟨nb1, hnb1, rfl, rfl⟩
 show JL _ _ _ _ (_ :: _) [_]
 refine Z2 1 ?_
 refine AF (AS _ ([SL none 0 0, I64 0]) A3 ZR) rfl ?_
 rintro v1 L1 ⟨nb2, hnb2, rfl, rfl⟩
 show JL _ _ _ _ (_ :: _) [_, _]
 refine Z2 10 ?_
 refine A7 _ rfl (decide_eq_true ZO) ?_
 refine A4 (Z8 30 2 [(0, .agg #[SL ao n c, I64 e]), (1, .bool false)] ?_)
 refine Z6 ⟨[], [0, 1], [], [0, 1], [2]⟩ 2 (AL rfl ZW) ?_
 show DP _ _ _ _ _ _ _ _ [_, _]
 refine Z5 ⟨[2], [0, 1], [0, 1], [], []⟩ ?_
 refine A9 (F' := [(2, .bool false), (1, Ptr nb1 0), (3, Ptr nb2 0)]) ZR ?_
 refine AK (CH (C2 (Z1 fun w1 hw1 => ?_)))
 exact ⟨_, [], rfl, ⟨rfl, rfl⟩, hw1.no⟩
theorem boolS_c (ao : Option Addr) (n c e : Nat)  (w : World) (he : e = 0) (hl : n = 0) : Calls Tryd.prog 123 #[.agg #[SL ao n c, I64 e]] w (Post w [] (fun v L => v = .tuple #[.bool false, .agg #[SL ao n c, I64 (2)]] ∧ L = [])) := by
 refine enter (P := Tryd.prog) (f := 123) (fn := Tryd.f123) w [] 30 [] [.agg #[SL ao n c, I64 e]] Tryd.func123 rfl rfl ZM (A2 ZM ZM ZM) ?_
 show JC _ _ _ [_] _
 refine A4 (AO (AF (B2 (.agg #[SL ao n c, I64 e]) ([SL ao n c, I64 e]) rfl (by first | rfl | simp)) rfl ?_))
 rintro v1 L1 ⟨nb1, hnb1, rfl, rfl⟩
 show JL _ _ _ _ (_ :: _) [_]
 refine Z2 1 ?_
 refine AF (AS _ ([SL none 0 0, I64 0]) A3 ZR) rfl ?_
 rintro v1 L1 ⟨nb2, hnb2, rfl, rfl⟩
 show JL _ _ _ _ (_ :: _) [_, _]
 refine Z2 10 ?_
 refine AY _ rfl (decide_eq_false ZO) ?_
 refine Z2 10 ?_
 refine D4 5 4 12 false _ rfl rfl (decide_eq_true ZO) rfl (AE _ (CC _ rfl (decide_eq_true ZO) rfl) rfl ?_)
 refine A1 (AK (A7 _ rfl rfl ?_))
 refine Z2 7 ?_
 refine Z8 30 2 [(0, .agg #[SL ao n c, I64 2]), (1, .bool false)] ?_
 refine Z6 ⟨[], [0, 1], [], [0, 1], [2]⟩ 2 (AL rfl ZW) ?_
 show DP _ _ _ _ _ _ _ _ [_, _]
 refine Z5 ⟨[2], [0, 1], [0, 1], [], []⟩ ?_
 refine A9 (F' := [(2, .bool false), (1, Ptr nb1 0), (3, Ptr nb2 0)]) ZR ?_
 refine AK (CH (C2 (Z1 fun w1 hw1 => ?_)))
 exact ⟨_, [], rfl, ⟨rfl, rfl⟩, hw1.no⟩
theorem boolB_c (ao : Option Addr) (n c e : Nat) (z : List UInt8)  (w : World) (hz : z.length = n) (hn : n ≤ 2000000000) (hc : n ≤ c) (hcm : c ≤ maxLen) (hr : RdB w [] ao z) (he : e = 0) (hl : 1 ≤ n) (hb : (1:UInt8) < g8 z 0) : Calls Tryd.prog 123 #[.agg #[SL ao n c, I64 e]] w (Post w [] (fun v L => v = .tuple #[.bool false, .agg #[SL ao n c, I64 (2)]] ∧ L = [])) := by
 refine enter (P := Tryd.prog) (f := 123) (fn := Tryd.f123) w [] 30 [] [.agg #[SL ao n c, I64 e]] Tryd.func123 rfl rfl ZM (A2 ZM ZM ZM) ?_
 show JC _ _ _ [_] _
 refine A4 (AO (AF (B2 (.agg #[SL ao n c, I64 e]) ([SL ao n c, I64 e]) rfl (by first | rfl | simp)) rfl ?_))
 rintro v1 L1 ⟨nb1, hnb1, rfl, rfl⟩
 show JL _ _ _ _ (_ :: _) [_]
 refine Z2 1 ?_
 refine AF (AS _ ([SL none 0 0, I64 0]) A3 ZR) rfl ?_
 rintro v1 L1 ⟨nb2, hnb2, rfl, rfl⟩
 show JL _ _ _ _ (_ :: _) [_, _]
 refine Z2 10 ?_
 refine AY _ rfl (decide_eq_false ZO) ?_
 refine Z2 10 ?_
 refine AD 4 12 false _ (Ptr nb1 0) rfl rfl (decide_eq_false ZO) ZE rfl ?_
 refine AD 4 12 false _ (SL ao n c) rfl rfl (decide_eq_false ZO) ZE rfl ?_
 obtain ⟨bz1, oz1, hz1, hm1⟩ := hr.pos (by rw [hz]; omega)
 refine AD 4 12 false _ (Ptr bz1 oz1) rfl rfl (decide_eq_false ZO) (BK 5 1 oz1 AM AW rfl hz1 rfl ZO ZO ZO) rfl ?_
 refine AD 4 12 false _ (U8 (g8 z 0)) rfl rfl (decide_eq_false ZO) (AR rfl (B1 CM (BP (MemAt.base hm1.1 hm1.2.1 hm1.2.2) (Seg.get (g8_get (i := 0) (by rw [hz]; omega))) (by first | omega | (simp; done) | (simp; omega))))) rfl ?_
 refine AD 4 12 false _ (.bool (decide ((1:UInt8) < (g8 z 0)))) rfl rfl (decide_eq_false ZO) (AT rfl rfl fun _ => bin_gtr_u8 (g8 z 0) (1:UInt8)) rfl ?_
 refine AE _ (BO _ rfl (decide_eq_false ZO) rfl) rfl ?_
 refine A1 (AK (A7 _ rfl (decide_eq_true hb) ?_))
 refine Z2 7 ?_
 refine Z8 30 2 [(0, .agg #[SL ao n c, I64 2]), (1, .bool false)] ?_
 refine Z6 ⟨[], [0, 1], [], [0, 1], [2]⟩ 2 (AL rfl ZW) ?_
 show DP _ _ _ _ _ _ _ _ [_, _]
 refine Z5 ⟨[2], [0, 1], [0, 1], [], []⟩ ?_
 refine A9 (F' := [(2, .bool false), (1, Ptr nb1 0), (3, Ptr nb2 0)]) ZR ?_
 refine AK (CH (C2 (Z1 fun w1 hw1 => ?_)))
 exact ⟨_, [], rfl, ⟨rfl, rfl⟩, hw1.no⟩
theorem boolOk_c (ao : Option Addr) (n c e : Nat) (z : List UInt8) (n2 c2 : Nat) (w : World) (hz : z.length = n) (hn : n ≤ 2000000000) (hc : n ≤ c) (hcm : c ≤ maxLen) (hr : RdB w [] ao z) (he : e = 0) (hl : 1 ≤ n) (hb : ¬ (1:UInt8) < g8 z 0) (ht1 : 1 + n2 = n) (ht2 : 1 + c2 = c) : Calls Tryd.prog 123 #[.agg #[SL ao n c, I64 e]] w (Post w [] (fun v L => v = .tuple #[.bool (decide (g8 z 0 = 1)), .agg #[SL (advA ao c 1) n2 c2, I64 (0)]] ∧ L = [])) := by
 refine enter (P := Tryd.prog) (f := 123) (fn := Tryd.f123) w [] 30 [] [.agg #[SL ao n c, I64 e]] Tryd.func123 rfl rfl ZM (A2 ZM ZM ZM) ?_
 show JC _ _ _ [_] _
 refine A4 (AO (AF (B2 (.agg #[SL ao n c, I64 e]) ([SL ao n c, I64 e]) rfl (by first | rfl | simp)) rfl ?_))
 rintro v1 L1 ⟨nb1, hnb1, rfl, rfl⟩
 show JL _ _ _ _ (_ :: _) [_]
 refine Z2 1 ?_
 refine AF (AS _ ([SL none 0 0, I64 0]) A3 ZR) rfl ?_
 rintro v1 L1 ⟨nb2, hnb2, rfl, rfl⟩
 show JL _ _ _ _ (_ :: _) [_, _]
 refine Z2 10 ?_
 refine AY _ rfl (decide_eq_false ZO) ?_
 refine Z2 10 ?_
 refine AD 4 12 false _ (Ptr nb1 0) rfl rfl (decide_eq_false ZO) ZE rfl ?_
 refine AD 4 12 false _ (SL ao n c) rfl rfl (decide_eq_false ZO) ZE rfl ?_
 obtain ⟨bz1, oz1, hz1, hm1⟩ := hr.pos (by rw [hz]; omega)
 refine AD 4 12 false _ (Ptr bz1 oz1) rfl rfl (decide_eq_false ZO) (BK 5 1 oz1 AM AW rfl hz1 rfl ZO ZO ZO) rfl ?_
 refine AD 4 12 false _ (U8 (g8 z 0)) rfl rfl (decide_eq_false ZO) (AR rfl (B1 CM (BP (MemAt.base hm1.1 hm1.2.1 hm1.2.2) (Seg.get (g8_get (i := 0) (by rw [hz]; omega))) (by first | omega | (simp; done) | (simp; omega))))) rfl ?_
 refine AD 4 12 false _ (.bool (decide ((1:UInt8) < (g8 z 0)))) rfl rfl (decide_eq_false ZO) (AT rfl rfl fun _ => bin_gtr_u8 (g8 z 0) (1:UInt8)) rfl ?_
 refine AE _ (BO _ rfl (decide_eq_false ZO) rfl) rfl ?_
 refine A1 (AK (AY _ rfl (decide_eq_false hb) ?_))
 refine Z2 3 ?_
 have hl1 : (z.drop 1).length = (n - 1) := by rw [List.length_drop, hz] <;> omega
 have hr1 := RdB.adv (c := c) hr 1 (by rw [hz]; omega) (by rw [hz]; omega)
 refine Z8 30 2 [(0, Ptr nb1 0), (1, SL ao n c), (2, Ptr bz1 oz1), (3, U8 (g8 z 0)), (4, .bool (decide ((g8 z 0) = (1:UInt8)))), (5, Ptr nb1 0), (6, SL ao n c), (7, SL (advA ao c 1) (n - 1) (c - 1)), (8, .agg #[SL (advA ao c 1) (n - 1) (c - 1), I64 0]), (9, .bool (decide ((g8 z 0) = (1:UInt8))))] ?_
 have hl2 : (z.drop 1).length = (n - 1) := by rw [List.length_drop, hz] <;> omega
 have hr2 := RdB.adv (c := c) hr 1 (by rw [hz]; omega) (by rw [hz]; omega)
 refine Z6 ⟨[], [0, 1, 2, 3, 4, 5, 6, 7, 8, 9], [], [0, 1, 2, 3, 4, 5, 6, 7, 8, 9], [10]⟩ 10 (hq := ⟨AA rfl rfl ZE, AA rfl rfl ZE, AA rfl rfl (BK 5 1 oz1 AM AW rfl hz1 rfl ZO ZO ZO), AA rfl rfl (AR rfl (B1 CM (BP (MemAt.base hm1.1 hm1.2.1 hm1.2.2) (Seg.get (g8_get (i := 0) (by rw [hz]; omega))) (by first | omega | (simp; done) | (simp; omega))))), AA rfl rfl (AT rfl rfl fun _ => bin_eql_u8 (g8 z 0) (1:UInt8)), AA rfl rfl ZE, AA rfl rfl ZE, AA rfl rfl (Ev_sliceLo 5 1 (n - 1) (c - 1) AM AW rfl rfl ZO ZO ZO ZO), AA rfl rfl (DN [(0, SL (advA ao c 1) (n - 1) (c - 1))] _ rfl (fun _ => by kernel_rfl)), AA rfl rfl ZE, trivial⟩) (AL rfl ZW) ?_
 show DP _ _ _ _ _ _ _ _ [_, _]
 refine Z5 ⟨[10], [0, 1, 2, 3, 4, 5, 6, 7, 8, 9], [0, 1, 2, 3, 4, 5, 6, 7, 8, 9], [], []⟩ ?_
 refine A9 (F' := [(2, .bool (decide ((g8 z 0) = (1:UInt8)))), (3, Ptr nb2 0)]) ZR ?_
 refine AK (CH (Z1 fun w1 hw1 => ?_))
 obtain rfl : n2 = (n - 1) := by omega
 obtain rfl : c2 = (c - 1) := by omega
 exact ⟨_, [], rfl, ⟨rfl, rfl⟩, hw1.no⟩
theorem rhashE_c (ao : Option Addr) (n c e : Nat)  (w : World) (he : e ≠ 0) : Calls Tryd.prog 153 #[.agg #[SL ao n c, I64 e]] w (Post w [] (fun v L => v = .tuple #[.agg (cu8 (zr8 32)).toArray, .agg #[SL ao n c, I64 (e)]] ∧ L = [])) := by
 refine enter (P := Tryd.prog) (f := 153) (fn := Tryd.f153) w [] 16 [] [.agg #[SL ao n c, I64 e]] Tryd.func153 rfl rfl ZM (A2 ZM ZM ZM) ?_
 show JC _ _ _ [_] _
 refine A4 (AO (AF (B2 (.agg #[SL ao n c, I64 e]) ([SL ao n c, I64 e]) rfl (by first | rfl | simp)) rfl ?_))
 rintro v1 L1 ⟨nb1, hnb1, rfl, rfl⟩
 show JL _ _ _ _ (_ :: _) [_]
 refine AF (AS _ (cu8 (zr8 32)) CK ZR) rfl ?_
 rintro v1 L1 ⟨nb2, hnb2, rfl, rfl⟩
 show JL _ _ _ _ (_ :: _) [_, _]
 refine AF (AS _ ([SL none 0 0, I64 0]) A3 ZR) rfl ?_
 rintro v1 L1 ⟨nb3, hnb3, rfl, rfl⟩
 show JL _ _ _ _ (_ :: _) [_, _, _]
 refine Z2 5 ?_
 refine AC (AJ 126 _ (.tuple #[SL none 0 0, .agg #[SL ao n c, I64 e]]) (AH _ CV rfl) (fun w1 hw1 => takeE_c ao n c e (32:Int) w1 he)) rfl ?_
 show JL _ _ _ _ (_ :: _) [_, _, _]
 refine Z2 9 ?_
 refine AF (AS _ (cu8 (zr8 32)) CK ZR) rfl ?_
 rintro v1 L1 ⟨nb4, hnb4, rfl, rfl⟩
 show JL _ _ _ _ (_ :: _) [_, _, _, _]
 refine Z2 4 ?_
 refine AE (Slc nb4 0 32 32) (B4 32 5 1 0 32 0 32 DK AW rfl rfl rfl ZO ZO ZO ZO ZO 32 ZO) rfl ?_
 refine Z2 1 ?_
 refine AC (CP 43 43 5 3 nb4 0 32 32 (cu8 (zr8 32)) 54 none 0 0 0 [] (cu8 (zr8 32)) AM BZ rfl rfl rfl rfl rfl SrcAt.nil ZM ES (ET _ _)) rfl ?_
 show JL _ _ _ _ (_ :: _) [_, _, _, _]
 refine A1 (AK (A4 (Z8 16 3 [(0, .agg (cu8 (zr8 32)).toArray), (1, .agg #[SL ao n c, I64 e])] ?_)))
 refine Z6 ⟨[], [0, 1], [], [0, 1], [2]⟩ 2 (hq := ⟨AA rfl rfl (AR rfl (BV DG BY (CI (AN 32)) (A0 3 rfl (AG _)))), AA rfl rfl ZE, trivial⟩) (AL rfl (AB 1 nb2 32 _ 54 (cu8 (zr8 32)) rfl rfl rfl BY (CI (AN 32)) (by first | exact A6 | exact EF | exact EB | (simp [cu8, cu32, cu64, Value.oneCell']; done)) ZS (AI ZS))) ?_
 show DP _ _ _ _ _ _ _ _ [_, _, _, _]
 refine Z6 ⟨[2], [0, 1], [0], [1], [3]⟩ 3 (AL rfl ZW) ?_
 show DP _ _ _ _ _ _ _ _ [_, _, _, _]
 refine Z5 ⟨[2, 3], [0, 1], [0, 1], [], []⟩ ?_
 refine A9 (F' := [(2, Ptr nb2 0), (3, Ptr nb3 0)]) ZR ?_
 refine AK (CH (DR (.tuple #[.agg (cu8 (zr8 32)).toArray, .agg #[SL ao n c, I64 e]]) (res2 Tryd.results153 (EV rfl (BV DG BY (CI (AN 32)) (A0 1 rfl (AG _)))) (EV rfl (BV Tryd.isAgg107 AP rfl (A0 2 rfl (AG _))))) fun w1 hw1 => ?_))
 exact ⟨_, [], rfl, ⟨rfl, rfl⟩, hw1.no⟩
theorem rhashB_c (ao : Option Addr) (n c e : Nat)  (w : World) (he : e = 0) (hl : n < 32) : Calls Tryd.prog 153 #[.agg #[SL ao n c, I64 e]] w (Post w [] (fun v L => v = .tuple #[.agg (cu8 (zr8 32)).toArray, .agg #[SL ao n c, I64 (2)]] ∧ L = [])) := by
 refine enter (P := Tryd.prog) (f := 153) (fn := Tryd.f153) w [] 16 [] [.agg #[SL ao n c, I64 e]] Tryd.func153 rfl rfl ZM (A2 ZM ZM ZM) ?_
 show JC _ _ _ [_] _
 refine A4 (AO (AF (B2 (.agg #[SL ao n c, I64 e]) ([SL ao n c, I64 e]) rfl (by first | rfl | simp)) rfl ?_))
 rintro v1 L1 ⟨nb1, hnb1, rfl, rfl⟩
 show JL _ _ _ _ (_ :: _) [_]
 refine AF (AS _ (cu8 (zr8 32)) CK ZR) rfl ?_
 rintro v1 L1 ⟨nb2, hnb2, rfl, rfl⟩
 show JL _ _ _ _ (_ :: _) [_, _]
 refine AF (AS _ ([SL none 0 0, I64 0]) A3 ZR) rfl ?_
 rintro v1 L1 ⟨nb3, hnb3, rfl, rfl⟩
 show JL _ _ _ _ (_ :: _) [_, _, _]
 refine Z2 5 ?_
 refine AC (AJ 126 _ (.tuple #[SL none 0 0, .agg #[SL ao n c, I64 2]]) (AH _ CV rfl) (fun w1 hw1 => takeB_c ao n c e (32:Int) w1 he (.inr ZO))) rfl ?_
 show JL _ _ _ _ (_ :: _) [_, _, _]
 refine Z2 9 ?_
 refine AF (AS _ (cu8 (zr8 32)) CK ZR) rfl ?_
 rintro v1 L1 ⟨nb4, hnb4, rfl, rfl⟩
 show JL _ _ _ _ (_ :: _) [_, _, _, _]
 refine Z2 4 ?_
 refine AE (Slc nb4 0 32 32) (B4 32 5 1 0 32 0 32 DK AW rfl rfl rfl ZO ZO ZO ZO ZO 32 ZO) rfl ?_
 refine Z2 1 ?_
 refine AC (CP 43 43 5 3 nb4 0 32 32 (cu8 (zr8 32)) 54 none 0 0 0 [] (cu8 (zr8 32)) AM BZ rfl rfl rfl rfl rfl SrcAt.nil ZM ES (ET _ _)) rfl ?_
 show JL _ _ _ _ (_ :: _) [_, _, _, _]
 refine A1 (AK (A4 (Z8 16 3 [(0, .agg (cu8 (zr8 32)).toArray), (1, .agg #[SL ao n c, I64 2])] ?_)))
 refine Z6 ⟨[], [0, 1], [], [0, 1], [2]⟩ 2 (hq := ⟨AA rfl rfl (AR rfl (BV DG BY (CI (AN 32)) (A0 3 rfl (AG _)))), AA rfl rfl ZE, trivial⟩) (AL rfl (AB 1 nb2 32 _ 54 (cu8 (zr8 32)) rfl rfl rfl BY (CI (AN 32)) (by first | exact A6 | exact EF | exact EB | (simp [cu8, cu32, cu64, Value.oneCell']; done)) ZS (AI ZS))) ?_
 show DP _ _ _ _ _ _ _ _ [_, _, _, _]
 refine Z6 ⟨[2], [0, 1], [0], [1], [3]⟩ 3 (AL rfl ZW) ?_
 show DP _ _ _ _ _ _ _ _ [_, _, _, _]
 refine Z5 ⟨[2, 3], [0, 1], [0, 1], [], []⟩ ?_
 refine A9 (F' := [(2, Ptr nb2 0), (3, Ptr nb3 0)]) ZR ?_
 refine AK (CH (DR (.tuple #[.agg (cu8 (zr8 32)).toArray, .agg #[SL ao n c, I64 2]]) (res2 Tryd.results153 (EV rfl (BV DG BY (CI (AN 32)) (A0 1 rfl (AG _)))) (EV rfl (BV Tryd.isAgg107 AP rfl (A0 2 rfl (AG _))))) fun w1 hw1 => ?_))
 exact ⟨_, [], rfl, ⟨rfl, rfl⟩, hw1.no⟩
theorem rhashOk_c (ao : Option Addr) (n c e : Nat) (z : List UInt8) (n2 c2 : Nat) (w : World) (hz : z.length = n) (hn : n ≤ 2000000000) (hc : n ≤ c) (hcm : c ≤ maxLen) (hr : RdB w [] ao z) (he : e = 0) (hl : 32 ≤ n) (ht1 : 32 + n2 = n) (ht2 : 32 + c2 = c) : Calls Tryd.prog 153 #[.agg #[SL ao n c, I64 e]] w (Post w [] (fun v L => v = .tuple #[.agg (cu8 (mid z 0 32)).toArray, .agg #[SL (advA ao c 32) n2 c2, I64 (e)]] ∧ L = [])) := by
 refine enter (P := Tryd.prog) (f := 153) (fn := Tryd.f153) w [] 16 [] [.agg #[SL ao n c, I64 e]] Tryd.func153 rfl rfl ZM (A2 ZM ZM ZM) ?_
 show JC _ _ _ [_] _
 refine A4 (AO (AF (B2 (.agg #[SL ao n c, I64 e]) ([SL ao n c, I64 e]) rfl (by first | rfl | simp)) rfl ?_))
 rintro v1 L1 ⟨nb1, hnb1, rfl, rfl⟩
 show JL _ _ _ _ (_ :: _) [_]
 refine AF (AS _ (cu8 (zr8 32)) CK ZR) rfl ?_
 rintro v1 L1 ⟨nb2, hnb2, rfl, rfl⟩
 show JL _ _ _ _ (_ :: _) [_, _]
 refine AF (AS _ ([SL none 0 0, I64 0]) A3 ZR) rfl ?_
 rintro v1 L1 ⟨nb3, hnb3, rfl, rfl⟩
 show JL _ _ _ _ (_ :: _) [_, _, _]
 refine Z2 5 ?_
 have hl1 : (z.drop 32).length = (n - 32) := by rw [List.length_drop, hz] <;> omega
 have hr1 := RdB.adv (c := c) hr 32 (by rw [hz]; omega) (by rw [hz]; omega)
 have hl2 : (mid z 0 32).length = 32 := EK (by rw [hz]; omega)
 have hr2 := RdB.pre hr 32
 refine AC (AJ 126 _ (.tuple #[SL ao 32 c, .agg #[SL (advA ao c 32) (n - 32) (c - 32), I64 e]]) (AH _ CV rfl) (fun w1 hw1 => takeOk_c ao n c e z 32 (n - 32) (c - 32) w1 hz ZO ZO ZO (hr.at (M' := []) hw1 ZM) he hl ZO ZO)) rfl ?_
 show JL _ _ _ _ (_ :: _) [_, _, _]
 refine Z2 9 ?_
 refine AF (AS _ (cu8 (zr8 32)) CK ZR) rfl ?_
 rintro v1 L1 ⟨nb4, hnb4, rfl, rfl⟩
 show JL _ _ _ _ (_ :: _) [_, _, _, _]
 refine Z2 4 ?_
 refine AE (Slc nb4 0 32 32) (B4 32 5 1 0 32 0 32 DK AW rfl rfl rfl ZO ZO ZO ZO ZO 32 ZO) rfl ?_
 refine Z2 1 ?_
 refine AC (CP 43 43 5 3 nb4 0 32 32 (cu8 (zr8 32)) 54 ao 32 c 32 (cu8 (mid z 0 32)) (cu8 (mid z 0 32)) AM BZ rfl rfl rfl rfl (by simp [hl2]; try omega) (hr2.src) (by simp [(AN 32)]; try omega) (by first | exact A6 | exact EF | exact EB | (simp [cu8, cu32, cu64, Value.oneCell']; done)) (AI (by simp [(AN 32), hl2]))) rfl ?_
 show JL _ _ _ _ (_ :: _) [_, _, _, _]
 refine A1 (AK (A4 (Z8 16 3 [(0, .agg (cu8 (mid z 0 32)).toArray), (1, .agg #[SL (advA ao c 32) (n - 32) (c - 32), I64 e])] ?_)))
 refine Z6 ⟨[], [0, 1], [], [0, 1], [2]⟩ 2 (hq := ⟨AA rfl rfl (AR rfl (BV DG BY (CI hl2) (A0 3 rfl (AG _)))), AA rfl rfl ZE, trivial⟩) (AL rfl (AB 1 nb2 32 _ 54 (cu8 (mid z 0 32)) rfl rfl rfl BY (CI hl2) (by first | exact A6 | exact EF | exact EB | (simp [cu8, cu32, cu64, Value.oneCell']; done)) ZS (AI (by simp [(AN 32), hl2])))) ?_
 show DP _ _ _ _ _ _ _ _ [_, _, _, _]
 refine Z6 ⟨[2], [0, 1], [0], [1], [3]⟩ 3 (AL rfl ZW) ?_
 show DP _ _ _ _ _ _ _ _ [_, _, _, _]
 refine Z5 ⟨[2, 3], [0, 1], [0, 1], [], []⟩ ?_
 refine A9 (F' := [(2, Ptr nb2 0), (3, Ptr nb3 0)]) ZR ?_
 refine AK (CH (DR (.tuple #[.agg (cu8 (mid z 0 32)).toArray, .agg #[SL (advA ao c 32) (n - 32) (c - 32), I64 e]]) (res2 Tryd.results153 (EV rfl (BV DG BY (CI hl2) (A0 1 rfl (AG _)))) (EV rfl (BV Tryd.isAgg107 AP rfl (A0 2 rfl (AG _))))) fun w1 hw1 => ?_))
 obtain rfl : n2 = (n - 32) := by omega
 obtain rfl : c2 = (c - 32) := by omega
 exact ⟨_, [], rfl, ⟨rfl, rfl⟩, hw1.no⟩
theorem rendE_c (ao : Option Addr) (n c e : Nat)  (w : World) (he : e ≠ 0) : Calls Tryd.prog 64 #[.agg #[SL ao n c, I64 e]] w (Post w [] (fun v L => v = I64 e ∧ L = [])) := by
 refine enter (P := Tryd.prog) (f := 64) (fn := Tryd.f64) w [] 12 [] [.agg #[SL ao n c, I64 e]] Tryd.func64 rfl rfl ZM (A2 ZM ZM ZM) ?_
 show JC _ _ _ [_] _
 refine A4 (AO (AF (B2 (.agg #[SL ao n c, I64 e]) ([SL ao n c, I64 e]) rfl (by first | rfl | simp)) rfl ?_))
 rintro v1 L1 ⟨nb1, hnb1, rfl, rfl⟩
 show JL _ _ _ _ (_ :: _) [_]
 refine Z2 11 ?_
 refine A7 _ rfl (decide_eq_true ZO) ?_
 refine Z2 9 ?_
 refine Z1 fun w1 hw1 => ?_
 exact ⟨_, [], rfl, ⟨rfl, rfl⟩, hw1.no⟩
theorem rendZ_c (ao : Option Addr) (n c e : Nat)  (w : World) (he : e = 0) (hn : n = 0) : Calls Tryd.prog 64 #[.agg #[SL ao n c, I64 e]] w (Post w [] (fun v L => v = I64 (0) ∧ L = [])) := by
 refine enter (P := Tryd.prog) (f := 64) (fn := Tryd.f64) w [] 12 [] [.agg #[SL ao n c, I64 e]] Tryd.func64 rfl rfl ZM (A2 ZM ZM ZM) ?_
 show JC _ _ _ [_] _
 refine A4 (AO (AF (B2 (.agg #[SL ao n c, I64 e]) ([SL ao n c, I64 e]) rfl (by first | rfl | simp)) rfl ?_))
 rintro v1 L1 ⟨nb1, hnb1, rfl, rfl⟩
 show JL _ _ _ _ (_ :: _) [_]
 refine Z2 11 ?_
 refine AY _ rfl (decide_eq_false ZO) ?_
 refine Z2 11 ?_
 refine AY _ rfl (decide_eq_false ZO) ?_
 refine Z2 8 ?_
 refine Z1 fun w1 hw1 => ?_
 exact ⟨_, [], rfl, ⟨rfl, rfl⟩, hw1.no⟩
theorem rendB_c (ao : Option Addr) (n c e : Nat)  (w : World) (he : e = 0) (hn : n ≠ 0) : Calls Tryd.prog 64 #[.agg #[SL ao n c, I64 e]] w (Post w [] (fun v L => v = I64 (2) ∧ L = [])) := by
 refine enter (P := Tryd.prog) (f := 64) (fn := Tryd.f64) w [] 12 [] [.agg #[SL ao n c, I64 e]] Tryd.func64 rfl rfl ZM (A2 ZM ZM ZM) ?_
 show JC _ _ _ [_] _
 refine A4 (AO (AF (B2 (.agg #[SL ao n c, I64 e]) ([SL ao n c, I64 e]) rfl (by first | rfl | simp)) rfl ?_))
 rintro v1 L1 ⟨nb1, hnb1, rfl, rfl⟩
 show JL _ _ _ _ (_ :: _) [_]
 refine Z2 11 ?_
 refine AY _ rfl (decide_eq_false ZO) ?_
 refine Z2 11 ?_
 refine A7 _ rfl (decide_eq_true ZO) ?_
 refine Z2 7 ?_
 refine Z1 fun w1 hw1 => ?_
 exact ⟨_, [], rfl, ⟨rfl, rfl⟩, hw1.no⟩
end Go.Proofs.YtkdpdgpphpngeaaDoor
namespace Go.Proofs.YtkdpdgpphpngeaaDoor
open Go Go.Sx
open Go.Value renaming slice → SL
attribute [local irreducible] mid zr8 numK valK rvalK
theorem rokE {e : Nat} {p : Prop} [Decidable p] (he : e ≠ 0) (hp : ¬ p) : (e : Int) = ((okE e (decide p) : Nat) : Int) := by rw [← okE_keep he hp]
theorem rokB {e : Nat} {p : Prop} [Decidable p] (he : e = 0) (hp : ¬ p) : (2 : Int) = ((okE e (decide p) : Nat) : Int) := by subst he; rw [decide_eq_false hp]; rfl
theorem rokO {e : Nat} {p : Prop} [Decidable p] (he : e = 0) (hp : p) : (e : Int) = ((okE e (decide p) : Nat) : Int) := by rw [← okE_ok he hp]
theorem rok0 {e : Nat} {p : Prop} [Decidable p] (he : e = 0) (hp : p) : (0 : Int) = ((okE e (decide p) : Nat) : Int) := by subst he; rw [decide_eq_true hp]; rfl
theorem tupEq {a b a' b' : Value} (h : a = a') (h' : b = b') : Value.tuple #[a, b] = .tuple #[a', b'] := by rw [h, h']
theorem agEq {a a' : Option Addr} {n n' c c' : Nat} {e e' : Int} (h : a = a') (h1 : n = n') (h2 : c = c') (h3 : e = e') : Value.agg #[.slice a n c, I64 e] = .agg #[.slice a' n' c', I64 e'] := by rw [h, h1, h2, h3]
theorem slEq {a a' : Option Addr} {n n' c c' : Nat} (h : a = a') (h1 : n = n') (h2 : c = c') : Value.slice a n c = .slice a' n' c' := by rw [h, h1, h2]
theorem rtake_w (ao : Option Addr) (n c e : Nat) (z : List UInt8) (s : Int) (w : World) (hz : z.length = n) (hn : n ≤ 2000000000) (hc : n ≤ c) (hcm : c ≤ maxLen) (hr : RdB w [] ao z) : Calls Tryd.prog 126 #[.agg #[SL ao n c, I64 ((e : Int))], I64 s] w (Post w [] (fun v L => L = [] ∧ ∃ ax cx ao' c', v = .tuple #[.slice ax (tkV z e s).length cx, .agg #[.slice ao' (tkZ z e s).length c', I64 (((okE e (decide (TkOk z e s)) : Nat) : Int))]] ∧ (∀ w M, RdB w M ao z → RdB w M ax (tkV z e s)) ∧ Adv ao z c ao' (tkZ z e s) c')) := by
 by_cases hok : TkOk z e s
 ·
  obtain ⟨he, h1, hl⟩ := id hok
  obtain ⟨k, rfl⟩ : ∃ k : Nat, s = k := ⟨s.toNat, by omega⟩
  have hk : k ≤ n := by omega
  refine (takeOk_c ao n c e z k (n - k) (c - k) w hz hn hc hcm hr he hk (by omega) (by omega)).mono ?_
  rintro E W ⟨v, L, rfl, ⟨rfl, rfl⟩, hw⟩
  refine ⟨_, _, rfl, ⟨rfl, ao, c, advA ao c k, c - k, tupEq (slEq rfl ?_ rfl) (agEq rfl ?_ rfl (rokO he hok)), fun w M h => ?_, ?_⟩, hw⟩
  ·
   rw [tkV, if_pos hok]; exact (EK (by omega)).symm
  ·
   rw [tkZ, if_pos hok]; simp [hz]
  ·
   rw [tkV, if_pos hok]; exact RdB.pre h k
  ·
   rw [tkZ, if_pos hok]; exact Adv.drop k (by omega) (by omega) hcm
 ·
  by_cases he : e = 0
  ·
   have hl : s < 0 ∨ (n:Int) < s := by
    rcases Int.lt_or_le s 0 with h | h
    ·
     exact .inl h
    ·
     rcases Int.lt_or_le (n:Int) s with h2 | h2
     ·
      exact .inr h2
     ·
      exact absurd ⟨he, h, by rw [hz]; exact h2⟩ hok
   refine (takeB_c ao n c e s w he hl).mono ?_
   rintro E W ⟨v, L, rfl, ⟨rfl, rfl⟩, hw⟩
   exact ⟨_, _, rfl, ⟨rfl, none, 0, ao, c, tupEq (slEq rfl (by rw [tkV, if_neg hok]; rfl) rfl) (agEq rfl (by rw [tkZ, if_neg hok]; exact hz.symm) rfl (rokB he hok)), (fun w M h => by rw [tkV, if_neg hok]; exact RdB.nil), by rw [tkZ, if_neg hok]; exact EE (by omega) hcm⟩, hw⟩
  ·
   refine (takeE_c ao n c e s w he).mono ?_
   rintro E W ⟨v, L, rfl, ⟨rfl, rfl⟩, hw⟩
   exact ⟨_, _, rfl, ⟨rfl, none, 0, ao, c, tupEq (slEq rfl (by rw [tkV, if_neg hok]; rfl) rfl) (agEq rfl (by rw [tkZ, if_neg hok]; exact hz.symm) rfl (rokE he hok)), (fun w M h => by rw [tkV, if_neg hok]; exact RdB.nil), by rw [tkZ, if_neg hok]; exact EE (by omega) hcm⟩, hw⟩
theorem rread_w (ao : Option Addr) (n c e : Nat) (z : List UInt8) (s : Int) (w : World) (hz : z.length = n) (hn : n ≤ 2000000000) (hc : n ≤ c) (hcm : c ≤ maxLen) (hr : RdB w [] ao z) : Calls Tryd.prog 118 #[.agg #[SL ao n c, I64 ((e : Int))], I64 s] w (Post w [] (fun v L => L = [] ∧ ∃ ao' c', v = .tuple #[U64 (nuV z e s), .agg #[.slice ao' (nuZ z e s).length c', I64 (((okE e (decide (NuOk z e s)) : Nat) : Int))]] ∧ Adv ao z c ao' (nuZ z e s) c')) := by
 by_cases hok : NuOk z e s
 ·
  obtain ⟨he, hs, hl⟩ := id hok
  obtain ⟨k, rfl⟩ : ∃ k : Nat, s = k := ⟨s.toNat, by unfold Szd at hs; omega⟩
  have hk : k ≤ n := by omega
  refine (readOk_c ao n c e z k (n - k) (c - k) w hz hn hc hcm hr he hs hk (by omega) (by omega)).mono ?_
  rintro E W ⟨v, L, rfl, ⟨rfl, rfl⟩, hw⟩
  refine ⟨_, _, rfl, ⟨rfl, advA ao c k, c - k, tupEq (by rw [nuV, if_pos hok]; rfl) (agEq rfl ?_ rfl (rokO he hok)), ?_⟩, hw⟩
  ·
   rw [nuZ, if_pos hok]; simp [hz]
  ·
   rw [nuZ, if_pos hok]; exact Adv.drop k (by omega) (by omega) hcm
 ·
  by_cases he : e = 0
  ·
   by_cases hs : Szd s
   ·
    have hl : (n:Int) < s := by
     rcases Int.lt_or_le (n:Int) s with h | h
     ·
      exact h
     ·
      exact absurd ⟨he, hs, by rw [hz]; exact h⟩ hok
    refine (readS_c ao n c e s w he hs hl).mono ?_
    rintro E W ⟨v, L, rfl, ⟨rfl, rfl⟩, hw⟩
    exact ⟨_, _, rfl, ⟨rfl, ao, c, tupEq (by rw [nuV, if_neg hok]) (agEq rfl (by rw [nuZ, if_neg hok]; exact hz.symm) rfl (rokB he hok)), by rw [nuZ, if_neg hok]; exact EE (by omega) hcm⟩, hw⟩
   ·
    refine (readF_c ao n c e s w he hs).mono ?_
    rintro E W ⟨v, L, rfl, ⟨rfl, rfl⟩, hw⟩
    exact ⟨_, _, rfl, ⟨rfl, ao, c, tupEq (by rw [nuV, if_neg hok]) (agEq rfl (by rw [nuZ, if_neg hok]; exact hz.symm) rfl (rokB he hok)), by rw [nuZ, if_neg hok]; exact EE (by omega) hcm⟩, hw⟩
  ·
   refine (readE_c ao n c e s w he).mono ?_
   rintro E W ⟨v, L, rfl, ⟨rfl, rfl⟩, hw⟩
   exact ⟨_, _, rfl, ⟨rfl, ao, c, tupEq (by rw [nuV, if_neg hok]) (agEq rfl (by rw [nuZ, if_neg hok]; exact hz.symm) rfl (rokE he hok)), by rw [nuZ, if_neg hok]; exact EE (by omega) hcm⟩, hw⟩
theorem rhash_w (ao : Option Addr) (n c e : Nat) (z : List UInt8) (w : World) (hz : z.length = n) (hn : n ≤ 2000000000) (hc : n ≤ c) (hcm : c ≤ maxLen) (hr : RdB w [] ao z) : Calls Tryd.prog 153 #[.agg #[SL ao n c, I64 ((e : Int))]] w (Post w [] (fun v L => L = [] ∧ ∃ ao' c', v = .tuple #[.agg (cu8 (hsV z e)).toArray, .agg #[.slice ao' (hsZ z e).length c', I64 (((okE e (decide (HsOk z e)) : Nat) : Int))]] ∧ Adv ao z c ao' (hsZ z e) c')) := by
 by_cases hok : HsOk z e
 ·
  obtain ⟨he, hl⟩ := id hok
  refine (rhashOk_c ao n c e z (n - 32) (c - 32) w hz hn hc hcm hr he (by omega) (by omega) (by omega)).mono ?_
  rintro E W ⟨v, L, rfl, ⟨rfl, rfl⟩, hw⟩
  refine ⟨_, _, rfl, ⟨rfl, advA ao c 32, c - 32, tupEq (by rw [hsV, if_pos hok]) (agEq rfl ?_ rfl (rokO he hok)), ?_⟩, hw⟩
  ·
   rw [hsZ, if_pos hok]; simp [hz]
  ·
   rw [hsZ, if_pos hok]; exact Adv.drop 32 hl (by omega) hcm
 ·
  by_cases he : e = 0
  ·
   have hl : n < 32 := by
    rcases Nat.lt_or_ge n 32 with h | h
    ·
     exact h
    ·
     exact absurd ⟨he, by omega⟩ hok
   refine (rhashB_c ao n c e w he hl).mono ?_
   rintro E W ⟨v, L, rfl, ⟨rfl, rfl⟩, hw⟩
   exact ⟨_, _, rfl, ⟨rfl, ao, c, tupEq (by rw [hsV, if_neg hok]) (agEq rfl (by rw [hsZ, if_neg hok]; exact hz.symm) rfl (rokB he hok)), by rw [hsZ, if_neg hok]; exact EE (by omega) hcm⟩, hw⟩
  ·
   refine (rhashE_c ao n c e w he).mono ?_
   rintro E W ⟨v, L, rfl, ⟨rfl, rfl⟩, hw⟩
   exact ⟨_, _, rfl, ⟨rfl, ao, c, tupEq (by rw [hsV, if_neg hok]) (agEq rfl (by rw [hsZ, if_neg hok]; exact hz.symm) rfl (rokE he hok)), by rw [hsZ, if_neg hok]; exact EE (by omega) hcm⟩, hw⟩
theorem rbool_w (ao : Option Addr) (n c e : Nat) (z : List UInt8) (w : World) (hz : z.length = n) (hn : n ≤ 2000000000) (hc : n ≤ c) (hcm : c ≤ maxLen) (hr : RdB w [] ao z) : Calls Tryd.prog 123 #[.agg #[SL ao n c, I64 ((e : Int))]] w (Post w [] (fun v L => L = [] ∧ ∃ ao' c', v = .tuple #[.bool (fgV z e), .agg #[.slice ao' (fgZ z e).length c', I64 (((okE e (decide (FgOk z e)) : Nat) : Int))]] ∧ Adv ao z c ao' (fgZ z e) c')) := by
 by_cases hok : FgOk z e
 ·
  obtain ⟨he, hl, hb⟩ := id hok
  refine (boolOk_c ao n c e z (n - 1) (c - 1) w hz hn hc hcm hr he (by omega) (UInt8.not_lt.2 hb) (by omega) (by omega)).mono ?_
  rintro E W ⟨v, L, rfl, ⟨rfl, rfl⟩, hw⟩
  refine ⟨_, _, rfl, ⟨rfl, advA ao c 1, c - 1, tupEq (congrArg Value.bool (decide_eq_decide.2 ⟨fun h => ⟨hok, h⟩, fun h => h.2⟩)) (agEq rfl ?_ rfl (rok0 he hok)), ?_⟩, hw⟩
  ·
   rw [fgZ, if_pos hok]; simp [hz]
  ·
   rw [fgZ, if_pos hok]; exact Adv.drop 1 hl (by omega) hcm
 ·
  by_cases he : e = 0
  ·
   by_cases hl : 1 ≤ n
   ·
    have hb : (1:UInt8) < g8 z 0 := by
     by_cases h : g8 z 0 ≤ 1
     ·
      exact absurd ⟨he, by omega, h⟩ hok
     ·
      exact UInt8.not_le.1 h
    refine (boolB_c ao n c e z w hz hn hc hcm hr he hl hb).mono ?_
    rintro E W ⟨v, L, rfl, ⟨rfl, rfl⟩, hw⟩
    exact ⟨_, _, rfl, ⟨rfl, ao, c, tupEq (by rw [fgV, decide_eq_false (fun h => hok h.1)]) (agEq rfl (by rw [fgZ, if_neg hok]; exact hz.symm) rfl (rokB he hok)), by rw [fgZ, if_neg hok]; exact EE (by omega) hcm⟩, hw⟩
   ·
    refine (boolS_c ao n c e w he (by omega)).mono ?_
    rintro E W ⟨v, L, rfl, ⟨rfl, rfl⟩, hw⟩
    exact ⟨_, _, rfl, ⟨rfl, ao, c, tupEq (by rw [fgV, decide_eq_false (fun h => hok h.1)]) (agEq rfl (by rw [fgZ, if_neg hok]; exact hz.symm) rfl (rokB he hok)), by rw [fgZ, if_neg hok]; exact EE (by omega) hcm⟩, hw⟩
  ·
   refine (boolE_c ao n c e w he).mono ?_
   rintro E W ⟨v, L, rfl, ⟨rfl, rfl⟩, hw⟩
   exact ⟨_, _, rfl, ⟨rfl, ao, c, tupEq (by rw [fgV, decide_eq_false (fun h => hok h.1)]) (agEq rfl (by rw [fgZ, if_neg hok]; exact hz.symm) rfl (rokE he hok)), by rw [fgZ, if_neg hok]; exact EE (by omega) hcm⟩, hw⟩
theorem rend_w (ao : Option Addr) (n c e : Nat) (w : World) : Calls Tryd.prog 64 #[.agg #[SL ao n c, I64 ((e : Int))]] w (Post w [] (fun v L => v = I64 ((endN e n : Nat) : Int) ∧ L = [])) := by
 by_cases he : e = 0
 ·
  by_cases hn : n = 0
  ·
   rw [endN, if_pos he, if_pos hn]; exact rendZ_c ao n c e w he hn
  ·
   rw [endN, if_pos he, if_neg hn]; exact rendB_c ao n c e w he hn
 ·
  rw [endN, if_neg he]; exact rendE_c ao n c e w he
attribute [local irreducible] constL initL putL RightB tktT mayN idxT selT eQ vQ tQ bQ sQ ixQ seQ
theorem EM (rb p s : Nat) (ao : Option Addr) (n c : Nat) (z0 z : List UInt8) (w : World) (h0 : w.heap[rb]? = some (.cells [errV 50 (eQ z0 p), SL ao n c].toArray 204 (0, 0))) (hz : z.length = n) (hn : n ≤ 2000000000) (hc : n ≤ c) (hcm : c ≤ maxLen) (hr : RdB w [rb] ao z) (hq : Lq z0 z p) (hs : Szd (s : Int)) : Calls Tryd.prog 109 #[Ptr rb 0, I64 (s : Int)] w (Post w [rb] (fun v L => v = U64 (vQ z0 p s) ∧ ∃ ao' z' c', Lq z0 z' (p + s) ∧ Adv ao z c ao' z' c' ∧ L = [(Ez rb [errV 50 (eQ z0 (p + s)), SL ao' z'.length c'] 204)])) := by
 refine (numR_w rb (eQ z0 p) ao n c z s w h0 hz hn hc hcm hr).mono ?_
 rintro E W ⟨v, L, rfl, ⟨hv, ao', c', hA, hL⟩, hw⟩
 exact ⟨v, L, rfl, ⟨by rw [hv, nuV_q hq hs], ao', _, c', nuZ_q hq hs, hA, by rw [hL, okE_q (NuOk_q hq hs)]⟩, hw⟩
theorem D6 (p s : Nat) (ao : Option Addr) (n c : Nat) (z0 z : List UInt8) (w : World) (hz : z.length = n) (hn : n ≤ 2000000000) (hc : n ≤ c) (hcm : c ≤ maxLen) (hr : RdB w [] ao z) (hq : Lq z0 z p) (hs : Szd (s : Int)) : Calls Tryd.prog 118 #[.agg #[(SL ao n c), I64 ((eQ z0 p : Nat))], I64 (s : Int)] w (Post w [] (fun v L => L = [] ∧ ∃ ao' z' c', Lq z0 z' (p + s) ∧ Adv ao z c ao' z' c' ∧ v = .tuple #[U64 (vQ z0 p s), .agg #[(SL ao' z'.length c'), I64 ((eQ z0 (p + s) : Nat))]])) := by
 refine (rread_w ao n c (eQ z0 p) z s w hz hn hc hcm hr).mono ?_
 rintro E W ⟨v, L, rfl, ⟨hL, ao', c', hv, hA⟩, hw⟩
 exact ⟨v, L, rfl, ⟨hL, ao', _, c', nuZ_q hq hs, hA, by rw [hv, nuV_q hq hs, okE_q (NuOk_q hq hs)]⟩, hw⟩
theorem rtakeQ_w (p s : Nat) (ao : Option Addr) (n c : Nat) (z0 z : List UInt8) (w : World) (hz : z.length = n) (hn : n ≤ 2000000000) (hc : n ≤ c) (hcm : c ≤ maxLen) (hr : RdB w [] ao z) (hq : Lq z0 z p) : Calls Tryd.prog 126 #[.agg #[(SL ao n c), I64 ((eQ z0 p : Nat))], I64 (s : Int)] w (Post w [] (fun v L => L = [] ∧ ∃ ax cx, (∀ w M, RdB w M ao z → RdB w M ax (tQ z0 p s)) ∧ ∃ ao' z' c', Lq z0 z' (p + s) ∧ Adv ao z c ao' z' c' ∧ v = .tuple #[.slice ax (tQ z0 p s).length cx, .agg #[(SL ao' z'.length c'), I64 ((eQ z0 (p + s) : Nat))]])) := by
 refine (rtake_w ao n c (eQ z0 p) z s w hz hn hc hcm hr).mono ?_
 rintro E W ⟨v, L, rfl, ⟨hL, ax, cx, ao', c', hv, hX, hA⟩, hw⟩
 exact ⟨v, L, rfl, ⟨hL, ax, cx, by rw [← tkV_q hq]; exact hX, ao', _, c', tkZ_q hq, hA, by rw [hv, tkV_q hq, okE_q (TkOk_q hq)]⟩, hw⟩
theorem rawA_w (rb p s : Nat) (ao : Option Addr) (n c : Nat) (z0 z : List UInt8) (w : World) (h0 : w.heap[rb]? = some (.cells [errV 50 (eQ z0 p), SL ao n c].toArray 204 (0, 0))) (hz : z.length = n) (hn : n ≤ 2000000000) (hc : n ≤ c) (hcm : c ≤ maxLen) (hr : RdB w [rb] ao z) (hq : Lq z0 z p) (hs0 : 0 < s) : Calls Tryd.prog 127 #[Ptr rb 0, I64 (s : Int)] w (Post w [rb] (fun v L => ∃ ao' z' c', Lq z0 z' (p + s) ∧ Adv ao z c ao' z' c' ∧ ((p + s ≤ z0.length ∧ ∃ g sp cap, v = Slc g 0 s cap ∧ L = [(Ez rb [errV 50 (eQ z0 (p + s)), SL ao' z'.length c'] 204), (Ez g (cu8 (bQ z0 p s) ++ sp) 5)] ∧ sp.length = cap - s ∧ s ≤ cap ∧ cap ≤ maxLen) ∨ (¬ p + s ≤ z0.length ∧ v = SL none 0 0 ∧ L = [(Ez rb [errV 50 (eQ z0 (p + s)), SL ao' z'.length c'] 204)])))) := by
 by_cases hg : p + s ≤ z0.length
 ·
  have hp : p ≤ z0.length := by omega
  have hl := hq.len hp
  refine (rawROk_c rb (eQ z0 p) ao n c z s (n - s) (c - s) w h0 hz hn hc hcm hr (E5 hp) hs0 (by omega) (by omega) (by omega)).mono ?_
  rintro E W ⟨v, L, rfl, ⟨g, sp, cap, rfl, rfl, h1, h2, h3⟩, hw⟩
  have e1 : mid z 0 s = bQ z0 p s := by rw [bQ, if_pos hg, hq hp]
  have e2 : (z.drop s).length = n - s := by rw [List.length_drop, hz]
  have e3 : eQ z0 p = eQ z0 (p + s) := by rw [E5 hp, E5 hg]
  refine ⟨_, _, rfl, ⟨advA ao c s, z.drop s, c - s, (fun _ => by rw [hq hp, List.drop_drop]), Adv.drop s (by omega) (by omega) hcm, .inl ⟨hg, g, sp, cap, rfl, ?_, h1, h2, h3⟩⟩, hw⟩
  rw [e1, e2, e3]
 ·
  have e3 : erN (eQ z0 p) 2 = eQ z0 (p + s) := by
   rw [DJ hg]; unfold eQ
   by_cases hp : p ≤ z0.length
   ·
    rw [if_pos hp]; rfl
   ·
    rw [if_neg hp]; rfl
  by_cases hp : p ≤ z0.length
  ·
   have hl := hq.len hp
   refine (rawRB0_c rb (eQ z0 p) ao n c s w h0 (E5 hp) (.inr (by omega))).mono ?_
   rintro E W ⟨v, L, rfl, ⟨rfl, rfl⟩, hw⟩
   exact ⟨_, _, rfl, ⟨ao, z, c, (fun h => absurd h hg), EE (by omega) hcm, .inr ⟨hg, rfl, by rw [e3, hz]⟩⟩, hw⟩
  ·
   refine (rawRB1_c rb (eQ z0 p) (SL ao n c) s w h0 (by rw [DJ hp]; decide) (by omega)).mono ?_
   rintro E W ⟨v, L, rfl, ⟨rfl, rfl⟩, hw⟩
   exact ⟨_, _, rfl, ⟨ao, z, c, (fun h => absurd h hg), EE (by omega) hcm, .inr ⟨hg, rfl, by rw [e3, hz]⟩⟩, hw⟩
theorem rtakeA_w (p s : Nat) (ao : Option Addr) (n c : Nat) (z0 z : List UInt8) (w : World) (hz : z.length = n) (hn : n ≤ 2000000000) (hc : n ≤ c) (hcm : c ≤ maxLen) (hr : RdB w [] ao z) (hq : Lq z0 z p) : Calls Tryd.prog 126 #[.agg #[(SL ao n c), I64 ((eQ z0 p : Nat))], I64 (s : Int)] w (Post w [] (fun v L => L = [] ∧ ∃ ao' z' c', Lq z0 z' (p + s) ∧ Adv ao z c ao' z' c' ∧ ((p + s ≤ z0.length ∧ ∃ ax cx, (∀ w M, RdB w M ao z → RdB w M ax (bQ z0 p s)) ∧ v = .tuple #[SL ax s cx, .agg #[(SL ao' z'.length c'), I64 ((eQ z0 (p + s) : Nat))]]) ∨ (¬ p + s ≤ z0.length ∧ ∃ ax cx, v = .tuple #[SL ax 0 cx, .agg #[(SL ao' z'.length c'), I64 ((eQ z0 (p + s) : Nat))]])))) := by
 refine (rtakeQ_w p s ao n c z0 z w hz hn hc hcm hr hq).mono ?_
 rintro E W ⟨v, L, rfl, ⟨hL, ax, cx, hX, ao', z', c', hq', hA, hv⟩, hw⟩
 refine ⟨v, L, rfl, ⟨hL, ao', z', c', hq', hA, ?_⟩, hw⟩
 by_cases hg : p + s ≤ z0.length
 ·
  have ht : tQ z0 p s = bQ z0 p s := by rw [tQ, bQ, if_pos hg, if_pos hg]
  rw [ht] at hX hv
  rw [BG] at hv
  exact .inl ⟨hg, ax, cx, hX, hv⟩
 ·
  have ht : tQ z0 p s = [] := by rw [tQ, if_neg hg]
  rw [ht] at hv
  exact .inr ⟨hg, ax, cx, hv⟩
theorem rtakeL_w (p s : Nat) (ao : Option Addr) (n c : Nat) (z0 z : List UInt8) (w : World) (hz : z.length = n) (hn : n ≤ 2000000000) (hc : n ≤ c) (hcm : c ≤ maxLen) (hr : RdB w [] ao z) (hq : Lq z0 z p) : Calls Tryd.prog 126 #[.agg #[(SL ao n c), I64 ((eQ z0 p : Nat))], I64 (s : Int)] w (Post w [] (fun v L => L = [] ∧ ∃ ao' z' c', Lq z0 z' (p + s) ∧ Adv ao z c ao' z' c' ∧ ((p + s ≤ z0.length ∧ ∃ ax cx, (∀ w M, RdB w M ao z → RdB w M ax (bQ z0 p s)) ∧ v = .tuple #[SL ax s cx, .agg #[(SL ao' z'.length c'), I64 (0)]]) ∨ (¬ p + s ≤ z0.length ∧ ∃ ax cx, v = .tuple #[SL ax 0 cx, .agg #[(SL ao' z'.length c'), I64 (2)]])))) := by
 refine (rtakeA_w p s ao n c z0 z w hz hn hc hcm hr hq).mono ?_
 rintro E W ⟨v, L, rfl, ⟨hL, ao', z', c', hq', hA, hv⟩, hw⟩
 refine ⟨v, L, rfl, ⟨hL, ao', z', c', hq', hA, ?_⟩, hw⟩
 rcases hv with ⟨hg, ax, cx, hX, hv⟩ | ⟨hg, ax, cx, hv⟩
 ·
  exact .inl ⟨hg, ax, cx, hX, by rw [hv, E5 hg]; rfl⟩
 ·
  exact .inr ⟨hg, ax, cx, by rw [hv, DJ hg]; rfl⟩
theorem rtakeB_w (s : Nat) (ao : Option Addr) (n c : Nat) (z : List UInt8) (w : World) (hz : z.length = n) (hn : n ≤ 2000000000) (hc : n ≤ c) (hcm : c ≤ maxLen) (hr : RdB w [] ao z) : Calls Tryd.prog 126 #[.agg #[(SL ao n c), I64 (2)], I64 (s : Int)] w (Post w [] (fun v L => L = [] ∧ ∃ ax cx ao' z' c', Adv ao z c ao' z' c' ∧ v = .tuple #[SL ax 0 cx, .agg #[(SL ao' z'.length c'), I64 (2)]])) := by
 refine (rtake_w ao n c 2 z s w hz hn hc hcm hr).mono ?_
 rintro E W ⟨v, L, rfl, ⟨hL, ax, cx, ao', c', hv, hX, hA⟩, hw⟩
 have hk : ¬ TkOk z 2 (s:Int) := fun h => absurd h.1 (by decide)
 refine ⟨v, L, rfl, ⟨hL, ax, cx, ao', _, c', hA, ?_⟩, hw⟩
 rw [hv, show tkV z 2 (s:Int) = [] from if_neg hk, show okE 2 (decide (TkOk z 2 (s:Int))) = 2 by rw [decide_eq_false hk]; rfl]; rfl
attribute [local irreducible] JL JC JQ DP Ev Ld MemAt Seg Step Cl RV Qok Cok
theorem bld161_0 {w : World} {v0 : Value} (h0 : v0.cells = [v0].toArray) : (Instr.build 161 ([(0, v0)] : List (Nat × Value)).toArray).run Tryd.prog w = .ok (.agg ((([v0] : List Value) ++ (cu8 (zr8 32) : List Value)) ++ (cu8 (zr8 16) : List Value)).toArray) w :=
 C8 (places := #[(0, 1), (1, 32), (33, 16)]) (Z := (([U64 0] : List Value) ++ ((cu8 (zr8 32) : List Value) ++ ((cu8 (zr8 16) : List Value) ++ [])))) (fun _ => by kernel_rfl) Tryd.underlying161 (fun _ => by kernel_rfl) ((EI ([U64 0] : List Value) ((cu8 (zr8 32) : List Value) ++ ((cu8 (zr8 16) : List Value) ++ [])) ([v0] : List Value) h0 (by simp [AN]) rfl).trans ((D0 ([v0] : List Value) (cu8 (zr8 32) : List Value) ((cu8 (zr8 16) : List Value) ++ [])).trans ((D0 (([v0] : List Value) ++ (cu8 (zr8 32) : List Value)) (cu8 (zr8 16) : List Value) []).trans (by simp [Instr.fill]))))
theorem sreadQ_c (rb p : Nat) (ao : Option Addr) (n c : Nat) (z0 z : List UInt8)  (w : World) (h0 : w.heap[rb]? = some (.cells [errV 50 (eQ z0 p), SL ao n c].toArray 204 (0, 0))) (hz : z.length = n) (hn : n ≤ 2000000000) (hc : n ≤ c) (hcm : c ≤ maxLen) (hr : RdB w [rb] ao z) (hq : Lq z0 z p)  : Calls Tryd.prog 120 #[Ptr rb 0] w (Post w [rb] (fun v L => v = .agg ([U64 (vQ z0 p 8)] ++ cu8 (bQ z0 (p + 8) 32) ++ cu8 (bQ z0 (p + 40) 16)).toArray ∧ ∃ ao' z' c', Lq z0 z' (p + 56) ∧ Adv ao z c ao' z' c' ∧ L = [(Ez rb [errV 50 (eQ z0 (p + 56)), SL ao' z'.length c'] 204)])) := by
 have hmx : maxLen = 9223372036854775807 := rfl
 refine enter w [rb] 18 [(Ez rb [errV 50 (eQ z0 p), SL ao n c] 204)] [Ptr rb 0] Tryd.func120 rfl rfl ZM (A2 (by simpa using h0) ZM ZM) ?_
 show JC _ _ _ [_] _
 refine A4 (AO (AF (AS _ ([U64 0] ++ cu8 (zr8 32) ++ cu8 (zr8 16)) Tryd.zeroValue161 ZR) rfl ?_))
 rintro v1 L1 ⟨nb1, hnb1, rfl, rfl⟩
 show JL _ _ _ _ (_ :: _) [_, _]
 refine Z2 5 ?_
 have hz1 : (z).length = n := hz
 refine AF (BE 109 _ [true, false] [rb] _ (AH _ CA rfl) rfl (fun w1 hw1 => EM rb p 8 ao n c z0 z w1 (hw1.en 0 rfl) hz ZO ZO ZO ((fun _ _ h => h) _ _ (hr.at (M' := [rb]) hw1 (hw1.apart [0] _ rfl))) hq ZU)) rfl ?_
 rintro v1 L1 ⟨_, ⟨rfl, ao1, zz1, ca1, hq1, ⟨hA1, hb1, hb2, hb3⟩, rfl⟩, rfl⟩
 show JL _ _ _ _ (_ :: _) [_, _]
 refine AE (.agg ([U64 (vQ z0 p 8)] ++ cu8 (zr8 32) ++ cu8 (zr8 16)).toArray) (DN [(0, U64 (vQ z0 p 8))] _ rfl (fun _ => bld161_0 rfl)) rfl ?_
 refine AF (AS _ ([U64 0] ++ cu8 (zr8 32) ++ cu8 (zr8 16)) Tryd.zeroValue161 ZR) rfl ?_
 rintro v1 L1 ⟨nb2, hnb2, rfl, rfl⟩
 show JL _ _ _ _ (_ :: _) [_, _, _]
 refine AC (AB 2 nb2 49 _ 161 ([U64 (vQ z0 p 8)] ++ cu8 (zr8 32) ++ cu8 (zr8 16)) rfl rfl rfl BC ZS (AQ (AQ ZC A6) A6) ZS (AI ZS)) rfl ?_
 show JL _ _ _ _ _ [_, _, _]
 refine A1 (AK (A4 (Z8 18 3 [(0, Ptr nb2 1), (1, Slc nb2 1 32 32), (2, Ptr rb 0)] ?_)))
 refine Z7 ⟨[], [0, 1, 2], [], [0, 1, 2], [3]⟩ 3 (hq := ⟨AA rfl rfl ZE, AA rfl rfl (B4 32 5 1 0 32 1 32 CJ AW rfl rfl rfl ZO ZO ZO ZO ZO 32 ZO), BM rfl rfl rfl, trivial⟩) (AL rfl (BE 127 _ [false, true, false] [rb] _ (AH _ Tryd.call127 rfl) rfl (fun w1 hw1 => rawA_w rb (p + 8) 32 ao1 zz1.length ca1 z0 zz1 w1 (hw1.en 1 rfl) rfl ZO ZO ZO (hA1 _ _ (hr.at (M' := [rb]) hw1 (hw1.apart [1] _ rfl))) hq1 ZO))) ?_
 rintro v1 L1 ⟨_, ⟨ao2, zz2, ca2, hq2, ⟨hA2, hb4, hb5, hb6⟩, (⟨hg1, nb3, sp1, cp1, rfl, rfl, hc1, hc2, hc3⟩ | ⟨hg1, rfl, rfl⟩)⟩, rfl⟩
 ·
  refine ⟨[], ?_⟩
  show DP _ _ _ _ _ _ _ _ [_, _, _, _]
  refine Z6 ⟨[3], [0, 1, 2], [2], [0, 1], [4]⟩ 4 (hq := ⟨AA rfl rfl ZE, AA rfl rfl (B4 32 5 1 0 32 1 32 CJ AW rfl rfl rfl ZO ZO ZO ZO ZO 32 ZO), trivial⟩) (AL rfl (CP 43 43 5 1 nb2 1 32 32 ([U64 (vQ z0 p 8)] ++ cu8 (zr8 32) ++ cu8 (zr8 16)) 161 (some ⟨nb3, 0, none⟩) 32 cp1 32 (cu8 (bQ z0 (p + 8) 32)) ([U64 (vQ z0 p 8)] ++ cu8 (bQ z0 (p + 8) 32) ++ cu8 (zr8 16)) AM BZ rfl rfl rfl rfl (by simp [(show (bQ z0 (p + 8) 32).length = 32 from (BG _ _ _))]; try omega) (SrcAt.mem (A0 3 rfl (AU (AG _)))) (by simp [(AN 32), (AN 16)]; try omega) (by first | exact A6 | exact EF | exact EB | (simp [cu8, cu32, cu64, Value.oneCell']; done)) (lay_left (p := [U64 (vQ z0 p 8)] ++ cu8 (zr8 32)) (vs := cu8 (bQ z0 (p + 8) 32)) (o := 1) (by simp [(AN 32), (show (bQ z0 (p + 8) 32).length = 32 from (BG _ _ _))]) (DB 1 0 rfl rfl (AI (by simp [(AN 32), (show (bQ z0 (p + 8) 32).length = 32 from (BG _ _ _))])))))) ?_
  show DP _ _ _ _ _ _ _ _ [_, _, _, _]
  refine Z5 ⟨[3, 4], [0, 1, 2], [0, 1, 2], [], []⟩ ?_
  refine A9 (F' := [(0, Ptr rb 0), (2, Ptr nb1 0), (3, Ptr nb2 0)]) ZR ?_
  refine AK (A4 (Z8 18 3 [(0, Ptr nb2 33), (1, Slc nb2 33 16 16), (2, Ptr rb 0)] ?_))
  refine Z7 ⟨[], [0, 1, 2], [], [0, 1, 2], [3]⟩ 3 (hq := ⟨AA rfl rfl ZE, AA rfl rfl (B4 16 5 1 0 16 33 16 AZ AW rfl rfl rfl ZO ZO ZO ZO ZO 16 ZO), BM rfl rfl rfl, trivial⟩) (AL rfl (BE 127 _ [false, false, true, false] [rb] _ (AH _ Tryd.call127 rfl) rfl (fun w1 hw1 => rawA_w rb (p + 40) 16 ao2 zz2.length ca2 z0 zz2 w1 (hw1.en 2 rfl) rfl ZO ZO ZO ((fun w M h => hA2 w M (hA1 w M h)) _ _ (hr.at (M' := [rb]) hw1 (hw1.apart [2] _ rfl))) hq2 ZO))) ?_
  rintro v1 L1 ⟨_, ⟨ao3, zz3, ca3, hq3, ⟨hA3, hb7, hb8, hb9⟩, (⟨hg2, nb4, sp2, cp2, rfl, rfl, hc4, hc5, hc6⟩ | ⟨hg2, rfl, rfl⟩)⟩, rfl⟩
  ·
   refine ⟨[], ?_⟩
   show DP _ _ _ _ _ _ _ _ [_, _, _, _, _]
   refine Z6 ⟨[3], [0, 1, 2], [2], [0, 1], [4]⟩ 4 (hq := ⟨AA rfl rfl ZE, AA rfl rfl (B4 16 5 1 0 16 33 16 AZ AW rfl rfl rfl ZO ZO ZO ZO ZO 16 ZO), trivial⟩) (AL rfl (CP 43 43 5 1 nb2 33 16 16 ([U64 (vQ z0 p 8)] ++ cu8 (bQ z0 (p + 8) 32) ++ cu8 (zr8 16)) 161 (some ⟨nb4, 0, none⟩) 16 cp2 16 (cu8 (bQ z0 (p + 40) 16)) ([U64 (vQ z0 p 8)] ++ cu8 (bQ z0 (p + 8) 32) ++ cu8 (bQ z0 (p + 40) 16)) AM BZ rfl rfl rfl rfl (by simp [(show (bQ z0 (p + 40) 16).length = 16 from (BG _ _ _))]; try omega) (SrcAt.mem (A0 4 rfl (AU (AG _)))) (by simp [(show (bQ z0 (p + 8) 32).length = 32 from (BG _ _ _)), (AN 16)]; try omega) (by first | exact A6 | exact EF | exact EB | (simp [cu8, cu32, cu64, Value.oneCell']; done)) (DB 33 0 (by simp [(show (bQ z0 (p + 8) 32).length = 32 from (BG _ _ _))]) rfl (AI (by simp [(AN 16), (show (bQ z0 (p + 40) 16).length = 16 from (BG _ _ _))]))))) ?_
   show DP _ _ _ _ _ _ _ _ [_, _, _, _, _]
   refine Z5 ⟨[3, 4], [0, 1, 2], [0, 1, 2], [], []⟩ ?_
   refine A9 (F' := [(2, Ptr nb1 0), (3, Ptr nb2 0)]) ZR ?_
   refine AK (A4 (AO (AE _ (AR rfl (BV CT BC (by simp [(show (bQ z0 (p + 8) 32).length = 32 from (BG _ _ _)), (show (bQ z0 (p + 40) 16).length = 16 from (BG _ _ _))]) (A0 1 rfl (AG _)))) rfl ?_)))
   refine AC (AB 0 nb1 49 _ 161 ([U64 (vQ z0 p 8)] ++ cu8 (bQ z0 (p + 8) 32) ++ cu8 (bQ z0 (p + 40) 16)) rfl rfl rfl BC (by simp [(show (bQ z0 (p + 8) 32).length = 32 from (BG _ _ _)), (show (bQ z0 (p + 40) 16).length = 16 from (BG _ _ _))]) (AQ (AQ ZC A6) A6) ZS (AI (by simp [(AN 32), (AN 16), (show (bQ z0 (p + 8) 32).length = 32 from (BG _ _ _)), (show (bQ z0 (p + 40) 16).length = 16 from (BG _ _ _))]))) rfl ?_
   show JL _ _ _ _ _ [_, _, _, _, _]
   refine A1 (AK (CH (A8 [true, false, false, true, false] ?_)))
   show JQ _ _ _ _ [_, _]
   refine DR (.agg ([U64 (vQ z0 p 8)] ++ cu8 (bQ z0 (p + 8) 32) ++ cu8 (bQ z0 (p + 40) 16)).toArray) (res1 Tryd.results120 (EV rfl (BV CT BC (by simp [(show (bQ z0 (p + 8) 32).length = 32 from (BG _ _ _)), (show (bQ z0 (p + 40) 16).length = 16 from (BG _ _ _))]) (A0 0 rfl (AG _))))) fun w1 hw1 => ?_
   first | (exfalso; omega) | exact ⟨_, _, rfl, ⟨rfl, ao3, zz3, ca3, hq3, ⟨(fun w M h => hA3 w M (hA2 w M (hA1 w M h))), ZO, ZO, ZO⟩, rfl⟩, hw1.sub ZM ZM⟩
  refine ⟨[], ?_⟩
  show DP _ _ _ _ _ _ _ _ [_, _, _, _]
  refine Z6 ⟨[3], [0, 1, 2], [2], [0, 1], [4]⟩ 4 (hq := ⟨AA rfl rfl ZE, AA rfl rfl (B4 16 5 1 0 16 33 16 AZ AW rfl rfl rfl ZO ZO ZO ZO ZO 16 ZO), trivial⟩) (AL rfl (CP 43 43 5 1 nb2 33 16 16 ([U64 (vQ z0 p 8)] ++ cu8 (bQ z0 (p + 8) 32) ++ cu8 (zr8 16)) 161 none 0 0 0 [] ([U64 (vQ z0 p 8)] ++ cu8 (bQ z0 (p + 8) 32) ++ cu8 (zr8 16)) AM BZ rfl rfl rfl rfl rfl SrcAt.nil (by simp [(show (bQ z0 (p + 8) 32).length = 32 from (BG _ _ _)), (AN 16)]) ES (ET _ _))) ?_
  show DP _ _ _ _ _ _ _ _ [_, _, _, _]
  refine Z5 ⟨[3, 4], [0, 1, 2], [0, 1, 2], [], []⟩ ?_
  refine A9 (F' := [(2, Ptr nb1 0), (3, Ptr nb2 0)]) ZR ?_
  refine AK (A4 (AO (AE _ (AR rfl (BV CT BC (by simp [(show (bQ z0 (p + 8) 32).length = 32 from (BG _ _ _)), (AN 16)]) (A0 1 rfl (AG _)))) rfl ?_)))
  refine AC (AB 0 nb1 49 _ 161 ([U64 (vQ z0 p 8)] ++ cu8 (bQ z0 (p + 8) 32) ++ cu8 (zr8 16)) rfl rfl rfl BC (by simp [(show (bQ z0 (p + 8) 32).length = 32 from (BG _ _ _)), (AN 16)]) (AQ (AQ ZC A6) A6) ZS (AI (by simp [(AN 32), (AN 16), (show (bQ z0 (p + 8) 32).length = 32 from (BG _ _ _)), (AN 16)]))) rfl ?_
  show JL _ _ _ _ _ [_, _, _, _]
  refine A1 (AK (CH (A8 [true, false, false, true] ?_)))
  show JQ _ _ _ _ [_, _]
  refine DR (.agg ([U64 (vQ z0 p 8)] ++ cu8 (bQ z0 (p + 8) 32) ++ cu8 (zr8 16)).toArray) (res1 Tryd.results120 (EV rfl (BV CT BC (by simp [(show (bQ z0 (p + 8) 32).length = 32 from (BG _ _ _)), (AN 16)]) (A0 0 rfl (AG _))))) fun w1 hw1 => ?_
  first | (exfalso; omega) | exact ⟨_, _, rfl, ⟨by rw [show bQ z0 (p + 40) 16 = zr8 16 from bQ_neg ZO], ao3, zz3, ca3, hq3, ⟨(fun w M h => hA3 w M (hA2 w M (hA1 w M h))), ZO, ZO, ZO⟩, rfl⟩, hw1.sub ZM ZM⟩
 refine ⟨[], ?_⟩
 show DP _ _ _ _ _ _ _ _ [_, _, _]
 refine Z6 ⟨[3], [0, 1, 2], [2], [0, 1], [4]⟩ 4 (hq := ⟨AA rfl rfl ZE, AA rfl rfl (B4 32 5 1 0 32 1 32 CJ AW rfl rfl rfl ZO ZO ZO ZO ZO 32 ZO), trivial⟩) (AL rfl (CP 43 43 5 1 nb2 1 32 32 ([U64 (vQ z0 p 8)] ++ cu8 (zr8 32) ++ cu8 (zr8 16)) 161 none 0 0 0 [] ([U64 (vQ z0 p 8)] ++ cu8 (zr8 32) ++ cu8 (zr8 16)) AM BZ rfl rfl rfl rfl rfl SrcAt.nil ZS ES (ET _ _))) ?_
 show DP _ _ _ _ _ _ _ _ [_, _, _]
 refine Z5 ⟨[3, 4], [0, 1, 2], [0, 1, 2], [], []⟩ ?_
 refine A9 (F' := [(0, Ptr rb 0), (2, Ptr nb1 0), (3, Ptr nb2 0)]) ZR ?_
 refine AK (A4 (Z8 18 3 [(0, Ptr nb2 33), (1, Slc nb2 33 16 16), (2, Ptr rb 0)] ?_))
 refine Z7 ⟨[], [0, 1, 2], [], [0, 1, 2], [3]⟩ 3 (hq := ⟨AA rfl rfl ZE, AA rfl rfl (B4 16 5 1 0 16 33 16 AZ AW rfl rfl rfl ZO ZO ZO ZO ZO 16 ZO), BM rfl rfl rfl, trivial⟩) (AL rfl (BE 127 _ [false, false, true] [rb] _ (AH _ Tryd.call127 rfl) rfl (fun w1 hw1 => rawA_w rb (p + 40) 16 ao2 zz2.length ca2 z0 zz2 w1 (hw1.en 2 rfl) rfl ZO ZO ZO ((fun w M h => hA2 w M (hA1 w M h)) _ _ (hr.at (M' := [rb]) hw1 (hw1.apart [2] _ rfl))) hq2 ZO))) ?_
 rintro v1 L1 ⟨_, ⟨ao4, zz4, ca4, hq4, ⟨hA4, hb10, hb11, hb12⟩, (⟨hg3, nb5, sp3, cp3, rfl, rfl, hc7, hc8, hc9⟩ | ⟨hg3, rfl, rfl⟩)⟩, rfl⟩
 ·
  refine ⟨[], ?_⟩
  show DP _ _ _ _ _ _ _ _ [_, _, _, _]
  refine Z6 ⟨[3], [0, 1, 2], [2], [0, 1], [4]⟩ 4 (hq := ⟨AA rfl rfl ZE, AA rfl rfl (B4 16 5 1 0 16 33 16 AZ AW rfl rfl rfl ZO ZO ZO ZO ZO 16 ZO), trivial⟩) (AL rfl (CP 43 43 5 1 nb2 33 16 16 ([U64 (vQ z0 p 8)] ++ cu8 (zr8 32) ++ cu8 (zr8 16)) 161 (some ⟨nb5, 0, none⟩) 16 cp3 16 (cu8 (bQ z0 (p + 40) 16)) ([U64 (vQ z0 p 8)] ++ cu8 (zr8 32) ++ cu8 (bQ z0 (p + 40) 16)) AM BZ rfl rfl rfl rfl (by simp [(show (bQ z0 (p + 40) 16).length = 16 from (BG _ _ _))]; try omega) (SrcAt.mem (A0 3 rfl (AU (AG _)))) (by simp [(AN 32), (AN 16)]; try omega) (by first | exact A6 | exact EF | exact EB | (simp [cu8, cu32, cu64, Value.oneCell']; done)) (DB 33 0 ZS rfl (AI (by simp [(AN 16), (show (bQ z0 (p + 40) 16).length = 16 from (BG _ _ _))]))))) ?_
  show DP _ _ _ _ _ _ _ _ [_, _, _, _]
  refine Z5 ⟨[3, 4], [0, 1, 2], [0, 1, 2], [], []⟩ ?_
  refine A9 (F' := [(2, Ptr nb1 0), (3, Ptr nb2 0)]) ZR ?_
  refine AK (A4 (AO (AE _ (AR rfl (BV CT BC (by simp [(AN 32), (show (bQ z0 (p + 40) 16).length = 16 from (BG _ _ _))]) (A0 1 rfl (AG _)))) rfl ?_)))
  refine AC (AB 0 nb1 49 _ 161 ([U64 (vQ z0 p 8)] ++ cu8 (zr8 32) ++ cu8 (bQ z0 (p + 40) 16)) rfl rfl rfl BC (by simp [(AN 32), (show (bQ z0 (p + 40) 16).length = 16 from (BG _ _ _))]) (AQ (AQ ZC A6) A6) ZS (AI (by simp [(AN 32), (AN 16), (AN 32), (show (bQ z0 (p + 40) 16).length = 16 from (BG _ _ _))]))) rfl ?_
  show JL _ _ _ _ _ [_, _, _, _]
  refine A1 (AK (CH (A8 [true, false, true, false] ?_)))
  show JQ _ _ _ _ [_, _]
  refine DR (.agg ([U64 (vQ z0 p 8)] ++ cu8 (zr8 32) ++ cu8 (bQ z0 (p + 40) 16)).toArray) (res1 Tryd.results120 (EV rfl (BV CT BC (by simp [(AN 32), (show (bQ z0 (p + 40) 16).length = 16 from (BG _ _ _))]) (A0 0 rfl (AG _))))) fun w1 hw1 => ?_
  first | (exfalso; omega) | exact ⟨_, _, rfl, ⟨by rw [show bQ z0 (p + 8) 32 = zr8 32 from bQ_neg ZO], ao4, zz4, ca4, hq4, ⟨(fun w M h => hA4 w M (hA2 w M (hA1 w M h))), ZO, ZO, ZO⟩, rfl⟩, hw1.sub ZM ZM⟩
 refine ⟨[], ?_⟩
 show DP _ _ _ _ _ _ _ _ [_, _, _]
 refine Z6 ⟨[3], [0, 1, 2], [2], [0, 1], [4]⟩ 4 (hq := ⟨AA rfl rfl ZE, AA rfl rfl (B4 16 5 1 0 16 33 16 AZ AW rfl rfl rfl ZO ZO ZO ZO ZO 16 ZO), trivial⟩) (AL rfl (CP 43 43 5 1 nb2 33 16 16 ([U64 (vQ z0 p 8)] ++ cu8 (zr8 32) ++ cu8 (zr8 16)) 161 none 0 0 0 [] ([U64 (vQ z0 p 8)] ++ cu8 (zr8 32) ++ cu8 (zr8 16)) AM BZ rfl rfl rfl rfl rfl SrcAt.nil ZS ES (ET _ _))) ?_
 show DP _ _ _ _ _ _ _ _ [_, _, _]
 refine Z5 ⟨[3, 4], [0, 1, 2], [0, 1, 2], [], []⟩ ?_
 refine A9 (F' := [(2, Ptr nb1 0), (3, Ptr nb2 0)]) ZR ?_
 refine Z2 4 ?_
 refine AC (AB 0 nb1 49 _ 161 ([U64 (vQ z0 p 8)] ++ cu8 (zr8 32) ++ cu8 (zr8 16)) rfl rfl rfl BC ZS (AQ (AQ ZC A6) A6) ZS (AI ZS)) rfl ?_
 show JL _ _ _ _ _ [_, _, _]
 refine A1 (AK (CH (A8 [true, false, true] ?_)))
 show JQ _ _ _ _ [_, _]
 refine Z1 fun w1 hw1 => ?_
 first | (exfalso; omega) | exact ⟨_, _, rfl, ⟨by rw [show bQ z0 (p + 8) 32 = zr8 32 from bQ_neg ZO, show bQ z0 (p + 40) 16 = zr8 16 from bQ_neg ZO], ao4, zz4, ca4, hq4, ⟨(fun w M h => hA4 w M (hA2 w M (hA1 w M h))), ZO, ZO, ZO⟩, rfl⟩, hw1.sub ZM ZM⟩
theorem rsreadQ_c (p : Nat) (ao : Option Addr) (n c : Nat) (z0 z : List UInt8)  (w : World) (hz : z.length = n) (hn : n ≤ 2000000000) (hc : n ≤ c) (hcm : c ≤ maxLen) (hr : RdB w [] ao z) (hq : Lq z0 z p)  : Calls Tryd.prog 124 #[.agg #[SL ao n c, I64 ((eQ z0 p:Int))]] w (Post w [] (fun v L => L = [] ∧ ∃ ao' z' c', Lq z0 z' (p + 56) ∧ Adv ao z c ao' z' c' ∧ v = .tuple #[.agg ([U64 (vQ z0 p 8)] ++ cu8 (bQ z0 (p + 8) 32) ++ cu8 (bQ z0 (p + 40) 16)).toArray, .agg #[(SL ao' z'.length c'), I64 ((eQ z0 (p + 56) : Nat))]])) := by
 have hmx : maxLen = 9223372036854775807 := rfl
 refine enter (P := Tryd.prog) (f := 124) (fn := Tryd.f124) w [] 35 [] [.agg #[SL ao n c, I64 ((eQ z0 p:Int))]] Tryd.func124 rfl rfl ZM (A2 ZM ZM ZM) ?_
 show JC _ _ _ [_] _
 refine A4 (AO (AF (B2 (.agg #[SL ao n c, I64 ((eQ z0 p:Int))]) ([SL ao n c, I64 ((eQ z0 p:Int))]) rfl (by first | rfl | simp)) rfl ?_))
 rintro v1 L1 ⟨nb1, hnb1, rfl, rfl⟩
 show JL _ _ _ _ (_ :: _) [_]
 refine AF (AS _ ([U64 0] ++ cu8 (zr8 32) ++ cu8 (zr8 16)) DO ZR) rfl ?_
 rintro v1 L1 ⟨nb2, hnb2, rfl, rfl⟩
 show JL _ _ _ _ (_ :: _) [_, _]
 refine AF (AS _ ([SL none 0 0, I64 0]) A3 ZR) rfl ?_
 rintro v1 L1 ⟨nb3, hnb3, rfl, rfl⟩
 show JL _ _ _ _ (_ :: _) [_, _, _]
 refine Z2 4 ?_
 refine AF (AS _ ([U64 0] ++ cu8 (zr8 32) ++ cu8 (zr8 16)) DO ZR) rfl ?_
 rintro v1 L1 ⟨nb4, hnb4, rfl, rfl⟩
 show JL _ _ _ _ (_ :: _) [_, _, _, _]
 refine Z2 5 ?_
 have hz1 : (z).length = n := hz
 refine AF (A5 118 _ _ (AH _ CR rfl) (fun w1 hw1 => D6 p 8 ao n c z0 z w1 hz ZO ZO ZO (hr.at (M' := []) hw1 ZM) hq ZU)) rfl ?_
 rintro v1 L1 ⟨_, ⟨rfl, ao1, zz1, ca1, hq1, ⟨hA1, hb1, hb2, hb3⟩, rfl⟩, rfl⟩
 show JL _ _ _ _ (_ :: _) [_, _, _, _]
 refine Z2 10 ?_
 have hz2 : (zz1).length = zz1.length := rfl
 refine AF (A5 126 _ _ (AH _ CV rfl) (fun w1 hw1 => rtakeA_w (p + 8) 32 ao1 zz1.length ca1 z0 zz1 w1 rfl ZO ZO ZO ((hA1 _ _ hr).at (M' := []) hw1 ZM) hq1)) rfl ?_
 rintro v1 L1 ⟨_, ⟨rfl, ao2, zz2, ca2, hq2, ⟨hA2, hb4, hb5, hb6⟩, (⟨hg1, ax1, cx1, hX1, rfl⟩ | ⟨hg1, ax1, cx1, rfl⟩)⟩, rfl⟩
 ·
  show JL _ _ _ _ (_ :: _) [_, _, _, _]
  refine Z2 10 ?_
  have hz3 : (zz2).length = zz2.length := rfl
  refine AF (A5 126 _ _ (AH _ CV rfl) (fun w1 hw1 => rtakeA_w (p + 40) 16 ao2 zz2.length ca2 z0 zz2 w1 rfl ZO ZO ZO ((hA2 _ _ (hA1 _ _ hr)).at (M' := []) hw1 ZM) hq2)) rfl ?_
  rintro v1 L1 ⟨_, ⟨rfl, ao3, zz3, ca3, hq3, ⟨hA3, hb7, hb8, hb9⟩, (⟨hg2, ax2, cx2, hX2, rfl⟩ | ⟨hg2, ax2, cx2, rfl⟩)⟩, rfl⟩
  ·
   show JL _ _ _ _ (_ :: _) [_, _, _, _]
   refine Z2 17 ?_
   refine AE (Slc nb4 1 32 32) (B4 32 5 1 0 32 1 32 CJ AW rfl rfl rfl ZO ZO ZO ZO ZO 32 ZO) rfl ?_
   refine Z2 1 ?_
   refine AC (CP 43 43 5 3 nb4 1 32 32 ([U64 (vQ z0 p 8)] ++ cu8 (zr8 32) ++ cu8 (zr8 16)) 164 ax1 32 cx1 32 (cu8 (bQ z0 (p + 8) 32)) ([U64 (vQ z0 p 8)] ++ cu8 (bQ z0 (p + 8) 32) ++ cu8 (zr8 16)) AM BZ rfl rfl rfl rfl (by simp [(BG _ _ _)]; try omega) ((hX1 _ _ (hA1 _ _ hr)).src) (by simp [(AN 32), (AN 16)]; try omega) (by first | exact A6 | exact EF | exact EB | (simp [cu8, cu32, cu64, Value.oneCell']; done)) (lay_left (p := [U64 (vQ z0 p 8)] ++ cu8 (zr8 32)) (vs := cu8 (bQ z0 (p + 8) 32)) (o := 1) ZS (DB 1 0 rfl rfl (AI ZS)))) rfl ?_
   show JL _ _ _ _ (_ :: _) [_, _, _, _]
   refine Z2 5 ?_
   refine AE (Slc nb4 33 16 16) (B4 16 5 1 0 16 33 16 AZ AW rfl rfl rfl ZO ZO ZO ZO ZO 16 ZO) rfl ?_
   refine Z2 1 ?_
   refine AC (CP 43 43 5 3 nb4 33 16 16 ([U64 (vQ z0 p 8)] ++ cu8 (bQ z0 (p + 8) 32) ++ cu8 (zr8 16)) 164 ax2 16 cx2 16 (cu8 (bQ z0 (p + 40) 16)) ([U64 (vQ z0 p 8)] ++ cu8 (bQ z0 (p + 8) 32) ++ cu8 (bQ z0 (p + 40) 16)) AM BZ rfl rfl rfl rfl (by simp [(BG _ _ _)]; try omega) ((hX2 _ _ (hA2 _ _ (hA1 _ _ hr))).src) (by simp [(BG _ _ _), (AN 16)]; try omega) (by first | exact A6 | exact EF | exact EB | (simp [cu8, cu32, cu64, Value.oneCell']; done)) (DB 33 0 ZS rfl (AI ZS))) rfl ?_
   show JL _ _ _ _ (_ :: _) [_, _, _, _]
   refine A1 (AK (A4 (Z8 35 3 [(0, .agg ([U64 (vQ z0 p 8)] ++ cu8 (bQ z0 (p + 8) 32) ++ cu8 (bQ z0 (p + 40) 16)).toArray), (1, .agg #[SL ao3 zz3.length ca3, I64 ((eQ z0 (p + 56):Int))])] ?_)))
   refine Z6 ⟨[], [0, 1], [], [0, 1], [2]⟩ 2 (AL rfl (AB 1 nb2 49 _ 164 ([U64 (vQ z0 p 8)] ++ cu8 (bQ z0 (p + 8) 32) ++ cu8 (bQ z0 (p + 40) 16)) rfl rfl rfl BW ZS (AQ (AQ ZC A6) A6) ZS (AI ZS))) ?_
   show DP _ _ _ _ _ _ _ _ [_, _, _, _]
   refine Z6 ⟨[2], [0, 1], [0], [1], [3]⟩ 3 (AL rfl ZW) ?_
   show DP _ _ _ _ _ _ _ _ [_, _, _, _]
   refine Z5 ⟨[2, 3], [0, 1], [0, 1], [], []⟩ ?_
   refine A9 (F' := [(2, Ptr nb2 0), (3, Ptr nb3 0)]) ZR ?_
   refine AK (CH (A8 [false, true, true, false] ?_))
   show JQ _ _ _ _ [_, _]
   refine Z1 fun w1 hw1 => ?_
   first | (exfalso; omega) | exact ⟨_, _, rfl, ⟨rfl, ao3, zz3, ca3, hq3, ⟨(by intro w M h; first | exact (hA3 _ _ (hA2 _ _ (hA1 _ _ h)))), ZO, ZO, ZO⟩, rfl⟩, hw1.sub ZM ZM⟩
  show JL _ _ _ _ (_ :: _) [_, _, _, _]
  refine Z2 17 ?_
  refine AE (Slc nb4 1 32 32) (B4 32 5 1 0 32 1 32 CJ AW rfl rfl rfl ZO ZO ZO ZO ZO 32 ZO) rfl ?_
  refine Z2 1 ?_
  refine AC (CP 43 43 5 3 nb4 1 32 32 ([U64 (vQ z0 p 8)] ++ cu8 (zr8 32) ++ cu8 (zr8 16)) 164 ax1 32 cx1 32 (cu8 (bQ z0 (p + 8) 32)) ([U64 (vQ z0 p 8)] ++ cu8 (bQ z0 (p + 8) 32) ++ cu8 (zr8 16)) AM BZ rfl rfl rfl rfl (by simp [(BG _ _ _)]; try omega) ((hX1 _ _ (hA1 _ _ hr)).src) (by simp [(AN 32), (AN 16)]; try omega) (by first | exact A6 | exact EF | exact EB | (simp [cu8, cu32, cu64, Value.oneCell']; done)) (lay_left (p := [U64 (vQ z0 p 8)] ++ cu8 (zr8 32)) (vs := cu8 (bQ z0 (p + 8) 32)) (o := 1) ZS (DB 1 0 rfl rfl (AI ZS)))) rfl ?_
  show JL _ _ _ _ (_ :: _) [_, _, _, _]
  refine Z2 5 ?_
  refine AE (Slc nb4 33 16 16) (B4 16 5 1 0 16 33 16 AZ AW rfl rfl rfl ZO ZO ZO ZO ZO 16 ZO) rfl ?_
  refine Z2 1 ?_
  refine AC (CP 43 43 5 3 nb4 33 16 16 ([U64 (vQ z0 p 8)] ++ cu8 (bQ z0 (p + 8) 32) ++ cu8 (zr8 16)) 164 ax2 0 cx2 0 [] ([U64 (vQ z0 p 8)] ++ cu8 (bQ z0 (p + 8) 32) ++ cu8 (zr8 16)) AM BZ rfl rfl rfl rfl rfl SrcAt.nil ZS ES (ET _ _)) rfl ?_
  show JL _ _ _ _ (_ :: _) [_, _, _, _]
  refine A1 (AK (A4 (Z8 35 3 [(0, .agg ([U64 (vQ z0 p 8)] ++ cu8 (bQ z0 (p + 8) 32) ++ cu8 (zr8 16)).toArray), (1, .agg #[SL ao3 zz3.length ca3, I64 ((eQ z0 (p + 56):Int))])] ?_)))
  refine Z6 ⟨[], [0, 1], [], [0, 1], [2]⟩ 2 (AL rfl (AB 1 nb2 49 _ 164 ([U64 (vQ z0 p 8)] ++ cu8 (bQ z0 (p + 8) 32) ++ cu8 (zr8 16)) rfl rfl rfl BW ZS (AQ (AQ ZC A6) A6) ZS (AI ZS))) ?_
  show DP _ _ _ _ _ _ _ _ [_, _, _, _]
  refine Z6 ⟨[2], [0, 1], [0], [1], [3]⟩ 3 (AL rfl ZW) ?_
  show DP _ _ _ _ _ _ _ _ [_, _, _, _]
  refine Z5 ⟨[2, 3], [0, 1], [0, 1], [], []⟩ ?_
  refine A9 (F' := [(2, Ptr nb2 0), (3, Ptr nb3 0)]) ZR ?_
  refine AK (CH (A8 [false, true, true, false] ?_))
  show JQ _ _ _ _ [_, _]
  refine Z1 fun w1 hw1 => ?_
  first | (exfalso; omega) | exact ⟨_, _, rfl, ⟨rfl, ao3, zz3, ca3, hq3, ⟨(by intro w M h; first | exact (hA3 _ _ (hA2 _ _ (hA1 _ _ h)))), ZO, ZO, ZO⟩, by rw [show bQ z0 (p + 40) 16 = zr8 16 from bQ_neg ZO]⟩, hw1.sub ZM ZM⟩
 show JL _ _ _ _ (_ :: _) [_, _, _, _]
 refine Z2 10 ?_
 have hz4 : (zz2).length = zz2.length := rfl
 refine AF (A5 126 _ _ (AH _ CV rfl) (fun w1 hw1 => rtakeA_w (p + 40) 16 ao2 zz2.length ca2 z0 zz2 w1 rfl ZO ZO ZO ((hA2 _ _ (hA1 _ _ hr)).at (M' := []) hw1 ZM) hq2)) rfl ?_
 rintro v1 L1 ⟨_, ⟨rfl, ao4, zz4, ca4, hq4, ⟨hA4, hb10, hb11, hb12⟩, (⟨hg3, ax3, cx3, hX3, rfl⟩ | ⟨hg3, ax3, cx3, rfl⟩)⟩, rfl⟩
 ·
  show JL _ _ _ _ (_ :: _) [_, _, _, _]
  refine Z2 17 ?_
  refine AE (Slc nb4 1 32 32) (B4 32 5 1 0 32 1 32 CJ AW rfl rfl rfl ZO ZO ZO ZO ZO 32 ZO) rfl ?_
  refine Z2 1 ?_
  refine AC (CP 43 43 5 3 nb4 1 32 32 ([U64 (vQ z0 p 8)] ++ cu8 (zr8 32) ++ cu8 (zr8 16)) 164 ax1 0 cx1 0 [] ([U64 (vQ z0 p 8)] ++ cu8 (zr8 32) ++ cu8 (zr8 16)) AM BZ rfl rfl rfl rfl rfl SrcAt.nil ZS ES (ET _ _)) rfl ?_
  show JL _ _ _ _ (_ :: _) [_, _, _, _]
  refine Z2 5 ?_
  refine AE (Slc nb4 33 16 16) (B4 16 5 1 0 16 33 16 AZ AW rfl rfl rfl ZO ZO ZO ZO ZO 16 ZO) rfl ?_
  refine Z2 1 ?_
  refine AC (CP 43 43 5 3 nb4 33 16 16 ([U64 (vQ z0 p 8)] ++ cu8 (zr8 32) ++ cu8 (zr8 16)) 164 ax3 16 cx3 16 (cu8 (bQ z0 (p + 40) 16)) ([U64 (vQ z0 p 8)] ++ cu8 (zr8 32) ++ cu8 (bQ z0 (p + 40) 16)) AM BZ rfl rfl rfl rfl (by simp [(BG _ _ _)]; try omega) ((hX3 _ _ (hA2 _ _ (hA1 _ _ hr))).src) (by simp [(AN 32), (AN 16)]; try omega) (by first | exact A6 | exact EF | exact EB | (simp [cu8, cu32, cu64, Value.oneCell']; done)) (DB 33 0 ZS rfl (AI ZS))) rfl ?_
  show JL _ _ _ _ (_ :: _) [_, _, _, _]
  refine A1 (AK (A4 (Z8 35 3 [(0, .agg ([U64 (vQ z0 p 8)] ++ cu8 (zr8 32) ++ cu8 (bQ z0 (p + 40) 16)).toArray), (1, .agg #[SL ao4 zz4.length ca4, I64 ((eQ z0 (p + 56):Int))])] ?_)))
  refine Z6 ⟨[], [0, 1], [], [0, 1], [2]⟩ 2 (AL rfl (AB 1 nb2 49 _ 164 ([U64 (vQ z0 p 8)] ++ cu8 (zr8 32) ++ cu8 (bQ z0 (p + 40) 16)) rfl rfl rfl BW ZS (AQ (AQ ZC A6) A6) ZS (AI ZS))) ?_
  show DP _ _ _ _ _ _ _ _ [_, _, _, _]
  refine Z6 ⟨[2], [0, 1], [0], [1], [3]⟩ 3 (AL rfl ZW) ?_
  show DP _ _ _ _ _ _ _ _ [_, _, _, _]
  refine Z5 ⟨[2, 3], [0, 1], [0, 1], [], []⟩ ?_
  refine A9 (F' := [(2, Ptr nb2 0), (3, Ptr nb3 0)]) ZR ?_
  refine AK (CH (A8 [false, true, true, false] ?_))
  show JQ _ _ _ _ [_, _]
  refine Z1 fun w1 hw1 => ?_
  first | (exfalso; omega) | exact ⟨_, _, rfl, ⟨rfl, ao4, zz4, ca4, hq4, ⟨(by intro w M h; first | exact (hA4 _ _ (hA2 _ _ (hA1 _ _ h)))), ZO, ZO, ZO⟩, by rw [show bQ z0 (p + 8) 32 = zr8 32 from bQ_neg ZO]⟩, hw1.sub ZM ZM⟩
 show JL _ _ _ _ (_ :: _) [_, _, _, _]
 refine Z2 17 ?_
 refine AE (Slc nb4 1 32 32) (B4 32 5 1 0 32 1 32 CJ AW rfl rfl rfl ZO ZO ZO ZO ZO 32 ZO) rfl ?_
 refine Z2 1 ?_
 refine AC (CP 43 43 5 3 nb4 1 32 32 ([U64 (vQ z0 p 8)] ++ cu8 (zr8 32) ++ cu8 (zr8 16)) 164 ax1 0 cx1 0 [] ([U64 (vQ z0 p 8)] ++ cu8 (zr8 32) ++ cu8 (zr8 16)) AM BZ rfl rfl rfl rfl rfl SrcAt.nil ZS ES (ET _ _)) rfl ?_
 show JL _ _ _ _ (_ :: _) [_, _, _, _]
 refine Z2 5 ?_
 refine AE (Slc nb4 33 16 16) (B4 16 5 1 0 16 33 16 AZ AW rfl rfl rfl ZO ZO ZO ZO ZO 16 ZO) rfl ?_
 refine Z2 1 ?_
 refine AC (CP 43 43 5 3 nb4 33 16 16 ([U64 (vQ z0 p 8)] ++ cu8 (zr8 32) ++ cu8 (zr8 16)) 164 ax3 0 cx3 0 [] ([U64 (vQ z0 p 8)] ++ cu8 (zr8 32) ++ cu8 (zr8 16)) AM BZ rfl rfl rfl rfl rfl SrcAt.nil ZS ES (ET _ _)) rfl ?_
 show JL _ _ _ _ (_ :: _) [_, _, _, _]
 refine A1 (AK (A4 (Z8 35 3 [(0, .agg ([U64 (vQ z0 p 8)] ++ cu8 (zr8 32) ++ cu8 (zr8 16)).toArray), (1, .agg #[SL ao4 zz4.length ca4, I64 ((eQ z0 (p + 56):Int))])] ?_)))
 refine Z6 ⟨[], [0, 1], [], [0, 1], [2]⟩ 2 (AL rfl (AB 1 nb2 49 _ 164 ([U64 (vQ z0 p 8)] ++ cu8 (zr8 32) ++ cu8 (zr8 16)) rfl rfl rfl BW ZS (AQ (AQ ZC A6) A6) ZS (AI ZS))) ?_
 show DP _ _ _ _ _ _ _ _ [_, _, _, _]
 refine Z6 ⟨[2], [0, 1], [0], [1], [3]⟩ 3 (AL rfl ZW) ?_
 show DP _ _ _ _ _ _ _ _ [_, _, _, _]
 refine Z5 ⟨[2, 3], [0, 1], [0, 1], [], []⟩ ?_
 refine A9 (F' := [(2, Ptr nb2 0), (3, Ptr nb3 0)]) ZR ?_
 refine AK (CH (A8 [false, true, true, false] ?_))
 show JQ _ _ _ _ [_, _]
 refine Z1 fun w1 hw1 => ?_
 first | (exfalso; omega) | exact ⟨_, _, rfl, ⟨rfl, ao4, zz4, ca4, hq4, ⟨(by intro w M h; first | exact (hA4 _ _ (hA2 _ _ (hA1 _ _ h)))), ZO, ZO, ZO⟩, by rw [show bQ z0 (p + 8) 32 = zr8 32 from bQ_neg ZO, show bQ z0 (p + 40) 16 = zr8 16 from bQ_neg ZO]⟩, hw1.sub ZM ZM⟩
end Go.Proofs.YtkdpdgpphpngeaaDoor
namespace Go.Proofs.YtkdpdgpphpngeaaDoor
open Go Go.Sx
open Go.Value renaming slice → SL
attribute [local irreducible] mid zr8 numK valK rvalK constL initL putL RightB tktT mayN idxT selT blankB spanB reqR plainV itB chB bB aB c1B c2B c3B c4B repR repT LargeQ eQ vQ tQ bQ sQ ixQ seQ fQ fN
theorem flgQ_w (rb p : Nat) (ao : Option Addr) (n c : Nat) (z0 z : List UInt8) (w : World) (h0 : w.heap[rb]? = some (.cells [errV 50 (eQ z0 p), SL ao n c].toArray 204 (0, 0))) (hz : z.length = n) (hn : n ≤ 2000000000) (hc : n ≤ c) (hcm : c ≤ maxLen) (hr : RdB w [rb] ao z) (hq : Lq z0 z p) : Calls Tryd.prog 119 #[Ptr rb 0] w (Post w [rb] (fun v L => v = .bool (fQ z0 p) ∧ ∃ q ao' z' c', q = p + fN z0 p ∧ Lq z0 z' q ∧ Adv ao z c ao' z' c' ∧ L = [(Ez rb [errV 50 (eQ z0 q), SL ao' z'.length c'] 204)])) := by
 refine (flgR_w rb (eQ z0 p) ao n c z w h0 hz hn hc hcm hr).mono ?_
 rintro E W ⟨v, L, rfl, ⟨hv, ao', c', hA, hL⟩, hw⟩
 exact ⟨v, L, rfl, ⟨by rw [hv, fgV_q hq], _, ao', _, c', rfl, fgZ_q hq, hA, by rw [hL, okE_q (FgOk_q hq)]⟩, hw⟩
theorem hasQ_w (rb p : Nat) (ao : Option Addr) (n c : Nat) (z0 z : List UInt8) (w : World) (h0 : w.heap[rb]? = some (.cells [errV 50 (eQ z0 p), SL ao n c].toArray 204 (0, 0))) (hz : z.length = n) (hn : n ≤ 2000000000) (hc : n ≤ c) (hcm : c ≤ maxLen) (hr : RdB w [rb] ao z) (hq : Lq z0 z p) : Calls Tryd.prog 152 #[Ptr rb 0] w (Post w [rb] (fun v L => v = .agg (cu8 (bQ z0 p 32)).toArray ∧ ∃ ao' z' c', Lq z0 z' (p + 32) ∧ Adv ao z c ao' z' c' ∧ L = [(Ez rb [errV 50 (eQ z0 (p + 32)), SL ao' z'.length c'] 204)])) := by
 refine (hasR_w rb (eQ z0 p) ao n c z w h0 hz hn hc hcm hr).mono ?_
 rintro E W ⟨v, L, rfl, ⟨hv, ao', c', hA, hL⟩, hw⟩
 exact ⟨v, L, rfl, ⟨by rw [hv, hsV_q hq], ao', _, c', hsZ_q hq, hA, by rw [hL, okE_q (HsOk_q hq)]⟩, hw⟩
theorem fromQ_w (ax : Option Addr) (p cx : Nat) (z : List UInt8) (w : World) (ha : ax.isNone = false) (hz : z.length = p) (hn : p ≤ 2000000000) (hr : RdB w [] ax z) : Calls Tryd.prog 59 #[SL ax p cx] w (Post w [] (fun v L => ∃ rb g sp cap, v = Ptr rb 0 ∧ L = [(Ez rb [errV 50 (eQ z 0), Slc g 0 p cap] 204), (Ez g (cu8 z ++ sp) 5)] ∧ sp.length = cap - p ∧ p ≤ cap ∧ cap ≤ maxLen)) := by
 rw [show errV 50 (eQ z 0) = .nilIface from by rw [E5 (Nat.zero_le _)]; rfl]
 exact from_c ax p cx z w ha hz hn hr
attribute [local irreducible] JL JC JQ DP Ev Ld MemAt Seg Step Cl RV Qok Cok
theorem bld29_01 {w : World} {v0 : Value} {v1 : Value} (h0 : v0.cells = [v0].toArray) (h1 : v1.cells = [v1].toArray) : (Instr.build 29 ([(0, v0), (1, v1)] : List (Nat × Value)).toArray).run Tryd.prog w = .ok (.agg (((([v0] : List Value) ++ ([v1] : List Value)) ++ ([I64 0, .slice none 0 0, .slice none 0 0, U64 0] : List Value)) ++ (cu8 (zr8 16) : List Value)).toArray) w :=
 C8 (places := #[(0, 1), (1, 1), (2, 4), (6, 16)]) (Z := (([U64 0] : List Value) ++ (([U64 0] : List Value) ++ (([I64 0, .slice none 0 0, .slice none 0 0, U64 0] : List Value) ++ ((cu8 (zr8 16) : List Value) ++ []))))) (fun _ => by kernel_rfl) Tryd.underlying29 (fun _ => by kernel_rfl) ((EI ([U64 0] : List Value) (([U64 0] : List Value) ++ (([I64 0, .slice none 0 0, .slice none 0 0, U64 0] : List Value) ++ ((cu8 (zr8 16) : List Value) ++ []))) ([v0] : List Value) h0 (by simp [AN]) rfl).trans ((DL ([v0] : List Value) ([U64 0] : List Value) (([I64 0, .slice none 0 0, .slice none 0 0, U64 0] : List Value) ++ ((cu8 (zr8 16) : List Value) ++ [])) ([v1] : List Value) h1 (by simp [AN]) rfl).trans ((D0 (([v0] : List Value) ++ ([v1] : List Value)) ([I64 0, .slice none 0 0, .slice none 0 0, U64 0] : List Value) ((cu8 (zr8 16) : List Value) ++ [])).trans ((D0 ((([v0] : List Value) ++ ([v1] : List Value)) ++ ([I64 0, .slice none 0 0, .slice none 0 0, U64 0] : List Value)) (cu8 (zr8 16) : List Value) []).trans (by simp [Instr.fill])))))
theorem treadG_c (rb : Nat) (ao : Option Addr) (n c : Nat) (z0 z : List UInt8)  (w : World) (h0 : w.heap[rb]? = some (.cells [errV 50 (eQ z0 0), SL ao n c].toArray 204 (0, 0))) (hz : z.length = n) (hn : n ≤ 2000000000) (hc : n ≤ c) (hcm : c ≤ maxLen) (hr : RdB w [rb] ao z) (hq : Lq z0 z 0)  : Calls Tryd.prog 60 #[Ptr rb 0] w (Post w [rb] (fun v L => ∃ pv ep kd ni l ns ls bl tg tot ao' z' c' g1 cs1 T1 a1 c1 g2 cs2 T2 a2 c2, TkR z0 pv ep kd l ls bl tg tot ∧ l.length = ni ∧ ls.length = ns ∧ tg.length = 16 ∧ ni ≤ 256 ∧ ns ≤ 256 ∧ Lq z0 z' tot ∧ Adv ao z c ao' z' c' ∧ v = .agg (V2 pv ep kd a1 ni c1 a2 ns c2 bl tg).toArray ∧ L = [(Ez rb [errV 50 (eQ z0 tot), SL ao' z'.length c'] 204), (Ez g1 cs1 T1), (Ez g2 cs2 T2)] ∧ Gh (cu64 l) g1 cs1 a1 ∧ ni ≤ c1 ∧ c1 ≤ maxLen ∧ Gh (ls.flatMap sealC) g2 cs2 a2 ∧ ns ≤ c2 ∧ c2 ≤ maxLen)) := by
 have hmx : maxLen = 9223372036854775807 := rfl
 have hk8 := E6 z0 16
 have hk9 := E6 z0 17
 have hmQ : mQ z0 = (vQ z0 17 1).toNat + 1 := rfl
 refine enter w [rb] 90 [(Ez rb [errV 50 (eQ z0 0), SL ao n c] 204)] [Ptr rb 0] Tryd.func60 rfl rfl ZM (A2 (by simpa using h0) ZM ZM) ?_
 show JC _ _ _ [_] _
 refine A4 (AO (AF (AS _ (V4) Tryd.zeroValue29 ZR) rfl ?_))
 rintro v1 L1 ⟨nb1, hnb1, rfl, rfl⟩
 show JL _ _ _ _ (_ :: _) [_, _]
 refine Z2 5 ?_
 have hz1 : (z).length = n := hz
 refine AF (BE 109 _ [true, false] [rb] _ (AH _ CA rfl) rfl (fun w1 hw1 => EM rb 0 8 ao n c z0 z w1 (hw1.en 0 rfl) hz ZO ZO ZO ((fun _ _ h => h) _ _ (hr.at (M' := [rb]) hw1 (hw1.apart [0] _ rfl))) hq ZU)) rfl ?_
 rintro v1 L1 ⟨_, ⟨rfl, ao1, zz1, ca1, hq1, ⟨hA1, hb1, hb2, hb3⟩, rfl⟩, rfl⟩
 show JL _ _ _ _ (_ :: _) [_, _]
 refine Z2 1 ?_
 refine AF (BE 109 _ [false, true] [rb] _ (AH _ CA rfl) rfl (fun w1 hw1 => EM rb 8 8 ao1 zz1.length ca1 z0 zz1 w1 (hw1.en 1 rfl) rfl ZO ZO ZO (hA1 _ _ (hr.at (M' := [rb]) hw1 (hw1.apart [1] _ rfl))) hq1 ZU)) rfl ?_
 rintro v1 L1 ⟨_, ⟨rfl, ao2, zz2, ca2, hq2, ⟨hA2, hb4, hb5, hb6⟩, rfl⟩, rfl⟩
 show JL _ _ _ _ (_ :: _) [_, _]
 refine AE (.agg (V2 (vQ z0 0 8) (vQ z0 8 8) 0 none 0 0 none 0 0 0 (zr8 16)).toArray) (DN [(0, U64 (vQ z0 0 8)), (1, U64 (vQ z0 8 8))] _ rfl (fun _ => bld29_01 rfl rfl)) rfl ?_
 refine AF (AS _ (V4) Tryd.zeroValue29 ZR) rfl ?_
 rintro v1 L1 ⟨nb2, hnb2, rfl, rfl⟩
 show JL _ _ _ _ (_ :: _) [_, _, _]
 refine AC (AB 2 nb2 22 _ 29 (V2 (vQ z0 0 8) (vQ z0 8 8) 0 none 0 0 none 0 0 0 (zr8 16)) rfl rfl rfl BH ZS (AQ ZC A6) ZS (AI ZS)) rfl ?_
 show JL _ _ _ _ _ [_, _, _]
 refine Z2 5 ?_
 refine AF (BE 109 _ [false, true, false] [rb] _ (AH _ CA rfl) rfl (fun w1 hw1 => EM rb 16 1 ao2 zz2.length ca2 z0 zz2 w1 (hw1.en 1 rfl) rfl ZO ZO ZO ((fun w M h => hA2 w M (hA1 w M h)) _ _ (hr.at (M' := [rb]) hw1 (hw1.apart [1] _ rfl))) hq2 ZU)) rfl ?_
 rintro v1 L1 ⟨_, ⟨rfl, ao3, zz3, ca3, hq3, ⟨hA3, hb7, hb8, hb9⟩, rfl⟩, rfl⟩
 show JL _ _ _ _ (_ :: _) [_, _, _]
 refine AE (I64 (((vQ z0 16 1).toNat:Int))) Ze rfl ?_
 refine Z2 13 ?_
 refine ED (ι := (UInt64 × Nat × Option Addr × List UInt8 × Nat) ⊕ (Nat × Nat × Nat × List Value × Nat × Option Addr × List UInt8 × Nat) ⊕ (Nat × Nat × Nat × List Value × Nat × Nat × List Value × Nat × Option Addr × List UInt8 × Nat)) (fun x => match x with | .inl ⟨bl, pp, aa, zz, cc⟩ => [(0, Ptr rb 0), (2, Ptr nb1 0), (3, Ptr nb2 0)] | .inr (.inl ⟨m, pp, gb, sp, cp, aa, zz, cc⟩) => [(0, Ptr rb 0), (2, Ptr nb1 0), (3, Ptr nb2 0)] | .inr (.inr ⟨m, pp, gs, sp2, cp2, gb, sp, cp, aa, zz, cc⟩) => [(0, Ptr rb 0), (2, Ptr nb1 0), (3, Ptr nb2 0)]) (fun x => match x with | .inl ⟨bl, pp, aa, zz, cc⟩ => [(Ez rb [errV 50 (eQ z0 pp), SL aa zz.length cc] 204), (Ez nb1 (V4) 29), (Ez nb2 (V2 (vQ z0 0 8) (vQ z0 8 8) (((vQ z0 16 1).toNat:Int)) none 0 0 none 0 0 bl (zr8 16)) 29)] | .inr (.inl ⟨m, pp, gb, sp, cp, aa, zz, cc⟩) => [(Ez rb [errV 50 (eQ z0 pp), SL aa zz.length cc] 204), (Ez nb1 (V4) 29), (Ez nb2 ([U64 (vQ z0 0 8), U64 (vQ z0 8 8), I64 (((vQ z0 16 1).toNat:Int)), Slc gb 0 m cp, SL none 0 0, U64 0] ++ cu8 (zr8 16)) 29), (Ez gb (cu64 (ixQ z0 18 m) ++ sp) 22)] | .inr (.inr ⟨m, pp, gs, sp2, cp2, gb, sp, cp, aa, zz, cc⟩) => [(Ez rb [errV 50 (eQ z0 pp), SL aa zz.length cc] 204), (Ez nb1 (V4) 29), (Ez nb2 ([U64 (vQ z0 0 8), U64 (vQ z0 8 8), I64 (((vQ z0 16 1).toNat:Int)), Slc gb 0 m cp, Slc gs 0 m cp2, U64 0] ++ cu8 (zr8 16)) 29), (Ez gb (cu64 (ixQ z0 18 m) ++ sp) 22), (Ez gs ((seQ z0 (4*m + 18) m).flatMap sealC ++ sp2) 161)]) (fun x => match x with | .inl ⟨bl, pp, aa, zz, cc⟩ => ((vQ z0 16 1 = 3 ∧ bl = vQ z0 17 8 ∧ pp = 25) ∨ (BadQ z0 ∧ mayN (vQ z0 0 8) (vQ z0 8 8) (((vQ z0 16 1).toNat:Int)) ([] : List UInt64) ([] : List SealR) bl ≠ 0)) ∧ Lq z0 zz pp ∧ (∀ w M, RdB w M ao z → RdB w M aa zz) ∧ zz.length ≤ cc ∧ cc ≤ maxLen ∧ zz.length ≤ n | .inr (.inl ⟨m, pp, gb, sp, cp, aa, zz, cc⟩) => vQ z0 16 1 = 2 ∧ pp = 4*m + 18 ∧ m ≤ 256 ∧ (m = mQ z0 ∨ (m < mQ z0 ∧ z0.length ≤ m + 18)) ∧ sp.length = cp - m ∧ m ≤ cp ∧ cp ≤ maxLen ∧ Lq z0 zz pp ∧ (∀ w M, RdB w M ao z → RdB w M aa zz) ∧ zz.length ≤ cc ∧ cc ≤ maxLen ∧ zz.length ≤ n | .inr (.inr ⟨m, pp, gs, sp2, cp2, gb, sp, cp, aa, zz, cc⟩) => vQ z0 16 1 = 1 ∧ pp = 60*m + 18 ∧ m ≤ 256 ∧ (m = mQ z0 ∨ (m < mQ z0 ∧ z0.length ≤ m + 18)) ∧ sp2.length = cp2 * 49 - m * 49 ∧ m ≤ cp2 ∧ cp2 ≤ maxLen ∧ sp.length = cp - m ∧ m ≤ cp ∧ cp ≤ maxLen ∧ Lq z0 zz pp ∧ (∀ w M, RdB w M ao z → RdB w M aa zz) ∧ zz.length ≤ cc ∧ cc ≤ maxLen ∧ zz.length ≤ n) ?_ ?_
 ·
  refine Z2 7 ?_
  refine AX _ rfl (fun hb10 => ?_) (fun hb10 => ?_)
  ·
   have hp10 := of_decide_eq_true hb10
   refine Z2 2 ?_
   refine AF (BE 109 _ [false, false, true] [rb] _ (AH _ CA rfl) rfl (fun w1 hw1 => EM rb 17 8 ao3 zz3.length ca3 z0 zz3 w1 (hw1.en 2 rfl) rfl ZO ZO ZO ((fun w M h => hA3 w M (hA2 w M (hA1 w M h))) _ _ (hr.at (M' := [rb]) hw1 (hw1.apart [2] _ rfl))) hq3 ZU)) rfl ?_
   rintro v1 L1 ⟨_, ⟨rfl, ao4, zz4, ca4, hq4, ⟨hA4, hb11, hb12, hb13⟩, rfl⟩, rfl⟩
   show JL _ _ _ _ (_ :: _) [_, _, _]
   refine Z2 5 ?_
   refine DZ [2, 0, 1] ZD ?_
   show JQ _ _ _ _ [_, _, _]
   refine BU (.inl (vQ z0 17 8, 25, ao4, zz4, ca4)) ⟨.inl ⟨kd3 hb10, rfl, rfl⟩, hq4, (fun w M h => hA4 w M (hA3 w M (hA2 w M (hA1 w M h)))), ZO, ZO, ZO⟩ (Sub.all rfl) rfl
  have hp10 := of_decide_eq_false hb10
  refine Z2 7 ?_
  refine ED (ι := Unit) (fun _ => [(0, Ptr rb 0), (2, Ptr nb1 0), (3, Ptr nb2 0), (25, .bool (decide ((((vQ z0 16 1).toNat:Int)) = (1:Int)) || decide ((((vQ z0 16 1).toNat:Int)) = (2:Int))))]) (fun _ => [(Ez nb1 (V4) 29), (Ez nb2 (V2 (vQ z0 0 8) (vQ z0 8 8) (((vQ z0 16 1).toNat:Int)) none 0 0 none 0 0 0 (zr8 16)) 29), (Ez rb [errV 50 (eQ z0 17), SL ao3 zz3.length ca3] 204)]) (fun _ => True) ?_ ?_
  ·
   refine AX _ rfl (fun hb14 => ?_) (fun hb14 => ?_)
   ·
    have hp14 := of_decide_eq_true hb14
    refine CY (BU (()) trivial (Sub.cons rfl (Sub.cons rfl (Sub.cons rfl (Sub.cons (congrArg (fun b => some (Value.bool b)) (by rw [hb14]; rfl : decide ((((vQ z0 16 1).toNat:Int)) = (1:Int)) = (decide ((((vQ z0 16 1).toNat:Int)) = (1:Int)) || decide ((((vQ z0 16 1).toNat:Int)) = (2:Int))))) (Sub.nil))))) rfl)
   have hp14 := of_decide_eq_false hb14
   refine Z2 3 ?_
   refine A1 (BU (()) trivial (Sub.cons rfl (Sub.cons rfl (Sub.cons rfl (Sub.cons (congrArg (fun b => some (Value.bool b)) (by rw [hb14]; rfl : decide ((((vQ z0 16 1).toNat:Int)) = (2:Int)) = (decide ((((vQ z0 16 1).toNat:Int)) = (1:Int)) || decide ((((vQ z0 16 1).toNat:Int)) = (2:Int))))) (Sub.nil))))) rfl)
  rintro _ hx
  obtain _ := hx
  show JQ _ _ _ [_, _, _, _] [_, _, _]
  refine AK (AX _ rfl (fun hb15 => ?_) (fun hb15 => ?_))
  ·
   refine A4 ?_
   have hk12 : vQ z0 16 1 = 1 ∨ vQ z0 16 1 = 2 := kd12 hb15
   refine Z2 2 ?_
   refine AF (BE 109 _ [false, false, true] [rb] _ (AH _ CA rfl) rfl (fun w1 hw1 => EM rb 17 1 ao3 zz3.length ca3 z0 zz3 w1 (hw1.en 2 rfl) rfl ZO ZO ZO ((fun w M h => hA3 w M (hA2 w M (hA1 w M h))) _ _ (hr.at (M' := [rb]) hw1 (hw1.apart [2] _ rfl))) hq3 ZU)) rfl ?_
   rintro v1 L1 ⟨_, ⟨rfl, ao5, zz5, ca5, hq5, ⟨hA5, hb16, hb17, hb18⟩, rfl⟩, rfl⟩
   show JL _ _ _ _ (_ :: _) [_, _, _]
   refine AE (I64 (((vQ z0 17 1).toNat:Int))) Ze rfl ?_
   refine AE (I64 (((vQ z0 17 1).toNat:Int) + 1)) (AT rfl rfl fun _ => BR _ _ (((vQ z0 17 1).toNat:Int) + 1) ZO ZO) rfl ?_
   refine Z2 5 ?_
   obtain ⟨m, hm1, hm2, hm3⟩ := minQ hq5
   refine Z2 3 ?_
   refine AC (AJ 61 _ (I64 ((leftN (eQ z0 18) zz5.length:Int))) (AH _ C7 rfl) (fun w1 hw1 => left_w rb (eQ z0 18) ao5 zz5.length ca5 w1 (RdA.of hw1 (A0 2 rfl (AG _)) ZM))) rfl ?_
   show JL _ _ _ _ (_ :: _) [_, _, _]
   refine AE (I64 m) (Ev_min rfl rfl hm1) rfl ?_
   refine Z2 3 ?_
   refine ED (ι := (Unit) ⊕ (Nat × List Value × Nat × Option Addr × List UInt8 × Nat)) (fun x => match x with | .inl _ => [(0, Ptr rb 0), (2, Ptr nb1 0), (3, Ptr nb2 0)] | .inr ⟨gb, sp, cp, aa, zz, cc⟩ => [(0, Ptr rb 0), (2, Ptr nb1 0), (3, Ptr nb2 0)]) (fun x => match x with | .inl _ => [(Ez rb [errV 50 (eQ z0 18), SL ao5 zz5.length ca5] 204), (Ez nb1 (V4) 29), (Ez nb2 (V2 (vQ z0 0 8) (vQ z0 8 8) (((vQ z0 16 1).toNat:Int)) none 0 0 none 0 0 0 (zr8 16)) 29)] | .inr ⟨gb, sp, cp, aa, zz, cc⟩ => [(Ez rb [errV 50 (eQ z0 (4*m + 18)), SL aa zz.length cc] 204), (Ez nb1 (V4) 29), (Ez nb2 ([U64 (vQ z0 0 8), U64 (vQ z0 8 8), I64 (((vQ z0 16 1).toNat:Int)), Slc gb 0 m cp, SL none 0 0, U64 0] ++ cu8 (zr8 16)) 29), (Ez gb (cu64 (ixQ z0 18 m) ++ sp) 22)]) (fun x => match x with | .inl _ => m = 0 | .inr ⟨gb, sp, cp, aa, zz, cc⟩ => 0 < m ∧ sp.length = cp - m ∧ m ≤ cp ∧ cp ≤ maxLen ∧ Lq z0 zz (4*m + 18) ∧ (∀ w M, RdB w M ao z → RdB w M aa zz) ∧ zz.length ≤ cc ∧ cc ≤ maxLen ∧ zz.length ≤ n) ?_ ?_
   ·
    refine JC_block (JC_pick [2, 0, 1] ZD ?_)
    show JC _ _ _ _ [_, _, _]
    refine C3 (ι := (Unit) ⊕ (Nat × List UInt64 × Nat × List Value × Nat × Option Addr × List UInt8 × Nat)) (fun x => match x with | .inl _ => [(0, Ptr rb 0), (2, Ptr nb1 0), (3, Ptr nb2 0), (35, I64 m), (36, I64 0)] | .inr ⟨i, ll, gb, sp, cp, aa, zz, cc⟩ => [(0, Ptr rb 0), (2, Ptr nb1 0), (3, Ptr nb2 0), (35, I64 m), (36, I64 i)]) (fun x => match x with | .inl _ => [(Ez rb [errV 50 (eQ z0 18), SL ao5 zz5.length ca5] 204), (Ez nb1 (V4) 29), (Ez nb2 (V2 (vQ z0 0 8) (vQ z0 8 8) (((vQ z0 16 1).toNat:Int)) none 0 0 none 0 0 0 (zr8 16)) 29)] | .inr ⟨i, ll, gb, sp, cp, aa, zz, cc⟩ => [(Ez rb [errV 50 (eQ z0 (4*i + 18)), SL aa zz.length cc] 204), (Ez nb1 (V4) 29), (Ez nb2 ([U64 (vQ z0 0 8), U64 (vQ z0 8 8), I64 (((vQ z0 16 1).toNat:Int)), Slc gb 0 i cp, SL none 0 0, U64 0] ++ cu8 (zr8 16)) 29), (Ez gb (cu64 ll ++ sp) 22)]) (fun x => match x with | .inl _ => True | .inr ⟨i, ll, gb, sp, cp, aa, zz, cc⟩ => 0 < i ∧ i ≤ m ∧ ll = ixQ z0 18 i ∧ ll.length = i ∧ sp.length = cp - i ∧ i ≤ cp ∧ cp ≤ maxLen ∧ Lq z0 zz (4*i + 18) ∧ (∀ w M, RdB w M ao z → RdB w M aa zz) ∧ zz.length ≤ cc ∧ cc ≤ maxLen ∧ zz.length ≤ n) (fun x => match x with | .inl _ => m + 2 | .inr ⟨i, ll, gb, sp, cp, aa, zz, cc⟩ => m + 1 - i) (.inl ()) trivial (Sub.all rfl) rfl ?_
    rintro (_ | ⟨i, ll, gb, sp, cp, aa, zz, cc⟩) hx
    ·
     obtain _ := hx
     show JC _ _ _ [_, _, _, _, _] [_, _, _]
     refine Z2 6 ?_
     refine AX _ rfl (fun hb19 => ?_) (fun hb19 => ?_)
     ·
      have hp19 := of_decide_eq_true hb19
      refine CY (AK (A4 (JC_block (Z8 90 5 [(0, Ptr nb2 2), (1, Ptr nb2 3), (2, SL none 0 0), (3, Ptr rb 0)] ?_))))
      refine Z7 ⟨[], [0, 1, 2, 3], [], [0, 1, 2, 3], [4]⟩ 4 (AL rfl (BE 109 _ [true, false, false] [rb] _ (AH _ CA rfl) rfl (fun w1 hw1 => EM rb 18 4 ao5 zz5.length ca5 z0 zz5 w1 (hw1.en 0 rfl) rfl ZO ZO ZO ((fun w M h => hA5 w M (hA3 w M (hA2 w M (hA1 w M h)))) _ _ (hr.at (M' := [rb]) hw1 (hw1.apart [0] _ rfl))) hq5 ZU))) ?_
      rintro v1 L1 ⟨_, ⟨rfl, ao6, zz6, ca6, hq6, ⟨hA6, hb20, hb21, hb22⟩, rfl⟩, rfl⟩
      refine ⟨[], ?_⟩
      show DP _ _ _ _ _ _ _ _ [_, _, _]
      refine Z7 ⟨[4], [0, 1, 2, 3], [3], [0, 1, 2], [5]⟩ 5 (AL rfl (BF 22 1 _ [(0, U64 (vQ z0 18 4))] ([U64 (vQ z0 18 4)]) BB BJ Tryd.zeroValue22 rfl rfl rfl ZR)) ?_
      rintro v1 L1 ⟨nb3, hnb3, rfl, rfl⟩
      refine ⟨[], ?_⟩
      show DP _ _ _ _ _ _ _ _ [_, _, _, _]
      refine Z7 ⟨[4, 5], [0, 1, 2, 3], [3], [0, 1, 2], [6]⟩ 6 (AL rfl (E9 23 22 [false, false, false, false] (SL none 0 0) 0 ([] : List UInt64) ([vQ z0 18 4]) (some ⟨nb3, 0, none⟩) 1 1 1 BB E8 rfl (.inl ⟨rfl, rfl, rfl, rfl, ZO⟩) rfl ZM (SrcAt.mem (A0 3 rfl (Seg.head))) ZO ZX ZO)) ?_
      rintro v1 L1 ⟨nb4, sp1, cp1, hg1, rfl, rfl, ha1, ha2, ha3, ha4⟩
      refine ⟨[(7, Ptr nb2 2), (8, Ptr nb2 3)], ?_⟩
      show DP _ _ _ _ _ _ _ _ [_, _, _, _, _]
      refine Z6 ⟨[4, 5, 6], [0, 1, 2, 3, 7, 8], [0, 1, 2, 3], [7, 8], [9]⟩ 9 (AL rfl ZW) ?_
      show DP _ _ _ _ _ _ _ _ [_, _, _, _, _]
      refine Z5 ⟨[4, 5, 6, 9], [0, 1, 2, 3, 7, 8], [0, 1, 2, 3, 7, 8], [], []⟩ ?_
      refine A9 (F' := [(38, Ptr nb2 2), (39, Ptr nb2 3), (40, SL none 0 0), (41, Ptr rb 0), (42, U64 (vQ z0 18 4)), (43, Slc nb3 0 1 1), (44, Slc nb4 0 1 cp1), (45, Ptr nb2 2), (46, Ptr nb2 3), (0, Ptr rb 0), (2, Ptr nb1 0), (3, Ptr nb2 0), (35, I64 m), (36, I64 0), (37, .bool (decide ((0:Int) < ((m:Int)))))]) ZR ?_
      refine DH (AK (AO (AE (I64 1) (AT rfl rfl fun _ => BR _ _ (1:Int) ZO ZO) rfl ?_)))
      refine Z2 2 ?_
      refine B5 (D7 [true, true, true, false, true] ?_)
      show K _ _ [_, _, _, _] _
      refine K_pick [2, 0, 1, 3] ZD ?_
      show K _ _ [_, _, _, _] _
      refine C1 (.inr (1, ([] : List UInt64) ++ ([vQ z0 18 4]), nb4, sp1, cp1, ao6, zz6, ca6)) ⟨ZO, ZO, by rw [ixQ_one]; rfl, (ha1).trans (by first | rfl | simp +arith), (ha2).trans (by first | rfl | omega), ZO, ZO, hq6, (fun w M h => hA6 w M (hA5 w M (hA3 w M (hA2 w M (hA1 w M h))))), ZO, ZO, ZO⟩ (by dsimp only; omega) (Sub.all rfl) rfl
     have hp19 := of_decide_eq_false hb19
     refine JC_exit (DV (DV (JQ_in_same (BU (.inl ()) ZO (Sub.all rfl) rfl))))
    obtain ⟨hi1, hi2, hi3, hi4, hi5, hi6, hi7, hi8, hi9, hi10, hi11, hi12⟩ := hx
    show JC _ _ _ [_, _, _, _, _] [_, _, _, _]
    refine Z2 6 ?_
    refine AX _ rfl (fun hb23 => ?_) (fun hb23 => ?_)
    ·
     have hp23 := of_decide_eq_true hb23
     refine CY (AK (A4 (JC_block (Z8 90 5 [(0, Ptr nb2 2), (1, Ptr nb2 3), (2, Slc gb 0 i cp), (3, Ptr rb 0)] ?_))))
     refine Z7 ⟨[], [0, 1, 2, 3], [], [0, 1, 2, 3], [4]⟩ 4 (AL rfl (BE 109 _ [true, false, false, false] [rb] _ (AH _ CA rfl) rfl (fun w1 hw1 => EM rb (4*i + 18) 4 aa zz.length cc z0 zz w1 (hw1.en 0 rfl) rfl ZO ZO ZO (hi9 _ _ (hr.at (M' := [rb]) hw1 (hw1.apart [0] _ rfl))) hi8 ZU))) ?_
     rintro v1 L1 ⟨_, ⟨rfl, ao7, zz7, ca7, hq7, ⟨hA7, hb24, hb25, hb26⟩, rfl⟩, rfl⟩
     refine ⟨[], ?_⟩
     show DP _ _ _ _ _ _ _ _ [_, _, _, _]
     refine Z7 ⟨[4], [0, 1, 2, 3], [3], [0, 1, 2], [5]⟩ 5 (AL rfl (BF 22 1 _ [(0, U64 (vQ z0 (4*i + 18) 4))] ([U64 (vQ z0 (4*i + 18) 4)]) BB BJ Tryd.zeroValue22 rfl rfl rfl ZR)) ?_
     rintro v1 L1 ⟨nb5, hnb5, rfl, rfl⟩
     refine ⟨[], ?_⟩
     show DP _ _ _ _ _ _ _ _ [_, _, _, _, _]
     refine Z7 ⟨[4, 5], [0, 1, 2, 3], [3], [0, 1, 2], [6]⟩ 6 (AL rfl (E9 23 22 [false, false, true, false, false] (Slc gb 0 i cp) i ll ([vQ z0 (4*i + 18) 4]) (some ⟨nb5, 0, none⟩) 1 1 (i + 1) BB E8 rfl (.inr ⟨gb, sp, cp, rfl, rfl, (by first | exact hi4 | simp [hi4]), hi5, ZO, ZO⟩) rfl ZM (SrcAt.mem (A0 4 rfl (Seg.head))) ZO ZX ZO)) ?_
     rintro v1 L1 ⟨nb6, sp2, cp2, hg2, rfl, rfl, ha5, ha6, ha7, ha8⟩
     refine ⟨[(7, Ptr nb2 2), (8, Ptr nb2 3)], ?_⟩
     show DP _ _ _ _ _ _ _ _ [_, _, _, _, _]
     refine Z6 ⟨[4, 5, 6], [0, 1, 2, 3, 7, 8], [0, 1, 2, 3], [7, 8], [9]⟩ 9 (AL rfl ZW) ?_
     show DP _ _ _ _ _ _ _ _ [_, _, _, _, _]
     refine Z5 ⟨[4, 5, 6, 9], [0, 1, 2, 3, 7, 8], [0, 1, 2, 3, 7, 8], [], []⟩ ?_
     refine A9 (F' := [(38, Ptr nb2 2), (39, Ptr nb2 3), (40, Slc gb 0 i cp), (41, Ptr rb 0), (42, U64 (vQ z0 (4*i + 18) 4)), (43, Slc nb5 0 1 1), (44, Slc nb6 0 (i + 1) cp2), (45, Ptr nb2 2), (46, Ptr nb2 3), (0, Ptr rb 0), (2, Ptr nb1 0), (3, Ptr nb2 0), (35, I64 m), (36, I64 i), (37, .bool (decide (((i:Int)) < ((m:Int)))))]) ZR ?_
     refine DH (AK (AO (AE (I64 ((i:Int) + 1)) (AT rfl rfl fun _ => BR _ _ ((i:Int) + 1) ZO ZO) rfl ?_)))
     refine Z2 2 ?_
     refine B5 (D7 [true, true, true, false, true] ?_)
     show K _ _ [_, _, _, _] _
     refine K_pick [2, 0, 1, 3] ZD ?_
     show K _ _ [_, _, _, _] _
     refine C1 (.inr (i + 1, ll ++ ([vQ z0 (4*i + 18) 4]), nb6, sp2, cp2, ao7, zz7, ca7)) ⟨ZO, ZO, by rw [ixQ_succ, ← hi3, Nat.add_comm 18 (4*i)], (ha5).trans (by first | rfl | simp +arith), (ha6).trans (by first | rfl | omega), ZO, ZO, hq7, (fun w M h => hA7 w M (hi9 w M h)), ZO, ZO, ZO⟩ (by dsimp only; omega) (Sub.all rfl) rfl
    have hp23 := of_decide_eq_false hb23
    refine Z2 4 ?_
    have ei : m = i := by omega
    subst ei
    subst hi3
    refine BU (.inr (gb, sp, cp, aa, zz, cc)) ⟨hi1, hi5, hi6, hi7, hi8, hi9, hi10, hi11, hi12⟩ (Sub.all rfl) rfl
   rintro (_ | ⟨gb, sp, cp, aa, zz, cc⟩) hx
   ·
    obtain hm0 := hx
    show JQ _ _ _ [_, _, _] [_, _, _]
    refine Z2 11 ?_
    refine C3 (ι := Unit) (fun _ => [(0, Ptr rb 0), (2, Ptr nb1 0), (3, Ptr nb2 0), (51, I64 0), (52, I64 0)]) (fun _ => [(Ez rb [errV 50 (eQ z0 18), SL ao5 zz5.length ca5] 204), (Ez nb1 (V4) 29), (Ez nb2 (V2 (vQ z0 0 8) (vQ z0 8 8) (((vQ z0 16 1).toNat:Int)) none 0 0 none 0 0 0 (zr8 16)) 29)]) (fun _ => True) (fun _ => 1) () trivial (Sub.all rfl) rfl ?_
    rintro _ _
    show JC _ _ _ [_, _, _, _, _] [_, _, _]
    refine Z2 6 ?_
    refine AY _ rfl ZD ?_
    refine JC_exit (DV (DV (JQ_in_same (DH (BU (.inl (0, 18, ao5, zz5, ca5)) ⟨.inr (bad12 hk12 ZO), hq5, (fun w M h => hA5 w M (hA3 w M (hA2 w M (hA1 w M h)))), ZO, ZO, ZO⟩ (Sub.all rfl) rfl)))))
   obtain ⟨hy1, hy2, hy3, hy4, hy5, hy6, hy7, hy8, hy9⟩ := hx
   show JQ _ _ _ [_, _, _] [_, _, _, _]
   refine Z2 2 ?_
   by_cases hk1 : vQ z0 16 1 = 1
   ·
    refine Z2 9 ?_
    obtain ⟨aq, haq⟩ : ∃ aq, aq = 4*m + 18 := ⟨_, rfl⟩
    rw [← haq]
    show JC _ _ _ _ [_, _, _, _]
    refine C3 (ι := (Unit) ⊕ (Nat × List SealR × Nat × List Value × Nat × Option Addr × List UInt8 × Nat)) (fun x => match x with | .inl _ => [(0, Ptr rb 0), (2, Ptr nb1 0), (3, Ptr nb2 0), (51, I64 m), (52, I64 0)] | .inr ⟨j, rr, gs, sp2, cp2, aa2, zz2, cc2⟩ => [(0, Ptr rb 0), (2, Ptr nb1 0), (3, Ptr nb2 0), (51, I64 m), (52, I64 j)]) (fun x => match x with | .inl _ => [(Ez rb [errV 50 (eQ z0 aq), SL aa zz.length cc] 204), (Ez nb1 (V4) 29), (Ez nb2 ([U64 (vQ z0 0 8), U64 (vQ z0 8 8), I64 (((vQ z0 16 1).toNat:Int)), Slc gb 0 m cp, SL none 0 0, U64 0] ++ cu8 (zr8 16)) 29), (Ez gb (cu64 (ixQ z0 18 m) ++ sp) 22)] | .inr ⟨j, rr, gs, sp2, cp2, aa2, zz2, cc2⟩ => [(Ez rb [errV 50 (eQ z0 (aq + 56*j)), SL aa2 zz2.length cc2] 204), (Ez nb1 (V4) 29), (Ez nb2 ([U64 (vQ z0 0 8), U64 (vQ z0 8 8), I64 (((vQ z0 16 1).toNat:Int)), Slc gb 0 m cp, Slc gs 0 j cp2, U64 0] ++ cu8 (zr8 16)) 29), (Ez gb (cu64 (ixQ z0 18 m) ++ sp) 22), (Ez gs ((rr).flatMap sealC ++ sp2) 161)]) (fun x => match x with | .inl _ => True | .inr ⟨j, rr, gs, sp2, cp2, aa2, zz2, cc2⟩ => 0 < j ∧ j ≤ m ∧ rr = seQ z0 aq j ∧ rr.length = j ∧ sp2.length = cp2 * 49 - j * 49 ∧ j ≤ cp2 ∧ cp2 ≤ maxLen ∧ Lq z0 zz2 (aq + 56*j) ∧ (∀ w M, RdB w M ao z → RdB w M aa2 zz2) ∧ zz2.length ≤ cc2 ∧ cc2 ≤ maxLen ∧ zz2.length ≤ n) (fun x => match x with | .inl _ => m + 2 | .inr ⟨j, rr, gs, sp2, cp2, aa2, zz2, cc2⟩ => m + 1 - j) (.inl ()) trivial (Sub.all rfl) rfl ?_
    rintro (_ | ⟨j, rr, gs, sp2, cp2, aa2, zz2, cc2⟩) hx
    ·
     obtain _ := hx
     show JC _ _ _ [_, _, _, _, _] [_, _, _, _]
     refine Z2 6 ?_
     refine A7 _ rfl (decide_eq_true ZO) ?_
     refine Z2 12 ?_
     refine A7 _ rfl (decide_eq_true (by rw [hk1]; rfl)) ?_
     refine Z8 90 5 [(0, Ptr nb2 2), (1, Ptr nb2 4), (2, SL none 0 0), (3, Ptr rb 0)] ?_
     refine Z7 ⟨[], [0, 1, 2, 3], [], [0, 1, 2, 3], [4]⟩ 4 (AL rfl (BE 120 _ [true, false, false, false] [rb] _ (AH _ Tryd.call120 rfl) rfl (fun w1 hw1 => sreadQ_c rb aq aa zz.length cc z0 zz w1 (hw1.en 0 rfl) rfl ZO ZO ZO (hy6 _ _ (hr.at (M' := [rb]) hw1 (hw1.apart [0] _ rfl))) (haq ▸ hy5)))) ?_
     rintro v1 L1 ⟨_, ⟨rfl, ao8, zz8, ca8, hq8, ⟨hA8, hb27, hb28, hb29⟩, rfl⟩, rfl⟩
     refine ⟨[], ?_⟩
     show DP _ _ _ _ _ _ _ _ [_, _, _, _]
     refine Z7 ⟨[4], [0, 1, 2, 3], [3], [0, 1, 2], [5]⟩ 5 (AL rfl (BF 161 49 _ [(0, .agg ([U64 (vQ z0 aq 8)] ++ cu8 (bQ z0 (aq + 8) 32) ++ cu8 (bQ z0 (aq + 40) 16)).toArray)] ([U64 (vQ z0 aq 8)] ++ cu8 (bQ z0 (aq + 8) 32) ++ cu8 (bQ z0 (aq + 40) 16)) DA BC Tryd.zeroValue161 rfl rfl rfl (EL (Z := [U64 0] ++ cu8 (zr8 32) ++ cu8 (zr8 16)) ZS ZR (by simp [zr8])))) ?_
     rintro v1 L1 ⟨nb7, hnb7, rfl, rfl⟩
     refine ⟨[], ?_⟩
     show DP _ _ _ _ _ _ _ _ [_, _, _, _, _]
     refine Z7 ⟨[4, 5], [0, 1, 2, 3], [3], [0, 1, 2], [6]⟩ 6 (AL rfl (Step_appS 24 161 56 (.agg ([U64 0] ++ cu8 (zr8 32) ++ cu8 (zr8 16)).toArray) [false, false, false, false, false] (SL none 0 0) 0 ([] : List SealR) (SealR.mk (vQ z0 aq 8) (bQ z0 (aq + 8) 32) (bQ z0 (aq + 40) 16) (BG _ _ _) (BG _ _ _)) (some ⟨nb7, 0, none⟩) 1 1 DA ZR ZR rfl (.inl ⟨rfl, rfl, rfl, rfl⟩) rfl (SrcAt.mem (A0 4 rfl (AG _))) ZO ZX ZO)) ?_
     rintro v1 L1 ⟨nb8, sp3, cp3, hg3, rfl, rfl, ha9, ha10, ha11, ha12⟩
     refine ⟨[(7, Ptr nb2 2), (8, Ptr nb2 4)], ?_⟩
     show DP _ _ _ _ _ _ _ _ [_, _, _, _, _, _]
     refine Z6 ⟨[4, 5, 6], [0, 1, 2, 3, 7, 8], [0, 1, 2, 3], [7, 8], [9]⟩ 9 (AL rfl ZW) ?_
     show DP _ _ _ _ _ _ _ _ [_, _, _, _, _, _]
     refine Z5 ⟨[4, 5, 6, 9], [0, 1, 2, 3, 7, 8], [0, 1, 2, 3, 7, 8], [], []⟩ ?_
     refine A9 (F' := [(58, Ptr nb2 2), (59, Ptr nb2 4), (60, SL none 0 0), (61, Ptr rb 0), (62, .agg ([U64 (vQ z0 aq 8)] ++ cu8 (bQ z0 (aq + 8) 32) ++ cu8 (bQ z0 (aq + 40) 16)).toArray), (63, Slc nb7 0 1 1), (64, Slc nb8 0 1 cp3), (65, Ptr nb2 2), (66, Ptr nb2 4), (0, Ptr rb 0), (2, Ptr nb1 0), (3, Ptr nb2 0), (51, I64 m), (52, I64 0), (53, .bool (decide ((0:Int) < ((m:Int))))), (54, Ptr nb2 2), (55, Ptr nb2 2), (56, I64 (((vQ z0 16 1).toNat:Int))), (57, .bool (decide ((((vQ z0 16 1).toNat:Int)) = (1:Int))))]) ZR ?_
     refine DH (AK (AO (AE (I64 1) (AT rfl rfl fun _ => BR _ _ (1:Int) ZO ZO) rfl ?_)))
     refine Z2 2 ?_
     refine B5 (D7 [true, true, true, true, false, true] ?_)
     show K _ _ [_, _, _, _, _] _
     refine K_pick [3, 0, 1, 2, 4] ZD ?_
     show K _ _ [_, _, _, _, _] _
     refine C1 (.inr (1, ([] : List SealR) ++ [(SealR.mk (vQ z0 aq 8) (bQ z0 (aq + 8) 32) (bQ z0 (aq + 40) 16) (BG _ _ _) (BG _ _ _))], nb8, sp3, cp3, ao8, zz8, ca8)) ⟨ZO, ZO, by rw [seQ_one]; exact congrArg (fun x => [x]) (sQ_eq _ _ _ _), (ha9).trans (by first | rfl | simp +arith), (ha10).trans (by first | rfl | omega), ZO, ZO, (fun h8 => (hq8 ZO).trans (by congr 1 <;> omega)), (fun w M h => hA8 w M (hy6 w M h)), ZO, ZO, ZO⟩ (by dsimp only; omega) (Sub.all rfl) rfl
    obtain ⟨hj1, hj2, hj3, hj4, hj5, hj6, hj7, hj8, hj9, hj10, hj11, hj12⟩ := hx
    show JC _ _ _ [_, _, _, _, _] [_, _, _, _, _]
    refine Z2 6 ?_
    refine AX _ rfl (fun hb30 => ?_) (fun hb30 => ?_)
    ·
     have hp30 := of_decide_eq_true hb30
     refine Z2 12 ?_
     refine A7 _ rfl (decide_eq_true (by rw [hk1]; rfl)) ?_
     refine Z8 90 5 [(0, Ptr nb2 2), (1, Ptr nb2 4), (2, Slc gs 0 j cp2), (3, Ptr rb 0)] ?_
     refine Z7 ⟨[], [0, 1, 2, 3], [], [0, 1, 2, 3], [4]⟩ 4 (AL rfl (BE 120 _ [true, false, false, false, false] [rb] _ (AH _ Tryd.call120 rfl) rfl (fun w1 hw1 => sreadQ_c rb (aq + 56*j) aa2 zz2.length cc2 z0 zz2 w1 (hw1.en 0 rfl) rfl ZO ZO ZO (hj9 _ _ (hr.at (M' := [rb]) hw1 (hw1.apart [0] _ rfl))) hj8))) ?_
     rintro v1 L1 ⟨_, ⟨rfl, ao9, zz9, ca9, hq9, ⟨hA9, hb31, hb32, hb33⟩, rfl⟩, rfl⟩
     refine ⟨[], ?_⟩
     show DP _ _ _ _ _ _ _ _ [_, _, _, _, _]
     refine Z7 ⟨[4], [0, 1, 2, 3], [3], [0, 1, 2], [5]⟩ 5 (AL rfl (BF 161 49 _ [(0, .agg ([U64 (vQ z0 (aq + 56*j) 8)] ++ cu8 (bQ z0 (aq + 56*j + 8) 32) ++ cu8 (bQ z0 (aq + 56*j + 40) 16)).toArray)] ([U64 (vQ z0 (aq + 56*j) 8)] ++ cu8 (bQ z0 (aq + 56*j + 8) 32) ++ cu8 (bQ z0 (aq + 56*j + 40) 16)) DA BC Tryd.zeroValue161 rfl rfl rfl (EL (Z := [U64 0] ++ cu8 (zr8 32) ++ cu8 (zr8 16)) ZS ZR (by simp [zr8])))) ?_
     rintro v1 L1 ⟨nb9, hnb9, rfl, rfl⟩
     refine ⟨[], ?_⟩
     show DP _ _ _ _ _ _ _ _ [_, _, _, _, _, _]
     refine Z7 ⟨[4, 5], [0, 1, 2, 3], [3], [0, 1, 2], [6]⟩ 6 (AL rfl (Step_appS 24 161 56 (.agg ([U64 0] ++ cu8 (zr8 32) ++ cu8 (zr8 16)).toArray) [false, false, false, true, false, false] (Slc gs 0 j cp2) j rr (SealR.mk (vQ z0 (aq + 56*j) 8) (bQ z0 (aq + 56*j + 8) 32) (bQ z0 (aq + 56*j + 40) 16) (BG _ _ _) (BG _ _ _)) (some ⟨nb9, 0, none⟩) 1 (j + 1) DA ZR ZR rfl (.inr ⟨gs, sp2, cp2, rfl, rfl, (by have h : (rr).length = j := hj4; omega), (by first | exact hj5 | omega), ZO, ZO⟩) rfl (SrcAt.mem (A0 5 rfl (AG _))) ZO ZX ZO)) ?_
     rintro v1 L1 ⟨nb10, sp4, cp4, hg4, rfl, rfl, ha13, ha14, ha15, ha16⟩
     refine ⟨[(7, Ptr nb2 2), (8, Ptr nb2 4)], ?_⟩
     show DP _ _ _ _ _ _ _ _ [_, _, _, _, _, _]
     refine Z6 ⟨[4, 5, 6], [0, 1, 2, 3, 7, 8], [0, 1, 2, 3], [7, 8], [9]⟩ 9 (AL rfl ZW) ?_
     show DP _ _ _ _ _ _ _ _ [_, _, _, _, _, _]
     refine Z5 ⟨[4, 5, 6, 9], [0, 1, 2, 3, 7, 8], [0, 1, 2, 3, 7, 8], [], []⟩ ?_
     refine A9 (F' := [(58, Ptr nb2 2), (59, Ptr nb2 4), (60, Slc gs 0 j cp2), (61, Ptr rb 0), (62, .agg ([U64 (vQ z0 (aq + 56*j) 8)] ++ cu8 (bQ z0 (aq + 56*j + 8) 32) ++ cu8 (bQ z0 (aq + 56*j + 40) 16)).toArray), (63, Slc nb9 0 1 1), (64, Slc nb10 0 (j + 1) cp4), (65, Ptr nb2 2), (66, Ptr nb2 4), (0, Ptr rb 0), (2, Ptr nb1 0), (3, Ptr nb2 0), (51, I64 m), (52, I64 j), (53, .bool (decide (((j:Int)) < ((m:Int))))), (54, Ptr nb2 2), (55, Ptr nb2 2), (56, I64 (((vQ z0 16 1).toNat:Int))), (57, .bool (decide ((((vQ z0 16 1).toNat:Int)) = (1:Int))))]) ZR ?_
     refine DH (AK (AO (AE (I64 ((j:Int) + 1)) (AT rfl rfl fun _ => BR _ _ ((j:Int) + 1) ZO ZO) rfl ?_)))
     refine Z2 2 ?_
     refine B5 (D7 [true, true, true, true, false, true] ?_)
     show K _ _ [_, _, _, _, _] _
     refine K_pick [3, 0, 1, 2, 4] ZD ?_
     show K _ _ [_, _, _, _, _] _
     refine C1 (.inr (j + 1, rr ++ [(SealR.mk (vQ z0 (aq + 56*j) 8) (bQ z0 (aq + 56*j + 8) 32) (bQ z0 (aq + 56*j + 40) 16) (BG _ _ _) (BG _ _ _))], nb10, sp4, cp4, ao9, zz9, ca9)) ⟨ZO, ZO, by rw [seQ_succ, ← hj3]; exact congrArg (fun x => rr ++ [x]) (sQ_eq _ _ _ _), (ha13).trans (by first | rfl | simp +arith), (ha14).trans (by first | rfl | omega), ZO, ZO, (fun h8 => (hq9 ZO).trans (by congr 1 <;> omega)), (fun w M h => hA9 w M (hj9 w M h)), ZO, ZO, ZO⟩ (by dsimp only; omega) (Sub.all rfl) rfl
    have hp30 := of_decide_eq_false hb30
    refine Z2 5 ?_
    have ei : m = j := by omega
    subst ei
    subst hj3
    subst haq
    refine BU (.inr (.inr (m, 4*m + 18 + 56*m, gs, sp2, cp2, gb, sp, cp, aa2, zz2, cc2))) ⟨hk1, ZO, hm2, ZO, hj5, hj6, hj7, hy2, hy3, hy4, hj8, hj9, hj10, hj11, hj12⟩ (Sub.all rfl) rfl
   refine Z2 9 ?_
   refine C3 (ι := Nat) (fun j => [(0, Ptr rb 0), (2, Ptr nb1 0), (3, Ptr nb2 0), (51, I64 m), (52, I64 j)]) (fun j => [(Ez rb [errV 50 (eQ z0 (4*m + 18)), SL aa zz.length cc] 204), (Ez nb1 (V4) 29), (Ez nb2 ([U64 (vQ z0 0 8), U64 (vQ z0 8 8), I64 (((vQ z0 16 1).toNat:Int)), Slc gb 0 m cp, SL none 0 0, U64 0] ++ cu8 (zr8 16)) 29), (Ez gb (cu64 (ixQ z0 18 m) ++ sp) 22)]) (fun j => j ≤ m) (fun j => m - j) 0 ZO (Sub.all rfl) rfl ?_
   rintro j hj1
   show JC _ _ _ [_, _, _, _, _] [_, _, _, _]
   refine Z2 6 ?_
   refine AX _ rfl (fun hb34 => ?_) (fun hb34 => ?_)
   ·
    have hp34 := of_decide_eq_true hb34
    refine Z2 12 ?_
    refine AY _ rfl (decide_eq_false (fun h => hk1 (kdn (k := 1) ZD h))) ?_
    refine CY (DH (AK (AO (AE (I64 ((j:Int) + 1)) (AT rfl rfl fun _ => BR _ _ ((j:Int) + 1) ZO ZO) rfl ?_))))
    refine Z2 1 ?_
    refine A1 (B5 (C1 (j + 1) ZO ZO (Sub.all rfl) rfl))
   have hp34 := of_decide_eq_false hb34
   refine JC_exit (DV (DV (JQ_in_same (DH (BU (.inr (.inl (m, 4*m + 18, gb, sp, cp, aa, zz, cc))) ⟨hk12.resolve_left hk1, rfl, hm2, ZO, hy2, hy3, hy4, hy5, hy6, hy7, hy8, hy9⟩ (Sub.all rfl) rfl)))))
  refine CY (DH (DZ [2, 0, 1] ZD ?_))
  show JQ _ _ _ _ [_, _, _]
  refine BU (.inl (0, 17, ao3, zz3, ca3)) ⟨.inr (bad0 hb10 hb15), hq3, (fun w M h => hA3 w M (hA2 w M (hA1 w M h))), ZO, ZO, ZO⟩ (Sub.all rfl) rfl
 rintro (⟨bl, pp, aa, zz, cc⟩ | ⟨m, pp, gb, sp, cp, aa, zz, cc⟩ | ⟨m, pp, gs, sp2, cp2, gb, sp, cp, aa, zz, cc⟩) hx
 ·
  obtain ⟨hu1, hu5, hu6, hu10, hu11, hu12⟩ := hx
  show JQ _ _ _ [_, _, _] [_, _, _]
  refine AK (A4 (Z8 90 3 [(0, Ptr nb2 6), (1, Slc nb2 6 16 16), (2, Ptr rb 0)] ?_))
  refine Z7 ⟨[], [0, 1, 2], [], [0, 1, 2], [3]⟩ 3 (hq := ⟨AA rfl rfl ZE, AA rfl rfl (B4 16 5 1 0 16 6 16 AZ AW rfl rfl rfl ZO ZO ZO ZO ZO 16 ZO), BM rfl rfl rfl, trivial⟩) (AL rfl (BE 127 _ [true, false, false] [rb] _ (AH _ Tryd.call127 rfl) rfl (fun w1 hw1 => rawA_w rb pp 16 aa zz.length cc z0 zz w1 (hw1.en 0 rfl) rfl ZO ZO ZO (hu6 _ _ (hr.at (M' := [rb]) hw1 (hw1.apart [0] _ rfl))) hu5 ZO))) ?_
  rintro v1 L1 ⟨_, ⟨ao10, zz10, ca10, hq10, ⟨hA10, hb35, hb36, hb37⟩, (⟨hg5, nb11, sp5, cp5, rfl, rfl, hc1, hc2, hc3⟩ | ⟨hg5, rfl, rfl⟩)⟩, rfl⟩
  ·
   refine ⟨[], ?_⟩
   show DP _ _ _ _ _ _ _ _ [_, _, _, _]
   refine Z6 ⟨[3], [0, 1, 2], [2], [0, 1], [4]⟩ 4 (hq := ⟨AA rfl rfl ZE, AA rfl rfl (B4 16 5 1 0 16 6 16 AZ AW rfl rfl rfl ZO ZO ZO ZO ZO 16 ZO), trivial⟩) (AL rfl (CP 43 43 5 1 nb2 6 16 16 (V2 (vQ z0 0 8) (vQ z0 8 8) (((vQ z0 16 1).toNat:Int)) none 0 0 none 0 0 bl (zr8 16)) 29 (some ⟨nb11, 0, none⟩) 16 cp5 16 (cu8 (bQ z0 pp 16)) (V2 (vQ z0 0 8) (vQ z0 8 8) (((vQ z0 16 1).toNat:Int)) none 0 0 none 0 0 bl (bQ z0 pp 16)) AM BZ rfl rfl rfl rfl (by simp [(show (bQ z0 pp 16).length = 16 from (BG _ _ _))]; try omega) (SrcAt.mem (A0 3 rfl (AU (AG _)))) (by simp [(AN 16)]; try omega) (by first | exact A6 | exact EF | exact EB | (simp [cu8, cu32, cu64, Value.oneCell']; done)) (DB 6 0 rfl rfl (AI (by simp [(AN 16), (show (bQ z0 pp 16).length = 16 from (BG _ _ _))]))))) ?_
   show DP _ _ _ _ _ _ _ _ [_, _, _, _]
   refine Z5 ⟨[3, 4], [0, 1, 2], [0, 1, 2], [], []⟩ ?_
   refine A9 (F' := [(0, Ptr rb 0), (2, Ptr nb1 0), (3, Ptr nb2 0)]) ZR ?_
   refine AK (A4 (A4 (AO (AE _ (AR rfl (BV CQ BH (by simp [(show (bQ z0 pp 16).length = 16 from (BG _ _ _))]) (A0 1 rfl (AG _)))) rfl ?_))))
   refine AC (AJ 128 _ (errV 50 (mayN (vQ z0 0 8) (vQ z0 8 8) (((vQ z0 16 1).toNat:Int)) ([] : List UInt64) ([] : List SealR) bl)) (AH _ Tryd.call128 rfl) (fun w1 hw1 => may13_c (vQ z0 0 8) (vQ z0 8 8) (((vQ z0 16 1).toNat:Int)) none 0 0 ([] : List UInt64) none 0 0 ([] : List SealR) bl (bQ z0 pp 16) w1 rfl ZO ZO ZO RdV.nil rfl ZO ZO ZO RdV.nil (show (bQ z0 pp 16).length = 16 from (BG _ _ _)))) rfl ?_
   show JL _ _ _ _ (_ :: _) [_, _, _, _]
   refine Z2 6 ?_
   refine AE (.bool (!(decide (mayN (vQ z0 0 8) (vQ z0 8 8) (((vQ z0 16 1).toNat:Int)) ([] : List UInt64) ([] : List SealR) bl = 0)))) (CG _ _ _ rfl rfl (fun _ => BL ..) fun _ => CW AV _ _) rfl ?_
   refine A1 (AK (AX _ rfl (fun hb38 => ?_) (fun hb38 => ?_)))
   ·
    have hb39 : (decide (mayN (vQ z0 0 8) (vQ z0 8 8) (((vQ z0 16 1).toNat:Int)) ([] : List UInt64) ([] : List SealR) bl = 0)) = false := by simpa using hb38
    have hp39 := of_decide_eq_false hb39
    refine Z2 3 ?_
    refine AF (C5 121 [Ptr rb 0, .iface 50 (I64 2)] 2 (Ez rb [errV 50 (eQ z0 (pp + 16)), SL ao10 zz10.length ca10] 204) _ (fun v e' l' => v = .tuple #[] ∧ e' = (Ez rb [errV 50 (erN (eQ z0 (pp + 16)) 2), SL ao10 zz10.length ca10] 204) ∧ l' = []) (AH _ DE rfl) rfl (by rintro v l ⟨rfl, rfl⟩; exact ⟨_, _, rfl, rfl, rfl, rfl, rfl⟩) (fun w1 hw1 => D5 rb (eQ z0 (pp + 16)) 2 (SL ao10 zz10.length ca10) w1 ZD (hw1.en 2 rfl))) rfl ?_
    rintro v1 L1 ⟨_, _, ⟨rfl, rfl, rfl⟩, rfl⟩
    show JL _ _ _ _ (_ :: _) [_, _, _, _]
    refine Z2 6 ?_
    refine AC (AJ 61 _ (I64 ((leftN (erN (eQ z0 (pp + 16)) 2) zz10.length:Int))) (AH _ C7 rfl) (fun w1 hw1 => left_w rb (erN (eQ z0 (pp + 16)) 2) ao10 zz10.length ca10 w1 (RdA.of hw1 (A0 2 rfl (AG _)) ZM))) rfl ?_
    show JL _ _ _ _ (_ :: _) [_, _, _, _]
    refine Z2 2 ?_
    refine AD 3 83 true _ _ rfl rfl (decide_eq_true (by rw [leftN, if_neg (EN ZD)]; rfl)) ZE rfl ?_
    refine B6 3 83 true _ rfl rfl (decide_eq_true (by rw [leftN, if_neg (EN ZD)]; rfl)) (AJ 63 _ (errV 50 (endN (erN (eQ z0 (pp + 16)) 2) zz10.length)) (AH _ DF rfl) (fun w1 hw1 => end_w rb (erN (eQ z0 (pp + 16)) 2) ao10 zz10.length ca10 w1 (RdA.of hw1 (A0 2 rfl (AG _)) ZM))) rfl ?_
    rintro v1 L1 ⟨rfl, rfl⟩
    show JL _ _ _ _ (_ :: _) [_, _, _, _]
    refine AD 3 83 true _ (.bool (!(decide (endN (erN (eQ z0 (pp + 16)) 2) zz10.length = 0)))) rfl rfl (decide_eq_true (by rw [leftN, if_neg (EN ZD)]; rfl)) (CG _ _ _ rfl rfl (fun _ => BL ..) fun _ => CW AV _ _) rfl ?_
    refine AE _ (CC _ rfl (decide_eq_true (by rw [leftN, if_neg (EN ZD)]; rfl)) rfl) rfl ?_
    refine A1 (AK (A7 _ rfl (bnotF (decide_eq_false (by rw [endN, if_neg (EN ZD)]; exact (EN ZD)))) ?_))
    refine A4 (AO (AE (.agg (V4).toArray) Ze rfl ?_))
    refine AC (AB 0 nb1 22 _ 29 (V4) rfl rfl rfl BH ZS (AQ ZC A6) ZS (AI ZS)) rfl ?_
    show JL _ _ _ _ _ [_, _, _, _]
    refine A1 (AK (CH (C2 (Z1 fun w1 hw1 => ?_))))
    rw [show erN (eQ z0 (pp + 16)) 2 = 2 by rw [E5 ‹pp + 16 ≤ z0.length›]; rfl] at hw1
    have hbq : BadQ z0 := by
     rcases hu1 with ⟨h3, rfl, rfl⟩ | ⟨hb, _⟩
     ·
      exact bad3 h3 (fun e => by exact (of_decide_eq_false hb39) e.2)
     exact hb
    rw [show errV 50 2 = errV 50 (eQ z0 (z0.length + 1)) by rw [DJ ZO]] at hw1
    exact ⟨_, _, rfl, ⟨_, _, _, 0, _, 0, _, _, _, _, ao10, zz10, ca10, _, _, _, none, 0, _, _, _, none, 0, FJ z0 hbq, rfl, rfl, (AN 16), ZO, ZO, (fun h => absurd h ZO), ⟨(fun w M h => hA10 w M (hu6 w M h)), ZO, ZO, ZO⟩, rfl, rfl, .inl rfl, ZO, ZX, .inl rfl, ZO, ZX⟩, CS hw1 2 0 1 rfl rfl rfl ZD ZD ZD⟩
   have hb40 : (decide (mayN (vQ z0 0 8) (vQ z0 8 8) (((vQ z0 16 1).toNat:Int)) ([] : List UInt64) ([] : List SealR) bl = 0)) = true := by simpa using hb38
   have hp40 := of_decide_eq_true hb40
   refine Z2 6 ?_
   refine AC (AJ 61 _ (I64 ((leftN (eQ z0 (pp + 16)) zz10.length:Int))) (AH _ C7 rfl) (fun w1 hw1 => left_w rb (eQ z0 (pp + 16)) ao10 zz10.length ca10 w1 (RdA.of hw1 (A0 2 rfl (AG _)) ZM))) rfl ?_
   show JL _ _ _ _ (_ :: _) [_, _, _, _]
   refine Z2 2 ?_
   rcases Bool.eq_false_or_eq_true (decide (((leftN (eQ z0 (pp + 16)) zz10.length:Int)) = (0:Int))) with hb41 | hb41
   ·
    have hp41 := of_decide_eq_true hb41
    refine Z2 1 ?_
    refine B6 3 83 true _ rfl rfl hb41 (AJ 63 _ (errV 50 (endN (eQ z0 (pp + 16)) zz10.length)) (AH _ DF rfl) (fun w1 hw1 => end_w rb (eQ z0 (pp + 16)) ao10 zz10.length ca10 w1 (RdA.of hw1 (A0 2 rfl (AG _)) ZM))) rfl ?_
    rintro v1 L1 ⟨rfl, rfl⟩
    show JL _ _ _ _ (_ :: _) [_, _, _, _]
    refine AD 3 83 true _ (.bool (!(decide (endN (eQ z0 (pp + 16)) zz10.length = 0)))) rfl rfl hb41 (CG _ _ _ rfl rfl (fun _ => BL ..) fun _ => CW AV _ _) rfl ?_
    refine Z2 3 ?_
    refine AY _ rfl (bnotT (decide_eq_true (by have h9 := of_decide_eq_true hb41; rw [E5 ‹pp + 16 ≤ z0.length›, leftN, if_pos rfl] at h9; rw [E5 ‹pp + 16 ≤ z0.length›, endN, if_pos rfl, if_pos ZO]))) ?_
    refine CY (AK (A4 (AO (AE _ (AR rfl (BV CQ BH (by simp [(show (bQ z0 pp 16).length = 16 from (BG _ _ _))]) (A0 1 rfl (AG _)))) rfl ?_))))
    refine AC (AB 0 nb1 22 _ 29 (V2 (vQ z0 0 8) (vQ z0 8 8) (((vQ z0 16 1).toNat:Int)) none 0 0 none 0 0 bl (bQ z0 pp 16)) rfl rfl rfl BH (by simp [(show (bQ z0 pp 16).length = 16 from (BG _ _ _))]) (AQ ZC A6) ZS (AI (by simp [(AN 16), (show (bQ z0 pp 16).length = 16 from (BG _ _ _))]))) rfl ?_
    show JL _ _ _ _ _ [_, _, _, _]
    refine A1 (AK (CH (DR (.agg (V2 (vQ z0 0 8) (vQ z0 8 8) (((vQ z0 16 1).toNat:Int)) none 0 0 none 0 0 bl (bQ z0 pp 16)).toArray) (res1 Tryd.results60 (EV rfl (BV CQ BH (by simp [(show (bQ z0 pp 16).length = 16 from (BG _ _ _))]) (A0 0 rfl (AG _))))) fun w1 hw1 => ?_)))
    rcases hu1 with ⟨h3, rfl, rfl⟩ | ⟨_, hm⟩
    ·
     rw [show 25 + 16 = 41 from rfl] at hw1
     exact ⟨_, _, rfl, ⟨_, _, _, 0, _, 0, _, _, _, _, ao10, zz10, ca10, _, _, _, none, 0, _, _, _, none, 0, .inl ⟨⟨h3, ZO, of_decide_eq_true hb40⟩, rfl, rfl, rfl, rfl, rfl, rfl, rfl, rfl⟩, rfl, rfl, (BG _ _ _), ZO, ZO, (fun h8 => (hq10 ZO).trans (by congr 1 <;> omega)), ⟨(fun w M h => hA10 w M (hu6 w M h)), ZO, ZO, ZO⟩, rfl, rfl, .inl rfl, ZO, ZX, .inl rfl, ZO, ZX⟩, CS hw1 2 0 1 rfl rfl rfl ZD ZD ZD⟩
    exact absurd (of_decide_eq_true hb40) hm
   have hp41 := of_decide_eq_false hb41
   refine Z2 6 ?_
   refine AY _ rfl rfl ?_
   refine CY (AK (A4 (AO (AE _ (AR rfl (BV CQ BH (by simp [(show (bQ z0 pp 16).length = 16 from (BG _ _ _))]) (A0 1 rfl (AG _)))) rfl ?_))))
   refine AC (AB 0 nb1 22 _ 29 (V2 (vQ z0 0 8) (vQ z0 8 8) (((vQ z0 16 1).toNat:Int)) none 0 0 none 0 0 bl (bQ z0 pp 16)) rfl rfl rfl BH (by simp [(show (bQ z0 pp 16).length = 16 from (BG _ _ _))]) (AQ ZC A6) ZS (AI (by simp [(AN 16), (show (bQ z0 pp 16).length = 16 from (BG _ _ _))]))) rfl ?_
   show JL _ _ _ _ _ [_, _, _, _]
   refine A1 (AK (CH (DR (.agg (V2 (vQ z0 0 8) (vQ z0 8 8) (((vQ z0 16 1).toNat:Int)) none 0 0 none 0 0 bl (bQ z0 pp 16)).toArray) (res1 Tryd.results60 (EV rfl (BV CQ BH (by simp [(show (bQ z0 pp 16).length = 16 from (BG _ _ _))]) (A0 0 rfl (AG _))))) fun w1 hw1 => ?_)))
   rcases hu1 with ⟨h3, rfl, rfl⟩ | ⟨_, hm⟩
   ·
    rw [show 25 + 16 = 41 from rfl] at hw1
    exact ⟨_, _, rfl, ⟨_, _, _, 0, _, 0, _, _, _, _, ao10, zz10, ca10, _, _, _, none, 0, _, _, _, none, 0, .inl ⟨⟨h3, ZO, of_decide_eq_true hb40⟩, rfl, rfl, rfl, rfl, rfl, rfl, rfl, rfl⟩, rfl, rfl, (BG _ _ _), ZO, ZO, (fun h8 => (hq10 ZO).trans (by congr 1 <;> omega)), ⟨(fun w M h => hA10 w M (hu6 w M h)), ZO, ZO, ZO⟩, rfl, rfl, .inl rfl, ZO, ZX, .inl rfl, ZO, ZX⟩, CS hw1 2 0 1 rfl rfl rfl ZD ZD ZD⟩
   exact absurd (of_decide_eq_true hb40) hm
  refine ⟨[], ?_⟩
  show DP _ _ _ _ _ _ _ _ [_, _, _]
  refine Z6 ⟨[3], [0, 1, 2], [2], [0, 1], [4]⟩ 4 (hq := ⟨AA rfl rfl ZE, AA rfl rfl (B4 16 5 1 0 16 6 16 AZ AW rfl rfl rfl ZO ZO ZO ZO ZO 16 ZO), trivial⟩) (AL rfl (CP 43 43 5 1 nb2 6 16 16 (V2 (vQ z0 0 8) (vQ z0 8 8) (((vQ z0 16 1).toNat:Int)) none 0 0 none 0 0 bl (zr8 16)) 29 none 0 0 0 [] (V2 (vQ z0 0 8) (vQ z0 8 8) (((vQ z0 16 1).toNat:Int)) none 0 0 none 0 0 bl (zr8 16)) AM BZ rfl rfl rfl rfl rfl SrcAt.nil ZS ES (ET _ _))) ?_
  show DP _ _ _ _ _ _ _ _ [_, _, _]
  refine Z5 ⟨[3, 4], [0, 1, 2], [0, 1, 2], [], []⟩ ?_
  refine A9 (F' := [(0, Ptr rb 0), (2, Ptr nb1 0), (3, Ptr nb2 0)]) ZR ?_
  refine Z2 5 ?_
  refine AC (AJ 128 _ (errV 50 (mayN (vQ z0 0 8) (vQ z0 8 8) (((vQ z0 16 1).toNat:Int)) ([] : List UInt64) ([] : List SealR) bl)) (AH _ Tryd.call128 rfl) (fun w1 hw1 => may13_c (vQ z0 0 8) (vQ z0 8 8) (((vQ z0 16 1).toNat:Int)) none 0 0 ([] : List UInt64) none 0 0 ([] : List SealR) bl (zr8 16) w1 rfl ZO ZO ZO RdV.nil rfl ZO ZO ZO RdV.nil (AN 16))) rfl ?_
  show JL _ _ _ _ (_ :: _) [_, _, _]
  refine Z2 6 ?_
  refine AE (.bool (!(decide (mayN (vQ z0 0 8) (vQ z0 8 8) (((vQ z0 16 1).toNat:Int)) ([] : List UInt64) ([] : List SealR) bl = 0)))) (CG _ _ _ rfl rfl (fun _ => BL ..) fun _ => CW AV _ _) rfl ?_
  refine A1 (AK (ED (ι := Option Addr × List UInt8 × Nat) (fun ⟨ab, zb, cb⟩ => [(0, Ptr rb 0), (2, Ptr nb1 0), (3, Ptr nb2 0)]) (fun ⟨ab, zb, cb⟩ => [(Ez rb [errV 50 2, SL ab zb.length cb] 204), (Ez nb1 (V4) 29), (Ez nb2 (V2 (vQ z0 0 8) (vQ z0 8 8) (((vQ z0 16 1).toNat:Int)) none 0 0 none 0 0 bl (zr8 16)) 29)]) (fun ⟨ab, zb, cb⟩ => (∀ w M, RdB w M ao z → RdB w M ab zb) ∧ zb.length ≤ cb ∧ cb ≤ maxLen ∧ zb.length ≤ n) ?_ ?_))
  ·
   refine AX _ rfl (fun hb42 => ?_) (fun hb42 => ?_)
   ·
    have hb43 : (decide (mayN (vQ z0 0 8) (vQ z0 8 8) (((vQ z0 16 1).toNat:Int)) ([] : List UInt64) ([] : List SealR) bl = 0)) = false := by simpa using hb42
    have hp43 := of_decide_eq_false hb43
    refine Z2 3 ?_
    refine AF (C5 121 [Ptr rb 0, .iface 50 (I64 2)] 2 (Ez rb [errV 50 (eQ z0 (pp + 16)), SL ao10 zz10.length ca10] 204) _ (fun v e' l' => v = .tuple #[] ∧ e' = (Ez rb [errV 50 (erN (eQ z0 (pp + 16)) 2), SL ao10 zz10.length ca10] 204) ∧ l' = []) (AH _ DE rfl) rfl (by rintro v l ⟨rfl, rfl⟩; exact ⟨_, _, rfl, rfl, rfl, rfl, rfl⟩) (fun w1 hw1 => D5 rb (eQ z0 (pp + 16)) 2 (SL ao10 zz10.length ca10) w1 ZD (hw1.en 2 rfl))) rfl ?_
    rintro v1 L1 ⟨_, _, ⟨rfl, rfl, rfl⟩, rfl⟩
    show JL _ _ _ _ (_ :: _) [_, _, _]
    refine A1 ?_
    rw [show erN (eQ z0 (pp + 16)) 2 = 2 by rw [DJ ‹¬ pp + 16 ≤ z0.length›]; rfl]
    refine DZ [2, 0, 1] ZD ?_
    show JQ _ _ _ _ [_, _, _]
    refine BU ((ao10, zz10, ca10)) ⟨(fun w M h => hA10 w M (hu6 w M h)), ZO, ZO, ZO⟩ (Sub.all rfl) rfl
   have hb44 : (decide (mayN (vQ z0 0 8) (vQ z0 8 8) (((vQ z0 16 1).toNat:Int)) ([] : List UInt64) ([] : List SealR) bl = 0)) = true := by simpa using hb42
   have hp44 := of_decide_eq_true hb44
   refine CY ?_
   rw [show eQ z0 (pp + 16) = 2 by rw [DJ ‹¬ pp + 16 ≤ z0.length›]]
   refine DZ [2, 0, 1] ZD ?_
   show JQ _ _ _ _ [_, _, _]
   refine BU ((ao10, zz10, ca10)) ⟨(fun w M h => hA10 w M (hu6 w M h)), ZO, ZO, ZO⟩ (Sub.all rfl) rfl
  rintro ⟨ab, zb, cb⟩ hx
  obtain ⟨hbA, hbb1, hbb2, hbb3⟩ := hx
  show JQ _ _ _ [_, _, _] [_, _, _]
  refine Z2 5 ?_
  refine AC (AJ 61 _ (I64 ((leftN 2 zb.length:Int))) (AH _ C7 rfl) (fun w1 hw1 => left_w rb 2 ab zb.length cb w1 (RdA.of hw1 (A0 0 rfl (AG _)) ZM))) rfl ?_
  show JL _ _ _ _ (_ :: _) [_, _, _]
  refine Z2 2 ?_
  refine AD 3 83 true _ _ rfl rfl (decide_eq_true (by rw [leftN, if_neg ZD]; rfl)) ZE rfl ?_
  refine B6 3 83 true _ rfl rfl (decide_eq_true (by rw [leftN, if_neg ZD]; rfl)) (AJ 63 _ (errV 50 (endN 2 zb.length)) (AH _ DF rfl) (fun w1 hw1 => end_w rb 2 ab zb.length cb w1 (RdA.of hw1 (A0 0 rfl (AG _)) ZM))) rfl ?_
  rintro v1 L1 ⟨rfl, rfl⟩
  show JL _ _ _ _ (_ :: _) [_, _, _]
  refine AD 3 83 true _ (.bool (!(decide (endN 2 zb.length = 0)))) rfl rfl (decide_eq_true (by rw [leftN, if_neg ZD]; rfl)) (CG _ _ _ rfl rfl (fun _ => BL ..) fun _ => CW AV _ _) rfl ?_
  refine AE _ (CC _ rfl (decide_eq_true (by rw [leftN, if_neg ZD]; rfl)) rfl) rfl ?_
  refine A1 (AK (A7 _ rfl (bnotF (decide_eq_false (by rw [endN, if_neg ZD]; exact ZD))) ?_))
  refine A4 (AO (AE (.agg (V4).toArray) Ze rfl ?_))
  refine AC (AB 1 nb1 22 _ 29 (V4) rfl rfl rfl BH ZS (AQ ZC A6) ZS (AI ZS)) rfl ?_
  show JL _ _ _ _ _ [_, _, _]
  refine Z2 4 ?_
  refine Z1 fun w1 hw1 => ?_
  have hbq : BadQ z0 := by
   rcases hu1 with ⟨h3, rfl, rfl⟩ | ⟨hb, _⟩
   ·
    exact bad3 h3 (fun e => by have := e.1; omega)
   exact hb
  rw [show errV 50 2 = errV 50 (eQ z0 (z0.length + 1)) by rw [DJ ZO]] at hw1
  exact ⟨_, _, rfl, ⟨_, _, _, 0, _, 0, _, _, _, _, ab, zb, cb, _, _, _, none, 0, _, _, _, none, 0, FJ z0 hbq, rfl, rfl, (AN 16), ZO, ZO, (fun h => absurd h ZO), ⟨hbA, ZO, ZO, ZO⟩, rfl, rfl, .inl rfl, ZO, ZX, .inl rfl, ZO, ZX⟩, CS hw1 0 1 2 rfl rfl rfl ZD ZD ZD⟩
 ·
  obtain ⟨hk, hpp, hm2, hm3, hu2, hu3, hu4, hu5, hu6, hu10, hu11, hu12⟩ := hx
  show JQ _ _ _ [_, _, _] [_, _, _, _]
  refine AK (A4 (Z8 90 3 [(0, Ptr nb2 6), (1, Slc nb2 6 16 16), (2, Ptr rb 0)] ?_))
  refine Z7 ⟨[], [0, 1, 2], [], [0, 1, 2], [3]⟩ 3 (hq := ⟨AA rfl rfl ZE, AA rfl rfl (B4 16 5 1 0 16 6 16 AZ AW rfl rfl rfl ZO ZO ZO ZO ZO 16 ZO), BM rfl rfl rfl, trivial⟩) (AL rfl (BE 127 _ [true, false, false, false] [rb] _ (AH _ Tryd.call127 rfl) rfl (fun w1 hw1 => rawA_w rb pp 16 aa zz.length cc z0 zz w1 (hw1.en 0 rfl) rfl ZO ZO ZO (hu6 _ _ (hr.at (M' := [rb]) hw1 (hw1.apart [0] _ rfl))) hu5 ZO))) ?_
  rintro v1 L1 ⟨_, ⟨ao11, zz11, ca11, hq11, ⟨hA11, hb45, hb46, hb47⟩, (⟨hg6, nb12, sp6, cp6, rfl, rfl, hc4, hc5, hc6⟩ | ⟨hg6, rfl, rfl⟩)⟩, rfl⟩
  ·
   refine ⟨[], ?_⟩
   show DP _ _ _ _ _ _ _ _ [_, _, _, _, _]
   refine Z6 ⟨[3], [0, 1, 2], [2], [0, 1], [4]⟩ 4 (hq := ⟨AA rfl rfl ZE, AA rfl rfl (B4 16 5 1 0 16 6 16 AZ AW rfl rfl rfl ZO ZO ZO ZO ZO 16 ZO), trivial⟩) (AL rfl (CP 43 43 5 1 nb2 6 16 16 ([U64 (vQ z0 0 8), U64 (vQ z0 8 8), I64 (((vQ z0 16 1).toNat:Int)), Slc gb 0 m cp, SL none 0 0, U64 0] ++ cu8 (zr8 16)) 29 (some ⟨nb12, 0, none⟩) 16 cp6 16 (cu8 (bQ z0 pp 16)) ([U64 (vQ z0 0 8), U64 (vQ z0 8 8), I64 (((vQ z0 16 1).toNat:Int)), Slc gb 0 m cp, SL none 0 0, U64 0] ++ cu8 (bQ z0 pp 16)) AM BZ rfl rfl rfl rfl (by simp [(show (bQ z0 pp 16).length = 16 from (BG _ _ _))]; try omega) (SrcAt.mem (A0 4 rfl (AU (AG _)))) (by simp [(AN 16)]; try omega) (by first | exact A6 | exact EF | exact EB | (simp [cu8, cu32, cu64, Value.oneCell']; done)) (DB 6 0 rfl rfl (AI (by simp [(AN 16), (show (bQ z0 pp 16).length = 16 from (BG _ _ _))]))))) ?_
   show DP _ _ _ _ _ _ _ _ [_, _, _, _, _]
   refine Z5 ⟨[3, 4], [0, 1, 2], [0, 1, 2], [], []⟩ ?_
   refine A9 (F' := [(0, Ptr rb 0), (2, Ptr nb1 0), (3, Ptr nb2 0)]) ZR ?_
   refine AK (A4 (A4 (AO (AE _ (AR rfl (BV CQ BH (by simp [(show (bQ z0 pp 16).length = 16 from (BG _ _ _))]) (A0 1 rfl (AG _)))) rfl ?_))))
   refine AC (AJ 128 _ (errV 50 (mayN (vQ z0 0 8) (vQ z0 8 8) (((vQ z0 16 1).toNat:Int)) (ixQ z0 18 m) ([] : List SealR) (0:UInt64))) (AH _ Tryd.call128 rfl) (fun w1 hw1 => may13_c (vQ z0 0 8) (vQ z0 8 8) (((vQ z0 16 1).toNat:Int)) (some ⟨gb, 0, none⟩) m cp (ixQ z0 18 m) none 0 0 ([] : List SealR) (0:UInt64) (bQ z0 pp 16) w1 (E7 _ _ _) ZO ZO ZO (RdV.of hw1 (A0 2 rfl (AU (AG _)))) rfl ZO ZO ZO RdV.nil (show (bQ z0 pp 16).length = 16 from (BG _ _ _)))) rfl ?_
   show JL _ _ _ _ (_ :: _) [_, _, _, _, _]
   refine Z2 6 ?_
   refine AE (.bool (!(decide (mayN (vQ z0 0 8) (vQ z0 8 8) (((vQ z0 16 1).toNat:Int)) (ixQ z0 18 m) ([] : List SealR) (0:UInt64) = 0)))) (CG _ _ _ rfl rfl (fun _ => BL ..) fun _ => CW AV _ _) rfl ?_
   refine A1 (AK (AX _ rfl (fun hb48 => ?_) (fun hb48 => ?_)))
   ·
    have hb49 : (decide (mayN (vQ z0 0 8) (vQ z0 8 8) (((vQ z0 16 1).toNat:Int)) (ixQ z0 18 m) ([] : List SealR) (0:UInt64) = 0)) = false := by simpa using hb48
    have hp49 := of_decide_eq_false hb49
    refine Z2 3 ?_
    refine AF (C5 121 [Ptr rb 0, .iface 50 (I64 2)] 3 (Ez rb [errV 50 (eQ z0 (pp + 16)), SL ao11 zz11.length ca11] 204) _ (fun v e' l' => v = .tuple #[] ∧ e' = (Ez rb [errV 50 (erN (eQ z0 (pp + 16)) 2), SL ao11 zz11.length ca11] 204) ∧ l' = []) (AH _ DE rfl) rfl (by rintro v l ⟨rfl, rfl⟩; exact ⟨_, _, rfl, rfl, rfl, rfl, rfl⟩) (fun w1 hw1 => D5 rb (eQ z0 (pp + 16)) 2 (SL ao11 zz11.length ca11) w1 ZD (hw1.en 3 rfl))) rfl ?_
    rintro v1 L1 ⟨_, _, ⟨rfl, rfl, rfl⟩, rfl⟩
    show JL _ _ _ _ (_ :: _) [_, _, _, _, _]
    refine Z2 6 ?_
    refine AC (AJ 61 _ (I64 ((leftN (erN (eQ z0 (pp + 16)) 2) zz11.length:Int))) (AH _ C7 rfl) (fun w1 hw1 => left_w rb (erN (eQ z0 (pp + 16)) 2) ao11 zz11.length ca11 w1 (RdA.of hw1 (A0 3 rfl (AG _)) ZM))) rfl ?_
    show JL _ _ _ _ (_ :: _) [_, _, _, _, _]
    refine Z2 2 ?_
    refine AD 3 83 true _ _ rfl rfl (decide_eq_true (by rw [leftN, if_neg (EN ZD)]; rfl)) ZE rfl ?_
    refine B6 3 83 true _ rfl rfl (decide_eq_true (by rw [leftN, if_neg (EN ZD)]; rfl)) (AJ 63 _ (errV 50 (endN (erN (eQ z0 (pp + 16)) 2) zz11.length)) (AH _ DF rfl) (fun w1 hw1 => end_w rb (erN (eQ z0 (pp + 16)) 2) ao11 zz11.length ca11 w1 (RdA.of hw1 (A0 3 rfl (AG _)) ZM))) rfl ?_
    rintro v1 L1 ⟨rfl, rfl⟩
    show JL _ _ _ _ (_ :: _) [_, _, _, _, _]
    refine AD 3 83 true _ (.bool (!(decide (endN (erN (eQ z0 (pp + 16)) 2) zz11.length = 0)))) rfl rfl (decide_eq_true (by rw [leftN, if_neg (EN ZD)]; rfl)) (CG _ _ _ rfl rfl (fun _ => BL ..) fun _ => CW AV _ _) rfl ?_
    refine AE _ (CC _ rfl (decide_eq_true (by rw [leftN, if_neg (EN ZD)]; rfl)) rfl) rfl ?_
    refine A1 (AK (A7 _ rfl (bnotF (decide_eq_false (by rw [endN, if_neg (EN ZD)]; exact (EN ZD)))) ?_))
    refine A4 (AO (AE (.agg (V4).toArray) Ze rfl ?_))
    refine AC (AB 0 nb1 22 _ 29 (V4) rfl rfl rfl BH ZS (AQ ZC A6) ZS (AI ZS)) rfl ?_
    show JL _ _ _ _ _ [_, _, _, _, _]
    refine A1 (AK (CH (C2 (Z1 fun w1 hw1 => ?_))))
    rw [show erN (eQ z0 (pp + 16)) 2 = 2 by rw [E5 ‹pp + 16 ≤ z0.length›]; rfl] at hw1
    have hbq : BadQ z0 := by
     rcases hm3 with hm | hm
     ·
      subst hm
      exact bad2 hk (fun e => by exact (of_decide_eq_false hb49) e.2)
     exact bad2 hk (fun e => by have := e.1; omega)
    rw [show errV 50 2 = errV 50 (eQ z0 (z0.length + 1)) by rw [DJ ZO]] at hw1
    exact ⟨_, _, rfl, ⟨_, _, _, 0, _, 0, _, _, _, _, ao11, zz11, ca11, _, _, _, none, 0, _, _, _, none, 0, FJ z0 hbq, rfl, rfl, (AN 16), ZO, ZO, (fun h => absurd h ZO), ⟨(fun w M h => hA11 w M (hu6 w M h)), ZO, ZO, ZO⟩, rfl, rfl, .inl rfl, ZO, ZX, .inl rfl, ZO, ZX⟩, CS hw1 3 0 1 rfl rfl rfl ZD ZD ZD⟩
   have hb50 : (decide (mayN (vQ z0 0 8) (vQ z0 8 8) (((vQ z0 16 1).toNat:Int)) (ixQ z0 18 m) ([] : List SealR) (0:UInt64) = 0)) = true := by simpa using hb48
   have hp50 := of_decide_eq_true hb50
   refine Z2 6 ?_
   refine AC (AJ 61 _ (I64 ((leftN (eQ z0 (pp + 16)) zz11.length:Int))) (AH _ C7 rfl) (fun w1 hw1 => left_w rb (eQ z0 (pp + 16)) ao11 zz11.length ca11 w1 (RdA.of hw1 (A0 3 rfl (AG _)) ZM))) rfl ?_
   show JL _ _ _ _ (_ :: _) [_, _, _, _, _]
   refine Z2 2 ?_
   rcases Bool.eq_false_or_eq_true (decide (((leftN (eQ z0 (pp + 16)) zz11.length:Int)) = (0:Int))) with hb51 | hb51
   ·
    have hp51 := of_decide_eq_true hb51
    refine Z2 1 ?_
    refine B6 3 83 true _ rfl rfl hb51 (AJ 63 _ (errV 50 (endN (eQ z0 (pp + 16)) zz11.length)) (AH _ DF rfl) (fun w1 hw1 => end_w rb (eQ z0 (pp + 16)) ao11 zz11.length ca11 w1 (RdA.of hw1 (A0 3 rfl (AG _)) ZM))) rfl ?_
    rintro v1 L1 ⟨rfl, rfl⟩
    show JL _ _ _ _ (_ :: _) [_, _, _, _, _]
    refine AD 3 83 true _ (.bool (!(decide (endN (eQ z0 (pp + 16)) zz11.length = 0)))) rfl rfl hb51 (CG _ _ _ rfl rfl (fun _ => BL ..) fun _ => CW AV _ _) rfl ?_
    refine Z2 3 ?_
    refine AY _ rfl (bnotT (decide_eq_true (by have h9 := of_decide_eq_true hb51; rw [E5 ‹pp + 16 ≤ z0.length›, leftN, if_pos rfl] at h9; rw [E5 ‹pp + 16 ≤ z0.length›, endN, if_pos rfl, if_pos ZO]))) ?_
    refine CY (AK (A4 (AO (AE _ (AR rfl (BV CQ BH (by simp [(show (bQ z0 pp 16).length = 16 from (BG _ _ _))]) (A0 1 rfl (AG _)))) rfl ?_))))
    refine AC (AB 0 nb1 22 _ 29 ([U64 (vQ z0 0 8), U64 (vQ z0 8 8), I64 (((vQ z0 16 1).toNat:Int)), Slc gb 0 m cp, SL none 0 0, U64 0] ++ cu8 (bQ z0 pp 16)) rfl rfl rfl BH (by simp [(show (bQ z0 pp 16).length = 16 from (BG _ _ _))]) (AQ ZC A6) ZS (AI (by simp [(AN 16), (show (bQ z0 pp 16).length = 16 from (BG _ _ _))]))) rfl ?_
    show JL _ _ _ _ _ [_, _, _, _, _]
    refine A1 (AK (CH (DR (.agg ([U64 (vQ z0 0 8), U64 (vQ z0 8 8), I64 (((vQ z0 16 1).toNat:Int)), Slc gb 0 m cp, SL none 0 0, U64 0] ++ cu8 (bQ z0 pp 16)).toArray) (res1 Tryd.results60 (EV rfl (BV CQ BH (by simp [(show (bQ z0 pp 16).length = 16 from (BG _ _ _))]) (A0 0 rfl (AG _))))) fun w1 hw1 => ?_)))
    obtain rfl : m = mQ z0 := by omega
    subst hpp
    rw [show 4*mQ z0 + 18 + 16 = 4*mQ z0 + 34 from rfl] at hw1
    exact ⟨_, _, rfl, ⟨_, _, _, (mQ z0), _, 0, _, _, _, _, ao11, zz11, ca11, _, _, _, (some ⟨gb, 0, none⟩), cp, _, _, _, none, 0, .inr (.inl ⟨⟨hk, ZO, of_decide_eq_true hb50⟩, rfl, rfl, rfl, rfl, rfl, rfl, rfl, rfl⟩), E7 _ _ _, rfl, (BG _ _ _), ZO, ZO, (fun h8 => (hq11 ZO).trans (by congr 1 <;> omega)), ⟨(fun w M h => hA11 w M (hu6 w M h)), ZO, ZO, ZO⟩, rfl, rfl, .inr ⟨rfl, _, rfl⟩, hu3, hu4, .inl rfl, ZO, ZX⟩, CS hw1 3 2 0 rfl rfl rfl ZD ZD ZD⟩
   have hp51 := of_decide_eq_false hb51
   refine Z2 6 ?_
   refine AY _ rfl rfl ?_
   refine CY (AK (A4 (AO (AE _ (AR rfl (BV CQ BH (by simp [(show (bQ z0 pp 16).length = 16 from (BG _ _ _))]) (A0 1 rfl (AG _)))) rfl ?_))))
   refine AC (AB 0 nb1 22 _ 29 ([U64 (vQ z0 0 8), U64 (vQ z0 8 8), I64 (((vQ z0 16 1).toNat:Int)), Slc gb 0 m cp, SL none 0 0, U64 0] ++ cu8 (bQ z0 pp 16)) rfl rfl rfl BH (by simp [(show (bQ z0 pp 16).length = 16 from (BG _ _ _))]) (AQ ZC A6) ZS (AI (by simp [(AN 16), (show (bQ z0 pp 16).length = 16 from (BG _ _ _))]))) rfl ?_
   show JL _ _ _ _ _ [_, _, _, _, _]
   refine A1 (AK (CH (DR (.agg ([U64 (vQ z0 0 8), U64 (vQ z0 8 8), I64 (((vQ z0 16 1).toNat:Int)), Slc gb 0 m cp, SL none 0 0, U64 0] ++ cu8 (bQ z0 pp 16)).toArray) (res1 Tryd.results60 (EV rfl (BV CQ BH (by simp [(show (bQ z0 pp 16).length = 16 from (BG _ _ _))]) (A0 0 rfl (AG _))))) fun w1 hw1 => ?_)))
   obtain rfl : m = mQ z0 := by omega
   subst hpp
   rw [show 4*mQ z0 + 18 + 16 = 4*mQ z0 + 34 from rfl] at hw1
   exact ⟨_, _, rfl, ⟨_, _, _, (mQ z0), _, 0, _, _, _, _, ao11, zz11, ca11, _, _, _, (some ⟨gb, 0, none⟩), cp, _, _, _, none, 0, .inr (.inl ⟨⟨hk, ZO, of_decide_eq_true hb50⟩, rfl, rfl, rfl, rfl, rfl, rfl, rfl, rfl⟩), E7 _ _ _, rfl, (BG _ _ _), ZO, ZO, (fun h8 => (hq11 ZO).trans (by congr 1 <;> omega)), ⟨(fun w M h => hA11 w M (hu6 w M h)), ZO, ZO, ZO⟩, rfl, rfl, .inr ⟨rfl, _, rfl⟩, hu3, hu4, .inl rfl, ZO, ZX⟩, CS hw1 3 2 0 rfl rfl rfl ZD ZD ZD⟩
  refine ⟨[], ?_⟩
  show DP _ _ _ _ _ _ _ _ [_, _, _, _]
  refine Z6 ⟨[3], [0, 1, 2], [2], [0, 1], [4]⟩ 4 (hq := ⟨AA rfl rfl ZE, AA rfl rfl (B4 16 5 1 0 16 6 16 AZ AW rfl rfl rfl ZO ZO ZO ZO ZO 16 ZO), trivial⟩) (AL rfl (CP 43 43 5 1 nb2 6 16 16 ([U64 (vQ z0 0 8), U64 (vQ z0 8 8), I64 (((vQ z0 16 1).toNat:Int)), Slc gb 0 m cp, SL none 0 0, U64 0] ++ cu8 (zr8 16)) 29 none 0 0 0 [] ([U64 (vQ z0 0 8), U64 (vQ z0 8 8), I64 (((vQ z0 16 1).toNat:Int)), Slc gb 0 m cp, SL none 0 0, U64 0] ++ cu8 (zr8 16)) AM BZ rfl rfl rfl rfl rfl SrcAt.nil ZS ES (ET _ _))) ?_
  show DP _ _ _ _ _ _ _ _ [_, _, _, _]
  refine Z5 ⟨[3, 4], [0, 1, 2], [0, 1, 2], [], []⟩ ?_
  refine A9 (F' := [(0, Ptr rb 0), (2, Ptr nb1 0), (3, Ptr nb2 0)]) ZR ?_
  refine Z2 5 ?_
  refine AC (AJ 128 _ (errV 50 (mayN (vQ z0 0 8) (vQ z0 8 8) (((vQ z0 16 1).toNat:Int)) (ixQ z0 18 m) ([] : List SealR) (0:UInt64))) (AH _ Tryd.call128 rfl) (fun w1 hw1 => may13_c (vQ z0 0 8) (vQ z0 8 8) (((vQ z0 16 1).toNat:Int)) (some ⟨gb, 0, none⟩) m cp (ixQ z0 18 m) none 0 0 ([] : List SealR) (0:UInt64) (zr8 16) w1 (E7 _ _ _) ZO ZO ZO (RdV.of hw1 (A0 2 rfl (AU (AG _)))) rfl ZO ZO ZO RdV.nil (AN 16))) rfl ?_
  show JL _ _ _ _ (_ :: _) [_, _, _, _]
  refine Z2 6 ?_
  refine AE (.bool (!(decide (mayN (vQ z0 0 8) (vQ z0 8 8) (((vQ z0 16 1).toNat:Int)) (ixQ z0 18 m) ([] : List SealR) (0:UInt64) = 0)))) (CG _ _ _ rfl rfl (fun _ => BL ..) fun _ => CW AV _ _) rfl ?_
  refine A1 (AK (ED (ι := Option Addr × List UInt8 × Nat) (fun ⟨ab, zb, cb⟩ => [(0, Ptr rb 0), (2, Ptr nb1 0), (3, Ptr nb2 0)]) (fun ⟨ab, zb, cb⟩ => [(Ez rb [errV 50 2, SL ab zb.length cb] 204), (Ez nb1 (V4) 29), (Ez nb2 ([U64 (vQ z0 0 8), U64 (vQ z0 8 8), I64 (((vQ z0 16 1).toNat:Int)), Slc gb 0 m cp, SL none 0 0, U64 0] ++ cu8 (zr8 16)) 29)]) (fun ⟨ab, zb, cb⟩ => (∀ w M, RdB w M ao z → RdB w M ab zb) ∧ zb.length ≤ cb ∧ cb ≤ maxLen ∧ zb.length ≤ n) ?_ ?_))
  ·
   refine AX _ rfl (fun hb52 => ?_) (fun hb52 => ?_)
   ·
    have hb53 : (decide (mayN (vQ z0 0 8) (vQ z0 8 8) (((vQ z0 16 1).toNat:Int)) (ixQ z0 18 m) ([] : List SealR) (0:UInt64) = 0)) = false := by simpa using hb52
    have hp53 := of_decide_eq_false hb53
    refine Z2 3 ?_
    refine AF (C5 121 [Ptr rb 0, .iface 50 (I64 2)] 3 (Ez rb [errV 50 (eQ z0 (pp + 16)), SL ao11 zz11.length ca11] 204) _ (fun v e' l' => v = .tuple #[] ∧ e' = (Ez rb [errV 50 (erN (eQ z0 (pp + 16)) 2), SL ao11 zz11.length ca11] 204) ∧ l' = []) (AH _ DE rfl) rfl (by rintro v l ⟨rfl, rfl⟩; exact ⟨_, _, rfl, rfl, rfl, rfl, rfl⟩) (fun w1 hw1 => D5 rb (eQ z0 (pp + 16)) 2 (SL ao11 zz11.length ca11) w1 ZD (hw1.en 3 rfl))) rfl ?_
    rintro v1 L1 ⟨_, _, ⟨rfl, rfl, rfl⟩, rfl⟩
    show JL _ _ _ _ (_ :: _) [_, _, _, _]
    refine A1 ?_
    rw [show erN (eQ z0 (pp + 16)) 2 = 2 by rw [DJ ‹¬ pp + 16 ≤ z0.length›]; rfl]
    refine DZ [3, 0, 1] ZD ?_
    show JQ _ _ _ _ [_, _, _]
    refine BU ((ao11, zz11, ca11)) ⟨(fun w M h => hA11 w M (hu6 w M h)), ZO, ZO, ZO⟩ (Sub.all rfl) rfl
   have hb54 : (decide (mayN (vQ z0 0 8) (vQ z0 8 8) (((vQ z0 16 1).toNat:Int)) (ixQ z0 18 m) ([] : List SealR) (0:UInt64) = 0)) = true := by simpa using hb52
   have hp54 := of_decide_eq_true hb54
   refine CY ?_
   rw [show eQ z0 (pp + 16) = 2 by rw [DJ ‹¬ pp + 16 ≤ z0.length›]]
   refine DZ [3, 0, 1] ZD ?_
   show JQ _ _ _ _ [_, _, _]
   refine BU ((ao11, zz11, ca11)) ⟨(fun w M h => hA11 w M (hu6 w M h)), ZO, ZO, ZO⟩ (Sub.all rfl) rfl
  rintro ⟨ab, zb, cb⟩ hx
  obtain ⟨hbA, hbb1, hbb2, hbb3⟩ := hx
  show JQ _ _ _ [_, _, _] [_, _, _]
  refine Z2 5 ?_
  refine AC (AJ 61 _ (I64 ((leftN 2 zb.length:Int))) (AH _ C7 rfl) (fun w1 hw1 => left_w rb 2 ab zb.length cb w1 (RdA.of hw1 (A0 0 rfl (AG _)) ZM))) rfl ?_
  show JL _ _ _ _ (_ :: _) [_, _, _]
  refine Z2 2 ?_
  refine AD 3 83 true _ _ rfl rfl (decide_eq_true (by rw [leftN, if_neg ZD]; rfl)) ZE rfl ?_
  refine B6 3 83 true _ rfl rfl (decide_eq_true (by rw [leftN, if_neg ZD]; rfl)) (AJ 63 _ (errV 50 (endN 2 zb.length)) (AH _ DF rfl) (fun w1 hw1 => end_w rb 2 ab zb.length cb w1 (RdA.of hw1 (A0 0 rfl (AG _)) ZM))) rfl ?_
  rintro v1 L1 ⟨rfl, rfl⟩
  show JL _ _ _ _ (_ :: _) [_, _, _]
  refine AD 3 83 true _ (.bool (!(decide (endN 2 zb.length = 0)))) rfl rfl (decide_eq_true (by rw [leftN, if_neg ZD]; rfl)) (CG _ _ _ rfl rfl (fun _ => BL ..) fun _ => CW AV _ _) rfl ?_
  refine AE _ (CC _ rfl (decide_eq_true (by rw [leftN, if_neg ZD]; rfl)) rfl) rfl ?_
  refine A1 (AK (A7 _ rfl (bnotF (decide_eq_false (by rw [endN, if_neg ZD]; exact ZD))) ?_))
  refine A4 (AO (AE (.agg (V4).toArray) Ze rfl ?_))
  refine AC (AB 1 nb1 22 _ 29 (V4) rfl rfl rfl BH ZS (AQ ZC A6) ZS (AI ZS)) rfl ?_
  show JL _ _ _ _ _ [_, _, _]
  refine Z2 4 ?_
  refine Z1 fun w1 hw1 => ?_
  have hbq : BadQ z0 := by
   rcases hm3 with hm | hm
   ·
    subst hm
    exact bad2 hk (fun e => by have := e.1; omega)
   exact bad2 hk (fun e => by have := e.1; omega)
  rw [show errV 50 2 = errV 50 (eQ z0 (z0.length + 1)) by rw [DJ ZO]] at hw1
  exact ⟨_, _, rfl, ⟨_, _, _, 0, _, 0, _, _, _, _, ab, zb, cb, _, _, _, none, 0, _, _, _, none, 0, FJ z0 hbq, rfl, rfl, (AN 16), ZO, ZO, (fun h => absurd h ZO), ⟨hbA, ZO, ZO, ZO⟩, rfl, rfl, .inl rfl, ZO, ZX, .inl rfl, ZO, ZX⟩, CS hw1 0 1 2 rfl rfl rfl ZD ZD ZD⟩
 obtain ⟨hk, hpp, hm2, hm3, hu7, hu8, hu9, hu2, hu3, hu4, hu5, hu6, hu10, hu11, hu12⟩ := hx
 show JQ _ _ _ [_, _, _] [_, _, _, _, _]
 refine AK (A4 (Z8 90 3 [(0, Ptr nb2 6), (1, Slc nb2 6 16 16), (2, Ptr rb 0)] ?_))
 refine Z7 ⟨[], [0, 1, 2], [], [0, 1, 2], [3]⟩ 3 (hq := ⟨AA rfl rfl ZE, AA rfl rfl (B4 16 5 1 0 16 6 16 AZ AW rfl rfl rfl ZO ZO ZO ZO ZO 16 ZO), BM rfl rfl rfl, trivial⟩) (AL rfl (BE 127 _ [true, false, false, false, false] [rb] _ (AH _ Tryd.call127 rfl) rfl (fun w1 hw1 => rawA_w rb pp 16 aa zz.length cc z0 zz w1 (hw1.en 0 rfl) rfl ZO ZO ZO (hu6 _ _ (hr.at (M' := [rb]) hw1 (hw1.apart [0] _ rfl))) hu5 ZO))) ?_
 rintro v1 L1 ⟨_, ⟨ao12, zz12, ca12, hq12, ⟨hA12, hb55, hb56, hb57⟩, (⟨hg7, nb13, sp7, cp7, rfl, rfl, hc7, hc8, hc9⟩ | ⟨hg7, rfl, rfl⟩)⟩, rfl⟩
 ·
  refine ⟨[], ?_⟩
  show DP _ _ _ _ _ _ _ _ [_, _, _, _, _, _]
  refine Z6 ⟨[3], [0, 1, 2], [2], [0, 1], [4]⟩ 4 (hq := ⟨AA rfl rfl ZE, AA rfl rfl (B4 16 5 1 0 16 6 16 AZ AW rfl rfl rfl ZO ZO ZO ZO ZO 16 ZO), trivial⟩) (AL rfl (CP 43 43 5 1 nb2 6 16 16 ([U64 (vQ z0 0 8), U64 (vQ z0 8 8), I64 (((vQ z0 16 1).toNat:Int)), Slc gb 0 m cp, Slc gs 0 m cp2, U64 0] ++ cu8 (zr8 16)) 29 (some ⟨nb13, 0, none⟩) 16 cp7 16 (cu8 (bQ z0 pp 16)) ([U64 (vQ z0 0 8), U64 (vQ z0 8 8), I64 (((vQ z0 16 1).toNat:Int)), Slc gb 0 m cp, Slc gs 0 m cp2, U64 0] ++ cu8 (bQ z0 pp 16)) AM BZ rfl rfl rfl rfl (by simp [(show (bQ z0 pp 16).length = 16 from (BG _ _ _))]; try omega) (SrcAt.mem (A0 5 rfl (AU (AG _)))) (by simp [(AN 16)]; try omega) (by first | exact A6 | exact EF | exact EB | (simp [cu8, cu32, cu64, Value.oneCell']; done)) (DB 6 0 rfl rfl (AI (by simp [(AN 16), (show (bQ z0 pp 16).length = 16 from (BG _ _ _))]))))) ?_
  show DP _ _ _ _ _ _ _ _ [_, _, _, _, _, _]
  refine Z5 ⟨[3, 4], [0, 1, 2], [0, 1, 2], [], []⟩ ?_
  refine A9 (F' := [(0, Ptr rb 0), (2, Ptr nb1 0), (3, Ptr nb2 0)]) ZR ?_
  refine Z2 4 ?_
  refine AE _ (AR rfl (BV CQ BH (by simp [(show (bQ z0 pp 16).length = 16 from (BG _ _ _))]) (A0 1 rfl (AG _)))) rfl ?_
  refine AC (AJ 128 _ (errV 50 (mayN (vQ z0 0 8) (vQ z0 8 8) (((vQ z0 16 1).toNat:Int)) (ixQ z0 18 m) (seQ z0 (4*m + 18) m) (0:UInt64))) (AH _ Tryd.call128 rfl) (fun w1 hw1 => may13_c (vQ z0 0 8) (vQ z0 8 8) (((vQ z0 16 1).toNat:Int)) (some ⟨gb, 0, none⟩) m cp (ixQ z0 18 m) (some ⟨gs, 0, none⟩) m cp2 (seQ z0 (4*m + 18) m) (0:UInt64) (bQ z0 pp 16) w1 (E7 _ _ _) ZO ZO ZO (RdV.of hw1 (A0 2 rfl (AU (AG _)))) (seQ_len _ _ _) ZO ZO ZO (RdV.of hw1 (A0 3 rfl (AU (AG _)))) (show (bQ z0 pp 16).length = 16 from (BG _ _ _)))) rfl ?_
  show JL _ _ _ _ (_ :: _) [_, _, _, _, _, _]
  refine Z2 6 ?_
  refine AE (.bool (!(decide (mayN (vQ z0 0 8) (vQ z0 8 8) (((vQ z0 16 1).toNat:Int)) (ixQ z0 18 m) (seQ z0 (4*m + 18) m) (0:UInt64) = 0)))) (CG _ _ _ rfl rfl (fun _ => BL ..) fun _ => CW AV _ _) rfl ?_
  refine A1 (AK (AX _ rfl (fun hb58 => ?_) (fun hb58 => ?_)))
  ·
   have hb59 : (decide (mayN (vQ z0 0 8) (vQ z0 8 8) (((vQ z0 16 1).toNat:Int)) (ixQ z0 18 m) (seQ z0 (4*m + 18) m) (0:UInt64) = 0)) = false := by simpa using hb58
   have hp59 := of_decide_eq_false hb59
   refine Z2 3 ?_
   refine AF (C5 121 [Ptr rb 0, .iface 50 (I64 2)] 4 (Ez rb [errV 50 (eQ z0 (pp + 16)), SL ao12 zz12.length ca12] 204) _ (fun v e' l' => v = .tuple #[] ∧ e' = (Ez rb [errV 50 (erN (eQ z0 (pp + 16)) 2), SL ao12 zz12.length ca12] 204) ∧ l' = []) (AH _ DE rfl) rfl (by rintro v l ⟨rfl, rfl⟩; exact ⟨_, _, rfl, rfl, rfl, rfl, rfl⟩) (fun w1 hw1 => D5 rb (eQ z0 (pp + 16)) 2 (SL ao12 zz12.length ca12) w1 ZD (hw1.en 4 rfl))) rfl ?_
   rintro v1 L1 ⟨_, _, ⟨rfl, rfl, rfl⟩, rfl⟩
   show JL _ _ _ _ (_ :: _) [_, _, _, _, _, _]
   refine Z2 6 ?_
   refine AC (AJ 61 _ (I64 ((leftN (erN (eQ z0 (pp + 16)) 2) zz12.length:Int))) (AH _ C7 rfl) (fun w1 hw1 => left_w rb (erN (eQ z0 (pp + 16)) 2) ao12 zz12.length ca12 w1 (RdA.of hw1 (A0 4 rfl (AG _)) ZM))) rfl ?_
   show JL _ _ _ _ (_ :: _) [_, _, _, _, _, _]
   refine Z2 2 ?_
   refine AD 3 83 true _ _ rfl rfl (decide_eq_true (by rw [leftN, if_neg (EN ZD)]; rfl)) ZE rfl ?_
   refine B6 3 83 true _ rfl rfl (decide_eq_true (by rw [leftN, if_neg (EN ZD)]; rfl)) (AJ 63 _ (errV 50 (endN (erN (eQ z0 (pp + 16)) 2) zz12.length)) (AH _ DF rfl) (fun w1 hw1 => end_w rb (erN (eQ z0 (pp + 16)) 2) ao12 zz12.length ca12 w1 (RdA.of hw1 (A0 4 rfl (AG _)) ZM))) rfl ?_
   rintro v1 L1 ⟨rfl, rfl⟩
   show JL _ _ _ _ (_ :: _) [_, _, _, _, _, _]
   refine AD 3 83 true _ (.bool (!(decide (endN (erN (eQ z0 (pp + 16)) 2) zz12.length = 0)))) rfl rfl (decide_eq_true (by rw [leftN, if_neg (EN ZD)]; rfl)) (CG _ _ _ rfl rfl (fun _ => BL ..) fun _ => CW AV _ _) rfl ?_
   refine AE _ (CC _ rfl (decide_eq_true (by rw [leftN, if_neg (EN ZD)]; rfl)) rfl) rfl ?_
   refine A1 (AK (A7 _ rfl (bnotF (decide_eq_false (by rw [endN, if_neg (EN ZD)]; exact (EN ZD)))) ?_))
   refine A4 (AO (AE (.agg (V4).toArray) Ze rfl ?_))
   refine AC (AB 0 nb1 22 _ 29 (V4) rfl rfl rfl BH ZS (AQ ZC A6) ZS (AI ZS)) rfl ?_
   show JL _ _ _ _ _ [_, _, _, _, _, _]
   refine A1 (AK (CH (C2 (Z1 fun w1 hw1 => ?_))))
   rw [show erN (eQ z0 (pp + 16)) 2 = 2 by rw [E5 ‹pp + 16 ≤ z0.length›]; rfl] at hw1
   have hbq : BadQ z0 := by
    rcases hm3 with hm | hm
    ·
     subst hm
     exact bad1 hk (fun e => by exact (of_decide_eq_false hb59) e.2)
    exact bad1 hk (fun e => by have := e.1; omega)
   rw [show errV 50 2 = errV 50 (eQ z0 (z0.length + 1)) by rw [DJ ZO]] at hw1
   exact ⟨_, _, rfl, ⟨_, _, _, 0, _, 0, _, _, _, _, ao12, zz12, ca12, _, _, _, none, 0, _, _, _, none, 0, FJ z0 hbq, rfl, rfl, (AN 16), ZO, ZO, (fun h => absurd h ZO), ⟨(fun w M h => hA12 w M (hu6 w M h)), ZO, ZO, ZO⟩, rfl, rfl, .inl rfl, ZO, ZX, .inl rfl, ZO, ZX⟩, CS hw1 4 0 1 rfl rfl rfl ZD ZD ZD⟩
  have hb60 : (decide (mayN (vQ z0 0 8) (vQ z0 8 8) (((vQ z0 16 1).toNat:Int)) (ixQ z0 18 m) (seQ z0 (4*m + 18) m) (0:UInt64) = 0)) = true := by simpa using hb58
  have hp60 := of_decide_eq_true hb60
  refine Z2 6 ?_
  refine AC (AJ 61 _ (I64 ((leftN (eQ z0 (pp + 16)) zz12.length:Int))) (AH _ C7 rfl) (fun w1 hw1 => left_w rb (eQ z0 (pp + 16)) ao12 zz12.length ca12 w1 (RdA.of hw1 (A0 4 rfl (AG _)) ZM))) rfl ?_
  show JL _ _ _ _ (_ :: _) [_, _, _, _, _, _]
  refine Z2 2 ?_
  rcases Bool.eq_false_or_eq_true (decide (((leftN (eQ z0 (pp + 16)) zz12.length:Int)) = (0:Int))) with hb61 | hb61
  ·
   have hp61 := of_decide_eq_true hb61
   refine Z2 1 ?_
   refine B6 3 83 true _ rfl rfl hb61 (AJ 63 _ (errV 50 (endN (eQ z0 (pp + 16)) zz12.length)) (AH _ DF rfl) (fun w1 hw1 => end_w rb (eQ z0 (pp + 16)) ao12 zz12.length ca12 w1 (RdA.of hw1 (A0 4 rfl (AG _)) ZM))) rfl ?_
   rintro v1 L1 ⟨rfl, rfl⟩
   show JL _ _ _ _ (_ :: _) [_, _, _, _, _, _]
   refine AD 3 83 true _ (.bool (!(decide (endN (eQ z0 (pp + 16)) zz12.length = 0)))) rfl rfl hb61 (CG _ _ _ rfl rfl (fun _ => BL ..) fun _ => CW AV _ _) rfl ?_
   refine Z2 3 ?_
   refine AY _ rfl (bnotT (decide_eq_true (by have h9 := of_decide_eq_true hb61; rw [E5 ‹pp + 16 ≤ z0.length›, leftN, if_pos rfl] at h9; rw [E5 ‹pp + 16 ≤ z0.length›, endN, if_pos rfl, if_pos ZO]))) ?_
   refine CY (AK (A4 (AO (AE _ (AR rfl (BV CQ BH (by simp [(show (bQ z0 pp 16).length = 16 from (BG _ _ _))]) (A0 1 rfl (AG _)))) rfl ?_))))
   refine AC (AB 0 nb1 22 _ 29 ([U64 (vQ z0 0 8), U64 (vQ z0 8 8), I64 (((vQ z0 16 1).toNat:Int)), Slc gb 0 m cp, Slc gs 0 m cp2, U64 0] ++ cu8 (bQ z0 pp 16)) rfl rfl rfl BH (by simp [(show (bQ z0 pp 16).length = 16 from (BG _ _ _))]) (AQ ZC A6) ZS (AI (by simp [(AN 16), (show (bQ z0 pp 16).length = 16 from (BG _ _ _))]))) rfl ?_
   show JL _ _ _ _ _ [_, _, _, _, _, _]
   refine A1 (AK (CH (DR (.agg ([U64 (vQ z0 0 8), U64 (vQ z0 8 8), I64 (((vQ z0 16 1).toNat:Int)), Slc gb 0 m cp, Slc gs 0 m cp2, U64 0] ++ cu8 (bQ z0 pp 16)).toArray) (res1 Tryd.results60 (EV rfl (BV CQ BH (by simp [(show (bQ z0 pp 16).length = 16 from (BG _ _ _))]) (A0 0 rfl (AG _))))) fun w1 hw1 => ?_)))
   obtain rfl : m = mQ z0 := by omega
   subst hpp
   rw [show 60*mQ z0 + 18 + 16 = 60*mQ z0 + 34 from rfl] at hw1
   exact ⟨_, _, rfl, ⟨_, _, _, (mQ z0), _, (mQ z0), _, _, _, _, ao12, zz12, ca12, _, _, _, (some ⟨gb, 0, none⟩), cp, _, _, _, (some ⟨gs, 0, none⟩), cp2, .inr (.inr (.inl ⟨⟨hk, ZO, of_decide_eq_true hb60⟩, rfl, rfl, rfl, rfl, rfl, rfl, rfl, rfl⟩)), E7 _ _ _, seQ_len _ _ _, (BG _ _ _), ZO, ZO, (fun h8 => (hq12 ZO).trans (by congr 1 <;> omega)), ⟨(fun w M h => hA12 w M (hu6 w M h)), ZO, ZO, ZO⟩, rfl, rfl, .inr ⟨rfl, _, rfl⟩, hu3, hu4, .inr ⟨rfl, _, rfl⟩, hu8, hu9⟩, CS hw1 4 2 3 rfl rfl rfl ZD ZD ZD⟩
  have hp61 := of_decide_eq_false hb61
  refine Z2 6 ?_
  refine AY _ rfl rfl ?_
  refine Z2 4 ?_
  refine AE _ (AR rfl (BV CQ BH (by simp [(show (bQ z0 pp 16).length = 16 from (BG _ _ _))]) (A0 1 rfl (AG _)))) rfl ?_
  refine AC (AB 0 nb1 22 _ 29 ([U64 (vQ z0 0 8), U64 (vQ z0 8 8), I64 (((vQ z0 16 1).toNat:Int)), Slc gb 0 m cp, Slc gs 0 m cp2, U64 0] ++ cu8 (bQ z0 pp 16)) rfl rfl rfl BH (by simp [(show (bQ z0 pp 16).length = 16 from (BG _ _ _))]) (AQ ZC A6) ZS (AI (by simp [(AN 16), (show (bQ z0 pp 16).length = 16 from (BG _ _ _))]))) rfl ?_
  show JL _ _ _ _ _ [_, _, _, _, _, _]
  refine A1 (AK (CH (DR (.agg ([U64 (vQ z0 0 8), U64 (vQ z0 8 8), I64 (((vQ z0 16 1).toNat:Int)), Slc gb 0 m cp, Slc gs 0 m cp2, U64 0] ++ cu8 (bQ z0 pp 16)).toArray) (res1 Tryd.results60 (EV rfl (BV CQ BH (by simp [(show (bQ z0 pp 16).length = 16 from (BG _ _ _))]) (A0 0 rfl (AG _))))) fun w1 hw1 => ?_)))
  obtain rfl : m = mQ z0 := by omega
  subst hpp
  rw [show 60*mQ z0 + 18 + 16 = 60*mQ z0 + 34 from rfl] at hw1
  exact ⟨_, _, rfl, ⟨_, _, _, (mQ z0), _, (mQ z0), _, _, _, _, ao12, zz12, ca12, _, _, _, (some ⟨gb, 0, none⟩), cp, _, _, _, (some ⟨gs, 0, none⟩), cp2, .inr (.inr (.inl ⟨⟨hk, ZO, of_decide_eq_true hb60⟩, rfl, rfl, rfl, rfl, rfl, rfl, rfl, rfl⟩)), E7 _ _ _, seQ_len _ _ _, (BG _ _ _), ZO, ZO, (fun h8 => (hq12 ZO).trans (by congr 1 <;> omega)), ⟨(fun w M h => hA12 w M (hu6 w M h)), ZO, ZO, ZO⟩, rfl, rfl, .inr ⟨rfl, _, rfl⟩, hu3, hu4, .inr ⟨rfl, _, rfl⟩, hu8, hu9⟩, CS hw1 4 2 3 rfl rfl rfl ZD ZD ZD⟩
 refine ⟨[], ?_⟩
 show DP _ _ _ _ _ _ _ _ [_, _, _, _, _]
 refine Z6 ⟨[3], [0, 1, 2], [2], [0, 1], [4]⟩ 4 (hq := ⟨AA rfl rfl ZE, AA rfl rfl (B4 16 5 1 0 16 6 16 AZ AW rfl rfl rfl ZO ZO ZO ZO ZO 16 ZO), trivial⟩) (AL rfl (CP 43 43 5 1 nb2 6 16 16 ([U64 (vQ z0 0 8), U64 (vQ z0 8 8), I64 (((vQ z0 16 1).toNat:Int)), Slc gb 0 m cp, Slc gs 0 m cp2, U64 0] ++ cu8 (zr8 16)) 29 none 0 0 0 [] ([U64 (vQ z0 0 8), U64 (vQ z0 8 8), I64 (((vQ z0 16 1).toNat:Int)), Slc gb 0 m cp, Slc gs 0 m cp2, U64 0] ++ cu8 (zr8 16)) AM BZ rfl rfl rfl rfl rfl SrcAt.nil ZS ES (ET _ _))) ?_
 show DP _ _ _ _ _ _ _ _ [_, _, _, _, _]
 refine Z5 ⟨[3, 4], [0, 1, 2], [0, 1, 2], [], []⟩ ?_
 refine A9 (F' := [(0, Ptr rb 0), (2, Ptr nb1 0), (3, Ptr nb2 0)]) ZR ?_
 refine Z2 5 ?_
 refine AC (AJ 128 _ (errV 50 (mayN (vQ z0 0 8) (vQ z0 8 8) (((vQ z0 16 1).toNat:Int)) (ixQ z0 18 m) (seQ z0 (4*m + 18) m) (0:UInt64))) (AH _ Tryd.call128 rfl) (fun w1 hw1 => may13_c (vQ z0 0 8) (vQ z0 8 8) (((vQ z0 16 1).toNat:Int)) (some ⟨gb, 0, none⟩) m cp (ixQ z0 18 m) (some ⟨gs, 0, none⟩) m cp2 (seQ z0 (4*m + 18) m) (0:UInt64) (zr8 16) w1 (E7 _ _ _) ZO ZO ZO (RdV.of hw1 (A0 2 rfl (AU (AG _)))) (seQ_len _ _ _) ZO ZO ZO (RdV.of hw1 (A0 3 rfl (AU (AG _)))) (AN 16))) rfl ?_
 show JL _ _ _ _ (_ :: _) [_, _, _, _, _]
 refine Z2 6 ?_
 refine AE (.bool (!(decide (mayN (vQ z0 0 8) (vQ z0 8 8) (((vQ z0 16 1).toNat:Int)) (ixQ z0 18 m) (seQ z0 (4*m + 18) m) (0:UInt64) = 0)))) (CG _ _ _ rfl rfl (fun _ => BL ..) fun _ => CW AV _ _) rfl ?_
 refine A1 (AK (ED (ι := Option Addr × List UInt8 × Nat) (fun ⟨ab, zb, cb⟩ => [(0, Ptr rb 0), (2, Ptr nb1 0), (3, Ptr nb2 0)]) (fun ⟨ab, zb, cb⟩ => [(Ez rb [errV 50 2, SL ab zb.length cb] 204), (Ez nb1 (V4) 29), (Ez nb2 ([U64 (vQ z0 0 8), U64 (vQ z0 8 8), I64 (((vQ z0 16 1).toNat:Int)), Slc gb 0 m cp, Slc gs 0 m cp2, U64 0] ++ cu8 (zr8 16)) 29)]) (fun ⟨ab, zb, cb⟩ => (∀ w M, RdB w M ao z → RdB w M ab zb) ∧ zb.length ≤ cb ∧ cb ≤ maxLen ∧ zb.length ≤ n) ?_ ?_))
 ·
  refine AX _ rfl (fun hb62 => ?_) (fun hb62 => ?_)
  ·
   have hb63 : (decide (mayN (vQ z0 0 8) (vQ z0 8 8) (((vQ z0 16 1).toNat:Int)) (ixQ z0 18 m) (seQ z0 (4*m + 18) m) (0:UInt64) = 0)) = false := by simpa using hb62
   have hp63 := of_decide_eq_false hb63
   refine Z2 3 ?_
   refine AF (C5 121 [Ptr rb 0, .iface 50 (I64 2)] 4 (Ez rb [errV 50 (eQ z0 (pp + 16)), SL ao12 zz12.length ca12] 204) _ (fun v e' l' => v = .tuple #[] ∧ e' = (Ez rb [errV 50 (erN (eQ z0 (pp + 16)) 2), SL ao12 zz12.length ca12] 204) ∧ l' = []) (AH _ DE rfl) rfl (by rintro v l ⟨rfl, rfl⟩; exact ⟨_, _, rfl, rfl, rfl, rfl, rfl⟩) (fun w1 hw1 => D5 rb (eQ z0 (pp + 16)) 2 (SL ao12 zz12.length ca12) w1 ZD (hw1.en 4 rfl))) rfl ?_
   rintro v1 L1 ⟨_, _, ⟨rfl, rfl, rfl⟩, rfl⟩
   show JL _ _ _ _ (_ :: _) [_, _, _, _, _]
   refine A1 ?_
   rw [show erN (eQ z0 (pp + 16)) 2 = 2 by rw [DJ ‹¬ pp + 16 ≤ z0.length›]; rfl]
   refine DZ [4, 0, 1] ZD ?_
   show JQ _ _ _ _ [_, _, _]
   refine BU ((ao12, zz12, ca12)) ⟨(fun w M h => hA12 w M (hu6 w M h)), ZO, ZO, ZO⟩ (Sub.all rfl) rfl
  have hb64 : (decide (mayN (vQ z0 0 8) (vQ z0 8 8) (((vQ z0 16 1).toNat:Int)) (ixQ z0 18 m) (seQ z0 (4*m + 18) m) (0:UInt64) = 0)) = true := by simpa using hb62
  have hp64 := of_decide_eq_true hb64
  refine CY ?_
  rw [show eQ z0 (pp + 16) = 2 by rw [DJ ‹¬ pp + 16 ≤ z0.length›]]
  refine DZ [4, 0, 1] ZD ?_
  show JQ _ _ _ _ [_, _, _]
  refine BU ((ao12, zz12, ca12)) ⟨(fun w M h => hA12 w M (hu6 w M h)), ZO, ZO, ZO⟩ (Sub.all rfl) rfl
 rintro ⟨ab, zb, cb⟩ hx
 obtain ⟨hbA, hbb1, hbb2, hbb3⟩ := hx
 show JQ _ _ _ [_, _, _] [_, _, _]
 refine Z2 5 ?_
 refine AC (AJ 61 _ (I64 ((leftN 2 zb.length:Int))) (AH _ C7 rfl) (fun w1 hw1 => left_w rb 2 ab zb.length cb w1 (RdA.of hw1 (A0 0 rfl (AG _)) ZM))) rfl ?_
 show JL _ _ _ _ (_ :: _) [_, _, _]
 refine Z2 2 ?_
 refine AD 3 83 true _ _ rfl rfl (decide_eq_true (by rw [leftN, if_neg ZD]; rfl)) ZE rfl ?_
 refine B6 3 83 true _ rfl rfl (decide_eq_true (by rw [leftN, if_neg ZD]; rfl)) (AJ 63 _ (errV 50 (endN 2 zb.length)) (AH _ DF rfl) (fun w1 hw1 => end_w rb 2 ab zb.length cb w1 (RdA.of hw1 (A0 0 rfl (AG _)) ZM))) rfl ?_
 rintro v1 L1 ⟨rfl, rfl⟩
 show JL _ _ _ _ (_ :: _) [_, _, _]
 refine AD 3 83 true _ (.bool (!(decide (endN 2 zb.length = 0)))) rfl rfl (decide_eq_true (by rw [leftN, if_neg ZD]; rfl)) (CG _ _ _ rfl rfl (fun _ => BL ..) fun _ => CW AV _ _) rfl ?_
 refine AE _ (CC _ rfl (decide_eq_true (by rw [leftN, if_neg ZD]; rfl)) rfl) rfl ?_
 refine A1 (AK (A7 _ rfl (bnotF (decide_eq_false (by rw [endN, if_neg ZD]; exact ZD))) ?_))
 refine A4 (AO (AE (.agg (V4).toArray) Ze rfl ?_))
 refine AC (AB 1 nb1 22 _ 29 (V4) rfl rfl rfl BH ZS (AQ ZC A6) ZS (AI ZS)) rfl ?_
 show JL _ _ _ _ _ [_, _, _]
 refine Z2 4 ?_
 refine Z1 fun w1 hw1 => ?_
 have hbq : BadQ z0 := by
  rcases hm3 with hm | hm
  ·
   subst hm
   exact bad1 hk (fun e => by have := e.1; omega)
  exact bad1 hk (fun e => by have := e.1; omega)
 rw [show errV 50 2 = errV 50 (eQ z0 (z0.length + 1)) by rw [DJ ZO]] at hw1
 exact ⟨_, _, rfl, ⟨_, _, _, 0, _, 0, _, _, _, _, ab, zb, cb, _, _, _, none, 0, _, _, _, none, 0, FJ z0 hbq, rfl, rfl, (AN 16), ZO, ZO, (fun h => absurd h ZO), ⟨hbA, ZO, ZO, ZO⟩, rfl, rfl, .inl rfl, ZO, ZX, .inl rfl, ZO, ZX⟩, CS hw1 0 1 2 rfl rfl rfl ZD ZD ZD⟩
theorem treadE_c (rb p : Nat) (ao : Option Addr) (n c : Nat) (z0 z : List UInt8)  (w : World) (h0 : w.heap[rb]? = some (.cells [errV 50 (eQ z0 p), SL ao n c].toArray 204 (0, 0))) (hz : z.length = n) (hn : n ≤ 2000000000) (hc : n ≤ c) (hcm : c ≤ maxLen) (hr : RdB w [rb] ao z) (hq : Lq z0 z p) (hp : ¬ p ≤ z0.length)  : Calls Tryd.prog 60 #[Ptr rb 0] w (Post w [rb] (fun v L => ∃ ao' z' c' g1 cs1 T1 g2 cs2 T2, Adv ao z c ao' z' c' ∧ v = .agg (V4).toArray ∧ L = [(Ez rb [errV 50 2, SL ao' z'.length c'] 204), (Ez g1 cs1 T1), (Ez g2 cs2 T2)])) := by
 have hmx : maxLen = 9223372036854775807 := rfl
 have hk0 : ((vQ z0 (p + 16) 1).toNat:Int) = 0 := by rw [vQ_neg ZO]; rfl
 refine enter w [rb] 90 [(Ez rb [errV 50 (eQ z0 p), SL ao n c] 204)] [Ptr rb 0] Tryd.func60 rfl rfl ZM (A2 (by simpa using h0) ZM ZM) ?_
 show JC _ _ _ [_] _
 refine A4 (AO (AF (AS _ (V4) Tryd.zeroValue29 ZR) rfl ?_))
 rintro v1 L1 ⟨nb1, hnb1, rfl, rfl⟩
 show JL _ _ _ _ (_ :: _) [_, _]
 refine Z2 5 ?_
 have hz1 : (z).length = n := hz
 refine AF (BE 109 _ [true, false] [rb] _ (AH _ CA rfl) rfl (fun w1 hw1 => EM rb p 8 ao n c z0 z w1 (hw1.en 0 rfl) hz ZO ZO ZO ((fun _ _ h => h) _ _ (hr.at (M' := [rb]) hw1 (hw1.apart [0] _ rfl))) hq ZU)) rfl ?_
 rintro v1 L1 ⟨_, ⟨rfl, ao1, zz1, ca1, hq1, ⟨hA1, hb1, hb2, hb3⟩, rfl⟩, rfl⟩
 show JL _ _ _ _ (_ :: _) [_, _]
 refine Z2 1 ?_
 refine AF (BE 109 _ [false, true] [rb] _ (AH _ CA rfl) rfl (fun w1 hw1 => EM rb (p + 8) 8 ao1 zz1.length ca1 z0 zz1 w1 (hw1.en 1 rfl) rfl ZO ZO ZO (hA1 _ _ (hr.at (M' := [rb]) hw1 (hw1.apart [1] _ rfl))) hq1 ZU)) rfl ?_
 rintro v1 L1 ⟨_, ⟨rfl, ao2, zz2, ca2, hq2, ⟨hA2, hb4, hb5, hb6⟩, rfl⟩, rfl⟩
 show JL _ _ _ _ (_ :: _) [_, _]
 refine AE (.agg (V2 (vQ z0 p 8) (vQ z0 (p + 8) 8) 0 none 0 0 none 0 0 0 (zr8 16)).toArray) (DN [(0, U64 (vQ z0 p 8)), (1, U64 (vQ z0 (p + 8) 8))] _ rfl (fun _ => bld29_01 rfl rfl)) rfl ?_
 refine AF (AS _ (V4) Tryd.zeroValue29 ZR) rfl ?_
 rintro v1 L1 ⟨nb2, hnb2, rfl, rfl⟩
 show JL _ _ _ _ (_ :: _) [_, _, _]
 refine AC (AB 2 nb2 22 _ 29 (V2 (vQ z0 p 8) (vQ z0 (p + 8) 8) 0 none 0 0 none 0 0 0 (zr8 16)) rfl rfl rfl BH ZS (AQ ZC A6) ZS (AI ZS)) rfl ?_
 show JL _ _ _ _ _ [_, _, _]
 refine Z2 5 ?_
 refine AF (BE 109 _ [false, true, false] [rb] _ (AH _ CA rfl) rfl (fun w1 hw1 => EM rb (p + 16) 1 ao2 zz2.length ca2 z0 zz2 w1 (hw1.en 1 rfl) rfl ZO ZO ZO ((fun w M h => hA2 w M (hA1 w M h)) _ _ (hr.at (M' := [rb]) hw1 (hw1.apart [1] _ rfl))) hq2 ZU)) rfl ?_
 rintro v1 L1 ⟨_, ⟨rfl, ao3, zz3, ca3, hq3, ⟨hA3, hb7, hb8, hb9⟩, rfl⟩, rfl⟩
 show JL _ _ _ _ (_ :: _) [_, _, _]
 refine AE (I64 (((vQ z0 (p + 16) 1).toNat:Int))) Ze rfl ?_
 refine Z2 20 ?_
 refine AY _ rfl (decide_eq_false (by rw [hk0]; decide)) ?_
 refine Z2 7 ?_
 refine AY _ rfl (decide_eq_false (by rw [hk0]; decide)) ?_
 refine Z2 5 ?_
 refine AY _ rfl (decide_eq_false (by rw [hk0]; decide)) ?_
 refine Z2 4 ?_
 refine Z8 90 3 [(0, Ptr nb2 6), (1, Slc nb2 6 16 16), (2, Ptr rb 0)] ?_
 refine Z7 ⟨[], [0, 1, 2], [], [0, 1, 2], [3]⟩ 3 (hq := ⟨AA rfl rfl ZE, AA rfl rfl (B4 16 5 1 0 16 6 16 AZ AW rfl rfl rfl ZO ZO ZO ZO ZO 16 ZO), BM rfl rfl rfl, trivial⟩) (AL rfl (BE 127 _ [false, false, true] [rb] _ (AH _ Tryd.call127 rfl) rfl (fun w1 hw1 => rawA_w rb (p + 17) 16 ao3 zz3.length ca3 z0 zz3 w1 (hw1.en 2 rfl) rfl ZO ZO ZO ((fun w M h => hA3 w M (hA2 w M (hA1 w M h))) _ _ (hr.at (M' := [rb]) hw1 (hw1.apart [2] _ rfl))) hq3 ZO))) ?_
 rintro v1 L1 ⟨_, ⟨ao4, zz4, ca4, hq4, ⟨hA4, hb10, hb11, hb12⟩, (⟨hg1, nb3, sp1, cp1, rfl, rfl, hc1, hc2, hc3⟩ | ⟨hg1, rfl, rfl⟩)⟩, rfl⟩
 ·
  refine ⟨[], ?_⟩
  show DP _ _ _ _ _ _ _ _ [_, _, _, _]
  refine Z6 ⟨[3], [0, 1, 2], [2], [0, 1], [4]⟩ 4 (hq := ⟨AA rfl rfl ZE, AA rfl rfl (B4 16 5 1 0 16 6 16 AZ AW rfl rfl rfl ZO ZO ZO ZO ZO 16 ZO), trivial⟩) (AL rfl (CP 43 43 5 1 nb2 6 16 16 (V2 (vQ z0 p 8) (vQ z0 (p + 8) 8) (((vQ z0 (p + 16) 1).toNat:Int)) none 0 0 none 0 0 0 (zr8 16)) 29 (some ⟨nb3, 0, none⟩) 16 cp1 16 (cu8 (bQ z0 (p + 17) 16)) (V2 (vQ z0 p 8) (vQ z0 (p + 8) 8) (((vQ z0 (p + 16) 1).toNat:Int)) none 0 0 none 0 0 0 (bQ z0 (p + 17) 16)) AM BZ rfl rfl rfl rfl (by simp [(show (bQ z0 (p + 17) 16).length = 16 from (BG _ _ _))]; try omega) (SrcAt.mem (A0 3 rfl (AU (AG _)))) (by simp [(AN 16)]; try omega) (by first | exact A6 | exact EF | exact EB | (simp [cu8, cu32, cu64, Value.oneCell']; done)) (DB 6 0 rfl rfl (AI (by simp [(AN 16), (show (bQ z0 (p + 17) 16).length = 16 from (BG _ _ _))]))))) ?_
  show DP _ _ _ _ _ _ _ _ [_, _, _, _]
  refine Z5 ⟨[3, 4], [0, 1, 2], [0, 1, 2], [], []⟩ ?_
  refine A9 (F' := [(0, Ptr rb 0), (2, Ptr nb1 0), (3, Ptr nb2 0)]) ZR ?_
  refine Z2 4 ?_
  refine AE _ (AR rfl (BV CQ BH (by simp [(show (bQ z0 (p + 17) 16).length = 16 from (BG _ _ _))]) (A0 1 rfl (AG _)))) rfl ?_
  refine AC (AJ 128 _ (errV 50 (mayN (vQ z0 p 8) (vQ z0 (p + 8) 8) (((vQ z0 (p + 16) 1).toNat:Int)) ([] : List UInt64) ([] : List SealR) (0:UInt64))) (AH _ Tryd.call128 rfl) (fun w1 hw1 => may13_c (vQ z0 p 8) (vQ z0 (p + 8) 8) (((vQ z0 (p + 16) 1).toNat:Int)) none 0 0 ([] : List UInt64) none 0 0 ([] : List SealR) (0:UInt64) (bQ z0 (p + 17) 16) w1 rfl ZO ZO ZO RdV.nil rfl ZO ZO ZO RdV.nil (show (bQ z0 (p + 17) 16).length = 16 from (BG _ _ _)))) rfl ?_
  show JL _ _ _ _ (_ :: _) [_, _, _, _]
  refine Z2 6 ?_
  refine AE (.bool (!(decide (mayN (vQ z0 p 8) (vQ z0 (p + 8) 8) (((vQ z0 (p + 16) 1).toNat:Int)) ([] : List UInt64) ([] : List SealR) (0:UInt64) = 0)))) (CG _ _ _ rfl rfl (fun _ => BL ..) fun _ => CW AV _ _) rfl ?_
  refine A1 (AK (A7 _ rfl (bnotF (decide_eq_false (by have h9 := may_nil (pv := vQ z0 p 8) (ep := vQ z0 (p + 8) 8) (kd := ((vQ z0 (p + 16) 1).toNat:Int)) (bl := 0) (by rw [hk0]; decide); omega))) ?_))
  refine Z2 3 ?_
  refine AF (C5 121 [Ptr rb 0, .iface 50 (I64 2)] 2 (Ez rb [errV 50 (eQ z0 (p + 33)), SL ao4 zz4.length ca4] 204) _ (fun v e' l' => v = .tuple #[] ∧ e' = (Ez rb [errV 50 (erN (eQ z0 (p + 33)) 2), SL ao4 zz4.length ca4] 204) ∧ l' = []) (AH _ DE rfl) rfl (by rintro v l ⟨rfl, rfl⟩; exact ⟨_, _, rfl, rfl, rfl, rfl, rfl⟩) (fun w1 hw1 => D5 rb (eQ z0 (p + 33)) 2 (SL ao4 zz4.length ca4) w1 ZD (hw1.en 2 rfl))) rfl ?_
  rintro v1 L1 ⟨_, _, ⟨rfl, rfl, rfl⟩, rfl⟩
  show JL _ _ _ _ (_ :: _) [_, _, _, _]
  refine Z2 6 ?_
  refine AC (AJ 61 _ (I64 ((leftN (erN (eQ z0 (p + 33)) 2) zz4.length:Int))) (AH _ C7 rfl) (fun w1 hw1 => left_w rb (erN (eQ z0 (p + 33)) 2) ao4 zz4.length ca4 w1 (RdA.of hw1 (A0 2 rfl (AG _)) ZM))) rfl ?_
  show JL _ _ _ _ (_ :: _) [_, _, _, _]
  refine Z2 2 ?_
  refine AD 3 83 true _ _ rfl rfl (decide_eq_true (by rw [leftN, if_neg (by first | exact EN ZD | decide)]; rfl)) ZE rfl ?_
  refine B6 3 83 true _ rfl rfl (decide_eq_true (by rw [leftN, if_neg (by first | exact EN ZD | decide)]; rfl)) (AJ 63 _ (errV 50 (endN (erN (eQ z0 (p + 33)) 2) zz4.length)) (AH _ DF rfl) (fun w1 hw1 => end_w rb (erN (eQ z0 (p + 33)) 2) ao4 zz4.length ca4 w1 (RdA.of hw1 (A0 2 rfl (AG _)) ZM))) rfl ?_
  rintro v1 L1 ⟨rfl, rfl⟩
  show JL _ _ _ _ (_ :: _) [_, _, _, _]
  refine AD 3 83 true _ (.bool (!(decide (endN (erN (eQ z0 (p + 33)) 2) zz4.length = 0)))) rfl rfl (decide_eq_true (by rw [leftN, if_neg (by first | exact EN ZD | decide)]; rfl)) (CG _ _ _ rfl rfl (fun _ => BL ..) fun _ => CW AV _ _) rfl ?_
  refine AE _ (CC _ rfl (decide_eq_true (by rw [leftN, if_neg (by first | exact EN ZD | decide)]; rfl)) rfl) rfl ?_
  refine A1 (AK (A7 _ rfl (bnotF (decide_eq_false (by rw [endN, if_neg (by first | exact EN ZD | decide)]; first | exact EN ZD | decide))) ?_))
  refine A4 (AO (AE (.agg (V4).toArray) Ze rfl ?_))
  refine AC (AB 0 nb1 22 _ 29 (V4) rfl rfl rfl BH ZS (AQ ZC A6) ZS (AI ZS)) rfl ?_
  show JL _ _ _ _ _ [_, _, _, _]
  refine Z2 4 ?_
  refine Z1 fun w1 hw1 => ?_
  rw [show erN (eQ z0 (p + 33)) 2 = 2 by rw [DJ ZO]; rfl] at hw1
  exact ⟨_, _, rfl, ⟨ao4, zz4, ca4, _, _, _, _, _, _, ⟨(fun w M h => hA4 w M (hA3 w M (hA2 w M (hA1 w M h)))), ZO, ZO, ZO⟩, rfl, rfl⟩, CS hw1 2 0 1 rfl rfl rfl ZD ZD ZD⟩
 refine ⟨[], ?_⟩
 show DP _ _ _ _ _ _ _ _ [_, _, _]
 refine Z6 ⟨[3], [0, 1, 2], [2], [0, 1], [4]⟩ 4 (hq := ⟨AA rfl rfl ZE, AA rfl rfl (B4 16 5 1 0 16 6 16 AZ AW rfl rfl rfl ZO ZO ZO ZO ZO 16 ZO), trivial⟩) (AL rfl (CP 43 43 5 1 nb2 6 16 16 (V2 (vQ z0 p 8) (vQ z0 (p + 8) 8) (((vQ z0 (p + 16) 1).toNat:Int)) none 0 0 none 0 0 0 (zr8 16)) 29 none 0 0 0 [] (V2 (vQ z0 p 8) (vQ z0 (p + 8) 8) (((vQ z0 (p + 16) 1).toNat:Int)) none 0 0 none 0 0 0 (zr8 16)) AM BZ rfl rfl rfl rfl rfl SrcAt.nil ZS ES (ET _ _))) ?_
 show DP _ _ _ _ _ _ _ _ [_, _, _]
 refine Z5 ⟨[3, 4], [0, 1, 2], [0, 1, 2], [], []⟩ ?_
 refine A9 (F' := [(0, Ptr rb 0), (2, Ptr nb1 0), (3, Ptr nb2 0)]) ZR ?_
 refine Z2 5 ?_
 refine AC (AJ 128 _ (errV 50 (mayN (vQ z0 p 8) (vQ z0 (p + 8) 8) (((vQ z0 (p + 16) 1).toNat:Int)) ([] : List UInt64) ([] : List SealR) (0:UInt64))) (AH _ Tryd.call128 rfl) (fun w1 hw1 => may13_c (vQ z0 p 8) (vQ z0 (p + 8) 8) (((vQ z0 (p + 16) 1).toNat:Int)) none 0 0 ([] : List UInt64) none 0 0 ([] : List SealR) (0:UInt64) (zr8 16) w1 rfl ZO ZO ZO RdV.nil rfl ZO ZO ZO RdV.nil (AN 16))) rfl ?_
 show JL _ _ _ _ (_ :: _) [_, _, _]
 refine Z2 6 ?_
 refine AE (.bool (!(decide (mayN (vQ z0 p 8) (vQ z0 (p + 8) 8) (((vQ z0 (p + 16) 1).toNat:Int)) ([] : List UInt64) ([] : List SealR) (0:UInt64) = 0)))) (CG _ _ _ rfl rfl (fun _ => BL ..) fun _ => CW AV _ _) rfl ?_
 refine A1 (AK (A7 _ rfl (bnotF (decide_eq_false (by have h9 := may_nil (pv := vQ z0 p 8) (ep := vQ z0 (p + 8) 8) (kd := ((vQ z0 (p + 16) 1).toNat:Int)) (bl := 0) (by rw [hk0]; decide); omega))) ?_))
 refine Z2 3 ?_
 refine AF (C5 121 [Ptr rb 0, .iface 50 (I64 2)] 2 (Ez rb [errV 50 (eQ z0 (p + 33)), SL ao4 zz4.length ca4] 204) _ (fun v e' l' => v = .tuple #[] ∧ e' = (Ez rb [errV 50 (erN (eQ z0 (p + 33)) 2), SL ao4 zz4.length ca4] 204) ∧ l' = []) (AH _ DE rfl) rfl (by rintro v l ⟨rfl, rfl⟩; exact ⟨_, _, rfl, rfl, rfl, rfl, rfl⟩) (fun w1 hw1 => D5 rb (eQ z0 (p + 33)) 2 (SL ao4 zz4.length ca4) w1 ZD (hw1.en 2 rfl))) rfl ?_
 rintro v1 L1 ⟨_, _, ⟨rfl, rfl, rfl⟩, rfl⟩
 show JL _ _ _ _ (_ :: _) [_, _, _]
 refine Z2 6 ?_
 refine AC (AJ 61 _ (I64 ((leftN (erN (eQ z0 (p + 33)) 2) zz4.length:Int))) (AH _ C7 rfl) (fun w1 hw1 => left_w rb (erN (eQ z0 (p + 33)) 2) ao4 zz4.length ca4 w1 (RdA.of hw1 (A0 2 rfl (AG _)) ZM))) rfl ?_
 show JL _ _ _ _ (_ :: _) [_, _, _]
 refine Z2 2 ?_
 refine AD 3 83 true _ _ rfl rfl (decide_eq_true (by rw [leftN, if_neg (by first | exact EN ZD | decide)]; rfl)) ZE rfl ?_
 refine B6 3 83 true _ rfl rfl (decide_eq_true (by rw [leftN, if_neg (by first | exact EN ZD | decide)]; rfl)) (AJ 63 _ (errV 50 (endN (erN (eQ z0 (p + 33)) 2) zz4.length)) (AH _ DF rfl) (fun w1 hw1 => end_w rb (erN (eQ z0 (p + 33)) 2) ao4 zz4.length ca4 w1 (RdA.of hw1 (A0 2 rfl (AG _)) ZM))) rfl ?_
 rintro v1 L1 ⟨rfl, rfl⟩
 show JL _ _ _ _ (_ :: _) [_, _, _]
 refine AD 3 83 true _ (.bool (!(decide (endN (erN (eQ z0 (p + 33)) 2) zz4.length = 0)))) rfl rfl (decide_eq_true (by rw [leftN, if_neg (by first | exact EN ZD | decide)]; rfl)) (CG _ _ _ rfl rfl (fun _ => BL ..) fun _ => CW AV _ _) rfl ?_
 refine AE _ (CC _ rfl (decide_eq_true (by rw [leftN, if_neg (by first | exact EN ZD | decide)]; rfl)) rfl) rfl ?_
 refine A1 (AK (A7 _ rfl (bnotF (decide_eq_false (by rw [endN, if_neg (by first | exact EN ZD | decide)]; first | exact EN ZD | decide))) ?_))
 refine A4 (AO (AE (.agg (V4).toArray) Ze rfl ?_))
 refine AC (AB 0 nb1 22 _ 29 (V4) rfl rfl rfl BH ZS (AQ ZC A6) ZS (AI ZS)) rfl ?_
 show JL _ _ _ _ _ [_, _, _]
 refine Z2 4 ?_
 refine Z1 fun w1 hw1 => ?_
 rw [show erN (eQ z0 (p + 33)) 2 = 2 by rw [DJ ZO]; rfl] at hw1
 exact ⟨_, _, rfl, ⟨ao4, zz4, ca4, _, _, _, _, _, _, ⟨(fun w M h => hA4 w M (hA3 w M (hA2 w M (hA1 w M h)))), ZO, ZO, ZO⟩, rfl, rfl⟩, CS hw1 2 0 1 rfl rfl rfl ZD ZD ZD⟩
end Go.Proofs.YtkdpdgpphpngeaaDoor
namespace Go.Proofs.YtkdpdgpphpngeaaDoor
open Go Go.Sx
open Go.Value renaming slice → SL
attribute [local irreducible] mid zr8 numK valK rvalK constL initL putL RightB tktT mayN idxT selT blankB spanB reqR plainV itB chB bB aB c1B c2B c3B c4B repR repT LargeQ eQ vQ tQ bQ sQ ixQ seQ fQ fN
theorem treadU_w (rb p : Nat) (ao : Option Addr) (n c : Nat) (z0 z : List UInt8) (w : World) (h0 : w.heap[rb]? = some (.cells [errV 50 (eQ z0 p), SL ao n c].toArray 204 (0, 0))) (hz : z.length = n) (hn : n ≤ 2000000000) (hc : n ≤ c) (hcm : c ≤ maxLen) (hr : RdB w [rb] ao z) (hq : Lq z0 z p) : Calls Tryd.prog 60 #[Ptr rb 0] w (Post w [rb] (fun v L => ∃ pv ep kd ni l ns ls bl tg tot q ao' z' c' g1 cs1 T1 a1 c1 g2 cs2 T2 a2 c2, TkR (z0.drop p) pv ep kd l ls bl tg tot ∧ q = p + tot ∧ l.length = ni ∧ ls.length = ns ∧ tg.length = 16 ∧ ni ≤ 256 ∧ ns ≤ 256 ∧ Lq z0 z' q ∧ Adv ao z c ao' z' c' ∧ v = .agg (V2 pv ep kd a1 ni c1 a2 ns c2 bl tg).toArray ∧ L = [(Ez rb [errV 50 (eQ z0 q), SL ao' z'.length c'] 204), (Ez g1 cs1 T1), (Ez g2 cs2 T2)] ∧ Gh (cu64 l) g1 cs1 a1 ∧ ni ≤ c1 ∧ c1 ≤ maxLen ∧ Gh (ls.flatMap sealC) g2 cs2 a2 ∧ ns ≤ c2 ∧ c2 ≤ maxLen)) := by
 by_cases hp : p ≤ z0.length
 ·
  refine (treadG_c rb ao n c (z0.drop p) z w (by rw [show eQ (z0.drop p) 0 = eQ z0 p from eQ_drop hp]; exact h0) hz hn hc hcm hr (fun _ => by rw [hq hp]; rfl)).mono ?_
  rintro E W ⟨v, L, rfl, ⟨pv, ep, kd, ni, l, ns, ls, bl, tg, tot, ao', z', c', g1, cs1, T1, a1, c1, g2, cs2, T2, a2, c2, hT, h1, h2, h3, h4, h5, h6, h7, rfl, rfl, h8⟩, hw⟩
  exact ⟨_, _, rfl, ⟨pv, ep, kd, ni, l, ns, ls, bl, tg, tot, p + tot, ao', z', c', g1, cs1, T1, a1, c1, g2, cs2, T2, a2, c2, hT, rfl, h1, h2, h3, h4, h5, Lq.drop hp h6, h7, rfl, by rw [eQ_drop hp], h8⟩, hw⟩
 ·
  refine (treadE_c rb p ao n c z0 z w h0 hz hn hc hcm hr hq hp).mono ?_
  rintro E W ⟨v, L, rfl, ⟨ao', z', c', g1, cs1, T1, g2, cs2, T2, hA, rfl, rfl⟩, hw⟩
  have hd : z0.drop p = [] := List.drop_eq_nil_of_le (by omega)
  refine ⟨_, _, rfl, ⟨0, 0, 0, 0, [], 0, [], 0, zr8 16, 1, p + 1, ao', z', c', g1, cs1, T1, none, 0, g2, cs2, T2, none, 0, by rw [hd]; exact FJ [] bad_nil, rfl, rfl, rfl, AN 16, by omega, by omega, fun h => absurd h (by omega), hA, rfl, by rw [DJ (by omega)], .inl rfl, by omega, by unfold maxLen; omega, .inl rfl, by omega, by unfold maxLen; omega⟩, hw⟩
end Go.Proofs.YtkdpdgpphpngeaaDoor
