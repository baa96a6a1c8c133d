import Derived.Test.YtkdpdgpphpngeaaDoorPkWP5
set_option linter.unusedVariables false
set_option linter.unusedSimpArgs false
set_option maxRecDepth 100000
namespace Go.Proofs.YtkdpdgpphpngeaaDoor
open Go Go.Sx
open Go.Value renaming slice → SL
attribute [local irreducible] mid zr8 numK rnK valK constL initL putL RightB tktT mayN idxT selT blankB plainV itB chB bB aB c1B c2B c3B c4B repR
theorem FN (gb n cap0 tot : Nat) (o : List UInt8) (sp0 : List Value) (ahq : Option Addr) (nhq chq : Nat) (xhq : List UInt8)  (w : World) (h0 : w.heap[gb]? = some (.cells (cu8 o ++ sp0).toArray 5 (0, 0))) (ho : o.length = n) (hsp : sp0.length = cap0 - n) (hca : n ≤ cap0) (hcm : cap0 ≤ maxLen) (hlhq : xhq.length = nhq * 32) (hnhq : nhq ≤ 300) (hdhq : nhq ≤ chq) (hchq : chq ≤ maxLen) (hrhq : RdB w [gb] ahq xhq) (ht : n + 2 + nhq*32 = tot) (htb : tot ≤ 1000000000)  : Calls Tryd.prog 106 #[Slc gb 0 n cap0, SL ahq nhq chq] w (Post w [gb] (fun v L => ∃ g sp cap, v = Slc g 0 tot cap ∧ L = [⟨g, cu8 ((o ++ numK 2 (UInt64.ofNat nhq) 2) ++ xhq) ++ sp, 5, (0, 0)⟩] ∧ sp.length = cap - tot ∧ tot ≤ cap ∧ cap ≤ maxLen)) := by
 have hmx : maxLen = 9223372036854775807 := rfl
 refine enter w [gb] 25 [⟨gb, cu8 o ++ sp0, 5, (0, 0)⟩] [Slc gb 0 n cap0, SL ahq nhq chq] Tryd.func106 rfl rfl (by simp) (CC (by simpa using h0) (by simp) (by simp)) ?_
 show JC _ _ _ [(0, Slc gb 0 n cap0), (1, SL ahq nhq chq)] _
 refine AK (AD (AA _ (AH rfl) rfl ?_))
 refine AN (AF (AK (AD (AA _ (AL rfl) rfl ?_))))
 refine AA _ (AL rfl) rfl ?_
 refine AA (I64 nhq) (CY BS rfl) rfl ?_
 refine AA (U64 (UInt64.ofNat nhq)) (CX _ _ rfl fun _ => EL (by rw [AZ]; rfl) A3 nhq _ (by omega)) rfl ?_
 refine A9 (CG 88 [U64 (UInt64.ofNat nhq), I64 2] _ (A6 _ D8 rfl) (fun w1 hw1 => EU (UInt64.ofNat nhq) 2 w1 (by omega))) rfl ?_
 rintro v1 L1 ⟨_, ⟨nb1, rfl, rfl⟩, rfl⟩
 show JL _ _ _ _ ((10, Slc nb1 0 2 2) :: _) [_, ⟨nb1, cu8 (numK 2 (UInt64.ofNat nhq) 2), 5, (0, 0)⟩]
 refine A9 (CP 43 5 [true, false] (Slc gb 0 n cap0) n o (numK 2 (UInt64.ofNat nhq) 2) (some ⟨nb1, 0, none⟩) 2 2 (n + 2) AW CM rfl (.inr ⟨gb, sp0, cap0, rfl, rfl, (by first | exact ho | simp [ho]), hsp, (by omega), (by omega)⟩) rfl (by first | exact (show (numK 2 (UInt64.ofNat nhq) 2).length = 2 from A4 _ _ _) | simp [(show (numK 2 (UInt64.ofNat nhq) 2).length = 2 from A4 _ _ _)]; try omega) (SrcAt.mem (AS 1 rfl (AV _))) (by omega) (by unfold maxLen; omega) (by omega)) rfl ?_
 rintro v1 L1 ⟨nb2, sp1, cp1, hg1, rfl, rfl, ha1, ha2, ha3, ha4⟩
 show JL _ _ _ _ ((11, Slc nb2 0 (n + 2) cp1) :: _) [_, ⟨nb2, cu8 (o ++ (numK 2 (UInt64.ofNat nhq) 2)) ++ sp1, 5, (0, 0)⟩]
 refine AA _ (AH rfl) rfl ?_
 refine AN (AF (AK (AK (AD (AA _ (AH rfl) rfl ?_)))))
 refine AN (AF (B2 (BP [false, true] ?_)))
 show JC _ _ _ _ [_]
 refine DV (ι := Nat × List UInt8 × Nat × List Value × Nat) (fun ⟨i, oqi, gqi, spqi, cpqi⟩ => [(1, SL ahq nhq chq), (4, SL none 0 0), (5, I64 i), (0, Slc gqi 0 (32*i + n + 2) cpqi)]) (fun ⟨i, oqi, gqi, spqi, cpqi⟩ => [⟨gqi, cu8 oqi ++ spqi, 5, (0, 0)⟩]) (fun ⟨i, oqi, gqi, spqi, cpqi⟩ => i ≤ nhq ∧ oqi = (o ++ numK 2 (UInt64.ofNat nhq) 2) ++ xhq.take (32*i) ∧ oqi.length = (32*i + n + 2) ∧ spqi.length = cpqi - (32*i + n + 2) ∧ (32*i + n + 2) ≤ cpqi ∧ cpqi ≤ maxLen) (fun ⟨i, oqi, gqi, spqi, cpqi⟩ => nhq - i) (0, o ++ (numK 2 (UInt64.ofNat nhq) 2), nb2, sp1, cp1) ⟨by omega, by rw [Nat.mul_zero, List.take_zero, List.append_nil], (by have h := ha1; omega), (by have h := ha2; omega), by omega, by omega⟩ (Sub.cons rfl (Sub.cons rfl (Sub.cons rfl (Sub.cons (FL (by omega)) (Sub.nil))))) rfl ?_
 rintro ⟨i, oqi, gqi, spqi, cpqi⟩ ⟨hi1, hi2, hi3, hi4, hi5, hi6⟩
 show JC _ _ _ [(1, SL ahq nhq chq), (4, SL none 0 0), (5, I64 i), (0, Slc gqi 0 (32*i + n + 2) cpqi)] [⟨gqi, cu8 oqi ++ spqi, 5, (0, 0)⟩]
 refine AK (AK (AD (AA _ (AL rfl) rfl ?_)))
 refine AA _ (AL rfl) rfl ?_
 refine AA (I64 nhq) (CY BS rfl) rfl ?_
 refine AA (.bool (decide (((i:Int)) < ((nhq:Int))))) (AU rfl rfl fun _ => CR _ _) rfl ?_
 refine AN (AF (CI (decide (((i:Int)) < ((nhq:Int)))) rfl (fun hb1 => ?_) (fun hb1 => ?_)))
 ·
  have hp1 : ((i:Int)) < ((nhq:Int)) := of_decide_eq_true hb1
  refine BE (AF (AK (B2 (AD (AA _ (AL rfl) rfl ?_)))))
  refine AA _ (AL rfl) rfl ?_
  refine AA _ (AL rfl) rfl ?_
  obtain ⟨bz1, oz1, hz1, hm1⟩ := hrhq.pos (by rw [hlhq]; omega)
  refine AA (Ptr bz1 (32*i + oz1)) (B4 54 32 (32*i + oz1) BS EA rfl hz1 rfl (by omega) (by omega) (by omega)) rfl ?_
  refine AA (Slc bz1 (32*i + oz1) 32 32) (FW 32 5 1 0 32 (32*i + oz1) 32 EZ B5 rfl rfl rfl (by omega) (by omega) (by omega) (by omega) (by omega) 32 (by omega)) rfl ?_
  have hl1 : (mid xhq (32*i) 32).length = 32 := F3 (by rw [hlhq]; omega)
  refine A9 (CP 43 5 [true] (Slc gqi 0 (32*i + n + 2) cpqi) (32*i + n + 2) oqi (mid xhq (32*i) 32) (some ⟨bz1, (32*i + oz1), none⟩) 32 32 (32*i + n + 34) AW CM rfl (.inr ⟨gqi, spqi, cpqi, rfl, rfl, (by first | exact hi3 | simp [hi3]), hi4, (by omega), (by omega)⟩) rfl (by first | exact hl1 | simp [hl1]; try omega) (SrcAt.mem (CK (MemAt.base hm1.1 hm1.2.1 hm1.2.2) (segm_u8 (32*i) 32 (by rw [hlhq]; omega)) (by omega))) (by omega) (by unfold maxLen; omega) (by omega)) rfl ?_
  rintro v1 L1 ⟨nb3, sp2, cp2, hg2, rfl, rfl, ha5, ha6, ha7, ha8⟩
  show JL _ _ _ _ ((23, Slc nb3 0 (32*i + n + 34) cp2) :: _) [⟨nb3, cu8 (oqi ++ (mid xhq (32*i) 32)) ++ sp2, 5, (0, 0)⟩]
  refine AA _ (AH rfl) rfl ?_
  refine AN (BY (AF (AD (AA _ (AL rfl) rfl ?_))))
  refine AA (I64 ((i:Int) + 1)) (AU rfl rfl fun _ => DE _ _ ((i:Int) + 1) (by omega) (by omega)) rfl ?_
  refine AA _ (AH rfl) rfl ?_
  refine AN (DK (EM (i + 1, oqi ++ (mid xhq (32*i) 32), nb3, sp2, cp2) ⟨by omega, by rw [hi2, List.append_assoc, take_mid2], (by have h := ha5; omega), (by have h := ha6; omega), by omega, by omega⟩ (by first | (simp; omega) | simp | (dsimp only; omega) | omega) (Sub.cons rfl (Sub.cons rfl (Sub.cons rfl (Sub.cons (FL (by omega)) (Sub.nil))))) rfl))
 ·
  have hp1 : ¬ (((i:Int)) < ((nhq:Int))) := of_decide_eq_false hb1
  refine DU (A5 (A5 (CQ (AF (AK (AD (AA _ (AL rfl) rfl ?_)))))))
  refine AA _ (AH rfl) rfl ?_
  refine AN (AF (BK (BJ (Slc gqi 0 (32*i + n + 2) cpqi) (res1 Tryd.results106 (BH rfl)) fun w1 hw1 => ?_)))
  obtain rfl : nhq = i := by omega
  obtain rfl : tot = (32*nhq + n + 2) := by omega
  rw [List.take_of_length_le (by omega)] at hi2
  subst hi2
  exact ⟨_, _, rfl, ⟨gqi, spqi, cpqi, rfl, rfl, hi4, hi5, hi6⟩, hw1⟩
set_option maxHeartbeats 2000000 in
theorem rputRepE_c (rq : UInt64) (rk er : Nat) (aj : Option Addr) (nj cj : Nat) (lj : List ItemR) (th : Bool) (pv ep : UInt64) (kd : Int) (ai : Option Addr) (ni ci : Nat) (l : List UInt64) (sa : Option Addr) (ns sc : Nat) (ls : List SealR) (bl : UInt64) (tg : List UInt8) (aha : Option Addr) (nha cha : Nat) (xha : List UInt8) (ahb : Option Addr) (nhb chb : Nat) (xhb : List UInt8)  (w : World) (hlj : lj.length = nj) (hnj : nj ≤ 2000000) (hdj : nj ≤ cj) (hcj : cj ≤ maxLen) (hj : RdV w aj (lj.flatMap itemC)) (hl : l.length = ni) (hnm : ni ≤ 2000000) (hnc : ni ≤ ci) (hcm : ci ≤ maxLen) (hv : RdV w ai (cu64 l)) (hls : ls.length = ns) (hnn : ns ≤ 2000000) (hnd : ns ≤ sc) (hcn : sc ≤ maxLen) (hs : RdV w sa (ls.flatMap sealC)) (htg : tg.length = 16) (hlha : xha.length = nha * 32) (hnha : nha ≤ 9000) (hdha : nha ≤ cha) (hcha : cha ≤ maxLen) (hrha : RdB w [] aha xha) (hlhb : xhb.length = nhb * 32) (hnhb : nhb ≤ 9000) (hdhb : nhb ≤ chb) (hchb : chb ≤ maxLen) (hrhb : RdB w [] ahb xhb) (hbi : ni ≤ 300) (hbs : ns ≤ 300) (hA : nha ≤ 300) (hB : nhb ≤ 300) (hR : repR ((rk:Int)) ((er:Int)) th lj (blankB pv ep kd l ls bl tg) (decide (mayN pv ep kd l ls bl = 0)) nha nhb = true) (hE : (er:Int) ≠ 0)  : Calls Tryd.prog 38 #[.agg ([U64 rq, I64 rk, I64 er, SL aj nj cj, .bool th, U64 pv, U64 ep, I64 (kd), SL ai ni ci, SL sa ns sc, U64 bl] ++ cu8 tg ++ [SL aha nha cha, SL ahb nhb chb]).toArray] w (Post w [] (fun v L => ∃ g sp cap, v = Slc g 0 (10) cap ∧ L = [⟨g, cu8 ((numK 8 rq 8 ++ numK 1 (UInt64.ofNat rk) 1) ++ numK 1 (UInt64.ofNat er) 1) ++ sp, 5, (0, 0)⟩] ∧ sp.length = cap - 10 ∧ 10 ≤ cap ∧ cap ≤ maxLen)) := by
 have hmx : maxLen = 9223372036854775807 := rfl
 have hf := repR_f hlj hR
 have hn0 := repR_E hlj hE hR
 refine enter (P := Tryd.prog) (f := 38) (fn := Tryd.f38) w [] 95 [] [.agg ([U64 rq, I64 rk, I64 er, SL aj nj cj, .bool th, U64 pv, U64 ep, I64 (kd), SL ai ni ci, SL sa ns sc, U64 bl] ++ cu8 tg ++ [SL aha nha cha, SL ahb nhb chb]).toArray] Tryd.func38 rfl rfl (by simp) (CC (by simp) (by simp) (by simp)) ?_
 show JC _ _ _ [(0, .agg ([U64 rq, I64 rk, I64 er, SL aj nj cj, .bool th, U64 pv, U64 ep, I64 (kd), SL ai ni ci, SL sa ns sc, U64 bl] ++ cu8 tg ++ [SL aha nha cha, SL ahb nhb chb]).toArray)] _
 refine AK (AD (A9 (CL (.agg ([U64 rq, I64 rk, I64 er, SL aj nj cj, .bool th, U64 pv, U64 ep, I64 (kd), SL ai ni ci, SL sa ns sc, U64 bl] ++ cu8 tg ++ [SL aha nha cha, SL ahb nhb chb]).toArray) ([U64 rq, I64 rk, I64 er, SL aj nj cj, .bool th, U64 pv, U64 ep, I64 (kd), SL ai ni ci, SL sa ns sc, U64 bl] ++ cu8 tg ++ [SL aha nha cha, SL ahb nhb chb]) rfl (by first | rfl | simp)) rfl ?_))
 rintro v1 L1 ⟨nb1, hnb1, rfl, rfl⟩
 show JL _ _ _ _ ((1, Ptr nb1 0) :: _) [⟨nb1, [U64 rq, I64 rk, I64 er, SL aj nj cj, .bool th, U64 pv, U64 ep, I64 (kd), SL ai ni ci, SL sa ns sc, U64 bl] ++ cu8 tg ++ [SL aha nha cha, SL ahb nhb chb], 71, (0, 0)⟩]
 refine AA _ (AH rfl) rfl ?_
 refine AN (AF (AK (AD (AA (.agg ([U64 rq, I64 rk, I64 er, SL aj nj cj, .bool th, U64 pv, U64 ep, I64 (kd), SL ai ni ci, SL sa ns sc, U64 bl] ++ cu8 tg ++ [SL aha nha cha, SL ahb nhb chb]).toArray) (AI rfl (BV DR C2 (by simp [htg]) (AS 0 rfl (AV _)))) rfl ?_))))
 refine B1 (BG 94 [.agg ([U64 rq, I64 rk, I64 er, SL aj nj cj, .bool th, U64 pv, U64 ep, I64 (kd), SL ai ni ci, SL sa ns sc, U64 bl] ++ cu8 tg ++ [SL aha nha cha, SL ahb nhb chb]).toArray] (.agg #[.bool (itB ((er:Int)) ((rk:Int))), .bool (chB ((er:Int)) ((rk:Int)) th), .bool (aB ((er:Int)) ((rk:Int)) th), .bool (bB ((er:Int)) ((rk:Int)) th)]) (A6 _ Tryd.call94 rfl) (fun w1 hw1 => has_c rq ((rk:Int)) ((er:Int)) aj nj cj lj th pv ep (kd) ai ni ci l sa ns sc ls bl tg aha nha cha xha ahb nhb chb xhb w1 htg)) rfl ?_
 show JL _ _ _ _ ((7, .agg #[.bool (itB ((er:Int)) ((rk:Int))), .bool (chB ((er:Int)) ((rk:Int)) th), .bool (aB ((er:Int)) ((rk:Int)) th), .bool (bB ((er:Int)) ((rk:Int)) th)]) :: _) [_]
 refine A9 (DI _ ([.bool false, .bool false, .bool false, .bool false]) EY (by kernel_rfl)) rfl ?_
 rintro v1 L1 ⟨nb2, hnb2, rfl, rfl⟩
 show JL _ _ _ _ ((3, Ptr nb2 0) :: _) [_, ⟨nb2, [.bool false, .bool false, .bool false, .bool false], 168, (0, 0)⟩]
 refine B1 (CW 1 nb2 4 ([.bool false, .bool false, .bool false, .bool false]) 168 ([.bool (itB ((er:Int)) ((rk:Int))), .bool (chB ((er:Int)) ((rk:Int)) th), .bool (aB ((er:Int)) ((rk:Int)) th), .bool (bB ((er:Int)) ((rk:Int)) th)]) rfl rfl rfl DT rfl (by simp [Value.oneCell']) (Nat.le_of_ble_eq_true rfl) (DC (by simp []))) rfl ?_
 show JL _ _ _ _ _ [_, ⟨nb2, [.bool (itB ((er:Int)) ((rk:Int))), .bool (chB ((er:Int)) ((rk:Int)) th), .bool (aB ((er:Int)) ((rk:Int)) th), .bool (bB ((er:Int)) ((rk:Int)) th)], 168, (0, 0)⟩]
 refine AN (AF (AK (DH 95 4 [(0, Ptr nb1 0), (1, U64 rq), (3, Ptr nb1 1), (4, I64 rk), (5, U8 (UInt8.ofNat rk)), (6, Ptr nb1 2), (7, I64 er), (8, U8 (UInt8.ofNat er))] B8 rfl (by decide +kernel) ?_)))
 refine DP_two ⟨[], [0, 1, 3, 4, 5, 6, 7, 8], [], [0, 1, 3, 4, 5, 6, 7, 8], [2, 9]⟩ 2 9 _ _ rfl rfl (by decide +kernel) rfl ⟨⟨_, rfl, AJ rfl (AB 0 22 1 AO rfl AX rfl rfl)⟩, ⟨_, rfl, AJ rfl (AI rfl (AQ AY (AS 0 rfl (AG (AG (Seg.head))))))⟩, ⟨_, rfl, AJ rfl (AB 1 3 1 AO rfl AR rfl rfl)⟩, ⟨_, rfl, AJ rfl (AI rfl (AQ AT (AS 0 rfl (AG (AG (AE (Seg.head)))))))⟩, ⟨_, rfl, AJ rfl (CX _ _ rfl fun _ => FK (by rw [AZ]; rfl) BA rk _ (by omega))⟩, ⟨_, rfl, AJ rfl (AB 2 3 1 AO rfl AR rfl rfl)⟩, ⟨_, rfl, AJ rfl (AI rfl (AQ AT (AS 0 rfl (AG (AG (AE (AE (Seg.head))))))))⟩, ⟨_, rfl, AJ rfl (CX _ _ rfl fun _ => FK (by rw [AZ]; rfl) BA er _ (by omega))⟩, trivial⟩ rfl rfl (BI rfl (CG 88 [U64 rq, I64 8] _ (A6 _ D8 rfl) (fun w1 hw1 => EU rq 8 w1 (by omega)))) (BI rfl (B3 5 1 _ [(0, U8 (UInt8.ofNat rk)), (1, U8 (UInt8.ofNat er))] (cu8 ([UInt8.ofNat rk, UInt8.ofNat er])) AW B5 CE rfl rfl rfl (by kernel_rfl))) ?_ ?_
 ·
  rintro v1 L1 ⟨_, ⟨nb3, rfl, rfl⟩, rfl⟩
  refine ⟨[], ?_⟩
  show DP _ _ _ _ _ _ _ _ [_, _, ⟨nb3, cu8 (numK 8 rq 8), 5, (0, 0)⟩]
  refine CZ ⟨[2], [0, 1, 3, 4, 5, 6, 7, 8], [0, 1], [3, 4, 5, 6, 7, 8], [9]⟩ 9 _ rfl rfl (by decide +kernel) rfl ⟨⟨_, rfl, AJ rfl (AB 1 3 1 AO rfl AR rfl rfl)⟩, ⟨_, rfl, AJ rfl (AI rfl (AQ AT (AS 0 rfl (AG (AG (AE (Seg.head)))))))⟩, ⟨_, rfl, AJ rfl (CX _ _ rfl fun _ => FK (by rw [AZ]; rfl) BA rk _ (by omega))⟩, ⟨_, rfl, AJ rfl (AB 2 3 1 AO rfl AR rfl rfl)⟩, ⟨_, rfl, AJ rfl (AI rfl (AQ AT (AS 0 rfl (AG (AG (AE (AE (Seg.head))))))))⟩, ⟨_, rfl, AJ rfl (CX _ _ rfl fun _ => FK (by rw [AZ]; rfl) BA er _ (by omega))⟩, trivial⟩ rfl (BI rfl (B3 5 1 _ [(0, U8 (UInt8.ofNat rk)), (1, U8 (UInt8.ofNat er))] (cu8 ([UInt8.ofNat rk, UInt8.ofNat er])) AW B5 CE rfl rfl rfl (by kernel_rfl))) ?_
  rintro v1 L1 ⟨nb5, hnb5, rfl, rfl⟩
  refine ⟨[], ?_⟩
  show DP _ _ _ _ _ _ _ _ [_, _, _, ⟨nb5, cu8 ([UInt8.ofNat rk, UInt8.ofNat er]), 5, (0, 0)⟩]
  refine CZ ⟨[2, 9], [0, 1, 3, 4, 5, 6, 7, 8], [0, 1, 3, 4, 5, 6, 7, 8], [], [10]⟩ 10 _ rfl rfl (by decide +kernel) rfl trivial rfl (BI rfl (CP 43 5 [false, false, true, false] (Slc nb3 0 8 8) 8 (numK 8 rq 8) ([UInt8.ofNat rk, UInt8.ofNat er]) (some ⟨nb5, 0, none⟩) 2 2 10 AW CM rfl (.inr ⟨nb3, [], 8, rfl, (by simp [take?, cu8, cu32, cu64]), (by first | exact (show (numK 8 rq 8).length = 8 from A4 _ _ _) | simp [(show (numK 8 rq 8).length = 8 from A4 _ _ _)]), (by simp), (by omega), (by unfold maxLen; omega)⟩) rfl (by simp) (SrcAt.mem (AS 3 rfl (AV _))) (by omega) (by unfold maxLen; omega) (by omega))) ?_
  rintro v1 L1 ⟨nb6, sp1, cp1, hg1, rfl, rfl, ha1, ha2, ha3, ha4⟩
  refine ⟨[(11, Slc nb6 0 10 cp1)], ?_⟩
  show DP _ _ _ _ _ _ _ _ [_, _, _, ⟨nb6, cu8 ((numK 8 rq 8) ++ ([UInt8.ofNat rk, UInt8.ofNat er])) ++ sp1, 5, (0, 0)⟩]
  refine DN ⟨[2, 9, 10], [0, 1, 3, 4, 5, 6, 7, 8, 11], [0, 1, 3, 4, 5, 6, 7, 8], [11], []⟩ rfl rfl (by decide +kernel) rfl ⟨⟨_, rfl, AJ rfl (AH rfl)⟩, trivial⟩ ?_
  refine C7 (F' := [(4, Slc nb6 0 10 cp1), (1, Ptr nb1 0), (2, SL none 0 0), (3, Ptr nb2 0)]) (by kernel_rfl) ?_
  refine AF (AK (AK (AD (AA (Ptr nb2 0) (BZ 4 4 1 0 A8 BB rfl rfl (by omega) (by omega) (by omega)) rfl ?_))))
  refine AA (.bool (itB ((er:Int)) ((rk:Int)))) (AI rfl (AQ BD (AS 1 rfl (Seg.head)))) rfl ?_
  refine AN (AF (BN _ rfl (itB_ne hE) ?_))
  refine BE (AF (AK (AK (AD (AA _ (AH rfl) rfl ?_)))))
  refine AN (AF (B2 (BP [true, true, false, true] ?_)))
  show JC _ _ _ _ [_, _, _]
  refine DV (ι := Unit) (fun _ => [(1, Ptr nb1 0), (2, SL none 0 0), (3, Ptr nb2 0), (4, Slc nb6 0 10 cp1), (5, I64 0)]) (fun _ => [⟨nb1, [U64 rq, I64 rk, I64 er, SL aj nj cj, .bool th, U64 pv, U64 ep, I64 (kd), SL ai ni ci, SL sa ns sc, U64 bl] ++ cu8 tg ++ [SL aha nha cha, SL ahb nhb chb], 71, (0, 0)⟩, ⟨nb2, [.bool (itB ((er:Int)) ((rk:Int))), .bool (chB ((er:Int)) ((rk:Int)) th), .bool (aB ((er:Int)) ((rk:Int)) th), .bool (bB ((er:Int)) ((rk:Int)) th)], 168, (0, 0)⟩, ⟨nb6, cu8 ((numK 8 rq 8) ++ ([UInt8.ofNat rk, UInt8.ofNat er])) ++ sp1, 5, (0, 0)⟩]) (fun _ => True) (fun _ => 1) () trivial (Sub.all rfl) rfl ?_
  rintro _ _
  show JC _ _ _ [(1, Ptr nb1 0), (2, SL none 0 0), (3, Ptr nb2 0), (4, Slc nb6 0 10 cp1), (5, I64 0)] [⟨nb1, [U64 rq, I64 rk, I64 er, SL aj nj cj, .bool th, U64 pv, U64 ep, I64 (kd), SL ai ni ci, SL sa ns sc, U64 bl] ++ cu8 tg ++ [SL aha nha cha, SL ahb nhb chb], 71, (0, 0)⟩, ⟨nb2, [.bool (itB ((er:Int)) ((rk:Int))), .bool (chB ((er:Int)) ((rk:Int)) th), .bool (aB ((er:Int)) ((rk:Int)) th), .bool (bB ((er:Int)) ((rk:Int)) th)], 168, (0, 0)⟩, ⟨nb6, cu8 ((numK 8 rq 8) ++ ([UInt8.ofNat rk, UInt8.ofNat er])) ++ sp1, 5, (0, 0)⟩]
  refine AK (AK (AD (AA _ (AL rfl) rfl ?_)))
  refine AA (Ptr nb1 3) (AB 3 69 1 AO rfl BQ rfl rfl) rfl ?_
  refine AA (SL aj nj cj) (AI rfl (AQ B9 (AS 0 rfl (AG (AG (AE (AE (AE (Seg.head))))))))) rfl ?_
  refine AA (I64 nj) (CY BM rfl) rfl ?_
  refine AA (.bool (decide ((0:Int) < ((nj:Int))))) (AU rfl rfl fun _ => CR _ _) rfl ?_
  refine AN (AF (BN _ rfl (decide_eq_false (by omega)) ?_))
  refine DU (A5 (A5 (CQ (AF (AK (AK (AD (AA (Ptr nb1 2) (AB 2 3 1 AO rfl AR rfl rfl) rfl ?_))))))))
  refine AA (I64 er) (AI rfl (AQ AT (AS 0 rfl (AG (AG (AE (AE (Seg.head)))))))) rfl ?_
  refine AA (.bool (decide (((er:Int)) = (0:Int)))) (AU rfl rfl fun _ => BO _ _) rfl ?_
  refine AA _ (AL rfl) rfl ?_
  refine AC 3 64 true _ rfl rfl (decide_eq_false hE) rfl ?_
  refine AC 3 64 true _ rfl rfl (decide_eq_false hE) rfl ?_
  refine AC 3 64 true _ rfl rfl (decide_eq_false hE) rfl ?_
  refine AA _ (A0 _ rfl (decide_eq_false hE) rfl) rfl ?_
  refine AN (AF (BN _ rfl rfl ?_))
  refine BE (AF (AK (AK (AD (AA (Ptr nb2 1) (BZ 4 4 1 1 A8 BB rfl rfl (by omega) (by omega) (by omega)) rfl ?_)))))
  refine AA (.bool (chB ((er:Int)) ((rk:Int)) th)) (AI rfl (AQ BD (AS 1 rfl (AE (Seg.head))))) rfl ?_
  refine AN (AF (BN _ rfl (chB_ne hE) ?_))
  refine BE (AF (AK (AK (AD (AA (Ptr nb2 2) (BZ 4 4 1 2 A8 BB rfl rfl (by omega) (by omega) (by omega)) rfl ?_)))))
  refine AA (.bool (aB ((er:Int)) ((rk:Int)) th)) (AI rfl (AQ BD (AS 1 rfl (AE (AE (Seg.head)))))) rfl ?_
  refine AN (AF (BN _ rfl (aB_ne hE) ?_))
  refine BE (AF (AK (AK (AD (AA (Ptr nb2 3) (BZ 4 4 1 3 A8 BB rfl rfl (by omega) (by omega) (by omega)) rfl ?_)))))
  refine AA (.bool (bB ((er:Int)) ((rk:Int)) th)) (AI rfl (AQ BD (AS 1 rfl (AE (AE (AE (Seg.head))))))) rfl ?_
  refine AN (AF (BN _ rfl (bB_ne hE) ?_))
  refine BE (AF (AK (AD (AA _ (AL rfl) rfl ?_))))
  refine AA _ (AH rfl) rfl ?_
  refine AN (AF (BK (BP [false, false, true] ?_)))
  show JQ _ _ _ _ [_]
  refine BJ (Slc nb6 0 10 cp1) (res1 EK (BH rfl)) fun w1 hw1 => ?_
  have hq : (numK 8 rq 8) ++ ([UInt8.ofNat rk, UInt8.ofNat er]) = (numK 8 rq 8 ++ numK 1 (UInt64.ofNat rk) 1) ++ numK 1 (UInt64.ofNat er) 1 := by simp [EX, nkL0, ← FA, List.append_assoc]
  rw [hq] at hw1
  exact ⟨_, _, rfl, ⟨nb6, sp1, cp1, rfl, rfl, ha2, ha3, ha4⟩, hw1.sub (by simp) (by simp)⟩
 ·
  rintro v1 L1 ⟨nb4, hnb4, rfl, rfl⟩
  refine ⟨[], ?_⟩
  show DP _ _ _ _ _ _ _ _ [_, _, ⟨nb4, cu8 ([UInt8.ofNat rk, UInt8.ofNat er]), 5, (0, 0)⟩]
  refine CZ ⟨[9], [0, 1, 3, 4, 5, 6, 7, 8], [3, 4, 5, 6, 7, 8], [0, 1], [2]⟩ 2 _ rfl rfl (by decide +kernel) rfl ⟨⟨_, rfl, AJ rfl (AB 0 22 1 AO rfl AX rfl rfl)⟩, ⟨_, rfl, AJ rfl (AI rfl (AQ AY (AS 0 rfl (AG (AG (Seg.head))))))⟩, trivial⟩ rfl (BI rfl (CG 88 [U64 rq, I64 8] _ (A6 _ D8 rfl) (fun w1 hw1 => EU rq 8 w1 (by omega)))) ?_
  rintro v1 L1 ⟨_, ⟨nb7, rfl, rfl⟩, rfl⟩
  refine ⟨[], ?_⟩
  show DP _ _ _ _ _ _ _ _ [_, _, _, ⟨nb7, cu8 (numK 8 rq 8), 5, (0, 0)⟩]
  refine CZ ⟨[9, 2], [0, 1, 3, 4, 5, 6, 7, 8], [0, 1, 3, 4, 5, 6, 7, 8], [], [10]⟩ 10 _ rfl rfl (by decide +kernel) rfl trivial rfl (BI rfl (CP 43 5 [false, false, false, true] (Slc nb7 0 8 8) 8 (numK 8 rq 8) ([UInt8.ofNat rk, UInt8.ofNat er]) (some ⟨nb4, 0, none⟩) 2 2 10 AW CM rfl (.inr ⟨nb7, [], 8, rfl, (by simp [take?, cu8, cu32, cu64]), (by first | exact (show (numK 8 rq 8).length = 8 from A4 _ _ _) | simp [(show (numK 8 rq 8).length = 8 from A4 _ _ _)]), (by simp), (by omega), (by unfold maxLen; omega)⟩) rfl (by simp) (SrcAt.mem (AS 2 rfl (AV _))) (by omega) (by unfold maxLen; omega) (by omega))) ?_
  rintro v1 L1 ⟨nb8, sp2, cp2, hg2, rfl, rfl, ha5, ha6, ha7, ha8⟩
  refine ⟨[(11, Slc nb8 0 10 cp2)], ?_⟩
  show DP _ _ _ _ _ _ _ _ [_, _, _, ⟨nb8, cu8 ((numK 8 rq 8) ++ ([UInt8.ofNat rk, UInt8.ofNat er])) ++ sp2, 5, (0, 0)⟩]
  refine DN ⟨[9, 2, 10], [0, 1, 3, 4, 5, 6, 7, 8, 11], [0, 1, 3, 4, 5, 6, 7, 8], [11], []⟩ rfl rfl (by decide +kernel) rfl ⟨⟨_, rfl, AJ rfl (AH rfl)⟩, trivial⟩ ?_
  refine C7 (F' := [(4, Slc nb8 0 10 cp2), (1, Ptr nb1 0), (2, SL none 0 0), (3, Ptr nb2 0)]) (by kernel_rfl) ?_
  refine AF (AK (AK (AD (AA (Ptr nb2 0) (BZ 4 4 1 0 A8 BB rfl rfl (by omega) (by omega) (by omega)) rfl ?_))))
  refine AA (.bool (itB ((er:Int)) ((rk:Int)))) (AI rfl (AQ BD (AS 1 rfl (Seg.head)))) rfl ?_
  refine AN (AF (BN _ rfl (itB_ne hE) ?_))
  refine BE (AF (AK (AK (AD (AA _ (AH rfl) rfl ?_)))))
  refine AN (AF (B2 (BP [true, true, false, true] ?_)))
  show JC _ _ _ _ [_, _, _]
  refine DV (ι := Unit) (fun _ => [(1, Ptr nb1 0), (2, SL none 0 0), (3, Ptr nb2 0), (4, Slc nb8 0 10 cp2), (5, I64 0)]) (fun _ => [⟨nb1, [U64 rq, I64 rk, I64 er, SL aj nj cj, .bool th, U64 pv, U64 ep, I64 (kd), SL ai ni ci, SL sa ns sc, U64 bl] ++ cu8 tg ++ [SL aha nha cha, SL ahb nhb chb], 71, (0, 0)⟩, ⟨nb2, [.bool (itB ((er:Int)) ((rk:Int))), .bool (chB ((er:Int)) ((rk:Int)) th), .bool (aB ((er:Int)) ((rk:Int)) th), .bool (bB ((er:Int)) ((rk:Int)) th)], 168, (0, 0)⟩, ⟨nb8, cu8 ((numK 8 rq 8) ++ ([UInt8.ofNat rk, UInt8.ofNat er])) ++ sp2, 5, (0, 0)⟩]) (fun _ => True) (fun _ => 1) () trivial (Sub.all rfl) rfl ?_
  rintro _ _
  show JC _ _ _ [(1, Ptr nb1 0), (2, SL none 0 0), (3, Ptr nb2 0), (4, Slc nb8 0 10 cp2), (5, I64 0)] [⟨nb1, [U64 rq, I64 rk, I64 er, SL aj nj cj, .bool th, U64 pv, U64 ep, I64 (kd), SL ai ni ci, SL sa ns sc, U64 bl] ++ cu8 tg ++ [SL aha nha cha, SL ahb nhb chb], 71, (0, 0)⟩, ⟨nb2, [.bool (itB ((er:Int)) ((rk:Int))), .bool (chB ((er:Int)) ((rk:Int)) th), .bool (aB ((er:Int)) ((rk:Int)) th), .bool (bB ((er:Int)) ((rk:Int)) th)], 168, (0, 0)⟩, ⟨nb8, cu8 ((numK 8 rq 8) ++ ([UInt8.ofNat rk, UInt8.ofNat er])) ++ sp2, 5, (0, 0)⟩]
  refine AK (AK (AD (AA _ (AL rfl) rfl ?_)))
  refine AA (Ptr nb1 3) (AB 3 69 1 AO rfl BQ rfl rfl) rfl ?_
  refine AA (SL aj nj cj) (AI rfl (AQ B9 (AS 0 rfl (AG (AG (AE (AE (AE (Seg.head))))))))) rfl ?_
  refine AA (I64 nj) (CY BM rfl) rfl ?_
  refine AA (.bool (decide ((0:Int) < ((nj:Int))))) (AU rfl rfl fun _ => CR _ _) rfl ?_
  refine AN (AF (BN _ rfl (decide_eq_false (by omega)) ?_))
  refine DU (A5 (A5 (CQ (AF (AK (AK (AD (AA (Ptr nb1 2) (AB 2 3 1 AO rfl AR rfl rfl) rfl ?_))))))))
  refine AA (I64 er) (AI rfl (AQ AT (AS 0 rfl (AG (AG (AE (AE (Seg.head)))))))) rfl ?_
  refine AA (.bool (decide (((er:Int)) = (0:Int)))) (AU rfl rfl fun _ => BO _ _) rfl ?_
  refine AA _ (AL rfl) rfl ?_
  refine AC 3 64 true _ rfl rfl (decide_eq_false hE) rfl ?_
  refine AC 3 64 true _ rfl rfl (decide_eq_false hE) rfl ?_
  refine AC 3 64 true _ rfl rfl (decide_eq_false hE) rfl ?_
  refine AA _ (A0 _ rfl (decide_eq_false hE) rfl) rfl ?_
  refine AN (AF (BN _ rfl rfl ?_))
  refine BE (AF (AK (AK (AD (AA (Ptr nb2 1) (BZ 4 4 1 1 A8 BB rfl rfl (by omega) (by omega) (by omega)) rfl ?_)))))
  refine AA (.bool (chB ((er:Int)) ((rk:Int)) th)) (AI rfl (AQ BD (AS 1 rfl (AE (Seg.head))))) rfl ?_
  refine AN (AF (BN _ rfl (chB_ne hE) ?_))
  refine BE (AF (AK (AK (AD (AA (Ptr nb2 2) (BZ 4 4 1 2 A8 BB rfl rfl (by omega) (by omega) (by omega)) rfl ?_)))))
  refine AA (.bool (aB ((er:Int)) ((rk:Int)) th)) (AI rfl (AQ BD (AS 1 rfl (AE (AE (Seg.head)))))) rfl ?_
  refine AN (AF (BN _ rfl (aB_ne hE) ?_))
  refine BE (AF (AK (AK (AD (AA (Ptr nb2 3) (BZ 4 4 1 3 A8 BB rfl rfl (by omega) (by omega) (by omega)) rfl ?_)))))
  refine AA (.bool (bB ((er:Int)) ((rk:Int)) th)) (AI rfl (AQ BD (AS 1 rfl (AE (AE (AE (Seg.head))))))) rfl ?_
  refine AN (AF (BN _ rfl (bB_ne hE) ?_))
  refine BE (AF (AK (AD (AA _ (AL rfl) rfl ?_))))
  refine AA _ (AH rfl) rfl ?_
  refine AN (AF (BK (BP [false, false, true] ?_)))
  show JQ _ _ _ _ [_]
  refine BJ (Slc nb8 0 10 cp2) (res1 EK (BH rfl)) fun w1 hw1 => ?_
  have hq : (numK 8 rq 8) ++ ([UInt8.ofNat rk, UInt8.ofNat er]) = (numK 8 rq 8 ++ numK 1 (UInt64.ofNat rk) 1) ++ numK 1 (UInt64.ofNat er) 1 := by simp [EX, nkL0, ← FA, List.append_assoc]
  rw [hq] at hw1
  exact ⟨_, _, rfl, ⟨nb8, sp2, cp2, rfl, rfl, ha6, ha7, ha8⟩, hw1.sub (by simp) (by simp)⟩
set_option maxHeartbeats 2000000 in
theorem rputRep1_c (rq : UInt64) (aj : Option Addr) (nj cj : Nat) (lj : List ItemR) (th : Bool) (pv ep : UInt64) (kd : Int) (ai : Option Addr) (ni ci : Nat) (l : List UInt64) (sa : Option Addr) (ns sc : Nat) (ls : List SealR) (bl : UInt64) (tg : List UInt8) (aha : Option Addr) (nha cha : Nat) (xha : List UInt8) (ahb : Option Addr) (nhb chb : Nat) (xhb : List UInt8) (si : Nat)  (w : World) (hlj : lj.length = nj) (hnj : nj ≤ 2000000) (hdj : nj ≤ cj) (hcj : cj ≤ maxLen) (hj : RdV w aj (lj.flatMap itemC)) (hl : l.length = ni) (hnm : ni ≤ 2000000) (hnc : ni ≤ ci) (hcm : ci ≤ maxLen) (hv : RdV w ai (cu64 l)) (hls : ls.length = ns) (hnn : ns ≤ 2000000) (hnd : ns ≤ sc) (hcn : sc ≤ maxLen) (hs : RdV w sa (ls.flatMap sealC)) (htg : tg.length = 16) (hlha : xha.length = nha * 32) (hnha : nha ≤ 9000) (hdha : nha ≤ cha) (hcha : cha ≤ maxLen) (hrha : RdB w [] aha xha) (hlhb : xhb.length = nhb * 32) (hnhb : nhb ≤ 9000) (hdhb : nhb ≤ chb) (hchb : chb ≤ maxLen) (hrhb : RdB w [] ahb xhb) (hbi : ni ≤ 300) (hbs : ns ≤ 300) (hA : nha ≤ 300) (hB : nhb ≤ 300) (hR : repR (1:Int) (0:Int) th lj (blankB pv ep kd l ls bl tg) (decide (mayN pv ep kd l ls bl = 0)) nha nhb = true) (hsi : (itmsT lj).length = si)  : Calls Tryd.prog 38 #[.agg ([U64 rq, I64 1, I64 0, SL aj nj cj, .bool th, U64 pv, U64 ep, I64 (kd), SL ai ni ci, SL sa ns sc, U64 bl] ++ cu8 tg ++ [SL aha nha cha, SL ahb nhb chb]).toArray] w (Post w [] (fun v L => ∃ g sp cap, v = Slc g 0 ((32*nhb + si + 13)) cap ∧ L = [⟨g, cu8 ((((((numK 8 rq 8 ++ numK 1 (1:UInt64) 1) ++ numK 1 (0:UInt64) 1) ++ numK 1 (UInt64.ofNat (nj - 1)) 1) ++ itmsT lj) ++ numK 2 (UInt64.ofNat nhb) 2) ++ xhb) ++ sp, 5, (0, 0)⟩] ∧ sp.length = cap - (32*nhb + si + 13) ∧ (32*nhb + si + 13) ≤ cap ∧ cap ≤ maxLen)) := by
 have hmx : maxLen = 9223372036854775807 := rfl
 have hf := repR_f hlj hR
 have hn0 := c2_len1 hlj (repR_2 hR (by decide +kernel))
 refine enter (P := Tryd.prog) (f := 38) (fn := Tryd.f38) w [] 95 [] [.agg ([U64 rq, I64 1, I64 0, SL aj nj cj, .bool th, U64 pv, U64 ep, I64 (kd), SL ai ni ci, SL sa ns sc, U64 bl] ++ cu8 tg ++ [SL aha nha cha, SL ahb nhb chb]).toArray] Tryd.func38 rfl rfl (by simp) (CC (by simp) (by simp) (by simp)) ?_
 show JC _ _ _ [(0, .agg ([U64 rq, I64 1, I64 0, SL aj nj cj, .bool th, U64 pv, U64 ep, I64 (kd), SL ai ni ci, SL sa ns sc, U64 bl] ++ cu8 tg ++ [SL aha nha cha, SL ahb nhb chb]).toArray)] _
 refine AK (AD (A9 (CL (.agg ([U64 rq, I64 1, I64 0, SL aj nj cj, .bool th, U64 pv, U64 ep, I64 (kd), SL ai ni ci, SL sa ns sc, U64 bl] ++ cu8 tg ++ [SL aha nha cha, SL ahb nhb chb]).toArray) ([U64 rq, I64 1, I64 0, SL aj nj cj, .bool th, U64 pv, U64 ep, I64 (kd), SL ai ni ci, SL sa ns sc, U64 bl] ++ cu8 tg ++ [SL aha nha cha, SL ahb nhb chb]) rfl (by first | rfl | simp)) rfl ?_))
 rintro v1 L1 ⟨nb1, hnb1, rfl, rfl⟩
 show JL _ _ _ _ ((1, Ptr nb1 0) :: _) [⟨nb1, [U64 rq, I64 1, I64 0, SL aj nj cj, .bool th, U64 pv, U64 ep, I64 (kd), SL ai ni ci, SL sa ns sc, U64 bl] ++ cu8 tg ++ [SL aha nha cha, SL ahb nhb chb], 71, (0, 0)⟩]
 refine AA _ (AH rfl) rfl ?_
 refine AN (AF (AK (AD (AA (.agg ([U64 rq, I64 1, I64 0, SL aj nj cj, .bool th, U64 pv, U64 ep, I64 (kd), SL ai ni ci, SL sa ns sc, U64 bl] ++ cu8 tg ++ [SL aha nha cha, SL ahb nhb chb]).toArray) (AI rfl (BV DR C2 (by simp [htg]) (AS 0 rfl (AV _)))) rfl ?_))))
 refine B1 (BG 94 [.agg ([U64 rq, I64 1, I64 0, SL aj nj cj, .bool th, U64 pv, U64 ep, I64 (kd), SL ai ni ci, SL sa ns sc, U64 bl] ++ cu8 tg ++ [SL aha nha cha, SL ahb nhb chb]).toArray] (.agg #[.bool (itB (0:Int) (1:Int)), .bool (chB (0:Int) (1:Int) th), .bool (aB (0:Int) (1:Int) th), .bool (bB (0:Int) (1:Int) th)]) (A6 _ Tryd.call94 rfl) (fun w1 hw1 => has_c rq (1:Int) (0:Int) aj nj cj lj th pv ep (kd) ai ni ci l sa ns sc ls bl tg aha nha cha xha ahb nhb chb xhb w1 htg)) rfl ?_
 show JL _ _ _ _ ((7, .agg #[.bool (itB (0:Int) (1:Int)), .bool (chB (0:Int) (1:Int) th), .bool (aB (0:Int) (1:Int) th), .bool (bB (0:Int) (1:Int) th)]) :: _) [_]
 refine A9 (DI _ ([.bool false, .bool false, .bool false, .bool false]) EY (by kernel_rfl)) rfl ?_
 rintro v1 L1 ⟨nb2, hnb2, rfl, rfl⟩
 show JL _ _ _ _ ((3, Ptr nb2 0) :: _) [_, ⟨nb2, [.bool false, .bool false, .bool false, .bool false], 168, (0, 0)⟩]
 refine B1 (CW 1 nb2 4 ([.bool false, .bool false, .bool false, .bool false]) 168 ([.bool (itB (0:Int) (1:Int)), .bool (chB (0:Int) (1:Int) th), .bool (aB (0:Int) (1:Int) th), .bool (bB (0:Int) (1:Int) th)]) rfl rfl rfl DT rfl (by simp [Value.oneCell']) (Nat.le_of_ble_eq_true rfl) (DC (by simp []))) rfl ?_
 show JL _ _ _ _ _ [_, ⟨nb2, [.bool (itB (0:Int) (1:Int)), .bool (chB (0:Int) (1:Int) th), .bool (aB (0:Int) (1:Int) th), .bool (bB (0:Int) (1:Int) th)], 168, (0, 0)⟩]
 refine AN (AF (AK (DH 95 4 [(0, Ptr nb1 0), (1, U64 rq), (3, Ptr nb1 1), (4, I64 1), (5, U8 1), (6, Ptr nb1 2), (7, I64 0), (8, U8 0)] B8 rfl (by decide +kernel) ?_)))
 refine DP_two ⟨[], [0, 1, 3, 4, 5, 6, 7, 8], [], [0, 1, 3, 4, 5, 6, 7, 8], [2, 9]⟩ 2 9 _ _ rfl rfl (by decide +kernel) rfl ⟨⟨_, rfl, AJ rfl (AB 0 22 1 AO rfl AX rfl rfl)⟩, ⟨_, rfl, AJ rfl (AI rfl (AQ AY (AS 0 rfl (AG (AG (Seg.head))))))⟩, ⟨_, rfl, AJ rfl (AB 1 3 1 AO rfl AR rfl rfl)⟩, ⟨_, rfl, AJ rfl (AI rfl (AQ AT (AS 0 rfl (AG (AG (AE (Seg.head)))))))⟩, ⟨_, rfl, AJ rfl (CX _ _ rfl fun _ => DA (by rw [AZ]; rfl) BA rfl)⟩, ⟨_, rfl, AJ rfl (AB 2 3 1 AO rfl AR rfl rfl)⟩, ⟨_, rfl, AJ rfl (AI rfl (AQ AT (AS 0 rfl (AG (AG (AE (AE (Seg.head))))))))⟩, ⟨_, rfl, AJ rfl (CX _ _ rfl fun _ => DA (by rw [AZ]; rfl) BA rfl)⟩, trivial⟩ rfl rfl (BI rfl (CG 88 [U64 rq, I64 8] _ (A6 _ D8 rfl) (fun w1 hw1 => EU rq 8 w1 (by omega)))) (BI rfl (B3 5 1 _ [(0, U8 1), (1, U8 0)] (cu8 ([(1:UInt8), 0])) AW B5 CE rfl rfl rfl (by kernel_rfl))) ?_ ?_
 ·
  rintro v1 L1 ⟨_, ⟨nb3, rfl, rfl⟩, rfl⟩
  refine ⟨[], ?_⟩
  show DP _ _ _ _ _ _ _ _ [_, _, ⟨nb3, cu8 (numK 8 rq 8), 5, (0, 0)⟩]
  refine CZ ⟨[2], [0, 1, 3, 4, 5, 6, 7, 8], [0, 1], [3, 4, 5, 6, 7, 8], [9]⟩ 9 _ rfl rfl (by decide +kernel) rfl ⟨⟨_, rfl, AJ rfl (AB 1 3 1 AO rfl AR rfl rfl)⟩, ⟨_, rfl, AJ rfl (AI rfl (AQ AT (AS 0 rfl (AG (AG (AE (Seg.head)))))))⟩, ⟨_, rfl, AJ rfl (CX _ _ rfl fun _ => DA (by rw [AZ]; rfl) BA rfl)⟩, ⟨_, rfl, AJ rfl (AB 2 3 1 AO rfl AR rfl rfl)⟩, ⟨_, rfl, AJ rfl (AI rfl (AQ AT (AS 0 rfl (AG (AG (AE (AE (Seg.head))))))))⟩, ⟨_, rfl, AJ rfl (CX _ _ rfl fun _ => DA (by rw [AZ]; rfl) BA rfl)⟩, trivial⟩ rfl (BI rfl (B3 5 1 _ [(0, U8 1), (1, U8 0)] (cu8 ([(1:UInt8), 0])) AW B5 CE rfl rfl rfl (by kernel_rfl))) ?_
  rintro v1 L1 ⟨nb5, hnb5, rfl, rfl⟩
  refine ⟨[], ?_⟩
  show DP _ _ _ _ _ _ _ _ [_, _, _, ⟨nb5, cu8 ([(1:UInt8), 0]), 5, (0, 0)⟩]
  refine CZ ⟨[2, 9], [0, 1, 3, 4, 5, 6, 7, 8], [0, 1, 3, 4, 5, 6, 7, 8], [], [10]⟩ 10 _ rfl rfl (by decide +kernel) rfl trivial rfl (BI rfl (CP 43 5 [false, false, true, false] (Slc nb3 0 8 8) 8 (numK 8 rq 8) ([(1:UInt8), 0]) (some ⟨nb5, 0, none⟩) 2 2 10 AW CM rfl (.inr ⟨nb3, [], 8, rfl, (by simp [take?, cu8, cu32, cu64]), (by first | exact (show (numK 8 rq 8).length = 8 from A4 _ _ _) | simp [(show (numK 8 rq 8).length = 8 from A4 _ _ _)]), (by simp), (by omega), (by unfold maxLen; omega)⟩) rfl (by simp) (SrcAt.mem (AS 3 rfl (AV _))) (by omega) (by unfold maxLen; omega) (by omega))) ?_
  rintro v1 L1 ⟨nb6, sp1, cp1, hg1, rfl, rfl, ha1, ha2, ha3, ha4⟩
  refine ⟨[(11, Slc nb6 0 10 cp1)], ?_⟩
  show DP _ _ _ _ _ _ _ _ [_, _, _, ⟨nb6, cu8 ((numK 8 rq 8) ++ ([(1:UInt8), 0])) ++ sp1, 5, (0, 0)⟩]
  refine DN ⟨[2, 9, 10], [0, 1, 3, 4, 5, 6, 7, 8, 11], [0, 1, 3, 4, 5, 6, 7, 8], [11], []⟩ rfl rfl (by decide +kernel) rfl ⟨⟨_, rfl, AJ rfl (AH rfl)⟩, trivial⟩ ?_
  refine C7 (F' := [(4, Slc nb6 0 10 cp1), (1, Ptr nb1 0), (2, SL none 0 0), (3, Ptr nb2 0)]) (by kernel_rfl) ?_
  refine AF (AK (AK (AD (AA (Ptr nb2 0) (BZ 4 4 1 0 A8 BB rfl rfl (by omega) (by omega) (by omega)) rfl ?_))))
  refine AA (.bool (itB (0:Int) (1:Int))) (AI rfl (AQ BD (AS 1 rfl (Seg.head)))) rfl ?_
  refine AN (AF (CO _ rfl (by decide +kernel) ?_))
  refine AD (AA _ (AL rfl) rfl ?_)
  refine AA (Ptr nb1 3) (AB 3 69 1 AO rfl BQ rfl rfl) rfl ?_
  refine AA (SL aj nj cj) (AI rfl (AQ B9 (AS 0 rfl (AG (AG (AE (AE (AE (Seg.head))))))))) rfl ?_
  refine AA (I64 nj) (CY BM rfl) rfl ?_
  refine AA (I64 ((nj:Int) - 1)) (AU rfl rfl fun _ => EV _ _ ((nj:Int) - 1) (by omega) (by omega)) rfl ?_
  refine AA (U8 (UInt8.ofNat (nj - 1))) (CX _ _ rfl fun _ => FK (by rw [AZ]; rfl) BA (nj - 1) _ (by omega)) rfl ?_
  refine A9 (B3 5 1 _ [(0, U8 (UInt8.ofNat (nj - 1)))] (cu8 ([UInt8.ofNat (nj - 1)])) AW B5 CE rfl rfl rfl (by kernel_rfl)) rfl ?_
  rintro v1 L1 ⟨nb7, hnb7, rfl, rfl⟩
  show JL _ _ _ _ ((27, Slc nb7 0 1 1) :: _) [_, _, _, _, ⟨nb7, cu8 ([UInt8.ofNat (nj - 1)]), 5, (0, 0)⟩]
  refine A9 (CP 43 5 [false, false, false, true, false] (Slc nb6 0 10 cp1) 10 ((numK 8 rq 8) ++ ([(1:UInt8), 0])) ([UInt8.ofNat (nj - 1)]) (some ⟨nb7, 0, none⟩) 1 1 11 AW CM rfl (.inr ⟨nb6, sp1, cp1, rfl, rfl, (by first | exact ha1 | simp [ha1]), ha2, (by omega), (by omega)⟩) rfl (by simp) (SrcAt.mem (AS 4 rfl (AV _))) (by omega) (by unfold maxLen; omega) (by omega)) rfl ?_
  rintro v1 L1 ⟨nb8, sp2, cp2, hg2, rfl, rfl, ha5, ha6, ha7, ha8⟩
  show JL _ _ _ _ ((28, Slc nb8 0 11 cp2) :: _) [_, _, _, _, ⟨nb8, cu8 (((numK 8 rq 8) ++ ([(1:UInt8), 0])) ++ ([UInt8.ofNat (nj - 1)])) ++ sp2, 5, (0, 0)⟩]
  refine AA _ (AH rfl) rfl ?_
  refine AN (AF (AK (AK (AD (AA _ (AH rfl) rfl ?_)))))
  refine AN (AF (B2 (BP [true, true, false, false, true] ?_)))
  show JC _ _ _ _ [_, _, _]
  refine DV (ι := Nat × Nat × List UInt8 × Nat × List Value × Nat) (fun ⟨i, q, oqi, gqi, spqi, cpqi⟩ => [(1, Ptr nb1 0), (2, SL none 0 0), (3, Ptr nb2 0), (5, I64 i), (4, Slc gqi 0 q cpqi)]) (fun ⟨i, q, oqi, gqi, spqi, cpqi⟩ => [⟨nb1, [U64 rq, I64 1, I64 0, SL aj nj cj, .bool th, U64 pv, U64 ep, I64 (kd), SL ai ni ci, SL sa ns sc, U64 bl] ++ cu8 tg ++ [SL aha nha cha, SL ahb nhb chb], 71, (0, 0)⟩, ⟨nb2, [.bool (itB (0:Int) (1:Int)), .bool (chB (0:Int) (1:Int) th), .bool (aB (0:Int) (1:Int) th), .bool (bB (0:Int) (1:Int) th)], 168, (0, 0)⟩, ⟨gqi, cu8 oqi ++ spqi, 5, (0, 0)⟩]) (fun ⟨i, q, oqi, gqi, spqi, cpqi⟩ => i ≤ nj ∧ oqi = ((numK 8 rq 8 ++ [(1:UInt8), 0]) ++ [UInt8.ofNat (nj - 1)]) ++ itmsT (lj.take i) ∧ oqi.length = q ∧ spqi.length = cpqi - q ∧ q ≤ cpqi ∧ cpqi ≤ maxLen ∧ q ≤ 57*i + 11) (fun ⟨i, q, oqi, gqi, spqi, cpqi⟩ => nj - i) (0, 11, ((numK 8 rq 8) ++ ([(1:UInt8), 0])) ++ ([UInt8.ofNat (nj - 1)]), nb8, sp2, cp2) ⟨by omega, by rw [List.take_zero, itmsT_nil, List.append_nil], (by have h := ha5; omega), (by have h := ha6; omega), by omega, by omega, by omega⟩ (Sub.cons rfl (Sub.cons rfl (Sub.cons rfl (Sub.cons rfl (Sub.cons (FL (by omega)) (Sub.nil)))))) rfl ?_
  rintro ⟨i, q, oqi, gqi, spqi, cpqi⟩ ⟨hi1, hi2, hi3, hi4, hi5, hi6, hi7⟩
  show JC _ _ _ [(1, Ptr nb1 0), (2, SL none 0 0), (3, Ptr nb2 0), (5, I64 i), (4, Slc gqi 0 q cpqi)] [⟨nb1, [U64 rq, I64 1, I64 0, SL aj nj cj, .bool th, U64 pv, U64 ep, I64 (kd), SL ai ni ci, SL sa ns sc, U64 bl] ++ cu8 tg ++ [SL aha nha cha, SL ahb nhb chb], 71, (0, 0)⟩, ⟨nb2, [.bool (itB (0:Int) (1:Int)), .bool (chB (0:Int) (1:Int) th), .bool (aB (0:Int) (1:Int) th), .bool (bB (0:Int) (1:Int) th)], 168, (0, 0)⟩, ⟨gqi, cu8 oqi ++ spqi, 5, (0, 0)⟩]
  refine AK (AK (AD (AA _ (AL rfl) rfl ?_)))
  refine AA (Ptr nb1 3) (AB 3 69 1 AO rfl BQ rfl rfl) rfl ?_
  refine AA (SL aj nj cj) (AI rfl (AQ B9 (AS 0 rfl (AG (AG (AE (AE (AE (Seg.head))))))))) rfl ?_
  refine AA (I64 nj) (CY BM rfl) rfl ?_
  refine AA (.bool (decide (((i:Int)) < ((nj:Int))))) (AU rfl rfl fun _ => CR _ _) rfl ?_
  refine AN (AF (CI (decide (((i:Int)) < ((nj:Int)))) rfl (fun hb1 => ?_) (fun hb1 => ?_)))
  ·
   have hp1 : ((i:Int)) < ((nj:Int)) := of_decide_eq_true hb1
   refine BE (AF (AK (B2 (AK (AD (AA _ (AL rfl) rfl ?_))))))
   refine AA (Ptr nb1 3) (AB 3 69 1 AO rfl BQ rfl rfl) rfl ?_
   refine AA (SL aj nj cj) (AI rfl (AQ B9 (AS 0 rfl (AG (AG (AE (AE (AE (Seg.head))))))))) rfl ?_
   refine AA _ (AL rfl) rfl ?_
   obtain ⟨x1, hx1⟩ : ∃ x, lj[i]? = some x := ⟨_, List.getElem?_eq_getElem (by rw [hlj]; omega)⟩
   obtain ⟨bz1, oz1, hz1, hm1⟩ := E4 E6 (by decide) hj hx1
   rw [FO] at hm1
   refine AA (Ptr bz1 (50*i + oz1)) (B4 167 50 (50*i + oz1) BM DM rfl hz1 rfl (by omega) (by omega) (by omega)) rfl ?_
   refine AA (Ptr bz1 (50*i + oz1)) (AB 0 4 1 DO rfl BB rfl rfl) rfl ?_
   refine AA (.bool x1.b) (AI rfl (AQ BD (CK (hm1.mem (by simp)) (AG (AG (Seg.head))) (by first | omega | (simp; done) | (simp; omega))))) rfl ?_
   refine B1 (BG 104 [.bool x1.b] (U8 (if x1.b then 1 else 0)) (A6 _ Tryd.call104 rfl) (fun w1 hw1 => rflag14_c x1.b w1 )) rfl ?_
   show JL _ _ _ _ ((43, U8 (if x1.b then 1 else 0)) :: _) [_, _, _]
   refine A9 (B3 5 1 _ [(0, U8 (if x1.b then 1 else 0))] (cu8 ([if x1.b then 1 else 0])) AW B5 CE rfl rfl rfl (by kernel_rfl)) rfl ?_
   rintro v1 L1 ⟨nb9, hnb9, rfl, rfl⟩
   show JL _ _ _ _ ((44, Slc nb9 0 1 1) :: _) [_, _, _, ⟨nb9, cu8 ([if x1.b then 1 else 0]), 5, (0, 0)⟩]
   refine A9 (CP 43 5 [false, false, true, false] (Slc gqi 0 q cpqi) q oqi ([if x1.b then 1 else 0]) (some ⟨nb9, 0, none⟩) 1 1 (q + 1) AW CM rfl (.inr ⟨gqi, spqi, cpqi, rfl, rfl, (by first | exact hi3 | simp [hi3]), hi4, (by omega), (by omega)⟩) rfl (by simp) (SrcAt.mem (AS 3 rfl (AV _))) (by omega) (by unfold maxLen; omega) (by omega)) rfl ?_
   rintro v1 L1 ⟨nb10, sp3, cp3, hg3, rfl, rfl, ha9, ha10, ha11, ha12⟩
   show JL _ _ _ _ ((45, Slc nb10 0 (q + 1) cp3) :: _) [_, _, _, ⟨nb10, cu8 (oqi ++ ([if x1.b then 1 else 0])) ++ sp3, 5, (0, 0)⟩]
   refine AA _ (AH rfl) rfl ?_
   refine AN (AF (AK (AD (AA (Ptr nb1 3) (AB 3 69 1 AO rfl BQ rfl rfl) rfl ?_))))
   refine AA (SL aj nj cj) (AI rfl (AQ B9 (AS 0 rfl (AG (AG (AE (AE (AE (Seg.head))))))))) rfl ?_
   refine AA _ (AL rfl) rfl ?_
   refine AA (Ptr bz1 (50*i + oz1)) (B4 167 50 (50*i + oz1) BM DM rfl hz1 rfl (by omega) (by omega) (by omega)) rfl ?_
   refine AA (Ptr bz1 (50*i + oz1)) (AB 0 4 1 DO rfl BB rfl rfl) rfl ?_
   refine AA (.bool x1.b) (AI rfl (AQ BD (CK (hm1.mem (by simp)) (AG (AG (Seg.head))) (by first | omega | (simp; done) | (simp; omega))))) rfl ?_
   refine AN (AF (CI (x1.b) rfl (fun hb2 => ?_) (fun hb2 => ?_)))
   ·
    refine AD (AA _ (AL rfl) rfl ?_)
    refine AA (Ptr nb1 3) (AB 3 69 1 AO rfl BQ rfl rfl) rfl ?_
    refine AA (SL aj nj cj) (AI rfl (AQ B9 (AS 0 rfl (AG (AG (AE (AE (AE (Seg.head))))))))) rfl ?_
    refine AA _ (AL rfl) rfl ?_
    refine AA (Ptr bz1 (50*i + oz1)) (B4 167 50 (50*i + oz1) BM DM rfl hz1 rfl (by omega) (by omega) (by omega)) rfl ?_
    refine AA (Ptr bz1 (50*i + oz1 + 1)) (AB 1 164 49 DO rfl C8 rfl rfl) rfl ?_
    refine AA (.agg ([U64 x1.s.e] ++ cu8 x1.s.d ++ cu8 x1.s.t).toArray) (AI rfl (BV Tryd.isAgg164 C8 (by simp [x1.s.hd, x1.s.ht]) (CK (hm1.mem (by simp)) (C6 (p := [.bool x1.b]) (q := []) (vs := [U64 x1.s.e] ++ cu8 x1.s.d ++ cu8 x1.s.t) (by first | rfl | (simp only [List.append_assoc, List.nil_append, List.append_nil, List.cons_append]; done)) rfl) (by first | omega | (simp; done) | (simp; omega))))) rfl ?_
    refine A9 (CG 105 [.agg ([U64 x1.s.e] ++ cu8 x1.s.d ++ cu8 x1.s.t).toArray] _ (A6 _ Tryd.call105 rfl) (fun w1 hw1 => rput7_c x1.s.e x1.s.d x1.s.t w1 x1.s.hd x1.s.ht)) rfl ?_
    rintro v1 L1 ⟨_, ⟨nb11, sp4, cp4, rfl, rfl, hc1, hc2, hc3⟩, rfl⟩
    show JL _ _ _ _ ((59, Slc nb11 0 56 cp4) :: _) [_, _, _, _, ⟨nb11, cu8 (putL x1.s.e x1.s.d x1.s.t) ++ sp4, 5, (0, 0)⟩]
    refine A9 (CP 43 5 [false, false, false, true, false] (Slc nb10 0 (q + 1) cp3) (q + 1) (oqi ++ ([if x1.b then 1 else 0])) (putL x1.s.e x1.s.d x1.s.t) (some ⟨nb11, 0, none⟩) 56 cp4 (q + 57) AW CM rfl (.inr ⟨nb10, sp3, cp3, rfl, rfl, (by first | exact ha9 | simp [ha9]), ha10, (by omega), (by omega)⟩) rfl (by first | exact (show (putL x1.s.e x1.s.d x1.s.t).length = 56 from (FM x1.s.hd x1.s.ht)) | simp [(show (putL x1.s.e x1.s.d x1.s.t).length = 56 from (FM x1.s.hd x1.s.ht))]; try omega) (SrcAt.mem (AS 4 rfl (AG (AV _)))) (by omega) (by unfold maxLen; omega) (by omega)) rfl ?_
    rintro v1 L1 ⟨nb12, sp5, cp5, hg4, rfl, rfl, ha13, ha14, ha15, ha16⟩
    show JL _ _ _ _ ((60, Slc nb12 0 (q + 57) cp5) :: _) [_, _, _, _, ⟨nb12, cu8 ((oqi ++ ([if x1.b then 1 else 0])) ++ (putL x1.s.e x1.s.d x1.s.t)) ++ sp5, 5, (0, 0)⟩]
    refine AA _ (AH rfl) rfl ?_
    refine AN (BY (AF (AD (AA _ (AL rfl) rfl ?_))))
    refine AA (I64 ((i:Int) + 1)) (AU rfl rfl fun _ => DE _ _ ((i:Int) + 1) (by omega) (by omega)) rfl ?_
    refine AA _ (AH rfl) rfl ?_
    refine AN (DK (BP [true, true, false, false, true] ?_))
    show K _ _ [_, _, _] _
    refine EM (i + 1, (q + 57), (oqi ++ ([if x1.b then 1 else 0])) ++ (putL x1.s.e x1.s.d x1.s.t), nb12, sp5, cp5) ⟨by omega, by rw [hi2, FA, List.append_assoc, List.append_assoc, ← itm_t hb2, FV hx1], (by have h := ha13; omega), (by have h := ha14; omega), by omega, by omega, by omega⟩ (by first | (simp; omega) | simp | (dsimp only; omega) | omega) (Sub.cons rfl (Sub.cons rfl (Sub.cons rfl (Sub.cons rfl (Sub.cons (FL (by omega)) (Sub.nil)))))) rfl
   ·
    refine BE (BY (AF (AD (AA _ (AL rfl) rfl ?_))))
    refine AA (I64 ((i:Int) + 1)) (AU rfl rfl fun _ => DE _ _ ((i:Int) + 1) (by omega) (by omega)) rfl ?_
    refine AA _ (AH rfl) rfl ?_
    refine AN (DK (BP [true, true, false, true] ?_))
    show K _ _ [_, _, _] _
    refine EM (i + 1, (q + 1), oqi ++ ([if x1.b then 1 else 0]), nb10, sp3, cp3) ⟨by omega, by rw [hi2, FA, List.append_assoc, ← itm_f hb2, FV hx1], (by have h := ha9; omega), (by have h := ha10; omega), by omega, by omega, by omega⟩ (by first | (simp; omega) | simp | (dsimp only; omega) | omega) (Sub.cons rfl (Sub.cons rfl (Sub.cons rfl (Sub.cons rfl (Sub.cons (FL (by omega)) (Sub.nil)))))) rfl
  ·
   have hp1 : ¬ (((i:Int)) < ((nj:Int))) := of_decide_eq_false hb1
   refine DU (A5 (A5 (CQ (AF (AK (AK ?_))))))
   have ei : nj = i := by omega
   subst ei
   rw [List.take_of_length_le (by omega)] at hi2
   have eq : q = si + 11 := by rw [← hi3, hi2]; simp [A4, hsi]; omega
   subst eq
   subst hi2
   show JC _ _ _ _ [⟨nb1, [U64 rq, I64 1, I64 0, SL aj nj cj, .bool th, U64 pv, U64 ep, I64 (kd), SL ai ni ci, SL sa ns sc, U64 bl] ++ cu8 tg ++ [SL aha nha cha, SL ahb nhb chb], 71, (0, 0)⟩, ⟨nb2, [.bool (itB (0:Int) (1:Int)), .bool (chB (0:Int) (1:Int) th), .bool (aB (0:Int) (1:Int) th), .bool (bB (0:Int) (1:Int) th)], 168, (0, 0)⟩, ⟨gqi, cu8 (((numK 8 rq 8 ++ [(1:UInt8), 0]) ++ [UInt8.ofNat (nj - 1)]) ++ itmsT lj) ++ spqi, 5, (0, 0)⟩]
   refine AD (AA (Ptr nb1 2) (AB 2 3 1 AO rfl AR rfl rfl) rfl ?_)
   refine AA (I64 0) (AI rfl (AQ AT (AS 0 rfl (AG (AG (AE (AE (Seg.head)))))))) rfl ?_
   refine AA (.bool (decide ((0:Int) = (0:Int)))) (AU rfl rfl fun _ => BO _ _) rfl ?_
   refine AA _ (AL rfl) rfl ?_
   refine AP 3 64 true _ (Ptr nb1 1) rfl rfl (by decide) (AB 1 3 1 AO rfl AR rfl rfl) rfl ?_
   refine AP 3 64 true _ (I64 1) rfl rfl (by decide) (AI rfl (AQ AT (AS 0 rfl (AG (AG (AE (Seg.head))))))) rfl ?_
   refine AP 3 64 true _ (.bool (decide ((1:Int) = (4:Int)))) rfl rfl (by decide) (AU rfl rfl fun _ => BO _ _) rfl ?_
   refine AA _ (A2 _ rfl (by decide) rfl) rfl ?_
   refine AN (AF (BN _ rfl (by decide) ?_))
   refine BE (AF (AK (AK (AD (AA (Ptr nb2 1) (BZ 4 4 1 1 A8 BB rfl rfl (by omega) (by omega) (by omega)) rfl ?_)))))
   refine AA (.bool (chB (0:Int) (1:Int) th)) (AI rfl (AQ BD (AS 1 rfl (AE (Seg.head))))) rfl ?_
   refine AN (AF (BN _ rfl ((by decide +kernel : ∀ t : Bool, (chB (0:Int) (1:Int) t) = false) th) ?_))
   refine BE (AF (AK (AK (AD (AA (Ptr nb2 2) (BZ 4 4 1 2 A8 BB rfl rfl (by omega) (by omega) (by omega)) rfl ?_)))))
   refine AA (.bool (aB (0:Int) (1:Int) th)) (AI rfl (AQ BD (AS 1 rfl (AE (AE (Seg.head)))))) rfl ?_
   refine AN (AF (BN _ rfl ((by decide +kernel : ∀ t : Bool, (aB (0:Int) (1:Int) t) = false) th) ?_))
   refine BE (AF (AK (AK (AD (AA (Ptr nb2 3) (BZ 4 4 1 3 A8 BB rfl rfl (by omega) (by omega) (by omega)) rfl ?_)))))
   refine AA (.bool (bB (0:Int) (1:Int) th)) (AI rfl (AQ BD (AS 1 rfl (AE (AE (AE (Seg.head))))))) rfl ?_
   refine AN (AF (CO _ rfl ((by decide +kernel : ∀ t : Bool, (bB (0:Int) (1:Int) t) = true) th) ?_))
   refine AD (AA _ (AL rfl) rfl ?_)
   refine AA (Ptr nb1 28) (AB 28 65 1 AO rfl BR rfl rfl) rfl ?_
   refine AA (SL ahb nhb chb) (AI rfl (AQ BU (AS 0 rfl (Seg.right 27 1 (by simp [htg]) rfl (AE (Seg.head)))))) rfl ?_
   refine A9 (CB 106 _ [false, false, true] [gqi] _ (A6 [Slc gqi 0 (si + 11) cpqi, SL ahb nhb chb] E1 rfl) rfl (fun w1 hw1 => FN gqi (si + 11) cpqi (32*nhb + si + 13) (((numK 8 rq 8 ++ [(1:UInt8), 0]) ++ [UInt8.ofNat (nj - 1)]) ++ itmsT lj) spqi ahb nhb chb xhb w1 (hw1.ent _ (List.mem_of_getElem? (i := 2) rfl)) hi3 hi4 hi5 hi6 hlhb (by omega) (by omega) (by omega) (hrhb.at (M' := [gqi]) hw1 (hw1.apart [2] _ rfl)) (by omega) (by omega))) rfl ?_
   rintro v1 L1 ⟨_, ⟨nb13, sp6, cp6, rfl, rfl, hc4, hc5, hc6⟩, rfl⟩
   show JL _ _ _ _ ((93, Slc nb13 0 (32*nhb + si + 13) cp6) :: _) [_, _, ⟨nb13, cu8 (((((numK 8 rq 8 ++ [(1:UInt8), 0]) ++ [UInt8.ofNat (nj - 1)]) ++ itmsT lj) ++ numK 2 (UInt64.ofNat nhb) 2) ++ xhb) ++ sp6, 5, (0, 0)⟩]
   refine AA _ (AH rfl) rfl ?_
   refine AN (AF (AK (AD (AA _ (AL rfl) rfl ?_))))
   refine AA _ (AH rfl) rfl ?_
   refine AN (AF (BK (BP [false, false, true] ?_)))
   show JQ _ _ _ _ [_]
   refine BJ (Slc nb13 0 (32*nhb + si + 13) cp6) (res1 EK (BH rfl)) fun w1 hw1 => ?_
   have hq : ((((numK 8 rq 8 ++ [(1:UInt8), 0]) ++ [UInt8.ofNat (nj - 1)]) ++ itmsT lj) ++ numK 2 (UInt64.ofNat nhb) 2) ++ xhb = (((((numK 8 rq 8 ++ numK 1 (1:UInt64) 1) ++ numK 1 (0:UInt64) 1) ++ numK 1 (UInt64.ofNat (nj - 1)) 1) ++ itmsT lj) ++ numK 2 (UInt64.ofNat nhb) 2) ++ xhb := by simp [EX, nkL0, nkL1, ← FA, List.append_assoc]
   rw [hq] at hw1
   exact ⟨_, _, rfl, ⟨nb13, sp6, cp6, rfl, rfl, hc4, hc5, hc6⟩, hw1.sub (by simp) (by simp)⟩
 ·
  rintro v1 L1 ⟨nb4, hnb4, rfl, rfl⟩
  refine ⟨[], ?_⟩
  show DP _ _ _ _ _ _ _ _ [_, _, ⟨nb4, cu8 ([(1:UInt8), 0]), 5, (0, 0)⟩]
  refine CZ ⟨[9], [0, 1, 3, 4, 5, 6, 7, 8], [3, 4, 5, 6, 7, 8], [0, 1], [2]⟩ 2 _ rfl rfl (by decide +kernel) rfl ⟨⟨_, rfl, AJ rfl (AB 0 22 1 AO rfl AX rfl rfl)⟩, ⟨_, rfl, AJ rfl (AI rfl (AQ AY (AS 0 rfl (AG (AG (Seg.head))))))⟩, trivial⟩ rfl (BI rfl (CG 88 [U64 rq, I64 8] _ (A6 _ D8 rfl) (fun w1 hw1 => EU rq 8 w1 (by omega)))) ?_
  rintro v1 L1 ⟨_, ⟨nb14, rfl, rfl⟩, rfl⟩
  refine ⟨[], ?_⟩
  show DP _ _ _ _ _ _ _ _ [_, _, _, ⟨nb14, cu8 (numK 8 rq 8), 5, (0, 0)⟩]
  refine CZ ⟨[9, 2], [0, 1, 3, 4, 5, 6, 7, 8], [0, 1, 3, 4, 5, 6, 7, 8], [], [10]⟩ 10 _ rfl rfl (by decide +kernel) rfl trivial rfl (BI rfl (CP 43 5 [false, false, false, true] (Slc nb14 0 8 8) 8 (numK 8 rq 8) ([(1:UInt8), 0]) (some ⟨nb4, 0, none⟩) 2 2 10 AW CM rfl (.inr ⟨nb14, [], 8, rfl, (by simp [take?, cu8, cu32, cu64]), (by first | exact (show (numK 8 rq 8).length = 8 from A4 _ _ _) | simp [(show (numK 8 rq 8).length = 8 from A4 _ _ _)]), (by simp), (by omega), (by unfold maxLen; omega)⟩) rfl (by simp) (SrcAt.mem (AS 2 rfl (AV _))) (by omega) (by unfold maxLen; omega) (by omega))) ?_
  rintro v1 L1 ⟨nb15, sp7, cp7, hg5, rfl, rfl, ha17, ha18, ha19, ha20⟩
  refine ⟨[(11, Slc nb15 0 10 cp7)], ?_⟩
  show DP _ _ _ _ _ _ _ _ [_, _, _, ⟨nb15, cu8 ((numK 8 rq 8) ++ ([(1:UInt8), 0])) ++ sp7, 5, (0, 0)⟩]
  refine DN ⟨[9, 2, 10], [0, 1, 3, 4, 5, 6, 7, 8, 11], [0, 1, 3, 4, 5, 6, 7, 8], [11], []⟩ rfl rfl (by decide +kernel) rfl ⟨⟨_, rfl, AJ rfl (AH rfl)⟩, trivial⟩ ?_
  refine C7 (F' := [(4, Slc nb15 0 10 cp7), (1, Ptr nb1 0), (2, SL none 0 0), (3, Ptr nb2 0)]) (by kernel_rfl) ?_
  refine AF (AK (AK (AD (AA (Ptr nb2 0) (BZ 4 4 1 0 A8 BB rfl rfl (by omega) (by omega) (by omega)) rfl ?_))))
  refine AA (.bool (itB (0:Int) (1:Int))) (AI rfl (AQ BD (AS 1 rfl (Seg.head)))) rfl ?_
  refine AN (AF (CO _ rfl (by decide +kernel) ?_))
  refine AD (AA _ (AL rfl) rfl ?_)
  refine AA (Ptr nb1 3) (AB 3 69 1 AO rfl BQ rfl rfl) rfl ?_
  refine AA (SL aj nj cj) (AI rfl (AQ B9 (AS 0 rfl (AG (AG (AE (AE (AE (Seg.head))))))))) rfl ?_
  refine AA (I64 nj) (CY BM rfl) rfl ?_
  refine AA (I64 ((nj:Int) - 1)) (AU rfl rfl fun _ => EV _ _ ((nj:Int) - 1) (by omega) (by omega)) rfl ?_
  refine AA (U8 (UInt8.ofNat (nj - 1))) (CX _ _ rfl fun _ => FK (by rw [AZ]; rfl) BA (nj - 1) _ (by omega)) rfl ?_
  refine A9 (B3 5 1 _ [(0, U8 (UInt8.ofNat (nj - 1)))] (cu8 ([UInt8.ofNat (nj - 1)])) AW B5 CE rfl rfl rfl (by kernel_rfl)) rfl ?_
  rintro v1 L1 ⟨nb16, hnb16, rfl, rfl⟩
  show JL _ _ _ _ ((27, Slc nb16 0 1 1) :: _) [_, _, _, _, ⟨nb16, cu8 ([UInt8.ofNat (nj - 1)]), 5, (0, 0)⟩]
  refine A9 (CP 43 5 [false, false, false, true, false] (Slc nb15 0 10 cp7) 10 ((numK 8 rq 8) ++ ([(1:UInt8), 0])) ([UInt8.ofNat (nj - 1)]) (some ⟨nb16, 0, none⟩) 1 1 11 AW CM rfl (.inr ⟨nb15, sp7, cp7, rfl, rfl, (by first | exact ha17 | simp [ha17]), ha18, (by omega), (by omega)⟩) rfl (by simp) (SrcAt.mem (AS 4 rfl (AV _))) (by omega) (by unfold maxLen; omega) (by omega)) rfl ?_
  rintro v1 L1 ⟨nb17, sp8, cp8, hg6, rfl, rfl, ha21, ha22, ha23, ha24⟩
  show JL _ _ _ _ ((28, Slc nb17 0 11 cp8) :: _) [_, _, _, _, ⟨nb17, cu8 (((numK 8 rq 8) ++ ([(1:UInt8), 0])) ++ ([UInt8.ofNat (nj - 1)])) ++ sp8, 5, (0, 0)⟩]
  refine AA _ (AH rfl) rfl ?_
  refine AN (AF (AK (AK (AD (AA _ (AH rfl) rfl ?_)))))
  refine AN (AF (B2 (BP [true, true, false, false, true] ?_)))
  show JC _ _ _ _ [_, _, _]
  refine DV (ι := Nat × Nat × List UInt8 × Nat × List Value × Nat) (fun ⟨i, q, oqi, gqi, spqi, cpqi⟩ => [(1, Ptr nb1 0), (2, SL none 0 0), (3, Ptr nb2 0), (5, I64 i), (4, Slc gqi 0 q cpqi)]) (fun ⟨i, q, oqi, gqi, spqi, cpqi⟩ => [⟨nb1, [U64 rq, I64 1, I64 0, SL aj nj cj, .bool th, U64 pv, U64 ep, I64 (kd), SL ai ni ci, SL sa ns sc, U64 bl] ++ cu8 tg ++ [SL aha nha cha, SL ahb nhb chb], 71, (0, 0)⟩, ⟨nb2, [.bool (itB (0:Int) (1:Int)), .bool (chB (0:Int) (1:Int) th), .bool (aB (0:Int) (1:Int) th), .bool (bB (0:Int) (1:Int) th)], 168, (0, 0)⟩, ⟨gqi, cu8 oqi ++ spqi, 5, (0, 0)⟩]) (fun ⟨i, q, oqi, gqi, spqi, cpqi⟩ => i ≤ nj ∧ oqi = ((numK 8 rq 8 ++ [(1:UInt8), 0]) ++ [UInt8.ofNat (nj - 1)]) ++ itmsT (lj.take i) ∧ oqi.length = q ∧ spqi.length = cpqi - q ∧ q ≤ cpqi ∧ cpqi ≤ maxLen ∧ q ≤ 57*i + 11) (fun ⟨i, q, oqi, gqi, spqi, cpqi⟩ => nj - i) (0, 11, ((numK 8 rq 8) ++ ([(1:UInt8), 0])) ++ ([UInt8.ofNat (nj - 1)]), nb17, sp8, cp8) ⟨by omega, by rw [List.take_zero, itmsT_nil, List.append_nil], (by have h := ha21; omega), (by have h := ha22; omega), by omega, by omega, by omega⟩ (Sub.cons rfl (Sub.cons rfl (Sub.cons rfl (Sub.cons rfl (Sub.cons (FL (by omega)) (Sub.nil)))))) rfl ?_
  rintro ⟨i, q, oqi, gqi, spqi, cpqi⟩ ⟨hi1, hi2, hi3, hi4, hi5, hi6, hi7⟩
  show JC _ _ _ [(1, Ptr nb1 0), (2, SL none 0 0), (3, Ptr nb2 0), (5, I64 i), (4, Slc gqi 0 q cpqi)] [⟨nb1, [U64 rq, I64 1, I64 0, SL aj nj cj, .bool th, U64 pv, U64 ep, I64 (kd), SL ai ni ci, SL sa ns sc, U64 bl] ++ cu8 tg ++ [SL aha nha cha, SL ahb nhb chb], 71, (0, 0)⟩, ⟨nb2, [.bool (itB (0:Int) (1:Int)), .bool (chB (0:Int) (1:Int) th), .bool (aB (0:Int) (1:Int) th), .bool (bB (0:Int) (1:Int) th)], 168, (0, 0)⟩, ⟨gqi, cu8 oqi ++ spqi, 5, (0, 0)⟩]
  refine AK (AK (AD (AA _ (AL rfl) rfl ?_)))
  refine AA (Ptr nb1 3) (AB 3 69 1 AO rfl BQ rfl rfl) rfl ?_
  refine AA (SL aj nj cj) (AI rfl (AQ B9 (AS 0 rfl (AG (AG (AE (AE (AE (Seg.head))))))))) rfl ?_
  refine AA (I64 nj) (CY BM rfl) rfl ?_
  refine AA (.bool (decide (((i:Int)) < ((nj:Int))))) (AU rfl rfl fun _ => CR _ _) rfl ?_
  refine AN (AF (CI (decide (((i:Int)) < ((nj:Int)))) rfl (fun hb3 => ?_) (fun hb3 => ?_)))
  ·
   have hp3 : ((i:Int)) < ((nj:Int)) := of_decide_eq_true hb3
   refine BE (AF (AK (B2 (AK (AD (AA _ (AL rfl) rfl ?_))))))
   refine AA (Ptr nb1 3) (AB 3 69 1 AO rfl BQ rfl rfl) rfl ?_
   refine AA (SL aj nj cj) (AI rfl (AQ B9 (AS 0 rfl (AG (AG (AE (AE (AE (Seg.head))))))))) rfl ?_
   refine AA _ (AL rfl) rfl ?_
   obtain ⟨x2, hx2⟩ : ∃ x, lj[i]? = some x := ⟨_, List.getElem?_eq_getElem (by rw [hlj]; omega)⟩
   obtain ⟨bz2, oz2, hz2, hm2⟩ := E4 E6 (by decide) hj hx2
   rw [FO] at hm2
   refine AA (Ptr bz2 (50*i + oz2)) (B4 167 50 (50*i + oz2) BM DM rfl hz2 rfl (by omega) (by omega) (by omega)) rfl ?_
   refine AA (Ptr bz2 (50*i + oz2)) (AB 0 4 1 DO rfl BB rfl rfl) rfl ?_
   refine AA (.bool x2.b) (AI rfl (AQ BD (CK (hm2.mem (by simp)) (AG (AG (Seg.head))) (by first | omega | (simp; done) | (simp; omega))))) rfl ?_
   refine B1 (BG 104 [.bool x2.b] (U8 (if x2.b then 1 else 0)) (A6 _ Tryd.call104 rfl) (fun w1 hw1 => rflag14_c x2.b w1 )) rfl ?_
   show JL _ _ _ _ ((43, U8 (if x2.b then 1 else 0)) :: _) [_, _, _]
   refine A9 (B3 5 1 _ [(0, U8 (if x2.b then 1 else 0))] (cu8 ([if x2.b then 1 else 0])) AW B5 CE rfl rfl rfl (by kernel_rfl)) rfl ?_
   rintro v1 L1 ⟨nb18, hnb18, rfl, rfl⟩
   show JL _ _ _ _ ((44, Slc nb18 0 1 1) :: _) [_, _, _, ⟨nb18, cu8 ([if x2.b then 1 else 0]), 5, (0, 0)⟩]
   refine A9 (CP 43 5 [false, false, true, false] (Slc gqi 0 q cpqi) q oqi ([if x2.b then 1 else 0]) (some ⟨nb18, 0, none⟩) 1 1 (q + 1) AW CM rfl (.inr ⟨gqi, spqi, cpqi, rfl, rfl, (by first | exact hi3 | simp [hi3]), hi4, (by omega), (by omega)⟩) rfl (by simp) (SrcAt.mem (AS 3 rfl (AV _))) (by omega) (by unfold maxLen; omega) (by omega)) rfl ?_
   rintro v1 L1 ⟨nb19, sp9, cp9, hg7, rfl, rfl, ha25, ha26, ha27, ha28⟩
   show JL _ _ _ _ ((45, Slc nb19 0 (q + 1) cp9) :: _) [_, _, _, ⟨nb19, cu8 (oqi ++ ([if x2.b then 1 else 0])) ++ sp9, 5, (0, 0)⟩]
   refine AA _ (AH rfl) rfl ?_
   refine AN (AF (AK (AD (AA (Ptr nb1 3) (AB 3 69 1 AO rfl BQ rfl rfl) rfl ?_))))
   refine AA (SL aj nj cj) (AI rfl (AQ B9 (AS 0 rfl (AG (AG (AE (AE (AE (Seg.head))))))))) rfl ?_
   refine AA _ (AL rfl) rfl ?_
   refine AA (Ptr bz2 (50*i + oz2)) (B4 167 50 (50*i + oz2) BM DM rfl hz2 rfl (by omega) (by omega) (by omega)) rfl ?_
   refine AA (Ptr bz2 (50*i + oz2)) (AB 0 4 1 DO rfl BB rfl rfl) rfl ?_
   refine AA (.bool x2.b) (AI rfl (AQ BD (CK (hm2.mem (by simp)) (AG (AG (Seg.head))) (by first | omega | (simp; done) | (simp; omega))))) rfl ?_
   refine AN (AF (CI (x2.b) rfl (fun hb4 => ?_) (fun hb4 => ?_)))
   ·
    refine AD (AA _ (AL rfl) rfl ?_)
    refine AA (Ptr nb1 3) (AB 3 69 1 AO rfl BQ rfl rfl) rfl ?_
    refine AA (SL aj nj cj) (AI rfl (AQ B9 (AS 0 rfl (AG (AG (AE (AE (AE (Seg.head))))))))) rfl ?_
    refine AA _ (AL rfl) rfl ?_
    refine AA (Ptr bz2 (50*i + oz2)) (B4 167 50 (50*i + oz2) BM DM rfl hz2 rfl (by omega) (by omega) (by omega)) rfl ?_
    refine AA (Ptr bz2 (50*i + oz2 + 1)) (AB 1 164 49 DO rfl C8 rfl rfl) rfl ?_
    refine AA (.agg ([U64 x2.s.e] ++ cu8 x2.s.d ++ cu8 x2.s.t).toArray) (AI rfl (BV Tryd.isAgg164 C8 (by simp [x2.s.hd, x2.s.ht]) (CK (hm2.mem (by simp)) (C6 (p := [.bool x2.b]) (q := []) (vs := [U64 x2.s.e] ++ cu8 x2.s.d ++ cu8 x2.s.t) (by first | rfl | (simp only [List.append_assoc, List.nil_append, List.append_nil, List.cons_append]; done)) rfl) (by first | omega | (simp; done) | (simp; omega))))) rfl ?_
    refine A9 (CG 105 [.agg ([U64 x2.s.e] ++ cu8 x2.s.d ++ cu8 x2.s.t).toArray] _ (A6 _ Tryd.call105 rfl) (fun w1 hw1 => rput7_c x2.s.e x2.s.d x2.s.t w1 x2.s.hd x2.s.ht)) rfl ?_
    rintro v1 L1 ⟨_, ⟨nb20, sp10, cp10, rfl, rfl, hc7, hc8, hc9⟩, rfl⟩
    show JL _ _ _ _ ((59, Slc nb20 0 56 cp10) :: _) [_, _, _, _, ⟨nb20, cu8 (putL x2.s.e x2.s.d x2.s.t) ++ sp10, 5, (0, 0)⟩]
    refine A9 (CP 43 5 [false, false, false, true, false] (Slc nb19 0 (q + 1) cp9) (q + 1) (oqi ++ ([if x2.b then 1 else 0])) (putL x2.s.e x2.s.d x2.s.t) (some ⟨nb20, 0, none⟩) 56 cp10 (q + 57) AW CM rfl (.inr ⟨nb19, sp9, cp9, rfl, rfl, (by first | exact ha25 | simp [ha25]), ha26, (by omega), (by omega)⟩) rfl (by first | exact (show (putL x2.s.e x2.s.d x2.s.t).length = 56 from (FM x2.s.hd x2.s.ht)) | simp [(show (putL x2.s.e x2.s.d x2.s.t).length = 56 from (FM x2.s.hd x2.s.ht))]; try omega) (SrcAt.mem (AS 4 rfl (AG (AV _)))) (by omega) (by unfold maxLen; omega) (by omega)) rfl ?_
    rintro v1 L1 ⟨nb21, sp11, cp11, hg8, rfl, rfl, ha29, ha30, ha31, ha32⟩
    show JL _ _ _ _ ((60, Slc nb21 0 (q + 57) cp11) :: _) [_, _, _, _, ⟨nb21, cu8 ((oqi ++ ([if x2.b then 1 else 0])) ++ (putL x2.s.e x2.s.d x2.s.t)) ++ sp11, 5, (0, 0)⟩]
    refine AA _ (AH rfl) rfl ?_
    refine AN (BY (AF (AD (AA _ (AL rfl) rfl ?_))))
    refine AA (I64 ((i:Int) + 1)) (AU rfl rfl fun _ => DE _ _ ((i:Int) + 1) (by omega) (by omega)) rfl ?_
    refine AA _ (AH rfl) rfl ?_
    refine AN (DK (BP [true, true, false, false, true] ?_))
    show K _ _ [_, _, _] _
    refine EM (i + 1, (q + 57), (oqi ++ ([if x2.b then 1 else 0])) ++ (putL x2.s.e x2.s.d x2.s.t), nb21, sp11, cp11) ⟨by omega, by rw [hi2, FA, List.append_assoc, List.append_assoc, ← itm_t hb4, FV hx2], (by have h := ha29; omega), (by have h := ha30; omega), by omega, by omega, by omega⟩ (by first | (simp; omega) | simp | (dsimp only; omega) | omega) (Sub.cons rfl (Sub.cons rfl (Sub.cons rfl (Sub.cons rfl (Sub.cons (FL (by omega)) (Sub.nil)))))) rfl
   ·
    refine BE (BY (AF (AD (AA _ (AL rfl) rfl ?_))))
    refine AA (I64 ((i:Int) + 1)) (AU rfl rfl fun _ => DE _ _ ((i:Int) + 1) (by omega) (by omega)) rfl ?_
    refine AA _ (AH rfl) rfl ?_
    refine AN (DK (BP [true, true, false, true] ?_))
    show K _ _ [_, _, _] _
    refine EM (i + 1, (q + 1), oqi ++ ([if x2.b then 1 else 0]), nb19, sp9, cp9) ⟨by omega, by rw [hi2, FA, List.append_assoc, ← itm_f hb4, FV hx2], (by have h := ha25; omega), (by have h := ha26; omega), by omega, by omega, by omega⟩ (by first | (simp; omega) | simp | (dsimp only; omega) | omega) (Sub.cons rfl (Sub.cons rfl (Sub.cons rfl (Sub.cons rfl (Sub.cons (FL (by omega)) (Sub.nil)))))) rfl
  ·
   have hp3 : ¬ (((i:Int)) < ((nj:Int))) := of_decide_eq_false hb3
   refine DU (A5 (A5 (CQ (AF (AK (AK ?_))))))
   have ei : nj = i := by omega
   subst ei
   rw [List.take_of_length_le (by omega)] at hi2
   have eq : q = si + 11 := by rw [← hi3, hi2]; simp [A4, hsi]; omega
   subst eq
   subst hi2
   show JC _ _ _ _ [⟨nb1, [U64 rq, I64 1, I64 0, SL aj nj cj, .bool th, U64 pv, U64 ep, I64 (kd), SL ai ni ci, SL sa ns sc, U64 bl] ++ cu8 tg ++ [SL aha nha cha, SL ahb nhb chb], 71, (0, 0)⟩, ⟨nb2, [.bool (itB (0:Int) (1:Int)), .bool (chB (0:Int) (1:Int) th), .bool (aB (0:Int) (1:Int) th), .bool (bB (0:Int) (1:Int) th)], 168, (0, 0)⟩, ⟨gqi, cu8 (((numK 8 rq 8 ++ [(1:UInt8), 0]) ++ [UInt8.ofNat (nj - 1)]) ++ itmsT lj) ++ spqi, 5, (0, 0)⟩]
   refine AD (AA (Ptr nb1 2) (AB 2 3 1 AO rfl AR rfl rfl) rfl ?_)
   refine AA (I64 0) (AI rfl (AQ AT (AS 0 rfl (AG (AG (AE (AE (Seg.head)))))))) rfl ?_
   refine AA (.bool (decide ((0:Int) = (0:Int)))) (AU rfl rfl fun _ => BO _ _) rfl ?_
   refine AA _ (AL rfl) rfl ?_
   refine AP 3 64 true _ (Ptr nb1 1) rfl rfl (by decide) (AB 1 3 1 AO rfl AR rfl rfl) rfl ?_
   refine AP 3 64 true _ (I64 1) rfl rfl (by decide) (AI rfl (AQ AT (AS 0 rfl (AG (AG (AE (Seg.head))))))) rfl ?_
   refine AP 3 64 true _ (.bool (decide ((1:Int) = (4:Int)))) rfl rfl (by decide) (AU rfl rfl fun _ => BO _ _) rfl ?_
   refine AA _ (A2 _ rfl (by decide) rfl) rfl ?_
   refine AN (AF (BN _ rfl (by decide) ?_))
   refine BE (AF (AK (AK (AD (AA (Ptr nb2 1) (BZ 4 4 1 1 A8 BB rfl rfl (by omega) (by omega) (by omega)) rfl ?_)))))
   refine AA (.bool (chB (0:Int) (1:Int) th)) (AI rfl (AQ BD (AS 1 rfl (AE (Seg.head))))) rfl ?_
   refine AN (AF (BN _ rfl ((by decide +kernel : ∀ t : Bool, (chB (0:Int) (1:Int) t) = false) th) ?_))
   refine BE (AF (AK (AK (AD (AA (Ptr nb2 2) (BZ 4 4 1 2 A8 BB rfl rfl (by omega) (by omega) (by omega)) rfl ?_)))))
   refine AA (.bool (aB (0:Int) (1:Int) th)) (AI rfl (AQ BD (AS 1 rfl (AE (AE (Seg.head)))))) rfl ?_
   refine AN (AF (BN _ rfl ((by decide +kernel : ∀ t : Bool, (aB (0:Int) (1:Int) t) = false) th) ?_))
   refine BE (AF (AK (AK (AD (AA (Ptr nb2 3) (BZ 4 4 1 3 A8 BB rfl rfl (by omega) (by omega) (by omega)) rfl ?_)))))
   refine AA (.bool (bB (0:Int) (1:Int) th)) (AI rfl (AQ BD (AS 1 rfl (AE (AE (AE (Seg.head))))))) rfl ?_
   refine AN (AF (CO _ rfl ((by decide +kernel : ∀ t : Bool, (bB (0:Int) (1:Int) t) = true) th) ?_))
   refine AD (AA _ (AL rfl) rfl ?_)
   refine AA (Ptr nb1 28) (AB 28 65 1 AO rfl BR rfl rfl) rfl ?_
   refine AA (SL ahb nhb chb) (AI rfl (AQ BU (AS 0 rfl (Seg.right 27 1 (by simp [htg]) rfl (AE (Seg.head)))))) rfl ?_
   refine A9 (CB 106 _ [false, false, true] [gqi] _ (A6 [Slc gqi 0 (si + 11) cpqi, SL ahb nhb chb] E1 rfl) rfl (fun w1 hw1 => FN gqi (si + 11) cpqi (32*nhb + si + 13) (((numK 8 rq 8 ++ [(1:UInt8), 0]) ++ [UInt8.ofNat (nj - 1)]) ++ itmsT lj) spqi ahb nhb chb xhb w1 (hw1.ent _ (List.mem_of_getElem? (i := 2) rfl)) hi3 hi4 hi5 hi6 hlhb (by omega) (by omega) (by omega) (hrhb.at (M' := [gqi]) hw1 (hw1.apart [2] _ rfl)) (by omega) (by omega))) rfl ?_
   rintro v1 L1 ⟨_, ⟨nb22, sp12, cp12, rfl, rfl, hc10, hc11, hc12⟩, rfl⟩
   show JL _ _ _ _ ((93, Slc nb22 0 (32*nhb + si + 13) cp12) :: _) [_, _, ⟨nb22, cu8 (((((numK 8 rq 8 ++ [(1:UInt8), 0]) ++ [UInt8.ofNat (nj - 1)]) ++ itmsT lj) ++ numK 2 (UInt64.ofNat nhb) 2) ++ xhb) ++ sp12, 5, (0, 0)⟩]
   refine AA _ (AH rfl) rfl ?_
   refine AN (AF (AK (AD (AA _ (AL rfl) rfl ?_))))
   refine AA _ (AH rfl) rfl ?_
   refine AN (AF (BK (BP [false, false, true] ?_)))
   show JQ _ _ _ _ [_]
   refine BJ (Slc nb22 0 (32*nhb + si + 13) cp12) (res1 EK (BH rfl)) fun w1 hw1 => ?_
   have hq : ((((numK 8 rq 8 ++ [(1:UInt8), 0]) ++ [UInt8.ofNat (nj - 1)]) ++ itmsT lj) ++ numK 2 (UInt64.ofNat nhb) 2) ++ xhb = (((((numK 8 rq 8 ++ numK 1 (1:UInt64) 1) ++ numK 1 (0:UInt64) 1) ++ numK 1 (UInt64.ofNat (nj - 1)) 1) ++ itmsT lj) ++ numK 2 (UInt64.ofNat nhb) 2) ++ xhb := by simp [EX, nkL0, nkL1, ← FA, List.append_assoc]
   rw [hq] at hw1
   exact ⟨_, _, rfl, ⟨nb22, sp12, cp12, rfl, rfl, hc10, hc11, hc12⟩, hw1.sub (by simp) (by simp)⟩
set_option maxHeartbeats 2000000 in
theorem rputRep2_c (rq : UInt64) (aj : Option Addr) (nj cj : Nat) (lj : List ItemR) (th : Bool) (pv ep : UInt64) (kd : Int) (ai : Option Addr) (ni ci : Nat) (l : List UInt64) (sa : Option Addr) (ns sc : Nat) (ls : List SealR) (bl : UInt64) (tg : List UInt8) (aha : Option Addr) (nha cha : Nat) (xha : List UInt8) (ahb : Option Addr) (nhb chb : Nat) (xhb : List UInt8) (si : Nat)  (w : World) (hlj : lj.length = nj) (hnj : nj ≤ 2000000) (hdj : nj ≤ cj) (hcj : cj ≤ maxLen) (hj : RdV w aj (lj.flatMap itemC)) (hl : l.length = ni) (hnm : ni ≤ 2000000) (hnc : ni ≤ ci) (hcm : ci ≤ maxLen) (hv : RdV w ai (cu64 l)) (hls : ls.length = ns) (hnn : ns ≤ 2000000) (hnd : ns ≤ sc) (hcn : sc ≤ maxLen) (hs : RdV w sa (ls.flatMap sealC)) (htg : tg.length = 16) (hlha : xha.length = nha * 32) (hnha : nha ≤ 9000) (hdha : nha ≤ cha) (hcha : cha ≤ maxLen) (hrha : RdB w [] aha xha) (hlhb : xhb.length = nhb * 32) (hnhb : nhb ≤ 9000) (hdhb : nhb ≤ chb) (hchb : chb ≤ maxLen) (hrhb : RdB w [] ahb xhb) (hbi : ni ≤ 300) (hbs : ns ≤ 300) (hA : nha ≤ 300) (hB : nhb ≤ 300) (hR : repR (2:Int) (0:Int) th lj (blankB pv ep kd l ls bl tg) (decide (mayN pv ep kd l ls bl = 0)) nha nhb = true) (hsi : (itmsT lj).length = si)  : Calls Tryd.prog 38 #[.agg ([U64 rq, I64 2, I64 0, SL aj nj cj, .bool th, U64 pv, U64 ep, I64 (kd), SL ai ni ci, SL sa ns sc, U64 bl] ++ cu8 tg ++ [SL aha nha cha, SL ahb nhb chb]).toArray] w (Post w [] (fun v L => ∃ g sp cap, v = Slc g 0 ((32*nha + 32*nhb + si + 15)) cap ∧ L = [⟨g, cu8 ((((((((numK 8 rq 8 ++ numK 1 (2:UInt64) 1) ++ numK 1 (0:UInt64) 1) ++ numK 1 (UInt64.ofNat (nj - 1)) 1) ++ itmsT lj) ++ numK 2 (UInt64.ofNat nha) 2) ++ xha) ++ numK 2 (UInt64.ofNat nhb) 2) ++ xhb) ++ sp, 5, (0, 0)⟩] ∧ sp.length = cap - (32*nha + 32*nhb + si + 15) ∧ (32*nha + 32*nhb + si + 15) ≤ cap ∧ cap ≤ maxLen)) := by
 have hmx : maxLen = 9223372036854775807 := rfl
 have hf := repR_f hlj hR
 have hn0 := c2_len1 hlj (repR_2 hR (by decide +kernel))
 refine enter (P := Tryd.prog) (f := 38) (fn := Tryd.f38) w [] 95 [] [.agg ([U64 rq, I64 2, I64 0, SL aj nj cj, .bool th, U64 pv, U64 ep, I64 (kd), SL ai ni ci, SL sa ns sc, U64 bl] ++ cu8 tg ++ [SL aha nha cha, SL ahb nhb chb]).toArray] Tryd.func38 rfl rfl (by simp) (CC (by simp) (by simp) (by simp)) ?_
 show JC _ _ _ [(0, .agg ([U64 rq, I64 2, I64 0, SL aj nj cj, .bool th, U64 pv, U64 ep, I64 (kd), SL ai ni ci, SL sa ns sc, U64 bl] ++ cu8 tg ++ [SL aha nha cha, SL ahb nhb chb]).toArray)] _
 refine AK (AD (A9 (CL (.agg ([U64 rq, I64 2, I64 0, SL aj nj cj, .bool th, U64 pv, U64 ep, I64 (kd), SL ai ni ci, SL sa ns sc, U64 bl] ++ cu8 tg ++ [SL aha nha cha, SL ahb nhb chb]).toArray) ([U64 rq, I64 2, I64 0, SL aj nj cj, .bool th, U64 pv, U64 ep, I64 (kd), SL ai ni ci, SL sa ns sc, U64 bl] ++ cu8 tg ++ [SL aha nha cha, SL ahb nhb chb]) rfl (by first | rfl | simp)) rfl ?_))
 rintro v1 L1 ⟨nb1, hnb1, rfl, rfl⟩
 show JL _ _ _ _ ((1, Ptr nb1 0) :: _) [⟨nb1, [U64 rq, I64 2, I64 0, SL aj nj cj, .bool th, U64 pv, U64 ep, I64 (kd), SL ai ni ci, SL sa ns sc, U64 bl] ++ cu8 tg ++ [SL aha nha cha, SL ahb nhb chb], 71, (0, 0)⟩]
 refine AA _ (AH rfl) rfl ?_
 refine AN (AF (AK (AD (AA (.agg ([U64 rq, I64 2, I64 0, SL aj nj cj, .bool th, U64 pv, U64 ep, I64 (kd), SL ai ni ci, SL sa ns sc, U64 bl] ++ cu8 tg ++ [SL aha nha cha, SL ahb nhb chb]).toArray) (AI rfl (BV DR C2 (by simp [htg]) (AS 0 rfl (AV _)))) rfl ?_))))
 refine B1 (BG 94 [.agg ([U64 rq, I64 2, I64 0, SL aj nj cj, .bool th, U64 pv, U64 ep, I64 (kd), SL ai ni ci, SL sa ns sc, U64 bl] ++ cu8 tg ++ [SL aha nha cha, SL ahb nhb chb]).toArray] (.agg #[.bool (itB (0:Int) (2:Int)), .bool (chB (0:Int) (2:Int) th), .bool (aB (0:Int) (2:Int) th), .bool (bB (0:Int) (2:Int) th)]) (A6 _ Tryd.call94 rfl) (fun w1 hw1 => has_c rq (2:Int) (0:Int) aj nj cj lj th pv ep (kd) ai ni ci l sa ns sc ls bl tg aha nha cha xha ahb nhb chb xhb w1 htg)) rfl ?_
 show JL _ _ _ _ ((7, .agg #[.bool (itB (0:Int) (2:Int)), .bool (chB (0:Int) (2:Int) th), .bool (aB (0:Int) (2:Int) th), .bool (bB (0:Int) (2:Int) th)]) :: _) [_]
 refine A9 (DI _ ([.bool false, .bool false, .bool false, .bool false]) EY (by kernel_rfl)) rfl ?_
 rintro v1 L1 ⟨nb2, hnb2, rfl, rfl⟩
 show JL _ _ _ _ ((3, Ptr nb2 0) :: _) [_, ⟨nb2, [.bool false, .bool false, .bool false, .bool false], 168, (0, 0)⟩]
 refine B1 (CW 1 nb2 4 ([.bool false, .bool false, .bool false, .bool false]) 168 ([.bool (itB (0:Int) (2:Int)), .bool (chB (0:Int) (2:Int) th), .bool (aB (0:Int) (2:Int) th), .bool (bB (0:Int) (2:Int) th)]) rfl rfl rfl DT rfl (by simp [Value.oneCell']) (Nat.le_of_ble_eq_true rfl) (DC (by simp []))) rfl ?_
 show JL _ _ _ _ _ [_, ⟨nb2, [.bool (itB (0:Int) (2:Int)), .bool (chB (0:Int) (2:Int) th), .bool (aB (0:Int) (2:Int) th), .bool (bB (0:Int) (2:Int) th)], 168, (0, 0)⟩]
 refine AN (AF (AK (DH 95 4 [(0, Ptr nb1 0), (1, U64 rq), (3, Ptr nb1 1), (4, I64 2), (5, U8 2), (6, Ptr nb1 2), (7, I64 0), (8, U8 0)] B8 rfl (by decide +kernel) ?_)))
 refine DP_two ⟨[], [0, 1, 3, 4, 5, 6, 7, 8], [], [0, 1, 3, 4, 5, 6, 7, 8], [2, 9]⟩ 2 9 _ _ rfl rfl (by decide +kernel) rfl ⟨⟨_, rfl, AJ rfl (AB 0 22 1 AO rfl AX rfl rfl)⟩, ⟨_, rfl, AJ rfl (AI rfl (AQ AY (AS 0 rfl (AG (AG (Seg.head))))))⟩, ⟨_, rfl, AJ rfl (AB 1 3 1 AO rfl AR rfl rfl)⟩, ⟨_, rfl, AJ rfl (AI rfl (AQ AT (AS 0 rfl (AG (AG (AE (Seg.head)))))))⟩, ⟨_, rfl, AJ rfl (CX _ _ rfl fun _ => DA (by rw [AZ]; rfl) BA rfl)⟩, ⟨_, rfl, AJ rfl (AB 2 3 1 AO rfl AR rfl rfl)⟩, ⟨_, rfl, AJ rfl (AI rfl (AQ AT (AS 0 rfl (AG (AG (AE (AE (Seg.head))))))))⟩, ⟨_, rfl, AJ rfl (CX _ _ rfl fun _ => DA (by rw [AZ]; rfl) BA rfl)⟩, trivial⟩ rfl rfl (BI rfl (CG 88 [U64 rq, I64 8] _ (A6 _ D8 rfl) (fun w1 hw1 => EU rq 8 w1 (by omega)))) (BI rfl (B3 5 1 _ [(0, U8 2), (1, U8 0)] (cu8 ([(2:UInt8), 0])) AW B5 CE rfl rfl rfl (by kernel_rfl))) ?_ ?_
 ·
  rintro v1 L1 ⟨_, ⟨nb3, rfl, rfl⟩, rfl⟩
  refine ⟨[], ?_⟩
  show DP _ _ _ _ _ _ _ _ [_, _, ⟨nb3, cu8 (numK 8 rq 8), 5, (0, 0)⟩]
  refine CZ ⟨[2], [0, 1, 3, 4, 5, 6, 7, 8], [0, 1], [3, 4, 5, 6, 7, 8], [9]⟩ 9 _ rfl rfl (by decide +kernel) rfl ⟨⟨_, rfl, AJ rfl (AB 1 3 1 AO rfl AR rfl rfl)⟩, ⟨_, rfl, AJ rfl (AI rfl (AQ AT (AS 0 rfl (AG (AG (AE (Seg.head)))))))⟩, ⟨_, rfl, AJ rfl (CX _ _ rfl fun _ => DA (by rw [AZ]; rfl) BA rfl)⟩, ⟨_, rfl, AJ rfl (AB 2 3 1 AO rfl AR rfl rfl)⟩, ⟨_, rfl, AJ rfl (AI rfl (AQ AT (AS 0 rfl (AG (AG (AE (AE (Seg.head))))))))⟩, ⟨_, rfl, AJ rfl (CX _ _ rfl fun _ => DA (by rw [AZ]; rfl) BA rfl)⟩, trivial⟩ rfl (BI rfl (B3 5 1 _ [(0, U8 2), (1, U8 0)] (cu8 ([(2:UInt8), 0])) AW B5 CE rfl rfl rfl (by kernel_rfl))) ?_
  rintro v1 L1 ⟨nb5, hnb5, rfl, rfl⟩
  refine ⟨[], ?_⟩
  show DP _ _ _ _ _ _ _ _ [_, _, _, ⟨nb5, cu8 ([(2:UInt8), 0]), 5, (0, 0)⟩]
  refine CZ ⟨[2, 9], [0, 1, 3, 4, 5, 6, 7, 8], [0, 1, 3, 4, 5, 6, 7, 8], [], [10]⟩ 10 _ rfl rfl (by decide +kernel) rfl trivial rfl (BI rfl (CP 43 5 [false, false, true, false] (Slc nb3 0 8 8) 8 (numK 8 rq 8) ([(2:UInt8), 0]) (some ⟨nb5, 0, none⟩) 2 2 10 AW CM rfl (.inr ⟨nb3, [], 8, rfl, (by simp [take?, cu8, cu32, cu64]), (by first | exact (show (numK 8 rq 8).length = 8 from A4 _ _ _) | simp [(show (numK 8 rq 8).length = 8 from A4 _ _ _)]), (by simp), (by omega), (by unfold maxLen; omega)⟩) rfl (by simp) (SrcAt.mem (AS 3 rfl (AV _))) (by omega) (by unfold maxLen; omega) (by omega))) ?_
  rintro v1 L1 ⟨nb6, sp1, cp1, hg1, rfl, rfl, ha1, ha2, ha3, ha4⟩
  refine ⟨[(11, Slc nb6 0 10 cp1)], ?_⟩
  show DP _ _ _ _ _ _ _ _ [_, _, _, ⟨nb6, cu8 ((numK 8 rq 8) ++ ([(2:UInt8), 0])) ++ sp1, 5, (0, 0)⟩]
  refine DN ⟨[2, 9, 10], [0, 1, 3, 4, 5, 6, 7, 8, 11], [0, 1, 3, 4, 5, 6, 7, 8], [11], []⟩ rfl rfl (by decide +kernel) rfl ⟨⟨_, rfl, AJ rfl (AH rfl)⟩, trivial⟩ ?_
  refine C7 (F' := [(4, Slc nb6 0 10 cp1), (1, Ptr nb1 0), (2, SL none 0 0), (3, Ptr nb2 0)]) (by kernel_rfl) ?_
  refine AF (AK (AK (AD (AA (Ptr nb2 0) (BZ 4 4 1 0 A8 BB rfl rfl (by omega) (by omega) (by omega)) rfl ?_))))
  refine AA (.bool (itB (0:Int) (2:Int))) (AI rfl (AQ BD (AS 1 rfl (Seg.head)))) rfl ?_
  refine AN (AF (CO _ rfl (by decide +kernel) ?_))
  refine AD (AA _ (AL rfl) rfl ?_)
  refine AA (Ptr nb1 3) (AB 3 69 1 AO rfl BQ rfl rfl) rfl ?_
  refine AA (SL aj nj cj) (AI rfl (AQ B9 (AS 0 rfl (AG (AG (AE (AE (AE (Seg.head))))))))) rfl ?_
  refine AA (I64 nj) (CY BM rfl) rfl ?_
  refine AA (I64 ((nj:Int) - 1)) (AU rfl rfl fun _ => EV _ _ ((nj:Int) - 1) (by omega) (by omega)) rfl ?_
  refine AA (U8 (UInt8.ofNat (nj - 1))) (CX _ _ rfl fun _ => FK (by rw [AZ]; rfl) BA (nj - 1) _ (by omega)) rfl ?_
  refine A9 (B3 5 1 _ [(0, U8 (UInt8.ofNat (nj - 1)))] (cu8 ([UInt8.ofNat (nj - 1)])) AW B5 CE rfl rfl rfl (by kernel_rfl)) rfl ?_
  rintro v1 L1 ⟨nb7, hnb7, rfl, rfl⟩
  show JL _ _ _ _ ((27, Slc nb7 0 1 1) :: _) [_, _, _, _, ⟨nb7, cu8 ([UInt8.ofNat (nj - 1)]), 5, (0, 0)⟩]
  refine A9 (CP 43 5 [false, false, false, true, false] (Slc nb6 0 10 cp1) 10 ((numK 8 rq 8) ++ ([(2:UInt8), 0])) ([UInt8.ofNat (nj - 1)]) (some ⟨nb7, 0, none⟩) 1 1 11 AW CM rfl (.inr ⟨nb6, sp1, cp1, rfl, rfl, (by first | exact ha1 | simp [ha1]), ha2, (by omega), (by omega)⟩) rfl (by simp) (SrcAt.mem (AS 4 rfl (AV _))) (by omega) (by unfold maxLen; omega) (by omega)) rfl ?_
  rintro v1 L1 ⟨nb8, sp2, cp2, hg2, rfl, rfl, ha5, ha6, ha7, ha8⟩
  show JL _ _ _ _ ((28, Slc nb8 0 11 cp2) :: _) [_, _, _, _, ⟨nb8, cu8 (((numK 8 rq 8) ++ ([(2:UInt8), 0])) ++ ([UInt8.ofNat (nj - 1)])) ++ sp2, 5, (0, 0)⟩]
  refine AA _ (AH rfl) rfl ?_
  refine AN (AF (AK (AK (AD (AA _ (AH rfl) rfl ?_)))))
  refine AN (AF (B2 (BP [true, true, false, false, true] ?_)))
  show JC _ _ _ _ [_, _, _]
  refine DV (ι := Nat × Nat × List UInt8 × Nat × List Value × Nat) (fun ⟨i, q, oqi, gqi, spqi, cpqi⟩ => [(1, Ptr nb1 0), (2, SL none 0 0), (3, Ptr nb2 0), (5, I64 i), (4, Slc gqi 0 q cpqi)]) (fun ⟨i, q, oqi, gqi, spqi, cpqi⟩ => [⟨nb1, [U64 rq, I64 2, I64 0, SL aj nj cj, .bool th, U64 pv, U64 ep, I64 (kd), SL ai ni ci, SL sa ns sc, U64 bl] ++ cu8 tg ++ [SL aha nha cha, SL ahb nhb chb], 71, (0, 0)⟩, ⟨nb2, [.bool (itB (0:Int) (2:Int)), .bool (chB (0:Int) (2:Int) th), .bool (aB (0:Int) (2:Int) th), .bool (bB (0:Int) (2:Int) th)], 168, (0, 0)⟩, ⟨gqi, cu8 oqi ++ spqi, 5, (0, 0)⟩]) (fun ⟨i, q, oqi, gqi, spqi, cpqi⟩ => i ≤ nj ∧ oqi = ((numK 8 rq 8 ++ [(2:UInt8), 0]) ++ [UInt8.ofNat (nj - 1)]) ++ itmsT (lj.take i) ∧ oqi.length = q ∧ spqi.length = cpqi - q ∧ q ≤ cpqi ∧ cpqi ≤ maxLen ∧ q ≤ 57*i + 11) (fun ⟨i, q, oqi, gqi, spqi, cpqi⟩ => nj - i) (0, 11, ((numK 8 rq 8) ++ ([(2:UInt8), 0])) ++ ([UInt8.ofNat (nj - 1)]), nb8, sp2, cp2) ⟨by omega, by rw [List.take_zero, itmsT_nil, List.append_nil], (by have h := ha5; omega), (by have h := ha6; omega), by omega, by omega, by omega⟩ (Sub.cons rfl (Sub.cons rfl (Sub.cons rfl (Sub.cons rfl (Sub.cons (FL (by omega)) (Sub.nil)))))) rfl ?_
  rintro ⟨i, q, oqi, gqi, spqi, cpqi⟩ ⟨hi1, hi2, hi3, hi4, hi5, hi6, hi7⟩
  show JC _ _ _ [(1, Ptr nb1 0), (2, SL none 0 0), (3, Ptr nb2 0), (5, I64 i), (4, Slc gqi 0 q cpqi)] [⟨nb1, [U64 rq, I64 2, I64 0, SL aj nj cj, .bool th, U64 pv, U64 ep, I64 (kd), SL ai ni ci, SL sa ns sc, U64 bl] ++ cu8 tg ++ [SL aha nha cha, SL ahb nhb chb], 71, (0, 0)⟩, ⟨nb2, [.bool (itB (0:Int) (2:Int)), .bool (chB (0:Int) (2:Int) th), .bool (aB (0:Int) (2:Int) th), .bool (bB (0:Int) (2:Int) th)], 168, (0, 0)⟩, ⟨gqi, cu8 oqi ++ spqi, 5, (0, 0)⟩]
  refine AK (AK (AD (AA _ (AL rfl) rfl ?_)))
  refine AA (Ptr nb1 3) (AB 3 69 1 AO rfl BQ rfl rfl) rfl ?_
  refine AA (SL aj nj cj) (AI rfl (AQ B9 (AS 0 rfl (AG (AG (AE (AE (AE (Seg.head))))))))) rfl ?_
  refine AA (I64 nj) (CY BM rfl) rfl ?_
  refine AA (.bool (decide (((i:Int)) < ((nj:Int))))) (AU rfl rfl fun _ => CR _ _) rfl ?_
  refine AN (AF (CI (decide (((i:Int)) < ((nj:Int)))) rfl (fun hb1 => ?_) (fun hb1 => ?_)))
  ·
   have hp1 : ((i:Int)) < ((nj:Int)) := of_decide_eq_true hb1
   refine BE (AF (AK (B2 (AK (AD (AA _ (AL rfl) rfl ?_))))))
   refine AA (Ptr nb1 3) (AB 3 69 1 AO rfl BQ rfl rfl) rfl ?_
   refine AA (SL aj nj cj) (AI rfl (AQ B9 (AS 0 rfl (AG (AG (AE (AE (AE (Seg.head))))))))) rfl ?_
   refine AA _ (AL rfl) rfl ?_
   obtain ⟨x1, hx1⟩ : ∃ x, lj[i]? = some x := ⟨_, List.getElem?_eq_getElem (by rw [hlj]; omega)⟩
   obtain ⟨bz1, oz1, hz1, hm1⟩ := E4 E6 (by decide) hj hx1
   rw [FO] at hm1
   refine AA (Ptr bz1 (50*i + oz1)) (B4 167 50 (50*i + oz1) BM DM rfl hz1 rfl (by omega) (by omega) (by omega)) rfl ?_
   refine AA (Ptr bz1 (50*i + oz1)) (AB 0 4 1 DO rfl BB rfl rfl) rfl ?_
   refine AA (.bool x1.b) (AI rfl (AQ BD (CK (hm1.mem (by simp)) (AG (AG (Seg.head))) (by first | omega | (simp; done) | (simp; omega))))) rfl ?_
   refine B1 (BG 104 [.bool x1.b] (U8 (if x1.b then 1 else 0)) (A6 _ Tryd.call104 rfl) (fun w1 hw1 => rflag14_c x1.b w1 )) rfl ?_
   show JL _ _ _ _ ((43, U8 (if x1.b then 1 else 0)) :: _) [_, _, _]
   refine A9 (B3 5 1 _ [(0, U8 (if x1.b then 1 else 0))] (cu8 ([if x1.b then 1 else 0])) AW B5 CE rfl rfl rfl (by kernel_rfl)) rfl ?_
   rintro v1 L1 ⟨nb9, hnb9, rfl, rfl⟩
   show JL _ _ _ _ ((44, Slc nb9 0 1 1) :: _) [_, _, _, ⟨nb9, cu8 ([if x1.b then 1 else 0]), 5, (0, 0)⟩]
   refine A9 (CP 43 5 [false, false, true, false] (Slc gqi 0 q cpqi) q oqi ([if x1.b then 1 else 0]) (some ⟨nb9, 0, none⟩) 1 1 (q + 1) AW CM rfl (.inr ⟨gqi, spqi, cpqi, rfl, rfl, (by first | exact hi3 | simp [hi3]), hi4, (by omega), (by omega)⟩) rfl (by simp) (SrcAt.mem (AS 3 rfl (AV _))) (by omega) (by unfold maxLen; omega) (by omega)) rfl ?_
   rintro v1 L1 ⟨nb10, sp3, cp3, hg3, rfl, rfl, ha9, ha10, ha11, ha12⟩
   show JL _ _ _ _ ((45, Slc nb10 0 (q + 1) cp3) :: _) [_, _, _, ⟨nb10, cu8 (oqi ++ ([if x1.b then 1 else 0])) ++ sp3, 5, (0, 0)⟩]
   refine AA _ (AH rfl) rfl ?_
   refine AN (AF (AK (AD (AA (Ptr nb1 3) (AB 3 69 1 AO rfl BQ rfl rfl) rfl ?_))))
   refine AA (SL aj nj cj) (AI rfl (AQ B9 (AS 0 rfl (AG (AG (AE (AE (AE (Seg.head))))))))) rfl ?_
   refine AA _ (AL rfl) rfl ?_
   refine AA (Ptr bz1 (50*i + oz1)) (B4 167 50 (50*i + oz1) BM DM rfl hz1 rfl (by omega) (by omega) (by omega)) rfl ?_
   refine AA (Ptr bz1 (50*i + oz1)) (AB 0 4 1 DO rfl BB rfl rfl) rfl ?_
   refine AA (.bool x1.b) (AI rfl (AQ BD (CK (hm1.mem (by simp)) (AG (AG (Seg.head))) (by first | omega | (simp; done) | (simp; omega))))) rfl ?_
   refine AN (AF (CI (x1.b) rfl (fun hb2 => ?_) (fun hb2 => ?_)))
   ·
    refine AD (AA _ (AL rfl) rfl ?_)
    refine AA (Ptr nb1 3) (AB 3 69 1 AO rfl BQ rfl rfl) rfl ?_
    refine AA (SL aj nj cj) (AI rfl (AQ B9 (AS 0 rfl (AG (AG (AE (AE (AE (Seg.head))))))))) rfl ?_
    refine AA _ (AL rfl) rfl ?_
    refine AA (Ptr bz1 (50*i + oz1)) (B4 167 50 (50*i + oz1) BM DM rfl hz1 rfl (by omega) (by omega) (by omega)) rfl ?_
    refine AA (Ptr bz1 (50*i + oz1 + 1)) (AB 1 164 49 DO rfl C8 rfl rfl) rfl ?_
    refine AA (.agg ([U64 x1.s.e] ++ cu8 x1.s.d ++ cu8 x1.s.t).toArray) (AI rfl (BV Tryd.isAgg164 C8 (by simp [x1.s.hd, x1.s.ht]) (CK (hm1.mem (by simp)) (C6 (p := [.bool x1.b]) (q := []) (vs := [U64 x1.s.e] ++ cu8 x1.s.d ++ cu8 x1.s.t) (by first | rfl | (simp only [List.append_assoc, List.nil_append, List.append_nil, List.cons_append]; done)) rfl) (by first | omega | (simp; done) | (simp; omega))))) rfl ?_
    refine A9 (CG 105 [.agg ([U64 x1.s.e] ++ cu8 x1.s.d ++ cu8 x1.s.t).toArray] _ (A6 _ Tryd.call105 rfl) (fun w1 hw1 => rput7_c x1.s.e x1.s.d x1.s.t w1 x1.s.hd x1.s.ht)) rfl ?_
    rintro v1 L1 ⟨_, ⟨nb11, sp4, cp4, rfl, rfl, hc1, hc2, hc3⟩, rfl⟩
    show JL _ _ _ _ ((59, Slc nb11 0 56 cp4) :: _) [_, _, _, _, ⟨nb11, cu8 (putL x1.s.e x1.s.d x1.s.t) ++ sp4, 5, (0, 0)⟩]
    refine A9 (CP 43 5 [false, false, false, true, false] (Slc nb10 0 (q + 1) cp3) (q + 1) (oqi ++ ([if x1.b then 1 else 0])) (putL x1.s.e x1.s.d x1.s.t) (some ⟨nb11, 0, none⟩) 56 cp4 (q + 57) AW CM rfl (.inr ⟨nb10, sp3, cp3, rfl, rfl, (by first | exact ha9 | simp [ha9]), ha10, (by omega), (by omega)⟩) rfl (by first | exact (show (putL x1.s.e x1.s.d x1.s.t).length = 56 from (FM x1.s.hd x1.s.ht)) | simp [(show (putL x1.s.e x1.s.d x1.s.t).length = 56 from (FM x1.s.hd x1.s.ht))]; try omega) (SrcAt.mem (AS 4 rfl (AG (AV _)))) (by omega) (by unfold maxLen; omega) (by omega)) rfl ?_
    rintro v1 L1 ⟨nb12, sp5, cp5, hg4, rfl, rfl, ha13, ha14, ha15, ha16⟩
    show JL _ _ _ _ ((60, Slc nb12 0 (q + 57) cp5) :: _) [_, _, _, _, ⟨nb12, cu8 ((oqi ++ ([if x1.b then 1 else 0])) ++ (putL x1.s.e x1.s.d x1.s.t)) ++ sp5, 5, (0, 0)⟩]
    refine AA _ (AH rfl) rfl ?_
    refine AN (BY (AF (AD (AA _ (AL rfl) rfl ?_))))
    refine AA (I64 ((i:Int) + 1)) (AU rfl rfl fun _ => DE _ _ ((i:Int) + 1) (by omega) (by omega)) rfl ?_
    refine AA _ (AH rfl) rfl ?_
    refine AN (DK (BP [true, true, false, false, true] ?_))
    show K _ _ [_, _, _] _
    refine EM (i + 1, (q + 57), (oqi ++ ([if x1.b then 1 else 0])) ++ (putL x1.s.e x1.s.d x1.s.t), nb12, sp5, cp5) ⟨by omega, by rw [hi2, FA, List.append_assoc, List.append_assoc, ← itm_t hb2, FV hx1], (by have h := ha13; omega), (by have h := ha14; omega), by omega, by omega, by omega⟩ (by first | (simp; omega) | simp | (dsimp only; omega) | omega) (Sub.cons rfl (Sub.cons rfl (Sub.cons rfl (Sub.cons rfl (Sub.cons (FL (by omega)) (Sub.nil)))))) rfl
   ·
    refine BE (BY (AF (AD (AA _ (AL rfl) rfl ?_))))
    refine AA (I64 ((i:Int) + 1)) (AU rfl rfl fun _ => DE _ _ ((i:Int) + 1) (by omega) (by omega)) rfl ?_
    refine AA _ (AH rfl) rfl ?_
    refine AN (DK (BP [true, true, false, true] ?_))
    show K _ _ [_, _, _] _
    refine EM (i + 1, (q + 1), oqi ++ ([if x1.b then 1 else 0]), nb10, sp3, cp3) ⟨by omega, by rw [hi2, FA, List.append_assoc, ← itm_f hb2, FV hx1], (by have h := ha9; omega), (by have h := ha10; omega), by omega, by omega, by omega⟩ (by first | (simp; omega) | simp | (dsimp only; omega) | omega) (Sub.cons rfl (Sub.cons rfl (Sub.cons rfl (Sub.cons rfl (Sub.cons (FL (by omega)) (Sub.nil)))))) rfl
  ·
   have hp1 : ¬ (((i:Int)) < ((nj:Int))) := of_decide_eq_false hb1
   refine DU (A5 (A5 (CQ (AF (AK (AK ?_))))))
   have ei : nj = i := by omega
   subst ei
   rw [List.take_of_length_le (by omega)] at hi2
   have eq : q = si + 11 := by rw [← hi3, hi2]; simp [A4, hsi]; omega
   subst eq
   subst hi2
   show JC _ _ _ _ [⟨nb1, [U64 rq, I64 2, I64 0, SL aj nj cj, .bool th, U64 pv, U64 ep, I64 (kd), SL ai ni ci, SL sa ns sc, U64 bl] ++ cu8 tg ++ [SL aha nha cha, SL ahb nhb chb], 71, (0, 0)⟩, ⟨nb2, [.bool (itB (0:Int) (2:Int)), .bool (chB (0:Int) (2:Int) th), .bool (aB (0:Int) (2:Int) th), .bool (bB (0:Int) (2:Int) th)], 168, (0, 0)⟩, ⟨gqi, cu8 (((numK 8 rq 8 ++ [(2:UInt8), 0]) ++ [UInt8.ofNat (nj - 1)]) ++ itmsT lj) ++ spqi, 5, (0, 0)⟩]
   refine AD (AA (Ptr nb1 2) (AB 2 3 1 AO rfl AR rfl rfl) rfl ?_)
   refine AA (I64 0) (AI rfl (AQ AT (AS 0 rfl (AG (AG (AE (AE (Seg.head)))))))) rfl ?_
   refine AA (.bool (decide ((0:Int) = (0:Int)))) (AU rfl rfl fun _ => BO _ _) rfl ?_
   refine AA _ (AL rfl) rfl ?_
   refine AP 3 64 true _ (Ptr nb1 1) rfl rfl (by decide) (AB 1 3 1 AO rfl AR rfl rfl) rfl ?_
   refine AP 3 64 true _ (I64 2) rfl rfl (by decide) (AI rfl (AQ AT (AS 0 rfl (AG (AG (AE (Seg.head))))))) rfl ?_
   refine AP 3 64 true _ (.bool (decide ((2:Int) = (4:Int)))) rfl rfl (by decide) (AU rfl rfl fun _ => BO _ _) rfl ?_
   refine AA _ (A2 _ rfl (by decide) rfl) rfl ?_
   refine AN (AF (BN _ rfl (by decide) ?_))
   refine BE (AF (AK (AK (AD (AA (Ptr nb2 1) (BZ 4 4 1 1 A8 BB rfl rfl (by omega) (by omega) (by omega)) rfl ?_)))))
   refine AA (.bool (chB (0:Int) (2:Int) th)) (AI rfl (AQ BD (AS 1 rfl (AE (Seg.head))))) rfl ?_
   refine AN (AF (BN _ rfl ((by decide +kernel : ∀ t : Bool, (chB (0:Int) (2:Int) t) = false) th) ?_))
   refine BE (AF (AK (AK (AD (AA (Ptr nb2 2) (BZ 4 4 1 2 A8 BB rfl rfl (by omega) (by omega) (by omega)) rfl ?_)))))
   refine AA (.bool (aB (0:Int) (2:Int) th)) (AI rfl (AQ BD (AS 1 rfl (AE (AE (Seg.head)))))) rfl ?_
   refine AN (AF (CO _ rfl ((by decide +kernel : ∀ t : Bool, (aB (0:Int) (2:Int) t) = true) th) ?_))
   refine AD (AA _ (AL rfl) rfl ?_)
   refine AA (Ptr nb1 27) (AB 27 65 1 AO rfl BR rfl rfl) rfl ?_
   refine AA (SL aha nha cha) (AI rfl (AQ BU (AS 0 rfl (Seg.right 27 0 (by simp [htg]) rfl (Seg.head))))) rfl ?_
   refine A9 (CB 106 _ [false, false, true] [gqi] _ (A6 [Slc gqi 0 (si + 11) cpqi, SL aha nha cha] E1 rfl) rfl (fun w1 hw1 => FN gqi (si + 11) cpqi (32*nha + si + 13) (((numK 8 rq 8 ++ [(2:UInt8), 0]) ++ [UInt8.ofNat (nj - 1)]) ++ itmsT lj) spqi aha nha cha xha w1 (hw1.ent _ (List.mem_of_getElem? (i := 2) rfl)) hi3 hi4 hi5 hi6 hlha (by omega) (by omega) (by omega) (hrha.at (M' := [gqi]) hw1 (hw1.apart [2] _ rfl)) (by omega) (by omega))) rfl ?_
   rintro v1 L1 ⟨_, ⟨nb13, sp6, cp6, rfl, rfl, hc4, hc5, hc6⟩, rfl⟩
   show JL _ _ _ _ ((87, Slc nb13 0 (32*nha + si + 13) cp6) :: _) [_, _, ⟨nb13, cu8 (((((numK 8 rq 8 ++ [(2:UInt8), 0]) ++ [UInt8.ofNat (nj - 1)]) ++ itmsT lj) ++ numK 2 (UInt64.ofNat nha) 2) ++ xha) ++ sp6, 5, (0, 0)⟩]
   refine AA _ (AH rfl) rfl ?_
   refine AN (AF (AK (AK (AD (AA (Ptr nb2 3) (BZ 4 4 1 3 A8 BB rfl rfl (by omega) (by omega) (by omega)) rfl ?_)))))
   refine AA (.bool (bB (0:Int) (2:Int) th)) (AI rfl (AQ BD (AS 1 rfl (AE (AE (AE (Seg.head))))))) rfl ?_
   refine AN (AF (CO _ rfl ((by decide +kernel : ∀ t : Bool, (bB (0:Int) (2:Int) t) = true) th) ?_))
   refine AD (AA _ (AL rfl) rfl ?_)
   refine AA (Ptr nb1 28) (AB 28 65 1 AO rfl BR rfl rfl) rfl ?_
   refine AA (SL ahb nhb chb) (AI rfl (AQ BU (AS 0 rfl (Seg.right 27 1 (by simp [htg]) rfl (AE (Seg.head)))))) rfl ?_
   refine A9 (CB 106 _ [false, false, true] [nb13] _ (A6 [Slc nb13 0 (32*nha + si + 13) cp6, SL ahb nhb chb] E1 rfl) rfl (fun w1 hw1 => FN nb13 (32*nha + si + 13) cp6 (32*nha + 32*nhb + si + 15) (((((numK 8 rq 8 ++ [(2:UInt8), 0]) ++ [UInt8.ofNat (nj - 1)]) ++ itmsT lj) ++ numK 2 (UInt64.ofNat nha) 2) ++ xha) sp6 ahb nhb chb xhb w1 (hw1.ent _ (List.mem_of_getElem? (i := 2) rfl)) (show (((((numK 8 rq 8 ++ [(2:UInt8), 0]) ++ [UInt8.ofNat (nj - 1)]) ++ itmsT lj) ++ numK 2 (UInt64.ofNat nha) 2) ++ xha).length = (32*nha + si + 13) from (by rw [List.length_append, List.length_append, A4, hi3, hlha] <;> omega)) hc4 hc5 hc6 hlhb (by omega) (by omega) (by omega) (hrhb.at (M' := [nb13]) hw1 (hw1.apart [2] _ rfl)) (by omega) (by omega))) rfl ?_
   rintro v1 L1 ⟨_, ⟨nb14, sp7, cp7, rfl, rfl, hc7, hc8, hc9⟩, rfl⟩
   show JL _ _ _ _ ((93, Slc nb14 0 (32*nha + 32*nhb + si + 15) cp7) :: _) [_, _, ⟨nb14, cu8 (((((((numK 8 rq 8 ++ [(2:UInt8), 0]) ++ [UInt8.ofNat (nj - 1)]) ++ itmsT lj) ++ numK 2 (UInt64.ofNat nha) 2) ++ xha) ++ numK 2 (UInt64.ofNat nhb) 2) ++ xhb) ++ sp7, 5, (0, 0)⟩]
   refine AA _ (AH rfl) rfl ?_
   refine AN (AF (AK (AD (AA _ (AL rfl) rfl ?_))))
   refine AA _ (AH rfl) rfl ?_
   refine AN (AF (BK (BP [false, false, true] ?_)))
   show JQ _ _ _ _ [_]
   refine BJ (Slc nb14 0 (32*nha + 32*nhb + si + 15) cp7) (res1 EK (BH rfl)) fun w1 hw1 => ?_
   have hq : ((((((numK 8 rq 8 ++ [(2:UInt8), 0]) ++ [UInt8.ofNat (nj - 1)]) ++ itmsT lj) ++ numK 2 (UInt64.ofNat nha) 2) ++ xha) ++ numK 2 (UInt64.ofNat nhb) 2) ++ xhb = (((((((numK 8 rq 8 ++ numK 1 (2:UInt64) 1) ++ numK 1 (0:UInt64) 1) ++ numK 1 (UInt64.ofNat (nj - 1)) 1) ++ itmsT lj) ++ numK 2 (UInt64.ofNat nha) 2) ++ xha) ++ numK 2 (UInt64.ofNat nhb) 2) ++ xhb := by simp [EX, nkL0, nkL2, ← FA, List.append_assoc]
   rw [hq] at hw1
   exact ⟨_, _, rfl, ⟨nb14, sp7, cp7, rfl, rfl, hc7, hc8, hc9⟩, hw1.sub (by simp) (by simp)⟩
 ·
  rintro v1 L1 ⟨nb4, hnb4, rfl, rfl⟩
  refine ⟨[], ?_⟩
  show DP _ _ _ _ _ _ _ _ [_, _, ⟨nb4, cu8 ([(2:UInt8), 0]), 5, (0, 0)⟩]
  refine CZ ⟨[9], [0, 1, 3, 4, 5, 6, 7, 8], [3, 4, 5, 6, 7, 8], [0, 1], [2]⟩ 2 _ rfl rfl (by decide +kernel) rfl ⟨⟨_, rfl, AJ rfl (AB 0 22 1 AO rfl AX rfl rfl)⟩, ⟨_, rfl, AJ rfl (AI rfl (AQ AY (AS 0 rfl (AG (AG (Seg.head))))))⟩, trivial⟩ rfl (BI rfl (CG 88 [U64 rq, I64 8] _ (A6 _ D8 rfl) (fun w1 hw1 => EU rq 8 w1 (by omega)))) ?_
  rintro v1 L1 ⟨_, ⟨nb15, rfl, rfl⟩, rfl⟩
  refine ⟨[], ?_⟩
  show DP _ _ _ _ _ _ _ _ [_, _, _, ⟨nb15, cu8 (numK 8 rq 8), 5, (0, 0)⟩]
  refine CZ ⟨[9, 2], [0, 1, 3, 4, 5, 6, 7, 8], [0, 1, 3, 4, 5, 6, 7, 8], [], [10]⟩ 10 _ rfl rfl (by decide +kernel) rfl trivial rfl (BI rfl (CP 43 5 [false, false, false, true] (Slc nb15 0 8 8) 8 (numK 8 rq 8) ([(2:UInt8), 0]) (some ⟨nb4, 0, none⟩) 2 2 10 AW CM rfl (.inr ⟨nb15, [], 8, rfl, (by simp [take?, cu8, cu32, cu64]), (by first | exact (show (numK 8 rq 8).length = 8 from A4 _ _ _) | simp [(show (numK 8 rq 8).length = 8 from A4 _ _ _)]), (by simp), (by omega), (by unfold maxLen; omega)⟩) rfl (by simp) (SrcAt.mem (AS 2 rfl (AV _))) (by omega) (by unfold maxLen; omega) (by omega))) ?_
  rintro v1 L1 ⟨nb16, sp8, cp8, hg5, rfl, rfl, ha17, ha18, ha19, ha20⟩
  refine ⟨[(11, Slc nb16 0 10 cp8)], ?_⟩
  show DP _ _ _ _ _ _ _ _ [_, _, _, ⟨nb16, cu8 ((numK 8 rq 8) ++ ([(2:UInt8), 0])) ++ sp8, 5, (0, 0)⟩]
  refine DN ⟨[9, 2, 10], [0, 1, 3, 4, 5, 6, 7, 8, 11], [0, 1, 3, 4, 5, 6, 7, 8], [11], []⟩ rfl rfl (by decide +kernel) rfl ⟨⟨_, rfl, AJ rfl (AH rfl)⟩, trivial⟩ ?_
  refine C7 (F' := [(4, Slc nb16 0 10 cp8), (1, Ptr nb1 0), (2, SL none 0 0), (3, Ptr nb2 0)]) (by kernel_rfl) ?_
  refine AF (AK (AK (AD (AA (Ptr nb2 0) (BZ 4 4 1 0 A8 BB rfl rfl (by omega) (by omega) (by omega)) rfl ?_))))
  refine AA (.bool (itB (0:Int) (2:Int))) (AI rfl (AQ BD (AS 1 rfl (Seg.head)))) rfl ?_
  refine AN (AF (CO _ rfl (by decide +kernel) ?_))
  refine AD (AA _ (AL rfl) rfl ?_)
  refine AA (Ptr nb1 3) (AB 3 69 1 AO rfl BQ rfl rfl) rfl ?_
  refine AA (SL aj nj cj) (AI rfl (AQ B9 (AS 0 rfl (AG (AG (AE (AE (AE (Seg.head))))))))) rfl ?_
  refine AA (I64 nj) (CY BM rfl) rfl ?_
  refine AA (I64 ((nj:Int) - 1)) (AU rfl rfl fun _ => EV _ _ ((nj:Int) - 1) (by omega) (by omega)) rfl ?_
  refine AA (U8 (UInt8.ofNat (nj - 1))) (CX _ _ rfl fun _ => FK (by rw [AZ]; rfl) BA (nj - 1) _ (by omega)) rfl ?_
  refine A9 (B3 5 1 _ [(0, U8 (UInt8.ofNat (nj - 1)))] (cu8 ([UInt8.ofNat (nj - 1)])) AW B5 CE rfl rfl rfl (by kernel_rfl)) rfl ?_
  rintro v1 L1 ⟨nb17, hnb17, rfl, rfl⟩
  show JL _ _ _ _ ((27, Slc nb17 0 1 1) :: _) [_, _, _, _, ⟨nb17, cu8 ([UInt8.ofNat (nj - 1)]), 5, (0, 0)⟩]
  refine A9 (CP 43 5 [false, false, false, true, false] (Slc nb16 0 10 cp8) 10 ((numK 8 rq 8) ++ ([(2:UInt8), 0])) ([UInt8.ofNat (nj - 1)]) (some ⟨nb17, 0, none⟩) 1 1 11 AW CM rfl (.inr ⟨nb16, sp8, cp8, rfl, rfl, (by first | exact ha17 | simp [ha17]), ha18, (by omega), (by omega)⟩) rfl (by simp) (SrcAt.mem (AS 4 rfl (AV _))) (by omega) (by unfold maxLen; omega) (by omega)) rfl ?_
  rintro v1 L1 ⟨nb18, sp9, cp9, hg6, rfl, rfl, ha21, ha22, ha23, ha24⟩
  show JL _ _ _ _ ((28, Slc nb18 0 11 cp9) :: _) [_, _, _, _, ⟨nb18, cu8 (((numK 8 rq 8) ++ ([(2:UInt8), 0])) ++ ([UInt8.ofNat (nj - 1)])) ++ sp9, 5, (0, 0)⟩]
  refine AA _ (AH rfl) rfl ?_
  refine AN (AF (AK (AK (AD (AA _ (AH rfl) rfl ?_)))))
  refine AN (AF (B2 (BP [true, true, false, false, true] ?_)))
  show JC _ _ _ _ [_, _, _]
  refine DV (ι := Nat × Nat × List UInt8 × Nat × List Value × Nat) (fun ⟨i, q, oqi, gqi, spqi, cpqi⟩ => [(1, Ptr nb1 0), (2, SL none 0 0), (3, Ptr nb2 0), (5, I64 i), (4, Slc gqi 0 q cpqi)]) (fun ⟨i, q, oqi, gqi, spqi, cpqi⟩ => [⟨nb1, [U64 rq, I64 2, I64 0, SL aj nj cj, .bool th, U64 pv, U64 ep, I64 (kd), SL ai ni ci, SL sa ns sc, U64 bl] ++ cu8 tg ++ [SL aha nha cha, SL ahb nhb chb], 71, (0, 0)⟩, ⟨nb2, [.bool (itB (0:Int) (2:Int)), .bool (chB (0:Int) (2:Int) th), .bool (aB (0:Int) (2:Int) th), .bool (bB (0:Int) (2:Int) th)], 168, (0, 0)⟩, ⟨gqi, cu8 oqi ++ spqi, 5, (0, 0)⟩]) (fun ⟨i, q, oqi, gqi, spqi, cpqi⟩ => i ≤ nj ∧ oqi = ((numK 8 rq 8 ++ [(2:UInt8), 0]) ++ [UInt8.ofNat (nj - 1)]) ++ itmsT (lj.take i) ∧ oqi.length = q ∧ spqi.length = cpqi - q ∧ q ≤ cpqi ∧ cpqi ≤ maxLen ∧ q ≤ 57*i + 11) (fun ⟨i, q, oqi, gqi, spqi, cpqi⟩ => nj - i) (0, 11, ((numK 8 rq 8) ++ ([(2:UInt8), 0])) ++ ([UInt8.ofNat (nj - 1)]), nb18, sp9, cp9) ⟨by omega, by rw [List.take_zero, itmsT_nil, List.append_nil], (by have h := ha21; omega), (by have h := ha22; omega), by omega, by omega, by omega⟩ (Sub.cons rfl (Sub.cons rfl (Sub.cons rfl (Sub.cons rfl (Sub.cons (FL (by omega)) (Sub.nil)))))) rfl ?_
  rintro ⟨i, q, oqi, gqi, spqi, cpqi⟩ ⟨hi1, hi2, hi3, hi4, hi5, hi6, hi7⟩
  show JC _ _ _ [(1, Ptr nb1 0), (2, SL none 0 0), (3, Ptr nb2 0), (5, I64 i), (4, Slc gqi 0 q cpqi)] [⟨nb1, [U64 rq, I64 2, I64 0, SL aj nj cj, .bool th, U64 pv, U64 ep, I64 (kd), SL ai ni ci, SL sa ns sc, U64 bl] ++ cu8 tg ++ [SL aha nha cha, SL ahb nhb chb], 71, (0, 0)⟩, ⟨nb2, [.bool (itB (0:Int) (2:Int)), .bool (chB (0:Int) (2:Int) th), .bool (aB (0:Int) (2:Int) th), .bool (bB (0:Int) (2:Int) th)], 168, (0, 0)⟩, ⟨gqi, cu8 oqi ++ spqi, 5, (0, 0)⟩]
  refine AK (AK (AD (AA _ (AL rfl) rfl ?_)))
  refine AA (Ptr nb1 3) (AB 3 69 1 AO rfl BQ rfl rfl) rfl ?_
  refine AA (SL aj nj cj) (AI rfl (AQ B9 (AS 0 rfl (AG (AG (AE (AE (AE (Seg.head))))))))) rfl ?_
  refine AA (I64 nj) (CY BM rfl) rfl ?_
  refine AA (.bool (decide (((i:Int)) < ((nj:Int))))) (AU rfl rfl fun _ => CR _ _) rfl ?_
  refine AN (AF (CI (decide (((i:Int)) < ((nj:Int)))) rfl (fun hb3 => ?_) (fun hb3 => ?_)))
  ·
   have hp3 : ((i:Int)) < ((nj:Int)) := of_decide_eq_true hb3
   refine BE (AF (AK (B2 (AK (AD (AA _ (AL rfl) rfl ?_))))))
   refine AA (Ptr nb1 3) (AB 3 69 1 AO rfl BQ rfl rfl) rfl ?_
   refine AA (SL aj nj cj) (AI rfl (AQ B9 (AS 0 rfl (AG (AG (AE (AE (AE (Seg.head))))))))) rfl ?_
   refine AA _ (AL rfl) rfl ?_
   obtain ⟨x2, hx2⟩ : ∃ x, lj[i]? = some x := ⟨_, List.getElem?_eq_getElem (by rw [hlj]; omega)⟩
   obtain ⟨bz2, oz2, hz2, hm2⟩ := E4 E6 (by decide) hj hx2
   rw [FO] at hm2
   refine AA (Ptr bz2 (50*i + oz2)) (B4 167 50 (50*i + oz2) BM DM rfl hz2 rfl (by omega) (by omega) (by omega)) rfl ?_
   refine AA (Ptr bz2 (50*i + oz2)) (AB 0 4 1 DO rfl BB rfl rfl) rfl ?_
   refine AA (.bool x2.b) (AI rfl (AQ BD (CK (hm2.mem (by simp)) (AG (AG (Seg.head))) (by first | omega | (simp; done) | (simp; omega))))) rfl ?_
   refine B1 (BG 104 [.bool x2.b] (U8 (if x2.b then 1 else 0)) (A6 _ Tryd.call104 rfl) (fun w1 hw1 => rflag14_c x2.b w1 )) rfl ?_
   show JL _ _ _ _ ((43, U8 (if x2.b then 1 else 0)) :: _) [_, _, _]
   refine A9 (B3 5 1 _ [(0, U8 (if x2.b then 1 else 0))] (cu8 ([if x2.b then 1 else 0])) AW B5 CE rfl rfl rfl (by kernel_rfl)) rfl ?_
   rintro v1 L1 ⟨nb19, hnb19, rfl, rfl⟩
   show JL _ _ _ _ ((44, Slc nb19 0 1 1) :: _) [_, _, _, ⟨nb19, cu8 ([if x2.b then 1 else 0]), 5, (0, 0)⟩]
   refine A9 (CP 43 5 [false, false, true, false] (Slc gqi 0 q cpqi) q oqi ([if x2.b then 1 else 0]) (some ⟨nb19, 0, none⟩) 1 1 (q + 1) AW CM rfl (.inr ⟨gqi, spqi, cpqi, rfl, rfl, (by first | exact hi3 | simp [hi3]), hi4, (by omega), (by omega)⟩) rfl (by simp) (SrcAt.mem (AS 3 rfl (AV _))) (by omega) (by unfold maxLen; omega) (by omega)) rfl ?_
   rintro v1 L1 ⟨nb20, sp10, cp10, hg7, rfl, rfl, ha25, ha26, ha27, ha28⟩
   show JL _ _ _ _ ((45, Slc nb20 0 (q + 1) cp10) :: _) [_, _, _, ⟨nb20, cu8 (oqi ++ ([if x2.b then 1 else 0])) ++ sp10, 5, (0, 0)⟩]
   refine AA _ (AH rfl) rfl ?_
   refine AN (AF (AK (AD (AA (Ptr nb1 3) (AB 3 69 1 AO rfl BQ rfl rfl) rfl ?_))))
   refine AA (SL aj nj cj) (AI rfl (AQ B9 (AS 0 rfl (AG (AG (AE (AE (AE (Seg.head))))))))) rfl ?_
   refine AA _ (AL rfl) rfl ?_
   refine AA (Ptr bz2 (50*i + oz2)) (B4 167 50 (50*i + oz2) BM DM rfl hz2 rfl (by omega) (by omega) (by omega)) rfl ?_
   refine AA (Ptr bz2 (50*i + oz2)) (AB 0 4 1 DO rfl BB rfl rfl) rfl ?_
   refine AA (.bool x2.b) (AI rfl (AQ BD (CK (hm2.mem (by simp)) (AG (AG (Seg.head))) (by first | omega | (simp; done) | (simp; omega))))) rfl ?_
   refine AN (AF (CI (x2.b) rfl (fun hb4 => ?_) (fun hb4 => ?_)))
   ·
    refine AD (AA _ (AL rfl) rfl ?_)
    refine AA (Ptr nb1 3) (AB 3 69 1 AO rfl BQ rfl rfl) rfl ?_
    refine AA (SL aj nj cj) (AI rfl (AQ B9 (AS 0 rfl (AG (AG (AE (AE (AE (Seg.head))))))))) rfl ?_
    refine AA _ (AL rfl) rfl ?_
    refine AA (Ptr bz2 (50*i + oz2)) (B4 167 50 (50*i + oz2) BM DM rfl hz2 rfl (by omega) (by omega) (by omega)) rfl ?_
    refine AA (Ptr bz2 (50*i + oz2 + 1)) (AB 1 164 49 DO rfl C8 rfl rfl) rfl ?_
    refine AA (.agg ([U64 x2.s.e] ++ cu8 x2.s.d ++ cu8 x2.s.t).toArray) (AI rfl (BV Tryd.isAgg164 C8 (by simp [x2.s.hd, x2.s.ht]) (CK (hm2.mem (by simp)) (C6 (p := [.bool x2.b]) (q := []) (vs := [U64 x2.s.e] ++ cu8 x2.s.d ++ cu8 x2.s.t) (by first | rfl | (simp only [List.append_assoc, List.nil_append, List.append_nil, List.cons_append]; done)) rfl) (by first | omega | (simp; done) | (simp; omega))))) rfl ?_
    refine A9 (CG 105 [.agg ([U64 x2.s.e] ++ cu8 x2.s.d ++ cu8 x2.s.t).toArray] _ (A6 _ Tryd.call105 rfl) (fun w1 hw1 => rput7_c x2.s.e x2.s.d x2.s.t w1 x2.s.hd x2.s.ht)) rfl ?_
    rintro v1 L1 ⟨_, ⟨nb21, sp11, cp11, rfl, rfl, hc10, hc11, hc12⟩, rfl⟩
    show JL _ _ _ _ ((59, Slc nb21 0 56 cp11) :: _) [_, _, _, _, ⟨nb21, cu8 (putL x2.s.e x2.s.d x2.s.t) ++ sp11, 5, (0, 0)⟩]
    refine A9 (CP 43 5 [false, false, false, true, false] (Slc nb20 0 (q + 1) cp10) (q + 1) (oqi ++ ([if x2.b then 1 else 0])) (putL x2.s.e x2.s.d x2.s.t) (some ⟨nb21, 0, none⟩) 56 cp11 (q + 57) AW CM rfl (.inr ⟨nb20, sp10, cp10, rfl, rfl, (by first | exact ha25 | simp [ha25]), ha26, (by omega), (by omega)⟩) rfl (by first | exact (show (putL x2.s.e x2.s.d x2.s.t).length = 56 from (FM x2.s.hd x2.s.ht)) | simp [(show (putL x2.s.e x2.s.d x2.s.t).length = 56 from (FM x2.s.hd x2.s.ht))]; try omega) (SrcAt.mem (AS 4 rfl (AG (AV _)))) (by omega) (by unfold maxLen; omega) (by omega)) rfl ?_
    rintro v1 L1 ⟨nb22, sp12, cp12, hg8, rfl, rfl, ha29, ha30, ha31, ha32⟩
    show JL _ _ _ _ ((60, Slc nb22 0 (q + 57) cp12) :: _) [_, _, _, _, ⟨nb22, cu8 ((oqi ++ ([if x2.b then 1 else 0])) ++ (putL x2.s.e x2.s.d x2.s.t)) ++ sp12, 5, (0, 0)⟩]
    refine AA _ (AH rfl) rfl ?_
    refine AN (BY (AF (AD (AA _ (AL rfl) rfl ?_))))
    refine AA (I64 ((i:Int) + 1)) (AU rfl rfl fun _ => DE _ _ ((i:Int) + 1) (by omega) (by omega)) rfl ?_
    refine AA _ (AH rfl) rfl ?_
    refine AN (DK (BP [true, true, false, false, true] ?_))
    show K _ _ [_, _, _] _
    refine EM (i + 1, (q + 57), (oqi ++ ([if x2.b then 1 else 0])) ++ (putL x2.s.e x2.s.d x2.s.t), nb22, sp12, cp12) ⟨by omega, by rw [hi2, FA, List.append_assoc, List.append_assoc, ← itm_t hb4, FV hx2], (by have h := ha29; omega), (by have h := ha30; omega), by omega, by omega, by omega⟩ (by first | (simp; omega) | simp | (dsimp only; omega) | omega) (Sub.cons rfl (Sub.cons rfl (Sub.cons rfl (Sub.cons rfl (Sub.cons (FL (by omega)) (Sub.nil)))))) rfl
   ·
    refine BE (BY (AF (AD (AA _ (AL rfl) rfl ?_))))
    refine AA (I64 ((i:Int) + 1)) (AU rfl rfl fun _ => DE _ _ ((i:Int) + 1) (by omega) (by omega)) rfl ?_
    refine AA _ (AH rfl) rfl ?_
    refine AN (DK (BP [true, true, false, true] ?_))
    show K _ _ [_, _, _] _
    refine EM (i + 1, (q + 1), oqi ++ ([if x2.b then 1 else 0]), nb20, sp10, cp10) ⟨by omega, by rw [hi2, FA, List.append_assoc, ← itm_f hb4, FV hx2], (by have h := ha25; omega), (by have h := ha26; omega), by omega, by omega, by omega⟩ (by first | (simp; omega) | simp | (dsimp only; omega) | omega) (Sub.cons rfl (Sub.cons rfl (Sub.cons rfl (Sub.cons rfl (Sub.cons (FL (by omega)) (Sub.nil)))))) rfl
  ·
   have hp3 : ¬ (((i:Int)) < ((nj:Int))) := of_decide_eq_false hb3
   refine DU (A5 (A5 (CQ (AF (AK (AK ?_))))))
   have ei : nj = i := by omega
   subst ei
   rw [List.take_of_length_le (by omega)] at hi2
   have eq : q = si + 11 := by rw [← hi3, hi2]; simp [A4, hsi]; omega
   subst eq
   subst hi2
   show JC _ _ _ _ [⟨nb1, [U64 rq, I64 2, I64 0, SL aj nj cj, .bool th, U64 pv, U64 ep, I64 (kd), SL ai ni ci, SL sa ns sc, U64 bl] ++ cu8 tg ++ [SL aha nha cha, SL ahb nhb chb], 71, (0, 0)⟩, ⟨nb2, [.bool (itB (0:Int) (2:Int)), .bool (chB (0:Int) (2:Int) th), .bool (aB (0:Int) (2:Int) th), .bool (bB (0:Int) (2:Int) th)], 168, (0, 0)⟩, ⟨gqi, cu8 (((numK 8 rq 8 ++ [(2:UInt8), 0]) ++ [UInt8.ofNat (nj - 1)]) ++ itmsT lj) ++ spqi, 5, (0, 0)⟩]
   refine AD (AA (Ptr nb1 2) (AB 2 3 1 AO rfl AR rfl rfl) rfl ?_)
   refine AA (I64 0) (AI rfl (AQ AT (AS 0 rfl (AG (AG (AE (AE (Seg.head)))))))) rfl ?_
   refine AA (.bool (decide ((0:Int) = (0:Int)))) (AU rfl rfl fun _ => BO _ _) rfl ?_
   refine AA _ (AL rfl) rfl ?_
   refine AP 3 64 true _ (Ptr nb1 1) rfl rfl (by decide) (AB 1 3 1 AO rfl AR rfl rfl) rfl ?_
   refine AP 3 64 true _ (I64 2) rfl rfl (by decide) (AI rfl (AQ AT (AS 0 rfl (AG (AG (AE (Seg.head))))))) rfl ?_
   refine AP 3 64 true _ (.bool (decide ((2:Int) = (4:Int)))) rfl rfl (by decide) (AU rfl rfl fun _ => BO _ _) rfl ?_
   refine AA _ (A2 _ rfl (by decide) rfl) rfl ?_
   refine AN (AF (BN _ rfl (by decide) ?_))
   refine BE (AF (AK (AK (AD (AA (Ptr nb2 1) (BZ 4 4 1 1 A8 BB rfl rfl (by omega) (by omega) (by omega)) rfl ?_)))))
   refine AA (.bool (chB (0:Int) (2:Int) th)) (AI rfl (AQ BD (AS 1 rfl (AE (Seg.head))))) rfl ?_
   refine AN (AF (BN _ rfl ((by decide +kernel : ∀ t : Bool, (chB (0:Int) (2:Int) t) = false) th) ?_))
   refine BE (AF (AK (AK (AD (AA (Ptr nb2 2) (BZ 4 4 1 2 A8 BB rfl rfl (by omega) (by omega) (by omega)) rfl ?_)))))
   refine AA (.bool (aB (0:Int) (2:Int) th)) (AI rfl (AQ BD (AS 1 rfl (AE (AE (Seg.head)))))) rfl ?_
   refine AN (AF (CO _ rfl ((by decide +kernel : ∀ t : Bool, (aB (0:Int) (2:Int) t) = true) th) ?_))
   refine AD (AA _ (AL rfl) rfl ?_)
   refine AA (Ptr nb1 27) (AB 27 65 1 AO rfl BR rfl rfl) rfl ?_
   refine AA (SL aha nha cha) (AI rfl (AQ BU (AS 0 rfl (Seg.right 27 0 (by simp [htg]) rfl (Seg.head))))) rfl ?_
   refine A9 (CB 106 _ [false, false, true] [gqi] _ (A6 [Slc gqi 0 (si + 11) cpqi, SL aha nha cha] E1 rfl) rfl (fun w1 hw1 => FN gqi (si + 11) cpqi (32*nha + si + 13) (((numK 8 rq 8 ++ [(2:UInt8), 0]) ++ [UInt8.ofNat (nj - 1)]) ++ itmsT lj) spqi aha nha cha xha w1 (hw1.ent _ (List.mem_of_getElem? (i := 2) rfl)) hi3 hi4 hi5 hi6 hlha (by omega) (by omega) (by omega) (hrha.at (M' := [gqi]) hw1 (hw1.apart [2] _ rfl)) (by omega) (by omega))) rfl ?_
   rintro v1 L1 ⟨_, ⟨nb23, sp13, cp13, rfl, rfl, hc13, hc14, hc15⟩, rfl⟩
   show JL _ _ _ _ ((87, Slc nb23 0 (32*nha + si + 13) cp13) :: _) [_, _, ⟨nb23, cu8 (((((numK 8 rq 8 ++ [(2:UInt8), 0]) ++ [UInt8.ofNat (nj - 1)]) ++ itmsT lj) ++ numK 2 (UInt64.ofNat nha) 2) ++ xha) ++ sp13, 5, (0, 0)⟩]
   refine AA _ (AH rfl) rfl ?_
   refine AN (AF (AK (AK (AD (AA (Ptr nb2 3) (BZ 4 4 1 3 A8 BB rfl rfl (by omega) (by omega) (by omega)) rfl ?_)))))
   refine AA (.bool (bB (0:Int) (2:Int) th)) (AI rfl (AQ BD (AS 1 rfl (AE (AE (AE (Seg.head))))))) rfl ?_
   refine AN (AF (CO _ rfl ((by decide +kernel : ∀ t : Bool, (bB (0:Int) (2:Int) t) = true) th) ?_))
   refine AD (AA _ (AL rfl) rfl ?_)
   refine AA (Ptr nb1 28) (AB 28 65 1 AO rfl BR rfl rfl) rfl ?_
   refine AA (SL ahb nhb chb) (AI rfl (AQ BU (AS 0 rfl (Seg.right 27 1 (by simp [htg]) rfl (AE (Seg.head)))))) rfl ?_
   refine A9 (CB 106 _ [false, false, true] [nb23] _ (A6 [Slc nb23 0 (32*nha + si + 13) cp13, SL ahb nhb chb] E1 rfl) rfl (fun w1 hw1 => FN nb23 (32*nha + si + 13) cp13 (32*nha + 32*nhb + si + 15) (((((numK 8 rq 8 ++ [(2:UInt8), 0]) ++ [UInt8.ofNat (nj - 1)]) ++ itmsT lj) ++ numK 2 (UInt64.ofNat nha) 2) ++ xha) sp13 ahb nhb chb xhb w1 (hw1.ent _ (List.mem_of_getElem? (i := 2) rfl)) (show (((((numK 8 rq 8 ++ [(2:UInt8), 0]) ++ [UInt8.ofNat (nj - 1)]) ++ itmsT lj) ++ numK 2 (UInt64.ofNat nha) 2) ++ xha).length = (32*nha + si + 13) from (by rw [List.length_append, List.length_append, A4, hi3, hlha] <;> omega)) hc13 hc14 hc15 hlhb (by omega) (by omega) (by omega) (hrhb.at (M' := [nb23]) hw1 (hw1.apart [2] _ rfl)) (by omega) (by omega))) rfl ?_
   rintro v1 L1 ⟨_, ⟨nb24, sp14, cp14, rfl, rfl, hc16, hc17, hc18⟩, rfl⟩
   show JL _ _ _ _ ((93, Slc nb24 0 (32*nha + 32*nhb + si + 15) cp14) :: _) [_, _, ⟨nb24, cu8 (((((((numK 8 rq 8 ++ [(2:UInt8), 0]) ++ [UInt8.ofNat (nj - 1)]) ++ itmsT lj) ++ numK 2 (UInt64.ofNat nha) 2) ++ xha) ++ numK 2 (UInt64.ofNat nhb) 2) ++ xhb) ++ sp14, 5, (0, 0)⟩]
   refine AA _ (AH rfl) rfl ?_
   refine AN (AF (AK (AD (AA _ (AL rfl) rfl ?_))))
   refine AA _ (AH rfl) rfl ?_
   refine AN (AF (BK (BP [false, false, true] ?_)))
   show JQ _ _ _ _ [_]
   refine BJ (Slc nb24 0 (32*nha + 32*nhb + si + 15) cp14) (res1 EK (BH rfl)) fun w1 hw1 => ?_
   have hq : ((((((numK 8 rq 8 ++ [(2:UInt8), 0]) ++ [UInt8.ofNat (nj - 1)]) ++ itmsT lj) ++ numK 2 (UInt64.ofNat nha) 2) ++ xha) ++ numK 2 (UInt64.ofNat nhb) 2) ++ xhb = (((((((numK 8 rq 8 ++ numK 1 (2:UInt64) 1) ++ numK 1 (0:UInt64) 1) ++ numK 1 (UInt64.ofNat (nj - 1)) 1) ++ itmsT lj) ++ numK 2 (UInt64.ofNat nha) 2) ++ xha) ++ numK 2 (UInt64.ofNat nhb) 2) ++ xhb := by simp [EX, nkL0, nkL2, ← FA, List.append_assoc]
   rw [hq] at hw1
   exact ⟨_, _, rfl, ⟨nb24, sp14, cp14, rfl, rfl, hc16, hc17, hc18⟩, hw1.sub (by simp) (by simp)⟩
set_option maxHeartbeats 2000000 in
theorem rputRep3_c (rq : UInt64) (aj : Option Addr) (nj cj : Nat) (lj : List ItemR) (th : Bool) (pv ep : UInt64) (kd : Int) (ai : Option Addr) (ni ci : Nat) (l : List UInt64) (sa : Option Addr) (ns sc : Nat) (ls : List SealR) (bl : UInt64) (tg : List UInt8) (aha : Option Addr) (nha cha : Nat) (xha : List UInt8) (ahb : Option Addr) (nhb chb : Nat) (xhb : List UInt8)  (w : World) (hlj : lj.length = nj) (hnj : nj ≤ 2000000) (hdj : nj ≤ cj) (hcj : cj ≤ maxLen) (hj : RdV w aj (lj.flatMap itemC)) (hl : l.length = ni) (hnm : ni ≤ 2000000) (hnc : ni ≤ ci) (hcm : ci ≤ maxLen) (hv : RdV w ai (cu64 l)) (hls : ls.length = ns) (hnn : ns ≤ 2000000) (hnd : ns ≤ sc) (hcn : sc ≤ maxLen) (hs : RdV w sa (ls.flatMap sealC)) (htg : tg.length = 16) (hlha : xha.length = nha * 32) (hnha : nha ≤ 9000) (hdha : nha ≤ cha) (hcha : cha ≤ maxLen) (hrha : RdB w [] aha xha) (hlhb : xhb.length = nhb * 32) (hnhb : nhb ≤ 9000) (hdhb : nhb ≤ chb) (hchb : chb ≤ maxLen) (hrhb : RdB w [] ahb xhb) (hbi : ni ≤ 300) (hbs : ns ≤ 300) (hA : nha ≤ 300) (hB : nhb ≤ 300) (hR : repR (3:Int) (0:Int) th lj (blankB pv ep kd l ls bl tg) (decide (mayN pv ep kd l ls bl = 0)) nha nhb = true)  : Calls Tryd.prog 38 #[.agg ([U64 rq, I64 3, I64 0, SL aj nj cj, .bool th, U64 pv, U64 ep, I64 (kd), SL ai ni ci, SL sa ns sc, U64 bl] ++ cu8 tg ++ [SL aha nha cha, SL ahb nhb chb]).toArray] w (Post w [] (fun v L => ∃ g sp cap, v = Slc g 0 ((32*nha + 32*nhb + 14)) cap ∧ L = [⟨g, cu8 ((((((numK 8 rq 8 ++ numK 1 (3:UInt64) 1) ++ numK 1 (0:UInt64) 1) ++ numK 2 (UInt64.ofNat nha) 2) ++ xha) ++ numK 2 (UInt64.ofNat nhb) 2) ++ xhb) ++ sp, 5, (0, 0)⟩] ∧ sp.length = cap - (32*nha + 32*nhb + 14) ∧ (32*nha + 32*nhb + 14) ≤ cap ∧ cap ≤ maxLen)) := by
 have hmx : maxLen = 9223372036854775807 := rfl
 have hf := repR_f hlj hR
 have hn0 := c2_len0 hlj (repR_2 hR (by decide +kernel))
 refine enter (P := Tryd.prog) (f := 38) (fn := Tryd.f38) w [] 95 [] [.agg ([U64 rq, I64 3, I64 0, SL aj nj cj, .bool th, U64 pv, U64 ep, I64 (kd), SL ai ni ci, SL sa ns sc, U64 bl] ++ cu8 tg ++ [SL aha nha cha, SL ahb nhb chb]).toArray] Tryd.func38 rfl rfl (by simp) (CC (by simp) (by simp) (by simp)) ?_
 show JC _ _ _ [(0, .agg ([U64 rq, I64 3, I64 0, SL aj nj cj, .bool th, U64 pv, U64 ep, I64 (kd), SL ai ni ci, SL sa ns sc, U64 bl] ++ cu8 tg ++ [SL aha nha cha, SL ahb nhb chb]).toArray)] _
 refine AK (AD (A9 (CL (.agg ([U64 rq, I64 3, I64 0, SL aj nj cj, .bool th, U64 pv, U64 ep, I64 (kd), SL ai ni ci, SL sa ns sc, U64 bl] ++ cu8 tg ++ [SL aha nha cha, SL ahb nhb chb]).toArray) ([U64 rq, I64 3, I64 0, SL aj nj cj, .bool th, U64 pv, U64 ep, I64 (kd), SL ai ni ci, SL sa ns sc, U64 bl] ++ cu8 tg ++ [SL aha nha cha, SL ahb nhb chb]) rfl (by first | rfl | simp)) rfl ?_))
 rintro v1 L1 ⟨nb1, hnb1, rfl, rfl⟩
 show JL _ _ _ _ ((1, Ptr nb1 0) :: _) [⟨nb1, [U64 rq, I64 3, I64 0, SL aj nj cj, .bool th, U64 pv, U64 ep, I64 (kd), SL ai ni ci, SL sa ns sc, U64 bl] ++ cu8 tg ++ [SL aha nha cha, SL ahb nhb chb], 71, (0, 0)⟩]
 refine AA _ (AH rfl) rfl ?_
 refine AN (AF (AK (AD (AA (.agg ([U64 rq, I64 3, I64 0, SL aj nj cj, .bool th, U64 pv, U64 ep, I64 (kd), SL ai ni ci, SL sa ns sc, U64 bl] ++ cu8 tg ++ [SL aha nha cha, SL ahb nhb chb]).toArray) (AI rfl (BV DR C2 (by simp [htg]) (AS 0 rfl (AV _)))) rfl ?_))))
 refine B1 (BG 94 [.agg ([U64 rq, I64 3, I64 0, SL aj nj cj, .bool th, U64 pv, U64 ep, I64 (kd), SL ai ni ci, SL sa ns sc, U64 bl] ++ cu8 tg ++ [SL aha nha cha, SL ahb nhb chb]).toArray] (.agg #[.bool (itB (0:Int) (3:Int)), .bool (chB (0:Int) (3:Int) th), .bool (aB (0:Int) (3:Int) th), .bool (bB (0:Int) (3:Int) th)]) (A6 _ Tryd.call94 rfl) (fun w1 hw1 => has_c rq (3:Int) (0:Int) aj nj cj lj th pv ep (kd) ai ni ci l sa ns sc ls bl tg aha nha cha xha ahb nhb chb xhb w1 htg)) rfl ?_
 show JL _ _ _ _ ((7, .agg #[.bool (itB (0:Int) (3:Int)), .bool (chB (0:Int) (3:Int) th), .bool (aB (0:Int) (3:Int) th), .bool (bB (0:Int) (3:Int) th)]) :: _) [_]
 refine A9 (DI _ ([.bool false, .bool false, .bool false, .bool false]) EY (by kernel_rfl)) rfl ?_
 rintro v1 L1 ⟨nb2, hnb2, rfl, rfl⟩
 show JL _ _ _ _ ((3, Ptr nb2 0) :: _) [_, ⟨nb2, [.bool false, .bool false, .bool false, .bool false], 168, (0, 0)⟩]
 refine B1 (CW 1 nb2 4 ([.bool false, .bool false, .bool false, .bool false]) 168 ([.bool (itB (0:Int) (3:Int)), .bool (chB (0:Int) (3:Int) th), .bool (aB (0:Int) (3:Int) th), .bool (bB (0:Int) (3:Int) th)]) rfl rfl rfl DT rfl (by simp [Value.oneCell']) (Nat.le_of_ble_eq_true rfl) (DC (by simp []))) rfl ?_
 show JL _ _ _ _ _ [_, ⟨nb2, [.bool (itB (0:Int) (3:Int)), .bool (chB (0:Int) (3:Int) th), .bool (aB (0:Int) (3:Int) th), .bool (bB (0:Int) (3:Int) th)], 168, (0, 0)⟩]
 refine AN (AF (AK (DH 95 4 [(0, Ptr nb1 0), (1, U64 rq), (3, Ptr nb1 1), (4, I64 3), (5, U8 3), (6, Ptr nb1 2), (7, I64 0), (8, U8 0)] B8 rfl (by decide +kernel) ?_)))
 refine DP_two ⟨[], [0, 1, 3, 4, 5, 6, 7, 8], [], [0, 1, 3, 4, 5, 6, 7, 8], [2, 9]⟩ 2 9 _ _ rfl rfl (by decide +kernel) rfl ⟨⟨_, rfl, AJ rfl (AB 0 22 1 AO rfl AX rfl rfl)⟩, ⟨_, rfl, AJ rfl (AI rfl (AQ AY (AS 0 rfl (AG (AG (Seg.head))))))⟩, ⟨_, rfl, AJ rfl (AB 1 3 1 AO rfl AR rfl rfl)⟩, ⟨_, rfl, AJ rfl (AI rfl (AQ AT (AS 0 rfl (AG (AG (AE (Seg.head)))))))⟩, ⟨_, rfl, AJ rfl (CX _ _ rfl fun _ => DA (by rw [AZ]; rfl) BA rfl)⟩, ⟨_, rfl, AJ rfl (AB 2 3 1 AO rfl AR rfl rfl)⟩, ⟨_, rfl, AJ rfl (AI rfl (AQ AT (AS 0 rfl (AG (AG (AE (AE (Seg.head))))))))⟩, ⟨_, rfl, AJ rfl (CX _ _ rfl fun _ => DA (by rw [AZ]; rfl) BA rfl)⟩, trivial⟩ rfl rfl (BI rfl (CG 88 [U64 rq, I64 8] _ (A6 _ D8 rfl) (fun w1 hw1 => EU rq 8 w1 (by omega)))) (BI rfl (B3 5 1 _ [(0, U8 3), (1, U8 0)] (cu8 ([(3:UInt8), 0])) AW B5 CE rfl rfl rfl (by kernel_rfl))) ?_ ?_
 ·
  rintro v1 L1 ⟨_, ⟨nb3, rfl, rfl⟩, rfl⟩
  refine ⟨[], ?_⟩
  show DP _ _ _ _ _ _ _ _ [_, _, ⟨nb3, cu8 (numK 8 rq 8), 5, (0, 0)⟩]
  refine CZ ⟨[2], [0, 1, 3, 4, 5, 6, 7, 8], [0, 1], [3, 4, 5, 6, 7, 8], [9]⟩ 9 _ rfl rfl (by decide +kernel) rfl ⟨⟨_, rfl, AJ rfl (AB 1 3 1 AO rfl AR rfl rfl)⟩, ⟨_, rfl, AJ rfl (AI rfl (AQ AT (AS 0 rfl (AG (AG (AE (Seg.head)))))))⟩, ⟨_, rfl, AJ rfl (CX _ _ rfl fun _ => DA (by rw [AZ]; rfl) BA rfl)⟩, ⟨_, rfl, AJ rfl (AB 2 3 1 AO rfl AR rfl rfl)⟩, ⟨_, rfl, AJ rfl (AI rfl (AQ AT (AS 0 rfl (AG (AG (AE (AE (Seg.head))))))))⟩, ⟨_, rfl, AJ rfl (CX _ _ rfl fun _ => DA (by rw [AZ]; rfl) BA rfl)⟩, trivial⟩ rfl (BI rfl (B3 5 1 _ [(0, U8 3), (1, U8 0)] (cu8 ([(3:UInt8), 0])) AW B5 CE rfl rfl rfl (by kernel_rfl))) ?_
  rintro v1 L1 ⟨nb5, hnb5, rfl, rfl⟩
  refine ⟨[], ?_⟩
  show DP _ _ _ _ _ _ _ _ [_, _, _, ⟨nb5, cu8 ([(3:UInt8), 0]), 5, (0, 0)⟩]
  refine CZ ⟨[2, 9], [0, 1, 3, 4, 5, 6, 7, 8], [0, 1, 3, 4, 5, 6, 7, 8], [], [10]⟩ 10 _ rfl rfl (by decide +kernel) rfl trivial rfl (BI rfl (CP 43 5 [false, false, true, false] (Slc nb3 0 8 8) 8 (numK 8 rq 8) ([(3:UInt8), 0]) (some ⟨nb5, 0, none⟩) 2 2 10 AW CM rfl (.inr ⟨nb3, [], 8, rfl, (by simp [take?, cu8, cu32, cu64]), (by first | exact (show (numK 8 rq 8).length = 8 from A4 _ _ _) | simp [(show (numK 8 rq 8).length = 8 from A4 _ _ _)]), (by simp), (by omega), (by unfold maxLen; omega)⟩) rfl (by simp) (SrcAt.mem (AS 3 rfl (AV _))) (by omega) (by unfold maxLen; omega) (by omega))) ?_
  rintro v1 L1 ⟨nb6, sp1, cp1, hg1, rfl, rfl, ha1, ha2, ha3, ha4⟩
  refine ⟨[(11, Slc nb6 0 10 cp1)], ?_⟩
  show DP _ _ _ _ _ _ _ _ [_, _, _, ⟨nb6, cu8 ((numK 8 rq 8) ++ ([(3:UInt8), 0])) ++ sp1, 5, (0, 0)⟩]
  refine DN ⟨[2, 9, 10], [0, 1, 3, 4, 5, 6, 7, 8, 11], [0, 1, 3, 4, 5, 6, 7, 8], [11], []⟩ rfl rfl (by decide +kernel) rfl ⟨⟨_, rfl, AJ rfl (AH rfl)⟩, trivial⟩ ?_
  refine C7 (F' := [(4, Slc nb6 0 10 cp1), (1, Ptr nb1 0), (2, SL none 0 0), (3, Ptr nb2 0)]) (by kernel_rfl) ?_
  refine AF (AK (AK (AD (AA (Ptr nb2 0) (BZ 4 4 1 0 A8 BB rfl rfl (by omega) (by omega) (by omega)) rfl ?_))))
  refine AA (.bool (itB (0:Int) (3:Int))) (AI rfl (AQ BD (AS 1 rfl (Seg.head)))) rfl ?_
  refine AN (AF (BN _ rfl (by decide +kernel) ?_))
  refine BE (AF (AK (AK (AD (AA _ (AH rfl) rfl ?_)))))
  refine AN (AF (B2 (BP [true, true, false, true] ?_)))
  show JC _ _ _ _ [_, _, _]
  refine DV (ι := Unit) (fun _ => [(1, Ptr nb1 0), (2, SL none 0 0), (3, Ptr nb2 0), (4, Slc nb6 0 10 cp1), (5, I64 0)]) (fun _ => [⟨nb1, [U64 rq, I64 3, I64 0, SL aj nj cj, .bool th, U64 pv, U64 ep, I64 (kd), SL ai ni ci, SL sa ns sc, U64 bl] ++ cu8 tg ++ [SL aha nha cha, SL ahb nhb chb], 71, (0, 0)⟩, ⟨nb2, [.bool (itB (0:Int) (3:Int)), .bool (chB (0:Int) (3:Int) th), .bool (aB (0:Int) (3:Int) th), .bool (bB (0:Int) (3:Int) th)], 168, (0, 0)⟩, ⟨nb6, cu8 ((numK 8 rq 8) ++ ([(3:UInt8), 0])) ++ sp1, 5, (0, 0)⟩]) (fun _ => True) (fun _ => 1) () trivial (Sub.all rfl) rfl ?_
  rintro _ _
  show JC _ _ _ [(1, Ptr nb1 0), (2, SL none 0 0), (3, Ptr nb2 0), (4, Slc nb6 0 10 cp1), (5, I64 0)] [⟨nb1, [U64 rq, I64 3, I64 0, SL aj nj cj, .bool th, U64 pv, U64 ep, I64 (kd), SL ai ni ci, SL sa ns sc, U64 bl] ++ cu8 tg ++ [SL aha nha cha, SL ahb nhb chb], 71, (0, 0)⟩, ⟨nb2, [.bool (itB (0:Int) (3:Int)), .bool (chB (0:Int) (3:Int) th), .bool (aB (0:Int) (3:Int) th), .bool (bB (0:Int) (3:Int) th)], 168, (0, 0)⟩, ⟨nb6, cu8 ((numK 8 rq 8) ++ ([(3:UInt8), 0])) ++ sp1, 5, (0, 0)⟩]
  refine AK (AK (AD (AA _ (AL rfl) rfl ?_)))
  refine AA (Ptr nb1 3) (AB 3 69 1 AO rfl BQ rfl rfl) rfl ?_
  refine AA (SL aj nj cj) (AI rfl (AQ B9 (AS 0 rfl (AG (AG (AE (AE (AE (Seg.head))))))))) rfl ?_
  refine AA (I64 nj) (CY BM rfl) rfl ?_
  refine AA (.bool (decide ((0:Int) < ((nj:Int))))) (AU rfl rfl fun _ => CR _ _) rfl ?_
  refine AN (AF (BN _ rfl (decide_eq_false (by omega)) ?_))
  refine DU (A5 (A5 (CQ (AF (AK (AK (AD (AA (Ptr nb1 2) (AB 2 3 1 AO rfl AR rfl rfl) rfl ?_))))))))
  refine AA (I64 0) (AI rfl (AQ AT (AS 0 rfl (AG (AG (AE (AE (Seg.head)))))))) rfl ?_
  refine AA (.bool (decide ((0:Int) = (0:Int)))) (AU rfl rfl fun _ => BO _ _) rfl ?_
  refine AA _ (AL rfl) rfl ?_
  refine AP 3 64 true _ (Ptr nb1 1) rfl rfl (by decide) (AB 1 3 1 AO rfl AR rfl rfl) rfl ?_
  refine AP 3 64 true _ (I64 3) rfl rfl (by decide) (AI rfl (AQ AT (AS 0 rfl (AG (AG (AE (Seg.head))))))) rfl ?_
  refine AP 3 64 true _ (.bool (decide ((3:Int) = (4:Int)))) rfl rfl (by decide) (AU rfl rfl fun _ => BO _ _) rfl ?_
  refine AA _ (A2 _ rfl (by decide) rfl) rfl ?_
  refine AN (AF (BN _ rfl (by decide) ?_))
  refine BE (AF (AK (AK (AD (AA (Ptr nb2 1) (BZ 4 4 1 1 A8 BB rfl rfl (by omega) (by omega) (by omega)) rfl ?_)))))
  refine AA (.bool (chB (0:Int) (3:Int) th)) (AI rfl (AQ BD (AS 1 rfl (AE (Seg.head))))) rfl ?_
  refine AN (AF (BN _ rfl ((by decide +kernel : ∀ t : Bool, (chB (0:Int) (3:Int) t) = false) th) ?_))
  refine BE (AF (AK (AK (AD (AA (Ptr nb2 2) (BZ 4 4 1 2 A8 BB rfl rfl (by omega) (by omega) (by omega)) rfl ?_)))))
  refine AA (.bool (aB (0:Int) (3:Int) th)) (AI rfl (AQ BD (AS 1 rfl (AE (AE (Seg.head)))))) rfl ?_
  refine AN (AF (CO _ rfl ((by decide +kernel : ∀ t : Bool, (aB (0:Int) (3:Int) t) = true) th) ?_))
  refine AD (AA _ (AL rfl) rfl ?_)
  refine AA (Ptr nb1 27) (AB 27 65 1 AO rfl BR rfl rfl) rfl ?_
  refine AA (SL aha nha cha) (AI rfl (AQ BU (AS 0 rfl (Seg.right 27 0 (by simp [htg]) rfl (Seg.head))))) rfl ?_
  refine A9 (CB 106 _ [false, false, true] [nb6] _ (A6 [Slc nb6 0 10 cp1, SL aha nha cha] E1 rfl) rfl (fun w1 hw1 => FN nb6 10 cp1 (32*nha + 12) ((numK 8 rq 8) ++ ([(3:UInt8), 0])) sp1 aha nha cha xha w1 (hw1.ent _ (List.mem_of_getElem? (i := 2) rfl)) ha1 ha2 ha3 ha4 hlha (by omega) (by omega) (by omega) (hrha.at (M' := [nb6]) hw1 (hw1.apart [2] _ rfl)) (by omega) (by omega))) rfl ?_
  rintro v1 L1 ⟨_, ⟨nb7, sp2, cp2, rfl, rfl, hc1, hc2, hc3⟩, rfl⟩
  show JL _ _ _ _ ((87, Slc nb7 0 (32*nha + 12) cp2) :: _) [_, _, ⟨nb7, cu8 ((((numK 8 rq 8) ++ ([(3:UInt8), 0])) ++ numK 2 (UInt64.ofNat nha) 2) ++ xha) ++ sp2, 5, (0, 0)⟩]
  refine AA _ (AH rfl) rfl ?_
  refine AN (AF (AK (AK (AD (AA (Ptr nb2 3) (BZ 4 4 1 3 A8 BB rfl rfl (by omega) (by omega) (by omega)) rfl ?_)))))
  refine AA (.bool (bB (0:Int) (3:Int) th)) (AI rfl (AQ BD (AS 1 rfl (AE (AE (AE (Seg.head))))))) rfl ?_
  refine AN (AF (CO _ rfl ((by decide +kernel : ∀ t : Bool, (bB (0:Int) (3:Int) t) = true) th) ?_))
  refine AD (AA _ (AL rfl) rfl ?_)
  refine AA (Ptr nb1 28) (AB 28 65 1 AO rfl BR rfl rfl) rfl ?_
  refine AA (SL ahb nhb chb) (AI rfl (AQ BU (AS 0 rfl (Seg.right 27 1 (by simp [htg]) rfl (AE (Seg.head)))))) rfl ?_
  refine A9 (CB 106 _ [false, false, true] [nb7] _ (A6 [Slc nb7 0 (32*nha + 12) cp2, SL ahb nhb chb] E1 rfl) rfl (fun w1 hw1 => FN nb7 (32*nha + 12) cp2 (32*nha + 32*nhb + 14) ((((numK 8 rq 8) ++ ([(3:UInt8), 0])) ++ numK 2 (UInt64.ofNat nha) 2) ++ xha) sp2 ahb nhb chb xhb w1 (hw1.ent _ (List.mem_of_getElem? (i := 2) rfl)) (show ((((numK 8 rq 8) ++ ([(3:UInt8), 0])) ++ numK 2 (UInt64.ofNat nha) 2) ++ xha).length = (32*nha + 12) from (by rw [List.length_append, List.length_append, A4, ha1, hlha] <;> omega)) hc1 hc2 hc3 hlhb (by omega) (by omega) (by omega) (hrhb.at (M' := [nb7]) hw1 (hw1.apart [2] _ rfl)) (by omega) (by omega))) rfl ?_
  rintro v1 L1 ⟨_, ⟨nb8, sp3, cp3, rfl, rfl, hc4, hc5, hc6⟩, rfl⟩
  show JL _ _ _ _ ((93, Slc nb8 0 (32*nha + 32*nhb + 14) cp3) :: _) [_, _, ⟨nb8, cu8 ((((((numK 8 rq 8) ++ ([(3:UInt8), 0])) ++ numK 2 (UInt64.ofNat nha) 2) ++ xha) ++ numK 2 (UInt64.ofNat nhb) 2) ++ xhb) ++ sp3, 5, (0, 0)⟩]
  refine AA _ (AH rfl) rfl ?_
  refine AN (AF (AK (AD (AA _ (AL rfl) rfl ?_))))
  refine AA _ (AH rfl) rfl ?_
  refine AN (AF (BK (BP [false, false, true] ?_)))
  show JQ _ _ _ _ [_]
  refine BJ (Slc nb8 0 (32*nha + 32*nhb + 14) cp3) (res1 EK (BH rfl)) fun w1 hw1 => ?_
  have hq : (((((numK 8 rq 8) ++ ([(3:UInt8), 0])) ++ numK 2 (UInt64.ofNat nha) 2) ++ xha) ++ numK 2 (UInt64.ofNat nhb) 2) ++ xhb = (((((numK 8 rq 8 ++ numK 1 (3:UInt64) 1) ++ numK 1 (0:UInt64) 1) ++ numK 2 (UInt64.ofNat nha) 2) ++ xha) ++ numK 2 (UInt64.ofNat nhb) 2) ++ xhb := by simp [EX, nkL0, nkL3, ← FA, List.append_assoc]
  rw [hq] at hw1
  exact ⟨_, _, rfl, ⟨nb8, sp3, cp3, rfl, rfl, hc4, hc5, hc6⟩, hw1.sub (by simp) (by simp)⟩
 ·
  rintro v1 L1 ⟨nb4, hnb4, rfl, rfl⟩
  refine ⟨[], ?_⟩
  show DP _ _ _ _ _ _ _ _ [_, _, ⟨nb4, cu8 ([(3:UInt8), 0]), 5, (0, 0)⟩]
  refine CZ ⟨[9], [0, 1, 3, 4, 5, 6, 7, 8], [3, 4, 5, 6, 7, 8], [0, 1], [2]⟩ 2 _ rfl rfl (by decide +kernel) rfl ⟨⟨_, rfl, AJ rfl (AB 0 22 1 AO rfl AX rfl rfl)⟩, ⟨_, rfl, AJ rfl (AI rfl (AQ AY (AS 0 rfl (AG (AG (Seg.head))))))⟩, trivial⟩ rfl (BI rfl (CG 88 [U64 rq, I64 8] _ (A6 _ D8 rfl) (fun w1 hw1 => EU rq 8 w1 (by omega)))) ?_
  rintro v1 L1 ⟨_, ⟨nb9, rfl, rfl⟩, rfl⟩
  refine ⟨[], ?_⟩
  show DP _ _ _ _ _ _ _ _ [_, _, _, ⟨nb9, cu8 (numK 8 rq 8), 5, (0, 0)⟩]
  refine CZ ⟨[9, 2], [0, 1, 3, 4, 5, 6, 7, 8], [0, 1, 3, 4, 5, 6, 7, 8], [], [10]⟩ 10 _ rfl rfl (by decide +kernel) rfl trivial rfl (BI rfl (CP 43 5 [false, false, false, true] (Slc nb9 0 8 8) 8 (numK 8 rq 8) ([(3:UInt8), 0]) (some ⟨nb4, 0, none⟩) 2 2 10 AW CM rfl (.inr ⟨nb9, [], 8, rfl, (by simp [take?, cu8, cu32, cu64]), (by first | exact (show (numK 8 rq 8).length = 8 from A4 _ _ _) | simp [(show (numK 8 rq 8).length = 8 from A4 _ _ _)]), (by simp), (by omega), (by unfold maxLen; omega)⟩) rfl (by simp) (SrcAt.mem (AS 2 rfl (AV _))) (by omega) (by unfold maxLen; omega) (by omega))) ?_
  rintro v1 L1 ⟨nb10, sp4, cp4, hg2, rfl, rfl, ha5, ha6, ha7, ha8⟩
  refine ⟨[(11, Slc nb10 0 10 cp4)], ?_⟩
  show DP _ _ _ _ _ _ _ _ [_, _, _, ⟨nb10, cu8 ((numK 8 rq 8) ++ ([(3:UInt8), 0])) ++ sp4, 5, (0, 0)⟩]
  refine DN ⟨[9, 2, 10], [0, 1, 3, 4, 5, 6, 7, 8, 11], [0, 1, 3, 4, 5, 6, 7, 8], [11], []⟩ rfl rfl (by decide +kernel) rfl ⟨⟨_, rfl, AJ rfl (AH rfl)⟩, trivial⟩ ?_
  refine C7 (F' := [(4, Slc nb10 0 10 cp4), (1, Ptr nb1 0), (2, SL none 0 0), (3, Ptr nb2 0)]) (by kernel_rfl) ?_
  refine AF (AK (AK (AD (AA (Ptr nb2 0) (BZ 4 4 1 0 A8 BB rfl rfl (by omega) (by omega) (by omega)) rfl ?_))))
  refine AA (.bool (itB (0:Int) (3:Int))) (AI rfl (AQ BD (AS 1 rfl (Seg.head)))) rfl ?_
  refine AN (AF (BN _ rfl (by decide +kernel) ?_))
  refine BE (AF (AK (AK (AD (AA _ (AH rfl) rfl ?_)))))
  refine AN (AF (B2 (BP [true, true, false, true] ?_)))
  show JC _ _ _ _ [_, _, _]
  refine DV (ι := Unit) (fun _ => [(1, Ptr nb1 0), (2, SL none 0 0), (3, Ptr nb2 0), (4, Slc nb10 0 10 cp4), (5, I64 0)]) (fun _ => [⟨nb1, [U64 rq, I64 3, I64 0, SL aj nj cj, .bool th, U64 pv, U64 ep, I64 (kd), SL ai ni ci, SL sa ns sc, U64 bl] ++ cu8 tg ++ [SL aha nha cha, SL ahb nhb chb], 71, (0, 0)⟩, ⟨nb2, [.bool (itB (0:Int) (3:Int)), .bool (chB (0:Int) (3:Int) th), .bool (aB (0:Int) (3:Int) th), .bool (bB (0:Int) (3:Int) th)], 168, (0, 0)⟩, ⟨nb10, cu8 ((numK 8 rq 8) ++ ([(3:UInt8), 0])) ++ sp4, 5, (0, 0)⟩]) (fun _ => True) (fun _ => 1) () trivial (Sub.all rfl) rfl ?_
  rintro _ _
  show JC _ _ _ [(1, Ptr nb1 0), (2, SL none 0 0), (3, Ptr nb2 0), (4, Slc nb10 0 10 cp4), (5, I64 0)] [⟨nb1, [U64 rq, I64 3, I64 0, SL aj nj cj, .bool th, U64 pv, U64 ep, I64 (kd), SL ai ni ci, SL sa ns sc, U64 bl] ++ cu8 tg ++ [SL aha nha cha, SL ahb nhb chb], 71, (0, 0)⟩, ⟨nb2, [.bool (itB (0:Int) (3:Int)), .bool (chB (0:Int) (3:Int) th), .bool (aB (0:Int) (3:Int) th), .bool (bB (0:Int) (3:Int) th)], 168, (0, 0)⟩, ⟨nb10, cu8 ((numK 8 rq 8) ++ ([(3:UInt8), 0])) ++ sp4, 5, (0, 0)⟩]
  refine AK (AK (AD (AA _ (AL rfl) rfl ?_)))
  refine AA (Ptr nb1 3) (AB 3 69 1 AO rfl BQ rfl rfl) rfl ?_
  refine AA (SL aj nj cj) (AI rfl (AQ B9 (AS 0 rfl (AG (AG (AE (AE (AE (Seg.head))))))))) rfl ?_
  refine AA (I64 nj) (CY BM rfl) rfl ?_
  refine AA (.bool (decide ((0:Int) < ((nj:Int))))) (AU rfl rfl fun _ => CR _ _) rfl ?_
  refine AN (AF (BN _ rfl (decide_eq_false (by omega)) ?_))
  refine DU (A5 (A5 (CQ (AF (AK (AK (AD (AA (Ptr nb1 2) (AB 2 3 1 AO rfl AR rfl rfl) rfl ?_))))))))
  refine AA (I64 0) (AI rfl (AQ AT (AS 0 rfl (AG (AG (AE (AE (Seg.head)))))))) rfl ?_
  refine AA (.bool (decide ((0:Int) = (0:Int)))) (AU rfl rfl fun _ => BO _ _) rfl ?_
  refine AA _ (AL rfl) rfl ?_
  refine AP 3 64 true _ (Ptr nb1 1) rfl rfl (by decide) (AB 1 3 1 AO rfl AR rfl rfl) rfl ?_
  refine AP 3 64 true _ (I64 3) rfl rfl (by decide) (AI rfl (AQ AT (AS 0 rfl (AG (AG (AE (Seg.head))))))) rfl ?_
  refine AP 3 64 true _ (.bool (decide ((3:Int) = (4:Int)))) rfl rfl (by decide) (AU rfl rfl fun _ => BO _ _) rfl ?_
  refine AA _ (A2 _ rfl (by decide) rfl) rfl ?_
  refine AN (AF (BN _ rfl (by decide) ?_))
  refine BE (AF (AK (AK (AD (AA (Ptr nb2 1) (BZ 4 4 1 1 A8 BB rfl rfl (by omega) (by omega) (by omega)) rfl ?_)))))
  refine AA (.bool (chB (0:Int) (3:Int) th)) (AI rfl (AQ BD (AS 1 rfl (AE (Seg.head))))) rfl ?_
  refine AN (AF (BN _ rfl ((by decide +kernel : ∀ t : Bool, (chB (0:Int) (3:Int) t) = false) th) ?_))
  refine BE (AF (AK (AK (AD (AA (Ptr nb2 2) (BZ 4 4 1 2 A8 BB rfl rfl (by omega) (by omega) (by omega)) rfl ?_)))))
  refine AA (.bool (aB (0:Int) (3:Int) th)) (AI rfl (AQ BD (AS 1 rfl (AE (AE (Seg.head)))))) rfl ?_
  refine AN (AF (CO _ rfl ((by decide +kernel : ∀ t : Bool, (aB (0:Int) (3:Int) t) = true) th) ?_))
  refine AD (AA _ (AL rfl) rfl ?_)
  refine AA (Ptr nb1 27) (AB 27 65 1 AO rfl BR rfl rfl) rfl ?_
  refine AA (SL aha nha cha) (AI rfl (AQ BU (AS 0 rfl (Seg.right 27 0 (by simp [htg]) rfl (Seg.head))))) rfl ?_
  refine A9 (CB 106 _ [false, false, true] [nb10] _ (A6 [Slc nb10 0 10 cp4, SL aha nha cha] E1 rfl) rfl (fun w1 hw1 => FN nb10 10 cp4 (32*nha + 12) ((numK 8 rq 8) ++ ([(3:UInt8), 0])) sp4 aha nha cha xha w1 (hw1.ent _ (List.mem_of_getElem? (i := 2) rfl)) ha5 ha6 ha7 ha8 hlha (by omega) (by omega) (by omega) (hrha.at (M' := [nb10]) hw1 (hw1.apart [2] _ rfl)) (by omega) (by omega))) rfl ?_
  rintro v1 L1 ⟨_, ⟨nb11, sp5, cp5, rfl, rfl, hc7, hc8, hc9⟩, rfl⟩
  show JL _ _ _ _ ((87, Slc nb11 0 (32*nha + 12) cp5) :: _) [_, _, ⟨nb11, cu8 ((((numK 8 rq 8) ++ ([(3:UInt8), 0])) ++ numK 2 (UInt64.ofNat nha) 2) ++ xha) ++ sp5, 5, (0, 0)⟩]
  refine AA _ (AH rfl) rfl ?_
  refine AN (AF (AK (AK (AD (AA (Ptr nb2 3) (BZ 4 4 1 3 A8 BB rfl rfl (by omega) (by omega) (by omega)) rfl ?_)))))
  refine AA (.bool (bB (0:Int) (3:Int) th)) (AI rfl (AQ BD (AS 1 rfl (AE (AE (AE (Seg.head))))))) rfl ?_
  refine AN (AF (CO _ rfl ((by decide +kernel : ∀ t : Bool, (bB (0:Int) (3:Int) t) = true) th) ?_))
  refine AD (AA _ (AL rfl) rfl ?_)
  refine AA (Ptr nb1 28) (AB 28 65 1 AO rfl BR rfl rfl) rfl ?_
  refine AA (SL ahb nhb chb) (AI rfl (AQ BU (AS 0 rfl (Seg.right 27 1 (by simp [htg]) rfl (AE (Seg.head)))))) rfl ?_
  refine A9 (CB 106 _ [false, false, true] [nb11] _ (A6 [Slc nb11 0 (32*nha + 12) cp5, SL ahb nhb chb] E1 rfl) rfl (fun w1 hw1 => FN nb11 (32*nha + 12) cp5 (32*nha + 32*nhb + 14) ((((numK 8 rq 8) ++ ([(3:UInt8), 0])) ++ numK 2 (UInt64.ofNat nha) 2) ++ xha) sp5 ahb nhb chb xhb w1 (hw1.ent _ (List.mem_of_getElem? (i := 2) rfl)) (show ((((numK 8 rq 8) ++ ([(3:UInt8), 0])) ++ numK 2 (UInt64.ofNat nha) 2) ++ xha).length = (32*nha + 12) from (by rw [List.length_append, List.length_append, A4, ha5, hlha] <;> omega)) hc7 hc8 hc9 hlhb (by omega) (by omega) (by omega) (hrhb.at (M' := [nb11]) hw1 (hw1.apart [2] _ rfl)) (by omega) (by omega))) rfl ?_
  rintro v1 L1 ⟨_, ⟨nb12, sp6, cp6, rfl, rfl, hc10, hc11, hc12⟩, rfl⟩
  show JL _ _ _ _ ((93, Slc nb12 0 (32*nha + 32*nhb + 14) cp6) :: _) [_, _, ⟨nb12, cu8 ((((((numK 8 rq 8) ++ ([(3:UInt8), 0])) ++ numK 2 (UInt64.ofNat nha) 2) ++ xha) ++ numK 2 (UInt64.ofNat nhb) 2) ++ xhb) ++ sp6, 5, (0, 0)⟩]
  refine AA _ (AH rfl) rfl ?_
  refine AN (AF (AK (AD (AA _ (AL rfl) rfl ?_))))
  refine AA _ (AH rfl) rfl ?_
  refine AN (AF (BK (BP [false, false, true] ?_)))
  show JQ _ _ _ _ [_]
  refine BJ (Slc nb12 0 (32*nha + 32*nhb + 14) cp6) (res1 EK (BH rfl)) fun w1 hw1 => ?_
  have hq : (((((numK 8 rq 8) ++ ([(3:UInt8), 0])) ++ numK 2 (UInt64.ofNat nha) 2) ++ xha) ++ numK 2 (UInt64.ofNat nhb) 2) ++ xhb = (((((numK 8 rq 8 ++ numK 1 (3:UInt64) 1) ++ numK 1 (0:UInt64) 1) ++ numK 2 (UInt64.ofNat nha) 2) ++ xha) ++ numK 2 (UInt64.ofNat nhb) 2) ++ xhb := by simp [EX, nkL0, nkL3, ← FA, List.append_assoc]
  rw [hq] at hw1
  exact ⟨_, _, rfl, ⟨nb12, sp6, cp6, rfl, rfl, hc10, hc11, hc12⟩, hw1.sub (by simp) (by simp)⟩
set_option maxHeartbeats 2000000 in
theorem rputRep4t_c (rq : UInt64) (aj : Option Addr) (nj cj : Nat) (lj : List ItemR) (pv ep : UInt64) (k : Nat) (ai : Option Addr) (ni ci : Nat) (l : List UInt64) (sa : Option Addr) (ns sc : Nat) (ls : List SealR) (bl : UInt64) (tg : List UInt8) (aha : Option Addr) (nha cha : Nat) (xha : List UInt8) (ahb : Option Addr) (nhb chb : Nat) (xhb : List UInt8) (tot : Nat)  (w : World) (hlj : lj.length = nj) (hnj : nj ≤ 2000000) (hdj : nj ≤ cj) (hcj : cj ≤ maxLen) (hj : RdV w aj (lj.flatMap itemC)) (hl : l.length = ni) (hnm : ni ≤ 2000000) (hnc : ni ≤ ci) (hcm : ci ≤ maxLen) (hv : RdV w ai (cu64 l)) (hls : ls.length = ns) (hnn : ns ≤ 2000000) (hnd : ns ≤ sc) (hcn : sc ≤ maxLen) (hs : RdV w sa (ls.flatMap sealC)) (htg : tg.length = 16) (hlha : xha.length = nha * 32) (hnha : nha ≤ 9000) (hdha : nha ≤ cha) (hcha : cha ≤ maxLen) (hrha : RdB w [] aha xha) (hlhb : xhb.length = nhb * 32) (hnhb : nhb ≤ 9000) (hdhb : nhb ≤ chb) (hchb : chb ≤ maxLen) (hrhb : RdB w [] ahb xhb) (hbi : ni ≤ 300) (hbs : ns ≤ 300) (hA : nha ≤ 300) (hB : nhb ≤ 300) (hR : repR (4:Int) (0:Int) true lj (blankB pv ep (k:Int) l ls bl tg) (decide (mayN pv ep (k:Int) l ls bl = 0)) nha nhb = true) (hmay : mayN pv ep (k:Int) l ls bl = 0) (hk : k = 1 ∨ k = 2 ∨ k = 3) (hsm : ns ≤ 300) (htot : tktN k ni ns = tot) (htb : tot ≤ 30000)  : Calls Tryd.prog 38 #[.agg ([U64 rq, I64 4, I64 0, SL aj nj cj, .bool true, U64 pv, U64 ep, I64 k, SL ai ni ci, SL sa ns sc, U64 bl] ++ cu8 tg ++ [SL aha nha cha, SL ahb nhb chb]).toArray] w (Post w [] (fun v L => ∃ g sp cap, v = Slc g 0 ((32*nha + 32*nhb + tot + 31)) cap ∧ L = [⟨g, cu8 ((((((((numK 8 rq 8 ++ numK 1 (4:UInt64) 1) ++ numK 1 (0:UInt64) 1) ++ numK 1 (bitU true) 1) ++ ((tktT pv ep k l ls bl) ++ tg)) ++ numK 2 (UInt64.ofNat nha) 2) ++ xha) ++ numK 2 (UInt64.ofNat nhb) 2) ++ xhb) ++ sp, 5, (0, 0)⟩] ∧ sp.length = cap - (32*nha + 32*nhb + tot + 31) ∧ (32*nha + 32*nhb + tot + 31) ≤ cap ∧ cap ≤ maxLen)) := by
 have hmx : maxLen = 9223372036854775807 := rfl
 have hf := repR_f hlj hR
 have hn0 := c2_len0 hlj (repR_2 hR (by decide +kernel))
 refine enter (P := Tryd.prog) (f := 38) (fn := Tryd.f38) w [] 95 [] [.agg ([U64 rq, I64 4, I64 0, SL aj nj cj, .bool true, U64 pv, U64 ep, I64 k, SL ai ni ci, SL sa ns sc, U64 bl] ++ cu8 tg ++ [SL aha nha cha, SL ahb nhb chb]).toArray] Tryd.func38 rfl rfl (by simp) (CC (by simp) (by simp) (by simp)) ?_
 show JC _ _ _ [(0, .agg ([U64 rq, I64 4, I64 0, SL aj nj cj, .bool true, U64 pv, U64 ep, I64 k, SL ai ni ci, SL sa ns sc, U64 bl] ++ cu8 tg ++ [SL aha nha cha, SL ahb nhb chb]).toArray)] _
 refine AK (AD (A9 (CL (.agg ([U64 rq, I64 4, I64 0, SL aj nj cj, .bool true, U64 pv, U64 ep, I64 k, SL ai ni ci, SL sa ns sc, U64 bl] ++ cu8 tg ++ [SL aha nha cha, SL ahb nhb chb]).toArray) ([U64 rq, I64 4, I64 0, SL aj nj cj, .bool true, U64 pv, U64 ep, I64 k, SL ai ni ci, SL sa ns sc, U64 bl] ++ cu8 tg ++ [SL aha nha cha, SL ahb nhb chb]) rfl (by first | rfl | simp)) rfl ?_))
 rintro v1 L1 ⟨nb1, hnb1, rfl, rfl⟩
 show JL _ _ _ _ ((1, Ptr nb1 0) :: _) [⟨nb1, [U64 rq, I64 4, I64 0, SL aj nj cj, .bool true, U64 pv, U64 ep, I64 k, SL ai ni ci, SL sa ns sc, U64 bl] ++ cu8 tg ++ [SL aha nha cha, SL ahb nhb chb], 71, (0, 0)⟩]
 refine AA _ (AH rfl) rfl ?_
 refine AN (AF (AK (AD (AA (.agg ([U64 rq, I64 4, I64 0, SL aj nj cj, .bool true, U64 pv, U64 ep, I64 k, SL ai ni ci, SL sa ns sc, U64 bl] ++ cu8 tg ++ [SL aha nha cha, SL ahb nhb chb]).toArray) (AI rfl (BV DR C2 (by simp [htg]) (AS 0 rfl (AV _)))) rfl ?_))))
 refine B1 (BG 94 [.agg ([U64 rq, I64 4, I64 0, SL aj nj cj, .bool true, U64 pv, U64 ep, I64 k, SL ai ni ci, SL sa ns sc, U64 bl] ++ cu8 tg ++ [SL aha nha cha, SL ahb nhb chb]).toArray] (.agg #[.bool (itB (0:Int) (4:Int)), .bool (chB (0:Int) (4:Int) true), .bool (aB (0:Int) (4:Int) true), .bool (bB (0:Int) (4:Int) true)]) (A6 _ Tryd.call94 rfl) (fun w1 hw1 => has_c rq (4:Int) (0:Int) aj nj cj lj true pv ep ((k:Int)) ai ni ci l sa ns sc ls bl tg aha nha cha xha ahb nhb chb xhb w1 htg)) rfl ?_
 show JL _ _ _ _ ((7, .agg #[.bool (itB (0:Int) (4:Int)), .bool (chB (0:Int) (4:Int) true), .bool (aB (0:Int) (4:Int) true), .bool (bB (0:Int) (4:Int) true)]) :: _) [_]
 refine A9 (DI _ ([.bool false, .bool false, .bool false, .bool false]) EY (by kernel_rfl)) rfl ?_
 rintro v1 L1 ⟨nb2, hnb2, rfl, rfl⟩
 show JL _ _ _ _ ((3, Ptr nb2 0) :: _) [_, ⟨nb2, [.bool false, .bool false, .bool false, .bool false], 168, (0, 0)⟩]
 refine B1 (CW 1 nb2 4 ([.bool false, .bool false, .bool false, .bool false]) 168 ([.bool (itB (0:Int) (4:Int)), .bool (chB (0:Int) (4:Int) true), .bool (aB (0:Int) (4:Int) true), .bool (bB (0:Int) (4:Int) true)]) rfl rfl rfl DT rfl (by simp [Value.oneCell']) (Nat.le_of_ble_eq_true rfl) (DC (by simp []))) rfl ?_
 show JL _ _ _ _ _ [_, ⟨nb2, [.bool (itB (0:Int) (4:Int)), .bool (chB (0:Int) (4:Int) true), .bool (aB (0:Int) (4:Int) true), .bool (bB (0:Int) (4:Int) true)], 168, (0, 0)⟩]
 refine AN (AF (AK (DH 95 4 [(0, Ptr nb1 0), (1, U64 rq), (3, Ptr nb1 1), (4, I64 4), (5, U8 4), (6, Ptr nb1 2), (7, I64 0), (8, U8 0)] B8 rfl (by decide +kernel) ?_)))
 refine DP_two ⟨[], [0, 1, 3, 4, 5, 6, 7, 8], [], [0, 1, 3, 4, 5, 6, 7, 8], [2, 9]⟩ 2 9 _ _ rfl rfl (by decide +kernel) rfl ⟨⟨_, rfl, AJ rfl (AB 0 22 1 AO rfl AX rfl rfl)⟩, ⟨_, rfl, AJ rfl (AI rfl (AQ AY (AS 0 rfl (AG (AG (Seg.head))))))⟩, ⟨_, rfl, AJ rfl (AB 1 3 1 AO rfl AR rfl rfl)⟩, ⟨_, rfl, AJ rfl (AI rfl (AQ AT (AS 0 rfl (AG (AG (AE (Seg.head)))))))⟩, ⟨_, rfl, AJ rfl (CX _ _ rfl fun _ => DA (by rw [AZ]; rfl) BA rfl)⟩, ⟨_, rfl, AJ rfl (AB 2 3 1 AO rfl AR rfl rfl)⟩, ⟨_, rfl, AJ rfl (AI rfl (AQ AT (AS 0 rfl (AG (AG (AE (AE (Seg.head))))))))⟩, ⟨_, rfl, AJ rfl (CX _ _ rfl fun _ => DA (by rw [AZ]; rfl) BA rfl)⟩, trivial⟩ rfl rfl (BI rfl (CG 88 [U64 rq, I64 8] _ (A6 _ D8 rfl) (fun w1 hw1 => EU rq 8 w1 (by omega)))) (BI rfl (B3 5 1 _ [(0, U8 4), (1, U8 0)] (cu8 ([(4:UInt8), 0])) AW B5 CE rfl rfl rfl (by kernel_rfl))) ?_ ?_
 ·
  rintro v1 L1 ⟨_, ⟨nb3, rfl, rfl⟩, rfl⟩
  refine ⟨[], ?_⟩
  show DP _ _ _ _ _ _ _ _ [_, _, ⟨nb3, cu8 (numK 8 rq 8), 5, (0, 0)⟩]
  refine CZ ⟨[2], [0, 1, 3, 4, 5, 6, 7, 8], [0, 1], [3, 4, 5, 6, 7, 8], [9]⟩ 9 _ rfl rfl (by decide +kernel) rfl ⟨⟨_, rfl, AJ rfl (AB 1 3 1 AO rfl AR rfl rfl)⟩, ⟨_, rfl, AJ rfl (AI rfl (AQ AT (AS 0 rfl (AG (AG (AE (Seg.head)))))))⟩, ⟨_, rfl, AJ rfl (CX _ _ rfl fun _ => DA (by rw [AZ]; rfl) BA rfl)⟩, ⟨_, rfl, AJ rfl (AB 2 3 1 AO rfl AR rfl rfl)⟩, ⟨_, rfl, AJ rfl (AI rfl (AQ AT (AS 0 rfl (AG (AG (AE (AE (Seg.head))))))))⟩, ⟨_, rfl, AJ rfl (CX _ _ rfl fun _ => DA (by rw [AZ]; rfl) BA rfl)⟩, trivial⟩ rfl (BI rfl (B3 5 1 _ [(0, U8 4), (1, U8 0)] (cu8 ([(4:UInt8), 0])) AW B5 CE rfl rfl rfl (by kernel_rfl))) ?_
  rintro v1 L1 ⟨nb5, hnb5, rfl, rfl⟩
  refine ⟨[], ?_⟩
  show DP _ _ _ _ _ _ _ _ [_, _, _, ⟨nb5, cu8 ([(4:UInt8), 0]), 5, (0, 0)⟩]
  refine CZ ⟨[2, 9], [0, 1, 3, 4, 5, 6, 7, 8], [0, 1, 3, 4, 5, 6, 7, 8], [], [10]⟩ 10 _ rfl rfl (by decide +kernel) rfl trivial rfl (BI rfl (CP 43 5 [false, false, true, false] (Slc nb3 0 8 8) 8 (numK 8 rq 8) ([(4:UInt8), 0]) (some ⟨nb5, 0, none⟩) 2 2 10 AW CM rfl (.inr ⟨nb3, [], 8, rfl, (by simp [take?, cu8, cu32, cu64]), (by first | exact (show (numK 8 rq 8).length = 8 from A4 _ _ _) | simp [(show (numK 8 rq 8).length = 8 from A4 _ _ _)]), (by simp), (by omega), (by unfold maxLen; omega)⟩) rfl (by simp) (SrcAt.mem (AS 3 rfl (AV _))) (by omega) (by unfold maxLen; omega) (by omega))) ?_
  rintro v1 L1 ⟨nb6, sp1, cp1, hg1, rfl, rfl, ha1, ha2, ha3, ha4⟩
  refine ⟨[(11, Slc nb6 0 10 cp1)], ?_⟩
  show DP _ _ _ _ _ _ _ _ [_, _, _, ⟨nb6, cu8 ((numK 8 rq 8) ++ ([(4:UInt8), 0])) ++ sp1, 5, (0, 0)⟩]
  refine DN ⟨[2, 9, 10], [0, 1, 3, 4, 5, 6, 7, 8, 11], [0, 1, 3, 4, 5, 6, 7, 8], [11], []⟩ rfl rfl (by decide +kernel) rfl ⟨⟨_, rfl, AJ rfl (AH rfl)⟩, trivial⟩ ?_
  refine C7 (F' := [(4, Slc nb6 0 10 cp1), (1, Ptr nb1 0), (2, SL none 0 0), (3, Ptr nb2 0)]) (by kernel_rfl) ?_
  refine AF (AK (AK (AD (AA (Ptr nb2 0) (BZ 4 4 1 0 A8 BB rfl rfl (by omega) (by omega) (by omega)) rfl ?_))))
  refine AA (.bool (itB (0:Int) (4:Int))) (AI rfl (AQ BD (AS 1 rfl (Seg.head)))) rfl ?_
  refine AN (AF (BN _ rfl (by decide +kernel) ?_))
  refine BE (AF (AK (AK (AD (AA _ (AH rfl) rfl ?_)))))
  refine AN (AF (B2 (BP [true, true, false, true] ?_)))
  show JC _ _ _ _ [_, _, _]
  refine DV (ι := Unit) (fun _ => [(1, Ptr nb1 0), (2, SL none 0 0), (3, Ptr nb2 0), (4, Slc nb6 0 10 cp1), (5, I64 0)]) (fun _ => [⟨nb1, [U64 rq, I64 4, I64 0, SL aj nj cj, .bool true, U64 pv, U64 ep, I64 k, SL ai ni ci, SL sa ns sc, U64 bl] ++ cu8 tg ++ [SL aha nha cha, SL ahb nhb chb], 71, (0, 0)⟩, ⟨nb2, [.bool (itB (0:Int) (4:Int)), .bool (chB (0:Int) (4:Int) true), .bool (aB (0:Int) (4:Int) true), .bool (bB (0:Int) (4:Int) true)], 168, (0, 0)⟩, ⟨nb6, cu8 ((numK 8 rq 8) ++ ([(4:UInt8), 0])) ++ sp1, 5, (0, 0)⟩]) (fun _ => True) (fun _ => 1) () trivial (Sub.all rfl) rfl ?_
  rintro _ _
  show JC _ _ _ [(1, Ptr nb1 0), (2, SL none 0 0), (3, Ptr nb2 0), (4, Slc nb6 0 10 cp1), (5, I64 0)] [⟨nb1, [U64 rq, I64 4, I64 0, SL aj nj cj, .bool true, U64 pv, U64 ep, I64 k, SL ai ni ci, SL sa ns sc, U64 bl] ++ cu8 tg ++ [SL aha nha cha, SL ahb nhb chb], 71, (0, 0)⟩, ⟨nb2, [.bool (itB (0:Int) (4:Int)), .bool (chB (0:Int) (4:Int) true), .bool (aB (0:Int) (4:Int) true), .bool (bB (0:Int) (4:Int) true)], 168, (0, 0)⟩, ⟨nb6, cu8 ((numK 8 rq 8) ++ ([(4:UInt8), 0])) ++ sp1, 5, (0, 0)⟩]
  refine AK (AK (AD (AA _ (AL rfl) rfl ?_)))
  refine AA (Ptr nb1 3) (AB 3 69 1 AO rfl BQ rfl rfl) rfl ?_
  refine AA (SL aj nj cj) (AI rfl (AQ B9 (AS 0 rfl (AG (AG (AE (AE (AE (Seg.head))))))))) rfl ?_
  refine AA (I64 nj) (CY BM rfl) rfl ?_
  refine AA (.bool (decide ((0:Int) < ((nj:Int))))) (AU rfl rfl fun _ => CR _ _) rfl ?_
  refine AN (AF (BN _ rfl (decide_eq_false (by omega)) ?_))
  refine DU (A5 (A5 (CQ (AF (AK (AK (AD (AA (Ptr nb1 2) (AB 2 3 1 AO rfl AR rfl rfl) rfl ?_))))))))
  refine AA (I64 0) (AI rfl (AQ AT (AS 0 rfl (AG (AG (AE (AE (Seg.head)))))))) rfl ?_
  refine AA (.bool (decide ((0:Int) = (0:Int)))) (AU rfl rfl fun _ => BO _ _) rfl ?_
  refine AA _ (AL rfl) rfl ?_
  refine AP 3 64 true _ (Ptr nb1 1) rfl rfl (by decide) (AB 1 3 1 AO rfl AR rfl rfl) rfl ?_
  refine AP 3 64 true _ (I64 4) rfl rfl (by decide) (AI rfl (AQ AT (AS 0 rfl (AG (AG (AE (Seg.head))))))) rfl ?_
  refine AP 3 64 true _ (.bool (decide ((4:Int) = (4:Int)))) rfl rfl (by decide) (AU rfl rfl fun _ => BO _ _) rfl ?_
  refine AA _ (A2 _ rfl (by decide) rfl) rfl ?_
  refine AN (AF (CO _ rfl (by decide) ?_))
  refine AD (AA _ (AL rfl) rfl ?_)
  refine AA (Ptr nb1 4) (AB 4 4 1 AO rfl BB rfl rfl) rfl ?_
  refine AA (.bool true) (AI rfl (AQ BD (AS 0 rfl (AG (AG (AE (AE (AE (AE (Seg.head)))))))))) rfl ?_
  refine B1 (BG 104 [.bool true] (U8 (if true then 1 else 0)) (A6 _ Tryd.call104 rfl) (fun w1 hw1 => rflag14_c true w1 )) rfl ?_
  show JL _ _ _ _ ((72, U8 (if true then 1 else 0)) :: _) [_, _, _]
  refine A9 (B3 5 1 _ [(0, U8 (if true then 1 else 0))] (cu8 ([if true then 1 else 0])) AW B5 CE rfl rfl rfl (by kernel_rfl)) rfl ?_
  rintro v1 L1 ⟨nb7, hnb7, rfl, rfl⟩
  show JL _ _ _ _ ((73, Slc nb7 0 1 1) :: _) [_, _, _, ⟨nb7, cu8 ([if true then 1 else 0]), 5, (0, 0)⟩]
  refine A9 (CP 43 5 [false, false, true, false] (Slc nb6 0 10 cp1) 10 ((numK 8 rq 8) ++ ([(4:UInt8), 0])) ([if true then 1 else 0]) (some ⟨nb7, 0, none⟩) 1 1 11 AW CM rfl (.inr ⟨nb6, sp1, cp1, rfl, rfl, (by first | exact ha1 | simp [ha1]), ha2, (by omega), (by omega)⟩) rfl (by simp) (SrcAt.mem (AS 3 rfl (AV _))) (by omega) (by unfold maxLen; omega) (by omega)) rfl ?_
  rintro v1 L1 ⟨nb8, sp2, cp2, hg2, rfl, rfl, ha5, ha6, ha7, ha8⟩
  show JL _ _ _ _ ((74, Slc nb8 0 11 cp2) :: _) [_, _, _, ⟨nb8, cu8 (((numK 8 rq 8) ++ ([(4:UInt8), 0])) ++ ([if true then 1 else 0])) ++ sp2, 5, (0, 0)⟩]
  refine AA _ (AH rfl) rfl ?_
  refine AN (AF (AK (AK (AD (AA (Ptr nb2 1) (BZ 4 4 1 1 A8 BB rfl rfl (by omega) (by omega) (by omega)) rfl ?_)))))
  refine AA (.bool (chB (0:Int) (4:Int) true)) (AI rfl (AQ BD (AS 1 rfl (AE (Seg.head))))) rfl ?_
  refine AN (AF (CO _ rfl (by decide +kernel) ?_))
  refine AD (AA _ (AL rfl) rfl ?_)
  refine AA (Ptr nb1 5) (AB 5 38 22 AO rfl D6 rfl rfl) rfl ?_
  refine AA (.agg ([U64 pv, U64 ep, I64 k, SL ai ni ci, SL sa ns sc, U64 bl] ++ cu8 tg).toArray) (AI rfl (BV Tryd.isAgg38 D6 (by simp [htg]) (AS 0 rfl (C6 (p := [U64 rq, I64 4, I64 0, SL aj nj cj, .bool true]) (q := [SL aha nha cha, SL ahb nhb chb]) (vs := [U64 pv, U64 ep, I64 k, SL ai ni ci, SL sa ns sc, U64 bl] ++ cu8 tg) (by first | rfl | (simp only [List.append_assoc, List.nil_append, List.append_nil, List.cons_append]; done)) rfl)))) rfl ?_
  refine A9 (CG 52 [.agg ([U64 pv, U64 ep, I64 k, SL ai ni ci, SL sa ns sc, U64 bl] ++ cu8 tg).toArray] _ (A6 _ Tryd.call52 rfl) (fun w1 hw1 => rput13_c pv ep k ai ni ci l sa ns sc ls bl tg tot w1 hl (by omega) (by omega) (by omega) (CA hw1 rfl hv) hls (by omega) (by omega) (by omega) (CA hw1 rfl hs) htg hmay hk hsm htot (by omega))) rfl ?_
  rintro v1 L1 ⟨_, ⟨nb9, sp3, cp3, rfl, rfl, hc1, hc2, hc3⟩, rfl⟩
  show JL _ _ _ _ ((80, Slc nb9 0 (tot + 16) cp3) :: _) [_, _, _, _, ⟨nb9, cu8 ((tktT pv ep k l ls bl) ++ tg) ++ sp3, 5, (0, 0)⟩]
  refine A9 (CP 43 5 [false, false, false, true, false] (Slc nb8 0 11 cp2) 11 (((numK 8 rq 8) ++ ([(4:UInt8), 0])) ++ ([if true then 1 else 0])) ((tktT pv ep k l ls bl) ++ tg) (some ⟨nb9, 0, none⟩) (tot + 16) cp3 (tot + 27) AW CM rfl (.inr ⟨nb8, sp2, cp2, rfl, rfl, (by first | exact ha5 | simp [ha5]), ha6, (by omega), (by omega)⟩) rfl (by first | exact (show ((tktT pv ep k l ls bl) ++ tg).length = (tot + 16) from (by rw [List.length_append, ((FG hl hls).trans htot), htg])) | simp [(show ((tktT pv ep k l ls bl) ++ tg).length = (tot + 16) from (by rw [List.length_append, ((FG hl hls).trans htot), htg]))]; try omega) (SrcAt.mem (AS 4 rfl (AG (AV _)))) (by omega) (by unfold maxLen; omega) (by omega)) rfl ?_
  rintro v1 L1 ⟨nb10, sp4, cp4, hg3, rfl, rfl, ha9, ha10, ha11, ha12⟩
  show JL _ _ _ _ ((81, Slc nb10 0 (tot + 27) cp4) :: _) [_, _, _, _, ⟨nb10, cu8 ((((numK 8 rq 8) ++ ([(4:UInt8), 0])) ++ ([if true then 1 else 0])) ++ ((tktT pv ep k l ls bl) ++ tg)) ++ sp4, 5, (0, 0)⟩]
  refine AA _ (AH rfl) rfl ?_
  refine AN (AF (AK (AK (AD (AA (Ptr nb2 2) (BZ 4 4 1 2 A8 BB rfl rfl (by omega) (by omega) (by omega)) rfl ?_)))))
  refine AA (.bool (aB (0:Int) (4:Int) true)) (AI rfl (AQ BD (AS 1 rfl (AE (AE (Seg.head)))))) rfl ?_
  refine AN (AF (CO _ rfl (by decide +kernel) ?_))
  refine AD (AA _ (AL rfl) rfl ?_)
  refine AA (Ptr nb1 27) (AB 27 65 1 AO rfl BR rfl rfl) rfl ?_
  refine AA (SL aha nha cha) (AI rfl (AQ BU (AS 0 rfl (Seg.right 27 0 (by simp [htg]) rfl (Seg.head))))) rfl ?_
  refine A9 (CB 106 _ [false, false, false, false, true] [nb10] _ (A6 [Slc nb10 0 (tot + 27) cp4, SL aha nha cha] E1 rfl) rfl (fun w1 hw1 => FN nb10 (tot + 27) cp4 (32*nha + tot + 29) ((((numK 8 rq 8) ++ ([(4:UInt8), 0])) ++ ([if true then 1 else 0])) ++ ((tktT pv ep k l ls bl) ++ tg)) sp4 aha nha cha xha w1 (hw1.ent _ (List.mem_of_getElem? (i := 4) rfl)) ha9 ha10 ha11 ha12 hlha (by omega) (by omega) (by omega) (hrha.at (M' := [nb10]) hw1 (hw1.apart [4] _ rfl)) (by omega) (by omega))) rfl ?_
  rintro v1 L1 ⟨_, ⟨nb11, sp5, cp5, rfl, rfl, hc4, hc5, hc6⟩, rfl⟩
  show JL _ _ _ _ ((87, Slc nb11 0 (32*nha + tot + 29) cp5) :: _) [_, _, _, _, ⟨nb11, cu8 ((((((numK 8 rq 8) ++ ([(4:UInt8), 0])) ++ ([if true then 1 else 0])) ++ ((tktT pv ep k l ls bl) ++ tg)) ++ numK 2 (UInt64.ofNat nha) 2) ++ xha) ++ sp5, 5, (0, 0)⟩]
  refine AA _ (AH rfl) rfl ?_
  refine AN (AF (AK (AK (AD (AA (Ptr nb2 3) (BZ 4 4 1 3 A8 BB rfl rfl (by omega) (by omega) (by omega)) rfl ?_)))))
  refine AA (.bool (bB (0:Int) (4:Int) true)) (AI rfl (AQ BD (AS 1 rfl (AE (AE (AE (Seg.head))))))) rfl ?_
  refine AN (AF (CO _ rfl (by decide +kernel) ?_))
  refine AD (AA _ (AL rfl) rfl ?_)
  refine AA (Ptr nb1 28) (AB 28 65 1 AO rfl BR rfl rfl) rfl ?_
  refine AA (SL ahb nhb chb) (AI rfl (AQ BU (AS 0 rfl (Seg.right 27 1 (by simp [htg]) rfl (AE (Seg.head)))))) rfl ?_
  refine A9 (CB 106 _ [false, false, false, false, true] [nb11] _ (A6 [Slc nb11 0 (32*nha + tot + 29) cp5, SL ahb nhb chb] E1 rfl) rfl (fun w1 hw1 => FN nb11 (32*nha + tot + 29) cp5 (32*nha + 32*nhb + tot + 31) ((((((numK 8 rq 8) ++ ([(4:UInt8), 0])) ++ ([if true then 1 else 0])) ++ ((tktT pv ep k l ls bl) ++ tg)) ++ numK 2 (UInt64.ofNat nha) 2) ++ xha) sp5 ahb nhb chb xhb w1 (hw1.ent _ (List.mem_of_getElem? (i := 4) rfl)) (show ((((((numK 8 rq 8) ++ ([(4:UInt8), 0])) ++ ([if true then 1 else 0])) ++ ((tktT pv ep k l ls bl) ++ tg)) ++ numK 2 (UInt64.ofNat nha) 2) ++ xha).length = (32*nha + tot + 29) from (by rw [List.length_append, List.length_append, A4, ha9, hlha] <;> omega)) hc4 hc5 hc6 hlhb (by omega) (by omega) (by omega) (hrhb.at (M' := [nb11]) hw1 (hw1.apart [4] _ rfl)) (by omega) (by omega))) rfl ?_
  rintro v1 L1 ⟨_, ⟨nb12, sp6, cp6, rfl, rfl, hc7, hc8, hc9⟩, rfl⟩
  show JL _ _ _ _ ((93, Slc nb12 0 (32*nha + 32*nhb + tot + 31) cp6) :: _) [_, _, _, _, ⟨nb12, cu8 ((((((((numK 8 rq 8) ++ ([(4:UInt8), 0])) ++ ([if true then 1 else 0])) ++ ((tktT pv ep k l ls bl) ++ tg)) ++ numK 2 (UInt64.ofNat nha) 2) ++ xha) ++ numK 2 (UInt64.ofNat nhb) 2) ++ xhb) ++ sp6, 5, (0, 0)⟩]
  refine AA _ (AH rfl) rfl ?_
  refine AN (AF (AK (AD (AA _ (AL rfl) rfl ?_))))
  refine AA _ (AH rfl) rfl ?_
  refine AN (AF (BK (BP [false, false, false, false, true] ?_)))
  show JQ _ _ _ _ [_]
  refine BJ (Slc nb12 0 (32*nha + 32*nhb + tot + 31) cp6) (res1 EK (BH rfl)) fun w1 hw1 => ?_
  have hq : (((((((numK 8 rq 8) ++ ([(4:UInt8), 0])) ++ ([if true then 1 else 0])) ++ ((tktT pv ep k l ls bl) ++ tg)) ++ numK 2 (UInt64.ofNat nha) 2) ++ xha) ++ numK 2 (UInt64.ofNat nhb) 2) ++ xhb = (((((((numK 8 rq 8 ++ numK 1 (4:UInt64) 1) ++ numK 1 (0:UInt64) 1) ++ numK 1 (bitU true) 1) ++ ((tktT pv ep k l ls bl) ++ tg)) ++ numK 2 (UInt64.ofNat nha) 2) ++ xha) ++ numK 2 (UInt64.ofNat nhb) 2) ++ xhb := by simp [EX, nkL0, nkL4, ← FA, List.append_assoc]
  rw [hq] at hw1
  exact ⟨_, _, rfl, ⟨nb12, sp6, cp6, rfl, rfl, hc7, hc8, hc9⟩, hw1.sub (by simp) (by simp)⟩
 ·
  rintro v1 L1 ⟨nb4, hnb4, rfl, rfl⟩
  refine ⟨[], ?_⟩
  show DP _ _ _ _ _ _ _ _ [_, _, ⟨nb4, cu8 ([(4:UInt8), 0]), 5, (0, 0)⟩]
  refine CZ ⟨[9], [0, 1, 3, 4, 5, 6, 7, 8], [3, 4, 5, 6, 7, 8], [0, 1], [2]⟩ 2 _ rfl rfl (by decide +kernel) rfl ⟨⟨_, rfl, AJ rfl (AB 0 22 1 AO rfl AX rfl rfl)⟩, ⟨_, rfl, AJ rfl (AI rfl (AQ AY (AS 0 rfl (AG (AG (Seg.head))))))⟩, trivial⟩ rfl (BI rfl (CG 88 [U64 rq, I64 8] _ (A6 _ D8 rfl) (fun w1 hw1 => EU rq 8 w1 (by omega)))) ?_
  rintro v1 L1 ⟨_, ⟨nb13, rfl, rfl⟩, rfl⟩
  refine ⟨[], ?_⟩
  show DP _ _ _ _ _ _ _ _ [_, _, _, ⟨nb13, cu8 (numK 8 rq 8), 5, (0, 0)⟩]
  refine CZ ⟨[9, 2], [0, 1, 3, 4, 5, 6, 7, 8], [0, 1, 3, 4, 5, 6, 7, 8], [], [10]⟩ 10 _ rfl rfl (by decide +kernel) rfl trivial rfl (BI rfl (CP 43 5 [false, false, false, true] (Slc nb13 0 8 8) 8 (numK 8 rq 8) ([(4:UInt8), 0]) (some ⟨nb4, 0, none⟩) 2 2 10 AW CM rfl (.inr ⟨nb13, [], 8, rfl, (by simp [take?, cu8, cu32, cu64]), (by first | exact (show (numK 8 rq 8).length = 8 from A4 _ _ _) | simp [(show (numK 8 rq 8).length = 8 from A4 _ _ _)]), (by simp), (by omega), (by unfold maxLen; omega)⟩) rfl (by simp) (SrcAt.mem (AS 2 rfl (AV _))) (by omega) (by unfold maxLen; omega) (by omega))) ?_
  rintro v1 L1 ⟨nb14, sp7, cp7, hg4, rfl, rfl, ha13, ha14, ha15, ha16⟩
  refine ⟨[(11, Slc nb14 0 10 cp7)], ?_⟩
  show DP _ _ _ _ _ _ _ _ [_, _, _, ⟨nb14, cu8 ((numK 8 rq 8) ++ ([(4:UInt8), 0])) ++ sp7, 5, (0, 0)⟩]
  refine DN ⟨[9, 2, 10], [0, 1, 3, 4, 5, 6, 7, 8, 11], [0, 1, 3, 4, 5, 6, 7, 8], [11], []⟩ rfl rfl (by decide +kernel) rfl ⟨⟨_, rfl, AJ rfl (AH rfl)⟩, trivial⟩ ?_
  refine C7 (F' := [(4, Slc nb14 0 10 cp7), (1, Ptr nb1 0), (2, SL none 0 0), (3, Ptr nb2 0)]) (by kernel_rfl) ?_
  refine AF (AK (AK (AD (AA (Ptr nb2 0) (BZ 4 4 1 0 A8 BB rfl rfl (by omega) (by omega) (by omega)) rfl ?_))))
  refine AA (.bool (itB (0:Int) (4:Int))) (AI rfl (AQ BD (AS 1 rfl (Seg.head)))) rfl ?_
  refine AN (AF (BN _ rfl (by decide +kernel) ?_))
  refine BE (AF (AK (AK (AD (AA _ (AH rfl) rfl ?_)))))
  refine AN (AF (B2 (BP [true, true, false, true] ?_)))
  show JC _ _ _ _ [_, _, _]
  refine DV (ι := Unit) (fun _ => [(1, Ptr nb1 0), (2, SL none 0 0), (3, Ptr nb2 0), (4, Slc nb14 0 10 cp7), (5, I64 0)]) (fun _ => [⟨nb1, [U64 rq, I64 4, I64 0, SL aj nj cj, .bool true, U64 pv, U64 ep, I64 k, SL ai ni ci, SL sa ns sc, U64 bl] ++ cu8 tg ++ [SL aha nha cha, SL ahb nhb chb], 71, (0, 0)⟩, ⟨nb2, [.bool (itB (0:Int) (4:Int)), .bool (chB (0:Int) (4:Int) true), .bool (aB (0:Int) (4:Int) true), .bool (bB (0:Int) (4:Int) true)], 168, (0, 0)⟩, ⟨nb14, cu8 ((numK 8 rq 8) ++ ([(4:UInt8), 0])) ++ sp7, 5, (0, 0)⟩]) (fun _ => True) (fun _ => 1) () trivial (Sub.all rfl) rfl ?_
  rintro _ _
  show JC _ _ _ [(1, Ptr nb1 0), (2, SL none 0 0), (3, Ptr nb2 0), (4, Slc nb14 0 10 cp7), (5, I64 0)] [⟨nb1, [U64 rq, I64 4, I64 0, SL aj nj cj, .bool true, U64 pv, U64 ep, I64 k, SL ai ni ci, SL sa ns sc, U64 bl] ++ cu8 tg ++ [SL aha nha cha, SL ahb nhb chb], 71, (0, 0)⟩, ⟨nb2, [.bool (itB (0:Int) (4:Int)), .bool (chB (0:Int) (4:Int) true), .bool (aB (0:Int) (4:Int) true), .bool (bB (0:Int) (4:Int) true)], 168, (0, 0)⟩, ⟨nb14, cu8 ((numK 8 rq 8) ++ ([(4:UInt8), 0])) ++ sp7, 5, (0, 0)⟩]
  refine AK (AK (AD (AA _ (AL rfl) rfl ?_)))
  refine AA (Ptr nb1 3) (AB 3 69 1 AO rfl BQ rfl rfl) rfl ?_
  refine AA (SL aj nj cj) (AI rfl (AQ B9 (AS 0 rfl (AG (AG (AE (AE (AE (Seg.head))))))))) rfl ?_
  refine AA (I64 nj) (CY BM rfl) rfl ?_
  refine AA (.bool (decide ((0:Int) < ((nj:Int))))) (AU rfl rfl fun _ => CR _ _) rfl ?_
  refine AN (AF (BN _ rfl (decide_eq_false (by omega)) ?_))
  refine DU (A5 (A5 (CQ (AF (AK (AK (AD (AA (Ptr nb1 2) (AB 2 3 1 AO rfl AR rfl rfl) rfl ?_))))))))
  refine AA (I64 0) (AI rfl (AQ AT (AS 0 rfl (AG (AG (AE (AE (Seg.head)))))))) rfl ?_
  refine AA (.bool (decide ((0:Int) = (0:Int)))) (AU rfl rfl fun _ => BO _ _) rfl ?_
  refine AA _ (AL rfl) rfl ?_
  refine AP 3 64 true _ (Ptr nb1 1) rfl rfl (by decide) (AB 1 3 1 AO rfl AR rfl rfl) rfl ?_
  refine AP 3 64 true _ (I64 4) rfl rfl (by decide) (AI rfl (AQ AT (AS 0 rfl (AG (AG (AE (Seg.head))))))) rfl ?_
  refine AP 3 64 true _ (.bool (decide ((4:Int) = (4:Int)))) rfl rfl (by decide) (AU rfl rfl fun _ => BO _ _) rfl ?_
  refine AA _ (A2 _ rfl (by decide) rfl) rfl ?_
  refine AN (AF (CO _ rfl (by decide) ?_))
  refine AD (AA _ (AL rfl) rfl ?_)
  refine AA (Ptr nb1 4) (AB 4 4 1 AO rfl BB rfl rfl) rfl ?_
  refine AA (.bool true) (AI rfl (AQ BD (AS 0 rfl (AG (AG (AE (AE (AE (AE (Seg.head)))))))))) rfl ?_
  refine B1 (BG 104 [.bool true] (U8 (if true then 1 else 0)) (A6 _ Tryd.call104 rfl) (fun w1 hw1 => rflag14_c true w1 )) rfl ?_
  show JL _ _ _ _ ((72, U8 (if true then 1 else 0)) :: _) [_, _, _]
  refine A9 (B3 5 1 _ [(0, U8 (if true then 1 else 0))] (cu8 ([if true then 1 else 0])) AW B5 CE rfl rfl rfl (by kernel_rfl)) rfl ?_
  rintro v1 L1 ⟨nb15, hnb15, rfl, rfl⟩
  show JL _ _ _ _ ((73, Slc nb15 0 1 1) :: _) [_, _, _, ⟨nb15, cu8 ([if true then 1 else 0]), 5, (0, 0)⟩]
  refine A9 (CP 43 5 [false, false, true, false] (Slc nb14 0 10 cp7) 10 ((numK 8 rq 8) ++ ([(4:UInt8), 0])) ([if true then 1 else 0]) (some ⟨nb15, 0, none⟩) 1 1 11 AW CM rfl (.inr ⟨nb14, sp7, cp7, rfl, rfl, (by first | exact ha13 | simp [ha13]), ha14, (by omega), (by omega)⟩) rfl (by simp) (SrcAt.mem (AS 3 rfl (AV _))) (by omega) (by unfold maxLen; omega) (by omega)) rfl ?_
  rintro v1 L1 ⟨nb16, sp8, cp8, hg5, rfl, rfl, ha17, ha18, ha19, ha20⟩
  show JL _ _ _ _ ((74, Slc nb16 0 11 cp8) :: _) [_, _, _, ⟨nb16, cu8 (((numK 8 rq 8) ++ ([(4:UInt8), 0])) ++ ([if true then 1 else 0])) ++ sp8, 5, (0, 0)⟩]
  refine AA _ (AH rfl) rfl ?_
  refine AN (AF (AK (AK (AD (AA (Ptr nb2 1) (BZ 4 4 1 1 A8 BB rfl rfl (by omega) (by omega) (by omega)) rfl ?_)))))
  refine AA (.bool (chB (0:Int) (4:Int) true)) (AI rfl (AQ BD (AS 1 rfl (AE (Seg.head))))) rfl ?_
  refine AN (AF (CO _ rfl (by decide +kernel) ?_))
  refine AD (AA _ (AL rfl) rfl ?_)
  refine AA (Ptr nb1 5) (AB 5 38 22 AO rfl D6 rfl rfl) rfl ?_
  refine AA (.agg ([U64 pv, U64 ep, I64 k, SL ai ni ci, SL sa ns sc, U64 bl] ++ cu8 tg).toArray) (AI rfl (BV Tryd.isAgg38 D6 (by simp [htg]) (AS 0 rfl (C6 (p := [U64 rq, I64 4, I64 0, SL aj nj cj, .bool true]) (q := [SL aha nha cha, SL ahb nhb chb]) (vs := [U64 pv, U64 ep, I64 k, SL ai ni ci, SL sa ns sc, U64 bl] ++ cu8 tg) (by first | rfl | (simp only [List.append_assoc, List.nil_append, List.append_nil, List.cons_append]; done)) rfl)))) rfl ?_
  refine A9 (CG 52 [.agg ([U64 pv, U64 ep, I64 k, SL ai ni ci, SL sa ns sc, U64 bl] ++ cu8 tg).toArray] _ (A6 _ Tryd.call52 rfl) (fun w1 hw1 => rput13_c pv ep k ai ni ci l sa ns sc ls bl tg tot w1 hl (by omega) (by omega) (by omega) (CA hw1 rfl hv) hls (by omega) (by omega) (by omega) (CA hw1 rfl hs) htg hmay hk hsm htot (by omega))) rfl ?_
  rintro v1 L1 ⟨_, ⟨nb17, sp9, cp9, rfl, rfl, hc10, hc11, hc12⟩, rfl⟩
  show JL _ _ _ _ ((80, Slc nb17 0 (tot + 16) cp9) :: _) [_, _, _, _, ⟨nb17, cu8 ((tktT pv ep k l ls bl) ++ tg) ++ sp9, 5, (0, 0)⟩]
  refine A9 (CP 43 5 [false, false, false, true, false] (Slc nb16 0 11 cp8) 11 (((numK 8 rq 8) ++ ([(4:UInt8), 0])) ++ ([if true then 1 else 0])) ((tktT pv ep k l ls bl) ++ tg) (some ⟨nb17, 0, none⟩) (tot + 16) cp9 (tot + 27) AW CM rfl (.inr ⟨nb16, sp8, cp8, rfl, rfl, (by first | exact ha17 | simp [ha17]), ha18, (by omega), (by omega)⟩) rfl (by first | exact (show ((tktT pv ep k l ls bl) ++ tg).length = (tot + 16) from (by rw [List.length_append, ((FG hl hls).trans htot), htg])) | simp [(show ((tktT pv ep k l ls bl) ++ tg).length = (tot + 16) from (by rw [List.length_append, ((FG hl hls).trans htot), htg]))]; try omega) (SrcAt.mem (AS 4 rfl (AG (AV _)))) (by omega) (by unfold maxLen; omega) (by omega)) rfl ?_
  rintro v1 L1 ⟨nb18, sp10, cp10, hg6, rfl, rfl, ha21, ha22, ha23, ha24⟩
  show JL _ _ _ _ ((81, Slc nb18 0 (tot + 27) cp10) :: _) [_, _, _, _, ⟨nb18, cu8 ((((numK 8 rq 8) ++ ([(4:UInt8), 0])) ++ ([if true then 1 else 0])) ++ ((tktT pv ep k l ls bl) ++ tg)) ++ sp10, 5, (0, 0)⟩]
  refine AA _ (AH rfl) rfl ?_
  refine AN (AF (AK (AK (AD (AA (Ptr nb2 2) (BZ 4 4 1 2 A8 BB rfl rfl (by omega) (by omega) (by omega)) rfl ?_)))))
  refine AA (.bool (aB (0:Int) (4:Int) true)) (AI rfl (AQ BD (AS 1 rfl (AE (AE (Seg.head)))))) rfl ?_
  refine AN (AF (CO _ rfl (by decide +kernel) ?_))
  refine AD (AA _ (AL rfl) rfl ?_)
  refine AA (Ptr nb1 27) (AB 27 65 1 AO rfl BR rfl rfl) rfl ?_
  refine AA (SL aha nha cha) (AI rfl (AQ BU (AS 0 rfl (Seg.right 27 0 (by simp [htg]) rfl (Seg.head))))) rfl ?_
  refine A9 (CB 106 _ [false, false, false, false, true] [nb18] _ (A6 [Slc nb18 0 (tot + 27) cp10, SL aha nha cha] E1 rfl) rfl (fun w1 hw1 => FN nb18 (tot + 27) cp10 (32*nha + tot + 29) ((((numK 8 rq 8) ++ ([(4:UInt8), 0])) ++ ([if true then 1 else 0])) ++ ((tktT pv ep k l ls bl) ++ tg)) sp10 aha nha cha xha w1 (hw1.ent _ (List.mem_of_getElem? (i := 4) rfl)) ha21 ha22 ha23 ha24 hlha (by omega) (by omega) (by omega) (hrha.at (M' := [nb18]) hw1 (hw1.apart [4] _ rfl)) (by omega) (by omega))) rfl ?_
  rintro v1 L1 ⟨_, ⟨nb19, sp11, cp11, rfl, rfl, hc13, hc14, hc15⟩, rfl⟩
  show JL _ _ _ _ ((87, Slc nb19 0 (32*nha + tot + 29) cp11) :: _) [_, _, _, _, ⟨nb19, cu8 ((((((numK 8 rq 8) ++ ([(4:UInt8), 0])) ++ ([if true then 1 else 0])) ++ ((tktT pv ep k l ls bl) ++ tg)) ++ numK 2 (UInt64.ofNat nha) 2) ++ xha) ++ sp11, 5, (0, 0)⟩]
  refine AA _ (AH rfl) rfl ?_
  refine AN (AF (AK (AK (AD (AA (Ptr nb2 3) (BZ 4 4 1 3 A8 BB rfl rfl (by omega) (by omega) (by omega)) rfl ?_)))))
  refine AA (.bool (bB (0:Int) (4:Int) true)) (AI rfl (AQ BD (AS 1 rfl (AE (AE (AE (Seg.head))))))) rfl ?_
  refine AN (AF (CO _ rfl (by decide +kernel) ?_))
  refine AD (AA _ (AL rfl) rfl ?_)
  refine AA (Ptr nb1 28) (AB 28 65 1 AO rfl BR rfl rfl) rfl ?_
  refine AA (SL ahb nhb chb) (AI rfl (AQ BU (AS 0 rfl (Seg.right 27 1 (by simp [htg]) rfl (AE (Seg.head)))))) rfl ?_
  refine A9 (CB 106 _ [false, false, false, false, true] [nb19] _ (A6 [Slc nb19 0 (32*nha + tot + 29) cp11, SL ahb nhb chb] E1 rfl) rfl (fun w1 hw1 => FN nb19 (32*nha + tot + 29) cp11 (32*nha + 32*nhb + tot + 31) ((((((numK 8 rq 8) ++ ([(4:UInt8), 0])) ++ ([if true then 1 else 0])) ++ ((tktT pv ep k l ls bl) ++ tg)) ++ numK 2 (UInt64.ofNat nha) 2) ++ xha) sp11 ahb nhb chb xhb w1 (hw1.ent _ (List.mem_of_getElem? (i := 4) rfl)) (show ((((((numK 8 rq 8) ++ ([(4:UInt8), 0])) ++ ([if true then 1 else 0])) ++ ((tktT pv ep k l ls bl) ++ tg)) ++ numK 2 (UInt64.ofNat nha) 2) ++ xha).length = (32*nha + tot + 29) from (by rw [List.length_append, List.length_append, A4, ha21, hlha] <;> omega)) hc13 hc14 hc15 hlhb (by omega) (by omega) (by omega) (hrhb.at (M' := [nb19]) hw1 (hw1.apart [4] _ rfl)) (by omega) (by omega))) rfl ?_
  rintro v1 L1 ⟨_, ⟨nb20, sp12, cp12, rfl, rfl, hc16, hc17, hc18⟩, rfl⟩
  show JL _ _ _ _ ((93, Slc nb20 0 (32*nha + 32*nhb + tot + 31) cp12) :: _) [_, _, _, _, ⟨nb20, cu8 ((((((((numK 8 rq 8) ++ ([(4:UInt8), 0])) ++ ([if true then 1 else 0])) ++ ((tktT pv ep k l ls bl) ++ tg)) ++ numK 2 (UInt64.ofNat nha) 2) ++ xha) ++ numK 2 (UInt64.ofNat nhb) 2) ++ xhb) ++ sp12, 5, (0, 0)⟩]
  refine AA _ (AH rfl) rfl ?_
  refine AN (AF (AK (AD (AA _ (AL rfl) rfl ?_))))
  refine AA _ (AH rfl) rfl ?_
  refine AN (AF (BK (BP [false, false, false, false, true] ?_)))
  show JQ _ _ _ _ [_]
  refine BJ (Slc nb20 0 (32*nha + 32*nhb + tot + 31) cp12) (res1 EK (BH rfl)) fun w1 hw1 => ?_
  have hq : (((((((numK 8 rq 8) ++ ([(4:UInt8), 0])) ++ ([if true then 1 else 0])) ++ ((tktT pv ep k l ls bl) ++ tg)) ++ numK 2 (UInt64.ofNat nha) 2) ++ xha) ++ numK 2 (UInt64.ofNat nhb) 2) ++ xhb = (((((((numK 8 rq 8 ++ numK 1 (4:UInt64) 1) ++ numK 1 (0:UInt64) 1) ++ numK 1 (bitU true) 1) ++ ((tktT pv ep k l ls bl) ++ tg)) ++ numK 2 (UInt64.ofNat nha) 2) ++ xha) ++ numK 2 (UInt64.ofNat nhb) 2) ++ xhb := by simp [EX, nkL0, nkL4, ← FA, List.append_assoc]
  rw [hq] at hw1
  exact ⟨_, _, rfl, ⟨nb20, sp12, cp12, rfl, rfl, hc16, hc17, hc18⟩, hw1.sub (by simp) (by simp)⟩
set_option maxHeartbeats 2000000 in
theorem rputRep4f_c (rq : UInt64) (aj : Option Addr) (nj cj : Nat) (lj : List ItemR) (pv ep : UInt64) (kd : Int) (ai : Option Addr) (ni ci : Nat) (l : List UInt64) (sa : Option Addr) (ns sc : Nat) (ls : List SealR) (bl : UInt64) (tg : List UInt8) (aha : Option Addr) (nha cha : Nat) (xha : List UInt8) (ahb : Option Addr) (nhb chb : Nat) (xhb : List UInt8)  (w : World) (hlj : lj.length = nj) (hnj : nj ≤ 2000000) (hdj : nj ≤ cj) (hcj : cj ≤ maxLen) (hj : RdV w aj (lj.flatMap itemC)) (hl : l.length = ni) (hnm : ni ≤ 2000000) (hnc : ni ≤ ci) (hcm : ci ≤ maxLen) (hv : RdV w ai (cu64 l)) (hls : ls.length = ns) (hnn : ns ≤ 2000000) (hnd : ns ≤ sc) (hcn : sc ≤ maxLen) (hs : RdV w sa (ls.flatMap sealC)) (htg : tg.length = 16) (hlha : xha.length = nha * 32) (hnha : nha ≤ 9000) (hdha : nha ≤ cha) (hcha : cha ≤ maxLen) (hrha : RdB w [] aha xha) (hlhb : xhb.length = nhb * 32) (hnhb : nhb ≤ 9000) (hdhb : nhb ≤ chb) (hchb : chb ≤ maxLen) (hrhb : RdB w [] ahb xhb) (hbi : ni ≤ 300) (hbs : ns ≤ 300) (hA : nha ≤ 300) (hB : nhb ≤ 300) (hR : repR (4:Int) (0:Int) false lj (blankB pv ep kd l ls bl tg) (decide (mayN pv ep kd l ls bl = 0)) nha nhb = true)  : Calls Tryd.prog 38 #[.agg ([U64 rq, I64 4, I64 0, SL aj nj cj, .bool false, U64 pv, U64 ep, I64 (kd), SL ai ni ci, SL sa ns sc, U64 bl] ++ cu8 tg ++ [SL aha nha cha, SL ahb nhb chb]).toArray] w (Post w [] (fun v L => ∃ g sp cap, v = Slc g 0 (11) cap ∧ L = [⟨g, cu8 (((numK 8 rq 8 ++ numK 1 (4:UInt64) 1) ++ numK 1 (0:UInt64) 1) ++ numK 1 (bitU false) 1) ++ sp, 5, (0, 0)⟩] ∧ sp.length = cap - 11 ∧ 11 ≤ cap ∧ cap ≤ maxLen)) := by
 have hmx : maxLen = 9223372036854775807 := rfl
 have hf := repR_f hlj hR
 have hn0 := c2_len0 hlj (repR_2 hR (by decide +kernel))
 refine enter (P := Tryd.prog) (f := 38) (fn := Tryd.f38) w [] 95 [] [.agg ([U64 rq, I64 4, I64 0, SL aj nj cj, .bool false, U64 pv, U64 ep, I64 (kd), SL ai ni ci, SL sa ns sc, U64 bl] ++ cu8 tg ++ [SL aha nha cha, SL ahb nhb chb]).toArray] Tryd.func38 rfl rfl (by simp) (CC (by simp) (by simp) (by simp)) ?_
 show JC _ _ _ [(0, .agg ([U64 rq, I64 4, I64 0, SL aj nj cj, .bool false, U64 pv, U64 ep, I64 (kd), SL ai ni ci, SL sa ns sc, U64 bl] ++ cu8 tg ++ [SL aha nha cha, SL ahb nhb chb]).toArray)] _
 refine AK (AD (A9 (CL (.agg ([U64 rq, I64 4, I64 0, SL aj nj cj, .bool false, U64 pv, U64 ep, I64 (kd), SL ai ni ci, SL sa ns sc, U64 bl] ++ cu8 tg ++ [SL aha nha cha, SL ahb nhb chb]).toArray) ([U64 rq, I64 4, I64 0, SL aj nj cj, .bool false, U64 pv, U64 ep, I64 (kd), SL ai ni ci, SL sa ns sc, U64 bl] ++ cu8 tg ++ [SL aha nha cha, SL ahb nhb chb]) rfl (by first | rfl | simp)) rfl ?_))
 rintro v1 L1 ⟨nb1, hnb1, rfl, rfl⟩
 show JL _ _ _ _ ((1, Ptr nb1 0) :: _) [⟨nb1, [U64 rq, I64 4, I64 0, SL aj nj cj, .bool false, U64 pv, U64 ep, I64 (kd), SL ai ni ci, SL sa ns sc, U64 bl] ++ cu8 tg ++ [SL aha nha cha, SL ahb nhb chb], 71, (0, 0)⟩]
 refine AA _ (AH rfl) rfl ?_
 refine AN (AF (AK (AD (AA (.agg ([U64 rq, I64 4, I64 0, SL aj nj cj, .bool false, U64 pv, U64 ep, I64 (kd), SL ai ni ci, SL sa ns sc, U64 bl] ++ cu8 tg ++ [SL aha nha cha, SL ahb nhb chb]).toArray) (AI rfl (BV DR C2 (by simp [htg]) (AS 0 rfl (AV _)))) rfl ?_))))
 refine B1 (BG 94 [.agg ([U64 rq, I64 4, I64 0, SL aj nj cj, .bool false, U64 pv, U64 ep, I64 (kd), SL ai ni ci, SL sa ns sc, U64 bl] ++ cu8 tg ++ [SL aha nha cha, SL ahb nhb chb]).toArray] (.agg #[.bool (itB (0:Int) (4:Int)), .bool (chB (0:Int) (4:Int) false), .bool (aB (0:Int) (4:Int) false), .bool (bB (0:Int) (4:Int) false)]) (A6 _ Tryd.call94 rfl) (fun w1 hw1 => has_c rq (4:Int) (0:Int) aj nj cj lj false pv ep (kd) ai ni ci l sa ns sc ls bl tg aha nha cha xha ahb nhb chb xhb w1 htg)) rfl ?_
 show JL _ _ _ _ ((7, .agg #[.bool (itB (0:Int) (4:Int)), .bool (chB (0:Int) (4:Int) false), .bool (aB (0:Int) (4:Int) false), .bool (bB (0:Int) (4:Int) false)]) :: _) [_]
 refine A9 (DI _ ([.bool false, .bool false, .bool false, .bool false]) EY (by kernel_rfl)) rfl ?_
 rintro v1 L1 ⟨nb2, hnb2, rfl, rfl⟩
 show JL _ _ _ _ ((3, Ptr nb2 0) :: _) [_, ⟨nb2, [.bool false, .bool false, .bool false, .bool false], 168, (0, 0)⟩]
 refine B1 (CW 1 nb2 4 ([.bool false, .bool false, .bool false, .bool false]) 168 ([.bool (itB (0:Int) (4:Int)), .bool (chB (0:Int) (4:Int) false), .bool (aB (0:Int) (4:Int) false), .bool (bB (0:Int) (4:Int) false)]) rfl rfl rfl DT rfl (by simp [Value.oneCell']) (Nat.le_of_ble_eq_true rfl) (DC (by simp []))) rfl ?_
 show JL _ _ _ _ _ [_, ⟨nb2, [.bool (itB (0:Int) (4:Int)), .bool (chB (0:Int) (4:Int) false), .bool (aB (0:Int) (4:Int) false), .bool (bB (0:Int) (4:Int) false)], 168, (0, 0)⟩]
 refine AN (AF (AK (DH 95 4 [(0, Ptr nb1 0), (1, U64 rq), (3, Ptr nb1 1), (4, I64 4), (5, U8 4), (6, Ptr nb1 2), (7, I64 0), (8, U8 0)] B8 rfl (by decide +kernel) ?_)))
 refine DP_two ⟨[], [0, 1, 3, 4, 5, 6, 7, 8], [], [0, 1, 3, 4, 5, 6, 7, 8], [2, 9]⟩ 2 9 _ _ rfl rfl (by decide +kernel) rfl ⟨⟨_, rfl, AJ rfl (AB 0 22 1 AO rfl AX rfl rfl)⟩, ⟨_, rfl, AJ rfl (AI rfl (AQ AY (AS 0 rfl (AG (AG (Seg.head))))))⟩, ⟨_, rfl, AJ rfl (AB 1 3 1 AO rfl AR rfl rfl)⟩, ⟨_, rfl, AJ rfl (AI rfl (AQ AT (AS 0 rfl (AG (AG (AE (Seg.head)))))))⟩, ⟨_, rfl, AJ rfl (CX _ _ rfl fun _ => DA (by rw [AZ]; rfl) BA rfl)⟩, ⟨_, rfl, AJ rfl (AB 2 3 1 AO rfl AR rfl rfl)⟩, ⟨_, rfl, AJ rfl (AI rfl (AQ AT (AS 0 rfl (AG (AG (AE (AE (Seg.head))))))))⟩, ⟨_, rfl, AJ rfl (CX _ _ rfl fun _ => DA (by rw [AZ]; rfl) BA rfl)⟩, trivial⟩ rfl rfl (BI rfl (CG 88 [U64 rq, I64 8] _ (A6 _ D8 rfl) (fun w1 hw1 => EU rq 8 w1 (by omega)))) (BI rfl (B3 5 1 _ [(0, U8 4), (1, U8 0)] (cu8 ([(4:UInt8), 0])) AW B5 CE rfl rfl rfl (by kernel_rfl))) ?_ ?_
 ·
  rintro v1 L1 ⟨_, ⟨nb3, rfl, rfl⟩, rfl⟩
  refine ⟨[], ?_⟩
  show DP _ _ _ _ _ _ _ _ [_, _, ⟨nb3, cu8 (numK 8 rq 8), 5, (0, 0)⟩]
  refine CZ ⟨[2], [0, 1, 3, 4, 5, 6, 7, 8], [0, 1], [3, 4, 5, 6, 7, 8], [9]⟩ 9 _ rfl rfl (by decide +kernel) rfl ⟨⟨_, rfl, AJ rfl (AB 1 3 1 AO rfl AR rfl rfl)⟩, ⟨_, rfl, AJ rfl (AI rfl (AQ AT (AS 0 rfl (AG (AG (AE (Seg.head)))))))⟩, ⟨_, rfl, AJ rfl (CX _ _ rfl fun _ => DA (by rw [AZ]; rfl) BA rfl)⟩, ⟨_, rfl, AJ rfl (AB 2 3 1 AO rfl AR rfl rfl)⟩, ⟨_, rfl, AJ rfl (AI rfl (AQ AT (AS 0 rfl (AG (AG (AE (AE (Seg.head))))))))⟩, ⟨_, rfl, AJ rfl (CX _ _ rfl fun _ => DA (by rw [AZ]; rfl) BA rfl)⟩, trivial⟩ rfl (BI rfl (B3 5 1 _ [(0, U8 4), (1, U8 0)] (cu8 ([(4:UInt8), 0])) AW B5 CE rfl rfl rfl (by kernel_rfl))) ?_
  rintro v1 L1 ⟨nb5, hnb5, rfl, rfl⟩
  refine ⟨[], ?_⟩
  show DP _ _ _ _ _ _ _ _ [_, _, _, ⟨nb5, cu8 ([(4:UInt8), 0]), 5, (0, 0)⟩]
  refine CZ ⟨[2, 9], [0, 1, 3, 4, 5, 6, 7, 8], [0, 1, 3, 4, 5, 6, 7, 8], [], [10]⟩ 10 _ rfl rfl (by decide +kernel) rfl trivial rfl (BI rfl (CP 43 5 [false, false, true, false] (Slc nb3 0 8 8) 8 (numK 8 rq 8) ([(4:UInt8), 0]) (some ⟨nb5, 0, none⟩) 2 2 10 AW CM rfl (.inr ⟨nb3, [], 8, rfl, (by simp [take?, cu8, cu32, cu64]), (by first | exact (show (numK 8 rq 8).length = 8 from A4 _ _ _) | simp [(show (numK 8 rq 8).length = 8 from A4 _ _ _)]), (by simp), (by omega), (by unfold maxLen; omega)⟩) rfl (by simp) (SrcAt.mem (AS 3 rfl (AV _))) (by omega) (by unfold maxLen; omega) (by omega))) ?_
  rintro v1 L1 ⟨nb6, sp1, cp1, hg1, rfl, rfl, ha1, ha2, ha3, ha4⟩
  refine ⟨[(11, Slc nb6 0 10 cp1)], ?_⟩
  show DP _ _ _ _ _ _ _ _ [_, _, _, ⟨nb6, cu8 ((numK 8 rq 8) ++ ([(4:UInt8), 0])) ++ sp1, 5, (0, 0)⟩]
  refine DN ⟨[2, 9, 10], [0, 1, 3, 4, 5, 6, 7, 8, 11], [0, 1, 3, 4, 5, 6, 7, 8], [11], []⟩ rfl rfl (by decide +kernel) rfl ⟨⟨_, rfl, AJ rfl (AH rfl)⟩, trivial⟩ ?_
  refine C7 (F' := [(4, Slc nb6 0 10 cp1), (1, Ptr nb1 0), (2, SL none 0 0), (3, Ptr nb2 0)]) (by kernel_rfl) ?_
  refine AF (AK (AK (AD (AA (Ptr nb2 0) (BZ 4 4 1 0 A8 BB rfl rfl (by omega) (by omega) (by omega)) rfl ?_))))
  refine AA (.bool (itB (0:Int) (4:Int))) (AI rfl (AQ BD (AS 1 rfl (Seg.head)))) rfl ?_
  refine AN (AF (BN _ rfl (by decide +kernel) ?_))
  refine BE (AF (AK (AK (AD (AA _ (AH rfl) rfl ?_)))))
  refine AN (AF (B2 (BP [true, true, false, true] ?_)))
  show JC _ _ _ _ [_, _, _]
  refine DV (ι := Unit) (fun _ => [(1, Ptr nb1 0), (2, SL none 0 0), (3, Ptr nb2 0), (4, Slc nb6 0 10 cp1), (5, I64 0)]) (fun _ => [⟨nb1, [U64 rq, I64 4, I64 0, SL aj nj cj, .bool false, U64 pv, U64 ep, I64 (kd), SL ai ni ci, SL sa ns sc, U64 bl] ++ cu8 tg ++ [SL aha nha cha, SL ahb nhb chb], 71, (0, 0)⟩, ⟨nb2, [.bool (itB (0:Int) (4:Int)), .bool (chB (0:Int) (4:Int) false), .bool (aB (0:Int) (4:Int) false), .bool (bB (0:Int) (4:Int) false)], 168, (0, 0)⟩, ⟨nb6, cu8 ((numK 8 rq 8) ++ ([(4:UInt8), 0])) ++ sp1, 5, (0, 0)⟩]) (fun _ => True) (fun _ => 1) () trivial (Sub.all rfl) rfl ?_
  rintro _ _
  show JC _ _ _ [(1, Ptr nb1 0), (2, SL none 0 0), (3, Ptr nb2 0), (4, Slc nb6 0 10 cp1), (5, I64 0)] [⟨nb1, [U64 rq, I64 4, I64 0, SL aj nj cj, .bool false, U64 pv, U64 ep, I64 (kd), SL ai ni ci, SL sa ns sc, U64 bl] ++ cu8 tg ++ [SL aha nha cha, SL ahb nhb chb], 71, (0, 0)⟩, ⟨nb2, [.bool (itB (0:Int) (4:Int)), .bool (chB (0:Int) (4:Int) false), .bool (aB (0:Int) (4:Int) false), .bool (bB (0:Int) (4:Int) false)], 168, (0, 0)⟩, ⟨nb6, cu8 ((numK 8 rq 8) ++ ([(4:UInt8), 0])) ++ sp1, 5, (0, 0)⟩]
  refine AK (AK (AD (AA _ (AL rfl) rfl ?_)))
  refine AA (Ptr nb1 3) (AB 3 69 1 AO rfl BQ rfl rfl) rfl ?_
  refine AA (SL aj nj cj) (AI rfl (AQ B9 (AS 0 rfl (AG (AG (AE (AE (AE (Seg.head))))))))) rfl ?_
  refine AA (I64 nj) (CY BM rfl) rfl ?_
  refine AA (.bool (decide ((0:Int) < ((nj:Int))))) (AU rfl rfl fun _ => CR _ _) rfl ?_
  refine AN (AF (BN _ rfl (decide_eq_false (by omega)) ?_))
  refine DU (A5 (A5 (CQ (AF (AK (AK (AD (AA (Ptr nb1 2) (AB 2 3 1 AO rfl AR rfl rfl) rfl ?_))))))))
  refine AA (I64 0) (AI rfl (AQ AT (AS 0 rfl (AG (AG (AE (AE (Seg.head)))))))) rfl ?_
  refine AA (.bool (decide ((0:Int) = (0:Int)))) (AU rfl rfl fun _ => BO _ _) rfl ?_
  refine AA _ (AL rfl) rfl ?_
  refine AP 3 64 true _ (Ptr nb1 1) rfl rfl (by decide) (AB 1 3 1 AO rfl AR rfl rfl) rfl ?_
  refine AP 3 64 true _ (I64 4) rfl rfl (by decide) (AI rfl (AQ AT (AS 0 rfl (AG (AG (AE (Seg.head))))))) rfl ?_
  refine AP 3 64 true _ (.bool (decide ((4:Int) = (4:Int)))) rfl rfl (by decide) (AU rfl rfl fun _ => BO _ _) rfl ?_
  refine AA _ (A2 _ rfl (by decide) rfl) rfl ?_
  refine AN (AF (CO _ rfl (by decide) ?_))
  refine AD (AA _ (AL rfl) rfl ?_)
  refine AA (Ptr nb1 4) (AB 4 4 1 AO rfl BB rfl rfl) rfl ?_
  refine AA (.bool false) (AI rfl (AQ BD (AS 0 rfl (AG (AG (AE (AE (AE (AE (Seg.head)))))))))) rfl ?_
  refine B1 (BG 104 [.bool false] (U8 (if false then 1 else 0)) (A6 _ Tryd.call104 rfl) (fun w1 hw1 => rflag14_c false w1 )) rfl ?_
  show JL _ _ _ _ ((72, U8 (if false then 1 else 0)) :: _) [_, _, _]
  refine A9 (B3 5 1 _ [(0, U8 (if false then 1 else 0))] (cu8 ([if false then 1 else 0])) AW B5 CE rfl rfl rfl (by kernel_rfl)) rfl ?_
  rintro v1 L1 ⟨nb7, hnb7, rfl, rfl⟩
  show JL _ _ _ _ ((73, Slc nb7 0 1 1) :: _) [_, _, _, ⟨nb7, cu8 ([if false then 1 else 0]), 5, (0, 0)⟩]
  refine A9 (CP 43 5 [false, false, true, false] (Slc nb6 0 10 cp1) 10 ((numK 8 rq 8) ++ ([(4:UInt8), 0])) ([if false then 1 else 0]) (some ⟨nb7, 0, none⟩) 1 1 11 AW CM rfl (.inr ⟨nb6, sp1, cp1, rfl, rfl, (by first | exact ha1 | simp [ha1]), ha2, (by omega), (by omega)⟩) rfl (by simp) (SrcAt.mem (AS 3 rfl (AV _))) (by omega) (by unfold maxLen; omega) (by omega)) rfl ?_
  rintro v1 L1 ⟨nb8, sp2, cp2, hg2, rfl, rfl, ha5, ha6, ha7, ha8⟩
  show JL _ _ _ _ ((74, Slc nb8 0 11 cp2) :: _) [_, _, _, ⟨nb8, cu8 (((numK 8 rq 8) ++ ([(4:UInt8), 0])) ++ ([if false then 1 else 0])) ++ sp2, 5, (0, 0)⟩]
  refine AA _ (AH rfl) rfl ?_
  refine AN (AF (AK (AK (AD (AA (Ptr nb2 1) (BZ 4 4 1 1 A8 BB rfl rfl (by omega) (by omega) (by omega)) rfl ?_)))))
  refine AA (.bool (chB (0:Int) (4:Int) false)) (AI rfl (AQ BD (AS 1 rfl (AE (Seg.head))))) rfl ?_
  refine AN (AF (BN _ rfl (by decide +kernel) ?_))
  refine BE (AF (AK (AK (AD (AA (Ptr nb2 2) (BZ 4 4 1 2 A8 BB rfl rfl (by omega) (by omega) (by omega)) rfl ?_)))))
  refine AA (.bool (aB (0:Int) (4:Int) false)) (AI rfl (AQ BD (AS 1 rfl (AE (AE (Seg.head)))))) rfl ?_
  refine AN (AF (BN _ rfl (by decide +kernel) ?_))
  refine BE (AF (AK (AK (AD (AA (Ptr nb2 3) (BZ 4 4 1 3 A8 BB rfl rfl (by omega) (by omega) (by omega)) rfl ?_)))))
  refine AA (.bool (bB (0:Int) (4:Int) false)) (AI rfl (AQ BD (AS 1 rfl (AE (AE (AE (Seg.head))))))) rfl ?_
  refine AN (AF (BN _ rfl (by decide +kernel) ?_))
  refine BE (AF (AK (AD (AA _ (AL rfl) rfl ?_))))
  refine AA _ (AH rfl) rfl ?_
  refine AN (AF (BK (BP [false, false, false, true] ?_)))
  show JQ _ _ _ _ [_]
  refine BJ (Slc nb8 0 11 cp2) (res1 EK (BH rfl)) fun w1 hw1 => ?_
  have hq : ((numK 8 rq 8) ++ ([(4:UInt8), 0])) ++ ([if false then 1 else 0]) = ((numK 8 rq 8 ++ numK 1 (4:UInt64) 1) ++ numK 1 (0:UInt64) 1) ++ numK 1 (bitU false) 1 := by simp [EX, nkL0, nkL4, ← FA, List.append_assoc]
  rw [hq] at hw1
  exact ⟨_, _, rfl, ⟨nb8, sp2, cp2, rfl, rfl, ha6, ha7, ha8⟩, hw1.sub (by simp) (by simp)⟩
 ·
  rintro v1 L1 ⟨nb4, hnb4, rfl, rfl⟩
  refine ⟨[], ?_⟩
  show DP _ _ _ _ _ _ _ _ [_, _, ⟨nb4, cu8 ([(4:UInt8), 0]), 5, (0, 0)⟩]
  refine CZ ⟨[9], [0, 1, 3, 4, 5, 6, 7, 8], [3, 4, 5, 6, 7, 8], [0, 1], [2]⟩ 2 _ rfl rfl (by decide +kernel) rfl ⟨⟨_, rfl, AJ rfl (AB 0 22 1 AO rfl AX rfl rfl)⟩, ⟨_, rfl, AJ rfl (AI rfl (AQ AY (AS 0 rfl (AG (AG (Seg.head))))))⟩, trivial⟩ rfl (BI rfl (CG 88 [U64 rq, I64 8] _ (A6 _ D8 rfl) (fun w1 hw1 => EU rq 8 w1 (by omega)))) ?_
  rintro v1 L1 ⟨_, ⟨nb9, rfl, rfl⟩, rfl⟩
  refine ⟨[], ?_⟩
  show DP _ _ _ _ _ _ _ _ [_, _, _, ⟨nb9, cu8 (numK 8 rq 8), 5, (0, 0)⟩]
  refine CZ ⟨[9, 2], [0, 1, 3, 4, 5, 6, 7, 8], [0, 1, 3, 4, 5, 6, 7, 8], [], [10]⟩ 10 _ rfl rfl (by decide +kernel) rfl trivial rfl (BI rfl (CP 43 5 [false, false, false, true] (Slc nb9 0 8 8) 8 (numK 8 rq 8) ([(4:UInt8), 0]) (some ⟨nb4, 0, none⟩) 2 2 10 AW CM rfl (.inr ⟨nb9, [], 8, rfl, (by simp [take?, cu8, cu32, cu64]), (by first | exact (show (numK 8 rq 8).length = 8 from A4 _ _ _) | simp [(show (numK 8 rq 8).length = 8 from A4 _ _ _)]), (by simp), (by omega), (by unfold maxLen; omega)⟩) rfl (by simp) (SrcAt.mem (AS 2 rfl (AV _))) (by omega) (by unfold maxLen; omega) (by omega))) ?_
  rintro v1 L1 ⟨nb10, sp3, cp3, hg3, rfl, rfl, ha9, ha10, ha11, ha12⟩
  refine ⟨[(11, Slc nb10 0 10 cp3)], ?_⟩
  show DP _ _ _ _ _ _ _ _ [_, _, _, ⟨nb10, cu8 ((numK 8 rq 8) ++ ([(4:UInt8), 0])) ++ sp3, 5, (0, 0)⟩]
  refine DN ⟨[9, 2, 10], [0, 1, 3, 4, 5, 6, 7, 8, 11], [0, 1, 3, 4, 5, 6, 7, 8], [11], []⟩ rfl rfl (by decide +kernel) rfl ⟨⟨_, rfl, AJ rfl (AH rfl)⟩, trivial⟩ ?_
  refine C7 (F' := [(4, Slc nb10 0 10 cp3), (1, Ptr nb1 0), (2, SL none 0 0), (3, Ptr nb2 0)]) (by kernel_rfl) ?_
  refine AF (AK (AK (AD (AA (Ptr nb2 0) (BZ 4 4 1 0 A8 BB rfl rfl (by omega) (by omega) (by omega)) rfl ?_))))
  refine AA (.bool (itB (0:Int) (4:Int))) (AI rfl (AQ BD (AS 1 rfl (Seg.head)))) rfl ?_
  refine AN (AF (BN _ rfl (by decide +kernel) ?_))
  refine BE (AF (AK (AK (AD (AA _ (AH rfl) rfl ?_)))))
  refine AN (AF (B2 (BP [true, true, false, true] ?_)))
  show JC _ _ _ _ [_, _, _]
  refine DV (ι := Unit) (fun _ => [(1, Ptr nb1 0), (2, SL none 0 0), (3, Ptr nb2 0), (4, Slc nb10 0 10 cp3), (5, I64 0)]) (fun _ => [⟨nb1, [U64 rq, I64 4, I64 0, SL aj nj cj, .bool false, U64 pv, U64 ep, I64 (kd), SL ai ni ci, SL sa ns sc, U64 bl] ++ cu8 tg ++ [SL aha nha cha, SL ahb nhb chb], 71, (0, 0)⟩, ⟨nb2, [.bool (itB (0:Int) (4:Int)), .bool (chB (0:Int) (4:Int) false), .bool (aB (0:Int) (4:Int) false), .bool (bB (0:Int) (4:Int) false)], 168, (0, 0)⟩, ⟨nb10, cu8 ((numK 8 rq 8) ++ ([(4:UInt8), 0])) ++ sp3, 5, (0, 0)⟩]) (fun _ => True) (fun _ => 1) () trivial (Sub.all rfl) rfl ?_
  rintro _ _
  show JC _ _ _ [(1, Ptr nb1 0), (2, SL none 0 0), (3, Ptr nb2 0), (4, Slc nb10 0 10 cp3), (5, I64 0)] [⟨nb1, [U64 rq, I64 4, I64 0, SL aj nj cj, .bool false, U64 pv, U64 ep, I64 (kd), SL ai ni ci, SL sa ns sc, U64 bl] ++ cu8 tg ++ [SL aha nha cha, SL ahb nhb chb], 71, (0, 0)⟩, ⟨nb2, [.bool (itB (0:Int) (4:Int)), .bool (chB (0:Int) (4:Int) false), .bool (aB (0:Int) (4:Int) false), .bool (bB (0:Int) (4:Int) false)], 168, (0, 0)⟩, ⟨nb10, cu8 ((numK 8 rq 8) ++ ([(4:UInt8), 0])) ++ sp3, 5, (0, 0)⟩]
  refine AK (AK (AD (AA _ (AL rfl) rfl ?_)))
  refine AA (Ptr nb1 3) (AB 3 69 1 AO rfl BQ rfl rfl) rfl ?_
  refine AA (SL aj nj cj) (AI rfl (AQ B9 (AS 0 rfl (AG (AG (AE (AE (AE (Seg.head))))))))) rfl ?_
  refine AA (I64 nj) (CY BM rfl) rfl ?_
  refine AA (.bool (decide ((0:Int) < ((nj:Int))))) (AU rfl rfl fun _ => CR _ _) rfl ?_
  refine AN (AF (BN _ rfl (decide_eq_false (by omega)) ?_))
  refine DU (A5 (A5 (CQ (AF (AK (AK (AD (AA (Ptr nb1 2) (AB 2 3 1 AO rfl AR rfl rfl) rfl ?_))))))))
  refine AA (I64 0) (AI rfl (AQ AT (AS 0 rfl (AG (AG (AE (AE (Seg.head)))))))) rfl ?_
  refine AA (.bool (decide ((0:Int) = (0:Int)))) (AU rfl rfl fun _ => BO _ _) rfl ?_
  refine AA _ (AL rfl) rfl ?_
  refine AP 3 64 true _ (Ptr nb1 1) rfl rfl (by decide) (AB 1 3 1 AO rfl AR rfl rfl) rfl ?_
  refine AP 3 64 true _ (I64 4) rfl rfl (by decide) (AI rfl (AQ AT (AS 0 rfl (AG (AG (AE (Seg.head))))))) rfl ?_
  refine AP 3 64 true _ (.bool (decide ((4:Int) = (4:Int)))) rfl rfl (by decide) (AU rfl rfl fun _ => BO _ _) rfl ?_
  refine AA _ (A2 _ rfl (by decide) rfl) rfl ?_
  refine AN (AF (CO _ rfl (by decide) ?_))
  refine AD (AA _ (AL rfl) rfl ?_)
  refine AA (Ptr nb1 4) (AB 4 4 1 AO rfl BB rfl rfl) rfl ?_
  refine AA (.bool false) (AI rfl (AQ BD (AS 0 rfl (AG (AG (AE (AE (AE (AE (Seg.head)))))))))) rfl ?_
  refine B1 (BG 104 [.bool false] (U8 (if false then 1 else 0)) (A6 _ Tryd.call104 rfl) (fun w1 hw1 => rflag14_c false w1 )) rfl ?_
  show JL _ _ _ _ ((72, U8 (if false then 1 else 0)) :: _) [_, _, _]
  refine A9 (B3 5 1 _ [(0, U8 (if false then 1 else 0))] (cu8 ([if false then 1 else 0])) AW B5 CE rfl rfl rfl (by kernel_rfl)) rfl ?_
  rintro v1 L1 ⟨nb11, hnb11, rfl, rfl⟩
  show JL _ _ _ _ ((73, Slc nb11 0 1 1) :: _) [_, _, _, ⟨nb11, cu8 ([if false then 1 else 0]), 5, (0, 0)⟩]
  refine A9 (CP 43 5 [false, false, true, false] (Slc nb10 0 10 cp3) 10 ((numK 8 rq 8) ++ ([(4:UInt8), 0])) ([if false then 1 else 0]) (some ⟨nb11, 0, none⟩) 1 1 11 AW CM rfl (.inr ⟨nb10, sp3, cp3, rfl, rfl, (by first | exact ha9 | simp [ha9]), ha10, (by omega), (by omega)⟩) rfl (by simp) (SrcAt.mem (AS 3 rfl (AV _))) (by omega) (by unfold maxLen; omega) (by omega)) rfl ?_
  rintro v1 L1 ⟨nb12, sp4, cp4, hg4, rfl, rfl, ha13, ha14, ha15, ha16⟩
  show JL _ _ _ _ ((74, Slc nb12 0 11 cp4) :: _) [_, _, _, ⟨nb12, cu8 (((numK 8 rq 8) ++ ([(4:UInt8), 0])) ++ ([if false then 1 else 0])) ++ sp4, 5, (0, 0)⟩]
  refine AA _ (AH rfl) rfl ?_
  refine AN (AF (AK (AK (AD (AA (Ptr nb2 1) (BZ 4 4 1 1 A8 BB rfl rfl (by omega) (by omega) (by omega)) rfl ?_)))))
  refine AA (.bool (chB (0:Int) (4:Int) false)) (AI rfl (AQ BD (AS 1 rfl (AE (Seg.head))))) rfl ?_
  refine AN (AF (BN _ rfl (by decide +kernel) ?_))
  refine BE (AF (AK (AK (AD (AA (Ptr nb2 2) (BZ 4 4 1 2 A8 BB rfl rfl (by omega) (by omega) (by omega)) rfl ?_)))))
  refine AA (.bool (aB (0:Int) (4:Int) false)) (AI rfl (AQ BD (AS 1 rfl (AE (AE (Seg.head)))))) rfl ?_
  refine AN (AF (BN _ rfl (by decide +kernel) ?_))
  refine BE (AF (AK (AK (AD (AA (Ptr nb2 3) (BZ 4 4 1 3 A8 BB rfl rfl (by omega) (by omega) (by omega)) rfl ?_)))))
  refine AA (.bool (bB (0:Int) (4:Int) false)) (AI rfl (AQ BD (AS 1 rfl (AE (AE (AE (Seg.head))))))) rfl ?_
  refine AN (AF (BN _ rfl (by decide +kernel) ?_))
  refine BE (AF (AK (AD (AA _ (AL rfl) rfl ?_))))
  refine AA _ (AH rfl) rfl ?_
  refine AN (AF (BK (BP [false, false, false, true] ?_)))
  show JQ _ _ _ _ [_]
  refine BJ (Slc nb12 0 11 cp4) (res1 EK (BH rfl)) fun w1 hw1 => ?_
  have hq : ((numK 8 rq 8) ++ ([(4:UInt8), 0])) ++ ([if false then 1 else 0]) = ((numK 8 rq 8 ++ numK 1 (4:UInt64) 1) ++ numK 1 (0:UInt64) 1) ++ numK 1 (bitU false) 1 := by simp [EX, nkL0, nkL4, ← FA, List.append_assoc]
  rw [hq] at hw1
  exact ⟨_, _, rfl, ⟨nb12, sp4, cp4, rfl, rfl, ha14, ha15, ha16⟩, hw1.sub (by simp) (by simp)⟩
set_option maxHeartbeats 2000000 in
theorem rputRep5_c (rq : UInt64) (aj : Option Addr) (nj cj : Nat) (lj : List ItemR) (th : Bool) (pv ep : UInt64) (kd : Int) (ai : Option Addr) (ni ci : Nat) (l : List UInt64) (sa : Option Addr) (ns sc : Nat) (ls : List SealR) (bl : UInt64) (tg : List UInt8) (aha : Option Addr) (nha cha : Nat) (xha : List UInt8) (ahb : Option Addr) (nhb chb : Nat) (xhb : List UInt8)  (w : World) (hlj : lj.length = nj) (hnj : nj ≤ 2000000) (hdj : nj ≤ cj) (hcj : cj ≤ maxLen) (hj : RdV w aj (lj.flatMap itemC)) (hl : l.length = ni) (hnm : ni ≤ 2000000) (hnc : ni ≤ ci) (hcm : ci ≤ maxLen) (hv : RdV w ai (cu64 l)) (hls : ls.length = ns) (hnn : ns ≤ 2000000) (hnd : ns ≤ sc) (hcn : sc ≤ maxLen) (hs : RdV w sa (ls.flatMap sealC)) (htg : tg.length = 16) (hlha : xha.length = nha * 32) (hnha : nha ≤ 9000) (hdha : nha ≤ cha) (hcha : cha ≤ maxLen) (hrha : RdB w [] aha xha) (hlhb : xhb.length = nhb * 32) (hnhb : nhb ≤ 9000) (hdhb : nhb ≤ chb) (hchb : chb ≤ maxLen) (hrhb : RdB w [] ahb xhb) (hbi : ni ≤ 300) (hbs : ns ≤ 300) (hA : nha ≤ 300) (hB : nhb ≤ 300) (hR : repR (5:Int) (0:Int) th lj (blankB pv ep kd l ls bl tg) (decide (mayN pv ep kd l ls bl = 0)) nha nhb = true)  : Calls Tryd.prog 38 #[.agg ([U64 rq, I64 5, I64 0, SL aj nj cj, .bool th, U64 pv, U64 ep, I64 (kd), SL ai ni ci, SL sa ns sc, U64 bl] ++ cu8 tg ++ [SL aha nha cha, SL ahb nhb chb]).toArray] w (Post w [] (fun v L => ∃ g sp cap, v = Slc g 0 (10) cap ∧ L = [⟨g, cu8 ((numK 8 rq 8 ++ numK 1 (5:UInt64) 1) ++ numK 1 (0:UInt64) 1) ++ sp, 5, (0, 0)⟩] ∧ sp.length = cap - 10 ∧ 10 ≤ cap ∧ cap ≤ maxLen)) := by
 have hmx : maxLen = 9223372036854775807 := rfl
 have hf := repR_f hlj hR
 have hn0 := c2_len0 hlj (repR_2 hR (by decide +kernel))
 refine enter (P := Tryd.prog) (f := 38) (fn := Tryd.f38) w [] 95 [] [.agg ([U64 rq, I64 5, I64 0, SL aj nj cj, .bool th, U64 pv, U64 ep, I64 (kd), SL ai ni ci, SL sa ns sc, U64 bl] ++ cu8 tg ++ [SL aha nha cha, SL ahb nhb chb]).toArray] Tryd.func38 rfl rfl (by simp) (CC (by simp) (by simp) (by simp)) ?_
 show JC _ _ _ [(0, .agg ([U64 rq, I64 5, I64 0, SL aj nj cj, .bool th, U64 pv, U64 ep, I64 (kd), SL ai ni ci, SL sa ns sc, U64 bl] ++ cu8 tg ++ [SL aha nha cha, SL ahb nhb chb]).toArray)] _
 refine AK (AD (A9 (CL (.agg ([U64 rq, I64 5, I64 0, SL aj nj cj, .bool th, U64 pv, U64 ep, I64 (kd), SL ai ni ci, SL sa ns sc, U64 bl] ++ cu8 tg ++ [SL aha nha cha, SL ahb nhb chb]).toArray) ([U64 rq, I64 5, I64 0, SL aj nj cj, .bool th, U64 pv, U64 ep, I64 (kd), SL ai ni ci, SL sa ns sc, U64 bl] ++ cu8 tg ++ [SL aha nha cha, SL ahb nhb chb]) rfl (by first | rfl | simp)) rfl ?_))
 rintro v1 L1 ⟨nb1, hnb1, rfl, rfl⟩
 show JL _ _ _ _ ((1, Ptr nb1 0) :: _) [⟨nb1, [U64 rq, I64 5, I64 0, SL aj nj cj, .bool th, U64 pv, U64 ep, I64 (kd), SL ai ni ci, SL sa ns sc, U64 bl] ++ cu8 tg ++ [SL aha nha cha, SL ahb nhb chb], 71, (0, 0)⟩]
 refine AA _ (AH rfl) rfl ?_
 refine AN (AF (AK (AD (AA (.agg ([U64 rq, I64 5, I64 0, SL aj nj cj, .bool th, U64 pv, U64 ep, I64 (kd), SL ai ni ci, SL sa ns sc, U64 bl] ++ cu8 tg ++ [SL aha nha cha, SL ahb nhb chb]).toArray) (AI rfl (BV DR C2 (by simp [htg]) (AS 0 rfl (AV _)))) rfl ?_))))
 refine B1 (BG 94 [.agg ([U64 rq, I64 5, I64 0, SL aj nj cj, .bool th, U64 pv, U64 ep, I64 (kd), SL ai ni ci, SL sa ns sc, U64 bl] ++ cu8 tg ++ [SL aha nha cha, SL ahb nhb chb]).toArray] (.agg #[.bool (itB (0:Int) (5:Int)), .bool (chB (0:Int) (5:Int) th), .bool (aB (0:Int) (5:Int) th), .bool (bB (0:Int) (5:Int) th)]) (A6 _ Tryd.call94 rfl) (fun w1 hw1 => has_c rq (5:Int) (0:Int) aj nj cj lj th pv ep (kd) ai ni ci l sa ns sc ls bl tg aha nha cha xha ahb nhb chb xhb w1 htg)) rfl ?_
 show JL _ _ _ _ ((7, .agg #[.bool (itB (0:Int) (5:Int)), .bool (chB (0:Int) (5:Int) th), .bool (aB (0:Int) (5:Int) th), .bool (bB (0:Int) (5:Int) th)]) :: _) [_]
 refine A9 (DI _ ([.bool false, .bool false, .bool false, .bool false]) EY (by kernel_rfl)) rfl ?_
 rintro v1 L1 ⟨nb2, hnb2, rfl, rfl⟩
 show JL _ _ _ _ ((3, Ptr nb2 0) :: _) [_, ⟨nb2, [.bool false, .bool false, .bool false, .bool false], 168, (0, 0)⟩]
 refine B1 (CW 1 nb2 4 ([.bool false, .bool false, .bool false, .bool false]) 168 ([.bool (itB (0:Int) (5:Int)), .bool (chB (0:Int) (5:Int) th), .bool (aB (0:Int) (5:Int) th), .bool (bB (0:Int) (5:Int) th)]) rfl rfl rfl DT rfl (by simp [Value.oneCell']) (Nat.le_of_ble_eq_true rfl) (DC (by simp []))) rfl ?_
 show JL _ _ _ _ _ [_, ⟨nb2, [.bool (itB (0:Int) (5:Int)), .bool (chB (0:Int) (5:Int) th), .bool (aB (0:Int) (5:Int) th), .bool (bB (0:Int) (5:Int) th)], 168, (0, 0)⟩]
 refine AN (AF (AK (DH 95 4 [(0, Ptr nb1 0), (1, U64 rq), (3, Ptr nb1 1), (4, I64 5), (5, U8 5), (6, Ptr nb1 2), (7, I64 0), (8, U8 0)] B8 rfl (by decide +kernel) ?_)))
 refine DP_two ⟨[], [0, 1, 3, 4, 5, 6, 7, 8], [], [0, 1, 3, 4, 5, 6, 7, 8], [2, 9]⟩ 2 9 _ _ rfl rfl (by decide +kernel) rfl ⟨⟨_, rfl, AJ rfl (AB 0 22 1 AO rfl AX rfl rfl)⟩, ⟨_, rfl, AJ rfl (AI rfl (AQ AY (AS 0 rfl (AG (AG (Seg.head))))))⟩, ⟨_, rfl, AJ rfl (AB 1 3 1 AO rfl AR rfl rfl)⟩, ⟨_, rfl, AJ rfl (AI rfl (AQ AT (AS 0 rfl (AG (AG (AE (Seg.head)))))))⟩, ⟨_, rfl, AJ rfl (CX _ _ rfl fun _ => DA (by rw [AZ]; rfl) BA rfl)⟩, ⟨_, rfl, AJ rfl (AB 2 3 1 AO rfl AR rfl rfl)⟩, ⟨_, rfl, AJ rfl (AI rfl (AQ AT (AS 0 rfl (AG (AG (AE (AE (Seg.head))))))))⟩, ⟨_, rfl, AJ rfl (CX _ _ rfl fun _ => DA (by rw [AZ]; rfl) BA rfl)⟩, trivial⟩ rfl rfl (BI rfl (CG 88 [U64 rq, I64 8] _ (A6 _ D8 rfl) (fun w1 hw1 => EU rq 8 w1 (by omega)))) (BI rfl (B3 5 1 _ [(0, U8 5), (1, U8 0)] (cu8 ([(5:UInt8), 0])) AW B5 CE rfl rfl rfl (by kernel_rfl))) ?_ ?_
 ·
  rintro v1 L1 ⟨_, ⟨nb3, rfl, rfl⟩, rfl⟩
  refine ⟨[], ?_⟩
  show DP _ _ _ _ _ _ _ _ [_, _, ⟨nb3, cu8 (numK 8 rq 8), 5, (0, 0)⟩]
  refine CZ ⟨[2], [0, 1, 3, 4, 5, 6, 7, 8], [0, 1], [3, 4, 5, 6, 7, 8], [9]⟩ 9 _ rfl rfl (by decide +kernel) rfl ⟨⟨_, rfl, AJ rfl (AB 1 3 1 AO rfl AR rfl rfl)⟩, ⟨_, rfl, AJ rfl (AI rfl (AQ AT (AS 0 rfl (AG (AG (AE (Seg.head)))))))⟩, ⟨_, rfl, AJ rfl (CX _ _ rfl fun _ => DA (by rw [AZ]; rfl) BA rfl)⟩, ⟨_, rfl, AJ rfl (AB 2 3 1 AO rfl AR rfl rfl)⟩, ⟨_, rfl, AJ rfl (AI rfl (AQ AT (AS 0 rfl (AG (AG (AE (AE (Seg.head))))))))⟩, ⟨_, rfl, AJ rfl (CX _ _ rfl fun _ => DA (by rw [AZ]; rfl) BA rfl)⟩, trivial⟩ rfl (BI rfl (B3 5 1 _ [(0, U8 5), (1, U8 0)] (cu8 ([(5:UInt8), 0])) AW B5 CE rfl rfl rfl (by kernel_rfl))) ?_
  rintro v1 L1 ⟨nb5, hnb5, rfl, rfl⟩
  refine ⟨[], ?_⟩
  show DP _ _ _ _ _ _ _ _ [_, _, _, ⟨nb5, cu8 ([(5:UInt8), 0]), 5, (0, 0)⟩]
  refine CZ ⟨[2, 9], [0, 1, 3, 4, 5, 6, 7, 8], [0, 1, 3, 4, 5, 6, 7, 8], [], [10]⟩ 10 _ rfl rfl (by decide +kernel) rfl trivial rfl (BI rfl (CP 43 5 [false, false, true, false] (Slc nb3 0 8 8) 8 (numK 8 rq 8) ([(5:UInt8), 0]) (some ⟨nb5, 0, none⟩) 2 2 10 AW CM rfl (.inr ⟨nb3, [], 8, rfl, (by simp [take?, cu8, cu32, cu64]), (by first | exact (show (numK 8 rq 8).length = 8 from A4 _ _ _) | simp [(show (numK 8 rq 8).length = 8 from A4 _ _ _)]), (by simp), (by omega), (by unfold maxLen; omega)⟩) rfl (by simp) (SrcAt.mem (AS 3 rfl (AV _))) (by omega) (by unfold maxLen; omega) (by omega))) ?_
  rintro v1 L1 ⟨nb6, sp1, cp1, hg1, rfl, rfl, ha1, ha2, ha3, ha4⟩
  refine ⟨[(11, Slc nb6 0 10 cp1)], ?_⟩
  show DP _ _ _ _ _ _ _ _ [_, _, _, ⟨nb6, cu8 ((numK 8 rq 8) ++ ([(5:UInt8), 0])) ++ sp1, 5, (0, 0)⟩]
  refine DN ⟨[2, 9, 10], [0, 1, 3, 4, 5, 6, 7, 8, 11], [0, 1, 3, 4, 5, 6, 7, 8], [11], []⟩ rfl rfl (by decide +kernel) rfl ⟨⟨_, rfl, AJ rfl (AH rfl)⟩, trivial⟩ ?_
  refine C7 (F' := [(4, Slc nb6 0 10 cp1), (1, Ptr nb1 0), (2, SL none 0 0), (3, Ptr nb2 0)]) (by kernel_rfl) ?_
  refine AF (AK (AK (AD (AA (Ptr nb2 0) (BZ 4 4 1 0 A8 BB rfl rfl (by omega) (by omega) (by omega)) rfl ?_))))
  refine AA (.bool (itB (0:Int) (5:Int))) (AI rfl (AQ BD (AS 1 rfl (Seg.head)))) rfl ?_
  refine AN (AF (BN _ rfl (by decide +kernel) ?_))
  refine BE (AF (AK (AK (AD (AA _ (AH rfl) rfl ?_)))))
  refine AN (AF (B2 (BP [true, true, false, true] ?_)))
  show JC _ _ _ _ [_, _, _]
  refine DV (ι := Unit) (fun _ => [(1, Ptr nb1 0), (2, SL none 0 0), (3, Ptr nb2 0), (4, Slc nb6 0 10 cp1), (5, I64 0)]) (fun _ => [⟨nb1, [U64 rq, I64 5, I64 0, SL aj nj cj, .bool th, U64 pv, U64 ep, I64 (kd), SL ai ni ci, SL sa ns sc, U64 bl] ++ cu8 tg ++ [SL aha nha cha, SL ahb nhb chb], 71, (0, 0)⟩, ⟨nb2, [.bool (itB (0:Int) (5:Int)), .bool (chB (0:Int) (5:Int) th), .bool (aB (0:Int) (5:Int) th), .bool (bB (0:Int) (5:Int) th)], 168, (0, 0)⟩, ⟨nb6, cu8 ((numK 8 rq 8) ++ ([(5:UInt8), 0])) ++ sp1, 5, (0, 0)⟩]) (fun _ => True) (fun _ => 1) () trivial (Sub.all rfl) rfl ?_
  rintro _ _
  show JC _ _ _ [(1, Ptr nb1 0), (2, SL none 0 0), (3, Ptr nb2 0), (4, Slc nb6 0 10 cp1), (5, I64 0)] [⟨nb1, [U64 rq, I64 5, I64 0, SL aj nj cj, .bool th, U64 pv, U64 ep, I64 (kd), SL ai ni ci, SL sa ns sc, U64 bl] ++ cu8 tg ++ [SL aha nha cha, SL ahb nhb chb], 71, (0, 0)⟩, ⟨nb2, [.bool (itB (0:Int) (5:Int)), .bool (chB (0:Int) (5:Int) th), .bool (aB (0:Int) (5:Int) th), .bool (bB (0:Int) (5:Int) th)], 168, (0, 0)⟩, ⟨nb6, cu8 ((numK 8 rq 8) ++ ([(5:UInt8), 0])) ++ sp1, 5, (0, 0)⟩]
  refine AK (AK (AD (AA _ (AL rfl) rfl ?_)))
  refine AA (Ptr nb1 3) (AB 3 69 1 AO rfl BQ rfl rfl) rfl ?_
  refine AA (SL aj nj cj) (AI rfl (AQ B9 (AS 0 rfl (AG (AG (AE (AE (AE (Seg.head))))))))) rfl ?_
  refine AA (I64 nj) (CY BM rfl) rfl ?_
  refine AA (.bool (decide ((0:Int) < ((nj:Int))))) (AU rfl rfl fun _ => CR _ _) rfl ?_
  refine AN (AF (BN _ rfl (decide_eq_false (by omega)) ?_))
  refine DU (A5 (A5 (CQ (AF (AK (AK (AD (AA (Ptr nb1 2) (AB 2 3 1 AO rfl AR rfl rfl) rfl ?_))))))))
  refine AA (I64 0) (AI rfl (AQ AT (AS 0 rfl (AG (AG (AE (AE (Seg.head)))))))) rfl ?_
  refine AA (.bool (decide ((0:Int) = (0:Int)))) (AU rfl rfl fun _ => BO _ _) rfl ?_
  refine AA _ (AL rfl) rfl ?_
  refine AP 3 64 true _ (Ptr nb1 1) rfl rfl (by decide) (AB 1 3 1 AO rfl AR rfl rfl) rfl ?_
  refine AP 3 64 true _ (I64 5) rfl rfl (by decide) (AI rfl (AQ AT (AS 0 rfl (AG (AG (AE (Seg.head))))))) rfl ?_
  refine AP 3 64 true _ (.bool (decide ((5:Int) = (4:Int)))) rfl rfl (by decide) (AU rfl rfl fun _ => BO _ _) rfl ?_
  refine AA _ (A2 _ rfl (by decide) rfl) rfl ?_
  refine AN (AF (BN _ rfl (by decide) ?_))
  refine BE (AF (AK (AK (AD (AA (Ptr nb2 1) (BZ 4 4 1 1 A8 BB rfl rfl (by omega) (by omega) (by omega)) rfl ?_)))))
  refine AA (.bool (chB (0:Int) (5:Int) th)) (AI rfl (AQ BD (AS 1 rfl (AE (Seg.head))))) rfl ?_
  refine AN (AF (BN _ rfl ((by decide +kernel : ∀ t : Bool, (chB (0:Int) (5:Int) t) = false) th) ?_))
  refine BE (AF (AK (AK (AD (AA (Ptr nb2 2) (BZ 4 4 1 2 A8 BB rfl rfl (by omega) (by omega) (by omega)) rfl ?_)))))
  refine AA (.bool (aB (0:Int) (5:Int) th)) (AI rfl (AQ BD (AS 1 rfl (AE (AE (Seg.head)))))) rfl ?_
  refine AN (AF (BN _ rfl ((by decide +kernel : ∀ t : Bool, (aB (0:Int) (5:Int) t) = false) th) ?_))
  refine BE (AF (AK (AK (AD (AA (Ptr nb2 3) (BZ 4 4 1 3 A8 BB rfl rfl (by omega) (by omega) (by omega)) rfl ?_)))))
  refine AA (.bool (bB (0:Int) (5:Int) th)) (AI rfl (AQ BD (AS 1 rfl (AE (AE (AE (Seg.head))))))) rfl ?_
  refine AN (AF (BN _ rfl ((by decide +kernel : ∀ t : Bool, (bB (0:Int) (5:Int) t) = false) th) ?_))
  refine BE (AF (AK (AD (AA _ (AL rfl) rfl ?_))))
  refine AA _ (AH rfl) rfl ?_
  refine AN (AF (BK (BP [false, false, true] ?_)))
  show JQ _ _ _ _ [_]
  refine BJ (Slc nb6 0 10 cp1) (res1 EK (BH rfl)) fun w1 hw1 => ?_
  have hq : (numK 8 rq 8) ++ ([(5:UInt8), 0]) = (numK 8 rq 8 ++ numK 1 (5:UInt64) 1) ++ numK 1 (0:UInt64) 1 := by simp [EX, nkL0, nkL5, ← FA, List.append_assoc]
  rw [hq] at hw1
  exact ⟨_, _, rfl, ⟨nb6, sp1, cp1, rfl, rfl, ha2, ha3, ha4⟩, hw1.sub (by simp) (by simp)⟩
 ·
  rintro v1 L1 ⟨nb4, hnb4, rfl, rfl⟩
  refine ⟨[], ?_⟩
  show DP _ _ _ _ _ _ _ _ [_, _, ⟨nb4, cu8 ([(5:UInt8), 0]), 5, (0, 0)⟩]
  refine CZ ⟨[9], [0, 1, 3, 4, 5, 6, 7, 8], [3, 4, 5, 6, 7, 8], [0, 1], [2]⟩ 2 _ rfl rfl (by decide +kernel) rfl ⟨⟨_, rfl, AJ rfl (AB 0 22 1 AO rfl AX rfl rfl)⟩, ⟨_, rfl, AJ rfl (AI rfl (AQ AY (AS 0 rfl (AG (AG (Seg.head))))))⟩, trivial⟩ rfl (BI rfl (CG 88 [U64 rq, I64 8] _ (A6 _ D8 rfl) (fun w1 hw1 => EU rq 8 w1 (by omega)))) ?_
  rintro v1 L1 ⟨_, ⟨nb7, rfl, rfl⟩, rfl⟩
  refine ⟨[], ?_⟩
  show DP _ _ _ _ _ _ _ _ [_, _, _, ⟨nb7, cu8 (numK 8 rq 8), 5, (0, 0)⟩]
  refine CZ ⟨[9, 2], [0, 1, 3, 4, 5, 6, 7, 8], [0, 1, 3, 4, 5, 6, 7, 8], [], [10]⟩ 10 _ rfl rfl (by decide +kernel) rfl trivial rfl (BI rfl (CP 43 5 [false, false, false, true] (Slc nb7 0 8 8) 8 (numK 8 rq 8) ([(5:UInt8), 0]) (some ⟨nb4, 0, none⟩) 2 2 10 AW CM rfl (.inr ⟨nb7, [], 8, rfl, (by simp [take?, cu8, cu32, cu64]), (by first | exact (show (numK 8 rq 8).length = 8 from A4 _ _ _) | simp [(show (numK 8 rq 8).length = 8 from A4 _ _ _)]), (by simp), (by omega), (by unfold maxLen; omega)⟩) rfl (by simp) (SrcAt.mem (AS 2 rfl (AV _))) (by omega) (by unfold maxLen; omega) (by omega))) ?_
  rintro v1 L1 ⟨nb8, sp2, cp2, hg2, rfl, rfl, ha5, ha6, ha7, ha8⟩
  refine ⟨[(11, Slc nb8 0 10 cp2)], ?_⟩
  show DP _ _ _ _ _ _ _ _ [_, _, _, ⟨nb8, cu8 ((numK 8 rq 8) ++ ([(5:UInt8), 0])) ++ sp2, 5, (0, 0)⟩]
  refine DN ⟨[9, 2, 10], [0, 1, 3, 4, 5, 6, 7, 8, 11], [0, 1, 3, 4, 5, 6, 7, 8], [11], []⟩ rfl rfl (by decide +kernel) rfl ⟨⟨_, rfl, AJ rfl (AH rfl)⟩, trivial⟩ ?_
  refine C7 (F' := [(4, Slc nb8 0 10 cp2), (1, Ptr nb1 0), (2, SL none 0 0), (3, Ptr nb2 0)]) (by kernel_rfl) ?_
  refine AF (AK (AK (AD (AA (Ptr nb2 0) (BZ 4 4 1 0 A8 BB rfl rfl (by omega) (by omega) (by omega)) rfl ?_))))
  refine AA (.bool (itB (0:Int) (5:Int))) (AI rfl (AQ BD (AS 1 rfl (Seg.head)))) rfl ?_
  refine AN (AF (BN _ rfl (by decide +kernel) ?_))
  refine BE (AF (AK (AK (AD (AA _ (AH rfl) rfl ?_)))))
  refine AN (AF (B2 (BP [true, true, false, true] ?_)))
  show JC _ _ _ _ [_, _, _]
  refine DV (ι := Unit) (fun _ => [(1, Ptr nb1 0), (2, SL none 0 0), (3, Ptr nb2 0), (4, Slc nb8 0 10 cp2), (5, I64 0)]) (fun _ => [⟨nb1, [U64 rq, I64 5, I64 0, SL aj nj cj, .bool th, U64 pv, U64 ep, I64 (kd), SL ai ni ci, SL sa ns sc, U64 bl] ++ cu8 tg ++ [SL aha nha cha, SL ahb nhb chb], 71, (0, 0)⟩, ⟨nb2, [.bool (itB (0:Int) (5:Int)), .bool (chB (0:Int) (5:Int) th), .bool (aB (0:Int) (5:Int) th), .bool (bB (0:Int) (5:Int) th)], 168, (0, 0)⟩, ⟨nb8, cu8 ((numK 8 rq 8) ++ ([(5:UInt8), 0])) ++ sp2, 5, (0, 0)⟩]) (fun _ => True) (fun _ => 1) () trivial (Sub.all rfl) rfl ?_
  rintro _ _
  show JC _ _ _ [(1, Ptr nb1 0), (2, SL none 0 0), (3, Ptr nb2 0), (4, Slc nb8 0 10 cp2), (5, I64 0)] [⟨nb1, [U64 rq, I64 5, I64 0, SL aj nj cj, .bool th, U64 pv, U64 ep, I64 (kd), SL ai ni ci, SL sa ns sc, U64 bl] ++ cu8 tg ++ [SL aha nha cha, SL ahb nhb chb], 71, (0, 0)⟩, ⟨nb2, [.bool (itB (0:Int) (5:Int)), .bool (chB (0:Int) (5:Int) th), .bool (aB (0:Int) (5:Int) th), .bool (bB (0:Int) (5:Int) th)], 168, (0, 0)⟩, ⟨nb8, cu8 ((numK 8 rq 8) ++ ([(5:UInt8), 0])) ++ sp2, 5, (0, 0)⟩]
  refine AK (AK (AD (AA _ (AL rfl) rfl ?_)))
  refine AA (Ptr nb1 3) (AB 3 69 1 AO rfl BQ rfl rfl) rfl ?_
  refine AA (SL aj nj cj) (AI rfl (AQ B9 (AS 0 rfl (AG (AG (AE (AE (AE (Seg.head))))))))) rfl ?_
  refine AA (I64 nj) (CY BM rfl) rfl ?_
  refine AA (.bool (decide ((0:Int) < ((nj:Int))))) (AU rfl rfl fun _ => CR _ _) rfl ?_
  refine AN (AF (BN _ rfl (decide_eq_false (by omega)) ?_))
  refine DU (A5 (A5 (CQ (AF (AK (AK (AD (AA (Ptr nb1 2) (AB 2 3 1 AO rfl AR rfl rfl) rfl ?_))))))))
  refine AA (I64 0) (AI rfl (AQ AT (AS 0 rfl (AG (AG (AE (AE (Seg.head)))))))) rfl ?_
  refine AA (.bool (decide ((0:Int) = (0:Int)))) (AU rfl rfl fun _ => BO _ _) rfl ?_
  refine AA _ (AL rfl) rfl ?_
  refine AP 3 64 true _ (Ptr nb1 1) rfl rfl (by decide) (AB 1 3 1 AO rfl AR rfl rfl) rfl ?_
  refine AP 3 64 true _ (I64 5) rfl rfl (by decide) (AI rfl (AQ AT (AS 0 rfl (AG (AG (AE (Seg.head))))))) rfl ?_
  refine AP 3 64 true _ (.bool (decide ((5:Int) = (4:Int)))) rfl rfl (by decide) (AU rfl rfl fun _ => BO _ _) rfl ?_
  refine AA _ (A2 _ rfl (by decide) rfl) rfl ?_
  refine AN (AF (BN _ rfl (by decide) ?_))
  refine BE (AF (AK (AK (AD (AA (Ptr nb2 1) (BZ 4 4 1 1 A8 BB rfl rfl (by omega) (by omega) (by omega)) rfl ?_)))))
  refine AA (.bool (chB (0:Int) (5:Int) th)) (AI rfl (AQ BD (AS 1 rfl (AE (Seg.head))))) rfl ?_
  refine AN (AF (BN _ rfl ((by decide +kernel : ∀ t : Bool, (chB (0:Int) (5:Int) t) = false) th) ?_))
  refine BE (AF (AK (AK (AD (AA (Ptr nb2 2) (BZ 4 4 1 2 A8 BB rfl rfl (by omega) (by omega) (by omega)) rfl ?_)))))
  refine AA (.bool (aB (0:Int) (5:Int) th)) (AI rfl (AQ BD (AS 1 rfl (AE (AE (Seg.head)))))) rfl ?_
  refine AN (AF (BN _ rfl ((by decide +kernel : ∀ t : Bool, (aB (0:Int) (5:Int) t) = false) th) ?_))
  refine BE (AF (AK (AK (AD (AA (Ptr nb2 3) (BZ 4 4 1 3 A8 BB rfl rfl (by omega) (by omega) (by omega)) rfl ?_)))))
  refine AA (.bool (bB (0:Int) (5:Int) th)) (AI rfl (AQ BD (AS 1 rfl (AE (AE (AE (Seg.head))))))) rfl ?_
  refine AN (AF (BN _ rfl ((by decide +kernel : ∀ t : Bool, (bB (0:Int) (5:Int) t) = false) th) ?_))
  refine BE (AF (AK (AD (AA _ (AL rfl) rfl ?_))))
  refine AA _ (AH rfl) rfl ?_
  refine AN (AF (BK (BP [false, false, true] ?_)))
  show JQ _ _ _ _ [_]
  refine BJ (Slc nb8 0 10 cp2) (res1 EK (BH rfl)) fun w1 hw1 => ?_
  have hq : (numK 8 rq 8) ++ ([(5:UInt8), 0]) = (numK 8 rq 8 ++ numK 1 (5:UInt64) 1) ++ numK 1 (0:UInt64) 1 := by simp [EX, nkL0, nkL5, ← FA, List.append_assoc]
  rw [hq] at hw1
  exact ⟨_, _, rfl, ⟨nb8, sp2, cp2, rfl, rfl, ha6, ha7, ha8⟩, hw1.sub (by simp) (by simp)⟩
end Go.Proofs.YtkdpdgpphpngeaaDoor
namespace Go.Proofs.YtkdpdgpphpngeaaDoor
open Go Go.Sx Go.RowKit
open Go.Value renaming slice → SL
open Go.ChangeShapes Go.WideShapes
def repT (rq : UInt64) (rk er : Int) (nj : Nat) (lj : List ItemR) (th : Bool) (pv ep : UInt64) (kd : Int) (l : List UInt64) (ls : List SealR) (bl : UInt64) (tg : List UInt8) (nha : Nat) (xha : List UInt8) (nhb : Nat) (xhb : List UInt8) : List UInt8 :=
 if er ≠ 0 then (numK 8 rq 8 ++ numK 1 (UInt64.ofNat rk.toNat) 1) ++ numK 1 (UInt64.ofNat er.toNat) 1
 else if rk = 1 then (((((numK 8 rq 8 ++ numK 1 (1:UInt64) 1) ++ numK 1 (0:UInt64) 1) ++ numK 1 (UInt64.ofNat (nj - 1)) 1) ++ itmsT lj) ++ numK 2 (UInt64.ofNat nhb) 2) ++ xhb
 else if rk = 2 then (((((((numK 8 rq 8 ++ numK 1 (2:UInt64) 1) ++ numK 1 (0:UInt64) 1) ++ numK 1 (UInt64.ofNat (nj - 1)) 1) ++ itmsT lj) ++ numK 2 (UInt64.ofNat nha) 2) ++ xha) ++ numK 2 (UInt64.ofNat nhb) 2) ++ xhb
 else if rk = 3 then (((((numK 8 rq 8 ++ numK 1 (3:UInt64) 1) ++ numK 1 (0:UInt64) 1) ++ numK 2 (UInt64.ofNat nha) 2) ++ xha) ++ numK 2 (UInt64.ofNat nhb) 2) ++ xhb
 else if rk = 4 then (if th then (((((((numK 8 rq 8 ++ numK 1 (4:UInt64) 1) ++ numK 1 (0:UInt64) 1) ++ numK 1 (bitU true) 1) ++ ((tktT pv ep kd.toNat l ls bl) ++ tg)) ++ numK 2 (UInt64.ofNat nha) 2) ++ xha) ++ numK 2 (UInt64.ofNat nhb) 2) ++ xhb else ((numK 8 rq 8 ++ numK 1 (4:UInt64) 1) ++ numK 1 (0:UInt64) 1) ++ numK 1 (bitU false) 1)
 else (numK 8 rq 8 ++ numK 1 (5:UInt64) 1) ++ numK 1 (0:UInt64) 1
def Gh (vs : List Value) (g : Nat) (cs : List Value) (a : Option Addr) : Prop := vs = [] ∨ (a = some ⟨g, 0, none⟩ ∧ ∃ sp, cs = vs ++ sp)
theorem Gh.at {C : Cx} {L : List Ent} {w : World} (hw : Hp C.w0 C.M L w) {vs cs : List Value} {g T : Nat} {fz : Nat × Nat} {a : Option Addr} (i : Nat) (hi : L[i]? = some ⟨g, cs, T, fz⟩) (h : Gh vs g cs a) : RdV w a vs := by
  rcases h with rfl | ⟨rfl, sp, rfl⟩
  · exact RdV.nil
  · exact RdV.of hw (AS i hi (AG (AV _)))
theorem Gh.itm {l : List ItemR} {g : Nat} {cs : List Value} {a : Option Addr} {n : Nat} (h : l.length = n) (h0 : n = 0) : Gh (l.flatMap itemC) g cs a := by
 subst h0; rw [List.eq_nil_of_length_eq_zero h]; exact .inl rfl
theorem Hp.one {w0 w : World} {M : List Nat} {L : List Ent} (h : Hp w0 M L w) (i : Nat) {e : Ent} (hi : L[i]? = some e) : Hp w0 M [e] w := by
  refine h.sub (fun x hx => ?_) (by simp)
  rcases List.mem_cons.1 hx with rfl | hx
  · exact List.mem_of_getElem? hi
  · cases hx
theorem Hp.two {w0 w : World} {M : List Nat} {L : List Ent} (h : Hp w0 M L w) (i j : Nat) {e f : Ent} (hi : L[i]? = some e) (hj : L[j]? = some f) (hij : i ≠ j) : Hp w0 M [e, f] w := by
  refine h.sub (fun x hx => ?_) ?_
  · rcases List.mem_cons.1 hx with rfl | hx
    · exact List.mem_of_getElem? hi
    · rcases List.mem_cons.1 hx with rfl | hx
      · exact List.mem_of_getElem? hj
      · cases hx
  · refine List.nodup_cons.2 ⟨fun hm => hij ?_, List.nodup_cons.2 ⟨by simp, List.nodup_nil⟩⟩
    have e1 : e.b = f.b := by simpa using hm
    obtain ⟨hlt, _⟩ := List.getElem?_eq_some_iff.1 hi
    exact (List.getElem?_inj (by simpa using hlt) h.nd).1 (by rw [List.getElem?_map, List.getElem?_map, hi, hj]; simp [e1])
def LargeQ (nj nha nhb ni ns : Nat) : Prop := 300 < nj ∨ 300 < nha ∨ (300 < nhb ∧ nhb ≤ 8192) ∨ 9000 < nhb ∨ LargeP ni ns
instance (nj nha nhb ni ns : Nat) : Decidable (LargeQ nj nha nhb ni ns) := by unfold LargeQ; infer_instance
theorem LargeQ.nz {nj nha nhb ni ns : Nat} (h : ¬ LargeQ nj nha nhb ni ns) : nj ≤ 300 ∧ nha ≤ 300 ∧ nhb ≤ 9000 ∧ (nhb ≤ 8192 → nhb ≤ 300) ∧ ni ≤ 300 ∧ ns ≤ 300 := by
 unfold LargeQ at h
 have h2 := large_not (n := ni) (m := ns) (fun e => h (by simp [e]))
 omega
theorem repR_4 {rk er : Int} {th bt my : Bool} {lj : List ItemR} {na nb : Nat} (h : repR rk er th lj bt my na nb = true) : na ≤ 256 ∧ nb ≤ 8192 := by
 have h1 := (repR_all h).2.2.2
 unfold c4B at h1
 rw [Bool.and_eq_true] at h1
 exact of_decide_eq_true h1.1
theorem repR_my {bt my : Bool} {lj : List ItemR} {na nb : Nat} (h : repR 4 0 true lj bt my na nb = true) : my = true := by
 have h1 := (repR_all h).2.2.1
 rwa [show chB 0 4 true = true from by decide +kernel] at h1
end Go.Proofs.YtkdpdgpphpngeaaDoor
