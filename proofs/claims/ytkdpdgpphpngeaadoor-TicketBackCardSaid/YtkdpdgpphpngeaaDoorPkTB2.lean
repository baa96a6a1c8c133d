import Derived.MakeChecks
import Derived.Laws.StructEq
import Derived.Lib.LaidTab
import Derived.Shelf.Bytes.SlJoin
import Derived.Test.YtkdpdgpphpngeaaDoorPkTB1
set_option linter.unusedVariables false
set_option linter.unusedSimpArgs false
set_option maxRecDepth 100000
namespace Go.Proofs.YtkdpdgpphpngeaaDoor
open Go Go.Sx
attribute [local irreducible] mid zr8 zr32 rotr wordL spreadL comprL cpN adN spN wrdN constL initL
theorem spread_c (blk : List UInt8) (w : World) (hb : blk.length = 64) : Calls Tryd.prog 202 #[.agg (cu8 blk).toArray] w (Post w [] (fun v L => v = .agg (cu32 (spreadL blk)).toArray ∧ L = [])) := by
 refine enter w [] 60 [] [.agg (cu8 blk).toArray] Tryd.func202 rfl rfl (by simp) (BZ (by simp) (by simp) (by simp)) ?_
 show JC _ _ _ [(0, .agg (cu8 blk).toArray)] _
 refine AI (AD (A1 (CW (.agg (cu8 blk).toArray) (cu8 blk) rfl (by first | rfl | simp)) rfl ?_))
 rintro v1 L1 ⟨nb1, hnb1, rfl, rfl⟩
 show JL _ _ _ _ ((1, Ptr nb1 0) :: _) [⟨nb1, cu8 blk, 262, (0, 0)⟩]
 refine A1 (BG _ (cu32 (zr32 64)) Tryd.zeroValue282 (by kernel_rfl)) rfl ?_
 rintro v1 L1 ⟨nb2, hnb2, rfl, rfl⟩
 show JL _ _ _ _ ((2, Ptr nb2 0) :: _) [_, ⟨nb2, cu32 (zr32 64), 282, (0, 0)⟩]
 refine AN (AE (AI (AD (A1 (BG _ (cu32 (zr32 64)) Tryd.zeroValue282 (by kernel_rfl)) rfl ?_))))
 rintro v1 L1 ⟨nb3, hnb3, rfl, rfl⟩
 show JL _ _ _ _ ((3, Ptr nb3 0) :: _) [_, _, ⟨nb3, cu32 (zr32 64), 282, (0, 0)⟩]
 refine AN (AE (AI (AI (AD (AA _ (AH rfl) rfl ?_)))))
 refine AN (AE (BY (EE (ι := Nat × List UInt32) (fun ⟨t, ww⟩ => [(1, Ptr nb1 0), (2, Ptr nb2 0), (3, Ptr nb3 0), (7, I64 t)]) (fun ⟨t, ww⟩ => [⟨nb1, cu8 blk, 262, (0, 0)⟩, ⟨nb2, cu32 (zr32 64), 282, (0, 0)⟩, ⟨nb3, cu32 ww, 282, (0, 0)⟩]) (fun ⟨t, ww⟩ => t ≤ 64 ∧ ww = spN blk t ∧ ww.length = 64) (fun ⟨t, ww⟩ => 64 - t) (0, zr32 64) ⟨by omega, by rw [spN], FP 64⟩ (Sub.all rfl) rfl ?_)))
 rintro ⟨t, ww⟩ ⟨hx1, hx2, hw⟩
 show JC _ _ _ [(1, Ptr nb1 0), (2, Ptr nb2 0), (3, Ptr nb3 0), (7, I64 t)] [⟨nb1, cu8 blk, 262, (0, 0)⟩, ⟨nb2, cu32 (zr32 64), 282, (0, 0)⟩, ⟨nb3, cu32 ww, 282, (0, 0)⟩]
 refine AI (AD (AA (.bool (decide (((t:Int)) < (64:Int)))) (AR rfl rfl fun _ => CS _ _) rfl ?_))
 refine AN (AE (AI (CY (decide (((t:Int)) < (64:Int))) rfl (fun hb1 => ?_) (fun hb1 => ?_))))
 ·
  have hp1 : ((t:Int)) < (64:Int) := of_decide_eq_true hb1
  refine BT (AE (AI (BY (AI (AD (AA _ (AH rfl) rfl ?_))))))
  refine AA _ (AG rfl) rfl ?_
  refine AN (AE (AI (AI (AD (AA _ (AH rfl) rfl ?_)))))
  refine AA (.bool (decide (((t:Int)) < (16:Int)))) (AR rfl rfl fun _ => CS _ _) rfl ?_
  refine AN (AE (CY (decide (((t:Int)) < (16:Int))) rfl (fun hb2 => ?_) (fun hb2 => ?_)))
  ·
   have hp2 : ((t:Int)) < (16:Int) := of_decide_eq_true hb2
   refine AI (AD (AA _ (AH rfl) rfl ?_))
   refine AA _ (AH rfl) rfl ?_
   refine AA (I64 (4*(t:Int))) (AR rfl rfl fun _ => E8 _ _ (4*(t:Int)) (by omega) (by omega)) rfl ?_
   refine AA _ (AH rfl) rfl ?_
   refine AA (I64 (4*(t:Int))) (AR rfl rfl fun _ => E8 _ _ (4*(t:Int)) (by omega) (by omega)) rfl ?_
   refine AA (I64 (4*(t:Int) + 4)) (AR rfl rfl fun _ => DF _ _ (4*(t:Int) + 4) (by omega) (by omega)) rfl ?_
   refine AA (Slc nb1 (4*t) 4 (64 - 4*t)) (B3 64 5 1 (4*t) (4*t + 4) (4*t) (64 - 4*t) Tryd.underlying262 AW rfl (EQ (by omega)) (EQ (by omega)) (by omega) (by omega) (by omega) (by omega) (by omega) 4 (by omega)) rfl ?_
   have hl1 : (mid blk (4*t) 4).length = 4 := E3 (by rw [hb]; omega)
   refine A7 (A3 207 [Slc nb1 (4*t) 4 (64 - 4*t)] (U32 (wordL (mid blk (4*t) 4))) (AY _ Tryd.call207 rfl) (fun w1 hw1 => word_c (some ⟨nb1, (4*t), none⟩) (64 - 4*t) (mid blk (4*t) 4) w1 hl1 (RdB.of hw1 (AS 0 rfl (segm_u8 (4*t) 4 (by rw [hb]; omega))) (by simp)))) rfl ?_
   show JL _ _ _ _ ((19, U32 (wordL (mid blk (4*t) 4))) :: _) [_, _, _]
   refine AA (Ptr nb3 t) (BR 64 267 1 t BS BD rfl rfl (by omega) (by omega) (by omega)) rfl ?_
   have hl2 : (ww.set t (wordL (mid blk (4*t) 4))).length = 64 := by first | (rw [List.length_set]; exact hw) | simp [hw]
   refine A7 (DT 2 nb3 t 1 (cu32 ww) 282 (U32 (wordL (mid blk (4*t) 4))) ([U32 (wordL (mid blk (4*t) 4))]) (cu32 (ww.set t (wordL (mid blk (4*t) 4)))) rfl rfl rfl rfl BD rfl (by simp [Value.oneCell']) (by simp [hw]; try omega) (lay32 _ _ _ (by rw [hw]; omega))) rfl ?_
   show JL _ _ _ _ _ [_, _, ⟨nb3, cu32 (ww.set t (wordL (mid blk (4*t) 4))), 282, (0, 0)⟩]
   refine AN (AE (D8 (BB (CV (AE (AD (AA (I64 ((t:Int) + 1)) (AR rfl rfl fun _ => DF _ _ ((t:Int) + 1) (by omega) (by omega)) rfl ?_)))))))
   refine AA _ (AH rfl) rfl ?_
   refine AN (DH (EP (t + 1, ww.set t (wordL (mid blk (4*t) 4))) ⟨by omega, by rw [spN, spS, if_pos (by omega), ← hx2], hl2⟩ (by first | (simp; omega) | simp | (dsimp only; omega) | omega) (Sub.all rfl) rfl))
  ·
   have hp2 : ¬ (((t:Int)) < (16:Int)) := of_decide_eq_false hb2
   refine BT (AE (AI (C1 60 1 [(0, I64 t), (1, I64 ((t:Int) - 15)), (2, Ptr nb3 (t - 15)), (3, U32 (g32 ww (t - 15))), (4, I64 t), (5, I64 ((t:Int) - 2)), (6, Ptr nb3 (t - 2)), (7, U32 (g32 ww (t - 2))), (8, U32 (g32 ww (t - 15))), (9, U32 (g32 ww (t - 2)))] BV rfl (by decide +kernel) ?_)))
   refine C4 ⟨[], [0, 1, 2, 3, 4, 5, 6, 7, 8, 9], [], [0, 1, 2, 3, 4, 5, 6, 7, 8, 9], []⟩ rfl rfl (by decide +kernel) rfl ⟨A2 rfl rfl rfl, ⟨_, rfl, AC rfl (AR rfl rfl fun _ => DD _ _ ((t:Int) - 15) (by omega) (by omega))⟩, ⟨_, rfl, AC rfl (BR 64 267 1 (t - 15) BS BD rfl rfl (by omega) (by omega) (by omega))⟩, ⟨_, rfl, AC rfl (AK rfl (AV BM (AS 2 rfl (Seg.get (DI (i := (t - 15)) (by rw [hw]; omega))))))⟩, A2 rfl rfl rfl, ⟨_, rfl, AC rfl (AR rfl rfl fun _ => DD _ _ ((t:Int) - 2) (by omega) (by omega))⟩, ⟨_, rfl, AC rfl (BR 64 267 1 (t - 2) BS BD rfl rfl (by omega) (by omega) (by omega))⟩, ⟨_, rfl, AC rfl (AK rfl (AV BM (AS 2 rfl (Seg.get (DI (i := (t - 2)) (by rw [hw]; omega))))))⟩, ⟨_, rfl, AC rfl (AG rfl)⟩, ⟨_, rfl, AC rfl (AG rfl)⟩, trivial⟩ ?_
   refine CI (F' := [(21, I64 t), (22, I64 ((t:Int) - 15)), (23, Ptr nb3 (t - 15)), (24, U32 (g32 ww (t - 15))), (25, I64 t), (26, I64 ((t:Int) - 2)), (27, Ptr nb3 (t - 2)), (28, U32 (g32 ww (t - 2))), (5, U32 (g32 ww (t - 15))), (6, U32 (g32 ww (t - 2))), (1, Ptr nb1 0), (2, Ptr nb2 0), (3, Ptr nb3 0), (7, I64 t), (8, .bool (decide (((t:Int)) < (64:Int)))), (9, I64 t), (4, I64 t), (10, I64 t), (11, .bool (decide (((t:Int)) < (16:Int))))]) (by kernel_rfl) ?_
   refine AE (C1 60 6 [(0, I64 t), (1, I64 t), (2, I64 ((t:Int) - 16)), (3, Ptr nb3 (t - 16)), (4, U32 (g32 ww (t - 16))), (5, U32 (g32 ww (t - 15))), (7, U32 (g32 ww (t - 15))), (10, U32 (g32 ww (t - 15))), (11, U32 ((g32 ww (t - 15)) >>> (3:UInt32))), (14, I64 t), (15, I64 ((t:Int) - 7)), (16, Ptr nb3 (t - 7)), (17, U32 (g32 ww (t - 7))), (19, U32 (g32 ww (t - 2))), (21, U32 (g32 ww (t - 2))), (24, U32 (g32 ww (t - 2))), (25, U32 ((g32 ww (t - 2)) >>> (10:UInt32)))] BV rfl (by decide +kernel) ?_)
   refine CQ ⟨[], [0, 1, 2, 3, 4, 5, 7, 10, 11, 14, 15, 16, 17, 19, 21, 24, 25], [], [0, 1, 2, 3, 4, 5, 7, 10, 11, 14, 15, 16, 17, 19, 21, 24, 25], [6]⟩ 6 rfl rfl (by decide +kernel) rfl ⟨A2 rfl rfl rfl, A2 rfl rfl rfl, ⟨_, rfl, AC rfl (AR rfl rfl fun _ => DD _ _ ((t:Int) - 16) (by omega) (by omega))⟩, ⟨_, rfl, AC rfl (BR 64 267 1 (t - 16) BS BD rfl rfl (by omega) (by omega) (by omega))⟩, ⟨_, rfl, AC rfl (AK rfl (AV BM (AS 2 rfl (Seg.get (DI (i := (t - 16)) (by rw [hw]; omega))))))⟩, A2 rfl rfl rfl, A2 rfl rfl rfl, A2 rfl rfl rfl, ⟨_, rfl, AC rfl (AR rfl rfl fun _ => EO (g32 ww (t - 15)) _ _ 3 (by decide) rfl)⟩, A2 rfl rfl rfl, ⟨_, rfl, AC rfl (AR rfl rfl fun _ => DD _ _ ((t:Int) - 7) (by omega) (by omega))⟩, ⟨_, rfl, AC rfl (BR 64 267 1 (t - 7) BS BD rfl rfl (by omega) (by omega) (by omega))⟩, ⟨_, rfl, AC rfl (AK rfl (AV BM (AS 2 rfl (Seg.get (DI (i := (t - 7)) (by rw [hw]; omega))))))⟩, A2 rfl rfl rfl, A2 rfl rfl rfl, A2 rfl rfl rfl, ⟨_, rfl, AC rfl (AR rfl rfl fun _ => EO (g32 ww (t - 2)) _ _ 10 (by decide) rfl)⟩, trivial⟩ rfl (AZ rfl (A3 203 [U32 (g32 ww (t - 15)), I64 7] (U32 (rotr (g32 ww (t - 15)) 7)) (AY _ Tryd.call203 rfl) (fun w1 hw1 => turn_c (g32 ww (t - 15)) 7 w1 (by omega) (by omega)))) ?_
   show DP _ _ _ _ _ _ _ _ [_, _, _]
   refine CR ⟨[6], [0, 1, 2, 3, 4, 5, 7, 10, 11, 14, 15, 16, 17, 19, 21, 24, 25], [5], [0, 1, 2, 3, 4, 7, 10, 11, 14, 15, 16, 17, 19, 21, 24, 25], [8]⟩ 8 _ rfl rfl (by decide +kernel) rfl ⟨A2 rfl rfl rfl, A2 rfl rfl rfl, ⟨_, rfl, AC rfl (AR rfl rfl fun _ => DD _ _ ((t:Int) - 16) (by omega) (by omega))⟩, ⟨_, rfl, AC rfl (BR 64 267 1 (t - 16) BS BD rfl rfl (by omega) (by omega) (by omega))⟩, ⟨_, rfl, AC rfl (AK rfl (AV BM (AS 2 rfl (Seg.get (DI (i := (t - 16)) (by rw [hw]; omega))))))⟩, A2 rfl rfl rfl, A2 rfl rfl rfl, ⟨_, rfl, AC rfl (AR rfl rfl fun _ => EO (g32 ww (t - 15)) _ _ 3 (by decide) rfl)⟩, A2 rfl rfl rfl, ⟨_, rfl, AC rfl (AR rfl rfl fun _ => DD _ _ ((t:Int) - 7) (by omega) (by omega))⟩, ⟨_, rfl, AC rfl (BR 64 267 1 (t - 7) BS BD rfl rfl (by omega) (by omega) (by omega))⟩, ⟨_, rfl, AC rfl (AK rfl (AV BM (AS 2 rfl (Seg.get (DI (i := (t - 7)) (by rw [hw]; omega))))))⟩, A2 rfl rfl rfl, A2 rfl rfl rfl, A2 rfl rfl rfl, ⟨_, rfl, AC rfl (AR rfl rfl fun _ => EO (g32 ww (t - 2)) _ _ 10 (by decide) rfl)⟩, trivial⟩ rfl (AZ rfl (A3 203 [U32 (g32 ww (t - 15)), I64 18] (U32 (rotr (g32 ww (t - 15)) 18)) (AY _ Tryd.call203 rfl) (fun w1 hw1 => turn_c (g32 ww (t - 15)) 18 w1 (by omega) (by omega)))) ?_
   rintro v1 L1 ⟨rfl, rfl⟩
   refine ⟨[(9, U32 ((rotr (g32 ww (t - 15)) 7) ^^^ (rotr (g32 ww (t - 15)) 18))), (12, U32 (((rotr (g32 ww (t - 15)) 7) ^^^ (rotr (g32 ww (t - 15)) 18)) ^^^ ((g32 ww (t - 15)) >>> (3:UInt32)))), (13, U32 ((g32 ww (t - 16)) + (((rotr (g32 ww (t - 15)) 7) ^^^ (rotr (g32 ww (t - 15)) 18)) ^^^ ((g32 ww (t - 15)) >>> (3:UInt32))))), (18, U32 (((g32 ww (t - 16)) + (((rotr (g32 ww (t - 15)) 7) ^^^ (rotr (g32 ww (t - 15)) 18)) ^^^ ((g32 ww (t - 15)) >>> (3:UInt32)))) + (g32 ww (t - 7))))], ?_⟩
   show DP _ _ _ _ _ _ _ _ [_, _, _]
   refine CQ ⟨[6, 8], [0, 1, 2, 3, 4, 5, 7, 9, 10, 11, 12, 13, 14, 15, 16, 17, 18, 19, 21, 24, 25], [5, 7], [0, 1, 2, 3, 4, 9, 10, 11, 12, 13, 14, 15, 16, 17, 18, 19, 21, 24, 25], [20]⟩ 20 rfl rfl (by decide +kernel) rfl ⟨A2 rfl rfl rfl, A2 rfl rfl rfl, ⟨_, rfl, AC rfl (AR rfl rfl fun _ => DD _ _ ((t:Int) - 16) (by omega) (by omega))⟩, ⟨_, rfl, AC rfl (BR 64 267 1 (t - 16) BS BD rfl rfl (by omega) (by omega) (by omega))⟩, ⟨_, rfl, AC rfl (AK rfl (AV BM (AS 2 rfl (Seg.get (DI (i := (t - 16)) (by rw [hw]; omega))))))⟩, ⟨_, rfl, AC rfl (AR rfl rfl fun _ => C6 (rotr (g32 ww (t - 15)) 7) (rotr (g32 ww (t - 15)) 18))⟩, A2 rfl rfl rfl, ⟨_, rfl, AC rfl (AR rfl rfl fun _ => EO (g32 ww (t - 15)) _ _ 3 (by decide) rfl)⟩, ⟨_, rfl, AC rfl (AR rfl rfl fun _ => C6 ((rotr (g32 ww (t - 15)) 7) ^^^ (rotr (g32 ww (t - 15)) 18)) ((g32 ww (t - 15)) >>> (3:UInt32)))⟩, ⟨_, rfl, AC rfl (AR rfl rfl fun _ => C7 (g32 ww (t - 16)) (((rotr (g32 ww (t - 15)) 7) ^^^ (rotr (g32 ww (t - 15)) 18)) ^^^ ((g32 ww (t - 15)) >>> (3:UInt32))))⟩, A2 rfl rfl rfl, ⟨_, rfl, AC rfl (AR rfl rfl fun _ => DD _ _ ((t:Int) - 7) (by omega) (by omega))⟩, ⟨_, rfl, AC rfl (BR 64 267 1 (t - 7) BS BD rfl rfl (by omega) (by omega) (by omega))⟩, ⟨_, rfl, AC rfl (AK rfl (AV BM (AS 2 rfl (Seg.get (DI (i := (t - 7)) (by rw [hw]; omega))))))⟩, ⟨_, rfl, AC rfl (AR rfl rfl fun _ => C7 ((g32 ww (t - 16)) + (((rotr (g32 ww (t - 15)) 7) ^^^ (rotr (g32 ww (t - 15)) 18)) ^^^ ((g32 ww (t - 15)) >>> (3:UInt32)))) (g32 ww (t - 7)))⟩, A2 rfl rfl rfl, A2 rfl rfl rfl, A2 rfl rfl rfl, ⟨_, rfl, AC rfl (AR rfl rfl fun _ => EO (g32 ww (t - 2)) _ _ 10 (by decide) rfl)⟩, trivial⟩ rfl (AZ rfl (A3 203 [U32 (g32 ww (t - 2)), I64 17] (U32 (rotr (g32 ww (t - 2)) 17)) (AY _ Tryd.call203 rfl) (fun w1 hw1 => turn_c (g32 ww (t - 2)) 17 w1 (by omega) (by omega)))) ?_
   show DP _ _ _ _ _ _ _ _ [_, _, _]
   refine CR ⟨[6, 8, 20], [0, 1, 2, 3, 4, 5, 7, 9, 10, 11, 12, 13, 14, 15, 16, 17, 18, 19, 21, 24, 25], [5, 7, 19], [0, 1, 2, 3, 4, 9, 10, 11, 12, 13, 14, 15, 16, 17, 18, 21, 24, 25], [22]⟩ 22 _ rfl rfl (by decide +kernel) rfl ⟨A2 rfl rfl rfl, A2 rfl rfl rfl, ⟨_, rfl, AC rfl (AR rfl rfl fun _ => DD _ _ ((t:Int) - 16) (by omega) (by omega))⟩, ⟨_, rfl, AC rfl (BR 64 267 1 (t - 16) BS BD rfl rfl (by omega) (by omega) (by omega))⟩, ⟨_, rfl, AC rfl (AK rfl (AV BM (AS 2 rfl (Seg.get (DI (i := (t - 16)) (by rw [hw]; omega))))))⟩, ⟨_, rfl, AC rfl (AR rfl rfl fun _ => C6 (rotr (g32 ww (t - 15)) 7) (rotr (g32 ww (t - 15)) 18))⟩, A2 rfl rfl rfl, ⟨_, rfl, AC rfl (AR rfl rfl fun _ => EO (g32 ww (t - 15)) _ _ 3 (by decide) rfl)⟩, ⟨_, rfl, AC rfl (AR rfl rfl fun _ => C6 ((rotr (g32 ww (t - 15)) 7) ^^^ (rotr (g32 ww (t - 15)) 18)) ((g32 ww (t - 15)) >>> (3:UInt32)))⟩, ⟨_, rfl, AC rfl (AR rfl rfl fun _ => C7 (g32 ww (t - 16)) (((rotr (g32 ww (t - 15)) 7) ^^^ (rotr (g32 ww (t - 15)) 18)) ^^^ ((g32 ww (t - 15)) >>> (3:UInt32))))⟩, A2 rfl rfl rfl, ⟨_, rfl, AC rfl (AR rfl rfl fun _ => DD _ _ ((t:Int) - 7) (by omega) (by omega))⟩, ⟨_, rfl, AC rfl (BR 64 267 1 (t - 7) BS BD rfl rfl (by omega) (by omega) (by omega))⟩, ⟨_, rfl, AC rfl (AK rfl (AV BM (AS 2 rfl (Seg.get (DI (i := (t - 7)) (by rw [hw]; omega))))))⟩, ⟨_, rfl, AC rfl (AR rfl rfl fun _ => C7 ((g32 ww (t - 16)) + (((rotr (g32 ww (t - 15)) 7) ^^^ (rotr (g32 ww (t - 15)) 18)) ^^^ ((g32 ww (t - 15)) >>> (3:UInt32)))) (g32 ww (t - 7)))⟩, A2 rfl rfl rfl, A2 rfl rfl rfl, ⟨_, rfl, AC rfl (AR rfl rfl fun _ => EO (g32 ww (t - 2)) _ _ 10 (by decide) rfl)⟩, trivial⟩ rfl (AZ rfl (A3 203 [U32 (g32 ww (t - 2)), I64 19] (U32 (rotr (g32 ww (t - 2)) 19)) (AY _ Tryd.call203 rfl) (fun w1 hw1 => turn_c (g32 ww (t - 2)) 19 w1 (by omega) (by omega)))) ?_
   rintro v1 L1 ⟨rfl, rfl⟩
   refine ⟨[(23, U32 ((rotr (g32 ww (t - 2)) 17) ^^^ (rotr (g32 ww (t - 2)) 19))), (26, U32 (((rotr (g32 ww (t - 2)) 17) ^^^ (rotr (g32 ww (t - 2)) 19)) ^^^ ((g32 ww (t - 2)) >>> (10:UInt32)))), (27, U32 ((((g32 ww (t - 16)) + (((rotr (g32 ww (t - 15)) 7) ^^^ (rotr (g32 ww (t - 15)) 18)) ^^^ ((g32 ww (t - 15)) >>> (3:UInt32)))) + (g32 ww (t - 7))) + (((rotr (g32 ww (t - 2)) 17) ^^^ (rotr (g32 ww (t - 2)) 19)) ^^^ ((g32 ww (t - 2)) >>> (10:UInt32))))), (28, Ptr nb3 t)], ?_⟩
   show DP _ _ _ _ _ _ _ _ [_, _, _]
   have hl3 : (ww.set t ((((g32 ww (t - 16)) + (((rotr (g32 ww (t - 15)) 7) ^^^ (rotr (g32 ww (t - 15)) 18)) ^^^ ((g32 ww (t - 15)) >>> (3:UInt32)))) + (g32 ww (t - 7))) + (((rotr (g32 ww (t - 2)) 17) ^^^ (rotr (g32 ww (t - 2)) 19)) ^^^ ((g32 ww (t - 2)) >>> (10:UInt32))))).length = 64 := by first | (rw [List.length_set]; exact hw) | simp [hw]
   refine CQ ⟨[6, 8, 20, 22], [0, 1, 2, 3, 4, 5, 7, 9, 10, 11, 12, 13, 14, 15, 16, 17, 18, 19, 21, 23, 24, 25, 26, 27, 28], [5, 7, 19, 21], [0, 1, 2, 3, 4, 9, 10, 11, 12, 13, 14, 15, 16, 17, 18, 23, 24, 25, 26, 27, 28], [29]⟩ 29 rfl rfl (by decide +kernel) rfl ⟨A2 rfl rfl rfl, A2 rfl rfl rfl, ⟨_, rfl, AC rfl (AR rfl rfl fun _ => DD _ _ ((t:Int) - 16) (by omega) (by omega))⟩, ⟨_, rfl, AC rfl (BR 64 267 1 (t - 16) BS BD rfl rfl (by omega) (by omega) (by omega))⟩, ⟨_, rfl, AC rfl (AK rfl (AV BM (AS 2 rfl (Seg.get (DI (i := (t - 16)) (by rw [hw]; omega))))))⟩, ⟨_, rfl, AC rfl (AR rfl rfl fun _ => C6 (rotr (g32 ww (t - 15)) 7) (rotr (g32 ww (t - 15)) 18))⟩, A2 rfl rfl rfl, ⟨_, rfl, AC rfl (AR rfl rfl fun _ => EO (g32 ww (t - 15)) _ _ 3 (by decide) rfl)⟩, ⟨_, rfl, AC rfl (AR rfl rfl fun _ => C6 ((rotr (g32 ww (t - 15)) 7) ^^^ (rotr (g32 ww (t - 15)) 18)) ((g32 ww (t - 15)) >>> (3:UInt32)))⟩, ⟨_, rfl, AC rfl (AR rfl rfl fun _ => C7 (g32 ww (t - 16)) (((rotr (g32 ww (t - 15)) 7) ^^^ (rotr (g32 ww (t - 15)) 18)) ^^^ ((g32 ww (t - 15)) >>> (3:UInt32))))⟩, A2 rfl rfl rfl, ⟨_, rfl, AC rfl (AR rfl rfl fun _ => DD _ _ ((t:Int) - 7) (by omega) (by omega))⟩, ⟨_, rfl, AC rfl (BR 64 267 1 (t - 7) BS BD rfl rfl (by omega) (by omega) (by omega))⟩, ⟨_, rfl, AC rfl (AK rfl (AV BM (AS 2 rfl (Seg.get (DI (i := (t - 7)) (by rw [hw]; omega))))))⟩, ⟨_, rfl, AC rfl (AR rfl rfl fun _ => C7 ((g32 ww (t - 16)) + (((rotr (g32 ww (t - 15)) 7) ^^^ (rotr (g32 ww (t - 15)) 18)) ^^^ ((g32 ww (t - 15)) >>> (3:UInt32)))) (g32 ww (t - 7)))⟩, ⟨_, rfl, AC rfl (AR rfl rfl fun _ => C6 (rotr (g32 ww (t - 2)) 17) (rotr (g32 ww (t - 2)) 19))⟩, A2 rfl rfl rfl, ⟨_, rfl, AC rfl (AR rfl rfl fun _ => EO (g32 ww (t - 2)) _ _ 10 (by decide) rfl)⟩, ⟨_, rfl, AC rfl (AR rfl rfl fun _ => C6 ((rotr (g32 ww (t - 2)) 17) ^^^ (rotr (g32 ww (t - 2)) 19)) ((g32 ww (t - 2)) >>> (10:UInt32)))⟩, ⟨_, rfl, AC rfl (AR rfl rfl fun _ => C7 (((g32 ww (t - 16)) + (((rotr (g32 ww (t - 15)) 7) ^^^ (rotr (g32 ww (t - 15)) 18)) ^^^ ((g32 ww (t - 15)) >>> (3:UInt32)))) + (g32 ww (t - 7))) (((rotr (g32 ww (t - 2)) 17) ^^^ (rotr (g32 ww (t - 2)) 19)) ^^^ ((g32 ww (t - 2)) >>> (10:UInt32))))⟩, ⟨_, rfl, AC rfl (BR 64 267 1 t BS BD rfl rfl (by omega) (by omega) (by omega))⟩, trivial⟩ rfl (AZ rfl (DT 2 nb3 t 1 (cu32 ww) 282 (U32 ((((g32 ww (t - 16)) + (((rotr (g32 ww (t - 15)) 7) ^^^ (rotr (g32 ww (t - 15)) 18)) ^^^ ((g32 ww (t - 15)) >>> (3:UInt32)))) + (g32 ww (t - 7))) + (((rotr (g32 ww (t - 2)) 17) ^^^ (rotr (g32 ww (t - 2)) 19)) ^^^ ((g32 ww (t - 2)) >>> (10:UInt32))))) ([U32 ((((g32 ww (t - 16)) + (((rotr (g32 ww (t - 15)) 7) ^^^ (rotr (g32 ww (t - 15)) 18)) ^^^ ((g32 ww (t - 15)) >>> (3:UInt32)))) + (g32 ww (t - 7))) + (((rotr (g32 ww (t - 2)) 17) ^^^ (rotr (g32 ww (t - 2)) 19)) ^^^ ((g32 ww (t - 2)) >>> (10:UInt32))))]) (cu32 (ww.set t ((((g32 ww (t - 16)) + (((rotr (g32 ww (t - 15)) 7) ^^^ (rotr (g32 ww (t - 15)) 18)) ^^^ ((g32 ww (t - 15)) >>> (3:UInt32)))) + (g32 ww (t - 7))) + (((rotr (g32 ww (t - 2)) 17) ^^^ (rotr (g32 ww (t - 2)) 19)) ^^^ ((g32 ww (t - 2)) >>> (10:UInt32)))))) rfl rfl rfl rfl BD rfl (by simp [Value.oneCell']) (by simp [hw]; try omega) (lay32 _ _ _ (by rw [hw]; omega)))) ?_
   show DP _ _ _ _ _ _ _ _ [_, _, ⟨nb3, cu32 (ww.set t ((((g32 ww (t - 16)) + (((rotr (g32 ww (t - 15)) 7) ^^^ (rotr (g32 ww (t - 15)) 18)) ^^^ ((g32 ww (t - 15)) >>> (3:UInt32)))) + (g32 ww (t - 7))) + (((rotr (g32 ww (t - 2)) 17) ^^^ (rotr (g32 ww (t - 2)) 19)) ^^^ ((g32 ww (t - 2)) >>> (10:UInt32))))), 282, (0, 0)⟩]
   refine C4 ⟨[6, 8, 20, 22, 29], [0, 1, 2, 3, 4, 5, 7, 9, 10, 11, 12, 13, 14, 15, 16, 17, 18, 19, 21, 23, 24, 25, 26, 27, 28], [0, 1, 2, 3, 4, 5, 7, 9, 10, 11, 12, 13, 14, 15, 16, 17, 18, 19, 21, 23, 24, 25, 26, 27, 28], [], []⟩ rfl rfl (by decide +kernel) rfl trivial ?_
   refine CI (F' := [(29, I64 t), (30, I64 t), (31, I64 ((t:Int) - 16)), (32, Ptr nb3 (t - 16)), (33, U32 (g32 ww (t - 16))), (34, U32 (g32 ww (t - 15))), (35, U32 (rotr (g32 ww (t - 15)) 7)), (36, U32 (g32 ww (t - 15))), (37, U32 (rotr (g32 ww (t - 15)) 18)), (38, U32 ((rotr (g32 ww (t - 15)) 7) ^^^ (rotr (g32 ww (t - 15)) 18))), (39, U32 (g32 ww (t - 15))), (40, U32 ((g32 ww (t - 15)) >>> (3:UInt32))), (41, U32 (((rotr (g32 ww (t - 15)) 7) ^^^ (rotr (g32 ww (t - 15)) 18)) ^^^ ((g32 ww (t - 15)) >>> (3:UInt32)))), (42, U32 ((g32 ww (t - 16)) + (((rotr (g32 ww (t - 15)) 7) ^^^ (rotr (g32 ww (t - 15)) 18)) ^^^ ((g32 ww (t - 15)) >>> (3:UInt32))))), (43, I64 t), (44, I64 ((t:Int) - 7)), (45, Ptr nb3 (t - 7)), (46, U32 (g32 ww (t - 7))), (47, U32 (((g32 ww (t - 16)) + (((rotr (g32 ww (t - 15)) 7) ^^^ (rotr (g32 ww (t - 15)) 18)) ^^^ ((g32 ww (t - 15)) >>> (3:UInt32)))) + (g32 ww (t - 7)))), (48, U32 (g32 ww (t - 2))), (49, U32 (rotr (g32 ww (t - 2)) 17)), (50, U32 (g32 ww (t - 2))), (51, U32 (rotr (g32 ww (t - 2)) 19)), (52, U32 ((rotr (g32 ww (t - 2)) 17) ^^^ (rotr (g32 ww (t - 2)) 19))), (53, U32 (g32 ww (t - 2))), (54, U32 ((g32 ww (t - 2)) >>> (10:UInt32))), (55, U32 (((rotr (g32 ww (t - 2)) 17) ^^^ (rotr (g32 ww (t - 2)) 19)) ^^^ ((g32 ww (t - 2)) >>> (10:UInt32)))), (56, U32 ((((g32 ww (t - 16)) + (((rotr (g32 ww (t - 15)) 7) ^^^ (rotr (g32 ww (t - 15)) 18)) ^^^ ((g32 ww (t - 15)) >>> (3:UInt32)))) + (g32 ww (t - 7))) + (((rotr (g32 ww (t - 2)) 17) ^^^ (rotr (g32 ww (t - 2)) 19)) ^^^ ((g32 ww (t - 2)) >>> (10:UInt32))))), (57, Ptr nb3 t), (21, I64 t), (22, I64 ((t:Int) - 15)), (23, Ptr nb3 (t - 15)), (24, U32 (g32 ww (t - 15))), (25, I64 t), (26, I64 ((t:Int) - 2)), (27, Ptr nb3 (t - 2)), (28, U32 (g32 ww (t - 2))), (5, U32 (g32 ww (t - 15))), (6, U32 (g32 ww (t - 2))), (1, Ptr nb1 0), (2, Ptr nb2 0), (3, Ptr nb3 0), (7, I64 t), (8, .bool (decide (((t:Int)) < (64:Int)))), (9, I64 t), (4, I64 t), (10, I64 t), (11, .bool (decide (((t:Int)) < (16:Int))))]) (by kernel_rfl) ?_
   refine BO (AE (AD (AA (I64 ((t:Int) + 1)) (AR rfl rfl fun _ => DF _ _ ((t:Int) + 1) (by omega) (by omega)) rfl ?_)))
   refine AA _ (AH rfl) rfl ?_
   refine AN (DH (EP (t + 1, ww.set t ((((g32 ww (t - 16)) + (((rotr (g32 ww (t - 15)) 7) ^^^ (rotr (g32 ww (t - 15)) 18)) ^^^ ((g32 ww (t - 15)) >>> (3:UInt32)))) + (g32 ww (t - 7))) + (((rotr (g32 ww (t - 2)) 17) ^^^ (rotr (g32 ww (t - 2)) 19)) ^^^ ((g32 ww (t - 2)) >>> (10:UInt32))))) ⟨by omega, by rw [spN, spS, if_neg (by omega), ← hx2], hl3⟩ (by first | (simp; omega) | simp | (dsimp only; omega) | omega) (Sub.all rfl) rfl))
 ·
  have hp1 : ¬ (((t:Int)) < (64:Int)) := of_decide_eq_false hb1
  refine D8 (BB (BB (CV (AE (AI (AD (AA (.agg (cu32 ww).toArray) (AK rfl (BH Tryd.isAgg282 Tryd.sizeOf282 (FK hw) (AS 2 rfl (AL _)))) rfl ?_)))))))
  refine A7 (A5 1 nb2 64 (cu32 (zr32 64)) 282 (cu32 ww) rfl rfl rfl Tryd.sizeOf282 (FK hw) (by first | exact CD | exact D3 | exact D1 | (simp [cu8, cu32, cu64, Value.oneCell']; done)) (by simp [(FP 64)]) (BC (by simp [(FP 64), hw]))) rfl ?_
  show JL _ _ _ _ _ [_, ⟨nb2, cu32 ww, 282, (0, 0)⟩, _]
  refine AN (AE (BP (BQ (.agg (cu32 ww).toArray) (res1 Tryd.results202 (DU rfl (BH Tryd.isAgg282 Tryd.sizeOf282 (FK hw) (AS 1 rfl (AL _))))) fun w1 hw1 => ?_)))
  have e1 : t = 64 := by omega
  subst e1
  rw [show ww = spreadL blk by rw [spreadL, hx2]]
  exact ⟨_, [], rfl, ⟨rfl, rfl⟩, hw1.sub (by simp) (by simp)⟩
set_option maxHeartbeats 2000000 in
theorem compress_c (st : List UInt32) (blk : List UInt8) (w : World) (hs0 : st.length = 8) (hb : blk.length = 64) (hG : GLs w) : Calls Tryd.prog 194 #[.agg (cu32 st).toArray, .agg (cu8 blk).toArray] w (Post w [] (fun v L => v = .agg (cu32 (comprL constL st blk)).toArray ∧ L = [])) := by
 refine enter w [] 110 [] [.agg (cu32 st).toArray, .agg (cu8 blk).toArray] Tryd.func194 rfl rfl (by simp) (BZ (by simp) (by simp) (by simp)) ?_
 show JC _ _ _ [(0, .agg (cu32 st).toArray), (1, .agg (cu8 blk).toArray)] _
 refine AI (AD (A1 (CW (.agg (cu32 st).toArray) (cu32 st) rfl (by first | rfl | simp)) rfl ?_))
 rintro v1 L1 ⟨nb1, hnb1, rfl, rfl⟩
 show JL _ _ _ _ ((2, Ptr nb1 0) :: _) [⟨nb1, cu32 st, 268, (0, 0)⟩]
 refine A1 (CW (.agg (cu8 blk).toArray) (cu8 blk) rfl (by first | rfl | simp)) rfl ?_
 rintro v1 L1 ⟨nb2, hnb2, rfl, rfl⟩
 show JL _ _ _ _ ((3, Ptr nb2 0) :: _) [_, ⟨nb2, cu8 blk, 262, (0, 0)⟩]
 refine A1 (BG _ (cu32 (zr32 8)) Tryd.zeroValue268 (by kernel_rfl)) rfl ?_
 rintro v1 L1 ⟨nb3, hnb3, rfl, rfl⟩
 show JL _ _ _ _ ((4, Ptr nb3 0) :: _) [_, _, ⟨nb3, cu32 (zr32 8), 268, (0, 0)⟩]
 refine AN (AE (AI (AD (AA (.agg (cu32 st).toArray) (AK rfl (BH Tryd.isAgg268 D6 (FK hs0) (AS 0 rfl (AL _)))) rfl ?_))))
 refine A1 (BG _ (cu32 (zr32 8)) Tryd.zeroValue268 (by kernel_rfl)) rfl ?_
 rintro v1 L1 ⟨nb4, hnb4, rfl, rfl⟩
 show JL _ _ _ _ ((5, Ptr nb4 0) :: _) [_, _, _, ⟨nb4, cu32 (zr32 8), 268, (0, 0)⟩]
 refine A7 (A5 3 nb4 8 (cu32 (zr32 8)) 268 (cu32 st) rfl rfl rfl D6 (FK hs0) (by first | exact CD | exact D3 | exact D1 | (simp [cu8, cu32, cu64, Value.oneCell']; done)) (by simp [(FP 8)]) (BC (by simp [(FP 8), hs0]))) rfl ?_
 show JL _ _ _ _ _ [_, _, _, ⟨nb4, cu32 st, 268, (0, 0)⟩]
 refine AN (AE (AI (AI (AD (AA (.agg (cu8 blk).toArray) (AK rfl (BH Tryd.isAgg262 ET (CM hb) (AS 1 rfl (AL _)))) rfl ?_)))))
 refine A7 (A3 202 [.agg (cu8 blk).toArray] (.agg (cu32 (spreadL blk)).toArray) (AY _ Tryd.call202 rfl) (fun w1 hw1 => spread_c blk w1 hb)) rfl ?_
 show JL _ _ _ _ ((19, .agg (cu32 (spreadL blk)).toArray) :: _) [_, _, _, _]
 refine AA _ (AH rfl) rfl ?_
 refine AN (AE (BY (CH [true, false, true, true] ?_)))
 show JC _ _ _ _ [_, _, _]
 refine EE (ι := Nat × List UInt32) (fun ⟨t, s⟩ => [(2, Ptr nb1 0), (4, Ptr nb3 0), (5, Ptr nb4 0), (19, .agg (cu32 (spreadL blk)).toArray), (20, I64 t)]) (fun ⟨t, s⟩ => [⟨nb1, cu32 st, 268, (0, 0)⟩, ⟨nb3, cu32 (zr32 8), 268, (0, 0)⟩, ⟨nb4, cu32 s, 268, (0, 0)⟩]) (fun ⟨t, s⟩ => t ≤ 64 ∧ s = cpN constL st (spreadL blk) t ∧ s.length = 8) (fun ⟨t, s⟩ => 64 - t) (0, st) ⟨by omega, by rw [cpN], hs0⟩ (Sub.all rfl) rfl ?_
 rintro ⟨t, s⟩ ⟨hx1, hx2, hs⟩
 show JC _ _ _ [(2, Ptr nb1 0), (4, Ptr nb3 0), (5, Ptr nb4 0), (19, .agg (cu32 (spreadL blk)).toArray), (20, I64 t)] [⟨nb1, cu32 st, 268, (0, 0)⟩, ⟨nb3, cu32 (zr32 8), 268, (0, 0)⟩, ⟨nb4, cu32 s, 268, (0, 0)⟩]
 refine AI (AD (AA (.bool (decide (((t:Int)) < (64:Int)))) (AR rfl rfl fun _ => CS _ _) rfl ?_))
 refine AN (AE (AI (CY (decide (((t:Int)) < (64:Int))) rfl (fun hb1 => ?_) (fun hb1 => ?_))))
 ·
  have hp1 : ((t:Int)) < (64:Int) := of_decide_eq_true hb1
  refine BT (AE (AI (BY (AI (AD (AA _ (AH rfl) rfl ?_))))))
  refine AA (U32 (g32 (spreadL blk) t)) (Ev_index1 64 267 _ BS BM BD rfl rfl (by omega) (by omega) (Seg.get1 (Seg.get (DI (i := t) (by rw [(spreadL_len _)]; omega))) (by omega))) rfl ?_
  refine AA _ (AG rfl) rfl ?_
  refine AA _ (AG rfl) rfl ?_
  refine AN (AE (AI (C1 110 1 [(0, Ptr nb4 0), (1, U32 (g32 s 0)), (2, Ptr nb4 1), (3, U32 (g32 s 1)), (4, Ptr nb4 2), (5, U32 (g32 s 2)), (6, Ptr nb4 4), (7, U32 (g32 s 4)), (8, Ptr nb4 5), (9, U32 (g32 s 5)), (10, Ptr nb4 6), (11, U32 (g32 s 6)), (12, U32 (g32 s 0)), (13, U32 (g32 s 1)), (14, U32 (g32 s 2)), (15, U32 (g32 s 4)), (16, U32 (g32 s 5)), (17, U32 (g32 s 6))] BV rfl (by decide +kernel) ?_)))
  refine C4 ⟨[], [0, 1, 2, 3, 4, 5, 6, 7, 8, 9, 10, 11, 12, 13, 14, 15, 16, 17], [], [0, 1, 2, 3, 4, 5, 6, 7, 8, 9, 10, 11, 12, 13, 14, 15, 16, 17], []⟩ rfl rfl (by decide +kernel) rfl ⟨⟨_, rfl, AC rfl (BR 8 267 1 0 BX BD rfl rfl (by omega) (by omega) (by omega))⟩, ⟨_, rfl, AC rfl (AK rfl (AV BM (AS 2 rfl (Seg.get (DI (i := 0) (by rw [hs]; omega))))))⟩, ⟨_, rfl, AC rfl (BR 8 267 1 1 BX BD rfl rfl (by omega) (by omega) (by omega))⟩, ⟨_, rfl, AC rfl (AK rfl (AV BM (AS 2 rfl (Seg.get (DI (i := 1) (by rw [hs]; omega))))))⟩, ⟨_, rfl, AC rfl (BR 8 267 1 2 BX BD rfl rfl (by omega) (by omega) (by omega))⟩, ⟨_, rfl, AC rfl (AK rfl (AV BM (AS 2 rfl (Seg.get (DI (i := 2) (by rw [hs]; omega))))))⟩, ⟨_, rfl, AC rfl (BR 8 267 1 4 BX BD rfl rfl (by omega) (by omega) (by omega))⟩, ⟨_, rfl, AC rfl (AK rfl (AV BM (AS 2 rfl (Seg.get (DI (i := 4) (by rw [hs]; omega))))))⟩, ⟨_, rfl, AC rfl (BR 8 267 1 5 BX BD rfl rfl (by omega) (by omega) (by omega))⟩, ⟨_, rfl, AC rfl (AK rfl (AV BM (AS 2 rfl (Seg.get (DI (i := 5) (by rw [hs]; omega))))))⟩, ⟨_, rfl, AC rfl (BR 8 267 1 6 BX BD rfl rfl (by omega) (by omega) (by omega))⟩, ⟨_, rfl, AC rfl (AK rfl (AV BM (AS 2 rfl (Seg.get (DI (i := 6) (by rw [hs]; omega))))))⟩, ⟨_, rfl, AC rfl (AG rfl)⟩, ⟨_, rfl, AC rfl (AG rfl)⟩, ⟨_, rfl, AC rfl (AG rfl)⟩, ⟨_, rfl, AC rfl (AG rfl)⟩, ⟨_, rfl, AC rfl (AG rfl)⟩, ⟨_, rfl, AC rfl (AG rfl)⟩, trivial⟩ ?_
  refine CI (F' := [(24, Ptr nb4 0), (25, U32 (g32 s 0)), (26, Ptr nb4 1), (27, U32 (g32 s 1)), (28, Ptr nb4 2), (29, U32 (g32 s 2)), (30, Ptr nb4 4), (31, U32 (g32 s 4)), (32, Ptr nb4 5), (33, U32 (g32 s 5)), (34, Ptr nb4 6), (35, U32 (g32 s 6)), (8, U32 (g32 s 0)), (9, U32 (g32 s 1)), (10, U32 (g32 s 2)), (11, U32 (g32 s 4)), (12, U32 (g32 s 5)), (13, U32 (g32 s 6)), (2, Ptr nb1 0), (4, Ptr nb3 0), (5, Ptr nb4 0), (19, .agg (cu32 (spreadL blk)).toArray), (20, I64 t), (21, .bool (decide (((t:Int)) < (64:Int)))), (22, I64 t), (23, U32 (g32 (spreadL blk) t)), (6, I64 t), (7, U32 (g32 (spreadL blk) t))]) (by kernel_rfl) ?_
  refine AE (AI (C1 110 4 [(0, Ptr nb4 7), (1, U32 (g32 s 7)), (2, U32 (g32 s 4)), (4, U32 (g32 s 4)), (7, U32 (g32 s 4)), (11, U32 (g32 s 4)), (12, U32 (g32 s 5)), (13, U32 ((g32 s 4) &&& (g32 s 5))), (14, U32 (g32 s 4)), (15, U32 (~~~(g32 s 4))), (16, U32 (g32 s 6)), (17, U32 ((~~~(g32 s 4)) &&& (g32 s 6))), (18, U32 (((g32 s 4) &&& (g32 s 5)) ^^^ ((~~~(g32 s 4)) &&& (g32 s 6)))), (20, I64 t), (21, Ptr 5 t), (22, U32 (g32 constL t)), (24, U32 (g32 (spreadL blk) t))] BV rfl (by decide +kernel) ?_))
  refine CQ ⟨[], [0, 1, 2, 4, 7, 11, 12, 13, 14, 15, 16, 17, 18, 20, 21, 22, 24], [], [0, 1, 2, 4, 7, 11, 12, 13, 14, 15, 16, 17, 18, 20, 21, 22, 24], [3]⟩ 3 rfl rfl (by decide +kernel) rfl ⟨⟨_, rfl, AC rfl (BR 8 267 1 7 BX BD rfl rfl (by omega) (by omega) (by omega))⟩, ⟨_, rfl, AC rfl (AK rfl (AV BM (AS 2 rfl (Seg.get (DI (i := 7) (by rw [hs]; omega))))))⟩, A2 rfl rfl rfl, A2 rfl rfl rfl, A2 rfl rfl rfl, A2 rfl rfl rfl, A2 rfl rfl rfl, ⟨_, rfl, AC rfl (AR rfl rfl fun _ => D7 (g32 s 4) (g32 s 5))⟩, A2 rfl rfl rfl, ⟨_, rfl, AC rfl (Ev_un _ _ rfl fun _ => F6 _)⟩, A2 rfl rfl rfl, ⟨_, rfl, AC rfl (AR rfl rfl fun _ => D7 (~~~(g32 s 4)) (g32 s 6))⟩, ⟨_, rfl, AC rfl (AR rfl rfl fun _ => C6 ((g32 s 4) &&& (g32 s 5)) ((~~~(g32 s 4)) &&& (g32 s 6)))⟩, A2 rfl rfl rfl, ⟨_, rfl, AC rfl (BR 64 267 1 t BS BD rfl rfl (by omega) (by omega) (by omega))⟩, ⟨_, rfl, AC rfl (AK rfl (AV BM (C8 (hG.1.mem (by simp)) (Seg.get (DI (i := t) (by rw [FT]; omega))) (by omega))))⟩, A2 rfl rfl rfl, trivial⟩ rfl (AZ rfl (A3 203 [U32 (g32 s 4), I64 6] (U32 (rotr (g32 s 4) 6)) (AY _ Tryd.call203 rfl) (fun w1 hw1 => turn_c (g32 s 4) 6 w1 (by omega) (by omega)))) ?_
  show DP _ _ _ _ _ _ _ _ [_, _, _]
  refine CR ⟨[3], [0, 1, 2, 4, 7, 11, 12, 13, 14, 15, 16, 17, 18, 20, 21, 22, 24], [2], [0, 1, 4, 7, 11, 12, 13, 14, 15, 16, 17, 18, 20, 21, 22, 24], [5]⟩ 5 _ rfl rfl (by decide +kernel) rfl ⟨⟨_, rfl, AC rfl (BR 8 267 1 7 BX BD rfl rfl (by omega) (by omega) (by omega))⟩, ⟨_, rfl, AC rfl (AK rfl (AV BM (AS 2 rfl (Seg.get (DI (i := 7) (by rw [hs]; omega))))))⟩, A2 rfl rfl rfl, A2 rfl rfl rfl, A2 rfl rfl rfl, A2 rfl rfl rfl, ⟨_, rfl, AC rfl (AR rfl rfl fun _ => D7 (g32 s 4) (g32 s 5))⟩, A2 rfl rfl rfl, ⟨_, rfl, AC rfl (Ev_un _ _ rfl fun _ => F6 _)⟩, A2 rfl rfl rfl, ⟨_, rfl, AC rfl (AR rfl rfl fun _ => D7 (~~~(g32 s 4)) (g32 s 6))⟩, ⟨_, rfl, AC rfl (AR rfl rfl fun _ => C6 ((g32 s 4) &&& (g32 s 5)) ((~~~(g32 s 4)) &&& (g32 s 6)))⟩, A2 rfl rfl rfl, ⟨_, rfl, AC rfl (BR 64 267 1 t BS BD rfl rfl (by omega) (by omega) (by omega))⟩, ⟨_, rfl, AC rfl (AK rfl (AV BM (C8 (hG.1.mem (by simp)) (Seg.get (DI (i := t) (by rw [FT]; omega))) (by omega))))⟩, A2 rfl rfl rfl, trivial⟩ rfl (AZ rfl (A3 203 [U32 (g32 s 4), I64 11] (U32 (rotr (g32 s 4) 11)) (AY _ Tryd.call203 rfl) (fun w1 hw1 => turn_c (g32 s 4) 11 w1 (by omega) (by omega)))) ?_
  rintro v1 L1 ⟨rfl, rfl⟩
  refine ⟨[(6, U32 ((rotr (g32 s 4) 6) ^^^ (rotr (g32 s 4) 11)))], ?_⟩
  show DP _ _ _ _ _ _ _ _ [_, _, _]
  refine CR ⟨[3, 5], [0, 1, 2, 4, 6, 7, 11, 12, 13, 14, 15, 16, 17, 18, 20, 21, 22, 24], [2, 4], [0, 1, 6, 7, 11, 12, 13, 14, 15, 16, 17, 18, 20, 21, 22, 24], [8]⟩ 8 _ rfl rfl (by decide +kernel) rfl ⟨⟨_, rfl, AC rfl (BR 8 267 1 7 BX BD rfl rfl (by omega) (by omega) (by omega))⟩, ⟨_, rfl, AC rfl (AK rfl (AV BM (AS 2 rfl (Seg.get (DI (i := 7) (by rw [hs]; omega))))))⟩, ⟨_, rfl, AC rfl (AR rfl rfl fun _ => C6 (rotr (g32 s 4) 6) (rotr (g32 s 4) 11))⟩, A2 rfl rfl rfl, A2 rfl rfl rfl, A2 rfl rfl rfl, ⟨_, rfl, AC rfl (AR rfl rfl fun _ => D7 (g32 s 4) (g32 s 5))⟩, A2 rfl rfl rfl, ⟨_, rfl, AC rfl (Ev_un _ _ rfl fun _ => F6 _)⟩, A2 rfl rfl rfl, ⟨_, rfl, AC rfl (AR rfl rfl fun _ => D7 (~~~(g32 s 4)) (g32 s 6))⟩, ⟨_, rfl, AC rfl (AR rfl rfl fun _ => C6 ((g32 s 4) &&& (g32 s 5)) ((~~~(g32 s 4)) &&& (g32 s 6)))⟩, A2 rfl rfl rfl, ⟨_, rfl, AC rfl (BR 64 267 1 t BS BD rfl rfl (by omega) (by omega) (by omega))⟩, ⟨_, rfl, AC rfl (AK rfl (AV BM (C8 (hG.1.mem (by simp)) (Seg.get (DI (i := t) (by rw [FT]; omega))) (by omega))))⟩, A2 rfl rfl rfl, trivial⟩ rfl (AZ rfl (A3 203 [U32 (g32 s 4), I64 25] (U32 (rotr (g32 s 4) 25)) (AY _ Tryd.call203 rfl) (fun w1 hw1 => turn_c (g32 s 4) 25 w1 (by omega) (by omega)))) ?_
  rintro v1 L1 ⟨rfl, rfl⟩
  refine ⟨[(9, U32 (((rotr (g32 s 4) 6) ^^^ (rotr (g32 s 4) 11)) ^^^ (rotr (g32 s 4) 25))), (10, U32 ((g32 s 7) + (((rotr (g32 s 4) 6) ^^^ (rotr (g32 s 4) 11)) ^^^ (rotr (g32 s 4) 25)))), (19, U32 (((g32 s 7) + (((rotr (g32 s 4) 6) ^^^ (rotr (g32 s 4) 11)) ^^^ (rotr (g32 s 4) 25))) + (((g32 s 4) &&& (g32 s 5)) ^^^ ((~~~(g32 s 4)) &&& (g32 s 6))))), (23, U32 ((((g32 s 7) + (((rotr (g32 s 4) 6) ^^^ (rotr (g32 s 4) 11)) ^^^ (rotr (g32 s 4) 25))) + (((g32 s 4) &&& (g32 s 5)) ^^^ ((~~~(g32 s 4)) &&& (g32 s 6)))) + (g32 constL t))), (25, U32 (((((g32 s 7) + (((rotr (g32 s 4) 6) ^^^ (rotr (g32 s 4) 11)) ^^^ (rotr (g32 s 4) 25))) + (((g32 s 4) &&& (g32 s 5)) ^^^ ((~~~(g32 s 4)) &&& (g32 s 6)))) + (g32 constL t)) + (g32 (spreadL blk) t))), (26, U32 (((((g32 s 7) + (((rotr (g32 s 4) 6) ^^^ (rotr (g32 s 4) 11)) ^^^ (rotr (g32 s 4) 25))) + (((g32 s 4) &&& (g32 s 5)) ^^^ ((~~~(g32 s 4)) &&& (g32 s 6)))) + (g32 constL t)) + (g32 (spreadL blk) t)))], ?_⟩
  show DP _ _ _ _ _ _ _ _ [_, _, _]
  refine C4 ⟨[3, 5, 8], [0, 1, 2, 4, 6, 7, 9, 10, 11, 12, 13, 14, 15, 16, 17, 18, 19, 20, 21, 22, 23, 24, 25, 26], [2, 4, 7], [0, 1, 6, 9, 10, 11, 12, 13, 14, 15, 16, 17, 18, 19, 20, 21, 22, 23, 24, 25, 26], []⟩ rfl rfl (by decide +kernel) rfl ⟨⟨_, rfl, AC rfl (BR 8 267 1 7 BX BD rfl rfl (by omega) (by omega) (by omega))⟩, ⟨_, rfl, AC rfl (AK rfl (AV BM (AS 2 rfl (Seg.get (DI (i := 7) (by rw [hs]; omega))))))⟩, ⟨_, rfl, AC rfl (AR rfl rfl fun _ => C6 (rotr (g32 s 4) 6) (rotr (g32 s 4) 11))⟩, ⟨_, rfl, AC rfl (AR rfl rfl fun _ => C6 ((rotr (g32 s 4) 6) ^^^ (rotr (g32 s 4) 11)) (rotr (g32 s 4) 25))⟩, ⟨_, rfl, AC rfl (AR rfl rfl fun _ => C7 (g32 s 7) (((rotr (g32 s 4) 6) ^^^ (rotr (g32 s 4) 11)) ^^^ (rotr (g32 s 4) 25)))⟩, A2 rfl rfl rfl, A2 rfl rfl rfl, ⟨_, rfl, AC rfl (AR rfl rfl fun _ => D7 (g32 s 4) (g32 s 5))⟩, A2 rfl rfl rfl, ⟨_, rfl, AC rfl (Ev_un _ _ rfl fun _ => F6 _)⟩, A2 rfl rfl rfl, ⟨_, rfl, AC rfl (AR rfl rfl fun _ => D7 (~~~(g32 s 4)) (g32 s 6))⟩, ⟨_, rfl, AC rfl (AR rfl rfl fun _ => C6 ((g32 s 4) &&& (g32 s 5)) ((~~~(g32 s 4)) &&& (g32 s 6)))⟩, ⟨_, rfl, AC rfl (AR rfl rfl fun _ => C7 ((g32 s 7) + (((rotr (g32 s 4) 6) ^^^ (rotr (g32 s 4) 11)) ^^^ (rotr (g32 s 4) 25))) (((g32 s 4) &&& (g32 s 5)) ^^^ ((~~~(g32 s 4)) &&& (g32 s 6))))⟩, A2 rfl rfl rfl, ⟨_, rfl, AC rfl (BR 64 267 1 t BS BD rfl rfl (by omega) (by omega) (by omega))⟩, ⟨_, rfl, AC rfl (AK rfl (AV BM (C8 (hG.1.mem (by simp)) (Seg.get (DI (i := t) (by rw [FT]; omega))) (by omega))))⟩, ⟨_, rfl, AC rfl (AR rfl rfl fun _ => C7 (((g32 s 7) + (((rotr (g32 s 4) 6) ^^^ (rotr (g32 s 4) 11)) ^^^ (rotr (g32 s 4) 25))) + (((g32 s 4) &&& (g32 s 5)) ^^^ ((~~~(g32 s 4)) &&& (g32 s 6)))) (g32 constL t))⟩, A2 rfl rfl rfl, ⟨_, rfl, AC rfl (AR rfl rfl fun _ => C7 ((((g32 s 7) + (((rotr (g32 s 4) 6) ^^^ (rotr (g32 s 4) 11)) ^^^ (rotr (g32 s 4) 25))) + (((g32 s 4) &&& (g32 s 5)) ^^^ ((~~~(g32 s 4)) &&& (g32 s 6)))) + (g32 constL t)) (g32 (spreadL blk) t))⟩, ⟨_, rfl, AC rfl (AG rfl)⟩, trivial⟩ ?_
  refine CI (F' := [(36, Ptr nb4 7), (37, U32 (g32 s 7)), (38, U32 (g32 s 4)), (39, U32 (rotr (g32 s 4) 6)), (40, U32 (g32 s 4)), (41, U32 (rotr (g32 s 4) 11)), (42, U32 ((rotr (g32 s 4) 6) ^^^ (rotr (g32 s 4) 11))), (43, U32 (g32 s 4)), (44, U32 (rotr (g32 s 4) 25)), (45, U32 (((rotr (g32 s 4) 6) ^^^ (rotr (g32 s 4) 11)) ^^^ (rotr (g32 s 4) 25))), (46, U32 ((g32 s 7) + (((rotr (g32 s 4) 6) ^^^ (rotr (g32 s 4) 11)) ^^^ (rotr (g32 s 4) 25)))), (47, U32 (g32 s 4)), (48, U32 (g32 s 5)), (49, U32 ((g32 s 4) &&& (g32 s 5))), (50, U32 (g32 s 4)), (51, U32 (~~~(g32 s 4))), (52, U32 (g32 s 6)), (53, U32 ((~~~(g32 s 4)) &&& (g32 s 6))), (54, U32 (((g32 s 4) &&& (g32 s 5)) ^^^ ((~~~(g32 s 4)) &&& (g32 s 6)))), (55, U32 (((g32 s 7) + (((rotr (g32 s 4) 6) ^^^ (rotr (g32 s 4) 11)) ^^^ (rotr (g32 s 4) 25))) + (((g32 s 4) &&& (g32 s 5)) ^^^ ((~~~(g32 s 4)) &&& (g32 s 6))))), (56, I64 t), (57, Ptr 5 t), (58, U32 (g32 constL t)), (59, U32 ((((g32 s 7) + (((rotr (g32 s 4) 6) ^^^ (rotr (g32 s 4) 11)) ^^^ (rotr (g32 s 4) 25))) + (((g32 s 4) &&& (g32 s 5)) ^^^ ((~~~(g32 s 4)) &&& (g32 s 6)))) + (g32 constL t))), (60, U32 (g32 (spreadL blk) t)), (61, U32 (((((g32 s 7) + (((rotr (g32 s 4) 6) ^^^ (rotr (g32 s 4) 11)) ^^^ (rotr (g32 s 4) 25))) + (((g32 s 4) &&& (g32 s 5)) ^^^ ((~~~(g32 s 4)) &&& (g32 s 6)))) + (g32 constL t)) + (g32 (spreadL blk) t))), (14, U32 (((((g32 s 7) + (((rotr (g32 s 4) 6) ^^^ (rotr (g32 s 4) 11)) ^^^ (rotr (g32 s 4) 25))) + (((g32 s 4) &&& (g32 s 5)) ^^^ ((~~~(g32 s 4)) &&& (g32 s 6)))) + (g32 constL t)) + (g32 (spreadL blk) t))), (24, Ptr nb4 0), (25, U32 (g32 s 0)), (26, Ptr nb4 1), (27, U32 (g32 s 1)), (28, Ptr nb4 2), (29, U32 (g32 s 2)), (30, Ptr nb4 4), (31, U32 (g32 s 4)), (32, Ptr nb4 5), (33, U32 (g32 s 5)), (34, Ptr nb4 6), (35, U32 (g32 s 6)), (8, U32 (g32 s 0)), (9, U32 (g32 s 1)), (10, U32 (g32 s 2)), (11, U32 (g32 s 4)), (12, U32 (g32 s 5)), (13, U32 (g32 s 6)), (2, Ptr nb1 0), (4, Ptr nb3 0), (5, Ptr nb4 0), (19, .agg (cu32 (spreadL blk)).toArray), (20, I64 t), (21, .bool (decide (((t:Int)) < (64:Int)))), (22, I64 t), (23, U32 (g32 (spreadL blk) t)), (6, I64 t), (7, U32 (g32 (spreadL blk) t))]) (by kernel_rfl) ?_
  refine AE (AI (AD (AA _ (AH rfl) rfl ?_)))
  refine A7 (A3 203 [U32 (g32 s 0), I64 2] (U32 (rotr (g32 s 0) 2)) (AY _ Tryd.call203 rfl) (fun w1 hw1 => turn_c (g32 s 0) 2 w1 (by omega) (by omega))) rfl ?_
  show JL _ _ _ _ ((63, U32 (rotr (g32 s 0) 2)) :: _) [_, _, _]
  refine AA _ (AH rfl) rfl ?_
  refine A7 (A3 203 [U32 (g32 s 0), I64 13] (U32 (rotr (g32 s 0) 13)) (AY _ Tryd.call203 rfl) (fun w1 hw1 => turn_c (g32 s 0) 13 w1 (by omega) (by omega))) rfl ?_
  show JL _ _ _ _ ((65, U32 (rotr (g32 s 0) 13)) :: _) [_, _, _]
  refine AA (U32 ((rotr (g32 s 0) 2) ^^^ (rotr (g32 s 0) 13))) (AR rfl rfl fun _ => C6 (rotr (g32 s 0) 2) (rotr (g32 s 0) 13)) rfl ?_
  refine AA _ (AH rfl) rfl ?_
  refine A7 (A3 203 [U32 (g32 s 0), I64 22] (U32 (rotr (g32 s 0) 22)) (AY _ Tryd.call203 rfl) (fun w1 hw1 => turn_c (g32 s 0) 22 w1 (by omega) (by omega))) rfl ?_
  show JL _ _ _ _ ((68, U32 (rotr (g32 s 0) 22)) :: _) [_, _, _]
  refine AA (U32 (((rotr (g32 s 0) 2) ^^^ (rotr (g32 s 0) 13)) ^^^ (rotr (g32 s 0) 22))) (AR rfl rfl fun _ => C6 ((rotr (g32 s 0) 2) ^^^ (rotr (g32 s 0) 13)) (rotr (g32 s 0) 22)) rfl ?_
  refine AA _ (AH rfl) rfl ?_
  refine AA _ (AH rfl) rfl ?_
  refine AA (U32 ((g32 s 0) &&& (g32 s 1))) (AR rfl rfl fun _ => D7 (g32 s 0) (g32 s 1)) rfl ?_
  refine AA _ (AH rfl) rfl ?_
  refine AA _ (AH rfl) rfl ?_
  refine AA (U32 ((g32 s 0) &&& (g32 s 2))) (AR rfl rfl fun _ => D7 (g32 s 0) (g32 s 2)) rfl ?_
  refine AA (U32 (((g32 s 0) &&& (g32 s 1)) ^^^ ((g32 s 0) &&& (g32 s 2)))) (AR rfl rfl fun _ => C6 ((g32 s 0) &&& (g32 s 1)) ((g32 s 0) &&& (g32 s 2))) rfl ?_
  refine AA _ (AH rfl) rfl ?_
  refine AA _ (AH rfl) rfl ?_
  refine AA (U32 ((g32 s 1) &&& (g32 s 2))) (AR rfl rfl fun _ => D7 (g32 s 1) (g32 s 2)) rfl ?_
  refine AA (U32 ((((g32 s 0) &&& (g32 s 1)) ^^^ ((g32 s 0) &&& (g32 s 2))) ^^^ ((g32 s 1) &&& (g32 s 2)))) (AR rfl rfl fun _ => C6 (((g32 s 0) &&& (g32 s 1)) ^^^ ((g32 s 0) &&& (g32 s 2))) ((g32 s 1) &&& (g32 s 2))) rfl ?_
  refine AA (U32 ((((rotr (g32 s 0) 2) ^^^ (rotr (g32 s 0) 13)) ^^^ (rotr (g32 s 0) 22)) + ((((g32 s 0) &&& (g32 s 1)) ^^^ ((g32 s 0) &&& (g32 s 2))) ^^^ ((g32 s 1) &&& (g32 s 2))))) (AR rfl rfl fun _ => C7 (((rotr (g32 s 0) 2) ^^^ (rotr (g32 s 0) 13)) ^^^ (rotr (g32 s 0) 22)) ((((g32 s 0) &&& (g32 s 1)) ^^^ ((g32 s 0) &&& (g32 s 2))) ^^^ ((g32 s 1) &&& (g32 s 2)))) rfl ?_
  refine AA _ (AG rfl) rfl ?_
  refine AN (AE (AD (AA _ (AH rfl) rfl ?_)))
  refine AA _ (AH rfl) rfl ?_
  refine AA (U32 ((((((g32 s 7) + (((rotr (g32 s 4) 6) ^^^ (rotr (g32 s 4) 11)) ^^^ (rotr (g32 s 4) 25))) + (((g32 s 4) &&& (g32 s 5)) ^^^ ((~~~(g32 s 4)) &&& (g32 s 6)))) + (g32 constL t)) + (g32 (spreadL blk) t)) + ((((rotr (g32 s 0) 2) ^^^ (rotr (g32 s 0) 13)) ^^^ (rotr (g32 s 0) 22)) + ((((g32 s 0) &&& (g32 s 1)) ^^^ ((g32 s 0) &&& (g32 s 2))) ^^^ ((g32 s 1) &&& (g32 s 2)))))) (AR rfl rfl fun _ => C7 (((((g32 s 7) + (((rotr (g32 s 4) 6) ^^^ (rotr (g32 s 4) 11)) ^^^ (rotr (g32 s 4) 25))) + (((g32 s 4) &&& (g32 s 5)) ^^^ ((~~~(g32 s 4)) &&& (g32 s 6)))) + (g32 constL t)) + (g32 (spreadL blk) t)) ((((rotr (g32 s 0) 2) ^^^ (rotr (g32 s 0) 13)) ^^^ (rotr (g32 s 0) 22)) + ((((g32 s 0) &&& (g32 s 1)) ^^^ ((g32 s 0) &&& (g32 s 2))) ^^^ ((g32 s 1) &&& (g32 s 2))))) rfl ?_
  refine AA _ (AH rfl) rfl ?_
  refine AA _ (AH rfl) rfl ?_
  refine AA _ (AH rfl) rfl ?_
  refine AA (Ptr nb4 3) (BR 8 267 1 3 BX BD rfl rfl (by omega) (by omega) (by omega)) rfl ?_
  refine AA (U32 (g32 s 3)) (AK rfl (AV BM (AS 2 rfl (Seg.get (DI (i := 3) (by rw [hs]; omega)))))) rfl ?_
  refine AA _ (AH rfl) rfl ?_
  refine AA (U32 ((g32 s 3) + (((((g32 s 7) + (((rotr (g32 s 4) 6) ^^^ (rotr (g32 s 4) 11)) ^^^ (rotr (g32 s 4) 25))) + (((g32 s 4) &&& (g32 s 5)) ^^^ ((~~~(g32 s 4)) &&& (g32 s 6)))) + (g32 constL t)) + (g32 (spreadL blk) t)))) (AR rfl rfl fun _ => C7 (g32 s 3) (((((g32 s 7) + (((rotr (g32 s 4) 6) ^^^ (rotr (g32 s 4) 11)) ^^^ (rotr (g32 s 4) 25))) + (((g32 s 4) &&& (g32 s 5)) ^^^ ((~~~(g32 s 4)) &&& (g32 s 6)))) + (g32 constL t)) + (g32 (spreadL blk) t))) rfl ?_
  refine AA _ (AH rfl) rfl ?_
  refine AA _ (AH rfl) rfl ?_
  refine AA _ (AH rfl) rfl ?_
  refine AA (.agg (cu32 ([(((((g32 s 7) + (((rotr (g32 s 4) 6) ^^^ (rotr (g32 s 4) 11)) ^^^ (rotr (g32 s 4) 25))) + (((g32 s 4) &&& (g32 s 5)) ^^^ ((~~~(g32 s 4)) &&& (g32 s 6)))) + (g32 constL t)) + (g32 (spreadL blk) t)) + ((((rotr (g32 s 0) 2) ^^^ (rotr (g32 s 0) 13)) ^^^ (rotr (g32 s 0) 22)) + ((((g32 s 0) &&& (g32 s 1)) ^^^ ((g32 s 0) &&& (g32 s 2))) ^^^ ((g32 s 1) &&& (g32 s 2)))), g32 s 0, g32 s 1, g32 s 2, (g32 s 3) + (((((g32 s 7) + (((rotr (g32 s 4) 6) ^^^ (rotr (g32 s 4) 11)) ^^^ (rotr (g32 s 4) 25))) + (((g32 s 4) &&& (g32 s 5)) ^^^ ((~~~(g32 s 4)) &&& (g32 s 6)))) + (g32 constL t)) + (g32 (spreadL blk) t)), g32 s 4, g32 s 5, g32 s 6])).toArray) (B8 [(0, U32 ((((((g32 s 7) + (((rotr (g32 s 4) 6) ^^^ (rotr (g32 s 4) 11)) ^^^ (rotr (g32 s 4) 25))) + (((g32 s 4) &&& (g32 s 5)) ^^^ ((~~~(g32 s 4)) &&& (g32 s 6)))) + (g32 constL t)) + (g32 (spreadL blk) t)) + ((((rotr (g32 s 0) 2) ^^^ (rotr (g32 s 0) 13)) ^^^ (rotr (g32 s 0) 22)) + ((((g32 s 0) &&& (g32 s 1)) ^^^ ((g32 s 0) &&& (g32 s 2))) ^^^ ((g32 s 1) &&& (g32 s 2)))))), (1, U32 (g32 s 0)), (2, U32 (g32 s 1)), (3, U32 (g32 s 2)), (4, U32 ((g32 s 3) + (((((g32 s 7) + (((rotr (g32 s 4) 6) ^^^ (rotr (g32 s 4) 11)) ^^^ (rotr (g32 s 4) 25))) + (((g32 s 4) &&& (g32 s 5)) ^^^ ((~~~(g32 s 4)) &&& (g32 s 6)))) + (g32 constL t)) + (g32 (spreadL blk) t)))), (5, U32 (g32 s 4)), (6, U32 (g32 s 5)), (7, U32 (g32 s 6))] _ rfl (fun _ => by kernel_rfl)) rfl ?_
  refine A7 (A5 2 nb4 8 (cu32 s) 268 (cu32 ([(((((g32 s 7) + (((rotr (g32 s 4) 6) ^^^ (rotr (g32 s 4) 11)) ^^^ (rotr (g32 s 4) 25))) + (((g32 s 4) &&& (g32 s 5)) ^^^ ((~~~(g32 s 4)) &&& (g32 s 6)))) + (g32 constL t)) + (g32 (spreadL blk) t)) + ((((rotr (g32 s 0) 2) ^^^ (rotr (g32 s 0) 13)) ^^^ (rotr (g32 s 0) 22)) + ((((g32 s 0) &&& (g32 s 1)) ^^^ ((g32 s 0) &&& (g32 s 2))) ^^^ ((g32 s 1) &&& (g32 s 2)))), g32 s 0, g32 s 1, g32 s 2, (g32 s 3) + (((((g32 s 7) + (((rotr (g32 s 4) 6) ^^^ (rotr (g32 s 4) 11)) ^^^ (rotr (g32 s 4) 25))) + (((g32 s 4) &&& (g32 s 5)) ^^^ ((~~~(g32 s 4)) &&& (g32 s 6)))) + (g32 constL t)) + (g32 (spreadL blk) t)), g32 s 4, g32 s 5, g32 s 6])) rfl rfl rfl D6 (by simp []) (by first | exact CD | exact D3 | exact D1 | (simp [cu8, cu32, cu64, Value.oneCell']; done)) (by simp [hs]) (BC (by simp [hs]))) rfl ?_
  show JL _ _ _ _ _ [_, _, ⟨nb4, cu32 ([(((((g32 s 7) + (((rotr (g32 s 4) 6) ^^^ (rotr (g32 s 4) 11)) ^^^ (rotr (g32 s 4) 25))) + (((g32 s 4) &&& (g32 s 5)) ^^^ ((~~~(g32 s 4)) &&& (g32 s 6)))) + (g32 constL t)) + (g32 (spreadL blk) t)) + ((((rotr (g32 s 0) 2) ^^^ (rotr (g32 s 0) 13)) ^^^ (rotr (g32 s 0) 22)) + ((((g32 s 0) &&& (g32 s 1)) ^^^ ((g32 s 0) &&& (g32 s 2))) ^^^ ((g32 s 1) &&& (g32 s 2)))), g32 s 0, g32 s 1, g32 s 2, (g32 s 3) + (((((g32 s 7) + (((rotr (g32 s 4) 6) ^^^ (rotr (g32 s 4) 11)) ^^^ (rotr (g32 s 4) 25))) + (((g32 s 4) &&& (g32 s 5)) ^^^ ((~~~(g32 s 4)) &&& (g32 s 6)))) + (g32 constL t)) + (g32 (spreadL blk) t)), g32 s 4, g32 s 5, g32 s 6]), 268, (0, 0)⟩]
  refine AN (BO (AE (AD (AA (I64 ((t:Int) + 1)) (AR rfl rfl fun _ => DF _ _ ((t:Int) + 1) (by omega) (by omega)) rfl ?_))))
  refine AA _ (AH rfl) rfl ?_
  refine AN (DH (EP (t + 1, [(((((g32 s 7) + (((rotr (g32 s 4) 6) ^^^ (rotr (g32 s 4) 11)) ^^^ (rotr (g32 s 4) 25))) + (((g32 s 4) &&& (g32 s 5)) ^^^ ((~~~(g32 s 4)) &&& (g32 s 6)))) + (g32 constL t)) + (g32 (spreadL blk) t)) + ((((rotr (g32 s 0) 2) ^^^ (rotr (g32 s 0) 13)) ^^^ (rotr (g32 s 0) 22)) + ((((g32 s 0) &&& (g32 s 1)) ^^^ ((g32 s 0) &&& (g32 s 2))) ^^^ ((g32 s 1) &&& (g32 s 2)))), g32 s 0, g32 s 1, g32 s 2, (g32 s 3) + (((((g32 s 7) + (((rotr (g32 s 4) 6) ^^^ (rotr (g32 s 4) 11)) ^^^ (rotr (g32 s 4) 25))) + (((g32 s 4) &&& (g32 s 5)) ^^^ ((~~~(g32 s 4)) &&& (g32 s 6)))) + (g32 constL t)) + (g32 (spreadL blk) t)), g32 s 4, g32 s 5, g32 s 6]) ⟨by omega, by rw [cpN, ← hx2]; rfl, rfl⟩ (by first | (simp; omega) | simp | (dsimp only; omega) | omega) (Sub.all rfl) rfl))
 ·
  have hp1 : ¬ (((t:Int)) < (64:Int)) := of_decide_eq_false hb1
  refine D8 (BB (BB (CV (AE (AI (AI (AD (AA _ (AH rfl) rfl ?_))))))))
  refine AN (AE (BY (EE (ι := Nat × List UInt32) (fun ⟨i, u⟩ => [(2, Ptr nb1 0), (4, Ptr nb3 0), (5, Ptr nb4 0), (97, I64 i)]) (fun ⟨i, u⟩ => [⟨nb1, cu32 st, 268, (0, 0)⟩, ⟨nb3, cu32 (zr32 8), 268, (0, 0)⟩, ⟨nb4, cu32 u, 268, (0, 0)⟩]) (fun ⟨i, u⟩ => i ≤ 8 ∧ u = adN st s i ∧ u.length = 8) (fun ⟨i, u⟩ => 8 - i) (0, s) ⟨by omega, by rw [adN], hs⟩ (Sub.all rfl) rfl ?_)))
  rintro ⟨i, u⟩ ⟨hy1, hy2, hu⟩
  show JC _ _ _ [(2, Ptr nb1 0), (4, Ptr nb3 0), (5, Ptr nb4 0), (97, I64 i)] [⟨nb1, cu32 st, 268, (0, 0)⟩, ⟨nb3, cu32 (zr32 8), 268, (0, 0)⟩, ⟨nb4, cu32 u, 268, (0, 0)⟩]
  refine AI (AD (AA (.bool (decide (((i:Int)) < (8:Int)))) (AR rfl rfl fun _ => CS _ _) rfl ?_))
  refine AN (AE (AI (CY (decide (((i:Int)) < (8:Int))) rfl (fun hb2 => ?_) (fun hb2 => ?_))))
  ·
   have hp2 : ((i:Int)) < (8:Int) := of_decide_eq_true hb2
   refine BT (AE (AI (BY (AI (AD (AA _ (AH rfl) rfl ?_))))))
   refine AA _ (AG rfl) rfl ?_
   refine AN (AE (C1 110 2 [(0, I64 i), (1, Ptr nb4 i), (2, U32 (g32 u i)), (3, I64 i), (4, Ptr nb1 i), (5, U32 (g32 st i)), (6, U32 ((g32 u i) + (g32 st i))), (7, Ptr nb4 i)] BV rfl (by decide +kernel) ?_))
   have hl1 : (u.set i ((g32 u i) + (g32 st i))).length = 8 := by first | (rw [List.length_set]; exact hu) | simp [hu]
   refine CQ ⟨[], [0, 1, 2, 3, 4, 5, 6, 7], [], [0, 1, 2, 3, 4, 5, 6, 7], [8]⟩ 8 rfl rfl (by decide +kernel) rfl ⟨A2 rfl rfl rfl, ⟨_, rfl, AC rfl (BR 8 267 1 i BX BD rfl rfl (by omega) (by omega) (by omega))⟩, ⟨_, rfl, AC rfl (AK rfl (AV BM (AS 2 rfl (Seg.get (DI (i := i) (by rw [hu]; omega))))))⟩, A2 rfl rfl rfl, ⟨_, rfl, AC rfl (BR 8 267 1 i BX BD rfl rfl (by omega) (by omega) (by omega))⟩, ⟨_, rfl, AC rfl (AK rfl (AV BM (AS 0 rfl (Seg.get (DI (i := i) (by rw [hs0]; omega))))))⟩, ⟨_, rfl, AC rfl (AR rfl rfl fun _ => C7 (g32 u i) (g32 st i))⟩, ⟨_, rfl, AC rfl (BR 8 267 1 i BX BD rfl rfl (by omega) (by omega) (by omega))⟩, trivial⟩ rfl (AZ rfl (DT 2 nb4 i 1 (cu32 u) 268 (U32 ((g32 u i) + (g32 st i))) ([U32 ((g32 u i) + (g32 st i))]) (cu32 (u.set i ((g32 u i) + (g32 st i)))) rfl rfl rfl rfl BD rfl (by simp [Value.oneCell']) (by simp [hu]; try omega) (lay32 _ _ _ (by rw [hu]; omega)))) ?_
   show DP _ _ _ _ _ _ _ _ [_, _, ⟨nb4, cu32 (u.set i ((g32 u i) + (g32 st i))), 268, (0, 0)⟩]
   refine C4 ⟨[8], [0, 1, 2, 3, 4, 5, 6, 7], [0, 1, 2, 3, 4, 5, 6, 7], [], []⟩ rfl rfl (by decide +kernel) rfl trivial ?_
   refine CI (F' := [(100, I64 i), (101, Ptr nb4 i), (102, U32 (g32 u i)), (103, I64 i), (104, Ptr nb1 i), (105, U32 (g32 st i)), (106, U32 ((g32 u i) + (g32 st i))), (107, Ptr nb4 i), (2, Ptr nb1 0), (4, Ptr nb3 0), (5, Ptr nb4 0), (97, I64 i), (98, .bool (decide (((i:Int)) < (8:Int)))), (99, I64 i), (16, I64 i)]) (by kernel_rfl) ?_
   refine BO (AE (AD (AA (I64 ((i:Int) + 1)) (AR rfl rfl fun _ => DF _ _ ((i:Int) + 1) (by omega) (by omega)) rfl ?_)))
   refine AA _ (AH rfl) rfl ?_
   refine AN (DH (EP (i + 1, u.set i ((g32 u i) + (g32 st i))) ⟨by omega, by rw [adN, ← hy2], hl1⟩ (by first | (simp; omega) | simp | (dsimp only; omega) | omega) (Sub.all rfl) rfl))
  ·
   have hp2 : ¬ (((i:Int)) < (8:Int)) := of_decide_eq_false hb2
   refine D8 (BB (BB (CV (AE (AI (AD (AA (.agg (cu32 u).toArray) (AK rfl (BH Tryd.isAgg268 D6 (FK hu) (AS 2 rfl (AL _)))) rfl ?_)))))))
   refine A7 (A5 1 nb3 8 (cu32 (zr32 8)) 268 (cu32 u) rfl rfl rfl D6 (FK hu) (by first | exact CD | exact D3 | exact D1 | (simp [cu8, cu32, cu64, Value.oneCell']; done)) (by simp [(FP 8)]) (BC (by simp [(FP 8), hu]))) rfl ?_
   show JL _ _ _ _ _ [_, ⟨nb3, cu32 u, 268, (0, 0)⟩, _]
   refine AN (AE (BP (BQ (.agg (cu32 u).toArray) (res1 Tryd.results194 (DU rfl (BH Tryd.isAgg268 D6 (FK hu) (AS 1 rfl (AL _))))) fun w1 hw1 => ?_)))
   have e1 : t = 64 := by omega
   have e2 : i = 8 := by omega
   subst e1; subst e2
   rw [show u = comprL constL st blk by rw [comprL, hy2, hx2]]
   exact ⟨_, [], rfl, ⟨rfl, rfl⟩, hw1.sub (by simp) (by simp)⟩
theorem spN_zero (blk : List UInt8) : ∀ t, t ≤ 64 → ∀ j, t ≤ j → g32 (spN blk t) j = 0
 | 0, _, j, _ => by rw [spN]; exact g32_zr
 | t + 1, ht, j, hj => by
  rw [spN, spS]
  split
  all_goals rw [g32_set _ _ _ _ (by rw [spN_len]; omega), if_neg (by omega)]; exact spN_zero blk t (by omega) j (by omega)
theorem spN_set0 (blk : List UInt8) {t : Nat} (ht : t < 64) : spN blk t = (spN blk t).set t 0 := by
  refine ext32 (by simp) fun j hj => ?_
  rw [g32_set _ _ _ _ (by rw [spN_len]; omega)]
  by_cases h : t = j
  · subst h; rw [if_pos rfl, spN_zero blk t (by omega) t (Nat.le_refl t)]
  · rw [if_neg h]
theorem set_again (w : List UInt32) (t : Nat) (x y : UInt32) (b : UInt8) (h : t < w.length) (e : y = x * 256 + b.toUInt32) : (w.set t x).set t (g32 (w.set t x) t * 256 + b.toUInt32) = w.set t y := by
 rw [g32_set _ _ _ _ h, if_pos rfl, List.set_set, e]
theorem ex8 {s : List UInt32} (h : s.length = 8) : [g32 s 0, g32 s 1, g32 s 2, g32 s 3, g32 s 4, g32 s 5, g32 s 6, g32 s 7] = s := by
 match s, h with
 | [_, _, _, _, _, _, _, _], _ => rfl
set_option maxHeartbeats 4000000 in
theorem rcompress_c (st : List UInt32) (ab : Option Addr) (cb : Nat) (blk : List UInt8) (w : World) (hs0 : st.length = 8) (hb : blk.length = 64) (hr : RdB w [] ab blk) (hG : GLr w) : Calls Tryd.prog 176 #[.agg (cu32 st).toArray, .slice ab 64 cb] w (Post w [] (fun v L => v = .agg (cu32 (comprL constL st blk)).toArray ∧ L = [])) := by
 refine enter w [] 199 [] [.agg (cu32 st).toArray, .slice ab 64 cb] Tryd.func176 rfl rfl (by simp) (BZ (by simp) (by simp) (by simp)) ?_
 show JC _ _ _ [(0, .agg (cu32 st).toArray), (1, .slice ab 64 cb)] _
 refine AI (AD (A1 (CW (.agg (cu32 st).toArray) (cu32 st) rfl (by first | rfl | simp)) rfl ?_))
 rintro v1 L1 ⟨nb1, hnb1, rfl, rfl⟩
 show JL _ _ _ _ ((2, Ptr nb1 0) :: _) [⟨nb1, cu32 st, 268, (0, 0)⟩]
 refine A1 (BG _ (cu32 (zr32 8)) Tryd.zeroValue268 (by kernel_rfl)) rfl ?_
 rintro v1 L1 ⟨nb2, hnb2, rfl, rfl⟩
 show JL _ _ _ _ ((4, Ptr nb2 0) :: _) [_, ⟨nb2, cu32 (zr32 8), 268, (0, 0)⟩]
 refine AN (AE (AI (AD (A1 (BG _ (cu32 (zr32 64)) Tryd.zeroValue282 (by kernel_rfl)) rfl ?_))))
 rintro v1 L1 ⟨nb3, hnb3, rfl, rfl⟩
 show JL _ _ _ _ ((5, Ptr nb3 0) :: _) [_, _, ⟨nb3, cu32 (zr32 64), 282, (0, 0)⟩]
 refine AN (AE (AI (AI (AD (AA _ (AG rfl) rfl ?_)))))
 refine AN (AE (BY (EE (ι := Nat × List UInt32) (fun ⟨t, ww⟩ => [(1, .slice ab 64 cb), (2, Ptr nb1 0), (4, Ptr nb2 0), (5, Ptr nb3 0), (6, I64 t)]) (fun ⟨t, ww⟩ => [⟨nb1, cu32 st, 268, (0, 0)⟩, ⟨nb2, cu32 (zr32 8), 268, (0, 0)⟩, ⟨nb3, cu32 ww, 282, (0, 0)⟩]) (fun ⟨t, ww⟩ => t ≤ 64 ∧ ww = spN blk t ∧ ww.length = 64) (fun ⟨t, ww⟩ => 64 - t) (0, zr32 64) ⟨by omega, by rw [spN], FP 64⟩ (Sub.all rfl) rfl ?_)))
 rintro ⟨t, ww⟩ ⟨hx1, hx2, hw⟩
 show JC _ _ _ [(1, .slice ab 64 cb), (2, Ptr nb1 0), (4, Ptr nb2 0), (5, Ptr nb3 0), (6, I64 t)] [⟨nb1, cu32 st, 268, (0, 0)⟩, ⟨nb2, cu32 (zr32 8), 268, (0, 0)⟩, ⟨nb3, cu32 ww, 282, (0, 0)⟩]
 refine AI (AI (AD (AA _ (AH rfl) rfl ?_)))
 refine AA (.bool (decide (((t:Int)) < (64:Int)))) (AR rfl rfl fun _ => CS _ _) rfl ?_
 refine AN (AE (CY (decide (((t:Int)) < (64:Int))) rfl (fun hb1 => ?_) (fun hb1 => ?_)))
 ·
  have hp1 : ((t:Int)) < (64:Int) := of_decide_eq_true hb1
  refine BT (AE (AI (BY (AI (AD (AA _ (AH rfl) rfl ?_))))))
  refine AA (.bool (decide (((t:Int)) < (16:Int)))) (AR rfl rfl fun _ => CS _ _) rfl ?_
  refine AN (AE (CY (decide (((t:Int)) < (16:Int))) rfl (fun hb2 => ?_) (fun hb2 => ?_)))
  ·
   have hp2 : ((t:Int)) < (16:Int) := of_decide_eq_true hb2
   refine AI (AD (AA _ (AG rfl) rfl ?_))
   refine AN (AE (BY (EE (ι := Nat × List UInt32) (fun ⟨i, u⟩ => [(1, .slice ab 64 cb), (2, Ptr nb1 0), (4, Ptr nb2 0), (5, Ptr nb3 0), (6, I64 t), (23, I64 t), (24, .bool (decide (((t:Int)) < (64:Int)))), (27, I64 t), (28, .bool (decide (((t:Int)) < (16:Int)))), (7, I64 i)]) (fun ⟨i, u⟩ => [⟨nb1, cu32 st, 268, (0, 0)⟩, ⟨nb2, cu32 (zr32 8), 268, (0, 0)⟩, ⟨nb3, cu32 u, 282, (0, 0)⟩]) (fun ⟨i, u⟩ => i ≤ 4 ∧ u = ww.set t (wrdN blk t i) ∧ u.length = 64) (fun ⟨i, u⟩ => 4 - i) (0, ww) ⟨by omega, by rw [hx2, wrdN]; exact spN_set0 blk (t := t) (by omega), hw⟩ (Sub.all rfl) rfl ?_)))
   rintro ⟨i, u⟩ ⟨hz1, hz2, hu⟩
   show JC _ _ _ [(1, .slice ab 64 cb), (2, Ptr nb1 0), (4, Ptr nb2 0), (5, Ptr nb3 0), (6, I64 t), (23, I64 t), (24, .bool (decide (((t:Int)) < (64:Int)))), (27, I64 t), (28, .bool (decide (((t:Int)) < (16:Int)))), (7, I64 i)] [⟨nb1, cu32 st, 268, (0, 0)⟩, ⟨nb2, cu32 (zr32 8), 268, (0, 0)⟩, ⟨nb3, cu32 u, 282, (0, 0)⟩]
   refine AI (AI (AD (AA _ (AH rfl) rfl ?_)))
   refine AA (.bool (decide (((i:Int)) < (4:Int)))) (AR rfl rfl fun _ => CS _ _) rfl ?_
   refine AN (AE (CY (decide (((i:Int)) < (4:Int))) rfl (fun hb3 => ?_) (fun hb3 => ?_)))
   ·
    have hp3 : ((i:Int)) < (4:Int) := of_decide_eq_true hb3
    refine BT (AE (AI (BY ?_)))
    obtain ⟨bz1, oz1, hz1, hm1⟩ := hr.pos (by rw [hb]; omega)
    refine C1 199 2 [(0, I64 t), (1, I64 t), (2, Ptr nb3 t), (3, U32 (g32 u t)), (4, U32 ((g32 u t) * (256:UInt32))), (5, .slice ab 64 cb), (6, I64 t), (7, I64 (4*(t:Int))), (8, I64 i), (9, I64 ((i:Int) + 4*(t:Int))), (10, Ptr bz1 (i + oz1 + 4*t)), (11, U8 (g8 blk (i + 4*t))), (12, U32 ((g8 blk (i + 4*t)).toUInt32)), (13, U32 (((g32 u t) * (256:UInt32)) + ((g8 blk (i + 4*t)).toUInt32))), (14, Ptr nb3 t)] BV rfl (by decide +kernel) ?_
    have hl1 : (u.set t (((g32 u t) * (256:UInt32)) + ((g8 blk (i + 4*t)).toUInt32))).length = 64 := by first | (rw [List.length_set]; exact hu) | simp [hu]
    refine CQ ⟨[], [0, 1, 2, 3, 4, 5, 6, 7, 8, 9, 10, 11, 12, 13, 14], [], [0, 1, 2, 3, 4, 5, 6, 7, 8, 9, 10, 11, 12, 13, 14], [15]⟩ 15 rfl rfl (by decide +kernel) rfl ⟨A2 rfl rfl rfl, A2 rfl rfl rfl, ⟨_, rfl, AC rfl (BR 64 267 1 t BS BD rfl rfl (by omega) (by omega) (by omega))⟩, ⟨_, rfl, AC rfl (AK rfl (AV BM (AS 2 rfl (Seg.get (DI (i := t) (by rw [hu]; omega))))))⟩, ⟨_, rfl, AC rfl (AR rfl rfl fun _ => bin_mul_u32 (g32 u t) (256:UInt32))⟩, A2 rfl rfl rfl, A2 rfl rfl rfl, ⟨_, rfl, AC rfl (AR rfl rfl fun _ => E8 _ _ (4*(t:Int)) (by omega) (by omega))⟩, A2 rfl rfl rfl, ⟨_, rfl, AC rfl (AR rfl rfl fun _ => DF _ _ ((i:Int) + 4*(t:Int)) (by omega) (by omega))⟩, ⟨_, rfl, AC rfl (D9 5 1 (i + oz1 + 4*t) AM AW rfl hz1 rfl (by omega) (by omega) (by omega))⟩, ⟨_, rfl, AC rfl (AK rfl (AV D4 (C8 (MemAt.base hm1.1 hm1.2.1 hm1.2.2) (Seg.get (GE (i := (i + 4*t)) (by rw [hb]; omega))) (by omega))))⟩, ⟨_, rfl, AC rfl (DW _ _ rfl fun _ => conv_u8_u32 (by rw [B6]; rfl) DR _)⟩, ⟨_, rfl, AC rfl (AR rfl rfl fun _ => C7 ((g32 u t) * (256:UInt32)) ((g8 blk (i + 4*t)).toUInt32))⟩, ⟨_, rfl, AC rfl (BR 64 267 1 t BS BD rfl rfl (by omega) (by omega) (by omega))⟩, trivial⟩ rfl (AZ rfl (DT 2 nb3 t 1 (cu32 u) 282 (U32 (((g32 u t) * (256:UInt32)) + ((g8 blk (i + 4*t)).toUInt32))) ([U32 (((g32 u t) * (256:UInt32)) + ((g8 blk (i + 4*t)).toUInt32))]) (cu32 (u.set t (((g32 u t) * (256:UInt32)) + ((g8 blk (i + 4*t)).toUInt32)))) rfl rfl rfl rfl BD rfl (by simp [Value.oneCell']) (by simp [hu]; try omega) (lay32 _ _ _ (by rw [hu]; omega)))) ?_
    show DP _ _ _ _ _ _ _ _ [_, _, ⟨nb3, cu32 (u.set t (((g32 u t) * (256:UInt32)) + ((g8 blk (i + 4*t)).toUInt32))), 282, (0, 0)⟩]
    refine C4 ⟨[15], [0, 1, 2, 3, 4, 5, 6, 7, 8, 9, 10, 11, 12, 13, 14], [0, 1, 2, 3, 4, 5, 6, 7, 8, 9, 10, 11, 12, 13, 14], [], []⟩ rfl rfl (by decide +kernel) rfl trivial ?_
    refine CI (F' := [(33, I64 t), (34, I64 t), (35, Ptr nb3 t), (36, U32 (g32 u t)), (37, U32 ((g32 u t) * (256:UInt32))), (38, .slice ab 64 cb), (39, I64 t), (40, I64 (4*(t:Int))), (41, I64 i), (42, I64 ((i:Int) + 4*(t:Int))), (43, Ptr bz1 (i + oz1 + 4*t)), (44, U8 (g8 blk (i + 4*t))), (45, U32 ((g8 blk (i + 4*t)).toUInt32)), (46, U32 (((g32 u t) * (256:UInt32)) + ((g8 blk (i + 4*t)).toUInt32))), (47, Ptr nb3 t), (1, .slice ab 64 cb), (2, Ptr nb1 0), (4, Ptr nb2 0), (5, Ptr nb3 0), (6, I64 t), (23, I64 t), (24, .bool (decide (((t:Int)) < (64:Int)))), (27, I64 t), (28, .bool (decide (((t:Int)) < (16:Int)))), (7, I64 i), (29, I64 i), (30, .bool (decide (((i:Int)) < (4:Int))))]) (by kernel_rfl) ?_
    refine BO (AE (AD (AA _ (AH rfl) rfl ?_)))
    refine AA (I64 ((i:Int) + 1)) (AR rfl rfl fun _ => DF _ _ ((i:Int) + 1) (by omega) (by omega)) rfl ?_
    refine AA _ (AG rfl) rfl ?_
    refine AN (DH (EP (i + 1, u.set t (((g32 u t) * (256:UInt32)) + ((g8 blk (i + 4*t)).toUInt32))) ⟨by omega, by rw [hz2]; exact set_again ww t _ _ _ (by omega) (by rw [wrdN]), hl1⟩ (by first | (simp; omega) | simp | (dsimp only; omega) | omega) (Sub.all rfl) rfl))
   ·
    have hp3 : ¬ (((i:Int)) < (4:Int)) := of_decide_eq_false hb3
    refine D8 (BB (BB (CV (BO (AE (AD (AA _ (AH rfl) rfl ?_)))))))
    refine AA (I64 ((t:Int) + 1)) (AR rfl rfl fun _ => DF _ _ ((t:Int) + 1) (by omega) (by omega)) rfl ?_
    refine AA _ (AG rfl) rfl ?_
    refine AN (DH (EP (t + 1, u) ⟨by omega, by rw [spN, spS, if_pos (by omega), ← hx2, hz2, show i = 4 from by omega, wrd_word], hu⟩ (by first | (simp; omega) | simp | (dsimp only; omega) | omega) (Sub.all rfl) rfl))
  ·
   have hp2 : ¬ (((t:Int)) < (16:Int)) := of_decide_eq_false hb2
   refine AI (C1 199 1 [(0, I64 t), (1, I64 ((t:Int) - 15)), (2, Ptr nb3 (t - 15)), (3, U32 (g32 ww (t - 15))), (4, I64 t), (5, I64 ((t:Int) - 2)), (6, Ptr nb3 (t - 2)), (7, U32 (g32 ww (t - 2))), (8, U32 (g32 ww (t - 15))), (9, U32 (g32 ww (t - 2)))] BV rfl (by decide +kernel) ?_)
   refine C4 ⟨[], [0, 1, 2, 3, 4, 5, 6, 7, 8, 9], [], [0, 1, 2, 3, 4, 5, 6, 7, 8, 9], []⟩ rfl rfl (by decide +kernel) rfl ⟨A2 rfl rfl rfl, ⟨_, rfl, AC rfl (AR rfl rfl fun _ => DD _ _ ((t:Int) - 15) (by omega) (by omega))⟩, ⟨_, rfl, AC rfl (BR 64 267 1 (t - 15) BS BD rfl rfl (by omega) (by omega) (by omega))⟩, ⟨_, rfl, AC rfl (AK rfl (AV BM (AS 2 rfl (Seg.get (DI (i := (t - 15)) (by rw [hw]; omega))))))⟩, A2 rfl rfl rfl, ⟨_, rfl, AC rfl (AR rfl rfl fun _ => DD _ _ ((t:Int) - 2) (by omega) (by omega))⟩, ⟨_, rfl, AC rfl (BR 64 267 1 (t - 2) BS BD rfl rfl (by omega) (by omega) (by omega))⟩, ⟨_, rfl, AC rfl (AK rfl (AV BM (AS 2 rfl (Seg.get (DI (i := (t - 2)) (by rw [hw]; omega))))))⟩, ⟨_, rfl, AC rfl (AG rfl)⟩, ⟨_, rfl, AC rfl (AG rfl)⟩, trivial⟩ ?_
   refine CI (F' := [(48, I64 t), (49, I64 ((t:Int) - 15)), (50, Ptr nb3 (t - 15)), (51, U32 (g32 ww (t - 15))), (52, I64 t), (53, I64 ((t:Int) - 2)), (54, Ptr nb3 (t - 2)), (55, U32 (g32 ww (t - 2))), (8, U32 (g32 ww (t - 15))), (9, U32 (g32 ww (t - 2))), (1, .slice ab 64 cb), (2, Ptr nb1 0), (4, Ptr nb2 0), (5, Ptr nb3 0), (6, I64 t), (23, I64 t), (24, .bool (decide (((t:Int)) < (64:Int)))), (27, I64 t), (28, .bool (decide (((t:Int)) < (16:Int))))]) (by kernel_rfl) ?_
   refine AE (AI (AD (AA _ (AH rfl) rfl ?_)))
   refine A7 (A3 191 [U32 (g32 ww (t - 15)), I64 7] (U32 (rotr (g32 ww (t - 15)) 7)) (AY _ Tryd.call191 rfl) (fun w1 hw1 => rturn_c (g32 ww (t - 15)) 7 w1 (by omega) (by omega))) rfl ?_
   show JL _ _ _ _ ((57, U32 (rotr (g32 ww (t - 15)) 7)) :: _) [_, _, _]
   refine AA _ (AH rfl) rfl ?_
   refine A7 (A3 191 [U32 (g32 ww (t - 15)), I64 18] (U32 (rotr (g32 ww (t - 15)) 18)) (AY _ Tryd.call191 rfl) (fun w1 hw1 => rturn_c (g32 ww (t - 15)) 18 w1 (by omega) (by omega))) rfl ?_
   show JL _ _ _ _ ((59, U32 (rotr (g32 ww (t - 15)) 18)) :: _) [_, _, _]
   refine AA (U32 ((rotr (g32 ww (t - 15)) 7) ^^^ (rotr (g32 ww (t - 15)) 18))) (AR rfl rfl fun _ => C6 (rotr (g32 ww (t - 15)) 7) (rotr (g32 ww (t - 15)) 18)) rfl ?_
   refine AA _ (AH rfl) rfl ?_
   refine AA (U32 ((g32 ww (t - 15)) >>> (3:UInt32))) (AR rfl rfl fun _ => EO (g32 ww (t - 15)) _ _ 3 (by decide) rfl) rfl ?_
   refine AA (U32 (((rotr (g32 ww (t - 15)) 7) ^^^ (rotr (g32 ww (t - 15)) 18)) ^^^ ((g32 ww (t - 15)) >>> (3:UInt32)))) (AR rfl rfl fun _ => C6 ((rotr (g32 ww (t - 15)) 7) ^^^ (rotr (g32 ww (t - 15)) 18)) ((g32 ww (t - 15)) >>> (3:UInt32))) rfl ?_
   refine AA _ (AG rfl) rfl ?_
   refine AN (AE (AI (AD (AA _ (AH rfl) rfl ?_))))
   refine A7 (A3 191 [U32 (g32 ww (t - 2)), I64 17] (U32 (rotr (g32 ww (t - 2)) 17)) (AY _ Tryd.call191 rfl) (fun w1 hw1 => rturn_c (g32 ww (t - 2)) 17 w1 (by omega) (by omega))) rfl ?_
   show JL _ _ _ _ ((65, U32 (rotr (g32 ww (t - 2)) 17)) :: _) [_, _, _]
   refine AA _ (AH rfl) rfl ?_
   refine A7 (A3 191 [U32 (g32 ww (t - 2)), I64 19] (U32 (rotr (g32 ww (t - 2)) 19)) (AY _ Tryd.call191 rfl) (fun w1 hw1 => rturn_c (g32 ww (t - 2)) 19 w1 (by omega) (by omega))) rfl ?_
   show JL _ _ _ _ ((67, U32 (rotr (g32 ww (t - 2)) 19)) :: _) [_, _, _]
   refine AA (U32 ((rotr (g32 ww (t - 2)) 17) ^^^ (rotr (g32 ww (t - 2)) 19))) (AR rfl rfl fun _ => C6 (rotr (g32 ww (t - 2)) 17) (rotr (g32 ww (t - 2)) 19)) rfl ?_
   refine AA _ (AH rfl) rfl ?_
   refine AA (U32 ((g32 ww (t - 2)) >>> (10:UInt32))) (AR rfl rfl fun _ => EO (g32 ww (t - 2)) _ _ 10 (by decide) rfl) rfl ?_
   refine AA (U32 (((rotr (g32 ww (t - 2)) 17) ^^^ (rotr (g32 ww (t - 2)) 19)) ^^^ ((g32 ww (t - 2)) >>> (10:UInt32)))) (AR rfl rfl fun _ => C6 ((rotr (g32 ww (t - 2)) 17) ^^^ (rotr (g32 ww (t - 2)) 19)) ((g32 ww (t - 2)) >>> (10:UInt32))) rfl ?_
   refine AA _ (AG rfl) rfl ?_
   refine AN (AE (C1 199 2 [(0, I64 t), (1, I64 t), (2, I64 ((t:Int) - 16)), (3, Ptr nb3 (t - 16)), (4, U32 (g32 ww (t - 16))), (5, U32 (((rotr (g32 ww (t - 15)) 7) ^^^ (rotr (g32 ww (t - 15)) 18)) ^^^ ((g32 ww (t - 15)) >>> (3:UInt32)))), (6, U32 ((g32 ww (t - 16)) + (((rotr (g32 ww (t - 15)) 7) ^^^ (rotr (g32 ww (t - 15)) 18)) ^^^ ((g32 ww (t - 15)) >>> (3:UInt32))))), (7, I64 t), (8, I64 ((t:Int) - 7)), (9, Ptr nb3 (t - 7)), (10, U32 (g32 ww (t - 7))), (11, U32 (((g32 ww (t - 16)) + (((rotr (g32 ww (t - 15)) 7) ^^^ (rotr (g32 ww (t - 15)) 18)) ^^^ ((g32 ww (t - 15)) >>> (3:UInt32)))) + (g32 ww (t - 7)))), (12, U32 (((rotr (g32 ww (t - 2)) 17) ^^^ (rotr (g32 ww (t - 2)) 19)) ^^^ ((g32 ww (t - 2)) >>> (10:UInt32)))), (13, U32 ((((g32 ww (t - 16)) + (((rotr (g32 ww (t - 15)) 7) ^^^ (rotr (g32 ww (t - 15)) 18)) ^^^ ((g32 ww (t - 15)) >>> (3:UInt32)))) + (g32 ww (t - 7))) + (((rotr (g32 ww (t - 2)) 17) ^^^ (rotr (g32 ww (t - 2)) 19)) ^^^ ((g32 ww (t - 2)) >>> (10:UInt32))))), (14, Ptr nb3 t)] BV rfl (by decide +kernel) ?_))
   have hl2 : (ww.set t ((((g32 ww (t - 16)) + (((rotr (g32 ww (t - 15)) 7) ^^^ (rotr (g32 ww (t - 15)) 18)) ^^^ ((g32 ww (t - 15)) >>> (3:UInt32)))) + (g32 ww (t - 7))) + (((rotr (g32 ww (t - 2)) 17) ^^^ (rotr (g32 ww (t - 2)) 19)) ^^^ ((g32 ww (t - 2)) >>> (10:UInt32))))).length = 64 := by first | (rw [List.length_set]; exact hw) | simp [hw]
   refine CQ ⟨[], [0, 1, 2, 3, 4, 5, 6, 7, 8, 9, 10, 11, 12, 13, 14], [], [0, 1, 2, 3, 4, 5, 6, 7, 8, 9, 10, 11, 12, 13, 14], [15]⟩ 15 rfl rfl (by decide +kernel) rfl ⟨A2 rfl rfl rfl, A2 rfl rfl rfl, ⟨_, rfl, AC rfl (AR rfl rfl fun _ => DD _ _ ((t:Int) - 16) (by omega) (by omega))⟩, ⟨_, rfl, AC rfl (BR 64 267 1 (t - 16) BS BD rfl rfl (by omega) (by omega) (by omega))⟩, ⟨_, rfl, AC rfl (AK rfl (AV BM (AS 2 rfl (Seg.get (DI (i := (t - 16)) (by rw [hw]; omega))))))⟩, A2 rfl rfl rfl, ⟨_, rfl, AC rfl (AR rfl rfl fun _ => C7 (g32 ww (t - 16)) (((rotr (g32 ww (t - 15)) 7) ^^^ (rotr (g32 ww (t - 15)) 18)) ^^^ ((g32 ww (t - 15)) >>> (3:UInt32))))⟩, A2 rfl rfl rfl, ⟨_, rfl, AC rfl (AR rfl rfl fun _ => DD _ _ ((t:Int) - 7) (by omega) (by omega))⟩, ⟨_, rfl, AC rfl (BR 64 267 1 (t - 7) BS BD rfl rfl (by omega) (by omega) (by omega))⟩, ⟨_, rfl, AC rfl (AK rfl (AV BM (AS 2 rfl (Seg.get (DI (i := (t - 7)) (by rw [hw]; omega))))))⟩, ⟨_, rfl, AC rfl (AR rfl rfl fun _ => C7 ((g32 ww (t - 16)) + (((rotr (g32 ww (t - 15)) 7) ^^^ (rotr (g32 ww (t - 15)) 18)) ^^^ ((g32 ww (t - 15)) >>> (3:UInt32)))) (g32 ww (t - 7)))⟩, A2 rfl rfl rfl, ⟨_, rfl, AC rfl (AR rfl rfl fun _ => C7 (((g32 ww (t - 16)) + (((rotr (g32 ww (t - 15)) 7) ^^^ (rotr (g32 ww (t - 15)) 18)) ^^^ ((g32 ww (t - 15)) >>> (3:UInt32)))) + (g32 ww (t - 7))) (((rotr (g32 ww (t - 2)) 17) ^^^ (rotr (g32 ww (t - 2)) 19)) ^^^ ((g32 ww (t - 2)) >>> (10:UInt32))))⟩, ⟨_, rfl, AC rfl (BR 64 267 1 t BS BD rfl rfl (by omega) (by omega) (by omega))⟩, trivial⟩ rfl (AZ rfl (DT 2 nb3 t 1 (cu32 ww) 282 (U32 ((((g32 ww (t - 16)) + (((rotr (g32 ww (t - 15)) 7) ^^^ (rotr (g32 ww (t - 15)) 18)) ^^^ ((g32 ww (t - 15)) >>> (3:UInt32)))) + (g32 ww (t - 7))) + (((rotr (g32 ww (t - 2)) 17) ^^^ (rotr (g32 ww (t - 2)) 19)) ^^^ ((g32 ww (t - 2)) >>> (10:UInt32))))) ([U32 ((((g32 ww (t - 16)) + (((rotr (g32 ww (t - 15)) 7) ^^^ (rotr (g32 ww (t - 15)) 18)) ^^^ ((g32 ww (t - 15)) >>> (3:UInt32)))) + (g32 ww (t - 7))) + (((rotr (g32 ww (t - 2)) 17) ^^^ (rotr (g32 ww (t - 2)) 19)) ^^^ ((g32 ww (t - 2)) >>> (10:UInt32))))]) (cu32 (ww.set t ((((g32 ww (t - 16)) + (((rotr (g32 ww (t - 15)) 7) ^^^ (rotr (g32 ww (t - 15)) 18)) ^^^ ((g32 ww (t - 15)) >>> (3:UInt32)))) + (g32 ww (t - 7))) + (((rotr (g32 ww (t - 2)) 17) ^^^ (rotr (g32 ww (t - 2)) 19)) ^^^ ((g32 ww (t - 2)) >>> (10:UInt32)))))) rfl rfl rfl rfl BD rfl (by simp [Value.oneCell']) (by simp [hw]; try omega) (lay32 _ _ _ (by rw [hw]; omega)))) ?_
   show DP _ _ _ _ _ _ _ _ [_, _, ⟨nb3, cu32 (ww.set t ((((g32 ww (t - 16)) + (((rotr (g32 ww (t - 15)) 7) ^^^ (rotr (g32 ww (t - 15)) 18)) ^^^ ((g32 ww (t - 15)) >>> (3:UInt32)))) + (g32 ww (t - 7))) + (((rotr (g32 ww (t - 2)) 17) ^^^ (rotr (g32 ww (t - 2)) 19)) ^^^ ((g32 ww (t - 2)) >>> (10:UInt32))))), 282, (0, 0)⟩]
   refine C4 ⟨[15], [0, 1, 2, 3, 4, 5, 6, 7, 8, 9, 10, 11, 12, 13, 14], [0, 1, 2, 3, 4, 5, 6, 7, 8, 9, 10, 11, 12, 13, 14], [], []⟩ rfl rfl (by decide +kernel) rfl trivial ?_
   refine CI (F' := [(72, I64 t), (73, I64 t), (74, I64 ((t:Int) - 16)), (75, Ptr nb3 (t - 16)), (76, U32 (g32 ww (t - 16))), (77, U32 (((rotr (g32 ww (t - 15)) 7) ^^^ (rotr (g32 ww (t - 15)) 18)) ^^^ ((g32 ww (t - 15)) >>> (3:UInt32)))), (78, U32 ((g32 ww (t - 16)) + (((rotr (g32 ww (t - 15)) 7) ^^^ (rotr (g32 ww (t - 15)) 18)) ^^^ ((g32 ww (t - 15)) >>> (3:UInt32))))), (79, I64 t), (80, I64 ((t:Int) - 7)), (81, Ptr nb3 (t - 7)), (82, U32 (g32 ww (t - 7))), (83, U32 (((g32 ww (t - 16)) + (((rotr (g32 ww (t - 15)) 7) ^^^ (rotr (g32 ww (t - 15)) 18)) ^^^ ((g32 ww (t - 15)) >>> (3:UInt32)))) + (g32 ww (t - 7)))), (84, U32 (((rotr (g32 ww (t - 2)) 17) ^^^ (rotr (g32 ww (t - 2)) 19)) ^^^ ((g32 ww (t - 2)) >>> (10:UInt32)))), (85, U32 ((((g32 ww (t - 16)) + (((rotr (g32 ww (t - 15)) 7) ^^^ (rotr (g32 ww (t - 15)) 18)) ^^^ ((g32 ww (t - 15)) >>> (3:UInt32)))) + (g32 ww (t - 7))) + (((rotr (g32 ww (t - 2)) 17) ^^^ (rotr (g32 ww (t - 2)) 19)) ^^^ ((g32 ww (t - 2)) >>> (10:UInt32))))), (86, Ptr nb3 t), (48, I64 t), (49, I64 ((t:Int) - 15)), (50, Ptr nb3 (t - 15)), (51, U32 (g32 ww (t - 15))), (52, I64 t), (53, I64 ((t:Int) - 2)), (54, Ptr nb3 (t - 2)), (55, U32 (g32 ww (t - 2))), (8, U32 (g32 ww (t - 15))), (9, U32 (g32 ww (t - 2))), (1, .slice ab 64 cb), (2, Ptr nb1 0), (4, Ptr nb2 0), (5, Ptr nb3 0), (6, I64 t), (23, I64 t), (24, .bool (decide (((t:Int)) < (64:Int)))), (27, I64 t), (28, .bool (decide (((t:Int)) < (16:Int)))), (56, U32 (g32 ww (t - 15))), (57, U32 (rotr (g32 ww (t - 15)) 7)), (58, U32 (g32 ww (t - 15))), (59, U32 (rotr (g32 ww (t - 15)) 18)), (60, U32 ((rotr (g32 ww (t - 15)) 7) ^^^ (rotr (g32 ww (t - 15)) 18))), (61, U32 (g32 ww (t - 15))), (62, U32 ((g32 ww (t - 15)) >>> (3:UInt32))), (63, U32 (((rotr (g32 ww (t - 15)) 7) ^^^ (rotr (g32 ww (t - 15)) 18)) ^^^ ((g32 ww (t - 15)) >>> (3:UInt32)))), (10, U32 (((rotr (g32 ww (t - 15)) 7) ^^^ (rotr (g32 ww (t - 15)) 18)) ^^^ ((g32 ww (t - 15)) >>> (3:UInt32)))), (64, U32 (g32 ww (t - 2))), (65, U32 (rotr (g32 ww (t - 2)) 17)), (66, U32 (g32 ww (t - 2))), (67, U32 (rotr (g32 ww (t - 2)) 19)), (68, U32 ((rotr (g32 ww (t - 2)) 17) ^^^ (rotr (g32 ww (t - 2)) 19))), (69, U32 (g32 ww (t - 2))), (70, U32 ((g32 ww (t - 2)) >>> (10:UInt32))), (71, U32 (((rotr (g32 ww (t - 2)) 17) ^^^ (rotr (g32 ww (t - 2)) 19)) ^^^ ((g32 ww (t - 2)) >>> (10:UInt32)))), (11, U32 (((rotr (g32 ww (t - 2)) 17) ^^^ (rotr (g32 ww (t - 2)) 19)) ^^^ ((g32 ww (t - 2)) >>> (10:UInt32))))]) (by kernel_rfl) ?_
   refine BO (AE (AD (AA _ (AH rfl) rfl ?_)))
   refine AA (I64 ((t:Int) + 1)) (AR rfl rfl fun _ => DF _ _ ((t:Int) + 1) (by omega) (by omega)) rfl ?_
   refine AA _ (AG rfl) rfl ?_
   refine AN (DH (EP (t + 1, ww.set t ((((g32 ww (t - 16)) + (((rotr (g32 ww (t - 15)) 7) ^^^ (rotr (g32 ww (t - 15)) 18)) ^^^ ((g32 ww (t - 15)) >>> (3:UInt32)))) + (g32 ww (t - 7))) + (((rotr (g32 ww (t - 2)) 17) ^^^ (rotr (g32 ww (t - 2)) 19)) ^^^ ((g32 ww (t - 2)) >>> (10:UInt32))))) ⟨by omega, by rw [spN, spS, if_neg (by omega), ← hx2], hl2⟩ (by first | (simp; omega) | simp | (dsimp only; omega) | omega) (Sub.all rfl) rfl))
 ·
  have hp1 : ¬ (((t:Int)) < (64:Int)) := of_decide_eq_false hb1
  refine D8 (BB (BB (CV (AE (AI (C1 199 1 [(0, Ptr nb1 0), (1, U32 (g32 st 0)), (2, Ptr nb1 1), (3, U32 (g32 st 1)), (4, Ptr nb1 2), (5, U32 (g32 st 2)), (6, Ptr nb1 3), (7, U32 (g32 st 3)), (8, Ptr nb1 4), (9, U32 (g32 st 4)), (10, Ptr nb1 5), (11, U32 (g32 st 5)), (12, Ptr nb1 6), (13, U32 (g32 st 6)), (14, Ptr nb1 7), (15, U32 (g32 st 7)), (16, U32 (g32 st 0)), (17, U32 (g32 st 1)), (18, U32 (g32 st 2)), (19, U32 (g32 st 3)), (20, U32 (g32 st 4)), (21, U32 (g32 st 5)), (22, U32 (g32 st 6)), (23, U32 (g32 st 7))] BV rfl (by decide +kernel) ?_))))))
  refine C4 ⟨[], [0, 1, 2, 3, 4, 5, 6, 7, 8, 9, 10, 11, 12, 13, 14, 15, 16, 17, 18, 19, 20, 21, 22, 23], [], [0, 1, 2, 3, 4, 5, 6, 7, 8, 9, 10, 11, 12, 13, 14, 15, 16, 17, 18, 19, 20, 21, 22, 23], []⟩ rfl rfl (by decide +kernel) rfl ⟨⟨_, rfl, AC rfl (BR 8 267 1 0 BX BD rfl rfl (by omega) (by omega) (by omega))⟩, ⟨_, rfl, AC rfl (AK rfl (AV BM (AS 0 rfl (Seg.get (DI (i := 0) (by rw [hs0]; omega))))))⟩, ⟨_, rfl, AC rfl (BR 8 267 1 1 BX BD rfl rfl (by omega) (by omega) (by omega))⟩, ⟨_, rfl, AC rfl (AK rfl (AV BM (AS 0 rfl (Seg.get (DI (i := 1) (by rw [hs0]; omega))))))⟩, ⟨_, rfl, AC rfl (BR 8 267 1 2 BX BD rfl rfl (by omega) (by omega) (by omega))⟩, ⟨_, rfl, AC rfl (AK rfl (AV BM (AS 0 rfl (Seg.get (DI (i := 2) (by rw [hs0]; omega))))))⟩, ⟨_, rfl, AC rfl (BR 8 267 1 3 BX BD rfl rfl (by omega) (by omega) (by omega))⟩, ⟨_, rfl, AC rfl (AK rfl (AV BM (AS 0 rfl (Seg.get (DI (i := 3) (by rw [hs0]; omega))))))⟩, ⟨_, rfl, AC rfl (BR 8 267 1 4 BX BD rfl rfl (by omega) (by omega) (by omega))⟩, ⟨_, rfl, AC rfl (AK rfl (AV BM (AS 0 rfl (Seg.get (DI (i := 4) (by rw [hs0]; omega))))))⟩, ⟨_, rfl, AC rfl (BR 8 267 1 5 BX BD rfl rfl (by omega) (by omega) (by omega))⟩, ⟨_, rfl, AC rfl (AK rfl (AV BM (AS 0 rfl (Seg.get (DI (i := 5) (by rw [hs0]; omega))))))⟩, ⟨_, rfl, AC rfl (BR 8 267 1 6 BX BD rfl rfl (by omega) (by omega) (by omega))⟩, ⟨_, rfl, AC rfl (AK rfl (AV BM (AS 0 rfl (Seg.get (DI (i := 6) (by rw [hs0]; omega))))))⟩, ⟨_, rfl, AC rfl (BR 8 267 1 7 BX BD rfl rfl (by omega) (by omega) (by omega))⟩, ⟨_, rfl, AC rfl (AK rfl (AV BM (AS 0 rfl (Seg.get (DI (i := 7) (by rw [hs0]; omega))))))⟩, ⟨_, rfl, AC rfl (AG rfl)⟩, ⟨_, rfl, AC rfl (AG rfl)⟩, ⟨_, rfl, AC rfl (AG rfl)⟩, ⟨_, rfl, AC rfl (AG rfl)⟩, ⟨_, rfl, AC rfl (AG rfl)⟩, ⟨_, rfl, AC rfl (AG rfl)⟩, ⟨_, rfl, AC rfl (AG rfl)⟩, ⟨_, rfl, AC rfl (AG rfl)⟩, trivial⟩ ?_
  refine CI (F' := [(12, U32 (g32 st 0)), (13, U32 (g32 st 1)), (14, U32 (g32 st 2)), (15, U32 (g32 st 3)), (16, U32 (g32 st 4)), (17, U32 (g32 st 5)), (18, U32 (g32 st 6)), (19, U32 (g32 st 7)), (2, Ptr nb1 0), (4, Ptr nb2 0), (5, Ptr nb3 0)]) (by kernel_rfl) ?_
  refine AE (AI (AI (AD (AA _ (AG rfl) rfl ?_))))
  refine AN (AE (BY (EE (ι := Nat × UInt32 × UInt32 × UInt32 × UInt32 × UInt32 × UInt32 × UInt32 × UInt32) (fun ⟨r, va, vb, vc, vd, ve, vf, vg, vh⟩ => [(2, Ptr nb1 0), (4, Ptr nb2 0), (5, Ptr nb3 0), (20, I64 r), (12, U32 va), (13, U32 vb), (14, U32 vc), (15, U32 vd), (16, U32 ve), (17, U32 vf), (18, U32 vg), (19, U32 vh)]) (fun ⟨r, va, vb, vc, vd, ve, vf, vg, vh⟩ => [⟨nb1, cu32 st, 268, (0, 0)⟩, ⟨nb2, cu32 (zr32 8), 268, (0, 0)⟩, ⟨nb3, cu32 ww, 282, (0, 0)⟩]) (fun ⟨r, va, vb, vc, vd, ve, vf, vg, vh⟩ => r ≤ 64 ∧ [va, vb, vc, vd, ve, vf, vg, vh] = cpN constL st ww r) (fun ⟨r, va, vb, vc, vd, ve, vf, vg, vh⟩ => 64 - r) (0, g32 st 0, g32 st 1, g32 st 2, g32 st 3, g32 st 4, g32 st 5, g32 st 6, g32 st 7) ⟨by omega, by rw [cpN]; exact ex8 hs0⟩ (Sub.all rfl) rfl ?_)))
  rintro ⟨r, va, vb, vc, vd, ve, vf, vg, vh⟩ ⟨hy1, hy2⟩
  show JC _ _ _ [(2, Ptr nb1 0), (4, Ptr nb2 0), (5, Ptr nb3 0), (20, I64 r), (12, U32 va), (13, U32 vb), (14, U32 vc), (15, U32 vd), (16, U32 ve), (17, U32 vf), (18, U32 vg), (19, U32 vh)] [⟨nb1, cu32 st, 268, (0, 0)⟩, ⟨nb2, cu32 (zr32 8), 268, (0, 0)⟩, ⟨nb3, cu32 ww, 282, (0, 0)⟩]
  refine AI (AI (AD (AA _ (AH rfl) rfl ?_)))
  refine AA (.bool (decide (((r:Int)) < (64:Int)))) (AR rfl rfl fun _ => CS _ _) rfl ?_
  refine AN (AE (CY (decide (((r:Int)) < (64:Int))) rfl (fun hb4 => ?_) (fun hb4 => ?_)))
  ·
   have hp4 : ((r:Int)) < (64:Int) := of_decide_eq_true hb4
   refine BT (AE (AI (BY (AI (C1 199 4 [(0, U32 vh), (1, U32 ve), (3, U32 ve), (6, U32 ve), (10, U32 ve), (11, U32 vf), (12, U32 (ve &&& vf)), (13, U32 ve), (14, U32 (~~~ve)), (15, U32 vg), (16, U32 ((~~~ve) &&& vg)), (17, U32 ((ve &&& vf) ^^^ ((~~~ve) &&& vg))), (19, I64 r), (20, Ptr 2 r), (21, U32 (g32 constL r)), (23, I64 r), (24, Ptr nb3 r), (25, U32 (g32 ww r))] BV rfl (by decide +kernel) ?_)))))
   refine CQ ⟨[], [0, 1, 3, 6, 10, 11, 12, 13, 14, 15, 16, 17, 19, 20, 21, 23, 24, 25], [], [0, 1, 3, 6, 10, 11, 12, 13, 14, 15, 16, 17, 19, 20, 21, 23, 24, 25], [2]⟩ 2 rfl rfl (by decide +kernel) rfl ⟨A2 rfl rfl rfl, A2 rfl rfl rfl, A2 rfl rfl rfl, A2 rfl rfl rfl, A2 rfl rfl rfl, A2 rfl rfl rfl, ⟨_, rfl, AC rfl (AR rfl rfl fun _ => D7 ve vf)⟩, A2 rfl rfl rfl, ⟨_, rfl, AC rfl (Ev_un _ _ rfl fun _ => F6 _)⟩, A2 rfl rfl rfl, ⟨_, rfl, AC rfl (AR rfl rfl fun _ => D7 (~~~ve) vg)⟩, ⟨_, rfl, AC rfl (AR rfl rfl fun _ => C6 (ve &&& vf) ((~~~ve) &&& vg))⟩, A2 rfl rfl rfl, ⟨_, rfl, AC rfl (BR 64 267 1 r BS BD rfl rfl (by omega) (by omega) (by omega))⟩, ⟨_, rfl, AC rfl (AK rfl (AV BM (C8 (RdA.mem hG (by simp)) (Seg.get (DI (i := r) (by rw [FT]; omega))) (by omega))))⟩, A2 rfl rfl rfl, ⟨_, rfl, AC rfl (BR 64 267 1 r BS BD rfl rfl (by omega) (by omega) (by omega))⟩, ⟨_, rfl, AC rfl (AK rfl (AV BM (AS 2 rfl (Seg.get (DI (i := r) (by rw [hw]; omega))))))⟩, trivial⟩ rfl (AZ rfl (A3 191 [U32 ve, I64 6] (U32 (rotr ve 6)) (AY _ Tryd.call191 rfl) (fun w1 hw1 => rturn_c ve 6 w1 (by omega) (by omega)))) ?_
   show DP _ _ _ _ _ _ _ _ [_, _, _]
   refine CR ⟨[2], [0, 1, 3, 6, 10, 11, 12, 13, 14, 15, 16, 17, 19, 20, 21, 23, 24, 25], [1], [0, 3, 6, 10, 11, 12, 13, 14, 15, 16, 17, 19, 20, 21, 23, 24, 25], [4]⟩ 4 _ rfl rfl (by decide +kernel) rfl ⟨A2 rfl rfl rfl, A2 rfl rfl rfl, A2 rfl rfl rfl, A2 rfl rfl rfl, A2 rfl rfl rfl, ⟨_, rfl, AC rfl (AR rfl rfl fun _ => D7 ve vf)⟩, A2 rfl rfl rfl, ⟨_, rfl, AC rfl (Ev_un _ _ rfl fun _ => F6 _)⟩, A2 rfl rfl rfl, ⟨_, rfl, AC rfl (AR rfl rfl fun _ => D7 (~~~ve) vg)⟩, ⟨_, rfl, AC rfl (AR rfl rfl fun _ => C6 (ve &&& vf) ((~~~ve) &&& vg))⟩, A2 rfl rfl rfl, ⟨_, rfl, AC rfl (BR 64 267 1 r BS BD rfl rfl (by omega) (by omega) (by omega))⟩, ⟨_, rfl, AC rfl (AK rfl (AV BM (C8 (RdA.mem hG (by simp)) (Seg.get (DI (i := r) (by rw [FT]; omega))) (by omega))))⟩, A2 rfl rfl rfl, ⟨_, rfl, AC rfl (BR 64 267 1 r BS BD rfl rfl (by omega) (by omega) (by omega))⟩, ⟨_, rfl, AC rfl (AK rfl (AV BM (AS 2 rfl (Seg.get (DI (i := r) (by rw [hw]; omega))))))⟩, trivial⟩ rfl (AZ rfl (A3 191 [U32 ve, I64 11] (U32 (rotr ve 11)) (AY _ Tryd.call191 rfl) (fun w1 hw1 => rturn_c ve 11 w1 (by omega) (by omega)))) ?_
   rintro v1 L1 ⟨rfl, rfl⟩
   refine ⟨[(5, U32 ((rotr ve 6) ^^^ (rotr ve 11)))], ?_⟩
   show DP _ _ _ _ _ _ _ _ [_, _, _]
   refine CR ⟨[2, 4], [0, 1, 3, 5, 6, 10, 11, 12, 13, 14, 15, 16, 17, 19, 20, 21, 23, 24, 25], [1, 3], [0, 5, 6, 10, 11, 12, 13, 14, 15, 16, 17, 19, 20, 21, 23, 24, 25], [7]⟩ 7 _ rfl rfl (by decide +kernel) rfl ⟨A2 rfl rfl rfl, ⟨_, rfl, AC rfl (AR rfl rfl fun _ => C6 (rotr ve 6) (rotr ve 11))⟩, A2 rfl rfl rfl, A2 rfl rfl rfl, A2 rfl rfl rfl, ⟨_, rfl, AC rfl (AR rfl rfl fun _ => D7 ve vf)⟩, A2 rfl rfl rfl, ⟨_, rfl, AC rfl (Ev_un _ _ rfl fun _ => F6 _)⟩, A2 rfl rfl rfl, ⟨_, rfl, AC rfl (AR rfl rfl fun _ => D7 (~~~ve) vg)⟩, ⟨_, rfl, AC rfl (AR rfl rfl fun _ => C6 (ve &&& vf) ((~~~ve) &&& vg))⟩, A2 rfl rfl rfl, ⟨_, rfl, AC rfl (BR 64 267 1 r BS BD rfl rfl (by omega) (by omega) (by omega))⟩, ⟨_, rfl, AC rfl (AK rfl (AV BM (C8 (RdA.mem hG (by simp)) (Seg.get (DI (i := r) (by rw [FT]; omega))) (by omega))))⟩, A2 rfl rfl rfl, ⟨_, rfl, AC rfl (BR 64 267 1 r BS BD rfl rfl (by omega) (by omega) (by omega))⟩, ⟨_, rfl, AC rfl (AK rfl (AV BM (AS 2 rfl (Seg.get (DI (i := r) (by rw [hw]; omega))))))⟩, trivial⟩ rfl (AZ rfl (A3 191 [U32 ve, I64 25] (U32 (rotr ve 25)) (AY _ Tryd.call191 rfl) (fun w1 hw1 => rturn_c ve 25 w1 (by omega) (by omega)))) ?_
   rintro v1 L1 ⟨rfl, rfl⟩
   refine ⟨[(8, U32 (((rotr ve 6) ^^^ (rotr ve 11)) ^^^ (rotr ve 25))), (9, U32 (vh + (((rotr ve 6) ^^^ (rotr ve 11)) ^^^ (rotr ve 25)))), (18, U32 ((vh + (((rotr ve 6) ^^^ (rotr ve 11)) ^^^ (rotr ve 25))) + ((ve &&& vf) ^^^ ((~~~ve) &&& vg)))), (22, U32 (((vh + (((rotr ve 6) ^^^ (rotr ve 11)) ^^^ (rotr ve 25))) + ((ve &&& vf) ^^^ ((~~~ve) &&& vg))) + (g32 constL r))), (26, U32 ((((vh + (((rotr ve 6) ^^^ (rotr ve 11)) ^^^ (rotr ve 25))) + ((ve &&& vf) ^^^ ((~~~ve) &&& vg))) + (g32 constL r)) + (g32 ww r))), (27, U32 ((((vh + (((rotr ve 6) ^^^ (rotr ve 11)) ^^^ (rotr ve 25))) + ((ve &&& vf) ^^^ ((~~~ve) &&& vg))) + (g32 constL r)) + (g32 ww r)))], ?_⟩
   show DP _ _ _ _ _ _ _ _ [_, _, _]
   refine C4 ⟨[2, 4, 7], [0, 1, 3, 5, 6, 8, 9, 10, 11, 12, 13, 14, 15, 16, 17, 18, 19, 20, 21, 22, 23, 24, 25, 26, 27], [1, 3, 6], [0, 5, 8, 9, 10, 11, 12, 13, 14, 15, 16, 17, 18, 19, 20, 21, 22, 23, 24, 25, 26, 27], []⟩ rfl rfl (by decide +kernel) rfl ⟨A2 rfl rfl rfl, ⟨_, rfl, AC rfl (AR rfl rfl fun _ => C6 (rotr ve 6) (rotr ve 11))⟩, ⟨_, rfl, AC rfl (AR rfl rfl fun _ => C6 ((rotr ve 6) ^^^ (rotr ve 11)) (rotr ve 25))⟩, ⟨_, rfl, AC rfl (AR rfl rfl fun _ => C7 vh (((rotr ve 6) ^^^ (rotr ve 11)) ^^^ (rotr ve 25)))⟩, A2 rfl rfl rfl, A2 rfl rfl rfl, ⟨_, rfl, AC rfl (AR rfl rfl fun _ => D7 ve vf)⟩, A2 rfl rfl rfl, ⟨_, rfl, AC rfl (Ev_un _ _ rfl fun _ => F6 _)⟩, A2 rfl rfl rfl, ⟨_, rfl, AC rfl (AR rfl rfl fun _ => D7 (~~~ve) vg)⟩, ⟨_, rfl, AC rfl (AR rfl rfl fun _ => C6 (ve &&& vf) ((~~~ve) &&& vg))⟩, ⟨_, rfl, AC rfl (AR rfl rfl fun _ => C7 (vh + (((rotr ve 6) ^^^ (rotr ve 11)) ^^^ (rotr ve 25))) ((ve &&& vf) ^^^ ((~~~ve) &&& vg)))⟩, A2 rfl rfl rfl, ⟨_, rfl, AC rfl (BR 64 267 1 r BS BD rfl rfl (by omega) (by omega) (by omega))⟩, ⟨_, rfl, AC rfl (AK rfl (AV BM (C8 (RdA.mem hG (by simp)) (Seg.get (DI (i := r) (by rw [FT]; omega))) (by omega))))⟩, ⟨_, rfl, AC rfl (AR rfl rfl fun _ => C7 ((vh + (((rotr ve 6) ^^^ (rotr ve 11)) ^^^ (rotr ve 25))) + ((ve &&& vf) ^^^ ((~~~ve) &&& vg))) (g32 constL r))⟩, A2 rfl rfl rfl, ⟨_, rfl, AC rfl (BR 64 267 1 r BS BD rfl rfl (by omega) (by omega) (by omega))⟩, ⟨_, rfl, AC rfl (AK rfl (AV BM (AS 2 rfl (Seg.get (DI (i := r) (by rw [hw]; omega))))))⟩, ⟨_, rfl, AC rfl (AR rfl rfl fun _ => C7 (((vh + (((rotr ve 6) ^^^ (rotr ve 11)) ^^^ (rotr ve 25))) + ((ve &&& vf) ^^^ ((~~~ve) &&& vg))) + (g32 constL r)) (g32 ww r))⟩, ⟨_, rfl, AC rfl (AG rfl)⟩, trivial⟩ ?_
   refine CI (F' := [(107, U32 vh), (108, U32 ve), (109, U32 (rotr ve 6)), (110, U32 ve), (111, U32 (rotr ve 11)), (112, U32 ((rotr ve 6) ^^^ (rotr ve 11))), (113, U32 ve), (114, U32 (rotr ve 25)), (115, U32 (((rotr ve 6) ^^^ (rotr ve 11)) ^^^ (rotr ve 25))), (116, U32 (vh + (((rotr ve 6) ^^^ (rotr ve 11)) ^^^ (rotr ve 25)))), (117, U32 ve), (118, U32 vf), (119, U32 (ve &&& vf)), (120, U32 ve), (121, U32 (~~~ve)), (122, U32 vg), (123, U32 ((~~~ve) &&& vg)), (124, U32 ((ve &&& vf) ^^^ ((~~~ve) &&& vg))), (125, U32 ((vh + (((rotr ve 6) ^^^ (rotr ve 11)) ^^^ (rotr ve 25))) + ((ve &&& vf) ^^^ ((~~~ve) &&& vg)))), (126, I64 r), (127, Ptr 2 r), (128, U32 (g32 constL r)), (129, U32 (((vh + (((rotr ve 6) ^^^ (rotr ve 11)) ^^^ (rotr ve 25))) + ((ve &&& vf) ^^^ ((~~~ve) &&& vg))) + (g32 constL r))), (130, I64 r), (131, Ptr nb3 r), (132, U32 (g32 ww r)), (133, U32 ((((vh + (((rotr ve 6) ^^^ (rotr ve 11)) ^^^ (rotr ve 25))) + ((ve &&& vf) ^^^ ((~~~ve) &&& vg))) + (g32 constL r)) + (g32 ww r))), (21, U32 ((((vh + (((rotr ve 6) ^^^ (rotr ve 11)) ^^^ (rotr ve 25))) + ((ve &&& vf) ^^^ ((~~~ve) &&& vg))) + (g32 constL r)) + (g32 ww r))), (2, Ptr nb1 0), (4, Ptr nb2 0), (5, Ptr nb3 0), (20, I64 r), (12, U32 va), (13, U32 vb), (14, U32 vc), (15, U32 vd), (16, U32 ve), (17, U32 vf), (18, U32 vg), (19, U32 vh), (103, I64 r), (104, .bool (decide (((r:Int)) < (64:Int))))]) (by kernel_rfl) ?_
   refine AE (AI (AD (AA _ (AH rfl) rfl ?_)))
   refine A7 (A3 191 [U32 va, I64 2] (U32 (rotr va 2)) (AY _ Tryd.call191 rfl) (fun w1 hw1 => rturn_c va 2 w1 (by omega) (by omega))) rfl ?_
   show JL _ _ _ _ ((135, U32 (rotr va 2)) :: _) [_, _, _]
   refine AA _ (AH rfl) rfl ?_
   refine A7 (A3 191 [U32 va, I64 13] (U32 (rotr va 13)) (AY _ Tryd.call191 rfl) (fun w1 hw1 => rturn_c va 13 w1 (by omega) (by omega))) rfl ?_
   show JL _ _ _ _ ((137, U32 (rotr va 13)) :: _) [_, _, _]
   refine AA (U32 ((rotr va 2) ^^^ (rotr va 13))) (AR rfl rfl fun _ => C6 (rotr va 2) (rotr va 13)) rfl ?_
   refine AA _ (AH rfl) rfl ?_
   refine A7 (A3 191 [U32 va, I64 22] (U32 (rotr va 22)) (AY _ Tryd.call191 rfl) (fun w1 hw1 => rturn_c va 22 w1 (by omega) (by omega))) rfl ?_
   show JL _ _ _ _ ((140, U32 (rotr va 22)) :: _) [_, _, _]
   refine AA (U32 (((rotr va 2) ^^^ (rotr va 13)) ^^^ (rotr va 22))) (AR rfl rfl fun _ => C6 ((rotr va 2) ^^^ (rotr va 13)) (rotr va 22)) rfl ?_
   refine AA _ (AH rfl) rfl ?_
   refine AA _ (AH rfl) rfl ?_
   refine AA (U32 (va &&& vb)) (AR rfl rfl fun _ => D7 va vb) rfl ?_
   refine AA _ (AH rfl) rfl ?_
   refine AA _ (AH rfl) rfl ?_
   refine AA (U32 (va &&& vc)) (AR rfl rfl fun _ => D7 va vc) rfl ?_
   refine AA (U32 ((va &&& vb) ^^^ (va &&& vc))) (AR rfl rfl fun _ => C6 (va &&& vb) (va &&& vc)) rfl ?_
   refine AA _ (AH rfl) rfl ?_
   refine AA _ (AH rfl) rfl ?_
   refine AA (U32 (vb &&& vc)) (AR rfl rfl fun _ => D7 vb vc) rfl ?_
   refine AA (U32 (((va &&& vb) ^^^ (va &&& vc)) ^^^ (vb &&& vc))) (AR rfl rfl fun _ => C6 ((va &&& vb) ^^^ (va &&& vc)) (vb &&& vc)) rfl ?_
   refine AA (U32 ((((rotr va 2) ^^^ (rotr va 13)) ^^^ (rotr va 22)) + (((va &&& vb) ^^^ (va &&& vc)) ^^^ (vb &&& vc)))) (AR rfl rfl fun _ => C7 (((rotr va 2) ^^^ (rotr va 13)) ^^^ (rotr va 22)) (((va &&& vb) ^^^ (va &&& vc)) ^^^ (vb &&& vc))) rfl ?_
   refine AA _ (AG rfl) rfl ?_
   refine AN (AE (AI (AD (AA _ (AH rfl) rfl ?_))))
   refine AA _ (AG rfl) rfl ?_
   refine AN (AE (AI (AD (AA _ (AH rfl) rfl ?_))))
   refine AA _ (AG rfl) rfl ?_
   refine AN (AE (AI (AD (AA _ (AH rfl) rfl ?_))))
   refine AA _ (AG rfl) rfl ?_
   refine AN (AE (AI (AD (AA _ (AH rfl) rfl ?_))))
   refine AA _ (AH rfl) rfl ?_
   refine AA (U32 (vd + ((((vh + (((rotr ve 6) ^^^ (rotr ve 11)) ^^^ (rotr ve 25))) + ((ve &&& vf) ^^^ ((~~~ve) &&& vg))) + (g32 constL r)) + (g32 ww r)))) (AR rfl rfl fun _ => C7 vd ((((vh + (((rotr ve 6) ^^^ (rotr ve 11)) ^^^ (rotr ve 25))) + ((ve &&& vf) ^^^ ((~~~ve) &&& vg))) + (g32 constL r)) + (g32 ww r))) rfl ?_
   refine AA _ (AG rfl) rfl ?_
   refine AN (AE (AI (AD (AA _ (AH rfl) rfl ?_))))
   refine AA _ (AG rfl) rfl ?_
   refine AN (AE (AI (AD (AA _ (AH rfl) rfl ?_))))
   refine AA _ (AG rfl) rfl ?_
   refine AN (AE (AI (AD (AA _ (AH rfl) rfl ?_))))
   refine AA _ (AG rfl) rfl ?_
   refine AN (AE (AD (AA _ (AH rfl) rfl ?_)))
   refine AA _ (AH rfl) rfl ?_
   refine AA (U32 (((((vh + (((rotr ve 6) ^^^ (rotr ve 11)) ^^^ (rotr ve 25))) + ((ve &&& vf) ^^^ ((~~~ve) &&& vg))) + (g32 constL r)) + (g32 ww r)) + ((((rotr va 2) ^^^ (rotr va 13)) ^^^ (rotr va 22)) + (((va &&& vb) ^^^ (va &&& vc)) ^^^ (vb &&& vc))))) (AR rfl rfl fun _ => C7 ((((vh + (((rotr ve 6) ^^^ (rotr ve 11)) ^^^ (rotr ve 25))) + ((ve &&& vf) ^^^ ((~~~ve) &&& vg))) + (g32 constL r)) + (g32 ww r)) ((((rotr va 2) ^^^ (rotr va 13)) ^^^ (rotr va 22)) + (((va &&& vb) ^^^ (va &&& vc)) ^^^ (vb &&& vc)))) rfl ?_
   refine AA _ (AG rfl) rfl ?_
   refine AN (BO (AE (AD (AA _ (AH rfl) rfl ?_))))
   refine AA (I64 ((r:Int) + 1)) (AR rfl rfl fun _ => DF _ _ ((r:Int) + 1) (by omega) (by omega)) rfl ?_
   refine AA _ (AG rfl) rfl ?_
   refine AN (DH (EP (r + 1, ((((vh + (((rotr ve 6) ^^^ (rotr ve 11)) ^^^ (rotr ve 25))) + ((ve &&& vf) ^^^ ((~~~ve) &&& vg))) + (g32 constL r)) + (g32 ww r)) + ((((rotr va 2) ^^^ (rotr va 13)) ^^^ (rotr va 22)) + (((va &&& vb) ^^^ (va &&& vc)) ^^^ (vb &&& vc))), va, vb, vc, vd + ((((vh + (((rotr ve 6) ^^^ (rotr ve 11)) ^^^ (rotr ve 25))) + ((ve &&& vf) ^^^ ((~~~ve) &&& vg))) + (g32 constL r)) + (g32 ww r)), ve, vf, vg) ⟨by omega, by rw [cpN, ← hy2]; rfl⟩ (by first | (simp; omega) | simp | (dsimp only; omega) | omega) (Sub.all rfl) rfl))
  ·
   have hp4 : ¬ (((r:Int)) < (64:Int)) := of_decide_eq_false hb4
   refine D8 (BB (BB (CV (AE (AI (AD (AA (Ptr nb1 0) (BR 8 267 1 0 BX BD rfl rfl (by omega) (by omega) (by omega)) rfl ?_)))))))
   refine AA (U32 (g32 st 0)) (AK rfl (AV BM (AS 0 rfl (Seg.get (DI (i := 0) (by rw [hs0]; omega)))))) rfl ?_
   refine AA _ (AH rfl) rfl ?_
   refine AA (U32 ((g32 st 0) + va)) (AR rfl rfl fun _ => C7 (g32 st 0) va) rfl ?_
   refine AA (Ptr nb1 1) (BR 8 267 1 1 BX BD rfl rfl (by omega) (by omega) (by omega)) rfl ?_
   refine AA (U32 (g32 st 1)) (AK rfl (AV BM (AS 0 rfl (Seg.get (DI (i := 1) (by rw [hs0]; omega)))))) rfl ?_
   refine AA _ (AH rfl) rfl ?_
   refine AA (U32 ((g32 st 1) + vb)) (AR rfl rfl fun _ => C7 (g32 st 1) vb) rfl ?_
   refine AA (Ptr nb1 2) (BR 8 267 1 2 BX BD rfl rfl (by omega) (by omega) (by omega)) rfl ?_
   refine AA (U32 (g32 st 2)) (AK rfl (AV BM (AS 0 rfl (Seg.get (DI (i := 2) (by rw [hs0]; omega)))))) rfl ?_
   refine AA _ (AH rfl) rfl ?_
   refine AA (U32 ((g32 st 2) + vc)) (AR rfl rfl fun _ => C7 (g32 st 2) vc) rfl ?_
   refine AA (Ptr nb1 3) (BR 8 267 1 3 BX BD rfl rfl (by omega) (by omega) (by omega)) rfl ?_
   refine AA (U32 (g32 st 3)) (AK rfl (AV BM (AS 0 rfl (Seg.get (DI (i := 3) (by rw [hs0]; omega)))))) rfl ?_
   refine AA _ (AH rfl) rfl ?_
   refine AA (U32 ((g32 st 3) + vd)) (AR rfl rfl fun _ => C7 (g32 st 3) vd) rfl ?_
   refine AA (Ptr nb1 4) (BR 8 267 1 4 BX BD rfl rfl (by omega) (by omega) (by omega)) rfl ?_
   refine AA (U32 (g32 st 4)) (AK rfl (AV BM (AS 0 rfl (Seg.get (DI (i := 4) (by rw [hs0]; omega)))))) rfl ?_
   refine AA _ (AH rfl) rfl ?_
   refine AA (U32 ((g32 st 4) + ve)) (AR rfl rfl fun _ => C7 (g32 st 4) ve) rfl ?_
   refine AA (Ptr nb1 5) (BR 8 267 1 5 BX BD rfl rfl (by omega) (by omega) (by omega)) rfl ?_
   refine AA (U32 (g32 st 5)) (AK rfl (AV BM (AS 0 rfl (Seg.get (DI (i := 5) (by rw [hs0]; omega)))))) rfl ?_
   refine AA _ (AH rfl) rfl ?_
   refine AA (U32 ((g32 st 5) + vf)) (AR rfl rfl fun _ => C7 (g32 st 5) vf) rfl ?_
   refine AA (Ptr nb1 6) (BR 8 267 1 6 BX BD rfl rfl (by omega) (by omega) (by omega)) rfl ?_
   refine AA (U32 (g32 st 6)) (AK rfl (AV BM (AS 0 rfl (Seg.get (DI (i := 6) (by rw [hs0]; omega)))))) rfl ?_
   refine AA _ (AH rfl) rfl ?_
   refine AA (U32 ((g32 st 6) + vg)) (AR rfl rfl fun _ => C7 (g32 st 6) vg) rfl ?_
   refine AA (Ptr nb1 7) (BR 8 267 1 7 BX BD rfl rfl (by omega) (by omega) (by omega)) rfl ?_
   refine AA (U32 (g32 st 7)) (AK rfl (AV BM (AS 0 rfl (Seg.get (DI (i := 7) (by rw [hs0]; omega)))))) rfl ?_
   refine AA _ (AH rfl) rfl ?_
   refine AA (U32 ((g32 st 7) + vh)) (AR rfl rfl fun _ => C7 (g32 st 7) vh) rfl ?_
   refine AA (.agg (cu32 ([(g32 st 0) + va, (g32 st 1) + vb, (g32 st 2) + vc, (g32 st 3) + vd, (g32 st 4) + ve, (g32 st 5) + vf, (g32 st 6) + vg, (g32 st 7) + vh])).toArray) (B8 [(0, U32 ((g32 st 0) + va)), (1, U32 ((g32 st 1) + vb)), (2, U32 ((g32 st 2) + vc)), (3, U32 ((g32 st 3) + vd)), (4, U32 ((g32 st 4) + ve)), (5, U32 ((g32 st 5) + vf)), (6, U32 ((g32 st 6) + vg)), (7, U32 ((g32 st 7) + vh))] _ rfl (fun _ => by kernel_rfl)) rfl ?_
   refine A7 (A5 1 nb2 8 (cu32 (zr32 8)) 268 (cu32 ([(g32 st 0) + va, (g32 st 1) + vb, (g32 st 2) + vc, (g32 st 3) + vd, (g32 st 4) + ve, (g32 st 5) + vf, (g32 st 6) + vg, (g32 st 7) + vh])) rfl rfl rfl D6 (by simp []) (by first | exact CD | exact D3 | exact D1 | (simp [cu8, cu32, cu64, Value.oneCell']; done)) (by simp [(FP 8)]) (BC (by simp [(FP 8)]))) rfl ?_
   show JL _ _ _ _ _ [_, ⟨nb2, cu32 ([(g32 st 0) + va, (g32 st 1) + vb, (g32 st 2) + vc, (g32 st 3) + vd, (g32 st 4) + ve, (g32 st 5) + vf, (g32 st 6) + vg, (g32 st 7) + vh]), 268, (0, 0)⟩, _]
   refine AN (AE (BP (BQ (.agg (cu32 ([(g32 st 0) + va, (g32 st 1) + vb, (g32 st 2) + vc, (g32 st 3) + vd, (g32 st 4) + ve, (g32 st 5) + vf, (g32 st 6) + vg, (g32 st 7) + vh])).toArray) (res1 Tryd.results176 (DU rfl (BH Tryd.isAgg268 D6 (by simp []) (AS 1 rfl (AL _))))) fun w1 hw1 => ?_)))
   have e1 : t = 64 := by omega
   have e2 : r = 64 := by omega
   subst e1; subst e2
   have e3 : cpN constL st (spreadL blk) 64 = [va, vb, vc, vd, ve, vf, vg, vh] := by rw [spreadL, ← hx2]; exact hy2.symm
   refine ⟨_, [], rfl, ⟨?_, rfl⟩, hw1.sub (by simp) (by simp)⟩
   rw [comprL_eq hs0 _ _ _ _ _ _ _ _ e3]
theorem scloneNil_c  (w : World) : Calls Tryd.prog 108 #[.slice none 0 0] w (Post w [] (fun v L => v = .slice none 0 0 ∧ L = [])) := by
 refine enter w [] 8 [] [.slice none 0 0] Tryd.func108 rfl rfl (by simp) (BZ (by simp) (by simp) (by simp)) ?_
 show JC _ _ _ [(0, .slice none 0 0)] _
 refine AI (AD (AA _ (AG rfl) rfl ?_))
 refine AN (AE (AI (AI (AD (AA _ (AH rfl) rfl ?_)))))
 refine AA (.bool true) (C2 _ _ _ rfl rfl (fun _ => eqGuard_sl ..) fun _ => eql_sl_nil_nil AM) rfl ?_
 refine AN (AE (DJ _ rfl rfl ?_))
 refine AI (AD (AA _ (AG rfl) rfl ?_))
 refine AN (AE (BP (BN (BQ (.slice none 0 0) (res1 Tryd.results108 (B2 rfl)) fun w1 hw1 => ?_))))
 exact ⟨_, [], rfl, ⟨rfl, rfl⟩, hw1.sub (by simp) (by simp)⟩
theorem sclone_c (ao : Option Addr) (n cb : Nat) (b : List UInt8) (w : World) (ha : ao.isNone = false) (hb : b.length = n) (hn : n ≤ 35184372088832) (hr : RdB w [] ao b) : Calls Tryd.prog 108 #[.slice ao n cb] w (Post w [] (fun v L => ∃ g sp cap, v = Slc g 0 n cap ∧ L = [⟨g, cu8 (b) ++ sp, 5, (0, 0)⟩] ∧ sp.length = cap - n ∧ n ≤ cap ∧ cap ≤ maxLen)) := by
 refine enter w [] 8 [] [.slice ao n cb] Tryd.func108 rfl rfl (by simp) (BZ (by simp) (by simp) (by simp)) ?_
 show JC _ _ _ [(0, .slice ao n cb)] _
 refine AI (AD (AA _ (AG rfl) rfl ?_))
 refine AN (AE (AI (AI (AD (AA _ (AH rfl) rfl ?_)))))
 refine AA (.bool ao.isNone) (C2 _ _ _ rfl rfl (fun _ => eqGuard_sl ..) fun _ => eql_sl_any AM) rfl ?_
 refine AN (AE (CK _ rfl ha ?_))
 refine BT (AE (AI (AD (A1 (FE 5 1 AM AW) rfl ?_))))
 rintro v1 L1 ⟨nb1, hnb1, rfl, rfl⟩
 show JL _ _ _ _ ((5, Slc nb1 0 0 0) :: _) [⟨nb1, [], 5, (0, 0)⟩]
 refine AA _ (AH rfl) rfl ?_
 refine A1 (C5 43 5 [true] (Slc nb1 0 0 0) 0 ([] : List UInt8) b ao n cb n AM C0 rfl (.inr ⟨nb1, [], 0, rfl, (by simp [take?, cu8, cu32, cu64]), rfl, (by simp), (by omega), (by unfold maxLen; omega)⟩) rfl (by first | exact hb | simp [hb]; try omega) (hr.src) (by omega) (by unfold maxLen; omega) (by omega)) rfl ?_
 rintro v1 L1 ⟨nb2, sp1, cp1, hg1, rfl, rfl, ha1, ha2, ha3, ha4⟩
 show JL _ _ _ _ ((7, Slc nb2 0 n cp1) :: _) [⟨nb2, cu8 (([] : List UInt8) ++ b) ++ sp1, 5, (0, 0)⟩]
 refine AA _ (AG rfl) rfl ?_
 refine AN (AE (BP (BQ (Slc nb2 0 n cp1) (res1 Tryd.results108 (B2 rfl)) fun w1 hw1 => ?_)))
 exact ⟨_, _, rfl, ⟨nb2, sp1, cp1, rfl, rfl, ha2, ha3, ha4⟩, hw1⟩
theorem bclone_c (ao : Option Addr) (n cb : Nat) (b : List UInt8) (w : World) (ha : ao.isNone = false) (hb : b.length = n) (hn : n ≤ 35184372088832) (hr : RdB w [] ao b) : Calls Tryd.prog 146 #[.slice ao n cb] w (Post w [] (fun v L => ∃ g sp cap, v = Slc g 0 n cap ∧ L = [⟨g, cu8 (b) ++ sp, 5, (0, 0)⟩] ∧ sp.length = cap - n ∧ n ≤ cap ∧ cap ≤ maxLen)) := by
 refine enter w [] 8 [] [.slice ao n cb] Tryd.func146 rfl rfl (by simp) (BZ (by simp) (by simp) (by simp)) ?_
 show JC _ _ _ [(0, .slice ao n cb)] _
 refine AI (AD (AA _ (AG rfl) rfl ?_))
 refine AN (AE (AI (AI (AD (AA _ (AH rfl) rfl ?_)))))
 refine AA (.bool ao.isNone) (C2 _ _ _ rfl rfl (fun _ => eqGuard_sl ..) fun _ => eql_sl_any AM) rfl ?_
 refine AN (AE (CK _ rfl ha ?_))
 refine BT (AE (AI (AD (A1 (FE 5 1 AM AW) rfl ?_))))
 rintro v1 L1 ⟨nb1, hnb1, rfl, rfl⟩
 show JL _ _ _ _ ((5, Slc nb1 0 0 0) :: _) [⟨nb1, [], 5, (0, 0)⟩]
 refine AA _ (AH rfl) rfl ?_
 refine A1 (C5 43 5 [true] (Slc nb1 0 0 0) 0 ([] : List UInt8) b ao n cb n AM C0 rfl (.inr ⟨nb1, [], 0, rfl, (by simp [take?, cu8, cu32, cu64]), rfl, (by simp), (by omega), (by unfold maxLen; omega)⟩) rfl (by first | exact hb | simp [hb]; try omega) (hr.src) (by omega) (by unfold maxLen; omega) (by omega)) rfl ?_
 rintro v1 L1 ⟨nb2, sp1, cp1, hg1, rfl, rfl, ha1, ha2, ha3, ha4⟩
 show JL _ _ _ _ ((7, Slc nb2 0 n cp1) :: _) [⟨nb2, cu8 (([] : List UInt8) ++ b) ++ sp1, 5, (0, 0)⟩]
 refine AA _ (AG rfl) rfl ?_
 refine AN (AE (BP (BQ (Slc nb2 0 n cp1) (res1 Tryd.results146 (B2 rfl)) fun w1 hw1 => ?_)))
 exact ⟨_, _, rfl, ⟨nb2, sp1, cp1, rfl, rfl, ha2, ha3, ha4⟩, hw1⟩
theorem slc_len {b o l l' c : Nat} (h : l = l') : Slc b o l c = Slc b o l' c := by rw [h]
theorem nzP_lt (n : Nat) : nzP n < 64 := by unfold nzP; omega
theorem nzP_def (n : Nat) : nzP n = (119 - n % 64) % 64 := rfl
theorem zr8_succ (j : Nat) : zr8 (j + 1) = zr8 j ++ [0] := by rw [zr8, zr8, List.replicate_succ']
theorem padNil_c  (w : World) : Calls Tryd.prog 193 #[.slice none 0 0] w (Post w [] (fun v L => ∃ g sp cap, v = Slc g 0 (padL ([] : List UInt8)).length cap ∧ L = [⟨g, cu8 (padL ([] : List UInt8)) ++ sp, 5, (0, 0)⟩] ∧ sp.length = cap - (padL ([] : List UInt8)).length ∧ (padL ([] : List UInt8)).length ≤ cap ∧ cap ≤ maxLen)) := by
 have hnz := nzP_lt 0
 have hnd := nzP_def 0
 refine enter w [] 31 [] [.slice none 0 0] Tryd.func193 rfl rfl (by simp) (BZ (by simp) (by simp) (by simp)) ?_
 show JC _ _ _ [(0, .slice none 0 0)] _
 refine AI (AD (AA _ (AG rfl) rfl ?_))
 refine AN (AE (AI (AD (AA _ (AH rfl) rfl ?_))))
 refine A7 (A3 108 [.slice none 0 0] (.slice none 0 0) (AY _ Tryd.call108 rfl) (fun w1 hw1 => scloneNil_c w1)) rfl ?_
 show JL _ _ _ _ ((6, .slice none 0 0) :: _) []
 refine A1 (B0 5 1 _ [(0, U8 128)] (cu8 ([(128:UInt8)])) AM AW CX rfl rfl rfl (by kernel_rfl)) rfl ?_
 rintro v1 L1 ⟨nb1, hnb1, rfl, rfl⟩
 show JL _ _ _ _ ((7, Slc nb1 0 1 1) :: _) [⟨nb1, cu8 ([(128:UInt8)]), 5, (0, 0)⟩]
 refine A1 (C5 43 5 [false] (.slice none 0 0) 0 ([] : List UInt8) ([(128:UInt8)]) (some ⟨nb1, 0, none⟩) 1 1 1 AM C0 rfl (.inl ⟨rfl, rfl, rfl, rfl, by omega⟩) rfl (by simp) (SrcAt.mem (AS 0 rfl (AL _))) (by omega) (by unfold maxLen; omega) (by omega)) rfl ?_
 rintro v1 L1 ⟨nb2, sp1, cp1, hg1, rfl, rfl, ha1, ha2, ha3, ha4⟩
 show JL _ _ _ _ ((8, Slc nb2 0 1 cp1) :: _) [_, ⟨nb2, cu8 (([] : List UInt8) ++ ([(128:UInt8)])) ++ sp1, 5, (0, 0)⟩]
 refine AA _ (AG rfl) rfl ?_
 refine AN (AE (AI (BY (CH [false, true] ?_))))
 show JC _ _ _ _ [_]
 refine EE (ι := Nat × List UInt8 × Nat × List Value × Nat) (fun ⟨j, o, g1, sp1, cp1⟩ => [(0, .slice none 0 0), (2, .slice none 0 0), (3, Slc g1 0 (j + 1) cp1)]) (fun ⟨j, o, g1, sp1, cp1⟩ => [⟨g1, cu8 o ++ sp1, 5, (0, 0)⟩]) (fun ⟨j, o, g1, sp1, cp1⟩ => j ≤ nzP 0 ∧ o = (([] : List UInt8) ++ [(128:UInt8)]) ++ zr8 j ∧ o.length = (j + 1) ∧ sp1.length = cp1 - (j + 1) ∧ (j + 1) ≤ cp1 ∧ cp1 ≤ maxLen) (fun ⟨j, o, g1, sp1, cp1⟩ => nzP 0 - j) (0, ([] : List UInt8) ++ ([(128:UInt8)]), nb2, sp1, cp1) ⟨by omega, by simp [zr8], by simp, by have := ha2; omega, by omega, ha4⟩ (Sub.cons rfl (Sub.cons rfl (Sub.cons (FA (by omega)) (Sub.nil)))) rfl ?_
 rintro ⟨j, o, g1, sp1, cp1⟩ ⟨hx1, hx2, ho, hx4, hx5, hx6⟩
 show JC _ _ _ [(0, .slice none 0 0), (2, .slice none 0 0), (3, Slc g1 0 (j + 1) cp1)] [⟨g1, cu8 o ++ sp1, 5, (0, 0)⟩]
 refine AI (AI (AD (AA _ (AH rfl) rfl ?_)))
 refine AA (I64 ((j:Int) + 1)) (FX AM rfl (by omega)) rfl ?_
 obtain ⟨dq1, hdq1, hdq1a, hdq1b⟩ : ∃ q : Nat, q = (j + 1) % 64 ∧ (q : Int) = ((j:Int) + 1) % 64 ∧ (q < 64) := ⟨_, rfl, by first | rfl | omega, by omega⟩
 refine AA (I64 dq1) (AR rfl rfl fun _ => bin_rem_i _ _ ((dq1:Int)) (by omega) (by omega) (by omega)) rfl ?_
 refine AA (.bool (decide (((dq1:Int)) ≠ (56:Int)))) (AR rfl rfl fun _ => bin_neq_i _ _) rfl ?_
 refine AN (AE (CY (decide (((dq1:Int)) ≠ (56:Int))) rfl (fun hb1 => ?_) (fun hb1 => ?_)))
 ·
  have hp1 : ((dq1:Int)) ≠ (56:Int) := of_decide_eq_true hb1
  refine BT (AE (BY (AD (AA _ (AH rfl) rfl ?_))))
  refine A1 (B0 5 1 _ [(0, U8 0)] (cu8 ([(0:UInt8)])) AM AW CX rfl rfl rfl (by kernel_rfl)) rfl ?_
  rintro v1 L1 ⟨nb3, hnb3, rfl, rfl⟩
  show JL _ _ _ _ ((14, Slc nb3 0 1 1) :: _) [_, ⟨nb3, cu8 ([(0:UInt8)]), 5, (0, 0)⟩]
  refine A1 (C5 43 5 [true, false] (Slc g1 0 (j + 1) cp1) (j + 1) o ([(0:UInt8)]) (some ⟨nb3, 0, none⟩) 1 1 (j + 2) AM C0 rfl (.inr ⟨g1, sp1, cp1, rfl, rfl, (by first | exact ho | simp [ho]), hx4, (by omega), (by omega)⟩) rfl (by simp) (SrcAt.mem (AS 1 rfl (AL _))) (by omega) (by unfold maxLen; omega) (by omega)) rfl ?_
  rintro v1 L1 ⟨nb4, sp2, cp2, hg2, rfl, rfl, ha5, ha6, ha7, ha8⟩
  show JL _ _ _ _ ((15, Slc nb4 0 (j + 2) cp2) :: _) [_, ⟨nb4, cu8 (o ++ ([(0:UInt8)])) ++ sp2, 5, (0, 0)⟩]
  refine AA _ (AG rfl) rfl ?_
  refine AN (BO (DH (CH [false, true] ?_)))
  show K _ _ [_] _
  refine EP (j + 1, o ++ ([(0:UInt8)]), nb4, sp2, cp2) ⟨by omega, by rw [hx2, zr8_succ, List.append_assoc], (ha5).trans (by first | rfl | simp +arith), (ha6).trans (by first | rfl | simp +arith), by omega, ha8⟩ (by first | (simp; omega) | simp | (dsimp only; omega) | omega) (Sub.cons rfl (Sub.cons rfl (Sub.cons (FA (by omega)) (Sub.nil)))) rfl
 ·
  have hp1 : ¬ (((dq1:Int)) ≠ (56:Int)) := of_decide_eq_false hb1
  refine D8 (BB (BB (CV (AE (AI (AI (AD (AA _ (AG rfl) rfl ?_))))))))
  refine AN (AE (BY ?_))
  have ej : j = nzP 0 := by omega
  have ejb : nzP 0 < 64 := by omega
  refine EE (ι := Nat × List UInt8 × Nat × List Value × Nat) (fun ⟨i, o2, g2, sp2, cp2⟩ => [(0, .slice none 0 0), (2, .slice none 0 0), (3, Slc g2 0 (i + j + 1) cp2), (4, I64 (-8*(i:Int) + 56))]) (fun ⟨i, o2, g2, sp2, cp2⟩ => [⟨g2, cu8 o2 ++ sp2, 5, (0, 0)⟩]) (fun ⟨i, o2, g2, sp2, cp2⟩ => i ≤ 8 ∧ o2 = o ++ lenN 0 i ∧ o2.length = (i + j + 1) ∧ sp2.length = cp2 - (i + j + 1) ∧ (i + j + 1) ≤ cp2 ∧ cp2 ≤ maxLen) (fun ⟨i, o2, g2, sp2, cp2⟩ => 8 - i) (0, o, g1, sp1, cp1) ⟨by omega, by simp [lenN], by omega, by omega, by omega, hx6⟩ (Sub.cons rfl (Sub.cons rfl (Sub.cons (FA (by omega)) (Sub.cons (EQ (by omega)) (Sub.nil))))) rfl ?_
  rintro ⟨i, o2, g2, sp2, cp2⟩ ⟨hy1, hy2, ho2, hy4, hy5, hy6⟩
  show JC _ _ _ [(0, .slice none 0 0), (2, .slice none 0 0), (3, Slc g2 0 (i + j + 1) cp2), (4, I64 (-8*(i:Int) + 56))] [⟨g2, cu8 o2 ++ sp2, 5, (0, 0)⟩]
  refine AI (AI (AD (AA _ (AH rfl) rfl ?_)))
  refine AA (.bool (decide ((0:Int) ≤ (-8*(i:Int) + 56)))) (AR rfl rfl fun _ => FV _ _) rfl ?_
  refine AN (AE (CY (decide ((0:Int) ≤ (-8*(i:Int) + 56))) rfl (fun hb2 => ?_) (fun hb2 => ?_)))
  ·
   have hp2 : (0:Int) ≤ (-8*(i:Int) + 56) := of_decide_eq_true hb2
   refine BT (AE (AI (BY (AD (AA _ (AH rfl) rfl ?_)))))
   refine AA _ (AH rfl) rfl ?_
   refine AA (I64 0) (EL AM rfl) rfl ?_
   refine AA (U64 0) (DW _ _ rfl fun _ => conv_lit (by rw [CG]; rfl) CF rfl) rfl ?_
   refine AA (U64 ((8:UInt64) * (0:UInt64))) (AR rfl rfl fun _ => bin_mul_u64 (8:UInt64) (0:UInt64)) rfl ?_
   refine AA _ (AH rfl) rfl ?_
   refine AA (U64 (((8:UInt64) * (0:UInt64)) >>> UInt64.ofNat (56 - 8*i))) (AR rfl rfl fun _ => FD ((8:UInt64) * (0:UInt64)) _ _ (56 - 8*i) (by omega) (by omega)) rfl ?_
   refine AA (U8 ((((8:UInt64) * (0:UInt64)) >>> UInt64.ofNat (56 - 8*i)).toUInt8)) (DW _ _ rfl fun _ => FN (by rw [CF]; rfl) B6 _) rfl ?_
   refine A1 (B0 5 1 _ [(0, U8 ((((8:UInt64) * (0:UInt64)) >>> UInt64.ofNat (56 - 8*i)).toUInt8))] (cu8 ([(((8:UInt64) * (0:UInt64)) >>> UInt64.ofNat (56 - 8*i)).toUInt8])) AM AW CX rfl rfl rfl (by kernel_rfl)) rfl ?_
   rintro v1 L1 ⟨nb5, hnb5, rfl, rfl⟩
   show JL _ _ _ _ ((28, Slc nb5 0 1 1) :: _) [_, ⟨nb5, cu8 ([(((8:UInt64) * (0:UInt64)) >>> UInt64.ofNat (56 - 8*i)).toUInt8]), 5, (0, 0)⟩]
   refine A1 (C5 43 5 [true, false] (Slc g2 0 (i + j + 1) cp2) (i + j + 1) o2 ([(((8:UInt64) * (0:UInt64)) >>> UInt64.ofNat (56 - 8*i)).toUInt8]) (some ⟨nb5, 0, none⟩) 1 1 (i + j + 2) AM C0 rfl (.inr ⟨g2, sp2, cp2, rfl, rfl, (by first | exact ho2 | simp [ho2]), hy4, (by omega), (by omega)⟩) rfl (by simp) (SrcAt.mem (AS 1 rfl (AL _))) (by omega) (by unfold maxLen; omega) (by omega)) rfl ?_
   rintro v1 L1 ⟨nb6, sp3, cp3, hg3, rfl, rfl, ha9, ha10, ha11, ha12⟩
   show JL _ _ _ _ ((29, Slc nb6 0 (i + j + 2) cp3) :: _) [_, ⟨nb6, cu8 (o2 ++ ([(((8:UInt64) * (0:UInt64)) >>> UInt64.ofNat (56 - 8*i)).toUInt8])) ++ sp3, 5, (0, 0)⟩]
   refine AA _ (AG rfl) rfl ?_
   refine AN (BO (AE (AD (AA _ (AH rfl) rfl ?_))))
   refine AA (I64 (-8*(i:Int) + 48)) (AR rfl rfl fun _ => DD _ _ (-8*(i:Int) + 48) (by omega) (by omega)) rfl ?_
   refine AA _ (AG rfl) rfl ?_
   refine AN (DH (CH [false, true] ?_))
   show K _ _ [_] _
   refine EP (i + 1, o2 ++ ([(((8:UInt64) * (0:UInt64)) >>> UInt64.ofNat (56 - 8*i)).toUInt8]), nb6, sp3, cp3) ⟨by omega, by rw [hy2, lenN, List.append_assoc]; rfl, (ha9).trans (by first | rfl | simp +arith), (ha10).trans (by first | rfl | simp +arith), by omega, ha12⟩ (by first | (simp; omega) | simp | (dsimp only; omega) | omega) (Sub.cons rfl (Sub.cons rfl (Sub.cons (FA (by omega)) (Sub.cons (EQ (by omega)) (Sub.nil))))) rfl
  ·
   have hp2 : ¬ ((0:Int) ≤ (-8*(i:Int) + 56)) := of_decide_eq_false hb2
   refine D8 (BB (BB (CV (AE (AI (AD (AA _ (AH rfl) rfl ?_)))))))
   refine AA _ (AG rfl) rfl ?_
   refine AN (AE (BP (BQ (Slc g2 0 (i + j + 1) cp2) (res1 Tryd.results193 (B2 rfl)) fun w1 hw1 => ?_)))
   have e1 : i = 8 := by omega
   subst e1
   have e2 : o2 = padL ([] : List UInt8) := by rw [hy2, hx2, padL, List.length_nil, ej]
   rw [e2] at hw1
   exact ⟨_, _, rfl, ⟨g2, sp2, cp2, slc_len (by rw [padL_len, List.length_nil, ← ej]; simp +arith), rfl, by rw [hy4]; rw [padL_len, List.length_nil, ← ej]; simp +arith, by refine Nat.le_trans (Nat.le_of_eq ?_) hy5; rw [padL_len, List.length_nil, ← ej]; simp +arith, hy6⟩, hw1.sub (by simp) (by simp)⟩
theorem pad_c (ao : Option Addr) (n cb : Nat) (b : List UInt8) (w : World) (ha : ao.isNone = false) (hb : b.length = n) (hn : n ≤ 17592186044416) (hr : RdB w [] ao b) : Calls Tryd.prog 193 #[.slice ao n cb] w (Post w [] (fun v L => ∃ g sp cap, v = Slc g 0 (padL b).length cap ∧ L = [⟨g, cu8 (padL b) ++ sp, 5, (0, 0)⟩] ∧ sp.length = cap - (padL b).length ∧ (padL b).length ≤ cap ∧ cap ≤ maxLen)) := by
 have hnz := nzP_lt n
 have hnd := nzP_def n
 refine enter w [] 31 [] [.slice ao n cb] Tryd.func193 rfl rfl (by simp) (BZ (by simp) (by simp) (by simp)) ?_
 show JC _ _ _ [(0, .slice ao n cb)] _
 refine AI (AD (AA _ (AG rfl) rfl ?_))
 refine AN (AE (AI (AD (AA _ (AH rfl) rfl ?_))))
 refine A1 (BI 108 [.slice ao n cb] _ (AY _ Tryd.call108 rfl) (fun w1 hw1 => sclone_c ao n cb b w1 ha hb (by omega) (hr.at (M' := []) hw1 (by simp)))) rfl ?_
 rintro v1 L1 ⟨_, ⟨nb1, sp1, cp1, rfl, rfl, hc1, hc2, hc3⟩, rfl⟩
 show JL _ _ _ _ ((6, Slc nb1 0 n cp1) :: _) [⟨nb1, cu8 b ++ sp1, 5, (0, 0)⟩]
 refine A1 (B0 5 1 _ [(0, U8 128)] (cu8 ([(128:UInt8)])) AM AW CX rfl rfl rfl (by kernel_rfl)) rfl ?_
 rintro v1 L1 ⟨nb2, hnb2, rfl, rfl⟩
 show JL _ _ _ _ ((7, Slc nb2 0 1 1) :: _) [_, ⟨nb2, cu8 ([(128:UInt8)]), 5, (0, 0)⟩]
 refine A1 (C5 43 5 [true, false] (Slc nb1 0 n cp1) n b ([(128:UInt8)]) (some ⟨nb2, 0, none⟩) 1 1 (n + 1) AM C0 rfl (.inr ⟨nb1, sp1, cp1, rfl, rfl, (by first | exact hb | simp [hb]), hc1, (by omega), (by omega)⟩) rfl (by simp) (SrcAt.mem (AS 1 rfl (AL _))) (by omega) (by unfold maxLen; omega) (by omega)) rfl ?_
 rintro v1 L1 ⟨nb3, sp2, cp2, hg1, rfl, rfl, ha1, ha2, ha3, ha4⟩
 show JL _ _ _ _ ((8, Slc nb3 0 (n + 1) cp2) :: _) [_, ⟨nb3, cu8 (b ++ ([(128:UInt8)])) ++ sp2, 5, (0, 0)⟩]
 refine AA _ (AG rfl) rfl ?_
 refine AN (AE (AI (BY (CH [false, true] ?_))))
 show JC _ _ _ _ [_]
 refine EE (ι := Nat × List UInt8 × Nat × List Value × Nat) (fun ⟨j, o, g1, sp1, cp1⟩ => [(0, .slice ao n cb), (2, .slice none 0 0), (3, Slc g1 0 (j + n + 1) cp1)]) (fun ⟨j, o, g1, sp1, cp1⟩ => [⟨g1, cu8 o ++ sp1, 5, (0, 0)⟩]) (fun ⟨j, o, g1, sp1, cp1⟩ => j ≤ nzP n ∧ o = (b ++ [(128:UInt8)]) ++ zr8 j ∧ o.length = (j + n + 1) ∧ sp1.length = cp1 - (j + n + 1) ∧ (j + n + 1) ≤ cp1 ∧ cp1 ≤ maxLen) (fun ⟨j, o, g1, sp1, cp1⟩ => nzP n - j) (0, b ++ ([(128:UInt8)]), nb3, sp2, cp2) ⟨by omega, by simp [zr8], by simp [hb], by have := ha2; omega, by omega, ha4⟩ (Sub.cons rfl (Sub.cons rfl (Sub.cons (FA (by omega)) (Sub.nil)))) rfl ?_
 rintro ⟨j, o, g1, sp1, cp1⟩ ⟨hx1, hx2, ho, hx4, hx5, hx6⟩
 show JC _ _ _ [(0, .slice ao n cb), (2, .slice none 0 0), (3, Slc g1 0 (j + n + 1) cp1)] [⟨g1, cu8 o ++ sp1, 5, (0, 0)⟩]
 refine AI (AI (AD (AA _ (AH rfl) rfl ?_)))
 refine AA (I64 ((j:Int) + (n:Int) + 1)) (FX AM rfl (by omega)) rfl ?_
 obtain ⟨dq1, hdq1, hdq1a, hdq1b⟩ : ∃ q : Nat, q = (j + n + 1) % 64 ∧ (q : Int) = ((j:Int) + (n:Int) + 1) % 64 ∧ (q < 64) := ⟨_, rfl, by first | rfl | omega, by omega⟩
 refine AA (I64 dq1) (AR rfl rfl fun _ => bin_rem_i _ _ ((dq1:Int)) (by omega) (by omega) (by omega)) rfl ?_
 refine AA (.bool (decide (((dq1:Int)) ≠ (56:Int)))) (AR rfl rfl fun _ => bin_neq_i _ _) rfl ?_
 refine AN (AE (CY (decide (((dq1:Int)) ≠ (56:Int))) rfl (fun hb1 => ?_) (fun hb1 => ?_)))
 ·
  have hp1 : ((dq1:Int)) ≠ (56:Int) := of_decide_eq_true hb1
  refine BT (AE (BY (AD (AA _ (AH rfl) rfl ?_))))
  refine A1 (B0 5 1 _ [(0, U8 0)] (cu8 ([(0:UInt8)])) AM AW CX rfl rfl rfl (by kernel_rfl)) rfl ?_
  rintro v1 L1 ⟨nb4, hnb4, rfl, rfl⟩
  show JL _ _ _ _ ((14, Slc nb4 0 1 1) :: _) [_, ⟨nb4, cu8 ([(0:UInt8)]), 5, (0, 0)⟩]
  refine A1 (C5 43 5 [true, false] (Slc g1 0 (j + n + 1) cp1) (j + n + 1) o ([(0:UInt8)]) (some ⟨nb4, 0, none⟩) 1 1 (j + n + 2) AM C0 rfl (.inr ⟨g1, sp1, cp1, rfl, rfl, (by first | exact ho | simp [ho]), hx4, (by omega), (by omega)⟩) rfl (by simp) (SrcAt.mem (AS 1 rfl (AL _))) (by omega) (by unfold maxLen; omega) (by omega)) rfl ?_
  rintro v1 L1 ⟨nb5, sp3, cp3, hg2, rfl, rfl, ha5, ha6, ha7, ha8⟩
  show JL _ _ _ _ ((15, Slc nb5 0 (j + n + 2) cp3) :: _) [_, ⟨nb5, cu8 (o ++ ([(0:UInt8)])) ++ sp3, 5, (0, 0)⟩]
  refine AA _ (AG rfl) rfl ?_
  refine AN (BO (DH (CH [false, true] ?_)))
  show K _ _ [_] _
  refine EP (j + 1, o ++ ([(0:UInt8)]), nb5, sp3, cp3) ⟨by omega, by rw [hx2, zr8_succ, List.append_assoc], (ha5).trans (by first | rfl | simp +arith), (ha6).trans (by first | rfl | simp +arith), by omega, ha8⟩ (by first | (simp; omega) | simp | (dsimp only; omega) | omega) (Sub.cons rfl (Sub.cons rfl (Sub.cons (FA (by omega)) (Sub.nil)))) rfl
 ·
  have hp1 : ¬ (((dq1:Int)) ≠ (56:Int)) := of_decide_eq_false hb1
  refine D8 (BB (BB (CV (AE (AI (AI (AD (AA _ (AG rfl) rfl ?_))))))))
  refine AN (AE (BY ?_))
  have ej : j = nzP n := by omega
  have ejb : nzP n < 64 := by omega
  refine EE (ι := Nat × List UInt8 × Nat × List Value × Nat) (fun ⟨i, o2, g2, sp2, cp2⟩ => [(0, .slice ao n cb), (2, .slice none 0 0), (3, Slc g2 0 (i + j + n + 1) cp2), (4, I64 (-8*(i:Int) + 56))]) (fun ⟨i, o2, g2, sp2, cp2⟩ => [⟨g2, cu8 o2 ++ sp2, 5, (0, 0)⟩]) (fun ⟨i, o2, g2, sp2, cp2⟩ => i ≤ 8 ∧ o2 = o ++ lenN n i ∧ o2.length = (i + j + n + 1) ∧ sp2.length = cp2 - (i + j + n + 1) ∧ (i + j + n + 1) ≤ cp2 ∧ cp2 ≤ maxLen) (fun ⟨i, o2, g2, sp2, cp2⟩ => 8 - i) (0, o, g1, sp1, cp1) ⟨by omega, by simp [lenN], by omega, by omega, by omega, hx6⟩ (Sub.cons rfl (Sub.cons rfl (Sub.cons (FA (by omega)) (Sub.cons (EQ (by omega)) (Sub.nil))))) rfl ?_
  rintro ⟨i, o2, g2, sp2, cp2⟩ ⟨hy1, hy2, ho2, hy4, hy5, hy6⟩
  show JC _ _ _ [(0, .slice ao n cb), (2, .slice none 0 0), (3, Slc g2 0 (i + j + n + 1) cp2), (4, I64 (-8*(i:Int) + 56))] [⟨g2, cu8 o2 ++ sp2, 5, (0, 0)⟩]
  refine AI (AI (AD (AA _ (AH rfl) rfl ?_)))
  refine AA (.bool (decide ((0:Int) ≤ (-8*(i:Int) + 56)))) (AR rfl rfl fun _ => FV _ _) rfl ?_
  refine AN (AE (CY (decide ((0:Int) ≤ (-8*(i:Int) + 56))) rfl (fun hb2 => ?_) (fun hb2 => ?_)))
  ·
   have hp2 : (0:Int) ≤ (-8*(i:Int) + 56) := of_decide_eq_true hb2
   refine BT (AE (AI (BY (AD (AA _ (AH rfl) rfl ?_)))))
   refine AA _ (AH rfl) rfl ?_
   refine AA (I64 n) (EL AM rfl) rfl ?_
   refine AA (U64 (UInt64.ofNat n)) (DW _ _ rfl fun _ => EN (by rw [CG]; rfl) CF n _ (by omega)) rfl ?_
   refine AA (U64 ((8:UInt64) * (UInt64.ofNat n))) (AR rfl rfl fun _ => bin_mul_u64 (8:UInt64) (UInt64.ofNat n)) rfl ?_
   refine AA _ (AH rfl) rfl ?_
   refine AA (U64 (((8:UInt64) * (UInt64.ofNat n)) >>> UInt64.ofNat (56 - 8*i))) (AR rfl rfl fun _ => FD ((8:UInt64) * (UInt64.ofNat n)) _ _ (56 - 8*i) (by omega) (by omega)) rfl ?_
   refine AA (U8 ((((8:UInt64) * (UInt64.ofNat n)) >>> UInt64.ofNat (56 - 8*i)).toUInt8)) (DW _ _ rfl fun _ => FN (by rw [CF]; rfl) B6 _) rfl ?_
   refine A1 (B0 5 1 _ [(0, U8 ((((8:UInt64) * (UInt64.ofNat n)) >>> UInt64.ofNat (56 - 8*i)).toUInt8))] (cu8 ([(((8:UInt64) * (UInt64.ofNat n)) >>> UInt64.ofNat (56 - 8*i)).toUInt8])) AM AW CX rfl rfl rfl (by kernel_rfl)) rfl ?_
   rintro v1 L1 ⟨nb6, hnb6, rfl, rfl⟩
   show JL _ _ _ _ ((28, Slc nb6 0 1 1) :: _) [_, ⟨nb6, cu8 ([(((8:UInt64) * (UInt64.ofNat n)) >>> UInt64.ofNat (56 - 8*i)).toUInt8]), 5, (0, 0)⟩]
   refine A1 (C5 43 5 [true, false] (Slc g2 0 (i + j + n + 1) cp2) (i + j + n + 1) o2 ([(((8:UInt64) * (UInt64.ofNat n)) >>> UInt64.ofNat (56 - 8*i)).toUInt8]) (some ⟨nb6, 0, none⟩) 1 1 (i + j + n + 2) AM C0 rfl (.inr ⟨g2, sp2, cp2, rfl, rfl, (by first | exact ho2 | simp [ho2]), hy4, (by omega), (by omega)⟩) rfl (by simp) (SrcAt.mem (AS 1 rfl (AL _))) (by omega) (by unfold maxLen; omega) (by omega)) rfl ?_
   rintro v1 L1 ⟨nb7, sp4, cp4, hg3, rfl, rfl, ha9, ha10, ha11, ha12⟩
   show JL _ _ _ _ ((29, Slc nb7 0 (i + j + n + 2) cp4) :: _) [_, ⟨nb7, cu8 (o2 ++ ([(((8:UInt64) * (UInt64.ofNat n)) >>> UInt64.ofNat (56 - 8*i)).toUInt8])) ++ sp4, 5, (0, 0)⟩]
   refine AA _ (AG rfl) rfl ?_
   refine AN (BO (AE (AD (AA _ (AH rfl) rfl ?_))))
   refine AA (I64 (-8*(i:Int) + 48)) (AR rfl rfl fun _ => DD _ _ (-8*(i:Int) + 48) (by omega) (by omega)) rfl ?_
   refine AA _ (AG rfl) rfl ?_
   refine AN (DH (CH [false, true] ?_))
   show K _ _ [_] _
   refine EP (i + 1, o2 ++ ([(((8:UInt64) * (UInt64.ofNat n)) >>> UInt64.ofNat (56 - 8*i)).toUInt8]), nb7, sp4, cp4) ⟨by omega, by rw [hy2, lenN, List.append_assoc], (ha9).trans (by first | rfl | simp +arith), (ha10).trans (by first | rfl | simp +arith), by omega, ha12⟩ (by first | (simp; omega) | simp | (dsimp only; omega) | omega) (Sub.cons rfl (Sub.cons rfl (Sub.cons (FA (by omega)) (Sub.cons (EQ (by omega)) (Sub.nil))))) rfl
  ·
   have hp2 : ¬ ((0:Int) ≤ (-8*(i:Int) + 56)) := of_decide_eq_false hb2
   refine D8 (BB (BB (CV (AE (AI (AD (AA _ (AH rfl) rfl ?_)))))))
   refine AA _ (AG rfl) rfl ?_
   refine AN (AE (BP (BQ (Slc g2 0 (i + j + n + 1) cp2) (res1 Tryd.results193 (B2 rfl)) fun w1 hw1 => ?_)))
   have e1 : i = 8 := by omega
   subst e1
   have e2 : o2 = padL b := by rw [hy2, hx2, padL, hb, ej]
   rw [e2] at hw1
   exact ⟨_, _, rfl, ⟨g2, sp2, cp2, slc_len (by rw [padL_len, hb, ← ej]; simp +arith), rfl, by rw [hy4]; rw [padL_len, hb, ← ej]; simp +arith, by refine Nat.le_trans (Nat.le_of_eq ?_) hy5; rw [padL_len, hb, ← ej]; simp +arith, hy6⟩, hw1.sub (by simp) (by simp)⟩
theorem rpad_c (ao : Option Addr) (n cb : Nat) (b : List UInt8) (w : World) (hb : b.length = n) (hn : n ≤ 17592186044416) (hr : RdB w [] ao b) : Calls Tryd.prog 175 #[.slice ao n cb] w (Post w [] (fun v L => ∃ g sp cap, v = Slc g 0 (padL b).length cap ∧ L = [⟨g, cu8 (padL b) ++ sp, 5, (0, 0)⟩] ∧ sp.length = cap - (padL b).length ∧ (padL b).length ≤ cap ∧ cap ≤ maxLen)) := by
 have hnz := nzP_lt n
 have hnd := nzP_def n
 refine enter w [] 45 [] [.slice ao n cb] Tryd.func175 rfl rfl (by simp) (BZ (by simp) (by simp) (by simp)) ?_
 show JC _ _ _ [(0, .slice ao n cb)] _
 refine AI (AD (AA _ (AG rfl) rfl ?_))
 refine AN (AE (AI (AD (AA _ (AH rfl) rfl ?_))))
 refine AA (I64 n) (EL AM rfl) rfl ?_
 refine AA (I64 ((n % 64:Int))) (AR rfl rfl fun _ => bin_rem_i _ _ ((n % 64:Int)) (by omega) (by omega) (by omega)) rfl ?_
 refine AA (I64 (-(n % 64:Int) + 119)) (AR rfl rfl fun _ => DD _ _ (-(n % 64:Int) + 119) (by omega) (by omega)) rfl ?_
 refine AA (I64 (((-(n % 64:Int) + 119) % 64))) (AR rfl rfl fun _ => bin_rem_i _ _ (((-(n % 64:Int) + 119) % 64)) (by omega) (by omega) (by omega)) rfl ?_
 refine AA _ (AG rfl) rfl ?_
 refine AN (AE (AI (AD (A1 (FE 5 1 AM AW) rfl ?_))))
 rintro v1 L1 ⟨nb1, hnb1, rfl, rfl⟩
 show JL _ _ _ _ ((13, Slc nb1 0 0 0) :: _) [⟨nb1, [], 5, (0, 0)⟩]
 refine AA _ (AH rfl) rfl ?_
 refine A1 (C5 43 5 [true] (Slc nb1 0 0 0) 0 ([] : List UInt8) b ao n cb n AM C0 rfl (.inr ⟨nb1, [], 0, rfl, (by simp [take?, cu8, cu32, cu64]), rfl, (by simp), (by omega), (by unfold maxLen; omega)⟩) rfl (by first | exact hb | simp [hb]; try omega) (hr.src) (by omega) (by unfold maxLen; omega) (by omega)) rfl ?_
 rintro v1 L1 ⟨nb2, sp1, cp1, hg1, rfl, rfl, ha1, ha2, ha3, ha4⟩
 show JL _ _ _ _ ((15, Slc nb2 0 n cp1) :: _) [⟨nb2, cu8 (([] : List UInt8) ++ b) ++ sp1, 5, (0, 0)⟩]
 refine AA _ (AG rfl) rfl ?_
 refine AN (AE (AI (AD (AA _ (AH rfl) rfl ?_))))
 refine A1 (B0 5 1 _ [(0, U8 128)] (cu8 ([(128:UInt8)])) AM AW CX rfl rfl rfl (by kernel_rfl)) rfl ?_
 rintro v1 L1 ⟨nb3, hnb3, rfl, rfl⟩
 show JL _ _ _ _ ((17, Slc nb3 0 1 1) :: _) [_, ⟨nb3, cu8 ([(128:UInt8)]), 5, (0, 0)⟩]
 refine A1 (C5 43 5 [true, false] (Slc nb2 0 n cp1) n (([] : List UInt8) ++ b) ([(128:UInt8)]) (some ⟨nb3, 0, none⟩) 1 1 (n + 1) AM C0 rfl (.inr ⟨nb2, sp1, cp1, rfl, rfl, (by first | exact ha1 | simp [ha1]), ha2, (by omega), (by omega)⟩) rfl (by simp) (SrcAt.mem (AS 1 rfl (AL _))) (by omega) (by unfold maxLen; omega) (by omega)) rfl ?_
 rintro v1 L1 ⟨nb4, sp2, cp2, hg2, rfl, rfl, ha5, ha6, ha7, ha8⟩
 show JL _ _ _ _ ((18, Slc nb4 0 (n + 1) cp2) :: _) [_, ⟨nb4, cu8 ((([] : List UInt8) ++ b) ++ ([(128:UInt8)])) ++ sp2, 5, (0, 0)⟩]
 refine AA _ (AG rfl) rfl ?_
 refine AN (AE (AI (AI (AD (AA _ (AG rfl) rfl ?_)))))
 refine AN (AE (BY (CH [false, true] ?_)))
 show JC _ _ _ _ [_]
 refine EE (ι := Nat × List UInt8 × Nat × List Value × Nat) (fun ⟨j, o, g1, sp1, cp1⟩ => [(0, .slice ao n cb), (2, .slice none 0 0), (3, I64 (((-(n % 64:Int) + 119) % 64))), (4, Slc g1 0 (j + n + 1) cp1), (5, I64 j)]) (fun ⟨j, o, g1, sp1, cp1⟩ => [⟨g1, cu8 o ++ sp1, 5, (0, 0)⟩]) (fun ⟨j, o, g1, sp1, cp1⟩ => j ≤ nzP n ∧ o = (b ++ [(128:UInt8)]) ++ zr8 j ∧ o.length = (j + n + 1) ∧ sp1.length = cp1 - (j + n + 1) ∧ (j + n + 1) ≤ cp1 ∧ cp1 ≤ maxLen) (fun ⟨j, o, g1, sp1, cp1⟩ => nzP n - j) (0, (([] : List UInt8) ++ b) ++ ([(128:UInt8)]), nb4, sp2, cp2) ⟨by omega, by simp [zr8], by simp [hb], by have := ha6; omega, by omega, ha8⟩ (Sub.cons rfl (Sub.cons rfl (Sub.cons rfl (Sub.cons (FA (by omega)) (Sub.all rfl))))) rfl ?_
 rintro ⟨j, o, g1, sp1, cp1⟩ ⟨hx1, hx2, ho, hx4, hx5, hx6⟩
 show JC _ _ _ [(0, .slice ao n cb), (2, .slice none 0 0), (3, I64 (((-(n % 64:Int) + 119) % 64))), (4, Slc g1 0 (j + n + 1) cp1), (5, I64 j)] [⟨g1, cu8 o ++ sp1, 5, (0, 0)⟩]
 refine AI (AI (AD (AA _ (AH rfl) rfl ?_)))
 refine AA _ (AH rfl) rfl ?_
 refine AA (.bool (decide (((j:Int)) < (((-(n % 64:Int) + 119) % 64))))) (AR rfl rfl fun _ => CS _ _) rfl ?_
 refine AN (AE (CY (decide (((j:Int)) < (((-(n % 64:Int) + 119) % 64)))) rfl (fun hb1 => ?_) (fun hb1 => ?_)))
 ·
  have hp1 : ((j:Int)) < (((-(n % 64:Int) + 119) % 64)) := of_decide_eq_true hb1
  refine BT (AE (AI (BY (AD (AA _ (AH rfl) rfl ?_)))))
  refine A1 (B0 5 1 _ [(0, U8 0)] (cu8 ([(0:UInt8)])) AM AW CX rfl rfl rfl (by kernel_rfl)) rfl ?_
  rintro v1 L1 ⟨nb5, hnb5, rfl, rfl⟩
  show JL _ _ _ _ ((25, Slc nb5 0 1 1) :: _) [_, ⟨nb5, cu8 ([(0:UInt8)]), 5, (0, 0)⟩]
  refine A1 (C5 43 5 [true, false] (Slc g1 0 (j + n + 1) cp1) (j + n + 1) o ([(0:UInt8)]) (some ⟨nb5, 0, none⟩) 1 1 (j + n + 2) AM C0 rfl (.inr ⟨g1, sp1, cp1, rfl, rfl, (by first | exact ho | simp [ho]), hx4, (by omega), (by omega)⟩) rfl (by simp) (SrcAt.mem (AS 1 rfl (AL _))) (by omega) (by unfold maxLen; omega) (by omega)) rfl ?_
  rintro v1 L1 ⟨nb6, sp3, cp3, hg3, rfl, rfl, ha9, ha10, ha11, ha12⟩
  show JL _ _ _ _ ((26, Slc nb6 0 (j + n + 2) cp3) :: _) [_, ⟨nb6, cu8 (o ++ ([(0:UInt8)])) ++ sp3, 5, (0, 0)⟩]
  refine AA _ (AG rfl) rfl ?_
  refine AN (BO (AE (AD (AA _ (AH rfl) rfl ?_))))
  refine AA (I64 ((j:Int) + 1)) (AR rfl rfl fun _ => DF _ _ ((j:Int) + 1) (by omega) (by omega)) rfl ?_
  refine AA _ (AG rfl) rfl ?_
  refine AN (DH (CH [false, true] ?_))
  show K _ _ [_] _
  refine EP (j + 1, o ++ ([(0:UInt8)]), nb6, sp3, cp3) ⟨by omega, by rw [hx2, zr8_succ, List.append_assoc], (ha9).trans (by first | rfl | simp +arith), (ha10).trans (by first | rfl | simp +arith), by omega, ha12⟩ (by first | (simp; omega) | simp | (dsimp only; omega) | omega) (Sub.cons rfl (Sub.cons rfl (Sub.cons rfl (Sub.cons (FA (by omega)) (Sub.all rfl))))) rfl
 ·
  have hp1 : ¬ (((j:Int)) < (((-(n % 64:Int) + 119) % 64))) := of_decide_eq_false hb1
  refine D8 (BB (BB (CV (AE (AI (AD (AA _ (AH rfl) rfl ?_)))))))
  refine AA (I64 n) (EL AM rfl) rfl ?_
  refine AA (U64 (UInt64.ofNat n)) (DW _ _ rfl fun _ => EN (by rw [CG]; rfl) CF n _ (by omega)) rfl ?_
  refine AA (U64 ((UInt64.ofNat n) * (8:UInt64))) (AR rfl rfl fun _ => bin_mul_u64 (UInt64.ofNat n) (8:UInt64)) rfl ?_
  refine AA _ (AG rfl) rfl ?_
  refine AN (AE (AI (AI (AD (AA _ (AG rfl) rfl ?_)))))
  refine AN (AE (BY ?_))
  have ej : j = nzP n := by omega
  have ejb : nzP n < 64 := by omega
  refine EE (ι := Nat × List UInt8 × Nat × List Value × Nat) (fun ⟨i, o2, g2, sp2, cp2⟩ => [(2, .slice none 0 0), (6, U64 ((UInt64.ofNat n) * (8:UInt64))), (4, Slc g2 0 (i + j + n + 1) cp2), (7, I64 (-(i:Int) + 7))]) (fun ⟨i, o2, g2, sp2, cp2⟩ => [⟨g2, cu8 o2 ++ sp2, 5, (0, 0)⟩]) (fun ⟨i, o2, g2, sp2, cp2⟩ => i ≤ 8 ∧ o2 = o ++ lenN n i ∧ o2.length = (i + j + n + 1) ∧ sp2.length = cp2 - (i + j + n + 1) ∧ (i + j + n + 1) ≤ cp2 ∧ cp2 ≤ maxLen) (fun ⟨i, o2, g2, sp2, cp2⟩ => 8 - i) (0, o, g1, sp1, cp1) ⟨by omega, by simp [lenN], by omega, by omega, by omega, hx6⟩ (Sub.cons rfl (Sub.cons rfl (Sub.cons (FA (by omega)) (Sub.cons (EQ (by omega)) (Sub.nil))))) rfl ?_
  rintro ⟨i, o2, g2, sp2, cp2⟩ ⟨hy1, hy2, ho2, hy4, hy5, hy6⟩
  show JC _ _ _ [(2, .slice none 0 0), (6, U64 ((UInt64.ofNat n) * (8:UInt64))), (4, Slc g2 0 (i + j + n + 1) cp2), (7, I64 (-(i:Int) + 7))] [⟨g2, cu8 o2 ++ sp2, 5, (0, 0)⟩]
  refine AI (AI (AD (AA _ (AH rfl) rfl ?_)))
  refine AA (.bool (decide ((0:Int) ≤ (-(i:Int) + 7)))) (AR rfl rfl fun _ => FV _ _) rfl ?_
  refine AN (AE (CY (decide ((0:Int) ≤ (-(i:Int) + 7))) rfl (fun hb2 => ?_) (fun hb2 => ?_)))
  ·
   have hp2 : (0:Int) ≤ (-(i:Int) + 7) := of_decide_eq_true hb2
   refine BT (AE (AI (BY (AD (AA _ (AH rfl) rfl ?_)))))
   refine AA _ (AH rfl) rfl ?_
   refine AA _ (AH rfl) rfl ?_
   refine AA (I64 (-8*(i:Int) + 56)) (AR rfl rfl fun _ => E8 _ _ (-8*(i:Int) + 56) (by omega) (by omega)) rfl ?_
   refine AA (U64 (UInt64.ofNat (56 - 8*i))) (DW _ _ rfl fun _ => EN (by rw [CG]; rfl) DS (56 - 8*i) _ (by omega)) rfl ?_
   refine AA (U64 (((UInt64.ofNat n) * (8:UInt64)) >>> UInt64.ofNat (56 - 8*i))) (AR rfl rfl fun _ => FD ((UInt64.ofNat n) * (8:UInt64)) _ _ (56 - 8*i) (by omega) (ofN_i (by omega))) rfl ?_
   refine AA (U8 ((((UInt64.ofNat n) * (8:UInt64)) >>> UInt64.ofNat (56 - 8*i)).toUInt8)) (DW _ _ rfl fun _ => FN (by rw [CF]; rfl) B6 _) rfl ?_
   refine A1 (B0 5 1 _ [(0, U8 ((((UInt64.ofNat n) * (8:UInt64)) >>> UInt64.ofNat (56 - 8*i)).toUInt8))] (cu8 ([(((UInt64.ofNat n) * (8:UInt64)) >>> UInt64.ofNat (56 - 8*i)).toUInt8])) AM AW CX rfl rfl rfl (by kernel_rfl)) rfl ?_
   rintro v1 L1 ⟨nb7, hnb7, rfl, rfl⟩
   show JL _ _ _ _ ((42, Slc nb7 0 1 1) :: _) [_, ⟨nb7, cu8 ([(((UInt64.ofNat n) * (8:UInt64)) >>> UInt64.ofNat (56 - 8*i)).toUInt8]), 5, (0, 0)⟩]
   refine A1 (C5 43 5 [true, false] (Slc g2 0 (i + j + n + 1) cp2) (i + j + n + 1) o2 ([(((UInt64.ofNat n) * (8:UInt64)) >>> UInt64.ofNat (56 - 8*i)).toUInt8]) (some ⟨nb7, 0, none⟩) 1 1 (i + j + n + 2) AM C0 rfl (.inr ⟨g2, sp2, cp2, rfl, rfl, (by first | exact ho2 | simp [ho2]), hy4, (by omega), (by omega)⟩) rfl (by simp) (SrcAt.mem (AS 1 rfl (AL _))) (by omega) (by unfold maxLen; omega) (by omega)) rfl ?_
   rintro v1 L1 ⟨nb8, sp4, cp4, hg4, rfl, rfl, ha13, ha14, ha15, ha16⟩
   show JL _ _ _ _ ((43, Slc nb8 0 (i + j + n + 2) cp4) :: _) [_, ⟨nb8, cu8 (o2 ++ ([(((UInt64.ofNat n) * (8:UInt64)) >>> UInt64.ofNat (56 - 8*i)).toUInt8])) ++ sp4, 5, (0, 0)⟩]
   refine AA _ (AG rfl) rfl ?_
   refine AN (BO (AE (AD (AA _ (AH rfl) rfl ?_))))
   refine AA (I64 (-(i:Int) + 6)) (AR rfl rfl fun _ => DD _ _ (-(i:Int) + 6) (by omega) (by omega)) rfl ?_
   refine AA _ (AG rfl) rfl ?_
   refine AN (DH (CH [false, true] ?_))
   show K _ _ [_] _
   refine EP (i + 1, o2 ++ ([(((UInt64.ofNat n) * (8:UInt64)) >>> UInt64.ofNat (56 - 8*i)).toUInt8]), nb8, sp4, cp4) ⟨by omega, by rw [hy2, lenN, UInt64.mul_comm, List.append_assoc], (ha13).trans (by first | rfl | simp +arith), (ha14).trans (by first | rfl | simp +arith), by omega, ha16⟩ (by first | (simp; omega) | simp | (dsimp only; omega) | omega) (Sub.cons rfl (Sub.cons rfl (Sub.cons (FA (by omega)) (Sub.cons (EQ (by omega)) (Sub.nil))))) rfl
  ·
   have hp2 : ¬ ((0:Int) ≤ (-(i:Int) + 7)) := of_decide_eq_false hb2
   refine D8 (BB (BB (CV (AE (AI (AD (AA _ (AH rfl) rfl ?_)))))))
   refine AA _ (AG rfl) rfl ?_
   refine AN (AE (BP (BQ (Slc g2 0 (i + j + n + 1) cp2) (res1 Tryd.results175 (B2 rfl)) fun w1 hw1 => ?_)))
   have e1 : i = 8 := by omega
   subst e1
   have e2 : o2 = padL b := by rw [hy2, hx2, padL, hb, ej]
   rw [e2] at hw1
   exact ⟨_, _, rfl, ⟨g2, sp2, cp2, slc_len (by rw [padL_len, hb, ← ej]; simp +arith), rfl, by rw [hy4]; rw [padL_len, hb, ← ej]; simp +arith, by refine Nat.le_trans (Nat.le_of_eq ?_) hy5; rw [padL_len, hb, ← ej]; simp +arith, hy6⟩, hw1.sub (by simp) (by simp)⟩
attribute [local irreducible] padL stN outN routN hashL
theorem pad_w (ao : Option Addr) (n cb : Nat) (b : List UInt8) (w : World) (hb : b.length = n) (hcb : ao = none → cb = 0) (hn : n ≤ 17592186044416) (hr : RdB w [] ao b) : Calls Tryd.prog 193 #[.slice ao n cb] w (Post w [] (fun v L => ∃ g sp cap, v = Slc g 0 (padL b).length cap ∧ L = [⟨g, cu8 (padL b) ++ sp, 5, (0, 0)⟩] ∧ sp.length = cap - (padL b).length ∧ (padL b).length ≤ cap ∧ cap ≤ maxLen)) := by
  cases ao with
  | none =>
    obtain rfl : b = [] := by
      rcases hr with h | ⟨_, _, h, _⟩
      · exact h
      · cases h
    obtain rfl : n = 0 := hb.symm
    obtain rfl := hcb rfl
    exact padNil_c w
  | some a => exact pad_c (some a) n cb b w rfl hb hn hr
theorem chunk_c (gs N cap : Nat) (w : World) : Calls Tryd.prog 192 #[Slc gs 0 N cap, I64 64] w (Post w [] (fun v L => ∃ b1 b2, v = .func (.func 201) #[] #[Ptr b1 0, Ptr b2 0] ∧ L = [⟨b1, [Slc gs 0 N cap], 43, (0, 0)⟩, ⟨b2, [I64 64], 3, (0, 0)⟩])) := by
 refine enter w [] 9 [] [Slc gs 0 N cap, I64 64] Tryd.func192 rfl rfl (by simp) (BZ (by simp) (by simp) (by simp)) ?_
 show JC _ _ _ [(0, Slc gs 0 N cap), (1, I64 64)] _
 refine AI (AD (A1 (CW (Slc gs 0 N cap) ([Slc gs 0 N cap]) rfl rfl) rfl ?_))
 rintro v1 L1 ⟨nb1, hnb1, rfl, rfl⟩
 show JL _ _ _ _ ((2, Ptr nb1 0) :: _) [⟨nb1, [Slc gs 0 N cap], 43, (0, 0)⟩]
 refine A1 (CW (I64 64) ([I64 64]) rfl rfl) rfl ?_
 rintro v1 L1 ⟨nb2, hnb2, rfl, rfl⟩
 show JL _ _ _ _ ((3, Ptr nb2 0) :: _) [_, ⟨nb2, [I64 64], 3, (0, 0)⟩]
 refine AA _ (AG rfl) rfl ?_
 refine AN (AE (AI (AI (AD (AA (I64 64) (AK rfl (AV BF (AS 1 rfl (Seg.head)))) rfl ?_)))))
 refine AA (.bool (decide ((64:Int) < (1:Int)))) (AR rfl rfl fun _ => CS _ _) rfl ?_
 refine AN (AE (CK _ rfl (by decide) ?_))
 refine BT (AE (AI (AD (AA (.func (.func 201) #[] #[Ptr nb1 0, Ptr nb2 0]) (Ev_makeFunc (vs := [Ptr nb1 0, Ptr nb2 0]) rfl (fun _ _ => rfl)) rfl ?_))))
 refine AA _ (AG rfl) rfl ?_
 refine AN (AE (BP (BQ (.func (.func 201) #[] #[Ptr nb1 0, Ptr nb2 0]) (res1 Tryd.results192 (B2 rfl)) fun w1 hw1 => ?_)))
 exact ⟨_, _, rfl, ⟨nb1, nb2, rfl, rfl⟩, hw1⟩
theorem chunk_it (b1 b2 gs N cap : Nat) (w0 : World) (hN : N % 64 = 0) (hc : N ≤ cap) (hm : cap ≤ maxLen) : Iter Tryd.prog 201 #[Ptr b1 0, Ptr b2 0] [⟨b1, [Slc gs 0 N cap], 43, (0, 0)⟩, ⟨b2, [I64 64], 3, (0, 0)⟩] [] w0 (fun k => 64*k < N) (fun k => 64*k = N) (fun k => Slc gs (64*k) 64 64) := by
 intro l B W S X S0 hS0 hW hl0 hlM hRb hY
 refine enterI W ((([⟨b1, [Slc gs 0 N cap], 43, (0, 0)⟩, ⟨b2, [I64 64], 3, (0, 0)⟩] : List Ent) ++ S0).map Ent.b) 31 ([⟨b1, [Slc gs 0 N cap], 43, (0, 0)⟩, ⟨b2, [I64 64], 3, (0, 0)⟩] ++ S0) [.func (.yield l) #[] #[], Ptr b1 0, Ptr b2 0] Tryd.func201 rfl rfl (by simp) hW ?_
 have hm2 : cap ≤ 9223372036854775807 := by unfold maxLen at hm; omega
 show JC _ _ _ [(0, .func (.yield l) #[] #[]), (1, Ptr b1 0), (2, Ptr b2 0)] ([⟨b1, [Slc gs 0 N cap], 43, (0, 0)⟩, ⟨b2, [I64 64], 3, (0, 0)⟩] ++ S0)
 refine AI ?_
 refine AD ?_
 refine AA _ (AG rfl) rfl ?_
 refine AN ?_
 refine AE ?_
 refine BY ?_
 refine EE (ι := Nat × List Ent) (fun ⟨k, Sk⟩ => [(0, .func (.yield l) #[] #[]), (1, Ptr b1 0), (2, Ptr b2 0), (4, I64 (64*(k:Int)))]) (fun ⟨k, Sk⟩ => [⟨b1, [Slc gs 0 N cap], 43, (0, 0)⟩, ⟨b2, [I64 64], 3, (0, 0)⟩] ++ Sk) (fun ⟨k, Sk⟩ => k ≤ B ∧ S k Sk ∧ 64*k ≤ N) (fun ⟨k, Sk⟩ => B - k) (0, S0) ⟨by omega, hS0, by omega⟩ (Sub.all rfl) rfl ?_
 rintro ⟨k, Sk⟩ ⟨hx1, hx2, hx3⟩
 show JC _ _ _ [(0, .func (.yield l) #[] #[]), (1, Ptr b1 0), (2, Ptr b2 0), (4, I64 (64*(k:Int)))] ([⟨b1, [Slc gs 0 N cap], 43, (0, 0)⟩, ⟨b2, [I64 64], 3, (0, 0)⟩] ++ Sk)
 refine AI ?_
 refine AI ?_
 refine AD ?_
 refine AA _ (AH rfl) rfl ?_
 refine AA (Slc gs 0 N cap) (AK rfl (AV D0 (AS 0 rfl (Seg.head)))) rfl ?_
 refine AA (I64 N) (EL AM rfl) rfl ?_
 refine AA (.bool (decide ((64*(k:Int)) < ((N:Int))))) (AR rfl rfl fun _ => CS _ _) rfl ?_
 refine AN ?_
 refine AE ?_
 refine CY (decide ((64*(k:Int)) < ((N:Int)))) rfl (fun hb1 => ?_) (fun hb1 => ?_)
 ·
  have hp1 : (64*(k:Int)) < ((N:Int)) := of_decide_eq_true hb1
  refine BT ?_
  refine AE ?_
  refine AI ?_
  refine BY ?_
  refine AI ?_
  refine C1 31 1 [(0, I64 64), (1, Slc gs 0 N cap), (2, I64 (64*(k:Int))), (3, Slc gs (64*k) (N - 64*k) (cap - 64*k)), (4, I64 ((N:Int) - 64*(k:Int))), (5, I64 64), (6, I64 64)] BV rfl (by decide +kernel) ?_
  refine C4 ⟨[], [0, 1, 2, 3, 4, 5, 6], [], [0, 1, 2, 3, 4, 5, 6], []⟩ rfl rfl (by decide +kernel) rfl ⟨⟨_, rfl, AC rfl (AK rfl (AV BF (AS 1 rfl (Seg.head))))⟩, ⟨_, rfl, AC rfl (AK rfl (AV D0 (AS 0 rfl (Seg.head))))⟩, A2 rfl rfl rfl, ⟨_, rfl, AC rfl (Ev_slice 5 1 (64*k) N (64*k) (cap - 64*k) AM AW rfl (EQ (by omega)) rfl (by omega) (by omega) (by omega) (by omega) (by omega) (N - 64*k) (by omega))⟩, ⟨_, rfl, AC rfl (FX AM rfl (by omega))⟩, ⟨_, rfl, AC rfl (Ev_min rfl rfl (by have h : (decide ((64:Int) ≤ ((N:Int) - 64*(k:Int)))) = true := (decide_eq_true (by omega)); have := of_decide_eq_true h; omega))⟩, ⟨_, rfl, AC rfl (AG rfl)⟩, trivial⟩ ?_
  refine CI (F' := [(13, I64 64), (14, Slc gs 0 N cap), (15, I64 (64*(k:Int))), (16, Slc gs (64*k) (N - 64*k) (cap - 64*k)), (17, I64 ((N:Int) - 64*(k:Int))), (18, I64 64), (5, I64 64), (0, .func (.yield l) #[] #[]), (1, Ptr b1 0), (2, Ptr b2 0), (4, I64 (64*(k:Int))), (6, I64 (64*(k:Int))), (7, Slc gs 0 N cap), (8, I64 N), (9, .bool (decide ((64*(k:Int)) < ((N:Int)))))]) (by kernel_rfl) ?_
  refine AE ?_
  refine AI ?_
  refine AD ?_
  refine AA _ (AH rfl) rfl ?_
  refine AA (Slc gs 0 N cap) (AK rfl (AV D0 (AS 0 rfl (Seg.head)))) rfl ?_
  refine AA _ (AH rfl) rfl ?_
  refine AA _ (AH rfl) rfl ?_
  refine AA _ (AH rfl) rfl ?_
  refine AA (I64 (64*(k:Int) + 64)) (AR rfl rfl fun _ => DF _ _ (64*(k:Int) + 64) (by omega) (by omega)) rfl ?_
  refine AA _ (AH rfl) rfl ?_
  refine AA _ (AH rfl) rfl ?_
  refine AA (I64 (64*(k:Int) + 64)) (AR rfl rfl fun _ => DF _ _ (64*(k:Int) + 64) (by omega) (by omega)) rfl ?_
  refine AA (Slc gs (64*k) 64 64) (Ev_slice3 5 1 (64*k) (64*k + 64) (64*k + 64) (64*k) 64 64 AM AW rfl (EQ (by omega)) (EQ (by omega)) (EQ (by omega)) (by omega) (by omega) (by omega) (by omega) (by omega) (by omega) (by omega)) rfl ?_
  refine JL_yield l [Slc gs (64*k) 64 64] [⟨b1, [Slc gs 0 N cap], 43, (0, 0)⟩, ⟨b2, [I64 64], 3, (0, 0)⟩] Sk (fun L' => k + 1 ≤ B ∧ S (k + 1) L') (X k) rfl rfl rfl hl0 hlM rfl (fun w1 hw1 => hY k Sk w1 (show 64*k < N by omega) hx1 hx2 (hw1.right)) ?_ ?_
  ·
   intro L1 ⟨hn1, hn2⟩
   show JL _ _ _ _ ((29, .bool true) :: _) ([⟨b1, [Slc gs 0 N cap], 43, (0, 0)⟩, ⟨b2, [I64 64], 3, (0, 0)⟩] ++ L1)
   refine AA (.bool (!true)) (FH rfl) rfl ?_
   refine AN ?_
   refine AE ?_
   refine CK _ rfl rfl ?_
   refine BT ?_
   refine BO ?_
   refine AE ?_
   refine AD ?_
   refine AA _ (AH rfl) rfl ?_
   refine AA (I64 64) (AK rfl (AV BF (AS 1 rfl (Seg.head)))) rfl ?_
   refine AA (I64 (64*(k:Int) + 64)) (AR rfl rfl fun _ => DF _ _ (64*(k:Int) + 64) (by omega) (by omega)) rfl ?_
   refine AA _ (AG rfl) rfl ?_
   refine AN ?_
   refine DH ?_
   refine EP (k + 1, L1) ⟨hn1, hn2, by omega⟩ (by first | (simp; omega) | simp | (dsimp only; omega) | omega) (Sub.cons rfl (Sub.cons rfl (Sub.cons rfl (Sub.cons (EQ (by omega)) (Sub.nil))))) rfl
  ·
   intro L1 o1 hx9
   show JL _ _ _ _ ((29, .bool false) :: _) ([⟨b1, [Slc gs 0 N cap], 43, (0, 0)⟩, ⟨b2, [I64 64], 3, (0, 0)⟩] ++ L1)
   refine AA (.bool (!false)) (FH rfl) rfl ?_
   refine AN ?_
   refine AE ?_
   refine DJ _ rfl rfl ?_
   refine BP ?_
   refine DV ?_
   refine BN ?_
   refine BN ?_
   refine DV ?_
   refine JQ_retM0 (.tuple #[]) (res0 Tryd.results201 ) (fun w1 hw1 => ?_)
   exact ⟨⟨_, rfl⟩, .inr ⟨k, L1, o1, (show 64*k < N by omega), hx9, hw1.right⟩⟩
 ·
  have hp1 : ¬ ((64*(k:Int)) < ((N:Int))) := of_decide_eq_false hb1
  refine D8 ?_
  refine BB ?_
  refine BB ?_
  refine CV ?_
  refine JQ_endM0 (.tuple #[]) (res0 Tryd.results201 ) (fun w1 hw1 => ?_)
  exact ⟨⟨_, rfl⟩, .inl ⟨k, Sk, (show 64*k = N by omega), hx2, hw1.right⟩⟩
theorem GLs.round {w W : World} {M S : List Nat} {l : Nat} {o : Obj} (h : GLs w) (hB : ∀ b, b < w.heap.size → b ∉ M → W.heap[b]? = w.heap[b]? ∧ b ∉ S ∧ b ≠ l) (h1 : 5 ∉ M := by simp) (h2 : 3 ∉ M := by simp) : GLs (W.putObj l o) ∧ 5 ∉ S ∧ 3 ∉ S := by
  have key : ∀ b vs, b ∉ M → RdA w b 0 vs → RdA (W.putObj l o) b 0 vs ∧ b ∉ S := by
    intro b vs hM hr
    obtain ⟨e1, e2, e3⟩ := hB b hr.1 hM
    have e4 : (W.putObj l o).heap[b]? = w.heap[b]? := (World.putObj_heap_other e3).trans e1
    refine ⟨⟨?_, fun j v hj => ?_⟩, e2⟩
    · have : w.heap[b]? ≠ none := by simp; exact hr.1
      rw [← e4] at this
      simp at this
      simpa using this
    · have := hr.2 j v hj
      simp only [World.cell?, e4] at this ⊢
      exact this
  exact ⟨⟨(key _ _ h1 h.1).1, (key _ _ h2 h.2).1⟩, (key _ _ h1 h.1).2, (key _ _ h2 h.2).2⟩
theorem sum_c (ao : Option Addr) (n cb : Nat) (b : List UInt8) (w : World) (hb : b.length = n) (hcb : ao = none → cb = 0) (hn : n ≤ 17592186044416) (hr : RdB w [] ao b) (hG : GLs w) : Calls Tryd.prog 177 #[.slice ao n cb] w (Post w [] (fun v L => v = .agg (cu8 (sumG constL initL b)).toArray ∧ L = [])) := by
 have hpm := pad_mod b
 refine enterM w [] 41 [] [.slice ao n cb] Tryd.func177 rfl rfl (by simp) (BZ (by simp) (by simp) (by simp)) ?_
 show JC _ _ _ [(0, .slice ao n cb)] _
 refine AI (AD (A1 (BG _ (cu8 (zr8 32)) DQ (by kernel_rfl)) rfl ?_))
 rintro v1 L1 ⟨nb1, hnb1, rfl, rfl⟩
 show JL _ _ _ _ ((2, Ptr nb1 0) :: _) [⟨nb1, cu8 (zr8 32), 54, (0, 0)⟩]
 refine AN (AE (AI (AD (AA (.agg (cu32 initL).toArray) (AK rfl (BH Tryd.isAgg268 D6 (FK E7) (C8 (hG.2.mem (by simp)) (AL _) (by omega)))) rfl ?_))))
 refine A1 (BG _ (cu32 (zr32 8)) Tryd.zeroValue268 (by kernel_rfl)) rfl ?_
 rintro v1 L1 ⟨nb2, hnb2, rfl, rfl⟩
 show JL _ _ _ _ ((3, Ptr nb2 0) :: _) [_, ⟨nb2, cu32 (zr32 8), 268, (0, 0)⟩]
 refine A7 (A5 1 nb2 8 (cu32 (zr32 8)) 268 (cu32 initL) rfl rfl rfl D6 (FK E7) (by first | exact CD | exact D3 | exact D1 | (simp [cu8, cu32, cu64, Value.oneCell']; done)) (by simp [(FP 8)]) (BC (by simp [(FP 8), E7]))) rfl ?_
 show JL _ _ _ _ _ [_, ⟨nb2, cu32 initL, 268, (0, 0)⟩]
 refine AN (AE (AI (AI (AD (AA _ (AH rfl) rfl ?_)))))
 refine A1 (BI 193 [.slice ao n cb] _ (AY _ Tryd.call193 rfl) (fun w1 hw1 => pad_w ao n cb b w1 hb hcb (by omega) (hr.at (M' := []) hw1 (by simp)))) rfl ?_
 rintro v1 L1 ⟨_, ⟨nb3, sp1, cp1, rfl, rfl, hc1, hc2, hc3⟩, rfl⟩
 show JL _ _ _ _ ((10, Slc nb3 0 ((padL b).length) cp1) :: _) [_, _, ⟨nb3, cu8 (padL b) ++ sp1, 5, (0, 0)⟩]
 refine A1 (BI 192 [Slc nb3 0 ((padL b).length) cp1, I64 64] _ (AY _ Tryd.call192 rfl) (fun w1 hw1 => chunk_c nb3 ((padL b).length) cp1 w1)) rfl ?_
 rintro v1 L1 ⟨_, ⟨nb4, nb5, rfl, rfl⟩, rfl⟩
 show JL _ _ _ _ ((11, .func (.func 201) #[] #[Ptr nb4 0, Ptr nb5 0]) :: _) [_, _, _, ⟨nb4, [Slc nb3 0 ((padL b).length) cp1], 43, (0, 0)⟩, ⟨nb5, [I64 64], 3, (0, 0)⟩]
 refine AN (AE (BY (K_sub (F' := [(2, Ptr nb1 0), (3, Ptr nb2 0), (11, .func (.func 201) #[] #[Ptr nb4 0, Ptr nb5 0])]) (Sub.all rfl) ?_)))
 refine E9 [0, 2, 3, 4, 1] (by decide) ?_
 show JC _ _ _ _ [⟨nb1, cu8 (zr8 32), 54, (0, 0)⟩, ⟨nb3, cu8 (padL b) ++ sp1, 5, (0, 0)⟩, ⟨nb4, [Slc nb3 0 ((padL b).length) cp1], 43, (0, 0)⟩, ⟨nb5, [I64 64], 3, (0, 0)⟩, ⟨nb2, cu32 initL, 268, (0, 0)⟩]
 refine JC_range [⟨nb1, cu8 (zr8 32), 54, (0, 0)⟩, ⟨nb3, cu8 (padL b) ++ sp1, 5, (0, 0)⟩] [⟨nb4, [Slc nb3 0 ((padL b).length) cp1], 43, (0, 0)⟩, ⟨nb5, [I64 64], 3, (0, 0)⟩] [⟨nb2, cu32 initL, 268, (0, 0)⟩] [] (fun k => 64*k < (padL b).length) (fun k => 64*k = (padL b).length) (fun k => Slc nb3 (64*k) 64 64) ((padL b).length / 64) (fun k L => k ≤ (padL b).length / 64 ∧ L = [⟨nb2, cu32 (stN constL initL (padL b) k), 268, (0, 0)⟩]) (fun k c L => False) rfl rfl rfl Tryd.call201 (List.Perm.refl _) rfl ⟨by omega, by rw [stN]⟩ (by simp) (fun w1 hw1 => chunk_it nb4 nb5 _ _ _ w1 (pad_mod b) hc2 hc3) ?_ ?_ ?_
 ·
  intro l rb k Sk W1 hgo hkB hSk hl0 hlM hA hB hle
  have hA0 := hA _ (List.mem_of_getElem? (i := 0) rfl)
  have hA1 := hA _ (List.mem_of_getElem? (i := 1) rfl)
  obtain ⟨hx1, rfl⟩ := hSk
  have hG2 := hG.round (o := rb) hB
  show JC _ _ _ _ [⟨nb2, cu32 (stN constL initL (padL b) k), 268, (0, 0)⟩]
  refine AD (AA _ (AG rfl) rfl ?_)
  refine AN (JQ_begin hl0 hlM ?_)
  show JC _ _ _ _ [⟨nb2, cu32 (stN constL initL (padL b) k), 268, (0, 0)⟩]
  refine BY ?_
  have hl1 : (mid (padL b) (64*k) 64).length = 64 := E3 (by rw [(rfl : (padL b).length = _)]; omega)
  refine C1 41 3 [(0, .agg (cu32 (stN constL initL (padL b) k)).toArray), (1, Slc nb3 (64*k) 64 64), (2, Ptr nb3 (64*k)), (3, .agg (cu8 (mid (padL b) (64*k) 64)).toArray)] BV rfl (by decide +kernel) ?_
  have hl2 : (mid (padL b) (64*k) 64).length = 64 := E3 (by rw [(rfl : (padL b).length = _)]; omega)
  refine CQ ⟨[], [0, 1, 2, 3], [], [0, 1, 2, 3], [4]⟩ 4 rfl rfl (by decide +kernel) rfl ⟨⟨_, rfl, AC rfl (AK rfl (BH Tryd.isAgg268 D6 (FK (stN_len E7 k)) (AS 0 rfl (AL _))))⟩, A2 rfl rfl rfl, ⟨_, rfl, AC rfl (Ev_s2ap 64 Tryd.underlying262 rfl (by omega))⟩, ⟨_, rfl, AC rfl (AK rfl (BH Tryd.isAgg262 ET (CM hl2) (C8 (MemAt.heap ((World.putObj_heap_other hA1.2.2).trans hA1.1) hA1.2.1) (A4 (segm_u8 (64*k) 64 (by rw [(rfl : (padL b).length = _)]; omega))) (by omega))))⟩, trivial⟩ rfl (AZ rfl (A3 194 [.agg (cu32 (stN constL initL (padL b) k)).toArray, .agg (cu8 (mid (padL b) (64*k) 64)).toArray] (.agg (cu32 (comprL constL (stN constL initL (padL b) k) (mid (padL b) (64*k) 64))).toArray) (AY _ Tryd.call194 rfl) (fun w1 hw1 => compress_c (stN constL initL (padL b) k) (mid (padL b) (64*k) 64) w1 (stN_len E7 k) hl1 (hG2.1.at hw1 hG2.2.1 hG2.2.2)))) ?_
  show DP _ _ _ _ _ _ _ _ [_]
  refine CQ ⟨[4], [0, 1, 2, 3], [0, 1, 2, 3], [], [5]⟩ 5 rfl rfl (by decide +kernel) rfl trivial rfl (AZ rfl (A5 0 nb2 8 (cu32 (stN constL initL (padL b) k)) 268 (cu32 (comprL constL (stN constL initL (padL b) k) (mid (padL b) (64*k) 64))) rfl rfl rfl D6 (FK (GA (stN_len E7 k))) (by first | exact CD | exact D3 | exact D1 | (simp [cu8, cu32, cu64, Value.oneCell']; done)) (by simp [(stN_len E7 k)]) (BC (by simp [(stN_len E7 k), (GA (stN_len E7 k))])))) ?_
  show DP _ _ _ _ _ _ _ _ [⟨nb2, cu32 (comprL constL (stN constL initL (padL b) k) (mid (padL b) (64*k) 64)), 268, (0, 0)⟩]
  refine C4 ⟨[4, 5], [0, 1, 2, 3], [0, 1, 2, 3], [], []⟩ rfl rfl (by decide +kernel) rfl trivial ?_
  refine CI (F' := [(2, Ptr nb1 0)]) (by kernel_rfl) ?_
  refine BO (JQ_bodyN ⟨by omega, by omega, by rw [stN]⟩)
 ·
  intro D k L' W' hf hX hw' hD hDle
  obtain ⟨hx1, rfl⟩ := hX
  show JQ _ _ _ _ [⟨nb1, cu8 (zr8 32), 54, (0, 0)⟩, ⟨nb3, cu8 (padL b) ++ sp1, 5, (0, 0)⟩, ⟨nb2, cu32 (stN constL initL (padL b) k), 268, (0, 0)⟩]
  refine BO (AE (AI (AD (A1 (BG _ (cu8 (zr8 32)) DQ (by kernel_rfl)) rfl ?_))))
  rintro v1 L1 ⟨nb6, hnb6, rfl, rfl⟩
  show JL _ _ _ _ ((5, Ptr nb6 0) :: _) [_, _, _, ⟨nb6, cu8 (zr8 32), 54, (0, 0)⟩]
  refine AN (AE (AI (AI (AD (AA (.agg (cu32 (stN constL initL (padL b) k)).toArray) (AK rfl (BH Tryd.isAgg268 D6 (FK (stN_len E7 k)) (AS 2 rfl (AL _)))) rfl ?_)))))
  refine AA _ (AH rfl) rfl ?_
  refine AN (AE (BY (CH [true, false, false, true] ?_)))
  show JC _ _ _ _ [_, _]
  refine EE (ι := Nat × List UInt8) (fun ⟨i, o⟩ => [(2, Ptr nb1 0), (5, Ptr nb6 0), (18, .agg (cu32 (stN constL initL (padL b) k)).toArray), (19, I64 i)]) (fun ⟨i, o⟩ => [⟨nb1, cu8 (zr8 32), 54, (0, 0)⟩, ⟨nb6, cu8 o, 54, (0, 0)⟩]) (fun ⟨i, o⟩ => i ≤ 8 ∧ o = outN (stN constL initL (padL b) k) i ∧ o.length = 32) (fun ⟨i, o⟩ => 8 - i) (0, zr8 32) ⟨by omega, by rw [outN], AP 32⟩ (Sub.all rfl) rfl ?_
  rintro ⟨i, o⟩ ⟨hz1, hz2, ho⟩
  show JC _ _ _ [(2, Ptr nb1 0), (5, Ptr nb6 0), (18, .agg (cu32 (stN constL initL (padL b) k)).toArray), (19, I64 i)] [⟨nb1, cu8 (zr8 32), 54, (0, 0)⟩, ⟨nb6, cu8 o, 54, (0, 0)⟩]
  refine AI (AD (AA (.bool (decide (((i:Int)) < (8:Int)))) (AR rfl rfl fun _ => CS _ _) rfl ?_))
  refine AN (AE (AI (CY (decide (((i:Int)) < (8:Int))) rfl (fun hb1 => ?_) (fun hb1 => ?_))))
  ·
   have hp1 : ((i:Int)) < (8:Int) := of_decide_eq_true hb1
   refine BT (AE (AI (BY (AI (AD (AA _ (AH rfl) rfl ?_))))))
   refine AA (U32 (g32 (stN constL initL (padL b) k) i)) (Ev_index1 8 267 _ BX BM BD rfl rfl (by omega) (by omega) (Seg.get1 (Seg.get (DI (i := i) (by rw [(stN_len E7 k)]; omega))) (by omega))) rfl ?_
   refine AA _ (AG rfl) rfl ?_
   refine AA _ (AG rfl) rfl ?_
   refine AN (AE (AD (AA _ (AH rfl) rfl ?_)))
   refine AA (I64 (4*(i:Int))) (AR rfl rfl fun _ => E8 _ _ (4*(i:Int)) (by omega) (by omega)) rfl ?_
   refine AA (Slc nb6 (4*i) (32 - 4*i) (32 - 4*i)) (B3 32 5 1 (4*i) 32 (4*i) (32 - 4*i) B9 AW rfl (EQ (by omega)) rfl (by omega) (by omega) (by omega) (by omega) (by omega) (32 - 4*i) (by omega)) rfl ?_
   refine AA _ (AH rfl) rfl ?_
   refine AA (U32 ((g32 (stN constL initL (padL b) k) i) >>> (24:UInt32))) (AR rfl rfl fun _ => EO (g32 (stN constL initL (padL b) k) i) _ _ 24 (by decide) rfl) rfl ?_
   refine AA (U8 (((g32 (stN constL initL (padL b) k) i) >>> (24:UInt32)).toUInt8)) (DW _ _ rfl fun _ => conv_u32_u8 (by rw [DR]; rfl) B6 _) rfl ?_
   refine AA _ (AH rfl) rfl ?_
   refine AA (U32 ((g32 (stN constL initL (padL b) k) i) >>> (16:UInt32))) (AR rfl rfl fun _ => EO (g32 (stN constL initL (padL b) k) i) _ _ 16 (by decide) rfl) rfl ?_
   refine AA (U8 (((g32 (stN constL initL (padL b) k) i) >>> (16:UInt32)).toUInt8)) (DW _ _ rfl fun _ => conv_u32_u8 (by rw [DR]; rfl) B6 _) rfl ?_
   refine AA _ (AH rfl) rfl ?_
   refine AA (U32 ((g32 (stN constL initL (padL b) k) i) >>> (8:UInt32))) (AR rfl rfl fun _ => EO (g32 (stN constL initL (padL b) k) i) _ _ 8 (by decide) rfl) rfl ?_
   refine AA (U8 (((g32 (stN constL initL (padL b) k) i) >>> (8:UInt32)).toUInt8)) (DW _ _ rfl fun _ => conv_u32_u8 (by rw [DR]; rfl) B6 _) rfl ?_
   refine AA _ (AH rfl) rfl ?_
   refine AA (U8 ((g32 (stN constL initL (padL b) k) i).toUInt8)) (DW _ _ rfl fun _ => conv_u32_u8 (by rw [DR]; rfl) B6 _) rfl ?_
   refine A1 (B0 5 1 _ [(0, U8 (((g32 (stN constL initL (padL b) k) i) >>> (24:UInt32)).toUInt8)), (1, U8 (((g32 (stN constL initL (padL b) k) i) >>> (16:UInt32)).toUInt8)), (2, U8 (((g32 (stN constL initL (padL b) k) i) >>> (8:UInt32)).toUInt8)), (3, U8 ((g32 (stN constL initL (padL b) k) i).toUInt8))] (cu8 ([((g32 (stN constL initL (padL b) k) i) >>> (24:UInt32)).toUInt8, ((g32 (stN constL initL (padL b) k) i) >>> (16:UInt32)).toUInt8, ((g32 (stN constL initL (padL b) k) i) >>> (8:UInt32)).toUInt8, (g32 (stN constL initL (padL b) k) i).toUInt8])) AM AW CX rfl rfl rfl (by kernel_rfl)) rfl ?_
   rintro v1 L1 ⟨nb7, hnb7, rfl, rfl⟩
   show JL _ _ _ _ ((37, Slc nb7 0 4 4) :: _) [_, _, ⟨nb7, cu8 ([((g32 (stN constL initL (padL b) k) i) >>> (24:UInt32)).toUInt8, ((g32 (stN constL initL (padL b) k) i) >>> (16:UInt32)).toUInt8, ((g32 (stN constL initL (padL b) k) i) >>> (8:UInt32)).toUInt8, (g32 (stN constL initL (padL b) k) i).toUInt8]), 5, (0, 0)⟩]
   have hl3 : (spl o (4*i) ([((g32 (stN constL initL (padL b) k) i) >>> (24:UInt32)).toUInt8, ((g32 (stN constL initL (padL b) k) i) >>> (16:UInt32)).toUInt8, ((g32 (stN constL initL (padL b) k) i) >>> (8:UInt32)).toUInt8, (g32 (stN constL initL (padL b) k) i).toUInt8])).length = 32 := by rw [spl_len (by simp [ho]; omega)]; simp [ho]
   refine A7 (EW 43 43 5 1 nb6 (4*i) (32 - 4*i) (32 - 4*i) (cu8 o) 54 (some ⟨nb7, 0, none⟩) 4 4 4 (cu8 ([((g32 (stN constL initL (padL b) k) i) >>> (24:UInt32)).toUInt8, ((g32 (stN constL initL (padL b) k) i) >>> (16:UInt32)).toUInt8, ((g32 (stN constL initL (padL b) k) i) >>> (8:UInt32)).toUInt8, (g32 (stN constL initL (padL b) k) i).toUInt8])) (cu8 (spl o (4*i) ([((g32 (stN constL initL (padL b) k) i) >>> (24:UInt32)).toUInt8, ((g32 (stN constL initL (padL b) k) i) >>> (16:UInt32)).toUInt8, ((g32 (stN constL initL (padL b) k) i) >>> (8:UInt32)).toUInt8, (g32 (stN constL initL (padL b) k) i).toUInt8]))) AM DZ rfl rfl rfl (Nat.min_eq_left (by omega)) (by simp) (SrcAt.mem (AS 2 rfl (AL _))) (by simp [ho]; try omega) (by first | exact CD | exact D3 | exact D1 | (simp [cu8, cu32, cu64, Value.oneCell']; done)) (laySpl8 _ _ _ (by simp [ho]; omega))) rfl ?_
   show JL _ _ _ _ ((38, I64 4) :: _) [_, ⟨nb6, cu8 (spl o (4*i) ([((g32 (stN constL initL (padL b) k) i) >>> (24:UInt32)).toUInt8, ((g32 (stN constL initL (padL b) k) i) >>> (16:UInt32)).toUInt8, ((g32 (stN constL initL (padL b) k) i) >>> (8:UInt32)).toUInt8, (g32 (stN constL initL (padL b) k) i).toUInt8])), 54, (0, 0)⟩, _]
   refine AN (BO (AE (AD (AA (I64 ((i:Int) + 1)) (AR rfl rfl fun _ => DF _ _ ((i:Int) + 1) (by omega) (by omega)) rfl ?_))))
   refine AA _ (AH rfl) rfl ?_
   refine AN (DH (CH [true, true, false] ?_))
   show K _ _ [_, _] _
   refine EP (i + 1, spl o (4*i) ([((g32 (stN constL initL (padL b) k) i) >>> (24:UInt32)).toUInt8, ((g32 (stN constL initL (padL b) k) i) >>> (16:UInt32)).toUInt8, ((g32 (stN constL initL (padL b) k) i) >>> (8:UInt32)).toUInt8, (g32 (stN constL initL (padL b) k) i).toUInt8])) ⟨by omega, by rw [outN, ← hz2], hl3⟩ (by first | (simp; omega) | simp | (dsimp only; omega) | omega) (Sub.all rfl) rfl
  ·
   have hp1 : ¬ (((i:Int)) < (8:Int)) := of_decide_eq_false hb1
   refine D8 (BB (BB (CV (AE (AI (AD (AA (.agg (cu8 o).toArray) (AK rfl (BH DE B1 (CM ho) (AS 1 rfl (AL _)))) rfl ?_)))))))
   refine A7 (A5 0 nb1 32 (cu8 (zr8 32)) 54 (cu8 o) rfl rfl rfl B1 (CM ho) (by first | exact CD | exact D3 | exact D1 | (simp [cu8, cu32, cu64, Value.oneCell']; done)) (by simp [(AP 32)]) (BC (by simp [(AP 32), ho]))) rfl ?_
   show JL _ _ _ _ _ [⟨nb1, cu8 o, 54, (0, 0)⟩, _]
   refine AN (AE (BP (JQ_retM D (.agg (cu8 o).toArray) rfl hD rfl hw'.here (fun _ => (res1 Tryd.results177 (DU rfl (BH DE B1 (CM ho) (AS 0 rfl (AL _)))))) (fun w1 hw1 => ?_))))
   have hw1 := hw'.fin hD hDle hw1 (.deferred none)
   have e1 : i = 8 := by omega
   subst e1
   have e2 : k = (padL b).length / 64 := by have : 64*k = (padL b).length := hf; omega
   refine ⟨_, [], rfl, ⟨?_, rfl⟩, hw1.sub (by simp) (by simp)⟩
   rw [sumG, ← outN_hash, hz2, e2]
 ·
  intro D k c L' W' hgo hX
  exact hX.elim
attribute [local irreducible] sumG
theorem rsum_c (ao : Option Addr) (n cb : Nat) (b : List UInt8) (w : World) (hb : b.length = n) (hn : n ≤ 17592186044416) (hr : RdB w [] ao b) (hGr : GLr w) (hGi : GLi w) : Calls Tryd.prog 148 #[.slice ao n cb] w (Post w [] (fun v L => v = .agg (cu8 (sumG constL initL b)).toArray ∧ L = [])) := by
 have hpm := pad_mod b
 have hmx : maxLen ≤ 9223372036854775807 := by unfold maxLen; omega
 refine enter w [] 42 [] [.slice ao n cb] Tryd.func148 rfl rfl (by simp) (BZ (by simp) (by simp) (by simp)) ?_
 show JC _ _ _ [(0, .slice ao n cb)] _
 refine AI (AD (A1 (BG _ (cu8 (zr8 32)) DQ (by kernel_rfl)) rfl ?_))
 rintro v1 L1 ⟨nb1, hnb1, rfl, rfl⟩
 show JL _ _ _ _ ((2, Ptr nb1 0) :: _) [⟨nb1, cu8 (zr8 32), 54, (0, 0)⟩]
 refine AN (AE (AI (AD (AA _ (AH rfl) rfl ?_))))
 refine A1 (BI 175 [.slice ao n cb] _ (AY _ Tryd.call175 rfl) (fun w1 hw1 => rpad_c ao n cb b w1 hb (by omega) (hr.at (M' := []) hw1 (by simp)))) rfl ?_
 rintro v1 L1 ⟨_, ⟨nb2, sp1, cp1, rfl, rfl, hc1, hc2, hc3⟩, rfl⟩
 show JL _ _ _ _ ((9, Slc nb2 0 ((padL b).length) cp1) :: _) [_, ⟨nb2, cu8 (padL b) ++ sp1, 5, (0, 0)⟩]
 refine AA _ (AG rfl) rfl ?_
 refine AN (AE (AI (AD (AA (.agg (cu32 initL).toArray) (AK rfl (BH Tryd.isAgg268 D6 (FK E7) (C8 ((id hGi : RdA w 1 0 (cu32 initL)).mem (by simp)) (AL _) (by omega)))) rfl ?_))))
 refine A1 (BG _ (cu32 (zr32 8)) Tryd.zeroValue268 (by kernel_rfl)) rfl ?_
 rintro v1 L1 ⟨nb3, hnb3, rfl, rfl⟩
 show JL _ _ _ _ ((4, Ptr nb3 0) :: _) [_, _, ⟨nb3, cu32 (zr32 8), 268, (0, 0)⟩]
 refine A7 (A5 2 nb3 8 (cu32 (zr32 8)) 268 (cu32 initL) rfl rfl rfl D6 (FK E7) (by first | exact CD | exact D3 | exact D1 | (simp [cu8, cu32, cu64, Value.oneCell']; done)) (by simp [(FP 8)]) (BC (by simp [(FP 8), E7]))) rfl ?_
 show JL _ _ _ _ _ [_, _, ⟨nb3, cu32 initL, 268, (0, 0)⟩]
 refine AN (AE (AI (AI (AD (AA _ (AG rfl) rfl ?_)))))
 refine AN (AE (BY (EE (ι := Nat × List UInt32) (fun ⟨k, s⟩ => [(2, Ptr nb1 0), (3, Slc nb2 0 ((padL b).length) cp1), (4, Ptr nb3 0), (5, I64 (64*(k:Int)))]) (fun ⟨k, s⟩ => [⟨nb1, cu8 (zr8 32), 54, (0, 0)⟩, ⟨nb2, cu8 (padL b) ++ sp1, 5, (0, 0)⟩, ⟨nb3, cu32 s, 268, (0, 0)⟩]) (fun ⟨k, s⟩ => 64*k ≤ (padL b).length ∧ s = stN constL initL (padL b) k ∧ s.length = 8) (fun ⟨k, s⟩ => (padL b).length - k) (0, initL) ⟨by omega, by rw [stN], E7⟩ (Sub.all rfl) rfl ?_)))
 rintro ⟨k, s⟩ ⟨hx1, hx2, hs⟩
 show JC _ _ _ [(2, Ptr nb1 0), (3, Slc nb2 0 ((padL b).length) cp1), (4, Ptr nb3 0), (5, I64 (64*(k:Int)))] [⟨nb1, cu8 (zr8 32), 54, (0, 0)⟩, ⟨nb2, cu8 (padL b) ++ sp1, 5, (0, 0)⟩, ⟨nb3, cu32 s, 268, (0, 0)⟩]
 refine AI (AI (AD (AA _ (AH rfl) rfl ?_)))
 refine AA _ (AH rfl) rfl ?_
 refine AA (I64 (((padL b).length:Int))) (EL AM rfl) rfl ?_
 refine AA (.bool (decide ((64*(k:Int)) < (((padL b).length:Int))))) (AR rfl rfl fun _ => CS _ _) rfl ?_
 refine AN (AE (CY (decide ((64*(k:Int)) < (((padL b).length:Int)))) rfl (fun hb1 => ?_) (fun hb1 => ?_)))
 ·
  have hp1 : (64*(k:Int)) < (((padL b).length:Int)) := of_decide_eq_true hb1
  refine BT (AE (AI (BY (C1 42 3 [(0, .agg (cu32 s).toArray), (1, Slc nb2 0 ((padL b).length) cp1), (2, I64 (64*(k:Int))), (3, I64 (64*(k:Int))), (4, I64 (64*(k:Int) + 64)), (5, Slc nb2 (64*k) 64 (cp1 - 64*k))] BV rfl (by decide +kernel) ?_))))
  have hl1 : (mid (padL b) (64*k) 64).length = 64 := E3 (by rw [(rfl : (padL b).length = _)]; omega)
  refine CQ ⟨[], [0, 1, 2, 3, 4, 5], [], [0, 1, 2, 3, 4, 5], [6]⟩ 6 rfl rfl (by decide +kernel) rfl ⟨⟨_, rfl, AC rfl (AK rfl (BH Tryd.isAgg268 D6 (FK hs) (AS 2 rfl (AL _))))⟩, A2 rfl rfl rfl, A2 rfl rfl rfl, A2 rfl rfl rfl, ⟨_, rfl, AC rfl (AR rfl rfl fun _ => DF _ _ (64*(k:Int) + 64) (by omega) (by omega))⟩, ⟨_, rfl, AC rfl (Ev_slice 5 1 (64*k) (64*k + 64) (64*k) (cp1 - 64*k) AM AW rfl (EQ (by omega)) (EQ (by omega)) (by omega) (by omega) (by omega) (by omega) (by omega) 64 (by omega))⟩, trivial⟩ rfl (AZ rfl (A3 176 [.agg (cu32 s).toArray, Slc nb2 (64*k) 64 (cp1 - 64*k)] (.agg (cu32 (comprL constL s (mid (padL b) (64*k) 64))).toArray) (AY _ Tryd.call176 rfl) (fun w1 hw1 => rcompress_c s (some ⟨nb2, (64*k), none⟩) (cp1 - 64*k) (mid (padL b) (64*k) 64) w1 hs hl1 (RdB.of hw1 (AS 1 rfl (A4 (segm_u8 (64*k) 64 (by rw [(rfl : (padL b).length = _)]; omega)))) (by simp)) (GLr.at hw1 hGr)))) ?_
  show DP _ _ _ _ _ _ _ _ [_, _, _]
  refine CQ ⟨[6], [0, 1, 2, 3, 4, 5], [0, 1, 2, 3, 4, 5], [], [7]⟩ 7 rfl rfl (by decide +kernel) rfl trivial rfl (AZ rfl (A5 2 nb3 8 (cu32 s) 268 (cu32 (comprL constL s (mid (padL b) (64*k) 64))) rfl rfl rfl D6 (FK (GA hs)) (by first | exact CD | exact D3 | exact D1 | (simp [cu8, cu32, cu64, Value.oneCell']; done)) (by simp [hs]) (BC (by simp [hs, (GA hs)])))) ?_
  show DP _ _ _ _ _ _ _ _ [_, _, ⟨nb3, cu32 (comprL constL s (mid (padL b) (64*k) 64)), 268, (0, 0)⟩]
  refine C4 ⟨[6, 7], [0, 1, 2, 3, 4, 5], [0, 1, 2, 3, 4, 5], [], []⟩ rfl rfl (by decide +kernel) rfl trivial ?_
  refine CI (F' := [(17, .agg (cu32 s).toArray), (18, Slc nb2 0 ((padL b).length) cp1), (19, I64 (64*(k:Int))), (20, I64 (64*(k:Int))), (21, I64 (64*(k:Int) + 64)), (22, Slc nb2 (64*k) 64 (cp1 - 64*k)), (23, .agg (cu32 (comprL constL s (mid (padL b) (64*k) 64))).toArray), (2, Ptr nb1 0), (3, Slc nb2 0 ((padL b).length) cp1), (4, Ptr nb3 0), (5, I64 (64*(k:Int))), (11, I64 (64*(k:Int))), (12, Slc nb2 0 ((padL b).length) cp1), (13, I64 (((padL b).length:Int))), (14, .bool (decide ((64*(k:Int)) < (((padL b).length:Int)))))]) (by kernel_rfl) ?_
  refine BO (AE (AD (AA _ (AH rfl) rfl ?_)))
  refine AA (I64 (64*(k:Int) + 64)) (AR rfl rfl fun _ => DF _ _ (64*(k:Int) + 64) (by omega) (by omega)) rfl ?_
  refine AA _ (AG rfl) rfl ?_
  refine AN (DH (EP (k + 1, comprL constL s (mid (padL b) (64*k) 64)) ⟨by omega, by rw [stN, ← hx2], (GA hs)⟩ (by first | (simp; omega) | simp | (dsimp only; omega) | omega) (Sub.all rfl) rfl))
 ·
  have hp1 : ¬ ((64*(k:Int)) < (((padL b).length:Int))) := of_decide_eq_false hb1
  refine D8 (BB (BB (CV (AE (AI (AD (A1 (BG _ (cu8 (zr8 32)) DQ (by kernel_rfl)) rfl ?_)))))))
  rintro v1 L1 ⟨nb4, hnb4, rfl, rfl⟩
  show JL _ _ _ _ ((6, Ptr nb4 0) :: _) [_, _, _, ⟨nb4, cu8 (zr8 32), 54, (0, 0)⟩]
  refine AN (AE (AI (AI (AD (AA _ (AG rfl) rfl ?_)))))
  refine AN (AE (BY (CH [true, false, true, true] ?_)))
  show JC _ _ _ _ [_, _, _]
  refine EE (ι := Nat × List UInt8) (fun ⟨i, o⟩ => [(2, Ptr nb1 0), (4, Ptr nb3 0), (6, Ptr nb4 0), (7, I64 i)]) (fun ⟨i, o⟩ => [⟨nb1, cu8 (zr8 32), 54, (0, 0)⟩, ⟨nb3, cu32 s, 268, (0, 0)⟩, ⟨nb4, cu8 o, 54, (0, 0)⟩]) (fun ⟨i, o⟩ => i ≤ 32 ∧ o = routN s i ∧ o.length = 32) (fun ⟨i, o⟩ => 32 - i) (0, zr8 32) ⟨by omega, by rw [routN], AP 32⟩ (Sub.all rfl) rfl ?_
  rintro ⟨i, o⟩ ⟨hz1, hz2, ho⟩
  show JC _ _ _ [(2, Ptr nb1 0), (4, Ptr nb3 0), (6, Ptr nb4 0), (7, I64 i)] [⟨nb1, cu8 (zr8 32), 54, (0, 0)⟩, ⟨nb3, cu32 s, 268, (0, 0)⟩, ⟨nb4, cu8 o, 54, (0, 0)⟩]
  refine AI (AI (AD (AA _ (AH rfl) rfl ?_)))
  refine AA (.bool (decide (((i:Int)) < (32:Int)))) (AR rfl rfl fun _ => CS _ _) rfl ?_
  refine AN (AE (CY (decide (((i:Int)) < (32:Int))) rfl (fun hb2 => ?_) (fun hb2 => ?_)))
  ·
   have hp2 : ((i:Int)) < (32:Int) := of_decide_eq_true hb2
   refine BT (AE (AI (BY (AD (AA _ (AH rfl) rfl ?_)))))
   refine AA _ (AH rfl) rfl ?_
   refine AA (I64 ((i / 4:Int))) (AR rfl rfl fun _ => F3 _ _ ((i / 4:Int)) (by omega) (by omega) (by omega)) rfl ?_
   refine AA (Ptr nb3 (i / 4)) (BR 8 267 1 (i / 4) BX BD rfl rfl (by omega) (by omega) (by omega)) rfl ?_
   refine AA (U32 (g32 s (i / 4))) (AK rfl (AV BM (AS 1 rfl (Seg.get (DI (i := (i / 4)) (by rw [hs]; omega)))))) rfl ?_
   refine AA _ (AH rfl) rfl ?_
   refine AA (I64 ((i % 4:Int))) (AR rfl rfl fun _ => bin_rem_i _ _ ((i % 4:Int)) (by omega) (by omega) (by omega)) rfl ?_
   refine AA (I64 (8*(i % 4:Int))) (AR rfl rfl fun _ => E8 _ _ (8*(i % 4:Int)) (by omega) (by omega)) rfl ?_
   refine AA (I64 (-8*(i % 4:Int) + 24)) (AR rfl rfl fun _ => DD _ _ (-8*(i % 4:Int) + 24) (by omega) (by omega)) rfl ?_
   refine AA (U64 (UInt64.ofNat (24 - 8*(i % 4)))) (DW _ _ rfl fun _ => EN (by rw [CG]; rfl) DS (24 - 8*(i % 4)) _ (by omega)) rfl ?_
   refine AA (U32 ((g32 s (i / 4)) >>> UInt32.ofNat (24 - 8*(i % 4)))) (AR rfl rfl fun _ => EO (g32 s (i / 4)) _ _ (24 - 8*(i % 4)) (by omega) (ofN_i (by omega))) rfl ?_
   refine AA (U8 (((g32 s (i / 4)) >>> UInt32.ofNat (24 - 8*(i % 4))).toUInt8)) (DW _ _ rfl fun _ => conv_u32_u8 (by rw [DR]; rfl) B6 _) rfl ?_
   refine AA (Ptr nb4 i) (BR 32 5 1 i B9 AW rfl rfl (by omega) (by omega) (by omega)) rfl ?_
   have hl2 : (o.set i (((g32 s (i / 4)) >>> UInt32.ofNat (24 - 8*(i % 4))).toUInt8)).length = 32 := by first | (rw [List.length_set]; exact ho) | simp [ho]
   refine A7 (DT 2 nb4 i 1 (cu8 o) 54 (U8 (((g32 s (i / 4)) >>> UInt32.ofNat (24 - 8*(i % 4))).toUInt8)) ([U8 (((g32 s (i / 4)) >>> UInt32.ofNat (24 - 8*(i % 4))).toUInt8)]) (cu8 (o.set i (((g32 s (i / 4)) >>> UInt32.ofNat (24 - 8*(i % 4))).toUInt8))) rfl rfl rfl rfl AW rfl (by simp [Value.oneCell']) (by simp [ho]; try omega) (lay8 _ _ _ (by rw [ho]; omega))) rfl ?_
   show JL _ _ _ _ _ [_, _, ⟨nb4, cu8 (o.set i (((g32 s (i / 4)) >>> UInt32.ofNat (24 - 8*(i % 4))).toUInt8)), 54, (0, 0)⟩]
   refine AN (BO (AE (AD (AA _ (AH rfl) rfl ?_))))
   refine AA (I64 ((i:Int) + 1)) (AR rfl rfl fun _ => DF _ _ ((i:Int) + 1) (by omega) (by omega)) rfl ?_
   refine AA _ (AG rfl) rfl ?_
   refine AN (DH (EP (i + 1, o.set i (((g32 s (i / 4)) >>> UInt32.ofNat (24 - 8*(i % 4))).toUInt8)) ⟨by omega, by rw [routN, byteAt, ← hz2], hl2⟩ (by first | (simp; omega) | simp | (dsimp only; omega) | omega) (Sub.all rfl) rfl))
  ·
   have hp2 : ¬ (((i:Int)) < (32:Int)) := of_decide_eq_false hb2
   refine D8 (BB (BB (CV (AE (AI (AD (AA (.agg (cu8 o).toArray) (AK rfl (BH DE B1 (CM ho) (AS 2 rfl (AL _)))) rfl ?_)))))))
   refine A7 (A5 0 nb1 32 (cu8 (zr8 32)) 54 (cu8 o) rfl rfl rfl B1 (CM ho) (by first | exact CD | exact D3 | exact D1 | (simp [cu8, cu32, cu64, Value.oneCell']; done)) (by simp [(AP 32)]) (BC (by simp [(AP 32), ho]))) rfl ?_
   show JL _ _ _ _ _ [⟨nb1, cu8 o, 54, (0, 0)⟩, _, _]
   refine AN (AE (BP (BQ (.agg (cu8 o).toArray) (res1 Tryd.results148 (DU rfl (BH DE B1 (CM ho) (AS 0 rfl (AL _))))) fun w1 hw1 => ?_)))
   have e1 : i = 32 := by omega
   have e2 : k = (padL b).length / 64 := by omega
   subst e1
   refine ⟨_, [], rfl, ⟨?_, rfl⟩, hw1.sub (by simp) (by simp)⟩
   rw [sumG, ← routN_hash, hz2, hx2, e2]
end Go.Proofs.YtkdpdgpphpngeaaDoor
namespace Go.Proofs.YtkdpdgpphpngeaaDoor
open Go Go.Sx
attribute [local irreducible] mid zr8 zr32 numK rnK valK
theorem doneO_c (wb e gb n cap0 : Nat) (o : List UInt8) (w : World) (hw : RdA w wb 0 [errV 50 e, Slc gb 0 n cap0]) (he : e = 0) (ho : o.length = n) (hn : n ≤ 2000000000) (hr : RdB w [] (some ⟨gb, 0, none⟩) o) : Calls Tryd.prog 83 #[Ptr wb 0] w (Post w [] (fun v L => ∃ g sp cap, v = .tuple #[Slc g 0 n cap, .nilIface] ∧ L = [⟨g, cu8 o ++ sp, 5, (0, 0)⟩] ∧ sp.length = cap - n ∧ n ≤ cap ∧ cap ≤ maxLen)) := by
 refine enter w [] 25 [] [Ptr wb 0] Tryd.func83 rfl rfl (by simp) (BZ (by simp) (by simp) (by simp)) ?_
 show JC _ _ _ [(0, Ptr wb 0)] _
 refine AI (AD (AA _ (AG rfl) rfl ?_))
 refine AA _ (AG rfl) rfl ?_
 refine AN (AE (AI (BY (AI (AD (AA _ (AH rfl) rfl ?_))))))
 refine AA (.bool false) (C2 _ _ _ rfl rfl (fun _ => FM ..) fun _ => FQ Tryd.underlying145) rfl ?_
 refine AA _ (AG rfl) rfl ?_
 refine AN (AE (CK _ rfl rfl ?_))
 refine AI (AD (AA _ (AH rfl) rfl ?_))
 refine AA _ (CZ rfl) rfl ?_
 refine AA (Ptr wb 0) (AB 0 147 1 CU rfl Tryd.sizeOf147 rfl rfl) rfl ?_
 refine AA (Ptr wb 0) (AB 0 45 1 ES rfl Tryd.sizeOf45 rfl rfl) rfl ?_
 refine AA (errV 50 e) (AK rfl (AV Tryd.isAgg45 (C8 (hw.mem (by simp)) (Seg.head) (by omega)))) rfl ?_
 refine AA (.bool (!(decide (e = 0)))) (C2 _ _ _ rfl rfl (fun _ => CJ ..) fun _ => EF A6 _ _) rfl ?_
 refine AA _ (AG rfl) rfl ?_
 refine AN (AE (CK _ rfl (by rw [show (decide (e = 0)) = true from (decide_eq_true he)] <;> rfl) ?_))
 refine BT (BO (AE (AI (AD (AA _ (AH rfl) rfl ?_)))))
 refine AA _ (CZ rfl) rfl ?_
 refine AA (Ptr wb 1) (AB 1 43 1 CU rfl B7 rfl rfl) rfl ?_
 refine AA (.slice (some ⟨gb, 0, none⟩) n cap0) (AK rfl (AV D0 (C8 (hw.mem (by simp)) (AJ (Seg.head)) (by omega)))) rfl ?_
 refine A1 (BI 108 [.slice (some ⟨gb, 0, none⟩) n cap0] _ (AY _ Tryd.call108 rfl) (fun w1 hw1 => sclone_c (some ⟨gb, 0, none⟩) n cap0 o w1 rfl ho (by omega) (hr.at (M' := []) hw1 (by simp)))) rfl ?_
 rintro v1 L1 ⟨_, ⟨nb1, sp1, cp1, rfl, rfl, hc1, hc2, hc3⟩, rfl⟩
 show JL _ _ _ _ ((24, Slc nb1 0 n cp1) :: _) [⟨nb1, cu8 o ++ sp1, 5, (0, 0)⟩]
 refine AA _ (AG rfl) rfl ?_
 refine AA _ (AG rfl) rfl ?_
 refine AN (AE (BP (BQ (.tuple #[Slc nb1 0 n cp1, .nilIface]) (res2 Tryd.results83 (B2 rfl) (B2 rfl)) fun w1 hw1 => ?_)))
 exact ⟨_, _, rfl, ⟨nb1, sp1, cp1, rfl, rfl, hc1, hc2, hc3⟩, hw1.sub (by simp) (by simp)⟩
end Go.Proofs.YtkdpdgpphpngeaaDoor
namespace Go.Sx
open Go Go.RowKit
open Go.ChangeShapes Go.WideShapes
section
variable {H : Type} {enc : TypeId × Value → H} {P : Program} {w : World} {base : Nat} {spare : Nat → Bool} {held : Bool} {sz : Bool}
def TD (enc : TypeId × Value → H) (P : Program) (w : World) (base : Nat) (spare : Nat → Bool) (held sz : Bool) (t : TypeId) (cs : List Value) : Prop :=
 ∃ fuel d ps, DataW.trod enc P w base spare held fuel t cs = some (d, ps) ∧ (sz = true → (d.weights P t).all (· ≤ reachBytes) = true)
theorem TD.of {t : TypeId} {v : Value} {d : DataW H} {ps : List MemPlace} (h : DataW.Trod enc P w base spare held t v d ps) (hw : sz = true → (d.weights P t).all (· ≤ reachBytes) = true) : TD enc P w base spare held sz t v.cells.toList := by
 obtain ⟨fuel, hf⟩ := h
 exact ⟨fuel, d, ps, hf, hw⟩
theorem TD.ofN {t : TypeId} {v : Value} {d : DataW H} {ps : List MemPlace} (h : DataW.Trod enc P w base spare held t v d ps) : TD enc P w base spare held false t v.cells.toList := TD.of h (fun h => by cases h)
theorem wEach_get {p : Nat → Bool} : ∀ (ts : List TypeId) (ds : List (DataW H)), (DataW.weightsEach P ts ds).all p = true → ∀ (i : Nat) (t : TypeId) (d : DataW H), ts[i]? = some t → ds[i]? = some d → (d.weights P t).all p = true
 | [], _, _, i, t, d, h, _ => by simp at h
 | t0 :: ts, [], _, i, t, d, _, h => by simp at h
 | t0 :: ts, d0 :: ds, h, i, t, d, ht, hd => by
  rw [DataW.weightsEach, List.all_append, Bool.and_eq_true] at h
  cases i with
  | zero => simp at ht hd; subst ht; subst hd; exact h.1
  | succ i => exact wEach_get ts ds h.2 i t d (by simpa using ht) (by simpa using hd)
theorem wAll_get {p : Nat → Bool} {e : TypeId} : ∀ (ds : List (DataW H)), (DataW.weightsAll P e ds).all p = true → ∀ (i : Nat) (d : DataW H), ds[i]? = some d → (d.weights P e).all p = true
 | [], _, i, d, h => by simp at h
 | d0 :: ds, h, i, d, hd => by
  rw [DataW.weightsAll, List.all_append, Bool.and_eq_true] at h
  cases i with
  | zero => simp at hd; subst hd; exact h.1
  | succ i => exact wAll_get ds h.2 i d (by simpa using hd)
variable {t : TypeId} {cs : List Value}
theorem TD.slen {fs : Array Field} (ht : P.underlying t = some (.struct fs)) (h : TD enc P w base spare held sz t cs) : cs.length = P.cellsOf t := by
 obtain ⟨fuel, d, ps, h, hw⟩ := h
 obtain ⟨xs, n, _, hx, hl, hlen, hf⟩ := DataW.trod_struct ht h
 exact hl
theorem TD.alen {n e : Nat} (ht : P.underlying t = some (.array n e)) (h : TD enc P w base spare held sz t cs) : cs.length = P.cellsOf t := by
 obtain ⟨fuel, d, ps, h, hw⟩ := h
 obtain ⟨xs, m, _, hx, hl, hlen, hf⟩ := DataW.trod_array ht h
 exact hl
theorem GG {fs : Array Field} (i o ft s : Nat) (ht : P.underlying t = some (.struct fs)) (hi : (fs[i]?).map (fun f => (f.offset, f.type)) = some (o, ft)) (hs : P.cellsOf ft = s) (h : TD enc P w base spare held sz t cs) :
  TD enc P w base spare held sz ft ((cs.drop o).take s) := by
 obtain ⟨fuel, d, ps, h, hw⟩ := h
 obtain ⟨xs, n, _, hx, hl, hlen, hf⟩ := DataW.trod_struct ht h
 obtain ⟨f, hfi, hfo⟩ := Option.map_eq_some_iff.1 hi
 simp only [Prod.mk.injEq] at hfo
 obtain ⟨rfl, rfl⟩ := hfo
 subst hs
 have hlt : i < xs.length := by rw [hlen]; exact (Array.getElem?_eq_some_iff.1 hfi).1
 have hk := hf i f hfi
 rw [List.getElem?_eq_getElem hlt] at hk
 refine ⟨n, _, _, hk, fun hz => ?_⟩
 have hw := hw hz
 simp only [Prod.mk.injEq] at hx
 rw [hx.1, DataW.weights, ht] at hw
 exact wEach_get _ _ hw i f.type _ (by simp [hfi]) (by simp [hlt])
theorem TD.elem {n e : Nat} (i o s : Nat) (ht : P.underlying t = some (.array n e)) (hi : i < n) (hs : P.cellsOf e = s) (ho : o = i * s) (h : TD enc P w base spare held sz t cs) :
  TD enc P w base spare held sz e ((cs.drop o).take s) := by
 obtain ⟨fuel, d, ps, h, hw⟩ := h
 obtain ⟨xs, m, _, hx, hl, hlen, hf⟩ := DataW.trod_array ht h
 subst ho; subst hs
 have hlt : i < xs.length := by rw [hlen]; exact hi
 have hk := hf i hi
 rw [List.getElem?_eq_getElem hlt] at hk
 refine ⟨m, _, _, hk, fun hz => ?_⟩
 have hw := hw hz
 simp only [Prod.mk.injEq] at hx
 rw [hx.1, DataW.weights, ht] at hw
 exact wAll_get _ hw i _ (by simp [hlt])
theorem TD.u8 (ht : P.underlying t = some (.int .u8)) (h : TD enc P w base spare held sz t cs) : ∃ a : UInt8, cs = [U8 a] := by
 obtain ⟨fuel, d, ps, h, hw⟩ := h
 obtain ⟨n, rfl, _, hn⟩ := DataW.trod_int ht h
 obtain ⟨u, rfl⟩ := wf_u8 hn
 exact ⟨u, rfl⟩
theorem TD.u32 (ht : P.underlying t = some (.int .u32)) (h : TD enc P w base spare held sz t cs) : ∃ a : UInt32, cs = [U32 a] := by
 obtain ⟨fuel, d, ps, h, hw⟩ := h
 obtain ⟨n, rfl, _, hn⟩ := DataW.trod_int ht h
 obtain ⟨u, rfl⟩ := wf_u32 hn
 exact ⟨u, rfl⟩
theorem TD.u64 (ht : P.underlying t = some (.int .u64)) (h : TD enc P w base spare held sz t cs) : ∃ a : UInt64, cs = [U64 a] := by
 obtain ⟨fuel, d, ps, h, hw⟩ := h
 obtain ⟨n, rfl, _, hn⟩ := DataW.trod_int ht h
 obtain ⟨u, rfl⟩ := wf_u64 hn
 exact ⟨u, rfl⟩
theorem TD.i64 (ht : P.underlying t = some (.int .i64)) (h : TD enc P w base spare held sz t cs) : ∃ a : Int, cs = [I64 a] ∧ (-9223372036854775808 ≤ a ∧ a ≤ 9223372036854775807) := by
 obtain ⟨fuel, d, ps, h, hw⟩ := h
 obtain ⟨n, rfl, _, hn⟩ := DataW.trod_int ht h
 exact ⟨n, rfl, bounds_i64 hn⟩
theorem TD.bool (ht : P.underlying t = some .bool) (h : TD enc P w base spare held sz t cs) : ∃ a : Bool, cs = [.bool a] := by
 obtain ⟨fuel, d, ps, h, hw⟩ := h
 obtain ⟨b, rfl, _⟩ := DataW.trod_bool ht h
 exact ⟨b, rfl⟩
theorem TD.arr8 {n e : Nat} (ht : P.underlying t = some (.array n e)) (he : P.underlying e = some (.int .u8)) (hc : P.cellsOf e = 1) (hT : P.cellsOf t = n) (h : TD enc P w base spare held sz t cs) : ∃ l : List UInt8, cs = cu8 l ∧ l.length = n := by
 have hl := TD.alen ht h
 obtain ⟨l, rfl⟩ := all_u8 cs (fun i hi => by
  obtain ⟨u, hu⟩ := TD.u8 he (TD.elem i i 1 ht (by omega) hc (by omega) h)
  refine ⟨u, ?_⟩
  have h0 : ((cs.drop i).take 1)[0]? = some (U8 u) := by rw [hu]; rfl
  rw [List.getElem?_take, if_pos (by omega), List.getElem?_drop] at h0
  simpa using h0)
 exact ⟨l, rfl, by rw [← hT, ← hl]; simp⟩
def RdV (w : World) (ao : Option Addr) (vs : List Value) : Prop := vs = [] ∨ ∃ b off, ao = some ⟨b, off, none⟩ ∧ RdA w b off vs
theorem flat_get {α : Type} (f : α → List Value) (s : Nat) (hf : ∀ a, (f a).length = s) : ∀ (asL : List α) (j : Nat) (v : Value), (asL.flatMap f)[j]? = some v → ∃ (i k : Nat) (a : α), asL[i]? = some a ∧ j = i * s + k ∧ k < s ∧ (f a)[k]? = some v
  | [], j, v, h => by simp at h
  | a :: asL, j, v, h => by
    rw [List.flatMap_cons] at h
    by_cases hj : j < s
    · rw [List.getElem?_append_left (by rw [hf]; exact hj)] at h
      exact ⟨0, j, a, rfl, by omega, hj, h⟩
    · rw [List.getElem?_append_right (by rw [hf]; omega), hf] at h
      obtain ⟨i, k, x, h1, h2, h3, h4⟩ := flat_get f s hf asL (j - s) v h
      exact ⟨i + 1, k, x, by simpa using h1, by rw [Nat.succ_mul]; omega, h3, h4⟩
theorem rows_choose {α : Type} {f : α → List Value} {G : α → Prop} : ∀ (n : Nat) (R : Nat → List Value → Prop), (∀ i, i < n → ∃ a, R i (f a) ∧ G a) → ∃ asL : List α, asL.length = n ∧ (∀ a ∈ asL, G a) ∧ ∀ i a, asL[i]? = some a → R i (f a)
 | 0, R, _ => ⟨[], rfl, by simp, by simp⟩
 | n + 1, R, h => by
  obtain ⟨asL, h1, h2, h3⟩ := rows_choose n (fun i => R (i + 1)) (fun i hi => h (i + 1) (by omega))
  obtain ⟨a, h4, h5⟩ := h 0 (by omega)
  refine ⟨a :: asL, by simp [h1], by simpa using ⟨h5, h2⟩, fun i x hx => ?_⟩
  cases i with
  | zero => simp at hx; subst hx; exact h4
  | succ i => exact h3 i x (by simpa using hx)
theorem addr_add2 (a : Addr) (i j : Nat) : (a.add i).add j = a.add (i + j) := by
 unfold Addr.add
 by_cases hi : i = 0 <;> by_cases hj : j = 0 <;> simp [hi, hj, Nat.add_assoc]
theorem TD.rows {α : Type} (f : α → List Value) (G : α → Prop) {e s b : Nat} (ht : P.underlying t = some (.slice e)) (hs : P.cellsOf e = s) (hs0 : 0 < s) (hb : P.bytesOf e = b) (hb0 : 0 < b) (hf : ∀ a, (f a).length = s)
    (hop : ∀ cs', TD enc P w base spare held sz e cs' → ∃ a, cs' = f a ∧ G a) (h : TD enc P w base spare held sz t cs) :
    ∃ (ao : Option Addr) (n c : Nat) (asL : List α), cs = [.slice ao n c] ∧ asL.length = n ∧ (∀ a ∈ asL, G a) ∧ (ao = none → c = 0) ∧ (n ≤ c ∧ c ≤ maxLen) ∧ RdV w ao (asL.flatMap f) ∧ (sz = true → n ≤ 140737488351232) := by
  obtain ⟨fuel, d, ps, h, hw⟩ := h
  rcases DataW.trod_slice ht h with ⟨rfl, _⟩ | ⟨a, len, cap, elems, rest, k, _, rfl, hx, _, hl, hm, hlen, hel, _⟩
  · exact ⟨none, 0, 0, [], rfl, rfl, by simp, fun _ => rfl, ⟨Nat.le_refl _, by unfold maxLen; omega⟩, .inl rfl, fun _ => by omega⟩
  simp only [Prod.mk.injEq] at hx
  obtain ⟨asL, h1, h2, h3⟩ := rows_choose (f := f) (G := G) len (fun i cs' => w.cells? base (a.add (i * s)) s = some cs') (fun i hi => by
    have hk := hel i hi
    rw [List.getElem?_eq_getElem (by omega), hs] at hk
    obtain ⟨cs', h1, h2⟩ := Option.bind_eq_some_iff.1 hk
    obtain ⟨x, rfl, hG⟩ := hop cs' ⟨k, _, _, h2, fun hz => by
      have hw := hw hz
      rw [hx.1, DataW.weights, ht] at hw
      simp only [List.all_cons, Bool.and_eq_true, List.all_append] at hw
      exact wAll_get _ hw.2.1 i _ (by simp [show i < elems.length by omega])⟩
    exact ⟨x, h1, hG⟩)
  have cell : ∀ j v, (asL.flatMap f)[j]? = some v → w.cell? (a.add j) = some v := fun j v hj => by
    obtain ⟨i, q, x, hi, rfl, hq, hv⟩ := flat_get f s hf asL j v hj
    have hc := h3 i x hi
    obtain ⟨_, _, hc⟩ := World.cells?_some hc
    have := hc q hq
    rw [hv] at this
    rw [← this]
    rw [addr_add2]
  refine ⟨some a, len, cap, asL, rfl, h1, h2, (fun h => by cases h), ⟨hl, hm⟩, ?_, fun hz => ?_⟩
  · by_cases h0 : asL.flatMap f = []
    · exact .inl h0
    · obtain ⟨v, hv⟩ : ∃ v, (asL.flatMap f)[0]? = some v := by
        cases hq : asL.flatMap f with
        | nil => exact absurd hq h0
        | cons x y => exact ⟨x, rfl⟩
      have c0 := cell 0 v hv
      have hadd0 : a.add 0 = a := by simp [Addr.add]
      rw [hadd0] at c0
      have ha := addr_of_cell c0
      exact .inr ⟨a.block, a.off, by rw [← ha], lt_of_cell (ha ▸ c0), fun j v hj => cell_off ha (cell j v hj)⟩
  · have hw := hw hz
    rw [hx.1, DataW.weights, ht] at hw
    simp only [List.all_cons, Bool.and_eq_true, decide_eq_true_eq, hb, List.length_map, hlen] at hw
    have := hw.1
    unfold reachBytes at this
    have h5 : len * 1 ≤ (len + rest.length) * b := Nat.mul_le_mul (by omega) hb0
    omega
theorem cat0 {a : List Value} {s : Nat} (h : (cs.drop 0).take s = a) : cs.take s = a := h
theorem cat_step {a b : List Value} {o s o' : Nat} (h : cs.take o = a) (h1 : (cs.drop o).take s = b) (ho : o' = o + s) : cs.take o' = a ++ b := by
 subst ho; rw [List.take_add, h, h1]
theorem cat_end {a : List Value} {o : Nat} (h : cs.take o = a) (hl : cs.length = o) : cs = a := by
 rw [← h, ← hl, List.take_length]
theorem agg_of {v : Value} {cs : List Value} {r : Reach} {b0 : Nat} {fs : Array Field} (ht : P.underlying t = some (.struct fs)) (hval : Value.okWide P w r b0 t v) (h : v.cells.toList = cs) : v = .agg cs.toArray := by
 simp only [Value.okWide, ht] at hval
 obtain ⟨xs, rfl, _⟩ := hval
 have : (Value.agg xs).cells = xs := rfl
 rw [this] at h
 rw [← h]
end
end Go.Sx
namespace Go.Proofs.YtkdpdgpphpngeaaDoor
open Go Go.Sx Go.RowKit
instance (s : Int) : Decidable (Szd s) := by unfold Szd; infer_instance
def advA (ao : Option Addr) (c s : Nat) : Option Addr := if c = s then ao else ao.map (·.add (s * 1))
theorem RdB.adv {w : World} {M : List Nat} {ao : Option Addr} {z : List UInt8} {c : Nat} (h : RdB w M ao z) (s : Nat) (hs : s ≤ z.length) (hc : z.length ≤ c) : RdB w M (advA ao c s) (z.drop s) := by
 have := RdB.slice h s z.length (Nat.le_refl _) hc
 rwa [List.take_of_length_le (by simp)] at this
theorem RdB.pre {w : World} {M : List Nat} {ao : Option Addr} {z : List UInt8} (h : RdB w M ao z) (s : Nat) : RdB w M ao (mid z 0 s) := by
  rcases h with rfl | ⟨b, off, h1, h2, h3, h4⟩
  · exact .inl (by simp [mid])
  · refine .inr ⟨b, off, h1, h2, h3, fun j v hj => h4 j v ?_⟩
    simp only [mid, List.drop_zero, cu8, List.map_take] at hj
    have hlt := (List.getElem?_eq_some_iff.1 hj).1
    rw [List.getElem?_take, if_pos (by simp at hlt; omega)] at hj
    exact hj
def Adv (ao : Option Addr) (z : List UInt8) (c : Nat) (ao' : Option Addr) (z' : List UInt8) (c' : Nat) : Prop :=
 (∀ w M, RdB w M ao z → RdB w M ao' z') ∧ z'.length ≤ c' ∧ c' ≤ maxLen ∧ z'.length ≤ z.length
theorem Adv.same {ao : Option Addr} {z : List UInt8} {c : Nat} (h : z.length ≤ c) (hm : c ≤ maxLen) : Adv ao z c ao z c := ⟨fun _ _ h => h, h, hm, Nat.le_refl _⟩
theorem Adv.drop {ao : Option Addr} {z : List UInt8} {c : Nat} (s : Nat) (hs : s ≤ z.length) (h : z.length ≤ c) (hm : c ≤ maxLen) : Adv ao z c (advA ao c s) (z.drop s) (c - s) :=
 ⟨fun _ _ hr => RdB.adv hr s hs h, by simp; omega, by omega, by simp⟩
theorem Adv.trans {ao ao' ao'' : Option Addr} {z z' z'' : List UInt8} {c c' c'' : Nat} (h : Adv ao z c ao' z' c') (h' : Adv ao' z' c' ao'' z'' c'') : Adv ao z c ao'' z'' c'' :=
 ⟨fun w M hr => h'.1 w M (h.1 w M hr), h'.2.1, h'.2.2.1, Nat.le_trans h'.2.2.2 h.2.2.2⟩
def TkOk (z : List UInt8) (e : Nat) (s : Int) : Prop := e = 0 ∧ 0 ≤ s ∧ s ≤ z.length
instance (z : List UInt8) (e : Nat) (s : Int) : Decidable (TkOk z e s) := by unfold TkOk; infer_instance
def NuOk (z : List UInt8) (e : Nat) (s : Int) : Prop := e = 0 ∧ Szd s ∧ s ≤ z.length
instance (z : List UInt8) (e : Nat) (s : Int) : Decidable (NuOk z e s) := by unfold NuOk; infer_instance
def nuZ (z : List UInt8) (e : Nat) (s : Int) : List UInt8 := if NuOk z e s then z.drop s.toNat else z
def nuV (z : List UInt8) (e : Nat) (s : Int) : UInt64 := if NuOk z e s then valK z s.toNat else 0
def okE (e : Nat) (ok : Bool) : Nat := if ok then 0 else erN e 2
def fdN (z : List UInt8) : Nat := 256 * (g8 z 0).toNat + (g8 z 1).toNat
def FdOk (z : List UInt8) (e : Nat) (s : Int) : Prop := e = 0 ∧ 2 ≤ z.length ∧ (fdN z : Int) ≤ s ∧ fdN z + 2 ≤ z.length
instance (z : List UInt8) (e : Nat) (s : Int) : Decidable (FdOk z e s) := by unfold FdOk; infer_instance
def HsOk (z : List UInt8) (e : Nat) : Prop := e = 0 ∧ 32 ≤ z.length
instance (z : List UInt8) (e : Nat) : Decidable (HsOk z e) := by unfold HsOk; infer_instance
def FgOk (z : List UInt8) (e : Nat) : Prop := e = 0 ∧ 1 ≤ z.length ∧ g8 z 0 ≤ 1
instance (z : List UInt8) (e : Nat) : Decidable (FgOk z e) := by unfold FgOk; infer_instance
def endN (e n : Nat) : Nat := if e = 0 then (if n = 0 then 0 else 2) else e
def leftN (e n : Nat) : Nat := if e = 0 then n else 0
theorem valK_one (z : List UInt8) : valK z 1 = (g8 z 0).toUInt64 := by
 rw [valK, valK, shl_or]; simp
structure ActV where
 kd : Int
 s : Int
 nn : UInt64
 ao : Option Addr
 p : Nat
 c : Nat
 z : List UInt8
theorem flat_at {α : Type} (f : α → List Value) (s : Nat) (hf : ∀ a, (f a).length = s) : ∀ (asL : List α) (i : Nat) (a : α), asL[i]? = some a → ∀ (j : Nat) (v : Value), (f a)[j]? = some v → (asL.flatMap f)[i * s + j]? = some v
 | [], i, a, h, _, _, _ => by simp at h
 | x :: asL, 0, a, h, j, v, hj => by
  simp at h; subst h
  rw [List.flatMap_cons, Nat.zero_mul, Nat.zero_add, List.getElem?_append_left (List.getElem?_eq_some_iff.1 hj).1]
  exact hj
 | x :: asL, i + 1, a, h, j, v, hj => by
  rw [List.flatMap_cons, List.getElem?_append_right (by rw [hf, Nat.succ_mul]; omega), hf, show (i + 1) * s + j - s = i * s + j by rw [Nat.succ_mul]; omega]
  exact flat_at f s hf asL i a (by simpa using h) j v hj
theorem rows_at {α : Type} {f : α → List Value} {s : Nat} (hf : ∀ a, (f a).length = s) (hs : 0 < s) {w : World} {ao : Option Addr} {asL : List α} (h : RdV w ao (asL.flatMap f)) {i : Nat} {a : α} (ha : asL[i]? = some a) :
    ∃ b off, ao = some ⟨b, off, none⟩ ∧ RdA w b (off + i * s) (f a) := by
  have hne : asL.flatMap f ≠ [] := fun h0 => by
    have hl := hf a
    have h1 : 0 < (f a).length := by omega
    have := flat_at f s hf asL i a ha 0 ((f a)[0]) (by simp [h1])
    rw [h0] at this; simp at this
  rcases h with h | ⟨b, off, h1, h2, h3⟩
  · exact absurd h hne
  · exact ⟨b, off, h1, h2, fun j v hj => by rw [Nat.add_assoc]; exact h3 _ v (flat_at f s hf asL i a ha j v hj)⟩
section
variable {H : Type} {enc : TypeId × Value → H} {P : Program} {w : World} {base : Nat} {spare : Nat → Bool} {held : Bool} {sz : Bool}
end
theorem EG {C : Cx} {L : List Ent} {w : World} {ao : Option Addr} {vs : List Value} (hw : Hp C.w0 C.M L w) (hM : C.M = []) (h : RdV C.w0 ao vs) : RdV w ao vs := by
  rcases h with h | ⟨b, off, h1, h2⟩
  · exact .inl h
  · cases vs with
    | nil => exact .inl rfl
    | cons v vs => exact .inr ⟨b, off, h1, RdA.of hw (h2.mem (by rw [hM]; simp)) (by simp)⟩
def sumP (asL : List ActV) (i : Nat) : Nat := ((asL.take i).map ActV.p).sum
def LongP (asL : List ActV) (n : Nat) : Prop := ¬ (n ≤ 41 ∧ sumP asL n ≤ 200000)
instance (asL : List ActV) (n : Nat) : Decidable (LongP asL n) := by unfold LongP; infer_instance
end Go.Proofs.YtkdpdgpphpngeaaDoor
namespace Go.Proofs.YtkdpdgpphpngeaaDoor
open Go Go.Sx
attribute [local irreducible] mid zr8 zr32 numK rnK valK
theorem leftZ_c (rb e : Nat) (ao : Option Addr) (n c : Nat) (w : World) (hw : RdA w rb 0 [errV 50 e, .slice ao n c]) (he : e = 0) : Calls Tryd.prog 61 #[Ptr rb 0] w (Post w [] (fun v L => v = I64 (n : Int) ∧ L = [])) := by
 refine enter w [] 18 [] [Ptr rb 0] Tryd.func61 rfl rfl (by simp) (BZ (by simp) (by simp) (by simp)) ?_
 show JC _ _ _ [(0, Ptr rb 0)] _
 refine AI (AD (AA _ (AG rfl) rfl ?_))
 refine AN (AE (AI (AI (AD (AA _ (AH rfl) rfl ?_)))))
 refine AA (.bool false) (C2 _ _ _ rfl rfl (fun _ => FM ..) fun _ => FQ Tryd.underlying110) rfl ?_
 refine AA _ (AH rfl) rfl ?_
 refine A0 2 5 false _ _ rfl rfl rfl (AH rfl) rfl ?_
 refine A0 2 5 false _ _ rfl rfl rfl (CZ rfl) rfl ?_
 refine A0 2 5 false _ (Ptr rb 0) rfl rfl rfl (AB 0 147 1 D2 rfl Tryd.sizeOf147 rfl rfl) rfl ?_
 refine A0 2 5 false _ (Ptr rb 0) rfl rfl rfl (AB 0 45 1 ES rfl Tryd.sizeOf45 rfl rfl) rfl ?_
 refine A0 2 5 false _ (errV 50 e) rfl rfl rfl (AK rfl (AV Tryd.isAgg45 (C8 (hw.mem (by simp)) (Seg.head) (by omega)))) rfl ?_
 refine A0 2 5 false _ (.bool (!(decide (e = 0)))) rfl rfl rfl (C2 _ _ _ rfl rfl (fun _ => CJ ..) fun _ => EF A6 _ _) rfl ?_
 refine AA _ (BU _ rfl rfl rfl) rfl ?_
 refine AN (AE (CK _ rfl (by rw [show (decide (e = 0)) = true from (decide_eq_true he)] <;> rfl) ?_))
 refine BT (AE (AI (AD (AA _ (AH rfl) rfl ?_))))
 refine AA _ (CZ rfl) rfl ?_
 refine AA (Ptr rb 1) (AB 1 43 1 D2 rfl B7 rfl rfl) rfl ?_
 refine AA (.slice ao n c) (AK rfl (AV D0 (C8 (hw.mem (by simp)) (AJ (Seg.head)) (by omega)))) rfl ?_
 refine AA (I64 n) (EL AM rfl) rfl ?_
 refine AA _ (AG rfl) rfl ?_
 refine AN (AE (BP (BQ (I64 n) (res1 Tryd.results61 (B2 rfl)) fun w1 hw1 => ?_)))
 exact ⟨_, [], rfl, ⟨rfl, rfl⟩, hw1.sub (by simp) (by simp)⟩
theorem leftE_c (rb e : Nat) (sv : Value) (w : World) (hw : RdA w rb 0 [errV 50 e, sv]) (he : e ≠ 0) : Calls Tryd.prog 61 #[Ptr rb 0] w (Post w [] (fun v L => v = I64 0 ∧ L = [])) := by
 refine enter w [] 18 [] [Ptr rb 0] Tryd.func61 rfl rfl (by simp) (BZ (by simp) (by simp) (by simp)) ?_
 show JC _ _ _ [(0, Ptr rb 0)] _
 refine AI (AD (AA _ (AG rfl) rfl ?_))
 refine AN (AE (AI (AI (AD (AA _ (AH rfl) rfl ?_)))))
 refine AA (.bool false) (C2 _ _ _ rfl rfl (fun _ => FM ..) fun _ => FQ Tryd.underlying110) rfl ?_
 refine AA _ (AH rfl) rfl ?_
 refine A0 2 5 false _ _ rfl rfl rfl (AH rfl) rfl ?_
 refine A0 2 5 false _ _ rfl rfl rfl (CZ rfl) rfl ?_
 refine A0 2 5 false _ (Ptr rb 0) rfl rfl rfl (AB 0 147 1 D2 rfl Tryd.sizeOf147 rfl rfl) rfl ?_
 refine A0 2 5 false _ (Ptr rb 0) rfl rfl rfl (AB 0 45 1 ES rfl Tryd.sizeOf45 rfl rfl) rfl ?_
 refine A0 2 5 false _ (errV 50 e) rfl rfl rfl (AK rfl (AV Tryd.isAgg45 (C8 (hw.mem (by simp)) (Seg.head) (by omega)))) rfl ?_
 refine A0 2 5 false _ (.bool (!(decide (e = 0)))) rfl rfl rfl (C2 _ _ _ rfl rfl (fun _ => CJ ..) fun _ => EF A6 _ _) rfl ?_
 refine AA _ (BU _ rfl rfl rfl) rfl ?_
 refine AN (AE (DJ _ rfl (by rw [show (decide (e = 0)) = false from (decide_eq_false he)] <;> rfl) ?_))
 refine AI (AD (AA _ (AG rfl) rfl ?_))
 refine AN (AE (BP (BN (BQ (I64 0) (res1 Tryd.results61 (B2 rfl)) fun w1 hw1 => ?_))))
 exact ⟨_, [], rfl, ⟨rfl, rfl⟩, hw1.sub (by simp) (by simp)⟩
theorem left_w (rb e : Nat) (ao : Option Addr) (n c : Nat) (w : World) (hw : RdA w rb 0 [errV 50 e, .slice ao n c]) : Calls Tryd.prog 61 #[Ptr rb 0] w (Post w [] (fun v L => v = I64 ((leftN e n : Nat) : Int) ∧ L = [])) := by
  by_cases he : e = 0
  · rw [leftN, if_pos he]; exact leftZ_c rb e ao n c w hw he
  · rw [leftN, if_neg he]; exact leftE_c rb e _ w hw he
theorem failRd_c (rb e k : Nat) (sv : Value) (w : World) (h0 : w.heap[rb]? = some (.cells [errV 50 e, sv].toArray 204 (0, 0)))  : Calls Tryd.prog 121 #[Ptr rb 0, errV 50 k] w (Post w [rb] (fun v L => v = .tuple #[] ∧ L = [⟨rb, [errV 50 (erN e k), sv], 204, (0, 0)⟩])) := by
 refine enter w [rb] 11 [⟨rb, [errV 50 e, sv], 204, (0, 0)⟩] [Ptr rb 0, errV 50 k] Tryd.func121 rfl rfl (by simp) (BZ (by simpa using h0) (by simp) (by simp)) ?_
 show JC _ _ _ [(0, Ptr rb 0), (1, errV 50 k)] _
 refine AI (AD (AA _ (AH rfl) rfl ?_))
 refine AA (.bool true) (C2 _ _ _ rfl rfl (fun _ => FM ..) fun _ => neq_ptr_nil Tryd.underlying110) rfl ?_
 refine AN (AE (DJ _ rfl rfl ?_))
 refine AD (AA _ (AH rfl) rfl ?_)
 refine AA _ (CZ rfl) rfl ?_
 refine AA (Ptr rb 0) (AB 0 147 1 D2 rfl Tryd.sizeOf147 rfl rfl) rfl ?_
 refine AA _ (AH rfl) rfl ?_
 refine A1 (FB 144 [Ptr rb 0, errV 50 k] 0 ⟨rb, [errV 50 e, sv], 204, (0, 0)⟩ _ (fun v e' l' => v = .tuple #[] ∧ e' = ⟨rb, [errV 50 (erN e k), sv], 204, (0, 0)⟩ ∧ l' = []) (AY _ Tryd.call144 rfl) rfl (by rintro v l ⟨rfl, rfl⟩; exact ⟨_, _, rfl, rfl, rfl, rfl, rfl⟩) (fun w1 hw1 => failR_c rb e k sv w1 (hw1.ent _ (List.mem_of_getElem? (i := 0) rfl)))) rfl ?_
 rintro v1 L1 ⟨_, _, ⟨rfl, rfl, rfl⟩, rfl⟩
 show JL _ _ _ _ ((10, .tuple #[]) :: _) [⟨rb, [errV 50 (erN e k), sv], 204, (0, 0)⟩]
 refine AN (JQ_end (.tuple #[]) (res0 Tryd.results121 ) fun w1 hw1 => ?_)
 exact ⟨_, _, rfl, ⟨rfl, rfl⟩, hw1⟩
theorem FU (rb e k : Nat) (sv : Value) (w : World) (hk : k ≠ 0) (h0 : w.heap[rb]? = some (.cells [errV 50 e, sv].toArray 204 (0, 0))) : Calls Tryd.prog 121 #[Ptr rb 0, .iface 50 (I64 (k : Int))] w (Post w [rb] (fun v L => v = .tuple #[] ∧ L = [⟨rb, [errV 50 (erN e k), sv], 204, (0, 0)⟩])) := by
 have h := failRd_c rb e k sv w h0
 rw [errV_pos hk] at h
 exact h
theorem rawRB0_c (rb e : Nat) (ao : Option Addr) (n c : Nat) (s : Int) (w : World) (h0 : w.heap[rb]? = some (.cells [errV 50 e, .slice ao n c].toArray 204 (0, 0))) (he : e = 0) (hs : s < 0 ∨ (n:Int) < s) : Calls Tryd.prog 127 #[Ptr rb 0, I64 (s)] w (Post w [rb] (fun v L => v = .slice none 0 0 ∧ L = [⟨rb, [errV 50 (erN e 2), .slice ao n c], 204, (0, 0)⟩])) := by
 refine enter w [rb] 36 [⟨rb, [errV 50 e, .slice ao n c], 204, (0, 0)⟩] [Ptr rb 0, I64 (s)] Tryd.func127 rfl rfl (by simp) (BZ (by simpa using h0) (by simp) (by simp)) ?_
 show JC _ _ _ [(0, Ptr rb 0), (1, I64 (s))] _
 refine AI (AD (AA _ (AG rfl) rfl ?_))
 refine AN (AE (AI (AI (AD (AA _ (AH rfl) rfl ?_)))))
 refine AA (.bool (decide ((s) < (0:Int)))) (AR rfl rfl fun _ => CS _ _) rfl ?_
 refine AA _ (AH rfl) rfl ?_
 rcases Bool.eq_false_or_eq_true (decide ((s) < (0:Int))) with hb1 | hb1
 ·
  have hp1 : (s) < (0:Int) := of_decide_eq_true hb1
  refine AQ 2 8 false _ rfl rfl hb1 rfl ?_
  refine AQ 2 8 false _ rfl rfl hb1 rfl ?_
  refine AQ 2 8 false _ rfl rfl hb1 rfl ?_
  refine AQ 2 8 false _ rfl rfl hb1 rfl ?_
  refine AA _ (CN _ rfl hb1 rfl) rfl ?_
  refine AN (AE (DJ _ rfl rfl ?_))
  refine AI (AD (AA _ (AH rfl) rfl ?_))
  refine AA (.iface 50 (I64 2)) (FF DA rfl rfl) rfl ?_
  refine A1 (FB 121 [Ptr rb 0, .iface 50 (I64 2)] 0 ⟨rb, [errV 50 e, .slice ao n c], 204, (0, 0)⟩ _ (fun v e' l' => v = .tuple #[] ∧ e' = ⟨rb, [errV 50 (erN e 2), .slice ao n c], 204, (0, 0)⟩ ∧ l' = []) (AY _ Tryd.call121 rfl) rfl (by rintro v l ⟨rfl, rfl⟩; exact ⟨_, _, rfl, rfl, rfl, rfl, rfl⟩) (fun w1 hw1 => FU rb e 2 (.slice ao n c) w1 (by decide) (hw1.ent _ (List.mem_of_getElem? (i := 0) rfl)))) rfl ?_
  rintro v1 L1 ⟨_, _, ⟨rfl, rfl, rfl⟩, rfl⟩
  show JL _ _ _ _ ((16, .tuple #[]) :: _) [⟨rb, [errV 50 (erN e 2), .slice ao n c], 204, (0, 0)⟩]
  refine AN (AE (AI (AD (AA _ (AG rfl) rfl ?_))))
  refine AN (AE (BP (BN (BQ (.slice none 0 0) (res1 Tryd.results127 (B2 rfl)) fun w1 hw1 => ?_))))
  exact ⟨_, _, rfl, ⟨rfl, rfl⟩, hw1⟩
 ·
  have hp1 : ¬ ((s) < (0:Int)) := of_decide_eq_false hb1
  refine A0 2 8 false _ _ rfl rfl hb1 (AH rfl) rfl ?_
  refine A0 2 8 false _ _ rfl rfl hb1 (AH rfl) rfl ?_
  refine EK 2 8 false _ rfl rfl hb1 (A3 61 [Ptr rb 0] (I64 n) (AY _ Tryd.call61 rfl) (fun w1 hw1 => leftZ_c rb e ao n c w1 (RdA.of hw1 (AS 0 rfl (AL _)) (by simp)) he)) rfl ?_
  rintro v1 L1 ⟨rfl, rfl⟩
  show JL _ _ _ _ ((11, I64 n) :: _) [_]
  refine A0 2 8 false _ (.bool (decide (((n:Int)) < (s)))) rfl rfl hb1 (AR rfl rfl fun _ => FL _ _) rfl ?_
  refine AA _ (BU _ rfl hb1 rfl) rfl ?_
  refine AN (AE (DJ _ rfl (decide_eq_true (by omega)) ?_))
  refine AI (AD (AA _ (AH rfl) rfl ?_))
  refine AA (.iface 50 (I64 2)) (FF DA rfl rfl) rfl ?_
  refine A1 (FB 121 [Ptr rb 0, .iface 50 (I64 2)] 0 ⟨rb, [errV 50 e, .slice ao n c], 204, (0, 0)⟩ _ (fun v e' l' => v = .tuple #[] ∧ e' = ⟨rb, [errV 50 (erN e 2), .slice ao n c], 204, (0, 0)⟩ ∧ l' = []) (AY _ Tryd.call121 rfl) rfl (by rintro v l ⟨rfl, rfl⟩; exact ⟨_, _, rfl, rfl, rfl, rfl, rfl⟩) (fun w1 hw1 => FU rb e 2 (.slice ao n c) w1 (by decide) (hw1.ent _ (List.mem_of_getElem? (i := 0) rfl)))) rfl ?_
  rintro v1 L1 ⟨_, _, ⟨rfl, rfl, rfl⟩, rfl⟩
  show JL _ _ _ _ ((16, .tuple #[]) :: _) [⟨rb, [errV 50 (erN e 2), .slice ao n c], 204, (0, 0)⟩]
  refine AN (AE (AI (AD (AA _ (AG rfl) rfl ?_))))
  refine AN (AE (BP (BN (BQ (.slice none 0 0) (res1 Tryd.results127 (B2 rfl)) fun w1 hw1 => ?_))))
  exact ⟨_, _, rfl, ⟨rfl, rfl⟩, hw1⟩
theorem rawRB1_c (rb e : Nat) (sv : Value) (s : Int) (w : World) (h0 : w.heap[rb]? = some (.cells [errV 50 e, sv].toArray 204 (0, 0))) (he : e ≠ 0) (hs : s ≠ 0) : Calls Tryd.prog 127 #[Ptr rb 0, I64 (s)] w (Post w [rb] (fun v L => v = .slice none 0 0 ∧ L = [⟨rb, [errV 50 (erN e 2), sv], 204, (0, 0)⟩])) := by
 refine enter w [rb] 36 [⟨rb, [errV 50 e, sv], 204, (0, 0)⟩] [Ptr rb 0, I64 (s)] Tryd.func127 rfl rfl (by simp) (BZ (by simpa using h0) (by simp) (by simp)) ?_
 show JC _ _ _ [(0, Ptr rb 0), (1, I64 (s))] _
 refine AI (AD (AA _ (AG rfl) rfl ?_))
 refine AN (AE (AI (AI (AD (AA _ (AH rfl) rfl ?_)))))
 refine AA (.bool (decide ((s) < (0:Int)))) (AR rfl rfl fun _ => CS _ _) rfl ?_
 refine AA _ (AH rfl) rfl ?_
 rcases Bool.eq_false_or_eq_true (decide ((s) < (0:Int))) with hb1 | hb1
 ·
  have hp1 : (s) < (0:Int) := of_decide_eq_true hb1
  refine AQ 2 8 false _ rfl rfl hb1 rfl ?_
  refine AQ 2 8 false _ rfl rfl hb1 rfl ?_
  refine AQ 2 8 false _ rfl rfl hb1 rfl ?_
  refine AQ 2 8 false _ rfl rfl hb1 rfl ?_
  refine AA _ (CN _ rfl hb1 rfl) rfl ?_
  refine AN (AE (DJ _ rfl rfl ?_))
  refine AI (AD (AA _ (AH rfl) rfl ?_))
  refine AA (.iface 50 (I64 2)) (FF DA rfl rfl) rfl ?_
  refine A1 (FB 121 [Ptr rb 0, .iface 50 (I64 2)] 0 ⟨rb, [errV 50 e, sv], 204, (0, 0)⟩ _ (fun v e' l' => v = .tuple #[] ∧ e' = ⟨rb, [errV 50 (erN e 2), sv], 204, (0, 0)⟩ ∧ l' = []) (AY _ Tryd.call121 rfl) rfl (by rintro v l ⟨rfl, rfl⟩; exact ⟨_, _, rfl, rfl, rfl, rfl, rfl⟩) (fun w1 hw1 => FU rb e 2 sv w1 (by decide) (hw1.ent _ (List.mem_of_getElem? (i := 0) rfl)))) rfl ?_
  rintro v1 L1 ⟨_, _, ⟨rfl, rfl, rfl⟩, rfl⟩
  show JL _ _ _ _ ((16, .tuple #[]) :: _) [⟨rb, [errV 50 (erN e 2), sv], 204, (0, 0)⟩]
  refine AN (AE (AI (AD (AA _ (AG rfl) rfl ?_))))
  refine AN (AE (BP (BN (BQ (.slice none 0 0) (res1 Tryd.results127 (B2 rfl)) fun w1 hw1 => ?_))))
  exact ⟨_, _, rfl, ⟨rfl, rfl⟩, hw1⟩
 ·
  have hp1 : ¬ ((s) < (0:Int)) := of_decide_eq_false hb1
  refine A0 2 8 false _ _ rfl rfl hb1 (AH rfl) rfl ?_
  refine A0 2 8 false _ _ rfl rfl hb1 (AH rfl) rfl ?_
  refine EK 2 8 false _ rfl rfl hb1 (A3 61 [Ptr rb 0] (I64 0) (AY _ Tryd.call61 rfl) (fun w1 hw1 => leftE_c rb e sv w1 (RdA.of hw1 (AS 0 rfl (AL _)) (by simp)) he)) rfl ?_
  rintro v1 L1 ⟨rfl, rfl⟩
  show JL _ _ _ _ ((11, I64 0) :: _) [_]
  refine A0 2 8 false _ (.bool (decide ((0:Int) < (s)))) rfl rfl hb1 (AR rfl rfl fun _ => FL _ _) rfl ?_
  refine AA _ (BU _ rfl hb1 rfl) rfl ?_
  refine AN (AE (DJ _ rfl (decide_eq_true (by omega)) ?_))
  refine AI (AD (AA _ (AH rfl) rfl ?_))
  refine AA (.iface 50 (I64 2)) (FF DA rfl rfl) rfl ?_
  refine A1 (FB 121 [Ptr rb 0, .iface 50 (I64 2)] 0 ⟨rb, [errV 50 e, sv], 204, (0, 0)⟩ _ (fun v e' l' => v = .tuple #[] ∧ e' = ⟨rb, [errV 50 (erN e 2), sv], 204, (0, 0)⟩ ∧ l' = []) (AY _ Tryd.call121 rfl) rfl (by rintro v l ⟨rfl, rfl⟩; exact ⟨_, _, rfl, rfl, rfl, rfl, rfl⟩) (fun w1 hw1 => FU rb e 2 sv w1 (by decide) (hw1.ent _ (List.mem_of_getElem? (i := 0) rfl)))) rfl ?_
  rintro v1 L1 ⟨_, _, ⟨rfl, rfl, rfl⟩, rfl⟩
  show JL _ _ _ _ ((16, .tuple #[]) :: _) [⟨rb, [errV 50 (erN e 2), sv], 204, (0, 0)⟩]
  refine AN (AE (AI (AD (AA _ (AG rfl) rfl ?_))))
  refine AN (AE (BP (BN (BQ (.slice none 0 0) (res1 Tryd.results127 (B2 rfl)) fun w1 hw1 => ?_))))
  exact ⟨_, _, rfl, ⟨rfl, rfl⟩, hw1⟩
theorem rawROk_c (rb e : Nat) (ao : Option Addr) (n c : Nat) (z : List UInt8) (s n2 c2 : Nat) (w : World) (h0 : w.heap[rb]? = some (.cells [errV 50 e, .slice ao n c].toArray 204 (0, 0))) (hz : z.length = n) (hn : n ≤ 2000000000) (hc : n ≤ c) (hcm : c ≤ maxLen) (hr : RdB w [rb] ao z) (he : e = 0) (h1 : 0 < s) (h2 : s ≤ n) (ht1 : s + n2 = n) (ht2 : s + c2 = c) : Calls Tryd.prog 127 #[Ptr rb 0, I64 s] w (Post w [rb] (fun v L => ∃ g sp cap, v = Slc g 0 s cap ∧ L = [⟨rb, [errV 50 e, .slice (advA ao c s) n2 c2], 204, (0, 0)⟩, ⟨g, cu8 (mid z 0 s) ++ sp, 5, (0, 0)⟩] ∧ sp.length = cap - s ∧ s ≤ cap ∧ cap ≤ maxLen)) := by
 have hsome : ao.isNone = false := by
  obtain ⟨_, _, ha, _⟩ := hr.pos (by omega)
  rw [ha]; rfl
 refine enter w [rb] 36 [⟨rb, [errV 50 e, .slice ao n c], 204, (0, 0)⟩] [Ptr rb 0, I64 s] Tryd.func127 rfl rfl (by simp) (BZ (by simpa using h0) (by simp) (by simp)) ?_
 show JC _ _ _ [(0, Ptr rb 0), (1, I64 s)] _
 refine AI (AD (AA _ (AG rfl) rfl ?_))
 refine AN (AE (AI (AI (AD (AA _ (AH rfl) rfl ?_)))))
 refine AA (.bool (decide (((s:Int)) < (0:Int)))) (AR rfl rfl fun _ => CS _ _) rfl ?_
 refine AA _ (AH rfl) rfl ?_
 refine A0 2 8 false _ _ rfl rfl (decide_eq_false (by omega)) (AH rfl) rfl ?_
 refine A0 2 8 false _ _ rfl rfl (decide_eq_false (by omega)) (AH rfl) rfl ?_
 refine EK 2 8 false _ rfl rfl (decide_eq_false (by omega)) (A3 61 [Ptr rb 0] (I64 n) (AY _ Tryd.call61 rfl) (fun w1 hw1 => leftZ_c rb e ao n c w1 (RdA.of hw1 (AS 0 rfl (AL _)) (by simp)) he)) rfl ?_
 rintro v1 L1 ⟨rfl, rfl⟩
 show JL _ _ _ _ ((11, I64 n) :: _) [_]
 refine A0 2 8 false _ (.bool (decide (((n:Int)) < ((s:Int))))) rfl rfl (decide_eq_false (by omega)) (AR rfl rfl fun _ => FL _ _) rfl ?_
 refine AA _ (BU _ rfl (decide_eq_false (by omega)) rfl) rfl ?_
 refine AN (AE (CK _ rfl (decide_eq_false (by omega)) ?_))
 refine BT (AE (AI (AI (AD (AA _ (AH rfl) rfl ?_)))))
 refine AA (.bool (decide (((s:Int)) = (0:Int)))) (AR rfl rfl fun _ => C9 _ _) rfl ?_
 refine AN (AE (CK _ rfl (decide_eq_false (by omega)) ?_))
 refine BT (AE (AI (AD (AA _ (AH rfl) rfl ?_))))
 refine AA _ (CZ rfl) rfl ?_
 refine AA (Ptr rb 1) (AB 1 43 1 D2 rfl B7 rfl rfl) rfl ?_
 refine AA (.slice ao n c) (AK rfl (AV D0 (AS 0 rfl (AJ (Seg.head))))) rfl ?_
 refine AA _ (AH rfl) rfl ?_
 have hl1 : (mid z 0 s).length = s := E3 (by rw [hz]; omega)
 have hr1 := RdB.pre hr s
 refine AA (.slice ao s c) (Ev_sliceHi 5 1 s AM AW rfl rfl (by omega)) rfl ?_
 refine A1 (BI 108 [.slice ao s c] _ (AY _ Tryd.call108 rfl) (fun w1 hw1 => sclone_c ao s c (mid z 0 s) w1 hsome hl1 (by omega) (hr1.at (M' := []) hw1 (by simp)))) rfl ?_
 rintro v1 L1 ⟨_, ⟨nb1, sp1, cp1, rfl, rfl, hc1, hc2, hc3⟩, rfl⟩
 show JL _ _ _ _ ((25, Slc nb1 0 s cp1) :: _) [_, ⟨nb1, cu8 (mid z 0 s) ++ sp1, 5, (0, 0)⟩]
 refine AA _ (AG rfl) rfl ?_
 refine AN (AE (AI (AD (AA _ (AH rfl) rfl ?_))))
 refine AA _ (AH rfl) rfl ?_
 refine AA _ (CZ rfl) rfl ?_
 refine AA (Ptr rb 1) (AB 1 43 1 D2 rfl B7 rfl rfl) rfl ?_
 refine AA (.slice ao n c) (AK rfl (AV D0 (AS 0 rfl (AJ (Seg.head))))) rfl ?_
 refine AA _ (AH rfl) rfl ?_
 have hl2 : (z.drop s).length = (n - s) := by rw [List.length_drop, hz] <;> omega
 have hr2 := RdB.adv (c := c) hr s (by rw [hz]; omega) (by rw [hz]; omega)
 refine AA (.slice (advA ao c s) (n - s) (c - s)) (Ev_sliceLo 5 s (n - s) (c - s) AM AW rfl rfl (by omega) (by omega) (by omega) (by omega)) rfl ?_
 refine AA _ (CZ rfl) rfl ?_
 refine AA (Ptr rb 1) (AB 1 43 1 D2 rfl B7 rfl rfl) rfl ?_
 refine A7 (DT 0 rb 1 1 ([errV 50 e, .slice ao n c]) 204 (.slice (advA ao c s) (n - s) (c - s)) ([.slice (advA ao c s) (n - s) (c - s)]) ([errV 50 e, .slice (advA ao c s) (n - s) (c - s)]) rfl rfl rfl rfl B7 rfl (by simp [Value.oneCell']) (Nat.le_of_ble_eq_true rfl) (rfl)) rfl ?_
 show JL _ _ _ _ _ [⟨rb, [errV 50 e, .slice (advA ao c s) (n - s) (c - s)], 204, (0, 0)⟩, _]
 refine AN (AE (AI (AD (AA _ (AH rfl) rfl ?_))))
 refine AA _ (AG rfl) rfl ?_
 refine AN (AE (BP (BQ (Slc nb1 0 s cp1) (res1 Tryd.results127 (B2 rfl)) fun w1 hw1 => ?_)))
 obtain rfl : n2 = (n - s) := by omega
 obtain rfl : c2 = (c - s) := by omega
 exact ⟨_, _, rfl, ⟨nb1, sp1, cp1, rfl, rfl, hc1, hc2, hc3⟩, hw1⟩
theorem numRF_c (rb e : Nat) (sv : Value) (s : Int) (w : World) (h0 : w.heap[rb]? = some (.cells [errV 50 e, sv].toArray 204 (0, 0))) (hs : ¬ Szd s) : Calls Tryd.prog 109 #[Ptr rb 0, I64 (s)] w (Post w [rb] (fun v L => v = U64 0 ∧ L = [⟨rb, [errV 50 (erN e 2), sv], 204, (0, 0)⟩])) := by
 refine enter w [rb] 29 [⟨rb, [errV 50 e, sv], 204, (0, 0)⟩] [Ptr rb 0, I64 (s)] Tryd.func109 rfl rfl (by simp) (BZ (by simpa using h0) (by simp) (by simp)) ?_
 show JC _ _ _ [(0, Ptr rb 0), (1, I64 (s))] _
 refine AI (AD (AA _ (AG rfl) rfl ?_))
 refine AN (AE (AI (AI (AD (AA _ (AH rfl) rfl ?_)))))
 refine A7 (A3 143 [I64 (s)] (.bool false) (AY _ Tryd.call143 rfl) (fun w1 _ => sizedF_c (s) w1 hs)) rfl ?_
 show JL _ _ _ _ ((9, .bool false) :: _) [_]
 refine AA (.bool (!false)) (FH rfl) rfl ?_
 refine AN (AE (DJ _ rfl rfl ?_))
 refine AI (AD (AA _ (AH rfl) rfl ?_))
 refine AA (.iface 50 (I64 2)) (FF DA rfl rfl) rfl ?_
 refine A1 (FB 121 [Ptr rb 0, .iface 50 (I64 2)] 0 ⟨rb, [errV 50 e, sv], 204, (0, 0)⟩ _ (fun v e' l' => v = .tuple #[] ∧ e' = ⟨rb, [errV 50 (erN e 2), sv], 204, (0, 0)⟩ ∧ l' = []) (AY _ Tryd.call121 rfl) rfl (by rintro v l ⟨rfl, rfl⟩; exact ⟨_, _, rfl, rfl, rfl, rfl, rfl⟩) (fun w1 hw1 => FU rb e 2 sv w1 (by decide) (hw1.ent _ (List.mem_of_getElem? (i := 0) rfl)))) rfl ?_
 rintro v1 L1 ⟨_, _, ⟨rfl, rfl, rfl⟩, rfl⟩
 show JL _ _ _ _ ((13, .tuple #[]) :: _) [⟨rb, [errV 50 (erN e 2), sv], 204, (0, 0)⟩]
 refine AN (AE (AI (AD (AA _ (AG rfl) rfl ?_))))
 refine AN (AE (BP (BN (BQ (U64 0) (res1 Tryd.results109 (B2 rfl)) fun w1 hw1 => ?_))))
 exact ⟨_, _, rfl, ⟨rfl, rfl⟩, hw1⟩
theorem numRS_c (rb e : Nat) (ao : Option Addr) (n c : Nat) (s : Int) (w : World) (h0 : w.heap[rb]? = some (.cells [errV 50 e, .slice ao n c].toArray 204 (0, 0))) (he : e = 0) (hs : Szd s) (hn : (n:Int) < s) : Calls Tryd.prog 109 #[Ptr rb 0, I64 (s)] w (Post w [rb] (fun v L => v = U64 0 ∧ L = [⟨rb, [errV 50 (erN e 2), .slice ao n c], 204, (0, 0)⟩])) := by
 refine enter w [rb] 29 [⟨rb, [errV 50 e, .slice ao n c], 204, (0, 0)⟩] [Ptr rb 0, I64 (s)] Tryd.func109 rfl rfl (by simp) (BZ (by simpa using h0) (by simp) (by simp)) ?_
 show JC _ _ _ [(0, Ptr rb 0), (1, I64 (s))] _
 refine AI (AD (AA _ (AG rfl) rfl ?_))
 refine AN (AE (AI (AI (AD (AA _ (AH rfl) rfl ?_)))))
 refine A7 (A3 143 [I64 (s)] (.bool true) (AY _ Tryd.call143 rfl) (fun w1 _ => sizedT_c (s) w1 hs)) rfl ?_
 show JL _ _ _ _ ((9, .bool true) :: _) [_]
 refine AA (.bool (!true)) (FH rfl) rfl ?_
 refine AN (AE (CK _ rfl rfl ?_))
 refine BT (AE (AI (AD (AA _ (AG rfl) rfl ?_))))
 refine AN (AE (AI (AI (AD (AA _ (AH rfl) rfl ?_)))))
 refine AA _ (AH rfl) rfl ?_
 refine A1 (FB 127 [Ptr rb 0, I64 (s)] 0 ⟨rb, [errV 50 e, .slice ao n c], 204, (0, 0)⟩ _ (fun v e' l' => v = .slice none 0 0 ∧ e' = ⟨rb, [errV 50 (erN e 2), .slice ao n c], 204, (0, 0)⟩ ∧ l' = []) (AY _ Tryd.call127 rfl) rfl (by rintro v l ⟨rfl, rfl⟩; exact ⟨_, _, rfl, rfl, rfl, rfl, rfl⟩) (fun w1 hw1 => rawRB0_c rb e ao n c (s) w1 (hw1.ent _ (List.mem_of_getElem? (i := 0) rfl)) he (.inr hn))) rfl ?_
 rintro v1 L1 ⟨_, _, ⟨rfl, rfl, rfl⟩, rfl⟩
 show JL _ _ _ _ ((16, .slice none 0 0) :: _) [⟨rb, [errV 50 (erN e 2), .slice ao n c], 204, (0, 0)⟩]
 refine AA (I64 0) (EL AM rfl) rfl ?_
 refine AA _ (AH rfl) rfl ?_
 refine AN (AE (BY (EE (ι := Unit) (fun _ => [(4, U64 0), (16, .slice none 0 0), (17, I64 0), (18, I64 0), (5, U64 0)]) (fun _ => [⟨rb, [errV 50 (erN e 2), .slice ao n c], 204, (0, 0)⟩]) (fun _ => True) (fun _ => 1) () trivial (Sub.all rfl) rfl ?_)))
 rintro _ _
 show JC _ _ _ [(4, U64 0), (16, .slice none 0 0), (17, I64 0), (18, I64 0), (5, U64 0)] [⟨rb, [errV 50 (erN e 2), .slice ao n c], 204, (0, 0)⟩]
 refine AI (AD (AA (.bool (decide ((0:Int) < (0:Int)))) (AR rfl rfl fun _ => CS _ _) rfl ?_))
 refine AN (AE (AI (CK _ rfl (by decide) ?_)))
 refine D8 (BB (BB (CV (AE (AI (AD (AA _ (AH rfl) rfl ?_)))))))
 refine AA _ (AG rfl) rfl ?_
 refine AN (AE (BP (BQ (U64 0) (res1 Tryd.results109 (B2 rfl)) fun w1 hw1 => ?_)))
 exact ⟨_, _, rfl, ⟨rfl, rfl⟩, hw1⟩
theorem numRE_c (rb e : Nat) (sv : Value) (s : Int) (w : World) (h0 : w.heap[rb]? = some (.cells [errV 50 e, sv].toArray 204 (0, 0))) (he : e ≠ 0) (hs : Szd s) : Calls Tryd.prog 109 #[Ptr rb 0, I64 (s)] w (Post w [rb] (fun v L => v = U64 0 ∧ L = [⟨rb, [errV 50 (erN e 2), sv], 204, (0, 0)⟩])) := by
 refine enter w [rb] 29 [⟨rb, [errV 50 e, sv], 204, (0, 0)⟩] [Ptr rb 0, I64 (s)] Tryd.func109 rfl rfl (by simp) (BZ (by simpa using h0) (by simp) (by simp)) ?_
 show JC _ _ _ [(0, Ptr rb 0), (1, I64 (s))] _
 refine AI (AD (AA _ (AG rfl) rfl ?_))
 refine AN (AE (AI (AI (AD (AA _ (AH rfl) rfl ?_)))))
 refine A7 (A3 143 [I64 (s)] (.bool true) (AY _ Tryd.call143 rfl) (fun w1 _ => sizedT_c (s) w1 hs)) rfl ?_
 show JL _ _ _ _ ((9, .bool true) :: _) [_]
 refine AA (.bool (!true)) (FH rfl) rfl ?_
 refine AN (AE (CK _ rfl rfl ?_))
 refine BT (AE (AI (AD (AA _ (AG rfl) rfl ?_))))
 refine AN (AE (AI (AI (AD (AA _ (AH rfl) rfl ?_)))))
 refine AA _ (AH rfl) rfl ?_
 refine A1 (FB 127 [Ptr rb 0, I64 (s)] 0 ⟨rb, [errV 50 e, sv], 204, (0, 0)⟩ _ (fun v e' l' => v = .slice none 0 0 ∧ e' = ⟨rb, [errV 50 (erN e 2), sv], 204, (0, 0)⟩ ∧ l' = []) (AY _ Tryd.call127 rfl) rfl (by rintro v l ⟨rfl, rfl⟩; exact ⟨_, _, rfl, rfl, rfl, rfl, rfl⟩) (fun w1 hw1 => rawRB1_c rb e sv (s) w1 (hw1.ent _ (List.mem_of_getElem? (i := 0) rfl)) he (by unfold Szd at hs; omega))) rfl ?_
 rintro v1 L1 ⟨_, _, ⟨rfl, rfl, rfl⟩, rfl⟩
 show JL _ _ _ _ ((16, .slice none 0 0) :: _) [⟨rb, [errV 50 (erN e 2), sv], 204, (0, 0)⟩]
 refine AA (I64 0) (EL AM rfl) rfl ?_
 refine AA _ (AH rfl) rfl ?_
 refine AN (AE (BY (EE (ι := Unit) (fun _ => [(4, U64 0), (16, .slice none 0 0), (17, I64 0), (18, I64 0), (5, U64 0)]) (fun _ => [⟨rb, [errV 50 (erN e 2), sv], 204, (0, 0)⟩]) (fun _ => True) (fun _ => 1) () trivial (Sub.all rfl) rfl ?_)))
 rintro _ _
 show JC _ _ _ [(4, U64 0), (16, .slice none 0 0), (17, I64 0), (18, I64 0), (5, U64 0)] [⟨rb, [errV 50 (erN e 2), sv], 204, (0, 0)⟩]
 refine AI (AD (AA (.bool (decide ((0:Int) < (0:Int)))) (AR rfl rfl fun _ => CS _ _) rfl ?_))
 refine AN (AE (AI (CK _ rfl (by decide) ?_)))
 refine D8 (BB (BB (CV (AE (AI (AD (AA _ (AH rfl) rfl ?_)))))))
 refine AA _ (AG rfl) rfl ?_
 refine AN (AE (BP (BQ (U64 0) (res1 Tryd.results109 (B2 rfl)) fun w1 hw1 => ?_)))
 exact ⟨_, _, rfl, ⟨rfl, rfl⟩, hw1⟩
theorem numROk_c (rb e : Nat) (ao : Option Addr) (n c : Nat) (z : List UInt8) (k n2 c2 : Nat) (w : World) (h0 : w.heap[rb]? = some (.cells [errV 50 e, .slice ao n c].toArray 204 (0, 0))) (hz : z.length = n) (hn : n ≤ 2000000000) (hc : n ≤ c) (hcm : c ≤ maxLen) (hr : RdB w [rb] ao z) (he : e = 0) (hs : Szd (k:Int)) (h2 : k ≤ n) (ht1 : k + n2 = n) (ht2 : k + c2 = c) : Calls Tryd.prog 109 #[Ptr rb 0, I64 k] w (Post w [rb] (fun v L => v = U64 (valK z k) ∧ L = [⟨rb, [errV 50 e, .slice (advA ao c k) n2 c2], 204, (0, 0)⟩])) := by
 have hs4 : k = 1 ∨ k = 2 ∨ k = 4 ∨ k = 8 := by have := hs; unfold Szd at this; omega
 refine enter w [rb] 29 [⟨rb, [errV 50 e, .slice ao n c], 204, (0, 0)⟩] [Ptr rb 0, I64 k] Tryd.func109 rfl rfl (by simp) (BZ (by simpa using h0) (by simp) (by simp)) ?_
 show JC _ _ _ [(0, Ptr rb 0), (1, I64 k)] _
 refine AI (AD (AA _ (AG rfl) rfl ?_))
 refine AN (AE (AI (AI (AD (AA _ (AH rfl) rfl ?_)))))
 refine A7 (A3 143 [I64 k] (.bool true) (AY _ Tryd.call143 rfl) (fun w1 _ => sizedT_c ((k:Int)) w1 hs)) rfl ?_
 show JL _ _ _ _ ((9, .bool true) :: _) [_]
 refine AA (.bool (!true)) (FH rfl) rfl ?_
 refine AN (AE (CK _ rfl rfl ?_))
 refine BT (AE (AI (AD (AA _ (AG rfl) rfl ?_))))
 refine AN (AE (AI (AI (AD (AA _ (AH rfl) rfl ?_)))))
 refine AA _ (AH rfl) rfl ?_
 have hl1 : (z.drop k).length = (n - k) := by rw [List.length_drop, hz] <;> omega
 have hr1 := RdB.adv (c := c) hr k (by rw [hz]; omega) (by rw [hz]; omega)
 have hl2 : (mid z 0 k).length = k := E3 (by rw [hz]; omega)
 refine A1 (DN 127 _ [true] [rb] _ (AY _ Tryd.call127 rfl) rfl (fun w1 hw1 => rawROk_c rb e ao n c z k (n - k) (c - k) w1 (hw1.ent _ (List.mem_of_getElem? (i := 0) rfl)) hz (by omega) (by omega) (by omega) (hr.at (M' := [rb]) hw1 (hw1.apart [0] _ rfl)) he (by unfold Szd at hs; omega) h2 (by omega) (by omega))) rfl ?_
 rintro v1 L1 ⟨_, ⟨nb1, sp1, cp1, rfl, rfl, hc1, hc2, hc3⟩, rfl⟩
 show JL _ _ _ _ ((16, Slc nb1 0 k cp1) :: _) [⟨rb, [errV 50 e, .slice (advA ao c k) (n - k) (c - k)], 204, (0, 0)⟩, ⟨nb1, cu8 (mid z 0 k) ++ sp1, 5, (0, 0)⟩]
 refine AA (I64 k) (EL AM rfl) rfl ?_
 refine AA _ (AH rfl) rfl ?_
 refine AN (AE (BY (EE (ι := Nat × UInt64) (fun ⟨j, y⟩ => [(4, U64 0), (16, Slc nb1 0 k cp1), (17, I64 k), (18, I64 j), (5, U64 y)]) (fun ⟨j, y⟩ => [⟨rb, [errV 50 e, .slice (advA ao c k) (n - k) (c - k)], 204, (0, 0)⟩, ⟨nb1, cu8 (mid z 0 k) ++ sp1, 5, (0, 0)⟩]) (fun ⟨j, y⟩ => j ≤ k ∧ y = valK (mid z 0 k) j) (fun ⟨j, y⟩ => k - j) (0, 0) ⟨by omega, by rw [valK]⟩ (Sub.all rfl) rfl ?_)))
 rintro ⟨j, y⟩ ⟨hx1, hx2⟩
 show JC _ _ _ [(4, U64 0), (16, Slc nb1 0 k cp1), (17, I64 k), (18, I64 j), (5, U64 y)] [⟨rb, [errV 50 e, .slice (advA ao c k) (n - k) (c - k)], 204, (0, 0)⟩, ⟨nb1, cu8 (mid z 0 k) ++ sp1, 5, (0, 0)⟩]
 refine AI (AD (AA (.bool (decide (((j:Int)) < ((k:Int))))) (AR rfl rfl fun _ => CS _ _) rfl ?_))
 refine AN (AE (AI (CY (decide (((j:Int)) < ((k:Int)))) rfl (fun hb1 => ?_) (fun hb1 => ?_))))
 ·
  have hp1 : ((j:Int)) < ((k:Int)) := of_decide_eq_true hb1
  refine BT (AE (AI (BY (AI (AD (AA (Ptr nb1 j) (FC 5 1 j AM AW rfl rfl (by omega) (by omega) (by omega)) rfl ?_))))))
  refine AA (U8 (g8 (mid z 0 k) j)) (AK rfl (AV D4 (AS 1 rfl (A4 (Seg.get (GE (i := j) (by rw [hl2]; omega))))))) rfl ?_
  refine AA _ (AG rfl) rfl ?_
  refine AN (AE (AD (AA _ (AH rfl) rfl ?_)))
  refine AA (U64 (y <<< (8:UInt64))) (AR rfl rfl fun _ => bin_shl_u64 y _ _ 8 (by decide) rfl) rfl ?_
  refine AA _ (AH rfl) rfl ?_
  refine AA (U64 ((g8 (mid z 0 k) j).toUInt64)) (DW _ _ rfl fun _ => conv_u8_u64 (by rw [B6]; rfl) CF _) rfl ?_
  refine AA (U64 ((y <<< (8:UInt64)) ||| ((g8 (mid z 0 k) j).toUInt64))) (AR rfl rfl fun _ => bin_or_u64 (y <<< (8:UInt64)) ((g8 (mid z 0 k) j).toUInt64)) rfl ?_
  refine AA _ (AG rfl) rfl ?_
  refine AN (BO (AE (AD (AA (I64 ((j:Int) + 1)) (AR rfl rfl fun _ => DF _ _ ((j:Int) + 1) (by omega) (by omega)) rfl ?_))))
  refine AA _ (AH rfl) rfl ?_
  refine AN (DH (EP (j + 1, (y <<< (8:UInt64)) ||| ((g8 (mid z 0 k) j).toUInt64)) ⟨by omega, by rw [valK, ← hx2]⟩ (by first | (simp; omega) | simp | (dsimp only; omega) | omega) (Sub.all rfl) rfl))
 ·
  have hp1 : ¬ (((j:Int)) < ((k:Int))) := of_decide_eq_false hb1
  refine D8 (BB (BB (CV (AE (AI (AD (AA _ (AH rfl) rfl ?_)))))))
  refine AA _ (AG rfl) rfl ?_
  refine AN (AE (BP (CH [true, false] ?_)))
  show JQ _ _ _ _ [_]
  refine BQ (U64 y) (res1 Tryd.results109 (B2 rfl)) fun w1 hw1 => ?_
  have e1 : j = k := by omega
  have e2 : valK (mid z 0 k) k = valK z k := valK_congr k fun i hi => by rw [g8_mid hi, Nat.zero_add]
  obtain rfl : n2 = (n - k) := by omega
  obtain rfl : c2 = (c - k) := by omega
  exact ⟨_, _, rfl, ⟨by rw [hx2, e1, e2], rfl⟩, hw1⟩
theorem endE_c (rb e : Nat) (sv : Value) (w : World) (hw : RdA w rb 0 [errV 50 e, sv]) (he : e ≠ 0) : Calls Tryd.prog 63 #[Ptr rb 0] w (Post w [] (fun v L => v = errV 50 e ∧ L = [])) := by
 refine enter w [] 27 [] [Ptr rb 0] Tryd.func63 rfl rfl (by simp) (BZ (by simp) (by simp) (by simp)) ?_
 show JC _ _ _ [(0, Ptr rb 0)] _
 refine AI (AD (AA _ (AG rfl) rfl ?_))
 refine AN (AE (AI (BY (AI (AD (AA _ (AH rfl) rfl ?_))))))
 refine AA (.bool false) (C2 _ _ _ rfl rfl (fun _ => FM ..) fun _ => FQ Tryd.underlying110) rfl ?_
 refine AA _ (AG rfl) rfl ?_
 refine AN (AE (CK _ rfl rfl ?_))
 refine AI (AD (AA _ (AH rfl) rfl ?_))
 refine AA _ (CZ rfl) rfl ?_
 refine AA (Ptr rb 0) (AB 0 147 1 D2 rfl Tryd.sizeOf147 rfl rfl) rfl ?_
 refine AA (Ptr rb 0) (AB 0 45 1 ES rfl Tryd.sizeOf45 rfl rfl) rfl ?_
 refine AA (errV 50 e) (AK rfl (AV Tryd.isAgg45 (C8 (hw.mem (by simp)) (Seg.head) (by omega)))) rfl ?_
 refine AA (.bool (!(decide (e = 0)))) (C2 _ _ _ rfl rfl (fun _ => CJ ..) fun _ => EF A6 _ _) rfl ?_
 refine AA _ (AG rfl) rfl ?_
 refine AN (AE (DJ _ rfl (by rw [show (decide (e = 0)) = false from (decide_eq_false he)] <;> rfl) ?_))
 refine AI (AD (AA _ (AH rfl) rfl ?_))
 refine AA _ (CZ rfl) rfl ?_
 refine AA (Ptr rb 0) (AB 0 147 1 D2 rfl Tryd.sizeOf147 rfl rfl) rfl ?_
 refine AA (Ptr rb 0) (AB 0 45 1 ES rfl Tryd.sizeOf45 rfl rfl) rfl ?_
 refine AA (errV 50 e) (AK rfl (AV Tryd.isAgg45 (C8 (hw.mem (by simp)) (Seg.head) (by omega)))) rfl ?_
 refine AA _ (AG rfl) rfl ?_
 refine AN (AE (BP (DV (BN (BQ (errV 50 e) (res1 Tryd.results63 (B2 rfl)) fun w1 hw1 => ?_)))))
 exact ⟨_, [], rfl, ⟨rfl, rfl⟩, hw1.sub (by simp) (by simp)⟩
theorem endZ_c (rb e : Nat) (ao : Option Addr) (n c : Nat) (w : World) (hw : RdA w rb 0 [errV 50 e, .slice ao n c]) (he : e = 0) (hn : n = 0) : Calls Tryd.prog 63 #[Ptr rb 0] w (Post w [] (fun v L => v = .nilIface ∧ L = [])) := by
 refine enter w [] 27 [] [Ptr rb 0] Tryd.func63 rfl rfl (by simp) (BZ (by simp) (by simp) (by simp)) ?_
 show JC _ _ _ [(0, Ptr rb 0)] _
 refine AI (AD (AA _ (AG rfl) rfl ?_))
 refine AN (AE (AI (BY (AI (AD (AA _ (AH rfl) rfl ?_))))))
 refine AA (.bool false) (C2 _ _ _ rfl rfl (fun _ => FM ..) fun _ => FQ Tryd.underlying110) rfl ?_
 refine AA _ (AG rfl) rfl ?_
 refine AN (AE (CK _ rfl rfl ?_))
 refine AI (AD (AA _ (AH rfl) rfl ?_))
 refine AA _ (CZ rfl) rfl ?_
 refine AA (Ptr rb 0) (AB 0 147 1 D2 rfl Tryd.sizeOf147 rfl rfl) rfl ?_
 refine AA (Ptr rb 0) (AB 0 45 1 ES rfl Tryd.sizeOf45 rfl rfl) rfl ?_
 refine AA (errV 50 e) (AK rfl (AV Tryd.isAgg45 (C8 (hw.mem (by simp)) (Seg.head) (by omega)))) rfl ?_
 refine AA (.bool (!(decide (e = 0)))) (C2 _ _ _ rfl rfl (fun _ => CJ ..) fun _ => EF A6 _ _) rfl ?_
 refine AA _ (AG rfl) rfl ?_
 refine AN (AE (CK _ rfl (by rw [show (decide (e = 0)) = true from (decide_eq_true he)] <;> rfl) ?_))
 refine AI (AD (AA _ (AH rfl) rfl ?_))
 refine AA _ (CZ rfl) rfl ?_
 refine AA (Ptr rb 1) (AB 1 43 1 D2 rfl B7 rfl rfl) rfl ?_
 refine AA (.slice ao n c) (AK rfl (AV D0 (C8 (hw.mem (by simp)) (AJ (Seg.head)) (by omega)))) rfl ?_
 refine AA (I64 n) (EL AM rfl) rfl ?_
 refine AA (.bool (decide ((0:Int) < ((n:Int))))) (AR rfl rfl fun _ => FL _ _) rfl ?_
 refine AA _ (AG rfl) rfl ?_
 refine AN (AE (CK _ rfl (decide_eq_false (by omega)) ?_))
 refine BT (BO (AE (AI (AD (AA _ (AG rfl) rfl ?_)))))
 refine AN (AE (BP (BQ (.nilIface) (res1 Tryd.results63 (B2 rfl)) fun w1 hw1 => ?_)))
 exact ⟨_, [], rfl, ⟨rfl, rfl⟩, hw1.sub (by simp) (by simp)⟩
theorem endB_c (rb e : Nat) (ao : Option Addr) (n c : Nat) (w : World) (hw : RdA w rb 0 [errV 50 e, .slice ao n c]) (he : e = 0) (hn : n ≠ 0) : Calls Tryd.prog 63 #[Ptr rb 0] w (Post w [] (fun v L => v = .iface 50 (I64 2) ∧ L = [])) := by
 refine enter w [] 27 [] [Ptr rb 0] Tryd.func63 rfl rfl (by simp) (BZ (by simp) (by simp) (by simp)) ?_
 show JC _ _ _ [(0, Ptr rb 0)] _
 refine AI (AD (AA _ (AG rfl) rfl ?_))
 refine AN (AE (AI (BY (AI (AD (AA _ (AH rfl) rfl ?_))))))
 refine AA (.bool false) (C2 _ _ _ rfl rfl (fun _ => FM ..) fun _ => FQ Tryd.underlying110) rfl ?_
 refine AA _ (AG rfl) rfl ?_
 refine AN (AE (CK _ rfl rfl ?_))
 refine AI (AD (AA _ (AH rfl) rfl ?_))
 refine AA _ (CZ rfl) rfl ?_
 refine AA (Ptr rb 0) (AB 0 147 1 D2 rfl Tryd.sizeOf147 rfl rfl) rfl ?_
 refine AA (Ptr rb 0) (AB 0 45 1 ES rfl Tryd.sizeOf45 rfl rfl) rfl ?_
 refine AA (errV 50 e) (AK rfl (AV Tryd.isAgg45 (C8 (hw.mem (by simp)) (Seg.head) (by omega)))) rfl ?_
 refine AA (.bool (!(decide (e = 0)))) (C2 _ _ _ rfl rfl (fun _ => CJ ..) fun _ => EF A6 _ _) rfl ?_
 refine AA _ (AG rfl) rfl ?_
 refine AN (AE (CK _ rfl (by rw [show (decide (e = 0)) = true from (decide_eq_true he)] <;> rfl) ?_))
 refine AI (AD (AA _ (AH rfl) rfl ?_))
 refine AA _ (CZ rfl) rfl ?_
 refine AA (Ptr rb 1) (AB 1 43 1 D2 rfl B7 rfl rfl) rfl ?_
 refine AA (.slice ao n c) (AK rfl (AV D0 (C8 (hw.mem (by simp)) (AJ (Seg.head)) (by omega)))) rfl ?_
 refine AA (I64 n) (EL AM rfl) rfl ?_
 refine AA (.bool (decide ((0:Int) < ((n:Int))))) (AR rfl rfl fun _ => FL _ _) rfl ?_
 refine AA _ (AG rfl) rfl ?_
 refine AN (AE (DJ _ rfl (decide_eq_true (by omega)) ?_))
 refine AI (AD (AA (.iface 50 (I64 2)) (FF DA rfl rfl) rfl ?_))
 refine AA _ (AG rfl) rfl ?_
 refine AN (AE (BP (DV (BN (BQ (.iface 50 (I64 2)) (res1 Tryd.results63 (B2 rfl)) fun w1 hw1 => ?_)))))
 exact ⟨_, [], rfl, ⟨rfl, rfl⟩, hw1.sub (by simp) (by simp)⟩
theorem end_w (rb e : Nat) (ao : Option Addr) (n c : Nat) (w : World) (hw : RdA w rb 0 [errV 50 e, .slice ao n c]) : Calls Tryd.prog 63 #[Ptr rb 0] w (Post w [] (fun v L => v = errV 50 (endN e n) ∧ L = [])) := by
  by_cases he : e = 0
  · by_cases hn : n = 0
    · rw [endN, if_pos he, if_pos hn]; exact endZ_c rb e ao n c w hw he hn
    · rw [endN, if_pos he, if_neg hn]; exact endB_c rb e ao n c w hw he hn
  · rw [endN, if_neg he]; exact endE_c rb e _ w hw he
theorem from_c (ax : Option Addr) (p cx : Nat) (z : List UInt8) (w : World) (ha : ax.isNone = false) (hz : z.length = p) (hn : p ≤ 2000000000) (hr : RdB w [] ax z) : Calls Tryd.prog 59 #[.slice ax p cx] w (Post w [] (fun v L => ∃ rb g sp cap, v = Ptr rb 0 ∧ L = [⟨rb, [.nilIface, Slc g 0 p cap], 204, (0, 0)⟩, ⟨g, cu8 z ++ sp, 5, (0, 0)⟩] ∧ sp.length = cap - p ∧ p ≤ cap ∧ cap ≤ maxLen)) := by
 refine enter w [] 7 [] [.slice ax p cx] Tryd.func59 rfl rfl (by simp) (BZ (by simp) (by simp) (by simp)) ?_
 show JC _ _ _ [(0, .slice ax p cx)] _
 refine AI (AD (AA _ (AG rfl) rfl ?_))
 refine AN (AE (AI (AD (AA _ (AH rfl) rfl ?_))))
 refine A1 (BI 108 [.slice ax p cx] _ (AY _ Tryd.call108 rfl) (fun w1 hw1 => sclone_c ax p cx z w1 ha hz (by omega) (hr.at (M' := []) hw1 (by simp)))) rfl ?_
 rintro v1 L1 ⟨_, ⟨nb1, sp1, cp1, rfl, rfl, hc1, hc2, hc3⟩, rfl⟩
 show JL _ _ _ _ ((4, Slc nb1 0 p cp1) :: _) [⟨nb1, cu8 z ++ sp1, 5, (0, 0)⟩]
 refine AA (.agg #[.nilIface, Slc nb1 0 p cp1]) (B8 [(1, Slc nb1 0 p cp1)] _ rfl (fun _ => by kernel_rfl)) rfl ?_
 refine A1 (CW (.agg #[.nilIface, Slc nb1 0 p cp1]) ([.nilIface, Slc nb1 0 p cp1]) rfl (by first | rfl | simp)) rfl ?_
 rintro v1 L1 ⟨nb2, hnb2, rfl, rfl⟩
 show JL _ _ _ _ ((6, Ptr nb2 0) :: _) [_, ⟨nb2, [.nilIface, Slc nb1 0 p cp1], 204, (0, 0)⟩]
 refine AA _ (AG rfl) rfl ?_
 refine AN (AE (BP (BQ (Ptr nb2 0) (res1 Tryd.results59 (B2 rfl)) fun w1 hw1 => ?_)))
 exact ⟨_, _, rfl, ⟨nb2, nb1, sp1, cp1, rfl, rfl, hc1, hc2, hc3⟩, hw1.sub (by simp) (by simpa using hw1.ne (i := 1) (j := 0) rfl rfl (by decide))⟩
theorem stEq {rb T R e1 e2 n1 n2 c c2 : Nat} {a : Option Addr} {f : Nat × Nat} (h : e1 = e2) (h' : n1 = n2) (h2 : c = c2) : [(⟨rb, [errV T e1, .slice a n1 c], R, f⟩ : Ent)] = [⟨rb, [errV T e2, .slice a n2 c2], R, f⟩] := by rw [h, h', h2]
theorem okE_ok {e : Nat} {p : Prop} [Decidable p] (he : e = 0) (hp : p) : e = okE e (decide p) := by subst he; rw [decide_eq_true hp]; rfl
theorem okE_bad {e : Nat} {p : Prop} [Decidable p] (hp : ¬ p) : erN e 2 = okE e (decide p) := by rw [decide_eq_false hp]; rfl
theorem numR_w (rb e : Nat) (ao : Option Addr) (n c : Nat) (z : List UInt8) (s : Int) (w : World) (h0 : w.heap[rb]? = some (.cells [errV 50 e, .slice ao n c].toArray 204 (0, 0))) (hz : z.length = n) (hn : n ≤ 2000000000) (hc : n ≤ c) (hcm : c ≤ maxLen) (hr : RdB w [rb] ao z) : Calls Tryd.prog 109 #[Ptr rb 0, I64 s] w (Post w [rb] (fun v L => v = U64 (nuV z e s) ∧ ∃ ao' c', Adv ao z c ao' (nuZ z e s) c' ∧ L = [⟨rb, [errV 50 (okE e (decide (NuOk z e s))), .slice ao' (nuZ z e s).length c'], 204, (0, 0)⟩])) := by
  by_cases hok : NuOk z e s
  · obtain ⟨he, hs, hl⟩ := id hok
    obtain ⟨k, rfl⟩ : ∃ k : Nat, s = k := ⟨s.toNat, by unfold Szd at hs; omega⟩
    have hk : k ≤ n := by omega
    refine (numROk_c rb e ao n c z k (n - k) (c - k) w h0 hz hn hc hcm hr he hs hk (by omega) (by omega)).mono ?_
    rintro E W ⟨v, L, rfl, ⟨rfl, rfl⟩, hw⟩
    refine ⟨_, _, rfl, ⟨by rw [nuV, if_pos hok]; rfl, advA ao c k, c - k, by rw [nuZ, if_pos hok]; exact Adv.drop k (by omega) (by omega) hcm, ?_⟩, hw⟩
    rw [nuZ, if_pos hok]
    exact stEq (okE_ok he hok) (by simp [hz]) rfl
  · by_cases hs : Szd s
    · by_cases he : e = 0
      · have hl : (n:Int) < s := by
          rcases Int.lt_or_le (n:Int) s with h | h
          · exact h
          · exact absurd ⟨he, hs, by rw [hz]; exact h⟩ hok
        refine (numRS_c rb e ao n c s w h0 he hs hl).mono ?_
        rintro E W ⟨v, L, rfl, ⟨rfl, rfl⟩, hw⟩
        exact ⟨_, _, rfl, ⟨(by rw [nuV, if_neg hok]), ao, c, by rw [nuZ, if_neg hok]; exact Adv.same (by omega) hcm, by rw [nuZ, if_neg hok]; exact stEq (okE_bad hok) hz.symm rfl⟩, hw⟩
      · refine (numRE_c rb e _ s w h0 he hs).mono ?_
        rintro E W ⟨v, L, rfl, ⟨rfl, rfl⟩, hw⟩
        exact ⟨_, _, rfl, ⟨(by rw [nuV, if_neg hok]), ao, c, by rw [nuZ, if_neg hok]; exact Adv.same (by omega) hcm, by rw [nuZ, if_neg hok]; exact stEq (okE_bad hok) hz.symm rfl⟩, hw⟩
    · refine (numRF_c rb e _ s w h0 hs).mono ?_
      rintro E W ⟨v, L, rfl, ⟨rfl, rfl⟩, hw⟩
      exact ⟨_, _, rfl, ⟨(by rw [nuV, if_neg hok]), ao, c, by rw [nuZ, if_neg hok]; exact Adv.same (by omega) hcm, by rw [nuZ, if_neg hok]; exact stEq (okE_bad hok) hz.symm rfl⟩, hw⟩
end Go.Proofs.YtkdpdgpphpngeaaDoor
namespace Go.Sx
open Go Go.RowKit
theorem foldl_lay (off : Nat) : ∀ (c : List Value) (k : Nat) (pre z post : List Value), z.length = c.length → pre.length = off + k →
  (c.zipIdx k).foldl (fun (cs : Array Value) (x : Value × Nat) => cs.setIfInBounds (off + x.2) x.1) (pre ++ (z ++ post)).toArray = ((pre ++ c) ++ post).toArray
 | [], k, pre, z, post, hz, _ => by
  have : z = [] := by simpa using hz
  subst this; simp
 | x :: c, k, pre, [], post, hz, _ => by simp at hz
 | x :: c, k, pre, y :: z, post, hz, hp => by
  rw [List.zipIdx_cons, List.foldl_cons]
  have e : (pre ++ (y :: z ++ post)).toArray.setIfInBounds (off + k) x = ((pre ++ [x]) ++ (z ++ post)).toArray := by
   rw [← hp]
   apply Array.toList_inj.1
   simp
  show (c.zipIdx (k + 1)).foldl _ ((pre ++ (y :: z ++ post)).toArray.setIfInBounds (off + k) x) = _
  rw [e, foldl_lay off c (k + 1) (pre ++ [x]) z post (by simpa using hz) (by simp; omega)]
  simp
theorem FO {place : Nat → Option (Nat × Nat)} {i : Nat} {v : Value} {rest : List (Nat × Value)} (pre z post c : List Value) (hc : v.cells = c.toArray) (hp : place i = some (pre.length, z.length)) (hl : c.length = z.length) :
  Instr.fill place (pre ++ (z ++ post)).toArray ((i, v) :: rest) = Instr.fill place ((pre ++ c) ++ post).toArray rest := by
 rw [Instr.fill, hp]
 have h1 : v.cells.size = z.length := by rw [hc]; simpa using hl
 have h2 : ¬ (pre.length + v.cells.size > (pre ++ (z ++ post)).toArray.size) := by rw [h1]; simp
 simp only [h1, ne_eq, not_true, decide_false, Bool.false_or, decide_eq_true_eq]
 rw [if_neg (by rw [h1] at h2; exact h2)]
 have := foldl_lay pre.length c 0 pre z post hl.symm (by simp)
 rw [← this, hc]
 congr 1
 rw [← Array.foldl_toList]
 simp
theorem run_build_struct {P : Program} {w : World} {T : TypeId} {fields : Array Field} {z : Value} {places : Array (Nat × Nat)} {pv : Array (Nat × Value)} {cs : List Value} (hz : ∀ w, (zeroValue T).run P w = .ok z w) (hu : P.underlying T = some (.struct fields))
  (hp : ∀ w, (fields.mapM fun f => do pure (f.offset, ← sizeOf f.type) : Sem (Array (Nat × Nat))).run P w = .ok places w) (hf : Instr.fill (places[·]?) z.cells pv.toList = some cs.toArray) : (Instr.build T pv).run P w = .ok (.agg cs.toArray) w := by
 simp only [Instr.build, Sem.run_bind, hz, Result.andThen_ok, run_underlying hu, hp, hf, Sem.run_pure]
section
variable {P : Program}
def PartV (P : Program) (t : TypeId) (cs : List Value) (off : Nat) (u : Value) : Prop := ∀ w, (part t cs.toArray off).run P w = .ok u w
theorem PartV.one {t : TypeId} {cs : List Value} {off : Nat} {v : Value} (hA : ∀ w, (isAgg t).run P w = .ok false w) (h : Seg cs off [v]) : PartV P t cs off v := fun w => by
 have h0 : cs[off]? = some v := by simpa using h 0 v rfl
 simp [part, hA w, h0]
theorem PartV.agg {t : TypeId} {cs vs : List Value} {off n : Nat} (hA : ∀ w, (isAgg t).run P w = .ok true w) (hS : ∀ w, (sizeOf t).run P w = .ok n w) (h : (cs.drop off).take n = vs) : PartV P t cs off (.agg vs.toArray) := fun w => by
 simp [part, hA w, hS w, ← h]
def EqV (P : Program) (d : Nat) (t : TypeId) (u v : Value) (b : Bool) : Prop := ∀ w, (Op.equalIn d t u v).run P w = .ok b w
theorem EqV.u64 {d : Nat} {t : TypeId} (he : P.underlying t = some (.int .u64)) (a b : UInt64) : EqV P (d + 1) t (U64 a) (U64 b) (decide (a = b)) := fun w => by
 have pe := run_equalIn_int (P := P) w d t .u64 .u64 a.toNat b.toNat he
 have e1 : ((a.toNat : Int) == (b.toNat : Int)) = decide (a = b) := by rw [Bool.eq_iff_iff]; simp [← UInt64.toNat_inj]; omega
 rw [e1] at pe
 simpa using pe
theorem EqV.u8 {d : Nat} {t : TypeId} (he : P.underlying t = some (.int .u8)) (a b : UInt8) : EqV P (d + 1) t (U8 a) (U8 b) (decide (a = b)) := fun w => by
 have pe := run_equalIn_int (P := P) w d t .u8 .u8 a.toNat b.toNat he
 have e1 : ((a.toNat : Int) == (b.toNat : Int)) = decide (a = b) := by rw [Bool.eq_iff_iff]; simp [← UInt8.toNat_inj]; omega
 rw [e1] at pe
 simpa using pe
theorem EqV.i64 {d : Nat} {t : TypeId} (he : P.underlying t = some (.int .i64)) (a b : Int) : EqV P (d + 1) t (I64 a) (I64 b) (decide (a = b)) := fun w => by
 have pe := run_equalIn_int (P := P) w d t .i64 .i64 a b he
 have e1 : (a == b) = decide (a = b) := rfl
 rw [e1] at pe
 simpa using pe
theorem EqV.bool {d : Nat} {t : TypeId} (he : P.underlying t = some .bool) (a b : Bool) : EqV P (d + 1) t (.bool a) (.bool b) (a == b) := fun w => by
 simp [Op.equalIn, run_underlying he]
theorem EqV.arr8 {d : Nat} {T e : TypeId} {n : Nat} (hu : P.underlying T = some (.array n e)) (he : P.underlying e = some (.int .u8)) (hA : ∀ w, (isAgg e).run P w = .ok false w) (hc : P.cellsOf e = 1) (hi : (P.info? e).isSome = true) {a b : List UInt8} (ha : a.length = n) (hb : b.length = n) :
  EqV P (d + 2) T (.agg (cu8 a).toArray) (.agg (cu8 b).toArray) (decide (a = b)) := fun w => equalIn_arr8 d hu he hA hc hi ha hb
inductive EqRs (P : Program) (d : Nat) (xs ys : List Value) : List (TypeId × Nat) → Bool → Prop
 | last (t o : Nat) (u v : Value) (b : Bool) : PartV P t xs o u → PartV P t ys o v → EqV P d t u v b → EqRs P d xs ys [(t, o)] b
 | cons (t o : Nat) (u v : Value) (b : Bool) (r : List (TypeId × Nat)) (c : Bool) : PartV P t xs o u → PartV P t ys o v → EqV P d t u v b → EqRs P d xs ys r c → EqRs P d xs ys ((t, o) :: r) (b && c)
theorem EqRs.run {d : Nat} {xs ys : List Value} {r : List (TypeId × Nat)} {b : Bool} (h : EqRs P d xs ys r b) : ∀ (fs : List Field), fs.map (fun f => (decide (f.name ≠ "_"), f.type, f.offset)) = r.map (fun x => (true, x.1, x.2)) →
    ∀ w, (Op.eqFields d xs.toArray ys.toArray fs).run P w = .ok b w := by
  induction h with
  | last t o u v b hx hy he =>
    intro fs hf w
    obtain ⟨f, rfl⟩ : ∃ f, fs = [f] := by
      cases fs with
      | nil => simp at hf
      | cons f r => cases r with
        | nil => exact ⟨f, rfl⟩
        | cons g r => simp at hf
    · simp only [List.map_cons, List.map_nil, List.cons.injEq, Prod.mk.injEq, and_true, decide_eq_true_eq] at hf
      obtain ⟨h1, h2, h3⟩ := hf
      rw [Op.eqFields, if_pos h1, h2, h3]
      simp only [Sem.run_bind, hx w, hy w, he w, Result.andThen_ok, Op.eqFields]
      cases b <;> simp
  | cons t o u v b r c hx hy he hr ih =>
    intro fs hf w
    cases fs with
    | nil => simp at hf
    | cons f fs =>
      simp only [List.map_cons, List.cons.injEq, Prod.mk.injEq, decide_eq_true_eq] at hf
      obtain ⟨⟨h1, h2, h3⟩, h4⟩ := hf
      rw [Op.eqFields, if_pos h1, h2, h3]
      simp only [Sem.run_bind, hx w, hy w, he w, Result.andThen_ok]
      cases b with
      | false => simp
      | true => simpa using ih fs h4 w
theorem EqV.struct {d : Nat} {t : TypeId} {xs ys : List Value} {r : List (TypeId × Nat)} {b : Bool} (hu : P.underlying t = some (.struct (P.fieldsOf t))) (hp : P.stoodInHeld t = false)
  (hr : (P.fieldsOf t).toList.map (fun f => (decide (f.name ≠ "_"), f.type, f.offset)) = r.map (fun x => (true, x.1, x.2))) (h : EqRs P d xs ys r b) : EqV P (d + 1) t (.agg xs.toArray) (.agg ys.toArray) b := fun w => by
 rw [run_equalIn_struct w d t _ _ hu hp]
 exact h.run _ hr w
theorem neq_struct {t : TypeId} {x y : Array Value} {b : Bool} (p : Prop) [Decidable p] (h : EqV P 10000 t (.agg x) (.agg y) b) (hb : b = decide p) : ∀ w, (binOp .neq t (.agg x) (.agg y)).run P w = .ok (.bool (!decide p)) w := fun w => by
 subst hb
 exact neq_of (by simp [binOp]) (h w)
theorem dt_dt {cs : List Value} {a n b m o : Nat} (hb : b + m ≤ n) (ho : o = a + b) : ((((cs.drop a).take n).drop b).take m) = (cs.drop o).take m := by
 subst ho
 rw [List.drop_take, List.take_take, List.drop_drop, Nat.min_eq_left (by omega)]
theorem TD.sub {H : Type} {enc : TypeId × Value → H} {w : World} {base : Nat} {spare : Nat → Bool} {held sz : Bool} {t : TypeId} {cs : List Value} {a n b m o : Nat} (h : TD enc P w base spare held sz t ((((cs.drop a).take n).drop b).take m)) (hb : b + m ≤ n) (ho : o = a + b) :
  TD enc P w base spare held sz t ((cs.drop o).take m) := by rw [← dt_dt hb ho]; exact h
theorem EI {cs p q vs : List Value} {off : Nat} (h : cs = p ++ (vs ++ q)) (hn : p.length = off) : Seg cs off vs := Seg.sub (p := p) (q := q) (o := 0) hn (by omega) (by rw [h, List.append_assoc]; exact AL _)
theorem F8 {place : Nat → Option (Nat × Nat)} {i : Nat} {v : Value} {rest : List (Nat × Value)} (z post c : List Value) (hc : v.cells = c.toArray) (hp : place i = some (0, z.length)) (hl : c.length = z.length) :
  Instr.fill place (z ++ post).toArray ((i, v) :: rest) = Instr.fill place (c ++ post).toArray rest := FO [] z post c hc hp hl
theorem E5 {w : World} {T : TypeId} {fields : Array Field} {Z : List Value} {places : Array (Nat × Nat)} {pv : Array (Nat × Value)} {cs : List Value} (hz : ∀ w, (zeroValue T).run P w = .ok (.agg Z.toArray) w) (hu : P.underlying T = some (.struct fields))
  (hp : ∀ w, (fields.mapM fun f => do pure (f.offset, ← sizeOf f.type) : Sem (Array (Nat × Nat))).run P w = .ok places w) (hf : Instr.fill (places[·]?) Z.toArray pv.toList = some cs.toArray) : (Instr.build T pv).run P w = .ok (.agg cs.toArray) w := run_build_struct hz hu hp hf
theorem fill_skip {place : Nat → Option (Nat × Nat)} {rest : List (Nat × Value)} (pre z post : List Value) : Instr.fill place (pre ++ (z ++ post)).toArray rest = Instr.fill place ((pre ++ z) ++ post).toArray rest := by rw [List.append_assoc]
theorem CO {a b : List Value} (ha : ∀ u ∈ a, u.oneCell' = true) (hb : ∀ u ∈ b, u.oneCell' = true) : ∀ u ∈ a ++ b, u.oneCell' = true := fun u hu => (List.mem_append.1 hu).elim (ha u) (hb u)
end
section
variable {C : Cx} {F : Frm} {L : List Ent}
end
end Go.Sx
namespace Go.Proofs.YtkdpdgpphpngeaaDoor
open Go Go.Sx
def putL (e : UInt64) (d t : List UInt8) : List UInt8 := (numK 8 e 8 ++ d) ++ t
theorem putL_len {e : UInt64} {d t : List UInt8} (hd : d.length = 32) (ht : t.length = 16) : (putL e d t).length = 56 := by
 unfold putL; rw [List.length_append, List.length_append, C3, hd, ht]
theorem numK_one (x : UInt64) : numK 1 x 1 = [x.toUInt8] := by
 unfold numK
 simp
theorem u8_of (h : Nat) : (UInt64.ofNat h).toUInt8 = UInt8.ofNat h := by
 apply UInt8.toNat_inj.1
 rw [UInt64.toNat_toUInt8, UInt64.toNat_ofNat', UInt8.toNat_ofNat']
 omega
theorem RdV.pos {w : World} {ao : Option Addr} {vs : List Value} (h : RdV w ao vs) (hv : 0 < vs.length) : ∃ b off, ao = some ⟨b, off, none⟩ ∧ RdA w b off vs := by
  rcases h with h | h
  · rw [h] at hv; simp at hv
  · exact h
theorem RdV.of {C : Cx} {L : List Ent} {w : World} {b off : Nat} {vs : List Value} (hw : Hp C.w0 C.M L w) (h : MemAt C L b off vs) : RdV w (some ⟨b, off, none⟩) vs := by
 cases vs with
 | nil => exact .inl rfl
 | cons v vs => exact .inr ⟨b, off, rfl, RdA.of hw h (by simp)⟩
theorem RdV.src {C : Cx} {L : List Ent} {ao : Option Addr} {vs : List Value} (h : RdV C.w0 ao vs) (hM : C.M = []) : SrcAt C L ao vs := by
  rcases h with rfl | ⟨b, off, rfl, h⟩
  · exact SrcAt.nil
  · exact SrcAt.mem (h.mem (by rw [hM]; simp))
theorem RdV.nil {w : World} {ao : Option Addr} : RdV w ao [] := .inl rfl
section
variable {C : Cx} {F : Frm} {L : List Ent} {ty : TypeId}
theorem Cl_clo {f : FuncId} {x : Operand} {args : Array Operand} {ats : Array TypeId} (vs caps : List Value) (hcf : ∀ (args : Array Value) (w : World), Sem.run C.P (callFunc f args) w = Result.ok (Next.enter f args) w)
  (hx : ev F x = some (.func (.func f) #[] caps.toArray)) (h : args.toList.map (ev F) = vs.map some) : Cl C F L (.call { callee := .value x, args := args, argTypes := ats }) ty f (vs ++ caps).toArray := fun a w ha _ d pos aft g => by
 have : args.map a.eval = vs.toArray := by
  apply Array.toList_inj.1
  rw [Array.toList_map]
  generalize args.toList = l at h
  clear hcf hx
  induction l generalizing vs with
  | nil => cases vs <;> simp_all
  | cons o l ih =>
   cases vs with
   | nil => simp at h
   | cons v vs =>
    simp only [List.map_cons, List.cons.injEq] at h
    simp [ha.ev h.1, ih vs h.2]
 have h2 : a.eval x = .func (.func f) #[] caps.toArray := ha.ev hx
 simp [execOp, resolve, this, h2, Deferred.ofValue, invoke, hcf]
end
def IdxBad (l : List UInt64) (k : Nat) : Prop := g64 l k >>> 32 ≠ 0 ∨ (0 < k ∧ g64 l k ≤ g64 l (k - 1))
instance (l : List UInt64) (k : Nat) : Decidable (IdxBad l k) := by unfold IdxBad; infer_instance
def RightI (l : List UInt64) : Prop := 1 ≤ l.length ∧ l.length ≤ 256 ∧ ∀ k, k < l.length → ¬ IdxBad l k
instance (l : List UInt64) : Decidable (RightI l) := by unfold RightI; infer_instance
theorem RightI_pos {l : List UInt64} (h : RightI l) : 1 ≤ l.length ∧ l.length ≤ 256 := ⟨h.1, h.2.1⟩
theorem idx_step {l : List UInt64} {i : Nat} (h : ∀ k, k < i → ¬ IdxBad l k) (hi : ¬ IdxBad l i) : ∀ k, k < i + 1 → ¬ IdxBad l k := fun k hk => by
  by_cases e : k = i
  · rw [e]; exact hi
  · exact h k (by omega)
theorem shr32 (x : UInt64) : (4294967296:UInt64) ≤ x ↔ x >>> 32 ≠ 0 := by
 have h1 : (4294967296:UInt64).toNat = 4294967296 := rfl
 have h2 : (x >>> 32).toNat = x.toNat / 4294967296 := by
  rw [UInt64.toNat_shiftRight, Nat.shiftRight_eq_div_pow]
  rfl
 have h3 : (0:UInt64).toNat = 0 := rfl
 rw [UInt64.le_iff_toNat_le, h1, ne_eq, ← UInt64.toNat_inj, h2, h3]
 omega
structure SealR where
 e : UInt64
 d : List UInt8
 t : List UInt8
 hd : d.length = 32
 ht : t.length = 16
deriving DecidableEq
theorem SealR.eq_iff (x y : SealR) : x = y ↔ x.e = y.e ∧ x.d = y.d ∧ x.t = y.t := by
 refine ⟨fun h => by rw [h]; exact ⟨rfl, rfl, rfl⟩, fun h => ?_⟩
 obtain ⟨a, b, c, _, _⟩ := x
 obtain ⟨a', b', c', _, _⟩ := y
 obtain ⟨rfl, rfl, rfl⟩ := h
 rfl
def sealC (x : SealR) : List Value := [U64 x.e] ++ cu8 x.d ++ cu8 x.t
theorem FR (x : SealR) : (sealC x).length = 49 := by
 have h1 := x.hd
 have h2 := x.ht
 simp [sealC, h1, h2]
def RightB (i e : UInt64) : Bool := decide (i < 4294967296) && (decide (1 ≤ e) && decide (e < 18446744073709551615))
def findIx {α : Type} (p : α → Bool) (ls : List α) : Int := if ls.any p then (ls.findIdx p : Nat) else -1
theorem findIx_at {α : Type} {p : α → Bool} {ls : List α} {i : Nat} {x : α} (h : ls[i]? = some x) (hp : p x = true) (hlt : ∀ k, k < i → ∀ y, ls[k]? = some y → p y = false) : findIx p ls = i := by
 obtain ⟨hi, hx⟩ := List.getElem?_eq_some_iff.1 h
 have h1 : ls.any p = true := List.any_eq_true.2 ⟨x, hx ▸ List.getElem_mem hi, hp⟩
 have h2 : ls.findIdx p = i := by
  rw [List.findIdx_eq hi]
  exact ⟨by rw [hx]; exact hp, fun j hj => hlt j hj _ (List.getElem?_eq_getElem (by omega))⟩
 unfold findIx
 rw [if_pos h1, h2]
theorem findIx_no {α : Type} {p : α → Bool} {ls : List α} (h : ∀ k, k < ls.length → ∀ y, ls[k]? = some y → p y = false) : findIx p ls = -1 := by
 unfold findIx
 rw [if_neg]
 intro ha
 obtain ⟨x, hx, hp⟩ := List.any_eq_true.1 ha
 obtain ⟨k, hk, hk2⟩ := List.getElem_of_mem hx
 rw [h k hk x (by rw [List.getElem?_eq_getElem hk, hk2])] at hp
 exact absurd hp (by decide)
theorem findIx_ge {α : Type} (p : α → Bool) (ls : List α) : decide (0 ≤ findIx p ls) = ls.any p := by
 unfold findIx
 cases h : ls.any p with
 | true => rw [if_pos rfl]; exact decide_eq_true (by omega)
 | false => rw [if_neg (by decide)]; exact decide_eq_false (by omega)
theorem find_step {α : Type} {p : α → Bool} {ls : List α} {i : Nat} {x : α} (h : ls[i]? = some x) (hp : p x = false) (hlt : ∀ k, k < i → ∀ y, ls[k]? = some y → p y = false) : ∀ k, k < i + 1 → ∀ y, ls[k]? = some y → p y = false := fun k hk y hy => by
  by_cases e : k = i
  · rw [e, h] at hy
    injection hy with hy
    rw [← hy]; exact hp
  · exact hlt k (by omega) y hy
theorem g64_at {l : List UInt64} {i : Nat} (h : i < l.length) : l[i]? = some (g64 l i) := by rw [g64_eq h, List.getElem?_eq_getElem h]
def headE (ls : List SealR) : UInt64 := (ls[0]?.map SealR.e).getD 0
theorem headE_of {ls : List SealR} {x : SealR} (h : ls[0]? = some x) : headE ls = x.e := by unfold headE; rw [h]; rfl
def oddB (e0 e : UInt64) : Bool := !RightB 0 e || decide (e ≠ e0)
def RightO (kd : Int) (l : List UInt64) (ls : List SealR) (bl : UInt64) : Bool :=
 if kd = 1 then decide (bl = 0) && (decide (RightI l) && (decide (ls.length = l.length) && !(ls.any (fun x => oddB (headE ls) (SealR.e x)))))
 else if kd = 2 then decide (bl = 0) && (decide (RightI l) && decide (ls.length = 0))
 else if kd = 3 then decide (l.length + ls.length = 0) && (decide ((1:UInt64) ≤ bl) && decide (bl ≤ 4294967296))
 else false
section
variable {C : Cx} {F : Frm} {L : List Ent}
theorem one_seal (z : SealR) : ∀ v ∈ sealC z, v.oneCell' = true := by
  intro v hv
  unfold sealC at hv
  simp only [List.mem_append, List.mem_cons, List.not_mem_nil, or_false] at hv
  rcases hv with (rfl | hv) | hv
  · rfl
  · exact CD v hv
  · exact CD v hv
theorem rows_len (l : List SealR) : (l.flatMap sealC).length = l.length * 49 := by
 induction l with
 | nil => rfl
 | cons a l ih => rw [List.flatMap_cons, List.length_append, FR, ih, List.length_cons]; omega
theorem Step_appS {x y : Operand} {ty : TypeId} (t e bytes : Nat) (zv : Value) (m : List Bool) (v : Value) (n : Nat) (l : List SealR) (z : SealR) (ao : Option Addr) (c tot : Nat)
    (hu : C.P.underlying t = some (.slice e)) (hi : (C.P.info? e).map (fun i => (i.zero, i.size, i.bytes)) = some (some zv, 49, bytes)) (hzs : zv.cells.size = 49)
    (hx : ev F x = some v)
    (hv : (v = .slice none 0 0 ∧ n = 0 ∧ l = [] ∧ take? m L = []) ∨ (∃ g sp cap, v = Slc g 0 n cap ∧ take? m L = [⟨g, l.flatMap sealC ++ sp, e, (0, 0)⟩] ∧ l.length = n ∧ sp.length = cap * 49 - n * 49 ∧ n ≤ cap ∧ cap ≤ maxLen))
    (hy : ev F y = some (.slice ao 1 c)) (hm : SrcAt C L ao (sealC z)) (hmax : (n + 1) * bytes ≤ 140737488355328) (hmax' : n + 1 ≤ maxLen) (htot : n + 1 = tot) :
    Step C F L (.call { callee := .builtin .append, args := #[x, y], argTypes := #[t, t] }) ty fun v' L' => ∃ g sp cap, (C.w0.heap.size ≤ g ∨ g ∈ C.M) ∧ v' = Slc g 0 tot cap ∧ L' = rest? m L ++ [⟨g, (l ++ [z]).flatMap sealC ++ sp, e, (0, 0)⟩] ∧ (l ++ [z]).length = tot ∧ sp.length = cap * 49 - tot * 49 ∧ tot ≤ cap ∧ cap ≤ maxLen := by
  subst htot
  have hv' : (v = .slice none 0 0 ∧ n = 0 ∧ l.flatMap sealC = [] ∧ take? m L = [] ∧ 0 < 1) ∨ (∃ g sp cap, v = Slc g 0 n cap ∧ take? m L = [⟨g, l.flatMap sealC ++ sp, e, (0, 0)⟩] ∧ (l.flatMap sealC).length = n * 49 ∧ (l.flatMap sealC ++ sp).length = cap * 49 ∧ n ≤ cap ∧ cap ≤ maxLen) := by
    rcases hv with ⟨h1, h2, h3, h4⟩ | ⟨g, sp, cap, h1, h2, h3, h4, h5, h6⟩
    · exact .inl ⟨h1, h2, by rw [h3]; rfl, h4, by omega⟩
    · refine .inr ⟨g, sp, cap, h1, h2, by rw [rows_len, h3], ?_, h5, h6⟩
      rw [List.length_append, h4, rows_len, h3]; omega
  have h := Step_append (C := C) (F := F) (L := L) (x := x) (y := y) (ty := ty) t e 49 bytes zv m v n (l.flatMap sealC) (sealC z) ao 1 c hu hi hzs (by decide) hx hv' hy (by rw [FR]) hm (one_seal z) hmax hmax'
  intro a w ha hw d pos aft g Kk Q hq
  refine h a w ha hw d pos aft g Kk Q ?_
  rintro v' L' w' ⟨g, sp, cap, h1, h2, h3, h4, h5, h6, h7⟩ hw'
  have e1 : l.flatMap sealC ++ sealC z = (l ++ [z]).flatMap sealC := by rw [List.flatMap_append]; simp
  rw [e1] at h3 h4 h5
  rw [rows_len] at h4
  refine hq v' L' w' ⟨g, sp, cap, h1, h2, h3, by omega, ?_, h6, h7⟩ hw'
  rw [List.length_append, rows_len] at h5
  omega
end
theorem take_step {α : Type} {ls : List α} {i : Nat} {x : α} (h : ls[i]? = some x) : ls.take i ++ [x] = ls.take (i + 1) := by rw [List.take_add_one, h]; rfl
theorem fill_one {s : Nat} {zs : Array Value} {c Z : List Value} (hl : c.length = s) (hz : (Array.range (1 * s)).map (fun j => zs[j % zs.size]!) = Z.toArray) (hZ : Z.length = s) :
  Instr.fill (fun i => some (i * s, s)) ((Array.range (1 * s)).map (fun j => zs[j % zs.size]!)) [(0, .agg c.toArray)] = some c.toArray := by
 rw [hz]
 have h := F8 (place := fun i => some (i * s, s)) (i := 0) (v := .agg c.toArray) (rest := []) Z [] c rfl (by simp [hZ]) (by rw [hl, hZ])
 rw [List.append_nil, List.append_nil] at h
 exact h
def LargeP (n m : Nat) : Prop := 300 < n ∨ 300 < m ∨ (20 < m ∧ m ≤ 256)
instance (n m : Nat) : Decidable (LargeP n m) := by unfold LargeP; infer_instance
theorem list_eq {α : Type} {a b : List α} (hl : a.length = b.length) (h : ∀ k, k < a.length → ∀ x y, a[k]? = some x → b[k]? = some y → x = y) : a = b := by
 apply List.ext_getElem hl
 intro k h1 h2
 exact h k h1 _ _ (List.getElem?_eq_getElem h1) (List.getElem?_eq_getElem h2)
theorem list_ne {α : Type} {a b : List α} {k : Nat} {x y : α} (h1 : a[k]? = some x) (h2 : b[k]? = some y) (h : x ≠ y) : a ≠ b := fun e => by
 rw [e, h2] at h1
 injection h1 with h1
 exact h h1.symm
theorem eq_step {α : Type} {a b : List α} {i : Nat} {p q : α} (ha : a[i]? = some p) (hb : b[i]? = some q) (hpq : p = q) (h : ∀ k, k < i → ∀ x y, a[k]? = some x → b[k]? = some y → x = y) : ∀ k, k < i + 1 → ∀ x y, a[k]? = some x → b[k]? = some y → x = y := fun k hk x y hx hy => by
  by_cases e : k = i
  · rw [e, ha] at hx
    rw [e, hb] at hy
    injection hx with hx
    injection hy with hy
    rw [← hx, ← hy]; exact hpq
  · exact h k (by omega) x y hx hy
theorem RightO_pos {kd : Int} {l : List UInt64} {ls : List SealR} {bl : UInt64} (h : RightO kd l ls bl = true) (hk : kd = 1) : 1 ≤ ls.length ∧ ls.length = l.length := by
 unfold RightO at h
 rw [if_pos hk] at h
 simp only [Bool.and_eq_true, decide_eq_true_eq] at h
 have := h.2.1.1
 exact ⟨by omega, h.2.2.1⟩
def mayN (pv ep : UInt64) (kd : Int) (l : List UInt64) (ls : List SealR) (bl : UInt64) : Nat :=
 if RightO kd l ls bl = true then (if kd = 1 ∧ headE ls ≠ ep then 2 else if RightB 0 ep = true ∧ ¬ ep ≤ pv then 0 else 1) else 2
theorem F7 {pv ep : UInt64} {kd : Int} {l : List UInt64} {ls : List SealR} {bl : UInt64} (h : mayN pv ep kd l ls bl = 0) : RightO kd l ls bl = true := by
  unfold mayN at h
  split at h
  · assumption
  · omega
theorem RightO_idx {kd : Int} {l : List UInt64} {ls : List SealR} {bl : UInt64} (h : RightO kd l ls bl = true) (hk : kd = 1 ∨ kd = 2) : RightI l := by
  unfold RightO at h
  rcases hk with hk | hk
  · rw [if_pos hk] at h
    simp only [Bool.and_eq_true, decide_eq_true_eq] at h
    exact h.2.1
  · rw [if_neg (by omega), if_pos hk] at h
    simp only [Bool.and_eq_true, decide_eq_true_eq] at h
    exact h.2.1
def idxT (l : List UInt64) (i : Nat) : List UInt8 := (List.range i).flatMap (fun k => numK 4 (g64 l k) 4)
theorem idxT_zero (l : List UInt64) : idxT l 0 = [] := rfl
theorem idxT_succ (l : List UInt64) (i : Nat) : idxT l (i + 1) = idxT l i ++ numK 4 (g64 l i) 4 := by
 unfold idxT; rw [List.range_succ, List.flatMap_append]; simp
theorem idxT_len (l : List UInt64) : ∀ i, (idxT l i).length = 4 * i
 | 0 => rfl
 | i + 1 => by rw [idxT_succ, List.length_append, idxT_len l i, C3]; omega
def selT (ls : List SealR) : List UInt8 := ls.flatMap (fun x => putL x.e x.d x.t)
theorem selT_nil : selT [] = [] := rfl
theorem selT_app (ls : List SealR) (x : SealR) : selT (ls ++ [x]) = selT ls ++ putL x.e x.d x.t := by unfold selT; rw [List.flatMap_append]; simp
theorem selT_len : ∀ ls : List SealR, (selT ls).length = 56 * ls.length
 | [] => rfl
 | x :: ls => by
  have h := selT_len ls
  unfold selT at h ⊢
  rw [List.flatMap_cons, List.length_append, h, putL_len x.hd x.ht, List.length_cons]; omega
theorem shr8n {n : Nat} (h : n < 256) : UInt64.ofNat n >>> UInt64.ofNat (8 * 1) = 0 := by
 apply UInt64.toNat_inj.1
 rw [UInt64.toNat_shiftRight, UInt64.toNat_ofNat', Nat.mod_eq_of_lt (by omega), Nat.shiftRight_eq_div_pow]
 show n / 2 ^ 8 = 0
 exact Nat.div_eq_of_lt h
theorem idx_fit {l : List UInt64} {i : Nat} (h : RightI l) (hi : i < l.length) : g64 l i >>> UInt64.ofNat (8 * 4) = 0 := by
 have h1 := h.2.2 i hi
 unfold IdxBad at h1
 exact Classical.not_not.1 (fun e => h1 (.inl e))
def tktT (pv ep : UInt64) (k : Nat) (l : List UInt64) (ls : List SealR) (bl : UInt64) : List UInt8 :=
 if k = 3 then ((numK 8 pv 8 ++ numK 8 ep 8) ++ numK 1 (UInt64.ofNat k) 1) ++ numK 8 bl 8
 else ((((numK 8 pv 8 ++ numK 8 ep 8) ++ numK 1 (UInt64.ofNat k) 1) ++ numK 1 (UInt64.ofNat (l.length - 1)) 1) ++ idxT l l.length) ++ selT ls
end Go.Proofs.YtkdpdgpphpngeaaDoor
namespace Go.Sx
open Go Go.RowKit
open Go.ChangeShapes Go.WideShapes
theorem laidVars_mem {P : Program} {w : World} : ∀ {l : List (String × DataW Unit)} {ps : List MemPlace}, DataW.LaidVars P w l ps → ∀ {n : String} {d : DataW Unit}, (n, d) ∈ l →
    ∃ g t cs fuel p, P.globalNamed n = some g ∧ (P.globals[g]?).map (·.type) = some t ∧ w.var? P n = some cs ∧ DataW.trod (fun _ => ()) P w 0 (fun _ => true) false fuel t cs.toList = some (d, p)
  | (n', d') :: r, ps, h, n, d, hm => by
    obtain ⟨g, t, cs, fuel, p, q, h1, h2, h3, h4, h5, _⟩ := h
    rcases List.mem_cons.1 hm with hm | hm
    · cases hm; exact ⟨g, t, cs, fuel, p, h1, h2, h3, h4⟩
    · exact laidVars_mem h5 hm
theorem laid_rd {P : Program} {W : World} {laid : List (String × DataW Unit)} (h : laidMetH P laid W) (hp : (laid.all fun x => x.2.handleName?.isNone) = true) {name : String} {d : DataW Unit} (hm : (name, d) ∈ laid) (l : List UInt32)
  (hd : d = Lib.tabData .u32 (l.map fun u => (u.toNat : Int))) {g t e n : Nat}
  (hg : P.globalNamed name = some g) (hty : (P.globals[g]?).map (·.type) = some t) (ht : P.underlying t = some (.array n e)) (he : P.underlying e = some (.int .u32)) (hce : P.cellsOf e = 1) (hct : P.cellsOf t = n) (hl : 0 < l.length) : RdA W g 0 (cu32 l) := by
 rw [MakeChecks.laidMetH_plain _ _ _ hp] at h
 obtain ⟨ps, hv, _, _⟩ := h
 obtain ⟨g', t', cs, fuel, p, hg', ht', hvar, htr⟩ := laidVars_mem hv hm
 obtain rfl := Option.some.inj (hg.symm.trans hg')
 obtain rfl := Option.some.inj (hty.symm.trans ht')
 subst hd
 have hcs := Lib.cells_of_tab ht he hce hct htr
 have key : ∀ j v, (cu32 l)[j]? = some v → W.cell? ⟨g, 0 + j, none⟩ = some v := fun j v hj => by
  have := World.var?_cell hg hvar j
  rw [Nat.zero_add, this, ← Array.getElem?_toList, hcs]
  simpa [cu32] using hj
 have h0 : (cu32 l)[0]? = some (U32 (l[0]'hl)) := by simp [cu32, hl]
 exact ⟨lt_of_cell (key 0 _ h0), key⟩
end Go.Sx
namespace Go.Sx
open Go Go.RowKit Go.Proofs
theorem RdB.holds {w : World} {ao : Option Addr} {n c : Nat} {z : List UInt8} (hr : RdB w [] ao z) (hn : z.length = n) : Lib.HoldsBytes w (.slice ao n c) z := by
  subst hn
  refine ⟨ao, c, rfl, ?_, ?_⟩
  · rintro rfl
    rcases hr with h | ⟨_, _, h, _⟩
    · exact h
    · cases h
  · intro a ha i x hx
    rcases hr with rfl | ⟨b, off, rfl, _, _, hc⟩
    · simp at hx
    · cases ha
      have := hc i (U8 x) (by simp [cu8, hx])
      rw [show (⟨b, off, none⟩ : Addr).add i = ⟨b, off + i, none⟩ from Lib.add_plain2 b off i]
      exact this
theorem fresh_ent {B : Nat} {w' : World} {v : Value} {l : List UInt8} (h : Lib.FreshBytes B w' v l) (hl : 0 < l.length) :
    ∃ g sp cap T fz, v = Slc g 0 l.length cap ∧ B ≤ g ∧ l.length ≤ cap ∧ cap ≤ maxLen ∧ w'.heap[g]? = some (.cells (cu8 l ++ sp).toArray T fz) := by
  obtain ⟨g, cap, zs, rfl, hB, hc, hm, hz, hr, hb, hcell, _⟩ := h
  have h0 := hcell 0 (by omega)
  have : ∃ cs T fz, w'.heap[g]? = some (.cells cs T fz) := by
    unfold World.cell? at h0
    split at h0
    · rename_i cs T fz he; exact ⟨cs, T, fz, he⟩
    · simp at h0
  obtain ⟨cs, T, fz, he⟩ := this
  have key : ∀ i, i < cap → cs[i]? = some (.int .u8 (zs.getD i 0)) := fun i hi => by
    have := hcell i hi
    simpa [World.cell?, he] using this
  refine ⟨g, cs.toList.drop l.length, cap, T, fz, rfl, hB, hc, hm, ?_⟩
  rw [he]
  have e1 : cs.toList.take l.length = cu8 l := by
    apply List.ext_getElem?
    intro i
    by_cases hi : i < l.length
    · rw [List.getElem?_take, if_pos hi]
      have k := key i (by omega)
      rw [← Array.getElem?_toList] at k
      rw [k]
      obtain ⟨x, hzi⟩ : ∃ x, zs[i]? = some x := ⟨_, List.getElem?_eq_getElem (show i < zs.length by omega)⟩
      have hrange := hr x (List.mem_of_getElem? hzi)
      have hli : l[i]? = some (UInt8.ofNat x.toNat) := by
        have := congrArg (fun q => q[i]?) hb
        simp only [Lib.bytesOf, List.getElem?_map, List.getElem?_take, if_pos hi, hzi, Option.map_some] at this
        exact this.symm
      have hx : ((UInt8.ofNat x.toNat).toNat : Int) = x := by
        rw [UInt8.toNat_ofNat']
        have : x.toNat < 256 := by omega
        rw [Nat.mod_eq_of_lt (by simpa using this)]
        omega
      simp only [cu8, List.getElem?_map, hli, Option.map_some, List.getD_eq_getElem?_getD, hzi, Option.getD_some]
      show _ = some (Value.int .u8 ((UInt8.ofNat x.toNat).toNat : Int))
      rw [hx]
    · rw [List.getElem?_eq_none (by simp; omega), List.getElem?_eq_none (by simp [cu8]; omega)]
  rw [← e1, List.take_append_drop]
def JoinR (l : List UInt8) (v : Value) (L : List Ent) : Prop :=
 (l = [] ∧ ∃ ao c, v = .slice ao 0 c ∧ L = [] ∧ (ao = none → c = 0)) ∨
 (0 < l.length ∧ ∃ g sp cap T fz, v = Slc g 0 l.length cap ∧ L = [⟨g, cu8 l ++ sp, T, fz⟩] ∧ l.length ≤ cap ∧ cap ≤ maxLen)
theorem join_post {w : World} {l : List UInt8} {v : Value} {w' : World} (h : Lib.FreshBytes w.heap.size w' v l) (hb : Below w.heap.size w w') : Post w [] (JoinR l) (.returned v) w' := by
  by_cases hl : 0 < l.length
  · obtain ⟨g, sp, cap, T, fz, hv, hB, hc, hm, he⟩ := fresh_ent h hl
    refine ⟨v, _, rfl, .inr ⟨hl, g, sp, cap, T, fz, hv, rfl, hc, hm⟩, ⟨hb.os, hb.tape, hb.output, hb.size, fun b hbl _ => hb.block b hbl, ?_, by simp, ?_⟩⟩
    · intro e he'; simp at he'; subst he'; exact he
    · intro e he'; simp at he'; subst he'; exact .inr hB
  · have hn : l = [] := by simpa using hl
    subst hn
    obtain ⟨g, cap, zs, rfl, _⟩ := h
    exact ⟨_, [], rfl, .inl ⟨rfl, _, _, rfl, rfl, fun h => by cases h⟩, ⟨hb.os, hb.tape, hb.output, hb.size, fun b hbl _ => hb.block b hbl, by simp, by simp, by simp⟩⟩
def PL (w : World) : List Value → List (List UInt8) → Prop
 | [], [] => True
 | v :: vs, l :: ls => (∃ ao c, v = .slice ao l.length c ∧ RdB w [] ao l) ∧ PL w vs ls
 | _, _ => False
theorem PL.len {w : World} : ∀ {vs : List Value} {ls : List (List UInt8)}, PL w vs ls → vs.length = ls.length
 | [], [], _ => rfl
 | _ :: _, _ :: _, h => by simp [PL.len h.2]
 | [], _ :: _, h => h.elim
 | _ :: _, [], h => h.elim
theorem PL.get {w : World} : ∀ {vs : List Value} {ls : List (List UInt8)}, PL w vs ls → ∀ (i : Nat) v l, vs[i]? = some v → ls[i]? = some l → ∃ ao c, v = .slice ao l.length c ∧ RdB w [] ao l
 | _ :: _, _ :: _, h, 0, v, l, hv, hl => by simp at hv hl; subst hv; subst hl; exact h.1
 | _ :: _, _ :: _, h, i + 1, v, l, hv, hl => PL.get h.2 i v l (by simpa using hv) (by simpa using hl)
 | [], [], _, i, v, l, hv, _ => by simp at hv
 | [], _ :: _, h, _, _, _, _, _ => h.elim
 | _ :: _, [], h, _, _, _, _, _ => h.elim
theorem PL.at {C : Cx} {L : List Ent} {w : World} (hw : Hp C.w0 C.M L w) (hM : C.M = []) : ∀ {vs : List Value} {ls : List (List UInt8)}, PL C.w0 vs ls → PL w vs ls
 | [], [], _ => trivial
 | v :: vs, l :: ls, ⟨⟨ao, c, hv, hr⟩, h⟩ => by
  rw [← hM] at hr
  exact ⟨⟨ao, c, hv, hr.at (M' := []) hw (by simp)⟩, PL.at hw hM h⟩
 | [], _ :: _, h => h.elim
 | _ :: _, [], h => h.elim
def Parts (w : World) (b : Nat) (vs : List Value) (ls : List (List UInt8)) : Prop := RdA w b 0 vs ∧ PL w vs ls
theorem Parts.at {C : Cx} {L : List Ent} {w : World} {b : Nat} {vs : List Value} {ls : List (List UInt8)} (hw : Hp C.w0 C.M L w) (hM : C.M = []) (h : Parts C.w0 b vs ls) (h0 : 0 < ls.length) : Parts w b vs ls :=
 ⟨RdA.of hw (h.1.mem (by simp [hM])) (by rw [h.2.len]; exact h0), h.2.at hw hM⟩
theorem lens_flat : ∀ ls : List (List UInt8), Lib.lens ls = ls.flatten.length
 | [] => rfl
 | l :: ls => by have := lens_flat ls; simp only [Lib.lens, List.map_cons, List.sum_cons, List.flatten_cons, List.length_append] at this ⊢; omega
theorem join_flat : ∀ ls : List (List UInt8), Lib.join ls [] = ls.flatten
 | [] => rfl
 | l :: ls => by rw [Lib.join_cons, Lib.joinTail]; simp
variable {P : Program} {ρ : Shelf.Ren}
theorem joinN (Lw : SlLaysJ.n14 P ρ) (b c : Nat) (vs : List Value) (ls : List (List UInt8)) (w : World) (hk : 1 ≤ ls.length) (hc : ls.length ≤ c) (hk2 : ls.length ≤ 1000) (hp : Parts w b vs ls) (hs : ls.flatten.length ≤ 17592186044416) :
    Calls P (ρ.f 14) #[.slice (some ⟨b, 0, none⟩) ls.length c, .slice none 0 0] w (Post w [] (JoinR ls.flatten)) := by
  obtain ⟨hA, hP⟩ := hp
  have hcell : ∀ j v, vs[j]? = some v → w.cell? ⟨b, j, none⟩ = some v := fun j v hj => by simpa using hA.2 j v hj
  by_cases h2 : 2 ≤ ls.length
  · refine (Any.bytes_Join_many Lw b 0 ls.length c vs ls (.slice none 0 0) [] w rfl h2 ⟨hP.len, fun i v hv => ?_, fun i v l hv hl => ?_⟩ hc ⟨none, 0, rfl, fun _ => rfl, fun a ha => by cases ha⟩ (by omega) (by rw [lens_flat, List.length_nil, Nat.zero_mul]; omega)).mono ?_
    · rw [Lib.add_plain2, Nat.zero_add]; exact hcell i v hv
    · obtain ⟨ao, c', rfl, hr⟩ := hP.get i v l hv hl
      exact hr.holds rfl
    · rintro e w' ⟨v', rfl, hf, hb⟩
      rw [join_flat] at hf
      exact join_post hf hb
  · match vs, ls, hP with
    | [v], [l], ⟨⟨ao, c0, hv, hr⟩, _⟩ =>
      subst hv
      have h0 := hcell 0 _ rfl
      by_cases hl : l.length = 0
      · have : l = [] := by simpa using hl
        subst this
        refine (Any.bytes_Join_one_empty Lw b 0 c ao c0 (.slice none 0 0) w h0).mono ?_
        rintro e w' ⟨rfl, rfl⟩
        exact ⟨_, [], rfl, .inl ⟨rfl, none, 0, rfl, rfl, fun _ => rfl⟩, BZ (by simp) (by simp) (by simp)⟩
      · rcases hr with rfl | ⟨b', off, rfl, _, _, hcc⟩
        · simp at hl
        · refine (Any.bytes_Join_one Lw b 0 c ⟨b', off, none⟩ c0 l (.slice none 0 0) w h0 (fun i x hx => ?_) (by omega) (by simp at hs; omega)).mono ?_
          · rw [Lib.add_plain2]
            exact hcc i (U8 x) (by simp [cu8, hx])
          · rintro e w' ⟨v', rfl, hf, hb⟩
            have := join_post hf hb
            simpa using this
    | [], [], _ => simp at hk
    | _ :: _ :: _, [_], h => exact absurd h.len (by simp)
    | [], [_], h => exact h.elim
    | _, _ :: _ :: _, _ => simp at h2
end Go.Sx
namespace Go.Proofs.YtkdpdgpphpngeaaDoor
open Go Go.Sx
attribute [local irreducible] mid zr8 zr32 rotr wordL spreadL comprL cpN adN spN wrdN constL initL padL stN outN routN hashL sumG
def rhoJ : Shelf.Ren := ⟨fun x => if x = 14 then 174 else if x = 15 then 190 else x, fun x => if x = 0 then 0 else if x = 3 then 3 else if x = 4 then 4 else if x = 9 then 9 else if x = 20 then 20 else if x = 22 then 43 else if x = 26 then 230 else if x = 5 then 5 else x, fun x => x⟩
set_option maxRecDepth 1000000 in
theorem joinLays : SlLaysJ.n14 Tryd.prog rhoJ where
 mixed := BV
 f14 := by kernel_rfl
 f15 := by kernel_rfl
 t0 := by kernel_rfl
 a0 := fun _ => by kernel_rfl
 z0 := fun _ => by kernel_rfl
 v0 := fun _ => by kernel_rfl
 t3 := by kernel_rfl
 a3 := fun _ => by kernel_rfl
 z3 := fun _ => by kernel_rfl
 v3 := fun _ => by kernel_rfl
 t4 := by kernel_rfl
 a4 := fun _ => by kernel_rfl
 z4 := fun _ => by kernel_rfl
 v4 := fun _ => by kernel_rfl
 t9 := by kernel_rfl
 a9 := fun _ => by kernel_rfl
 z9 := fun _ => by kernel_rfl
 v9 := fun _ => by kernel_rfl
 t20 := by kernel_rfl
 a20 := fun _ => by kernel_rfl
 z20 := fun _ => by kernel_rfl
 v20 := fun _ => by kernel_rfl
 t22 := by kernel_rfl
 a22 := fun _ => by kernel_rfl
 z22 := fun _ => by kernel_rfl
 v22 := fun _ => by kernel_rfl
 t26 := by kernel_rfl
 a26 := fun _ => by kernel_rfl
 z26 := fun _ => by kernel_rfl
 v26 := fun _ => by kernel_rfl
 t5 := by kernel_rfl
 z5 := fun _ => by kernel_rfl
 i5 := by kernel_rfl
theorem join_c (b c : Nat) (vs : List Value) (ls : List (List UInt8)) (w : World) (hk : 1 ≤ ls.length) (hc : ls.length ≤ c) (hk2 : ls.length ≤ 1000) (hp : Parts w b vs ls) (hs : ls.flatten.length ≤ 17592186044416) : Calls Tryd.prog 174 #[.slice (some ⟨b, 0, none⟩) ls.length c, .slice none 0 0] w (Post w [] (JoinR ls.flatten)) :=
 joinN joinLays b c vs ls w hk hc hk2 hp hs
theorem of_c (b c : Nat) (vs : List Value) (ls : List (List UInt8)) (w : World) (hk : 1 ≤ ls.length) (hc : ls.length ≤ c) (hk2 : ls.length ≤ 1000) (hp : Parts w b vs ls) (hs : ls.flatten.length ≤ 1000000000) (hG : GLs w) : Calls Tryd.prog 172 #[.slice (some ⟨b, 0, none⟩) ls.length c] w (Post w [] (fun v L => v = .agg (cu8 (sumG constL initL ls.flatten)).toArray ∧ L = [])) := by
 refine enter w [] 6 [] [.slice (some ⟨b, 0, none⟩) ls.length c] Tryd.func172 rfl rfl (by simp) (BZ (by simp) (by simp) (by simp)) ?_
 show JC _ _ _ [(0, .slice (some ⟨b, 0, none⟩) ls.length c)] _
 refine AI (AD (A1 (BG _ (cu8 (zr8 32)) DQ (by kernel_rfl)) rfl ?_))
 rintro v1 L1 ⟨nb1, hnb1, rfl, rfl⟩
 show JL _ _ _ _ ((2, Ptr nb1 0) :: _) [⟨nb1, cu8 (zr8 32), 54, (0, 0)⟩]
 refine AN (AE (AI (AD (AA _ (AH rfl) rfl ?_))))
 refine A1 (BI 174 [.slice (some ⟨b, 0, none⟩) ls.length c, .slice none 0 0] _ (AY _ Tryd.call174 rfl) (fun w1 hw1 => join_c b c vs ls w1 hk hc hk2 (hp.at hw1 rfl (by omega)) (by omega))) rfl ?_
 rintro v1 L1 ⟨_, (⟨he1, ao1, ca1, rfl, rfl, hn1⟩ | ⟨hp1, nb2, sp1, cp1, tj1, fj1, rfl, rfl, hl1, hm1⟩), rfl⟩
 ·
  show JL _ _ _ _ ((4, .slice ao1 0 ca1) :: _) [_]
  refine A7 (A3 177 [.slice ao1 0 ca1] (.agg (cu8 (sumG constL initL ([] : List UInt8))).toArray) (AY _ Tryd.call177 rfl) (fun w1 hw1 => sum_c ao1 0 ca1 ([] : List UInt8) w1 rfl hn1 (by omega) RdB.nil (hG.at hw1))) rfl ?_
  show JL _ _ _ _ ((5, .agg (cu8 (sumG constL initL ([] : List UInt8))).toArray) :: _) [_]
  refine A7 (A5 0 nb1 32 (cu8 (zr8 32)) 54 (cu8 (sumG constL initL ([] : List UInt8))) rfl rfl rfl B1 (CM (DY _ _ _)) (by first | exact CD | exact D3 | exact D1 | (simp [cu8, cu32, cu64, Value.oneCell']; done)) (by simp [(AP 32)]) (BC (by simp [(AP 32), (DY _ _ _)]))) rfl ?_
  show JL _ _ _ _ _ [⟨nb1, cu8 (sumG constL initL ([] : List UInt8)), 54, (0, 0)⟩]
  refine AN (AE (BP (BQ (.agg (cu8 (sumG constL initL ([] : List UInt8))).toArray) (res1 Tryd.results172 (DU rfl (BH DE B1 (CM (DY _ _ _)) (AS 0 rfl (AL _))))) fun w1 hw1 => ?_)))
  refine ⟨_, [], rfl, ⟨?_, rfl⟩, hw1.sub (by simp) (by simp)⟩
  first | rfl | rw [he1]
 ·
  show JL _ _ _ _ ((4, Slc nb2 0 ls.flatten.length cp1) :: _) [_, ⟨nb2, cu8 ls.flatten ++ sp1, tj1, fj1⟩]
  refine A7 (A3 177 [Slc nb2 0 ls.flatten.length cp1] (.agg (cu8 (sumG constL initL ls.flatten)).toArray) (AY _ Tryd.call177 rfl) (fun w1 hw1 => sum_c (some ⟨nb2, 0, none⟩) ls.flatten.length cp1 ls.flatten w1 (rfl : ls.flatten.length = _) (fun h => by cases h) (by omega) (RdB.of hw1 (AS 1 rfl (A4 (AL _))) (by simp)) (hG.at hw1))) rfl ?_
  show JL _ _ _ _ ((5, .agg (cu8 (sumG constL initL ls.flatten)).toArray) :: _) [_, _]
  refine A7 (A5 0 nb1 32 (cu8 (zr8 32)) 54 (cu8 (sumG constL initL ls.flatten)) rfl rfl rfl B1 (CM (DY _ _ _)) (by first | exact CD | exact D3 | exact D1 | (simp [cu8, cu32, cu64, Value.oneCell']; done)) (by simp [(AP 32)]) (BC (by simp [(AP 32), (DY _ _ _)]))) rfl ?_
  show JL _ _ _ _ _ [⟨nb1, cu8 (sumG constL initL ls.flatten), 54, (0, 0)⟩, _]
  refine AN (AE (BP (BQ (.agg (cu8 (sumG constL initL ls.flatten)).toArray) (res1 Tryd.results172 (DU rfl (BH DE B1 (CM (DY _ _ _)) (AS 0 rfl (AL _))))) fun w1 hw1 => ?_)))
  refine ⟨_, [], rfl, ⟨?_, rfl⟩, hw1.sub (by simp) (by simp)⟩
  first | rfl | rw [he1]
end Go.Proofs.YtkdpdgpphpngeaaDoor
