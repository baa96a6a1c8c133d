import Derived.MakeChecks
import Derived.Laws.StructEq
import Derived.Test.YtkdpdgpphpngeaaDoorPkTP1
set_option linter.unusedVariables false
set_option linter.unusedSimpArgs false
set_option maxRecDepth 100000
namespace Go.Proofs.YtkdpdgpphpngeaaDoor
open Go Go.Sx
attribute [local irreducible] mid zr8 zr32 rotr wordL spreadL comprL cpN adN spN constL initL
theorem spread_c (blk : List UInt8) (w : World) (hb : blk.length = 64) : Calls Tryd.prog 202 #[.agg (cu8 blk).toArray] w (Post w [] (fun v L => v = .agg (cu32 (spreadL blk)).toArray ∧ L = [])) := by
 refine enter w [] 60 [] [.agg (cu8 blk).toArray] Tryd.func202 rfl rfl (by simp) (BY (by simp) (by simp) (by simp)) ?_
 show JC _ _ _ [(0, .agg (cu8 blk).toArray)] _
 refine AG (AB (A2 (DN (.agg (cu8 blk).toArray) (cu8 blk) rfl (by first | rfl | simp)) rfl ?_))
 rintro v1 L1 ⟨nb1, hnb1, rfl, rfl⟩
 show JL _ _ _ _ ((1, Ptr nb1 0) :: _) [⟨nb1, cu8 blk, 262, (0, 0)⟩]
 refine A2 (BN _ (cu32 (zr32 64)) Tryd.zeroValue282 (by kernel_rfl)) rfl ?_
 rintro v1 L1 ⟨nb2, hnb2, rfl, rfl⟩
 show JL _ _ _ _ ((2, Ptr nb2 0) :: _) [_, ⟨nb2, cu32 (zr32 64), 282, (0, 0)⟩]
 refine AL (AC (AG (AB (A2 (BN _ (cu32 (zr32 64)) Tryd.zeroValue282 (by kernel_rfl)) rfl ?_))))
 rintro v1 L1 ⟨nb3, hnb3, rfl, rfl⟩
 show JL _ _ _ _ ((3, Ptr nb3 0) :: _) [_, _, ⟨nb3, cu32 (zr32 64), 282, (0, 0)⟩]
 refine AL (AC (AG (AG (AB (AA _ (AE rfl) rfl ?_)))))
 refine AL (AC (B4 (D4 (ι := Nat × List UInt32) (fun ⟨t, ww⟩ => [(1, Ptr nb1 0), (2, Ptr nb2 0), (3, Ptr nb3 0), (7, I64 t)]) (fun ⟨t, ww⟩ => [⟨nb1, cu8 blk, 262, (0, 0)⟩, ⟨nb2, cu32 (zr32 64), 282, (0, 0)⟩, ⟨nb3, cu32 ww, 282, (0, 0)⟩]) (fun ⟨t, ww⟩ => t ≤ 64 ∧ ww = spN blk t ∧ ww.length = 64) (fun ⟨t, ww⟩ => 64 - t) (0, zr32 64) ⟨by omega, by rw [spN], zr32_len 64⟩ (Sub.all rfl) rfl ?_)))
 rintro ⟨t, ww⟩ ⟨hx1, hx2, hw⟩
 show JC _ _ _ [(1, Ptr nb1 0), (2, Ptr nb2 0), (3, Ptr nb3 0), (7, I64 t)] [⟨nb1, cu8 blk, 262, (0, 0)⟩, ⟨nb2, cu32 (zr32 64), 282, (0, 0)⟩, ⟨nb3, cu32 ww, 282, (0, 0)⟩]
 refine AG (AB (AA (.bool (decide (((t:Int)) < (64:Int)))) (AP rfl rfl fun _ => DC _ _) rfl ?_))
 refine AL (AC (AG (CL (decide (((t:Int)) < (64:Int))) rfl (fun hb1 => ?_) (fun hb1 => ?_))))
 ·
  have hp1 : ((t:Int)) < (64:Int) := of_decide_eq_true hb1
  refine BL (AC (AG (B4 (AG (AB (AA _ (AE rfl) rfl ?_))))))
  refine AA _ (AH rfl) rfl ?_
  refine AL (AC (AG (AG (AB (AA _ (AE rfl) rfl ?_)))))
  refine AA (.bool (decide (((t:Int)) < (16:Int)))) (AP rfl rfl fun _ => DC _ _) rfl ?_
  refine AL (AC (CL (decide (((t:Int)) < (16:Int))) rfl (fun hb2 => ?_) (fun hb2 => ?_)))
  ·
   have hp2 : ((t:Int)) < (16:Int) := of_decide_eq_true hb2
   refine AG (AB (AA _ (AE rfl) rfl ?_))
   refine AA _ (AE rfl) rfl ?_
   refine AA (I64 (4*(t:Int))) (AP rfl rfl fun _ => F3 _ _ (4*(t:Int)) (by omega) (by omega)) rfl ?_
   refine AA _ (AE rfl) rfl ?_
   refine AA (I64 (4*(t:Int))) (AP rfl rfl fun _ => F3 _ _ (4*(t:Int)) (by omega) (by omega)) rfl ?_
   refine AA (I64 (4*(t:Int) + 4)) (AP rfl rfl fun _ => DL _ _ (4*(t:Int) + 4) (by omega) (by omega)) rfl ?_
   refine AA (Slc nb1 (4*t) 4 (64 - 4*t)) (CI 64 5 1 (4*t) (4*t + 4) (4*t) (64 - 4*t) Tryd.underlying262 BC rfl (FA (by omega)) (FA (by omega)) (by omega) (by omega) (by omega) (by omega) (by omega) 4 (by omega)) rfl ?_
   have hl1 : (mid blk (4*t) 4).length = 4 := FE (by rw [hb]; omega)
   refine AY (AX 207 [Slc nb1 (4*t) 4 (64 - 4*t)] (U32 (wordL (mid blk (4*t) 4))) (AZ _ Tryd.call207 rfl) (fun w1 hw1 => word_c (some ⟨nb1, (4*t), none⟩) (64 - 4*t) (mid blk (4*t) 4) w1 hl1 (RdB.of hw1 (AT 0 rfl (segm_u8 (4*t) 4 (by rw [hb]; omega))) (by simp)))) rfl ?_
   show JL _ _ _ _ ((19, U32 (wordL (mid blk (4*t) 4))) :: _) [_, _, _]
   refine AA (Ptr nb3 t) (DA 64 267 1 t C4 CC rfl rfl (by omega) (by omega) (by omega)) rfl ?_
   have hl2 : (ww.set t (wordL (mid blk (4*t) 4))).length = 64 := by first | (rw [List.length_set]; exact hw) | simp [hw]
   refine AY (C0 2 nb3 t 1 (cu32 ww) 282 (U32 (wordL (mid blk (4*t) 4))) ([U32 (wordL (mid blk (4*t) 4))]) (cu32 (ww.set t (wordL (mid blk (4*t) 4)))) rfl rfl rfl rfl CC rfl (by simp [Value.oneCell']) (by simp [hw]; try omega) (lay32 _ _ _ (by rw [hw]; omega))) rfl ?_
   show JL _ _ _ _ _ [_, _, ⟨nb3, cu32 (ww.set t (wordL (mid blk (4*t) 4))), 282, (0, 0)⟩]
   refine AL (AC (DU (A9 (CR (AC (AB (AA (I64 ((t:Int) + 1)) (AP rfl rfl fun _ => DL _ _ ((t:Int) + 1) (by omega) (by omega)) rfl ?_)))))))
   refine AA _ (AE rfl) rfl ?_
   refine AL (DO (ER (t + 1, ww.set t (wordL (mid blk (4*t) 4))) ⟨by omega, by rw [spN, spS, if_pos (by omega), ← hx2], hl2⟩ (by first | (simp; omega) | simp | (dsimp only; omega) | omega) (Sub.all rfl) rfl))
  ·
   have hp2 : ¬ (((t:Int)) < (16:Int)) := of_decide_eq_false hb2
   refine BL (AC (AG (CH 60 1 [(0, I64 t), (1, I64 ((t:Int) - 15)), (2, Ptr nb3 (t - 15)), (3, U32 (g32 ww (t - 15))), (4, I64 t), (5, I64 ((t:Int) - 2)), (6, Ptr nb3 (t - 2)), (7, U32 (g32 ww (t - 2))), (8, U32 (g32 ww (t - 15))), (9, U32 (g32 ww (t - 2)))] BP rfl (by decide +kernel) ?_)))
   refine C2 ⟨[], [0, 1, 2, 3, 4, 5, 6, 7, 8, 9], [], [0, 1, 2, 3, 4, 5, 6, 7, 8, 9], []⟩ rfl rfl (by decide +kernel) rfl ⟨BQ rfl rfl rfl, ⟨_, rfl, AI rfl (AP rfl rfl fun _ => D3 _ _ ((t:Int) - 15) (by omega) (by omega))⟩, ⟨_, rfl, AI rfl (DA 64 267 1 (t - 15) C4 CC rfl rfl (by omega) (by omega) (by omega))⟩, ⟨_, rfl, AI rfl (AM rfl (A6 CZ (AT 2 rfl (Seg.get (EX (i := (t - 15)) (by rw [hw]; omega))))))⟩, BQ rfl rfl rfl, ⟨_, rfl, AI rfl (AP rfl rfl fun _ => D3 _ _ ((t:Int) - 2) (by omega) (by omega))⟩, ⟨_, rfl, AI rfl (DA 64 267 1 (t - 2) C4 CC rfl rfl (by omega) (by omega) (by omega))⟩, ⟨_, rfl, AI rfl (AM rfl (A6 CZ (AT 2 rfl (Seg.get (EX (i := (t - 2)) (by rw [hw]; omega))))))⟩, ⟨_, rfl, AI rfl (AH rfl)⟩, ⟨_, rfl, AI rfl (AH rfl)⟩, trivial⟩ ?_
   refine CB (F' := [(21, I64 t), (22, I64 ((t:Int) - 15)), (23, Ptr nb3 (t - 15)), (24, U32 (g32 ww (t - 15))), (25, I64 t), (26, I64 ((t:Int) - 2)), (27, Ptr nb3 (t - 2)), (28, U32 (g32 ww (t - 2))), (5, U32 (g32 ww (t - 15))), (6, U32 (g32 ww (t - 2))), (1, Ptr nb1 0), (2, Ptr nb2 0), (3, Ptr nb3 0), (7, I64 t), (8, .bool (decide (((t:Int)) < (64:Int)))), (9, I64 t), (4, I64 t), (10, I64 t), (11, .bool (decide (((t:Int)) < (16:Int))))]) (by kernel_rfl) ?_
   refine AC (CH 60 6 [(0, I64 t), (1, I64 t), (2, I64 ((t:Int) - 16)), (3, Ptr nb3 (t - 16)), (4, U32 (g32 ww (t - 16))), (5, U32 (g32 ww (t - 15))), (7, U32 (g32 ww (t - 15))), (10, U32 (g32 ww (t - 15))), (11, U32 ((g32 ww (t - 15)) >>> (3:UInt32))), (14, I64 t), (15, I64 ((t:Int) - 7)), (16, Ptr nb3 (t - 7)), (17, U32 (g32 ww (t - 7))), (19, U32 (g32 ww (t - 2))), (21, U32 (g32 ww (t - 2))), (24, U32 (g32 ww (t - 2))), (25, U32 ((g32 ww (t - 2)) >>> (10:UInt32)))] BP rfl (by decide +kernel) ?_)
   refine B6 ⟨[], [0, 1, 2, 3, 4, 5, 7, 10, 11, 14, 15, 16, 17, 19, 21, 24, 25], [], [0, 1, 2, 3, 4, 5, 7, 10, 11, 14, 15, 16, 17, 19, 21, 24, 25], [6]⟩ 6 rfl rfl (by decide +kernel) rfl ⟨BQ rfl rfl rfl, BQ rfl rfl rfl, ⟨_, rfl, AI rfl (AP rfl rfl fun _ => D3 _ _ ((t:Int) - 16) (by omega) (by omega))⟩, ⟨_, rfl, AI rfl (DA 64 267 1 (t - 16) C4 CC rfl rfl (by omega) (by omega) (by omega))⟩, ⟨_, rfl, AI rfl (AM rfl (A6 CZ (AT 2 rfl (Seg.get (EX (i := (t - 16)) (by rw [hw]; omega))))))⟩, BQ rfl rfl rfl, BQ rfl rfl rfl, BQ rfl rfl rfl, ⟨_, rfl, AI rfl (AP rfl rfl fun _ => E5 (g32 ww (t - 15)) _ _ 3 (by decide) rfl)⟩, BQ rfl rfl rfl, ⟨_, rfl, AI rfl (AP rfl rfl fun _ => D3 _ _ ((t:Int) - 7) (by omega) (by omega))⟩, ⟨_, rfl, AI rfl (DA 64 267 1 (t - 7) C4 CC rfl rfl (by omega) (by omega) (by omega))⟩, ⟨_, rfl, AI rfl (AM rfl (A6 CZ (AT 2 rfl (Seg.get (EX (i := (t - 7)) (by rw [hw]; omega))))))⟩, BQ rfl rfl rfl, BQ rfl rfl rfl, BQ rfl rfl rfl, ⟨_, rfl, AI rfl (AP rfl rfl fun _ => E5 (g32 ww (t - 2)) _ _ 10 (by decide) rfl)⟩, trivial⟩ rfl (A7 rfl (AX 203 [U32 (g32 ww (t - 15)), I64 7] (U32 (rotr (g32 ww (t - 15)) 7)) (AZ _ Tryd.call203 rfl) (fun w1 hw1 => turn_c (g32 ww (t - 15)) 7 w1 (by omega) (by omega)))) ?_
   show DP _ _ _ _ _ _ _ _ [_, _, _]
   refine C5 ⟨[6], [0, 1, 2, 3, 4, 5, 7, 10, 11, 14, 15, 16, 17, 19, 21, 24, 25], [5], [0, 1, 2, 3, 4, 7, 10, 11, 14, 15, 16, 17, 19, 21, 24, 25], [8]⟩ 8 _ rfl rfl (by decide +kernel) rfl ⟨BQ rfl rfl rfl, BQ rfl rfl rfl, ⟨_, rfl, AI rfl (AP rfl rfl fun _ => D3 _ _ ((t:Int) - 16) (by omega) (by omega))⟩, ⟨_, rfl, AI rfl (DA 64 267 1 (t - 16) C4 CC rfl rfl (by omega) (by omega) (by omega))⟩, ⟨_, rfl, AI rfl (AM rfl (A6 CZ (AT 2 rfl (Seg.get (EX (i := (t - 16)) (by rw [hw]; omega))))))⟩, BQ rfl rfl rfl, BQ rfl rfl rfl, ⟨_, rfl, AI rfl (AP rfl rfl fun _ => E5 (g32 ww (t - 15)) _ _ 3 (by decide) rfl)⟩, BQ rfl rfl rfl, ⟨_, rfl, AI rfl (AP rfl rfl fun _ => D3 _ _ ((t:Int) - 7) (by omega) (by omega))⟩, ⟨_, rfl, AI rfl (DA 64 267 1 (t - 7) C4 CC rfl rfl (by omega) (by omega) (by omega))⟩, ⟨_, rfl, AI rfl (AM rfl (A6 CZ (AT 2 rfl (Seg.get (EX (i := (t - 7)) (by rw [hw]; omega))))))⟩, BQ rfl rfl rfl, BQ rfl rfl rfl, BQ rfl rfl rfl, ⟨_, rfl, AI rfl (AP rfl rfl fun _ => E5 (g32 ww (t - 2)) _ _ 10 (by decide) rfl)⟩, trivial⟩ rfl (A7 rfl (AX 203 [U32 (g32 ww (t - 15)), I64 18] (U32 (rotr (g32 ww (t - 15)) 18)) (AZ _ Tryd.call203 rfl) (fun w1 hw1 => turn_c (g32 ww (t - 15)) 18 w1 (by omega) (by omega)))) ?_
   rintro v1 L1 ⟨rfl, rfl⟩
   refine ⟨[(9, U32 ((rotr (g32 ww (t - 15)) 7) ^^^ (rotr (g32 ww (t - 15)) 18))), (12, U32 (((rotr (g32 ww (t - 15)) 7) ^^^ (rotr (g32 ww (t - 15)) 18)) ^^^ ((g32 ww (t - 15)) >>> (3:UInt32)))), (13, U32 ((g32 ww (t - 16)) + (((rotr (g32 ww (t - 15)) 7) ^^^ (rotr (g32 ww (t - 15)) 18)) ^^^ ((g32 ww (t - 15)) >>> (3:UInt32))))), (18, U32 (((g32 ww (t - 16)) + (((rotr (g32 ww (t - 15)) 7) ^^^ (rotr (g32 ww (t - 15)) 18)) ^^^ ((g32 ww (t - 15)) >>> (3:UInt32)))) + (g32 ww (t - 7))))], ?_⟩
   show DP _ _ _ _ _ _ _ _ [_, _, _]
   refine B6 ⟨[6, 8], [0, 1, 2, 3, 4, 5, 7, 9, 10, 11, 12, 13, 14, 15, 16, 17, 18, 19, 21, 24, 25], [5, 7], [0, 1, 2, 3, 4, 9, 10, 11, 12, 13, 14, 15, 16, 17, 18, 19, 21, 24, 25], [20]⟩ 20 rfl rfl (by decide +kernel) rfl ⟨BQ rfl rfl rfl, BQ rfl rfl rfl, ⟨_, rfl, AI rfl (AP rfl rfl fun _ => D3 _ _ ((t:Int) - 16) (by omega) (by omega))⟩, ⟨_, rfl, AI rfl (DA 64 267 1 (t - 16) C4 CC rfl rfl (by omega) (by omega) (by omega))⟩, ⟨_, rfl, AI rfl (AM rfl (A6 CZ (AT 2 rfl (Seg.get (EX (i := (t - 16)) (by rw [hw]; omega))))))⟩, ⟨_, rfl, AI rfl (AP rfl rfl fun _ => D6 (rotr (g32 ww (t - 15)) 7) (rotr (g32 ww (t - 15)) 18))⟩, BQ rfl rfl rfl, ⟨_, rfl, AI rfl (AP rfl rfl fun _ => E5 (g32 ww (t - 15)) _ _ 3 (by decide) rfl)⟩, ⟨_, rfl, AI rfl (AP rfl rfl fun _ => D6 ((rotr (g32 ww (t - 15)) 7) ^^^ (rotr (g32 ww (t - 15)) 18)) ((g32 ww (t - 15)) >>> (3:UInt32)))⟩, ⟨_, rfl, AI rfl (AP rfl rfl fun _ => EY (g32 ww (t - 16)) (((rotr (g32 ww (t - 15)) 7) ^^^ (rotr (g32 ww (t - 15)) 18)) ^^^ ((g32 ww (t - 15)) >>> (3:UInt32))))⟩, BQ rfl rfl rfl, ⟨_, rfl, AI rfl (AP rfl rfl fun _ => D3 _ _ ((t:Int) - 7) (by omega) (by omega))⟩, ⟨_, rfl, AI rfl (DA 64 267 1 (t - 7) C4 CC rfl rfl (by omega) (by omega) (by omega))⟩, ⟨_, rfl, AI rfl (AM rfl (A6 CZ (AT 2 rfl (Seg.get (EX (i := (t - 7)) (by rw [hw]; omega))))))⟩, ⟨_, rfl, AI rfl (AP rfl rfl fun _ => EY ((g32 ww (t - 16)) + (((rotr (g32 ww (t - 15)) 7) ^^^ (rotr (g32 ww (t - 15)) 18)) ^^^ ((g32 ww (t - 15)) >>> (3:UInt32)))) (g32 ww (t - 7)))⟩, BQ rfl rfl rfl, BQ rfl rfl rfl, BQ rfl rfl rfl, ⟨_, rfl, AI rfl (AP rfl rfl fun _ => E5 (g32 ww (t - 2)) _ _ 10 (by decide) rfl)⟩, trivial⟩ rfl (A7 rfl (AX 203 [U32 (g32 ww (t - 2)), I64 17] (U32 (rotr (g32 ww (t - 2)) 17)) (AZ _ Tryd.call203 rfl) (fun w1 hw1 => turn_c (g32 ww (t - 2)) 17 w1 (by omega) (by omega)))) ?_
   show DP _ _ _ _ _ _ _ _ [_, _, _]
   refine C5 ⟨[6, 8, 20], [0, 1, 2, 3, 4, 5, 7, 9, 10, 11, 12, 13, 14, 15, 16, 17, 18, 19, 21, 24, 25], [5, 7, 19], [0, 1, 2, 3, 4, 9, 10, 11, 12, 13, 14, 15, 16, 17, 18, 21, 24, 25], [22]⟩ 22 _ rfl rfl (by decide +kernel) rfl ⟨BQ rfl rfl rfl, BQ rfl rfl rfl, ⟨_, rfl, AI rfl (AP rfl rfl fun _ => D3 _ _ ((t:Int) - 16) (by omega) (by omega))⟩, ⟨_, rfl, AI rfl (DA 64 267 1 (t - 16) C4 CC rfl rfl (by omega) (by omega) (by omega))⟩, ⟨_, rfl, AI rfl (AM rfl (A6 CZ (AT 2 rfl (Seg.get (EX (i := (t - 16)) (by rw [hw]; omega))))))⟩, ⟨_, rfl, AI rfl (AP rfl rfl fun _ => D6 (rotr (g32 ww (t - 15)) 7) (rotr (g32 ww (t - 15)) 18))⟩, BQ rfl rfl rfl, ⟨_, rfl, AI rfl (AP rfl rfl fun _ => E5 (g32 ww (t - 15)) _ _ 3 (by decide) rfl)⟩, ⟨_, rfl, AI rfl (AP rfl rfl fun _ => D6 ((rotr (g32 ww (t - 15)) 7) ^^^ (rotr (g32 ww (t - 15)) 18)) ((g32 ww (t - 15)) >>> (3:UInt32)))⟩, ⟨_, rfl, AI rfl (AP rfl rfl fun _ => EY (g32 ww (t - 16)) (((rotr (g32 ww (t - 15)) 7) ^^^ (rotr (g32 ww (t - 15)) 18)) ^^^ ((g32 ww (t - 15)) >>> (3:UInt32))))⟩, BQ rfl rfl rfl, ⟨_, rfl, AI rfl (AP rfl rfl fun _ => D3 _ _ ((t:Int) - 7) (by omega) (by omega))⟩, ⟨_, rfl, AI rfl (DA 64 267 1 (t - 7) C4 CC rfl rfl (by omega) (by omega) (by omega))⟩, ⟨_, rfl, AI rfl (AM rfl (A6 CZ (AT 2 rfl (Seg.get (EX (i := (t - 7)) (by rw [hw]; omega))))))⟩, ⟨_, rfl, AI rfl (AP rfl rfl fun _ => EY ((g32 ww (t - 16)) + (((rotr (g32 ww (t - 15)) 7) ^^^ (rotr (g32 ww (t - 15)) 18)) ^^^ ((g32 ww (t - 15)) >>> (3:UInt32)))) (g32 ww (t - 7)))⟩, BQ rfl rfl rfl, BQ rfl rfl rfl, ⟨_, rfl, AI rfl (AP rfl rfl fun _ => E5 (g32 ww (t - 2)) _ _ 10 (by decide) rfl)⟩, trivial⟩ rfl (A7 rfl (AX 203 [U32 (g32 ww (t - 2)), I64 19] (U32 (rotr (g32 ww (t - 2)) 19)) (AZ _ Tryd.call203 rfl) (fun w1 hw1 => turn_c (g32 ww (t - 2)) 19 w1 (by omega) (by omega)))) ?_
   rintro v1 L1 ⟨rfl, rfl⟩
   refine ⟨[(23, U32 ((rotr (g32 ww (t - 2)) 17) ^^^ (rotr (g32 ww (t - 2)) 19))), (26, U32 (((rotr (g32 ww (t - 2)) 17) ^^^ (rotr (g32 ww (t - 2)) 19)) ^^^ ((g32 ww (t - 2)) >>> (10:UInt32)))), (27, U32 ((((g32 ww (t - 16)) + (((rotr (g32 ww (t - 15)) 7) ^^^ (rotr (g32 ww (t - 15)) 18)) ^^^ ((g32 ww (t - 15)) >>> (3:UInt32)))) + (g32 ww (t - 7))) + (((rotr (g32 ww (t - 2)) 17) ^^^ (rotr (g32 ww (t - 2)) 19)) ^^^ ((g32 ww (t - 2)) >>> (10:UInt32))))), (28, Ptr nb3 t)], ?_⟩
   show DP _ _ _ _ _ _ _ _ [_, _, _]
   have hl3 : (ww.set t ((((g32 ww (t - 16)) + (((rotr (g32 ww (t - 15)) 7) ^^^ (rotr (g32 ww (t - 15)) 18)) ^^^ ((g32 ww (t - 15)) >>> (3:UInt32)))) + (g32 ww (t - 7))) + (((rotr (g32 ww (t - 2)) 17) ^^^ (rotr (g32 ww (t - 2)) 19)) ^^^ ((g32 ww (t - 2)) >>> (10:UInt32))))).length = 64 := by first | (rw [List.length_set]; exact hw) | simp [hw]
   refine B6 ⟨[6, 8, 20, 22], [0, 1, 2, 3, 4, 5, 7, 9, 10, 11, 12, 13, 14, 15, 16, 17, 18, 19, 21, 23, 24, 25, 26, 27, 28], [5, 7, 19, 21], [0, 1, 2, 3, 4, 9, 10, 11, 12, 13, 14, 15, 16, 17, 18, 23, 24, 25, 26, 27, 28], [29]⟩ 29 rfl rfl (by decide +kernel) rfl ⟨BQ rfl rfl rfl, BQ rfl rfl rfl, ⟨_, rfl, AI rfl (AP rfl rfl fun _ => D3 _ _ ((t:Int) - 16) (by omega) (by omega))⟩, ⟨_, rfl, AI rfl (DA 64 267 1 (t - 16) C4 CC rfl rfl (by omega) (by omega) (by omega))⟩, ⟨_, rfl, AI rfl (AM rfl (A6 CZ (AT 2 rfl (Seg.get (EX (i := (t - 16)) (by rw [hw]; omega))))))⟩, ⟨_, rfl, AI rfl (AP rfl rfl fun _ => D6 (rotr (g32 ww (t - 15)) 7) (rotr (g32 ww (t - 15)) 18))⟩, BQ rfl rfl rfl, ⟨_, rfl, AI rfl (AP rfl rfl fun _ => E5 (g32 ww (t - 15)) _ _ 3 (by decide) rfl)⟩, ⟨_, rfl, AI rfl (AP rfl rfl fun _ => D6 ((rotr (g32 ww (t - 15)) 7) ^^^ (rotr (g32 ww (t - 15)) 18)) ((g32 ww (t - 15)) >>> (3:UInt32)))⟩, ⟨_, rfl, AI rfl (AP rfl rfl fun _ => EY (g32 ww (t - 16)) (((rotr (g32 ww (t - 15)) 7) ^^^ (rotr (g32 ww (t - 15)) 18)) ^^^ ((g32 ww (t - 15)) >>> (3:UInt32))))⟩, BQ rfl rfl rfl, ⟨_, rfl, AI rfl (AP rfl rfl fun _ => D3 _ _ ((t:Int) - 7) (by omega) (by omega))⟩, ⟨_, rfl, AI rfl (DA 64 267 1 (t - 7) C4 CC rfl rfl (by omega) (by omega) (by omega))⟩, ⟨_, rfl, AI rfl (AM rfl (A6 CZ (AT 2 rfl (Seg.get (EX (i := (t - 7)) (by rw [hw]; omega))))))⟩, ⟨_, rfl, AI rfl (AP rfl rfl fun _ => EY ((g32 ww (t - 16)) + (((rotr (g32 ww (t - 15)) 7) ^^^ (rotr (g32 ww (t - 15)) 18)) ^^^ ((g32 ww (t - 15)) >>> (3:UInt32)))) (g32 ww (t - 7)))⟩, ⟨_, rfl, AI rfl (AP rfl rfl fun _ => D6 (rotr (g32 ww (t - 2)) 17) (rotr (g32 ww (t - 2)) 19))⟩, BQ rfl rfl rfl, ⟨_, rfl, AI rfl (AP rfl rfl fun _ => E5 (g32 ww (t - 2)) _ _ 10 (by decide) rfl)⟩, ⟨_, rfl, AI rfl (AP rfl rfl fun _ => D6 ((rotr (g32 ww (t - 2)) 17) ^^^ (rotr (g32 ww (t - 2)) 19)) ((g32 ww (t - 2)) >>> (10:UInt32)))⟩, ⟨_, rfl, AI rfl (AP rfl rfl fun _ => EY (((g32 ww (t - 16)) + (((rotr (g32 ww (t - 15)) 7) ^^^ (rotr (g32 ww (t - 15)) 18)) ^^^ ((g32 ww (t - 15)) >>> (3:UInt32)))) + (g32 ww (t - 7))) (((rotr (g32 ww (t - 2)) 17) ^^^ (rotr (g32 ww (t - 2)) 19)) ^^^ ((g32 ww (t - 2)) >>> (10:UInt32))))⟩, ⟨_, rfl, AI rfl (DA 64 267 1 t C4 CC rfl rfl (by omega) (by omega) (by omega))⟩, trivial⟩ rfl (A7 rfl (C0 2 nb3 t 1 (cu32 ww) 282 (U32 ((((g32 ww (t - 16)) + (((rotr (g32 ww (t - 15)) 7) ^^^ (rotr (g32 ww (t - 15)) 18)) ^^^ ((g32 ww (t - 15)) >>> (3:UInt32)))) + (g32 ww (t - 7))) + (((rotr (g32 ww (t - 2)) 17) ^^^ (rotr (g32 ww (t - 2)) 19)) ^^^ ((g32 ww (t - 2)) >>> (10:UInt32))))) ([U32 ((((g32 ww (t - 16)) + (((rotr (g32 ww (t - 15)) 7) ^^^ (rotr (g32 ww (t - 15)) 18)) ^^^ ((g32 ww (t - 15)) >>> (3:UInt32)))) + (g32 ww (t - 7))) + (((rotr (g32 ww (t - 2)) 17) ^^^ (rotr (g32 ww (t - 2)) 19)) ^^^ ((g32 ww (t - 2)) >>> (10:UInt32))))]) (cu32 (ww.set t ((((g32 ww (t - 16)) + (((rotr (g32 ww (t - 15)) 7) ^^^ (rotr (g32 ww (t - 15)) 18)) ^^^ ((g32 ww (t - 15)) >>> (3:UInt32)))) + (g32 ww (t - 7))) + (((rotr (g32 ww (t - 2)) 17) ^^^ (rotr (g32 ww (t - 2)) 19)) ^^^ ((g32 ww (t - 2)) >>> (10:UInt32)))))) rfl rfl rfl rfl CC rfl (by simp [Value.oneCell']) (by simp [hw]; try omega) (lay32 _ _ _ (by rw [hw]; omega)))) ?_
   show DP _ _ _ _ _ _ _ _ [_, _, ⟨nb3, cu32 (ww.set t ((((g32 ww (t - 16)) + (((rotr (g32 ww (t - 15)) 7) ^^^ (rotr (g32 ww (t - 15)) 18)) ^^^ ((g32 ww (t - 15)) >>> (3:UInt32)))) + (g32 ww (t - 7))) + (((rotr (g32 ww (t - 2)) 17) ^^^ (rotr (g32 ww (t - 2)) 19)) ^^^ ((g32 ww (t - 2)) >>> (10:UInt32))))), 282, (0, 0)⟩]
   refine C2 ⟨[6, 8, 20, 22, 29], [0, 1, 2, 3, 4, 5, 7, 9, 10, 11, 12, 13, 14, 15, 16, 17, 18, 19, 21, 23, 24, 25, 26, 27, 28], [0, 1, 2, 3, 4, 5, 7, 9, 10, 11, 12, 13, 14, 15, 16, 17, 18, 19, 21, 23, 24, 25, 26, 27, 28], [], []⟩ rfl rfl (by decide +kernel) rfl trivial ?_
   refine CB (F' := [(29, I64 t), (30, I64 t), (31, I64 ((t:Int) - 16)), (32, Ptr nb3 (t - 16)), (33, U32 (g32 ww (t - 16))), (34, U32 (g32 ww (t - 15))), (35, U32 (rotr (g32 ww (t - 15)) 7)), (36, U32 (g32 ww (t - 15))), (37, U32 (rotr (g32 ww (t - 15)) 18)), (38, U32 ((rotr (g32 ww (t - 15)) 7) ^^^ (rotr (g32 ww (t - 15)) 18))), (39, U32 (g32 ww (t - 15))), (40, U32 ((g32 ww (t - 15)) >>> (3:UInt32))), (41, U32 (((rotr (g32 ww (t - 15)) 7) ^^^ (rotr (g32 ww (t - 15)) 18)) ^^^ ((g32 ww (t - 15)) >>> (3:UInt32)))), (42, U32 ((g32 ww (t - 16)) + (((rotr (g32 ww (t - 15)) 7) ^^^ (rotr (g32 ww (t - 15)) 18)) ^^^ ((g32 ww (t - 15)) >>> (3:UInt32))))), (43, I64 t), (44, I64 ((t:Int) - 7)), (45, Ptr nb3 (t - 7)), (46, U32 (g32 ww (t - 7))), (47, U32 (((g32 ww (t - 16)) + (((rotr (g32 ww (t - 15)) 7) ^^^ (rotr (g32 ww (t - 15)) 18)) ^^^ ((g32 ww (t - 15)) >>> (3:UInt32)))) + (g32 ww (t - 7)))), (48, U32 (g32 ww (t - 2))), (49, U32 (rotr (g32 ww (t - 2)) 17)), (50, U32 (g32 ww (t - 2))), (51, U32 (rotr (g32 ww (t - 2)) 19)), (52, U32 ((rotr (g32 ww (t - 2)) 17) ^^^ (rotr (g32 ww (t - 2)) 19))), (53, U32 (g32 ww (t - 2))), (54, U32 ((g32 ww (t - 2)) >>> (10:UInt32))), (55, U32 (((rotr (g32 ww (t - 2)) 17) ^^^ (rotr (g32 ww (t - 2)) 19)) ^^^ ((g32 ww (t - 2)) >>> (10:UInt32)))), (56, U32 ((((g32 ww (t - 16)) + (((rotr (g32 ww (t - 15)) 7) ^^^ (rotr (g32 ww (t - 15)) 18)) ^^^ ((g32 ww (t - 15)) >>> (3:UInt32)))) + (g32 ww (t - 7))) + (((rotr (g32 ww (t - 2)) 17) ^^^ (rotr (g32 ww (t - 2)) 19)) ^^^ ((g32 ww (t - 2)) >>> (10:UInt32))))), (57, Ptr nb3 t), (21, I64 t), (22, I64 ((t:Int) - 15)), (23, Ptr nb3 (t - 15)), (24, U32 (g32 ww (t - 15))), (25, I64 t), (26, I64 ((t:Int) - 2)), (27, Ptr nb3 (t - 2)), (28, U32 (g32 ww (t - 2))), (5, U32 (g32 ww (t - 15))), (6, U32 (g32 ww (t - 2))), (1, Ptr nb1 0), (2, Ptr nb2 0), (3, Ptr nb3 0), (7, I64 t), (8, .bool (decide (((t:Int)) < (64:Int)))), (9, I64 t), (4, I64 t), (10, I64 t), (11, .bool (decide (((t:Int)) < (16:Int))))]) (by kernel_rfl) ?_
   refine B0 (AC (AB (AA (I64 ((t:Int) + 1)) (AP rfl rfl fun _ => DL _ _ ((t:Int) + 1) (by omega) (by omega)) rfl ?_)))
   refine AA _ (AE rfl) rfl ?_
   refine AL (DO (ER (t + 1, ww.set t ((((g32 ww (t - 16)) + (((rotr (g32 ww (t - 15)) 7) ^^^ (rotr (g32 ww (t - 15)) 18)) ^^^ ((g32 ww (t - 15)) >>> (3:UInt32)))) + (g32 ww (t - 7))) + (((rotr (g32 ww (t - 2)) 17) ^^^ (rotr (g32 ww (t - 2)) 19)) ^^^ ((g32 ww (t - 2)) >>> (10:UInt32))))) ⟨by omega, by rw [spN, spS, if_neg (by omega), ← hx2], hl3⟩ (by first | (simp; omega) | simp | (dsimp only; omega) | omega) (Sub.all rfl) rfl))
 ·
  have hp1 : ¬ (((t:Int)) < (64:Int)) := of_decide_eq_false hb1
  refine DU (A9 (A9 (CR (AC (AG (AB (AA (.agg (cu32 ww).toArray) (AM rfl (A5 Tryd.isAgg282 Tryd.sizeOf282 (F4 hw) (AT 2 rfl (AJ _)))) rfl ?_)))))))
  refine AY (AU 1 nb2 64 (cu32 (zr32 64)) 282 (cu32 ww) rfl rfl rfl Tryd.sizeOf282 (F4 hw) (by first | exact CF | exact EI | exact EE | (simp [cu8, cu32, cu64, Value.oneCell']; done)) (by simp [(zr32_len 64)]) (A0 (by simp [(zr32_len 64), hw]))) rfl ?_
  show JL _ _ _ _ _ [_, ⟨nb2, cu32 ww, 282, (0, 0)⟩, _]
  refine AL (AC (BH (BI (.agg (cu32 ww).toArray) (res1 Tryd.results202 (CQ rfl (A5 Tryd.isAgg282 Tryd.sizeOf282 (F4 hw) (AT 1 rfl (AJ _))))) fun w1 hw1 => ?_)))
  have e1 : t = 64 := by omega
  subst e1
  rw [show ww = spreadL blk by rw [spreadL, hx2]]
  exact ⟨_, [], rfl, ⟨rfl, rfl⟩, hw1.sub (by simp) (by simp)⟩
set_option maxHeartbeats 2000000 in
theorem compress_c (st : List UInt32) (blk : List UInt8) (w : World) (hs0 : st.length = 8) (hb : blk.length = 64) (hG : GLs w) : Calls Tryd.prog 194 #[.agg (cu32 st).toArray, .agg (cu8 blk).toArray] w (Post w [] (fun v L => v = .agg (cu32 (comprL constL st blk)).toArray ∧ L = [])) := by
 refine enter w [] 110 [] [.agg (cu32 st).toArray, .agg (cu8 blk).toArray] Tryd.func194 rfl rfl (by simp) (BY (by simp) (by simp) (by simp)) ?_
 show JC _ _ _ [(0, .agg (cu32 st).toArray), (1, .agg (cu8 blk).toArray)] _
 refine AG (AB (A2 (DN (.agg (cu32 st).toArray) (cu32 st) rfl (by first | rfl | simp)) rfl ?_))
 rintro v1 L1 ⟨nb1, hnb1, rfl, rfl⟩
 show JL _ _ _ _ ((2, Ptr nb1 0) :: _) [⟨nb1, cu32 st, 268, (0, 0)⟩]
 refine A2 (DN (.agg (cu8 blk).toArray) (cu8 blk) rfl (by first | rfl | simp)) rfl ?_
 rintro v1 L1 ⟨nb2, hnb2, rfl, rfl⟩
 show JL _ _ _ _ ((3, Ptr nb2 0) :: _) [_, ⟨nb2, cu8 blk, 262, (0, 0)⟩]
 refine A2 (BN _ (cu32 (zr32 8)) Tryd.zeroValue268 (by kernel_rfl)) rfl ?_
 rintro v1 L1 ⟨nb3, hnb3, rfl, rfl⟩
 show JL _ _ _ _ ((4, Ptr nb3 0) :: _) [_, _, ⟨nb3, cu32 (zr32 8), 268, (0, 0)⟩]
 refine AL (AC (AG (AB (AA (.agg (cu32 st).toArray) (AM rfl (A5 Tryd.isAgg268 E3 (F4 hs0) (AT 0 rfl (AJ _)))) rfl ?_))))
 refine A2 (BN _ (cu32 (zr32 8)) Tryd.zeroValue268 (by kernel_rfl)) rfl ?_
 rintro v1 L1 ⟨nb4, hnb4, rfl, rfl⟩
 show JL _ _ _ _ ((5, Ptr nb4 0) :: _) [_, _, _, ⟨nb4, cu32 (zr32 8), 268, (0, 0)⟩]
 refine AY (AU 3 nb4 8 (cu32 (zr32 8)) 268 (cu32 st) rfl rfl rfl E3 (F4 hs0) (by first | exact CF | exact EI | exact EE | (simp [cu8, cu32, cu64, Value.oneCell']; done)) (by simp [(zr32_len 8)]) (A0 (by simp [(zr32_len 8), hs0]))) rfl ?_
 show JL _ _ _ _ _ [_, _, _, ⟨nb4, cu32 st, 268, (0, 0)⟩]
 refine AL (AC (AG (AG (AB (AA (.agg (cu8 blk).toArray) (AM rfl (A5 Tryd.isAgg262 ET (DY hb) (AT 1 rfl (AJ _)))) rfl ?_)))))
 refine AY (AX 202 [.agg (cu8 blk).toArray] (.agg (cu32 (spreadL blk)).toArray) (AZ _ Tryd.call202 rfl) (fun w1 hw1 => spread_c blk w1 hb)) rfl ?_
 show JL _ _ _ _ ((19, .agg (cu32 (spreadL blk)).toArray) :: _) [_, _, _, _]
 refine AA _ (AE rfl) rfl ?_
 refine AL (AC (B4 (B5 [true, false, true, true] ?_)))
 show JC _ _ _ _ [_, _, _]
 refine D4 (ι := Nat × List UInt32) (fun ⟨t, s⟩ => [(2, Ptr nb1 0), (4, Ptr nb3 0), (5, Ptr nb4 0), (19, .agg (cu32 (spreadL blk)).toArray), (20, I64 t)]) (fun ⟨t, s⟩ => [⟨nb1, cu32 st, 268, (0, 0)⟩, ⟨nb3, cu32 (zr32 8), 268, (0, 0)⟩, ⟨nb4, cu32 s, 268, (0, 0)⟩]) (fun ⟨t, s⟩ => t ≤ 64 ∧ s = cpN constL st (spreadL blk) t ∧ s.length = 8) (fun ⟨t, s⟩ => 64 - t) (0, st) ⟨by omega, by rw [cpN], hs0⟩ (Sub.all rfl) rfl ?_
 rintro ⟨t, s⟩ ⟨hx1, hx2, hs⟩
 show JC _ _ _ [(2, Ptr nb1 0), (4, Ptr nb3 0), (5, Ptr nb4 0), (19, .agg (cu32 (spreadL blk)).toArray), (20, I64 t)] [⟨nb1, cu32 st, 268, (0, 0)⟩, ⟨nb3, cu32 (zr32 8), 268, (0, 0)⟩, ⟨nb4, cu32 s, 268, (0, 0)⟩]
 refine AG (AB (AA (.bool (decide (((t:Int)) < (64:Int)))) (AP rfl rfl fun _ => DC _ _) rfl ?_))
 refine AL (AC (AG (CL (decide (((t:Int)) < (64:Int))) rfl (fun hb1 => ?_) (fun hb1 => ?_))))
 ·
  have hp1 : ((t:Int)) < (64:Int) := of_decide_eq_true hb1
  refine BL (AC (AG (B4 (AG (AB (AA _ (AE rfl) rfl ?_))))))
  refine AA (U32 (g32 (spreadL blk) t)) (Ev_index1 64 267 _ C4 CZ CC rfl rfl (by omega) (by omega) (Seg.get1 (Seg.get (EX (i := t) (by rw [(spreadL_len _)]; omega))) (by omega))) rfl ?_
  refine AA _ (AH rfl) rfl ?_
  refine AA _ (AH rfl) rfl ?_
  refine AL (AC (AG (CH 110 1 [(0, Ptr nb4 0), (1, U32 (g32 s 0)), (2, Ptr nb4 1), (3, U32 (g32 s 1)), (4, Ptr nb4 2), (5, U32 (g32 s 2)), (6, Ptr nb4 4), (7, U32 (g32 s 4)), (8, Ptr nb4 5), (9, U32 (g32 s 5)), (10, Ptr nb4 6), (11, U32 (g32 s 6)), (12, U32 (g32 s 0)), (13, U32 (g32 s 1)), (14, U32 (g32 s 2)), (15, U32 (g32 s 4)), (16, U32 (g32 s 5)), (17, U32 (g32 s 6))] BP rfl (by decide +kernel) ?_)))
  refine C2 ⟨[], [0, 1, 2, 3, 4, 5, 6, 7, 8, 9, 10, 11, 12, 13, 14, 15, 16, 17], [], [0, 1, 2, 3, 4, 5, 6, 7, 8, 9, 10, 11, 12, 13, 14, 15, 16, 17], []⟩ rfl rfl (by decide +kernel) rfl ⟨⟨_, rfl, AI rfl (DA 8 267 1 0 DM CC rfl rfl (by omega) (by omega) (by omega))⟩, ⟨_, rfl, AI rfl (AM rfl (A6 CZ (AT 2 rfl (Seg.get (EX (i := 0) (by rw [hs]; omega))))))⟩, ⟨_, rfl, AI rfl (DA 8 267 1 1 DM CC rfl rfl (by omega) (by omega) (by omega))⟩, ⟨_, rfl, AI rfl (AM rfl (A6 CZ (AT 2 rfl (Seg.get (EX (i := 1) (by rw [hs]; omega))))))⟩, ⟨_, rfl, AI rfl (DA 8 267 1 2 DM CC rfl rfl (by omega) (by omega) (by omega))⟩, ⟨_, rfl, AI rfl (AM rfl (A6 CZ (AT 2 rfl (Seg.get (EX (i := 2) (by rw [hs]; omega))))))⟩, ⟨_, rfl, AI rfl (DA 8 267 1 4 DM CC rfl rfl (by omega) (by omega) (by omega))⟩, ⟨_, rfl, AI rfl (AM rfl (A6 CZ (AT 2 rfl (Seg.get (EX (i := 4) (by rw [hs]; omega))))))⟩, ⟨_, rfl, AI rfl (DA 8 267 1 5 DM CC rfl rfl (by omega) (by omega) (by omega))⟩, ⟨_, rfl, AI rfl (AM rfl (A6 CZ (AT 2 rfl (Seg.get (EX (i := 5) (by rw [hs]; omega))))))⟩, ⟨_, rfl, AI rfl (DA 8 267 1 6 DM CC rfl rfl (by omega) (by omega) (by omega))⟩, ⟨_, rfl, AI rfl (AM rfl (A6 CZ (AT 2 rfl (Seg.get (EX (i := 6) (by rw [hs]; omega))))))⟩, ⟨_, rfl, AI rfl (AH rfl)⟩, ⟨_, rfl, AI rfl (AH rfl)⟩, ⟨_, rfl, AI rfl (AH rfl)⟩, ⟨_, rfl, AI rfl (AH rfl)⟩, ⟨_, rfl, AI rfl (AH rfl)⟩, ⟨_, rfl, AI rfl (AH rfl)⟩, trivial⟩ ?_
  refine CB (F' := [(24, Ptr nb4 0), (25, U32 (g32 s 0)), (26, Ptr nb4 1), (27, U32 (g32 s 1)), (28, Ptr nb4 2), (29, U32 (g32 s 2)), (30, Ptr nb4 4), (31, U32 (g32 s 4)), (32, Ptr nb4 5), (33, U32 (g32 s 5)), (34, Ptr nb4 6), (35, U32 (g32 s 6)), (8, U32 (g32 s 0)), (9, U32 (g32 s 1)), (10, U32 (g32 s 2)), (11, U32 (g32 s 4)), (12, U32 (g32 s 5)), (13, U32 (g32 s 6)), (2, Ptr nb1 0), (4, Ptr nb3 0), (5, Ptr nb4 0), (19, .agg (cu32 (spreadL blk)).toArray), (20, I64 t), (21, .bool (decide (((t:Int)) < (64:Int)))), (22, I64 t), (23, U32 (g32 (spreadL blk) t)), (6, I64 t), (7, U32 (g32 (spreadL blk) t))]) (by kernel_rfl) ?_
  refine AC (AG (CH 110 4 [(0, Ptr nb4 7), (1, U32 (g32 s 7)), (2, U32 (g32 s 4)), (4, U32 (g32 s 4)), (7, U32 (g32 s 4)), (11, U32 (g32 s 4)), (12, U32 (g32 s 5)), (13, U32 ((g32 s 4) &&& (g32 s 5))), (14, U32 (g32 s 4)), (15, U32 (~~~(g32 s 4))), (16, U32 (g32 s 6)), (17, U32 ((~~~(g32 s 4)) &&& (g32 s 6))), (18, U32 (((g32 s 4) &&& (g32 s 5)) ^^^ ((~~~(g32 s 4)) &&& (g32 s 6)))), (20, I64 t), (21, Ptr 5 t), (22, U32 (g32 constL t)), (24, U32 (g32 (spreadL blk) t))] BP rfl (by decide +kernel) ?_))
  refine B6 ⟨[], [0, 1, 2, 4, 7, 11, 12, 13, 14, 15, 16, 17, 18, 20, 21, 22, 24], [], [0, 1, 2, 4, 7, 11, 12, 13, 14, 15, 16, 17, 18, 20, 21, 22, 24], [3]⟩ 3 rfl rfl (by decide +kernel) rfl ⟨⟨_, rfl, AI rfl (DA 8 267 1 7 DM CC rfl rfl (by omega) (by omega) (by omega))⟩, ⟨_, rfl, AI rfl (AM rfl (A6 CZ (AT 2 rfl (Seg.get (EX (i := 7) (by rw [hs]; omega))))))⟩, BQ rfl rfl rfl, BQ rfl rfl rfl, BQ rfl rfl rfl, BQ rfl rfl rfl, BQ rfl rfl rfl, ⟨_, rfl, AI rfl (AP rfl rfl fun _ => FK (g32 s 4) (g32 s 5))⟩, BQ rfl rfl rfl, ⟨_, rfl, AI rfl (Ev_un _ _ rfl fun _ => un_xor_u32 _)⟩, BQ rfl rfl rfl, ⟨_, rfl, AI rfl (AP rfl rfl fun _ => FK (~~~(g32 s 4)) (g32 s 6))⟩, ⟨_, rfl, AI rfl (AP rfl rfl fun _ => D6 ((g32 s 4) &&& (g32 s 5)) ((~~~(g32 s 4)) &&& (g32 s 6)))⟩, BQ rfl rfl rfl, ⟨_, rfl, AI rfl (DA 64 267 1 t C4 CC rfl rfl (by omega) (by omega) (by omega))⟩, ⟨_, rfl, AI rfl (AM rfl (A6 CZ (CW (hG.1.mem (by simp)) (Seg.get (EX (i := t) (by rw [constL_len]; omega))) (by omega))))⟩, BQ rfl rfl rfl, trivial⟩ rfl (A7 rfl (AX 203 [U32 (g32 s 4), I64 6] (U32 (rotr (g32 s 4) 6)) (AZ _ Tryd.call203 rfl) (fun w1 hw1 => turn_c (g32 s 4) 6 w1 (by omega) (by omega)))) ?_
  show DP _ _ _ _ _ _ _ _ [_, _, _]
  refine C5 ⟨[3], [0, 1, 2, 4, 7, 11, 12, 13, 14, 15, 16, 17, 18, 20, 21, 22, 24], [2], [0, 1, 4, 7, 11, 12, 13, 14, 15, 16, 17, 18, 20, 21, 22, 24], [5]⟩ 5 _ rfl rfl (by decide +kernel) rfl ⟨⟨_, rfl, AI rfl (DA 8 267 1 7 DM CC rfl rfl (by omega) (by omega) (by omega))⟩, ⟨_, rfl, AI rfl (AM rfl (A6 CZ (AT 2 rfl (Seg.get (EX (i := 7) (by rw [hs]; omega))))))⟩, BQ rfl rfl rfl, BQ rfl rfl rfl, BQ rfl rfl rfl, BQ rfl rfl rfl, ⟨_, rfl, AI rfl (AP rfl rfl fun _ => FK (g32 s 4) (g32 s 5))⟩, BQ rfl rfl rfl, ⟨_, rfl, AI rfl (Ev_un _ _ rfl fun _ => un_xor_u32 _)⟩, BQ rfl rfl rfl, ⟨_, rfl, AI rfl (AP rfl rfl fun _ => FK (~~~(g32 s 4)) (g32 s 6))⟩, ⟨_, rfl, AI rfl (AP rfl rfl fun _ => D6 ((g32 s 4) &&& (g32 s 5)) ((~~~(g32 s 4)) &&& (g32 s 6)))⟩, BQ rfl rfl rfl, ⟨_, rfl, AI rfl (DA 64 267 1 t C4 CC rfl rfl (by omega) (by omega) (by omega))⟩, ⟨_, rfl, AI rfl (AM rfl (A6 CZ (CW (hG.1.mem (by simp)) (Seg.get (EX (i := t) (by rw [constL_len]; omega))) (by omega))))⟩, BQ rfl rfl rfl, trivial⟩ rfl (A7 rfl (AX 203 [U32 (g32 s 4), I64 11] (U32 (rotr (g32 s 4) 11)) (AZ _ Tryd.call203 rfl) (fun w1 hw1 => turn_c (g32 s 4) 11 w1 (by omega) (by omega)))) ?_
  rintro v1 L1 ⟨rfl, rfl⟩
  refine ⟨[(6, U32 ((rotr (g32 s 4) 6) ^^^ (rotr (g32 s 4) 11)))], ?_⟩
  show DP _ _ _ _ _ _ _ _ [_, _, _]
  refine C5 ⟨[3, 5], [0, 1, 2, 4, 6, 7, 11, 12, 13, 14, 15, 16, 17, 18, 20, 21, 22, 24], [2, 4], [0, 1, 6, 7, 11, 12, 13, 14, 15, 16, 17, 18, 20, 21, 22, 24], [8]⟩ 8 _ rfl rfl (by decide +kernel) rfl ⟨⟨_, rfl, AI rfl (DA 8 267 1 7 DM CC rfl rfl (by omega) (by omega) (by omega))⟩, ⟨_, rfl, AI rfl (AM rfl (A6 CZ (AT 2 rfl (Seg.get (EX (i := 7) (by rw [hs]; omega))))))⟩, ⟨_, rfl, AI rfl (AP rfl rfl fun _ => D6 (rotr (g32 s 4) 6) (rotr (g32 s 4) 11))⟩, BQ rfl rfl rfl, BQ rfl rfl rfl, BQ rfl rfl rfl, ⟨_, rfl, AI rfl (AP rfl rfl fun _ => FK (g32 s 4) (g32 s 5))⟩, BQ rfl rfl rfl, ⟨_, rfl, AI rfl (Ev_un _ _ rfl fun _ => un_xor_u32 _)⟩, BQ rfl rfl rfl, ⟨_, rfl, AI rfl (AP rfl rfl fun _ => FK (~~~(g32 s 4)) (g32 s 6))⟩, ⟨_, rfl, AI rfl (AP rfl rfl fun _ => D6 ((g32 s 4) &&& (g32 s 5)) ((~~~(g32 s 4)) &&& (g32 s 6)))⟩, BQ rfl rfl rfl, ⟨_, rfl, AI rfl (DA 64 267 1 t C4 CC rfl rfl (by omega) (by omega) (by omega))⟩, ⟨_, rfl, AI rfl (AM rfl (A6 CZ (CW (hG.1.mem (by simp)) (Seg.get (EX (i := t) (by rw [constL_len]; omega))) (by omega))))⟩, BQ rfl rfl rfl, trivial⟩ rfl (A7 rfl (AX 203 [U32 (g32 s 4), I64 25] (U32 (rotr (g32 s 4) 25)) (AZ _ Tryd.call203 rfl) (fun w1 hw1 => turn_c (g32 s 4) 25 w1 (by omega) (by omega)))) ?_
  rintro v1 L1 ⟨rfl, rfl⟩
  refine ⟨[(9, U32 (((rotr (g32 s 4) 6) ^^^ (rotr (g32 s 4) 11)) ^^^ (rotr (g32 s 4) 25))), (10, U32 ((g32 s 7) + (((rotr (g32 s 4) 6) ^^^ (rotr (g32 s 4) 11)) ^^^ (rotr (g32 s 4) 25)))), (19, U32 (((g32 s 7) + (((rotr (g32 s 4) 6) ^^^ (rotr (g32 s 4) 11)) ^^^ (rotr (g32 s 4) 25))) + (((g32 s 4) &&& (g32 s 5)) ^^^ ((~~~(g32 s 4)) &&& (g32 s 6))))), (23, U32 ((((g32 s 7) + (((rotr (g32 s 4) 6) ^^^ (rotr (g32 s 4) 11)) ^^^ (rotr (g32 s 4) 25))) + (((g32 s 4) &&& (g32 s 5)) ^^^ ((~~~(g32 s 4)) &&& (g32 s 6)))) + (g32 constL t))), (25, U32 (((((g32 s 7) + (((rotr (g32 s 4) 6) ^^^ (rotr (g32 s 4) 11)) ^^^ (rotr (g32 s 4) 25))) + (((g32 s 4) &&& (g32 s 5)) ^^^ ((~~~(g32 s 4)) &&& (g32 s 6)))) + (g32 constL t)) + (g32 (spreadL blk) t))), (26, U32 (((((g32 s 7) + (((rotr (g32 s 4) 6) ^^^ (rotr (g32 s 4) 11)) ^^^ (rotr (g32 s 4) 25))) + (((g32 s 4) &&& (g32 s 5)) ^^^ ((~~~(g32 s 4)) &&& (g32 s 6)))) + (g32 constL t)) + (g32 (spreadL blk) t)))], ?_⟩
  show DP _ _ _ _ _ _ _ _ [_, _, _]
  refine C2 ⟨[3, 5, 8], [0, 1, 2, 4, 6, 7, 9, 10, 11, 12, 13, 14, 15, 16, 17, 18, 19, 20, 21, 22, 23, 24, 25, 26], [2, 4, 7], [0, 1, 6, 9, 10, 11, 12, 13, 14, 15, 16, 17, 18, 19, 20, 21, 22, 23, 24, 25, 26], []⟩ rfl rfl (by decide +kernel) rfl ⟨⟨_, rfl, AI rfl (DA 8 267 1 7 DM CC rfl rfl (by omega) (by omega) (by omega))⟩, ⟨_, rfl, AI rfl (AM rfl (A6 CZ (AT 2 rfl (Seg.get (EX (i := 7) (by rw [hs]; omega))))))⟩, ⟨_, rfl, AI rfl (AP rfl rfl fun _ => D6 (rotr (g32 s 4) 6) (rotr (g32 s 4) 11))⟩, ⟨_, rfl, AI rfl (AP rfl rfl fun _ => D6 ((rotr (g32 s 4) 6) ^^^ (rotr (g32 s 4) 11)) (rotr (g32 s 4) 25))⟩, ⟨_, rfl, AI rfl (AP rfl rfl fun _ => EY (g32 s 7) (((rotr (g32 s 4) 6) ^^^ (rotr (g32 s 4) 11)) ^^^ (rotr (g32 s 4) 25)))⟩, BQ rfl rfl rfl, BQ rfl rfl rfl, ⟨_, rfl, AI rfl (AP rfl rfl fun _ => FK (g32 s 4) (g32 s 5))⟩, BQ rfl rfl rfl, ⟨_, rfl, AI rfl (Ev_un _ _ rfl fun _ => un_xor_u32 _)⟩, BQ rfl rfl rfl, ⟨_, rfl, AI rfl (AP rfl rfl fun _ => FK (~~~(g32 s 4)) (g32 s 6))⟩, ⟨_, rfl, AI rfl (AP rfl rfl fun _ => D6 ((g32 s 4) &&& (g32 s 5)) ((~~~(g32 s 4)) &&& (g32 s 6)))⟩, ⟨_, rfl, AI rfl (AP rfl rfl fun _ => EY ((g32 s 7) + (((rotr (g32 s 4) 6) ^^^ (rotr (g32 s 4) 11)) ^^^ (rotr (g32 s 4) 25))) (((g32 s 4) &&& (g32 s 5)) ^^^ ((~~~(g32 s 4)) &&& (g32 s 6))))⟩, BQ rfl rfl rfl, ⟨_, rfl, AI rfl (DA 64 267 1 t C4 CC rfl rfl (by omega) (by omega) (by omega))⟩, ⟨_, rfl, AI rfl (AM rfl (A6 CZ (CW (hG.1.mem (by simp)) (Seg.get (EX (i := t) (by rw [constL_len]; omega))) (by omega))))⟩, ⟨_, rfl, AI rfl (AP rfl rfl fun _ => EY (((g32 s 7) + (((rotr (g32 s 4) 6) ^^^ (rotr (g32 s 4) 11)) ^^^ (rotr (g32 s 4) 25))) + (((g32 s 4) &&& (g32 s 5)) ^^^ ((~~~(g32 s 4)) &&& (g32 s 6)))) (g32 constL t))⟩, BQ rfl rfl rfl, ⟨_, rfl, AI rfl (AP rfl rfl fun _ => EY ((((g32 s 7) + (((rotr (g32 s 4) 6) ^^^ (rotr (g32 s 4) 11)) ^^^ (rotr (g32 s 4) 25))) + (((g32 s 4) &&& (g32 s 5)) ^^^ ((~~~(g32 s 4)) &&& (g32 s 6)))) + (g32 constL t)) (g32 (spreadL blk) t))⟩, ⟨_, rfl, AI rfl (AH rfl)⟩, trivial⟩ ?_
  refine CB (F' := [(36, Ptr nb4 7), (37, U32 (g32 s 7)), (38, U32 (g32 s 4)), (39, U32 (rotr (g32 s 4) 6)), (40, U32 (g32 s 4)), (41, U32 (rotr (g32 s 4) 11)), (42, U32 ((rotr (g32 s 4) 6) ^^^ (rotr (g32 s 4) 11))), (43, U32 (g32 s 4)), (44, U32 (rotr (g32 s 4) 25)), (45, U32 (((rotr (g32 s 4) 6) ^^^ (rotr (g32 s 4) 11)) ^^^ (rotr (g32 s 4) 25))), (46, U32 ((g32 s 7) + (((rotr (g32 s 4) 6) ^^^ (rotr (g32 s 4) 11)) ^^^ (rotr (g32 s 4) 25)))), (47, U32 (g32 s 4)), (48, U32 (g32 s 5)), (49, U32 ((g32 s 4) &&& (g32 s 5))), (50, U32 (g32 s 4)), (51, U32 (~~~(g32 s 4))), (52, U32 (g32 s 6)), (53, U32 ((~~~(g32 s 4)) &&& (g32 s 6))), (54, U32 (((g32 s 4) &&& (g32 s 5)) ^^^ ((~~~(g32 s 4)) &&& (g32 s 6)))), (55, U32 (((g32 s 7) + (((rotr (g32 s 4) 6) ^^^ (rotr (g32 s 4) 11)) ^^^ (rotr (g32 s 4) 25))) + (((g32 s 4) &&& (g32 s 5)) ^^^ ((~~~(g32 s 4)) &&& (g32 s 6))))), (56, I64 t), (57, Ptr 5 t), (58, U32 (g32 constL t)), (59, U32 ((((g32 s 7) + (((rotr (g32 s 4) 6) ^^^ (rotr (g32 s 4) 11)) ^^^ (rotr (g32 s 4) 25))) + (((g32 s 4) &&& (g32 s 5)) ^^^ ((~~~(g32 s 4)) &&& (g32 s 6)))) + (g32 constL t))), (60, U32 (g32 (spreadL blk) t)), (61, U32 (((((g32 s 7) + (((rotr (g32 s 4) 6) ^^^ (rotr (g32 s 4) 11)) ^^^ (rotr (g32 s 4) 25))) + (((g32 s 4) &&& (g32 s 5)) ^^^ ((~~~(g32 s 4)) &&& (g32 s 6)))) + (g32 constL t)) + (g32 (spreadL blk) t))), (14, U32 (((((g32 s 7) + (((rotr (g32 s 4) 6) ^^^ (rotr (g32 s 4) 11)) ^^^ (rotr (g32 s 4) 25))) + (((g32 s 4) &&& (g32 s 5)) ^^^ ((~~~(g32 s 4)) &&& (g32 s 6)))) + (g32 constL t)) + (g32 (spreadL blk) t))), (24, Ptr nb4 0), (25, U32 (g32 s 0)), (26, Ptr nb4 1), (27, U32 (g32 s 1)), (28, Ptr nb4 2), (29, U32 (g32 s 2)), (30, Ptr nb4 4), (31, U32 (g32 s 4)), (32, Ptr nb4 5), (33, U32 (g32 s 5)), (34, Ptr nb4 6), (35, U32 (g32 s 6)), (8, U32 (g32 s 0)), (9, U32 (g32 s 1)), (10, U32 (g32 s 2)), (11, U32 (g32 s 4)), (12, U32 (g32 s 5)), (13, U32 (g32 s 6)), (2, Ptr nb1 0), (4, Ptr nb3 0), (5, Ptr nb4 0), (19, .agg (cu32 (spreadL blk)).toArray), (20, I64 t), (21, .bool (decide (((t:Int)) < (64:Int)))), (22, I64 t), (23, U32 (g32 (spreadL blk) t)), (6, I64 t), (7, U32 (g32 (spreadL blk) t))]) (by kernel_rfl) ?_
  refine AC (AG (AB (AA _ (AE rfl) rfl ?_)))
  refine AY (AX 203 [U32 (g32 s 0), I64 2] (U32 (rotr (g32 s 0) 2)) (AZ _ Tryd.call203 rfl) (fun w1 hw1 => turn_c (g32 s 0) 2 w1 (by omega) (by omega))) rfl ?_
  show JL _ _ _ _ ((63, U32 (rotr (g32 s 0) 2)) :: _) [_, _, _]
  refine AA _ (AE rfl) rfl ?_
  refine AY (AX 203 [U32 (g32 s 0), I64 13] (U32 (rotr (g32 s 0) 13)) (AZ _ Tryd.call203 rfl) (fun w1 hw1 => turn_c (g32 s 0) 13 w1 (by omega) (by omega))) rfl ?_
  show JL _ _ _ _ ((65, U32 (rotr (g32 s 0) 13)) :: _) [_, _, _]
  refine AA (U32 ((rotr (g32 s 0) 2) ^^^ (rotr (g32 s 0) 13))) (AP rfl rfl fun _ => D6 (rotr (g32 s 0) 2) (rotr (g32 s 0) 13)) rfl ?_
  refine AA _ (AE rfl) rfl ?_
  refine AY (AX 203 [U32 (g32 s 0), I64 22] (U32 (rotr (g32 s 0) 22)) (AZ _ Tryd.call203 rfl) (fun w1 hw1 => turn_c (g32 s 0) 22 w1 (by omega) (by omega))) rfl ?_
  show JL _ _ _ _ ((68, U32 (rotr (g32 s 0) 22)) :: _) [_, _, _]
  refine AA (U32 (((rotr (g32 s 0) 2) ^^^ (rotr (g32 s 0) 13)) ^^^ (rotr (g32 s 0) 22))) (AP rfl rfl fun _ => D6 ((rotr (g32 s 0) 2) ^^^ (rotr (g32 s 0) 13)) (rotr (g32 s 0) 22)) rfl ?_
  refine AA _ (AE rfl) rfl ?_
  refine AA _ (AE rfl) rfl ?_
  refine AA (U32 ((g32 s 0) &&& (g32 s 1))) (AP rfl rfl fun _ => FK (g32 s 0) (g32 s 1)) rfl ?_
  refine AA _ (AE rfl) rfl ?_
  refine AA _ (AE rfl) rfl ?_
  refine AA (U32 ((g32 s 0) &&& (g32 s 2))) (AP rfl rfl fun _ => FK (g32 s 0) (g32 s 2)) rfl ?_
  refine AA (U32 (((g32 s 0) &&& (g32 s 1)) ^^^ ((g32 s 0) &&& (g32 s 2)))) (AP rfl rfl fun _ => D6 ((g32 s 0) &&& (g32 s 1)) ((g32 s 0) &&& (g32 s 2))) rfl ?_
  refine AA _ (AE rfl) rfl ?_
  refine AA _ (AE rfl) rfl ?_
  refine AA (U32 ((g32 s 1) &&& (g32 s 2))) (AP rfl rfl fun _ => FK (g32 s 1) (g32 s 2)) rfl ?_
  refine AA (U32 ((((g32 s 0) &&& (g32 s 1)) ^^^ ((g32 s 0) &&& (g32 s 2))) ^^^ ((g32 s 1) &&& (g32 s 2)))) (AP rfl rfl fun _ => D6 (((g32 s 0) &&& (g32 s 1)) ^^^ ((g32 s 0) &&& (g32 s 2))) ((g32 s 1) &&& (g32 s 2))) rfl ?_
  refine AA (U32 ((((rotr (g32 s 0) 2) ^^^ (rotr (g32 s 0) 13)) ^^^ (rotr (g32 s 0) 22)) + ((((g32 s 0) &&& (g32 s 1)) ^^^ ((g32 s 0) &&& (g32 s 2))) ^^^ ((g32 s 1) &&& (g32 s 2))))) (AP rfl rfl fun _ => EY (((rotr (g32 s 0) 2) ^^^ (rotr (g32 s 0) 13)) ^^^ (rotr (g32 s 0) 22)) ((((g32 s 0) &&& (g32 s 1)) ^^^ ((g32 s 0) &&& (g32 s 2))) ^^^ ((g32 s 1) &&& (g32 s 2)))) rfl ?_
  refine AA _ (AH rfl) rfl ?_
  refine AL (AC (AB (AA _ (AE rfl) rfl ?_)))
  refine AA _ (AE rfl) rfl ?_
  refine AA (U32 ((((((g32 s 7) + (((rotr (g32 s 4) 6) ^^^ (rotr (g32 s 4) 11)) ^^^ (rotr (g32 s 4) 25))) + (((g32 s 4) &&& (g32 s 5)) ^^^ ((~~~(g32 s 4)) &&& (g32 s 6)))) + (g32 constL t)) + (g32 (spreadL blk) t)) + ((((rotr (g32 s 0) 2) ^^^ (rotr (g32 s 0) 13)) ^^^ (rotr (g32 s 0) 22)) + ((((g32 s 0) &&& (g32 s 1)) ^^^ ((g32 s 0) &&& (g32 s 2))) ^^^ ((g32 s 1) &&& (g32 s 2)))))) (AP rfl rfl fun _ => EY (((((g32 s 7) + (((rotr (g32 s 4) 6) ^^^ (rotr (g32 s 4) 11)) ^^^ (rotr (g32 s 4) 25))) + (((g32 s 4) &&& (g32 s 5)) ^^^ ((~~~(g32 s 4)) &&& (g32 s 6)))) + (g32 constL t)) + (g32 (spreadL blk) t)) ((((rotr (g32 s 0) 2) ^^^ (rotr (g32 s 0) 13)) ^^^ (rotr (g32 s 0) 22)) + ((((g32 s 0) &&& (g32 s 1)) ^^^ ((g32 s 0) &&& (g32 s 2))) ^^^ ((g32 s 1) &&& (g32 s 2))))) rfl ?_
  refine AA _ (AE rfl) rfl ?_
  refine AA _ (AE rfl) rfl ?_
  refine AA _ (AE rfl) rfl ?_
  refine AA (Ptr nb4 3) (DA 8 267 1 3 DM CC rfl rfl (by omega) (by omega) (by omega)) rfl ?_
  refine AA (U32 (g32 s 3)) (AM rfl (A6 CZ (AT 2 rfl (Seg.get (EX (i := 3) (by rw [hs]; omega)))))) rfl ?_
  refine AA _ (AE rfl) rfl ?_
  refine AA (U32 ((g32 s 3) + (((((g32 s 7) + (((rotr (g32 s 4) 6) ^^^ (rotr (g32 s 4) 11)) ^^^ (rotr (g32 s 4) 25))) + (((g32 s 4) &&& (g32 s 5)) ^^^ ((~~~(g32 s 4)) &&& (g32 s 6)))) + (g32 constL t)) + (g32 (spreadL blk) t)))) (AP rfl rfl fun _ => EY (g32 s 3) (((((g32 s 7) + (((rotr (g32 s 4) 6) ^^^ (rotr (g32 s 4) 11)) ^^^ (rotr (g32 s 4) 25))) + (((g32 s 4) &&& (g32 s 5)) ^^^ ((~~~(g32 s 4)) &&& (g32 s 6)))) + (g32 constL t)) + (g32 (spreadL blk) t))) rfl ?_
  refine AA _ (AE rfl) rfl ?_
  refine AA _ (AE rfl) rfl ?_
  refine AA _ (AE rfl) rfl ?_
  refine AA (.agg (cu32 ([(((((g32 s 7) + (((rotr (g32 s 4) 6) ^^^ (rotr (g32 s 4) 11)) ^^^ (rotr (g32 s 4) 25))) + (((g32 s 4) &&& (g32 s 5)) ^^^ ((~~~(g32 s 4)) &&& (g32 s 6)))) + (g32 constL t)) + (g32 (spreadL blk) t)) + ((((rotr (g32 s 0) 2) ^^^ (rotr (g32 s 0) 13)) ^^^ (rotr (g32 s 0) 22)) + ((((g32 s 0) &&& (g32 s 1)) ^^^ ((g32 s 0) &&& (g32 s 2))) ^^^ ((g32 s 1) &&& (g32 s 2)))), g32 s 0, g32 s 1, g32 s 2, (g32 s 3) + (((((g32 s 7) + (((rotr (g32 s 4) 6) ^^^ (rotr (g32 s 4) 11)) ^^^ (rotr (g32 s 4) 25))) + (((g32 s 4) &&& (g32 s 5)) ^^^ ((~~~(g32 s 4)) &&& (g32 s 6)))) + (g32 constL t)) + (g32 (spreadL blk) t)), g32 s 4, g32 s 5, g32 s 6])).toArray) (DG [(0, U32 ((((((g32 s 7) + (((rotr (g32 s 4) 6) ^^^ (rotr (g32 s 4) 11)) ^^^ (rotr (g32 s 4) 25))) + (((g32 s 4) &&& (g32 s 5)) ^^^ ((~~~(g32 s 4)) &&& (g32 s 6)))) + (g32 constL t)) + (g32 (spreadL blk) t)) + ((((rotr (g32 s 0) 2) ^^^ (rotr (g32 s 0) 13)) ^^^ (rotr (g32 s 0) 22)) + ((((g32 s 0) &&& (g32 s 1)) ^^^ ((g32 s 0) &&& (g32 s 2))) ^^^ ((g32 s 1) &&& (g32 s 2)))))), (1, U32 (g32 s 0)), (2, U32 (g32 s 1)), (3, U32 (g32 s 2)), (4, U32 ((g32 s 3) + (((((g32 s 7) + (((rotr (g32 s 4) 6) ^^^ (rotr (g32 s 4) 11)) ^^^ (rotr (g32 s 4) 25))) + (((g32 s 4) &&& (g32 s 5)) ^^^ ((~~~(g32 s 4)) &&& (g32 s 6)))) + (g32 constL t)) + (g32 (spreadL blk) t)))), (5, U32 (g32 s 4)), (6, U32 (g32 s 5)), (7, U32 (g32 s 6))] _ rfl (fun _ => by kernel_rfl)) rfl ?_
  refine AY (AU 2 nb4 8 (cu32 s) 268 (cu32 ([(((((g32 s 7) + (((rotr (g32 s 4) 6) ^^^ (rotr (g32 s 4) 11)) ^^^ (rotr (g32 s 4) 25))) + (((g32 s 4) &&& (g32 s 5)) ^^^ ((~~~(g32 s 4)) &&& (g32 s 6)))) + (g32 constL t)) + (g32 (spreadL blk) t)) + ((((rotr (g32 s 0) 2) ^^^ (rotr (g32 s 0) 13)) ^^^ (rotr (g32 s 0) 22)) + ((((g32 s 0) &&& (g32 s 1)) ^^^ ((g32 s 0) &&& (g32 s 2))) ^^^ ((g32 s 1) &&& (g32 s 2)))), g32 s 0, g32 s 1, g32 s 2, (g32 s 3) + (((((g32 s 7) + (((rotr (g32 s 4) 6) ^^^ (rotr (g32 s 4) 11)) ^^^ (rotr (g32 s 4) 25))) + (((g32 s 4) &&& (g32 s 5)) ^^^ ((~~~(g32 s 4)) &&& (g32 s 6)))) + (g32 constL t)) + (g32 (spreadL blk) t)), g32 s 4, g32 s 5, g32 s 6])) rfl rfl rfl E3 (by simp []) (by first | exact CF | exact EI | exact EE | (simp [cu8, cu32, cu64, Value.oneCell']; done)) (by simp [hs]) (A0 (by simp [hs]))) rfl ?_
  show JL _ _ _ _ _ [_, _, ⟨nb4, cu32 ([(((((g32 s 7) + (((rotr (g32 s 4) 6) ^^^ (rotr (g32 s 4) 11)) ^^^ (rotr (g32 s 4) 25))) + (((g32 s 4) &&& (g32 s 5)) ^^^ ((~~~(g32 s 4)) &&& (g32 s 6)))) + (g32 constL t)) + (g32 (spreadL blk) t)) + ((((rotr (g32 s 0) 2) ^^^ (rotr (g32 s 0) 13)) ^^^ (rotr (g32 s 0) 22)) + ((((g32 s 0) &&& (g32 s 1)) ^^^ ((g32 s 0) &&& (g32 s 2))) ^^^ ((g32 s 1) &&& (g32 s 2)))), g32 s 0, g32 s 1, g32 s 2, (g32 s 3) + (((((g32 s 7) + (((rotr (g32 s 4) 6) ^^^ (rotr (g32 s 4) 11)) ^^^ (rotr (g32 s 4) 25))) + (((g32 s 4) &&& (g32 s 5)) ^^^ ((~~~(g32 s 4)) &&& (g32 s 6)))) + (g32 constL t)) + (g32 (spreadL blk) t)), g32 s 4, g32 s 5, g32 s 6]), 268, (0, 0)⟩]
  refine AL (B0 (AC (AB (AA (I64 ((t:Int) + 1)) (AP rfl rfl fun _ => DL _ _ ((t:Int) + 1) (by omega) (by omega)) rfl ?_))))
  refine AA _ (AE rfl) rfl ?_
  refine AL (DO (ER (t + 1, [(((((g32 s 7) + (((rotr (g32 s 4) 6) ^^^ (rotr (g32 s 4) 11)) ^^^ (rotr (g32 s 4) 25))) + (((g32 s 4) &&& (g32 s 5)) ^^^ ((~~~(g32 s 4)) &&& (g32 s 6)))) + (g32 constL t)) + (g32 (spreadL blk) t)) + ((((rotr (g32 s 0) 2) ^^^ (rotr (g32 s 0) 13)) ^^^ (rotr (g32 s 0) 22)) + ((((g32 s 0) &&& (g32 s 1)) ^^^ ((g32 s 0) &&& (g32 s 2))) ^^^ ((g32 s 1) &&& (g32 s 2)))), g32 s 0, g32 s 1, g32 s 2, (g32 s 3) + (((((g32 s 7) + (((rotr (g32 s 4) 6) ^^^ (rotr (g32 s 4) 11)) ^^^ (rotr (g32 s 4) 25))) + (((g32 s 4) &&& (g32 s 5)) ^^^ ((~~~(g32 s 4)) &&& (g32 s 6)))) + (g32 constL t)) + (g32 (spreadL blk) t)), g32 s 4, g32 s 5, g32 s 6]) ⟨by omega, by rw [cpN, ← hx2]; rfl, rfl⟩ (by first | (simp; omega) | simp | (dsimp only; omega) | omega) (Sub.all rfl) rfl))
 ·
  have hp1 : ¬ (((t:Int)) < (64:Int)) := of_decide_eq_false hb1
  refine DU (A9 (A9 (CR (AC (AG (AG (AB (AA _ (AE rfl) rfl ?_))))))))
  refine AL (AC (B4 (D4 (ι := Nat × List UInt32) (fun ⟨i, u⟩ => [(2, Ptr nb1 0), (4, Ptr nb3 0), (5, Ptr nb4 0), (97, I64 i)]) (fun ⟨i, u⟩ => [⟨nb1, cu32 st, 268, (0, 0)⟩, ⟨nb3, cu32 (zr32 8), 268, (0, 0)⟩, ⟨nb4, cu32 u, 268, (0, 0)⟩]) (fun ⟨i, u⟩ => i ≤ 8 ∧ u = adN st s i ∧ u.length = 8) (fun ⟨i, u⟩ => 8 - i) (0, s) ⟨by omega, by rw [adN], hs⟩ (Sub.all rfl) rfl ?_)))
  rintro ⟨i, u⟩ ⟨hy1, hy2, hu⟩
  show JC _ _ _ [(2, Ptr nb1 0), (4, Ptr nb3 0), (5, Ptr nb4 0), (97, I64 i)] [⟨nb1, cu32 st, 268, (0, 0)⟩, ⟨nb3, cu32 (zr32 8), 268, (0, 0)⟩, ⟨nb4, cu32 u, 268, (0, 0)⟩]
  refine AG (AB (AA (.bool (decide (((i:Int)) < (8:Int)))) (AP rfl rfl fun _ => DC _ _) rfl ?_))
  refine AL (AC (AG (CL (decide (((i:Int)) < (8:Int))) rfl (fun hb2 => ?_) (fun hb2 => ?_))))
  ·
   have hp2 : ((i:Int)) < (8:Int) := of_decide_eq_true hb2
   refine BL (AC (AG (B4 (AG (AB (AA _ (AE rfl) rfl ?_))))))
   refine AA _ (AH rfl) rfl ?_
   refine AL (AC (CH 110 2 [(0, I64 i), (1, Ptr nb4 i), (2, U32 (g32 u i)), (3, I64 i), (4, Ptr nb1 i), (5, U32 (g32 st i)), (6, U32 ((g32 u i) + (g32 st i))), (7, Ptr nb4 i)] BP rfl (by decide +kernel) ?_))
   have hl1 : (u.set i ((g32 u i) + (g32 st i))).length = 8 := by first | (rw [List.length_set]; exact hu) | simp [hu]
   refine B6 ⟨[], [0, 1, 2, 3, 4, 5, 6, 7], [], [0, 1, 2, 3, 4, 5, 6, 7], [8]⟩ 8 rfl rfl (by decide +kernel) rfl ⟨BQ rfl rfl rfl, ⟨_, rfl, AI rfl (DA 8 267 1 i DM CC rfl rfl (by omega) (by omega) (by omega))⟩, ⟨_, rfl, AI rfl (AM rfl (A6 CZ (AT 2 rfl (Seg.get (EX (i := i) (by rw [hu]; omega))))))⟩, BQ rfl rfl rfl, ⟨_, rfl, AI rfl (DA 8 267 1 i DM CC rfl rfl (by omega) (by omega) (by omega))⟩, ⟨_, rfl, AI rfl (AM rfl (A6 CZ (AT 0 rfl (Seg.get (EX (i := i) (by rw [hs0]; omega))))))⟩, ⟨_, rfl, AI rfl (AP rfl rfl fun _ => EY (g32 u i) (g32 st i))⟩, ⟨_, rfl, AI rfl (DA 8 267 1 i DM CC rfl rfl (by omega) (by omega) (by omega))⟩, trivial⟩ rfl (A7 rfl (C0 2 nb4 i 1 (cu32 u) 268 (U32 ((g32 u i) + (g32 st i))) ([U32 ((g32 u i) + (g32 st i))]) (cu32 (u.set i ((g32 u i) + (g32 st i)))) rfl rfl rfl rfl CC rfl (by simp [Value.oneCell']) (by simp [hu]; try omega) (lay32 _ _ _ (by rw [hu]; omega)))) ?_
   show DP _ _ _ _ _ _ _ _ [_, _, ⟨nb4, cu32 (u.set i ((g32 u i) + (g32 st i))), 268, (0, 0)⟩]
   refine C2 ⟨[8], [0, 1, 2, 3, 4, 5, 6, 7], [0, 1, 2, 3, 4, 5, 6, 7], [], []⟩ rfl rfl (by decide +kernel) rfl trivial ?_
   refine CB (F' := [(100, I64 i), (101, Ptr nb4 i), (102, U32 (g32 u i)), (103, I64 i), (104, Ptr nb1 i), (105, U32 (g32 st i)), (106, U32 ((g32 u i) + (g32 st i))), (107, Ptr nb4 i), (2, Ptr nb1 0), (4, Ptr nb3 0), (5, Ptr nb4 0), (97, I64 i), (98, .bool (decide (((i:Int)) < (8:Int)))), (99, I64 i), (16, I64 i)]) (by kernel_rfl) ?_
   refine B0 (AC (AB (AA (I64 ((i:Int) + 1)) (AP rfl rfl fun _ => DL _ _ ((i:Int) + 1) (by omega) (by omega)) rfl ?_)))
   refine AA _ (AE rfl) rfl ?_
   refine AL (DO (ER (i + 1, u.set i ((g32 u i) + (g32 st i))) ⟨by omega, by rw [adN, ← hy2], hl1⟩ (by first | (simp; omega) | simp | (dsimp only; omega) | omega) (Sub.all rfl) rfl))
  ·
   have hp2 : ¬ (((i:Int)) < (8:Int)) := of_decide_eq_false hb2
   refine DU (A9 (A9 (CR (AC (AG (AB (AA (.agg (cu32 u).toArray) (AM rfl (A5 Tryd.isAgg268 E3 (F4 hu) (AT 2 rfl (AJ _)))) rfl ?_)))))))
   refine AY (AU 1 nb3 8 (cu32 (zr32 8)) 268 (cu32 u) rfl rfl rfl E3 (F4 hu) (by first | exact CF | exact EI | exact EE | (simp [cu8, cu32, cu64, Value.oneCell']; done)) (by simp [(zr32_len 8)]) (A0 (by simp [(zr32_len 8), hu]))) rfl ?_
   show JL _ _ _ _ _ [_, ⟨nb3, cu32 u, 268, (0, 0)⟩, _]
   refine AL (AC (BH (BI (.agg (cu32 u).toArray) (res1 Tryd.results194 (CQ rfl (A5 Tryd.isAgg268 E3 (F4 hu) (AT 1 rfl (AJ _))))) fun w1 hw1 => ?_)))
   have e1 : t = 64 := by omega
   have e2 : i = 8 := by omega
   subst e1; subst e2
   rw [show u = comprL constL st blk by rw [comprL, hy2, hx2]]
   exact ⟨_, [], rfl, ⟨rfl, rfl⟩, hw1.sub (by simp) (by simp)⟩
theorem scloneNil_c  (w : World) : Calls Tryd.prog 108 #[.slice none 0 0] w (Post w [] (fun v L => v = .slice none 0 0 ∧ L = [])) := by
 refine enter w [] 8 [] [.slice none 0 0] Tryd.func108 rfl rfl (by simp) (BY (by simp) (by simp) (by simp)) ?_
 show JC _ _ _ [(0, .slice none 0 0)] _
 refine AG (AB (AA _ (AH rfl) rfl ?_))
 refine AL (AC (AG (AG (AB (AA _ (AE rfl) rfl ?_)))))
 refine AA (.bool true) (DT _ _ _ rfl rfl (fun _ => eqGuard_sl ..) fun _ => eql_sl_nil_nil AR) rfl ?_
 refine AL (AC (CM _ rfl rfl ?_))
 refine AG (AB (AA _ (AH rfl) rfl ?_))
 refine AL (AC (BH (A4 (BI (.slice none 0 0) (res1 Tryd.results108 (BU rfl)) fun w1 hw1 => ?_))))
 exact ⟨_, [], rfl, ⟨rfl, rfl⟩, hw1.sub (by simp) (by simp)⟩
theorem sclone_c (ao : Option Addr) (n cb : Nat) (b : List UInt8) (w : World) (ha : ao.isNone = false) (hb : b.length = n) (hn : n ≤ 35184372088832) (hr : RdB w [] ao b) : Calls Tryd.prog 108 #[.slice ao n cb] w (Post w [] (fun v L => ∃ g sp cap, v = Slc g 0 n cap ∧ L = [⟨g, cu8 (b) ++ sp, 5, (0, 0)⟩] ∧ sp.length = cap - n ∧ n ≤ cap ∧ cap ≤ maxLen)) := by
 refine enter w [] 8 [] [.slice ao n cb] Tryd.func108 rfl rfl (by simp) (BY (by simp) (by simp) (by simp)) ?_
 show JC _ _ _ [(0, .slice ao n cb)] _
 refine AG (AB (AA _ (AH rfl) rfl ?_))
 refine AL (AC (AG (AG (AB (AA _ (AE rfl) rfl ?_)))))
 refine AA (.bool ao.isNone) (DT _ _ _ rfl rfl (fun _ => eqGuard_sl ..) fun _ => eql_sl_any AR) rfl ?_
 refine AL (AC (BZ _ rfl ha ?_))
 refine BL (AC (AG (AB (A2 (GB 5 1 AR BC) rfl ?_))))
 rintro v1 L1 ⟨nb1, hnb1, rfl, rfl⟩
 show JL _ _ _ _ ((5, Slc nb1 0 0 0) :: _) [⟨nb1, [], 5, (0, 0)⟩]
 refine AA _ (AE rfl) rfl ?_
 refine A2 (E8 43 5 [true] (Slc nb1 0 0 0) 0 ([] : List UInt8) b ao n cb n AR E7 rfl (.inr ⟨nb1, [], 0, rfl, (by simp [take?, cu8, cu32, cu64]), rfl, (by simp), (by omega), (by unfold maxLen; omega)⟩) rfl (by first | exact hb | simp [hb]; try omega) (hr.src) (by omega) (by unfold maxLen; omega) (by omega)) rfl ?_
 rintro v1 L1 ⟨nb2, sp1, cp1, hg1, rfl, rfl, ha1, ha2, ha3, ha4⟩
 show JL _ _ _ _ ((7, Slc nb2 0 n cp1) :: _) [⟨nb2, cu8 (([] : List UInt8) ++ b) ++ sp1, 5, (0, 0)⟩]
 refine AA _ (AH rfl) rfl ?_
 refine AL (AC (BH (BI (Slc nb2 0 n cp1) (res1 Tryd.results108 (BU rfl)) fun w1 hw1 => ?_)))
 exact ⟨_, _, rfl, ⟨nb2, sp1, cp1, rfl, rfl, ha2, ha3, ha4⟩, hw1⟩
theorem bclone_c (ao : Option Addr) (n cb : Nat) (b : List UInt8) (w : World) (ha : ao.isNone = false) (hb : b.length = n) (hn : n ≤ 35184372088832) (hr : RdB w [] ao b) : Calls Tryd.prog 146 #[.slice ao n cb] w (Post w [] (fun v L => ∃ g sp cap, v = Slc g 0 n cap ∧ L = [⟨g, cu8 (b) ++ sp, 5, (0, 0)⟩] ∧ sp.length = cap - n ∧ n ≤ cap ∧ cap ≤ maxLen)) := by
 refine enter w [] 8 [] [.slice ao n cb] Tryd.func146 rfl rfl (by simp) (BY (by simp) (by simp) (by simp)) ?_
 show JC _ _ _ [(0, .slice ao n cb)] _
 refine AG (AB (AA _ (AH rfl) rfl ?_))
 refine AL (AC (AG (AG (AB (AA _ (AE rfl) rfl ?_)))))
 refine AA (.bool ao.isNone) (DT _ _ _ rfl rfl (fun _ => eqGuard_sl ..) fun _ => eql_sl_any AR) rfl ?_
 refine AL (AC (BZ _ rfl ha ?_))
 refine BL (AC (AG (AB (A2 (GB 5 1 AR BC) rfl ?_))))
 rintro v1 L1 ⟨nb1, hnb1, rfl, rfl⟩
 show JL _ _ _ _ ((5, Slc nb1 0 0 0) :: _) [⟨nb1, [], 5, (0, 0)⟩]
 refine AA _ (AE rfl) rfl ?_
 refine A2 (E8 43 5 [true] (Slc nb1 0 0 0) 0 ([] : List UInt8) b ao n cb n AR E7 rfl (.inr ⟨nb1, [], 0, rfl, (by simp [take?, cu8, cu32, cu64]), rfl, (by simp), (by omega), (by unfold maxLen; omega)⟩) rfl (by first | exact hb | simp [hb]; try omega) (hr.src) (by omega) (by unfold maxLen; omega) (by omega)) rfl ?_
 rintro v1 L1 ⟨nb2, sp1, cp1, hg1, rfl, rfl, ha1, ha2, ha3, ha4⟩
 show JL _ _ _ _ ((7, Slc nb2 0 n cp1) :: _) [⟨nb2, cu8 (([] : List UInt8) ++ b) ++ sp1, 5, (0, 0)⟩]
 refine AA _ (AH rfl) rfl ?_
 refine AL (AC (BH (BI (Slc nb2 0 n cp1) (res1 Tryd.results146 (BU rfl)) fun w1 hw1 => ?_)))
 exact ⟨_, _, rfl, ⟨nb2, sp1, cp1, rfl, rfl, ha2, ha3, ha4⟩, hw1⟩
theorem slc_len {b o l l' c : Nat} (h : l = l') : Slc b o l c = Slc b o l' c := by rw [h]
theorem nzP_lt (n : Nat) : nzP n < 64 := by unfold nzP; omega
theorem nzP_def (n : Nat) : nzP n = (119 - n % 64) % 64 := rfl
theorem zr8_succ (j : Nat) : zr8 (j + 1) = zr8 j ++ [0] := by rw [zr8, zr8, List.replicate_succ']
theorem padNil_c  (w : World) : Calls Tryd.prog 193 #[.slice none 0 0] w (Post w [] (fun v L => ∃ g sp cap, v = Slc g 0 (padL ([] : List UInt8)).length cap ∧ L = [⟨g, cu8 (padL ([] : List UInt8)) ++ sp, 5, (0, 0)⟩] ∧ sp.length = cap - (padL ([] : List UInt8)).length ∧ (padL ([] : List UInt8)).length ≤ cap ∧ cap ≤ maxLen)) := by
 have hnz := nzP_lt 0
 have hnd := nzP_def 0
 refine enter w [] 31 [] [.slice none 0 0] Tryd.func193 rfl rfl (by simp) (BY (by simp) (by simp) (by simp)) ?_
 show JC _ _ _ [(0, .slice none 0 0)] _
 refine AG (AB (AA _ (AH rfl) rfl ?_))
 refine AL (AC (AG (AB (AA _ (AE rfl) rfl ?_))))
 refine AY (AX 108 [.slice none 0 0] (.slice none 0 0) (AZ _ Tryd.call108 rfl) (fun w1 hw1 => scloneNil_c w1)) rfl ?_
 show JL _ _ _ _ ((6, .slice none 0 0) :: _) []
 refine A2 (CP 5 1 _ [(0, U8 128)] (cu8 ([(128:UInt8)])) AR BC D8 rfl rfl rfl (by kernel_rfl)) rfl ?_
 rintro v1 L1 ⟨nb1, hnb1, rfl, rfl⟩
 show JL _ _ _ _ ((7, Slc nb1 0 1 1) :: _) [⟨nb1, cu8 ([(128:UInt8)]), 5, (0, 0)⟩]
 refine A2 (E8 43 5 [false] (.slice none 0 0) 0 ([] : List UInt8) ([(128:UInt8)]) (some ⟨nb1, 0, none⟩) 1 1 1 AR E7 rfl (.inl ⟨rfl, rfl, rfl, rfl, by omega⟩) rfl (by simp) (SrcAt.mem (AT 0 rfl (AJ _))) (by omega) (by unfold maxLen; omega) (by omega)) rfl ?_
 rintro v1 L1 ⟨nb2, sp1, cp1, hg1, rfl, rfl, ha1, ha2, ha3, ha4⟩
 show JL _ _ _ _ ((8, Slc nb2 0 1 cp1) :: _) [_, ⟨nb2, cu8 (([] : List UInt8) ++ ([(128:UInt8)])) ++ sp1, 5, (0, 0)⟩]
 refine AA _ (AH rfl) rfl ?_
 refine AL (AC (AG (B4 (B5 [false, true] ?_))))
 show JC _ _ _ _ [_]
 refine D4 (ι := Nat × List UInt8 × Nat × List Value × Nat) (fun ⟨j, o, g1, sp1, cp1⟩ => [(0, .slice none 0 0), (2, .slice none 0 0), (3, Slc g1 0 (j + 1) cp1)]) (fun ⟨j, o, g1, sp1, cp1⟩ => [⟨g1, cu8 o ++ sp1, 5, (0, 0)⟩]) (fun ⟨j, o, g1, sp1, cp1⟩ => j ≤ nzP 0 ∧ o = (([] : List UInt8) ++ [(128:UInt8)]) ++ zr8 j ∧ o.length = (j + 1) ∧ sp1.length = cp1 - (j + 1) ∧ (j + 1) ≤ cp1 ∧ cp1 ≤ maxLen) (fun ⟨j, o, g1, sp1, cp1⟩ => nzP 0 - j) (0, ([] : List UInt8) ++ ([(128:UInt8)]), nb2, sp1, cp1) ⟨by omega, by simp [zr8], by simp, by have := ha2; omega, by omega, ha4⟩ (Sub.cons rfl (Sub.cons rfl (Sub.cons (some_slc (by omega)) (Sub.nil)))) rfl ?_
 rintro ⟨j, o, g1, sp1, cp1⟩ ⟨hx1, hx2, ho, hx4, hx5, hx6⟩
 show JC _ _ _ [(0, .slice none 0 0), (2, .slice none 0 0), (3, Slc g1 0 (j + 1) cp1)] [⟨g1, cu8 o ++ sp1, 5, (0, 0)⟩]
 refine AG (AG (AB (AA _ (AE rfl) rfl ?_)))
 refine AA (I64 ((j:Int) + 1)) (Ev_lenX AR rfl (by omega)) rfl ?_
 obtain ⟨dq1, hdq1, hdq1a, hdq1b⟩ : ∃ q : Nat, q = (j + 1) % 64 ∧ (q : Int) = ((j:Int) + 1) % 64 ∧ (q < 64) := ⟨_, rfl, by first | rfl | omega, by omega⟩
 refine AA (I64 dq1) (AP rfl rfl fun _ => bin_rem_i _ _ ((dq1:Int)) (by omega) (by omega) (by omega)) rfl ?_
 refine AA (.bool (decide (((dq1:Int)) ≠ (56:Int)))) (AP rfl rfl fun _ => CE _ _) rfl ?_
 refine AL (AC (CL (decide (((dq1:Int)) ≠ (56:Int))) rfl (fun hb1 => ?_) (fun hb1 => ?_)))
 ·
  have hp1 : ((dq1:Int)) ≠ (56:Int) := of_decide_eq_true hb1
  refine BL (AC (B4 (AB (AA _ (AE rfl) rfl ?_))))
  refine A2 (CP 5 1 _ [(0, U8 0)] (cu8 ([(0:UInt8)])) AR BC D8 rfl rfl rfl (by kernel_rfl)) rfl ?_
  rintro v1 L1 ⟨nb3, hnb3, rfl, rfl⟩
  show JL _ _ _ _ ((14, Slc nb3 0 1 1) :: _) [_, ⟨nb3, cu8 ([(0:UInt8)]), 5, (0, 0)⟩]
  refine A2 (E8 43 5 [true, false] (Slc g1 0 (j + 1) cp1) (j + 1) o ([(0:UInt8)]) (some ⟨nb3, 0, none⟩) 1 1 (j + 2) AR E7 rfl (.inr ⟨g1, sp1, cp1, rfl, rfl, (by first | exact ho | simp [ho]), hx4, (by omega), (by omega)⟩) rfl (by simp) (SrcAt.mem (AT 1 rfl (AJ _))) (by omega) (by unfold maxLen; omega) (by omega)) rfl ?_
  rintro v1 L1 ⟨nb4, sp2, cp2, hg2, rfl, rfl, ha5, ha6, ha7, ha8⟩
  show JL _ _ _ _ ((15, Slc nb4 0 (j + 2) cp2) :: _) [_, ⟨nb4, cu8 (o ++ ([(0:UInt8)])) ++ sp2, 5, (0, 0)⟩]
  refine AA _ (AH rfl) rfl ?_
  refine AL (B0 (DO (B5 [false, true] ?_)))
  show K _ _ [_] _
  refine ER (j + 1, o ++ ([(0:UInt8)]), nb4, sp2, cp2) ⟨by omega, by rw [hx2, zr8_succ, List.append_assoc], (ha5).trans (by first | rfl | simp +arith), (ha6).trans (by first | rfl | simp +arith), by omega, ha8⟩ (by first | (simp; omega) | simp | (dsimp only; omega) | omega) (Sub.cons rfl (Sub.cons rfl (Sub.cons (some_slc (by omega)) (Sub.nil)))) rfl
 ·
  have hp1 : ¬ (((dq1:Int)) ≠ (56:Int)) := of_decide_eq_false hb1
  refine DU (A9 (A9 (CR (AC (AG (AG (AB (AA _ (AH rfl) rfl ?_))))))))
  refine AL (AC (B4 ?_))
  have ej : j = nzP 0 := by omega
  have ejb : nzP 0 < 64 := by omega
  refine D4 (ι := Nat × List UInt8 × Nat × List Value × Nat) (fun ⟨i, o2, g2, sp2, cp2⟩ => [(0, .slice none 0 0), (2, .slice none 0 0), (3, Slc g2 0 (i + j + 1) cp2), (4, I64 (-8*(i:Int) + 56))]) (fun ⟨i, o2, g2, sp2, cp2⟩ => [⟨g2, cu8 o2 ++ sp2, 5, (0, 0)⟩]) (fun ⟨i, o2, g2, sp2, cp2⟩ => i ≤ 8 ∧ o2 = o ++ lenN 0 i ∧ o2.length = (i + j + 1) ∧ sp2.length = cp2 - (i + j + 1) ∧ (i + j + 1) ≤ cp2 ∧ cp2 ≤ maxLen) (fun ⟨i, o2, g2, sp2, cp2⟩ => 8 - i) (0, o, g1, sp1, cp1) ⟨by omega, by simp [lenN], by omega, by omega, by omega, hx6⟩ (Sub.cons rfl (Sub.cons rfl (Sub.cons (some_slc (by omega)) (Sub.cons (FA (by omega)) (Sub.nil))))) rfl ?_
  rintro ⟨i, o2, g2, sp2, cp2⟩ ⟨hy1, hy2, ho2, hy4, hy5, hy6⟩
  show JC _ _ _ [(0, .slice none 0 0), (2, .slice none 0 0), (3, Slc g2 0 (i + j + 1) cp2), (4, I64 (-8*(i:Int) + 56))] [⟨g2, cu8 o2 ++ sp2, 5, (0, 0)⟩]
  refine AG (AG (AB (AA _ (AE rfl) rfl ?_)))
  refine AA (.bool (decide ((0:Int) ≤ (-8*(i:Int) + 56)))) (AP rfl rfl fun _ => GH _ _) rfl ?_
  refine AL (AC (CL (decide ((0:Int) ≤ (-8*(i:Int) + 56))) rfl (fun hb2 => ?_) (fun hb2 => ?_)))
  ·
   have hp2 : (0:Int) ≤ (-8*(i:Int) + 56) := of_decide_eq_true hb2
   refine BL (AC (AG (B4 (AB (AA _ (AE rfl) rfl ?_)))))
   refine AA _ (AE rfl) rfl ?_
   refine AA (I64 0) (DS AR rfl) rfl ?_
   refine AA (U64 0) (EG _ _ rfl fun _ => conv_lit (by rw [DK]; rfl) B8 rfl) rfl ?_
   refine AA (U64 ((8:UInt64) * (0:UInt64))) (AP rfl rfl fun _ => bin_mul_u64 (8:UInt64) (0:UInt64)) rfl ?_
   refine AA _ (AE rfl) rfl ?_
   refine AA (U64 (((8:UInt64) * (0:UInt64)) >>> UInt64.ofNat (56 - 8*i))) (AP rfl rfl fun _ => FJ ((8:UInt64) * (0:UInt64)) _ _ (56 - 8*i) (by omega) (by omega)) rfl ?_
   refine AA (U8 ((((8:UInt64) * (0:UInt64)) >>> UInt64.ofNat (56 - 8*i)).toUInt8)) (EG _ _ rfl fun _ => F2 (by rw [B8]; rfl) CN _) rfl ?_
   refine A2 (CP 5 1 _ [(0, U8 ((((8:UInt64) * (0:UInt64)) >>> UInt64.ofNat (56 - 8*i)).toUInt8))] (cu8 ([(((8:UInt64) * (0:UInt64)) >>> UInt64.ofNat (56 - 8*i)).toUInt8])) AR BC D8 rfl rfl rfl (by kernel_rfl)) rfl ?_
   rintro v1 L1 ⟨nb5, hnb5, rfl, rfl⟩
   show JL _ _ _ _ ((28, Slc nb5 0 1 1) :: _) [_, ⟨nb5, cu8 ([(((8:UInt64) * (0:UInt64)) >>> UInt64.ofNat (56 - 8*i)).toUInt8]), 5, (0, 0)⟩]
   refine A2 (E8 43 5 [true, false] (Slc g2 0 (i + j + 1) cp2) (i + j + 1) o2 ([(((8:UInt64) * (0:UInt64)) >>> UInt64.ofNat (56 - 8*i)).toUInt8]) (some ⟨nb5, 0, none⟩) 1 1 (i + j + 2) AR E7 rfl (.inr ⟨g2, sp2, cp2, rfl, rfl, (by first | exact ho2 | simp [ho2]), hy4, (by omega), (by omega)⟩) rfl (by simp) (SrcAt.mem (AT 1 rfl (AJ _))) (by omega) (by unfold maxLen; omega) (by omega)) rfl ?_
   rintro v1 L1 ⟨nb6, sp3, cp3, hg3, rfl, rfl, ha9, ha10, ha11, ha12⟩
   show JL _ _ _ _ ((29, Slc nb6 0 (i + j + 2) cp3) :: _) [_, ⟨nb6, cu8 (o2 ++ ([(((8:UInt64) * (0:UInt64)) >>> UInt64.ofNat (56 - 8*i)).toUInt8])) ++ sp3, 5, (0, 0)⟩]
   refine AA _ (AH rfl) rfl ?_
   refine AL (B0 (AC (AB (AA _ (AE rfl) rfl ?_))))
   refine AA (I64 (-8*(i:Int) + 48)) (AP rfl rfl fun _ => D3 _ _ (-8*(i:Int) + 48) (by omega) (by omega)) rfl ?_
   refine AA _ (AH rfl) rfl ?_
   refine AL (DO (B5 [false, true] ?_))
   show K _ _ [_] _
   refine ER (i + 1, o2 ++ ([(((8:UInt64) * (0:UInt64)) >>> UInt64.ofNat (56 - 8*i)).toUInt8]), nb6, sp3, cp3) ⟨by omega, by rw [hy2, lenN, List.append_assoc]; rfl, (ha9).trans (by first | rfl | simp +arith), (ha10).trans (by first | rfl | simp +arith), by omega, ha12⟩ (by first | (simp; omega) | simp | (dsimp only; omega) | omega) (Sub.cons rfl (Sub.cons rfl (Sub.cons (some_slc (by omega)) (Sub.cons (FA (by omega)) (Sub.nil))))) rfl
  ·
   have hp2 : ¬ ((0:Int) ≤ (-8*(i:Int) + 56)) := of_decide_eq_false hb2
   refine DU (A9 (A9 (CR (AC (AG (AB (AA _ (AE rfl) rfl ?_)))))))
   refine AA _ (AH rfl) rfl ?_
   refine AL (AC (BH (BI (Slc g2 0 (i + j + 1) cp2) (res1 Tryd.results193 (BU rfl)) fun w1 hw1 => ?_)))
   have e1 : i = 8 := by omega
   subst e1
   have e2 : o2 = padL ([] : List UInt8) := by rw [hy2, hx2, padL, List.length_nil, ej]
   rw [e2] at hw1
   exact ⟨_, _, rfl, ⟨g2, sp2, cp2, slc_len (by rw [padL_len, List.length_nil, ← ej]; simp +arith), rfl, by rw [hy4]; rw [padL_len, List.length_nil, ← ej]; simp +arith, by refine Nat.le_trans (Nat.le_of_eq ?_) hy5; rw [padL_len, List.length_nil, ← ej]; simp +arith, hy6⟩, hw1.sub (by simp) (by simp)⟩
theorem pad_c (ao : Option Addr) (n cb : Nat) (b : List UInt8) (w : World) (ha : ao.isNone = false) (hb : b.length = n) (hn : n ≤ 17592186044416) (hr : RdB w [] ao b) : Calls Tryd.prog 193 #[.slice ao n cb] w (Post w [] (fun v L => ∃ g sp cap, v = Slc g 0 (padL b).length cap ∧ L = [⟨g, cu8 (padL b) ++ sp, 5, (0, 0)⟩] ∧ sp.length = cap - (padL b).length ∧ (padL b).length ≤ cap ∧ cap ≤ maxLen)) := by
 have hnz := nzP_lt n
 have hnd := nzP_def n
 refine enter w [] 31 [] [.slice ao n cb] Tryd.func193 rfl rfl (by simp) (BY (by simp) (by simp) (by simp)) ?_
 show JC _ _ _ [(0, .slice ao n cb)] _
 refine AG (AB (AA _ (AH rfl) rfl ?_))
 refine AL (AC (AG (AB (AA _ (AE rfl) rfl ?_))))
 refine A2 (B3 108 [.slice ao n cb] _ (AZ _ Tryd.call108 rfl) (fun w1 hw1 => sclone_c ao n cb b w1 ha hb (by omega) (hr.at (M' := []) hw1 (by simp)))) rfl ?_
 rintro v1 L1 ⟨_, ⟨nb1, sp1, cp1, rfl, rfl, hc1, hc2, hc3⟩, rfl⟩
 show JL _ _ _ _ ((6, Slc nb1 0 n cp1) :: _) [⟨nb1, cu8 b ++ sp1, 5, (0, 0)⟩]
 refine A2 (CP 5 1 _ [(0, U8 128)] (cu8 ([(128:UInt8)])) AR BC D8 rfl rfl rfl (by kernel_rfl)) rfl ?_
 rintro v1 L1 ⟨nb2, hnb2, rfl, rfl⟩
 show JL _ _ _ _ ((7, Slc nb2 0 1 1) :: _) [_, ⟨nb2, cu8 ([(128:UInt8)]), 5, (0, 0)⟩]
 refine A2 (E8 43 5 [true, false] (Slc nb1 0 n cp1) n b ([(128:UInt8)]) (some ⟨nb2, 0, none⟩) 1 1 (n + 1) AR E7 rfl (.inr ⟨nb1, sp1, cp1, rfl, rfl, (by first | exact hb | simp [hb]), hc1, (by omega), (by omega)⟩) rfl (by simp) (SrcAt.mem (AT 1 rfl (AJ _))) (by omega) (by unfold maxLen; omega) (by omega)) rfl ?_
 rintro v1 L1 ⟨nb3, sp2, cp2, hg1, rfl, rfl, ha1, ha2, ha3, ha4⟩
 show JL _ _ _ _ ((8, Slc nb3 0 (n + 1) cp2) :: _) [_, ⟨nb3, cu8 (b ++ ([(128:UInt8)])) ++ sp2, 5, (0, 0)⟩]
 refine AA _ (AH rfl) rfl ?_
 refine AL (AC (AG (B4 (B5 [false, true] ?_))))
 show JC _ _ _ _ [_]
 refine D4 (ι := Nat × List UInt8 × Nat × List Value × Nat) (fun ⟨j, o, g1, sp1, cp1⟩ => [(0, .slice ao n cb), (2, .slice none 0 0), (3, Slc g1 0 (j + n + 1) cp1)]) (fun ⟨j, o, g1, sp1, cp1⟩ => [⟨g1, cu8 o ++ sp1, 5, (0, 0)⟩]) (fun ⟨j, o, g1, sp1, cp1⟩ => j ≤ nzP n ∧ o = (b ++ [(128:UInt8)]) ++ zr8 j ∧ o.length = (j + n + 1) ∧ sp1.length = cp1 - (j + n + 1) ∧ (j + n + 1) ≤ cp1 ∧ cp1 ≤ maxLen) (fun ⟨j, o, g1, sp1, cp1⟩ => nzP n - j) (0, b ++ ([(128:UInt8)]), nb3, sp2, cp2) ⟨by omega, by simp [zr8], by simp [hb], by have := ha2; omega, by omega, ha4⟩ (Sub.cons rfl (Sub.cons rfl (Sub.cons (some_slc (by omega)) (Sub.nil)))) rfl ?_
 rintro ⟨j, o, g1, sp1, cp1⟩ ⟨hx1, hx2, ho, hx4, hx5, hx6⟩
 show JC _ _ _ [(0, .slice ao n cb), (2, .slice none 0 0), (3, Slc g1 0 (j + n + 1) cp1)] [⟨g1, cu8 o ++ sp1, 5, (0, 0)⟩]
 refine AG (AG (AB (AA _ (AE rfl) rfl ?_)))
 refine AA (I64 ((j:Int) + (n:Int) + 1)) (Ev_lenX AR rfl (by omega)) rfl ?_
 obtain ⟨dq1, hdq1, hdq1a, hdq1b⟩ : ∃ q : Nat, q = (j + n + 1) % 64 ∧ (q : Int) = ((j:Int) + (n:Int) + 1) % 64 ∧ (q < 64) := ⟨_, rfl, by first | rfl | omega, by omega⟩
 refine AA (I64 dq1) (AP rfl rfl fun _ => bin_rem_i _ _ ((dq1:Int)) (by omega) (by omega) (by omega)) rfl ?_
 refine AA (.bool (decide (((dq1:Int)) ≠ (56:Int)))) (AP rfl rfl fun _ => CE _ _) rfl ?_
 refine AL (AC (CL (decide (((dq1:Int)) ≠ (56:Int))) rfl (fun hb1 => ?_) (fun hb1 => ?_)))
 ·
  have hp1 : ((dq1:Int)) ≠ (56:Int) := of_decide_eq_true hb1
  refine BL (AC (B4 (AB (AA _ (AE rfl) rfl ?_))))
  refine A2 (CP 5 1 _ [(0, U8 0)] (cu8 ([(0:UInt8)])) AR BC D8 rfl rfl rfl (by kernel_rfl)) rfl ?_
  rintro v1 L1 ⟨nb4, hnb4, rfl, rfl⟩
  show JL _ _ _ _ ((14, Slc nb4 0 1 1) :: _) [_, ⟨nb4, cu8 ([(0:UInt8)]), 5, (0, 0)⟩]
  refine A2 (E8 43 5 [true, false] (Slc g1 0 (j + n + 1) cp1) (j + n + 1) o ([(0:UInt8)]) (some ⟨nb4, 0, none⟩) 1 1 (j + n + 2) AR E7 rfl (.inr ⟨g1, sp1, cp1, rfl, rfl, (by first | exact ho | simp [ho]), hx4, (by omega), (by omega)⟩) rfl (by simp) (SrcAt.mem (AT 1 rfl (AJ _))) (by omega) (by unfold maxLen; omega) (by omega)) rfl ?_
  rintro v1 L1 ⟨nb5, sp3, cp3, hg2, rfl, rfl, ha5, ha6, ha7, ha8⟩
  show JL _ _ _ _ ((15, Slc nb5 0 (j + n + 2) cp3) :: _) [_, ⟨nb5, cu8 (o ++ ([(0:UInt8)])) ++ sp3, 5, (0, 0)⟩]
  refine AA _ (AH rfl) rfl ?_
  refine AL (B0 (DO (B5 [false, true] ?_)))
  show K _ _ [_] _
  refine ER (j + 1, o ++ ([(0:UInt8)]), nb5, sp3, cp3) ⟨by omega, by rw [hx2, zr8_succ, List.append_assoc], (ha5).trans (by first | rfl | simp +arith), (ha6).trans (by first | rfl | simp +arith), by omega, ha8⟩ (by first | (simp; omega) | simp | (dsimp only; omega) | omega) (Sub.cons rfl (Sub.cons rfl (Sub.cons (some_slc (by omega)) (Sub.nil)))) rfl
 ·
  have hp1 : ¬ (((dq1:Int)) ≠ (56:Int)) := of_decide_eq_false hb1
  refine DU (A9 (A9 (CR (AC (AG (AG (AB (AA _ (AH rfl) rfl ?_))))))))
  refine AL (AC (B4 ?_))
  have ej : j = nzP n := by omega
  have ejb : nzP n < 64 := by omega
  refine D4 (ι := Nat × List UInt8 × Nat × List Value × Nat) (fun ⟨i, o2, g2, sp2, cp2⟩ => [(0, .slice ao n cb), (2, .slice none 0 0), (3, Slc g2 0 (i + j + n + 1) cp2), (4, I64 (-8*(i:Int) + 56))]) (fun ⟨i, o2, g2, sp2, cp2⟩ => [⟨g2, cu8 o2 ++ sp2, 5, (0, 0)⟩]) (fun ⟨i, o2, g2, sp2, cp2⟩ => i ≤ 8 ∧ o2 = o ++ lenN n i ∧ o2.length = (i + j + n + 1) ∧ sp2.length = cp2 - (i + j + n + 1) ∧ (i + j + n + 1) ≤ cp2 ∧ cp2 ≤ maxLen) (fun ⟨i, o2, g2, sp2, cp2⟩ => 8 - i) (0, o, g1, sp1, cp1) ⟨by omega, by simp [lenN], by omega, by omega, by omega, hx6⟩ (Sub.cons rfl (Sub.cons rfl (Sub.cons (some_slc (by omega)) (Sub.cons (FA (by omega)) (Sub.nil))))) rfl ?_
  rintro ⟨i, o2, g2, sp2, cp2⟩ ⟨hy1, hy2, ho2, hy4, hy5, hy6⟩
  show JC _ _ _ [(0, .slice ao n cb), (2, .slice none 0 0), (3, Slc g2 0 (i + j + n + 1) cp2), (4, I64 (-8*(i:Int) + 56))] [⟨g2, cu8 o2 ++ sp2, 5, (0, 0)⟩]
  refine AG (AG (AB (AA _ (AE rfl) rfl ?_)))
  refine AA (.bool (decide ((0:Int) ≤ (-8*(i:Int) + 56)))) (AP rfl rfl fun _ => GH _ _) rfl ?_
  refine AL (AC (CL (decide ((0:Int) ≤ (-8*(i:Int) + 56))) rfl (fun hb2 => ?_) (fun hb2 => ?_)))
  ·
   have hp2 : (0:Int) ≤ (-8*(i:Int) + 56) := of_decide_eq_true hb2
   refine BL (AC (AG (B4 (AB (AA _ (AE rfl) rfl ?_)))))
   refine AA _ (AE rfl) rfl ?_
   refine AA (I64 n) (DS AR rfl) rfl ?_
   refine AA (U64 (UInt64.ofNat n)) (EG _ _ rfl fun _ => FV (by rw [DK]; rfl) B8 n _ (by omega)) rfl ?_
   refine AA (U64 ((8:UInt64) * (UInt64.ofNat n))) (AP rfl rfl fun _ => bin_mul_u64 (8:UInt64) (UInt64.ofNat n)) rfl ?_
   refine AA _ (AE rfl) rfl ?_
   refine AA (U64 (((8:UInt64) * (UInt64.ofNat n)) >>> UInt64.ofNat (56 - 8*i))) (AP rfl rfl fun _ => FJ ((8:UInt64) * (UInt64.ofNat n)) _ _ (56 - 8*i) (by omega) (by omega)) rfl ?_
   refine AA (U8 ((((8:UInt64) * (UInt64.ofNat n)) >>> UInt64.ofNat (56 - 8*i)).toUInt8)) (EG _ _ rfl fun _ => F2 (by rw [B8]; rfl) CN _) rfl ?_
   refine A2 (CP 5 1 _ [(0, U8 ((((8:UInt64) * (UInt64.ofNat n)) >>> UInt64.ofNat (56 - 8*i)).toUInt8))] (cu8 ([(((8:UInt64) * (UInt64.ofNat n)) >>> UInt64.ofNat (56 - 8*i)).toUInt8])) AR BC D8 rfl rfl rfl (by kernel_rfl)) rfl ?_
   rintro v1 L1 ⟨nb6, hnb6, rfl, rfl⟩
   show JL _ _ _ _ ((28, Slc nb6 0 1 1) :: _) [_, ⟨nb6, cu8 ([(((8:UInt64) * (UInt64.ofNat n)) >>> UInt64.ofNat (56 - 8*i)).toUInt8]), 5, (0, 0)⟩]
   refine A2 (E8 43 5 [true, false] (Slc g2 0 (i + j + n + 1) cp2) (i + j + n + 1) o2 ([(((8:UInt64) * (UInt64.ofNat n)) >>> UInt64.ofNat (56 - 8*i)).toUInt8]) (some ⟨nb6, 0, none⟩) 1 1 (i + j + n + 2) AR E7 rfl (.inr ⟨g2, sp2, cp2, rfl, rfl, (by first | exact ho2 | simp [ho2]), hy4, (by omega), (by omega)⟩) rfl (by simp) (SrcAt.mem (AT 1 rfl (AJ _))) (by omega) (by unfold maxLen; omega) (by omega)) rfl ?_
   rintro v1 L1 ⟨nb7, sp4, cp4, hg3, rfl, rfl, ha9, ha10, ha11, ha12⟩
   show JL _ _ _ _ ((29, Slc nb7 0 (i + j + n + 2) cp4) :: _) [_, ⟨nb7, cu8 (o2 ++ ([(((8:UInt64) * (UInt64.ofNat n)) >>> UInt64.ofNat (56 - 8*i)).toUInt8])) ++ sp4, 5, (0, 0)⟩]
   refine AA _ (AH rfl) rfl ?_
   refine AL (B0 (AC (AB (AA _ (AE rfl) rfl ?_))))
   refine AA (I64 (-8*(i:Int) + 48)) (AP rfl rfl fun _ => D3 _ _ (-8*(i:Int) + 48) (by omega) (by omega)) rfl ?_
   refine AA _ (AH rfl) rfl ?_
   refine AL (DO (B5 [false, true] ?_))
   show K _ _ [_] _
   refine ER (i + 1, o2 ++ ([(((8:UInt64) * (UInt64.ofNat n)) >>> UInt64.ofNat (56 - 8*i)).toUInt8]), nb7, sp4, cp4) ⟨by omega, by rw [hy2, lenN, List.append_assoc], (ha9).trans (by first | rfl | simp +arith), (ha10).trans (by first | rfl | simp +arith), by omega, ha12⟩ (by first | (simp; omega) | simp | (dsimp only; omega) | omega) (Sub.cons rfl (Sub.cons rfl (Sub.cons (some_slc (by omega)) (Sub.cons (FA (by omega)) (Sub.nil))))) rfl
  ·
   have hp2 : ¬ ((0:Int) ≤ (-8*(i:Int) + 56)) := of_decide_eq_false hb2
   refine DU (A9 (A9 (CR (AC (AG (AB (AA _ (AE rfl) rfl ?_)))))))
   refine AA _ (AH rfl) rfl ?_
   refine AL (AC (BH (BI (Slc g2 0 (i + j + n + 1) cp2) (res1 Tryd.results193 (BU rfl)) fun w1 hw1 => ?_)))
   have e1 : i = 8 := by omega
   subst e1
   have e2 : o2 = padL b := by rw [hy2, hx2, padL, hb, ej]
   rw [e2] at hw1
   exact ⟨_, _, rfl, ⟨g2, sp2, cp2, slc_len (by rw [padL_len, hb, ← ej]; simp +arith), rfl, by rw [hy4]; rw [padL_len, hb, ← ej]; simp +arith, by refine Nat.le_trans (Nat.le_of_eq ?_) hy5; rw [padL_len, hb, ← ej]; simp +arith, hy6⟩, hw1.sub (by simp) (by simp)⟩
attribute [local irreducible] padL stN outN hashL
theorem pad_w (ao : Option Addr) (n cb : Nat) (b : List UInt8) (w : World) (hb : b.length = n) (hcb : ao = none → cb = 0) (hn : n ≤ 17592186044416) (hr : RdB w [] ao b) : Calls Tryd.prog 193 #[.slice ao n cb] w (Post w [] (fun v L => ∃ g sp cap, v = Slc g 0 (padL b).length cap ∧ L = [⟨g, cu8 (padL b) ++ sp, 5, (0, 0)⟩] ∧ sp.length = cap - (padL b).length ∧ (padL b).length ≤ cap ∧ cap ≤ maxLen)) := by
  cases ao with
  | none =>
    obtain rfl : b = [] := by
      rcases hr with h | ⟨_, _, h, _⟩
      · exact h
      · cases h
    obtain rfl : n = 0 := hb.symm
    obtain rfl := hcb rfl
    exact padNil_c w
  | some a => exact pad_c (some a) n cb b w rfl hb hn hr
theorem chunk_c (gs N cap : Nat) (w : World) : Calls Tryd.prog 192 #[Slc gs 0 N cap, I64 64] w (Post w [] (fun v L => ∃ b1 b2, v = .func (.func 201) #[] #[Ptr b1 0, Ptr b2 0] ∧ L = [⟨b1, [Slc gs 0 N cap], 43, (0, 0)⟩, ⟨b2, [I64 64], 3, (0, 0)⟩])) := by
 refine enter w [] 9 [] [Slc gs 0 N cap, I64 64] Tryd.func192 rfl rfl (by simp) (BY (by simp) (by simp) (by simp)) ?_
 show JC _ _ _ [(0, Slc gs 0 N cap), (1, I64 64)] _
 refine AG (AB (A2 (DN (Slc gs 0 N cap) ([Slc gs 0 N cap]) rfl rfl) rfl ?_))
 rintro v1 L1 ⟨nb1, hnb1, rfl, rfl⟩
 show JL _ _ _ _ ((2, Ptr nb1 0) :: _) [⟨nb1, [Slc gs 0 N cap], 43, (0, 0)⟩]
 refine A2 (DN (I64 64) ([I64 64]) rfl rfl) rfl ?_
 rintro v1 L1 ⟨nb2, hnb2, rfl, rfl⟩
 show JL _ _ _ _ ((3, Ptr nb2 0) :: _) [_, ⟨nb2, [I64 64], 3, (0, 0)⟩]
 refine AA _ (AH rfl) rfl ?_
 refine AL (AC (AG (AG (AB (AA (I64 64) (AM rfl (A6 BS (AT 1 rfl (Seg.head)))) rfl ?_)))))
 refine AA (.bool (decide ((64:Int) < (1:Int)))) (AP rfl rfl fun _ => DC _ _) rfl ?_
 refine AL (AC (BZ _ rfl (by decide) ?_))
 refine BL (AC (AG (AB (AA (.func (.func 201) #[] #[Ptr nb1 0, Ptr nb2 0]) (Ev_makeFunc (vs := [Ptr nb1 0, Ptr nb2 0]) rfl (fun _ _ => rfl)) rfl ?_))))
 refine AA _ (AH rfl) rfl ?_
 refine AL (AC (BH (BI (.func (.func 201) #[] #[Ptr nb1 0, Ptr nb2 0]) (res1 Tryd.results192 (BU rfl)) fun w1 hw1 => ?_)))
 exact ⟨_, _, rfl, ⟨nb1, nb2, rfl, rfl⟩, hw1⟩
theorem chunk_it (b1 b2 gs N cap : Nat) (w0 : World) (hN : N % 64 = 0) (hc : N ≤ cap) (hm : cap ≤ maxLen) : Iter Tryd.prog 201 #[Ptr b1 0, Ptr b2 0] [⟨b1, [Slc gs 0 N cap], 43, (0, 0)⟩, ⟨b2, [I64 64], 3, (0, 0)⟩] [] w0 (fun k => 64*k < N) (fun k => 64*k = N) (fun k => Slc gs (64*k) 64 64) := by
 intro l B W S X S0 hS0 hW hl0 hlM hRb hY
 refine enterI W ((([⟨b1, [Slc gs 0 N cap], 43, (0, 0)⟩, ⟨b2, [I64 64], 3, (0, 0)⟩] : List Ent) ++ S0).map Ent.b) 31 ([⟨b1, [Slc gs 0 N cap], 43, (0, 0)⟩, ⟨b2, [I64 64], 3, (0, 0)⟩] ++ S0) [.func (.yield l) #[] #[], Ptr b1 0, Ptr b2 0] Tryd.func201 rfl rfl (by simp) hW ?_
 have hm2 : cap ≤ 9223372036854775807 := by unfold maxLen at hm; omega
 show JC _ _ _ [(0, .func (.yield l) #[] #[]), (1, Ptr b1 0), (2, Ptr b2 0)] ([⟨b1, [Slc gs 0 N cap], 43, (0, 0)⟩, ⟨b2, [I64 64], 3, (0, 0)⟩] ++ S0)
 refine AG ?_
 refine AB ?_
 refine AA _ (AH rfl) rfl ?_
 refine AL ?_
 refine AC ?_
 refine B4 ?_
 refine D4 (ι := Nat × List Ent) (fun ⟨k, Sk⟩ => [(0, .func (.yield l) #[] #[]), (1, Ptr b1 0), (2, Ptr b2 0), (4, I64 (64*(k:Int)))]) (fun ⟨k, Sk⟩ => [⟨b1, [Slc gs 0 N cap], 43, (0, 0)⟩, ⟨b2, [I64 64], 3, (0, 0)⟩] ++ Sk) (fun ⟨k, Sk⟩ => k ≤ B ∧ S k Sk ∧ 64*k ≤ N) (fun ⟨k, Sk⟩ => B - k) (0, S0) ⟨by omega, hS0, by omega⟩ (Sub.all rfl) rfl ?_
 rintro ⟨k, Sk⟩ ⟨hx1, hx2, hx3⟩
 show JC _ _ _ [(0, .func (.yield l) #[] #[]), (1, Ptr b1 0), (2, Ptr b2 0), (4, I64 (64*(k:Int)))] ([⟨b1, [Slc gs 0 N cap], 43, (0, 0)⟩, ⟨b2, [I64 64], 3, (0, 0)⟩] ++ Sk)
 refine AG ?_
 refine AG ?_
 refine AB ?_
 refine AA _ (AE rfl) rfl ?_
 refine AA (Slc gs 0 N cap) (AM rfl (A6 DF (AT 0 rfl (Seg.head)))) rfl ?_
 refine AA (I64 N) (DS AR rfl) rfl ?_
 refine AA (.bool (decide ((64*(k:Int)) < ((N:Int))))) (AP rfl rfl fun _ => DC _ _) rfl ?_
 refine AL ?_
 refine AC ?_
 refine CL (decide ((64*(k:Int)) < ((N:Int)))) rfl (fun hb1 => ?_) (fun hb1 => ?_)
 ·
  have hp1 : (64*(k:Int)) < ((N:Int)) := of_decide_eq_true hb1
  refine BL ?_
  refine AC ?_
  refine AG ?_
  refine B4 ?_
  refine AG ?_
  refine CH 31 1 [(0, I64 64), (1, Slc gs 0 N cap), (2, I64 (64*(k:Int))), (3, Slc gs (64*k) (N - 64*k) (cap - 64*k)), (4, I64 ((N:Int) - 64*(k:Int))), (5, I64 64), (6, I64 64)] BP rfl (by decide +kernel) ?_
  refine C2 ⟨[], [0, 1, 2, 3, 4, 5, 6], [], [0, 1, 2, 3, 4, 5, 6], []⟩ rfl rfl (by decide +kernel) rfl ⟨⟨_, rfl, AI rfl (AM rfl (A6 BS (AT 1 rfl (Seg.head))))⟩, ⟨_, rfl, AI rfl (AM rfl (A6 DF (AT 0 rfl (Seg.head))))⟩, BQ rfl rfl rfl, ⟨_, rfl, AI rfl (Ev_slice 5 1 (64*k) N (64*k) (cap - 64*k) AR BC rfl (FA (by omega)) rfl (by omega) (by omega) (by omega) (by omega) (by omega) (N - 64*k) (by omega))⟩, ⟨_, rfl, AI rfl (Ev_lenX AR rfl (by omega))⟩, ⟨_, rfl, AI rfl (Ev_min rfl rfl (by have h : (decide ((64:Int) ≤ ((N:Int) - 64*(k:Int)))) = true := (decide_eq_true (by omega)); have := of_decide_eq_true h; omega))⟩, ⟨_, rfl, AI rfl (AH rfl)⟩, trivial⟩ ?_
  refine CB (F' := [(13, I64 64), (14, Slc gs 0 N cap), (15, I64 (64*(k:Int))), (16, Slc gs (64*k) (N - 64*k) (cap - 64*k)), (17, I64 ((N:Int) - 64*(k:Int))), (18, I64 64), (5, I64 64), (0, .func (.yield l) #[] #[]), (1, Ptr b1 0), (2, Ptr b2 0), (4, I64 (64*(k:Int))), (6, I64 (64*(k:Int))), (7, Slc gs 0 N cap), (8, I64 N), (9, .bool (decide ((64*(k:Int)) < ((N:Int)))))]) (by kernel_rfl) ?_
  refine AC ?_
  refine AG ?_
  refine AB ?_
  refine AA _ (AE rfl) rfl ?_
  refine AA (Slc gs 0 N cap) (AM rfl (A6 DF (AT 0 rfl (Seg.head)))) rfl ?_
  refine AA _ (AE rfl) rfl ?_
  refine AA _ (AE rfl) rfl ?_
  refine AA _ (AE rfl) rfl ?_
  refine AA (I64 (64*(k:Int) + 64)) (AP rfl rfl fun _ => DL _ _ (64*(k:Int) + 64) (by omega) (by omega)) rfl ?_
  refine AA _ (AE rfl) rfl ?_
  refine AA _ (AE rfl) rfl ?_
  refine AA (I64 (64*(k:Int) + 64)) (AP rfl rfl fun _ => DL _ _ (64*(k:Int) + 64) (by omega) (by omega)) rfl ?_
  refine AA (Slc gs (64*k) 64 64) (Ev_slice3 5 1 (64*k) (64*k + 64) (64*k + 64) (64*k) 64 64 AR BC rfl (FA (by omega)) (FA (by omega)) (FA (by omega)) (by omega) (by omega) (by omega) (by omega) (by omega) (by omega) (by omega)) rfl ?_
  refine JL_yield l [Slc gs (64*k) 64 64] [⟨b1, [Slc gs 0 N cap], 43, (0, 0)⟩, ⟨b2, [I64 64], 3, (0, 0)⟩] Sk (fun L' => k + 1 ≤ B ∧ S (k + 1) L') (X k) rfl rfl rfl hl0 hlM rfl (fun w1 hw1 => hY k Sk w1 (show 64*k < N by omega) hx1 hx2 (hw1.right)) ?_ ?_
  ·
   intro L1 ⟨hn1, hn2⟩
   show JL _ _ _ _ ((29, .bool true) :: _) ([⟨b1, [Slc gs 0 N cap], 43, (0, 0)⟩, ⟨b2, [I64 64], 3, (0, 0)⟩] ++ L1)
   refine AA (.bool (!true)) (FD rfl) rfl ?_
   refine AL ?_
   refine AC ?_
   refine BZ _ rfl rfl ?_
   refine BL ?_
   refine B0 ?_
   refine AC ?_
   refine AB ?_
   refine AA _ (AE rfl) rfl ?_
   refine AA (I64 64) (AM rfl (A6 BS (AT 1 rfl (Seg.head)))) rfl ?_
   refine AA (I64 (64*(k:Int) + 64)) (AP rfl rfl fun _ => DL _ _ (64*(k:Int) + 64) (by omega) (by omega)) rfl ?_
   refine AA _ (AH rfl) rfl ?_
   refine AL ?_
   refine DO ?_
   refine ER (k + 1, L1) ⟨hn1, hn2, by omega⟩ (by first | (simp; omega) | simp | (dsimp only; omega) | omega) (Sub.cons rfl (Sub.cons rfl (Sub.cons rfl (Sub.cons (FA (by omega)) (Sub.nil))))) rfl
  ·
   intro L1 o1 hx9
   show JL _ _ _ _ ((29, .bool false) :: _) ([⟨b1, [Slc gs 0 N cap], 43, (0, 0)⟩, ⟨b2, [I64 64], 3, (0, 0)⟩] ++ L1)
   refine AA (.bool (!false)) (FD rfl) rfl ?_
   refine AL ?_
   refine AC ?_
   refine CM _ rfl rfl ?_
   refine BH ?_
   refine DD ?_
   refine A4 ?_
   refine A4 ?_
   refine DD ?_
   refine JQ_retM0 (.tuple #[]) (res0 Tryd.results201 ) (fun w1 hw1 => ?_)
   exact ⟨⟨_, rfl⟩, .inr ⟨k, L1, o1, (show 64*k < N by omega), hx9, hw1.right⟩⟩
 ·
  have hp1 : ¬ ((64*(k:Int)) < ((N:Int))) := of_decide_eq_false hb1
  refine DU ?_
  refine A9 ?_
  refine A9 ?_
  refine CR ?_
  refine JQ_endM0 (.tuple #[]) (res0 Tryd.results201 ) (fun w1 hw1 => ?_)
  exact ⟨⟨_, rfl⟩, .inl ⟨k, Sk, (show 64*k = N by omega), hx2, hw1.right⟩⟩
theorem GLs.round {w W : World} {M S : List Nat} {l : Nat} {o : Obj} (h : GLs w) (hB : ∀ b, b < w.heap.size → b ∉ M → W.heap[b]? = w.heap[b]? ∧ b ∉ S ∧ b ≠ l) (h1 : 5 ∉ M := by simp) (h2 : 3 ∉ M := by simp) : GLs (W.putObj l o) ∧ 5 ∉ S ∧ 3 ∉ S := by
  have key : ∀ b vs, b ∉ M → RdA w b 0 vs → RdA (W.putObj l o) b 0 vs ∧ b ∉ S := by
    intro b vs hM hr
    obtain ⟨e1, e2, e3⟩ := hB b hr.1 hM
    have e4 : (W.putObj l o).heap[b]? = w.heap[b]? := (World.putObj_heap_other e3).trans e1
    refine ⟨⟨?_, fun j v hj => ?_⟩, e2⟩
    · have : w.heap[b]? ≠ none := by simp; exact hr.1
      rw [← e4] at this
      simp at this
      simpa using this
    · have := hr.2 j v hj
      simp only [World.cell?, e4] at this ⊢
      exact this
  exact ⟨⟨(key _ _ h1 h.1).1, (key _ _ h2 h.2).1⟩, (key _ _ h1 h.1).2, (key _ _ h2 h.2).2⟩
theorem sum_c (ao : Option Addr) (n cb : Nat) (b : List UInt8) (w : World) (hb : b.length = n) (hcb : ao = none → cb = 0) (hn : n ≤ 17592186044416) (hr : RdB w [] ao b) (hG : GLs w) : Calls Tryd.prog 177 #[.slice ao n cb] w (Post w [] (fun v L => v = .agg (cu8 (sumG constL initL b)).toArray ∧ L = [])) := by
 have hpm := pad_mod b
 refine enterM w [] 41 [] [.slice ao n cb] Tryd.func177 rfl rfl (by simp) (BY (by simp) (by simp) (by simp)) ?_
 show JC _ _ _ [(0, .slice ao n cb)] _
 refine AG (AB (A2 (BN _ (cu8 (zr8 32)) Tryd.zeroValue54 (by kernel_rfl)) rfl ?_))
 rintro v1 L1 ⟨nb1, hnb1, rfl, rfl⟩
 show JL _ _ _ _ ((2, Ptr nb1 0) :: _) [⟨nb1, cu8 (zr8 32), 54, (0, 0)⟩]
 refine AL (AC (AG (AB (AA (.agg (cu32 initL).toArray) (AM rfl (A5 Tryd.isAgg268 E3 (F4 FT) (CW (hG.2.mem (by simp)) (AJ _) (by omega)))) rfl ?_))))
 refine A2 (BN _ (cu32 (zr32 8)) Tryd.zeroValue268 (by kernel_rfl)) rfl ?_
 rintro v1 L1 ⟨nb2, hnb2, rfl, rfl⟩
 show JL _ _ _ _ ((3, Ptr nb2 0) :: _) [_, ⟨nb2, cu32 (zr32 8), 268, (0, 0)⟩]
 refine AY (AU 1 nb2 8 (cu32 (zr32 8)) 268 (cu32 initL) rfl rfl rfl E3 (F4 FT) (by first | exact CF | exact EI | exact EE | (simp [cu8, cu32, cu64, Value.oneCell']; done)) (by simp [(zr32_len 8)]) (A0 (by simp [(zr32_len 8), FT]))) rfl ?_
 show JL _ _ _ _ _ [_, ⟨nb2, cu32 initL, 268, (0, 0)⟩]
 refine AL (AC (AG (AG (AB (AA _ (AE rfl) rfl ?_)))))
 refine A2 (B3 193 [.slice ao n cb] _ (AZ _ Tryd.call193 rfl) (fun w1 hw1 => pad_w ao n cb b w1 hb hcb (by omega) (hr.at (M' := []) hw1 (by simp)))) rfl ?_
 rintro v1 L1 ⟨_, ⟨nb3, sp1, cp1, rfl, rfl, hc1, hc2, hc3⟩, rfl⟩
 show JL _ _ _ _ ((10, Slc nb3 0 ((padL b).length) cp1) :: _) [_, _, ⟨nb3, cu8 (padL b) ++ sp1, 5, (0, 0)⟩]
 refine A2 (B3 192 [Slc nb3 0 ((padL b).length) cp1, I64 64] _ (AZ _ Tryd.call192 rfl) (fun w1 hw1 => chunk_c nb3 ((padL b).length) cp1 w1)) rfl ?_
 rintro v1 L1 ⟨_, ⟨nb4, nb5, rfl, rfl⟩, rfl⟩
 show JL _ _ _ _ ((11, .func (.func 201) #[] #[Ptr nb4 0, Ptr nb5 0]) :: _) [_, _, _, ⟨nb4, [Slc nb3 0 ((padL b).length) cp1], 43, (0, 0)⟩, ⟨nb5, [I64 64], 3, (0, 0)⟩]
 refine AL (AC (B4 (K_sub (F' := [(2, Ptr nb1 0), (3, Ptr nb2 0), (11, .func (.func 201) #[] #[Ptr nb4 0, Ptr nb5 0])]) (Sub.all rfl) ?_)))
 refine GA [0, 2, 3, 4, 1] (by decide) ?_
 show JC _ _ _ _ [⟨nb1, cu8 (zr8 32), 54, (0, 0)⟩, ⟨nb3, cu8 (padL b) ++ sp1, 5, (0, 0)⟩, ⟨nb4, [Slc nb3 0 ((padL b).length) cp1], 43, (0, 0)⟩, ⟨nb5, [I64 64], 3, (0, 0)⟩, ⟨nb2, cu32 initL, 268, (0, 0)⟩]
 refine JC_range [⟨nb1, cu8 (zr8 32), 54, (0, 0)⟩, ⟨nb3, cu8 (padL b) ++ sp1, 5, (0, 0)⟩] [⟨nb4, [Slc nb3 0 ((padL b).length) cp1], 43, (0, 0)⟩, ⟨nb5, [I64 64], 3, (0, 0)⟩] [⟨nb2, cu32 initL, 268, (0, 0)⟩] [] (fun k => 64*k < (padL b).length) (fun k => 64*k = (padL b).length) (fun k => Slc nb3 (64*k) 64 64) ((padL b).length / 64) (fun k L => k ≤ (padL b).length / 64 ∧ L = [⟨nb2, cu32 (stN constL initL (padL b) k), 268, (0, 0)⟩]) (fun k c L => False) rfl rfl rfl Tryd.call201 (List.Perm.refl _) rfl ⟨by omega, by rw [stN]⟩ (by simp) (fun w1 hw1 => chunk_it nb4 nb5 _ _ _ w1 (pad_mod b) hc2 hc3) ?_ ?_ ?_
 ·
  intro l rb k Sk W1 hgo hkB hSk hl0 hlM hA hB hle
  have hA0 := hA _ (List.mem_of_getElem? (i := 0) rfl)
  have hA1 := hA _ (List.mem_of_getElem? (i := 1) rfl)
  obtain ⟨hx1, rfl⟩ := hSk
  have hG2 := hG.round (o := rb) hB
  show JC _ _ _ _ [⟨nb2, cu32 (stN constL initL (padL b) k), 268, (0, 0)⟩]
  refine AB (AA _ (AH rfl) rfl ?_)
  refine AL (JQ_begin hl0 hlM ?_)
  show JC _ _ _ _ [⟨nb2, cu32 (stN constL initL (padL b) k), 268, (0, 0)⟩]
  refine B4 ?_
  have hl1 : (mid (padL b) (64*k) 64).length = 64 := FE (by rw [(rfl : (padL b).length = _)]; omega)
  refine CH 41 3 [(0, .agg (cu32 (stN constL initL (padL b) k)).toArray), (1, Slc nb3 (64*k) 64 64), (2, Ptr nb3 (64*k)), (3, .agg (cu8 (mid (padL b) (64*k) 64)).toArray)] BP rfl (by decide +kernel) ?_
  have hl2 : (mid (padL b) (64*k) 64).length = 64 := FE (by rw [(rfl : (padL b).length = _)]; omega)
  refine B6 ⟨[], [0, 1, 2, 3], [], [0, 1, 2, 3], [4]⟩ 4 rfl rfl (by decide +kernel) rfl ⟨⟨_, rfl, AI rfl (AM rfl (A5 Tryd.isAgg268 E3 (F4 (stN_len FT k)) (AT 0 rfl (AJ _))))⟩, BQ rfl rfl rfl, ⟨_, rfl, AI rfl (Ev_s2ap 64 Tryd.underlying262 rfl (by omega))⟩, ⟨_, rfl, AI rfl (AM rfl (A5 Tryd.isAgg262 ET (DY hl2) (CW (MemAt.heap ((World.putObj_heap_other hA1.2.2).trans hA1.1) hA1.2.1) (A8 (segm_u8 (64*k) 64 (by rw [(rfl : (padL b).length = _)]; omega))) (by omega))))⟩, trivial⟩ rfl (A7 rfl (AX 194 [.agg (cu32 (stN constL initL (padL b) k)).toArray, .agg (cu8 (mid (padL b) (64*k) 64)).toArray] (.agg (cu32 (comprL constL (stN constL initL (padL b) k) (mid (padL b) (64*k) 64))).toArray) (AZ _ Tryd.call194 rfl) (fun w1 hw1 => compress_c (stN constL initL (padL b) k) (mid (padL b) (64*k) 64) w1 (stN_len FT k) hl1 (hG2.1.at hw1 hG2.2.1 hG2.2.2)))) ?_
  show DP _ _ _ _ _ _ _ _ [_]
  refine B6 ⟨[4], [0, 1, 2, 3], [0, 1, 2, 3], [], [5]⟩ 5 rfl rfl (by decide +kernel) rfl trivial rfl (A7 rfl (AU 0 nb2 8 (cu32 (stN constL initL (padL b) k)) 268 (cu32 (comprL constL (stN constL initL (padL b) k) (mid (padL b) (64*k) 64))) rfl rfl rfl E3 (F4 (comprL_len (stN_len FT k))) (by first | exact CF | exact EI | exact EE | (simp [cu8, cu32, cu64, Value.oneCell']; done)) (by simp [(stN_len FT k)]) (A0 (by simp [(stN_len FT k), (comprL_len (stN_len FT k))])))) ?_
  show DP _ _ _ _ _ _ _ _ [⟨nb2, cu32 (comprL constL (stN constL initL (padL b) k) (mid (padL b) (64*k) 64)), 268, (0, 0)⟩]
  refine C2 ⟨[4, 5], [0, 1, 2, 3], [0, 1, 2, 3], [], []⟩ rfl rfl (by decide +kernel) rfl trivial ?_
  refine CB (F' := [(2, Ptr nb1 0)]) (by kernel_rfl) ?_
  refine B0 (JQ_bodyN ⟨by omega, by omega, by rw [stN]⟩)
 ·
  intro D k L' W' hf hX hw' hD hDle
  obtain ⟨hx1, rfl⟩ := hX
  show JQ _ _ _ _ [⟨nb1, cu8 (zr8 32), 54, (0, 0)⟩, ⟨nb3, cu8 (padL b) ++ sp1, 5, (0, 0)⟩, ⟨nb2, cu32 (stN constL initL (padL b) k), 268, (0, 0)⟩]
  refine B0 (AC (AG (AB (A2 (BN _ (cu8 (zr8 32)) Tryd.zeroValue54 (by kernel_rfl)) rfl ?_))))
  rintro v1 L1 ⟨nb6, hnb6, rfl, rfl⟩
  show JL _ _ _ _ ((5, Ptr nb6 0) :: _) [_, _, _, ⟨nb6, cu8 (zr8 32), 54, (0, 0)⟩]
  refine AL (AC (AG (AG (AB (AA (.agg (cu32 (stN constL initL (padL b) k)).toArray) (AM rfl (A5 Tryd.isAgg268 E3 (F4 (stN_len FT k)) (AT 2 rfl (AJ _)))) rfl ?_)))))
  refine AA _ (AE rfl) rfl ?_
  refine AL (AC (B4 (B5 [true, false, false, true] ?_)))
  show JC _ _ _ _ [_, _]
  refine D4 (ι := Nat × List UInt8) (fun ⟨i, o⟩ => [(2, Ptr nb1 0), (5, Ptr nb6 0), (18, .agg (cu32 (stN constL initL (padL b) k)).toArray), (19, I64 i)]) (fun ⟨i, o⟩ => [⟨nb1, cu8 (zr8 32), 54, (0, 0)⟩, ⟨nb6, cu8 o, 54, (0, 0)⟩]) (fun ⟨i, o⟩ => i ≤ 8 ∧ o = outN (stN constL initL (padL b) k) i ∧ o.length = 32) (fun ⟨i, o⟩ => 8 - i) (0, zr8 32) ⟨by omega, by rw [outN], AN 32⟩ (Sub.all rfl) rfl ?_
  rintro ⟨i, o⟩ ⟨hz1, hz2, ho⟩
  show JC _ _ _ [(2, Ptr nb1 0), (5, Ptr nb6 0), (18, .agg (cu32 (stN constL initL (padL b) k)).toArray), (19, I64 i)] [⟨nb1, cu8 (zr8 32), 54, (0, 0)⟩, ⟨nb6, cu8 o, 54, (0, 0)⟩]
  refine AG (AB (AA (.bool (decide (((i:Int)) < (8:Int)))) (AP rfl rfl fun _ => DC _ _) rfl ?_))
  refine AL (AC (AG (CL (decide (((i:Int)) < (8:Int))) rfl (fun hb1 => ?_) (fun hb1 => ?_))))
  ·
   have hp1 : ((i:Int)) < (8:Int) := of_decide_eq_true hb1
   refine BL (AC (AG (B4 (AG (AB (AA _ (AE rfl) rfl ?_))))))
   refine AA (U32 (g32 (stN constL initL (padL b) k) i)) (Ev_index1 8 267 _ DM CZ CC rfl rfl (by omega) (by omega) (Seg.get1 (Seg.get (EX (i := i) (by rw [(stN_len FT k)]; omega))) (by omega))) rfl ?_
   refine AA _ (AH rfl) rfl ?_
   refine AA _ (AH rfl) rfl ?_
   refine AL (AC (AB (AA _ (AE rfl) rfl ?_)))
   refine AA (I64 (4*(i:Int))) (AP rfl rfl fun _ => F3 _ _ (4*(i:Int)) (by omega) (by omega)) rfl ?_
   refine AA (Slc nb6 (4*i) (32 - 4*i) (32 - 4*i)) (CI 32 5 1 (4*i) 32 (4*i) (32 - 4*i) D0 BC rfl (FA (by omega)) rfl (by omega) (by omega) (by omega) (by omega) (by omega) (32 - 4*i) (by omega)) rfl ?_
   refine AA _ (AE rfl) rfl ?_
   refine AA (U32 ((g32 (stN constL initL (padL b) k) i) >>> (24:UInt32))) (AP rfl rfl fun _ => E5 (g32 (stN constL initL (padL b) k) i) _ _ 24 (by decide) rfl) rfl ?_
   refine AA (U8 (((g32 (stN constL initL (padL b) k) i) >>> (24:UInt32)).toUInt8)) (EG _ _ rfl fun _ => conv_u32_u8 (by rw [EH]; rfl) CN _) rfl ?_
   refine AA _ (AE rfl) rfl ?_
   refine AA (U32 ((g32 (stN constL initL (padL b) k) i) >>> (16:UInt32))) (AP rfl rfl fun _ => E5 (g32 (stN constL initL (padL b) k) i) _ _ 16 (by decide) rfl) rfl ?_
   refine AA (U8 (((g32 (stN constL initL (padL b) k) i) >>> (16:UInt32)).toUInt8)) (EG _ _ rfl fun _ => conv_u32_u8 (by rw [EH]; rfl) CN _) rfl ?_
   refine AA _ (AE rfl) rfl ?_
   refine AA (U32 ((g32 (stN constL initL (padL b) k) i) >>> (8:UInt32))) (AP rfl rfl fun _ => E5 (g32 (stN constL initL (padL b) k) i) _ _ 8 (by decide) rfl) rfl ?_
   refine AA (U8 (((g32 (stN constL initL (padL b) k) i) >>> (8:UInt32)).toUInt8)) (EG _ _ rfl fun _ => conv_u32_u8 (by rw [EH]; rfl) CN _) rfl ?_
   refine AA _ (AE rfl) rfl ?_
   refine AA (U8 ((g32 (stN constL initL (padL b) k) i).toUInt8)) (EG _ _ rfl fun _ => conv_u32_u8 (by rw [EH]; rfl) CN _) rfl ?_
   refine A2 (CP 5 1 _ [(0, U8 (((g32 (stN constL initL (padL b) k) i) >>> (24:UInt32)).toUInt8)), (1, U8 (((g32 (stN constL initL (padL b) k) i) >>> (16:UInt32)).toUInt8)), (2, U8 (((g32 (stN constL initL (padL b) k) i) >>> (8:UInt32)).toUInt8)), (3, U8 ((g32 (stN constL initL (padL b) k) i).toUInt8))] (cu8 ([((g32 (stN constL initL (padL b) k) i) >>> (24:UInt32)).toUInt8, ((g32 (stN constL initL (padL b) k) i) >>> (16:UInt32)).toUInt8, ((g32 (stN constL initL (padL b) k) i) >>> (8:UInt32)).toUInt8, (g32 (stN constL initL (padL b) k) i).toUInt8])) AR BC D8 rfl rfl rfl (by kernel_rfl)) rfl ?_
   rintro v1 L1 ⟨nb7, hnb7, rfl, rfl⟩
   show JL _ _ _ _ ((37, Slc nb7 0 4 4) :: _) [_, _, ⟨nb7, cu8 ([((g32 (stN constL initL (padL b) k) i) >>> (24:UInt32)).toUInt8, ((g32 (stN constL initL (padL b) k) i) >>> (16:UInt32)).toUInt8, ((g32 (stN constL initL (padL b) k) i) >>> (8:UInt32)).toUInt8, (g32 (stN constL initL (padL b) k) i).toUInt8]), 5, (0, 0)⟩]
   have hl3 : (spl o (4*i) ([((g32 (stN constL initL (padL b) k) i) >>> (24:UInt32)).toUInt8, ((g32 (stN constL initL (padL b) k) i) >>> (16:UInt32)).toUInt8, ((g32 (stN constL initL (padL b) k) i) >>> (8:UInt32)).toUInt8, (g32 (stN constL initL (padL b) k) i).toUInt8])).length = 32 := by rw [spl_len (by simp [ho]; omega)]; simp [ho]
   refine AY (DX 43 43 5 1 nb6 (4*i) (32 - 4*i) (32 - 4*i) (cu8 o) 54 (some ⟨nb7, 0, none⟩) 4 4 4 (cu8 ([((g32 (stN constL initL (padL b) k) i) >>> (24:UInt32)).toUInt8, ((g32 (stN constL initL (padL b) k) i) >>> (16:UInt32)).toUInt8, ((g32 (stN constL initL (padL b) k) i) >>> (8:UInt32)).toUInt8, (g32 (stN constL initL (padL b) k) i).toUInt8])) (cu8 (spl o (4*i) ([((g32 (stN constL initL (padL b) k) i) >>> (24:UInt32)).toUInt8, ((g32 (stN constL initL (padL b) k) i) >>> (16:UInt32)).toUInt8, ((g32 (stN constL initL (padL b) k) i) >>> (8:UInt32)).toUInt8, (g32 (stN constL initL (padL b) k) i).toUInt8]))) AR C6 rfl rfl rfl (Nat.min_eq_left (by omega)) (by simp) (SrcAt.mem (AT 2 rfl (AJ _))) (by simp [ho]; try omega) (by first | exact CF | exact EI | exact EE | (simp [cu8, cu32, cu64, Value.oneCell']; done)) (laySpl8 _ _ _ (by simp [ho]; omega))) rfl ?_
   show JL _ _ _ _ ((38, I64 4) :: _) [_, ⟨nb6, cu8 (spl o (4*i) ([((g32 (stN constL initL (padL b) k) i) >>> (24:UInt32)).toUInt8, ((g32 (stN constL initL (padL b) k) i) >>> (16:UInt32)).toUInt8, ((g32 (stN constL initL (padL b) k) i) >>> (8:UInt32)).toUInt8, (g32 (stN constL initL (padL b) k) i).toUInt8])), 54, (0, 0)⟩, _]
   refine AL (B0 (AC (AB (AA (I64 ((i:Int) + 1)) (AP rfl rfl fun _ => DL _ _ ((i:Int) + 1) (by omega) (by omega)) rfl ?_))))
   refine AA _ (AE rfl) rfl ?_
   refine AL (DO (B5 [true, true, false] ?_))
   show K _ _ [_, _] _
   refine ER (i + 1, spl o (4*i) ([((g32 (stN constL initL (padL b) k) i) >>> (24:UInt32)).toUInt8, ((g32 (stN constL initL (padL b) k) i) >>> (16:UInt32)).toUInt8, ((g32 (stN constL initL (padL b) k) i) >>> (8:UInt32)).toUInt8, (g32 (stN constL initL (padL b) k) i).toUInt8])) ⟨by omega, by rw [outN, ← hz2], hl3⟩ (by first | (simp; omega) | simp | (dsimp only; omega) | omega) (Sub.all rfl) rfl
  ·
   have hp1 : ¬ (((i:Int)) < (8:Int)) := of_decide_eq_false hb1
   refine DU (A9 (A9 (CR (AC (AG (AB (AA (.agg (cu8 o).toArray) (AM rfl (A5 Tryd.isAgg54 D7 (DY ho) (AT 1 rfl (AJ _)))) rfl ?_)))))))
   refine AY (AU 0 nb1 32 (cu8 (zr8 32)) 54 (cu8 o) rfl rfl rfl D7 (DY ho) (by first | exact CF | exact EI | exact EE | (simp [cu8, cu32, cu64, Value.oneCell']; done)) (by simp [(AN 32)]) (A0 (by simp [(AN 32), ho]))) rfl ?_
   show JL _ _ _ _ _ [⟨nb1, cu8 o, 54, (0, 0)⟩, _]
   refine AL (AC (BH (JQ_retM D (.agg (cu8 o).toArray) rfl hD rfl hw'.here (fun _ => (res1 Tryd.results177 (CQ rfl (A5 Tryd.isAgg54 D7 (DY ho) (AT 0 rfl (AJ _)))))) (fun w1 hw1 => ?_))))
   have hw1 := hw'.fin hD hDle hw1 (.deferred none)
   have e1 : i = 8 := by omega
   subst e1
   have e2 : k = (padL b).length / 64 := by have : 64*k = (padL b).length := hf; omega
   refine ⟨_, [], rfl, ⟨?_, rfl⟩, hw1.sub (by simp) (by simp)⟩
   rw [sumG, ← outN_hash, hz2, e2]
 ·
  intro D k c L' W' hgo hX
  exact hX.elim
attribute [local irreducible] sumG
theorem bytes_c (a1 a2 : Option Addr) (n1 n2 c1 c2 : Nat) (x y : List UInt8) (w : World) (hx : x.length = n1) (hy : y.length = n2) (h1 : RdB w [] a1 x) (h2 : RdB w [] a2 y) : Calls Tryd.prog 24 #[.slice a1 n1 c1, .slice a2 n2 c2] w (Post w [] (fun v L => v = .bool (decide (x = y)) ∧ L = [])) := by
 refine enter w [] 10 [] [.slice a1 n1 c1, .slice a2 n2 c2] Tryd.func24 rfl rfl (by simp) (BY (by simp) (by simp) (by simp)) ?_
 show JC _ _ _ [(0, .slice a1 n1 c1), (1, .slice a2 n2 c2)] _
 refine AG (AB (AA _ (AH rfl) rfl ?_))
 refine AL (AC (AG (AB (AA _ (AE rfl) rfl ?_))))
 refine AA (.string (⟨x.toArray⟩ : ByteArray)) (Ev_toStr 5 a1 n1 c1 x AR CN Tryd.underlying9 rfl (by simp [hx]; try omega) (h1.src)) rfl ?_
 refine AA _ (AE rfl) rfl ?_
 refine AA (.string (⟨y.toArray⟩ : ByteArray)) (Ev_toStr 5 a2 n2 c2 y AR CN Tryd.underlying9 rfl (by simp [hy]; try omega) (h2.src)) rfl ?_
 refine AA (.bool (decide (x = y))) (DT _ _ _ rfl rfl (fun _ => eqGuard_str ..) fun _ => eql_str) rfl ?_
 refine AA _ (AH rfl) rfl ?_
 refine AL (AC (BH (BI (.bool (decide (x = y))) (res1 Tryd.results24 (BU rfl)) fun w1 hw1 => ?_)))
 refine ⟨_, [], rfl, ⟨?_, rfl⟩, hw1.sub (by simp) (by simp)⟩
 rfl
end Go.Proofs.YtkdpdgpphpngeaaDoor
namespace Go.Proofs.YtkdpdgpphpngeaaDoor
open Go Go.Sx
attribute [local irreducible] mid zr8 zr32 numK valK rvalK
theorem doneO_c (wb e gb n cap0 : Nat) (o : List UInt8) (w : World) (hw : RdA w wb 0 [errV 50 e, Slc gb 0 n cap0]) (he : e = 0) (ho : o.length = n) (hn : n ≤ 2000000000) (hr : RdB w [] (some ⟨gb, 0, none⟩) o) : Calls Tryd.prog 83 #[Ptr wb 0] w (Post w [] (fun v L => ∃ g sp cap, v = .tuple #[Slc g 0 n cap, .nilIface] ∧ L = [⟨g, cu8 o ++ sp, 5, (0, 0)⟩] ∧ sp.length = cap - n ∧ n ≤ cap ∧ cap ≤ maxLen)) := by
 refine enter w [] 25 [] [Ptr wb 0] Tryd.func83 rfl rfl (by simp) (BY (by simp) (by simp) (by simp)) ?_
 show JC _ _ _ [(0, Ptr wb 0)] _
 refine AG (AB (AA _ (AH rfl) rfl ?_))
 refine AA _ (AH rfl) rfl ?_
 refine AL (AC (AG (B4 (AG (AB (AA _ (AE rfl) rfl ?_))))))
 refine AA (.bool false) (DT _ _ _ rfl rfl (fun _ => FQ ..) fun _ => FW Tryd.underlying145) rfl ?_
 refine AA _ (AH rfl) rfl ?_
 refine AL (AC (BZ _ rfl rfl ?_))
 refine AG (AB (AA _ (AE rfl) rfl ?_))
 refine AA _ (C3 rfl) rfl ?_
 refine AA (Ptr wb 0) (AD 0 147 1 CT rfl Tryd.sizeOf147 rfl rfl) rfl ?_
 refine AA (Ptr wb 0) (AD 0 45 1 EQ rfl Tryd.sizeOf45 rfl rfl) rfl ?_
 refine AA (errV 50 e) (AM rfl (A6 Tryd.isAgg45 (CW (hw.mem (by simp)) (Seg.head) (by omega)))) rfl ?_
 refine AA (.bool (!(decide (e = 0)))) (DT _ _ _ rfl rfl (fun _ => DB ..) fun _ => EK BT _ _) rfl ?_
 refine AA _ (AH rfl) rfl ?_
 refine AL (AC (BZ _ rfl (by rw [show (decide (e = 0)) = true from (decide_eq_true he)] <;> rfl) ?_))
 refine BL (B0 (AC (AG (AB (AA _ (AE rfl) rfl ?_)))))
 refine AA _ (C3 rfl) rfl ?_
 refine AA (Ptr wb 1) (AD 1 43 1 CT rfl B2 rfl rfl) rfl ?_
 refine AA (.slice (some ⟨gb, 0, none⟩) n cap0) (AM rfl (A6 DF (CW (hw.mem (by simp)) (AO (Seg.head)) (by omega)))) rfl ?_
 refine A2 (B3 108 [.slice (some ⟨gb, 0, none⟩) n cap0] _ (AZ _ Tryd.call108 rfl) (fun w1 hw1 => sclone_c (some ⟨gb, 0, none⟩) n cap0 o w1 rfl ho (by omega) (hr.at (M' := []) hw1 (by simp)))) rfl ?_
 rintro v1 L1 ⟨_, ⟨nb1, sp1, cp1, rfl, rfl, hc1, hc2, hc3⟩, rfl⟩
 show JL _ _ _ _ ((24, Slc nb1 0 n cp1) :: _) [⟨nb1, cu8 o ++ sp1, 5, (0, 0)⟩]
 refine AA _ (AH rfl) rfl ?_
 refine AA _ (AH rfl) rfl ?_
 refine AL (AC (BH (BI (.tuple #[Slc nb1 0 n cp1, .nilIface]) (res2 Tryd.results83 (BU rfl) (BU rfl)) fun w1 hw1 => ?_)))
 exact ⟨_, _, rfl, ⟨nb1, sp1, cp1, rfl, rfl, hc1, hc2, hc3⟩, hw1.sub (by simp) (by simp)⟩
theorem errNo_c  (w : World) : Calls Tryd.prog 29 #[.nilIface] w (Post w [] (fun v L => v = I64 0 ∧ L = [])) := by
 refine enter w [] 18 [] [.nilIface] Tryd.func29 rfl rfl (by simp) (BY (by simp) (by simp) (by simp)) ?_
 show JC _ _ _ [(0, .nilIface)] _
 refine AG (AB (AA _ (AH rfl) rfl ?_))
 refine AL (AC (AG (AG (AB (AA _ (AE rfl) rfl ?_)))))
 refine AA (.bool true) (DT _ _ _ rfl rfl (fun _ => FB ..) fun _ => ES BT) rfl ?_
 refine AL (AC (CM _ rfl rfl ?_))
 refine AG (AB (AA _ (AH rfl) rfl ?_))
 refine AL (AC (BH (A4 (BI (I64 0) (res1 Tryd.results29 (BU rfl)) fun w1 hw1 => ?_))))
 exact ⟨_, [], rfl, ⟨rfl, rfl⟩, hw1.sub (by simp) (by simp)⟩
theorem errSome_c (e : Nat) (w : World) (he : e ≠ 0) : Calls Tryd.prog 29 #[.iface 50 (I64 e)] w (Post w [] (fun v L => v = I64 (e : Int) ∧ L = [])) := by
 refine enter w [] 18 [] [.iface 50 (I64 e)] Tryd.func29 rfl rfl (by simp) (BY (by simp) (by simp) (by simp)) ?_
 show JC _ _ _ [(0, .iface 50 (I64 e))] _
 refine AG (AB (AA _ (AH rfl) rfl ?_))
 refine AL (AC (AG (AG (AB (AA _ (AE rfl) rfl ?_)))))
 refine AA (.bool false) (DT _ _ _ rfl rfl (fun _ => eqGuard_if ..) fun _ => eql_if_nil BT) rfl ?_
 refine AL (AC (BZ _ rfl rfl ?_))
 refine BL (AC (AG (AG (AB (AA _ (AE rfl) rfl ?_)))))
 refine AA (.tuple #[I64 e, .bool true]) (Ev_assert _ _ rfl (fun _ => by kernel_rfl)) rfl ?_
 refine AA _ (AE rfl) rfl ?_
 refine AA _ (BB rfl rfl) rfl ?_
 refine AA _ (BB rfl rfl) rfl ?_
 refine AA _ (AH rfl) rfl ?_
 refine AA _ (AH rfl) rfl ?_
 refine AL (AC (AG (AB (AA _ (AE rfl) rfl ?_))))
 refine AA _ (AE rfl) rfl ?_
 refine AS 1 13 true _ _ rfl rfl rfl (AE rfl) rfl ?_
 refine AS 1 13 true _ (.bool (decide (((e:Int)) ≠ (0:Int)))) rfl rfl rfl (AP rfl rfl fun _ => CE _ _) rfl ?_
 refine AA _ (BO _ rfl rfl rfl) rfl ?_
 refine AL (AC (CM _ rfl (decide_eq_true (by omega)) ?_))
 refine AG (AB (AA _ (AE rfl) rfl ?_))
 refine AA _ (AH rfl) rfl ?_
 refine AL (AC (BH (A4 (BI (I64 e) (res1 Tryd.results29 (BU rfl)) fun w1 hw1 => ?_))))
 exact ⟨_, [], rfl, ⟨rfl, rfl⟩, hw1.sub (by simp) (by simp)⟩
theorem errNum_w (e : Nat) (w : World) : Calls Tryd.prog 29 #[errV 50 e] w (Post w [] (fun v L => v = I64 (e : Int) ∧ L = [])) := by
  by_cases he : e = 0
  · subst he; exact errNo_c w
  · rw [errV_pos he]; exact errSome_c e w he
end Go.Proofs.YtkdpdgpphpngeaaDoor
namespace Go.Sx
open Go Go.RowKit
open Go.ChangeShapes Go.WideShapes
section
variable {H : Type} {enc : TypeId × Value → H} {P : Program} {w : World} {base : Nat} {spare : Nat → Bool} {held : Bool} {sz : Bool}
def TD (enc : TypeId × Value → H) (P : Program) (w : World) (base : Nat) (spare : Nat → Bool) (held sz : Bool) (t : TypeId) (cs : List Value) : Prop :=
 ∃ fuel d ps, DataW.trod enc P w base spare held fuel t cs = some (d, ps) ∧ (sz = true → (d.weights P t).all (· ≤ reachBytes) = true)
theorem TD.of {t : TypeId} {v : Value} {d : DataW H} {ps : List MemPlace} (h : DataW.Trod enc P w base spare held t v d ps) (hw : sz = true → (d.weights P t).all (· ≤ reachBytes) = true) : TD enc P w base spare held sz t v.cells.toList := by
 obtain ⟨fuel, hf⟩ := h
 exact ⟨fuel, d, ps, hf, hw⟩
theorem wAll_get {p : Nat → Bool} {e : TypeId} : ∀ (ds : List (DataW H)), (DataW.weightsAll P e ds).all p = true → ∀ (i : Nat) (d : DataW H), ds[i]? = some d → (d.weights P e).all p = true
 | [], _, i, d, h => by simp at h
 | d0 :: ds, h, i, d, hd => by
  rw [DataW.weightsAll, List.all_append, Bool.and_eq_true] at h
  cases i with
  | zero => simp at hd; subst hd; exact h.1
  | succ i => exact wAll_get ds h.2 i d (by simpa using hd)
variable {t : TypeId} {cs : List Value}
theorem TD.alen {n e : Nat} (ht : P.underlying t = some (.array n e)) (h : TD enc P w base spare held sz t cs) : cs.length = P.cellsOf t := by
 obtain ⟨fuel, d, ps, h, hw⟩ := h
 obtain ⟨xs, m, _, hx, hl, hlen, hf⟩ := DataW.trod_array ht h
 exact hl
theorem TD.elem {n e : Nat} (i o s : Nat) (ht : P.underlying t = some (.array n e)) (hi : i < n) (hs : P.cellsOf e = s) (ho : o = i * s) (h : TD enc P w base spare held sz t cs) :
  TD enc P w base spare held sz e ((cs.drop o).take s) := by
 obtain ⟨fuel, d, ps, h, hw⟩ := h
 obtain ⟨xs, m, _, hx, hl, hlen, hf⟩ := DataW.trod_array ht h
 subst ho; subst hs
 have hlt : i < xs.length := by rw [hlen]; exact hi
 have hk := hf i hi
 rw [List.getElem?_eq_getElem hlt] at hk
 refine ⟨m, _, _, hk, fun hz => ?_⟩
 have hw := hw hz
 simp only [Prod.mk.injEq] at hx
 rw [hx.1, DataW.weights, ht] at hw
 exact wAll_get _ hw i _ (by simp [hlt])
theorem TD.u8 (ht : P.underlying t = some (.int .u8)) (h : TD enc P w base spare held sz t cs) : ∃ a : UInt8, cs = [U8 a] := by
 obtain ⟨fuel, d, ps, h, hw⟩ := h
 obtain ⟨n, rfl, _, hn⟩ := DataW.trod_int ht h
 obtain ⟨u, rfl⟩ := wf_u8 hn
 exact ⟨u, rfl⟩
theorem TD.u32 (ht : P.underlying t = some (.int .u32)) (h : TD enc P w base spare held sz t cs) : ∃ a : UInt32, cs = [U32 a] := by
 obtain ⟨fuel, d, ps, h, hw⟩ := h
 obtain ⟨n, rfl, _, hn⟩ := DataW.trod_int ht h
 obtain ⟨u, rfl⟩ := wf_u32 hn
 exact ⟨u, rfl⟩
theorem TD.u64 (ht : P.underlying t = some (.int .u64)) (h : TD enc P w base spare held sz t cs) : ∃ a : UInt64, cs = [U64 a] := by
 obtain ⟨fuel, d, ps, h, hw⟩ := h
 obtain ⟨n, rfl, _, hn⟩ := DataW.trod_int ht h
 obtain ⟨u, rfl⟩ := wf_u64 hn
 exact ⟨u, rfl⟩
theorem TD.i64 (ht : P.underlying t = some (.int .i64)) (h : TD enc P w base spare held sz t cs) : ∃ a : Int, cs = [I64 a] ∧ (-9223372036854775808 ≤ a ∧ a ≤ 9223372036854775807) := by
 obtain ⟨fuel, d, ps, h, hw⟩ := h
 obtain ⟨n, rfl, _, hn⟩ := DataW.trod_int ht h
 exact ⟨n, rfl, bounds_i64 hn⟩
theorem TD.bool (ht : P.underlying t = some .bool) (h : TD enc P w base spare held sz t cs) : ∃ a : Bool, cs = [.bool a] := by
 obtain ⟨fuel, d, ps, h, hw⟩ := h
 obtain ⟨b, rfl, _⟩ := DataW.trod_bool ht h
 exact ⟨b, rfl⟩
theorem TD.arr8 {n e : Nat} (ht : P.underlying t = some (.array n e)) (he : P.underlying e = some (.int .u8)) (hc : P.cellsOf e = 1) (hT : P.cellsOf t = n) (h : TD enc P w base spare held sz t cs) : ∃ l : List UInt8, cs = cu8 l ∧ l.length = n := by
 have hl := TD.alen ht h
 obtain ⟨l, rfl⟩ := all_u8 cs (fun i hi => by
  obtain ⟨u, hu⟩ := TD.u8 he (TD.elem i i 1 ht (by omega) hc (by omega) h)
  refine ⟨u, ?_⟩
  have h0 : ((cs.drop i).take 1)[0]? = some (U8 u) := by rw [hu]; rfl
  rw [List.getElem?_take, if_pos (by omega), List.getElem?_drop] at h0
  simpa using h0)
 exact ⟨l, rfl, by rw [← hT, ← hl]; simp⟩
def RdV (w : World) (ao : Option Addr) (vs : List Value) : Prop := vs = [] ∨ ∃ b off, ao = some ⟨b, off, none⟩ ∧ RdA w b off vs
end
end Go.Sx
namespace Go.Proofs.YtkdpdgpphpngeaaDoor
open Go Go.Sx Go.RowKit
instance (s : Int) : Decidable (Szd s) := by unfold Szd; infer_instance
theorem erN_pos {e k : Nat} (h : e ≠ 0) : erN e k = e := if_neg h
def advA (ao : Option Addr) (c s : Nat) : Option Addr := if c = s then ao else ao.map (·.add (s * 1))
theorem RdB.adv {w : World} {M : List Nat} {ao : Option Addr} {z : List UInt8} {c : Nat} (h : RdB w M ao z) (s : Nat) (hs : s ≤ z.length) (hc : z.length ≤ c) : RdB w M (advA ao c s) (z.drop s) := by
 have := RdB.slice h s z.length (Nat.le_refl _) hc
 rwa [List.take_of_length_le (by simp)] at this
theorem RdB.pre {w : World} {M : List Nat} {ao : Option Addr} {z : List UInt8} (h : RdB w M ao z) (s : Nat) : RdB w M ao (mid z 0 s) := by
  rcases h with rfl | ⟨b, off, h1, h2, h3, h4⟩
  · exact .inl (by simp [mid])
  · refine .inr ⟨b, off, h1, h2, h3, fun j v hj => h4 j v ?_⟩
    simp only [mid, List.drop_zero, cu8, List.map_take] at hj
    have hlt := (List.getElem?_eq_some_iff.1 hj).1
    rw [List.getElem?_take, if_pos (by simp at hlt; omega)] at hj
    exact hj
def Adv (ao : Option Addr) (z : List UInt8) (c : Nat) (ao' : Option Addr) (z' : List UInt8) (c' : Nat) : Prop :=
 (∀ w M, RdB w M ao z → RdB w M ao' z') ∧ z'.length ≤ c' ∧ c' ≤ maxLen ∧ z'.length ≤ z.length
theorem Adv.same {ao : Option Addr} {z : List UInt8} {c : Nat} (h : z.length ≤ c) (hm : c ≤ maxLen) : Adv ao z c ao z c := ⟨fun _ _ h => h, h, hm, Nat.le_refl _⟩
theorem Adv.drop {ao : Option Addr} {z : List UInt8} {c : Nat} (s : Nat) (hs : s ≤ z.length) (h : z.length ≤ c) (hm : c ≤ maxLen) : Adv ao z c (advA ao c s) (z.drop s) (c - s) :=
 ⟨fun _ _ hr => RdB.adv hr s hs h, by simp; omega, by omega, by simp⟩
theorem Adv.trans {ao ao' ao'' : Option Addr} {z z' z'' : List UInt8} {c c' c'' : Nat} (h : Adv ao z c ao' z' c') (h' : Adv ao' z' c' ao'' z'' c'') : Adv ao z c ao'' z'' c'' :=
 ⟨fun w M hr => h'.1 w M (h.1 w M hr), h'.2.1, h'.2.2.1, Nat.le_trans h'.2.2.2 h.2.2.2⟩
def TkOk (z : List UInt8) (e : Nat) (s : Int) : Prop := e = 0 ∧ 0 ≤ s ∧ s ≤ z.length
instance (z : List UInt8) (e : Nat) (s : Int) : Decidable (TkOk z e s) := by unfold TkOk; infer_instance
def tkZ (z : List UInt8) (e : Nat) (s : Int) : List UInt8 := if TkOk z e s then z.drop s.toNat else z
def tkV (z : List UInt8) (e : Nat) (s : Int) : List UInt8 := if TkOk z e s then mid z 0 s.toNat else []
def NuOk (z : List UInt8) (e : Nat) (s : Int) : Prop := e = 0 ∧ Szd s ∧ s ≤ z.length
instance (z : List UInt8) (e : Nat) (s : Int) : Decidable (NuOk z e s) := by unfold NuOk; infer_instance
def nuZ (z : List UInt8) (e : Nat) (s : Int) : List UInt8 := if NuOk z e s then z.drop s.toNat else z
def nuV (z : List UInt8) (e : Nat) (s : Int) : UInt64 := if NuOk z e s then valK z s.toNat else 0
def okE (e : Nat) (ok : Bool) : Nat := if ok then 0 else erN e 2
def fdN (z : List UInt8) : Nat := 256 * (g8 z 0).toNat + (g8 z 1).toNat
def FdOk (z : List UInt8) (e : Nat) (s : Int) : Prop := e = 0 ∧ 2 ≤ z.length ∧ (fdN z : Int) ≤ s ∧ fdN z + 2 ≤ z.length
instance (z : List UInt8) (e : Nat) (s : Int) : Decidable (FdOk z e s) := by unfold FdOk; infer_instance
def HsOk (z : List UInt8) (e : Nat) : Prop := e = 0 ∧ 32 ≤ z.length
instance (z : List UInt8) (e : Nat) : Decidable (HsOk z e) := by unfold HsOk; infer_instance
def FgOk (z : List UInt8) (e : Nat) : Prop := e = 0 ∧ 1 ≤ z.length ∧ g8 z 0 ≤ 1
instance (z : List UInt8) (e : Nat) : Decidable (FgOk z e) := by unfold FgOk; infer_instance
def endN (e n : Nat) : Nat := if e = 0 then (if n = 0 then 0 else 2) else e
def leftN (e n : Nat) : Nat := if e = 0 then n else 0
theorem valK_one (z : List UInt8) : valK z 1 = (g8 z 0).toUInt64 := by
 rw [valK, valK, shl_or]; simp
structure ActV where
 kd : Int
 s : Int
 nn : UInt64
 ao : Option Addr
 p : Nat
 c : Nat
 z : List UInt8
theorem flat_at {α : Type} (f : α → List Value) (s : Nat) (hf : ∀ a, (f a).length = s) : ∀ (asL : List α) (i : Nat) (a : α), asL[i]? = some a → ∀ (j : Nat) (v : Value), (f a)[j]? = some v → (asL.flatMap f)[i * s + j]? = some v
 | [], i, a, h, _, _, _ => by simp at h
 | x :: asL, 0, a, h, j, v, hj => by
  simp at h; subst h
  rw [List.flatMap_cons, Nat.zero_mul, Nat.zero_add, List.getElem?_append_left (List.getElem?_eq_some_iff.1 hj).1]
  exact hj
 | x :: asL, i + 1, a, h, j, v, hj => by
  rw [List.flatMap_cons, List.getElem?_append_right (by rw [hf, Nat.succ_mul]; omega), hf, show (i + 1) * s + j - s = i * s + j by rw [Nat.succ_mul]; omega]
  exact flat_at f s hf asL i a (by simpa using h) j v hj
theorem rows_at {α : Type} {f : α → List Value} {s : Nat} (hf : ∀ a, (f a).length = s) (hs : 0 < s) {w : World} {ao : Option Addr} {asL : List α} (h : RdV w ao (asL.flatMap f)) {i : Nat} {a : α} (ha : asL[i]? = some a) :
    ∃ b off, ao = some ⟨b, off, none⟩ ∧ RdA w b (off + i * s) (f a) := by
  have hne : asL.flatMap f ≠ [] := fun h0 => by
    have hl := hf a
    have h1 : 0 < (f a).length := by omega
    have := flat_at f s hf asL i a ha 0 ((f a)[0]) (by simp [h1])
    rw [h0] at this; simp at this
  rcases h with h | ⟨b, off, h1, h2, h3⟩
  · exact absurd h hne
  · exact ⟨b, off, h1, h2, fun j v hj => by rw [Nat.add_assoc]; exact h3 _ v (flat_at f s hf asL i a ha j v hj)⟩
section
variable {H : Type} {enc : TypeId × Value → H} {P : Program} {w : World} {base : Nat} {spare : Nat → Bool} {held : Bool} {sz : Bool}
end
theorem FM {C : Cx} {L : List Ent} {w : World} {ao : Option Addr} {vs : List Value} (hw : Hp C.w0 C.M L w) (hM : C.M = []) (h : RdV C.w0 ao vs) : RdV w ao vs := by
  rcases h with h | ⟨b, off, h1, h2⟩
  · exact .inl h
  · cases vs with
    | nil => exact .inl rfl
    | cons v vs => exact .inr ⟨b, off, h1, RdA.of hw (h2.mem (by rw [hM]; simp)) (by simp)⟩
def sumP (asL : List ActV) (i : Nat) : Nat := ((asL.take i).map ActV.p).sum
def LongP (asL : List ActV) (n : Nat) : Prop := ¬ (n ≤ 41 ∧ sumP asL n ≤ 200000)
instance (asL : List ActV) (n : Nat) : Decidable (LongP asL n) := by unfold LongP; infer_instance
end Go.Proofs.YtkdpdgpphpngeaaDoor
namespace Go.Proofs.YtkdpdgpphpngeaaDoor
open Go Go.Sx
attribute [local irreducible] mid zr8 zr32 numK valK rvalK
theorem leftZ_c (rb e : Nat) (ao : Option Addr) (n c : Nat) (w : World) (hw : RdA w rb 0 [errV 50 e, .slice ao n c]) (he : e = 0) : Calls Tryd.prog 61 #[Ptr rb 0] w (Post w [] (fun v L => v = I64 (n : Int) ∧ L = [])) := by
 refine enter w [] 18 [] [Ptr rb 0] Tryd.func61 rfl rfl (by simp) (BY (by simp) (by simp) (by simp)) ?_
 show JC _ _ _ [(0, Ptr rb 0)] _
 refine AG (AB (AA _ (AH rfl) rfl ?_))
 refine AL (AC (AG (AG (AB (AA _ (AE rfl) rfl ?_)))))
 refine AA (.bool false) (DT _ _ _ rfl rfl (fun _ => FQ ..) fun _ => FW Tryd.underlying110) rfl ?_
 refine AA _ (AE rfl) rfl ?_
 refine AS 2 5 false _ _ rfl rfl rfl (AE rfl) rfl ?_
 refine AS 2 5 false _ _ rfl rfl rfl (C3 rfl) rfl ?_
 refine AS 2 5 false _ (Ptr rb 0) rfl rfl rfl (AD 0 147 1 DV rfl Tryd.sizeOf147 rfl rfl) rfl ?_
 refine AS 2 5 false _ (Ptr rb 0) rfl rfl rfl (AD 0 45 1 EQ rfl Tryd.sizeOf45 rfl rfl) rfl ?_
 refine AS 2 5 false _ (errV 50 e) rfl rfl rfl (AM rfl (A6 Tryd.isAgg45 (CW (hw.mem (by simp)) (Seg.head) (by omega)))) rfl ?_
 refine AS 2 5 false _ (.bool (!(decide (e = 0)))) rfl rfl rfl (DT _ _ _ rfl rfl (fun _ => DB ..) fun _ => EK BT _ _) rfl ?_
 refine AA _ (BF _ rfl rfl rfl) rfl ?_
 refine AL (AC (BZ _ rfl (by rw [show (decide (e = 0)) = true from (decide_eq_true he)] <;> rfl) ?_))
 refine BL (AC (AG (AB (AA _ (AE rfl) rfl ?_))))
 refine AA _ (C3 rfl) rfl ?_
 refine AA (Ptr rb 1) (AD 1 43 1 DV rfl B2 rfl rfl) rfl ?_
 refine AA (.slice ao n c) (AM rfl (A6 DF (CW (hw.mem (by simp)) (AO (Seg.head)) (by omega)))) rfl ?_
 refine AA (I64 n) (DS AR rfl) rfl ?_
 refine AA _ (AH rfl) rfl ?_
 refine AL (AC (BH (BI (I64 n) (res1 Tryd.results61 (BU rfl)) fun w1 hw1 => ?_)))
 exact ⟨_, [], rfl, ⟨rfl, rfl⟩, hw1.sub (by simp) (by simp)⟩
theorem leftE_c (rb e : Nat) (sv : Value) (w : World) (hw : RdA w rb 0 [errV 50 e, sv]) (he : e ≠ 0) : Calls Tryd.prog 61 #[Ptr rb 0] w (Post w [] (fun v L => v = I64 0 ∧ L = [])) := by
 refine enter w [] 18 [] [Ptr rb 0] Tryd.func61 rfl rfl (by simp) (BY (by simp) (by simp) (by simp)) ?_
 show JC _ _ _ [(0, Ptr rb 0)] _
 refine AG (AB (AA _ (AH rfl) rfl ?_))
 refine AL (AC (AG (AG (AB (AA _ (AE rfl) rfl ?_)))))
 refine AA (.bool false) (DT _ _ _ rfl rfl (fun _ => FQ ..) fun _ => FW Tryd.underlying110) rfl ?_
 refine AA _ (AE rfl) rfl ?_
 refine AS 2 5 false _ _ rfl rfl rfl (AE rfl) rfl ?_
 refine AS 2 5 false _ _ rfl rfl rfl (C3 rfl) rfl ?_
 refine AS 2 5 false _ (Ptr rb 0) rfl rfl rfl (AD 0 147 1 DV rfl Tryd.sizeOf147 rfl rfl) rfl ?_
 refine AS 2 5 false _ (Ptr rb 0) rfl rfl rfl (AD 0 45 1 EQ rfl Tryd.sizeOf45 rfl rfl) rfl ?_
 refine AS 2 5 false _ (errV 50 e) rfl rfl rfl (AM rfl (A6 Tryd.isAgg45 (CW (hw.mem (by simp)) (Seg.head) (by omega)))) rfl ?_
 refine AS 2 5 false _ (.bool (!(decide (e = 0)))) rfl rfl rfl (DT _ _ _ rfl rfl (fun _ => DB ..) fun _ => EK BT _ _) rfl ?_
 refine AA _ (BF _ rfl rfl rfl) rfl ?_
 refine AL (AC (CM _ rfl (by rw [show (decide (e = 0)) = false from (decide_eq_false he)] <;> rfl) ?_))
 refine AG (AB (AA _ (AH rfl) rfl ?_))
 refine AL (AC (BH (A4 (BI (I64 0) (res1 Tryd.results61 (BU rfl)) fun w1 hw1 => ?_))))
 exact ⟨_, [], rfl, ⟨rfl, rfl⟩, hw1.sub (by simp) (by simp)⟩
theorem left_w (rb e : Nat) (ao : Option Addr) (n c : Nat) (w : World) (hw : RdA w rb 0 [errV 50 e, .slice ao n c]) : Calls Tryd.prog 61 #[Ptr rb 0] w (Post w [] (fun v L => v = I64 ((leftN e n : Nat) : Int) ∧ L = [])) := by
  by_cases he : e = 0
  · rw [leftN, if_pos he]; exact leftZ_c rb e ao n c w hw he
  · rw [leftN, if_neg he]; exact leftE_c rb e _ w hw he
theorem failRd_c (rb e k : Nat) (sv : Value) (w : World) (h0 : w.heap[rb]? = some (.cells [errV 50 e, sv].toArray 204 (0, 0)))  : Calls Tryd.prog 121 #[Ptr rb 0, errV 50 k] w (Post w [rb] (fun v L => v = .tuple #[] ∧ L = [⟨rb, [errV 50 (erN e k), sv], 204, (0, 0)⟩])) := by
 refine enter w [rb] 11 [⟨rb, [errV 50 e, sv], 204, (0, 0)⟩] [Ptr rb 0, errV 50 k] Tryd.func121 rfl rfl (by simp) (BY (by simpa using h0) (by simp) (by simp)) ?_
 show JC _ _ _ [(0, Ptr rb 0), (1, errV 50 k)] _
 refine AG (AB (AA _ (AE rfl) rfl ?_))
 refine AA (.bool true) (DT _ _ _ rfl rfl (fun _ => FQ ..) fun _ => neq_ptr_nil Tryd.underlying110) rfl ?_
 refine AL (AC (CM _ rfl rfl ?_))
 refine AB (AA _ (AE rfl) rfl ?_)
 refine AA _ (C3 rfl) rfl ?_
 refine AA (Ptr rb 0) (AD 0 147 1 DV rfl Tryd.sizeOf147 rfl rfl) rfl ?_
 refine AA _ (AE rfl) rfl ?_
 refine A2 (FC 144 [Ptr rb 0, errV 50 k] 0 ⟨rb, [errV 50 e, sv], 204, (0, 0)⟩ _ (fun v e' l' => v = .tuple #[] ∧ e' = ⟨rb, [errV 50 (erN e k), sv], 204, (0, 0)⟩ ∧ l' = []) (AZ _ Tryd.call144 rfl) rfl (by rintro v l ⟨rfl, rfl⟩; exact ⟨_, _, rfl, rfl, rfl, rfl, rfl⟩) (fun w1 hw1 => failR_c rb e k sv w1 (hw1.ent _ (List.mem_of_getElem? (i := 0) rfl)))) rfl ?_
 rintro v1 L1 ⟨_, _, ⟨rfl, rfl, rfl⟩, rfl⟩
 show JL _ _ _ _ ((10, .tuple #[]) :: _) [⟨rb, [errV 50 (erN e k), sv], 204, (0, 0)⟩]
 refine AL (JQ_end (.tuple #[]) (res0 Tryd.results121 ) fun w1 hw1 => ?_)
 exact ⟨_, _, rfl, ⟨rfl, rfl⟩, hw1⟩
theorem F1 (rb e k : Nat) (sv : Value) (w : World) (hk : k ≠ 0) (h0 : w.heap[rb]? = some (.cells [errV 50 e, sv].toArray 204 (0, 0))) : Calls Tryd.prog 121 #[Ptr rb 0, .iface 50 (I64 (k : Int))] w (Post w [rb] (fun v L => v = .tuple #[] ∧ L = [⟨rb, [errV 50 (erN e k), sv], 204, (0, 0)⟩])) := by
 have h := failRd_c rb e k sv w h0
 rw [errV_pos hk] at h
 exact h
theorem rawRB0_c (rb e : Nat) (ao : Option Addr) (n c : Nat) (s : Int) (w : World) (h0 : w.heap[rb]? = some (.cells [errV 50 e, .slice ao n c].toArray 204 (0, 0))) (he : e = 0) (hs : s < 0 ∨ (n:Int) < s) : Calls Tryd.prog 127 #[Ptr rb 0, I64 (s)] w (Post w [rb] (fun v L => v = .slice none 0 0 ∧ L = [⟨rb, [errV 50 (erN e 2), .slice ao n c], 204, (0, 0)⟩])) := by
 refine enter w [rb] 36 [⟨rb, [errV 50 e, .slice ao n c], 204, (0, 0)⟩] [Ptr rb 0, I64 (s)] Tryd.func127 rfl rfl (by simp) (BY (by simpa using h0) (by simp) (by simp)) ?_
 show JC _ _ _ [(0, Ptr rb 0), (1, I64 (s))] _
 refine AG (AB (AA _ (AH rfl) rfl ?_))
 refine AL (AC (AG (AG (AB (AA _ (AE rfl) rfl ?_)))))
 refine AA (.bool (decide ((s) < (0:Int)))) (AP rfl rfl fun _ => DC _ _) rfl ?_
 refine AA _ (AE rfl) rfl ?_
 rcases Bool.eq_false_or_eq_true (decide ((s) < (0:Int))) with hb1 | hb1
 ·
  have hp1 : (s) < (0:Int) := of_decide_eq_true hb1
  refine AF 2 8 false _ rfl rfl hb1 rfl ?_
  refine AF 2 8 false _ rfl rfl hb1 rfl ?_
  refine AF 2 8 false _ rfl rfl hb1 rfl ?_
  refine AF 2 8 false _ rfl rfl hb1 rfl ?_
  refine AA _ (BO _ rfl hb1 rfl) rfl ?_
  refine AL (AC (CM _ rfl rfl ?_))
  refine AG (AB (AA _ (AE rfl) rfl ?_))
  refine AA (.iface 50 (I64 2)) (FL DI rfl rfl) rfl ?_
  refine A2 (FC 121 [Ptr rb 0, .iface 50 (I64 2)] 0 ⟨rb, [errV 50 e, .slice ao n c], 204, (0, 0)⟩ _ (fun v e' l' => v = .tuple #[] ∧ e' = ⟨rb, [errV 50 (erN e 2), .slice ao n c], 204, (0, 0)⟩ ∧ l' = []) (AZ _ Tryd.call121 rfl) rfl (by rintro v l ⟨rfl, rfl⟩; exact ⟨_, _, rfl, rfl, rfl, rfl, rfl⟩) (fun w1 hw1 => F1 rb e 2 (.slice ao n c) w1 (by decide) (hw1.ent _ (List.mem_of_getElem? (i := 0) rfl)))) rfl ?_
  rintro v1 L1 ⟨_, _, ⟨rfl, rfl, rfl⟩, rfl⟩
  show JL _ _ _ _ ((16, .tuple #[]) :: _) [⟨rb, [errV 50 (erN e 2), .slice ao n c], 204, (0, 0)⟩]
  refine AL (AC (AG (AB (AA _ (AH rfl) rfl ?_))))
  refine AL (AC (BH (A4 (BI (.slice none 0 0) (res1 Tryd.results127 (BU rfl)) fun w1 hw1 => ?_))))
  exact ⟨_, _, rfl, ⟨rfl, rfl⟩, hw1⟩
 ·
  have hp1 : ¬ ((s) < (0:Int)) := of_decide_eq_false hb1
  refine AS 2 8 false _ _ rfl rfl hb1 (AE rfl) rfl ?_
  refine AS 2 8 false _ _ rfl rfl hb1 (AE rfl) rfl ?_
  refine DZ 2 8 false _ rfl rfl hb1 (AX 61 [Ptr rb 0] (I64 n) (AZ _ EM rfl) (fun w1 hw1 => leftZ_c rb e ao n c w1 (RdA.of hw1 (AT 0 rfl (AJ _)) (by simp)) he)) rfl ?_
  rintro v1 L1 ⟨rfl, rfl⟩
  show JL _ _ _ _ ((11, I64 n) :: _) [_]
  refine AS 2 8 false _ (.bool (decide (((n:Int)) < (s)))) rfl rfl hb1 (AP rfl rfl fun _ => EL _ _) rfl ?_
  refine AA _ (BF _ rfl hb1 rfl) rfl ?_
  refine AL (AC (CM _ rfl (decide_eq_true (by omega)) ?_))
  refine AG (AB (AA _ (AE rfl) rfl ?_))
  refine AA (.iface 50 (I64 2)) (FL DI rfl rfl) rfl ?_
  refine A2 (FC 121 [Ptr rb 0, .iface 50 (I64 2)] 0 ⟨rb, [errV 50 e, .slice ao n c], 204, (0, 0)⟩ _ (fun v e' l' => v = .tuple #[] ∧ e' = ⟨rb, [errV 50 (erN e 2), .slice ao n c], 204, (0, 0)⟩ ∧ l' = []) (AZ _ Tryd.call121 rfl) rfl (by rintro v l ⟨rfl, rfl⟩; exact ⟨_, _, rfl, rfl, rfl, rfl, rfl⟩) (fun w1 hw1 => F1 rb e 2 (.slice ao n c) w1 (by decide) (hw1.ent _ (List.mem_of_getElem? (i := 0) rfl)))) rfl ?_
  rintro v1 L1 ⟨_, _, ⟨rfl, rfl, rfl⟩, rfl⟩
  show JL _ _ _ _ ((16, .tuple #[]) :: _) [⟨rb, [errV 50 (erN e 2), .slice ao n c], 204, (0, 0)⟩]
  refine AL (AC (AG (AB (AA _ (AH rfl) rfl ?_))))
  refine AL (AC (BH (A4 (BI (.slice none 0 0) (res1 Tryd.results127 (BU rfl)) fun w1 hw1 => ?_))))
  exact ⟨_, _, rfl, ⟨rfl, rfl⟩, hw1⟩
theorem rawRB1_c (rb e : Nat) (sv : Value) (s : Int) (w : World) (h0 : w.heap[rb]? = some (.cells [errV 50 e, sv].toArray 204 (0, 0))) (he : e ≠ 0) (hs : s ≠ 0) : Calls Tryd.prog 127 #[Ptr rb 0, I64 (s)] w (Post w [rb] (fun v L => v = .slice none 0 0 ∧ L = [⟨rb, [errV 50 (erN e 2), sv], 204, (0, 0)⟩])) := by
 refine enter w [rb] 36 [⟨rb, [errV 50 e, sv], 204, (0, 0)⟩] [Ptr rb 0, I64 (s)] Tryd.func127 rfl rfl (by simp) (BY (by simpa using h0) (by simp) (by simp)) ?_
 show JC _ _ _ [(0, Ptr rb 0), (1, I64 (s))] _
 refine AG (AB (AA _ (AH rfl) rfl ?_))
 refine AL (AC (AG (AG (AB (AA _ (AE rfl) rfl ?_)))))
 refine AA (.bool (decide ((s) < (0:Int)))) (AP rfl rfl fun _ => DC _ _) rfl ?_
 refine AA _ (AE rfl) rfl ?_
 rcases Bool.eq_false_or_eq_true (decide ((s) < (0:Int))) with hb1 | hb1
 ·
  have hp1 : (s) < (0:Int) := of_decide_eq_true hb1
  refine AF 2 8 false _ rfl rfl hb1 rfl ?_
  refine AF 2 8 false _ rfl rfl hb1 rfl ?_
  refine AF 2 8 false _ rfl rfl hb1 rfl ?_
  refine AF 2 8 false _ rfl rfl hb1 rfl ?_
  refine AA _ (BO _ rfl hb1 rfl) rfl ?_
  refine AL (AC (CM _ rfl rfl ?_))
  refine AG (AB (AA _ (AE rfl) rfl ?_))
  refine AA (.iface 50 (I64 2)) (FL DI rfl rfl) rfl ?_
  refine A2 (FC 121 [Ptr rb 0, .iface 50 (I64 2)] 0 ⟨rb, [errV 50 e, sv], 204, (0, 0)⟩ _ (fun v e' l' => v = .tuple #[] ∧ e' = ⟨rb, [errV 50 (erN e 2), sv], 204, (0, 0)⟩ ∧ l' = []) (AZ _ Tryd.call121 rfl) rfl (by rintro v l ⟨rfl, rfl⟩; exact ⟨_, _, rfl, rfl, rfl, rfl, rfl⟩) (fun w1 hw1 => F1 rb e 2 sv w1 (by decide) (hw1.ent _ (List.mem_of_getElem? (i := 0) rfl)))) rfl ?_
  rintro v1 L1 ⟨_, _, ⟨rfl, rfl, rfl⟩, rfl⟩
  show JL _ _ _ _ ((16, .tuple #[]) :: _) [⟨rb, [errV 50 (erN e 2), sv], 204, (0, 0)⟩]
  refine AL (AC (AG (AB (AA _ (AH rfl) rfl ?_))))
  refine AL (AC (BH (A4 (BI (.slice none 0 0) (res1 Tryd.results127 (BU rfl)) fun w1 hw1 => ?_))))
  exact ⟨_, _, rfl, ⟨rfl, rfl⟩, hw1⟩
 ·
  have hp1 : ¬ ((s) < (0:Int)) := of_decide_eq_false hb1
  refine AS 2 8 false _ _ rfl rfl hb1 (AE rfl) rfl ?_
  refine AS 2 8 false _ _ rfl rfl hb1 (AE rfl) rfl ?_
  refine DZ 2 8 false _ rfl rfl hb1 (AX 61 [Ptr rb 0] (I64 0) (AZ _ EM rfl) (fun w1 hw1 => leftE_c rb e sv w1 (RdA.of hw1 (AT 0 rfl (AJ _)) (by simp)) he)) rfl ?_
  rintro v1 L1 ⟨rfl, rfl⟩
  show JL _ _ _ _ ((11, I64 0) :: _) [_]
  refine AS 2 8 false _ (.bool (decide ((0:Int) < (s)))) rfl rfl hb1 (AP rfl rfl fun _ => EL _ _) rfl ?_
  refine AA _ (BF _ rfl hb1 rfl) rfl ?_
  refine AL (AC (CM _ rfl (decide_eq_true (by omega)) ?_))
  refine AG (AB (AA _ (AE rfl) rfl ?_))
  refine AA (.iface 50 (I64 2)) (FL DI rfl rfl) rfl ?_
  refine A2 (FC 121 [Ptr rb 0, .iface 50 (I64 2)] 0 ⟨rb, [errV 50 e, sv], 204, (0, 0)⟩ _ (fun v e' l' => v = .tuple #[] ∧ e' = ⟨rb, [errV 50 (erN e 2), sv], 204, (0, 0)⟩ ∧ l' = []) (AZ _ Tryd.call121 rfl) rfl (by rintro v l ⟨rfl, rfl⟩; exact ⟨_, _, rfl, rfl, rfl, rfl, rfl⟩) (fun w1 hw1 => F1 rb e 2 sv w1 (by decide) (hw1.ent _ (List.mem_of_getElem? (i := 0) rfl)))) rfl ?_
  rintro v1 L1 ⟨_, _, ⟨rfl, rfl, rfl⟩, rfl⟩
  show JL _ _ _ _ ((16, .tuple #[]) :: _) [⟨rb, [errV 50 (erN e 2), sv], 204, (0, 0)⟩]
  refine AL (AC (AG (AB (AA _ (AH rfl) rfl ?_))))
  refine AL (AC (BH (A4 (BI (.slice none 0 0) (res1 Tryd.results127 (BU rfl)) fun w1 hw1 => ?_))))
  exact ⟨_, _, rfl, ⟨rfl, rfl⟩, hw1⟩
theorem rawROk_c (rb e : Nat) (ao : Option Addr) (n c : Nat) (z : List UInt8) (s n2 c2 : Nat) (w : World) (h0 : w.heap[rb]? = some (.cells [errV 50 e, .slice ao n c].toArray 204 (0, 0))) (hz : z.length = n) (hn : n ≤ 2000000000) (hc : n ≤ c) (hcm : c ≤ maxLen) (hr : RdB w [rb] ao z) (he : e = 0) (h1 : 0 < s) (h2 : s ≤ n) (ht1 : s + n2 = n) (ht2 : s + c2 = c) : Calls Tryd.prog 127 #[Ptr rb 0, I64 s] w (Post w [rb] (fun v L => ∃ g sp cap, v = Slc g 0 s cap ∧ L = [⟨rb, [errV 50 e, .slice (advA ao c s) n2 c2], 204, (0, 0)⟩, ⟨g, cu8 (mid z 0 s) ++ sp, 5, (0, 0)⟩] ∧ sp.length = cap - s ∧ s ≤ cap ∧ cap ≤ maxLen)) := by
 have hsome : ao.isNone = false := by
  obtain ⟨_, _, ha, _⟩ := hr.pos (by omega)
  rw [ha]; rfl
 refine enter w [rb] 36 [⟨rb, [errV 50 e, .slice ao n c], 204, (0, 0)⟩] [Ptr rb 0, I64 s] Tryd.func127 rfl rfl (by simp) (BY (by simpa using h0) (by simp) (by simp)) ?_
 show JC _ _ _ [(0, Ptr rb 0), (1, I64 s)] _
 refine AG (AB (AA _ (AH rfl) rfl ?_))
 refine AL (AC (AG (AG (AB (AA _ (AE rfl) rfl ?_)))))
 refine AA (.bool (decide (((s:Int)) < (0:Int)))) (AP rfl rfl fun _ => DC _ _) rfl ?_
 refine AA _ (AE rfl) rfl ?_
 refine AS 2 8 false _ _ rfl rfl (decide_eq_false (by omega)) (AE rfl) rfl ?_
 refine AS 2 8 false _ _ rfl rfl (decide_eq_false (by omega)) (AE rfl) rfl ?_
 refine DZ 2 8 false _ rfl rfl (decide_eq_false (by omega)) (AX 61 [Ptr rb 0] (I64 n) (AZ _ EM rfl) (fun w1 hw1 => leftZ_c rb e ao n c w1 (RdA.of hw1 (AT 0 rfl (AJ _)) (by simp)) he)) rfl ?_
 rintro v1 L1 ⟨rfl, rfl⟩
 show JL _ _ _ _ ((11, I64 n) :: _) [_]
 refine AS 2 8 false _ (.bool (decide (((n:Int)) < ((s:Int))))) rfl rfl (decide_eq_false (by omega)) (AP rfl rfl fun _ => EL _ _) rfl ?_
 refine AA _ (BF _ rfl (decide_eq_false (by omega)) rfl) rfl ?_
 refine AL (AC (BZ _ rfl (decide_eq_false (by omega)) ?_))
 refine BL (AC (AG (AG (AB (AA _ (AE rfl) rfl ?_)))))
 refine AA (.bool (decide (((s:Int)) = (0:Int)))) (AP rfl rfl fun _ => CA _ _) rfl ?_
 refine AL (AC (BZ _ rfl (decide_eq_false (by omega)) ?_))
 refine BL (AC (AG (AB (AA _ (AE rfl) rfl ?_))))
 refine AA _ (C3 rfl) rfl ?_
 refine AA (Ptr rb 1) (AD 1 43 1 DV rfl B2 rfl rfl) rfl ?_
 refine AA (.slice ao n c) (AM rfl (A6 DF (AT 0 rfl (AO (Seg.head))))) rfl ?_
 refine AA _ (AE rfl) rfl ?_
 have hl1 : (mid z 0 s).length = s := FE (by rw [hz]; omega)
 have hr1 := RdB.pre hr s
 refine AA (.slice ao s c) (Ev_sliceHi 5 1 s AR BC rfl rfl (by omega)) rfl ?_
 refine A2 (B3 108 [.slice ao s c] _ (AZ _ Tryd.call108 rfl) (fun w1 hw1 => sclone_c ao s c (mid z 0 s) w1 hsome hl1 (by omega) (hr1.at (M' := []) hw1 (by simp)))) rfl ?_
 rintro v1 L1 ⟨_, ⟨nb1, sp1, cp1, rfl, rfl, hc1, hc2, hc3⟩, rfl⟩
 show JL _ _ _ _ ((25, Slc nb1 0 s cp1) :: _) [_, ⟨nb1, cu8 (mid z 0 s) ++ sp1, 5, (0, 0)⟩]
 refine AA _ (AH rfl) rfl ?_
 refine AL (AC (AG (AB (AA _ (AE rfl) rfl ?_))))
 refine AA _ (AE rfl) rfl ?_
 refine AA _ (C3 rfl) rfl ?_
 refine AA (Ptr rb 1) (AD 1 43 1 DV rfl B2 rfl rfl) rfl ?_
 refine AA (.slice ao n c) (AM rfl (A6 DF (AT 0 rfl (AO (Seg.head))))) rfl ?_
 refine AA _ (AE rfl) rfl ?_
 have hl2 : (z.drop s).length = (n - s) := by rw [List.length_drop, hz] <;> omega
 have hr2 := RdB.adv (c := c) hr s (by rw [hz]; omega) (by rw [hz]; omega)
 refine AA (.slice (advA ao c s) (n - s) (c - s)) (Ev_sliceLo 5 s (n - s) (c - s) AR BC rfl rfl (by omega) (by omega) (by omega) (by omega)) rfl ?_
 refine AA _ (C3 rfl) rfl ?_
 refine AA (Ptr rb 1) (AD 1 43 1 DV rfl B2 rfl rfl) rfl ?_
 refine AY (C0 0 rb 1 1 ([errV 50 e, .slice ao n c]) 204 (.slice (advA ao c s) (n - s) (c - s)) ([.slice (advA ao c s) (n - s) (c - s)]) ([errV 50 e, .slice (advA ao c s) (n - s) (c - s)]) rfl rfl rfl rfl B2 rfl (by simp [Value.oneCell']) (Nat.le_of_ble_eq_true rfl) (rfl)) rfl ?_
 show JL _ _ _ _ _ [⟨rb, [errV 50 e, .slice (advA ao c s) (n - s) (c - s)], 204, (0, 0)⟩, _]
 refine AL (AC (AG (AB (AA _ (AE rfl) rfl ?_))))
 refine AA _ (AH rfl) rfl ?_
 refine AL (AC (BH (BI (Slc nb1 0 s cp1) (res1 Tryd.results127 (BU rfl)) fun w1 hw1 => ?_)))
 obtain rfl : n2 = (n - s) := by omega
 obtain rfl : c2 = (c - s) := by omega
 exact ⟨_, _, rfl, ⟨nb1, sp1, cp1, rfl, rfl, hc1, hc2, hc3⟩, hw1⟩
theorem numRF_c (rb e : Nat) (sv : Value) (s : Int) (w : World) (h0 : w.heap[rb]? = some (.cells [errV 50 e, sv].toArray 204 (0, 0))) (hs : ¬ Szd s) : Calls Tryd.prog 109 #[Ptr rb 0, I64 (s)] w (Post w [rb] (fun v L => v = U64 0 ∧ L = [⟨rb, [errV 50 (erN e 2), sv], 204, (0, 0)⟩])) := by
 refine enter w [rb] 29 [⟨rb, [errV 50 e, sv], 204, (0, 0)⟩] [Ptr rb 0, I64 (s)] Tryd.func109 rfl rfl (by simp) (BY (by simpa using h0) (by simp) (by simp)) ?_
 show JC _ _ _ [(0, Ptr rb 0), (1, I64 (s))] _
 refine AG (AB (AA _ (AH rfl) rfl ?_))
 refine AL (AC (AG (AG (AB (AA _ (AE rfl) rfl ?_)))))
 refine AY (AX 143 [I64 (s)] (.bool false) (AZ _ Tryd.call143 rfl) (fun w1 _ => sizedF_c (s) w1 hs)) rfl ?_
 show JL _ _ _ _ ((9, .bool false) :: _) [_]
 refine AA (.bool (!false)) (FD rfl) rfl ?_
 refine AL (AC (CM _ rfl rfl ?_))
 refine AG (AB (AA _ (AE rfl) rfl ?_))
 refine AA (.iface 50 (I64 2)) (FL DI rfl rfl) rfl ?_
 refine A2 (FC 121 [Ptr rb 0, .iface 50 (I64 2)] 0 ⟨rb, [errV 50 e, sv], 204, (0, 0)⟩ _ (fun v e' l' => v = .tuple #[] ∧ e' = ⟨rb, [errV 50 (erN e 2), sv], 204, (0, 0)⟩ ∧ l' = []) (AZ _ Tryd.call121 rfl) rfl (by rintro v l ⟨rfl, rfl⟩; exact ⟨_, _, rfl, rfl, rfl, rfl, rfl⟩) (fun w1 hw1 => F1 rb e 2 sv w1 (by decide) (hw1.ent _ (List.mem_of_getElem? (i := 0) rfl)))) rfl ?_
 rintro v1 L1 ⟨_, _, ⟨rfl, rfl, rfl⟩, rfl⟩
 show JL _ _ _ _ ((13, .tuple #[]) :: _) [⟨rb, [errV 50 (erN e 2), sv], 204, (0, 0)⟩]
 refine AL (AC (AG (AB (AA _ (AH rfl) rfl ?_))))
 refine AL (AC (BH (A4 (BI (U64 0) (res1 Tryd.results109 (BU rfl)) fun w1 hw1 => ?_))))
 exact ⟨_, _, rfl, ⟨rfl, rfl⟩, hw1⟩
theorem numRS_c (rb e : Nat) (ao : Option Addr) (n c : Nat) (s : Int) (w : World) (h0 : w.heap[rb]? = some (.cells [errV 50 e, .slice ao n c].toArray 204 (0, 0))) (he : e = 0) (hs : Szd s) (hn : (n:Int) < s) : Calls Tryd.prog 109 #[Ptr rb 0, I64 (s)] w (Post w [rb] (fun v L => v = U64 0 ∧ L = [⟨rb, [errV 50 (erN e 2), .slice ao n c], 204, (0, 0)⟩])) := by
 refine enter w [rb] 29 [⟨rb, [errV 50 e, .slice ao n c], 204, (0, 0)⟩] [Ptr rb 0, I64 (s)] Tryd.func109 rfl rfl (by simp) (BY (by simpa using h0) (by simp) (by simp)) ?_
 show JC _ _ _ [(0, Ptr rb 0), (1, I64 (s))] _
 refine AG (AB (AA _ (AH rfl) rfl ?_))
 refine AL (AC (AG (AG (AB (AA _ (AE rfl) rfl ?_)))))
 refine AY (AX 143 [I64 (s)] (.bool true) (AZ _ Tryd.call143 rfl) (fun w1 _ => sizedT_c (s) w1 hs)) rfl ?_
 show JL _ _ _ _ ((9, .bool true) :: _) [_]
 refine AA (.bool (!true)) (FD rfl) rfl ?_
 refine AL (AC (BZ _ rfl rfl ?_))
 refine BL (AC (AG (AB (AA _ (AH rfl) rfl ?_))))
 refine AL (AC (AG (AG (AB (AA _ (AE rfl) rfl ?_)))))
 refine AA _ (AE rfl) rfl ?_
 refine A2 (FC 127 [Ptr rb 0, I64 (s)] 0 ⟨rb, [errV 50 e, .slice ao n c], 204, (0, 0)⟩ _ (fun v e' l' => v = .slice none 0 0 ∧ e' = ⟨rb, [errV 50 (erN e 2), .slice ao n c], 204, (0, 0)⟩ ∧ l' = []) (AZ _ Tryd.call127 rfl) rfl (by rintro v l ⟨rfl, rfl⟩; exact ⟨_, _, rfl, rfl, rfl, rfl, rfl⟩) (fun w1 hw1 => rawRB0_c rb e ao n c (s) w1 (hw1.ent _ (List.mem_of_getElem? (i := 0) rfl)) he (.inr hn))) rfl ?_
 rintro v1 L1 ⟨_, _, ⟨rfl, rfl, rfl⟩, rfl⟩
 show JL _ _ _ _ ((16, .slice none 0 0) :: _) [⟨rb, [errV 50 (erN e 2), .slice ao n c], 204, (0, 0)⟩]
 refine AA (I64 0) (DS AR rfl) rfl ?_
 refine AA _ (AE rfl) rfl ?_
 refine AL (AC (B4 (D4 (ι := Unit) (fun _ => [(4, U64 0), (16, .slice none 0 0), (17, I64 0), (18, I64 0), (5, U64 0)]) (fun _ => [⟨rb, [errV 50 (erN e 2), .slice ao n c], 204, (0, 0)⟩]) (fun _ => True) (fun _ => 1) () trivial (Sub.all rfl) rfl ?_)))
 rintro _ _
 show JC _ _ _ [(4, U64 0), (16, .slice none 0 0), (17, I64 0), (18, I64 0), (5, U64 0)] [⟨rb, [errV 50 (erN e 2), .slice ao n c], 204, (0, 0)⟩]
 refine AG (AB (AA (.bool (decide ((0:Int) < (0:Int)))) (AP rfl rfl fun _ => DC _ _) rfl ?_))
 refine AL (AC (AG (BZ _ rfl (by decide) ?_)))
 refine DU (A9 (A9 (CR (AC (AG (AB (AA _ (AE rfl) rfl ?_)))))))
 refine AA _ (AH rfl) rfl ?_
 refine AL (AC (BH (BI (U64 0) (res1 Tryd.results109 (BU rfl)) fun w1 hw1 => ?_)))
 exact ⟨_, _, rfl, ⟨rfl, rfl⟩, hw1⟩
theorem numRE_c (rb e : Nat) (sv : Value) (s : Int) (w : World) (h0 : w.heap[rb]? = some (.cells [errV 50 e, sv].toArray 204 (0, 0))) (he : e ≠ 0) (hs : Szd s) : Calls Tryd.prog 109 #[Ptr rb 0, I64 (s)] w (Post w [rb] (fun v L => v = U64 0 ∧ L = [⟨rb, [errV 50 (erN e 2), sv], 204, (0, 0)⟩])) := by
 refine enter w [rb] 29 [⟨rb, [errV 50 e, sv], 204, (0, 0)⟩] [Ptr rb 0, I64 (s)] Tryd.func109 rfl rfl (by simp) (BY (by simpa using h0) (by simp) (by simp)) ?_
 show JC _ _ _ [(0, Ptr rb 0), (1, I64 (s))] _
 refine AG (AB (AA _ (AH rfl) rfl ?_))
 refine AL (AC (AG (AG (AB (AA _ (AE rfl) rfl ?_)))))
 refine AY (AX 143 [I64 (s)] (.bool true) (AZ _ Tryd.call143 rfl) (fun w1 _ => sizedT_c (s) w1 hs)) rfl ?_
 show JL _ _ _ _ ((9, .bool true) :: _) [_]
 refine AA (.bool (!true)) (FD rfl) rfl ?_
 refine AL (AC (BZ _ rfl rfl ?_))
 refine BL (AC (AG (AB (AA _ (AH rfl) rfl ?_))))
 refine AL (AC (AG (AG (AB (AA _ (AE rfl) rfl ?_)))))
 refine AA _ (AE rfl) rfl ?_
 refine A2 (FC 127 [Ptr rb 0, I64 (s)] 0 ⟨rb, [errV 50 e, sv], 204, (0, 0)⟩ _ (fun v e' l' => v = .slice none 0 0 ∧ e' = ⟨rb, [errV 50 (erN e 2), sv], 204, (0, 0)⟩ ∧ l' = []) (AZ _ Tryd.call127 rfl) rfl (by rintro v l ⟨rfl, rfl⟩; exact ⟨_, _, rfl, rfl, rfl, rfl, rfl⟩) (fun w1 hw1 => rawRB1_c rb e sv (s) w1 (hw1.ent _ (List.mem_of_getElem? (i := 0) rfl)) he (by unfold Szd at hs; omega))) rfl ?_
 rintro v1 L1 ⟨_, _, ⟨rfl, rfl, rfl⟩, rfl⟩
 show JL _ _ _ _ ((16, .slice none 0 0) :: _) [⟨rb, [errV 50 (erN e 2), sv], 204, (0, 0)⟩]
 refine AA (I64 0) (DS AR rfl) rfl ?_
 refine AA _ (AE rfl) rfl ?_
 refine AL (AC (B4 (D4 (ι := Unit) (fun _ => [(4, U64 0), (16, .slice none 0 0), (17, I64 0), (18, I64 0), (5, U64 0)]) (fun _ => [⟨rb, [errV 50 (erN e 2), sv], 204, (0, 0)⟩]) (fun _ => True) (fun _ => 1) () trivial (Sub.all rfl) rfl ?_)))
 rintro _ _
 show JC _ _ _ [(4, U64 0), (16, .slice none 0 0), (17, I64 0), (18, I64 0), (5, U64 0)] [⟨rb, [errV 50 (erN e 2), sv], 204, (0, 0)⟩]
 refine AG (AB (AA (.bool (decide ((0:Int) < (0:Int)))) (AP rfl rfl fun _ => DC _ _) rfl ?_))
 refine AL (AC (AG (BZ _ rfl (by decide) ?_)))
 refine DU (A9 (A9 (CR (AC (AG (AB (AA _ (AE rfl) rfl ?_)))))))
 refine AA _ (AH rfl) rfl ?_
 refine AL (AC (BH (BI (U64 0) (res1 Tryd.results109 (BU rfl)) fun w1 hw1 => ?_)))
 exact ⟨_, _, rfl, ⟨rfl, rfl⟩, hw1⟩
theorem numROk_c (rb e : Nat) (ao : Option Addr) (n c : Nat) (z : List UInt8) (k n2 c2 : Nat) (w : World) (h0 : w.heap[rb]? = some (.cells [errV 50 e, .slice ao n c].toArray 204 (0, 0))) (hz : z.length = n) (hn : n ≤ 2000000000) (hc : n ≤ c) (hcm : c ≤ maxLen) (hr : RdB w [rb] ao z) (he : e = 0) (hs : Szd (k:Int)) (h2 : k ≤ n) (ht1 : k + n2 = n) (ht2 : k + c2 = c) : Calls Tryd.prog 109 #[Ptr rb 0, I64 k] w (Post w [rb] (fun v L => v = U64 (valK z k) ∧ L = [⟨rb, [errV 50 e, .slice (advA ao c k) n2 c2], 204, (0, 0)⟩])) := by
 have hs4 : k = 1 ∨ k = 2 ∨ k = 4 ∨ k = 8 := by have := hs; unfold Szd at this; omega
 refine enter w [rb] 29 [⟨rb, [errV 50 e, .slice ao n c], 204, (0, 0)⟩] [Ptr rb 0, I64 k] Tryd.func109 rfl rfl (by simp) (BY (by simpa using h0) (by simp) (by simp)) ?_
 show JC _ _ _ [(0, Ptr rb 0), (1, I64 k)] _
 refine AG (AB (AA _ (AH rfl) rfl ?_))
 refine AL (AC (AG (AG (AB (AA _ (AE rfl) rfl ?_)))))
 refine AY (AX 143 [I64 k] (.bool true) (AZ _ Tryd.call143 rfl) (fun w1 _ => sizedT_c ((k:Int)) w1 hs)) rfl ?_
 show JL _ _ _ _ ((9, .bool true) :: _) [_]
 refine AA (.bool (!true)) (FD rfl) rfl ?_
 refine AL (AC (BZ _ rfl rfl ?_))
 refine BL (AC (AG (AB (AA _ (AH rfl) rfl ?_))))
 refine AL (AC (AG (AG (AB (AA _ (AE rfl) rfl ?_)))))
 refine AA _ (AE rfl) rfl ?_
 have hl1 : (z.drop k).length = (n - k) := by rw [List.length_drop, hz] <;> omega
 have hr1 := RdB.adv (c := c) hr k (by rw [hz]; omega) (by rw [hz]; omega)
 have hl2 : (mid z 0 k).length = k := FE (by rw [hz]; omega)
 refine A2 (DE 127 _ [true] [rb] _ (AZ _ Tryd.call127 rfl) rfl (fun w1 hw1 => rawROk_c rb e ao n c z k (n - k) (c - k) w1 (hw1.ent _ (List.mem_of_getElem? (i := 0) rfl)) hz (by omega) (by omega) (by omega) (hr.at (M' := [rb]) hw1 (hw1.apart [0] _ rfl)) he (by unfold Szd at hs; omega) h2 (by omega) (by omega))) rfl ?_
 rintro v1 L1 ⟨_, ⟨nb1, sp1, cp1, rfl, rfl, hc1, hc2, hc3⟩, rfl⟩
 show JL _ _ _ _ ((16, Slc nb1 0 k cp1) :: _) [⟨rb, [errV 50 e, .slice (advA ao c k) (n - k) (c - k)], 204, (0, 0)⟩, ⟨nb1, cu8 (mid z 0 k) ++ sp1, 5, (0, 0)⟩]
 refine AA (I64 k) (DS AR rfl) rfl ?_
 refine AA _ (AE rfl) rfl ?_
 refine AL (AC (B4 (D4 (ι := Nat × UInt64) (fun ⟨j, y⟩ => [(4, U64 0), (16, Slc nb1 0 k cp1), (17, I64 k), (18, I64 j), (5, U64 y)]) (fun ⟨j, y⟩ => [⟨rb, [errV 50 e, .slice (advA ao c k) (n - k) (c - k)], 204, (0, 0)⟩, ⟨nb1, cu8 (mid z 0 k) ++ sp1, 5, (0, 0)⟩]) (fun ⟨j, y⟩ => j ≤ k ∧ y = valK (mid z 0 k) j) (fun ⟨j, y⟩ => k - j) (0, 0) ⟨by omega, by rw [valK]⟩ (Sub.all rfl) rfl ?_)))
 rintro ⟨j, y⟩ ⟨hx1, hx2⟩
 show JC _ _ _ [(4, U64 0), (16, Slc nb1 0 k cp1), (17, I64 k), (18, I64 j), (5, U64 y)] [⟨rb, [errV 50 e, .slice (advA ao c k) (n - k) (c - k)], 204, (0, 0)⟩, ⟨nb1, cu8 (mid z 0 k) ++ sp1, 5, (0, 0)⟩]
 refine AG (AB (AA (.bool (decide (((j:Int)) < ((k:Int))))) (AP rfl rfl fun _ => DC _ _) rfl ?_))
 refine AL (AC (AG (CL (decide (((j:Int)) < ((k:Int)))) rfl (fun hb1 => ?_) (fun hb1 => ?_))))
 ·
  have hp1 : ((j:Int)) < ((k:Int)) := of_decide_eq_true hb1
  refine BL (AC (AG (B4 (AG (AB (AA (Ptr nb1 j) (Ev_indexSl 5 1 j AR BC rfl rfl (by omega) (by omega) (by omega)) rfl ?_))))))
  refine AA (U8 (g8 (mid z 0 k) j)) (AM rfl (A6 EP (AT 1 rfl (A8 (Seg.get (g8_get (i := j) (by rw [hl2]; omega))))))) rfl ?_
  refine AA _ (AH rfl) rfl ?_
  refine AL (AC (AB (AA _ (AE rfl) rfl ?_)))
  refine AA (U64 (y <<< (8:UInt64))) (AP rfl rfl fun _ => bin_shl_u64 y _ _ 8 (by decide) rfl) rfl ?_
  refine AA _ (AE rfl) rfl ?_
  refine AA (U64 ((g8 (mid z 0 k) j).toUInt64)) (EG _ _ rfl fun _ => conv_u8_u64 (by rw [CN]; rfl) B8 _) rfl ?_
  refine AA (U64 ((y <<< (8:UInt64)) ||| ((g8 (mid z 0 k) j).toUInt64))) (AP rfl rfl fun _ => bin_or_u64 (y <<< (8:UInt64)) ((g8 (mid z 0 k) j).toUInt64)) rfl ?_
  refine AA _ (AH rfl) rfl ?_
  refine AL (B0 (AC (AB (AA (I64 ((j:Int) + 1)) (AP rfl rfl fun _ => DL _ _ ((j:Int) + 1) (by omega) (by omega)) rfl ?_))))
  refine AA _ (AE rfl) rfl ?_
  refine AL (DO (ER (j + 1, (y <<< (8:UInt64)) ||| ((g8 (mid z 0 k) j).toUInt64)) ⟨by omega, by rw [valK, ← hx2]⟩ (by first | (simp; omega) | simp | (dsimp only; omega) | omega) (Sub.all rfl) rfl))
 ·
  have hp1 : ¬ (((j:Int)) < ((k:Int))) := of_decide_eq_false hb1
  refine DU (A9 (A9 (CR (AC (AG (AB (AA _ (AE rfl) rfl ?_)))))))
  refine AA _ (AH rfl) rfl ?_
  refine AL (AC (BH (B5 [true, false] ?_)))
  show JQ _ _ _ _ [_]
  refine BI (U64 y) (res1 Tryd.results109 (BU rfl)) fun w1 hw1 => ?_
  have e1 : j = k := by omega
  have e2 : valK (mid z 0 k) k = valK z k := valK_congr k fun i hi => by rw [g8_mid hi, Nat.zero_add]
  obtain rfl : n2 = (n - k) := by omega
  obtain rfl : c2 = (c - k) := by omega
  exact ⟨_, _, rfl, ⟨by rw [hx2, e1, e2], rfl⟩, hw1⟩
theorem endE_c (rb e : Nat) (sv : Value) (w : World) (hw : RdA w rb 0 [errV 50 e, sv]) (he : e ≠ 0) : Calls Tryd.prog 63 #[Ptr rb 0] w (Post w [] (fun v L => v = errV 50 e ∧ L = [])) := by
 refine enter w [] 27 [] [Ptr rb 0] Tryd.func63 rfl rfl (by simp) (BY (by simp) (by simp) (by simp)) ?_
 show JC _ _ _ [(0, Ptr rb 0)] _
 refine AG (AB (AA _ (AH rfl) rfl ?_))
 refine AL (AC (AG (B4 (AG (AB (AA _ (AE rfl) rfl ?_))))))
 refine AA (.bool false) (DT _ _ _ rfl rfl (fun _ => FQ ..) fun _ => FW Tryd.underlying110) rfl ?_
 refine AA _ (AH rfl) rfl ?_
 refine AL (AC (BZ _ rfl rfl ?_))
 refine AG (AB (AA _ (AE rfl) rfl ?_))
 refine AA _ (C3 rfl) rfl ?_
 refine AA (Ptr rb 0) (AD 0 147 1 DV rfl Tryd.sizeOf147 rfl rfl) rfl ?_
 refine AA (Ptr rb 0) (AD 0 45 1 EQ rfl Tryd.sizeOf45 rfl rfl) rfl ?_
 refine AA (errV 50 e) (AM rfl (A6 Tryd.isAgg45 (CW (hw.mem (by simp)) (Seg.head) (by omega)))) rfl ?_
 refine AA (.bool (!(decide (e = 0)))) (DT _ _ _ rfl rfl (fun _ => DB ..) fun _ => EK BT _ _) rfl ?_
 refine AA _ (AH rfl) rfl ?_
 refine AL (AC (CM _ rfl (by rw [show (decide (e = 0)) = false from (decide_eq_false he)] <;> rfl) ?_))
 refine AG (AB (AA _ (AE rfl) rfl ?_))
 refine AA _ (C3 rfl) rfl ?_
 refine AA (Ptr rb 0) (AD 0 147 1 DV rfl Tryd.sizeOf147 rfl rfl) rfl ?_
 refine AA (Ptr rb 0) (AD 0 45 1 EQ rfl Tryd.sizeOf45 rfl rfl) rfl ?_
 refine AA (errV 50 e) (AM rfl (A6 Tryd.isAgg45 (CW (hw.mem (by simp)) (Seg.head) (by omega)))) rfl ?_
 refine AA _ (AH rfl) rfl ?_
 refine AL (AC (BH (DD (A4 (BI (errV 50 e) (res1 Tryd.results63 (BU rfl)) fun w1 hw1 => ?_)))))
 exact ⟨_, [], rfl, ⟨rfl, rfl⟩, hw1.sub (by simp) (by simp)⟩
theorem endZ_c (rb e : Nat) (ao : Option Addr) (n c : Nat) (w : World) (hw : RdA w rb 0 [errV 50 e, .slice ao n c]) (he : e = 0) (hn : n = 0) : Calls Tryd.prog 63 #[Ptr rb 0] w (Post w [] (fun v L => v = .nilIface ∧ L = [])) := by
 refine enter w [] 27 [] [Ptr rb 0] Tryd.func63 rfl rfl (by simp) (BY (by simp) (by simp) (by simp)) ?_
 show JC _ _ _ [(0, Ptr rb 0)] _
 refine AG (AB (AA _ (AH rfl) rfl ?_))
 refine AL (AC (AG (B4 (AG (AB (AA _ (AE rfl) rfl ?_))))))
 refine AA (.bool false) (DT _ _ _ rfl rfl (fun _ => FQ ..) fun _ => FW Tryd.underlying110) rfl ?_
 refine AA _ (AH rfl) rfl ?_
 refine AL (AC (BZ _ rfl rfl ?_))
 refine AG (AB (AA _ (AE rfl) rfl ?_))
 refine AA _ (C3 rfl) rfl ?_
 refine AA (Ptr rb 0) (AD 0 147 1 DV rfl Tryd.sizeOf147 rfl rfl) rfl ?_
 refine AA (Ptr rb 0) (AD 0 45 1 EQ rfl Tryd.sizeOf45 rfl rfl) rfl ?_
 refine AA (errV 50 e) (AM rfl (A6 Tryd.isAgg45 (CW (hw.mem (by simp)) (Seg.head) (by omega)))) rfl ?_
 refine AA (.bool (!(decide (e = 0)))) (DT _ _ _ rfl rfl (fun _ => DB ..) fun _ => EK BT _ _) rfl ?_
 refine AA _ (AH rfl) rfl ?_
 refine AL (AC (BZ _ rfl (by rw [show (decide (e = 0)) = true from (decide_eq_true he)] <;> rfl) ?_))
 refine AG (AB (AA _ (AE rfl) rfl ?_))
 refine AA _ (C3 rfl) rfl ?_
 refine AA (Ptr rb 1) (AD 1 43 1 DV rfl B2 rfl rfl) rfl ?_
 refine AA (.slice ao n c) (AM rfl (A6 DF (CW (hw.mem (by simp)) (AO (Seg.head)) (by omega)))) rfl ?_
 refine AA (I64 n) (DS AR rfl) rfl ?_
 refine AA (.bool (decide ((0:Int) < ((n:Int))))) (AP rfl rfl fun _ => EL _ _) rfl ?_
 refine AA _ (AH rfl) rfl ?_
 refine AL (AC (BZ _ rfl (decide_eq_false (by omega)) ?_))
 refine BL (B0 (AC (AG (AB (AA _ (AH rfl) rfl ?_)))))
 refine AL (AC (BH (BI (.nilIface) (res1 Tryd.results63 (BU rfl)) fun w1 hw1 => ?_)))
 exact ⟨_, [], rfl, ⟨rfl, rfl⟩, hw1.sub (by simp) (by simp)⟩
theorem endB_c (rb e : Nat) (ao : Option Addr) (n c : Nat) (w : World) (hw : RdA w rb 0 [errV 50 e, .slice ao n c]) (he : e = 0) (hn : n ≠ 0) : Calls Tryd.prog 63 #[Ptr rb 0] w (Post w [] (fun v L => v = .iface 50 (I64 2) ∧ L = [])) := by
 refine enter w [] 27 [] [Ptr rb 0] Tryd.func63 rfl rfl (by simp) (BY (by simp) (by simp) (by simp)) ?_
 show JC _ _ _ [(0, Ptr rb 0)] _
 refine AG (AB (AA _ (AH rfl) rfl ?_))
 refine AL (AC (AG (B4 (AG (AB (AA _ (AE rfl) rfl ?_))))))
 refine AA (.bool false) (DT _ _ _ rfl rfl (fun _ => FQ ..) fun _ => FW Tryd.underlying110) rfl ?_
 refine AA _ (AH rfl) rfl ?_
 refine AL (AC (BZ _ rfl rfl ?_))
 refine AG (AB (AA _ (AE rfl) rfl ?_))
 refine AA _ (C3 rfl) rfl ?_
 refine AA (Ptr rb 0) (AD 0 147 1 DV rfl Tryd.sizeOf147 rfl rfl) rfl ?_
 refine AA (Ptr rb 0) (AD 0 45 1 EQ rfl Tryd.sizeOf45 rfl rfl) rfl ?_
 refine AA (errV 50 e) (AM rfl (A6 Tryd.isAgg45 (CW (hw.mem (by simp)) (Seg.head) (by omega)))) rfl ?_
 refine AA (.bool (!(decide (e = 0)))) (DT _ _ _ rfl rfl (fun _ => DB ..) fun _ => EK BT _ _) rfl ?_
 refine AA _ (AH rfl) rfl ?_
 refine AL (AC (BZ _ rfl (by rw [show (decide (e = 0)) = true from (decide_eq_true he)] <;> rfl) ?_))
 refine AG (AB (AA _ (AE rfl) rfl ?_))
 refine AA _ (C3 rfl) rfl ?_
 refine AA (Ptr rb 1) (AD 1 43 1 DV rfl B2 rfl rfl) rfl ?_
 refine AA (.slice ao n c) (AM rfl (A6 DF (CW (hw.mem (by simp)) (AO (Seg.head)) (by omega)))) rfl ?_
 refine AA (I64 n) (DS AR rfl) rfl ?_
 refine AA (.bool (decide ((0:Int) < ((n:Int))))) (AP rfl rfl fun _ => EL _ _) rfl ?_
 refine AA _ (AH rfl) rfl ?_
 refine AL (AC (CM _ rfl (decide_eq_true (by omega)) ?_))
 refine AG (AB (AA (.iface 50 (I64 2)) (FL DI rfl rfl) rfl ?_))
 refine AA _ (AH rfl) rfl ?_
 refine AL (AC (BH (DD (A4 (BI (.iface 50 (I64 2)) (res1 Tryd.results63 (BU rfl)) fun w1 hw1 => ?_)))))
 exact ⟨_, [], rfl, ⟨rfl, rfl⟩, hw1.sub (by simp) (by simp)⟩
theorem end_w (rb e : Nat) (ao : Option Addr) (n c : Nat) (w : World) (hw : RdA w rb 0 [errV 50 e, .slice ao n c]) : Calls Tryd.prog 63 #[Ptr rb 0] w (Post w [] (fun v L => v = errV 50 (endN e n) ∧ L = [])) := by
  by_cases he : e = 0
  · by_cases hn : n = 0
    · rw [endN, if_pos he, if_pos hn]; exact endZ_c rb e ao n c w hw he hn
    · rw [endN, if_pos he, if_neg hn]; exact endB_c rb e ao n c w hw he hn
  · rw [endN, if_neg he]; exact endE_c rb e _ w hw he
theorem from_c (ax : Option Addr) (p cx : Nat) (z : List UInt8) (w : World) (ha : ax.isNone = false) (hz : z.length = p) (hn : p ≤ 2000000000) (hr : RdB w [] ax z) : Calls Tryd.prog 59 #[.slice ax p cx] w (Post w [] (fun v L => ∃ rb g sp cap, v = Ptr rb 0 ∧ L = [⟨rb, [.nilIface, Slc g 0 p cap], 204, (0, 0)⟩, ⟨g, cu8 z ++ sp, 5, (0, 0)⟩] ∧ sp.length = cap - p ∧ p ≤ cap ∧ cap ≤ maxLen)) := by
 refine enter w [] 7 [] [.slice ax p cx] Tryd.func59 rfl rfl (by simp) (BY (by simp) (by simp) (by simp)) ?_
 show JC _ _ _ [(0, .slice ax p cx)] _
 refine AG (AB (AA _ (AH rfl) rfl ?_))
 refine AL (AC (AG (AB (AA _ (AE rfl) rfl ?_))))
 refine A2 (B3 108 [.slice ax p cx] _ (AZ _ Tryd.call108 rfl) (fun w1 hw1 => sclone_c ax p cx z w1 ha hz (by omega) (hr.at (M' := []) hw1 (by simp)))) rfl ?_
 rintro v1 L1 ⟨_, ⟨nb1, sp1, cp1, rfl, rfl, hc1, hc2, hc3⟩, rfl⟩
 show JL _ _ _ _ ((4, Slc nb1 0 p cp1) :: _) [⟨nb1, cu8 z ++ sp1, 5, (0, 0)⟩]
 refine AA (.agg #[.nilIface, Slc nb1 0 p cp1]) (DG [(1, Slc nb1 0 p cp1)] _ rfl (fun _ => by kernel_rfl)) rfl ?_
 refine A2 (DN (.agg #[.nilIface, Slc nb1 0 p cp1]) ([.nilIface, Slc nb1 0 p cp1]) rfl (by first | rfl | simp)) rfl ?_
 rintro v1 L1 ⟨nb2, hnb2, rfl, rfl⟩
 show JL _ _ _ _ ((6, Ptr nb2 0) :: _) [_, ⟨nb2, [.nilIface, Slc nb1 0 p cp1], 204, (0, 0)⟩]
 refine AA _ (AH rfl) rfl ?_
 refine AL (AC (BH (BI (Ptr nb2 0) (res1 Tryd.results59 (BU rfl)) fun w1 hw1 => ?_)))
 exact ⟨_, _, rfl, ⟨nb2, nb1, sp1, cp1, rfl, rfl, hc1, hc2, hc3⟩, hw1.sub (by simp) (by simpa using hw1.ne (i := 1) (j := 0) rfl rfl (by decide))⟩
theorem fromNil_c  (w : World) : Calls Tryd.prog 59 #[.slice none 0 0] w (Post w [] (fun v L => ∃ rb, v = Ptr rb 0 ∧ L = [⟨rb, [.nilIface, .slice none 0 0], 204, (0, 0)⟩])) := by
 refine enter w [] 7 [] [.slice none 0 0] Tryd.func59 rfl rfl (by simp) (BY (by simp) (by simp) (by simp)) ?_
 show JC _ _ _ [(0, .slice none 0 0)] _
 refine AG (AB (AA _ (AH rfl) rfl ?_))
 refine AL (AC (AG (AB (AA _ (AE rfl) rfl ?_))))
 refine AY (AX 108 [.slice none 0 0] (.slice none 0 0) (AZ _ Tryd.call108 rfl) (fun w1 hw1 => scloneNil_c w1)) rfl ?_
 show JL _ _ _ _ ((4, .slice none 0 0) :: _) []
 refine AA (.agg #[.nilIface, .slice none 0 0]) (DG [(1, .slice none 0 0)] _ rfl (fun _ => by kernel_rfl)) rfl ?_
 refine A2 (DN (.agg #[.nilIface, .slice none 0 0]) ([.nilIface, .slice none 0 0]) rfl (by first | rfl | simp)) rfl ?_
 rintro v1 L1 ⟨nb1, hnb1, rfl, rfl⟩
 show JL _ _ _ _ ((6, Ptr nb1 0) :: _) [⟨nb1, [.nilIface, .slice none 0 0], 204, (0, 0)⟩]
 refine AA _ (AH rfl) rfl ?_
 refine AL (AC (BH (BI (Ptr nb1 0) (res1 Tryd.results59 (BU rfl)) fun w1 hw1 => ?_)))
 exact ⟨_, _, rfl, ⟨nb1, rfl, rfl⟩, hw1.sub (by simp) (by simp)⟩
theorem stEq {rb T R e1 e2 n1 n2 c c2 : Nat} {a : Option Addr} {f : Nat × Nat} (h : e1 = e2) (h' : n1 = n2) (h2 : c = c2) : [(⟨rb, [errV T e1, .slice a n1 c], R, f⟩ : Ent)] = [⟨rb, [errV T e2, .slice a n2 c2], R, f⟩] := by rw [h, h', h2]
theorem okE_ok {e : Nat} {p : Prop} [Decidable p] (he : e = 0) (hp : p) : e = okE e (decide p) := by subst he; rw [decide_eq_true hp]; rfl
theorem okE_bad {e : Nat} {p : Prop} [Decidable p] (hp : ¬ p) : erN e 2 = okE e (decide p) := by rw [decide_eq_false hp]; rfl
theorem okE_keep {e : Nat} {p : Prop} [Decidable p] (he : e ≠ 0) (hp : ¬ p) : e = okE e (decide p) := by rw [decide_eq_false hp]; exact (erN_pos he).symm
theorem numR_w (rb e : Nat) (ao : Option Addr) (n c : Nat) (z : List UInt8) (s : Int) (w : World) (h0 : w.heap[rb]? = some (.cells [errV 50 e, .slice ao n c].toArray 204 (0, 0))) (hz : z.length = n) (hn : n ≤ 2000000000) (hc : n ≤ c) (hcm : c ≤ maxLen) (hr : RdB w [rb] ao z) : Calls Tryd.prog 109 #[Ptr rb 0, I64 s] w (Post w [rb] (fun v L => v = U64 (nuV z e s) ∧ ∃ ao' c', Adv ao z c ao' (nuZ z e s) c' ∧ L = [⟨rb, [errV 50 (okE e (decide (NuOk z e s))), .slice ao' (nuZ z e s).length c'], 204, (0, 0)⟩])) := by
  by_cases hok : NuOk z e s
  · obtain ⟨he, hs, hl⟩ := id hok
    obtain ⟨k, rfl⟩ : ∃ k : Nat, s = k := ⟨s.toNat, by unfold Szd at hs; omega⟩
    have hk : k ≤ n := by omega
    refine (numROk_c rb e ao n c z k (n - k) (c - k) w h0 hz hn hc hcm hr he hs hk (by omega) (by omega)).mono ?_
    rintro E W ⟨v, L, rfl, ⟨rfl, rfl⟩, hw⟩
    refine ⟨_, _, rfl, ⟨by rw [nuV, if_pos hok]; rfl, advA ao c k, c - k, by rw [nuZ, if_pos hok]; exact Adv.drop k (by omega) (by omega) hcm, ?_⟩, hw⟩
    rw [nuZ, if_pos hok]
    exact stEq (okE_ok he hok) (by simp [hz]) rfl
  · by_cases hs : Szd s
    · by_cases he : e = 0
      · have hl : (n:Int) < s := by
          rcases Int.lt_or_le (n:Int) s with h | h
          · exact h
          · exact absurd ⟨he, hs, by rw [hz]; exact h⟩ hok
        refine (numRS_c rb e ao n c s w h0 he hs hl).mono ?_
        rintro E W ⟨v, L, rfl, ⟨rfl, rfl⟩, hw⟩
        exact ⟨_, _, rfl, ⟨(by rw [nuV, if_neg hok]), ao, c, by rw [nuZ, if_neg hok]; exact Adv.same (by omega) hcm, by rw [nuZ, if_neg hok]; exact stEq (okE_bad hok) hz.symm rfl⟩, hw⟩
      · refine (numRE_c rb e _ s w h0 he hs).mono ?_
        rintro E W ⟨v, L, rfl, ⟨rfl, rfl⟩, hw⟩
        exact ⟨_, _, rfl, ⟨(by rw [nuV, if_neg hok]), ao, c, by rw [nuZ, if_neg hok]; exact Adv.same (by omega) hcm, by rw [nuZ, if_neg hok]; exact stEq (okE_bad hok) hz.symm rfl⟩, hw⟩
    · refine (numRF_c rb e _ s w h0 hs).mono ?_
      rintro E W ⟨v, L, rfl, ⟨rfl, rfl⟩, hw⟩
      exact ⟨_, _, rfl, ⟨(by rw [nuV, if_neg hok]), ao, c, by rw [nuZ, if_neg hok]; exact Adv.same (by omega) hcm, by rw [nuZ, if_neg hok]; exact stEq (okE_bad hok) hz.symm rfl⟩, hw⟩
end Go.Proofs.YtkdpdgpphpngeaaDoor
namespace Go.Sx
open Go Go.RowKit
theorem foldl_lay (off : Nat) : ∀ (c : List Value) (k : Nat) (pre z post : List Value), z.length = c.length → pre.length = off + k →
  (c.zipIdx k).foldl (fun (cs : Array Value) (x : Value × Nat) => cs.setIfInBounds (off + x.2) x.1) (pre ++ (z ++ post)).toArray = ((pre ++ c) ++ post).toArray
 | [], k, pre, z, post, hz, _ => by
  have : z = [] := by simpa using hz
  subst this; simp
 | x :: c, k, pre, [], post, hz, _ => by simp at hz
 | x :: c, k, pre, y :: z, post, hz, hp => by
  rw [List.zipIdx_cons, List.foldl_cons]
  have e : (pre ++ (y :: z ++ post)).toArray.setIfInBounds (off + k) x = ((pre ++ [x]) ++ (z ++ post)).toArray := by
   rw [← hp]
   apply Array.toList_inj.1
   simp
  show (c.zipIdx (k + 1)).foldl _ ((pre ++ (y :: z ++ post)).toArray.setIfInBounds (off + k) x) = _
  rw [e, foldl_lay off c (k + 1) (pre ++ [x]) z post (by simpa using hz) (by simp; omega)]
  simp
theorem FU {place : Nat → Option (Nat × Nat)} {i : Nat} {v : Value} {rest : List (Nat × Value)} (pre z post c : List Value) (hc : v.cells = c.toArray) (hp : place i = some (pre.length, z.length)) (hl : c.length = z.length) :
  Instr.fill place (pre ++ (z ++ post)).toArray ((i, v) :: rest) = Instr.fill place ((pre ++ c) ++ post).toArray rest := by
 rw [Instr.fill, hp]
 have h1 : v.cells.size = z.length := by rw [hc]; simpa using hl
 have h2 : ¬ (pre.length + v.cells.size > (pre ++ (z ++ post)).toArray.size) := by rw [h1]; simp
 simp only [h1, ne_eq, not_true, decide_false, Bool.false_or, decide_eq_true_eq]
 rw [if_neg (by rw [h1] at h2; exact h2)]
 have := foldl_lay pre.length c 0 pre z post hl.symm (by simp)
 rw [← this, hc]
 congr 1
 rw [← Array.foldl_toList]
 simp
theorem run_build_struct {P : Program} {w : World} {T : TypeId} {fields : Array Field} {z : Value} {places : Array (Nat × Nat)} {pv : Array (Nat × Value)} {cs : List Value} (hz : ∀ w, (zeroValue T).run P w = .ok z w) (hu : P.underlying T = some (.struct fields))
  (hp : ∀ w, (fields.mapM fun f => do pure (f.offset, ← sizeOf f.type) : Sem (Array (Nat × Nat))).run P w = .ok places w) (hf : Instr.fill (places[·]?) z.cells pv.toList = some cs.toArray) : (Instr.build T pv).run P w = .ok (.agg cs.toArray) w := by
 simp only [Instr.build, Sem.run_bind, hz, Result.andThen_ok, run_underlying hu, hp, hf, Sem.run_pure]
section
variable {P : Program}
def PartV (P : Program) (t : TypeId) (cs : List Value) (off : Nat) (u : Value) : Prop := ∀ w, (part t cs.toArray off).run P w = .ok u w
theorem PartV.one {t : TypeId} {cs : List Value} {off : Nat} {v : Value} (hA : ∀ w, (isAgg t).run P w = .ok false w) (h : Seg cs off [v]) : PartV P t cs off v := fun w => by
 have h0 : cs[off]? = some v := by simpa using h 0 v rfl
 simp [part, hA w, h0]
theorem PartV.agg {t : TypeId} {cs vs : List Value} {off n : Nat} (hA : ∀ w, (isAgg t).run P w = .ok true w) (hS : ∀ w, (sizeOf t).run P w = .ok n w) (h : (cs.drop off).take n = vs) : PartV P t cs off (.agg vs.toArray) := fun w => by
 simp [part, hA w, hS w, ← h]
def EqV (P : Program) (d : Nat) (t : TypeId) (u v : Value) (b : Bool) : Prop := ∀ w, (Op.equalIn d t u v).run P w = .ok b w
theorem EqV.u64 {d : Nat} {t : TypeId} (he : P.underlying t = some (.int .u64)) (a b : UInt64) : EqV P (d + 1) t (U64 a) (U64 b) (decide (a = b)) := fun w => by
 have pe := run_equalIn_int (P := P) w d t .u64 .u64 a.toNat b.toNat he
 have e1 : ((a.toNat : Int) == (b.toNat : Int)) = decide (a = b) := by rw [Bool.eq_iff_iff]; simp [← UInt64.toNat_inj]; omega
 rw [e1] at pe
 simpa using pe
theorem EqV.u8 {d : Nat} {t : TypeId} (he : P.underlying t = some (.int .u8)) (a b : UInt8) : EqV P (d + 1) t (U8 a) (U8 b) (decide (a = b)) := fun w => by
 have pe := run_equalIn_int (P := P) w d t .u8 .u8 a.toNat b.toNat he
 have e1 : ((a.toNat : Int) == (b.toNat : Int)) = decide (a = b) := by rw [Bool.eq_iff_iff]; simp [← UInt8.toNat_inj]; omega
 rw [e1] at pe
 simpa using pe
theorem EqV.i64 {d : Nat} {t : TypeId} (he : P.underlying t = some (.int .i64)) (a b : Int) : EqV P (d + 1) t (I64 a) (I64 b) (decide (a = b)) := fun w => by
 have pe := run_equalIn_int (P := P) w d t .i64 .i64 a b he
 have e1 : (a == b) = decide (a = b) := rfl
 rw [e1] at pe
 simpa using pe
theorem EqV.bool {d : Nat} {t : TypeId} (he : P.underlying t = some .bool) (a b : Bool) : EqV P (d + 1) t (.bool a) (.bool b) (a == b) := fun w => by
 simp [Op.equalIn, run_underlying he]
theorem EqV.arr8 {d : Nat} {T e : TypeId} {n : Nat} (hu : P.underlying T = some (.array n e)) (he : P.underlying e = some (.int .u8)) (hA : ∀ w, (isAgg e).run P w = .ok false w) (hc : P.cellsOf e = 1) (hi : (P.info? e).isSome = true) {a b : List UInt8} (ha : a.length = n) (hb : b.length = n) :
  EqV P (d + 2) T (.agg (cu8 a).toArray) (.agg (cu8 b).toArray) (decide (a = b)) := fun w => equalIn_arr8 d hu he hA hc hi ha hb
inductive EqRs (P : Program) (d : Nat) (xs ys : List Value) : List (TypeId × Nat) → Bool → Prop
 | last (t o : Nat) (u v : Value) (b : Bool) : PartV P t xs o u → PartV P t ys o v → EqV P d t u v b → EqRs P d xs ys [(t, o)] b
 | cons (t o : Nat) (u v : Value) (b : Bool) (r : List (TypeId × Nat)) (c : Bool) : PartV P t xs o u → PartV P t ys o v → EqV P d t u v b → EqRs P d xs ys r c → EqRs P d xs ys ((t, o) :: r) (b && c)
theorem EqRs.run {d : Nat} {xs ys : List Value} {r : List (TypeId × Nat)} {b : Bool} (h : EqRs P d xs ys r b) : ∀ (fs : List Field), fs.map (fun f => (decide (f.name ≠ "_"), f.type, f.offset)) = r.map (fun x => (true, x.1, x.2)) →
    ∀ w, (Op.eqFields d xs.toArray ys.toArray fs).run P w = .ok b w := by
  induction h with
  | last t o u v b hx hy he =>
    intro fs hf w
    obtain ⟨f, rfl⟩ : ∃ f, fs = [f] := by
      cases fs with
      | nil => simp at hf
      | cons f r => cases r with
        | nil => exact ⟨f, rfl⟩
        | cons g r => simp at hf
    · simp only [List.map_cons, List.map_nil, List.cons.injEq, Prod.mk.injEq, and_true, decide_eq_true_eq] at hf
      obtain ⟨h1, h2, h3⟩ := hf
      rw [Op.eqFields, if_pos h1, h2, h3]
      simp only [Sem.run_bind, hx w, hy w, he w, Result.andThen_ok, Op.eqFields]
      cases b <;> simp
  | cons t o u v b r c hx hy he hr ih =>
    intro fs hf w
    cases fs with
    | nil => simp at hf
    | cons f fs =>
      simp only [List.map_cons, List.cons.injEq, Prod.mk.injEq, decide_eq_true_eq] at hf
      obtain ⟨⟨h1, h2, h3⟩, h4⟩ := hf
      rw [Op.eqFields, if_pos h1, h2, h3]
      simp only [Sem.run_bind, hx w, hy w, he w, Result.andThen_ok]
      cases b with
      | false => simp
      | true => simpa using ih fs h4 w
theorem EqV.struct {d : Nat} {t : TypeId} {xs ys : List Value} {r : List (TypeId × Nat)} {b : Bool} (hu : P.underlying t = some (.struct (P.fieldsOf t))) (hp : P.stoodInHeld t = false)
  (hr : (P.fieldsOf t).toList.map (fun f => (decide (f.name ≠ "_"), f.type, f.offset)) = r.map (fun x => (true, x.1, x.2))) (h : EqRs P d xs ys r b) : EqV P (d + 1) t (.agg xs.toArray) (.agg ys.toArray) b := fun w => by
 rw [run_equalIn_struct w d t _ _ hu hp]
 exact h.run _ hr w
theorem neq_struct {t : TypeId} {x y : Array Value} {b : Bool} (p : Prop) [Decidable p] (h : EqV P 10000 t (.agg x) (.agg y) b) (hb : b = decide p) : ∀ w, (binOp .neq t (.agg x) (.agg y)).run P w = .ok (.bool (!decide p)) w := fun w => by
 subst hb
 exact neq_of (by simp [binOp]) (h w)
theorem dt_dt {cs : List Value} {a n b m o : Nat} (hb : b + m ≤ n) (ho : o = a + b) : ((((cs.drop a).take n).drop b).take m) = (cs.drop o).take m := by
 subst ho
 rw [List.drop_take, List.take_take, List.drop_drop, Nat.min_eq_left (by omega)]
theorem TD.sub {H : Type} {enc : TypeId × Value → H} {w : World} {base : Nat} {spare : Nat → Bool} {held sz : Bool} {t : TypeId} {cs : List Value} {a n b m o : Nat} (h : TD enc P w base spare held sz t ((((cs.drop a).take n).drop b).take m)) (hb : b + m ≤ n) (ho : o = a + b) :
  TD enc P w base spare held sz t ((cs.drop o).take m) := by rw [← dt_dt hb ho]; exact h
theorem E9 {cs p q vs : List Value} {off : Nat} (h : cs = p ++ (vs ++ q)) (hn : p.length = off) : Seg cs off vs := Seg.sub (p := p) (q := q) (o := 0) hn (by omega) (by rw [h, List.append_assoc]; exact AJ _)
theorem F6 {place : Nat → Option (Nat × Nat)} {i : Nat} {v : Value} {rest : List (Nat × Value)} (z post c : List Value) (hc : v.cells = c.toArray) (hp : place i = some (0, z.length)) (hl : c.length = z.length) :
  Instr.fill place (z ++ post).toArray ((i, v) :: rest) = Instr.fill place (c ++ post).toArray rest := FU [] z post c hc hp hl
theorem EZ {w : World} {T : TypeId} {fields : Array Field} {Z : List Value} {places : Array (Nat × Nat)} {pv : Array (Nat × Value)} {cs : List Value} (hz : ∀ w, (zeroValue T).run P w = .ok (.agg Z.toArray) w) (hu : P.underlying T = some (.struct fields))
  (hp : ∀ w, (fields.mapM fun f => do pure (f.offset, ← sizeOf f.type) : Sem (Array (Nat × Nat))).run P w = .ok places w) (hf : Instr.fill (places[·]?) Z.toArray pv.toList = some cs.toArray) : (Instr.build T pv).run P w = .ok (.agg cs.toArray) w := run_build_struct hz hu hp hf
theorem GG {place : Nat → Option (Nat × Nat)} {rest : List (Nat × Value)} (pre z post : List Value) : Instr.fill place (pre ++ (z ++ post)).toArray rest = Instr.fill place ((pre ++ z) ++ post).toArray rest := by rw [List.append_assoc]
theorem CK {a b : List Value} (ha : ∀ u ∈ a, u.oneCell' = true) (hb : ∀ u ∈ b, u.oneCell' = true) : ∀ u ∈ a ++ b, u.oneCell' = true := fun u hu => (List.mem_append.1 hu).elim (ha u) (hb u)
end
section
variable {C : Cx} {F : Frm} {L : List Ent}
end
end Go.Sx
namespace Go.Proofs.YtkdpdgpphpngeaaDoor
open Go Go.Sx
attribute [local irreducible] mid zr8 zr32 numK valK rvalK
theorem takeE_c (ao : Option Addr) (n c e : Nat) (s : Int) (w : World) (he : e ≠ 0) : Calls Tryd.prog 126 #[.agg #[.slice ao n c, I64 e], I64 (s)] w (Post w [] (fun v L => v = .tuple #[.slice none 0 0, .agg #[.slice ao n c, I64 (e)]] ∧ L = [])) := by
 refine enter (P := Tryd.prog) (f := 126) (fn := Tryd.f126) w [] 33 [] [.agg #[.slice ao n c, I64 e], I64 (s)] Tryd.func126 rfl rfl (by simp) (BY (by simp) (by simp) (by simp)) ?_
 show JC _ _ _ [(0, .agg #[.slice ao n c, I64 e]), (1, I64 (s))] _
 refine AG (AB (A2 (DN (.agg #[.slice ao n c, I64 e]) ([.slice ao n c, I64 e]) rfl (by first | rfl | simp)) rfl ?_))
 rintro v1 L1 ⟨nb1, hnb1, rfl, rfl⟩
 show JL _ _ _ _ ((2, Ptr nb1 0) :: _) [⟨nb1, [.slice ao n c, I64 e], 107, (0, 0)⟩]
 refine AA _ (AH rfl) rfl ?_
 refine A2 (BN _ ([.slice none 0 0, I64 0]) C7 (by kernel_rfl)) rfl ?_
 rintro v1 L1 ⟨nb2, hnb2, rfl, rfl⟩
 show JL _ _ _ _ ((5, Ptr nb2 0) :: _) [_, ⟨nb2, [.slice none 0 0, I64 0], 107, (0, 0)⟩]
 refine AL (AC (AG (AG (AB (AA (Ptr nb1 1) (AD 1 3 1 BG rfl BA rfl rfl) rfl ?_)))))
 refine AA (I64 e) (AM rfl (A6 BS (AT 0 rfl (AO (Seg.head))))) rfl ?_
 refine AA (.bool (decide (((e:Int)) ≠ (0:Int)))) (AP rfl rfl fun _ => CE _ _) rfl ?_
 refine AL (AC (CM _ rfl (decide_eq_true (by omega)) ?_))
 refine AG (CH 33 2 [(0, .agg #[.slice ao n c, I64 e]), (1, .slice none 0 0)] BP rfl (by decide +kernel) ?_)
 refine B6 ⟨[], [0, 1], [], [0, 1], [2]⟩ 2 rfl rfl (by decide +kernel) rfl ⟨⟨_, rfl, AI rfl (AM rfl (A5 AQ AK rfl (AT 0 rfl (AJ _))))⟩, ⟨_, rfl, AI rfl (AH rfl)⟩, trivial⟩ rfl (A7 rfl (AU 1 nb2 2 ([.slice none 0 0, I64 0]) 107 ([.slice ao n c, I64 e]) rfl rfl rfl AK rfl (by simp [Value.oneCell']) (Nat.le_of_ble_eq_true rfl) (A0 (by simp [])))) ?_
 show DP _ _ _ _ _ _ _ _ [_, ⟨nb2, [.slice ao n c, I64 e], 107, (0, 0)⟩]
 refine C2 ⟨[2], [0, 1], [0, 1], [], []⟩ rfl rfl (by decide +kernel) rfl trivial ?_
 refine CB (F' := [(4, .slice none 0 0), (1, I64 (s)), (2, Ptr nb1 0), (5, Ptr nb2 0)]) (by kernel_rfl) ?_
 refine AC (BH (A4 (BI (.tuple #[.slice none 0 0, .agg #[.slice ao n c, I64 e]]) (res2 Tryd.results126 (BU rfl) (CQ rfl (A5 AQ AK rfl (AT 1 rfl (AJ _))))) fun w1 hw1 => ?_)))
 exact ⟨_, [], rfl, ⟨rfl, rfl⟩, hw1.sub (by simp) (by simp)⟩
theorem takeB_c (ao : Option Addr) (n c e : Nat) (s : Int) (w : World) (he : e = 0) (hs : s < 0 ∨ (n:Int) < s) : Calls Tryd.prog 126 #[.agg #[.slice ao n c, I64 e], I64 (s)] w (Post w [] (fun v L => v = .tuple #[.slice none 0 0, .agg #[.slice ao n c, I64 (2)]] ∧ L = [])) := by
 refine enter (P := Tryd.prog) (f := 126) (fn := Tryd.f126) w [] 33 [] [.agg #[.slice ao n c, I64 e], I64 (s)] Tryd.func126 rfl rfl (by simp) (BY (by simp) (by simp) (by simp)) ?_
 show JC _ _ _ [(0, .agg #[.slice ao n c, I64 e]), (1, I64 (s))] _
 refine AG (AB (A2 (DN (.agg #[.slice ao n c, I64 e]) ([.slice ao n c, I64 e]) rfl (by first | rfl | simp)) rfl ?_))
 rintro v1 L1 ⟨nb1, hnb1, rfl, rfl⟩
 show JL _ _ _ _ ((2, Ptr nb1 0) :: _) [⟨nb1, [.slice ao n c, I64 e], 107, (0, 0)⟩]
 refine AA _ (AH rfl) rfl ?_
 refine A2 (BN _ ([.slice none 0 0, I64 0]) C7 (by kernel_rfl)) rfl ?_
 rintro v1 L1 ⟨nb2, hnb2, rfl, rfl⟩
 show JL _ _ _ _ ((5, Ptr nb2 0) :: _) [_, ⟨nb2, [.slice none 0 0, I64 0], 107, (0, 0)⟩]
 refine AL (AC (AG (AG (AB (AA (Ptr nb1 1) (AD 1 3 1 BG rfl BA rfl rfl) rfl ?_)))))
 refine AA (I64 e) (AM rfl (A6 BS (AT 0 rfl (AO (Seg.head))))) rfl ?_
 refine AA (.bool (decide (((e:Int)) ≠ (0:Int)))) (AP rfl rfl fun _ => CE _ _) rfl ?_
 refine AL (AC (BZ _ rfl (decide_eq_false (by omega)) ?_))
 refine BL (AC (AG (AG (AB (AA _ (AE rfl) rfl ?_)))))
 refine AA (.bool (decide ((s) < (0:Int)))) (AP rfl rfl fun _ => DC _ _) rfl ?_
 refine AA _ (AE rfl) rfl ?_
 rcases Bool.eq_false_or_eq_true (decide ((s) < (0:Int))) with hb1 | hb1
 ·
  have hp1 : (s) < (0:Int) := of_decide_eq_true hb1
  refine AF 2 13 false _ rfl rfl hb1 rfl ?_
  refine AF 2 13 false _ rfl rfl hb1 rfl ?_
  refine AF 2 13 false _ rfl rfl hb1 rfl ?_
  refine AF 2 13 false _ rfl rfl hb1 rfl ?_
  refine AF 2 13 false _ rfl rfl hb1 rfl ?_
  refine AA _ (BO _ rfl hb1 rfl) rfl ?_
  refine AL (AC (CM _ rfl rfl ?_))
  refine AG (AB (AA (Ptr nb1 1) (AD 1 3 1 BG rfl BA rfl rfl) rfl ?_))
  refine AY (C0 0 nb1 1 1 ([.slice ao n c, I64 e]) 107 (I64 2) ([I64 2]) ([.slice ao n c, I64 2]) rfl rfl rfl rfl BA rfl (by simp [Value.oneCell']) (Nat.le_of_ble_eq_true rfl) (rfl)) rfl ?_
  show JL _ _ _ _ _ [⟨nb1, [.slice ao n c, I64 2], 107, (0, 0)⟩, _]
  refine AL (AC (AG (CH 33 2 [(0, .agg #[.slice ao n c, I64 2]), (1, .slice none 0 0)] BP rfl (by decide +kernel) ?_)))
  refine B6 ⟨[], [0, 1], [], [0, 1], [2]⟩ 2 rfl rfl (by decide +kernel) rfl ⟨⟨_, rfl, AI rfl (AM rfl (A5 AQ AK rfl (AT 0 rfl (AJ _))))⟩, ⟨_, rfl, AI rfl (AH rfl)⟩, trivial⟩ rfl (A7 rfl (AU 1 nb2 2 ([.slice none 0 0, I64 0]) 107 ([.slice ao n c, I64 2]) rfl rfl rfl AK rfl (by simp [Value.oneCell']) (Nat.le_of_ble_eq_true rfl) (A0 (by simp [])))) ?_
  show DP _ _ _ _ _ _ _ _ [_, ⟨nb2, [.slice ao n c, I64 2], 107, (0, 0)⟩]
  refine C2 ⟨[2], [0, 1], [0, 1], [], []⟩ rfl rfl (by decide +kernel) rfl trivial ?_
  refine CB (F' := [(4, .slice none 0 0), (1, I64 (s)), (2, Ptr nb1 0), (5, Ptr nb2 0)]) (by kernel_rfl) ?_
  refine AC (BH (A4 (BI (.tuple #[.slice none 0 0, .agg #[.slice ao n c, I64 2]]) (res2 Tryd.results126 (BU rfl) (CQ rfl (A5 AQ AK rfl (AT 1 rfl (AJ _))))) fun w1 hw1 => ?_)))
  exact ⟨_, [], rfl, ⟨rfl, rfl⟩, hw1.sub (by simp) (by simp)⟩
 ·
  have hp1 : ¬ ((s) < (0:Int)) := of_decide_eq_false hb1
  refine AS 2 13 false _ _ rfl rfl hb1 (AE rfl) rfl ?_
  refine AS 2 13 false _ (Ptr nb1 0) rfl rfl hb1 (AD 0 43 1 BG rfl B2 rfl rfl) rfl ?_
  refine AS 2 13 false _ (.slice ao n c) rfl rfl hb1 (AM rfl (A6 DF (AT 0 rfl (Seg.head)))) rfl ?_
  refine AS 2 13 false _ (I64 n) rfl rfl hb1 (DS AR rfl) rfl ?_
  refine AS 2 13 false _ (.bool (decide (((n:Int)) < (s)))) rfl rfl hb1 (AP rfl rfl fun _ => EL _ _) rfl ?_
  refine AA _ (BF _ rfl hb1 rfl) rfl ?_
  refine AL (AC (CM _ rfl (decide_eq_true (by omega)) ?_))
  refine AG (AB (AA (Ptr nb1 1) (AD 1 3 1 BG rfl BA rfl rfl) rfl ?_))
  refine AY (C0 0 nb1 1 1 ([.slice ao n c, I64 e]) 107 (I64 2) ([I64 2]) ([.slice ao n c, I64 2]) rfl rfl rfl rfl BA rfl (by simp [Value.oneCell']) (Nat.le_of_ble_eq_true rfl) (rfl)) rfl ?_
  show JL _ _ _ _ _ [⟨nb1, [.slice ao n c, I64 2], 107, (0, 0)⟩, _]
  refine AL (AC (AG (CH 33 2 [(0, .agg #[.slice ao n c, I64 2]), (1, .slice none 0 0)] BP rfl (by decide +kernel) ?_)))
  refine B6 ⟨[], [0, 1], [], [0, 1], [2]⟩ 2 rfl rfl (by decide +kernel) rfl ⟨⟨_, rfl, AI rfl (AM rfl (A5 AQ AK rfl (AT 0 rfl (AJ _))))⟩, ⟨_, rfl, AI rfl (AH rfl)⟩, trivial⟩ rfl (A7 rfl (AU 1 nb2 2 ([.slice none 0 0, I64 0]) 107 ([.slice ao n c, I64 2]) rfl rfl rfl AK rfl (by simp [Value.oneCell']) (Nat.le_of_ble_eq_true rfl) (A0 (by simp [])))) ?_
  show DP _ _ _ _ _ _ _ _ [_, ⟨nb2, [.slice ao n c, I64 2], 107, (0, 0)⟩]
  refine C2 ⟨[2], [0, 1], [0, 1], [], []⟩ rfl rfl (by decide +kernel) rfl trivial ?_
  refine CB (F' := [(4, .slice none 0 0), (1, I64 (s)), (2, Ptr nb1 0), (5, Ptr nb2 0)]) (by kernel_rfl) ?_
  refine AC (BH (A4 (BI (.tuple #[.slice none 0 0, .agg #[.slice ao n c, I64 2]]) (res2 Tryd.results126 (BU rfl) (CQ rfl (A5 AQ AK rfl (AT 1 rfl (AJ _))))) fun w1 hw1 => ?_)))
  exact ⟨_, [], rfl, ⟨rfl, rfl⟩, hw1.sub (by simp) (by simp)⟩
theorem takeOk_c (ao : Option Addr) (n c e : Nat) (z : List UInt8) (s : Nat) (n2 c2 : Nat) (w : World) (hz : z.length = n) (hn : n ≤ 2000000000) (hc : n ≤ c) (hcm : c ≤ maxLen) (hr : RdB w [] ao z) (he : e = 0) (h2 : s ≤ n) (ht1 : s + n2 = n) (ht2 : s + c2 = c) : Calls Tryd.prog 126 #[.agg #[.slice ao n c, I64 e], I64 s] w (Post w [] (fun v L => v = .tuple #[.slice ao s c, .agg #[.slice (advA ao c s) n2 c2, I64 (e)]] ∧ L = [])) := by
 refine enter (P := Tryd.prog) (f := 126) (fn := Tryd.f126) w [] 33 [] [.agg #[.slice ao n c, I64 e], I64 s] Tryd.func126 rfl rfl (by simp) (BY (by simp) (by simp) (by simp)) ?_
 show JC _ _ _ [(0, .agg #[.slice ao n c, I64 e]), (1, I64 s)] _
 refine AG (AB (A2 (DN (.agg #[.slice ao n c, I64 e]) ([.slice ao n c, I64 e]) rfl (by first | rfl | simp)) rfl ?_))
 rintro v1 L1 ⟨nb1, hnb1, rfl, rfl⟩
 show JL _ _ _ _ ((2, Ptr nb1 0) :: _) [⟨nb1, [.slice ao n c, I64 e], 107, (0, 0)⟩]
 refine AA _ (AH rfl) rfl ?_
 refine A2 (BN _ ([.slice none 0 0, I64 0]) C7 (by kernel_rfl)) rfl ?_
 rintro v1 L1 ⟨nb2, hnb2, rfl, rfl⟩
 show JL _ _ _ _ ((5, Ptr nb2 0) :: _) [_, ⟨nb2, [.slice none 0 0, I64 0], 107, (0, 0)⟩]
 refine AL (AC (AG (AG (AB (AA (Ptr nb1 1) (AD 1 3 1 BG rfl BA rfl rfl) rfl ?_)))))
 refine AA (I64 e) (AM rfl (A6 BS (AT 0 rfl (AO (Seg.head))))) rfl ?_
 refine AA (.bool (decide (((e:Int)) ≠ (0:Int)))) (AP rfl rfl fun _ => CE _ _) rfl ?_
 refine AL (AC (BZ _ rfl (decide_eq_false (by omega)) ?_))
 refine BL (AC (AG (AG (AB (AA _ (AE rfl) rfl ?_)))))
 refine AA (.bool (decide (((s:Int)) < (0:Int)))) (AP rfl rfl fun _ => DC _ _) rfl ?_
 refine AA _ (AE rfl) rfl ?_
 refine AS 2 13 false _ _ rfl rfl (decide_eq_false (by omega)) (AE rfl) rfl ?_
 refine AS 2 13 false _ (Ptr nb1 0) rfl rfl (decide_eq_false (by omega)) (AD 0 43 1 BG rfl B2 rfl rfl) rfl ?_
 refine AS 2 13 false _ (.slice ao n c) rfl rfl (decide_eq_false (by omega)) (AM rfl (A6 DF (AT 0 rfl (Seg.head)))) rfl ?_
 refine AS 2 13 false _ (I64 n) rfl rfl (decide_eq_false (by omega)) (DS AR rfl) rfl ?_
 refine AS 2 13 false _ (.bool (decide (((n:Int)) < ((s:Int))))) rfl rfl (decide_eq_false (by omega)) (AP rfl rfl fun _ => EL _ _) rfl ?_
 refine AA _ (BF _ rfl (decide_eq_false (by omega)) rfl) rfl ?_
 refine AL (AC (BZ _ rfl (decide_eq_false (by omega)) ?_))
 refine BL (AC (AG (AB (AA (Ptr nb1 0) (AD 0 43 1 BG rfl B2 rfl rfl) rfl ?_))))
 refine AA (.slice ao n c) (AM rfl (A6 DF (AT 0 rfl (Seg.head)))) rfl ?_
 refine AA _ (AE rfl) rfl ?_
 have hl1 : (mid z 0 s).length = s := FE (by rw [hz]; omega)
 have hr1 := RdB.pre hr s
 refine AA (.slice ao s c) (Ev_sliceHi 5 1 s AR BC rfl rfl (by omega)) rfl ?_
 refine AA _ (AH rfl) rfl ?_
 refine AL (AC (AG (AB (AA (Ptr nb1 0) (AD 0 43 1 BG rfl B2 rfl rfl) rfl ?_))))
 refine AA (.slice ao n c) (AM rfl (A6 DF (AT 0 rfl (Seg.head)))) rfl ?_
 refine AA _ (AE rfl) rfl ?_
 have hl2 : (z.drop s).length = (n - s) := by rw [List.length_drop, hz] <;> omega
 have hr2 := RdB.adv (c := c) hr s (by rw [hz]; omega) (by rw [hz]; omega)
 refine AA (.slice (advA ao c s) (n - s) (c - s)) (Ev_sliceLo 5 s (n - s) (c - s) AR BC rfl rfl (by omega) (by omega) (by omega) (by omega)) rfl ?_
 refine AA (Ptr nb1 0) (AD 0 43 1 BG rfl B2 rfl rfl) rfl ?_
 refine AY (C0 0 nb1 0 1 ([.slice ao n c, I64 e]) 107 (.slice (advA ao c s) (n - s) (c - s)) ([.slice (advA ao c s) (n - s) (c - s)]) ([.slice (advA ao c s) (n - s) (c - s), I64 e]) rfl rfl rfl rfl B2 rfl (by simp [Value.oneCell']) (Nat.le_of_ble_eq_true rfl) (rfl)) rfl ?_
 show JL _ _ _ _ _ [⟨nb1, [.slice (advA ao c s) (n - s) (c - s), I64 e], 107, (0, 0)⟩, _]
 refine AL (AC (AG (CH 33 2 [(0, .slice ao s c), (1, .agg #[.slice (advA ao c s) (n - s) (c - s), I64 e]), (2, .slice ao s c)] BP rfl (by decide +kernel) ?_)))
 refine B6 ⟨[], [0, 1, 2], [], [0, 1, 2], [3]⟩ 3 rfl rfl (by decide +kernel) rfl ⟨BQ rfl rfl rfl, ⟨_, rfl, AI rfl (AM rfl (A5 AQ AK rfl (AT 0 rfl (AJ _))))⟩, ⟨_, rfl, AI rfl (AH rfl)⟩, trivial⟩ rfl (A7 rfl (AU 1 nb2 2 ([.slice none 0 0, I64 0]) 107 ([.slice (advA ao c s) (n - s) (c - s), I64 e]) rfl rfl rfl AK rfl (by simp [Value.oneCell']) (Nat.le_of_ble_eq_true rfl) (A0 (by simp [])))) ?_
 show DP _ _ _ _ _ _ _ _ [_, ⟨nb2, [.slice (advA ao c s) (n - s) (c - s), I64 e], 107, (0, 0)⟩]
 refine C2 ⟨[3], [0, 1, 2], [0, 1, 2], [], []⟩ rfl rfl (by decide +kernel) rfl trivial ?_
 refine CB (F' := [(4, .slice ao s c), (5, Ptr nb2 0)]) (by kernel_rfl) ?_
 refine AC (BH (BI (.tuple #[.slice ao s c, .agg #[.slice (advA ao c s) (n - s) (c - s), I64 e]]) (res2 Tryd.results126 (BU rfl) (CQ rfl (A5 AQ AK rfl (AT 1 rfl (AJ _))))) fun w1 hw1 => ?_))
 obtain rfl : n2 = (n - s) := by omega
 obtain rfl : c2 = (c - s) := by omega
 exact ⟨_, [], rfl, ⟨rfl, rfl⟩, hw1.sub (by simp) (by simp)⟩
theorem value_c (ao : Option Addr) (n c : Nat) (z : List UInt8) (w : World) (hz : z.length = n) (hn : n ≤ 2000000000) (hr : RdB w [] ao z) : Calls Tryd.prog 110 #[.slice ao n c] w (Post w [] (fun v L => v = U64 (rvalK z n) ∧ L = [])) := by
 refine enter w [] 20 [] [.slice ao n c] Tryd.func110 rfl rfl (by simp) (BY (by simp) (by simp) (by simp)) ?_
 show JC _ _ _ [(0, .slice ao n c)] _
 refine AG (AB (AA _ (AH rfl) rfl ?_))
 refine AL (AC (AG (AB (AA _ (AH rfl) rfl ?_))))
 refine AL (AC (AG (AG (AB (AA _ (AH rfl) rfl ?_)))))
 refine AL (AC (B4 (D4 (ι := Nat × UInt64) (fun ⟨j, y⟩ => [(0, .slice ao n c), (2, U64 0), (4, I64 j), (3, U64 y)]) (fun ⟨j, y⟩ => []) (fun ⟨j, y⟩ => j ≤ n ∧ y = rvalK z j) (fun ⟨j, y⟩ => n - j) (0, 0) ⟨by omega, by rw [rvalK]⟩ (Sub.all rfl) rfl ?_)))
 rintro ⟨j, y⟩ ⟨hx1, hx2⟩
 show JC _ _ _ [(0, .slice ao n c), (2, U64 0), (4, I64 j), (3, U64 y)] []
 refine AG (AG (AB (AA _ (AE rfl) rfl ?_)))
 refine AA _ (AE rfl) rfl ?_
 refine AA (I64 n) (DS AR rfl) rfl ?_
 refine AA (.bool (decide (((j:Int)) < ((n:Int))))) (AP rfl rfl fun _ => DC _ _) rfl ?_
 refine AL (AC (CL (decide (((j:Int)) < ((n:Int)))) rfl (fun hb1 => ?_) (fun hb1 => ?_)))
 ·
  have hp1 : ((j:Int)) < ((n:Int)) := of_decide_eq_true hb1
  refine BL (AC (AG (B4 (AB (AA _ (AE rfl) rfl ?_)))))
  refine AA (U64 (y * (256:UInt64))) (AP rfl rfl fun _ => bin_mul_u64 y (256:UInt64)) rfl ?_
  refine AA _ (AE rfl) rfl ?_
  refine AA _ (AE rfl) rfl ?_
  obtain ⟨bz1, oz1, hz1, hm1⟩ := hr.pos (by rw [hz]; omega)
  refine AA (Ptr bz1 (j + oz1)) (C9 5 1 (j + oz1) AR BC rfl hz1 rfl (by omega) (by omega) (by omega)) rfl ?_
  refine AA (U8 (g8 z j)) (AM rfl (A6 EP (CW (MemAt.base hm1.1 hm1.2.1 hm1.2.2) (Seg.get (g8_get (i := j) (by rw [hz]; omega))) (by omega)))) rfl ?_
  refine AA (U64 ((g8 z j).toUInt64)) (EG _ _ rfl fun _ => conv_u8_u64 (by rw [CN]; rfl) B8 _) rfl ?_
  refine AA (U64 ((y * (256:UInt64)) + ((g8 z j).toUInt64))) (AP rfl rfl fun _ => bin_add_u64 (y * (256:UInt64)) ((g8 z j).toUInt64)) rfl ?_
  refine AA _ (AH rfl) rfl ?_
  refine AL (B0 (AC (AB (AA _ (AE rfl) rfl ?_))))
  refine AA (I64 ((j:Int) + 1)) (AP rfl rfl fun _ => DL _ _ ((j:Int) + 1) (by omega) (by omega)) rfl ?_
  refine AA _ (AH rfl) rfl ?_
  refine AL (DO (ER (j + 1, (y * (256:UInt64)) + ((g8 z j).toUInt64)) ⟨by omega, by rw [rvalK, ← hx2]⟩ (by first | (simp; omega) | simp | (dsimp only; omega) | omega) (Sub.all rfl) rfl))
 ·
  have hp1 : ¬ (((j:Int)) < ((n:Int))) := of_decide_eq_false hb1
  refine DU (A9 (A9 (CR (AC (AG (AB (AA _ (AE rfl) rfl ?_)))))))
  refine AA _ (AH rfl) rfl ?_
  refine AL (AC (BH (BI (U64 y) (res1 Tryd.results110 (BU rfl)) fun w1 hw1 => ?_)))
  have e1 : j = n := by omega
  rw [hx2, e1] at *
  exact ⟨_, [], rfl, ⟨rfl, rfl⟩, hw1.sub (by simp) (by simp)⟩
theorem GD  (w : World) : Calls Tryd.prog 110 #[.slice none 0 0] w (Post w [] (fun v L => v = U64 0 ∧ L = [])) := by
 refine enter w [] 20 [] [.slice none 0 0] Tryd.func110 rfl rfl (by simp) (BY (by simp) (by simp) (by simp)) ?_
 show JC _ _ _ [(0, .slice none 0 0)] _
 refine AG (AB (AA _ (AH rfl) rfl ?_))
 refine AL (AC (AG (AB (AA _ (AH rfl) rfl ?_))))
 refine AL (AC (AG (AG (AB (AA _ (AH rfl) rfl ?_)))))
 refine AL (AC (B4 (D4 (ι := Unit) (fun _ => [(0, .slice none 0 0), (2, U64 0), (4, I64 0), (3, U64 0)]) (fun _ => []) (fun _ => True) (fun _ => 1) () trivial (Sub.all rfl) rfl ?_)))
 rintro _ _
 show JC _ _ _ [(0, .slice none 0 0), (2, U64 0), (4, I64 0), (3, U64 0)] []
 refine AG (AG (AB (AA _ (AE rfl) rfl ?_)))
 refine AA _ (AE rfl) rfl ?_
 refine AA (I64 0) (DS AR rfl) rfl ?_
 refine AA (.bool (decide ((0:Int) < (0:Int)))) (AP rfl rfl fun _ => DC _ _) rfl ?_
 refine AL (AC (BZ _ rfl (by decide) ?_))
 refine DU (A9 (A9 (CR (AC (AG (AB (AA _ (AE rfl) rfl ?_)))))))
 refine AA _ (AH rfl) rfl ?_
 refine AL (AC (BH (BI (U64 0) (res1 Tryd.results110 (BU rfl)) fun w1 hw1 => ?_)))
 exact ⟨_, [], rfl, ⟨rfl, rfl⟩, hw1.sub (by simp) (by simp)⟩
theorem readE_c (ao : Option Addr) (n c e : Nat) (s : Int) (w : World) (he : e ≠ 0) : Calls Tryd.prog 118 #[.agg #[.slice ao n c, I64 e], I64 (s)] w (Post w [] (fun v L => v = .tuple #[U64 0, .agg #[.slice ao n c, I64 (e)]] ∧ L = [])) := by
 refine enter (P := Tryd.prog) (f := 118) (fn := Tryd.f118) w [] 36 [] [.agg #[.slice ao n c, I64 e], I64 (s)] Tryd.func118 rfl rfl (by simp) (BY (by simp) (by simp) (by simp)) ?_
 show JC _ _ _ [(0, .agg #[.slice ao n c, I64 e]), (1, I64 (s))] _
 refine AG (AB (A2 (DN (.agg #[.slice ao n c, I64 e]) ([.slice ao n c, I64 e]) rfl (by first | rfl | simp)) rfl ?_))
 rintro v1 L1 ⟨nb1, hnb1, rfl, rfl⟩
 show JL _ _ _ _ ((2, Ptr nb1 0) :: _) [⟨nb1, [.slice ao n c, I64 e], 107, (0, 0)⟩]
 refine AA _ (AH rfl) rfl ?_
 refine A2 (BN _ ([.slice none 0 0, I64 0]) C7 (by kernel_rfl)) rfl ?_
 rintro v1 L1 ⟨nb2, hnb2, rfl, rfl⟩
 show JL _ _ _ _ ((5, Ptr nb2 0) :: _) [_, ⟨nb2, [.slice none 0 0, I64 0], 107, (0, 0)⟩]
 refine AL (AC (AG (AG (AB (AA (Ptr nb1 1) (AD 1 3 1 BG rfl BA rfl rfl) rfl ?_)))))
 refine AA (I64 e) (AM rfl (A6 BS (AT 0 rfl (AO (Seg.head))))) rfl ?_
 refine AA (.bool (decide (((e:Int)) ≠ (0:Int)))) (AP rfl rfl fun _ => CE _ _) rfl ?_
 refine AL (AC (CM _ rfl (decide_eq_true (by omega)) ?_))
 refine AG (CH 36 2 [(0, .agg #[.slice ao n c, I64 e]), (1, U64 0)] BP rfl (by decide +kernel) ?_)
 refine B6 ⟨[], [0, 1], [], [0, 1], [2]⟩ 2 rfl rfl (by decide +kernel) rfl ⟨⟨_, rfl, AI rfl (AM rfl (A5 AQ AK rfl (AT 0 rfl (AJ _))))⟩, ⟨_, rfl, AI rfl (AH rfl)⟩, trivial⟩ rfl (A7 rfl (AU 1 nb2 2 ([.slice none 0 0, I64 0]) 107 ([.slice ao n c, I64 e]) rfl rfl rfl AK rfl (by simp [Value.oneCell']) (Nat.le_of_ble_eq_true rfl) (A0 (by simp [])))) ?_
 show DP _ _ _ _ _ _ _ _ [_, ⟨nb2, [.slice ao n c, I64 e], 107, (0, 0)⟩]
 refine C2 ⟨[2], [0, 1], [0, 1], [], []⟩ rfl rfl (by decide +kernel) rfl trivial ?_
 refine CB (F' := [(4, U64 0), (1, I64 (s)), (2, Ptr nb1 0), (5, Ptr nb2 0)]) (by kernel_rfl) ?_
 refine AC (BH (A4 (BI (.tuple #[U64 0, .agg #[.slice ao n c, I64 e]]) (res2 DW (BU rfl) (CQ rfl (A5 AQ AK rfl (AT 1 rfl (AJ _))))) fun w1 hw1 => ?_)))
 exact ⟨_, [], rfl, ⟨rfl, rfl⟩, hw1.sub (by simp) (by simp)⟩
theorem readF_c (ao : Option Addr) (n c e : Nat) (s : Int) (w : World) (he : e = 0) (hs : ¬ Szd s) : Calls Tryd.prog 118 #[.agg #[.slice ao n c, I64 e], I64 (s)] w (Post w [] (fun v L => v = .tuple #[U64 0, .agg #[.slice ao n c, I64 (2)]] ∧ L = [])) := by
 refine enter (P := Tryd.prog) (f := 118) (fn := Tryd.f118) w [] 36 [] [.agg #[.slice ao n c, I64 e], I64 (s)] Tryd.func118 rfl rfl (by simp) (BY (by simp) (by simp) (by simp)) ?_
 show JC _ _ _ [(0, .agg #[.slice ao n c, I64 e]), (1, I64 (s))] _
 refine AG (AB (A2 (DN (.agg #[.slice ao n c, I64 e]) ([.slice ao n c, I64 e]) rfl (by first | rfl | simp)) rfl ?_))
 rintro v1 L1 ⟨nb1, hnb1, rfl, rfl⟩
 show JL _ _ _ _ ((2, Ptr nb1 0) :: _) [⟨nb1, [.slice ao n c, I64 e], 107, (0, 0)⟩]
 refine AA _ (AH rfl) rfl ?_
 refine A2 (BN _ ([.slice none 0 0, I64 0]) C7 (by kernel_rfl)) rfl ?_
 rintro v1 L1 ⟨nb2, hnb2, rfl, rfl⟩
 show JL _ _ _ _ ((5, Ptr nb2 0) :: _) [_, ⟨nb2, [.slice none 0 0, I64 0], 107, (0, 0)⟩]
 refine AL (AC (AG (AG (AB (AA (Ptr nb1 1) (AD 1 3 1 BG rfl BA rfl rfl) rfl ?_)))))
 refine AA (I64 e) (AM rfl (A6 BS (AT 0 rfl (AO (Seg.head))))) rfl ?_
 refine AA (.bool (decide (((e:Int)) ≠ (0:Int)))) (AP rfl rfl fun _ => CE _ _) rfl ?_
 refine AL (AC (BZ _ rfl (decide_eq_false (by omega)) ?_))
 refine BL (AC (AG (AG (AB (AA _ (AE rfl) rfl ?_)))))
 refine AA (.bool (decide ((s) ≠ (1:Int)))) (AP rfl rfl fun _ => CE _ _) rfl ?_
 refine AA _ (AE rfl) rfl ?_
 rcases Bool.eq_false_or_eq_true (decide ((s) ≠ (1:Int))) with hb1 | hb1
 ·
  have hp1 : (s) ≠ (1:Int) := of_decide_eq_true hb1
  refine AS 2 13 true _ _ rfl rfl hb1 (AE rfl) rfl ?_
  refine AS 2 13 true _ (.bool (decide ((s) ≠ (2:Int)))) rfl rfl hb1 (AP rfl rfl fun _ => CE _ _) rfl ?_
  refine AA _ (BO _ rfl hb1 rfl) rfl ?_
  refine AA _ (AE rfl) rfl ?_
  rcases Bool.eq_false_or_eq_true (decide ((s) ≠ (2:Int))) with hb2 | hb2
  ·
   have hp2 : (s) ≠ (2:Int) := of_decide_eq_true hb2
   refine AS 6 17 true _ _ rfl rfl hb2 (AE rfl) rfl ?_
   refine AS 6 17 true _ (.bool (decide ((s) ≠ (4:Int)))) rfl rfl hb2 (AP rfl rfl fun _ => CE _ _) rfl ?_
   refine AA _ (BO _ rfl hb2 rfl) rfl ?_
   refine AA _ (AE rfl) rfl ?_
   rcases Bool.eq_false_or_eq_true (decide ((s) ≠ (4:Int))) with hb3 | hb3
   ·
    have hp3 : (s) ≠ (4:Int) := of_decide_eq_true hb3
    refine AS 10 21 true _ _ rfl rfl hb3 (AE rfl) rfl ?_
    refine AS 10 21 true _ (.bool (decide ((s) ≠ (8:Int)))) rfl rfl hb3 (AP rfl rfl fun _ => CE _ _) rfl ?_
    refine AA _ (BO _ rfl hb3 rfl) rfl ?_
    refine AL (AC (CL (decide ((s) ≠ (8:Int))) rfl (fun hb4 => ?_) (fun hb4 => ?_)))
    ·
     have hp4 : (s) ≠ (8:Int) := of_decide_eq_true hb4
     refine AG (AB (AA (Ptr nb1 1) (AD 1 3 1 BG rfl BA rfl rfl) rfl ?_))
     refine AY (C0 0 nb1 1 1 ([.slice ao n c, I64 e]) 107 (I64 2) ([I64 2]) ([.slice ao n c, I64 2]) rfl rfl rfl rfl BA rfl (by simp [Value.oneCell']) (Nat.le_of_ble_eq_true rfl) (rfl)) rfl ?_
     show JL _ _ _ _ _ [⟨nb1, [.slice ao n c, I64 2], 107, (0, 0)⟩, _]
     refine AL (AC (AG (CH 36 2 [(0, .agg #[.slice ao n c, I64 2]), (1, U64 0)] BP rfl (by decide +kernel) ?_)))
     refine B6 ⟨[], [0, 1], [], [0, 1], [2]⟩ 2 rfl rfl (by decide +kernel) rfl ⟨⟨_, rfl, AI rfl (AM rfl (A5 AQ AK rfl (AT 0 rfl (AJ _))))⟩, ⟨_, rfl, AI rfl (AH rfl)⟩, trivial⟩ rfl (A7 rfl (AU 1 nb2 2 ([.slice none 0 0, I64 0]) 107 ([.slice ao n c, I64 2]) rfl rfl rfl AK rfl (by simp [Value.oneCell']) (Nat.le_of_ble_eq_true rfl) (A0 (by simp [])))) ?_
     show DP _ _ _ _ _ _ _ _ [_, ⟨nb2, [.slice ao n c, I64 2], 107, (0, 0)⟩]
     refine C2 ⟨[2], [0, 1], [0, 1], [], []⟩ rfl rfl (by decide +kernel) rfl trivial ?_
     refine CB (F' := [(4, U64 0), (1, I64 (s)), (2, Ptr nb1 0), (5, Ptr nb2 0)]) (by kernel_rfl) ?_
     refine AC (BH (A4 (BI (.tuple #[U64 0, .agg #[.slice ao n c, I64 2]]) (res2 DW (BU rfl) (CQ rfl (A5 AQ AK rfl (AT 1 rfl (AJ _))))) fun w1 hw1 => ?_)))
     exact ⟨_, [], rfl, ⟨rfl, rfl⟩, hw1.sub (by simp) (by simp)⟩
    ·
     have hp4 : ¬ ((s) ≠ (8:Int)) := of_decide_eq_false hb4
     refine BL (AC (AG (AB (AA (.agg #[.slice ao n c, I64 e]) (AM rfl (A5 AQ AK rfl (AT 0 rfl (AJ _)))) rfl ?_))))
     refine AA _ (AE rfl) rfl ?_
     refine AY (AX 126 [.agg #[.slice ao n c, I64 e], I64 (s)] (.tuple #[.slice none 0 0, .agg #[.slice ao n c, I64 2]]) (AZ _ D2 rfl) (fun w1 hw1 => takeB_c ao n c e (s) w1 he (by exfalso; apply hs; unfold Szd; omega))) rfl ?_
     show JL _ _ _ _ ((30, .tuple #[.slice none 0 0, .agg #[.slice ao n c, I64 2]]) :: _) [_, _]
     refine AA _ (AE rfl) rfl ?_
     refine AA _ (BB rfl rfl) rfl ?_
     refine AA _ (BB rfl rfl) rfl ?_
     refine AA _ (AH rfl) rfl ?_
     refine AY (AU 0 nb1 2 ([.slice ao n c, I64 e]) 107 ([.slice ao n c, I64 2]) rfl rfl rfl AK rfl (by simp [Value.oneCell']) (Nat.le_of_ble_eq_true rfl) (A0 (by simp []))) rfl ?_
     show JL _ _ _ _ _ [⟨nb1, [.slice ao n c, I64 2], 107, (0, 0)⟩, _]
     refine AL (AC (AG (CH 36 3 [(0, .slice none 0 0), (2, .agg #[.slice ao n c, I64 2])] BP rfl (by decide +kernel) ?_)))
     refine C5 ⟨[], [0, 2], [], [0, 2], [1]⟩ 1 _ rfl rfl (by decide +kernel) rfl ⟨BQ rfl rfl rfl, ⟨_, rfl, AI rfl (AM rfl (A5 AQ AK rfl (AT 0 rfl (AJ _))))⟩, trivial⟩ rfl (A7 rfl (AX 110 [.slice none 0 0] (U64 0) (AZ _ Tryd.call110 rfl) (fun w1 hw1 => GD w1))) ?_
     rintro v1 L1 ⟨rfl, rfl⟩
     refine ⟨[(3, U64 0)], ?_⟩
     show DP _ _ _ _ _ _ _ _ [_, _]
     refine B6 ⟨[1], [0, 2, 3], [0], [2, 3], [4]⟩ 4 rfl rfl (by decide +kernel) rfl ⟨⟨_, rfl, AI rfl (AM rfl (A5 AQ AK rfl (AT 0 rfl (AJ _))))⟩, ⟨_, rfl, AI rfl (AH rfl)⟩, trivial⟩ rfl (A7 rfl (AU 1 nb2 2 ([.slice none 0 0, I64 0]) 107 ([.slice ao n c, I64 2]) rfl rfl rfl AK rfl (by simp [Value.oneCell']) (Nat.le_of_ble_eq_true rfl) (A0 (by simp [])))) ?_
     show DP _ _ _ _ _ _ _ _ [_, ⟨nb2, [.slice ao n c, I64 2], 107, (0, 0)⟩]
     refine C2 ⟨[1, 4], [0, 2, 3], [0, 2, 3], [], []⟩ rfl rfl (by decide +kernel) rfl trivial ?_
     refine CB (F' := [(4, U64 0), (5, Ptr nb2 0)]) (by kernel_rfl) ?_
     refine AC (BH (BI (.tuple #[U64 0, .agg #[.slice ao n c, I64 2]]) (res2 DW (BU rfl) (CQ rfl (A5 AQ AK rfl (AT 1 rfl (AJ _))))) fun w1 hw1 => ?_))
     exact ⟨_, [], rfl, ⟨rfl, rfl⟩, hw1.sub (by simp) (by simp)⟩
   ·
    have hp3 : ¬ ((s) ≠ (4:Int)) := of_decide_eq_false hb3
    refine AF 10 21 true _ rfl rfl hb3 rfl ?_
    refine AF 10 21 true _ rfl rfl hb3 rfl ?_
    refine AA _ (BF _ rfl hb3 rfl) rfl ?_
    refine AL (AC (BZ _ rfl rfl ?_))
    refine BL (AC (AG (AB (AA (.agg #[.slice ao n c, I64 e]) (AM rfl (A5 AQ AK rfl (AT 0 rfl (AJ _)))) rfl ?_))))
    refine AA _ (AE rfl) rfl ?_
    refine AY (AX 126 [.agg #[.slice ao n c, I64 e], I64 (s)] (.tuple #[.slice none 0 0, .agg #[.slice ao n c, I64 2]]) (AZ _ D2 rfl) (fun w1 hw1 => takeB_c ao n c e (s) w1 he (by exfalso; apply hs; unfold Szd; omega))) rfl ?_
    show JL _ _ _ _ ((30, .tuple #[.slice none 0 0, .agg #[.slice ao n c, I64 2]]) :: _) [_, _]
    refine AA _ (AE rfl) rfl ?_
    refine AA _ (BB rfl rfl) rfl ?_
    refine AA _ (BB rfl rfl) rfl ?_
    refine AA _ (AH rfl) rfl ?_
    refine AY (AU 0 nb1 2 ([.slice ao n c, I64 e]) 107 ([.slice ao n c, I64 2]) rfl rfl rfl AK rfl (by simp [Value.oneCell']) (Nat.le_of_ble_eq_true rfl) (A0 (by simp []))) rfl ?_
    show JL _ _ _ _ _ [⟨nb1, [.slice ao n c, I64 2], 107, (0, 0)⟩, _]
    refine AL (AC (AG (CH 36 3 [(0, .slice none 0 0), (2, .agg #[.slice ao n c, I64 2])] BP rfl (by decide +kernel) ?_)))
    refine C5 ⟨[], [0, 2], [], [0, 2], [1]⟩ 1 _ rfl rfl (by decide +kernel) rfl ⟨BQ rfl rfl rfl, ⟨_, rfl, AI rfl (AM rfl (A5 AQ AK rfl (AT 0 rfl (AJ _))))⟩, trivial⟩ rfl (A7 rfl (AX 110 [.slice none 0 0] (U64 0) (AZ _ Tryd.call110 rfl) (fun w1 hw1 => GD w1))) ?_
    rintro v1 L1 ⟨rfl, rfl⟩
    refine ⟨[(3, U64 0)], ?_⟩
    show DP _ _ _ _ _ _ _ _ [_, _]
    refine B6 ⟨[1], [0, 2, 3], [0], [2, 3], [4]⟩ 4 rfl rfl (by decide +kernel) rfl ⟨⟨_, rfl, AI rfl (AM rfl (A5 AQ AK rfl (AT 0 rfl (AJ _))))⟩, ⟨_, rfl, AI rfl (AH rfl)⟩, trivial⟩ rfl (A7 rfl (AU 1 nb2 2 ([.slice none 0 0, I64 0]) 107 ([.slice ao n c, I64 2]) rfl rfl rfl AK rfl (by simp [Value.oneCell']) (Nat.le_of_ble_eq_true rfl) (A0 (by simp [])))) ?_
    show DP _ _ _ _ _ _ _ _ [_, ⟨nb2, [.slice ao n c, I64 2], 107, (0, 0)⟩]
    refine C2 ⟨[1, 4], [0, 2, 3], [0, 2, 3], [], []⟩ rfl rfl (by decide +kernel) rfl trivial ?_
    refine CB (F' := [(4, U64 0), (5, Ptr nb2 0)]) (by kernel_rfl) ?_
    refine AC (BH (BI (.tuple #[U64 0, .agg #[.slice ao n c, I64 2]]) (res2 DW (BU rfl) (CQ rfl (A5 AQ AK rfl (AT 1 rfl (AJ _))))) fun w1 hw1 => ?_))
    exact ⟨_, [], rfl, ⟨rfl, rfl⟩, hw1.sub (by simp) (by simp)⟩
  ·
   have hp2 : ¬ ((s) ≠ (2:Int)) := of_decide_eq_false hb2
   refine AF 6 17 true _ rfl rfl hb2 rfl ?_
   refine AF 6 17 true _ rfl rfl hb2 rfl ?_
   refine AA _ (BF _ rfl hb2 rfl) rfl ?_
   refine AA _ (AE rfl) rfl ?_
   refine AF 10 21 true _ rfl rfl rfl rfl ?_
   refine AF 10 21 true _ rfl rfl rfl rfl ?_
   refine AA _ (BF _ rfl rfl rfl) rfl ?_
   refine AL (AC (BZ _ rfl rfl ?_))
   refine BL (AC (AG (AB (AA (.agg #[.slice ao n c, I64 e]) (AM rfl (A5 AQ AK rfl (AT 0 rfl (AJ _)))) rfl ?_))))
   refine AA _ (AE rfl) rfl ?_
   refine AY (AX 126 [.agg #[.slice ao n c, I64 e], I64 (s)] (.tuple #[.slice none 0 0, .agg #[.slice ao n c, I64 2]]) (AZ _ D2 rfl) (fun w1 hw1 => takeB_c ao n c e (s) w1 he (by exfalso; apply hs; unfold Szd; omega))) rfl ?_
   show JL _ _ _ _ ((30, .tuple #[.slice none 0 0, .agg #[.slice ao n c, I64 2]]) :: _) [_, _]
   refine AA _ (AE rfl) rfl ?_
   refine AA _ (BB rfl rfl) rfl ?_
   refine AA _ (BB rfl rfl) rfl ?_
   refine AA _ (AH rfl) rfl ?_
   refine AY (AU 0 nb1 2 ([.slice ao n c, I64 e]) 107 ([.slice ao n c, I64 2]) rfl rfl rfl AK rfl (by simp [Value.oneCell']) (Nat.le_of_ble_eq_true rfl) (A0 (by simp []))) rfl ?_
   show JL _ _ _ _ _ [⟨nb1, [.slice ao n c, I64 2], 107, (0, 0)⟩, _]
   refine AL (AC (AG (CH 36 3 [(0, .slice none 0 0), (2, .agg #[.slice ao n c, I64 2])] BP rfl (by decide +kernel) ?_)))
   refine C5 ⟨[], [0, 2], [], [0, 2], [1]⟩ 1 _ rfl rfl (by decide +kernel) rfl ⟨BQ rfl rfl rfl, ⟨_, rfl, AI rfl (AM rfl (A5 AQ AK rfl (AT 0 rfl (AJ _))))⟩, trivial⟩ rfl (A7 rfl (AX 110 [.slice none 0 0] (U64 0) (AZ _ Tryd.call110 rfl) (fun w1 hw1 => GD w1))) ?_
   rintro v1 L1 ⟨rfl, rfl⟩
   refine ⟨[(3, U64 0)], ?_⟩
   show DP _ _ _ _ _ _ _ _ [_, _]
   refine B6 ⟨[1], [0, 2, 3], [0], [2, 3], [4]⟩ 4 rfl rfl (by decide +kernel) rfl ⟨⟨_, rfl, AI rfl (AM rfl (A5 AQ AK rfl (AT 0 rfl (AJ _))))⟩, ⟨_, rfl, AI rfl (AH rfl)⟩, trivial⟩ rfl (A7 rfl (AU 1 nb2 2 ([.slice none 0 0, I64 0]) 107 ([.slice ao n c, I64 2]) rfl rfl rfl AK rfl (by simp [Value.oneCell']) (Nat.le_of_ble_eq_true rfl) (A0 (by simp [])))) ?_
   show DP _ _ _ _ _ _ _ _ [_, ⟨nb2, [.slice ao n c, I64 2], 107, (0, 0)⟩]
   refine C2 ⟨[1, 4], [0, 2, 3], [0, 2, 3], [], []⟩ rfl rfl (by decide +kernel) rfl trivial ?_
   refine CB (F' := [(4, U64 0), (5, Ptr nb2 0)]) (by kernel_rfl) ?_
   refine AC (BH (BI (.tuple #[U64 0, .agg #[.slice ao n c, I64 2]]) (res2 DW (BU rfl) (CQ rfl (A5 AQ AK rfl (AT 1 rfl (AJ _))))) fun w1 hw1 => ?_))
   exact ⟨_, [], rfl, ⟨rfl, rfl⟩, hw1.sub (by simp) (by simp)⟩
 ·
  have hp1 : ¬ ((s) ≠ (1:Int)) := of_decide_eq_false hb1
  refine AF 2 13 true _ rfl rfl hb1 rfl ?_
  refine AF 2 13 true _ rfl rfl hb1 rfl ?_
  refine AA _ (BF _ rfl hb1 rfl) rfl ?_
  refine AA _ (AE rfl) rfl ?_
  refine AF 6 17 true _ rfl rfl rfl rfl ?_
  refine AF 6 17 true _ rfl rfl rfl rfl ?_
  refine AA _ (BF _ rfl rfl rfl) rfl ?_
  refine AA _ (AE rfl) rfl ?_
  refine AF 10 21 true _ rfl rfl rfl rfl ?_
  refine AF 10 21 true _ rfl rfl rfl rfl ?_
  refine AA _ (BF _ rfl rfl rfl) rfl ?_
  refine AL (AC (BZ _ rfl rfl ?_))
  refine BL (AC (AG (AB (AA (.agg #[.slice ao n c, I64 e]) (AM rfl (A5 AQ AK rfl (AT 0 rfl (AJ _)))) rfl ?_))))
  refine AA _ (AE rfl) rfl ?_
  refine AY (AX 126 [.agg #[.slice ao n c, I64 e], I64 (s)] (.tuple #[.slice none 0 0, .agg #[.slice ao n c, I64 2]]) (AZ _ D2 rfl) (fun w1 hw1 => takeB_c ao n c e (s) w1 he (by exfalso; apply hs; unfold Szd; omega))) rfl ?_
  show JL _ _ _ _ ((30, .tuple #[.slice none 0 0, .agg #[.slice ao n c, I64 2]]) :: _) [_, _]
  refine AA _ (AE rfl) rfl ?_
  refine AA _ (BB rfl rfl) rfl ?_
  refine AA _ (BB rfl rfl) rfl ?_
  refine AA _ (AH rfl) rfl ?_
  refine AY (AU 0 nb1 2 ([.slice ao n c, I64 e]) 107 ([.slice ao n c, I64 2]) rfl rfl rfl AK rfl (by simp [Value.oneCell']) (Nat.le_of_ble_eq_true rfl) (A0 (by simp []))) rfl ?_
  show JL _ _ _ _ _ [⟨nb1, [.slice ao n c, I64 2], 107, (0, 0)⟩, _]
  refine AL (AC (AG (CH 36 3 [(0, .slice none 0 0), (2, .agg #[.slice ao n c, I64 2])] BP rfl (by decide +kernel) ?_)))
  refine C5 ⟨[], [0, 2], [], [0, 2], [1]⟩ 1 _ rfl rfl (by decide +kernel) rfl ⟨BQ rfl rfl rfl, ⟨_, rfl, AI rfl (AM rfl (A5 AQ AK rfl (AT 0 rfl (AJ _))))⟩, trivial⟩ rfl (A7 rfl (AX 110 [.slice none 0 0] (U64 0) (AZ _ Tryd.call110 rfl) (fun w1 hw1 => GD w1))) ?_
  rintro v1 L1 ⟨rfl, rfl⟩
  refine ⟨[(3, U64 0)], ?_⟩
  show DP _ _ _ _ _ _ _ _ [_, _]
  refine B6 ⟨[1], [0, 2, 3], [0], [2, 3], [4]⟩ 4 rfl rfl (by decide +kernel) rfl ⟨⟨_, rfl, AI rfl (AM rfl (A5 AQ AK rfl (AT 0 rfl (AJ _))))⟩, ⟨_, rfl, AI rfl (AH rfl)⟩, trivial⟩ rfl (A7 rfl (AU 1 nb2 2 ([.slice none 0 0, I64 0]) 107 ([.slice ao n c, I64 2]) rfl rfl rfl AK rfl (by simp [Value.oneCell']) (Nat.le_of_ble_eq_true rfl) (A0 (by simp [])))) ?_
  show DP _ _ _ _ _ _ _ _ [_, ⟨nb2, [.slice ao n c, I64 2], 107, (0, 0)⟩]
  refine C2 ⟨[1, 4], [0, 2, 3], [0, 2, 3], [], []⟩ rfl rfl (by decide +kernel) rfl trivial ?_
  refine CB (F' := [(4, U64 0), (5, Ptr nb2 0)]) (by kernel_rfl) ?_
  refine AC (BH (BI (.tuple #[U64 0, .agg #[.slice ao n c, I64 2]]) (res2 DW (BU rfl) (CQ rfl (A5 AQ AK rfl (AT 1 rfl (AJ _))))) fun w1 hw1 => ?_))
  exact ⟨_, [], rfl, ⟨rfl, rfl⟩, hw1.sub (by simp) (by simp)⟩
theorem readS_c (ao : Option Addr) (n c e : Nat) (s : Int) (w : World) (he : e = 0) (hs : Szd s) (hl : (n:Int) < s) : Calls Tryd.prog 118 #[.agg #[.slice ao n c, I64 e], I64 (s)] w (Post w [] (fun v L => v = .tuple #[U64 0, .agg #[.slice ao n c, I64 (2)]] ∧ L = [])) := by
 refine enter (P := Tryd.prog) (f := 118) (fn := Tryd.f118) w [] 36 [] [.agg #[.slice ao n c, I64 e], I64 (s)] Tryd.func118 rfl rfl (by simp) (BY (by simp) (by simp) (by simp)) ?_
 show JC _ _ _ [(0, .agg #[.slice ao n c, I64 e]), (1, I64 (s))] _
 refine AG (AB (A2 (DN (.agg #[.slice ao n c, I64 e]) ([.slice ao n c, I64 e]) rfl (by first | rfl | simp)) rfl ?_))
 rintro v1 L1 ⟨nb1, hnb1, rfl, rfl⟩
 show JL _ _ _ _ ((2, Ptr nb1 0) :: _) [⟨nb1, [.slice ao n c, I64 e], 107, (0, 0)⟩]
 refine AA _ (AH rfl) rfl ?_
 refine A2 (BN _ ([.slice none 0 0, I64 0]) C7 (by kernel_rfl)) rfl ?_
 rintro v1 L1 ⟨nb2, hnb2, rfl, rfl⟩
 show JL _ _ _ _ ((5, Ptr nb2 0) :: _) [_, ⟨nb2, [.slice none 0 0, I64 0], 107, (0, 0)⟩]
 refine AL (AC (AG (AG (AB (AA (Ptr nb1 1) (AD 1 3 1 BG rfl BA rfl rfl) rfl ?_)))))
 refine AA (I64 e) (AM rfl (A6 BS (AT 0 rfl (AO (Seg.head))))) rfl ?_
 refine AA (.bool (decide (((e:Int)) ≠ (0:Int)))) (AP rfl rfl fun _ => CE _ _) rfl ?_
 refine AL (AC (BZ _ rfl (decide_eq_false (by omega)) ?_))
 refine BL (AC (AG (AG (AB (AA _ (AE rfl) rfl ?_)))))
 refine AA (.bool (decide ((s) ≠ (1:Int)))) (AP rfl rfl fun _ => CE _ _) rfl ?_
 refine AA _ (AE rfl) rfl ?_
 rcases Bool.eq_false_or_eq_true (decide ((s) ≠ (1:Int))) with hb1 | hb1
 ·
  have hp1 : (s) ≠ (1:Int) := of_decide_eq_true hb1
  refine AS 2 13 true _ _ rfl rfl hb1 (AE rfl) rfl ?_
  refine AS 2 13 true _ (.bool (decide ((s) ≠ (2:Int)))) rfl rfl hb1 (AP rfl rfl fun _ => CE _ _) rfl ?_
  refine AA _ (BO _ rfl hb1 rfl) rfl ?_
  refine AA _ (AE rfl) rfl ?_
  rcases Bool.eq_false_or_eq_true (decide ((s) ≠ (2:Int))) with hb2 | hb2
  ·
   have hp2 : (s) ≠ (2:Int) := of_decide_eq_true hb2
   refine AS 6 17 true _ _ rfl rfl hb2 (AE rfl) rfl ?_
   refine AS 6 17 true _ (.bool (decide ((s) ≠ (4:Int)))) rfl rfl hb2 (AP rfl rfl fun _ => CE _ _) rfl ?_
   refine AA _ (BO _ rfl hb2 rfl) rfl ?_
   refine AA _ (AE rfl) rfl ?_
   rcases Bool.eq_false_or_eq_true (decide ((s) ≠ (4:Int))) with hb3 | hb3
   ·
    have hp3 : (s) ≠ (4:Int) := of_decide_eq_true hb3
    refine AS 10 21 true _ _ rfl rfl hb3 (AE rfl) rfl ?_
    refine AS 10 21 true _ (.bool (decide ((s) ≠ (8:Int)))) rfl rfl hb3 (AP rfl rfl fun _ => CE _ _) rfl ?_
    refine AA _ (BO _ rfl hb3 rfl) rfl ?_
    refine AL (AC (CL (decide ((s) ≠ (8:Int))) rfl (fun hb4 => ?_) (fun hb4 => ?_)))
    ·
     have hp4 : (s) ≠ (8:Int) := of_decide_eq_true hb4
     refine AG (AB (AA (Ptr nb1 1) (AD 1 3 1 BG rfl BA rfl rfl) rfl ?_))
     refine AY (C0 0 nb1 1 1 ([.slice ao n c, I64 e]) 107 (I64 2) ([I64 2]) ([.slice ao n c, I64 2]) rfl rfl rfl rfl BA rfl (by simp [Value.oneCell']) (Nat.le_of_ble_eq_true rfl) (rfl)) rfl ?_
     show JL _ _ _ _ _ [⟨nb1, [.slice ao n c, I64 2], 107, (0, 0)⟩, _]
     refine AL (AC (AG (CH 36 2 [(0, .agg #[.slice ao n c, I64 2]), (1, U64 0)] BP rfl (by decide +kernel) ?_)))
     refine B6 ⟨[], [0, 1], [], [0, 1], [2]⟩ 2 rfl rfl (by decide +kernel) rfl ⟨⟨_, rfl, AI rfl (AM rfl (A5 AQ AK rfl (AT 0 rfl (AJ _))))⟩, ⟨_, rfl, AI rfl (AH rfl)⟩, trivial⟩ rfl (A7 rfl (AU 1 nb2 2 ([.slice none 0 0, I64 0]) 107 ([.slice ao n c, I64 2]) rfl rfl rfl AK rfl (by simp [Value.oneCell']) (Nat.le_of_ble_eq_true rfl) (A0 (by simp [])))) ?_
     show DP _ _ _ _ _ _ _ _ [_, ⟨nb2, [.slice ao n c, I64 2], 107, (0, 0)⟩]
     refine C2 ⟨[2], [0, 1], [0, 1], [], []⟩ rfl rfl (by decide +kernel) rfl trivial ?_
     refine CB (F' := [(4, U64 0), (1, I64 (s)), (2, Ptr nb1 0), (5, Ptr nb2 0)]) (by kernel_rfl) ?_
     refine AC (BH (A4 (BI (.tuple #[U64 0, .agg #[.slice ao n c, I64 2]]) (res2 DW (BU rfl) (CQ rfl (A5 AQ AK rfl (AT 1 rfl (AJ _))))) fun w1 hw1 => ?_)))
     exact ⟨_, [], rfl, ⟨rfl, rfl⟩, hw1.sub (by simp) (by simp)⟩
    ·
     have hp4 : ¬ ((s) ≠ (8:Int)) := of_decide_eq_false hb4
     refine BL (AC (AG (AB (AA (.agg #[.slice ao n c, I64 e]) (AM rfl (A5 AQ AK rfl (AT 0 rfl (AJ _)))) rfl ?_))))
     refine AA _ (AE rfl) rfl ?_
     refine AY (AX 126 [.agg #[.slice ao n c, I64 e], I64 (s)] (.tuple #[.slice none 0 0, .agg #[.slice ao n c, I64 2]]) (AZ _ D2 rfl) (fun w1 hw1 => takeB_c ao n c e (s) w1 he (.inr hl))) rfl ?_
     show JL _ _ _ _ ((30, .tuple #[.slice none 0 0, .agg #[.slice ao n c, I64 2]]) :: _) [_, _]
     refine AA _ (AE rfl) rfl ?_
     refine AA _ (BB rfl rfl) rfl ?_
     refine AA _ (BB rfl rfl) rfl ?_
     refine AA _ (AH rfl) rfl ?_
     refine AY (AU 0 nb1 2 ([.slice ao n c, I64 e]) 107 ([.slice ao n c, I64 2]) rfl rfl rfl AK rfl (by simp [Value.oneCell']) (Nat.le_of_ble_eq_true rfl) (A0 (by simp []))) rfl ?_
     show JL _ _ _ _ _ [⟨nb1, [.slice ao n c, I64 2], 107, (0, 0)⟩, _]
     refine AL (AC (AG (CH 36 3 [(0, .slice none 0 0), (2, .agg #[.slice ao n c, I64 2])] BP rfl (by decide +kernel) ?_)))
     refine C5 ⟨[], [0, 2], [], [0, 2], [1]⟩ 1 _ rfl rfl (by decide +kernel) rfl ⟨BQ rfl rfl rfl, ⟨_, rfl, AI rfl (AM rfl (A5 AQ AK rfl (AT 0 rfl (AJ _))))⟩, trivial⟩ rfl (A7 rfl (AX 110 [.slice none 0 0] (U64 0) (AZ _ Tryd.call110 rfl) (fun w1 hw1 => GD w1))) ?_
     rintro v1 L1 ⟨rfl, rfl⟩
     refine ⟨[(3, U64 0)], ?_⟩
     show DP _ _ _ _ _ _ _ _ [_, _]
     refine B6 ⟨[1], [0, 2, 3], [0], [2, 3], [4]⟩ 4 rfl rfl (by decide +kernel) rfl ⟨⟨_, rfl, AI rfl (AM rfl (A5 AQ AK rfl (AT 0 rfl (AJ _))))⟩, ⟨_, rfl, AI rfl (AH rfl)⟩, trivial⟩ rfl (A7 rfl (AU 1 nb2 2 ([.slice none 0 0, I64 0]) 107 ([.slice ao n c, I64 2]) rfl rfl rfl AK rfl (by simp [Value.oneCell']) (Nat.le_of_ble_eq_true rfl) (A0 (by simp [])))) ?_
     show DP _ _ _ _ _ _ _ _ [_, ⟨nb2, [.slice ao n c, I64 2], 107, (0, 0)⟩]
     refine C2 ⟨[1, 4], [0, 2, 3], [0, 2, 3], [], []⟩ rfl rfl (by decide +kernel) rfl trivial ?_
     refine CB (F' := [(4, U64 0), (5, Ptr nb2 0)]) (by kernel_rfl) ?_
     refine AC (BH (BI (.tuple #[U64 0, .agg #[.slice ao n c, I64 2]]) (res2 DW (BU rfl) (CQ rfl (A5 AQ AK rfl (AT 1 rfl (AJ _))))) fun w1 hw1 => ?_))
     exact ⟨_, [], rfl, ⟨rfl, rfl⟩, hw1.sub (by simp) (by simp)⟩
   ·
    have hp3 : ¬ ((s) ≠ (4:Int)) := of_decide_eq_false hb3
    refine AF 10 21 true _ rfl rfl hb3 rfl ?_
    refine AF 10 21 true _ rfl rfl hb3 rfl ?_
    refine AA _ (BF _ rfl hb3 rfl) rfl ?_
    refine AL (AC (BZ _ rfl rfl ?_))
    refine BL (AC (AG (AB (AA (.agg #[.slice ao n c, I64 e]) (AM rfl (A5 AQ AK rfl (AT 0 rfl (AJ _)))) rfl ?_))))
    refine AA _ (AE rfl) rfl ?_
    refine AY (AX 126 [.agg #[.slice ao n c, I64 e], I64 (s)] (.tuple #[.slice none 0 0, .agg #[.slice ao n c, I64 2]]) (AZ _ D2 rfl) (fun w1 hw1 => takeB_c ao n c e (s) w1 he (.inr hl))) rfl ?_
    show JL _ _ _ _ ((30, .tuple #[.slice none 0 0, .agg #[.slice ao n c, I64 2]]) :: _) [_, _]
    refine AA _ (AE rfl) rfl ?_
    refine AA _ (BB rfl rfl) rfl ?_
    refine AA _ (BB rfl rfl) rfl ?_
    refine AA _ (AH rfl) rfl ?_
    refine AY (AU 0 nb1 2 ([.slice ao n c, I64 e]) 107 ([.slice ao n c, I64 2]) rfl rfl rfl AK rfl (by simp [Value.oneCell']) (Nat.le_of_ble_eq_true rfl) (A0 (by simp []))) rfl ?_
    show JL _ _ _ _ _ [⟨nb1, [.slice ao n c, I64 2], 107, (0, 0)⟩, _]
    refine AL (AC (AG (CH 36 3 [(0, .slice none 0 0), (2, .agg #[.slice ao n c, I64 2])] BP rfl (by decide +kernel) ?_)))
    refine C5 ⟨[], [0, 2], [], [0, 2], [1]⟩ 1 _ rfl rfl (by decide +kernel) rfl ⟨BQ rfl rfl rfl, ⟨_, rfl, AI rfl (AM rfl (A5 AQ AK rfl (AT 0 rfl (AJ _))))⟩, trivial⟩ rfl (A7 rfl (AX 110 [.slice none 0 0] (U64 0) (AZ _ Tryd.call110 rfl) (fun w1 hw1 => GD w1))) ?_
    rintro v1 L1 ⟨rfl, rfl⟩
    refine ⟨[(3, U64 0)], ?_⟩
    show DP _ _ _ _ _ _ _ _ [_, _]
    refine B6 ⟨[1], [0, 2, 3], [0], [2, 3], [4]⟩ 4 rfl rfl (by decide +kernel) rfl ⟨⟨_, rfl, AI rfl (AM rfl (A5 AQ AK rfl (AT 0 rfl (AJ _))))⟩, ⟨_, rfl, AI rfl (AH rfl)⟩, trivial⟩ rfl (A7 rfl (AU 1 nb2 2 ([.slice none 0 0, I64 0]) 107 ([.slice ao n c, I64 2]) rfl rfl rfl AK rfl (by simp [Value.oneCell']) (Nat.le_of_ble_eq_true rfl) (A0 (by simp [])))) ?_
    show DP _ _ _ _ _ _ _ _ [_, ⟨nb2, [.slice ao n c, I64 2], 107, (0, 0)⟩]
    refine C2 ⟨[1, 4], [0, 2, 3], [0, 2, 3], [], []⟩ rfl rfl (by decide +kernel) rfl trivial ?_
    refine CB (F' := [(4, U64 0), (5, Ptr nb2 0)]) (by kernel_rfl) ?_
    refine AC (BH (BI (.tuple #[U64 0, .agg #[.slice ao n c, I64 2]]) (res2 DW (BU rfl) (CQ rfl (A5 AQ AK rfl (AT 1 rfl (AJ _))))) fun w1 hw1 => ?_))
    exact ⟨_, [], rfl, ⟨rfl, rfl⟩, hw1.sub (by simp) (by simp)⟩
  ·
   have hp2 : ¬ ((s) ≠ (2:Int)) := of_decide_eq_false hb2
   refine AF 6 17 true _ rfl rfl hb2 rfl ?_
   refine AF 6 17 true _ rfl rfl hb2 rfl ?_
   refine AA _ (BF _ rfl hb2 rfl) rfl ?_
   refine AA _ (AE rfl) rfl ?_
   refine AF 10 21 true _ rfl rfl rfl rfl ?_
   refine AF 10 21 true _ rfl rfl rfl rfl ?_
   refine AA _ (BF _ rfl rfl rfl) rfl ?_
   refine AL (AC (BZ _ rfl rfl ?_))
   refine BL (AC (AG (AB (AA (.agg #[.slice ao n c, I64 e]) (AM rfl (A5 AQ AK rfl (AT 0 rfl (AJ _)))) rfl ?_))))
   refine AA _ (AE rfl) rfl ?_
   refine AY (AX 126 [.agg #[.slice ao n c, I64 e], I64 (s)] (.tuple #[.slice none 0 0, .agg #[.slice ao n c, I64 2]]) (AZ _ D2 rfl) (fun w1 hw1 => takeB_c ao n c e (s) w1 he (.inr hl))) rfl ?_
   show JL _ _ _ _ ((30, .tuple #[.slice none 0 0, .agg #[.slice ao n c, I64 2]]) :: _) [_, _]
   refine AA _ (AE rfl) rfl ?_
   refine AA _ (BB rfl rfl) rfl ?_
   refine AA _ (BB rfl rfl) rfl ?_
   refine AA _ (AH rfl) rfl ?_
   refine AY (AU 0 nb1 2 ([.slice ao n c, I64 e]) 107 ([.slice ao n c, I64 2]) rfl rfl rfl AK rfl (by simp [Value.oneCell']) (Nat.le_of_ble_eq_true rfl) (A0 (by simp []))) rfl ?_
   show JL _ _ _ _ _ [⟨nb1, [.slice ao n c, I64 2], 107, (0, 0)⟩, _]
   refine AL (AC (AG (CH 36 3 [(0, .slice none 0 0), (2, .agg #[.slice ao n c, I64 2])] BP rfl (by decide +kernel) ?_)))
   refine C5 ⟨[], [0, 2], [], [0, 2], [1]⟩ 1 _ rfl rfl (by decide +kernel) rfl ⟨BQ rfl rfl rfl, ⟨_, rfl, AI rfl (AM rfl (A5 AQ AK rfl (AT 0 rfl (AJ _))))⟩, trivial⟩ rfl (A7 rfl (AX 110 [.slice none 0 0] (U64 0) (AZ _ Tryd.call110 rfl) (fun w1 hw1 => GD w1))) ?_
   rintro v1 L1 ⟨rfl, rfl⟩
   refine ⟨[(3, U64 0)], ?_⟩
   show DP _ _ _ _ _ _ _ _ [_, _]
   refine B6 ⟨[1], [0, 2, 3], [0], [2, 3], [4]⟩ 4 rfl rfl (by decide +kernel) rfl ⟨⟨_, rfl, AI rfl (AM rfl (A5 AQ AK rfl (AT 0 rfl (AJ _))))⟩, ⟨_, rfl, AI rfl (AH rfl)⟩, trivial⟩ rfl (A7 rfl (AU 1 nb2 2 ([.slice none 0 0, I64 0]) 107 ([.slice ao n c, I64 2]) rfl rfl rfl AK rfl (by simp [Value.oneCell']) (Nat.le_of_ble_eq_true rfl) (A0 (by simp [])))) ?_
   show DP _ _ _ _ _ _ _ _ [_, ⟨nb2, [.slice ao n c, I64 2], 107, (0, 0)⟩]
   refine C2 ⟨[1, 4], [0, 2, 3], [0, 2, 3], [], []⟩ rfl rfl (by decide +kernel) rfl trivial ?_
   refine CB (F' := [(4, U64 0), (5, Ptr nb2 0)]) (by kernel_rfl) ?_
   refine AC (BH (BI (.tuple #[U64 0, .agg #[.slice ao n c, I64 2]]) (res2 DW (BU rfl) (CQ rfl (A5 AQ AK rfl (AT 1 rfl (AJ _))))) fun w1 hw1 => ?_))
   exact ⟨_, [], rfl, ⟨rfl, rfl⟩, hw1.sub (by simp) (by simp)⟩
 ·
  have hp1 : ¬ ((s) ≠ (1:Int)) := of_decide_eq_false hb1
  refine AF 2 13 true _ rfl rfl hb1 rfl ?_
  refine AF 2 13 true _ rfl rfl hb1 rfl ?_
  refine AA _ (BF _ rfl hb1 rfl) rfl ?_
  refine AA _ (AE rfl) rfl ?_
  refine AF 6 17 true _ rfl rfl rfl rfl ?_
  refine AF 6 17 true _ rfl rfl rfl rfl ?_
  refine AA _ (BF _ rfl rfl rfl) rfl ?_
  refine AA _ (AE rfl) rfl ?_
  refine AF 10 21 true _ rfl rfl rfl rfl ?_
  refine AF 10 21 true _ rfl rfl rfl rfl ?_
  refine AA _ (BF _ rfl rfl rfl) rfl ?_
  refine AL (AC (BZ _ rfl rfl ?_))
  refine BL (AC (AG (AB (AA (.agg #[.slice ao n c, I64 e]) (AM rfl (A5 AQ AK rfl (AT 0 rfl (AJ _)))) rfl ?_))))
  refine AA _ (AE rfl) rfl ?_
  refine AY (AX 126 [.agg #[.slice ao n c, I64 e], I64 (s)] (.tuple #[.slice none 0 0, .agg #[.slice ao n c, I64 2]]) (AZ _ D2 rfl) (fun w1 hw1 => takeB_c ao n c e (s) w1 he (.inr hl))) rfl ?_
  show JL _ _ _ _ ((30, .tuple #[.slice none 0 0, .agg #[.slice ao n c, I64 2]]) :: _) [_, _]
  refine AA _ (AE rfl) rfl ?_
  refine AA _ (BB rfl rfl) rfl ?_
  refine AA _ (BB rfl rfl) rfl ?_
  refine AA _ (AH rfl) rfl ?_
  refine AY (AU 0 nb1 2 ([.slice ao n c, I64 e]) 107 ([.slice ao n c, I64 2]) rfl rfl rfl AK rfl (by simp [Value.oneCell']) (Nat.le_of_ble_eq_true rfl) (A0 (by simp []))) rfl ?_
  show JL _ _ _ _ _ [⟨nb1, [.slice ao n c, I64 2], 107, (0, 0)⟩, _]
  refine AL (AC (AG (CH 36 3 [(0, .slice none 0 0), (2, .agg #[.slice ao n c, I64 2])] BP rfl (by decide +kernel) ?_)))
  refine C5 ⟨[], [0, 2], [], [0, 2], [1]⟩ 1 _ rfl rfl (by decide +kernel) rfl ⟨BQ rfl rfl rfl, ⟨_, rfl, AI rfl (AM rfl (A5 AQ AK rfl (AT 0 rfl (AJ _))))⟩, trivial⟩ rfl (A7 rfl (AX 110 [.slice none 0 0] (U64 0) (AZ _ Tryd.call110 rfl) (fun w1 hw1 => GD w1))) ?_
  rintro v1 L1 ⟨rfl, rfl⟩
  refine ⟨[(3, U64 0)], ?_⟩
  show DP _ _ _ _ _ _ _ _ [_, _]
  refine B6 ⟨[1], [0, 2, 3], [0], [2, 3], [4]⟩ 4 rfl rfl (by decide +kernel) rfl ⟨⟨_, rfl, AI rfl (AM rfl (A5 AQ AK rfl (AT 0 rfl (AJ _))))⟩, ⟨_, rfl, AI rfl (AH rfl)⟩, trivial⟩ rfl (A7 rfl (AU 1 nb2 2 ([.slice none 0 0, I64 0]) 107 ([.slice ao n c, I64 2]) rfl rfl rfl AK rfl (by simp [Value.oneCell']) (Nat.le_of_ble_eq_true rfl) (A0 (by simp [])))) ?_
  show DP _ _ _ _ _ _ _ _ [_, ⟨nb2, [.slice ao n c, I64 2], 107, (0, 0)⟩]
  refine C2 ⟨[1, 4], [0, 2, 3], [0, 2, 3], [], []⟩ rfl rfl (by decide +kernel) rfl trivial ?_
  refine CB (F' := [(4, U64 0), (5, Ptr nb2 0)]) (by kernel_rfl) ?_
  refine AC (BH (BI (.tuple #[U64 0, .agg #[.slice ao n c, I64 2]]) (res2 DW (BU rfl) (CQ rfl (A5 AQ AK rfl (AT 1 rfl (AJ _))))) fun w1 hw1 => ?_))
  exact ⟨_, [], rfl, ⟨rfl, rfl⟩, hw1.sub (by simp) (by simp)⟩
theorem readOk_c (ao : Option Addr) (n c e : Nat) (z : List UInt8) (k : Nat) (n2 c2 : Nat) (w : World) (hz : z.length = n) (hn : n ≤ 2000000000) (hc : n ≤ c) (hcm : c ≤ maxLen) (hr : RdB w [] ao z) (he : e = 0) (hs : Szd (k:Int)) (h2 : k ≤ n) (ht1 : k + n2 = n) (ht2 : k + c2 = c) : Calls Tryd.prog 118 #[.agg #[.slice ao n c, I64 e], I64 k] w (Post w [] (fun v L => v = .tuple #[U64 (valK z k), .agg #[.slice (advA ao c k) n2 c2, I64 (e)]] ∧ L = [])) := by
 refine enter (P := Tryd.prog) (f := 118) (fn := Tryd.f118) w [] 36 [] [.agg #[.slice ao n c, I64 e], I64 k] Tryd.func118 rfl rfl (by simp) (BY (by simp) (by simp) (by simp)) ?_
 show JC _ _ _ [(0, .agg #[.slice ao n c, I64 e]), (1, I64 k)] _
 refine AG (AB (A2 (DN (.agg #[.slice ao n c, I64 e]) ([.slice ao n c, I64 e]) rfl (by first | rfl | simp)) rfl ?_))
 rintro v1 L1 ⟨nb1, hnb1, rfl, rfl⟩
 show JL _ _ _ _ ((2, Ptr nb1 0) :: _) [⟨nb1, [.slice ao n c, I64 e], 107, (0, 0)⟩]
 refine AA _ (AH rfl) rfl ?_
 refine A2 (BN _ ([.slice none 0 0, I64 0]) C7 (by kernel_rfl)) rfl ?_
 rintro v1 L1 ⟨nb2, hnb2, rfl, rfl⟩
 show JL _ _ _ _ ((5, Ptr nb2 0) :: _) [_, ⟨nb2, [.slice none 0 0, I64 0], 107, (0, 0)⟩]
 refine AL (AC (AG (AG (AB (AA (Ptr nb1 1) (AD 1 3 1 BG rfl BA rfl rfl) rfl ?_)))))
 refine AA (I64 e) (AM rfl (A6 BS (AT 0 rfl (AO (Seg.head))))) rfl ?_
 refine AA (.bool (decide (((e:Int)) ≠ (0:Int)))) (AP rfl rfl fun _ => CE _ _) rfl ?_
 refine AL (AC (BZ _ rfl (decide_eq_false (by omega)) ?_))
 refine BL (AC (AG (AG (AB (AA _ (AE rfl) rfl ?_)))))
 refine AA (.bool (decide (((k:Int)) ≠ (1:Int)))) (AP rfl rfl fun _ => CE _ _) rfl ?_
 refine AA _ (AE rfl) rfl ?_
 rcases Bool.eq_false_or_eq_true (decide (((k:Int)) ≠ (1:Int))) with hb1 | hb1
 ·
  have hp1 : ((k:Int)) ≠ (1:Int) := of_decide_eq_true hb1
  refine AS 2 13 true _ _ rfl rfl hb1 (AE rfl) rfl ?_
  refine AS 2 13 true _ (.bool (decide (((k:Int)) ≠ (2:Int)))) rfl rfl hb1 (AP rfl rfl fun _ => CE _ _) rfl ?_
  refine AA _ (BO _ rfl hb1 rfl) rfl ?_
  refine AA _ (AE rfl) rfl ?_
  rcases Bool.eq_false_or_eq_true (decide (((k:Int)) ≠ (2:Int))) with hb2 | hb2
  ·
   have hp2 : ((k:Int)) ≠ (2:Int) := of_decide_eq_true hb2
   refine AS 6 17 true _ _ rfl rfl hb2 (AE rfl) rfl ?_
   refine AS 6 17 true _ (.bool (decide (((k:Int)) ≠ (4:Int)))) rfl rfl hb2 (AP rfl rfl fun _ => CE _ _) rfl ?_
   refine AA _ (BO _ rfl hb2 rfl) rfl ?_
   refine AA _ (AE rfl) rfl ?_
   rcases Bool.eq_false_or_eq_true (decide (((k:Int)) ≠ (4:Int))) with hb3 | hb3
   ·
    have hp3 : ((k:Int)) ≠ (4:Int) := of_decide_eq_true hb3
    refine AS 10 21 true _ _ rfl rfl hb3 (AE rfl) rfl ?_
    refine AS 10 21 true _ (.bool (decide (((k:Int)) ≠ (8:Int)))) rfl rfl hb3 (AP rfl rfl fun _ => CE _ _) rfl ?_
    refine AA _ (BO _ rfl hb3 rfl) rfl ?_
    refine AL (AC (CL (decide (((k:Int)) ≠ (8:Int))) rfl (fun hb4 => ?_) (fun hb4 => ?_)))
    ·
     have hp4 : ((k:Int)) ≠ (8:Int) := of_decide_eq_true hb4
     refine AG (AB (AA (Ptr nb1 1) (AD 1 3 1 BG rfl BA rfl rfl) rfl ?_))
     refine AY (C0 0 nb1 1 1 ([.slice ao n c, I64 e]) 107 (I64 2) ([I64 2]) ([.slice ao n c, I64 2]) rfl rfl rfl rfl BA rfl (by simp [Value.oneCell']) (Nat.le_of_ble_eq_true rfl) (rfl)) rfl ?_
     show JL _ _ _ _ _ [⟨nb1, [.slice ao n c, I64 2], 107, (0, 0)⟩, _]
     refine AL (AC (AG (CH 36 2 [(0, .agg #[.slice ao n c, I64 2]), (1, U64 0)] BP rfl (by decide +kernel) ?_)))
     refine B6 ⟨[], [0, 1], [], [0, 1], [2]⟩ 2 rfl rfl (by decide +kernel) rfl ⟨⟨_, rfl, AI rfl (AM rfl (A5 AQ AK rfl (AT 0 rfl (AJ _))))⟩, ⟨_, rfl, AI rfl (AH rfl)⟩, trivial⟩ rfl (A7 rfl (AU 1 nb2 2 ([.slice none 0 0, I64 0]) 107 ([.slice ao n c, I64 2]) rfl rfl rfl AK rfl (by simp [Value.oneCell']) (Nat.le_of_ble_eq_true rfl) (A0 (by simp [])))) ?_
     show DP _ _ _ _ _ _ _ _ [_, ⟨nb2, [.slice ao n c, I64 2], 107, (0, 0)⟩]
     refine C2 ⟨[2], [0, 1], [0, 1], [], []⟩ rfl rfl (by decide +kernel) rfl trivial ?_
     refine CB (F' := [(4, U64 0), (1, I64 k), (2, Ptr nb1 0), (5, Ptr nb2 0)]) (by kernel_rfl) ?_
     refine AC (BH (A4 (BI (.tuple #[U64 0, .agg #[.slice ao n c, I64 2]]) (res2 DW (BU rfl) (CQ rfl (A5 AQ AK rfl (AT 1 rfl (AJ _))))) fun w1 hw1 => ?_)))
     exfalso; unfold Szd at hs; omega
    ·
     have hp4 : ¬ (((k:Int)) ≠ (8:Int)) := of_decide_eq_false hb4
     refine BL (AC (AG (AB (AA (.agg #[.slice ao n c, I64 e]) (AM rfl (A5 AQ AK rfl (AT 0 rfl (AJ _)))) rfl ?_))))
     refine AA _ (AE rfl) rfl ?_
     have hl1 : (z.drop k).length = (n - k) := by rw [List.length_drop, hz] <;> omega
     have hr1 := RdB.adv (c := c) hr k (by rw [hz]; omega) (by rw [hz]; omega)
     have hl2 : (mid z 0 k).length = k := FE (by rw [hz]; omega)
     have hr2 := RdB.pre hr k
     refine AY (AX 126 [.agg #[.slice ao n c, I64 e], I64 k] (.tuple #[.slice ao k c, .agg #[.slice (advA ao c k) (n - k) (c - k), I64 e]]) (AZ _ D2 rfl) (fun w1 hw1 => takeOk_c ao n c e z k (n - k) (c - k) w1 hz (by omega) (by omega) (by omega) (hr.at (M' := []) hw1 (by simp)) he h2 (by omega) (by omega))) rfl ?_
     show JL _ _ _ _ ((30, .tuple #[.slice ao k c, .agg #[.slice (advA ao c k) (n - k) (c - k), I64 e]]) :: _) [_, _]
     refine AA _ (AE rfl) rfl ?_
     refine AA _ (BB rfl rfl) rfl ?_
     refine AA _ (BB rfl rfl) rfl ?_
     refine AA _ (AH rfl) rfl ?_
     refine AY (AU 0 nb1 2 ([.slice ao n c, I64 e]) 107 ([.slice (advA ao c k) (n - k) (c - k), I64 e]) rfl rfl rfl AK rfl (by simp [Value.oneCell']) (Nat.le_of_ble_eq_true rfl) (A0 (by simp []))) rfl ?_
     show JL _ _ _ _ _ [⟨nb1, [.slice (advA ao c k) (n - k) (c - k), I64 e], 107, (0, 0)⟩, _]
     refine AL (AC (AG (CH 36 3 [(0, .slice ao k c), (2, .agg #[.slice (advA ao c k) (n - k) (c - k), I64 e])] BP rfl (by decide +kernel) ?_)))
     refine C5 ⟨[], [0, 2], [], [0, 2], [1]⟩ 1 _ rfl rfl (by decide +kernel) rfl ⟨BQ rfl rfl rfl, ⟨_, rfl, AI rfl (AM rfl (A5 AQ AK rfl (AT 0 rfl (AJ _))))⟩, trivial⟩ rfl (A7 rfl (AX 110 [.slice ao k c] (U64 (rvalK (mid z 0 k) k)) (AZ _ Tryd.call110 rfl) (fun w1 hw1 => value_c ao k c (mid z 0 k) w1 hl2 (by omega) (hr2.at (M' := []) hw1 (by simp))))) ?_
     rintro v1 L1 ⟨rfl, rfl⟩
     refine ⟨[(3, U64 (rvalK (mid z 0 k) k))], ?_⟩
     show DP _ _ _ _ _ _ _ _ [_, _]
     refine B6 ⟨[1], [0, 2, 3], [0], [2, 3], [4]⟩ 4 rfl rfl (by decide +kernel) rfl ⟨⟨_, rfl, AI rfl (AM rfl (A5 AQ AK rfl (AT 0 rfl (AJ _))))⟩, ⟨_, rfl, AI rfl (AH rfl)⟩, trivial⟩ rfl (A7 rfl (AU 1 nb2 2 ([.slice none 0 0, I64 0]) 107 ([.slice (advA ao c k) (n - k) (c - k), I64 e]) rfl rfl rfl AK rfl (by simp [Value.oneCell']) (Nat.le_of_ble_eq_true rfl) (A0 (by simp [])))) ?_
     show DP _ _ _ _ _ _ _ _ [_, ⟨nb2, [.slice (advA ao c k) (n - k) (c - k), I64 e], 107, (0, 0)⟩]
     refine C2 ⟨[1, 4], [0, 2, 3], [0, 2, 3], [], []⟩ rfl rfl (by decide +kernel) rfl trivial ?_
     refine CB (F' := [(4, U64 (rvalK (mid z 0 k) k)), (5, Ptr nb2 0)]) (by kernel_rfl) ?_
     refine AC (BH (BI (.tuple #[U64 (rvalK (mid z 0 k) k), .agg #[.slice (advA ao c k) (n - k) (c - k), I64 e]]) (res2 DW (BU rfl) (CQ rfl (A5 AQ AK rfl (AT 1 rfl (AJ _))))) fun w1 hw1 => ?_))
     have e2 : rvalK (mid z 0 k) k = valK z k := (rvalK_eq _ _).trans (valK_congr k fun i hi => by rw [g8_mid hi, Nat.zero_add])
     rw [e2]
     obtain rfl : n2 = (n - k) := by omega
     obtain rfl : c2 = (c - k) := by omega
     exact ⟨_, [], rfl, ⟨rfl, rfl⟩, hw1.sub (by simp) (by simp)⟩
   ·
    have hp3 : ¬ (((k:Int)) ≠ (4:Int)) := of_decide_eq_false hb3
    refine AF 10 21 true _ rfl rfl hb3 rfl ?_
    refine AF 10 21 true _ rfl rfl hb3 rfl ?_
    refine AA _ (BF _ rfl hb3 rfl) rfl ?_
    refine AL (AC (BZ _ rfl rfl ?_))
    refine BL (AC (AG (AB (AA (.agg #[.slice ao n c, I64 e]) (AM rfl (A5 AQ AK rfl (AT 0 rfl (AJ _)))) rfl ?_))))
    refine AA _ (AE rfl) rfl ?_
    have hl3 : (z.drop k).length = (n - k) := by rw [List.length_drop, hz] <;> omega
    have hr3 := RdB.adv (c := c) hr k (by rw [hz]; omega) (by rw [hz]; omega)
    have hl4 : (mid z 0 k).length = k := FE (by rw [hz]; omega)
    have hr4 := RdB.pre hr k
    refine AY (AX 126 [.agg #[.slice ao n c, I64 e], I64 k] (.tuple #[.slice ao k c, .agg #[.slice (advA ao c k) (n - k) (c - k), I64 e]]) (AZ _ D2 rfl) (fun w1 hw1 => takeOk_c ao n c e z k (n - k) (c - k) w1 hz (by omega) (by omega) (by omega) (hr.at (M' := []) hw1 (by simp)) he h2 (by omega) (by omega))) rfl ?_
    show JL _ _ _ _ ((30, .tuple #[.slice ao k c, .agg #[.slice (advA ao c k) (n - k) (c - k), I64 e]]) :: _) [_, _]
    refine AA _ (AE rfl) rfl ?_
    refine AA _ (BB rfl rfl) rfl ?_
    refine AA _ (BB rfl rfl) rfl ?_
    refine AA _ (AH rfl) rfl ?_
    refine AY (AU 0 nb1 2 ([.slice ao n c, I64 e]) 107 ([.slice (advA ao c k) (n - k) (c - k), I64 e]) rfl rfl rfl AK rfl (by simp [Value.oneCell']) (Nat.le_of_ble_eq_true rfl) (A0 (by simp []))) rfl ?_
    show JL _ _ _ _ _ [⟨nb1, [.slice (advA ao c k) (n - k) (c - k), I64 e], 107, (0, 0)⟩, _]
    refine AL (AC (AG (CH 36 3 [(0, .slice ao k c), (2, .agg #[.slice (advA ao c k) (n - k) (c - k), I64 e])] BP rfl (by decide +kernel) ?_)))
    refine C5 ⟨[], [0, 2], [], [0, 2], [1]⟩ 1 _ rfl rfl (by decide +kernel) rfl ⟨BQ rfl rfl rfl, ⟨_, rfl, AI rfl (AM rfl (A5 AQ AK rfl (AT 0 rfl (AJ _))))⟩, trivial⟩ rfl (A7 rfl (AX 110 [.slice ao k c] (U64 (rvalK (mid z 0 k) k)) (AZ _ Tryd.call110 rfl) (fun w1 hw1 => value_c ao k c (mid z 0 k) w1 hl4 (by omega) (hr4.at (M' := []) hw1 (by simp))))) ?_
    rintro v1 L1 ⟨rfl, rfl⟩
    refine ⟨[(3, U64 (rvalK (mid z 0 k) k))], ?_⟩
    show DP _ _ _ _ _ _ _ _ [_, _]
    refine B6 ⟨[1], [0, 2, 3], [0], [2, 3], [4]⟩ 4 rfl rfl (by decide +kernel) rfl ⟨⟨_, rfl, AI rfl (AM rfl (A5 AQ AK rfl (AT 0 rfl (AJ _))))⟩, ⟨_, rfl, AI rfl (AH rfl)⟩, trivial⟩ rfl (A7 rfl (AU 1 nb2 2 ([.slice none 0 0, I64 0]) 107 ([.slice (advA ao c k) (n - k) (c - k), I64 e]) rfl rfl rfl AK rfl (by simp [Value.oneCell']) (Nat.le_of_ble_eq_true rfl) (A0 (by simp [])))) ?_
    show DP _ _ _ _ _ _ _ _ [_, ⟨nb2, [.slice (advA ao c k) (n - k) (c - k), I64 e], 107, (0, 0)⟩]
    refine C2 ⟨[1, 4], [0, 2, 3], [0, 2, 3], [], []⟩ rfl rfl (by decide +kernel) rfl trivial ?_
    refine CB (F' := [(4, U64 (rvalK (mid z 0 k) k)), (5, Ptr nb2 0)]) (by kernel_rfl) ?_
    refine AC (BH (BI (.tuple #[U64 (rvalK (mid z 0 k) k), .agg #[.slice (advA ao c k) (n - k) (c - k), I64 e]]) (res2 DW (BU rfl) (CQ rfl (A5 AQ AK rfl (AT 1 rfl (AJ _))))) fun w1 hw1 => ?_))
    have e2 : rvalK (mid z 0 k) k = valK z k := (rvalK_eq _ _).trans (valK_congr k fun i hi => by rw [g8_mid hi, Nat.zero_add])
    rw [e2]
    obtain rfl : n2 = (n - k) := by omega
    obtain rfl : c2 = (c - k) := by omega
    exact ⟨_, [], rfl, ⟨rfl, rfl⟩, hw1.sub (by simp) (by simp)⟩
  ·
   have hp2 : ¬ (((k:Int)) ≠ (2:Int)) := of_decide_eq_false hb2
   refine AF 6 17 true _ rfl rfl hb2 rfl ?_
   refine AF 6 17 true _ rfl rfl hb2 rfl ?_
   refine AA _ (BF _ rfl hb2 rfl) rfl ?_
   refine AA _ (AE rfl) rfl ?_
   refine AF 10 21 true _ rfl rfl rfl rfl ?_
   refine AF 10 21 true _ rfl rfl rfl rfl ?_
   refine AA _ (BF _ rfl rfl rfl) rfl ?_
   refine AL (AC (BZ _ rfl rfl ?_))
   refine BL (AC (AG (AB (AA (.agg #[.slice ao n c, I64 e]) (AM rfl (A5 AQ AK rfl (AT 0 rfl (AJ _)))) rfl ?_))))
   refine AA _ (AE rfl) rfl ?_
   have hl5 : (z.drop k).length = (n - k) := by rw [List.length_drop, hz] <;> omega
   have hr5 := RdB.adv (c := c) hr k (by rw [hz]; omega) (by rw [hz]; omega)
   have hl6 : (mid z 0 k).length = k := FE (by rw [hz]; omega)
   have hr6 := RdB.pre hr k
   refine AY (AX 126 [.agg #[.slice ao n c, I64 e], I64 k] (.tuple #[.slice ao k c, .agg #[.slice (advA ao c k) (n - k) (c - k), I64 e]]) (AZ _ D2 rfl) (fun w1 hw1 => takeOk_c ao n c e z k (n - k) (c - k) w1 hz (by omega) (by omega) (by omega) (hr.at (M' := []) hw1 (by simp)) he h2 (by omega) (by omega))) rfl ?_
   show JL _ _ _ _ ((30, .tuple #[.slice ao k c, .agg #[.slice (advA ao c k) (n - k) (c - k), I64 e]]) :: _) [_, _]
   refine AA _ (AE rfl) rfl ?_
   refine AA _ (BB rfl rfl) rfl ?_
   refine AA _ (BB rfl rfl) rfl ?_
   refine AA _ (AH rfl) rfl ?_
   refine AY (AU 0 nb1 2 ([.slice ao n c, I64 e]) 107 ([.slice (advA ao c k) (n - k) (c - k), I64 e]) rfl rfl rfl AK rfl (by simp [Value.oneCell']) (Nat.le_of_ble_eq_true rfl) (A0 (by simp []))) rfl ?_
   show JL _ _ _ _ _ [⟨nb1, [.slice (advA ao c k) (n - k) (c - k), I64 e], 107, (0, 0)⟩, _]
   refine AL (AC (AG (CH 36 3 [(0, .slice ao k c), (2, .agg #[.slice (advA ao c k) (n - k) (c - k), I64 e])] BP rfl (by decide +kernel) ?_)))
   refine C5 ⟨[], [0, 2], [], [0, 2], [1]⟩ 1 _ rfl rfl (by decide +kernel) rfl ⟨BQ rfl rfl rfl, ⟨_, rfl, AI rfl (AM rfl (A5 AQ AK rfl (AT 0 rfl (AJ _))))⟩, trivial⟩ rfl (A7 rfl (AX 110 [.slice ao k c] (U64 (rvalK (mid z 0 k) k)) (AZ _ Tryd.call110 rfl) (fun w1 hw1 => value_c ao k c (mid z 0 k) w1 hl6 (by omega) (hr6.at (M' := []) hw1 (by simp))))) ?_
   rintro v1 L1 ⟨rfl, rfl⟩
   refine ⟨[(3, U64 (rvalK (mid z 0 k) k))], ?_⟩
   show DP _ _ _ _ _ _ _ _ [_, _]
   refine B6 ⟨[1], [0, 2, 3], [0], [2, 3], [4]⟩ 4 rfl rfl (by decide +kernel) rfl ⟨⟨_, rfl, AI rfl (AM rfl (A5 AQ AK rfl (AT 0 rfl (AJ _))))⟩, ⟨_, rfl, AI rfl (AH rfl)⟩, trivial⟩ rfl (A7 rfl (AU 1 nb2 2 ([.slice none 0 0, I64 0]) 107 ([.slice (advA ao c k) (n - k) (c - k), I64 e]) rfl rfl rfl AK rfl (by simp [Value.oneCell']) (Nat.le_of_ble_eq_true rfl) (A0 (by simp [])))) ?_
   show DP _ _ _ _ _ _ _ _ [_, ⟨nb2, [.slice (advA ao c k) (n - k) (c - k), I64 e], 107, (0, 0)⟩]
   refine C2 ⟨[1, 4], [0, 2, 3], [0, 2, 3], [], []⟩ rfl rfl (by decide +kernel) rfl trivial ?_
   refine CB (F' := [(4, U64 (rvalK (mid z 0 k) k)), (5, Ptr nb2 0)]) (by kernel_rfl) ?_
   refine AC (BH (BI (.tuple #[U64 (rvalK (mid z 0 k) k), .agg #[.slice (advA ao c k) (n - k) (c - k), I64 e]]) (res2 DW (BU rfl) (CQ rfl (A5 AQ AK rfl (AT 1 rfl (AJ _))))) fun w1 hw1 => ?_))
   have e2 : rvalK (mid z 0 k) k = valK z k := (rvalK_eq _ _).trans (valK_congr k fun i hi => by rw [g8_mid hi, Nat.zero_add])
   rw [e2]
   obtain rfl : n2 = (n - k) := by omega
   obtain rfl : c2 = (c - k) := by omega
   exact ⟨_, [], rfl, ⟨rfl, rfl⟩, hw1.sub (by simp) (by simp)⟩
 ·
  have hp1 : ¬ (((k:Int)) ≠ (1:Int)) := of_decide_eq_false hb1
  refine AF 2 13 true _ rfl rfl hb1 rfl ?_
  refine AF 2 13 true _ rfl rfl hb1 rfl ?_
  refine AA _ (BF _ rfl hb1 rfl) rfl ?_
  refine AA _ (AE rfl) rfl ?_
  refine AF 6 17 true _ rfl rfl rfl rfl ?_
  refine AF 6 17 true _ rfl rfl rfl rfl ?_
  refine AA _ (BF _ rfl rfl rfl) rfl ?_
  refine AA _ (AE rfl) rfl ?_
  refine AF 10 21 true _ rfl rfl rfl rfl ?_
  refine AF 10 21 true _ rfl rfl rfl rfl ?_
  refine AA _ (BF _ rfl rfl rfl) rfl ?_
  refine AL (AC (BZ _ rfl rfl ?_))
  refine BL (AC (AG (AB (AA (.agg #[.slice ao n c, I64 e]) (AM rfl (A5 AQ AK rfl (AT 0 rfl (AJ _)))) rfl ?_))))
  refine AA _ (AE rfl) rfl ?_
  have hl7 : (z.drop k).length = (n - k) := by rw [List.length_drop, hz] <;> omega
  have hr7 := RdB.adv (c := c) hr k (by rw [hz]; omega) (by rw [hz]; omega)
  have hl8 : (mid z 0 k).length = k := FE (by rw [hz]; omega)
  have hr8 := RdB.pre hr k
  refine AY (AX 126 [.agg #[.slice ao n c, I64 e], I64 k] (.tuple #[.slice ao k c, .agg #[.slice (advA ao c k) (n - k) (c - k), I64 e]]) (AZ _ D2 rfl) (fun w1 hw1 => takeOk_c ao n c e z k (n - k) (c - k) w1 hz (by omega) (by omega) (by omega) (hr.at (M' := []) hw1 (by simp)) he h2 (by omega) (by omega))) rfl ?_
  show JL _ _ _ _ ((30, .tuple #[.slice ao k c, .agg #[.slice (advA ao c k) (n - k) (c - k), I64 e]]) :: _) [_, _]
  refine AA _ (AE rfl) rfl ?_
  refine AA _ (BB rfl rfl) rfl ?_
  refine AA _ (BB rfl rfl) rfl ?_
  refine AA _ (AH rfl) rfl ?_
  refine AY (AU 0 nb1 2 ([.slice ao n c, I64 e]) 107 ([.slice (advA ao c k) (n - k) (c - k), I64 e]) rfl rfl rfl AK rfl (by simp [Value.oneCell']) (Nat.le_of_ble_eq_true rfl) (A0 (by simp []))) rfl ?_
  show JL _ _ _ _ _ [⟨nb1, [.slice (advA ao c k) (n - k) (c - k), I64 e], 107, (0, 0)⟩, _]
  refine AL (AC (AG (CH 36 3 [(0, .slice ao k c), (2, .agg #[.slice (advA ao c k) (n - k) (c - k), I64 e])] BP rfl (by decide +kernel) ?_)))
  refine C5 ⟨[], [0, 2], [], [0, 2], [1]⟩ 1 _ rfl rfl (by decide +kernel) rfl ⟨BQ rfl rfl rfl, ⟨_, rfl, AI rfl (AM rfl (A5 AQ AK rfl (AT 0 rfl (AJ _))))⟩, trivial⟩ rfl (A7 rfl (AX 110 [.slice ao k c] (U64 (rvalK (mid z 0 k) k)) (AZ _ Tryd.call110 rfl) (fun w1 hw1 => value_c ao k c (mid z 0 k) w1 hl8 (by omega) (hr8.at (M' := []) hw1 (by simp))))) ?_
  rintro v1 L1 ⟨rfl, rfl⟩
  refine ⟨[(3, U64 (rvalK (mid z 0 k) k))], ?_⟩
  show DP _ _ _ _ _ _ _ _ [_, _]
  refine B6 ⟨[1], [0, 2, 3], [0], [2, 3], [4]⟩ 4 rfl rfl (by decide +kernel) rfl ⟨⟨_, rfl, AI rfl (AM rfl (A5 AQ AK rfl (AT 0 rfl (AJ _))))⟩, ⟨_, rfl, AI rfl (AH rfl)⟩, trivial⟩ rfl (A7 rfl (AU 1 nb2 2 ([.slice none 0 0, I64 0]) 107 ([.slice (advA ao c k) (n - k) (c - k), I64 e]) rfl rfl rfl AK rfl (by simp [Value.oneCell']) (Nat.le_of_ble_eq_true rfl) (A0 (by simp [])))) ?_
  show DP _ _ _ _ _ _ _ _ [_, ⟨nb2, [.slice (advA ao c k) (n - k) (c - k), I64 e], 107, (0, 0)⟩]
  refine C2 ⟨[1, 4], [0, 2, 3], [0, 2, 3], [], []⟩ rfl rfl (by decide +kernel) rfl trivial ?_
  refine CB (F' := [(4, U64 (rvalK (mid z 0 k) k)), (5, Ptr nb2 0)]) (by kernel_rfl) ?_
  refine AC (BH (BI (.tuple #[U64 (rvalK (mid z 0 k) k), .agg #[.slice (advA ao c k) (n - k) (c - k), I64 e]]) (res2 DW (BU rfl) (CQ rfl (A5 AQ AK rfl (AT 1 rfl (AJ _))))) fun w1 hw1 => ?_))
  have e2 : rvalK (mid z 0 k) k = valK z k := (rvalK_eq _ _).trans (valK_congr k fun i hi => by rw [g8_mid hi, Nat.zero_add])
  rw [e2]
  obtain rfl : n2 = (n - k) := by omega
  obtain rfl : c2 = (c - k) := by omega
  exact ⟨_, [], rfl, ⟨rfl, rfl⟩, hw1.sub (by simp) (by simp)⟩
theorem rleftE_c (ao : Option Addr) (n c e : Nat)  (w : World) (he : e ≠ 0) : Calls Tryd.prog 62 #[.agg #[.slice ao n c, I64 e]] w (Post w [] (fun v L => v = I64 (0) ∧ L = [])) := by
 refine enter (P := Tryd.prog) (f := 62) (fn := Tryd.f62) w [] 9 [] [.agg #[.slice ao n c, I64 e]] Tryd.func62 rfl rfl (by simp) (BY (by simp) (by simp) (by simp)) ?_
 show JC _ _ _ [(0, .agg #[.slice ao n c, I64 e])] _
 refine AG (AB (A2 (DN (.agg #[.slice ao n c, I64 e]) ([.slice ao n c, I64 e]) rfl (by first | rfl | simp)) rfl ?_))
 rintro v1 L1 ⟨nb1, hnb1, rfl, rfl⟩
 show JL _ _ _ _ ((1, Ptr nb1 0) :: _) [⟨nb1, [.slice ao n c, I64 e], 107, (0, 0)⟩]
 refine AA _ (AH rfl) rfl ?_
 refine AL (AC (AG (AG (AB (AA (Ptr nb1 1) (AD 1 3 1 BG rfl BA rfl rfl) rfl ?_)))))
 refine AA (I64 e) (AM rfl (A6 BS (AT 0 rfl (AO (Seg.head))))) rfl ?_
 refine AA (.bool (decide (((e:Int)) ≠ (0:Int)))) (AP rfl rfl fun _ => CE _ _) rfl ?_
 refine AL (AC (CM _ rfl (decide_eq_true (by omega)) ?_))
 refine AG (AB (AA _ (AH rfl) rfl ?_))
 refine AL (AC (BH (A4 (BI (I64 0) (res1 Tryd.results62 (BU rfl)) fun w1 hw1 => ?_))))
 exact ⟨_, [], rfl, ⟨rfl, rfl⟩, hw1.sub (by simp) (by simp)⟩
theorem rleftZ_c (ao : Option Addr) (n c e : Nat)  (w : World) (he : e = 0) : Calls Tryd.prog 62 #[.agg #[.slice ao n c, I64 e]] w (Post w [] (fun v L => v = I64 n ∧ L = [])) := by
 refine enter (P := Tryd.prog) (f := 62) (fn := Tryd.f62) w [] 9 [] [.agg #[.slice ao n c, I64 e]] Tryd.func62 rfl rfl (by simp) (BY (by simp) (by simp) (by simp)) ?_
 show JC _ _ _ [(0, .agg #[.slice ao n c, I64 e])] _
 refine AG (AB (A2 (DN (.agg #[.slice ao n c, I64 e]) ([.slice ao n c, I64 e]) rfl (by first | rfl | simp)) rfl ?_))
 rintro v1 L1 ⟨nb1, hnb1, rfl, rfl⟩
 show JL _ _ _ _ ((1, Ptr nb1 0) :: _) [⟨nb1, [.slice ao n c, I64 e], 107, (0, 0)⟩]
 refine AA _ (AH rfl) rfl ?_
 refine AL (AC (AG (AG (AB (AA (Ptr nb1 1) (AD 1 3 1 BG rfl BA rfl rfl) rfl ?_)))))
 refine AA (I64 e) (AM rfl (A6 BS (AT 0 rfl (AO (Seg.head))))) rfl ?_
 refine AA (.bool (decide (((e:Int)) ≠ (0:Int)))) (AP rfl rfl fun _ => CE _ _) rfl ?_
 refine AL (AC (BZ _ rfl (decide_eq_false (by omega)) ?_))
 refine BL (AC (AG (AB (AA (Ptr nb1 0) (AD 0 43 1 BG rfl B2 rfl rfl) rfl ?_))))
 refine AA (.slice ao n c) (AM rfl (A6 DF (AT 0 rfl (Seg.head)))) rfl ?_
 refine AA (I64 n) (DS AR rfl) rfl ?_
 refine AA _ (AH rfl) rfl ?_
 refine AL (AC (BH (BI (I64 n) (res1 Tryd.results62 (BU rfl)) fun w1 hw1 => ?_)))
 exact ⟨_, [], rfl, ⟨rfl, rfl⟩, hw1.sub (by simp) (by simp)⟩
theorem rendE_c (ao : Option Addr) (n c e : Nat)  (w : World) (he : e ≠ 0) : Calls Tryd.prog 64 #[.agg #[.slice ao n c, I64 e]] w (Post w [] (fun v L => v = I64 e ∧ L = [])) := by
 refine enter (P := Tryd.prog) (f := 64) (fn := Tryd.f64) w [] 12 [] [.agg #[.slice ao n c, I64 e]] Tryd.func64 rfl rfl (by simp) (BY (by simp) (by simp) (by simp)) ?_
 show JC _ _ _ [(0, .agg #[.slice ao n c, I64 e])] _
 refine AG (AB (A2 (DN (.agg #[.slice ao n c, I64 e]) ([.slice ao n c, I64 e]) rfl (by first | rfl | simp)) rfl ?_))
 rintro v1 L1 ⟨nb1, hnb1, rfl, rfl⟩
 show JL _ _ _ _ ((1, Ptr nb1 0) :: _) [⟨nb1, [.slice ao n c, I64 e], 107, (0, 0)⟩]
 refine AA _ (AH rfl) rfl ?_
 refine AL (AC (AG (AG (AB (AA (Ptr nb1 1) (AD 1 3 1 BG rfl BA rfl rfl) rfl ?_)))))
 refine AA (I64 e) (AM rfl (A6 BS (AT 0 rfl (AO (Seg.head))))) rfl ?_
 refine AA (.bool (decide (((e:Int)) ≠ (0:Int)))) (AP rfl rfl fun _ => CE _ _) rfl ?_
 refine AL (AC (CM _ rfl (decide_eq_true (by omega)) ?_))
 refine AG (AB (AA (Ptr nb1 1) (AD 1 3 1 BG rfl BA rfl rfl) rfl ?_))
 refine AA (I64 e) (AM rfl (A6 BS (AT 0 rfl (AO (Seg.head))))) rfl ?_
 refine AA _ (AH rfl) rfl ?_
 refine AL (AC (BH (A4 (BI (I64 e) (res1 Tryd.results64 (BU rfl)) fun w1 hw1 => ?_))))
 exact ⟨_, [], rfl, ⟨rfl, rfl⟩, hw1.sub (by simp) (by simp)⟩
theorem rendZ_c (ao : Option Addr) (n c e : Nat)  (w : World) (he : e = 0) (hn : n = 0) : Calls Tryd.prog 64 #[.agg #[.slice ao n c, I64 e]] w (Post w [] (fun v L => v = I64 (0) ∧ L = [])) := by
 refine enter (P := Tryd.prog) (f := 64) (fn := Tryd.f64) w [] 12 [] [.agg #[.slice ao n c, I64 e]] Tryd.func64 rfl rfl (by simp) (BY (by simp) (by simp) (by simp)) ?_
 show JC _ _ _ [(0, .agg #[.slice ao n c, I64 e])] _
 refine AG (AB (A2 (DN (.agg #[.slice ao n c, I64 e]) ([.slice ao n c, I64 e]) rfl (by first | rfl | simp)) rfl ?_))
 rintro v1 L1 ⟨nb1, hnb1, rfl, rfl⟩
 show JL _ _ _ _ ((1, Ptr nb1 0) :: _) [⟨nb1, [.slice ao n c, I64 e], 107, (0, 0)⟩]
 refine AA _ (AH rfl) rfl ?_
 refine AL (AC (AG (AG (AB (AA (Ptr nb1 1) (AD 1 3 1 BG rfl BA rfl rfl) rfl ?_)))))
 refine AA (I64 e) (AM rfl (A6 BS (AT 0 rfl (AO (Seg.head))))) rfl ?_
 refine AA (.bool (decide (((e:Int)) ≠ (0:Int)))) (AP rfl rfl fun _ => CE _ _) rfl ?_
 refine AL (AC (BZ _ rfl (decide_eq_false (by omega)) ?_))
 refine BL (AC (AG (AG (AB (AA (Ptr nb1 0) (AD 0 43 1 BG rfl B2 rfl rfl) rfl ?_)))))
 refine AA (.slice ao n c) (AM rfl (A6 DF (AT 0 rfl (Seg.head)))) rfl ?_
 refine AA (I64 n) (DS AR rfl) rfl ?_
 refine AA (.bool (decide ((0:Int) < ((n:Int))))) (AP rfl rfl fun _ => EL _ _) rfl ?_
 refine AL (AC (BZ _ rfl (decide_eq_false (by omega)) ?_))
 refine BL (AC (AG (AB (AA _ (AH rfl) rfl ?_))))
 refine AL (AC (BH (BI (I64 0) (res1 Tryd.results64 (BU rfl)) fun w1 hw1 => ?_)))
 exact ⟨_, [], rfl, ⟨rfl, rfl⟩, hw1.sub (by simp) (by simp)⟩
theorem rendB_c (ao : Option Addr) (n c e : Nat)  (w : World) (he : e = 0) (hn : n ≠ 0) : Calls Tryd.prog 64 #[.agg #[.slice ao n c, I64 e]] w (Post w [] (fun v L => v = I64 (2) ∧ L = [])) := by
 refine enter (P := Tryd.prog) (f := 64) (fn := Tryd.f64) w [] 12 [] [.agg #[.slice ao n c, I64 e]] Tryd.func64 rfl rfl (by simp) (BY (by simp) (by simp) (by simp)) ?_
 show JC _ _ _ [(0, .agg #[.slice ao n c, I64 e])] _
 refine AG (AB (A2 (DN (.agg #[.slice ao n c, I64 e]) ([.slice ao n c, I64 e]) rfl (by first | rfl | simp)) rfl ?_))
 rintro v1 L1 ⟨nb1, hnb1, rfl, rfl⟩
 show JL _ _ _ _ ((1, Ptr nb1 0) :: _) [⟨nb1, [.slice ao n c, I64 e], 107, (0, 0)⟩]
 refine AA _ (AH rfl) rfl ?_
 refine AL (AC (AG (AG (AB (AA (Ptr nb1 1) (AD 1 3 1 BG rfl BA rfl rfl) rfl ?_)))))
 refine AA (I64 e) (AM rfl (A6 BS (AT 0 rfl (AO (Seg.head))))) rfl ?_
 refine AA (.bool (decide (((e:Int)) ≠ (0:Int)))) (AP rfl rfl fun _ => CE _ _) rfl ?_
 refine AL (AC (BZ _ rfl (decide_eq_false (by omega)) ?_))
 refine BL (AC (AG (AG (AB (AA (Ptr nb1 0) (AD 0 43 1 BG rfl B2 rfl rfl) rfl ?_)))))
 refine AA (.slice ao n c) (AM rfl (A6 DF (AT 0 rfl (Seg.head)))) rfl ?_
 refine AA (I64 n) (DS AR rfl) rfl ?_
 refine AA (.bool (decide ((0:Int) < ((n:Int))))) (AP rfl rfl fun _ => EL _ _) rfl ?_
 refine AL (AC (CM _ rfl (decide_eq_true (by omega)) ?_))
 refine AG (AB (AA _ (AH rfl) rfl ?_))
 refine AL (AC (BH (A4 (BI (I64 2) (res1 Tryd.results64 (BU rfl)) fun w1 hw1 => ?_))))
 exact ⟨_, [], rfl, ⟨rfl, rfl⟩, hw1.sub (by simp) (by simp)⟩
theorem rokE {e : Nat} {p : Prop} [Decidable p] (he : e ≠ 0) (hp : ¬ p) : (e : Int) = ((okE e (decide p) : Nat) : Int) := by rw [← okE_keep he hp]
theorem rokB {e : Nat} {p : Prop} [Decidable p] (he : e = 0) (hp : ¬ p) : (2 : Int) = ((okE e (decide p) : Nat) : Int) := by subst he; rw [decide_eq_false hp]; rfl
theorem rokO {e : Nat} {p : Prop} [Decidable p] (he : e = 0) (hp : p) : (e : Int) = ((okE e (decide p) : Nat) : Int) := by rw [← okE_ok he hp]
theorem tupEq {a b a' b' : Value} (h : a = a') (h' : b = b') : Value.tuple #[a, b] = .tuple #[a', b'] := by rw [h, h']
theorem agEq {a a' : Option Addr} {n n' c c' : Nat} {e e' : Int} (h : a = a') (h1 : n = n') (h2 : c = c') (h3 : e = e') : Value.agg #[.slice a n c, I64 e] = .agg #[.slice a' n' c', I64 e'] := by rw [h, h1, h2, h3]
theorem slEq {a a' : Option Addr} {n n' c c' : Nat} (h : a = a') (h1 : n = n') (h2 : c = c') : Value.slice a n c = .slice a' n' c' := by rw [h, h1, h2]
theorem rtake_w (ao : Option Addr) (n c e : Nat) (z : List UInt8) (s : Int) (w : World) (hz : z.length = n) (hn : n ≤ 2000000000) (hc : n ≤ c) (hcm : c ≤ maxLen) (hr : RdB w [] ao z) : Calls Tryd.prog 126 #[.agg #[.slice ao n c, I64 ((e : Int))], I64 s] w (Post w [] (fun v L => L = [] ∧ ∃ ax cx ao' c', v = .tuple #[.slice ax (tkV z e s).length cx, .agg #[.slice ao' (tkZ z e s).length c', I64 (((okE e (decide (TkOk z e s)) : Nat) : Int))]] ∧ (∀ w M, RdB w M ao z → RdB w M ax (tkV z e s)) ∧ Adv ao z c ao' (tkZ z e s) c')) := by
  by_cases hok : TkOk z e s
  · obtain ⟨he, h1, hl⟩ := id hok
    obtain ⟨k, rfl⟩ : ∃ k : Nat, s = k := ⟨s.toNat, by omega⟩
    have hk : k ≤ n := by omega
    refine (takeOk_c ao n c e z k (n - k) (c - k) w hz hn hc hcm hr he hk (by omega) (by omega)).mono ?_
    rintro E W ⟨v, L, rfl, ⟨rfl, rfl⟩, hw⟩
    refine ⟨_, _, rfl, ⟨rfl, ao, c, advA ao c k, c - k, tupEq (slEq rfl ?_ rfl) (agEq rfl ?_ rfl (rokO he hok)), fun w M h => ?_, ?_⟩, hw⟩
    · rw [tkV, if_pos hok]; exact (FE (by omega)).symm
    · rw [tkZ, if_pos hok]; simp [hz]
    · rw [tkV, if_pos hok]; exact RdB.pre h k
    · rw [tkZ, if_pos hok]; exact Adv.drop k (by omega) (by omega) hcm
  · by_cases he : e = 0
    · have hl : s < 0 ∨ (n:Int) < s := by
        rcases Int.lt_or_le s 0 with h | h
        · exact .inl h
        · rcases Int.lt_or_le (n:Int) s with h2 | h2
          · exact .inr h2
          · exact absurd ⟨he, h, by rw [hz]; exact h2⟩ hok
      refine (takeB_c ao n c e s w he hl).mono ?_
      rintro E W ⟨v, L, rfl, ⟨rfl, rfl⟩, hw⟩
      exact ⟨_, _, rfl, ⟨rfl, none, 0, ao, c, tupEq (slEq rfl (by rw [tkV, if_neg hok]; rfl) rfl) (agEq rfl (by rw [tkZ, if_neg hok]; exact hz.symm) rfl (rokB he hok)), (fun w M h => by rw [tkV, if_neg hok]; exact RdB.nil), by rw [tkZ, if_neg hok]; exact Adv.same (by omega) hcm⟩, hw⟩
    · refine (takeE_c ao n c e s w he).mono ?_
      rintro E W ⟨v, L, rfl, ⟨rfl, rfl⟩, hw⟩
      exact ⟨_, _, rfl, ⟨rfl, none, 0, ao, c, tupEq (slEq rfl (by rw [tkV, if_neg hok]; rfl) rfl) (agEq rfl (by rw [tkZ, if_neg hok]; exact hz.symm) rfl (rokE he hok)), (fun w M h => by rw [tkV, if_neg hok]; exact RdB.nil), by rw [tkZ, if_neg hok]; exact Adv.same (by omega) hcm⟩, hw⟩
theorem rread_w (ao : Option Addr) (n c e : Nat) (z : List UInt8) (s : Int) (w : World) (hz : z.length = n) (hn : n ≤ 2000000000) (hc : n ≤ c) (hcm : c ≤ maxLen) (hr : RdB w [] ao z) : Calls Tryd.prog 118 #[.agg #[.slice ao n c, I64 ((e : Int))], I64 s] w (Post w [] (fun v L => L = [] ∧ ∃ ao' c', v = .tuple #[U64 (nuV z e s), .agg #[.slice ao' (nuZ z e s).length c', I64 (((okE e (decide (NuOk z e s)) : Nat) : Int))]] ∧ Adv ao z c ao' (nuZ z e s) c')) := by
  by_cases hok : NuOk z e s
  · obtain ⟨he, hs, hl⟩ := id hok
    obtain ⟨k, rfl⟩ : ∃ k : Nat, s = k := ⟨s.toNat, by unfold Szd at hs; omega⟩
    have hk : k ≤ n := by omega
    refine (readOk_c ao n c e z k (n - k) (c - k) w hz hn hc hcm hr he hs hk (by omega) (by omega)).mono ?_
    rintro E W ⟨v, L, rfl, ⟨rfl, rfl⟩, hw⟩
    refine ⟨_, _, rfl, ⟨rfl, advA ao c k, c - k, tupEq (by rw [nuV, if_pos hok]; rfl) (agEq rfl ?_ rfl (rokO he hok)), ?_⟩, hw⟩
    · rw [nuZ, if_pos hok]; simp [hz]
    · rw [nuZ, if_pos hok]; exact Adv.drop k (by omega) (by omega) hcm
  · by_cases he : e = 0
    · by_cases hs : Szd s
      · have hl : (n:Int) < s := by
          rcases Int.lt_or_le (n:Int) s with h | h
          · exact h
          · exact absurd ⟨he, hs, by rw [hz]; exact h⟩ hok
        refine (readS_c ao n c e s w he hs hl).mono ?_
        rintro E W ⟨v, L, rfl, ⟨rfl, rfl⟩, hw⟩
        exact ⟨_, _, rfl, ⟨rfl, ao, c, tupEq (by rw [nuV, if_neg hok]) (agEq rfl (by rw [nuZ, if_neg hok]; exact hz.symm) rfl (rokB he hok)), by rw [nuZ, if_neg hok]; exact Adv.same (by omega) hcm⟩, hw⟩
      · refine (readF_c ao n c e s w he hs).mono ?_
        rintro E W ⟨v, L, rfl, ⟨rfl, rfl⟩, hw⟩
        exact ⟨_, _, rfl, ⟨rfl, ao, c, tupEq (by rw [nuV, if_neg hok]) (agEq rfl (by rw [nuZ, if_neg hok]; exact hz.symm) rfl (rokB he hok)), by rw [nuZ, if_neg hok]; exact Adv.same (by omega) hcm⟩, hw⟩
    · refine (readE_c ao n c e s w he).mono ?_
      rintro E W ⟨v, L, rfl, ⟨rfl, rfl⟩, hw⟩
      exact ⟨_, _, rfl, ⟨rfl, ao, c, tupEq (by rw [nuV, if_neg hok]) (agEq rfl (by rw [nuZ, if_neg hok]; exact hz.symm) rfl (rokE he hok)), by rw [nuZ, if_neg hok]; exact Adv.same (by omega) hcm⟩, hw⟩
theorem rleft_w (ao : Option Addr) (n c e : Nat) (w : World) : Calls Tryd.prog 62 #[.agg #[.slice ao n c, I64 ((e : Int))]] w (Post w [] (fun v L => v = I64 ((leftN e n : Nat) : Int) ∧ L = [])) := by
  by_cases he : e = 0
  · rw [leftN, if_pos he]; exact rleftZ_c ao n c e w he
  · rw [leftN, if_neg he]; exact rleftE_c ao n c e w he
theorem rend_w (ao : Option Addr) (n c e : Nat) (w : World) : Calls Tryd.prog 64 #[.agg #[.slice ao n c, I64 ((e : Int))]] w (Post w [] (fun v L => v = I64 ((endN e n : Nat) : Int) ∧ L = [])) := by
  by_cases he : e = 0
  · by_cases hn : n = 0
    · rw [endN, if_pos he, if_pos hn]; exact rendZ_c ao n c e w he hn
    · rw [endN, if_pos he, if_neg hn]; exact rendB_c ao n c e w he hn
  · rw [endN, if_neg he]; exact rendE_c ao n c e w he
end Go.Proofs.YtkdpdgpphpngeaaDoor
namespace Go.Proofs.YtkdpdgpphpngeaaDoor
open Go Go.Sx
def putL (e : UInt64) (d t : List UInt8) : List UInt8 := (numK 8 e 8 ++ d) ++ t
theorem putL_len {e : UInt64} {d t : List UInt8} (hd : d.length = 32) (ht : t.length = 16) : (putL e d t).length = 56 := by
 unfold putL; rw [List.length_append, List.length_append, EA, hd, ht]
end Go.Proofs.YtkdpdgpphpngeaaDoor
