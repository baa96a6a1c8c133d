import Derived.Deep.Slices
import Derived.Lib.LaidTab
import Derived.MakeChecks
import Derived.Shelf.Bytes.SlJoin
import Derived.Laws.IdiomStrings
import Derived.Test.YtkdpdgpphpngeaaDoorPkTkq2
set_option linter.unusedVariables false
set_option linter.unusedSimpArgs false
set_option maxRecDepth 100000
namespace Go.Proofs.YtkdpdgpphpngeaaDoor
open Go Go.Sx
attribute [local irreducible] mid zr8 zr32 rotr wordL spreadL comprL cpN adN spN wrdN constL initL
theorem spread_c (blk : List UInt8) (w : World) (hb : blk.length = 64) : Calls Tryd.prog 202 #[.agg (cu8 blk).toArray] w (Post w [] (fun v L => v = .agg (cu32 (spreadL blk)).toArray ∧ L = [])) := by
 refine enter w [] 60 [] [.agg (cu8 blk).toArray] Tryd.func202 rfl rfl (by simp) (BR (by simp) (by simp) (by simp)) ?_
 show JC _ _ _ [(0, .agg (cu8 blk).toArray)] _
 refine AF (AB (AV (CG (.agg (cu8 blk).toArray) (cu8 blk) rfl (by first | rfl | simp)) rfl ?_))
 rintro v1 L1 ⟨nb1, hnb1, rfl, rfl⟩
 show JL _ _ _ _ ((1, Ptr nb1 0) :: _) [⟨nb1, cu8 blk, 262, (0, 0)⟩]
 refine AV (A7 _ (cu32 (zr32 64)) Tryd.zeroValue282 (by kernel_rfl)) rfl ?_
 rintro v1 L1 ⟨nb2, hnb2, rfl, rfl⟩
 show JL _ _ _ _ ((2, Ptr nb2 0) :: _) [_, ⟨nb2, cu32 (zr32 64), 282, (0, 0)⟩]
 refine AI (AC (AF (AB (AV (A7 _ (cu32 (zr32 64)) Tryd.zeroValue282 (by kernel_rfl)) rfl ?_))))
 rintro v1 L1 ⟨nb3, hnb3, rfl, rfl⟩
 show JL _ _ _ _ ((3, Ptr nb3 0) :: _) [_, _, ⟨nb3, cu32 (zr32 64), 282, (0, 0)⟩]
 refine AI (AC (AF (AF (AB (AA _ (AG rfl) rfl ?_)))))
 refine AI (AC (A9 (DI (ι := Nat × List UInt32) (fun ⟨t, ww⟩ => [(1, Ptr nb1 0), (2, Ptr nb2 0), (3, Ptr nb3 0), (7, I64 t)]) (fun ⟨t, ww⟩ => [⟨nb1, cu8 blk, 262, (0, 0)⟩, ⟨nb2, cu32 (zr32 64), 282, (0, 0)⟩, ⟨nb3, cu32 ww, 282, (0, 0)⟩]) (fun ⟨t, ww⟩ => t ≤ 64 ∧ ww = spN blk t ∧ ww.length = 64) (fun ⟨t, ww⟩ => 64 - t) (0, zr32 64) ⟨by omega, by rw [spN], F4 64⟩ (Sub.all rfl) rfl ?_)))
 rintro ⟨t, ww⟩ ⟨hx1, hx2, hw⟩
 show JC _ _ _ [(1, Ptr nb1 0), (2, Ptr nb2 0), (3, Ptr nb3 0), (7, I64 t)] [⟨nb1, cu8 blk, 262, (0, 0)⟩, ⟨nb2, cu32 (zr32 64), 282, (0, 0)⟩, ⟨nb3, cu32 ww, 282, (0, 0)⟩]
 refine AF (AB (AA (.bool (decide (((t:Int)) < (64:Int)))) (AJ rfl rfl fun _ => B9 _ _) rfl ?_))
 refine AI (AC (AF (B5 (decide (((t:Int)) < (64:Int))) rfl (fun hb1 => ?_) (fun hb1 => ?_))))
 ·
  have hp1 : ((t:Int)) < (64:Int) := of_decide_eq_true hb1
  refine BJ (AC (AF (A9 (AF (AB (AA _ (AG rfl) rfl ?_))))))
  refine AA _ (AE rfl) rfl ?_
  refine AI (AC (AF (AF (AB (AA _ (AG rfl) rfl ?_)))))
  refine AA (.bool (decide (((t:Int)) < (16:Int)))) (AJ rfl rfl fun _ => B9 _ _) rfl ?_
  refine AI (AC (B5 (decide (((t:Int)) < (16:Int))) rfl (fun hb2 => ?_) (fun hb2 => ?_)))
  ·
   have hp2 : ((t:Int)) < (16:Int) := of_decide_eq_true hb2
   refine AF (AB (AA _ (AG rfl) rfl ?_))
   refine AA _ (AG rfl) rfl ?_
   refine AA (I64 (4*(t:Int))) (AJ rfl rfl fun _ => DX _ _ (4*(t:Int)) (by omega) (by omega)) rfl ?_
   refine AA _ (AG rfl) rfl ?_
   refine AA (I64 (4*(t:Int))) (AJ rfl rfl fun _ => DX _ _ (4*(t:Int)) (by omega) (by omega)) rfl ?_
   refine AA (I64 (4*(t:Int) + 4)) (AJ rfl rfl fun _ => BP _ _ (4*(t:Int) + 4) (by omega) (by omega)) rfl ?_
   refine AA (Slc nb1 (4*t) 4 (64 - 4*t)) (B1 64 5 1 (4*t) (4*t + 4) (4*t) (64 - 4*t) Tryd.underlying262 AM rfl (EM (by omega)) (EM (by omega)) (by omega) (by omega) (by omega) (by omega) (by omega) 4 (by omega)) rfl ?_
   have hl1 : (mid blk (4*t) 4).length = 4 := D8 (by rw [hb]; omega)
   refine A0 (AY 207 [Slc nb1 (4*t) 4 (64 - 4*t)] (U32 (wordL (mid blk (4*t) 4))) (A4 _ Tryd.call207 rfl) (fun w1 hw1 => word_c (some ⟨nb1, (4*t), none⟩) (64 - 4*t) (mid blk (4*t) 4) w1 hl1 (RdB.of hw1 (AR 0 rfl (FB (4*t) 4 (by rw [hb]; omega))) (by simp)))) rfl ?_
   show JL _ _ _ _ ((19, U32 (wordL (mid blk (4*t) 4))) :: _) [_, _, _]
   refine AA (Ptr nb3 t) (A1 64 267 1 t BU BA rfl rfl (by omega) (by omega) (by omega)) rfl ?_
   have hl2 : (ww.set t (wordL (mid blk (4*t) 4))).length = 64 := by first | (rw [List.length_set]; exact hw) | simp [hw]
   refine A0 (CN 2 nb3 t 1 (cu32 ww) 282 (U32 (wordL (mid blk (4*t) 4))) ([U32 (wordL (mid blk (4*t) 4))]) (cu32 (ww.set t (wordL (mid blk (4*t) 4)))) rfl rfl rfl rfl BA rfl (by simp [Value.oneCell']) (by simp [hw]; try omega) (lay32 _ _ _ (by rw [hw]; omega))) rfl ?_
   show JL _ _ _ _ _ [_, _, ⟨nb3, cu32 (ww.set t (wordL (mid blk (4*t) 4))), 282, (0, 0)⟩]
   refine AI (AC (DA (AQ (BV (AC (AB (AA (I64 ((t:Int) + 1)) (AJ rfl rfl fun _ => BP _ _ ((t:Int) + 1) (by omega) (by omega)) rfl ?_)))))))
   refine AA _ (AG rfl) rfl ?_
   refine AI (B6 (DN (t + 1, ww.set t (wordL (mid blk (4*t) 4))) ⟨by omega, by rw [spN, spS, if_pos (by omega), ← hx2], hl2⟩ (by first | (simp; omega) | simp | (dsimp only; omega) | omega) (Sub.all rfl) rfl))
  ·
   have hp2 : ¬ (((t:Int)) < (16:Int)) := of_decide_eq_false hb2
   refine BJ (AC (AF (CT 60 1 [(0, I64 t), (1, I64 ((t:Int) - 15)), (2, Ptr nb3 (t - 15)), (3, U32 (g32 ww (t - 15))), (4, I64 t), (5, I64 ((t:Int) - 2)), (6, Ptr nb3 (t - 2)), (7, U32 (g32 ww (t - 2))), (8, U32 (g32 ww (t - 15))), (9, U32 (g32 ww (t - 2)))] BL rfl (by decide +kernel) ?_)))
   refine DE ⟨[], [0, 1, 2, 3, 4, 5, 6, 7, 8, 9], [], [0, 1, 2, 3, 4, 5, 6, 7, 8, 9], []⟩ rfl rfl (by decide +kernel) rfl ⟨AU rfl rfl rfl, ⟨_, rfl, AD rfl (AJ rfl rfl fun _ => C5 _ _ ((t:Int) - 15) (by omega) (by omega))⟩, ⟨_, rfl, AD rfl (A1 64 267 1 (t - 15) BU BA rfl rfl (by omega) (by omega) (by omega))⟩, ⟨_, rfl, AD rfl (AL rfl (AZ BK (AR 2 rfl (Seg.get (DT (i := (t - 15)) (by rw [hw]; omega))))))⟩, AU rfl rfl rfl, ⟨_, rfl, AD rfl (AJ rfl rfl fun _ => C5 _ _ ((t:Int) - 2) (by omega) (by omega))⟩, ⟨_, rfl, AD rfl (A1 64 267 1 (t - 2) BU BA rfl rfl (by omega) (by omega) (by omega))⟩, ⟨_, rfl, AD rfl (AL rfl (AZ BK (AR 2 rfl (Seg.get (DT (i := (t - 2)) (by rw [hw]; omega))))))⟩, ⟨_, rfl, AD rfl (AE rfl)⟩, ⟨_, rfl, AD rfl (AE rfl)⟩, trivial⟩ ?_
   refine CC (F' := [(21, I64 t), (22, I64 ((t:Int) - 15)), (23, Ptr nb3 (t - 15)), (24, U32 (g32 ww (t - 15))), (25, I64 t), (26, I64 ((t:Int) - 2)), (27, Ptr nb3 (t - 2)), (28, U32 (g32 ww (t - 2))), (5, U32 (g32 ww (t - 15))), (6, U32 (g32 ww (t - 2))), (1, Ptr nb1 0), (2, Ptr nb2 0), (3, Ptr nb3 0), (7, I64 t), (8, .bool (decide (((t:Int)) < (64:Int)))), (9, I64 t), (4, I64 t), (10, I64 t), (11, .bool (decide (((t:Int)) < (16:Int))))]) (by kernel_rfl) ?_
   refine AC (CT 60 6 [(0, I64 t), (1, I64 t), (2, I64 ((t:Int) - 16)), (3, Ptr nb3 (t - 16)), (4, U32 (g32 ww (t - 16))), (5, U32 (g32 ww (t - 15))), (7, U32 (g32 ww (t - 15))), (10, U32 (g32 ww (t - 15))), (11, U32 ((g32 ww (t - 15)) >>> (3:UInt32))), (14, I64 t), (15, I64 ((t:Int) - 7)), (16, Ptr nb3 (t - 7)), (17, U32 (g32 ww (t - 7))), (19, U32 (g32 ww (t - 2))), (21, U32 (g32 ww (t - 2))), (24, U32 (g32 ww (t - 2))), (25, U32 ((g32 ww (t - 2)) >>> (10:UInt32)))] BL rfl (by decide +kernel) ?_)
   refine C2 ⟨[], [0, 1, 2, 3, 4, 5, 7, 10, 11, 14, 15, 16, 17, 19, 21, 24, 25], [], [0, 1, 2, 3, 4, 5, 7, 10, 11, 14, 15, 16, 17, 19, 21, 24, 25], [6]⟩ 6 rfl rfl (by decide +kernel) rfl ⟨AU rfl rfl rfl, AU rfl rfl rfl, ⟨_, rfl, AD rfl (AJ rfl rfl fun _ => C5 _ _ ((t:Int) - 16) (by omega) (by omega))⟩, ⟨_, rfl, AD rfl (A1 64 267 1 (t - 16) BU BA rfl rfl (by omega) (by omega) (by omega))⟩, ⟨_, rfl, AD rfl (AL rfl (AZ BK (AR 2 rfl (Seg.get (DT (i := (t - 16)) (by rw [hw]; omega))))))⟩, AU rfl rfl rfl, AU rfl rfl rfl, AU rfl rfl rfl, ⟨_, rfl, AD rfl (AJ rfl rfl fun _ => EV (g32 ww (t - 15)) _ _ 3 (by decide) rfl)⟩, AU rfl rfl rfl, ⟨_, rfl, AD rfl (AJ rfl rfl fun _ => C5 _ _ ((t:Int) - 7) (by omega) (by omega))⟩, ⟨_, rfl, AD rfl (A1 64 267 1 (t - 7) BU BA rfl rfl (by omega) (by omega) (by omega))⟩, ⟨_, rfl, AD rfl (AL rfl (AZ BK (AR 2 rfl (Seg.get (DT (i := (t - 7)) (by rw [hw]; omega))))))⟩, AU rfl rfl rfl, AU rfl rfl rfl, AU rfl rfl rfl, ⟨_, rfl, AD rfl (AJ rfl rfl fun _ => EV (g32 ww (t - 2)) _ _ 10 (by decide) rfl)⟩, trivial⟩ rfl (AW rfl (AY 203 [U32 (g32 ww (t - 15)), I64 7] (U32 (rotr (g32 ww (t - 15)) 7)) (A4 _ Tryd.call203 rfl) (fun w1 hw1 => turn_c (g32 ww (t - 15)) 7 w1 (by omega) (by omega)))) ?_
   show DP _ _ _ _ _ _ _ _ [_, _, _]
   refine CU ⟨[6], [0, 1, 2, 3, 4, 5, 7, 10, 11, 14, 15, 16, 17, 19, 21, 24, 25], [5], [0, 1, 2, 3, 4, 7, 10, 11, 14, 15, 16, 17, 19, 21, 24, 25], [8]⟩ 8 _ rfl rfl (by decide +kernel) rfl ⟨AU rfl rfl rfl, AU rfl rfl rfl, ⟨_, rfl, AD rfl (AJ rfl rfl fun _ => C5 _ _ ((t:Int) - 16) (by omega) (by omega))⟩, ⟨_, rfl, AD rfl (A1 64 267 1 (t - 16) BU BA rfl rfl (by omega) (by omega) (by omega))⟩, ⟨_, rfl, AD rfl (AL rfl (AZ BK (AR 2 rfl (Seg.get (DT (i := (t - 16)) (by rw [hw]; omega))))))⟩, AU rfl rfl rfl, AU rfl rfl rfl, ⟨_, rfl, AD rfl (AJ rfl rfl fun _ => EV (g32 ww (t - 15)) _ _ 3 (by decide) rfl)⟩, AU rfl rfl rfl, ⟨_, rfl, AD rfl (AJ rfl rfl fun _ => C5 _ _ ((t:Int) - 7) (by omega) (by omega))⟩, ⟨_, rfl, AD rfl (A1 64 267 1 (t - 7) BU BA rfl rfl (by omega) (by omega) (by omega))⟩, ⟨_, rfl, AD rfl (AL rfl (AZ BK (AR 2 rfl (Seg.get (DT (i := (t - 7)) (by rw [hw]; omega))))))⟩, AU rfl rfl rfl, AU rfl rfl rfl, AU rfl rfl rfl, ⟨_, rfl, AD rfl (AJ rfl rfl fun _ => EV (g32 ww (t - 2)) _ _ 10 (by decide) rfl)⟩, trivial⟩ rfl (AW rfl (AY 203 [U32 (g32 ww (t - 15)), I64 18] (U32 (rotr (g32 ww (t - 15)) 18)) (A4 _ Tryd.call203 rfl) (fun w1 hw1 => turn_c (g32 ww (t - 15)) 18 w1 (by omega) (by omega)))) ?_
   rintro v1 L1 ⟨rfl, rfl⟩
   refine ⟨[(9, U32 ((rotr (g32 ww (t - 15)) 7) ^^^ (rotr (g32 ww (t - 15)) 18))), (12, U32 (((rotr (g32 ww (t - 15)) 7) ^^^ (rotr (g32 ww (t - 15)) 18)) ^^^ ((g32 ww (t - 15)) >>> (3:UInt32)))), (13, U32 ((g32 ww (t - 16)) + (((rotr (g32 ww (t - 15)) 7) ^^^ (rotr (g32 ww (t - 15)) 18)) ^^^ ((g32 ww (t - 15)) >>> (3:UInt32))))), (18, U32 (((g32 ww (t - 16)) + (((rotr (g32 ww (t - 15)) 7) ^^^ (rotr (g32 ww (t - 15)) 18)) ^^^ ((g32 ww (t - 15)) >>> (3:UInt32)))) + (g32 ww (t - 7))))], ?_⟩
   show DP _ _ _ _ _ _ _ _ [_, _, _]
   refine C2 ⟨[6, 8], [0, 1, 2, 3, 4, 5, 7, 9, 10, 11, 12, 13, 14, 15, 16, 17, 18, 19, 21, 24, 25], [5, 7], [0, 1, 2, 3, 4, 9, 10, 11, 12, 13, 14, 15, 16, 17, 18, 19, 21, 24, 25], [20]⟩ 20 rfl rfl (by decide +kernel) rfl ⟨AU rfl rfl rfl, AU rfl rfl rfl, ⟨_, rfl, AD rfl (AJ rfl rfl fun _ => C5 _ _ ((t:Int) - 16) (by omega) (by omega))⟩, ⟨_, rfl, AD rfl (A1 64 267 1 (t - 16) BU BA rfl rfl (by omega) (by omega) (by omega))⟩, ⟨_, rfl, AD rfl (AL rfl (AZ BK (AR 2 rfl (Seg.get (DT (i := (t - 16)) (by rw [hw]; omega))))))⟩, ⟨_, rfl, AD rfl (AJ rfl rfl fun _ => DL (rotr (g32 ww (t - 15)) 7) (rotr (g32 ww (t - 15)) 18))⟩, AU rfl rfl rfl, ⟨_, rfl, AD rfl (AJ rfl rfl fun _ => EV (g32 ww (t - 15)) _ _ 3 (by decide) rfl)⟩, ⟨_, rfl, AD rfl (AJ rfl rfl fun _ => DL ((rotr (g32 ww (t - 15)) 7) ^^^ (rotr (g32 ww (t - 15)) 18)) ((g32 ww (t - 15)) >>> (3:UInt32)))⟩, ⟨_, rfl, AD rfl (AJ rfl rfl fun _ => DM (g32 ww (t - 16)) (((rotr (g32 ww (t - 15)) 7) ^^^ (rotr (g32 ww (t - 15)) 18)) ^^^ ((g32 ww (t - 15)) >>> (3:UInt32))))⟩, AU rfl rfl rfl, ⟨_, rfl, AD rfl (AJ rfl rfl fun _ => C5 _ _ ((t:Int) - 7) (by omega) (by omega))⟩, ⟨_, rfl, AD rfl (A1 64 267 1 (t - 7) BU BA rfl rfl (by omega) (by omega) (by omega))⟩, ⟨_, rfl, AD rfl (AL rfl (AZ BK (AR 2 rfl (Seg.get (DT (i := (t - 7)) (by rw [hw]; omega))))))⟩, ⟨_, rfl, AD rfl (AJ rfl rfl fun _ => DM ((g32 ww (t - 16)) + (((rotr (g32 ww (t - 15)) 7) ^^^ (rotr (g32 ww (t - 15)) 18)) ^^^ ((g32 ww (t - 15)) >>> (3:UInt32)))) (g32 ww (t - 7)))⟩, AU rfl rfl rfl, AU rfl rfl rfl, AU rfl rfl rfl, ⟨_, rfl, AD rfl (AJ rfl rfl fun _ => EV (g32 ww (t - 2)) _ _ 10 (by decide) rfl)⟩, trivial⟩ rfl (AW rfl (AY 203 [U32 (g32 ww (t - 2)), I64 17] (U32 (rotr (g32 ww (t - 2)) 17)) (A4 _ Tryd.call203 rfl) (fun w1 hw1 => turn_c (g32 ww (t - 2)) 17 w1 (by omega) (by omega)))) ?_
   show DP _ _ _ _ _ _ _ _ [_, _, _]
   refine CU ⟨[6, 8, 20], [0, 1, 2, 3, 4, 5, 7, 9, 10, 11, 12, 13, 14, 15, 16, 17, 18, 19, 21, 24, 25], [5, 7, 19], [0, 1, 2, 3, 4, 9, 10, 11, 12, 13, 14, 15, 16, 17, 18, 21, 24, 25], [22]⟩ 22 _ rfl rfl (by decide +kernel) rfl ⟨AU rfl rfl rfl, AU rfl rfl rfl, ⟨_, rfl, AD rfl (AJ rfl rfl fun _ => C5 _ _ ((t:Int) - 16) (by omega) (by omega))⟩, ⟨_, rfl, AD rfl (A1 64 267 1 (t - 16) BU BA rfl rfl (by omega) (by omega) (by omega))⟩, ⟨_, rfl, AD rfl (AL rfl (AZ BK (AR 2 rfl (Seg.get (DT (i := (t - 16)) (by rw [hw]; omega))))))⟩, ⟨_, rfl, AD rfl (AJ rfl rfl fun _ => DL (rotr (g32 ww (t - 15)) 7) (rotr (g32 ww (t - 15)) 18))⟩, AU rfl rfl rfl, ⟨_, rfl, AD rfl (AJ rfl rfl fun _ => EV (g32 ww (t - 15)) _ _ 3 (by decide) rfl)⟩, ⟨_, rfl, AD rfl (AJ rfl rfl fun _ => DL ((rotr (g32 ww (t - 15)) 7) ^^^ (rotr (g32 ww (t - 15)) 18)) ((g32 ww (t - 15)) >>> (3:UInt32)))⟩, ⟨_, rfl, AD rfl (AJ rfl rfl fun _ => DM (g32 ww (t - 16)) (((rotr (g32 ww (t - 15)) 7) ^^^ (rotr (g32 ww (t - 15)) 18)) ^^^ ((g32 ww (t - 15)) >>> (3:UInt32))))⟩, AU rfl rfl rfl, ⟨_, rfl, AD rfl (AJ rfl rfl fun _ => C5 _ _ ((t:Int) - 7) (by omega) (by omega))⟩, ⟨_, rfl, AD rfl (A1 64 267 1 (t - 7) BU BA rfl rfl (by omega) (by omega) (by omega))⟩, ⟨_, rfl, AD rfl (AL rfl (AZ BK (AR 2 rfl (Seg.get (DT (i := (t - 7)) (by rw [hw]; omega))))))⟩, ⟨_, rfl, AD rfl (AJ rfl rfl fun _ => DM ((g32 ww (t - 16)) + (((rotr (g32 ww (t - 15)) 7) ^^^ (rotr (g32 ww (t - 15)) 18)) ^^^ ((g32 ww (t - 15)) >>> (3:UInt32)))) (g32 ww (t - 7)))⟩, AU rfl rfl rfl, AU rfl rfl rfl, ⟨_, rfl, AD rfl (AJ rfl rfl fun _ => EV (g32 ww (t - 2)) _ _ 10 (by decide) rfl)⟩, trivial⟩ rfl (AW rfl (AY 203 [U32 (g32 ww (t - 2)), I64 19] (U32 (rotr (g32 ww (t - 2)) 19)) (A4 _ Tryd.call203 rfl) (fun w1 hw1 => turn_c (g32 ww (t - 2)) 19 w1 (by omega) (by omega)))) ?_
   rintro v1 L1 ⟨rfl, rfl⟩
   refine ⟨[(23, U32 ((rotr (g32 ww (t - 2)) 17) ^^^ (rotr (g32 ww (t - 2)) 19))), (26, U32 (((rotr (g32 ww (t - 2)) 17) ^^^ (rotr (g32 ww (t - 2)) 19)) ^^^ ((g32 ww (t - 2)) >>> (10:UInt32)))), (27, U32 ((((g32 ww (t - 16)) + (((rotr (g32 ww (t - 15)) 7) ^^^ (rotr (g32 ww (t - 15)) 18)) ^^^ ((g32 ww (t - 15)) >>> (3:UInt32)))) + (g32 ww (t - 7))) + (((rotr (g32 ww (t - 2)) 17) ^^^ (rotr (g32 ww (t - 2)) 19)) ^^^ ((g32 ww (t - 2)) >>> (10:UInt32))))), (28, Ptr nb3 t)], ?_⟩
   show DP _ _ _ _ _ _ _ _ [_, _, _]
   have hl3 : (ww.set t ((((g32 ww (t - 16)) + (((rotr (g32 ww (t - 15)) 7) ^^^ (rotr (g32 ww (t - 15)) 18)) ^^^ ((g32 ww (t - 15)) >>> (3:UInt32)))) + (g32 ww (t - 7))) + (((rotr (g32 ww (t - 2)) 17) ^^^ (rotr (g32 ww (t - 2)) 19)) ^^^ ((g32 ww (t - 2)) >>> (10:UInt32))))).length = 64 := by first | (rw [List.length_set]; exact hw) | simp [hw]
   refine C2 ⟨[6, 8, 20, 22], [0, 1, 2, 3, 4, 5, 7, 9, 10, 11, 12, 13, 14, 15, 16, 17, 18, 19, 21, 23, 24, 25, 26, 27, 28], [5, 7, 19, 21], [0, 1, 2, 3, 4, 9, 10, 11, 12, 13, 14, 15, 16, 17, 18, 23, 24, 25, 26, 27, 28], [29]⟩ 29 rfl rfl (by decide +kernel) rfl ⟨AU rfl rfl rfl, AU rfl rfl rfl, ⟨_, rfl, AD rfl (AJ rfl rfl fun _ => C5 _ _ ((t:Int) - 16) (by omega) (by omega))⟩, ⟨_, rfl, AD rfl (A1 64 267 1 (t - 16) BU BA rfl rfl (by omega) (by omega) (by omega))⟩, ⟨_, rfl, AD rfl (AL rfl (AZ BK (AR 2 rfl (Seg.get (DT (i := (t - 16)) (by rw [hw]; omega))))))⟩, ⟨_, rfl, AD rfl (AJ rfl rfl fun _ => DL (rotr (g32 ww (t - 15)) 7) (rotr (g32 ww (t - 15)) 18))⟩, AU rfl rfl rfl, ⟨_, rfl, AD rfl (AJ rfl rfl fun _ => EV (g32 ww (t - 15)) _ _ 3 (by decide) rfl)⟩, ⟨_, rfl, AD rfl (AJ rfl rfl fun _ => DL ((rotr (g32 ww (t - 15)) 7) ^^^ (rotr (g32 ww (t - 15)) 18)) ((g32 ww (t - 15)) >>> (3:UInt32)))⟩, ⟨_, rfl, AD rfl (AJ rfl rfl fun _ => DM (g32 ww (t - 16)) (((rotr (g32 ww (t - 15)) 7) ^^^ (rotr (g32 ww (t - 15)) 18)) ^^^ ((g32 ww (t - 15)) >>> (3:UInt32))))⟩, AU rfl rfl rfl, ⟨_, rfl, AD rfl (AJ rfl rfl fun _ => C5 _ _ ((t:Int) - 7) (by omega) (by omega))⟩, ⟨_, rfl, AD rfl (A1 64 267 1 (t - 7) BU BA rfl rfl (by omega) (by omega) (by omega))⟩, ⟨_, rfl, AD rfl (AL rfl (AZ BK (AR 2 rfl (Seg.get (DT (i := (t - 7)) (by rw [hw]; omega))))))⟩, ⟨_, rfl, AD rfl (AJ rfl rfl fun _ => DM ((g32 ww (t - 16)) + (((rotr (g32 ww (t - 15)) 7) ^^^ (rotr (g32 ww (t - 15)) 18)) ^^^ ((g32 ww (t - 15)) >>> (3:UInt32)))) (g32 ww (t - 7)))⟩, ⟨_, rfl, AD rfl (AJ rfl rfl fun _ => DL (rotr (g32 ww (t - 2)) 17) (rotr (g32 ww (t - 2)) 19))⟩, AU rfl rfl rfl, ⟨_, rfl, AD rfl (AJ rfl rfl fun _ => EV (g32 ww (t - 2)) _ _ 10 (by decide) rfl)⟩, ⟨_, rfl, AD rfl (AJ rfl rfl fun _ => DL ((rotr (g32 ww (t - 2)) 17) ^^^ (rotr (g32 ww (t - 2)) 19)) ((g32 ww (t - 2)) >>> (10:UInt32)))⟩, ⟨_, rfl, AD rfl (AJ rfl rfl fun _ => DM (((g32 ww (t - 16)) + (((rotr (g32 ww (t - 15)) 7) ^^^ (rotr (g32 ww (t - 15)) 18)) ^^^ ((g32 ww (t - 15)) >>> (3:UInt32)))) + (g32 ww (t - 7))) (((rotr (g32 ww (t - 2)) 17) ^^^ (rotr (g32 ww (t - 2)) 19)) ^^^ ((g32 ww (t - 2)) >>> (10:UInt32))))⟩, ⟨_, rfl, AD rfl (A1 64 267 1 t BU BA rfl rfl (by omega) (by omega) (by omega))⟩, trivial⟩ rfl (AW rfl (CN 2 nb3 t 1 (cu32 ww) 282 (U32 ((((g32 ww (t - 16)) + (((rotr (g32 ww (t - 15)) 7) ^^^ (rotr (g32 ww (t - 15)) 18)) ^^^ ((g32 ww (t - 15)) >>> (3:UInt32)))) + (g32 ww (t - 7))) + (((rotr (g32 ww (t - 2)) 17) ^^^ (rotr (g32 ww (t - 2)) 19)) ^^^ ((g32 ww (t - 2)) >>> (10:UInt32))))) ([U32 ((((g32 ww (t - 16)) + (((rotr (g32 ww (t - 15)) 7) ^^^ (rotr (g32 ww (t - 15)) 18)) ^^^ ((g32 ww (t - 15)) >>> (3:UInt32)))) + (g32 ww (t - 7))) + (((rotr (g32 ww (t - 2)) 17) ^^^ (rotr (g32 ww (t - 2)) 19)) ^^^ ((g32 ww (t - 2)) >>> (10:UInt32))))]) (cu32 (ww.set t ((((g32 ww (t - 16)) + (((rotr (g32 ww (t - 15)) 7) ^^^ (rotr (g32 ww (t - 15)) 18)) ^^^ ((g32 ww (t - 15)) >>> (3:UInt32)))) + (g32 ww (t - 7))) + (((rotr (g32 ww (t - 2)) 17) ^^^ (rotr (g32 ww (t - 2)) 19)) ^^^ ((g32 ww (t - 2)) >>> (10:UInt32)))))) rfl rfl rfl rfl BA rfl (by simp [Value.oneCell']) (by simp [hw]; try omega) (lay32 _ _ _ (by rw [hw]; omega)))) ?_
   show DP _ _ _ _ _ _ _ _ [_, _, ⟨nb3, cu32 (ww.set t ((((g32 ww (t - 16)) + (((rotr (g32 ww (t - 15)) 7) ^^^ (rotr (g32 ww (t - 15)) 18)) ^^^ ((g32 ww (t - 15)) >>> (3:UInt32)))) + (g32 ww (t - 7))) + (((rotr (g32 ww (t - 2)) 17) ^^^ (rotr (g32 ww (t - 2)) 19)) ^^^ ((g32 ww (t - 2)) >>> (10:UInt32))))), 282, (0, 0)⟩]
   refine DE ⟨[6, 8, 20, 22, 29], [0, 1, 2, 3, 4, 5, 7, 9, 10, 11, 12, 13, 14, 15, 16, 17, 18, 19, 21, 23, 24, 25, 26, 27, 28], [0, 1, 2, 3, 4, 5, 7, 9, 10, 11, 12, 13, 14, 15, 16, 17, 18, 19, 21, 23, 24, 25, 26, 27, 28], [], []⟩ rfl rfl (by decide +kernel) rfl trivial ?_
   refine CC (F' := [(29, I64 t), (30, I64 t), (31, I64 ((t:Int) - 16)), (32, Ptr nb3 (t - 16)), (33, U32 (g32 ww (t - 16))), (34, U32 (g32 ww (t - 15))), (35, U32 (rotr (g32 ww (t - 15)) 7)), (36, U32 (g32 ww (t - 15))), (37, U32 (rotr (g32 ww (t - 15)) 18)), (38, U32 ((rotr (g32 ww (t - 15)) 7) ^^^ (rotr (g32 ww (t - 15)) 18))), (39, U32 (g32 ww (t - 15))), (40, U32 ((g32 ww (t - 15)) >>> (3:UInt32))), (41, U32 (((rotr (g32 ww (t - 15)) 7) ^^^ (rotr (g32 ww (t - 15)) 18)) ^^^ ((g32 ww (t - 15)) >>> (3:UInt32)))), (42, U32 ((g32 ww (t - 16)) + (((rotr (g32 ww (t - 15)) 7) ^^^ (rotr (g32 ww (t - 15)) 18)) ^^^ ((g32 ww (t - 15)) >>> (3:UInt32))))), (43, I64 t), (44, I64 ((t:Int) - 7)), (45, Ptr nb3 (t - 7)), (46, U32 (g32 ww (t - 7))), (47, U32 (((g32 ww (t - 16)) + (((rotr (g32 ww (t - 15)) 7) ^^^ (rotr (g32 ww (t - 15)) 18)) ^^^ ((g32 ww (t - 15)) >>> (3:UInt32)))) + (g32 ww (t - 7)))), (48, U32 (g32 ww (t - 2))), (49, U32 (rotr (g32 ww (t - 2)) 17)), (50, U32 (g32 ww (t - 2))), (51, U32 (rotr (g32 ww (t - 2)) 19)), (52, U32 ((rotr (g32 ww (t - 2)) 17) ^^^ (rotr (g32 ww (t - 2)) 19))), (53, U32 (g32 ww (t - 2))), (54, U32 ((g32 ww (t - 2)) >>> (10:UInt32))), (55, U32 (((rotr (g32 ww (t - 2)) 17) ^^^ (rotr (g32 ww (t - 2)) 19)) ^^^ ((g32 ww (t - 2)) >>> (10:UInt32)))), (56, U32 ((((g32 ww (t - 16)) + (((rotr (g32 ww (t - 15)) 7) ^^^ (rotr (g32 ww (t - 15)) 18)) ^^^ ((g32 ww (t - 15)) >>> (3:UInt32)))) + (g32 ww (t - 7))) + (((rotr (g32 ww (t - 2)) 17) ^^^ (rotr (g32 ww (t - 2)) 19)) ^^^ ((g32 ww (t - 2)) >>> (10:UInt32))))), (57, Ptr nb3 t), (21, I64 t), (22, I64 ((t:Int) - 15)), (23, Ptr nb3 (t - 15)), (24, U32 (g32 ww (t - 15))), (25, I64 t), (26, I64 ((t:Int) - 2)), (27, Ptr nb3 (t - 2)), (28, U32 (g32 ww (t - 2))), (5, U32 (g32 ww (t - 15))), (6, U32 (g32 ww (t - 2))), (1, Ptr nb1 0), (2, Ptr nb2 0), (3, Ptr nb3 0), (7, I64 t), (8, .bool (decide (((t:Int)) < (64:Int)))), (9, I64 t), (4, I64 t), (10, I64 t), (11, .bool (decide (((t:Int)) < (16:Int))))]) (by kernel_rfl) ?_
   refine A5 (AC (AB (AA (I64 ((t:Int) + 1)) (AJ rfl rfl fun _ => BP _ _ ((t:Int) + 1) (by omega) (by omega)) rfl ?_)))
   refine AA _ (AG rfl) rfl ?_
   refine AI (B6 (DN (t + 1, ww.set t ((((g32 ww (t - 16)) + (((rotr (g32 ww (t - 15)) 7) ^^^ (rotr (g32 ww (t - 15)) 18)) ^^^ ((g32 ww (t - 15)) >>> (3:UInt32)))) + (g32 ww (t - 7))) + (((rotr (g32 ww (t - 2)) 17) ^^^ (rotr (g32 ww (t - 2)) 19)) ^^^ ((g32 ww (t - 2)) >>> (10:UInt32))))) ⟨by omega, by rw [spN, spS, if_neg (by omega), ← hx2], hl3⟩ (by first | (simp; omega) | simp | (dsimp only; omega) | omega) (Sub.all rfl) rfl))
 ·
  have hp1 : ¬ (((t:Int)) < (64:Int)) := of_decide_eq_false hb1
  refine DA (AQ (AQ (BV (AC (AF (AB (AA (.agg (cu32 ww).toArray) (AL rfl (BH Tryd.isAgg282 Tryd.sizeOf282 (FX hw) (AR 2 rfl (AN _)))) rfl ?_)))))))
  refine A0 (AX 1 nb2 64 (cu32 (zr32 64)) 282 (cu32 ww) rfl rfl rfl Tryd.sizeOf282 (FX hw) (by first | exact CD | exact CS | exact CR | (simp [cu8, cu32, cu64, Value.oneCell']; done)) (by simp [(F4 64)]) (A6 (by simp [(F4 64), hw]))) rfl ?_
  show JL _ _ _ _ _ [_, ⟨nb2, cu32 ww, 282, (0, 0)⟩, _]
  refine AI (AC (BO (BQ (.agg (cu32 ww).toArray) (res1 Tryd.results202 (DY rfl (BH Tryd.isAgg282 Tryd.sizeOf282 (FX hw) (AR 1 rfl (AN _))))) fun w1 hw1 => ?_)))
  have e1 : t = 64 := by omega
  subst e1
  rw [show ww = spreadL blk by rw [spreadL, hx2]]
  exact ⟨_, [], rfl, ⟨rfl, rfl⟩, hw1.sub (by simp) (by simp)⟩
set_option maxHeartbeats 2000000 in
theorem compress_c (st : List UInt32) (blk : List UInt8) (w : World) (hs0 : st.length = 8) (hb : blk.length = 64) (hG : GLs w) : Calls Tryd.prog 194 #[.agg (cu32 st).toArray, .agg (cu8 blk).toArray] w (Post w [] (fun v L => v = .agg (cu32 (comprL constL st blk)).toArray ∧ L = [])) := by
 refine enter w [] 110 [] [.agg (cu32 st).toArray, .agg (cu8 blk).toArray] Tryd.func194 rfl rfl (by simp) (BR (by simp) (by simp) (by simp)) ?_
 show JC _ _ _ [(0, .agg (cu32 st).toArray), (1, .agg (cu8 blk).toArray)] _
 refine AF (AB (AV (CG (.agg (cu32 st).toArray) (cu32 st) rfl (by first | rfl | simp)) rfl ?_))
 rintro v1 L1 ⟨nb1, hnb1, rfl, rfl⟩
 show JL _ _ _ _ ((2, Ptr nb1 0) :: _) [⟨nb1, cu32 st, 268, (0, 0)⟩]
 refine AV (CG (.agg (cu8 blk).toArray) (cu8 blk) rfl (by first | rfl | simp)) rfl ?_
 rintro v1 L1 ⟨nb2, hnb2, rfl, rfl⟩
 show JL _ _ _ _ ((3, Ptr nb2 0) :: _) [_, ⟨nb2, cu8 blk, 262, (0, 0)⟩]
 refine AV (A7 _ (cu32 (zr32 8)) Tryd.zeroValue268 (by kernel_rfl)) rfl ?_
 rintro v1 L1 ⟨nb3, hnb3, rfl, rfl⟩
 show JL _ _ _ _ ((4, Ptr nb3 0) :: _) [_, _, ⟨nb3, cu32 (zr32 8), 268, (0, 0)⟩]
 refine AI (AC (AF (AB (AA (.agg (cu32 st).toArray) (AL rfl (BH Tryd.isAgg268 EE (FX hs0) (AR 0 rfl (AN _)))) rfl ?_))))
 refine AV (A7 _ (cu32 (zr32 8)) Tryd.zeroValue268 (by kernel_rfl)) rfl ?_
 rintro v1 L1 ⟨nb4, hnb4, rfl, rfl⟩
 show JL _ _ _ _ ((5, Ptr nb4 0) :: _) [_, _, _, ⟨nb4, cu32 (zr32 8), 268, (0, 0)⟩]
 refine A0 (AX 3 nb4 8 (cu32 (zr32 8)) 268 (cu32 st) rfl rfl rfl EE (FX hs0) (by first | exact CD | exact CS | exact CR | (simp [cu8, cu32, cu64, Value.oneCell']; done)) (by simp [(F4 8)]) (A6 (by simp [(F4 8), hs0]))) rfl ?_
 show JL _ _ _ _ _ [_, _, _, ⟨nb4, cu32 st, 268, (0, 0)⟩]
 refine AI (AC (AF (AF (AB (AA (.agg (cu8 blk).toArray) (AL rfl (BH Tryd.isAgg262 E8 (A8 hb) (AR 1 rfl (AN _)))) rfl ?_)))))
 refine A0 (AY 202 [.agg (cu8 blk).toArray] (.agg (cu32 (spreadL blk)).toArray) (A4 _ Tryd.call202 rfl) (fun w1 hw1 => spread_c blk w1 hb)) rfl ?_
 show JL _ _ _ _ ((19, .agg (cu32 (spreadL blk)).toArray) :: _) [_, _, _, _]
 refine AA _ (AG rfl) rfl ?_
 refine AI (AC (A9 (CA [true, false, true, true] ?_)))
 show JC _ _ _ _ [_, _, _]
 refine DI (ι := Nat × List UInt32) (fun ⟨t, s⟩ => [(2, Ptr nb1 0), (4, Ptr nb3 0), (5, Ptr nb4 0), (19, .agg (cu32 (spreadL blk)).toArray), (20, I64 t)]) (fun ⟨t, s⟩ => [⟨nb1, cu32 st, 268, (0, 0)⟩, ⟨nb3, cu32 (zr32 8), 268, (0, 0)⟩, ⟨nb4, cu32 s, 268, (0, 0)⟩]) (fun ⟨t, s⟩ => t ≤ 64 ∧ s = cpN constL st (spreadL blk) t ∧ s.length = 8) (fun ⟨t, s⟩ => 64 - t) (0, st) ⟨by omega, by rw [cpN], hs0⟩ (Sub.all rfl) rfl ?_
 rintro ⟨t, s⟩ ⟨hx1, hx2, hs⟩
 show JC _ _ _ [(2, Ptr nb1 0), (4, Ptr nb3 0), (5, Ptr nb4 0), (19, .agg (cu32 (spreadL blk)).toArray), (20, I64 t)] [⟨nb1, cu32 st, 268, (0, 0)⟩, ⟨nb3, cu32 (zr32 8), 268, (0, 0)⟩, ⟨nb4, cu32 s, 268, (0, 0)⟩]
 refine AF (AB (AA (.bool (decide (((t:Int)) < (64:Int)))) (AJ rfl rfl fun _ => B9 _ _) rfl ?_))
 refine AI (AC (AF (B5 (decide (((t:Int)) < (64:Int))) rfl (fun hb1 => ?_) (fun hb1 => ?_))))
 ·
  have hp1 : ((t:Int)) < (64:Int) := of_decide_eq_true hb1
  refine BJ (AC (AF (A9 (AF (AB (AA _ (AG rfl) rfl ?_))))))
  refine AA (U32 (g32 (spreadL blk) t)) (Ev_index1 64 267 _ BU BK BA rfl rfl (by omega) (by omega) (Seg.get1 (Seg.get (DT (i := t) (by rw [(spreadL_len _)]; omega))) (by omega))) rfl ?_
  refine AA _ (AE rfl) rfl ?_
  refine AA _ (AE rfl) rfl ?_
  refine AI (AC (AF (CT 110 1 [(0, Ptr nb4 0), (1, U32 (g32 s 0)), (2, Ptr nb4 1), (3, U32 (g32 s 1)), (4, Ptr nb4 2), (5, U32 (g32 s 2)), (6, Ptr nb4 4), (7, U32 (g32 s 4)), (8, Ptr nb4 5), (9, U32 (g32 s 5)), (10, Ptr nb4 6), (11, U32 (g32 s 6)), (12, U32 (g32 s 0)), (13, U32 (g32 s 1)), (14, U32 (g32 s 2)), (15, U32 (g32 s 4)), (16, U32 (g32 s 5)), (17, U32 (g32 s 6))] BL rfl (by decide +kernel) ?_)))
  refine DE ⟨[], [0, 1, 2, 3, 4, 5, 6, 7, 8, 9, 10, 11, 12, 13, 14, 15, 16, 17], [], [0, 1, 2, 3, 4, 5, 6, 7, 8, 9, 10, 11, 12, 13, 14, 15, 16, 17], []⟩ rfl rfl (by decide +kernel) rfl ⟨⟨_, rfl, AD rfl (A1 8 267 1 0 BX BA rfl rfl (by omega) (by omega) (by omega))⟩, ⟨_, rfl, AD rfl (AL rfl (AZ BK (AR 2 rfl (Seg.get (DT (i := 0) (by rw [hs]; omega))))))⟩, ⟨_, rfl, AD rfl (A1 8 267 1 1 BX BA rfl rfl (by omega) (by omega) (by omega))⟩, ⟨_, rfl, AD rfl (AL rfl (AZ BK (AR 2 rfl (Seg.get (DT (i := 1) (by rw [hs]; omega))))))⟩, ⟨_, rfl, AD rfl (A1 8 267 1 2 BX BA rfl rfl (by omega) (by omega) (by omega))⟩, ⟨_, rfl, AD rfl (AL rfl (AZ BK (AR 2 rfl (Seg.get (DT (i := 2) (by rw [hs]; omega))))))⟩, ⟨_, rfl, AD rfl (A1 8 267 1 4 BX BA rfl rfl (by omega) (by omega) (by omega))⟩, ⟨_, rfl, AD rfl (AL rfl (AZ BK (AR 2 rfl (Seg.get (DT (i := 4) (by rw [hs]; omega))))))⟩, ⟨_, rfl, AD rfl (A1 8 267 1 5 BX BA rfl rfl (by omega) (by omega) (by omega))⟩, ⟨_, rfl, AD rfl (AL rfl (AZ BK (AR 2 rfl (Seg.get (DT (i := 5) (by rw [hs]; omega))))))⟩, ⟨_, rfl, AD rfl (A1 8 267 1 6 BX BA rfl rfl (by omega) (by omega) (by omega))⟩, ⟨_, rfl, AD rfl (AL rfl (AZ BK (AR 2 rfl (Seg.get (DT (i := 6) (by rw [hs]; omega))))))⟩, ⟨_, rfl, AD rfl (AE rfl)⟩, ⟨_, rfl, AD rfl (AE rfl)⟩, ⟨_, rfl, AD rfl (AE rfl)⟩, ⟨_, rfl, AD rfl (AE rfl)⟩, ⟨_, rfl, AD rfl (AE rfl)⟩, ⟨_, rfl, AD rfl (AE rfl)⟩, trivial⟩ ?_
  refine CC (F' := [(24, Ptr nb4 0), (25, U32 (g32 s 0)), (26, Ptr nb4 1), (27, U32 (g32 s 1)), (28, Ptr nb4 2), (29, U32 (g32 s 2)), (30, Ptr nb4 4), (31, U32 (g32 s 4)), (32, Ptr nb4 5), (33, U32 (g32 s 5)), (34, Ptr nb4 6), (35, U32 (g32 s 6)), (8, U32 (g32 s 0)), (9, U32 (g32 s 1)), (10, U32 (g32 s 2)), (11, U32 (g32 s 4)), (12, U32 (g32 s 5)), (13, U32 (g32 s 6)), (2, Ptr nb1 0), (4, Ptr nb3 0), (5, Ptr nb4 0), (19, .agg (cu32 (spreadL blk)).toArray), (20, I64 t), (21, .bool (decide (((t:Int)) < (64:Int)))), (22, I64 t), (23, U32 (g32 (spreadL blk) t)), (6, I64 t), (7, U32 (g32 (spreadL blk) t))]) (by kernel_rfl) ?_
  refine AC (AF (CT 110 4 [(0, Ptr nb4 7), (1, U32 (g32 s 7)), (2, U32 (g32 s 4)), (4, U32 (g32 s 4)), (7, U32 (g32 s 4)), (11, U32 (g32 s 4)), (12, U32 (g32 s 5)), (13, U32 ((g32 s 4) &&& (g32 s 5))), (14, U32 (g32 s 4)), (15, U32 (~~~(g32 s 4))), (16, U32 (g32 s 6)), (17, U32 ((~~~(g32 s 4)) &&& (g32 s 6))), (18, U32 (((g32 s 4) &&& (g32 s 5)) ^^^ ((~~~(g32 s 4)) &&& (g32 s 6)))), (20, I64 t), (21, Ptr 5 t), (22, U32 (g32 constL t)), (24, U32 (g32 (spreadL blk) t))] BL rfl (by decide +kernel) ?_))
  refine C2 ⟨[], [0, 1, 2, 4, 7, 11, 12, 13, 14, 15, 16, 17, 18, 20, 21, 22, 24], [], [0, 1, 2, 4, 7, 11, 12, 13, 14, 15, 16, 17, 18, 20, 21, 22, 24], [3]⟩ 3 rfl rfl (by decide +kernel) rfl ⟨⟨_, rfl, AD rfl (A1 8 267 1 7 BX BA rfl rfl (by omega) (by omega) (by omega))⟩, ⟨_, rfl, AD rfl (AL rfl (AZ BK (AR 2 rfl (Seg.get (DT (i := 7) (by rw [hs]; omega))))))⟩, AU rfl rfl rfl, AU rfl rfl rfl, AU rfl rfl rfl, AU rfl rfl rfl, AU rfl rfl rfl, ⟨_, rfl, AD rfl (AJ rfl rfl fun _ => EF (g32 s 4) (g32 s 5))⟩, AU rfl rfl rfl, ⟨_, rfl, AD rfl (Ev_un _ _ rfl fun _ => GN _)⟩, AU rfl rfl rfl, ⟨_, rfl, AD rfl (AJ rfl rfl fun _ => EF (~~~(g32 s 4)) (g32 s 6))⟩, ⟨_, rfl, AD rfl (AJ rfl rfl fun _ => DL ((g32 s 4) &&& (g32 s 5)) ((~~~(g32 s 4)) &&& (g32 s 6)))⟩, AU rfl rfl rfl, ⟨_, rfl, AD rfl (A1 64 267 1 t BU BA rfl rfl (by omega) (by omega) (by omega))⟩, ⟨_, rfl, AD rfl (AL rfl (AZ BK (BW (hG.1.mem (by simp)) (Seg.get (DT (i := t) (by rw [F7]; omega))) (by omega))))⟩, AU rfl rfl rfl, trivial⟩ rfl (AW rfl (AY 203 [U32 (g32 s 4), I64 6] (U32 (rotr (g32 s 4) 6)) (A4 _ Tryd.call203 rfl) (fun w1 hw1 => turn_c (g32 s 4) 6 w1 (by omega) (by omega)))) ?_
  show DP _ _ _ _ _ _ _ _ [_, _, _]
  refine CU ⟨[3], [0, 1, 2, 4, 7, 11, 12, 13, 14, 15, 16, 17, 18, 20, 21, 22, 24], [2], [0, 1, 4, 7, 11, 12, 13, 14, 15, 16, 17, 18, 20, 21, 22, 24], [5]⟩ 5 _ rfl rfl (by decide +kernel) rfl ⟨⟨_, rfl, AD rfl (A1 8 267 1 7 BX BA rfl rfl (by omega) (by omega) (by omega))⟩, ⟨_, rfl, AD rfl (AL rfl (AZ BK (AR 2 rfl (Seg.get (DT (i := 7) (by rw [hs]; omega))))))⟩, AU rfl rfl rfl, AU rfl rfl rfl, AU rfl rfl rfl, AU rfl rfl rfl, ⟨_, rfl, AD rfl (AJ rfl rfl fun _ => EF (g32 s 4) (g32 s 5))⟩, AU rfl rfl rfl, ⟨_, rfl, AD rfl (Ev_un _ _ rfl fun _ => GN _)⟩, AU rfl rfl rfl, ⟨_, rfl, AD rfl (AJ rfl rfl fun _ => EF (~~~(g32 s 4)) (g32 s 6))⟩, ⟨_, rfl, AD rfl (AJ rfl rfl fun _ => DL ((g32 s 4) &&& (g32 s 5)) ((~~~(g32 s 4)) &&& (g32 s 6)))⟩, AU rfl rfl rfl, ⟨_, rfl, AD rfl (A1 64 267 1 t BU BA rfl rfl (by omega) (by omega) (by omega))⟩, ⟨_, rfl, AD rfl (AL rfl (AZ BK (BW (hG.1.mem (by simp)) (Seg.get (DT (i := t) (by rw [F7]; omega))) (by omega))))⟩, AU rfl rfl rfl, trivial⟩ rfl (AW rfl (AY 203 [U32 (g32 s 4), I64 11] (U32 (rotr (g32 s 4) 11)) (A4 _ Tryd.call203 rfl) (fun w1 hw1 => turn_c (g32 s 4) 11 w1 (by omega) (by omega)))) ?_
  rintro v1 L1 ⟨rfl, rfl⟩
  refine ⟨[(6, U32 ((rotr (g32 s 4) 6) ^^^ (rotr (g32 s 4) 11)))], ?_⟩
  show DP _ _ _ _ _ _ _ _ [_, _, _]
  refine CU ⟨[3, 5], [0, 1, 2, 4, 6, 7, 11, 12, 13, 14, 15, 16, 17, 18, 20, 21, 22, 24], [2, 4], [0, 1, 6, 7, 11, 12, 13, 14, 15, 16, 17, 18, 20, 21, 22, 24], [8]⟩ 8 _ rfl rfl (by decide +kernel) rfl ⟨⟨_, rfl, AD rfl (A1 8 267 1 7 BX BA rfl rfl (by omega) (by omega) (by omega))⟩, ⟨_, rfl, AD rfl (AL rfl (AZ BK (AR 2 rfl (Seg.get (DT (i := 7) (by rw [hs]; omega))))))⟩, ⟨_, rfl, AD rfl (AJ rfl rfl fun _ => DL (rotr (g32 s 4) 6) (rotr (g32 s 4) 11))⟩, AU rfl rfl rfl, AU rfl rfl rfl, AU rfl rfl rfl, ⟨_, rfl, AD rfl (AJ rfl rfl fun _ => EF (g32 s 4) (g32 s 5))⟩, AU rfl rfl rfl, ⟨_, rfl, AD rfl (Ev_un _ _ rfl fun _ => GN _)⟩, AU rfl rfl rfl, ⟨_, rfl, AD rfl (AJ rfl rfl fun _ => EF (~~~(g32 s 4)) (g32 s 6))⟩, ⟨_, rfl, AD rfl (AJ rfl rfl fun _ => DL ((g32 s 4) &&& (g32 s 5)) ((~~~(g32 s 4)) &&& (g32 s 6)))⟩, AU rfl rfl rfl, ⟨_, rfl, AD rfl (A1 64 267 1 t BU BA rfl rfl (by omega) (by omega) (by omega))⟩, ⟨_, rfl, AD rfl (AL rfl (AZ BK (BW (hG.1.mem (by simp)) (Seg.get (DT (i := t) (by rw [F7]; omega))) (by omega))))⟩, AU rfl rfl rfl, trivial⟩ rfl (AW rfl (AY 203 [U32 (g32 s 4), I64 25] (U32 (rotr (g32 s 4) 25)) (A4 _ Tryd.call203 rfl) (fun w1 hw1 => turn_c (g32 s 4) 25 w1 (by omega) (by omega)))) ?_
  rintro v1 L1 ⟨rfl, rfl⟩
  refine ⟨[(9, U32 (((rotr (g32 s 4) 6) ^^^ (rotr (g32 s 4) 11)) ^^^ (rotr (g32 s 4) 25))), (10, U32 ((g32 s 7) + (((rotr (g32 s 4) 6) ^^^ (rotr (g32 s 4) 11)) ^^^ (rotr (g32 s 4) 25)))), (19, U32 (((g32 s 7) + (((rotr (g32 s 4) 6) ^^^ (rotr (g32 s 4) 11)) ^^^ (rotr (g32 s 4) 25))) + (((g32 s 4) &&& (g32 s 5)) ^^^ ((~~~(g32 s 4)) &&& (g32 s 6))))), (23, U32 ((((g32 s 7) + (((rotr (g32 s 4) 6) ^^^ (rotr (g32 s 4) 11)) ^^^ (rotr (g32 s 4) 25))) + (((g32 s 4) &&& (g32 s 5)) ^^^ ((~~~(g32 s 4)) &&& (g32 s 6)))) + (g32 constL t))), (25, U32 (((((g32 s 7) + (((rotr (g32 s 4) 6) ^^^ (rotr (g32 s 4) 11)) ^^^ (rotr (g32 s 4) 25))) + (((g32 s 4) &&& (g32 s 5)) ^^^ ((~~~(g32 s 4)) &&& (g32 s 6)))) + (g32 constL t)) + (g32 (spreadL blk) t))), (26, U32 (((((g32 s 7) + (((rotr (g32 s 4) 6) ^^^ (rotr (g32 s 4) 11)) ^^^ (rotr (g32 s 4) 25))) + (((g32 s 4) &&& (g32 s 5)) ^^^ ((~~~(g32 s 4)) &&& (g32 s 6)))) + (g32 constL t)) + (g32 (spreadL blk) t)))], ?_⟩
  show DP _ _ _ _ _ _ _ _ [_, _, _]
  refine DE ⟨[3, 5, 8], [0, 1, 2, 4, 6, 7, 9, 10, 11, 12, 13, 14, 15, 16, 17, 18, 19, 20, 21, 22, 23, 24, 25, 26], [2, 4, 7], [0, 1, 6, 9, 10, 11, 12, 13, 14, 15, 16, 17, 18, 19, 20, 21, 22, 23, 24, 25, 26], []⟩ rfl rfl (by decide +kernel) rfl ⟨⟨_, rfl, AD rfl (A1 8 267 1 7 BX BA rfl rfl (by omega) (by omega) (by omega))⟩, ⟨_, rfl, AD rfl (AL rfl (AZ BK (AR 2 rfl (Seg.get (DT (i := 7) (by rw [hs]; omega))))))⟩, ⟨_, rfl, AD rfl (AJ rfl rfl fun _ => DL (rotr (g32 s 4) 6) (rotr (g32 s 4) 11))⟩, ⟨_, rfl, AD rfl (AJ rfl rfl fun _ => DL ((rotr (g32 s 4) 6) ^^^ (rotr (g32 s 4) 11)) (rotr (g32 s 4) 25))⟩, ⟨_, rfl, AD rfl (AJ rfl rfl fun _ => DM (g32 s 7) (((rotr (g32 s 4) 6) ^^^ (rotr (g32 s 4) 11)) ^^^ (rotr (g32 s 4) 25)))⟩, AU rfl rfl rfl, AU rfl rfl rfl, ⟨_, rfl, AD rfl (AJ rfl rfl fun _ => EF (g32 s 4) (g32 s 5))⟩, AU rfl rfl rfl, ⟨_, rfl, AD rfl (Ev_un _ _ rfl fun _ => GN _)⟩, AU rfl rfl rfl, ⟨_, rfl, AD rfl (AJ rfl rfl fun _ => EF (~~~(g32 s 4)) (g32 s 6))⟩, ⟨_, rfl, AD rfl (AJ rfl rfl fun _ => DL ((g32 s 4) &&& (g32 s 5)) ((~~~(g32 s 4)) &&& (g32 s 6)))⟩, ⟨_, rfl, AD rfl (AJ rfl rfl fun _ => DM ((g32 s 7) + (((rotr (g32 s 4) 6) ^^^ (rotr (g32 s 4) 11)) ^^^ (rotr (g32 s 4) 25))) (((g32 s 4) &&& (g32 s 5)) ^^^ ((~~~(g32 s 4)) &&& (g32 s 6))))⟩, AU rfl rfl rfl, ⟨_, rfl, AD rfl (A1 64 267 1 t BU BA rfl rfl (by omega) (by omega) (by omega))⟩, ⟨_, rfl, AD rfl (AL rfl (AZ BK (BW (hG.1.mem (by simp)) (Seg.get (DT (i := t) (by rw [F7]; omega))) (by omega))))⟩, ⟨_, rfl, AD rfl (AJ rfl rfl fun _ => DM (((g32 s 7) + (((rotr (g32 s 4) 6) ^^^ (rotr (g32 s 4) 11)) ^^^ (rotr (g32 s 4) 25))) + (((g32 s 4) &&& (g32 s 5)) ^^^ ((~~~(g32 s 4)) &&& (g32 s 6)))) (g32 constL t))⟩, AU rfl rfl rfl, ⟨_, rfl, AD rfl (AJ rfl rfl fun _ => DM ((((g32 s 7) + (((rotr (g32 s 4) 6) ^^^ (rotr (g32 s 4) 11)) ^^^ (rotr (g32 s 4) 25))) + (((g32 s 4) &&& (g32 s 5)) ^^^ ((~~~(g32 s 4)) &&& (g32 s 6)))) + (g32 constL t)) (g32 (spreadL blk) t))⟩, ⟨_, rfl, AD rfl (AE rfl)⟩, trivial⟩ ?_
  refine CC (F' := [(36, Ptr nb4 7), (37, U32 (g32 s 7)), (38, U32 (g32 s 4)), (39, U32 (rotr (g32 s 4) 6)), (40, U32 (g32 s 4)), (41, U32 (rotr (g32 s 4) 11)), (42, U32 ((rotr (g32 s 4) 6) ^^^ (rotr (g32 s 4) 11))), (43, U32 (g32 s 4)), (44, U32 (rotr (g32 s 4) 25)), (45, U32 (((rotr (g32 s 4) 6) ^^^ (rotr (g32 s 4) 11)) ^^^ (rotr (g32 s 4) 25))), (46, U32 ((g32 s 7) + (((rotr (g32 s 4) 6) ^^^ (rotr (g32 s 4) 11)) ^^^ (rotr (g32 s 4) 25)))), (47, U32 (g32 s 4)), (48, U32 (g32 s 5)), (49, U32 ((g32 s 4) &&& (g32 s 5))), (50, U32 (g32 s 4)), (51, U32 (~~~(g32 s 4))), (52, U32 (g32 s 6)), (53, U32 ((~~~(g32 s 4)) &&& (g32 s 6))), (54, U32 (((g32 s 4) &&& (g32 s 5)) ^^^ ((~~~(g32 s 4)) &&& (g32 s 6)))), (55, U32 (((g32 s 7) + (((rotr (g32 s 4) 6) ^^^ (rotr (g32 s 4) 11)) ^^^ (rotr (g32 s 4) 25))) + (((g32 s 4) &&& (g32 s 5)) ^^^ ((~~~(g32 s 4)) &&& (g32 s 6))))), (56, I64 t), (57, Ptr 5 t), (58, U32 (g32 constL t)), (59, U32 ((((g32 s 7) + (((rotr (g32 s 4) 6) ^^^ (rotr (g32 s 4) 11)) ^^^ (rotr (g32 s 4) 25))) + (((g32 s 4) &&& (g32 s 5)) ^^^ ((~~~(g32 s 4)) &&& (g32 s 6)))) + (g32 constL t))), (60, U32 (g32 (spreadL blk) t)), (61, U32 (((((g32 s 7) + (((rotr (g32 s 4) 6) ^^^ (rotr (g32 s 4) 11)) ^^^ (rotr (g32 s 4) 25))) + (((g32 s 4) &&& (g32 s 5)) ^^^ ((~~~(g32 s 4)) &&& (g32 s 6)))) + (g32 constL t)) + (g32 (spreadL blk) t))), (14, U32 (((((g32 s 7) + (((rotr (g32 s 4) 6) ^^^ (rotr (g32 s 4) 11)) ^^^ (rotr (g32 s 4) 25))) + (((g32 s 4) &&& (g32 s 5)) ^^^ ((~~~(g32 s 4)) &&& (g32 s 6)))) + (g32 constL t)) + (g32 (spreadL blk) t))), (24, Ptr nb4 0), (25, U32 (g32 s 0)), (26, Ptr nb4 1), (27, U32 (g32 s 1)), (28, Ptr nb4 2), (29, U32 (g32 s 2)), (30, Ptr nb4 4), (31, U32 (g32 s 4)), (32, Ptr nb4 5), (33, U32 (g32 s 5)), (34, Ptr nb4 6), (35, U32 (g32 s 6)), (8, U32 (g32 s 0)), (9, U32 (g32 s 1)), (10, U32 (g32 s 2)), (11, U32 (g32 s 4)), (12, U32 (g32 s 5)), (13, U32 (g32 s 6)), (2, Ptr nb1 0), (4, Ptr nb3 0), (5, Ptr nb4 0), (19, .agg (cu32 (spreadL blk)).toArray), (20, I64 t), (21, .bool (decide (((t:Int)) < (64:Int)))), (22, I64 t), (23, U32 (g32 (spreadL blk) t)), (6, I64 t), (7, U32 (g32 (spreadL blk) t))]) (by kernel_rfl) ?_
  refine AC (AF (AB (AA _ (AG rfl) rfl ?_)))
  refine A0 (AY 203 [U32 (g32 s 0), I64 2] (U32 (rotr (g32 s 0) 2)) (A4 _ Tryd.call203 rfl) (fun w1 hw1 => turn_c (g32 s 0) 2 w1 (by omega) (by omega))) rfl ?_
  show JL _ _ _ _ ((63, U32 (rotr (g32 s 0) 2)) :: _) [_, _, _]
  refine AA _ (AG rfl) rfl ?_
  refine A0 (AY 203 [U32 (g32 s 0), I64 13] (U32 (rotr (g32 s 0) 13)) (A4 _ Tryd.call203 rfl) (fun w1 hw1 => turn_c (g32 s 0) 13 w1 (by omega) (by omega))) rfl ?_
  show JL _ _ _ _ ((65, U32 (rotr (g32 s 0) 13)) :: _) [_, _, _]
  refine AA (U32 ((rotr (g32 s 0) 2) ^^^ (rotr (g32 s 0) 13))) (AJ rfl rfl fun _ => DL (rotr (g32 s 0) 2) (rotr (g32 s 0) 13)) rfl ?_
  refine AA _ (AG rfl) rfl ?_
  refine A0 (AY 203 [U32 (g32 s 0), I64 22] (U32 (rotr (g32 s 0) 22)) (A4 _ Tryd.call203 rfl) (fun w1 hw1 => turn_c (g32 s 0) 22 w1 (by omega) (by omega))) rfl ?_
  show JL _ _ _ _ ((68, U32 (rotr (g32 s 0) 22)) :: _) [_, _, _]
  refine AA (U32 (((rotr (g32 s 0) 2) ^^^ (rotr (g32 s 0) 13)) ^^^ (rotr (g32 s 0) 22))) (AJ rfl rfl fun _ => DL ((rotr (g32 s 0) 2) ^^^ (rotr (g32 s 0) 13)) (rotr (g32 s 0) 22)) rfl ?_
  refine AA _ (AG rfl) rfl ?_
  refine AA _ (AG rfl) rfl ?_
  refine AA (U32 ((g32 s 0) &&& (g32 s 1))) (AJ rfl rfl fun _ => EF (g32 s 0) (g32 s 1)) rfl ?_
  refine AA _ (AG rfl) rfl ?_
  refine AA _ (AG rfl) rfl ?_
  refine AA (U32 ((g32 s 0) &&& (g32 s 2))) (AJ rfl rfl fun _ => EF (g32 s 0) (g32 s 2)) rfl ?_
  refine AA (U32 (((g32 s 0) &&& (g32 s 1)) ^^^ ((g32 s 0) &&& (g32 s 2)))) (AJ rfl rfl fun _ => DL ((g32 s 0) &&& (g32 s 1)) ((g32 s 0) &&& (g32 s 2))) rfl ?_
  refine AA _ (AG rfl) rfl ?_
  refine AA _ (AG rfl) rfl ?_
  refine AA (U32 ((g32 s 1) &&& (g32 s 2))) (AJ rfl rfl fun _ => EF (g32 s 1) (g32 s 2)) rfl ?_
  refine AA (U32 ((((g32 s 0) &&& (g32 s 1)) ^^^ ((g32 s 0) &&& (g32 s 2))) ^^^ ((g32 s 1) &&& (g32 s 2)))) (AJ rfl rfl fun _ => DL (((g32 s 0) &&& (g32 s 1)) ^^^ ((g32 s 0) &&& (g32 s 2))) ((g32 s 1) &&& (g32 s 2))) rfl ?_
  refine AA (U32 ((((rotr (g32 s 0) 2) ^^^ (rotr (g32 s 0) 13)) ^^^ (rotr (g32 s 0) 22)) + ((((g32 s 0) &&& (g32 s 1)) ^^^ ((g32 s 0) &&& (g32 s 2))) ^^^ ((g32 s 1) &&& (g32 s 2))))) (AJ rfl rfl fun _ => DM (((rotr (g32 s 0) 2) ^^^ (rotr (g32 s 0) 13)) ^^^ (rotr (g32 s 0) 22)) ((((g32 s 0) &&& (g32 s 1)) ^^^ ((g32 s 0) &&& (g32 s 2))) ^^^ ((g32 s 1) &&& (g32 s 2)))) rfl ?_
  refine AA _ (AE rfl) rfl ?_
  refine AI (AC (AB (AA _ (AG rfl) rfl ?_)))
  refine AA _ (AG rfl) rfl ?_
  refine AA (U32 ((((((g32 s 7) + (((rotr (g32 s 4) 6) ^^^ (rotr (g32 s 4) 11)) ^^^ (rotr (g32 s 4) 25))) + (((g32 s 4) &&& (g32 s 5)) ^^^ ((~~~(g32 s 4)) &&& (g32 s 6)))) + (g32 constL t)) + (g32 (spreadL blk) t)) + ((((rotr (g32 s 0) 2) ^^^ (rotr (g32 s 0) 13)) ^^^ (rotr (g32 s 0) 22)) + ((((g32 s 0) &&& (g32 s 1)) ^^^ ((g32 s 0) &&& (g32 s 2))) ^^^ ((g32 s 1) &&& (g32 s 2)))))) (AJ rfl rfl fun _ => DM (((((g32 s 7) + (((rotr (g32 s 4) 6) ^^^ (rotr (g32 s 4) 11)) ^^^ (rotr (g32 s 4) 25))) + (((g32 s 4) &&& (g32 s 5)) ^^^ ((~~~(g32 s 4)) &&& (g32 s 6)))) + (g32 constL t)) + (g32 (spreadL blk) t)) ((((rotr (g32 s 0) 2) ^^^ (rotr (g32 s 0) 13)) ^^^ (rotr (g32 s 0) 22)) + ((((g32 s 0) &&& (g32 s 1)) ^^^ ((g32 s 0) &&& (g32 s 2))) ^^^ ((g32 s 1) &&& (g32 s 2))))) rfl ?_
  refine AA _ (AG rfl) rfl ?_
  refine AA _ (AG rfl) rfl ?_
  refine AA _ (AG rfl) rfl ?_
  refine AA (Ptr nb4 3) (A1 8 267 1 3 BX BA rfl rfl (by omega) (by omega) (by omega)) rfl ?_
  refine AA (U32 (g32 s 3)) (AL rfl (AZ BK (AR 2 rfl (Seg.get (DT (i := 3) (by rw [hs]; omega)))))) rfl ?_
  refine AA _ (AG rfl) rfl ?_
  refine AA (U32 ((g32 s 3) + (((((g32 s 7) + (((rotr (g32 s 4) 6) ^^^ (rotr (g32 s 4) 11)) ^^^ (rotr (g32 s 4) 25))) + (((g32 s 4) &&& (g32 s 5)) ^^^ ((~~~(g32 s 4)) &&& (g32 s 6)))) + (g32 constL t)) + (g32 (spreadL blk) t)))) (AJ rfl rfl fun _ => DM (g32 s 3) (((((g32 s 7) + (((rotr (g32 s 4) 6) ^^^ (rotr (g32 s 4) 11)) ^^^ (rotr (g32 s 4) 25))) + (((g32 s 4) &&& (g32 s 5)) ^^^ ((~~~(g32 s 4)) &&& (g32 s 6)))) + (g32 constL t)) + (g32 (spreadL blk) t))) rfl ?_
  refine AA _ (AG rfl) rfl ?_
  refine AA _ (AG rfl) rfl ?_
  refine AA _ (AG rfl) rfl ?_
  refine AA (.agg (cu32 ([(((((g32 s 7) + (((rotr (g32 s 4) 6) ^^^ (rotr (g32 s 4) 11)) ^^^ (rotr (g32 s 4) 25))) + (((g32 s 4) &&& (g32 s 5)) ^^^ ((~~~(g32 s 4)) &&& (g32 s 6)))) + (g32 constL t)) + (g32 (spreadL blk) t)) + ((((rotr (g32 s 0) 2) ^^^ (rotr (g32 s 0) 13)) ^^^ (rotr (g32 s 0) 22)) + ((((g32 s 0) &&& (g32 s 1)) ^^^ ((g32 s 0) &&& (g32 s 2))) ^^^ ((g32 s 1) &&& (g32 s 2)))), g32 s 0, g32 s 1, g32 s 2, (g32 s 3) + (((((g32 s 7) + (((rotr (g32 s 4) 6) ^^^ (rotr (g32 s 4) 11)) ^^^ (rotr (g32 s 4) 25))) + (((g32 s 4) &&& (g32 s 5)) ^^^ ((~~~(g32 s 4)) &&& (g32 s 6)))) + (g32 constL t)) + (g32 (spreadL blk) t)), g32 s 4, g32 s 5, g32 s 6])).toArray) (DG [(0, U32 ((((((g32 s 7) + (((rotr (g32 s 4) 6) ^^^ (rotr (g32 s 4) 11)) ^^^ (rotr (g32 s 4) 25))) + (((g32 s 4) &&& (g32 s 5)) ^^^ ((~~~(g32 s 4)) &&& (g32 s 6)))) + (g32 constL t)) + (g32 (spreadL blk) t)) + ((((rotr (g32 s 0) 2) ^^^ (rotr (g32 s 0) 13)) ^^^ (rotr (g32 s 0) 22)) + ((((g32 s 0) &&& (g32 s 1)) ^^^ ((g32 s 0) &&& (g32 s 2))) ^^^ ((g32 s 1) &&& (g32 s 2)))))), (1, U32 (g32 s 0)), (2, U32 (g32 s 1)), (3, U32 (g32 s 2)), (4, U32 ((g32 s 3) + (((((g32 s 7) + (((rotr (g32 s 4) 6) ^^^ (rotr (g32 s 4) 11)) ^^^ (rotr (g32 s 4) 25))) + (((g32 s 4) &&& (g32 s 5)) ^^^ ((~~~(g32 s 4)) &&& (g32 s 6)))) + (g32 constL t)) + (g32 (spreadL blk) t)))), (5, U32 (g32 s 4)), (6, U32 (g32 s 5)), (7, U32 (g32 s 6))] _ rfl (fun _ => by kernel_rfl)) rfl ?_
  refine A0 (AX 2 nb4 8 (cu32 s) 268 (cu32 ([(((((g32 s 7) + (((rotr (g32 s 4) 6) ^^^ (rotr (g32 s 4) 11)) ^^^ (rotr (g32 s 4) 25))) + (((g32 s 4) &&& (g32 s 5)) ^^^ ((~~~(g32 s 4)) &&& (g32 s 6)))) + (g32 constL t)) + (g32 (spreadL blk) t)) + ((((rotr (g32 s 0) 2) ^^^ (rotr (g32 s 0) 13)) ^^^ (rotr (g32 s 0) 22)) + ((((g32 s 0) &&& (g32 s 1)) ^^^ ((g32 s 0) &&& (g32 s 2))) ^^^ ((g32 s 1) &&& (g32 s 2)))), g32 s 0, g32 s 1, g32 s 2, (g32 s 3) + (((((g32 s 7) + (((rotr (g32 s 4) 6) ^^^ (rotr (g32 s 4) 11)) ^^^ (rotr (g32 s 4) 25))) + (((g32 s 4) &&& (g32 s 5)) ^^^ ((~~~(g32 s 4)) &&& (g32 s 6)))) + (g32 constL t)) + (g32 (spreadL blk) t)), g32 s 4, g32 s 5, g32 s 6])) rfl rfl rfl EE (by simp []) (by first | exact CD | exact CS | exact CR | (simp [cu8, cu32, cu64, Value.oneCell']; done)) (by simp [hs]) (A6 (by simp [hs]))) rfl ?_
  show JL _ _ _ _ _ [_, _, ⟨nb4, cu32 ([(((((g32 s 7) + (((rotr (g32 s 4) 6) ^^^ (rotr (g32 s 4) 11)) ^^^ (rotr (g32 s 4) 25))) + (((g32 s 4) &&& (g32 s 5)) ^^^ ((~~~(g32 s 4)) &&& (g32 s 6)))) + (g32 constL t)) + (g32 (spreadL blk) t)) + ((((rotr (g32 s 0) 2) ^^^ (rotr (g32 s 0) 13)) ^^^ (rotr (g32 s 0) 22)) + ((((g32 s 0) &&& (g32 s 1)) ^^^ ((g32 s 0) &&& (g32 s 2))) ^^^ ((g32 s 1) &&& (g32 s 2)))), g32 s 0, g32 s 1, g32 s 2, (g32 s 3) + (((((g32 s 7) + (((rotr (g32 s 4) 6) ^^^ (rotr (g32 s 4) 11)) ^^^ (rotr (g32 s 4) 25))) + (((g32 s 4) &&& (g32 s 5)) ^^^ ((~~~(g32 s 4)) &&& (g32 s 6)))) + (g32 constL t)) + (g32 (spreadL blk) t)), g32 s 4, g32 s 5, g32 s 6]), 268, (0, 0)⟩]
  refine AI (A5 (AC (AB (AA (I64 ((t:Int) + 1)) (AJ rfl rfl fun _ => BP _ _ ((t:Int) + 1) (by omega) (by omega)) rfl ?_))))
  refine AA _ (AG rfl) rfl ?_
  refine AI (B6 (DN (t + 1, [(((((g32 s 7) + (((rotr (g32 s 4) 6) ^^^ (rotr (g32 s 4) 11)) ^^^ (rotr (g32 s 4) 25))) + (((g32 s 4) &&& (g32 s 5)) ^^^ ((~~~(g32 s 4)) &&& (g32 s 6)))) + (g32 constL t)) + (g32 (spreadL blk) t)) + ((((rotr (g32 s 0) 2) ^^^ (rotr (g32 s 0) 13)) ^^^ (rotr (g32 s 0) 22)) + ((((g32 s 0) &&& (g32 s 1)) ^^^ ((g32 s 0) &&& (g32 s 2))) ^^^ ((g32 s 1) &&& (g32 s 2)))), g32 s 0, g32 s 1, g32 s 2, (g32 s 3) + (((((g32 s 7) + (((rotr (g32 s 4) 6) ^^^ (rotr (g32 s 4) 11)) ^^^ (rotr (g32 s 4) 25))) + (((g32 s 4) &&& (g32 s 5)) ^^^ ((~~~(g32 s 4)) &&& (g32 s 6)))) + (g32 constL t)) + (g32 (spreadL blk) t)), g32 s 4, g32 s 5, g32 s 6]) ⟨by omega, by rw [cpN, ← hx2]; rfl, rfl⟩ (by first | (simp; omega) | simp | (dsimp only; omega) | omega) (Sub.all rfl) rfl))
 ·
  have hp1 : ¬ (((t:Int)) < (64:Int)) := of_decide_eq_false hb1
  refine DA (AQ (AQ (BV (AC (AF (AF (AB (AA _ (AG rfl) rfl ?_))))))))
  refine AI (AC (A9 (DI (ι := Nat × List UInt32) (fun ⟨i, u⟩ => [(2, Ptr nb1 0), (4, Ptr nb3 0), (5, Ptr nb4 0), (97, I64 i)]) (fun ⟨i, u⟩ => [⟨nb1, cu32 st, 268, (0, 0)⟩, ⟨nb3, cu32 (zr32 8), 268, (0, 0)⟩, ⟨nb4, cu32 u, 268, (0, 0)⟩]) (fun ⟨i, u⟩ => i ≤ 8 ∧ u = adN st s i ∧ u.length = 8) (fun ⟨i, u⟩ => 8 - i) (0, s) ⟨by omega, by rw [adN], hs⟩ (Sub.all rfl) rfl ?_)))
  rintro ⟨i, u⟩ ⟨hy1, hy2, hu⟩
  show JC _ _ _ [(2, Ptr nb1 0), (4, Ptr nb3 0), (5, Ptr nb4 0), (97, I64 i)] [⟨nb1, cu32 st, 268, (0, 0)⟩, ⟨nb3, cu32 (zr32 8), 268, (0, 0)⟩, ⟨nb4, cu32 u, 268, (0, 0)⟩]
  refine AF (AB (AA (.bool (decide (((i:Int)) < (8:Int)))) (AJ rfl rfl fun _ => B9 _ _) rfl ?_))
  refine AI (AC (AF (B5 (decide (((i:Int)) < (8:Int))) rfl (fun hb2 => ?_) (fun hb2 => ?_))))
  ·
   have hp2 : ((i:Int)) < (8:Int) := of_decide_eq_true hb2
   refine BJ (AC (AF (A9 (AF (AB (AA _ (AG rfl) rfl ?_))))))
   refine AA _ (AE rfl) rfl ?_
   refine AI (AC (CT 110 2 [(0, I64 i), (1, Ptr nb4 i), (2, U32 (g32 u i)), (3, I64 i), (4, Ptr nb1 i), (5, U32 (g32 st i)), (6, U32 ((g32 u i) + (g32 st i))), (7, Ptr nb4 i)] BL rfl (by decide +kernel) ?_))
   have hl1 : (u.set i ((g32 u i) + (g32 st i))).length = 8 := by first | (rw [List.length_set]; exact hu) | simp [hu]
   refine C2 ⟨[], [0, 1, 2, 3, 4, 5, 6, 7], [], [0, 1, 2, 3, 4, 5, 6, 7], [8]⟩ 8 rfl rfl (by decide +kernel) rfl ⟨AU rfl rfl rfl, ⟨_, rfl, AD rfl (A1 8 267 1 i BX BA rfl rfl (by omega) (by omega) (by omega))⟩, ⟨_, rfl, AD rfl (AL rfl (AZ BK (AR 2 rfl (Seg.get (DT (i := i) (by rw [hu]; omega))))))⟩, AU rfl rfl rfl, ⟨_, rfl, AD rfl (A1 8 267 1 i BX BA rfl rfl (by omega) (by omega) (by omega))⟩, ⟨_, rfl, AD rfl (AL rfl (AZ BK (AR 0 rfl (Seg.get (DT (i := i) (by rw [hs0]; omega))))))⟩, ⟨_, rfl, AD rfl (AJ rfl rfl fun _ => DM (g32 u i) (g32 st i))⟩, ⟨_, rfl, AD rfl (A1 8 267 1 i BX BA rfl rfl (by omega) (by omega) (by omega))⟩, trivial⟩ rfl (AW rfl (CN 2 nb4 i 1 (cu32 u) 268 (U32 ((g32 u i) + (g32 st i))) ([U32 ((g32 u i) + (g32 st i))]) (cu32 (u.set i ((g32 u i) + (g32 st i)))) rfl rfl rfl rfl BA rfl (by simp [Value.oneCell']) (by simp [hu]; try omega) (lay32 _ _ _ (by rw [hu]; omega)))) ?_
   show DP _ _ _ _ _ _ _ _ [_, _, ⟨nb4, cu32 (u.set i ((g32 u i) + (g32 st i))), 268, (0, 0)⟩]
   refine DE ⟨[8], [0, 1, 2, 3, 4, 5, 6, 7], [0, 1, 2, 3, 4, 5, 6, 7], [], []⟩ rfl rfl (by decide +kernel) rfl trivial ?_
   refine CC (F' := [(100, I64 i), (101, Ptr nb4 i), (102, U32 (g32 u i)), (103, I64 i), (104, Ptr nb1 i), (105, U32 (g32 st i)), (106, U32 ((g32 u i) + (g32 st i))), (107, Ptr nb4 i), (2, Ptr nb1 0), (4, Ptr nb3 0), (5, Ptr nb4 0), (97, I64 i), (98, .bool (decide (((i:Int)) < (8:Int)))), (99, I64 i), (16, I64 i)]) (by kernel_rfl) ?_
   refine A5 (AC (AB (AA (I64 ((i:Int) + 1)) (AJ rfl rfl fun _ => BP _ _ ((i:Int) + 1) (by omega) (by omega)) rfl ?_)))
   refine AA _ (AG rfl) rfl ?_
   refine AI (B6 (DN (i + 1, u.set i ((g32 u i) + (g32 st i))) ⟨by omega, by rw [adN, ← hy2], hl1⟩ (by first | (simp; omega) | simp | (dsimp only; omega) | omega) (Sub.all rfl) rfl))
  ·
   have hp2 : ¬ (((i:Int)) < (8:Int)) := of_decide_eq_false hb2
   refine DA (AQ (AQ (BV (AC (AF (AB (AA (.agg (cu32 u).toArray) (AL rfl (BH Tryd.isAgg268 EE (FX hu) (AR 2 rfl (AN _)))) rfl ?_)))))))
   refine A0 (AX 1 nb3 8 (cu32 (zr32 8)) 268 (cu32 u) rfl rfl rfl EE (FX hu) (by first | exact CD | exact CS | exact CR | (simp [cu8, cu32, cu64, Value.oneCell']; done)) (by simp [(F4 8)]) (A6 (by simp [(F4 8), hu]))) rfl ?_
   show JL _ _ _ _ _ [_, ⟨nb3, cu32 u, 268, (0, 0)⟩, _]
   refine AI (AC (BO (BQ (.agg (cu32 u).toArray) (res1 Tryd.results194 (DY rfl (BH Tryd.isAgg268 EE (FX hu) (AR 1 rfl (AN _))))) fun w1 hw1 => ?_)))
   have e1 : t = 64 := by omega
   have e2 : i = 8 := by omega
   subst e1; subst e2
   rw [show u = comprL constL st blk by rw [comprL, hy2, hx2]]
   exact ⟨_, [], rfl, ⟨rfl, rfl⟩, hw1.sub (by simp) (by simp)⟩
theorem spN_zero (blk : List UInt8) : ∀ t, t ≤ 64 → ∀ j, t ≤ j → g32 (spN blk t) j = 0
 | 0, _, j, _ => by rw [spN]; exact g32_zr
 | t + 1, ht, j, hj => by
  rw [spN, spS]
  split
  all_goals rw [g32_set _ _ _ _ (by rw [spN_len]; omega), if_neg (by omega)]; exact spN_zero blk t (by omega) j (by omega)
theorem spN_set0 (blk : List UInt8) {t : Nat} (ht : t < 64) : spN blk t = (spN blk t).set t 0 := by
  refine ext32 (by simp) fun j hj => ?_
  rw [g32_set _ _ _ _ (by rw [spN_len]; omega)]
  by_cases h : t = j
  · subst h; rw [if_pos rfl, spN_zero blk t (by omega) t (Nat.le_refl t)]
  · rw [if_neg h]
theorem set_again (w : List UInt32) (t : Nat) (x y : UInt32) (b : UInt8) (h : t < w.length) (e : y = x * 256 + b.toUInt32) : (w.set t x).set t (g32 (w.set t x) t * 256 + b.toUInt32) = w.set t y := by
 rw [g32_set _ _ _ _ h, if_pos rfl, List.set_set, e]
theorem ex8 {s : List UInt32} (h : s.length = 8) : [g32 s 0, g32 s 1, g32 s 2, g32 s 3, g32 s 4, g32 s 5, g32 s 6, g32 s 7] = s := by
 match s, h with
 | [_, _, _, _, _, _, _, _], _ => rfl
set_option maxHeartbeats 4000000 in
theorem rcompress_c (st : List UInt32) (ab : Option Addr) (cb : Nat) (blk : List UInt8) (w : World) (hs0 : st.length = 8) (hb : blk.length = 64) (hr : RdB w [] ab blk) (hG : GLr w) : Calls Tryd.prog 176 #[.agg (cu32 st).toArray, .slice ab 64 cb] w (Post w [] (fun v L => v = .agg (cu32 (comprL constL st blk)).toArray ∧ L = [])) := by
 refine enter w [] 199 [] [.agg (cu32 st).toArray, .slice ab 64 cb] Tryd.func176 rfl rfl (by simp) (BR (by simp) (by simp) (by simp)) ?_
 show JC _ _ _ [(0, .agg (cu32 st).toArray), (1, .slice ab 64 cb)] _
 refine AF (AB (AV (CG (.agg (cu32 st).toArray) (cu32 st) rfl (by first | rfl | simp)) rfl ?_))
 rintro v1 L1 ⟨nb1, hnb1, rfl, rfl⟩
 show JL _ _ _ _ ((2, Ptr nb1 0) :: _) [⟨nb1, cu32 st, 268, (0, 0)⟩]
 refine AV (A7 _ (cu32 (zr32 8)) Tryd.zeroValue268 (by kernel_rfl)) rfl ?_
 rintro v1 L1 ⟨nb2, hnb2, rfl, rfl⟩
 show JL _ _ _ _ ((4, Ptr nb2 0) :: _) [_, ⟨nb2, cu32 (zr32 8), 268, (0, 0)⟩]
 refine AI (AC (AF (AB (AV (A7 _ (cu32 (zr32 64)) Tryd.zeroValue282 (by kernel_rfl)) rfl ?_))))
 rintro v1 L1 ⟨nb3, hnb3, rfl, rfl⟩
 show JL _ _ _ _ ((5, Ptr nb3 0) :: _) [_, _, ⟨nb3, cu32 (zr32 64), 282, (0, 0)⟩]
 refine AI (AC (AF (AF (AB (AA _ (AE rfl) rfl ?_)))))
 refine AI (AC (A9 (DI (ι := Nat × List UInt32) (fun ⟨t, ww⟩ => [(1, .slice ab 64 cb), (2, Ptr nb1 0), (4, Ptr nb2 0), (5, Ptr nb3 0), (6, I64 t)]) (fun ⟨t, ww⟩ => [⟨nb1, cu32 st, 268, (0, 0)⟩, ⟨nb2, cu32 (zr32 8), 268, (0, 0)⟩, ⟨nb3, cu32 ww, 282, (0, 0)⟩]) (fun ⟨t, ww⟩ => t ≤ 64 ∧ ww = spN blk t ∧ ww.length = 64) (fun ⟨t, ww⟩ => 64 - t) (0, zr32 64) ⟨by omega, by rw [spN], F4 64⟩ (Sub.all rfl) rfl ?_)))
 rintro ⟨t, ww⟩ ⟨hx1, hx2, hw⟩
 show JC _ _ _ [(1, .slice ab 64 cb), (2, Ptr nb1 0), (4, Ptr nb2 0), (5, Ptr nb3 0), (6, I64 t)] [⟨nb1, cu32 st, 268, (0, 0)⟩, ⟨nb2, cu32 (zr32 8), 268, (0, 0)⟩, ⟨nb3, cu32 ww, 282, (0, 0)⟩]
 refine AF (AF (AB (AA _ (AG rfl) rfl ?_)))
 refine AA (.bool (decide (((t:Int)) < (64:Int)))) (AJ rfl rfl fun _ => B9 _ _) rfl ?_
 refine AI (AC (B5 (decide (((t:Int)) < (64:Int))) rfl (fun hb1 => ?_) (fun hb1 => ?_)))
 ·
  have hp1 : ((t:Int)) < (64:Int) := of_decide_eq_true hb1
  refine BJ (AC (AF (A9 (AF (AB (AA _ (AG rfl) rfl ?_))))))
  refine AA (.bool (decide (((t:Int)) < (16:Int)))) (AJ rfl rfl fun _ => B9 _ _) rfl ?_
  refine AI (AC (B5 (decide (((t:Int)) < (16:Int))) rfl (fun hb2 => ?_) (fun hb2 => ?_)))
  ·
   have hp2 : ((t:Int)) < (16:Int) := of_decide_eq_true hb2
   refine AF (AB (AA _ (AE rfl) rfl ?_))
   refine AI (AC (A9 (DI (ι := Nat × List UInt32) (fun ⟨i, u⟩ => [(1, .slice ab 64 cb), (2, Ptr nb1 0), (4, Ptr nb2 0), (5, Ptr nb3 0), (6, I64 t), (23, I64 t), (24, .bool (decide (((t:Int)) < (64:Int)))), (27, I64 t), (28, .bool (decide (((t:Int)) < (16:Int)))), (7, I64 i)]) (fun ⟨i, u⟩ => [⟨nb1, cu32 st, 268, (0, 0)⟩, ⟨nb2, cu32 (zr32 8), 268, (0, 0)⟩, ⟨nb3, cu32 u, 282, (0, 0)⟩]) (fun ⟨i, u⟩ => i ≤ 4 ∧ u = ww.set t (wrdN blk t i) ∧ u.length = 64) (fun ⟨i, u⟩ => 4 - i) (0, ww) ⟨by omega, by rw [hx2, wrdN]; exact spN_set0 blk (t := t) (by omega), hw⟩ (Sub.all rfl) rfl ?_)))
   rintro ⟨i, u⟩ ⟨hz1, hz2, hu⟩
   show JC _ _ _ [(1, .slice ab 64 cb), (2, Ptr nb1 0), (4, Ptr nb2 0), (5, Ptr nb3 0), (6, I64 t), (23, I64 t), (24, .bool (decide (((t:Int)) < (64:Int)))), (27, I64 t), (28, .bool (decide (((t:Int)) < (16:Int)))), (7, I64 i)] [⟨nb1, cu32 st, 268, (0, 0)⟩, ⟨nb2, cu32 (zr32 8), 268, (0, 0)⟩, ⟨nb3, cu32 u, 282, (0, 0)⟩]
   refine AF (AF (AB (AA _ (AG rfl) rfl ?_)))
   refine AA (.bool (decide (((i:Int)) < (4:Int)))) (AJ rfl rfl fun _ => B9 _ _) rfl ?_
   refine AI (AC (B5 (decide (((i:Int)) < (4:Int))) rfl (fun hb3 => ?_) (fun hb3 => ?_)))
   ·
    have hp3 : ((i:Int)) < (4:Int) := of_decide_eq_true hb3
    refine BJ (AC (AF (A9 ?_)))
    obtain ⟨bz1, oz1, hz1, hm1⟩ := hr.pos (by rw [hb]; omega)
    refine CT 199 2 [(0, I64 t), (1, I64 t), (2, Ptr nb3 t), (3, U32 (g32 u t)), (4, U32 ((g32 u t) * (256:UInt32))), (5, .slice ab 64 cb), (6, I64 t), (7, I64 (4*(t:Int))), (8, I64 i), (9, I64 ((i:Int) + 4*(t:Int))), (10, Ptr bz1 (i + oz1 + 4*t)), (11, U8 (g8 blk (i + 4*t))), (12, U32 ((g8 blk (i + 4*t)).toUInt32)), (13, U32 (((g32 u t) * (256:UInt32)) + ((g8 blk (i + 4*t)).toUInt32))), (14, Ptr nb3 t)] BL rfl (by decide +kernel) ?_
    have hl1 : (u.set t (((g32 u t) * (256:UInt32)) + ((g8 blk (i + 4*t)).toUInt32))).length = 64 := by first | (rw [List.length_set]; exact hu) | simp [hu]
    refine C2 ⟨[], [0, 1, 2, 3, 4, 5, 6, 7, 8, 9, 10, 11, 12, 13, 14], [], [0, 1, 2, 3, 4, 5, 6, 7, 8, 9, 10, 11, 12, 13, 14], [15]⟩ 15 rfl rfl (by decide +kernel) rfl ⟨AU rfl rfl rfl, AU rfl rfl rfl, ⟨_, rfl, AD rfl (A1 64 267 1 t BU BA rfl rfl (by omega) (by omega) (by omega))⟩, ⟨_, rfl, AD rfl (AL rfl (AZ BK (AR 2 rfl (Seg.get (DT (i := t) (by rw [hu]; omega))))))⟩, ⟨_, rfl, AD rfl (AJ rfl rfl fun _ => bin_mul_u32 (g32 u t) (256:UInt32))⟩, AU rfl rfl rfl, AU rfl rfl rfl, ⟨_, rfl, AD rfl (AJ rfl rfl fun _ => DX _ _ (4*(t:Int)) (by omega) (by omega))⟩, AU rfl rfl rfl, ⟨_, rfl, AD rfl (AJ rfl rfl fun _ => BP _ _ ((i:Int) + 4*(t:Int)) (by omega) (by omega))⟩, ⟨_, rfl, AD rfl (CL 5 1 (i + oz1 + 4*t) AK AM rfl hz1 rfl (by omega) (by omega) (by omega))⟩, ⟨_, rfl, AD rfl (AL rfl (AZ BZ (BW (MemAt.base hm1.1 hm1.2.1 hm1.2.2) (Seg.get (EC (i := (i + 4*t)) (by rw [hb]; omega))) (by omega))))⟩, ⟨_, rfl, AD rfl (EG _ _ rfl fun _ => conv_u8_u32 (by rw [B3]; rfl) D5 _)⟩, ⟨_, rfl, AD rfl (AJ rfl rfl fun _ => DM ((g32 u t) * (256:UInt32)) ((g8 blk (i + 4*t)).toUInt32))⟩, ⟨_, rfl, AD rfl (A1 64 267 1 t BU BA rfl rfl (by omega) (by omega) (by omega))⟩, trivial⟩ rfl (AW rfl (CN 2 nb3 t 1 (cu32 u) 282 (U32 (((g32 u t) * (256:UInt32)) + ((g8 blk (i + 4*t)).toUInt32))) ([U32 (((g32 u t) * (256:UInt32)) + ((g8 blk (i + 4*t)).toUInt32))]) (cu32 (u.set t (((g32 u t) * (256:UInt32)) + ((g8 blk (i + 4*t)).toUInt32)))) rfl rfl rfl rfl BA rfl (by simp [Value.oneCell']) (by simp [hu]; try omega) (lay32 _ _ _ (by rw [hu]; omega)))) ?_
    show DP _ _ _ _ _ _ _ _ [_, _, ⟨nb3, cu32 (u.set t (((g32 u t) * (256:UInt32)) + ((g8 blk (i + 4*t)).toUInt32))), 282, (0, 0)⟩]
    refine DE ⟨[15], [0, 1, 2, 3, 4, 5, 6, 7, 8, 9, 10, 11, 12, 13, 14], [0, 1, 2, 3, 4, 5, 6, 7, 8, 9, 10, 11, 12, 13, 14], [], []⟩ rfl rfl (by decide +kernel) rfl trivial ?_
    refine CC (F' := [(33, I64 t), (34, I64 t), (35, Ptr nb3 t), (36, U32 (g32 u t)), (37, U32 ((g32 u t) * (256:UInt32))), (38, .slice ab 64 cb), (39, I64 t), (40, I64 (4*(t:Int))), (41, I64 i), (42, I64 ((i:Int) + 4*(t:Int))), (43, Ptr bz1 (i + oz1 + 4*t)), (44, U8 (g8 blk (i + 4*t))), (45, U32 ((g8 blk (i + 4*t)).toUInt32)), (46, U32 (((g32 u t) * (256:UInt32)) + ((g8 blk (i + 4*t)).toUInt32))), (47, Ptr nb3 t), (1, .slice ab 64 cb), (2, Ptr nb1 0), (4, Ptr nb2 0), (5, Ptr nb3 0), (6, I64 t), (23, I64 t), (24, .bool (decide (((t:Int)) < (64:Int)))), (27, I64 t), (28, .bool (decide (((t:Int)) < (16:Int)))), (7, I64 i), (29, I64 i), (30, .bool (decide (((i:Int)) < (4:Int))))]) (by kernel_rfl) ?_
    refine A5 (AC (AB (AA _ (AG rfl) rfl ?_)))
    refine AA (I64 ((i:Int) + 1)) (AJ rfl rfl fun _ => BP _ _ ((i:Int) + 1) (by omega) (by omega)) rfl ?_
    refine AA _ (AE rfl) rfl ?_
    refine AI (B6 (DN (i + 1, u.set t (((g32 u t) * (256:UInt32)) + ((g8 blk (i + 4*t)).toUInt32))) ⟨by omega, by rw [hz2]; exact set_again ww t _ _ _ (by omega) (by rw [wrdN]), hl1⟩ (by first | (simp; omega) | simp | (dsimp only; omega) | omega) (Sub.all rfl) rfl))
   ·
    have hp3 : ¬ (((i:Int)) < (4:Int)) := of_decide_eq_false hb3
    refine DA (AQ (AQ (BV (A5 (AC (AB (AA _ (AG rfl) rfl ?_)))))))
    refine AA (I64 ((t:Int) + 1)) (AJ rfl rfl fun _ => BP _ _ ((t:Int) + 1) (by omega) (by omega)) rfl ?_
    refine AA _ (AE rfl) rfl ?_
    refine AI (B6 (DN (t + 1, u) ⟨by omega, by rw [spN, spS, if_pos (by omega), ← hx2, hz2, show i = 4 from by omega, wrd_word], hu⟩ (by first | (simp; omega) | simp | (dsimp only; omega) | omega) (Sub.all rfl) rfl))
  ·
   have hp2 : ¬ (((t:Int)) < (16:Int)) := of_decide_eq_false hb2
   refine AF (CT 199 1 [(0, I64 t), (1, I64 ((t:Int) - 15)), (2, Ptr nb3 (t - 15)), (3, U32 (g32 ww (t - 15))), (4, I64 t), (5, I64 ((t:Int) - 2)), (6, Ptr nb3 (t - 2)), (7, U32 (g32 ww (t - 2))), (8, U32 (g32 ww (t - 15))), (9, U32 (g32 ww (t - 2)))] BL rfl (by decide +kernel) ?_)
   refine DE ⟨[], [0, 1, 2, 3, 4, 5, 6, 7, 8, 9], [], [0, 1, 2, 3, 4, 5, 6, 7, 8, 9], []⟩ rfl rfl (by decide +kernel) rfl ⟨AU rfl rfl rfl, ⟨_, rfl, AD rfl (AJ rfl rfl fun _ => C5 _ _ ((t:Int) - 15) (by omega) (by omega))⟩, ⟨_, rfl, AD rfl (A1 64 267 1 (t - 15) BU BA rfl rfl (by omega) (by omega) (by omega))⟩, ⟨_, rfl, AD rfl (AL rfl (AZ BK (AR 2 rfl (Seg.get (DT (i := (t - 15)) (by rw [hw]; omega))))))⟩, AU rfl rfl rfl, ⟨_, rfl, AD rfl (AJ rfl rfl fun _ => C5 _ _ ((t:Int) - 2) (by omega) (by omega))⟩, ⟨_, rfl, AD rfl (A1 64 267 1 (t - 2) BU BA rfl rfl (by omega) (by omega) (by omega))⟩, ⟨_, rfl, AD rfl (AL rfl (AZ BK (AR 2 rfl (Seg.get (DT (i := (t - 2)) (by rw [hw]; omega))))))⟩, ⟨_, rfl, AD rfl (AE rfl)⟩, ⟨_, rfl, AD rfl (AE rfl)⟩, trivial⟩ ?_
   refine CC (F' := [(48, I64 t), (49, I64 ((t:Int) - 15)), (50, Ptr nb3 (t - 15)), (51, U32 (g32 ww (t - 15))), (52, I64 t), (53, I64 ((t:Int) - 2)), (54, Ptr nb3 (t - 2)), (55, U32 (g32 ww (t - 2))), (8, U32 (g32 ww (t - 15))), (9, U32 (g32 ww (t - 2))), (1, .slice ab 64 cb), (2, Ptr nb1 0), (4, Ptr nb2 0), (5, Ptr nb3 0), (6, I64 t), (23, I64 t), (24, .bool (decide (((t:Int)) < (64:Int)))), (27, I64 t), (28, .bool (decide (((t:Int)) < (16:Int))))]) (by kernel_rfl) ?_
   refine AC (AF (AB (AA _ (AG rfl) rfl ?_)))
   refine A0 (AY 191 [U32 (g32 ww (t - 15)), I64 7] (U32 (rotr (g32 ww (t - 15)) 7)) (A4 _ Tryd.call191 rfl) (fun w1 hw1 => rturn_c (g32 ww (t - 15)) 7 w1 (by omega) (by omega))) rfl ?_
   show JL _ _ _ _ ((57, U32 (rotr (g32 ww (t - 15)) 7)) :: _) [_, _, _]
   refine AA _ (AG rfl) rfl ?_
   refine A0 (AY 191 [U32 (g32 ww (t - 15)), I64 18] (U32 (rotr (g32 ww (t - 15)) 18)) (A4 _ Tryd.call191 rfl) (fun w1 hw1 => rturn_c (g32 ww (t - 15)) 18 w1 (by omega) (by omega))) rfl ?_
   show JL _ _ _ _ ((59, U32 (rotr (g32 ww (t - 15)) 18)) :: _) [_, _, _]
   refine AA (U32 ((rotr (g32 ww (t - 15)) 7) ^^^ (rotr (g32 ww (t - 15)) 18))) (AJ rfl rfl fun _ => DL (rotr (g32 ww (t - 15)) 7) (rotr (g32 ww (t - 15)) 18)) rfl ?_
   refine AA _ (AG rfl) rfl ?_
   refine AA (U32 ((g32 ww (t - 15)) >>> (3:UInt32))) (AJ rfl rfl fun _ => EV (g32 ww (t - 15)) _ _ 3 (by decide) rfl) rfl ?_
   refine AA (U32 (((rotr (g32 ww (t - 15)) 7) ^^^ (rotr (g32 ww (t - 15)) 18)) ^^^ ((g32 ww (t - 15)) >>> (3:UInt32)))) (AJ rfl rfl fun _ => DL ((rotr (g32 ww (t - 15)) 7) ^^^ (rotr (g32 ww (t - 15)) 18)) ((g32 ww (t - 15)) >>> (3:UInt32))) rfl ?_
   refine AA _ (AE rfl) rfl ?_
   refine AI (AC (AF (AB (AA _ (AG rfl) rfl ?_))))
   refine A0 (AY 191 [U32 (g32 ww (t - 2)), I64 17] (U32 (rotr (g32 ww (t - 2)) 17)) (A4 _ Tryd.call191 rfl) (fun w1 hw1 => rturn_c (g32 ww (t - 2)) 17 w1 (by omega) (by omega))) rfl ?_
   show JL _ _ _ _ ((65, U32 (rotr (g32 ww (t - 2)) 17)) :: _) [_, _, _]
   refine AA _ (AG rfl) rfl ?_
   refine A0 (AY 191 [U32 (g32 ww (t - 2)), I64 19] (U32 (rotr (g32 ww (t - 2)) 19)) (A4 _ Tryd.call191 rfl) (fun w1 hw1 => rturn_c (g32 ww (t - 2)) 19 w1 (by omega) (by omega))) rfl ?_
   show JL _ _ _ _ ((67, U32 (rotr (g32 ww (t - 2)) 19)) :: _) [_, _, _]
   refine AA (U32 ((rotr (g32 ww (t - 2)) 17) ^^^ (rotr (g32 ww (t - 2)) 19))) (AJ rfl rfl fun _ => DL (rotr (g32 ww (t - 2)) 17) (rotr (g32 ww (t - 2)) 19)) rfl ?_
   refine AA _ (AG rfl) rfl ?_
   refine AA (U32 ((g32 ww (t - 2)) >>> (10:UInt32))) (AJ rfl rfl fun _ => EV (g32 ww (t - 2)) _ _ 10 (by decide) rfl) rfl ?_
   refine AA (U32 (((rotr (g32 ww (t - 2)) 17) ^^^ (rotr (g32 ww (t - 2)) 19)) ^^^ ((g32 ww (t - 2)) >>> (10:UInt32)))) (AJ rfl rfl fun _ => DL ((rotr (g32 ww (t - 2)) 17) ^^^ (rotr (g32 ww (t - 2)) 19)) ((g32 ww (t - 2)) >>> (10:UInt32))) rfl ?_
   refine AA _ (AE rfl) rfl ?_
   refine AI (AC (CT 199 2 [(0, I64 t), (1, I64 t), (2, I64 ((t:Int) - 16)), (3, Ptr nb3 (t - 16)), (4, U32 (g32 ww (t - 16))), (5, U32 (((rotr (g32 ww (t - 15)) 7) ^^^ (rotr (g32 ww (t - 15)) 18)) ^^^ ((g32 ww (t - 15)) >>> (3:UInt32)))), (6, U32 ((g32 ww (t - 16)) + (((rotr (g32 ww (t - 15)) 7) ^^^ (rotr (g32 ww (t - 15)) 18)) ^^^ ((g32 ww (t - 15)) >>> (3:UInt32))))), (7, I64 t), (8, I64 ((t:Int) - 7)), (9, Ptr nb3 (t - 7)), (10, U32 (g32 ww (t - 7))), (11, U32 (((g32 ww (t - 16)) + (((rotr (g32 ww (t - 15)) 7) ^^^ (rotr (g32 ww (t - 15)) 18)) ^^^ ((g32 ww (t - 15)) >>> (3:UInt32)))) + (g32 ww (t - 7)))), (12, U32 (((rotr (g32 ww (t - 2)) 17) ^^^ (rotr (g32 ww (t - 2)) 19)) ^^^ ((g32 ww (t - 2)) >>> (10:UInt32)))), (13, U32 ((((g32 ww (t - 16)) + (((rotr (g32 ww (t - 15)) 7) ^^^ (rotr (g32 ww (t - 15)) 18)) ^^^ ((g32 ww (t - 15)) >>> (3:UInt32)))) + (g32 ww (t - 7))) + (((rotr (g32 ww (t - 2)) 17) ^^^ (rotr (g32 ww (t - 2)) 19)) ^^^ ((g32 ww (t - 2)) >>> (10:UInt32))))), (14, Ptr nb3 t)] BL rfl (by decide +kernel) ?_))
   have hl2 : (ww.set t ((((g32 ww (t - 16)) + (((rotr (g32 ww (t - 15)) 7) ^^^ (rotr (g32 ww (t - 15)) 18)) ^^^ ((g32 ww (t - 15)) >>> (3:UInt32)))) + (g32 ww (t - 7))) + (((rotr (g32 ww (t - 2)) 17) ^^^ (rotr (g32 ww (t - 2)) 19)) ^^^ ((g32 ww (t - 2)) >>> (10:UInt32))))).length = 64 := by first | (rw [List.length_set]; exact hw) | simp [hw]
   refine C2 ⟨[], [0, 1, 2, 3, 4, 5, 6, 7, 8, 9, 10, 11, 12, 13, 14], [], [0, 1, 2, 3, 4, 5, 6, 7, 8, 9, 10, 11, 12, 13, 14], [15]⟩ 15 rfl rfl (by decide +kernel) rfl ⟨AU rfl rfl rfl, AU rfl rfl rfl, ⟨_, rfl, AD rfl (AJ rfl rfl fun _ => C5 _ _ ((t:Int) - 16) (by omega) (by omega))⟩, ⟨_, rfl, AD rfl (A1 64 267 1 (t - 16) BU BA rfl rfl (by omega) (by omega) (by omega))⟩, ⟨_, rfl, AD rfl (AL rfl (AZ BK (AR 2 rfl (Seg.get (DT (i := (t - 16)) (by rw [hw]; omega))))))⟩, AU rfl rfl rfl, ⟨_, rfl, AD rfl (AJ rfl rfl fun _ => DM (g32 ww (t - 16)) (((rotr (g32 ww (t - 15)) 7) ^^^ (rotr (g32 ww (t - 15)) 18)) ^^^ ((g32 ww (t - 15)) >>> (3:UInt32))))⟩, AU rfl rfl rfl, ⟨_, rfl, AD rfl (AJ rfl rfl fun _ => C5 _ _ ((t:Int) - 7) (by omega) (by omega))⟩, ⟨_, rfl, AD rfl (A1 64 267 1 (t - 7) BU BA rfl rfl (by omega) (by omega) (by omega))⟩, ⟨_, rfl, AD rfl (AL rfl (AZ BK (AR 2 rfl (Seg.get (DT (i := (t - 7)) (by rw [hw]; omega))))))⟩, ⟨_, rfl, AD rfl (AJ rfl rfl fun _ => DM ((g32 ww (t - 16)) + (((rotr (g32 ww (t - 15)) 7) ^^^ (rotr (g32 ww (t - 15)) 18)) ^^^ ((g32 ww (t - 15)) >>> (3:UInt32)))) (g32 ww (t - 7)))⟩, AU rfl rfl rfl, ⟨_, rfl, AD rfl (AJ rfl rfl fun _ => DM (((g32 ww (t - 16)) + (((rotr (g32 ww (t - 15)) 7) ^^^ (rotr (g32 ww (t - 15)) 18)) ^^^ ((g32 ww (t - 15)) >>> (3:UInt32)))) + (g32 ww (t - 7))) (((rotr (g32 ww (t - 2)) 17) ^^^ (rotr (g32 ww (t - 2)) 19)) ^^^ ((g32 ww (t - 2)) >>> (10:UInt32))))⟩, ⟨_, rfl, AD rfl (A1 64 267 1 t BU BA rfl rfl (by omega) (by omega) (by omega))⟩, trivial⟩ rfl (AW rfl (CN 2 nb3 t 1 (cu32 ww) 282 (U32 ((((g32 ww (t - 16)) + (((rotr (g32 ww (t - 15)) 7) ^^^ (rotr (g32 ww (t - 15)) 18)) ^^^ ((g32 ww (t - 15)) >>> (3:UInt32)))) + (g32 ww (t - 7))) + (((rotr (g32 ww (t - 2)) 17) ^^^ (rotr (g32 ww (t - 2)) 19)) ^^^ ((g32 ww (t - 2)) >>> (10:UInt32))))) ([U32 ((((g32 ww (t - 16)) + (((rotr (g32 ww (t - 15)) 7) ^^^ (rotr (g32 ww (t - 15)) 18)) ^^^ ((g32 ww (t - 15)) >>> (3:UInt32)))) + (g32 ww (t - 7))) + (((rotr (g32 ww (t - 2)) 17) ^^^ (rotr (g32 ww (t - 2)) 19)) ^^^ ((g32 ww (t - 2)) >>> (10:UInt32))))]) (cu32 (ww.set t ((((g32 ww (t - 16)) + (((rotr (g32 ww (t - 15)) 7) ^^^ (rotr (g32 ww (t - 15)) 18)) ^^^ ((g32 ww (t - 15)) >>> (3:UInt32)))) + (g32 ww (t - 7))) + (((rotr (g32 ww (t - 2)) 17) ^^^ (rotr (g32 ww (t - 2)) 19)) ^^^ ((g32 ww (t - 2)) >>> (10:UInt32)))))) rfl rfl rfl rfl BA rfl (by simp [Value.oneCell']) (by simp [hw]; try omega) (lay32 _ _ _ (by rw [hw]; omega)))) ?_
   show DP _ _ _ _ _ _ _ _ [_, _, ⟨nb3, cu32 (ww.set t ((((g32 ww (t - 16)) + (((rotr (g32 ww (t - 15)) 7) ^^^ (rotr (g32 ww (t - 15)) 18)) ^^^ ((g32 ww (t - 15)) >>> (3:UInt32)))) + (g32 ww (t - 7))) + (((rotr (g32 ww (t - 2)) 17) ^^^ (rotr (g32 ww (t - 2)) 19)) ^^^ ((g32 ww (t - 2)) >>> (10:UInt32))))), 282, (0, 0)⟩]
   refine DE ⟨[15], [0, 1, 2, 3, 4, 5, 6, 7, 8, 9, 10, 11, 12, 13, 14], [0, 1, 2, 3, 4, 5, 6, 7, 8, 9, 10, 11, 12, 13, 14], [], []⟩ rfl rfl (by decide +kernel) rfl trivial ?_
   refine CC (F' := [(72, I64 t), (73, I64 t), (74, I64 ((t:Int) - 16)), (75, Ptr nb3 (t - 16)), (76, U32 (g32 ww (t - 16))), (77, U32 (((rotr (g32 ww (t - 15)) 7) ^^^ (rotr (g32 ww (t - 15)) 18)) ^^^ ((g32 ww (t - 15)) >>> (3:UInt32)))), (78, U32 ((g32 ww (t - 16)) + (((rotr (g32 ww (t - 15)) 7) ^^^ (rotr (g32 ww (t - 15)) 18)) ^^^ ((g32 ww (t - 15)) >>> (3:UInt32))))), (79, I64 t), (80, I64 ((t:Int) - 7)), (81, Ptr nb3 (t - 7)), (82, U32 (g32 ww (t - 7))), (83, U32 (((g32 ww (t - 16)) + (((rotr (g32 ww (t - 15)) 7) ^^^ (rotr (g32 ww (t - 15)) 18)) ^^^ ((g32 ww (t - 15)) >>> (3:UInt32)))) + (g32 ww (t - 7)))), (84, U32 (((rotr (g32 ww (t - 2)) 17) ^^^ (rotr (g32 ww (t - 2)) 19)) ^^^ ((g32 ww (t - 2)) >>> (10:UInt32)))), (85, U32 ((((g32 ww (t - 16)) + (((rotr (g32 ww (t - 15)) 7) ^^^ (rotr (g32 ww (t - 15)) 18)) ^^^ ((g32 ww (t - 15)) >>> (3:UInt32)))) + (g32 ww (t - 7))) + (((rotr (g32 ww (t - 2)) 17) ^^^ (rotr (g32 ww (t - 2)) 19)) ^^^ ((g32 ww (t - 2)) >>> (10:UInt32))))), (86, Ptr nb3 t), (48, I64 t), (49, I64 ((t:Int) - 15)), (50, Ptr nb3 (t - 15)), (51, U32 (g32 ww (t - 15))), (52, I64 t), (53, I64 ((t:Int) - 2)), (54, Ptr nb3 (t - 2)), (55, U32 (g32 ww (t - 2))), (8, U32 (g32 ww (t - 15))), (9, U32 (g32 ww (t - 2))), (1, .slice ab 64 cb), (2, Ptr nb1 0), (4, Ptr nb2 0), (5, Ptr nb3 0), (6, I64 t), (23, I64 t), (24, .bool (decide (((t:Int)) < (64:Int)))), (27, I64 t), (28, .bool (decide (((t:Int)) < (16:Int)))), (56, U32 (g32 ww (t - 15))), (57, U32 (rotr (g32 ww (t - 15)) 7)), (58, U32 (g32 ww (t - 15))), (59, U32 (rotr (g32 ww (t - 15)) 18)), (60, U32 ((rotr (g32 ww (t - 15)) 7) ^^^ (rotr (g32 ww (t - 15)) 18))), (61, U32 (g32 ww (t - 15))), (62, U32 ((g32 ww (t - 15)) >>> (3:UInt32))), (63, U32 (((rotr (g32 ww (t - 15)) 7) ^^^ (rotr (g32 ww (t - 15)) 18)) ^^^ ((g32 ww (t - 15)) >>> (3:UInt32)))), (10, U32 (((rotr (g32 ww (t - 15)) 7) ^^^ (rotr (g32 ww (t - 15)) 18)) ^^^ ((g32 ww (t - 15)) >>> (3:UInt32)))), (64, U32 (g32 ww (t - 2))), (65, U32 (rotr (g32 ww (t - 2)) 17)), (66, U32 (g32 ww (t - 2))), (67, U32 (rotr (g32 ww (t - 2)) 19)), (68, U32 ((rotr (g32 ww (t - 2)) 17) ^^^ (rotr (g32 ww (t - 2)) 19))), (69, U32 (g32 ww (t - 2))), (70, U32 ((g32 ww (t - 2)) >>> (10:UInt32))), (71, U32 (((rotr (g32 ww (t - 2)) 17) ^^^ (rotr (g32 ww (t - 2)) 19)) ^^^ ((g32 ww (t - 2)) >>> (10:UInt32)))), (11, U32 (((rotr (g32 ww (t - 2)) 17) ^^^ (rotr (g32 ww (t - 2)) 19)) ^^^ ((g32 ww (t - 2)) >>> (10:UInt32))))]) (by kernel_rfl) ?_
   refine A5 (AC (AB (AA _ (AG rfl) rfl ?_)))
   refine AA (I64 ((t:Int) + 1)) (AJ rfl rfl fun _ => BP _ _ ((t:Int) + 1) (by omega) (by omega)) rfl ?_
   refine AA _ (AE rfl) rfl ?_
   refine AI (B6 (DN (t + 1, ww.set t ((((g32 ww (t - 16)) + (((rotr (g32 ww (t - 15)) 7) ^^^ (rotr (g32 ww (t - 15)) 18)) ^^^ ((g32 ww (t - 15)) >>> (3:UInt32)))) + (g32 ww (t - 7))) + (((rotr (g32 ww (t - 2)) 17) ^^^ (rotr (g32 ww (t - 2)) 19)) ^^^ ((g32 ww (t - 2)) >>> (10:UInt32))))) ⟨by omega, by rw [spN, spS, if_neg (by omega), ← hx2], hl2⟩ (by first | (simp; omega) | simp | (dsimp only; omega) | omega) (Sub.all rfl) rfl))
 ·
  have hp1 : ¬ (((t:Int)) < (64:Int)) := of_decide_eq_false hb1
  refine DA (AQ (AQ (BV (AC (AF (CT 199 1 [(0, Ptr nb1 0), (1, U32 (g32 st 0)), (2, Ptr nb1 1), (3, U32 (g32 st 1)), (4, Ptr nb1 2), (5, U32 (g32 st 2)), (6, Ptr nb1 3), (7, U32 (g32 st 3)), (8, Ptr nb1 4), (9, U32 (g32 st 4)), (10, Ptr nb1 5), (11, U32 (g32 st 5)), (12, Ptr nb1 6), (13, U32 (g32 st 6)), (14, Ptr nb1 7), (15, U32 (g32 st 7)), (16, U32 (g32 st 0)), (17, U32 (g32 st 1)), (18, U32 (g32 st 2)), (19, U32 (g32 st 3)), (20, U32 (g32 st 4)), (21, U32 (g32 st 5)), (22, U32 (g32 st 6)), (23, U32 (g32 st 7))] BL rfl (by decide +kernel) ?_))))))
  refine DE ⟨[], [0, 1, 2, 3, 4, 5, 6, 7, 8, 9, 10, 11, 12, 13, 14, 15, 16, 17, 18, 19, 20, 21, 22, 23], [], [0, 1, 2, 3, 4, 5, 6, 7, 8, 9, 10, 11, 12, 13, 14, 15, 16, 17, 18, 19, 20, 21, 22, 23], []⟩ rfl rfl (by decide +kernel) rfl ⟨⟨_, rfl, AD rfl (A1 8 267 1 0 BX BA rfl rfl (by omega) (by omega) (by omega))⟩, ⟨_, rfl, AD rfl (AL rfl (AZ BK (AR 0 rfl (Seg.get (DT (i := 0) (by rw [hs0]; omega))))))⟩, ⟨_, rfl, AD rfl (A1 8 267 1 1 BX BA rfl rfl (by omega) (by omega) (by omega))⟩, ⟨_, rfl, AD rfl (AL rfl (AZ BK (AR 0 rfl (Seg.get (DT (i := 1) (by rw [hs0]; omega))))))⟩, ⟨_, rfl, AD rfl (A1 8 267 1 2 BX BA rfl rfl (by omega) (by omega) (by omega))⟩, ⟨_, rfl, AD rfl (AL rfl (AZ BK (AR 0 rfl (Seg.get (DT (i := 2) (by rw [hs0]; omega))))))⟩, ⟨_, rfl, AD rfl (A1 8 267 1 3 BX BA rfl rfl (by omega) (by omega) (by omega))⟩, ⟨_, rfl, AD rfl (AL rfl (AZ BK (AR 0 rfl (Seg.get (DT (i := 3) (by rw [hs0]; omega))))))⟩, ⟨_, rfl, AD rfl (A1 8 267 1 4 BX BA rfl rfl (by omega) (by omega) (by omega))⟩, ⟨_, rfl, AD rfl (AL rfl (AZ BK (AR 0 rfl (Seg.get (DT (i := 4) (by rw [hs0]; omega))))))⟩, ⟨_, rfl, AD rfl (A1 8 267 1 5 BX BA rfl rfl (by omega) (by omega) (by omega))⟩, ⟨_, rfl, AD rfl (AL rfl (AZ BK (AR 0 rfl (Seg.get (DT (i := 5) (by rw [hs0]; omega))))))⟩, ⟨_, rfl, AD rfl (A1 8 267 1 6 BX BA rfl rfl (by omega) (by omega) (by omega))⟩, ⟨_, rfl, AD rfl (AL rfl (AZ BK (AR 0 rfl (Seg.get (DT (i := 6) (by rw [hs0]; omega))))))⟩, ⟨_, rfl, AD rfl (A1 8 267 1 7 BX BA rfl rfl (by omega) (by omega) (by omega))⟩, ⟨_, rfl, AD rfl (AL rfl (AZ BK (AR 0 rfl (Seg.get (DT (i := 7) (by rw [hs0]; omega))))))⟩, ⟨_, rfl, AD rfl (AE rfl)⟩, ⟨_, rfl, AD rfl (AE rfl)⟩, ⟨_, rfl, AD rfl (AE rfl)⟩, ⟨_, rfl, AD rfl (AE rfl)⟩, ⟨_, rfl, AD rfl (AE rfl)⟩, ⟨_, rfl, AD rfl (AE rfl)⟩, ⟨_, rfl, AD rfl (AE rfl)⟩, ⟨_, rfl, AD rfl (AE rfl)⟩, trivial⟩ ?_
  refine CC (F' := [(12, U32 (g32 st 0)), (13, U32 (g32 st 1)), (14, U32 (g32 st 2)), (15, U32 (g32 st 3)), (16, U32 (g32 st 4)), (17, U32 (g32 st 5)), (18, U32 (g32 st 6)), (19, U32 (g32 st 7)), (2, Ptr nb1 0), (4, Ptr nb2 0), (5, Ptr nb3 0)]) (by kernel_rfl) ?_
  refine AC (AF (AF (AB (AA _ (AE rfl) rfl ?_))))
  refine AI (AC (A9 (DI (ι := Nat × UInt32 × UInt32 × UInt32 × UInt32 × UInt32 × UInt32 × UInt32 × UInt32) (fun ⟨r, va, vb, vc, vd, ve, vf, vg, vh⟩ => [(2, Ptr nb1 0), (4, Ptr nb2 0), (5, Ptr nb3 0), (20, I64 r), (12, U32 va), (13, U32 vb), (14, U32 vc), (15, U32 vd), (16, U32 ve), (17, U32 vf), (18, U32 vg), (19, U32 vh)]) (fun ⟨r, va, vb, vc, vd, ve, vf, vg, vh⟩ => [⟨nb1, cu32 st, 268, (0, 0)⟩, ⟨nb2, cu32 (zr32 8), 268, (0, 0)⟩, ⟨nb3, cu32 ww, 282, (0, 0)⟩]) (fun ⟨r, va, vb, vc, vd, ve, vf, vg, vh⟩ => r ≤ 64 ∧ [va, vb, vc, vd, ve, vf, vg, vh] = cpN constL st ww r) (fun ⟨r, va, vb, vc, vd, ve, vf, vg, vh⟩ => 64 - r) (0, g32 st 0, g32 st 1, g32 st 2, g32 st 3, g32 st 4, g32 st 5, g32 st 6, g32 st 7) ⟨by omega, by rw [cpN]; exact ex8 hs0⟩ (Sub.all rfl) rfl ?_)))
  rintro ⟨r, va, vb, vc, vd, ve, vf, vg, vh⟩ ⟨hy1, hy2⟩
  show JC _ _ _ [(2, Ptr nb1 0), (4, Ptr nb2 0), (5, Ptr nb3 0), (20, I64 r), (12, U32 va), (13, U32 vb), (14, U32 vc), (15, U32 vd), (16, U32 ve), (17, U32 vf), (18, U32 vg), (19, U32 vh)] [⟨nb1, cu32 st, 268, (0, 0)⟩, ⟨nb2, cu32 (zr32 8), 268, (0, 0)⟩, ⟨nb3, cu32 ww, 282, (0, 0)⟩]
  refine AF (AF (AB (AA _ (AG rfl) rfl ?_)))
  refine AA (.bool (decide (((r:Int)) < (64:Int)))) (AJ rfl rfl fun _ => B9 _ _) rfl ?_
  refine AI (AC (B5 (decide (((r:Int)) < (64:Int))) rfl (fun hb4 => ?_) (fun hb4 => ?_)))
  ·
   have hp4 : ((r:Int)) < (64:Int) := of_decide_eq_true hb4
   refine BJ (AC (AF (A9 (AF (CT 199 4 [(0, U32 vh), (1, U32 ve), (3, U32 ve), (6, U32 ve), (10, U32 ve), (11, U32 vf), (12, U32 (ve &&& vf)), (13, U32 ve), (14, U32 (~~~ve)), (15, U32 vg), (16, U32 ((~~~ve) &&& vg)), (17, U32 ((ve &&& vf) ^^^ ((~~~ve) &&& vg))), (19, I64 r), (20, Ptr 2 r), (21, U32 (g32 constL r)), (23, I64 r), (24, Ptr nb3 r), (25, U32 (g32 ww r))] BL rfl (by decide +kernel) ?_)))))
   refine C2 ⟨[], [0, 1, 3, 6, 10, 11, 12, 13, 14, 15, 16, 17, 19, 20, 21, 23, 24, 25], [], [0, 1, 3, 6, 10, 11, 12, 13, 14, 15, 16, 17, 19, 20, 21, 23, 24, 25], [2]⟩ 2 rfl rfl (by decide +kernel) rfl ⟨AU rfl rfl rfl, AU rfl rfl rfl, AU rfl rfl rfl, AU rfl rfl rfl, AU rfl rfl rfl, AU rfl rfl rfl, ⟨_, rfl, AD rfl (AJ rfl rfl fun _ => EF ve vf)⟩, AU rfl rfl rfl, ⟨_, rfl, AD rfl (Ev_un _ _ rfl fun _ => GN _)⟩, AU rfl rfl rfl, ⟨_, rfl, AD rfl (AJ rfl rfl fun _ => EF (~~~ve) vg)⟩, ⟨_, rfl, AD rfl (AJ rfl rfl fun _ => DL (ve &&& vf) ((~~~ve) &&& vg))⟩, AU rfl rfl rfl, ⟨_, rfl, AD rfl (A1 64 267 1 r BU BA rfl rfl (by omega) (by omega) (by omega))⟩, ⟨_, rfl, AD rfl (AL rfl (AZ BK (BW (RdA.mem hG (by simp)) (Seg.get (DT (i := r) (by rw [F7]; omega))) (by omega))))⟩, AU rfl rfl rfl, ⟨_, rfl, AD rfl (A1 64 267 1 r BU BA rfl rfl (by omega) (by omega) (by omega))⟩, ⟨_, rfl, AD rfl (AL rfl (AZ BK (AR 2 rfl (Seg.get (DT (i := r) (by rw [hw]; omega))))))⟩, trivial⟩ rfl (AW rfl (AY 191 [U32 ve, I64 6] (U32 (rotr ve 6)) (A4 _ Tryd.call191 rfl) (fun w1 hw1 => rturn_c ve 6 w1 (by omega) (by omega)))) ?_
   show DP _ _ _ _ _ _ _ _ [_, _, _]
   refine CU ⟨[2], [0, 1, 3, 6, 10, 11, 12, 13, 14, 15, 16, 17, 19, 20, 21, 23, 24, 25], [1], [0, 3, 6, 10, 11, 12, 13, 14, 15, 16, 17, 19, 20, 21, 23, 24, 25], [4]⟩ 4 _ rfl rfl (by decide +kernel) rfl ⟨AU rfl rfl rfl, AU rfl rfl rfl, AU rfl rfl rfl, AU rfl rfl rfl, AU rfl rfl rfl, ⟨_, rfl, AD rfl (AJ rfl rfl fun _ => EF ve vf)⟩, AU rfl rfl rfl, ⟨_, rfl, AD rfl (Ev_un _ _ rfl fun _ => GN _)⟩, AU rfl rfl rfl, ⟨_, rfl, AD rfl (AJ rfl rfl fun _ => EF (~~~ve) vg)⟩, ⟨_, rfl, AD rfl (AJ rfl rfl fun _ => DL (ve &&& vf) ((~~~ve) &&& vg))⟩, AU rfl rfl rfl, ⟨_, rfl, AD rfl (A1 64 267 1 r BU BA rfl rfl (by omega) (by omega) (by omega))⟩, ⟨_, rfl, AD rfl (AL rfl (AZ BK (BW (RdA.mem hG (by simp)) (Seg.get (DT (i := r) (by rw [F7]; omega))) (by omega))))⟩, AU rfl rfl rfl, ⟨_, rfl, AD rfl (A1 64 267 1 r BU BA rfl rfl (by omega) (by omega) (by omega))⟩, ⟨_, rfl, AD rfl (AL rfl (AZ BK (AR 2 rfl (Seg.get (DT (i := r) (by rw [hw]; omega))))))⟩, trivial⟩ rfl (AW rfl (AY 191 [U32 ve, I64 11] (U32 (rotr ve 11)) (A4 _ Tryd.call191 rfl) (fun w1 hw1 => rturn_c ve 11 w1 (by omega) (by omega)))) ?_
   rintro v1 L1 ⟨rfl, rfl⟩
   refine ⟨[(5, U32 ((rotr ve 6) ^^^ (rotr ve 11)))], ?_⟩
   show DP _ _ _ _ _ _ _ _ [_, _, _]
   refine CU ⟨[2, 4], [0, 1, 3, 5, 6, 10, 11, 12, 13, 14, 15, 16, 17, 19, 20, 21, 23, 24, 25], [1, 3], [0, 5, 6, 10, 11, 12, 13, 14, 15, 16, 17, 19, 20, 21, 23, 24, 25], [7]⟩ 7 _ rfl rfl (by decide +kernel) rfl ⟨AU rfl rfl rfl, ⟨_, rfl, AD rfl (AJ rfl rfl fun _ => DL (rotr ve 6) (rotr ve 11))⟩, AU rfl rfl rfl, AU rfl rfl rfl, AU rfl rfl rfl, ⟨_, rfl, AD rfl (AJ rfl rfl fun _ => EF ve vf)⟩, AU rfl rfl rfl, ⟨_, rfl, AD rfl (Ev_un _ _ rfl fun _ => GN _)⟩, AU rfl rfl rfl, ⟨_, rfl, AD rfl (AJ rfl rfl fun _ => EF (~~~ve) vg)⟩, ⟨_, rfl, AD rfl (AJ rfl rfl fun _ => DL (ve &&& vf) ((~~~ve) &&& vg))⟩, AU rfl rfl rfl, ⟨_, rfl, AD rfl (A1 64 267 1 r BU BA rfl rfl (by omega) (by omega) (by omega))⟩, ⟨_, rfl, AD rfl (AL rfl (AZ BK (BW (RdA.mem hG (by simp)) (Seg.get (DT (i := r) (by rw [F7]; omega))) (by omega))))⟩, AU rfl rfl rfl, ⟨_, rfl, AD rfl (A1 64 267 1 r BU BA rfl rfl (by omega) (by omega) (by omega))⟩, ⟨_, rfl, AD rfl (AL rfl (AZ BK (AR 2 rfl (Seg.get (DT (i := r) (by rw [hw]; omega))))))⟩, trivial⟩ rfl (AW rfl (AY 191 [U32 ve, I64 25] (U32 (rotr ve 25)) (A4 _ Tryd.call191 rfl) (fun w1 hw1 => rturn_c ve 25 w1 (by omega) (by omega)))) ?_
   rintro v1 L1 ⟨rfl, rfl⟩
   refine ⟨[(8, U32 (((rotr ve 6) ^^^ (rotr ve 11)) ^^^ (rotr ve 25))), (9, U32 (vh + (((rotr ve 6) ^^^ (rotr ve 11)) ^^^ (rotr ve 25)))), (18, U32 ((vh + (((rotr ve 6) ^^^ (rotr ve 11)) ^^^ (rotr ve 25))) + ((ve &&& vf) ^^^ ((~~~ve) &&& vg)))), (22, U32 (((vh + (((rotr ve 6) ^^^ (rotr ve 11)) ^^^ (rotr ve 25))) + ((ve &&& vf) ^^^ ((~~~ve) &&& vg))) + (g32 constL r))), (26, U32 ((((vh + (((rotr ve 6) ^^^ (rotr ve 11)) ^^^ (rotr ve 25))) + ((ve &&& vf) ^^^ ((~~~ve) &&& vg))) + (g32 constL r)) + (g32 ww r))), (27, U32 ((((vh + (((rotr ve 6) ^^^ (rotr ve 11)) ^^^ (rotr ve 25))) + ((ve &&& vf) ^^^ ((~~~ve) &&& vg))) + (g32 constL r)) + (g32 ww r)))], ?_⟩
   show DP _ _ _ _ _ _ _ _ [_, _, _]
   refine DE ⟨[2, 4, 7], [0, 1, 3, 5, 6, 8, 9, 10, 11, 12, 13, 14, 15, 16, 17, 18, 19, 20, 21, 22, 23, 24, 25, 26, 27], [1, 3, 6], [0, 5, 8, 9, 10, 11, 12, 13, 14, 15, 16, 17, 18, 19, 20, 21, 22, 23, 24, 25, 26, 27], []⟩ rfl rfl (by decide +kernel) rfl ⟨AU rfl rfl rfl, ⟨_, rfl, AD rfl (AJ rfl rfl fun _ => DL (rotr ve 6) (rotr ve 11))⟩, ⟨_, rfl, AD rfl (AJ rfl rfl fun _ => DL ((rotr ve 6) ^^^ (rotr ve 11)) (rotr ve 25))⟩, ⟨_, rfl, AD rfl (AJ rfl rfl fun _ => DM vh (((rotr ve 6) ^^^ (rotr ve 11)) ^^^ (rotr ve 25)))⟩, AU rfl rfl rfl, AU rfl rfl rfl, ⟨_, rfl, AD rfl (AJ rfl rfl fun _ => EF ve vf)⟩, AU rfl rfl rfl, ⟨_, rfl, AD rfl (Ev_un _ _ rfl fun _ => GN _)⟩, AU rfl rfl rfl, ⟨_, rfl, AD rfl (AJ rfl rfl fun _ => EF (~~~ve) vg)⟩, ⟨_, rfl, AD rfl (AJ rfl rfl fun _ => DL (ve &&& vf) ((~~~ve) &&& vg))⟩, ⟨_, rfl, AD rfl (AJ rfl rfl fun _ => DM (vh + (((rotr ve 6) ^^^ (rotr ve 11)) ^^^ (rotr ve 25))) ((ve &&& vf) ^^^ ((~~~ve) &&& vg)))⟩, AU rfl rfl rfl, ⟨_, rfl, AD rfl (A1 64 267 1 r BU BA rfl rfl (by omega) (by omega) (by omega))⟩, ⟨_, rfl, AD rfl (AL rfl (AZ BK (BW (RdA.mem hG (by simp)) (Seg.get (DT (i := r) (by rw [F7]; omega))) (by omega))))⟩, ⟨_, rfl, AD rfl (AJ rfl rfl fun _ => DM ((vh + (((rotr ve 6) ^^^ (rotr ve 11)) ^^^ (rotr ve 25))) + ((ve &&& vf) ^^^ ((~~~ve) &&& vg))) (g32 constL r))⟩, AU rfl rfl rfl, ⟨_, rfl, AD rfl (A1 64 267 1 r BU BA rfl rfl (by omega) (by omega) (by omega))⟩, ⟨_, rfl, AD rfl (AL rfl (AZ BK (AR 2 rfl (Seg.get (DT (i := r) (by rw [hw]; omega))))))⟩, ⟨_, rfl, AD rfl (AJ rfl rfl fun _ => DM (((vh + (((rotr ve 6) ^^^ (rotr ve 11)) ^^^ (rotr ve 25))) + ((ve &&& vf) ^^^ ((~~~ve) &&& vg))) + (g32 constL r)) (g32 ww r))⟩, ⟨_, rfl, AD rfl (AE rfl)⟩, trivial⟩ ?_
   refine CC (F' := [(107, U32 vh), (108, U32 ve), (109, U32 (rotr ve 6)), (110, U32 ve), (111, U32 (rotr ve 11)), (112, U32 ((rotr ve 6) ^^^ (rotr ve 11))), (113, U32 ve), (114, U32 (rotr ve 25)), (115, U32 (((rotr ve 6) ^^^ (rotr ve 11)) ^^^ (rotr ve 25))), (116, U32 (vh + (((rotr ve 6) ^^^ (rotr ve 11)) ^^^ (rotr ve 25)))), (117, U32 ve), (118, U32 vf), (119, U32 (ve &&& vf)), (120, U32 ve), (121, U32 (~~~ve)), (122, U32 vg), (123, U32 ((~~~ve) &&& vg)), (124, U32 ((ve &&& vf) ^^^ ((~~~ve) &&& vg))), (125, U32 ((vh + (((rotr ve 6) ^^^ (rotr ve 11)) ^^^ (rotr ve 25))) + ((ve &&& vf) ^^^ ((~~~ve) &&& vg)))), (126, I64 r), (127, Ptr 2 r), (128, U32 (g32 constL r)), (129, U32 (((vh + (((rotr ve 6) ^^^ (rotr ve 11)) ^^^ (rotr ve 25))) + ((ve &&& vf) ^^^ ((~~~ve) &&& vg))) + (g32 constL r))), (130, I64 r), (131, Ptr nb3 r), (132, U32 (g32 ww r)), (133, U32 ((((vh + (((rotr ve 6) ^^^ (rotr ve 11)) ^^^ (rotr ve 25))) + ((ve &&& vf) ^^^ ((~~~ve) &&& vg))) + (g32 constL r)) + (g32 ww r))), (21, U32 ((((vh + (((rotr ve 6) ^^^ (rotr ve 11)) ^^^ (rotr ve 25))) + ((ve &&& vf) ^^^ ((~~~ve) &&& vg))) + (g32 constL r)) + (g32 ww r))), (2, Ptr nb1 0), (4, Ptr nb2 0), (5, Ptr nb3 0), (20, I64 r), (12, U32 va), (13, U32 vb), (14, U32 vc), (15, U32 vd), (16, U32 ve), (17, U32 vf), (18, U32 vg), (19, U32 vh), (103, I64 r), (104, .bool (decide (((r:Int)) < (64:Int))))]) (by kernel_rfl) ?_
   refine AC (AF (AB (AA _ (AG rfl) rfl ?_)))
   refine A0 (AY 191 [U32 va, I64 2] (U32 (rotr va 2)) (A4 _ Tryd.call191 rfl) (fun w1 hw1 => rturn_c va 2 w1 (by omega) (by omega))) rfl ?_
   show JL _ _ _ _ ((135, U32 (rotr va 2)) :: _) [_, _, _]
   refine AA _ (AG rfl) rfl ?_
   refine A0 (AY 191 [U32 va, I64 13] (U32 (rotr va 13)) (A4 _ Tryd.call191 rfl) (fun w1 hw1 => rturn_c va 13 w1 (by omega) (by omega))) rfl ?_
   show JL _ _ _ _ ((137, U32 (rotr va 13)) :: _) [_, _, _]
   refine AA (U32 ((rotr va 2) ^^^ (rotr va 13))) (AJ rfl rfl fun _ => DL (rotr va 2) (rotr va 13)) rfl ?_
   refine AA _ (AG rfl) rfl ?_
   refine A0 (AY 191 [U32 va, I64 22] (U32 (rotr va 22)) (A4 _ Tryd.call191 rfl) (fun w1 hw1 => rturn_c va 22 w1 (by omega) (by omega))) rfl ?_
   show JL _ _ _ _ ((140, U32 (rotr va 22)) :: _) [_, _, _]
   refine AA (U32 (((rotr va 2) ^^^ (rotr va 13)) ^^^ (rotr va 22))) (AJ rfl rfl fun _ => DL ((rotr va 2) ^^^ (rotr va 13)) (rotr va 22)) rfl ?_
   refine AA _ (AG rfl) rfl ?_
   refine AA _ (AG rfl) rfl ?_
   refine AA (U32 (va &&& vb)) (AJ rfl rfl fun _ => EF va vb) rfl ?_
   refine AA _ (AG rfl) rfl ?_
   refine AA _ (AG rfl) rfl ?_
   refine AA (U32 (va &&& vc)) (AJ rfl rfl fun _ => EF va vc) rfl ?_
   refine AA (U32 ((va &&& vb) ^^^ (va &&& vc))) (AJ rfl rfl fun _ => DL (va &&& vb) (va &&& vc)) rfl ?_
   refine AA _ (AG rfl) rfl ?_
   refine AA _ (AG rfl) rfl ?_
   refine AA (U32 (vb &&& vc)) (AJ rfl rfl fun _ => EF vb vc) rfl ?_
   refine AA (U32 (((va &&& vb) ^^^ (va &&& vc)) ^^^ (vb &&& vc))) (AJ rfl rfl fun _ => DL ((va &&& vb) ^^^ (va &&& vc)) (vb &&& vc)) rfl ?_
   refine AA (U32 ((((rotr va 2) ^^^ (rotr va 13)) ^^^ (rotr va 22)) + (((va &&& vb) ^^^ (va &&& vc)) ^^^ (vb &&& vc)))) (AJ rfl rfl fun _ => DM (((rotr va 2) ^^^ (rotr va 13)) ^^^ (rotr va 22)) (((va &&& vb) ^^^ (va &&& vc)) ^^^ (vb &&& vc))) rfl ?_
   refine AA _ (AE rfl) rfl ?_
   refine AI (AC (AF (AB (AA _ (AG rfl) rfl ?_))))
   refine AA _ (AE rfl) rfl ?_
   refine AI (AC (AF (AB (AA _ (AG rfl) rfl ?_))))
   refine AA _ (AE rfl) rfl ?_
   refine AI (AC (AF (AB (AA _ (AG rfl) rfl ?_))))
   refine AA _ (AE rfl) rfl ?_
   refine AI (AC (AF (AB (AA _ (AG rfl) rfl ?_))))
   refine AA _ (AG rfl) rfl ?_
   refine AA (U32 (vd + ((((vh + (((rotr ve 6) ^^^ (rotr ve 11)) ^^^ (rotr ve 25))) + ((ve &&& vf) ^^^ ((~~~ve) &&& vg))) + (g32 constL r)) + (g32 ww r)))) (AJ rfl rfl fun _ => DM vd ((((vh + (((rotr ve 6) ^^^ (rotr ve 11)) ^^^ (rotr ve 25))) + ((ve &&& vf) ^^^ ((~~~ve) &&& vg))) + (g32 constL r)) + (g32 ww r))) rfl ?_
   refine AA _ (AE rfl) rfl ?_
   refine AI (AC (AF (AB (AA _ (AG rfl) rfl ?_))))
   refine AA _ (AE rfl) rfl ?_
   refine AI (AC (AF (AB (AA _ (AG rfl) rfl ?_))))
   refine AA _ (AE rfl) rfl ?_
   refine AI (AC (AF (AB (AA _ (AG rfl) rfl ?_))))
   refine AA _ (AE rfl) rfl ?_
   refine AI (AC (AB (AA _ (AG rfl) rfl ?_)))
   refine AA _ (AG rfl) rfl ?_
   refine AA (U32 (((((vh + (((rotr ve 6) ^^^ (rotr ve 11)) ^^^ (rotr ve 25))) + ((ve &&& vf) ^^^ ((~~~ve) &&& vg))) + (g32 constL r)) + (g32 ww r)) + ((((rotr va 2) ^^^ (rotr va 13)) ^^^ (rotr va 22)) + (((va &&& vb) ^^^ (va &&& vc)) ^^^ (vb &&& vc))))) (AJ rfl rfl fun _ => DM ((((vh + (((rotr ve 6) ^^^ (rotr ve 11)) ^^^ (rotr ve 25))) + ((ve &&& vf) ^^^ ((~~~ve) &&& vg))) + (g32 constL r)) + (g32 ww r)) ((((rotr va 2) ^^^ (rotr va 13)) ^^^ (rotr va 22)) + (((va &&& vb) ^^^ (va &&& vc)) ^^^ (vb &&& vc)))) rfl ?_
   refine AA _ (AE rfl) rfl ?_
   refine AI (A5 (AC (AB (AA _ (AG rfl) rfl ?_))))
   refine AA (I64 ((r:Int) + 1)) (AJ rfl rfl fun _ => BP _ _ ((r:Int) + 1) (by omega) (by omega)) rfl ?_
   refine AA _ (AE rfl) rfl ?_
   refine AI (B6 (DN (r + 1, ((((vh + (((rotr ve 6) ^^^ (rotr ve 11)) ^^^ (rotr ve 25))) + ((ve &&& vf) ^^^ ((~~~ve) &&& vg))) + (g32 constL r)) + (g32 ww r)) + ((((rotr va 2) ^^^ (rotr va 13)) ^^^ (rotr va 22)) + (((va &&& vb) ^^^ (va &&& vc)) ^^^ (vb &&& vc))), va, vb, vc, vd + ((((vh + (((rotr ve 6) ^^^ (rotr ve 11)) ^^^ (rotr ve 25))) + ((ve &&& vf) ^^^ ((~~~ve) &&& vg))) + (g32 constL r)) + (g32 ww r)), ve, vf, vg) ⟨by omega, by rw [cpN, ← hy2]; rfl⟩ (by first | (simp; omega) | simp | (dsimp only; omega) | omega) (Sub.all rfl) rfl))
  ·
   have hp4 : ¬ (((r:Int)) < (64:Int)) := of_decide_eq_false hb4
   refine DA (AQ (AQ (BV (AC (AF (AB (AA (Ptr nb1 0) (A1 8 267 1 0 BX BA rfl rfl (by omega) (by omega) (by omega)) rfl ?_)))))))
   refine AA (U32 (g32 st 0)) (AL rfl (AZ BK (AR 0 rfl (Seg.get (DT (i := 0) (by rw [hs0]; omega)))))) rfl ?_
   refine AA _ (AG rfl) rfl ?_
   refine AA (U32 ((g32 st 0) + va)) (AJ rfl rfl fun _ => DM (g32 st 0) va) rfl ?_
   refine AA (Ptr nb1 1) (A1 8 267 1 1 BX BA rfl rfl (by omega) (by omega) (by omega)) rfl ?_
   refine AA (U32 (g32 st 1)) (AL rfl (AZ BK (AR 0 rfl (Seg.get (DT (i := 1) (by rw [hs0]; omega)))))) rfl ?_
   refine AA _ (AG rfl) rfl ?_
   refine AA (U32 ((g32 st 1) + vb)) (AJ rfl rfl fun _ => DM (g32 st 1) vb) rfl ?_
   refine AA (Ptr nb1 2) (A1 8 267 1 2 BX BA rfl rfl (by omega) (by omega) (by omega)) rfl ?_
   refine AA (U32 (g32 st 2)) (AL rfl (AZ BK (AR 0 rfl (Seg.get (DT (i := 2) (by rw [hs0]; omega)))))) rfl ?_
   refine AA _ (AG rfl) rfl ?_
   refine AA (U32 ((g32 st 2) + vc)) (AJ rfl rfl fun _ => DM (g32 st 2) vc) rfl ?_
   refine AA (Ptr nb1 3) (A1 8 267 1 3 BX BA rfl rfl (by omega) (by omega) (by omega)) rfl ?_
   refine AA (U32 (g32 st 3)) (AL rfl (AZ BK (AR 0 rfl (Seg.get (DT (i := 3) (by rw [hs0]; omega)))))) rfl ?_
   refine AA _ (AG rfl) rfl ?_
   refine AA (U32 ((g32 st 3) + vd)) (AJ rfl rfl fun _ => DM (g32 st 3) vd) rfl ?_
   refine AA (Ptr nb1 4) (A1 8 267 1 4 BX BA rfl rfl (by omega) (by omega) (by omega)) rfl ?_
   refine AA (U32 (g32 st 4)) (AL rfl (AZ BK (AR 0 rfl (Seg.get (DT (i := 4) (by rw [hs0]; omega)))))) rfl ?_
   refine AA _ (AG rfl) rfl ?_
   refine AA (U32 ((g32 st 4) + ve)) (AJ rfl rfl fun _ => DM (g32 st 4) ve) rfl ?_
   refine AA (Ptr nb1 5) (A1 8 267 1 5 BX BA rfl rfl (by omega) (by omega) (by omega)) rfl ?_
   refine AA (U32 (g32 st 5)) (AL rfl (AZ BK (AR 0 rfl (Seg.get (DT (i := 5) (by rw [hs0]; omega)))))) rfl ?_
   refine AA _ (AG rfl) rfl ?_
   refine AA (U32 ((g32 st 5) + vf)) (AJ rfl rfl fun _ => DM (g32 st 5) vf) rfl ?_
   refine AA (Ptr nb1 6) (A1 8 267 1 6 BX BA rfl rfl (by omega) (by omega) (by omega)) rfl ?_
   refine AA (U32 (g32 st 6)) (AL rfl (AZ BK (AR 0 rfl (Seg.get (DT (i := 6) (by rw [hs0]; omega)))))) rfl ?_
   refine AA _ (AG rfl) rfl ?_
   refine AA (U32 ((g32 st 6) + vg)) (AJ rfl rfl fun _ => DM (g32 st 6) vg) rfl ?_
   refine AA (Ptr nb1 7) (A1 8 267 1 7 BX BA rfl rfl (by omega) (by omega) (by omega)) rfl ?_
   refine AA (U32 (g32 st 7)) (AL rfl (AZ BK (AR 0 rfl (Seg.get (DT (i := 7) (by rw [hs0]; omega)))))) rfl ?_
   refine AA _ (AG rfl) rfl ?_
   refine AA (U32 ((g32 st 7) + vh)) (AJ rfl rfl fun _ => DM (g32 st 7) vh) rfl ?_
   refine AA (.agg (cu32 ([(g32 st 0) + va, (g32 st 1) + vb, (g32 st 2) + vc, (g32 st 3) + vd, (g32 st 4) + ve, (g32 st 5) + vf, (g32 st 6) + vg, (g32 st 7) + vh])).toArray) (DG [(0, U32 ((g32 st 0) + va)), (1, U32 ((g32 st 1) + vb)), (2, U32 ((g32 st 2) + vc)), (3, U32 ((g32 st 3) + vd)), (4, U32 ((g32 st 4) + ve)), (5, U32 ((g32 st 5) + vf)), (6, U32 ((g32 st 6) + vg)), (7, U32 ((g32 st 7) + vh))] _ rfl (fun _ => by kernel_rfl)) rfl ?_
   refine A0 (AX 1 nb2 8 (cu32 (zr32 8)) 268 (cu32 ([(g32 st 0) + va, (g32 st 1) + vb, (g32 st 2) + vc, (g32 st 3) + vd, (g32 st 4) + ve, (g32 st 5) + vf, (g32 st 6) + vg, (g32 st 7) + vh])) rfl rfl rfl EE (by simp []) (by first | exact CD | exact CS | exact CR | (simp [cu8, cu32, cu64, Value.oneCell']; done)) (by simp [(F4 8)]) (A6 (by simp [(F4 8)]))) rfl ?_
   show JL _ _ _ _ _ [_, ⟨nb2, cu32 ([(g32 st 0) + va, (g32 st 1) + vb, (g32 st 2) + vc, (g32 st 3) + vd, (g32 st 4) + ve, (g32 st 5) + vf, (g32 st 6) + vg, (g32 st 7) + vh]), 268, (0, 0)⟩, _]
   refine AI (AC (BO (BQ (.agg (cu32 ([(g32 st 0) + va, (g32 st 1) + vb, (g32 st 2) + vc, (g32 st 3) + vd, (g32 st 4) + ve, (g32 st 5) + vf, (g32 st 6) + vg, (g32 st 7) + vh])).toArray) (res1 Tryd.results176 (DY rfl (BH Tryd.isAgg268 EE (by simp []) (AR 1 rfl (AN _))))) fun w1 hw1 => ?_)))
   have e1 : t = 64 := by omega
   have e2 : r = 64 := by omega
   subst e1; subst e2
   have e3 : cpN constL st (spreadL blk) 64 = [va, vb, vc, vd, ve, vf, vg, vh] := by rw [spreadL, ← hx2]; exact hy2.symm
   refine ⟨_, [], rfl, ⟨?_, rfl⟩, hw1.sub (by simp) (by simp)⟩
   rw [comprL_eq hs0 _ _ _ _ _ _ _ _ e3]
theorem scloneNil_c  (w : World) : Calls Tryd.prog 108 #[.slice none 0 0] w (Post w [] (fun v L => v = .slice none 0 0 ∧ L = [])) := by
 refine enter w [] 8 [] [.slice none 0 0] Tryd.func108 rfl rfl (by simp) (BR (by simp) (by simp) (by simp)) ?_
 show JC _ _ _ [(0, .slice none 0 0)] _
 refine AF (AB (AA _ (AE rfl) rfl ?_))
 refine AI (AC (AF (AF (AB (AA _ (AG rfl) rfl ?_)))))
 refine AA (.bool true) (FQ _ _ _ rfl rfl (fun _ => eqGuard_sl ..) fun _ => eql_sl_nil_nil AK) rfl ?_
 refine AI (AC (D1 _ rfl rfl ?_))
 refine AF (AB (AA _ (AE rfl) rfl ?_))
 refine AI (AC (BO (A3 (BQ (.slice none 0 0) (res1 Tryd.results108 (B2 rfl)) fun w1 hw1 => ?_))))
 exact ⟨_, [], rfl, ⟨rfl, rfl⟩, hw1.sub (by simp) (by simp)⟩
theorem sclone_c (ao : Option Addr) (n cb : Nat) (b : List UInt8) (w : World) (ha : ao.isNone = false) (hb : b.length = n) (hn : n ≤ 35184372088832) (hr : RdB w [] ao b) : Calls Tryd.prog 108 #[.slice ao n cb] w (Post w [] (fun v L => ∃ g sp cap, v = Slc g 0 n cap ∧ L = [⟨g, cu8 (b) ++ sp, 5, (0, 0)⟩] ∧ sp.length = cap - n ∧ n ≤ cap ∧ cap ≤ maxLen)) := by
 refine enter w [] 8 [] [.slice ao n cb] Tryd.func108 rfl rfl (by simp) (BR (by simp) (by simp) (by simp)) ?_
 show JC _ _ _ [(0, .slice ao n cb)] _
 refine AF (AB (AA _ (AE rfl) rfl ?_))
 refine AI (AC (AF (AF (AB (AA _ (AG rfl) rfl ?_)))))
 refine AA (.bool ao.isNone) (FQ _ _ _ rfl rfl (fun _ => eqGuard_sl ..) fun _ => eql_sl_any AK) rfl ?_
 refine AI (AC (DV _ rfl ha ?_))
 refine BJ (AC (AF (AB (AV (FF 5 1 AK AM) rfl ?_))))
 rintro v1 L1 ⟨nb1, hnb1, rfl, rfl⟩
 show JL _ _ _ _ ((5, Slc nb1 0 0 0) :: _) [⟨nb1, [], 5, (0, 0)⟩]
 refine AA _ (AG rfl) rfl ?_
 refine AV (DH 43 5 [true] (Slc nb1 0 0 0) 0 ([] : List UInt8) b ao n cb n AK C4 rfl (.inr ⟨nb1, [], 0, rfl, (by simp [take?, cu8, cu32, cu64]), rfl, (by simp), (by omega), (by unfold maxLen; omega)⟩) rfl (by first | exact hb | simp [hb]; try omega) (hr.src) (by omega) (by unfold maxLen; omega) (by omega)) rfl ?_
 rintro v1 L1 ⟨nb2, sp1, cp1, hg1, rfl, rfl, ha1, ha2, ha3, ha4⟩
 show JL _ _ _ _ ((7, Slc nb2 0 n cp1) :: _) [⟨nb2, cu8 (([] : List UInt8) ++ b) ++ sp1, 5, (0, 0)⟩]
 refine AA _ (AE rfl) rfl ?_
 refine AI (AC (BO (BQ (Slc nb2 0 n cp1) (res1 Tryd.results108 (B2 rfl)) fun w1 hw1 => ?_)))
 exact ⟨_, _, rfl, ⟨nb2, sp1, cp1, rfl, rfl, ha2, ha3, ha4⟩, hw1⟩
theorem bclone_c (ao : Option Addr) (n cb : Nat) (b : List UInt8) (w : World) (ha : ao.isNone = false) (hb : b.length = n) (hn : n ≤ 35184372088832) (hr : RdB w [] ao b) : Calls Tryd.prog 146 #[.slice ao n cb] w (Post w [] (fun v L => ∃ g sp cap, v = Slc g 0 n cap ∧ L = [⟨g, cu8 (b) ++ sp, 5, (0, 0)⟩] ∧ sp.length = cap - n ∧ n ≤ cap ∧ cap ≤ maxLen)) := by
 refine enter w [] 8 [] [.slice ao n cb] Tryd.func146 rfl rfl (by simp) (BR (by simp) (by simp) (by simp)) ?_
 show JC _ _ _ [(0, .slice ao n cb)] _
 refine AF (AB (AA _ (AE rfl) rfl ?_))
 refine AI (AC (AF (AF (AB (AA _ (AG rfl) rfl ?_)))))
 refine AA (.bool ao.isNone) (FQ _ _ _ rfl rfl (fun _ => eqGuard_sl ..) fun _ => eql_sl_any AK) rfl ?_
 refine AI (AC (DV _ rfl ha ?_))
 refine BJ (AC (AF (AB (AV (FF 5 1 AK AM) rfl ?_))))
 rintro v1 L1 ⟨nb1, hnb1, rfl, rfl⟩
 show JL _ _ _ _ ((5, Slc nb1 0 0 0) :: _) [⟨nb1, [], 5, (0, 0)⟩]
 refine AA _ (AG rfl) rfl ?_
 refine AV (DH 43 5 [true] (Slc nb1 0 0 0) 0 ([] : List UInt8) b ao n cb n AK C4 rfl (.inr ⟨nb1, [], 0, rfl, (by simp [take?, cu8, cu32, cu64]), rfl, (by simp), (by omega), (by unfold maxLen; omega)⟩) rfl (by first | exact hb | simp [hb]; try omega) (hr.src) (by omega) (by unfold maxLen; omega) (by omega)) rfl ?_
 rintro v1 L1 ⟨nb2, sp1, cp1, hg1, rfl, rfl, ha1, ha2, ha3, ha4⟩
 show JL _ _ _ _ ((7, Slc nb2 0 n cp1) :: _) [⟨nb2, cu8 (([] : List UInt8) ++ b) ++ sp1, 5, (0, 0)⟩]
 refine AA _ (AE rfl) rfl ?_
 refine AI (AC (BO (BQ (Slc nb2 0 n cp1) (res1 Tryd.results146 (B2 rfl)) fun w1 hw1 => ?_)))
 exact ⟨_, _, rfl, ⟨nb2, sp1, cp1, rfl, rfl, ha2, ha3, ha4⟩, hw1⟩
theorem slc_len {b o l l' c : Nat} (h : l = l') : Slc b o l c = Slc b o l' c := by rw [h]
theorem nzP_lt (n : Nat) : nzP n < 64 := by unfold nzP; omega
theorem nzP_def (n : Nat) : nzP n = (119 - n % 64) % 64 := rfl
theorem zr8_succ (j : Nat) : zr8 (j + 1) = zr8 j ++ [0] := by rw [zr8, zr8, List.replicate_succ']
theorem padNil_c  (w : World) : Calls Tryd.prog 193 #[.slice none 0 0] w (Post w [] (fun v L => ∃ g sp cap, v = Slc g 0 (padL ([] : List UInt8)).length cap ∧ L = [⟨g, cu8 (padL ([] : List UInt8)) ++ sp, 5, (0, 0)⟩] ∧ sp.length = cap - (padL ([] : List UInt8)).length ∧ (padL ([] : List UInt8)).length ≤ cap ∧ cap ≤ maxLen)) := by
 have hnz := nzP_lt 0
 have hnd := nzP_def 0
 refine enter w [] 31 [] [.slice none 0 0] Tryd.func193 rfl rfl (by simp) (BR (by simp) (by simp) (by simp)) ?_
 show JC _ _ _ [(0, .slice none 0 0)] _
 refine AF (AB (AA _ (AE rfl) rfl ?_))
 refine AI (AC (AF (AB (AA _ (AG rfl) rfl ?_))))
 refine A0 (AY 108 [.slice none 0 0] (.slice none 0 0) (A4 _ Tryd.call108 rfl) (fun w1 hw1 => scloneNil_c w1)) rfl ?_
 show JL _ _ _ _ ((6, .slice none 0 0) :: _) []
 refine AV (BT 5 1 _ [(0, U8 128)] (cu8 ([(128:UInt8)])) AK AM C1 rfl rfl rfl (by kernel_rfl)) rfl ?_
 rintro v1 L1 ⟨nb1, hnb1, rfl, rfl⟩
 show JL _ _ _ _ ((7, Slc nb1 0 1 1) :: _) [⟨nb1, cu8 ([(128:UInt8)]), 5, (0, 0)⟩]
 refine AV (DH 43 5 [false] (.slice none 0 0) 0 ([] : List UInt8) ([(128:UInt8)]) (some ⟨nb1, 0, none⟩) 1 1 1 AK C4 rfl (.inl ⟨rfl, rfl, rfl, rfl, by omega⟩) rfl (by simp) (SrcAt.mem (AR 0 rfl (AN _))) (by omega) (by unfold maxLen; omega) (by omega)) rfl ?_
 rintro v1 L1 ⟨nb2, sp1, cp1, hg1, rfl, rfl, ha1, ha2, ha3, ha4⟩
 show JL _ _ _ _ ((8, Slc nb2 0 1 cp1) :: _) [_, ⟨nb2, cu8 (([] : List UInt8) ++ ([(128:UInt8)])) ++ sp1, 5, (0, 0)⟩]
 refine AA _ (AE rfl) rfl ?_
 refine AI (AC (AF (A9 (CA [false, true] ?_))))
 show JC _ _ _ _ [_]
 refine DI (ι := Nat × List UInt8 × Nat × List Value × Nat) (fun ⟨j, o, g1, sp1, cp1⟩ => [(0, .slice none 0 0), (2, .slice none 0 0), (3, Slc g1 0 (j + 1) cp1)]) (fun ⟨j, o, g1, sp1, cp1⟩ => [⟨g1, cu8 o ++ sp1, 5, (0, 0)⟩]) (fun ⟨j, o, g1, sp1, cp1⟩ => j ≤ nzP 0 ∧ o = (([] : List UInt8) ++ [(128:UInt8)]) ++ zr8 j ∧ o.length = (j + 1) ∧ sp1.length = cp1 - (j + 1) ∧ (j + 1) ≤ cp1 ∧ cp1 ≤ maxLen) (fun ⟨j, o, g1, sp1, cp1⟩ => nzP 0 - j) (0, ([] : List UInt8) ++ ([(128:UInt8)]), nb2, sp1, cp1) ⟨by omega, by simp [zr8], by simp, by have := ha2; omega, by omega, ha4⟩ (Sub.cons rfl (Sub.cons rfl (Sub.cons (FM (by omega)) (Sub.nil)))) rfl ?_
 rintro ⟨j, o, g1, sp1, cp1⟩ ⟨hx1, hx2, ho, hx4, hx5, hx6⟩
 show JC _ _ _ [(0, .slice none 0 0), (2, .slice none 0 0), (3, Slc g1 0 (j + 1) cp1)] [⟨g1, cu8 o ++ sp1, 5, (0, 0)⟩]
 refine AF (AF (AB (AA _ (AG rfl) rfl ?_)))
 refine AA (I64 ((j:Int) + 1)) (Ev_lenX AK rfl (by omega)) rfl ?_
 obtain ⟨dq1, hdq1, hdq1a, hdq1b⟩ : ∃ q : Nat, q = (j + 1) % 64 ∧ (q : Int) = ((j:Int) + 1) % 64 ∧ (q < 64) := ⟨_, rfl, by first | rfl | omega, by omega⟩
 refine AA (I64 dq1) (AJ rfl rfl fun _ => F3 _ _ ((dq1:Int)) (by omega) (by omega) (by omega)) rfl ?_
 refine AA (.bool (decide (((dq1:Int)) ≠ (56:Int)))) (AJ rfl rfl fun _ => FU _ _) rfl ?_
 refine AI (AC (B5 (decide (((dq1:Int)) ≠ (56:Int))) rfl (fun hb1 => ?_) (fun hb1 => ?_)))
 ·
  have hp1 : ((dq1:Int)) ≠ (56:Int) := of_decide_eq_true hb1
  refine BJ (AC (A9 (AB (AA _ (AG rfl) rfl ?_))))
  refine AV (BT 5 1 _ [(0, U8 0)] (cu8 ([(0:UInt8)])) AK AM C1 rfl rfl rfl (by kernel_rfl)) rfl ?_
  rintro v1 L1 ⟨nb3, hnb3, rfl, rfl⟩
  show JL _ _ _ _ ((14, Slc nb3 0 1 1) :: _) [_, ⟨nb3, cu8 ([(0:UInt8)]), 5, (0, 0)⟩]
  refine AV (DH 43 5 [true, false] (Slc g1 0 (j + 1) cp1) (j + 1) o ([(0:UInt8)]) (some ⟨nb3, 0, none⟩) 1 1 (j + 2) AK C4 rfl (.inr ⟨g1, sp1, cp1, rfl, rfl, (by first | exact ho | simp [ho]), hx4, (by omega), (by omega)⟩) rfl (by simp) (SrcAt.mem (AR 1 rfl (AN _))) (by omega) (by unfold maxLen; omega) (by omega)) rfl ?_
  rintro v1 L1 ⟨nb4, sp2, cp2, hg2, rfl, rfl, ha5, ha6, ha7, ha8⟩
  show JL _ _ _ _ ((15, Slc nb4 0 (j + 2) cp2) :: _) [_, ⟨nb4, cu8 (o ++ ([(0:UInt8)])) ++ sp2, 5, (0, 0)⟩]
  refine AA _ (AE rfl) rfl ?_
  refine AI (A5 (B6 (CA [false, true] ?_)))
  show K _ _ [_] _
  refine DN (j + 1, o ++ ([(0:UInt8)]), nb4, sp2, cp2) ⟨by omega, by rw [hx2, zr8_succ, List.append_assoc], (ha5).trans (by first | rfl | simp +arith), (ha6).trans (by first | rfl | simp +arith), by omega, ha8⟩ (by first | (simp; omega) | simp | (dsimp only; omega) | omega) (Sub.cons rfl (Sub.cons rfl (Sub.cons (FM (by omega)) (Sub.nil)))) rfl
 ·
  have hp1 : ¬ (((dq1:Int)) ≠ (56:Int)) := of_decide_eq_false hb1
  refine DA (AQ (AQ (BV (AC (AF (AF (AB (AA _ (AE rfl) rfl ?_))))))))
  refine AI (AC (A9 ?_))
  have ej : j = nzP 0 := by omega
  have ejb : nzP 0 < 64 := by omega
  refine DI (ι := Nat × List UInt8 × Nat × List Value × Nat) (fun ⟨i, o2, g2, sp2, cp2⟩ => [(0, .slice none 0 0), (2, .slice none 0 0), (3, Slc g2 0 (i + j + 1) cp2), (4, I64 (-8*(i:Int) + 56))]) (fun ⟨i, o2, g2, sp2, cp2⟩ => [⟨g2, cu8 o2 ++ sp2, 5, (0, 0)⟩]) (fun ⟨i, o2, g2, sp2, cp2⟩ => i ≤ 8 ∧ o2 = o ++ lenN 0 i ∧ o2.length = (i + j + 1) ∧ sp2.length = cp2 - (i + j + 1) ∧ (i + j + 1) ≤ cp2 ∧ cp2 ≤ maxLen) (fun ⟨i, o2, g2, sp2, cp2⟩ => 8 - i) (0, o, g1, sp1, cp1) ⟨by omega, by simp [lenN], by omega, by omega, by omega, hx6⟩ (Sub.cons rfl (Sub.cons rfl (Sub.cons (FM (by omega)) (Sub.cons (EM (by omega)) (Sub.nil))))) rfl ?_
  rintro ⟨i, o2, g2, sp2, cp2⟩ ⟨hy1, hy2, ho2, hy4, hy5, hy6⟩
  show JC _ _ _ [(0, .slice none 0 0), (2, .slice none 0 0), (3, Slc g2 0 (i + j + 1) cp2), (4, I64 (-8*(i:Int) + 56))] [⟨g2, cu8 o2 ++ sp2, 5, (0, 0)⟩]
  refine AF (AF (AB (AA _ (AG rfl) rfl ?_)))
  refine AA (.bool (decide ((0:Int) ≤ (-8*(i:Int) + 56)))) (AJ rfl rfl fun _ => FY _ _) rfl ?_
  refine AI (AC (B5 (decide ((0:Int) ≤ (-8*(i:Int) + 56))) rfl (fun hb2 => ?_) (fun hb2 => ?_)))
  ·
   have hp2 : (0:Int) ≤ (-8*(i:Int) + 56) := of_decide_eq_true hb2
   refine BJ (AC (AF (A9 (AB (AA _ (AG rfl) rfl ?_)))))
   refine AA _ (AG rfl) rfl ?_
   refine AA (I64 0) (DW AK rfl) rfl ?_
   refine AA (U64 0) (EG _ _ rfl fun _ => conv_lit (by rw [D2]; rfl) B8 rfl) rfl ?_
   refine AA (U64 ((8:UInt64) * (0:UInt64))) (AJ rfl rfl fun _ => bin_mul_u64 (8:UInt64) (0:UInt64)) rfl ?_
   refine AA _ (AG rfl) rfl ?_
   refine AA (U64 (((8:UInt64) * (0:UInt64)) >>> UInt64.ofNat (56 - 8*i))) (AJ rfl rfl fun _ => FC ((8:UInt64) * (0:UInt64)) _ _ (56 - 8*i) (by omega) (by omega)) rfl ?_
   refine AA (U8 ((((8:UInt64) * (0:UInt64)) >>> UInt64.ofNat (56 - 8*i)).toUInt8)) (EG _ _ rfl fun _ => E9 (by rw [B8]; rfl) B3 _) rfl ?_
   refine AV (BT 5 1 _ [(0, U8 ((((8:UInt64) * (0:UInt64)) >>> UInt64.ofNat (56 - 8*i)).toUInt8))] (cu8 ([(((8:UInt64) * (0:UInt64)) >>> UInt64.ofNat (56 - 8*i)).toUInt8])) AK AM C1 rfl rfl rfl (by kernel_rfl)) rfl ?_
   rintro v1 L1 ⟨nb5, hnb5, rfl, rfl⟩
   show JL _ _ _ _ ((28, Slc nb5 0 1 1) :: _) [_, ⟨nb5, cu8 ([(((8:UInt64) * (0:UInt64)) >>> UInt64.ofNat (56 - 8*i)).toUInt8]), 5, (0, 0)⟩]
   refine AV (DH 43 5 [true, false] (Slc g2 0 (i + j + 1) cp2) (i + j + 1) o2 ([(((8:UInt64) * (0:UInt64)) >>> UInt64.ofNat (56 - 8*i)).toUInt8]) (some ⟨nb5, 0, none⟩) 1 1 (i + j + 2) AK C4 rfl (.inr ⟨g2, sp2, cp2, rfl, rfl, (by first | exact ho2 | simp [ho2]), hy4, (by omega), (by omega)⟩) rfl (by simp) (SrcAt.mem (AR 1 rfl (AN _))) (by omega) (by unfold maxLen; omega) (by omega)) rfl ?_
   rintro v1 L1 ⟨nb6, sp3, cp3, hg3, rfl, rfl, ha9, ha10, ha11, ha12⟩
   show JL _ _ _ _ ((29, Slc nb6 0 (i + j + 2) cp3) :: _) [_, ⟨nb6, cu8 (o2 ++ ([(((8:UInt64) * (0:UInt64)) >>> UInt64.ofNat (56 - 8*i)).toUInt8])) ++ sp3, 5, (0, 0)⟩]
   refine AA _ (AE rfl) rfl ?_
   refine AI (A5 (AC (AB (AA _ (AG rfl) rfl ?_))))
   refine AA (I64 (-8*(i:Int) + 48)) (AJ rfl rfl fun _ => C5 _ _ (-8*(i:Int) + 48) (by omega) (by omega)) rfl ?_
   refine AA _ (AE rfl) rfl ?_
   refine AI (B6 (CA [false, true] ?_))
   show K _ _ [_] _
   refine DN (i + 1, o2 ++ ([(((8:UInt64) * (0:UInt64)) >>> UInt64.ofNat (56 - 8*i)).toUInt8]), nb6, sp3, cp3) ⟨by omega, by rw [hy2, lenN, List.append_assoc]; rfl, (ha9).trans (by first | rfl | simp +arith), (ha10).trans (by first | rfl | simp +arith), by omega, ha12⟩ (by first | (simp; omega) | simp | (dsimp only; omega) | omega) (Sub.cons rfl (Sub.cons rfl (Sub.cons (FM (by omega)) (Sub.cons (EM (by omega)) (Sub.nil))))) rfl
  ·
   have hp2 : ¬ ((0:Int) ≤ (-8*(i:Int) + 56)) := of_decide_eq_false hb2
   refine DA (AQ (AQ (BV (AC (AF (AB (AA _ (AG rfl) rfl ?_)))))))
   refine AA _ (AE rfl) rfl ?_
   refine AI (AC (BO (BQ (Slc g2 0 (i + j + 1) cp2) (res1 Tryd.results193 (B2 rfl)) fun w1 hw1 => ?_)))
   have e1 : i = 8 := by omega
   subst e1
   have e2 : o2 = padL ([] : List UInt8) := by rw [hy2, hx2, padL, List.length_nil, ej]
   rw [e2] at hw1
   exact ⟨_, _, rfl, ⟨g2, sp2, cp2, slc_len (by rw [padL_len, List.length_nil, ← ej]; simp +arith), rfl, by rw [hy4]; rw [padL_len, List.length_nil, ← ej]; simp +arith, by refine Nat.le_trans (Nat.le_of_eq ?_) hy5; rw [padL_len, List.length_nil, ← ej]; simp +arith, hy6⟩, hw1.sub (by simp) (by simp)⟩
theorem pad_c (ao : Option Addr) (n cb : Nat) (b : List UInt8) (w : World) (ha : ao.isNone = false) (hb : b.length = n) (hn : n ≤ 17592186044416) (hr : RdB w [] ao b) : Calls Tryd.prog 193 #[.slice ao n cb] w (Post w [] (fun v L => ∃ g sp cap, v = Slc g 0 (padL b).length cap ∧ L = [⟨g, cu8 (padL b) ++ sp, 5, (0, 0)⟩] ∧ sp.length = cap - (padL b).length ∧ (padL b).length ≤ cap ∧ cap ≤ maxLen)) := by
 have hnz := nzP_lt n
 have hnd := nzP_def n
 refine enter w [] 31 [] [.slice ao n cb] Tryd.func193 rfl rfl (by simp) (BR (by simp) (by simp) (by simp)) ?_
 show JC _ _ _ [(0, .slice ao n cb)] _
 refine AF (AB (AA _ (AE rfl) rfl ?_))
 refine AI (AC (AF (AB (AA _ (AG rfl) rfl ?_))))
 refine AV (CH 108 [.slice ao n cb] _ (A4 _ Tryd.call108 rfl) (fun w1 hw1 => sclone_c ao n cb b w1 ha hb (by omega) (hr.at (M' := []) hw1 (by simp)))) rfl ?_
 rintro v1 L1 ⟨_, ⟨nb1, sp1, cp1, rfl, rfl, hc1, hc2, hc3⟩, rfl⟩
 show JL _ _ _ _ ((6, Slc nb1 0 n cp1) :: _) [⟨nb1, cu8 b ++ sp1, 5, (0, 0)⟩]
 refine AV (BT 5 1 _ [(0, U8 128)] (cu8 ([(128:UInt8)])) AK AM C1 rfl rfl rfl (by kernel_rfl)) rfl ?_
 rintro v1 L1 ⟨nb2, hnb2, rfl, rfl⟩
 show JL _ _ _ _ ((7, Slc nb2 0 1 1) :: _) [_, ⟨nb2, cu8 ([(128:UInt8)]), 5, (0, 0)⟩]
 refine AV (DH 43 5 [true, false] (Slc nb1 0 n cp1) n b ([(128:UInt8)]) (some ⟨nb2, 0, none⟩) 1 1 (n + 1) AK C4 rfl (.inr ⟨nb1, sp1, cp1, rfl, rfl, (by first | exact hb | simp [hb]), hc1, (by omega), (by omega)⟩) rfl (by simp) (SrcAt.mem (AR 1 rfl (AN _))) (by omega) (by unfold maxLen; omega) (by omega)) rfl ?_
 rintro v1 L1 ⟨nb3, sp2, cp2, hg1, rfl, rfl, ha1, ha2, ha3, ha4⟩
 show JL _ _ _ _ ((8, Slc nb3 0 (n + 1) cp2) :: _) [_, ⟨nb3, cu8 (b ++ ([(128:UInt8)])) ++ sp2, 5, (0, 0)⟩]
 refine AA _ (AE rfl) rfl ?_
 refine AI (AC (AF (A9 (CA [false, true] ?_))))
 show JC _ _ _ _ [_]
 refine DI (ι := Nat × List UInt8 × Nat × List Value × Nat) (fun ⟨j, o, g1, sp1, cp1⟩ => [(0, .slice ao n cb), (2, .slice none 0 0), (3, Slc g1 0 (j + n + 1) cp1)]) (fun ⟨j, o, g1, sp1, cp1⟩ => [⟨g1, cu8 o ++ sp1, 5, (0, 0)⟩]) (fun ⟨j, o, g1, sp1, cp1⟩ => j ≤ nzP n ∧ o = (b ++ [(128:UInt8)]) ++ zr8 j ∧ o.length = (j + n + 1) ∧ sp1.length = cp1 - (j + n + 1) ∧ (j + n + 1) ≤ cp1 ∧ cp1 ≤ maxLen) (fun ⟨j, o, g1, sp1, cp1⟩ => nzP n - j) (0, b ++ ([(128:UInt8)]), nb3, sp2, cp2) ⟨by omega, by simp [zr8], by simp [hb], by have := ha2; omega, by omega, ha4⟩ (Sub.cons rfl (Sub.cons rfl (Sub.cons (FM (by omega)) (Sub.nil)))) rfl ?_
 rintro ⟨j, o, g1, sp1, cp1⟩ ⟨hx1, hx2, ho, hx4, hx5, hx6⟩
 show JC _ _ _ [(0, .slice ao n cb), (2, .slice none 0 0), (3, Slc g1 0 (j + n + 1) cp1)] [⟨g1, cu8 o ++ sp1, 5, (0, 0)⟩]
 refine AF (AF (AB (AA _ (AG rfl) rfl ?_)))
 refine AA (I64 ((j:Int) + (n:Int) + 1)) (Ev_lenX AK rfl (by omega)) rfl ?_
 obtain ⟨dq1, hdq1, hdq1a, hdq1b⟩ : ∃ q : Nat, q = (j + n + 1) % 64 ∧ (q : Int) = ((j:Int) + (n:Int) + 1) % 64 ∧ (q < 64) := ⟨_, rfl, by first | rfl | omega, by omega⟩
 refine AA (I64 dq1) (AJ rfl rfl fun _ => F3 _ _ ((dq1:Int)) (by omega) (by omega) (by omega)) rfl ?_
 refine AA (.bool (decide (((dq1:Int)) ≠ (56:Int)))) (AJ rfl rfl fun _ => FU _ _) rfl ?_
 refine AI (AC (B5 (decide (((dq1:Int)) ≠ (56:Int))) rfl (fun hb1 => ?_) (fun hb1 => ?_)))
 ·
  have hp1 : ((dq1:Int)) ≠ (56:Int) := of_decide_eq_true hb1
  refine BJ (AC (A9 (AB (AA _ (AG rfl) rfl ?_))))
  refine AV (BT 5 1 _ [(0, U8 0)] (cu8 ([(0:UInt8)])) AK AM C1 rfl rfl rfl (by kernel_rfl)) rfl ?_
  rintro v1 L1 ⟨nb4, hnb4, rfl, rfl⟩
  show JL _ _ _ _ ((14, Slc nb4 0 1 1) :: _) [_, ⟨nb4, cu8 ([(0:UInt8)]), 5, (0, 0)⟩]
  refine AV (DH 43 5 [true, false] (Slc g1 0 (j + n + 1) cp1) (j + n + 1) o ([(0:UInt8)]) (some ⟨nb4, 0, none⟩) 1 1 (j + n + 2) AK C4 rfl (.inr ⟨g1, sp1, cp1, rfl, rfl, (by first | exact ho | simp [ho]), hx4, (by omega), (by omega)⟩) rfl (by simp) (SrcAt.mem (AR 1 rfl (AN _))) (by omega) (by unfold maxLen; omega) (by omega)) rfl ?_
  rintro v1 L1 ⟨nb5, sp3, cp3, hg2, rfl, rfl, ha5, ha6, ha7, ha8⟩
  show JL _ _ _ _ ((15, Slc nb5 0 (j + n + 2) cp3) :: _) [_, ⟨nb5, cu8 (o ++ ([(0:UInt8)])) ++ sp3, 5, (0, 0)⟩]
  refine AA _ (AE rfl) rfl ?_
  refine AI (A5 (B6 (CA [false, true] ?_)))
  show K _ _ [_] _
  refine DN (j + 1, o ++ ([(0:UInt8)]), nb5, sp3, cp3) ⟨by omega, by rw [hx2, zr8_succ, List.append_assoc], (ha5).trans (by first | rfl | simp +arith), (ha6).trans (by first | rfl | simp +arith), by omega, ha8⟩ (by first | (simp; omega) | simp | (dsimp only; omega) | omega) (Sub.cons rfl (Sub.cons rfl (Sub.cons (FM (by omega)) (Sub.nil)))) rfl
 ·
  have hp1 : ¬ (((dq1:Int)) ≠ (56:Int)) := of_decide_eq_false hb1
  refine DA (AQ (AQ (BV (AC (AF (AF (AB (AA _ (AE rfl) rfl ?_))))))))
  refine AI (AC (A9 ?_))
  have ej : j = nzP n := by omega
  have ejb : nzP n < 64 := by omega
  refine DI (ι := Nat × List UInt8 × Nat × List Value × Nat) (fun ⟨i, o2, g2, sp2, cp2⟩ => [(0, .slice ao n cb), (2, .slice none 0 0), (3, Slc g2 0 (i + j + n + 1) cp2), (4, I64 (-8*(i:Int) + 56))]) (fun ⟨i, o2, g2, sp2, cp2⟩ => [⟨g2, cu8 o2 ++ sp2, 5, (0, 0)⟩]) (fun ⟨i, o2, g2, sp2, cp2⟩ => i ≤ 8 ∧ o2 = o ++ lenN n i ∧ o2.length = (i + j + n + 1) ∧ sp2.length = cp2 - (i + j + n + 1) ∧ (i + j + n + 1) ≤ cp2 ∧ cp2 ≤ maxLen) (fun ⟨i, o2, g2, sp2, cp2⟩ => 8 - i) (0, o, g1, sp1, cp1) ⟨by omega, by simp [lenN], by omega, by omega, by omega, hx6⟩ (Sub.cons rfl (Sub.cons rfl (Sub.cons (FM (by omega)) (Sub.cons (EM (by omega)) (Sub.nil))))) rfl ?_
  rintro ⟨i, o2, g2, sp2, cp2⟩ ⟨hy1, hy2, ho2, hy4, hy5, hy6⟩
  show JC _ _ _ [(0, .slice ao n cb), (2, .slice none 0 0), (3, Slc g2 0 (i + j + n + 1) cp2), (4, I64 (-8*(i:Int) + 56))] [⟨g2, cu8 o2 ++ sp2, 5, (0, 0)⟩]
  refine AF (AF (AB (AA _ (AG rfl) rfl ?_)))
  refine AA (.bool (decide ((0:Int) ≤ (-8*(i:Int) + 56)))) (AJ rfl rfl fun _ => FY _ _) rfl ?_
  refine AI (AC (B5 (decide ((0:Int) ≤ (-8*(i:Int) + 56))) rfl (fun hb2 => ?_) (fun hb2 => ?_)))
  ·
   have hp2 : (0:Int) ≤ (-8*(i:Int) + 56) := of_decide_eq_true hb2
   refine BJ (AC (AF (A9 (AB (AA _ (AG rfl) rfl ?_)))))
   refine AA _ (AG rfl) rfl ?_
   refine AA (I64 n) (DW AK rfl) rfl ?_
   refine AA (U64 (UInt64.ofNat n)) (EG _ _ rfl fun _ => E5 (by rw [D2]; rfl) B8 n _ (by omega)) rfl ?_
   refine AA (U64 ((8:UInt64) * (UInt64.ofNat n))) (AJ rfl rfl fun _ => bin_mul_u64 (8:UInt64) (UInt64.ofNat n)) rfl ?_
   refine AA _ (AG rfl) rfl ?_
   refine AA (U64 (((8:UInt64) * (UInt64.ofNat n)) >>> UInt64.ofNat (56 - 8*i))) (AJ rfl rfl fun _ => FC ((8:UInt64) * (UInt64.ofNat n)) _ _ (56 - 8*i) (by omega) (by omega)) rfl ?_
   refine AA (U8 ((((8:UInt64) * (UInt64.ofNat n)) >>> UInt64.ofNat (56 - 8*i)).toUInt8)) (EG _ _ rfl fun _ => E9 (by rw [B8]; rfl) B3 _) rfl ?_
   refine AV (BT 5 1 _ [(0, U8 ((((8:UInt64) * (UInt64.ofNat n)) >>> UInt64.ofNat (56 - 8*i)).toUInt8))] (cu8 ([(((8:UInt64) * (UInt64.ofNat n)) >>> UInt64.ofNat (56 - 8*i)).toUInt8])) AK AM C1 rfl rfl rfl (by kernel_rfl)) rfl ?_
   rintro v1 L1 ⟨nb6, hnb6, rfl, rfl⟩
   show JL _ _ _ _ ((28, Slc nb6 0 1 1) :: _) [_, ⟨nb6, cu8 ([(((8:UInt64) * (UInt64.ofNat n)) >>> UInt64.ofNat (56 - 8*i)).toUInt8]), 5, (0, 0)⟩]
   refine AV (DH 43 5 [true, false] (Slc g2 0 (i + j + n + 1) cp2) (i + j + n + 1) o2 ([(((8:UInt64) * (UInt64.ofNat n)) >>> UInt64.ofNat (56 - 8*i)).toUInt8]) (some ⟨nb6, 0, none⟩) 1 1 (i + j + n + 2) AK C4 rfl (.inr ⟨g2, sp2, cp2, rfl, rfl, (by first | exact ho2 | simp [ho2]), hy4, (by omega), (by omega)⟩) rfl (by simp) (SrcAt.mem (AR 1 rfl (AN _))) (by omega) (by unfold maxLen; omega) (by omega)) rfl ?_
   rintro v1 L1 ⟨nb7, sp4, cp4, hg3, rfl, rfl, ha9, ha10, ha11, ha12⟩
   show JL _ _ _ _ ((29, Slc nb7 0 (i + j + n + 2) cp4) :: _) [_, ⟨nb7, cu8 (o2 ++ ([(((8:UInt64) * (UInt64.ofNat n)) >>> UInt64.ofNat (56 - 8*i)).toUInt8])) ++ sp4, 5, (0, 0)⟩]
   refine AA _ (AE rfl) rfl ?_
   refine AI (A5 (AC (AB (AA _ (AG rfl) rfl ?_))))
   refine AA (I64 (-8*(i:Int) + 48)) (AJ rfl rfl fun _ => C5 _ _ (-8*(i:Int) + 48) (by omega) (by omega)) rfl ?_
   refine AA _ (AE rfl) rfl ?_
   refine AI (B6 (CA [false, true] ?_))
   show K _ _ [_] _
   refine DN (i + 1, o2 ++ ([(((8:UInt64) * (UInt64.ofNat n)) >>> UInt64.ofNat (56 - 8*i)).toUInt8]), nb7, sp4, cp4) ⟨by omega, by rw [hy2, lenN, List.append_assoc], (ha9).trans (by first | rfl | simp +arith), (ha10).trans (by first | rfl | simp +arith), by omega, ha12⟩ (by first | (simp; omega) | simp | (dsimp only; omega) | omega) (Sub.cons rfl (Sub.cons rfl (Sub.cons (FM (by omega)) (Sub.cons (EM (by omega)) (Sub.nil))))) rfl
  ·
   have hp2 : ¬ ((0:Int) ≤ (-8*(i:Int) + 56)) := of_decide_eq_false hb2
   refine DA (AQ (AQ (BV (AC (AF (AB (AA _ (AG rfl) rfl ?_)))))))
   refine AA _ (AE rfl) rfl ?_
   refine AI (AC (BO (BQ (Slc g2 0 (i + j + n + 1) cp2) (res1 Tryd.results193 (B2 rfl)) fun w1 hw1 => ?_)))
   have e1 : i = 8 := by omega
   subst e1
   have e2 : o2 = padL b := by rw [hy2, hx2, padL, hb, ej]
   rw [e2] at hw1
   exact ⟨_, _, rfl, ⟨g2, sp2, cp2, slc_len (by rw [padL_len, hb, ← ej]; simp +arith), rfl, by rw [hy4]; rw [padL_len, hb, ← ej]; simp +arith, by refine Nat.le_trans (Nat.le_of_eq ?_) hy5; rw [padL_len, hb, ← ej]; simp +arith, hy6⟩, hw1.sub (by simp) (by simp)⟩
theorem rpad_c (ao : Option Addr) (n cb : Nat) (b : List UInt8) (w : World) (hb : b.length = n) (hn : n ≤ 17592186044416) (hr : RdB w [] ao b) : Calls Tryd.prog 175 #[.slice ao n cb] w (Post w [] (fun v L => ∃ g sp cap, v = Slc g 0 (padL b).length cap ∧ L = [⟨g, cu8 (padL b) ++ sp, 5, (0, 0)⟩] ∧ sp.length = cap - (padL b).length ∧ (padL b).length ≤ cap ∧ cap ≤ maxLen)) := by
 have hnz := nzP_lt n
 have hnd := nzP_def n
 refine enter w [] 45 [] [.slice ao n cb] Tryd.func175 rfl rfl (by simp) (BR (by simp) (by simp) (by simp)) ?_
 show JC _ _ _ [(0, .slice ao n cb)] _
 refine AF (AB (AA _ (AE rfl) rfl ?_))
 refine AI (AC (AF (AB (AA _ (AG rfl) rfl ?_))))
 refine AA (I64 n) (DW AK rfl) rfl ?_
 refine AA (I64 ((n % 64:Int))) (AJ rfl rfl fun _ => F3 _ _ ((n % 64:Int)) (by omega) (by omega) (by omega)) rfl ?_
 refine AA (I64 (-(n % 64:Int) + 119)) (AJ rfl rfl fun _ => C5 _ _ (-(n % 64:Int) + 119) (by omega) (by omega)) rfl ?_
 refine AA (I64 (((-(n % 64:Int) + 119) % 64))) (AJ rfl rfl fun _ => F3 _ _ (((-(n % 64:Int) + 119) % 64)) (by omega) (by omega) (by omega)) rfl ?_
 refine AA _ (AE rfl) rfl ?_
 refine AI (AC (AF (AB (AV (FF 5 1 AK AM) rfl ?_))))
 rintro v1 L1 ⟨nb1, hnb1, rfl, rfl⟩
 show JL _ _ _ _ ((13, Slc nb1 0 0 0) :: _) [⟨nb1, [], 5, (0, 0)⟩]
 refine AA _ (AG rfl) rfl ?_
 refine AV (DH 43 5 [true] (Slc nb1 0 0 0) 0 ([] : List UInt8) b ao n cb n AK C4 rfl (.inr ⟨nb1, [], 0, rfl, (by simp [take?, cu8, cu32, cu64]), rfl, (by simp), (by omega), (by unfold maxLen; omega)⟩) rfl (by first | exact hb | simp [hb]; try omega) (hr.src) (by omega) (by unfold maxLen; omega) (by omega)) rfl ?_
 rintro v1 L1 ⟨nb2, sp1, cp1, hg1, rfl, rfl, ha1, ha2, ha3, ha4⟩
 show JL _ _ _ _ ((15, Slc nb2 0 n cp1) :: _) [⟨nb2, cu8 (([] : List UInt8) ++ b) ++ sp1, 5, (0, 0)⟩]
 refine AA _ (AE rfl) rfl ?_
 refine AI (AC (AF (AB (AA _ (AG rfl) rfl ?_))))
 refine AV (BT 5 1 _ [(0, U8 128)] (cu8 ([(128:UInt8)])) AK AM C1 rfl rfl rfl (by kernel_rfl)) rfl ?_
 rintro v1 L1 ⟨nb3, hnb3, rfl, rfl⟩
 show JL _ _ _ _ ((17, Slc nb3 0 1 1) :: _) [_, ⟨nb3, cu8 ([(128:UInt8)]), 5, (0, 0)⟩]
 refine AV (DH 43 5 [true, false] (Slc nb2 0 n cp1) n (([] : List UInt8) ++ b) ([(128:UInt8)]) (some ⟨nb3, 0, none⟩) 1 1 (n + 1) AK C4 rfl (.inr ⟨nb2, sp1, cp1, rfl, rfl, (by first | exact ha1 | simp [ha1]), ha2, (by omega), (by omega)⟩) rfl (by simp) (SrcAt.mem (AR 1 rfl (AN _))) (by omega) (by unfold maxLen; omega) (by omega)) rfl ?_
 rintro v1 L1 ⟨nb4, sp2, cp2, hg2, rfl, rfl, ha5, ha6, ha7, ha8⟩
 show JL _ _ _ _ ((18, Slc nb4 0 (n + 1) cp2) :: _) [_, ⟨nb4, cu8 ((([] : List UInt8) ++ b) ++ ([(128:UInt8)])) ++ sp2, 5, (0, 0)⟩]
 refine AA _ (AE rfl) rfl ?_
 refine AI (AC (AF (AF (AB (AA _ (AE rfl) rfl ?_)))))
 refine AI (AC (A9 (CA [false, true] ?_)))
 show JC _ _ _ _ [_]
 refine DI (ι := Nat × List UInt8 × Nat × List Value × Nat) (fun ⟨j, o, g1, sp1, cp1⟩ => [(0, .slice ao n cb), (2, .slice none 0 0), (3, I64 (((-(n % 64:Int) + 119) % 64))), (4, Slc g1 0 (j + n + 1) cp1), (5, I64 j)]) (fun ⟨j, o, g1, sp1, cp1⟩ => [⟨g1, cu8 o ++ sp1, 5, (0, 0)⟩]) (fun ⟨j, o, g1, sp1, cp1⟩ => j ≤ nzP n ∧ o = (b ++ [(128:UInt8)]) ++ zr8 j ∧ o.length = (j + n + 1) ∧ sp1.length = cp1 - (j + n + 1) ∧ (j + n + 1) ≤ cp1 ∧ cp1 ≤ maxLen) (fun ⟨j, o, g1, sp1, cp1⟩ => nzP n - j) (0, (([] : List UInt8) ++ b) ++ ([(128:UInt8)]), nb4, sp2, cp2) ⟨by omega, by simp [zr8], by simp [hb], by have := ha6; omega, by omega, ha8⟩ (Sub.cons rfl (Sub.cons rfl (Sub.cons rfl (Sub.cons (FM (by omega)) (Sub.all rfl))))) rfl ?_
 rintro ⟨j, o, g1, sp1, cp1⟩ ⟨hx1, hx2, ho, hx4, hx5, hx6⟩
 show JC _ _ _ [(0, .slice ao n cb), (2, .slice none 0 0), (3, I64 (((-(n % 64:Int) + 119) % 64))), (4, Slc g1 0 (j + n + 1) cp1), (5, I64 j)] [⟨g1, cu8 o ++ sp1, 5, (0, 0)⟩]
 refine AF (AF (AB (AA _ (AG rfl) rfl ?_)))
 refine AA _ (AG rfl) rfl ?_
 refine AA (.bool (decide (((j:Int)) < (((-(n % 64:Int) + 119) % 64))))) (AJ rfl rfl fun _ => B9 _ _) rfl ?_
 refine AI (AC (B5 (decide (((j:Int)) < (((-(n % 64:Int) + 119) % 64)))) rfl (fun hb1 => ?_) (fun hb1 => ?_)))
 ·
  have hp1 : ((j:Int)) < (((-(n % 64:Int) + 119) % 64)) := of_decide_eq_true hb1
  refine BJ (AC (AF (A9 (AB (AA _ (AG rfl) rfl ?_)))))
  refine AV (BT 5 1 _ [(0, U8 0)] (cu8 ([(0:UInt8)])) AK AM C1 rfl rfl rfl (by kernel_rfl)) rfl ?_
  rintro v1 L1 ⟨nb5, hnb5, rfl, rfl⟩
  show JL _ _ _ _ ((25, Slc nb5 0 1 1) :: _) [_, ⟨nb5, cu8 ([(0:UInt8)]), 5, (0, 0)⟩]
  refine AV (DH 43 5 [true, false] (Slc g1 0 (j + n + 1) cp1) (j + n + 1) o ([(0:UInt8)]) (some ⟨nb5, 0, none⟩) 1 1 (j + n + 2) AK C4 rfl (.inr ⟨g1, sp1, cp1, rfl, rfl, (by first | exact ho | simp [ho]), hx4, (by omega), (by omega)⟩) rfl (by simp) (SrcAt.mem (AR 1 rfl (AN _))) (by omega) (by unfold maxLen; omega) (by omega)) rfl ?_
  rintro v1 L1 ⟨nb6, sp3, cp3, hg3, rfl, rfl, ha9, ha10, ha11, ha12⟩
  show JL _ _ _ _ ((26, Slc nb6 0 (j + n + 2) cp3) :: _) [_, ⟨nb6, cu8 (o ++ ([(0:UInt8)])) ++ sp3, 5, (0, 0)⟩]
  refine AA _ (AE rfl) rfl ?_
  refine AI (A5 (AC (AB (AA _ (AG rfl) rfl ?_))))
  refine AA (I64 ((j:Int) + 1)) (AJ rfl rfl fun _ => BP _ _ ((j:Int) + 1) (by omega) (by omega)) rfl ?_
  refine AA _ (AE rfl) rfl ?_
  refine AI (B6 (CA [false, true] ?_))
  show K _ _ [_] _
  refine DN (j + 1, o ++ ([(0:UInt8)]), nb6, sp3, cp3) ⟨by omega, by rw [hx2, zr8_succ, List.append_assoc], (ha9).trans (by first | rfl | simp +arith), (ha10).trans (by first | rfl | simp +arith), by omega, ha12⟩ (by first | (simp; omega) | simp | (dsimp only; omega) | omega) (Sub.cons rfl (Sub.cons rfl (Sub.cons rfl (Sub.cons (FM (by omega)) (Sub.all rfl))))) rfl
 ·
  have hp1 : ¬ (((j:Int)) < (((-(n % 64:Int) + 119) % 64))) := of_decide_eq_false hb1
  refine DA (AQ (AQ (BV (AC (AF (AB (AA _ (AG rfl) rfl ?_)))))))
  refine AA (I64 n) (DW AK rfl) rfl ?_
  refine AA (U64 (UInt64.ofNat n)) (EG _ _ rfl fun _ => E5 (by rw [D2]; rfl) B8 n _ (by omega)) rfl ?_
  refine AA (U64 ((UInt64.ofNat n) * (8:UInt64))) (AJ rfl rfl fun _ => bin_mul_u64 (UInt64.ofNat n) (8:UInt64)) rfl ?_
  refine AA _ (AE rfl) rfl ?_
  refine AI (AC (AF (AF (AB (AA _ (AE rfl) rfl ?_)))))
  refine AI (AC (A9 ?_))
  have ej : j = nzP n := by omega
  have ejb : nzP n < 64 := by omega
  refine DI (ι := Nat × List UInt8 × Nat × List Value × Nat) (fun ⟨i, o2, g2, sp2, cp2⟩ => [(2, .slice none 0 0), (6, U64 ((UInt64.ofNat n) * (8:UInt64))), (4, Slc g2 0 (i + j + n + 1) cp2), (7, I64 (-(i:Int) + 7))]) (fun ⟨i, o2, g2, sp2, cp2⟩ => [⟨g2, cu8 o2 ++ sp2, 5, (0, 0)⟩]) (fun ⟨i, o2, g2, sp2, cp2⟩ => i ≤ 8 ∧ o2 = o ++ lenN n i ∧ o2.length = (i + j + n + 1) ∧ sp2.length = cp2 - (i + j + n + 1) ∧ (i + j + n + 1) ≤ cp2 ∧ cp2 ≤ maxLen) (fun ⟨i, o2, g2, sp2, cp2⟩ => 8 - i) (0, o, g1, sp1, cp1) ⟨by omega, by simp [lenN], by omega, by omega, by omega, hx6⟩ (Sub.cons rfl (Sub.cons rfl (Sub.cons (FM (by omega)) (Sub.cons (EM (by omega)) (Sub.nil))))) rfl ?_
  rintro ⟨i, o2, g2, sp2, cp2⟩ ⟨hy1, hy2, ho2, hy4, hy5, hy6⟩
  show JC _ _ _ [(2, .slice none 0 0), (6, U64 ((UInt64.ofNat n) * (8:UInt64))), (4, Slc g2 0 (i + j + n + 1) cp2), (7, I64 (-(i:Int) + 7))] [⟨g2, cu8 o2 ++ sp2, 5, (0, 0)⟩]
  refine AF (AF (AB (AA _ (AG rfl) rfl ?_)))
  refine AA (.bool (decide ((0:Int) ≤ (-(i:Int) + 7)))) (AJ rfl rfl fun _ => FY _ _) rfl ?_
  refine AI (AC (B5 (decide ((0:Int) ≤ (-(i:Int) + 7))) rfl (fun hb2 => ?_) (fun hb2 => ?_)))
  ·
   have hp2 : (0:Int) ≤ (-(i:Int) + 7) := of_decide_eq_true hb2
   refine BJ (AC (AF (A9 (AB (AA _ (AG rfl) rfl ?_)))))
   refine AA _ (AG rfl) rfl ?_
   refine AA _ (AG rfl) rfl ?_
   refine AA (I64 (-8*(i:Int) + 56)) (AJ rfl rfl fun _ => DX _ _ (-8*(i:Int) + 56) (by omega) (by omega)) rfl ?_
   refine AA (U64 (UInt64.ofNat (56 - 8*i))) (EG _ _ rfl fun _ => E5 (by rw [D2]; rfl) Tryd.underlying117 (56 - 8*i) _ (by omega)) rfl ?_
   refine AA (U64 (((UInt64.ofNat n) * (8:UInt64)) >>> UInt64.ofNat (56 - 8*i))) (AJ rfl rfl fun _ => FC ((UInt64.ofNat n) * (8:UInt64)) _ _ (56 - 8*i) (by omega) (ofN_i (by omega))) rfl ?_
   refine AA (U8 ((((UInt64.ofNat n) * (8:UInt64)) >>> UInt64.ofNat (56 - 8*i)).toUInt8)) (EG _ _ rfl fun _ => E9 (by rw [B8]; rfl) B3 _) rfl ?_
   refine AV (BT 5 1 _ [(0, U8 ((((UInt64.ofNat n) * (8:UInt64)) >>> UInt64.ofNat (56 - 8*i)).toUInt8))] (cu8 ([(((UInt64.ofNat n) * (8:UInt64)) >>> UInt64.ofNat (56 - 8*i)).toUInt8])) AK AM C1 rfl rfl rfl (by kernel_rfl)) rfl ?_
   rintro v1 L1 ⟨nb7, hnb7, rfl, rfl⟩
   show JL _ _ _ _ ((42, Slc nb7 0 1 1) :: _) [_, ⟨nb7, cu8 ([(((UInt64.ofNat n) * (8:UInt64)) >>> UInt64.ofNat (56 - 8*i)).toUInt8]), 5, (0, 0)⟩]
   refine AV (DH 43 5 [true, false] (Slc g2 0 (i + j + n + 1) cp2) (i + j + n + 1) o2 ([(((UInt64.ofNat n) * (8:UInt64)) >>> UInt64.ofNat (56 - 8*i)).toUInt8]) (some ⟨nb7, 0, none⟩) 1 1 (i + j + n + 2) AK C4 rfl (.inr ⟨g2, sp2, cp2, rfl, rfl, (by first | exact ho2 | simp [ho2]), hy4, (by omega), (by omega)⟩) rfl (by simp) (SrcAt.mem (AR 1 rfl (AN _))) (by omega) (by unfold maxLen; omega) (by omega)) rfl ?_
   rintro v1 L1 ⟨nb8, sp4, cp4, hg4, rfl, rfl, ha13, ha14, ha15, ha16⟩
   show JL _ _ _ _ ((43, Slc nb8 0 (i + j + n + 2) cp4) :: _) [_, ⟨nb8, cu8 (o2 ++ ([(((UInt64.ofNat n) * (8:UInt64)) >>> UInt64.ofNat (56 - 8*i)).toUInt8])) ++ sp4, 5, (0, 0)⟩]
   refine AA _ (AE rfl) rfl ?_
   refine AI (A5 (AC (AB (AA _ (AG rfl) rfl ?_))))
   refine AA (I64 (-(i:Int) + 6)) (AJ rfl rfl fun _ => C5 _ _ (-(i:Int) + 6) (by omega) (by omega)) rfl ?_
   refine AA _ (AE rfl) rfl ?_
   refine AI (B6 (CA [false, true] ?_))
   show K _ _ [_] _
   refine DN (i + 1, o2 ++ ([(((UInt64.ofNat n) * (8:UInt64)) >>> UInt64.ofNat (56 - 8*i)).toUInt8]), nb8, sp4, cp4) ⟨by omega, by rw [hy2, lenN, UInt64.mul_comm, List.append_assoc], (ha13).trans (by first | rfl | simp +arith), (ha14).trans (by first | rfl | simp +arith), by omega, ha16⟩ (by first | (simp; omega) | simp | (dsimp only; omega) | omega) (Sub.cons rfl (Sub.cons rfl (Sub.cons (FM (by omega)) (Sub.cons (EM (by omega)) (Sub.nil))))) rfl
  ·
   have hp2 : ¬ ((0:Int) ≤ (-(i:Int) + 7)) := of_decide_eq_false hb2
   refine DA (AQ (AQ (BV (AC (AF (AB (AA _ (AG rfl) rfl ?_)))))))
   refine AA _ (AE rfl) rfl ?_
   refine AI (AC (BO (BQ (Slc g2 0 (i + j + n + 1) cp2) (res1 Tryd.results175 (B2 rfl)) fun w1 hw1 => ?_)))
   have e1 : i = 8 := by omega
   subst e1
   have e2 : o2 = padL b := by rw [hy2, hx2, padL, hb, ej]
   rw [e2] at hw1
   exact ⟨_, _, rfl, ⟨g2, sp2, cp2, slc_len (by rw [padL_len, hb, ← ej]; simp +arith), rfl, by rw [hy4]; rw [padL_len, hb, ← ej]; simp +arith, by refine Nat.le_trans (Nat.le_of_eq ?_) hy5; rw [padL_len, hb, ← ej]; simp +arith, hy6⟩, hw1.sub (by simp) (by simp)⟩
end Go.Proofs.YtkdpdgpphpngeaaDoor
namespace Go.Sx
open Go Go.RowKit
open Go.ChangeShapes Go.WideShapes
section
variable {H : Type} {enc : TypeId × Value → H} {P : Program} {w : World} {base : Nat} {spare : Nat → Bool} {held : Bool}
theorem spot_none {a : Addr} {v : Value} (h : w.cell? a = some v) : a.spot = none := by
  unfold World.cell? at h
  split at h
  · split at h
    · simp at h
    · rename_i hs; simpa using hs
  · simp at h
theorem addr_of_cell {a : Addr} {v : Value} (h : w.cell? a = some v) : a = ⟨a.block, a.off, none⟩ := by
 have := spot_none h
 cases a; simp_all
theorem cell_off {a : Addr} {v : Value} {i : Nat} (h0 : a = ⟨a.block, a.off, none⟩) (h : w.cell? (a.add i) = some v) : w.cell? ⟨a.block, a.off + i, none⟩ = some v := by
 rw [h0, GJ] at h; exact h
end
end Go.Sx
namespace Go.Proofs.YtkdpdgpphpngeaaDoor
open Go Go.Sx
attribute [local irreducible] mid zr8 zr32 rotr wordL spreadL comprL cpN adN spN wrdN constL initL padL stN outN routN hashL
theorem pad_w (ao : Option Addr) (n cb : Nat) (b : List UInt8) (w : World) (hb : b.length = n) (hcb : ao = none → cb = 0) (hn : n ≤ 17592186044416) (hr : RdB w [] ao b) : Calls Tryd.prog 193 #[.slice ao n cb] w (Post w [] (fun v L => ∃ g sp cap, v = Slc g 0 (padL b).length cap ∧ L = [⟨g, cu8 (padL b) ++ sp, 5, (0, 0)⟩] ∧ sp.length = cap - (padL b).length ∧ (padL b).length ≤ cap ∧ cap ≤ maxLen)) := by
  cases ao with
  | none =>
    obtain rfl : b = [] := by
      rcases hr with h | ⟨_, _, h, _⟩
      · exact h
      · cases h
    obtain rfl : n = 0 := hb.symm
    obtain rfl := hcb rfl
    exact padNil_c w
  | some a => exact pad_c (some a) n cb b w rfl hb hn hr
theorem chunk_c (gs N cap : Nat) (w : World) : Calls Tryd.prog 192 #[Slc gs 0 N cap, I64 64] w (Post w [] (fun v L => ∃ b1 b2, v = .func (.func 201) #[] #[Ptr b1 0, Ptr b2 0] ∧ L = [⟨b1, [Slc gs 0 N cap], 43, (0, 0)⟩, ⟨b2, [I64 64], 3, (0, 0)⟩])) := by
 refine enter w [] 9 [] [Slc gs 0 N cap, I64 64] Tryd.func192 rfl rfl (by simp) (BR (by simp) (by simp) (by simp)) ?_
 show JC _ _ _ [(0, Slc gs 0 N cap), (1, I64 64)] _
 refine AF (AB (AV (CG (Slc gs 0 N cap) ([Slc gs 0 N cap]) rfl rfl) rfl ?_))
 rintro v1 L1 ⟨nb1, hnb1, rfl, rfl⟩
 show JL _ _ _ _ ((2, Ptr nb1 0) :: _) [⟨nb1, [Slc gs 0 N cap], 43, (0, 0)⟩]
 refine AV (CG (I64 64) ([I64 64]) rfl rfl) rfl ?_
 rintro v1 L1 ⟨nb2, hnb2, rfl, rfl⟩
 show JL _ _ _ _ ((3, Ptr nb2 0) :: _) [_, ⟨nb2, [I64 64], 3, (0, 0)⟩]
 refine AA _ (AE rfl) rfl ?_
 refine AI (AC (AF (AF (AB (AA (I64 64) (AL rfl (AZ DC (AR 1 rfl (Seg.head)))) rfl ?_)))))
 refine AA (.bool (decide ((64:Int) < (1:Int)))) (AJ rfl rfl fun _ => B9 _ _) rfl ?_
 refine AI (AC (DV _ rfl (by decide) ?_))
 refine BJ (AC (AF (AB (AA (.func (.func 201) #[] #[Ptr nb1 0, Ptr nb2 0]) (Ev_makeFunc (vs := [Ptr nb1 0, Ptr nb2 0]) rfl (fun _ _ => rfl)) rfl ?_))))
 refine AA _ (AE rfl) rfl ?_
 refine AI (AC (BO (BQ (.func (.func 201) #[] #[Ptr nb1 0, Ptr nb2 0]) (res1 Tryd.results192 (B2 rfl)) fun w1 hw1 => ?_)))
 exact ⟨_, _, rfl, ⟨nb1, nb2, rfl, rfl⟩, hw1⟩
theorem chunk_it (b1 b2 gs N cap : Nat) (w0 : World) (hN : N % 64 = 0) (hc : N ≤ cap) (hm : cap ≤ maxLen) : Iter Tryd.prog 201 #[Ptr b1 0, Ptr b2 0] [⟨b1, [Slc gs 0 N cap], 43, (0, 0)⟩, ⟨b2, [I64 64], 3, (0, 0)⟩] [] w0 (fun k => 64*k < N) (fun k => 64*k = N) (fun k => Slc gs (64*k) 64 64) := by
 intro l B W S X S0 hS0 hW hl0 hlM hRb hY
 refine enterI W ((([⟨b1, [Slc gs 0 N cap], 43, (0, 0)⟩, ⟨b2, [I64 64], 3, (0, 0)⟩] : List Ent) ++ S0).map Ent.b) 31 ([⟨b1, [Slc gs 0 N cap], 43, (0, 0)⟩, ⟨b2, [I64 64], 3, (0, 0)⟩] ++ S0) [.func (.yield l) #[] #[], Ptr b1 0, Ptr b2 0] Tryd.func201 rfl rfl (by simp) hW ?_
 have hm2 : cap ≤ 9223372036854775807 := by unfold maxLen at hm; omega
 show JC _ _ _ [(0, .func (.yield l) #[] #[]), (1, Ptr b1 0), (2, Ptr b2 0)] ([⟨b1, [Slc gs 0 N cap], 43, (0, 0)⟩, ⟨b2, [I64 64], 3, (0, 0)⟩] ++ S0)
 refine AF ?_
 refine AB ?_
 refine AA _ (AE rfl) rfl ?_
 refine AI ?_
 refine AC ?_
 refine A9 ?_
 refine DI (ι := Nat × List Ent) (fun ⟨k, Sk⟩ => [(0, .func (.yield l) #[] #[]), (1, Ptr b1 0), (2, Ptr b2 0), (4, I64 (64*(k:Int)))]) (fun ⟨k, Sk⟩ => [⟨b1, [Slc gs 0 N cap], 43, (0, 0)⟩, ⟨b2, [I64 64], 3, (0, 0)⟩] ++ Sk) (fun ⟨k, Sk⟩ => k ≤ B ∧ S k Sk ∧ 64*k ≤ N) (fun ⟨k, Sk⟩ => B - k) (0, S0) ⟨by omega, hS0, by omega⟩ (Sub.all rfl) rfl ?_
 rintro ⟨k, Sk⟩ ⟨hx1, hx2, hx3⟩
 show JC _ _ _ [(0, .func (.yield l) #[] #[]), (1, Ptr b1 0), (2, Ptr b2 0), (4, I64 (64*(k:Int)))] ([⟨b1, [Slc gs 0 N cap], 43, (0, 0)⟩, ⟨b2, [I64 64], 3, (0, 0)⟩] ++ Sk)
 refine AF ?_
 refine AF ?_
 refine AB ?_
 refine AA _ (AG rfl) rfl ?_
 refine AA (Slc gs 0 N cap) (AL rfl (AZ D0 (AR 0 rfl (Seg.head)))) rfl ?_
 refine AA (I64 N) (DW AK rfl) rfl ?_
 refine AA (.bool (decide ((64*(k:Int)) < ((N:Int))))) (AJ rfl rfl fun _ => B9 _ _) rfl ?_
 refine AI ?_
 refine AC ?_
 refine B5 (decide ((64*(k:Int)) < ((N:Int)))) rfl (fun hb1 => ?_) (fun hb1 => ?_)
 ·
  have hp1 : (64*(k:Int)) < ((N:Int)) := of_decide_eq_true hb1
  refine BJ ?_
  refine AC ?_
  refine AF ?_
  refine A9 ?_
  refine AF ?_
  refine CT 31 1 [(0, I64 64), (1, Slc gs 0 N cap), (2, I64 (64*(k:Int))), (3, Slc gs (64*k) (N - 64*k) (cap - 64*k)), (4, I64 ((N:Int) - 64*(k:Int))), (5, I64 64), (6, I64 64)] BL rfl (by decide +kernel) ?_
  refine DE ⟨[], [0, 1, 2, 3, 4, 5, 6], [], [0, 1, 2, 3, 4, 5, 6], []⟩ rfl rfl (by decide +kernel) rfl ⟨⟨_, rfl, AD rfl (AL rfl (AZ DC (AR 1 rfl (Seg.head))))⟩, ⟨_, rfl, AD rfl (AL rfl (AZ D0 (AR 0 rfl (Seg.head))))⟩, AU rfl rfl rfl, ⟨_, rfl, AD rfl (Ev_slice 5 1 (64*k) N (64*k) (cap - 64*k) AK AM rfl (EM (by omega)) rfl (by omega) (by omega) (by omega) (by omega) (by omega) (N - 64*k) (by omega))⟩, ⟨_, rfl, AD rfl (Ev_lenX AK rfl (by omega))⟩, ⟨_, rfl, AD rfl (Ev_min rfl rfl (by have h : (decide ((64:Int) ≤ ((N:Int) - 64*(k:Int)))) = true := (decide_eq_true (by omega)); have := of_decide_eq_true h; omega))⟩, ⟨_, rfl, AD rfl (AE rfl)⟩, trivial⟩ ?_
  refine CC (F' := [(13, I64 64), (14, Slc gs 0 N cap), (15, I64 (64*(k:Int))), (16, Slc gs (64*k) (N - 64*k) (cap - 64*k)), (17, I64 ((N:Int) - 64*(k:Int))), (18, I64 64), (5, I64 64), (0, .func (.yield l) #[] #[]), (1, Ptr b1 0), (2, Ptr b2 0), (4, I64 (64*(k:Int))), (6, I64 (64*(k:Int))), (7, Slc gs 0 N cap), (8, I64 N), (9, .bool (decide ((64*(k:Int)) < ((N:Int)))))]) (by kernel_rfl) ?_
  refine AC ?_
  refine AF ?_
  refine AB ?_
  refine AA _ (AG rfl) rfl ?_
  refine AA (Slc gs 0 N cap) (AL rfl (AZ D0 (AR 0 rfl (Seg.head)))) rfl ?_
  refine AA _ (AG rfl) rfl ?_
  refine AA _ (AG rfl) rfl ?_
  refine AA _ (AG rfl) rfl ?_
  refine AA (I64 (64*(k:Int) + 64)) (AJ rfl rfl fun _ => BP _ _ (64*(k:Int) + 64) (by omega) (by omega)) rfl ?_
  refine AA _ (AG rfl) rfl ?_
  refine AA _ (AG rfl) rfl ?_
  refine AA (I64 (64*(k:Int) + 64)) (AJ rfl rfl fun _ => BP _ _ (64*(k:Int) + 64) (by omega) (by omega)) rfl ?_
  refine AA (Slc gs (64*k) 64 64) (Ev_slice3 5 1 (64*k) (64*k + 64) (64*k + 64) (64*k) 64 64 AK AM rfl (EM (by omega)) (EM (by omega)) (EM (by omega)) (by omega) (by omega) (by omega) (by omega) (by omega) (by omega) (by omega)) rfl ?_
  refine JL_yield l [Slc gs (64*k) 64 64] [⟨b1, [Slc gs 0 N cap], 43, (0, 0)⟩, ⟨b2, [I64 64], 3, (0, 0)⟩] Sk (fun L' => k + 1 ≤ B ∧ S (k + 1) L') (X k) rfl rfl rfl hl0 hlM rfl (fun w1 hw1 => hY k Sk w1 (show 64*k < N by omega) hx1 hx2 (hw1.right)) ?_ ?_
  ·
   intro L1 ⟨hn1, hn2⟩
   show JL _ _ _ _ ((29, .bool true) :: _) ([⟨b1, [Slc gs 0 N cap], 43, (0, 0)⟩, ⟨b2, [I64 64], 3, (0, 0)⟩] ++ L1)
   refine AA (.bool (!true)) (FV rfl) rfl ?_
   refine AI ?_
   refine AC ?_
   refine DV _ rfl rfl ?_
   refine BJ ?_
   refine A5 ?_
   refine AC ?_
   refine AB ?_
   refine AA _ (AG rfl) rfl ?_
   refine AA (I64 64) (AL rfl (AZ DC (AR 1 rfl (Seg.head)))) rfl ?_
   refine AA (I64 (64*(k:Int) + 64)) (AJ rfl rfl fun _ => BP _ _ (64*(k:Int) + 64) (by omega) (by omega)) rfl ?_
   refine AA _ (AE rfl) rfl ?_
   refine AI ?_
   refine B6 ?_
   refine DN (k + 1, L1) ⟨hn1, hn2, by omega⟩ (by first | (simp; omega) | simp | (dsimp only; omega) | omega) (Sub.cons rfl (Sub.cons rfl (Sub.cons rfl (Sub.cons (EM (by omega)) (Sub.nil))))) rfl
  ·
   intro L1 o1 hx9
   show JL _ _ _ _ ((29, .bool false) :: _) ([⟨b1, [Slc gs 0 N cap], 43, (0, 0)⟩, ⟨b2, [I64 64], 3, (0, 0)⟩] ++ L1)
   refine AA (.bool (!false)) (FV rfl) rfl ?_
   refine AI ?_
   refine AC ?_
   refine D1 _ rfl rfl ?_
   refine BO ?_
   refine CZ ?_
   refine A3 ?_
   refine A3 ?_
   refine CZ ?_
   refine JQ_retM0 (.tuple #[]) (res0 Tryd.results201 ) (fun w1 hw1 => ?_)
   exact ⟨⟨_, rfl⟩, .inr ⟨k, L1, o1, (show 64*k < N by omega), hx9, hw1.right⟩⟩
 ·
  have hp1 : ¬ ((64*(k:Int)) < ((N:Int))) := of_decide_eq_false hb1
  refine DA ?_
  refine AQ ?_
  refine AQ ?_
  refine BV ?_
  refine JQ_endM0 (.tuple #[]) (res0 Tryd.results201 ) (fun w1 hw1 => ?_)
  exact ⟨⟨_, rfl⟩, .inl ⟨k, Sk, (show 64*k = N by omega), hx2, hw1.right⟩⟩
theorem GLs.round {w W : World} {M S : List Nat} {l : Nat} {o : Obj} (h : GLs w) (hB : ∀ b, b < w.heap.size → b ∉ M → W.heap[b]? = w.heap[b]? ∧ b ∉ S ∧ b ≠ l) (h1 : 5 ∉ M := by simp) (h2 : 3 ∉ M := by simp) : GLs (W.putObj l o) ∧ 5 ∉ S ∧ 3 ∉ S := by
  have key : ∀ b vs, b ∉ M → RdA w b 0 vs → RdA (W.putObj l o) b 0 vs ∧ b ∉ S := by
    intro b vs hM hr
    obtain ⟨e1, e2, e3⟩ := hB b hr.1 hM
    have e4 : (W.putObj l o).heap[b]? = w.heap[b]? := (World.putObj_heap_other e3).trans e1
    refine ⟨⟨?_, fun j v hj => ?_⟩, e2⟩
    · have : w.heap[b]? ≠ none := by simp; exact hr.1
      rw [← e4] at this
      simp at this
      simpa using this
    · have := hr.2 j v hj
      simp only [World.cell?, e4] at this ⊢
      exact this
  exact ⟨⟨(key _ _ h1 h.1).1, (key _ _ h2 h.2).1⟩, (key _ _ h1 h.1).2, (key _ _ h2 h.2).2⟩
theorem sum_c (ao : Option Addr) (n cb : Nat) (b : List UInt8) (w : World) (hb : b.length = n) (hcb : ao = none → cb = 0) (hn : n ≤ 17592186044416) (hr : RdB w [] ao b) (hG : GLs w) : Calls Tryd.prog 177 #[.slice ao n cb] w (Post w [] (fun v L => v = .agg (cu8 (sumG constL initL b)).toArray ∧ L = [])) := by
 have hpm := pad_mod b
 refine enterM w [] 41 [] [.slice ao n cb] Tryd.func177 rfl rfl (by simp) (BR (by simp) (by simp) (by simp)) ?_
 show JC _ _ _ [(0, .slice ao n cb)] _
 refine AF (AB (AV (A7 _ (cu8 (zr8 32)) C6 (by kernel_rfl)) rfl ?_))
 rintro v1 L1 ⟨nb1, hnb1, rfl, rfl⟩
 show JL _ _ _ _ ((2, Ptr nb1 0) :: _) [⟨nb1, cu8 (zr8 32), 54, (0, 0)⟩]
 refine AI (AC (AF (AB (AA (.agg (cu32 initL).toArray) (AL rfl (BH Tryd.isAgg268 EE (FX FJ) (BW (hG.2.mem (by simp)) (AN _) (by omega)))) rfl ?_))))
 refine AV (A7 _ (cu32 (zr32 8)) Tryd.zeroValue268 (by kernel_rfl)) rfl ?_
 rintro v1 L1 ⟨nb2, hnb2, rfl, rfl⟩
 show JL _ _ _ _ ((3, Ptr nb2 0) :: _) [_, ⟨nb2, cu32 (zr32 8), 268, (0, 0)⟩]
 refine A0 (AX 1 nb2 8 (cu32 (zr32 8)) 268 (cu32 initL) rfl rfl rfl EE (FX FJ) (by first | exact CD | exact CS | exact CR | (simp [cu8, cu32, cu64, Value.oneCell']; done)) (by simp [(F4 8)]) (A6 (by simp [(F4 8), FJ]))) rfl ?_
 show JL _ _ _ _ _ [_, ⟨nb2, cu32 initL, 268, (0, 0)⟩]
 refine AI (AC (AF (AF (AB (AA _ (AG rfl) rfl ?_)))))
 refine AV (CH 193 [.slice ao n cb] _ (A4 _ Tryd.call193 rfl) (fun w1 hw1 => pad_w ao n cb b w1 hb hcb (by omega) (hr.at (M' := []) hw1 (by simp)))) rfl ?_
 rintro v1 L1 ⟨_, ⟨nb3, sp1, cp1, rfl, rfl, hc1, hc2, hc3⟩, rfl⟩
 show JL _ _ _ _ ((10, Slc nb3 0 ((padL b).length) cp1) :: _) [_, _, ⟨nb3, cu8 (padL b) ++ sp1, 5, (0, 0)⟩]
 refine AV (CH 192 [Slc nb3 0 ((padL b).length) cp1, I64 64] _ (A4 _ Tryd.call192 rfl) (fun w1 hw1 => chunk_c nb3 ((padL b).length) cp1 w1)) rfl ?_
 rintro v1 L1 ⟨_, ⟨nb4, nb5, rfl, rfl⟩, rfl⟩
 show JL _ _ _ _ ((11, .func (.func 201) #[] #[Ptr nb4 0, Ptr nb5 0]) :: _) [_, _, _, ⟨nb4, [Slc nb3 0 ((padL b).length) cp1], 43, (0, 0)⟩, ⟨nb5, [I64 64], 3, (0, 0)⟩]
 refine AI (AC (A9 (K_sub (F' := [(2, Ptr nb1 0), (3, Ptr nb2 0), (11, .func (.func 201) #[] #[Ptr nb4 0, Ptr nb5 0])]) (Sub.all rfl) ?_)))
 refine GP [0, 2, 3, 4, 1] (by decide) ?_
 show JC _ _ _ _ [⟨nb1, cu8 (zr8 32), 54, (0, 0)⟩, ⟨nb3, cu8 (padL b) ++ sp1, 5, (0, 0)⟩, ⟨nb4, [Slc nb3 0 ((padL b).length) cp1], 43, (0, 0)⟩, ⟨nb5, [I64 64], 3, (0, 0)⟩, ⟨nb2, cu32 initL, 268, (0, 0)⟩]
 refine JC_range [⟨nb1, cu8 (zr8 32), 54, (0, 0)⟩, ⟨nb3, cu8 (padL b) ++ sp1, 5, (0, 0)⟩] [⟨nb4, [Slc nb3 0 ((padL b).length) cp1], 43, (0, 0)⟩, ⟨nb5, [I64 64], 3, (0, 0)⟩] [⟨nb2, cu32 initL, 268, (0, 0)⟩] [] (fun k => 64*k < (padL b).length) (fun k => 64*k = (padL b).length) (fun k => Slc nb3 (64*k) 64 64) ((padL b).length / 64) (fun k L => k ≤ (padL b).length / 64 ∧ L = [⟨nb2, cu32 (stN constL initL (padL b) k), 268, (0, 0)⟩]) (fun k c L => False) rfl rfl rfl Tryd.call201 (List.Perm.refl _) rfl ⟨by omega, by rw [stN]⟩ (by simp) (fun w1 hw1 => chunk_it nb4 nb5 _ _ _ w1 (pad_mod b) hc2 hc3) ?_ ?_ ?_
 ·
  intro l rb k Sk W1 hgo hkB hSk hl0 hlM hA hB hle
  have hA0 := hA _ (List.mem_of_getElem? (i := 0) rfl)
  have hA1 := hA _ (List.mem_of_getElem? (i := 1) rfl)
  obtain ⟨hx1, rfl⟩ := hSk
  have hG2 := hG.round (o := rb) hB
  show JC _ _ _ _ [⟨nb2, cu32 (stN constL initL (padL b) k), 268, (0, 0)⟩]
  refine AB (AA _ (AE rfl) rfl ?_)
  refine AI (JQ_begin hl0 hlM ?_)
  show JC _ _ _ _ [⟨nb2, cu32 (stN constL initL (padL b) k), 268, (0, 0)⟩]
  refine A9 ?_
  have hl1 : (mid (padL b) (64*k) 64).length = 64 := D8 (by rw [(rfl : (padL b).length = _)]; omega)
  refine CT 41 3 [(0, .agg (cu32 (stN constL initL (padL b) k)).toArray), (1, Slc nb3 (64*k) 64 64), (2, Ptr nb3 (64*k)), (3, .agg (cu8 (mid (padL b) (64*k) 64)).toArray)] BL rfl (by decide +kernel) ?_
  have hl2 : (mid (padL b) (64*k) 64).length = 64 := D8 (by rw [(rfl : (padL b).length = _)]; omega)
  refine C2 ⟨[], [0, 1, 2, 3], [], [0, 1, 2, 3], [4]⟩ 4 rfl rfl (by decide +kernel) rfl ⟨⟨_, rfl, AD rfl (AL rfl (BH Tryd.isAgg268 EE (FX (stN_len FJ k)) (AR 0 rfl (AN _))))⟩, AU rfl rfl rfl, ⟨_, rfl, AD rfl (Ev_s2ap 64 Tryd.underlying262 rfl (by omega))⟩, ⟨_, rfl, AD rfl (AL rfl (BH Tryd.isAgg262 E8 (A8 hl2) (BW (MemAt.heap ((World.putObj_heap_other hA1.2.2).trans hA1.1) hA1.2.1) (BE (FB (64*k) 64 (by rw [(rfl : (padL b).length = _)]; omega))) (by omega))))⟩, trivial⟩ rfl (AW rfl (AY 194 [.agg (cu32 (stN constL initL (padL b) k)).toArray, .agg (cu8 (mid (padL b) (64*k) 64)).toArray] (.agg (cu32 (comprL constL (stN constL initL (padL b) k) (mid (padL b) (64*k) 64))).toArray) (A4 _ Tryd.call194 rfl) (fun w1 hw1 => compress_c (stN constL initL (padL b) k) (mid (padL b) (64*k) 64) w1 (stN_len FJ k) hl1 (hG2.1.at hw1 hG2.2.1 hG2.2.2)))) ?_
  show DP _ _ _ _ _ _ _ _ [_]
  refine C2 ⟨[4], [0, 1, 2, 3], [0, 1, 2, 3], [], [5]⟩ 5 rfl rfl (by decide +kernel) rfl trivial rfl (AW rfl (AX 0 nb2 8 (cu32 (stN constL initL (padL b) k)) 268 (cu32 (comprL constL (stN constL initL (padL b) k) (mid (padL b) (64*k) 64))) rfl rfl rfl EE (FX (GO (stN_len FJ k))) (by first | exact CD | exact CS | exact CR | (simp [cu8, cu32, cu64, Value.oneCell']; done)) (by simp [(stN_len FJ k)]) (A6 (by simp [(stN_len FJ k), (GO (stN_len FJ k))])))) ?_
  show DP _ _ _ _ _ _ _ _ [⟨nb2, cu32 (comprL constL (stN constL initL (padL b) k) (mid (padL b) (64*k) 64)), 268, (0, 0)⟩]
  refine DE ⟨[4, 5], [0, 1, 2, 3], [0, 1, 2, 3], [], []⟩ rfl rfl (by decide +kernel) rfl trivial ?_
  refine CC (F' := [(2, Ptr nb1 0)]) (by kernel_rfl) ?_
  refine A5 (JQ_bodyN ⟨by omega, by omega, by rw [stN]⟩)
 ·
  intro D k L' W' hf hX hw' hD hDle
  obtain ⟨hx1, rfl⟩ := hX
  show JQ _ _ _ _ [⟨nb1, cu8 (zr8 32), 54, (0, 0)⟩, ⟨nb3, cu8 (padL b) ++ sp1, 5, (0, 0)⟩, ⟨nb2, cu32 (stN constL initL (padL b) k), 268, (0, 0)⟩]
  refine A5 (AC (AF (AB (AV (A7 _ (cu8 (zr8 32)) C6 (by kernel_rfl)) rfl ?_))))
  rintro v1 L1 ⟨nb6, hnb6, rfl, rfl⟩
  show JL _ _ _ _ ((5, Ptr nb6 0) :: _) [_, _, _, ⟨nb6, cu8 (zr8 32), 54, (0, 0)⟩]
  refine AI (AC (AF (AF (AB (AA (.agg (cu32 (stN constL initL (padL b) k)).toArray) (AL rfl (BH Tryd.isAgg268 EE (FX (stN_len FJ k)) (AR 2 rfl (AN _)))) rfl ?_)))))
  refine AA _ (AG rfl) rfl ?_
  refine AI (AC (A9 (CA [true, false, false, true] ?_)))
  show JC _ _ _ _ [_, _]
  refine DI (ι := Nat × List UInt8) (fun ⟨i, o⟩ => [(2, Ptr nb1 0), (5, Ptr nb6 0), (18, .agg (cu32 (stN constL initL (padL b) k)).toArray), (19, I64 i)]) (fun ⟨i, o⟩ => [⟨nb1, cu8 (zr8 32), 54, (0, 0)⟩, ⟨nb6, cu8 o, 54, (0, 0)⟩]) (fun ⟨i, o⟩ => i ≤ 8 ∧ o = outN (stN constL initL (padL b) k) i ∧ o.length = 32) (fun ⟨i, o⟩ => 8 - i) (0, zr8 32) ⟨by omega, by rw [outN], AP 32⟩ (Sub.all rfl) rfl ?_
  rintro ⟨i, o⟩ ⟨hz1, hz2, ho⟩
  show JC _ _ _ [(2, Ptr nb1 0), (5, Ptr nb6 0), (18, .agg (cu32 (stN constL initL (padL b) k)).toArray), (19, I64 i)] [⟨nb1, cu8 (zr8 32), 54, (0, 0)⟩, ⟨nb6, cu8 o, 54, (0, 0)⟩]
  refine AF (AB (AA (.bool (decide (((i:Int)) < (8:Int)))) (AJ rfl rfl fun _ => B9 _ _) rfl ?_))
  refine AI (AC (AF (B5 (decide (((i:Int)) < (8:Int))) rfl (fun hb1 => ?_) (fun hb1 => ?_))))
  ·
   have hp1 : ((i:Int)) < (8:Int) := of_decide_eq_true hb1
   refine BJ (AC (AF (A9 (AF (AB (AA _ (AG rfl) rfl ?_))))))
   refine AA (U32 (g32 (stN constL initL (padL b) k) i)) (Ev_index1 8 267 _ BX BK BA rfl rfl (by omega) (by omega) (Seg.get1 (Seg.get (DT (i := i) (by rw [(stN_len FJ k)]; omega))) (by omega))) rfl ?_
   refine AA _ (AE rfl) rfl ?_
   refine AA _ (AE rfl) rfl ?_
   refine AI (AC (AB (AA _ (AG rfl) rfl ?_)))
   refine AA (I64 (4*(i:Int))) (AJ rfl rfl fun _ => DX _ _ (4*(i:Int)) (by omega) (by omega)) rfl ?_
   refine AA (Slc nb6 (4*i) (32 - 4*i) (32 - 4*i)) (B1 32 5 1 (4*i) 32 (4*i) (32 - 4*i) B4 AM rfl (EM (by omega)) rfl (by omega) (by omega) (by omega) (by omega) (by omega) (32 - 4*i) (by omega)) rfl ?_
   refine AA _ (AG rfl) rfl ?_
   refine AA (U32 ((g32 (stN constL initL (padL b) k) i) >>> (24:UInt32))) (AJ rfl rfl fun _ => EV (g32 (stN constL initL (padL b) k) i) _ _ 24 (by decide) rfl) rfl ?_
   refine AA (U8 (((g32 (stN constL initL (padL b) k) i) >>> (24:UInt32)).toUInt8)) (EG _ _ rfl fun _ => conv_u32_u8 (by rw [D5]; rfl) B3 _) rfl ?_
   refine AA _ (AG rfl) rfl ?_
   refine AA (U32 ((g32 (stN constL initL (padL b) k) i) >>> (16:UInt32))) (AJ rfl rfl fun _ => EV (g32 (stN constL initL (padL b) k) i) _ _ 16 (by decide) rfl) rfl ?_
   refine AA (U8 (((g32 (stN constL initL (padL b) k) i) >>> (16:UInt32)).toUInt8)) (EG _ _ rfl fun _ => conv_u32_u8 (by rw [D5]; rfl) B3 _) rfl ?_
   refine AA _ (AG rfl) rfl ?_
   refine AA (U32 ((g32 (stN constL initL (padL b) k) i) >>> (8:UInt32))) (AJ rfl rfl fun _ => EV (g32 (stN constL initL (padL b) k) i) _ _ 8 (by decide) rfl) rfl ?_
   refine AA (U8 (((g32 (stN constL initL (padL b) k) i) >>> (8:UInt32)).toUInt8)) (EG _ _ rfl fun _ => conv_u32_u8 (by rw [D5]; rfl) B3 _) rfl ?_
   refine AA _ (AG rfl) rfl ?_
   refine AA (U8 ((g32 (stN constL initL (padL b) k) i).toUInt8)) (EG _ _ rfl fun _ => conv_u32_u8 (by rw [D5]; rfl) B3 _) rfl ?_
   refine AV (BT 5 1 _ [(0, U8 (((g32 (stN constL initL (padL b) k) i) >>> (24:UInt32)).toUInt8)), (1, U8 (((g32 (stN constL initL (padL b) k) i) >>> (16:UInt32)).toUInt8)), (2, U8 (((g32 (stN constL initL (padL b) k) i) >>> (8:UInt32)).toUInt8)), (3, U8 ((g32 (stN constL initL (padL b) k) i).toUInt8))] (cu8 ([((g32 (stN constL initL (padL b) k) i) >>> (24:UInt32)).toUInt8, ((g32 (stN constL initL (padL b) k) i) >>> (16:UInt32)).toUInt8, ((g32 (stN constL initL (padL b) k) i) >>> (8:UInt32)).toUInt8, (g32 (stN constL initL (padL b) k) i).toUInt8])) AK AM C1 rfl rfl rfl (by kernel_rfl)) rfl ?_
   rintro v1 L1 ⟨nb7, hnb7, rfl, rfl⟩
   show JL _ _ _ _ ((37, Slc nb7 0 4 4) :: _) [_, _, ⟨nb7, cu8 ([((g32 (stN constL initL (padL b) k) i) >>> (24:UInt32)).toUInt8, ((g32 (stN constL initL (padL b) k) i) >>> (16:UInt32)).toUInt8, ((g32 (stN constL initL (padL b) k) i) >>> (8:UInt32)).toUInt8, (g32 (stN constL initL (padL b) k) i).toUInt8]), 5, (0, 0)⟩]
   have hl3 : (spl o (4*i) ([((g32 (stN constL initL (padL b) k) i) >>> (24:UInt32)).toUInt8, ((g32 (stN constL initL (padL b) k) i) >>> (16:UInt32)).toUInt8, ((g32 (stN constL initL (padL b) k) i) >>> (8:UInt32)).toUInt8, (g32 (stN constL initL (padL b) k) i).toUInt8])).length = 32 := by rw [spl_len (by simp [ho]; omega)]; simp [ho]
   refine A0 (GF 43 43 5 1 nb6 (4*i) (32 - 4*i) (32 - 4*i) (cu8 o) 54 (some ⟨nb7, 0, none⟩) 4 4 4 (cu8 ([((g32 (stN constL initL (padL b) k) i) >>> (24:UInt32)).toUInt8, ((g32 (stN constL initL (padL b) k) i) >>> (16:UInt32)).toUInt8, ((g32 (stN constL initL (padL b) k) i) >>> (8:UInt32)).toUInt8, (g32 (stN constL initL (padL b) k) i).toUInt8])) (cu8 (spl o (4*i) ([((g32 (stN constL initL (padL b) k) i) >>> (24:UInt32)).toUInt8, ((g32 (stN constL initL (padL b) k) i) >>> (16:UInt32)).toUInt8, ((g32 (stN constL initL (padL b) k) i) >>> (8:UInt32)).toUInt8, (g32 (stN constL initL (padL b) k) i).toUInt8]))) AK FK rfl rfl rfl (Nat.min_eq_left (by omega)) (by simp) (SrcAt.mem (AR 2 rfl (AN _))) (by simp [ho]; try omega) (by first | exact CD | exact CS | exact CR | (simp [cu8, cu32, cu64, Value.oneCell']; done)) (laySpl8 _ _ _ (by simp [ho]; omega))) rfl ?_
   show JL _ _ _ _ ((38, I64 4) :: _) [_, ⟨nb6, cu8 (spl o (4*i) ([((g32 (stN constL initL (padL b) k) i) >>> (24:UInt32)).toUInt8, ((g32 (stN constL initL (padL b) k) i) >>> (16:UInt32)).toUInt8, ((g32 (stN constL initL (padL b) k) i) >>> (8:UInt32)).toUInt8, (g32 (stN constL initL (padL b) k) i).toUInt8])), 54, (0, 0)⟩, _]
   refine AI (A5 (AC (AB (AA (I64 ((i:Int) + 1)) (AJ rfl rfl fun _ => BP _ _ ((i:Int) + 1) (by omega) (by omega)) rfl ?_))))
   refine AA _ (AG rfl) rfl ?_
   refine AI (B6 (CA [true, true, false] ?_))
   show K _ _ [_, _] _
   refine DN (i + 1, spl o (4*i) ([((g32 (stN constL initL (padL b) k) i) >>> (24:UInt32)).toUInt8, ((g32 (stN constL initL (padL b) k) i) >>> (16:UInt32)).toUInt8, ((g32 (stN constL initL (padL b) k) i) >>> (8:UInt32)).toUInt8, (g32 (stN constL initL (padL b) k) i).toUInt8])) ⟨by omega, by rw [outN, ← hz2], hl3⟩ (by first | (simp; omega) | simp | (dsimp only; omega) | omega) (Sub.all rfl) rfl
  ·
   have hp1 : ¬ (((i:Int)) < (8:Int)) := of_decide_eq_false hb1
   refine DA (AQ (AQ (BV (AC (AF (AB (AA (.agg (cu8 o).toArray) (AL rfl (BH Tryd.isAgg54 CK (A8 ho) (AR 1 rfl (AN _)))) rfl ?_)))))))
   refine A0 (AX 0 nb1 32 (cu8 (zr8 32)) 54 (cu8 o) rfl rfl rfl CK (A8 ho) (by first | exact CD | exact CS | exact CR | (simp [cu8, cu32, cu64, Value.oneCell']; done)) (by simp [(AP 32)]) (A6 (by simp [(AP 32), ho]))) rfl ?_
   show JL _ _ _ _ _ [⟨nb1, cu8 o, 54, (0, 0)⟩, _]
   refine AI (AC (BO (JQ_retM D (.agg (cu8 o).toArray) rfl hD rfl hw'.here (fun _ => (res1 Tryd.results177 (DY rfl (BH Tryd.isAgg54 CK (A8 ho) (AR 0 rfl (AN _)))))) (fun w1 hw1 => ?_))))
   have hw1 := hw'.fin hD hDle hw1 (.deferred none)
   have e1 : i = 8 := by omega
   subst e1
   have e2 : k = (padL b).length / 64 := by have : 64*k = (padL b).length := hf; omega
   refine ⟨_, [], rfl, ⟨?_, rfl⟩, hw1.sub (by simp) (by simp)⟩
   rw [sumG, ← outN_hash, hz2, e2]
 ·
  intro D k c L' W' hgo hX
  exact hX.elim
attribute [local irreducible] sumG
theorem rsum_c (ao : Option Addr) (n cb : Nat) (b : List UInt8) (w : World) (hb : b.length = n) (hn : n ≤ 17592186044416) (hr : RdB w [] ao b) (hGr : GLr w) (hGi : GLi w) : Calls Tryd.prog 148 #[.slice ao n cb] w (Post w [] (fun v L => v = .agg (cu8 (sumG constL initL b)).toArray ∧ L = [])) := by
 have hpm := pad_mod b
 have hmx : maxLen ≤ 9223372036854775807 := by unfold maxLen; omega
 refine enter w [] 42 [] [.slice ao n cb] Tryd.func148 rfl rfl (by simp) (BR (by simp) (by simp) (by simp)) ?_
 show JC _ _ _ [(0, .slice ao n cb)] _
 refine AF (AB (AV (A7 _ (cu8 (zr8 32)) C6 (by kernel_rfl)) rfl ?_))
 rintro v1 L1 ⟨nb1, hnb1, rfl, rfl⟩
 show JL _ _ _ _ ((2, Ptr nb1 0) :: _) [⟨nb1, cu8 (zr8 32), 54, (0, 0)⟩]
 refine AI (AC (AF (AB (AA _ (AG rfl) rfl ?_))))
 refine AV (CH 175 [.slice ao n cb] _ (A4 _ Tryd.call175 rfl) (fun w1 hw1 => rpad_c ao n cb b w1 hb (by omega) (hr.at (M' := []) hw1 (by simp)))) rfl ?_
 rintro v1 L1 ⟨_, ⟨nb2, sp1, cp1, rfl, rfl, hc1, hc2, hc3⟩, rfl⟩
 show JL _ _ _ _ ((9, Slc nb2 0 ((padL b).length) cp1) :: _) [_, ⟨nb2, cu8 (padL b) ++ sp1, 5, (0, 0)⟩]
 refine AA _ (AE rfl) rfl ?_
 refine AI (AC (AF (AB (AA (.agg (cu32 initL).toArray) (AL rfl (BH Tryd.isAgg268 EE (FX FJ) (BW ((id hGi : RdA w 1 0 (cu32 initL)).mem (by simp)) (AN _) (by omega)))) rfl ?_))))
 refine AV (A7 _ (cu32 (zr32 8)) Tryd.zeroValue268 (by kernel_rfl)) rfl ?_
 rintro v1 L1 ⟨nb3, hnb3, rfl, rfl⟩
 show JL _ _ _ _ ((4, Ptr nb3 0) :: _) [_, _, ⟨nb3, cu32 (zr32 8), 268, (0, 0)⟩]
 refine A0 (AX 2 nb3 8 (cu32 (zr32 8)) 268 (cu32 initL) rfl rfl rfl EE (FX FJ) (by first | exact CD | exact CS | exact CR | (simp [cu8, cu32, cu64, Value.oneCell']; done)) (by simp [(F4 8)]) (A6 (by simp [(F4 8), FJ]))) rfl ?_
 show JL _ _ _ _ _ [_, _, ⟨nb3, cu32 initL, 268, (0, 0)⟩]
 refine AI (AC (AF (AF (AB (AA _ (AE rfl) rfl ?_)))))
 refine AI (AC (A9 (DI (ι := Nat × List UInt32) (fun ⟨k, s⟩ => [(2, Ptr nb1 0), (3, Slc nb2 0 ((padL b).length) cp1), (4, Ptr nb3 0), (5, I64 (64*(k:Int)))]) (fun ⟨k, s⟩ => [⟨nb1, cu8 (zr8 32), 54, (0, 0)⟩, ⟨nb2, cu8 (padL b) ++ sp1, 5, (0, 0)⟩, ⟨nb3, cu32 s, 268, (0, 0)⟩]) (fun ⟨k, s⟩ => 64*k ≤ (padL b).length ∧ s = stN constL initL (padL b) k ∧ s.length = 8) (fun ⟨k, s⟩ => (padL b).length - k) (0, initL) ⟨by omega, by rw [stN], FJ⟩ (Sub.all rfl) rfl ?_)))
 rintro ⟨k, s⟩ ⟨hx1, hx2, hs⟩
 show JC _ _ _ [(2, Ptr nb1 0), (3, Slc nb2 0 ((padL b).length) cp1), (4, Ptr nb3 0), (5, I64 (64*(k:Int)))] [⟨nb1, cu8 (zr8 32), 54, (0, 0)⟩, ⟨nb2, cu8 (padL b) ++ sp1, 5, (0, 0)⟩, ⟨nb3, cu32 s, 268, (0, 0)⟩]
 refine AF (AF (AB (AA _ (AG rfl) rfl ?_)))
 refine AA _ (AG rfl) rfl ?_
 refine AA (I64 (((padL b).length:Int))) (DW AK rfl) rfl ?_
 refine AA (.bool (decide ((64*(k:Int)) < (((padL b).length:Int))))) (AJ rfl rfl fun _ => B9 _ _) rfl ?_
 refine AI (AC (B5 (decide ((64*(k:Int)) < (((padL b).length:Int)))) rfl (fun hb1 => ?_) (fun hb1 => ?_)))
 ·
  have hp1 : (64*(k:Int)) < (((padL b).length:Int)) := of_decide_eq_true hb1
  refine BJ (AC (AF (A9 (CT 42 3 [(0, .agg (cu32 s).toArray), (1, Slc nb2 0 ((padL b).length) cp1), (2, I64 (64*(k:Int))), (3, I64 (64*(k:Int))), (4, I64 (64*(k:Int) + 64)), (5, Slc nb2 (64*k) 64 (cp1 - 64*k))] BL rfl (by decide +kernel) ?_))))
  have hl1 : (mid (padL b) (64*k) 64).length = 64 := D8 (by rw [(rfl : (padL b).length = _)]; omega)
  refine C2 ⟨[], [0, 1, 2, 3, 4, 5], [], [0, 1, 2, 3, 4, 5], [6]⟩ 6 rfl rfl (by decide +kernel) rfl ⟨⟨_, rfl, AD rfl (AL rfl (BH Tryd.isAgg268 EE (FX hs) (AR 2 rfl (AN _))))⟩, AU rfl rfl rfl, AU rfl rfl rfl, AU rfl rfl rfl, ⟨_, rfl, AD rfl (AJ rfl rfl fun _ => BP _ _ (64*(k:Int) + 64) (by omega) (by omega))⟩, ⟨_, rfl, AD rfl (Ev_slice 5 1 (64*k) (64*k + 64) (64*k) (cp1 - 64*k) AK AM rfl (EM (by omega)) (EM (by omega)) (by omega) (by omega) (by omega) (by omega) (by omega) 64 (by omega))⟩, trivial⟩ rfl (AW rfl (AY 176 [.agg (cu32 s).toArray, Slc nb2 (64*k) 64 (cp1 - 64*k)] (.agg (cu32 (comprL constL s (mid (padL b) (64*k) 64))).toArray) (A4 _ Tryd.call176 rfl) (fun w1 hw1 => rcompress_c s (some ⟨nb2, (64*k), none⟩) (cp1 - 64*k) (mid (padL b) (64*k) 64) w1 hs hl1 (RdB.of hw1 (AR 1 rfl (BE (FB (64*k) 64 (by rw [(rfl : (padL b).length = _)]; omega)))) (by simp)) (GLr.at hw1 hGr)))) ?_
  show DP _ _ _ _ _ _ _ _ [_, _, _]
  refine C2 ⟨[6], [0, 1, 2, 3, 4, 5], [0, 1, 2, 3, 4, 5], [], [7]⟩ 7 rfl rfl (by decide +kernel) rfl trivial rfl (AW rfl (AX 2 nb3 8 (cu32 s) 268 (cu32 (comprL constL s (mid (padL b) (64*k) 64))) rfl rfl rfl EE (FX (GO hs)) (by first | exact CD | exact CS | exact CR | (simp [cu8, cu32, cu64, Value.oneCell']; done)) (by simp [hs]) (A6 (by simp [hs, (GO hs)])))) ?_
  show DP _ _ _ _ _ _ _ _ [_, _, ⟨nb3, cu32 (comprL constL s (mid (padL b) (64*k) 64)), 268, (0, 0)⟩]
  refine DE ⟨[6, 7], [0, 1, 2, 3, 4, 5], [0, 1, 2, 3, 4, 5], [], []⟩ rfl rfl (by decide +kernel) rfl trivial ?_
  refine CC (F' := [(17, .agg (cu32 s).toArray), (18, Slc nb2 0 ((padL b).length) cp1), (19, I64 (64*(k:Int))), (20, I64 (64*(k:Int))), (21, I64 (64*(k:Int) + 64)), (22, Slc nb2 (64*k) 64 (cp1 - 64*k)), (23, .agg (cu32 (comprL constL s (mid (padL b) (64*k) 64))).toArray), (2, Ptr nb1 0), (3, Slc nb2 0 ((padL b).length) cp1), (4, Ptr nb3 0), (5, I64 (64*(k:Int))), (11, I64 (64*(k:Int))), (12, Slc nb2 0 ((padL b).length) cp1), (13, I64 (((padL b).length:Int))), (14, .bool (decide ((64*(k:Int)) < (((padL b).length:Int)))))]) (by kernel_rfl) ?_
  refine A5 (AC (AB (AA _ (AG rfl) rfl ?_)))
  refine AA (I64 (64*(k:Int) + 64)) (AJ rfl rfl fun _ => BP _ _ (64*(k:Int) + 64) (by omega) (by omega)) rfl ?_
  refine AA _ (AE rfl) rfl ?_
  refine AI (B6 (DN (k + 1, comprL constL s (mid (padL b) (64*k) 64)) ⟨by omega, by rw [stN, ← hx2], (GO hs)⟩ (by first | (simp; omega) | simp | (dsimp only; omega) | omega) (Sub.all rfl) rfl))
 ·
  have hp1 : ¬ ((64*(k:Int)) < (((padL b).length:Int))) := of_decide_eq_false hb1
  refine DA (AQ (AQ (BV (AC (AF (AB (AV (A7 _ (cu8 (zr8 32)) C6 (by kernel_rfl)) rfl ?_)))))))
  rintro v1 L1 ⟨nb4, hnb4, rfl, rfl⟩
  show JL _ _ _ _ ((6, Ptr nb4 0) :: _) [_, _, _, ⟨nb4, cu8 (zr8 32), 54, (0, 0)⟩]
  refine AI (AC (AF (AF (AB (AA _ (AE rfl) rfl ?_)))))
  refine AI (AC (A9 (CA [true, false, true, true] ?_)))
  show JC _ _ _ _ [_, _, _]
  refine DI (ι := Nat × List UInt8) (fun ⟨i, o⟩ => [(2, Ptr nb1 0), (4, Ptr nb3 0), (6, Ptr nb4 0), (7, I64 i)]) (fun ⟨i, o⟩ => [⟨nb1, cu8 (zr8 32), 54, (0, 0)⟩, ⟨nb3, cu32 s, 268, (0, 0)⟩, ⟨nb4, cu8 o, 54, (0, 0)⟩]) (fun ⟨i, o⟩ => i ≤ 32 ∧ o = routN s i ∧ o.length = 32) (fun ⟨i, o⟩ => 32 - i) (0, zr8 32) ⟨by omega, by rw [routN], AP 32⟩ (Sub.all rfl) rfl ?_
  rintro ⟨i, o⟩ ⟨hz1, hz2, ho⟩
  show JC _ _ _ [(2, Ptr nb1 0), (4, Ptr nb3 0), (6, Ptr nb4 0), (7, I64 i)] [⟨nb1, cu8 (zr8 32), 54, (0, 0)⟩, ⟨nb3, cu32 s, 268, (0, 0)⟩, ⟨nb4, cu8 o, 54, (0, 0)⟩]
  refine AF (AF (AB (AA _ (AG rfl) rfl ?_)))
  refine AA (.bool (decide (((i:Int)) < (32:Int)))) (AJ rfl rfl fun _ => B9 _ _) rfl ?_
  refine AI (AC (B5 (decide (((i:Int)) < (32:Int))) rfl (fun hb2 => ?_) (fun hb2 => ?_)))
  ·
   have hp2 : ((i:Int)) < (32:Int) := of_decide_eq_true hb2
   refine BJ (AC (AF (A9 (AB (AA _ (AG rfl) rfl ?_)))))
   refine AA _ (AG rfl) rfl ?_
   refine AA (I64 ((i / 4:Int))) (AJ rfl rfl fun _ => bin_quo_i _ _ ((i / 4:Int)) (by omega) (by omega) (by omega)) rfl ?_
   refine AA (Ptr nb3 (i / 4)) (A1 8 267 1 (i / 4) BX BA rfl rfl (by omega) (by omega) (by omega)) rfl ?_
   refine AA (U32 (g32 s (i / 4))) (AL rfl (AZ BK (AR 1 rfl (Seg.get (DT (i := (i / 4)) (by rw [hs]; omega)))))) rfl ?_
   refine AA _ (AG rfl) rfl ?_
   refine AA (I64 ((i % 4:Int))) (AJ rfl rfl fun _ => F3 _ _ ((i % 4:Int)) (by omega) (by omega) (by omega)) rfl ?_
   refine AA (I64 (8*(i % 4:Int))) (AJ rfl rfl fun _ => DX _ _ (8*(i % 4:Int)) (by omega) (by omega)) rfl ?_
   refine AA (I64 (-8*(i % 4:Int) + 24)) (AJ rfl rfl fun _ => C5 _ _ (-8*(i % 4:Int) + 24) (by omega) (by omega)) rfl ?_
   refine AA (U64 (UInt64.ofNat (24 - 8*(i % 4)))) (EG _ _ rfl fun _ => E5 (by rw [D2]; rfl) Tryd.underlying117 (24 - 8*(i % 4)) _ (by omega)) rfl ?_
   refine AA (U32 ((g32 s (i / 4)) >>> UInt32.ofNat (24 - 8*(i % 4)))) (AJ rfl rfl fun _ => EV (g32 s (i / 4)) _ _ (24 - 8*(i % 4)) (by omega) (ofN_i (by omega))) rfl ?_
   refine AA (U8 (((g32 s (i / 4)) >>> UInt32.ofNat (24 - 8*(i % 4))).toUInt8)) (EG _ _ rfl fun _ => conv_u32_u8 (by rw [D5]; rfl) B3 _) rfl ?_
   refine AA (Ptr nb4 i) (A1 32 5 1 i B4 AM rfl rfl (by omega) (by omega) (by omega)) rfl ?_
   have hl2 : (o.set i (((g32 s (i / 4)) >>> UInt32.ofNat (24 - 8*(i % 4))).toUInt8)).length = 32 := by first | (rw [List.length_set]; exact ho) | simp [ho]
   refine A0 (CN 2 nb4 i 1 (cu8 o) 54 (U8 (((g32 s (i / 4)) >>> UInt32.ofNat (24 - 8*(i % 4))).toUInt8)) ([U8 (((g32 s (i / 4)) >>> UInt32.ofNat (24 - 8*(i % 4))).toUInt8)]) (cu8 (o.set i (((g32 s (i / 4)) >>> UInt32.ofNat (24 - 8*(i % 4))).toUInt8))) rfl rfl rfl rfl AM rfl (by simp [Value.oneCell']) (by simp [ho]; try omega) (lay8 _ _ _ (by rw [ho]; omega))) rfl ?_
   show JL _ _ _ _ _ [_, _, ⟨nb4, cu8 (o.set i (((g32 s (i / 4)) >>> UInt32.ofNat (24 - 8*(i % 4))).toUInt8)), 54, (0, 0)⟩]
   refine AI (A5 (AC (AB (AA _ (AG rfl) rfl ?_))))
   refine AA (I64 ((i:Int) + 1)) (AJ rfl rfl fun _ => BP _ _ ((i:Int) + 1) (by omega) (by omega)) rfl ?_
   refine AA _ (AE rfl) rfl ?_
   refine AI (B6 (DN (i + 1, o.set i (((g32 s (i / 4)) >>> UInt32.ofNat (24 - 8*(i % 4))).toUInt8)) ⟨by omega, by rw [routN, byteAt, ← hz2], hl2⟩ (by first | (simp; omega) | simp | (dsimp only; omega) | omega) (Sub.all rfl) rfl))
  ·
   have hp2 : ¬ (((i:Int)) < (32:Int)) := of_decide_eq_false hb2
   refine DA (AQ (AQ (BV (AC (AF (AB (AA (.agg (cu8 o).toArray) (AL rfl (BH Tryd.isAgg54 CK (A8 ho) (AR 2 rfl (AN _)))) rfl ?_)))))))
   refine A0 (AX 0 nb1 32 (cu8 (zr8 32)) 54 (cu8 o) rfl rfl rfl CK (A8 ho) (by first | exact CD | exact CS | exact CR | (simp [cu8, cu32, cu64, Value.oneCell']; done)) (by simp [(AP 32)]) (A6 (by simp [(AP 32), ho]))) rfl ?_
   show JL _ _ _ _ _ [⟨nb1, cu8 o, 54, (0, 0)⟩, _, _]
   refine AI (AC (BO (BQ (.agg (cu8 o).toArray) (res1 Tryd.results148 (DY rfl (BH Tryd.isAgg54 CK (A8 ho) (AR 0 rfl (AN _))))) fun w1 hw1 => ?_)))
   have e1 : i = 32 := by omega
   have e2 : k = (padL b).length / 64 := by omega
   subst e1
   refine ⟨_, [], rfl, ⟨?_, rfl⟩, hw1.sub (by simp) (by simp)⟩
   rw [sumG, ← routN_hash, hz2, hx2, e2]
end Go.Proofs.YtkdpdgpphpngeaaDoor
namespace Go.Sx
open Go Go.RowKit
open Go.ChangeShapes Go.WideShapes
theorem laidVars_mem {P : Program} {w : World} : ∀ {l : List (String × DataW Unit)} {ps : List MemPlace}, DataW.LaidVars P w l ps → ∀ {n : String} {d : DataW Unit}, (n, d) ∈ l →
    ∃ g t cs fuel p, P.globalNamed n = some g ∧ (P.globals[g]?).map (·.type) = some t ∧ w.var? P n = some cs ∧ DataW.trod (fun _ => ()) P w 0 (fun _ => true) false fuel t cs.toList = some (d, p)
  | (n', d') :: r, ps, h, n, d, hm => by
    obtain ⟨g, t, cs, fuel, p, q, h1, h2, h3, h4, h5, _⟩ := h
    rcases List.mem_cons.1 hm with hm | hm
    · cases hm; exact ⟨g, t, cs, fuel, p, h1, h2, h3, h4⟩
    · exact laidVars_mem h5 hm
theorem laid_rd {P : Program} {W : World} {laid : List (String × DataW Unit)} (h : laidMetH P laid W) (hp : (laid.all fun x => x.2.handleName?.isNone) = true) {name : String} {d : DataW Unit} (hm : (name, d) ∈ laid) (l : List UInt32)
  (hd : d = Lib.tabData .u32 (l.map fun u => (u.toNat : Int))) {g t e n : Nat}
  (hg : P.globalNamed name = some g) (hty : (P.globals[g]?).map (·.type) = some t) (ht : P.underlying t = some (.array n e)) (he : P.underlying e = some (.int .u32)) (hce : P.cellsOf e = 1) (hct : P.cellsOf t = n) (hl : 0 < l.length) : RdA W g 0 (cu32 l) := by
 rw [MakeChecks.laidMetH_plain _ _ _ hp] at h
 obtain ⟨ps, hv, _, _⟩ := h
 obtain ⟨g', t', cs, fuel, p, hg', ht', hvar, htr⟩ := laidVars_mem hv hm
 obtain rfl := Option.some.inj (hg.symm.trans hg')
 obtain rfl := Option.some.inj (hty.symm.trans ht')
 subst hd
 have hcs := Lib.cells_of_tab ht he hce hct htr
 have key : ∀ j v, (cu32 l)[j]? = some v → W.cell? ⟨g, 0 + j, none⟩ = some v := fun j v hj => by
  have := World.var?_cell hg hvar j
  rw [Nat.zero_add, this, ← Array.getElem?_toList, hcs]
  simpa [cu32] using hj
 have h0 : (cu32 l)[0]? = some (U32 (l[0]'hl)) := by simp [cu32, hl]
 exact ⟨lt_of_cell (key 0 _ h0), key⟩
end Go.Sx
namespace Go.Sx
open Go Go.RowKit Go.Proofs
theorem RdB.holds {w : World} {ao : Option Addr} {n c : Nat} {z : List UInt8} (hr : RdB w [] ao z) (hn : z.length = n) : Lib.HoldsBytes w (.slice ao n c) z := by
  subst hn
  refine ⟨ao, c, rfl, ?_, ?_⟩
  · rintro rfl
    rcases hr with h | ⟨_, _, h, _⟩
    · exact h
    · cases h
  · intro a ha i x hx
    rcases hr with rfl | ⟨b, off, rfl, _, _, hc⟩
    · simp at hx
    · cases ha
      have := hc i (U8 x) (by simp [cu8, hx])
      rw [show (⟨b, off, none⟩ : Addr).add i = ⟨b, off + i, none⟩ from Lib.add_plain2 b off i]
      exact this
theorem fresh_ent {B : Nat} {w' : World} {v : Value} {l : List UInt8} (h : Lib.FreshBytes B w' v l) (hl : 0 < l.length) :
    ∃ g sp cap T fz, v = Slc g 0 l.length cap ∧ B ≤ g ∧ l.length ≤ cap ∧ cap ≤ maxLen ∧ w'.heap[g]? = some (.cells (cu8 l ++ sp).toArray T fz) := by
  obtain ⟨g, cap, zs, rfl, hB, hc, hm, hz, hr, hb, hcell, _⟩ := h
  have h0 := hcell 0 (by omega)
  have : ∃ cs T fz, w'.heap[g]? = some (.cells cs T fz) := by
    unfold World.cell? at h0
    split at h0
    · rename_i cs T fz he; exact ⟨cs, T, fz, he⟩
    · simp at h0
  obtain ⟨cs, T, fz, he⟩ := this
  have key : ∀ i, i < cap → cs[i]? = some (.int .u8 (zs.getD i 0)) := fun i hi => by
    have := hcell i hi
    simpa [World.cell?, he] using this
  refine ⟨g, cs.toList.drop l.length, cap, T, fz, rfl, hB, hc, hm, ?_⟩
  rw [he]
  have e1 : cs.toList.take l.length = cu8 l := by
    apply List.ext_getElem?
    intro i
    by_cases hi : i < l.length
    · rw [List.getElem?_take, if_pos hi]
      have k := key i (by omega)
      rw [← Array.getElem?_toList] at k
      rw [k]
      obtain ⟨x, hzi⟩ : ∃ x, zs[i]? = some x := ⟨_, List.getElem?_eq_getElem (show i < zs.length by omega)⟩
      have hrange := hr x (List.mem_of_getElem? hzi)
      have hli : l[i]? = some (UInt8.ofNat x.toNat) := by
        have := congrArg (fun q => q[i]?) hb
        simp only [Lib.bytesOf, List.getElem?_map, List.getElem?_take, if_pos hi, hzi, Option.map_some] at this
        exact this.symm
      have hx : ((UInt8.ofNat x.toNat).toNat : Int) = x := by
        rw [UInt8.toNat_ofNat']
        have : x.toNat < 256 := by omega
        rw [Nat.mod_eq_of_lt (by simpa using this)]
        omega
      simp only [cu8, List.getElem?_map, hli, Option.map_some, List.getD_eq_getElem?_getD, hzi, Option.getD_some]
      show _ = some (Value.int .u8 ((UInt8.ofNat x.toNat).toNat : Int))
      rw [hx]
    · rw [List.getElem?_eq_none (by simp; omega), List.getElem?_eq_none (by simp [cu8]; omega)]
  rw [← e1, List.take_append_drop]
def JoinR (l : List UInt8) (v : Value) (L : List Ent) : Prop :=
 (l = [] ∧ ∃ ao c, v = .slice ao 0 c ∧ L = [] ∧ (ao = none → c = 0)) ∨
 (0 < l.length ∧ ∃ g sp cap T fz, v = Slc g 0 l.length cap ∧ L = [⟨g, cu8 l ++ sp, T, fz⟩] ∧ l.length ≤ cap ∧ cap ≤ maxLen)
theorem join_post {w : World} {l : List UInt8} {v : Value} {w' : World} (h : Lib.FreshBytes w.heap.size w' v l) (hb : Below w.heap.size w w') : Post w [] (JoinR l) (.returned v) w' := by
  by_cases hl : 0 < l.length
  · obtain ⟨g, sp, cap, T, fz, hv, hB, hc, hm, he⟩ := fresh_ent h hl
    refine ⟨v, _, rfl, .inr ⟨hl, g, sp, cap, T, fz, hv, rfl, hc, hm⟩, ⟨hb.os, hb.tape, hb.output, hb.size, fun b hbl _ => hb.block b hbl, ?_, by simp, ?_⟩⟩
    · intro e he'; simp at he'; subst he'; exact he
    · intro e he'; simp at he'; subst he'; exact .inr hB
  · have hn : l = [] := by simpa using hl
    subst hn
    obtain ⟨g, cap, zs, rfl, _⟩ := h
    exact ⟨_, [], rfl, .inl ⟨rfl, _, _, rfl, rfl, fun h => by cases h⟩, ⟨hb.os, hb.tape, hb.output, hb.size, fun b hbl _ => hb.block b hbl, by simp, by simp, by simp⟩⟩
def PL (w : World) : List Value → List (List UInt8) → Prop
 | [], [] => True
 | v :: vs, l :: ls => (∃ ao c, v = .slice ao l.length c ∧ RdB w [] ao l) ∧ PL w vs ls
 | _, _ => False
theorem PL.len {w : World} : ∀ {vs : List Value} {ls : List (List UInt8)}, PL w vs ls → vs.length = ls.length
 | [], [], _ => rfl
 | _ :: _, _ :: _, h => by simp [PL.len h.2]
 | [], _ :: _, h => h.elim
 | _ :: _, [], h => h.elim
theorem PL.get {w : World} : ∀ {vs : List Value} {ls : List (List UInt8)}, PL w vs ls → ∀ (i : Nat) v l, vs[i]? = some v → ls[i]? = some l → ∃ ao c, v = .slice ao l.length c ∧ RdB w [] ao l
 | _ :: _, _ :: _, h, 0, v, l, hv, hl => by simp at hv hl; subst hv; subst hl; exact h.1
 | _ :: _, _ :: _, h, i + 1, v, l, hv, hl => PL.get h.2 i v l (by simpa using hv) (by simpa using hl)
 | [], [], _, i, v, l, hv, _ => by simp at hv
 | [], _ :: _, h, _, _, _, _, _ => h.elim
 | _ :: _, [], h, _, _, _, _, _ => h.elim
theorem PL.at {C : Cx} {L : List Ent} {w : World} (hw : Hp C.w0 C.M L w) (hM : C.M = []) : ∀ {vs : List Value} {ls : List (List UInt8)}, PL C.w0 vs ls → PL w vs ls
 | [], [], _ => trivial
 | v :: vs, l :: ls, ⟨⟨ao, c, hv, hr⟩, h⟩ => by
  rw [← hM] at hr
  exact ⟨⟨ao, c, hv, hr.at (M' := []) hw (by simp)⟩, PL.at hw hM h⟩
 | [], _ :: _, h => h.elim
 | _ :: _, [], h => h.elim
def Parts (w : World) (b : Nat) (vs : List Value) (ls : List (List UInt8)) : Prop := RdA w b 0 vs ∧ PL w vs ls
theorem Parts.at {C : Cx} {L : List Ent} {w : World} {b : Nat} {vs : List Value} {ls : List (List UInt8)} (hw : Hp C.w0 C.M L w) (hM : C.M = []) (h : Parts C.w0 b vs ls) (h0 : 0 < ls.length) : Parts w b vs ls :=
 ⟨RdA.of hw (h.1.mem (by simp [hM])) (by rw [h.2.len]; exact h0), h.2.at hw hM⟩
theorem lens_flat : ∀ ls : List (List UInt8), Lib.lens ls = ls.flatten.length
 | [] => rfl
 | l :: ls => by have := lens_flat ls; simp only [Lib.lens, List.map_cons, List.sum_cons, List.flatten_cons, List.length_append] at this ⊢; omega
theorem join_flat : ∀ ls : List (List UInt8), Lib.join ls [] = ls.flatten
 | [] => rfl
 | l :: ls => by rw [Lib.join_cons, Lib.joinTail]; simp
variable {P : Program} {ρ : Shelf.Ren}
theorem joinN (Lw : SlLaysJ.n14 P ρ) (b c : Nat) (vs : List Value) (ls : List (List UInt8)) (w : World) (hk : 1 ≤ ls.length) (hc : ls.length ≤ c) (hk2 : ls.length ≤ 1000) (hp : Parts w b vs ls) (hs : ls.flatten.length ≤ 17592186044416) :
    Calls P (ρ.f 14) #[.slice (some ⟨b, 0, none⟩) ls.length c, .slice none 0 0] w (Post w [] (JoinR ls.flatten)) := by
  obtain ⟨hA, hP⟩ := hp
  have hcell : ∀ j v, vs[j]? = some v → w.cell? ⟨b, j, none⟩ = some v := fun j v hj => by simpa using hA.2 j v hj
  by_cases h2 : 2 ≤ ls.length
  · refine (Any.bytes_Join_many Lw b 0 ls.length c vs ls (.slice none 0 0) [] w rfl h2 ⟨hP.len, fun i v hv => ?_, fun i v l hv hl => ?_⟩ hc ⟨none, 0, rfl, fun _ => rfl, fun a ha => by cases ha⟩ (by omega) (by rw [lens_flat, List.length_nil, Nat.zero_mul]; omega)).mono ?_
    · rw [Lib.add_plain2, Nat.zero_add]; exact hcell i v hv
    · obtain ⟨ao, c', rfl, hr⟩ := hP.get i v l hv hl
      exact hr.holds rfl
    · rintro e w' ⟨v', rfl, hf, hb⟩
      rw [join_flat] at hf
      exact join_post hf hb
  · match vs, ls, hP with
    | [v], [l], ⟨⟨ao, c0, hv, hr⟩, _⟩ =>
      subst hv
      have h0 := hcell 0 _ rfl
      by_cases hl : l.length = 0
      · have : l = [] := by simpa using hl
        subst this
        refine (Any.bytes_Join_one_empty Lw b 0 c ao c0 (.slice none 0 0) w h0).mono ?_
        rintro e w' ⟨rfl, rfl⟩
        exact ⟨_, [], rfl, .inl ⟨rfl, none, 0, rfl, rfl, fun _ => rfl⟩, BR (by simp) (by simp) (by simp)⟩
      · rcases hr with rfl | ⟨b', off, rfl, _, _, hcc⟩
        · simp at hl
        · refine (Any.bytes_Join_one Lw b 0 c ⟨b', off, none⟩ c0 l (.slice none 0 0) w h0 (fun i x hx => ?_) (by omega) (by simp at hs; omega)).mono ?_
          · rw [Lib.add_plain2]
            exact hcc i (U8 x) (by simp [cu8, hx])
          · rintro e w' ⟨v', rfl, hf, hb⟩
            have := join_post hf hb
            simpa using this
    | [], [], _ => simp at hk
    | _ :: _ :: _, [_], h => exact absurd h.len (by simp)
    | [], [_], h => exact h.elim
    | _, _ :: _ :: _, _ => simp at h2
end Go.Sx
namespace Go.Proofs.YtkdpdgpphpngeaaDoor
open Go Go.Sx
attribute [local irreducible] mid zr8 zr32 rotr wordL spreadL comprL cpN adN spN wrdN constL initL padL stN outN routN hashL sumG
def rhoJ : Shelf.Ren := ⟨fun x => if x = 14 then 174 else if x = 15 then 190 else x, fun x => if x = 0 then 0 else if x = 3 then 3 else if x = 4 then 4 else if x = 9 then 9 else if x = 20 then 20 else if x = 22 then 43 else if x = 26 then 230 else if x = 5 then 5 else x, fun x => x⟩
set_option maxRecDepth 1000000 in
theorem joinLays : SlLaysJ.n14 Tryd.prog rhoJ where
 mixed := BL
 f14 := by kernel_rfl
 f15 := by kernel_rfl
 t0 := by kernel_rfl
 a0 := fun _ => by kernel_rfl
 z0 := fun _ => by kernel_rfl
 v0 := fun _ => by kernel_rfl
 t3 := by kernel_rfl
 a3 := fun _ => by kernel_rfl
 z3 := fun _ => by kernel_rfl
 v3 := fun _ => by kernel_rfl
 t4 := by kernel_rfl
 a4 := fun _ => by kernel_rfl
 z4 := fun _ => by kernel_rfl
 v4 := fun _ => by kernel_rfl
 t9 := by kernel_rfl
 a9 := fun _ => by kernel_rfl
 z9 := fun _ => by kernel_rfl
 v9 := fun _ => by kernel_rfl
 t20 := by kernel_rfl
 a20 := fun _ => by kernel_rfl
 z20 := fun _ => by kernel_rfl
 v20 := fun _ => by kernel_rfl
 t22 := by kernel_rfl
 a22 := fun _ => by kernel_rfl
 z22 := fun _ => by kernel_rfl
 v22 := fun _ => by kernel_rfl
 t26 := by kernel_rfl
 a26 := fun _ => by kernel_rfl
 z26 := fun _ => by kernel_rfl
 v26 := fun _ => by kernel_rfl
 t5 := by kernel_rfl
 z5 := fun _ => by kernel_rfl
 i5 := by kernel_rfl
theorem join_c (b c : Nat) (vs : List Value) (ls : List (List UInt8)) (w : World) (hk : 1 ≤ ls.length) (hc : ls.length ≤ c) (hk2 : ls.length ≤ 1000) (hp : Parts w b vs ls) (hs : ls.flatten.length ≤ 17592186044416) : Calls Tryd.prog 174 #[.slice (some ⟨b, 0, none⟩) ls.length c, .slice none 0 0] w (Post w [] (JoinR ls.flatten)) :=
 joinN joinLays b c vs ls w hk hc hk2 hp hs
theorem of_c (b c : Nat) (vs : List Value) (ls : List (List UInt8)) (w : World) (hk : 1 ≤ ls.length) (hc : ls.length ≤ c) (hk2 : ls.length ≤ 1000) (hp : Parts w b vs ls) (hs : ls.flatten.length ≤ 1000000000) (hG : GLs w) : Calls Tryd.prog 172 #[.slice (some ⟨b, 0, none⟩) ls.length c] w (Post w [] (fun v L => v = .agg (cu8 (sumG constL initL ls.flatten)).toArray ∧ L = [])) := by
 refine enter w [] 6 [] [.slice (some ⟨b, 0, none⟩) ls.length c] Tryd.func172 rfl rfl (by simp) (BR (by simp) (by simp) (by simp)) ?_
 show JC _ _ _ [(0, .slice (some ⟨b, 0, none⟩) ls.length c)] _
 refine AF (AB (AV (A7 _ (cu8 (zr8 32)) C6 (by kernel_rfl)) rfl ?_))
 rintro v1 L1 ⟨nb1, hnb1, rfl, rfl⟩
 show JL _ _ _ _ ((2, Ptr nb1 0) :: _) [⟨nb1, cu8 (zr8 32), 54, (0, 0)⟩]
 refine AI (AC (AF (AB (AA _ (AG rfl) rfl ?_))))
 refine AV (CH 174 [.slice (some ⟨b, 0, none⟩) ls.length c, .slice none 0 0] _ (A4 _ Tryd.call174 rfl) (fun w1 hw1 => join_c b c vs ls w1 hk hc hk2 (hp.at hw1 rfl (by omega)) (by omega))) rfl ?_
 rintro v1 L1 ⟨_, (⟨he1, ao1, ca1, rfl, rfl, hn1⟩ | ⟨hp1, nb2, sp1, cp1, tj1, fj1, rfl, rfl, hl1, hm1⟩), rfl⟩
 ·
  show JL _ _ _ _ ((4, .slice ao1 0 ca1) :: _) [_]
  refine A0 (AY 177 [.slice ao1 0 ca1] (.agg (cu8 (sumG constL initL ([] : List UInt8))).toArray) (A4 _ Tryd.call177 rfl) (fun w1 hw1 => sum_c ao1 0 ca1 ([] : List UInt8) w1 rfl hn1 (by omega) RdB.nil (hG.at hw1))) rfl ?_
  show JL _ _ _ _ ((5, .agg (cu8 (sumG constL initL ([] : List UInt8))).toArray) :: _) [_]
  refine A0 (AX 0 nb1 32 (cu8 (zr8 32)) 54 (cu8 (sumG constL initL ([] : List UInt8))) rfl rfl rfl CK (A8 (D7 _ _ _)) (by first | exact CD | exact CS | exact CR | (simp [cu8, cu32, cu64, Value.oneCell']; done)) (by simp [(AP 32)]) (A6 (by simp [(AP 32), (D7 _ _ _)]))) rfl ?_
  show JL _ _ _ _ _ [⟨nb1, cu8 (sumG constL initL ([] : List UInt8)), 54, (0, 0)⟩]
  refine AI (AC (BO (BQ (.agg (cu8 (sumG constL initL ([] : List UInt8))).toArray) (res1 Tryd.results172 (DY rfl (BH Tryd.isAgg54 CK (A8 (D7 _ _ _)) (AR 0 rfl (AN _))))) fun w1 hw1 => ?_)))
  refine ⟨_, [], rfl, ⟨?_, rfl⟩, hw1.sub (by simp) (by simp)⟩
  first | rfl | rw [he1]
 ·
  show JL _ _ _ _ ((4, Slc nb2 0 ls.flatten.length cp1) :: _) [_, ⟨nb2, cu8 ls.flatten ++ sp1, tj1, fj1⟩]
  refine A0 (AY 177 [Slc nb2 0 ls.flatten.length cp1] (.agg (cu8 (sumG constL initL ls.flatten)).toArray) (A4 _ Tryd.call177 rfl) (fun w1 hw1 => sum_c (some ⟨nb2, 0, none⟩) ls.flatten.length cp1 ls.flatten w1 (rfl : ls.flatten.length = _) (fun h => by cases h) (by omega) (RdB.of hw1 (AR 1 rfl (BE (AN _))) (by simp)) (hG.at hw1))) rfl ?_
  show JL _ _ _ _ ((5, .agg (cu8 (sumG constL initL ls.flatten)).toArray) :: _) [_, _]
  refine A0 (AX 0 nb1 32 (cu8 (zr8 32)) 54 (cu8 (sumG constL initL ls.flatten)) rfl rfl rfl CK (A8 (D7 _ _ _)) (by first | exact CD | exact CS | exact CR | (simp [cu8, cu32, cu64, Value.oneCell']; done)) (by simp [(AP 32)]) (A6 (by simp [(AP 32), (D7 _ _ _)]))) rfl ?_
  show JL _ _ _ _ _ [⟨nb1, cu8 (sumG constL initL ls.flatten), 54, (0, 0)⟩, _]
  refine AI (AC (BO (BQ (.agg (cu8 (sumG constL initL ls.flatten)).toArray) (res1 Tryd.results172 (DY rfl (BH Tryd.isAgg54 CK (A8 (D7 _ _ _)) (AR 0 rfl (AN _))))) fun w1 hw1 => ?_)))
  refine ⟨_, [], rfl, ⟨?_, rfl⟩, hw1.sub (by simp) (by simp)⟩
  first | rfl | rw [he1]
end Go.Proofs.YtkdpdgpphpngeaaDoor
namespace Go.Sx
open Go Go.RowKit
variable {C : Cx} {F : Frm} {L : List Ent}
theorem Step_appG8 {x y : Operand} {ty : TypeId} (t e : Nat) (a0 : Addr) (n cap : Nat) (l z : List UInt8) (ao : Option Addr) (k c tot : Nat)
    (hu : C.P.underlying t = some (.slice e)) (hi : (C.P.info? e).map (fun i => (i.zero, i.size, i.bytes)) = some (some (.int .u8 0), 1, 1))
    (hx : ev F x = some (.slice (some a0) n cap)) (hl : l.length = n) (hr : SrcAt C L (some a0) (cu8 l))
    (hy : ev F y = some (.slice ao k c)) (hk : z.length = k) (hm : SrcAt C L ao (cu8 z)) (hk0 : 0 < k) (hg : cap < n + k) (hmax : (n + k) * 1 ≤ 140737488355328) (hmax' : n + k ≤ maxLen) (htot : n + k = tot) :
    Step C F L (.call { callee := .builtin .append, args := #[x, y], argTypes := #[t, t] }) ty fun v' L' => ∃ g sp cap', C.w0.heap.size ≤ g ∧ v' = Slc g 0 tot cap' ∧ L' = L ++ [⟨g, cu8 (l ++ z) ++ sp, e, (0, 0)⟩] ∧ (l ++ z).length = tot ∧ sp.length = cap' - tot ∧ tot ≤ cap' ∧ cap' ≤ maxLen :=
  Step_run fun a w ha hw d pos aft g => by
  subst htot
  obtain ⟨i, hi1, hi2, hi3, hi4⟩ := info_of hi
  have he := ha.ev hx
  have he' := ha.ev hy
  cases ao with
  | none =>
    have := hm.1 rfl
    have hz : z = [] := by simpa [cu8] using this
    subst hz; simp at hk; omega
  | some ad =>
    have hsrc : ∀ j u, (cu8 z)[j]? = some u → w.cell? (ad.add j) = some u := fun j u hj => hm.2 ad rfl w hw j u hj
    have hold : ∀ j u, (cu8 l)[j]? = some u → w.cell? (a0.add j) = some u := fun j u hj => hr.2 a0 rfl w hw j u hj
    obtain ⟨v', w', hrun, hown, hgr⟩ := run_append_arg_grows (P := C.P) (w := w) t ty e i (.int .u8 0) 1 1 hu hi1 hi2 hi3 hi4 rfl (by decide) a0 n cap (cu8 l) (by simp [cu8, hl]) hold ad k c (cu8 z) (by simp [cu8, hk]) hsrc hg hmax' hmax
    obtain ⟨hlen, hcase⟩ := hown
    rcases hcase with ⟨_, h5⟩ | ⟨g', cap', cur, rfl, hb, hh, hcap, hmaxl, hsz, htk⟩
    · omega
    · have hcur : cur = (cu8 (l ++ z) ++ cur.toList.drop ((n + k) * 1)).toArray := by
        apply Array.toList_inj.1
        rw [cu8, List.map_append]
        show cur.toList = (cu8 l ++ cu8 z) ++ _
        rw [← htk]; simp
      refine ⟨_, L ++ [⟨g', cu8 (l ++ z) ++ cur.toList.drop ((n + k) * 1), e, (0, 0)⟩], w', ⟨g', cur.toList.drop ((n + k) * 1), cap', Nat.le_trans hw.le hb, rfl, rfl, by simp [hl, hk], ?_, hcap, hmaxl⟩, hw.grown (m := []) none hgr (fun b hb => by cases hb) (by rw [← hcur]; exact hh) (.inl hb), .inl ?_⟩
      · have := congrArg Array.size hcur
        rw [hsz] at this
        simp [cu8, hl, hk] at this
        simp; omega
      · simp [execOp, resolve, invoke, he, he', builtin, hrun]
end Go.Sx
namespace Go.Proofs.YtkdpdgpphpngeaaDoor
open Go Go.Sx
def blkL (b : List UInt8) : List UInt8 := if 64 < b.length then spl (zr8 64) 0 (sumG constL initL b) else spl (zr8 64) 0 b
theorem FG (b : List UInt8) : (blkL b).length = 64 := by
  unfold blkL
  split
  · rw [spl_len (by rw [D7, AP]; omega), AP]
  · rw [spl_len (by rw [AP]; omega), AP]
theorem spl_zr (v : List UInt8) {n : Nat} (h : v.length = n) : spl (zr8 64) 0 v = v ++ zr8 (64 - n) := by
 subst h
 rw [spl, List.take_zero, List.nil_append, Nat.zero_add, zr8, zr8, List.drop_replicate]
theorem blkL_big {b : List UInt8} (h : 64 < b.length) : blkL b = sumG constL initL b ++ zr8 32 := by
 rw [blkL, if_pos h, spl_zr _ (D7 _ _ _)]
theorem blkL_small {b : List UInt8} (h : b.length ≤ 64) : blkL b = b ++ zr8 (64 - b.length) := by
 rw [blkL, if_neg (by omega), spl_zr _ rfl]
def xbN (b : List UInt8) (x : UInt8) : Nat → List UInt8
 | 0 => b
 | k + 1 => (xbN b x k).set k (g8 (xbN b x k) k ^^^ x)
theorem xbN_len (b : List UInt8) (x : UInt8) : ∀ k, (xbN b x k).length = b.length
 | 0 => rfl
 | k + 1 => by rw [xbN, List.length_set, xbN_len b x k]
theorem xbN_len64 {b : List UInt8} (x : UInt8) (k : Nat) (h : b.length = 64) : (xbN b x k).length = 64 := (xbN_len b x k).trans h
theorem xbN_get (b : List UInt8) (x : UInt8) : ∀ k, k ≤ b.length → ∀ j, g8 (xbN b x k) j = if j < k then g8 b j ^^^ x else g8 b j
  | 0, _, j => by simp [xbN]
  | k + 1, h, j => by
    rw [xbN, FS _ _ _ _ (by rw [xbN_len]; omega)]
    by_cases hj : k = j
    · subst hj; rw [if_pos rfl, if_pos (by omega), xbN_get b x k (by omega), if_neg (by omega)]
    · rw [if_neg hj, xbN_get b x k (by omega)]
      by_cases h2 : j < k
      · rw [if_pos h2, if_pos (by omega)]
      · rw [if_neg h2, if_neg (by omega)]
def raN (b : List UInt8) (x : UInt8) : Nat → List UInt8
 | 0 => []
 | k + 1 => raN b x k ++ [g8 b k ^^^ x]
theorem raN_len (b : List UInt8) (x : UInt8) : ∀ k, (raN b x k).length = k
 | 0 => rfl
 | k + 1 => by rw [raN, List.length_append, raN_len b x k]; rfl
theorem raN_get (b : List UInt8) (x : UInt8) : ∀ k j, j < k → g8 (raN b x k) j = g8 b j ^^^ x
  | 0, j, h => by omega
  | k + 1, j, h => by
    rw [raN]
    by_cases hj : j < k
    · rw [g8_app, raN_len, if_pos hj, raN_get b x k j hj]
    · obtain rfl : j = k := by omega
      rw [g8_app, raN_len, if_neg (by omega), Nat.sub_self]; rfl
theorem raN_xbN {b : List UInt8} (x : UInt8) (h : b.length = 64) : raN b x 64 = xbN b x 64 :=
 ext8 (by rw [raN_len, xbN_len, h]) fun j hj => by
  rw [raN_len] at hj
  rw [raN_get b x 64 j hj, xbN_get b x 64 (by omega), if_pos hj]
def macL (b t : List UInt8) : List UInt8 := sumG constL initL (xbN (blkL b) 92 64 ++ sumG constL initL (xbN (blkL b) 54 64 ++ t))
theorem CB (b t : List UInt8) : (macL b t).length = 32 := D7 _ _ _
def orN (x y : List UInt8) : Nat → UInt8
 | 0 => 0
 | i + 1 => orN x y i ||| (g8 x i ^^^ g8 y i)
theorem or_zero {a b : UInt8} : (a ||| b = 0) ↔ a = 0 ∧ b = 0 := by
  constructor
  · intro h
    have h2 : a.toBitVec ||| b.toBitVec = 0 := by
      have := congrArg UInt8.toBitVec h
      simpa using this
    have ha : a.toBitVec = 0 := by
      apply BitVec.eq_of_getElem_eq
      intro i hi
      have := congrArg (fun v => v[i]) h2
      simp at this
      simpa using this.1
    have hb : b.toBitVec = 0 := by
      apply BitVec.eq_of_getElem_eq
      intro i hi
      have := congrArg (fun v => v[i]) h2
      simp at this
      simpa using this.2
    exact ⟨UInt8.toBitVec_inj.1 ha, UInt8.toBitVec_inj.1 hb⟩
  · rintro ⟨rfl, rfl⟩; rfl
theorem xor_zero {a b : UInt8} : (a ^^^ b = 0) ↔ a = b := UInt8.xor_eq_zero_iff
theorem orN_zero (x y : List UInt8) : ∀ n, (orN x y n = 0) ↔ ∀ i, i < n → g8 x i = g8 y i
  | 0 => by simp [orN]
  | n + 1 => by
    rw [orN, or_zero, xor_zero, orN_zero x y n]
    constructor
    · rintro ⟨h1, h2⟩ i hi
      by_cases h : i = n
      · subst h; exact h2
      · exact h1 i (by omega)
    · intro h; exact ⟨fun i hi => h i (by omega), h n (by omega)⟩
theorem orN_same {x y : List UInt8} {n : Nat} (hx : x.length = n) (hy : y.length = n) : decide (orN x y n = 0) = decide (x = y) := by
  have : (orN x y n = 0) ↔ x = y := by
    rw [orN_zero]
    constructor
    · intro h; exact ext8 (by rw [hx, hy]) fun j hj => h j (by omega)
    · rintro rfl _ _; rfl
  by_cases h : x = y
  · rw [decide_eq_true h, decide_eq_true (this.2 h)]
  · rw [decide_eq_false h, decide_eq_false (fun h2 => h (this.1 h2))]
attribute [local irreducible] mid zr8 zr32 rotr wordL spreadL comprL cpN adN spN wrdN constL initL padL stN outN routN hashL sumG blkL xbN raN macL orN
theorem block_c (ao : Option Addr) (n cb : Nat) (b : List UInt8) (w : World) (hb : b.length = n) (hcb : ao = none → cb = 0) (hn : n ≤ 17592186044416) (hr : RdB w [] ao b) (hG : GLs w) : Calls Tryd.prog 171 #[.slice ao n cb] w (Post w [] (fun v L => v = .agg (cu8 (blkL b)).toArray ∧ L = [])) := by
 refine enter w [] 15 [] [.slice ao n cb] Tryd.func171 rfl rfl (by simp) (BR (by simp) (by simp) (by simp)) ?_
 show JC _ _ _ [(0, .slice ao n cb)] _
 refine AF (AB (AV (A7 _ (cu8 (zr8 64)) Tryd.zeroValue262 (by kernel_rfl)) rfl ?_))
 rintro v1 L1 ⟨nb1, hnb1, rfl, rfl⟩
 show JL _ _ _ _ ((2, Ptr nb1 0) :: _) [⟨nb1, cu8 (zr8 64), 262, (0, 0)⟩]
 refine AI (AC (AF (AB (AV (A7 _ (cu8 (zr8 64)) Tryd.zeroValue262 (by kernel_rfl)) rfl ?_))))
 rintro v1 L1 ⟨nb2, hnb2, rfl, rfl⟩
 show JL _ _ _ _ ((3, Ptr nb2 0) :: _) [_, ⟨nb2, cu8 (zr8 64), 262, (0, 0)⟩]
 refine AI (AC (AF (AF (AB (AA _ (AG rfl) rfl ?_)))))
 refine AA (I64 n) (DW AK rfl) rfl ?_
 refine AA (.bool (decide ((64:Int) < ((n:Int))))) (AJ rfl rfl fun _ => FP _ _) rfl ?_
 refine AI (AC (B5 (decide ((64:Int) < ((n:Int)))) rfl (fun hb1 => ?_) (fun hb1 => ?_)))
 ·
  have hp1 : (64:Int) < ((n:Int)) := of_decide_eq_true hb1
  refine AF (AB (AA _ (AG rfl) rfl ?_))
  refine A0 (AY 177 [.slice ao n cb] (.agg (cu8 (sumG constL initL b)).toArray) (A4 _ Tryd.call177 rfl) (fun w1 hw1 => sum_c ao n cb b w1 hb hcb (by omega) (hr.at (M' := []) hw1 (by simp)) (hG.at hw1))) rfl ?_
  show JL _ _ _ _ ((9, .agg (cu8 (sumG constL initL b)).toArray) :: _) [_, _]
  refine AV (A7 _ (cu8 (zr8 32)) C6 (by kernel_rfl)) rfl ?_
  rintro v1 L1 ⟨nb3, hnb3, rfl, rfl⟩
  show JL _ _ _ _ ((4, Ptr nb3 0) :: _) [_, _, ⟨nb3, cu8 (zr8 32), 54, (0, 0)⟩]
  refine A0 (AX 2 nb3 32 (cu8 (zr8 32)) 54 (cu8 (sumG constL initL b)) rfl rfl rfl CK (A8 (D7 _ _ _)) (by first | exact CD | exact CS | exact CR | (simp [cu8, cu32, cu64, Value.oneCell']; done)) (by simp [(AP 32)]) (A6 (by simp [(AP 32), (D7 _ _ _)]))) rfl ?_
  show JL _ _ _ _ _ [_, _, ⟨nb3, cu8 (sumG constL initL b), 54, (0, 0)⟩]
  refine AI (AC (AB (AA (Slc nb3 0 32 32) (B1 32 5 1 0 32 0 32 B4 AM rfl rfl rfl (by omega) (by omega) (by omega) (by omega) (by omega) 32 (by omega)) rfl ?_)))
  refine AA _ (AE rfl) rfl ?_
  refine AI (AC (AF (AB (AA (Slc nb2 0 64 64) (B1 64 5 1 0 64 0 64 Tryd.underlying262 AM rfl rfl rfl (by omega) (by omega) (by omega) (by omega) (by omega) 64 (by omega)) rfl ?_))))
  refine AA _ (AG rfl) rfl ?_
  have hl1 : (spl (zr8 64) 0 (sumG constL initL b)).length = 64 := by rw [spl_len (by simp [(AP 64), (D7 _ _ _)])]; simp [(AP 64), (D7 _ _ _)]
  refine A0 (GF 43 43 5 1 nb2 0 64 64 (cu8 (zr8 64)) 262 (some ⟨nb3, 0, none⟩) 32 32 32 (cu8 (sumG constL initL b)) (cu8 (spl (zr8 64) 0 (sumG constL initL b))) AK FK rfl rfl rfl (Nat.min_eq_left (by omega)) (by simp [(D7 _ _ _)]; try omega) (SrcAt.mem (AR 2 rfl (AN _))) (by simp [(AP 64)]; try omega) (by first | exact CD | exact CS | exact CR | (simp [cu8, cu32, cu64, Value.oneCell']; done)) (laySpl8 _ _ _ (by simp [(AP 64), (D7 _ _ _)]))) rfl ?_
  show JL _ _ _ _ ((13, I64 32) :: _) [_, ⟨nb2, cu8 (spl (zr8 64) 0 (sumG constL initL b)), 262, (0, 0)⟩, _]
  refine AI (AC (AF (AB (AA (.agg (cu8 (spl (zr8 64) 0 (sumG constL initL b))).toArray) (AL rfl (BH Tryd.isAgg262 E8 (A8 hl1) (AR 1 rfl (AN _)))) rfl ?_))))
  refine A0 (AX 0 nb1 64 (cu8 (zr8 64)) 262 (cu8 (spl (zr8 64) 0 (sumG constL initL b))) rfl rfl rfl E8 (A8 hl1) (by first | exact CD | exact CS | exact CR | (simp [cu8, cu32, cu64, Value.oneCell']; done)) (by simp [(AP 64)]) (A6 (by simp [(AP 64), hl1]))) rfl ?_
  show JL _ _ _ _ _ [⟨nb1, cu8 (spl (zr8 64) 0 (sumG constL initL b)), 262, (0, 0)⟩, _, _]
  refine AI (AC (BO (BQ (.agg (cu8 (spl (zr8 64) 0 (sumG constL initL b))).toArray) (res1 Tryd.results171 (DY rfl (BH Tryd.isAgg262 E8 (A8 hl1) (AR 0 rfl (AN _))))) fun w1 hw1 => ?_)))
  refine ⟨_, [], rfl, ⟨?_, rfl⟩, hw1.sub (by simp) (by simp)⟩
  first | (rw [blkL, if_pos (by omega)]; done) | (rw [blkL, if_neg (by omega)]; done)
 ·
  have hp1 : ¬ ((64:Int) < ((n:Int))) := of_decide_eq_false hb1
  refine BJ (AC (AF (AB (AA (Slc nb2 0 64 64) (B1 64 5 1 0 64 0 64 Tryd.underlying262 AM rfl rfl rfl (by omega) (by omega) (by omega) (by omega) (by omega) 64 (by omega)) rfl ?_))))
  refine AA _ (AG rfl) rfl ?_
  have hl2 : (spl (zr8 64) 0 b).length = 64 := (spl_len (by rw [hb, (AP 64)]; omega)).trans (AP 64)
  refine A0 (GF 43 43 5 1 nb2 0 64 64 (cu8 (zr8 64)) 262 ao n cb n (cu8 b) (cu8 (spl (zr8 64) 0 b)) AK FK rfl rfl rfl (Nat.min_eq_left (by omega)) (by simp [hb]; try omega) (hr.src) (by simp [(AP 64)]; try omega) (by first | exact CD | exact CS | exact CR | (simp [cu8, cu32, cu64, Value.oneCell']; done)) (laySpl8 _ _ _ (by rw [hb, (AP 64)]; omega))) rfl ?_
  show JL _ _ _ _ ((13, I64 n) :: _) [_, ⟨nb2, cu8 (spl (zr8 64) 0 b), 262, (0, 0)⟩]
  refine AI (AC (AF (AB (AA (.agg (cu8 (spl (zr8 64) 0 b)).toArray) (AL rfl (BH Tryd.isAgg262 E8 (A8 hl2) (AR 1 rfl (AN _)))) rfl ?_))))
  refine A0 (AX 0 nb1 64 (cu8 (zr8 64)) 262 (cu8 (spl (zr8 64) 0 b)) rfl rfl rfl E8 (A8 hl2) (by first | exact CD | exact CS | exact CR | (simp [cu8, cu32, cu64, Value.oneCell']; done)) (by simp [(AP 64)]) (A6 (by simp [(AP 64), hl2]))) rfl ?_
  show JL _ _ _ _ _ [⟨nb1, cu8 (spl (zr8 64) 0 b), 262, (0, 0)⟩, _]
  refine AI (AC (BO (BQ (.agg (cu8 (spl (zr8 64) 0 b)).toArray) (res1 Tryd.results171 (DY rfl (BH Tryd.isAgg262 E8 (A8 hl2) (AR 0 rfl (AN _))))) fun w1 hw1 => ?_)))
  refine ⟨_, [], rfl, ⟨?_, rfl⟩, hw1.sub (by simp) (by simp)⟩
  first | (rw [blkL, if_pos (by omega)]; done) | (rw [blkL, if_neg (by omega)]; done)
theorem with_c (b : List UInt8) (x : UInt8) (w : World) (hb : b.length = 64) : Calls Tryd.prog 173 #[.agg (cu8 b).toArray, U8 x] w (Post w [] (fun v L => ∃ g T, v = Slc g 0 64 64 ∧ L = [⟨g, cu8 (xbN b x 64), T, (0, 0)⟩])) := by
 refine enter w [] 17 [] [.agg (cu8 b).toArray, U8 x] Tryd.func173 rfl rfl (by simp) (BR (by simp) (by simp) (by simp)) ?_
 show JC _ _ _ [(0, .agg (cu8 b).toArray), (1, U8 x)] _
 refine AF (AB (AV (CG (.agg (cu8 b).toArray) (cu8 b) rfl (by first | rfl | simp)) rfl ?_))
 rintro v1 L1 ⟨nb1, hnb1, rfl, rfl⟩
 show JL _ _ _ _ ((2, Ptr nb1 0) :: _) [⟨nb1, cu8 b, 262, (0, 0)⟩]
 refine AA _ (AE rfl) rfl ?_
 refine AI (AC (AF (AF (AB (AA _ (AG rfl) rfl ?_)))))
 refine AI (AC (A9 (DI (ι := Nat × List UInt8) (fun ⟨k, o⟩ => [(1, U8 x), (2, Ptr nb1 0), (4, .slice none 0 0), (6, I64 k)]) (fun ⟨k, o⟩ => [⟨nb1, cu8 o, 262, (0, 0)⟩]) (fun ⟨k, o⟩ => k ≤ 64 ∧ o = xbN b x k ∧ o.length = 64) (fun ⟨k, o⟩ => 64 - k) (0, b) ⟨by omega, by rw [xbN], hb⟩ (Sub.all rfl) rfl ?_)))
 rintro ⟨k, o⟩ ⟨hx1, hx2, ho⟩
 show JC _ _ _ [(1, U8 x), (2, Ptr nb1 0), (4, .slice none 0 0), (6, I64 k)] [⟨nb1, cu8 o, 262, (0, 0)⟩]
 refine AF (AB (AA (.bool (decide (((k:Int)) < (64:Int)))) (AJ rfl rfl fun _ => B9 _ _) rfl ?_))
 refine AI (AC (AF (B5 (decide (((k:Int)) < (64:Int))) rfl (fun hb1 => ?_) (fun hb1 => ?_))))
 ·
  have hp1 : ((k:Int)) < (64:Int) := of_decide_eq_true hb1
  refine BJ (AC (AF (A9 (AF (AB (AA _ (AG rfl) rfl ?_))))))
  refine AA _ (AE rfl) rfl ?_
  refine AI (AC (AB (AA _ (AG rfl) rfl ?_)))
  refine AA (Ptr nb1 k) (A1 64 5 1 k Tryd.underlying262 AM rfl rfl (by omega) (by omega) (by omega)) rfl ?_
  refine AA (U8 (g8 o k)) (AL rfl (AZ BZ (AR 0 rfl (Seg.get (EC (i := k) (by rw [ho]; omega)))))) rfl ?_
  refine AA _ (AG rfl) rfl ?_
  refine AA (U8 ((g8 o k) ^^^ x)) (AJ rfl rfl fun _ => DK (g8 o k) x) rfl ?_
  refine AA (Ptr nb1 k) (A1 64 5 1 k Tryd.underlying262 AM rfl rfl (by omega) (by omega) (by omega)) rfl ?_
  have hl1 : (o.set k ((g8 o k) ^^^ x)).length = 64 := by first | (rw [List.length_set]; exact ho) | simp [ho]
  refine A0 (CN 0 nb1 k 1 (cu8 o) 262 (U8 ((g8 o k) ^^^ x)) ([U8 ((g8 o k) ^^^ x)]) (cu8 (o.set k ((g8 o k) ^^^ x))) rfl rfl rfl rfl AM rfl (by simp [Value.oneCell']) (by simp [ho]; try omega) (lay8 _ _ _ (by rw [ho]; omega))) rfl ?_
  show JL _ _ _ _ _ [⟨nb1, cu8 (o.set k ((g8 o k) ^^^ x)), 262, (0, 0)⟩]
  refine AI (A5 (AC (AB (AA (I64 ((k:Int) + 1)) (AJ rfl rfl fun _ => BP _ _ ((k:Int) + 1) (by omega) (by omega)) rfl ?_))))
  refine AA _ (AG rfl) rfl ?_
  refine AI (B6 (DN (k + 1, o.set k ((g8 o k) ^^^ x)) ⟨by omega, by rw [xbN, ← hx2], hl1⟩ (by first | (simp; omega) | simp | (dsimp only; omega) | omega) (Sub.all rfl) rfl))
 ·
  have hp1 : ¬ (((k:Int)) < (64:Int)) := of_decide_eq_false hb1
  refine DA (AQ (AQ (BV (AC (AF (AB (AA (Slc nb1 0 64 64) (B1 64 5 1 0 64 0 64 Tryd.underlying262 AM rfl rfl rfl (by omega) (by omega) (by omega) (by omega) (by omega) 64 (by omega)) rfl ?_)))))))
  refine AA _ (AE rfl) rfl ?_
  refine AI (AC (BO (BQ (Slc nb1 0 64 64) (res1 Tryd.results173 (B2 rfl)) fun w1 hw1 => ?_)))
  have e1 : k = 64 := by omega
  subst e1
  rw [hx2] at hw1
  exact ⟨_, _, rfl, ⟨nb1, 262, rfl, rfl⟩, hw1.sub (by simp) (by simp)⟩
theorem mac_c (ao : Option Addr) (n cb : Nat) (key : List UInt8) (b c : Nat) (vs : List Value) (ls : List (List UInt8)) (w : World) (hb : key.length = n) (hcb : ao = none → cb = 0) (hn : n ≤ 17592186044416) (hr : RdB w [] ao key) (hk : 1 ≤ ls.length) (hc : ls.length ≤ c) (hk2 : ls.length ≤ 1000) (hp : Parts w b vs ls) (hs : ls.flatten.length ≤ 100000000) (hG : GLs w) : Calls Tryd.prog 145 #[.slice ao n cb, .slice (some ⟨b, 0, none⟩) ls.length c] w (Post w [] (fun v L => v = .agg (cu8 (macL key ls.flatten)).toArray ∧ L = [])) := by
 refine enter w [] 20 [] [.slice ao n cb, .slice (some ⟨b, 0, none⟩) ls.length c] Tryd.func145 rfl rfl (by simp) (BR (by simp) (by simp) (by simp)) ?_
 show JC _ _ _ [(0, .slice ao n cb), (1, .slice (some ⟨b, 0, none⟩) ls.length c)] _
 refine AF (AB (AV (A7 _ (cu8 (zr8 32)) C6 (by kernel_rfl)) rfl ?_))
 rintro v1 L1 ⟨nb1, hnb1, rfl, rfl⟩
 show JL _ _ _ _ ((4, Ptr nb1 0) :: _) [⟨nb1, cu8 (zr8 32), 54, (0, 0)⟩]
 refine AI (AC (AF (AB (AA _ (AG rfl) rfl ?_))))
 refine A0 (AY 171 [.slice ao n cb] (.agg (cu8 (blkL key)).toArray) (A4 _ Tryd.call171 rfl) (fun w1 hw1 => block_c ao n cb key w1 hb hcb (by omega) (hr.at (M' := []) hw1 (by simp)) (hG.at hw1))) rfl ?_
 show JL _ _ _ _ ((8, .agg (cu8 (blkL key)).toArray) :: _) [_]
 refine AV (A7 _ (cu8 (zr8 64)) Tryd.zeroValue262 (by kernel_rfl)) rfl ?_
 rintro v1 L1 ⟨nb2, hnb2, rfl, rfl⟩
 show JL _ _ _ _ ((5, Ptr nb2 0) :: _) [_, ⟨nb2, cu8 (zr8 64), 262, (0, 0)⟩]
 refine A0 (AX 1 nb2 64 (cu8 (zr8 64)) 262 (cu8 (blkL key)) rfl rfl rfl E8 (A8 (FG _)) (by first | exact CD | exact CS | exact CR | (simp [cu8, cu32, cu64, Value.oneCell']; done)) (by simp [(AP 64)]) (A6 (by simp [(AP 64), (FG _)]))) rfl ?_
 show JL _ _ _ _ _ [_, ⟨nb2, cu8 (blkL key), 262, (0, 0)⟩]
 refine AI (AC (AF (AB (AA (.agg (cu8 (blkL key)).toArray) (AL rfl (BH Tryd.isAgg262 E8 (A8 (FG _)) (AR 1 rfl (AN _)))) rfl ?_))))
 refine AV (CH 173 [.agg (cu8 (blkL key)).toArray, U8 54] _ (A4 _ Tryd.call173 rfl) (fun w1 hw1 => with_c (blkL key) (54:UInt8) w1 (FG _))) rfl ?_
 rintro v1 L1 ⟨_, ⟨nb3, tw1, rfl, rfl⟩, rfl⟩
 show JL _ _ _ _ ((10, Slc nb3 0 64 64) :: _) [_, _, ⟨nb3, cu8 (xbN (blkL key) (54:UInt8) 64), tw1, (0, 0)⟩]
 refine AA _ (AG rfl) rfl ?_
 refine AV (CH 174 [.slice (some ⟨b, 0, none⟩) ls.length c, .slice none 0 0] _ (A4 _ Tryd.call174 rfl) (fun w1 hw1 => join_c b c vs ls w1 hk hc hk2 (hp.at hw1 rfl (by omega)) (by omega))) rfl ?_
 rintro v1 L1 ⟨_, (⟨he1, ao1, ca1, rfl, rfl, hn1⟩ | ⟨hp1, nb4, sp1, cp1, tj1, fj1, rfl, rfl, hl1, hm1⟩), rfl⟩
 ·
  show JL _ _ _ _ ((12, .slice ao1 0 ca1) :: _) [_, _, _]
  refine AV (BT 43 1 _ [(0, Slc nb3 0 64 64), (1, .slice ao1 0 ca1)] ([Slc nb3 0 64 64, .slice ao1 0 ca1]) FE CJ Tryd.zeroValue43 rfl rfl rfl (by kernel_rfl)) rfl ?_
  rintro v1 L1 ⟨nb5, hnb5, rfl, rfl⟩
  show JL _ _ _ _ ((13, Slc nb5 0 2 2) :: _) [_, _, _, ⟨nb5, [Slc nb3 0 64 64, .slice ao1 0 ca1], 43, (0, 0)⟩]
  refine A0 (AY 172 [Slc nb5 0 2 2] (.agg (cu8 (sumG constL initL ([xbN (blkL key) (54:UInt8) 64, ([] : List UInt8)].flatten))).toArray) (A4 _ Tryd.call172 rfl) (fun w1 hw1 => of_c nb5 2 [Slc nb3 0 64 64, .slice ao1 0 ca1] [xbN (blkL key) (54:UInt8) 64, ([] : List UInt8)] w1 (by simp) (by simp) (by simp) ⟨RdA.of hw1 (AR 3 rfl (AN _)) (by simp), ⟨⟨(some ⟨nb3, 0, none⟩), 64, congrArg (fun n => Value.slice (some ⟨nb3, 0, none⟩) n 64) ((xbN_len64 _ 64 (FG _))).symm, (RdB.of hw1 (AR 2 rfl (AN _)) (by simp))⟩, ⟨⟨ao1, ca1, congrArg (fun n => Value.slice ao1 n ca1) (rfl).symm, RdB.nil⟩, trivial⟩⟩⟩ (by simp only [List.flatten_cons, List.flatten_nil, List.length_append, List.length_nil, (xbN_len64 _ 64 (FG _))]; omega) (hG.at hw1))) rfl ?_
  show JL _ _ _ _ ((14, .agg (cu8 (sumG constL initL ([xbN (blkL key) (54:UInt8) 64, ([] : List UInt8)].flatten))).toArray) :: _) [_, _, _, _]
  refine AV (A7 _ (cu8 (zr8 32)) C6 (by kernel_rfl)) rfl ?_
  rintro v1 L1 ⟨nb6, hnb6, rfl, rfl⟩
  show JL _ _ _ _ ((6, Ptr nb6 0) :: _) [_, _, _, _, ⟨nb6, cu8 (zr8 32), 54, (0, 0)⟩]
  refine A0 (AX 4 nb6 32 (cu8 (zr8 32)) 54 (cu8 (sumG constL initL ([xbN (blkL key) (54:UInt8) 64, ([] : List UInt8)].flatten))) rfl rfl rfl CK (A8 (D7 _ _ _)) (by first | exact CD | exact CS | exact CR | (simp [cu8, cu32, cu64, Value.oneCell']; done)) (by simp [(AP 32)]) (A6 (by simp [(AP 32), (D7 _ _ _)]))) rfl ?_
  show JL _ _ _ _ _ [_, _, _, _, ⟨nb6, cu8 (sumG constL initL ([xbN (blkL key) (54:UInt8) 64, ([] : List UInt8)].flatten)), 54, (0, 0)⟩]
  refine AI (AC (AF (CT 20 5 [(0, .agg (cu8 (blkL key)).toArray), (2, Slc nb6 0 32 32)] BL rfl (by decide +kernel) ?_)))
  refine CU ⟨[], [0, 2], [], [0, 2], [1]⟩ 1 _ rfl rfl (by decide +kernel) rfl ⟨⟨_, rfl, AD rfl (AL rfl (BH Tryd.isAgg262 E8 (A8 (FG _)) (AR 1 rfl (AN _))))⟩, ⟨_, rfl, AD rfl (B1 32 5 1 0 32 0 32 B4 AM rfl rfl rfl (by omega) (by omega) (by omega) (by omega) (by omega) 32 (by omega))⟩, trivial⟩ rfl (AW rfl (CH 173 [.agg (cu8 (blkL key)).toArray, U8 92] _ (A4 _ Tryd.call173 rfl) (fun w1 hw1 => with_c (blkL key) (92:UInt8) w1 (FG _)))) ?_
  rintro v1 L1 ⟨_, ⟨nb7, tw2, rfl, rfl⟩, rfl⟩
  refine ⟨[], ?_⟩
  show DP _ _ _ _ _ _ _ _ [_, _, _, _, _, ⟨nb7, cu8 (xbN (blkL key) (92:UInt8) 64), tw2, (0, 0)⟩]
  refine CU ⟨[1], [0, 2], [0], [2], [3]⟩ 3 _ rfl rfl (by decide +kernel) rfl ⟨⟨_, rfl, AD rfl (B1 32 5 1 0 32 0 32 B4 AM rfl rfl rfl (by omega) (by omega) (by omega) (by omega) (by omega) 32 (by omega))⟩, trivial⟩ rfl (AW rfl (BT 43 1 _ [(0, Slc nb7 0 64 64), (1, Slc nb6 0 32 32)] ([Slc nb7 0 64 64, Slc nb6 0 32 32]) FE CJ Tryd.zeroValue43 rfl rfl rfl (by kernel_rfl))) ?_
  rintro v1 L1 ⟨nb8, hnb8, rfl, rfl⟩
  refine ⟨[], ?_⟩
  show DP _ _ _ _ _ _ _ _ [_, _, _, _, _, _, ⟨nb8, [Slc nb7 0 64 64, Slc nb6 0 32 32], 43, (0, 0)⟩]
  refine C2 ⟨[1, 3], [0, 2], [0, 2], [], [4]⟩ 4 rfl rfl (by decide +kernel) rfl trivial rfl (AW rfl (AY 172 [Slc nb8 0 2 2] (.agg (cu8 (sumG constL initL ([xbN (blkL key) (92:UInt8) 64, sumG constL initL ([xbN (blkL key) (54:UInt8) 64, ([] : List UInt8)].flatten)].flatten))).toArray) (A4 _ Tryd.call172 rfl) (fun w1 hw1 => of_c nb8 2 [Slc nb7 0 64 64, Slc nb6 0 32 32] [xbN (blkL key) (92:UInt8) 64, sumG constL initL ([xbN (blkL key) (54:UInt8) 64, ([] : List UInt8)].flatten)] w1 (by simp) (by simp) (by simp) ⟨RdA.of hw1 (AR 6 rfl (AN _)) (by simp), ⟨⟨(some ⟨nb7, 0, none⟩), 64, congrArg (fun n => Value.slice (some ⟨nb7, 0, none⟩) n 64) ((xbN_len64 _ 64 (FG _))).symm, (RdB.of hw1 (AR 5 rfl (AN _)) (by simp))⟩, ⟨⟨(some ⟨nb6, 0, none⟩), 32, congrArg (fun n => Value.slice (some ⟨nb6, 0, none⟩) n 32) ((D7 _ _ _)).symm, (RdB.of hw1 (AR 4 rfl (AN _)) (by simp))⟩, trivial⟩⟩⟩ (by simp only [List.flatten_cons, List.flatten_nil, List.length_append, List.length_nil, (xbN_len64 _ 64 (FG _)), (D7 _ _ _)]; omega) (hG.at hw1)))) ?_
  show DP _ _ _ _ _ _ _ _ [_, _, _, _, _, _, _]
  refine C2 ⟨[1, 3, 4], [0, 2], [0, 2], [], [5]⟩ 5 rfl rfl (by decide +kernel) rfl trivial rfl (AW rfl (AX 0 nb1 32 (cu8 (zr8 32)) 54 (cu8 (sumG constL initL ([xbN (blkL key) (92:UInt8) 64, sumG constL initL ([xbN (blkL key) (54:UInt8) 64, ([] : List UInt8)].flatten)].flatten))) rfl rfl rfl CK (A8 (D7 _ _ _)) (by first | exact CD | exact CS | exact CR | (simp [cu8, cu32, cu64, Value.oneCell']; done)) (by simp [(AP 32)]) (A6 (by simp [(AP 32), (D7 _ _ _)])))) ?_
  show DP _ _ _ _ _ _ _ _ [⟨nb1, cu8 (sumG constL initL ([xbN (blkL key) (92:UInt8) 64, sumG constL initL ([xbN (blkL key) (54:UInt8) 64, ([] : List UInt8)].flatten)].flatten)), 54, (0, 0)⟩, _, _, _, _, _, _]
  refine DE ⟨[1, 3, 4, 5], [0, 2], [0, 2], [], []⟩ rfl rfl (by decide +kernel) rfl trivial ?_
  refine CC (F' := [(4, Ptr nb1 0)]) (by kernel_rfl) ?_
  refine AC (BO (BQ (.agg (cu8 (sumG constL initL ([xbN (blkL key) (92:UInt8) 64, sumG constL initL ([xbN (blkL key) (54:UInt8) 64, ([] : List UInt8)].flatten)].flatten))).toArray) (res1 Tryd.results145 (DY rfl (BH Tryd.isAgg54 CK (A8 (D7 _ _ _)) (AR 0 rfl (AN _))))) fun w1 hw1 => ?_))
  refine ⟨_, [], rfl, ⟨?_, rfl⟩, hw1.sub (by simp) (by simp)⟩
  rw [macL]
  first | (simp; done) | (rw [he1]; simp; done)
 ·
  show JL _ _ _ _ ((12, Slc nb4 0 ls.flatten.length cp1) :: _) [_, _, _, ⟨nb4, cu8 ls.flatten ++ sp1, tj1, fj1⟩]
  refine AV (BT 43 1 _ [(0, Slc nb3 0 64 64), (1, Slc nb4 0 ls.flatten.length cp1)] ([Slc nb3 0 64 64, Slc nb4 0 ls.flatten.length cp1]) FE CJ Tryd.zeroValue43 rfl rfl rfl (by kernel_rfl)) rfl ?_
  rintro v1 L1 ⟨nb9, hnb9, rfl, rfl⟩
  show JL _ _ _ _ ((13, Slc nb9 0 2 2) :: _) [_, _, _, _, ⟨nb9, [Slc nb3 0 64 64, Slc nb4 0 ls.flatten.length cp1], 43, (0, 0)⟩]
  refine A0 (AY 172 [Slc nb9 0 2 2] (.agg (cu8 (sumG constL initL ([xbN (blkL key) (54:UInt8) 64, ls.flatten].flatten))).toArray) (A4 _ Tryd.call172 rfl) (fun w1 hw1 => of_c nb9 2 [Slc nb3 0 64 64, Slc nb4 0 ls.flatten.length cp1] [xbN (blkL key) (54:UInt8) 64, ls.flatten] w1 (by simp) (by simp) (by simp) ⟨RdA.of hw1 (AR 4 rfl (AN _)) (by simp), ⟨⟨(some ⟨nb3, 0, none⟩), 64, congrArg (fun n => Value.slice (some ⟨nb3, 0, none⟩) n 64) ((xbN_len64 _ 64 (FG _))).symm, (RdB.of hw1 (AR 2 rfl (AN _)) (by simp))⟩, ⟨⟨(some ⟨nb4, 0, none⟩), cp1, congrArg (fun n => Value.slice (some ⟨nb4, 0, none⟩) n cp1) ((rfl : ls.flatten.length = _)).symm, (RdB.of hw1 (AR 3 rfl (BE (AN _))) (by simp))⟩, trivial⟩⟩⟩ (by simp only [List.flatten_cons, List.flatten_nil, List.length_append, List.length_nil, (xbN_len64 _ 64 (FG _))]; omega) (hG.at hw1))) rfl ?_
  show JL _ _ _ _ ((14, .agg (cu8 (sumG constL initL ([xbN (blkL key) (54:UInt8) 64, ls.flatten].flatten))).toArray) :: _) [_, _, _, _, _]
  refine AV (A7 _ (cu8 (zr8 32)) C6 (by kernel_rfl)) rfl ?_
  rintro v1 L1 ⟨nb10, hnb10, rfl, rfl⟩
  show JL _ _ _ _ ((6, Ptr nb10 0) :: _) [_, _, _, _, _, ⟨nb10, cu8 (zr8 32), 54, (0, 0)⟩]
  refine A0 (AX 5 nb10 32 (cu8 (zr8 32)) 54 (cu8 (sumG constL initL ([xbN (blkL key) (54:UInt8) 64, ls.flatten].flatten))) rfl rfl rfl CK (A8 (D7 _ _ _)) (by first | exact CD | exact CS | exact CR | (simp [cu8, cu32, cu64, Value.oneCell']; done)) (by simp [(AP 32)]) (A6 (by simp [(AP 32), (D7 _ _ _)]))) rfl ?_
  show JL _ _ _ _ _ [_, _, _, _, _, ⟨nb10, cu8 (sumG constL initL ([xbN (blkL key) (54:UInt8) 64, ls.flatten].flatten)), 54, (0, 0)⟩]
  refine AI (AC (AF (CT 20 5 [(0, .agg (cu8 (blkL key)).toArray), (2, Slc nb10 0 32 32)] BL rfl (by decide +kernel) ?_)))
  refine CU ⟨[], [0, 2], [], [0, 2], [1]⟩ 1 _ rfl rfl (by decide +kernel) rfl ⟨⟨_, rfl, AD rfl (AL rfl (BH Tryd.isAgg262 E8 (A8 (FG _)) (AR 1 rfl (AN _))))⟩, ⟨_, rfl, AD rfl (B1 32 5 1 0 32 0 32 B4 AM rfl rfl rfl (by omega) (by omega) (by omega) (by omega) (by omega) 32 (by omega))⟩, trivial⟩ rfl (AW rfl (CH 173 [.agg (cu8 (blkL key)).toArray, U8 92] _ (A4 _ Tryd.call173 rfl) (fun w1 hw1 => with_c (blkL key) (92:UInt8) w1 (FG _)))) ?_
  rintro v1 L1 ⟨_, ⟨nb11, tw3, rfl, rfl⟩, rfl⟩
  refine ⟨[], ?_⟩
  show DP _ _ _ _ _ _ _ _ [_, _, _, _, _, _, ⟨nb11, cu8 (xbN (blkL key) (92:UInt8) 64), tw3, (0, 0)⟩]
  refine CU ⟨[1], [0, 2], [0], [2], [3]⟩ 3 _ rfl rfl (by decide +kernel) rfl ⟨⟨_, rfl, AD rfl (B1 32 5 1 0 32 0 32 B4 AM rfl rfl rfl (by omega) (by omega) (by omega) (by omega) (by omega) 32 (by omega))⟩, trivial⟩ rfl (AW rfl (BT 43 1 _ [(0, Slc nb11 0 64 64), (1, Slc nb10 0 32 32)] ([Slc nb11 0 64 64, Slc nb10 0 32 32]) FE CJ Tryd.zeroValue43 rfl rfl rfl (by kernel_rfl))) ?_
  rintro v1 L1 ⟨nb12, hnb12, rfl, rfl⟩
  refine ⟨[], ?_⟩
  show DP _ _ _ _ _ _ _ _ [_, _, _, _, _, _, _, ⟨nb12, [Slc nb11 0 64 64, Slc nb10 0 32 32], 43, (0, 0)⟩]
  refine C2 ⟨[1, 3], [0, 2], [0, 2], [], [4]⟩ 4 rfl rfl (by decide +kernel) rfl trivial rfl (AW rfl (AY 172 [Slc nb12 0 2 2] (.agg (cu8 (sumG constL initL ([xbN (blkL key) (92:UInt8) 64, sumG constL initL ([xbN (blkL key) (54:UInt8) 64, ls.flatten].flatten)].flatten))).toArray) (A4 _ Tryd.call172 rfl) (fun w1 hw1 => of_c nb12 2 [Slc nb11 0 64 64, Slc nb10 0 32 32] [xbN (blkL key) (92:UInt8) 64, sumG constL initL ([xbN (blkL key) (54:UInt8) 64, ls.flatten].flatten)] w1 (by simp) (by simp) (by simp) ⟨RdA.of hw1 (AR 7 rfl (AN _)) (by simp), ⟨⟨(some ⟨nb11, 0, none⟩), 64, congrArg (fun n => Value.slice (some ⟨nb11, 0, none⟩) n 64) ((xbN_len64 _ 64 (FG _))).symm, (RdB.of hw1 (AR 6 rfl (AN _)) (by simp))⟩, ⟨⟨(some ⟨nb10, 0, none⟩), 32, congrArg (fun n => Value.slice (some ⟨nb10, 0, none⟩) n 32) ((D7 _ _ _)).symm, (RdB.of hw1 (AR 5 rfl (AN _)) (by simp))⟩, trivial⟩⟩⟩ (by simp only [List.flatten_cons, List.flatten_nil, List.length_append, List.length_nil, (xbN_len64 _ 64 (FG _)), (D7 _ _ _)]; omega) (hG.at hw1)))) ?_
  show DP _ _ _ _ _ _ _ _ [_, _, _, _, _, _, _, _]
  refine C2 ⟨[1, 3, 4], [0, 2], [0, 2], [], [5]⟩ 5 rfl rfl (by decide +kernel) rfl trivial rfl (AW rfl (AX 0 nb1 32 (cu8 (zr8 32)) 54 (cu8 (sumG constL initL ([xbN (blkL key) (92:UInt8) 64, sumG constL initL ([xbN (blkL key) (54:UInt8) 64, ls.flatten].flatten)].flatten))) rfl rfl rfl CK (A8 (D7 _ _ _)) (by first | exact CD | exact CS | exact CR | (simp [cu8, cu32, cu64, Value.oneCell']; done)) (by simp [(AP 32)]) (A6 (by simp [(AP 32), (D7 _ _ _)])))) ?_
  show DP _ _ _ _ _ _ _ _ [⟨nb1, cu8 (sumG constL initL ([xbN (blkL key) (92:UInt8) 64, sumG constL initL ([xbN (blkL key) (54:UInt8) 64, ls.flatten].flatten)].flatten)), 54, (0, 0)⟩, _, _, _, _, _, _, _]
  refine DE ⟨[1, 3, 4, 5], [0, 2], [0, 2], [], []⟩ rfl rfl (by decide +kernel) rfl trivial ?_
  refine CC (F' := [(4, Ptr nb1 0)]) (by kernel_rfl) ?_
  refine AC (BO (BQ (.agg (cu8 (sumG constL initL ([xbN (blkL key) (92:UInt8) 64, sumG constL initL ([xbN (blkL key) (54:UInt8) 64, ls.flatten].flatten)].flatten))).toArray) (res1 Tryd.results145 (DY rfl (BH Tryd.isAgg54 CK (A8 (D7 _ _ _)) (AR 0 rfl (AN _))))) fun w1 hw1 => ?_))
  refine ⟨_, [], rfl, ⟨?_, rfl⟩, hw1.sub (by simp) (by simp)⟩
  rw [macL]
  first | (simp; done) | (rw [he1]; simp; done)
theorem short_c (ao : Option Addr) (n cb : Nat) (key : List UInt8) (b c : Nat) (vs : List Value) (ls : List (List UInt8)) (w : World) (hb : key.length = n) (hcb : ao = none → cb = 0) (hn : n ≤ 17592186044416) (hr : RdB w [] ao key) (hk : 1 ≤ ls.length) (hc : ls.length ≤ c) (hk2 : ls.length ≤ 1000) (hp : Parts w b vs ls) (hs : ls.flatten.length ≤ 100000000) (hG : GLs w) : Calls Tryd.prog 90 #[.slice ao n cb, .slice (some ⟨b, 0, none⟩) ls.length c] w (Post w [] (fun v L => ∃ g sp cap, v = Slc g 0 16 cap ∧ L = [⟨g, cu8 (mid (macL key ls.flatten) 0 16) ++ sp, 5, (0, 0)⟩] ∧ sp.length = cap - 16 ∧ 16 ≤ cap ∧ cap ≤ maxLen)) := by
 refine enter w [] 11 [] [.slice ao n cb, .slice (some ⟨b, 0, none⟩) ls.length c] Tryd.func90 rfl rfl (by simp) (BR (by simp) (by simp) (by simp)) ?_
 show JC _ _ _ [(0, .slice ao n cb), (1, .slice (some ⟨b, 0, none⟩) ls.length c)] _
 refine AF (AB (AA _ (AE rfl) rfl ?_))
 refine AI (AC (AF (AB (AA _ (AG rfl) rfl ?_))))
 refine AA _ (AG rfl) rfl ?_
 refine A0 (AY 145 [.slice ao n cb, .slice (some ⟨b, 0, none⟩) ls.length c] (.agg (cu8 (macL key ls.flatten)).toArray) (A4 _ Tryd.call145 rfl) (fun w1 hw1 => mac_c ao n cb key b c vs ls w1 hb hcb (by omega) (hr.at (M' := []) hw1 (by simp)) hk hc hk2 (hp.at hw1 rfl (by omega)) hs (hG.at hw1))) rfl ?_
 show JL _ _ _ _ ((8, .agg (cu8 (macL key ls.flatten)).toArray) :: _) []
 refine AV (A7 _ (cu8 (zr8 32)) C6 (by kernel_rfl)) rfl ?_
 rintro v1 L1 ⟨nb1, hnb1, rfl, rfl⟩
 show JL _ _ _ _ ((5, Ptr nb1 0) :: _) [⟨nb1, cu8 (zr8 32), 54, (0, 0)⟩]
 refine A0 (AX 0 nb1 32 (cu8 (zr8 32)) 54 (cu8 (macL key ls.flatten)) rfl rfl rfl CK (A8 (CB _ _)) (by first | exact CD | exact CS | exact CR | (simp [cu8, cu32, cu64, Value.oneCell']; done)) (by simp [(AP 32)]) (A6 (by simp [(AP 32), (CB _ _)]))) rfl ?_
 show JL _ _ _ _ _ [⟨nb1, cu8 (macL key ls.flatten), 54, (0, 0)⟩]
 refine AI (AC (AF (AB (AA (Slc nb1 0 16 32) (B1 32 5 1 0 16 0 32 B4 AM rfl rfl rfl (by omega) (by omega) (by omega) (by omega) (by omega) 16 (by omega)) rfl ?_))))
 have hl1 : (mid (macL key ls.flatten) 0 16).length = 16 := D8 (by rw [(CB _ _)]; omega)
 refine AV (CH 146 [Slc nb1 0 16 32] _ (A4 _ Tryd.call146 rfl) (fun w1 hw1 => bclone_c (some ⟨nb1, 0, none⟩) 16 32 (mid (macL key ls.flatten) 0 16) w1 rfl hl1 (by omega) (RdB.of hw1 (AR 0 rfl (FB 0 16 (by rw [(CB _ _)]; omega))) (by simp)))) rfl ?_
 rintro v1 L1 ⟨_, ⟨nb2, sp1, cp1, rfl, rfl, hc1, hc2, hc3⟩, rfl⟩
 show JL _ _ _ _ ((10, Slc nb2 0 16 cp1) :: _) [_, ⟨nb2, cu8 (mid (macL key ls.flatten) 0 16) ++ sp1, 5, (0, 0)⟩]
 refine AA _ (AE rfl) rfl ?_
 refine AI (AC (BO (BQ (Slc nb2 0 16 cp1) (res1 Tryd.results90 (B2 rfl)) fun w1 hw1 => ?_)))
 exact ⟨_, _, rfl, ⟨nb2, sp1, cp1, rfl, rfl, hc1, hc2, hc3⟩, hw1.sub (by simp) (by simp)⟩
theorem rblockS_c (ao : Option Addr) (n cb : Nat) (b : List UInt8) (w : World) (hb : b.length = n) (hcb : ao = none → cb = 0) (hr : RdB w [] ao b) (hGr : GLr w) (hGi : GLi w) (hn : n ≤ 64) : Calls Tryd.prog 147 #[.slice ao n cb] w (Post w [] (fun v L => ∃ g sp cap, v = Slc g 0 64 cap ∧ L = [⟨g, cu8 (blkL b) ++ sp, 5, (0, 0)⟩] ∧ sp.length = cap - 64 ∧ 64 ≤ cap ∧ cap ≤ maxLen)) := by
 have hmx : maxLen = 9223372036854775807 := rfl
 refine enter w [] 21 [] [.slice ao n cb] Tryd.func147 rfl rfl (by simp) (BR (by simp) (by simp) (by simp)) ?_
 show JC _ _ _ [(0, .slice ao n cb)] _
 refine AF (AB (AA _ (AE rfl) rfl ?_))
 refine AI (AC (AF (AB (AV (FF 5 1 AK AM) rfl ?_))))
 rintro v1 L1 ⟨nb1, hnb1, rfl, rfl⟩
 show JL _ _ _ _ ((5, Slc nb1 0 0 0) :: _) [⟨nb1, [], 5, (0, 0)⟩]
 refine AA _ (AG rfl) rfl ?_
 refine AV (DH 43 5 [true] (Slc nb1 0 0 0) 0 ([] : List UInt8) b ao n cb n AK C4 rfl (.inr ⟨nb1, [], 0, rfl, (by simp [take?, cu8, cu32, cu64]), rfl, (by simp), (by omega), (by unfold maxLen; omega)⟩) rfl (by first | exact hb | simp [hb]; try omega) (hr.src) (by omega) (by unfold maxLen; omega) (by omega)) rfl ?_
 rintro v1 L1 ⟨nb2, sp1, cp1, hg1, rfl, rfl, ha1, ha2, ha3, ha4⟩
 show JL _ _ _ _ ((7, Slc nb2 0 n cp1) :: _) [⟨nb2, cu8 (([] : List UInt8) ++ b) ++ sp1, 5, (0, 0)⟩]
 refine AA _ (AE rfl) rfl ?_
 refine AI (AC (AF (AF (AB (AA _ (AG rfl) rfl ?_)))))
 refine AA (I64 n) (DW AK rfl) rfl ?_
 refine AA (.bool (decide ((64:Int) < ((n:Int))))) (AJ rfl rfl fun _ => FP _ _) rfl ?_
 refine AI (AC (DV _ rfl (decide_eq_false (by omega)) ?_))
 refine BJ (AC (AF (A9 (DI (ι := Nat × List UInt8 × Nat × List Value × Nat) (fun ⟨j, o, g1, sp1, cp1⟩ => [(2, .slice none 0 0), (3, Slc g1 0 (j + n) cp1)]) (fun ⟨j, o, g1, sp1, cp1⟩ => [⟨g1, cu8 o ++ sp1, 5, (0, 0)⟩]) (fun ⟨j, o, g1, sp1, cp1⟩ => j + n ≤ 64 ∧ o = b ++ zr8 j ∧ o.length = j + n ∧ sp1.length = cp1 - (j + n) ∧ j + n ≤ cp1 ∧ cp1 ≤ maxLen) (fun ⟨j, o, g1, sp1, cp1⟩ => 64 - (j + n)) (0, ([] : List UInt8) ++ b, nb2, sp1, cp1) ⟨by omega, by simp [zr8], by simp [hb], by omega, by omega, ha4⟩ (Sub.cons rfl (Sub.cons (FM (by omega)) (Sub.nil))) rfl ?_))))
 rintro ⟨j, o, g1, sp1, cp1⟩ ⟨hx1, hx2, ho, hx4, hx5, hx6⟩
 show JC _ _ _ [(2, .slice none 0 0), (3, Slc g1 0 (j + n) cp1)] [⟨g1, cu8 o ++ sp1, 5, (0, 0)⟩]
 refine AF (AF (AB (AA _ (AG rfl) rfl ?_)))
 refine AA (I64 ((j:Int) + (n:Int))) (Ev_lenX AK rfl (by omega)) rfl ?_
 refine AA (.bool (decide (((j:Int) + (n:Int)) < (64:Int)))) (AJ rfl rfl fun _ => B9 _ _) rfl ?_
 refine AI (AC (B5 (decide (((j:Int) + (n:Int)) < (64:Int))) rfl (fun hb1 => ?_) (fun hb1 => ?_)))
 ·
  have hp1 : ((j:Int) + (n:Int)) < (64:Int) := of_decide_eq_true hb1
  refine BJ (AC (A9 (AB (AA _ (AG rfl) rfl ?_))))
  refine AV (BT 5 1 _ [(0, U8 0)] (cu8 ([(0:UInt8)])) AK AM C1 rfl rfl rfl (by kernel_rfl)) rfl ?_
  rintro v1 L1 ⟨nb3, hnb3, rfl, rfl⟩
  show JL _ _ _ _ ((18, Slc nb3 0 1 1) :: _) [_, ⟨nb3, cu8 ([(0:UInt8)]), 5, (0, 0)⟩]
  refine AV (DH 43 5 [true, false] (Slc g1 0 (j + n) cp1) (j + n) o ([(0:UInt8)]) (some ⟨nb3, 0, none⟩) 1 1 (j + n + 1) AK C4 rfl (.inr ⟨g1, sp1, cp1, rfl, rfl, (by first | exact ho | simp [ho]), hx4, (by omega), (by omega)⟩) rfl (by simp) (SrcAt.mem (AR 1 rfl (AN _))) (by omega) (by unfold maxLen; omega) (by omega)) rfl ?_
  rintro v1 L1 ⟨nb4, sp2, cp2, hg2, rfl, rfl, ha5, ha6, ha7, ha8⟩
  show JL _ _ _ _ ((19, Slc nb4 0 (j + n + 1) cp2) :: _) [_, ⟨nb4, cu8 (o ++ ([(0:UInt8)])) ++ sp2, 5, (0, 0)⟩]
  refine AA _ (AE rfl) rfl ?_
  refine AI (A5 (B6 (CA [false, true] ?_)))
  show K _ _ [_] _
  refine DN (j + 1, o ++ ([(0:UInt8)]), nb4, sp2, cp2) ⟨by omega, by rw [hx2, zr8_succ, List.append_assoc], (ha5).trans (by first | rfl | simp +arith), (ha6).trans (by first | rfl | simp +arith), by omega, ha8⟩ (by first | (simp; omega) | simp | (dsimp only; omega) | omega) (Sub.cons rfl (Sub.cons (FM (by omega)) (Sub.nil))) rfl
 ·
  have hp1 : ¬ (((j:Int) + (n:Int)) < (64:Int)) := of_decide_eq_false hb1
  refine DA (AQ (AQ (BV (AC (AF (AB (AA _ (AG rfl) rfl ?_)))))))
  refine AA _ (AE rfl) rfl ?_
  refine AI (AC (BO (BQ (Slc g1 0 (j + n) cp1) (res1 Tryd.results147 (B2 rfl)) fun w1 hw1 => ?_)))
  have e1 : n + j = 64 := by omega
  have ex : o = blkL b := by rw [blkL_small (by omega), hx2]; congr 2; omega
  rw [ex] at hw1
  exact ⟨_, _, rfl, ⟨g1, sp1, cp1, slc_len (by omega), rfl, by omega, by omega, hx6⟩, hw1.sub (by simp) (by simp)⟩
theorem rblockB_c (ao : Option Addr) (n cb : Nat) (b : List UInt8) (w : World) (hb : b.length = n) (hcb : ao = none → cb = 0) (hr : RdB w [] ao b) (hGr : GLr w) (hGi : GLi w) (hn : 64 < n) (hn2 : n ≤ 17592186044416) : Calls Tryd.prog 147 #[.slice ao n cb] w (Post w [] (fun v L => ∃ g sp cap, v = Slc g 0 64 cap ∧ L = [⟨g, cu8 (blkL b) ++ sp, 5, (0, 0)⟩] ∧ sp.length = cap - 64 ∧ 64 ≤ cap ∧ cap ≤ maxLen)) := by
 have hmx : maxLen = 9223372036854775807 := rfl
 refine enter w [] 21 [] [.slice ao n cb] Tryd.func147 rfl rfl (by simp) (BR (by simp) (by simp) (by simp)) ?_
 show JC _ _ _ [(0, .slice ao n cb)] _
 refine AF (AB (AA _ (AE rfl) rfl ?_))
 refine AI (AC (AF (AB (AV (FF 5 1 AK AM) rfl ?_))))
 rintro v1 L1 ⟨nb1, hnb1, rfl, rfl⟩
 show JL _ _ _ _ ((5, Slc nb1 0 0 0) :: _) [⟨nb1, [], 5, (0, 0)⟩]
 refine AA _ (AG rfl) rfl ?_
 refine AV (DH 43 5 [true] (Slc nb1 0 0 0) 0 ([] : List UInt8) b ao n cb n AK C4 rfl (.inr ⟨nb1, [], 0, rfl, (by simp [take?, cu8, cu32, cu64]), rfl, (by simp), (by omega), (by unfold maxLen; omega)⟩) rfl (by first | exact hb | simp [hb]; try omega) (hr.src) (by omega) (by unfold maxLen; omega) (by omega)) rfl ?_
 rintro v1 L1 ⟨nb2, sp1, cp1, hg1, rfl, rfl, ha1, ha2, ha3, ha4⟩
 show JL _ _ _ _ ((7, Slc nb2 0 n cp1) :: _) [⟨nb2, cu8 (([] : List UInt8) ++ b) ++ sp1, 5, (0, 0)⟩]
 refine AA _ (AE rfl) rfl ?_
 refine AI (AC (AF (AF (AB (AA _ (AG rfl) rfl ?_)))))
 refine AA (I64 n) (DW AK rfl) rfl ?_
 refine AA (.bool (decide ((64:Int) < ((n:Int))))) (AJ rfl rfl fun _ => FP _ _) rfl ?_
 refine AI (AC (D1 _ rfl (decide_eq_true (by omega)) ?_))
 refine AF (AB (AA _ (AG rfl) rfl ?_))
 refine A0 (AY 148 [.slice ao n cb] (.agg (cu8 (sumG constL initL b)).toArray) (A4 _ Tryd.call148 rfl) (fun w1 hw1 => rsum_c ao n cb b w1 hb (by omega) (hr.at (M' := []) hw1 (by simp)) (GLr.at hw1 hGr) (GLi.at hw1 hGi))) rfl ?_
 show JL _ _ _ _ ((12, .agg (cu8 (sumG constL initL b)).toArray) :: _) [_]
 refine AV (A7 _ (cu8 (zr8 32)) C6 (by kernel_rfl)) rfl ?_
 rintro v1 L1 ⟨nb3, hnb3, rfl, rfl⟩
 show JL _ _ _ _ ((4, Ptr nb3 0) :: _) [_, ⟨nb3, cu8 (zr8 32), 54, (0, 0)⟩]
 refine A0 (AX 1 nb3 32 (cu8 (zr8 32)) 54 (cu8 (sumG constL initL b)) rfl rfl rfl CK (A8 (D7 _ _ _)) (by first | exact CD | exact CS | exact CR | (simp [cu8, cu32, cu64, Value.oneCell']; done)) (by simp [(AP 32)]) (A6 (by simp [(AP 32), (D7 _ _ _)]))) rfl ?_
 show JL _ _ _ _ _ [_, ⟨nb3, cu8 (sumG constL initL b), 54, (0, 0)⟩]
 refine AI (AC (AB (AA (Slc nb3 0 32 32) (B1 32 5 1 0 32 0 32 B4 AM rfl rfl rfl (by omega) (by omega) (by omega) (by omega) (by omega) 32 (by omega)) rfl ?_)))
 refine AA _ (AE rfl) rfl ?_
 refine AI (AC (AF (A9 (CA [false, true] ?_))))
 show JC _ _ _ _ [_]
 refine DI (ι := (Unit) ⊕ (Nat × List UInt8 × Nat × List Value × Nat)) (fun x => match x with | .inl _ => [(2, .slice none 0 0), (3, Slc nb3 0 32 32)] | .inr ⟨j, o, g1, sp1, cp1⟩ => [(2, .slice none 0 0), (3, Slc g1 0 (j + 32) cp1)]) (fun x => match x with | .inl _ => [⟨nb3, cu8 (sumG constL initL b), 54, (0, 0)⟩] | .inr ⟨j, o, g1, sp1, cp1⟩ => [⟨g1, cu8 o ++ sp1, 5, (0, 0)⟩]) (fun x => match x with | .inl _ => True | .inr ⟨j, o, g1, sp1, cp1⟩ => 1 ≤ j ∧ j ≤ 32 ∧ o = sumG constL initL b ++ zr8 j ∧ o.length = j + 32 ∧ sp1.length = cp1 - (j + 32) ∧ j + 32 ≤ cp1 ∧ cp1 ≤ maxLen) (fun x => match x with | .inl _ => 33 | .inr ⟨j, o, g1, sp1, cp1⟩ => 32 - j) (.inl ()) trivial (Sub.all rfl) rfl ?_
 rintro (_ | ⟨j, o, g1, sp1, cp1⟩) hx
 ·
  obtain _ := hx
  show JC _ _ _ [(2, .slice none 0 0), (3, Slc nb3 0 32 32)] [⟨nb3, cu8 (sumG constL initL b), 54, (0, 0)⟩]
  refine AF (AF (AB (AA _ (AG rfl) rfl ?_)))
  refine AA (I64 32) (DW AK rfl) rfl ?_
  refine AA (.bool (decide ((32:Int) < (64:Int)))) (AJ rfl rfl fun _ => B9 _ _) rfl ?_
  refine AI (AC (D1 _ rfl (by decide) ?_))
  refine BJ (AC (A9 (AB (AA _ (AG rfl) rfl ?_))))
  refine AV (BT 5 1 _ [(0, U8 0)] (cu8 ([(0:UInt8)])) AK AM C1 rfl rfl rfl (by kernel_rfl)) rfl ?_
  rintro v1 L1 ⟨nb4, hnb4, rfl, rfl⟩
  show JL _ _ _ _ ((18, Slc nb4 0 1 1) :: _) [_, ⟨nb4, cu8 ([(0:UInt8)]), 5, (0, 0)⟩]
  refine AV (Step_appG8 43 5 ⟨nb3, 0, none⟩ 32 32 (sumG constL initL b) ([(0:UInt8)]) (some ⟨nb4, 0, none⟩) 1 1 33 AK C4 rfl (D7 _ _ _) (SrcAt.mem (AR 0 rfl (AN _))) rfl (by simp) (SrcAt.mem (AR 1 rfl (AN _))) (by omega) (by omega) (by omega) (by unfold maxLen; omega) (by omega)) rfl ?_
  rintro v1 L1 ⟨nb5, sp2, cp2, hg2, rfl, rfl, ha5, ha6, ha7, ha8⟩
  show JL _ _ _ _ ((19, Slc nb5 0 33 cp2) :: _) [_, _, ⟨nb5, cu8 ((sumG constL initL b) ++ ([(0:UInt8)])) ++ sp2, 5, (0, 0)⟩]
  refine AA _ (AE rfl) rfl ?_
  refine AI (A5 (B6 (CA [false, false, true] ?_)))
  show K _ _ [_] _
  refine DN (.inr (1, (sumG constL initL b) ++ ([(0:UInt8)]), nb5, sp2, cp2)) ⟨by omega, by omega, by simp [zr8], (ha5).trans (by first | rfl | simp +arith), (ha6).trans (by first | rfl | simp +arith), by omega, ha8⟩ (by first | (simp; omega) | simp | (dsimp only; omega) | omega) (Sub.cons rfl (Sub.cons (FM (by omega)) (Sub.nil))) rfl
 ·
  obtain ⟨hx0, hx1, hx2, ho, hx4, hx5, hx6⟩ := hx
  show JC _ _ _ [(2, .slice none 0 0), (3, Slc g1 0 (j + 32) cp1)] [⟨g1, cu8 o ++ sp1, 5, (0, 0)⟩]
  refine AF (AF (AB (AA _ (AG rfl) rfl ?_)))
  refine AA (I64 ((j:Int) + 32)) (Ev_lenX AK rfl (by omega)) rfl ?_
  refine AA (.bool (decide (((j:Int) + 32) < (64:Int)))) (AJ rfl rfl fun _ => B9 _ _) rfl ?_
  refine AI (AC (B5 (decide (((j:Int) + 32) < (64:Int))) rfl (fun hb1 => ?_) (fun hb1 => ?_)))
  ·
   have hp1 : ((j:Int) + 32) < (64:Int) := of_decide_eq_true hb1
   refine BJ (AC (A9 (AB (AA _ (AG rfl) rfl ?_))))
   refine AV (BT 5 1 _ [(0, U8 0)] (cu8 ([(0:UInt8)])) AK AM C1 rfl rfl rfl (by kernel_rfl)) rfl ?_
   rintro v1 L1 ⟨nb6, hnb6, rfl, rfl⟩
   show JL _ _ _ _ ((18, Slc nb6 0 1 1) :: _) [_, ⟨nb6, cu8 ([(0:UInt8)]), 5, (0, 0)⟩]
   refine AV (DH 43 5 [true, false] (Slc g1 0 (j + 32) cp1) (j + 32) o ([(0:UInt8)]) (some ⟨nb6, 0, none⟩) 1 1 (j + 33) AK C4 rfl (.inr ⟨g1, sp1, cp1, rfl, rfl, (by first | exact ho | simp [ho]), hx4, (by omega), (by omega)⟩) rfl (by simp) (SrcAt.mem (AR 1 rfl (AN _))) (by omega) (by unfold maxLen; omega) (by omega)) rfl ?_
   rintro v1 L1 ⟨nb7, sp3, cp3, hg3, rfl, rfl, ha9, ha10, ha11, ha12⟩
   show JL _ _ _ _ ((19, Slc nb7 0 (j + 33) cp3) :: _) [_, ⟨nb7, cu8 (o ++ ([(0:UInt8)])) ++ sp3, 5, (0, 0)⟩]
   refine AA _ (AE rfl) rfl ?_
   refine AI (A5 (B6 (CA [false, true] ?_)))
   show K _ _ [_] _
   refine DN (.inr (j + 1, o ++ ([(0:UInt8)]), nb7, sp3, cp3)) ⟨by omega, by omega, by rw [hx2, zr8_succ, List.append_assoc], (ha9).trans (by first | rfl | simp +arith), (ha10).trans (by first | rfl | simp +arith), by omega, ha12⟩ (by first | (simp; omega) | simp | (dsimp only; omega) | omega) (Sub.cons rfl (Sub.cons (FM (by omega)) (Sub.nil))) rfl
  ·
   have hp1 : ¬ (((j:Int) + 32) < (64:Int)) := of_decide_eq_false hb1
   refine DA (AQ (AQ (BV (AC (AF (AB (AA _ (AG rfl) rfl ?_)))))))
   refine AA _ (AE rfl) rfl ?_
   refine AI (AC (BO (BQ (Slc g1 0 (j + 32) cp1) (res1 Tryd.results147 (B2 rfl)) fun w1 hw1 => ?_)))
   have e1 : j = 32 := by omega
   have ex : o = blkL b := by rw [blkL_big (by omega), hx2, e1]
   rw [ex] at hw1
   exact ⟨_, _, rfl, ⟨g1, sp1, cp1, slc_len (by omega), rfl, by omega, by omega, hx6⟩, hw1.sub (by simp) (by simp)⟩
theorem rblock_w (ao : Option Addr) (n cb : Nat) (b : List UInt8) (w : World) (hb : b.length = n) (hcb : ao = none → cb = 0) (hr : RdB w [] ao b) (hGr : GLr w) (hGi : GLi w) (hn : n ≤ 17592186044416) : Calls Tryd.prog 147 #[.slice ao n cb] w (Post w [] (fun v L => ∃ g sp cap, v = Slc g 0 64 cap ∧ L = [⟨g, cu8 (blkL b) ++ sp, 5, (0, 0)⟩] ∧ sp.length = cap - 64 ∧ 64 ≤ cap ∧ cap ≤ maxLen)) := by
  by_cases h : n ≤ 64
  · exact rblockS_c ao n cb b w hb hcb hr hGr hGi h
  · exact rblockB_c ao n cb b w hb hcb hr hGr hGi (by omega) hn
theorem rmac_c (ao : Option Addr) (n cb : Nat) (key : List UInt8) (ax : Option Addr) (m ct : Nat) (t : List UInt8) (w : World) (hb : key.length = n) (hcb : ao = none → cb = 0) (hn : n ≤ 17592186044416) (hr : RdB w [] ao key) (ht : t.length = m) (hm : m ≤ 1000000000) (hrt : RdB w [] ax t) (hGr : GLr w) (hGi : GLi w) : Calls Tryd.prog 92 #[.slice ao n cb, .slice ax m ct] w (Post w [] (fun v L => v = .agg (cu8 (macL key t)).toArray ∧ L = [])) := by
 have hmx : maxLen = 9223372036854775807 := rfl
 refine enter w [] 40 [] [.slice ao n cb, .slice ax m ct] Tryd.func92 rfl rfl (by simp) (BR (by simp) (by simp) (by simp)) ?_
 show JC _ _ _ [(0, .slice ao n cb), (1, .slice ax m ct)] _
 refine AF (AB (AV (A7 _ (cu8 (zr8 32)) C6 (by kernel_rfl)) rfl ?_))
 rintro v1 L1 ⟨nb1, hnb1, rfl, rfl⟩
 show JL _ _ _ _ ((4, Ptr nb1 0) :: _) [⟨nb1, cu8 (zr8 32), 54, (0, 0)⟩]
 refine AI (AC (AF (AB (AA _ (AG rfl) rfl ?_))))
 refine AV (CH 147 [.slice ao n cb] _ (A4 _ Tryd.call147 rfl) (fun w1 hw1 => rblock_w ao n cb key w1 hb hcb (hr.at (M' := []) hw1 (by simp)) (GLr.at hw1 hGr) (GLi.at hw1 hGi) (by omega))) rfl ?_
 rintro v1 L1 ⟨_, ⟨nb2, sp1, cp1, rfl, rfl, hc1, hc2, hc3⟩, rfl⟩
 show JL _ _ _ _ ((11, Slc nb2 0 64 cp1) :: _) [_, ⟨nb2, cu8 (blkL key) ++ sp1, 5, (0, 0)⟩]
 refine AA _ (AE rfl) rfl ?_
 refine AI (AC (AF (AB (AA _ (AE rfl) rfl ?_))))
 refine AA _ (AE rfl) rfl ?_
 refine AI (AC (AF (AF (AB (AA _ (AE rfl) rfl ?_)))))
 refine AI (AC (A9 (DI (ι := (Unit) ⊕ (Nat × List UInt8 × Nat × List Value × Nat × List UInt8 × Nat × List Value × Nat)) (fun x => match x with | .inl _ => [(1, .slice ax m ct), (4, Ptr nb1 0), (5, Slc nb2 0 64 cp1), (6, .slice none 0 0), (7, .slice none 0 0), (8, I64 0)] | .inr ⟨k, o6, g6, sp6, cp6, o7, g7, sp7, cp7⟩ => [(1, .slice ax m ct), (4, Ptr nb1 0), (5, Slc nb2 0 64 cp1), (6, Slc g6 0 k cp6), (7, Slc g7 0 k cp7), (8, I64 k)]) (fun x => match x with | .inl _ => [⟨nb1, cu8 (zr8 32), 54, (0, 0)⟩, ⟨nb2, cu8 (blkL key) ++ sp1, 5, (0, 0)⟩] | .inr ⟨k, o6, g6, sp6, cp6, o7, g7, sp7, cp7⟩ => [⟨nb1, cu8 (zr8 32), 54, (0, 0)⟩, ⟨nb2, cu8 (blkL key) ++ sp1, 5, (0, 0)⟩, ⟨g6, cu8 o6 ++ sp6, 5, (0, 0)⟩, ⟨g7, cu8 o7 ++ sp7, 5, (0, 0)⟩]) (fun x => match x with | .inl _ => True | .inr ⟨k, o6, g6, sp6, cp6, o7, g7, sp7, cp7⟩ => 1 ≤ k ∧ k ≤ 64 ∧ o6 = raN (blkL key) 54 k ∧ o6.length = k ∧ sp6.length = cp6 - k ∧ k ≤ cp6 ∧ cp6 ≤ maxLen ∧ o7 = raN (blkL key) 92 k ∧ o7.length = k ∧ sp7.length = cp7 - k ∧ k ≤ cp7 ∧ cp7 ≤ maxLen) (fun x => match x with | .inl _ => 65 | .inr ⟨k, o6, g6, sp6, cp6, o7, g7, sp7, cp7⟩ => 64 - k) (.inl ()) trivial (Sub.all rfl) rfl ?_)))
 rintro (_ | ⟨k, o6, g6, sp6, cp6, o7, g7, sp7, cp7⟩) hx
 ·
  obtain _ := hx
  show JC _ _ _ [(1, .slice ax m ct), (4, Ptr nb1 0), (5, Slc nb2 0 64 cp1), (6, .slice none 0 0), (7, .slice none 0 0), (8, I64 0)] [⟨nb1, cu8 (zr8 32), 54, (0, 0)⟩, ⟨nb2, cu8 (blkL key) ++ sp1, 5, (0, 0)⟩]
  refine AF (AF (AB (AA _ (AG rfl) rfl ?_)))
  refine AA (.bool (decide ((0:Int) < (64:Int)))) (AJ rfl rfl fun _ => B9 _ _) rfl ?_
  refine AI (AC (D1 _ rfl (by decide) ?_))
  refine BJ (AC (AF (A9 (AF (AB (AA _ (AG rfl) rfl ?_))))))
  refine AA _ (AG rfl) rfl ?_
  refine AA _ (AG rfl) rfl ?_
  refine AA (Ptr nb2 0) (ED 5 1 0 AK AM rfl rfl (by omega) (by omega) (by omega)) rfl ?_
  refine AA (U8 (g8 (blkL key) 0)) (AL rfl (AZ BZ (AR 1 rfl (BE (Seg.get (EC (i := 0) (by rw [(FG _)]; omega))))))) rfl ?_
  refine AA (U8 ((g8 (blkL key) 0) ^^^ (54:UInt8))) (AJ rfl rfl fun _ => DK (g8 (blkL key) 0) (54:UInt8)) rfl ?_
  refine AV (BT 5 1 _ [(0, U8 ((g8 (blkL key) 0) ^^^ (54:UInt8)))] (cu8 ([(g8 (blkL key) 0) ^^^ (54:UInt8)])) AK AM C1 rfl rfl rfl (by kernel_rfl)) rfl ?_
  rintro v1 L1 ⟨nb3, hnb3, rfl, rfl⟩
  show JL _ _ _ _ ((22, Slc nb3 0 1 1) :: _) [_, _, ⟨nb3, cu8 ([(g8 (blkL key) 0) ^^^ (54:UInt8)]), 5, (0, 0)⟩]
  refine AV (DH 43 5 [false, false, false] (.slice none 0 0) 0 ([] : List UInt8) ([(g8 (blkL key) 0) ^^^ (54:UInt8)]) (some ⟨nb3, 0, none⟩) 1 1 1 AK C4 rfl (.inl ⟨rfl, rfl, rfl, rfl, by omega⟩) rfl (by simp) (SrcAt.mem (AR 2 rfl (AN _))) (by omega) (by unfold maxLen; omega) (by omega)) rfl ?_
  rintro v1 L1 ⟨nb4, sp2, cp2, hg1, rfl, rfl, ha1, ha2, ha3, ha4⟩
  show JL _ _ _ _ ((23, Slc nb4 0 1 cp2) :: _) [_, _, _, ⟨nb4, cu8 (([] : List UInt8) ++ ([(g8 (blkL key) 0) ^^^ (54:UInt8)])) ++ sp2, 5, (0, 0)⟩]
  refine AA _ (AE rfl) rfl ?_
  refine AI (AC (AB (AA _ (AG rfl) rfl ?_)))
  refine AA _ (AG rfl) rfl ?_
  refine AA _ (AG rfl) rfl ?_
  refine AA (Ptr nb2 0) (ED 5 1 0 AK AM rfl rfl (by omega) (by omega) (by omega)) rfl ?_
  refine AA (U8 (g8 (blkL key) 0)) (AL rfl (AZ BZ (AR 1 rfl (BE (Seg.get (EC (i := 0) (by rw [(FG _)]; omega))))))) rfl ?_
  refine AA (U8 ((g8 (blkL key) 0) ^^^ (92:UInt8))) (AJ rfl rfl fun _ => DK (g8 (blkL key) 0) (92:UInt8)) rfl ?_
  refine AV (BT 5 1 _ [(0, U8 ((g8 (blkL key) 0) ^^^ (92:UInt8)))] (cu8 ([(g8 (blkL key) 0) ^^^ (92:UInt8)])) AK AM C1 rfl rfl rfl (by kernel_rfl)) rfl ?_
  rintro v1 L1 ⟨nb5, hnb5, rfl, rfl⟩
  show JL _ _ _ _ ((30, Slc nb5 0 1 1) :: _) [_, _, _, _, ⟨nb5, cu8 ([(g8 (blkL key) 0) ^^^ (92:UInt8)]), 5, (0, 0)⟩]
  refine AV (DH 43 5 [false, false, false, false, false] (.slice none 0 0) 0 ([] : List UInt8) ([(g8 (blkL key) 0) ^^^ (92:UInt8)]) (some ⟨nb5, 0, none⟩) 1 1 1 AK C4 rfl (.inl ⟨rfl, rfl, rfl, rfl, by omega⟩) rfl (by simp) (SrcAt.mem (AR 4 rfl (AN _))) (by omega) (by unfold maxLen; omega) (by omega)) rfl ?_
  rintro v1 L1 ⟨nb6, sp3, cp3, hg2, rfl, rfl, ha5, ha6, ha7, ha8⟩
  show JL _ _ _ _ ((31, Slc nb6 0 1 cp3) :: _) [_, _, _, _, _, ⟨nb6, cu8 (([] : List UInt8) ++ ([(g8 (blkL key) 0) ^^^ (92:UInt8)])) ++ sp3, 5, (0, 0)⟩]
  refine AA _ (AE rfl) rfl ?_
  refine AI (A5 (AC (AB (AA _ (AG rfl) rfl ?_))))
  refine AA (I64 1) (AJ rfl rfl fun _ => BP _ _ (1:Int) (by omega) (by omega)) rfl ?_
  refine AA _ (AE rfl) rfl ?_
  refine AI (B6 (CA [true, true, false, true, false, true] ?_))
  show K _ _ [_, _, _, _] _
  refine DN (.inr (1, ([] : List UInt8) ++ ([(g8 (blkL key) 0) ^^^ (54:UInt8)]), nb4, sp2, cp2, ([] : List UInt8) ++ ([(g8 (blkL key) 0) ^^^ (92:UInt8)]), nb6, sp3, cp3)) ⟨by omega, by omega, by rw [raN, raN], (ha1).trans (by first | rfl | simp +arith), (ha2).trans (by first | rfl | simp +arith), by omega, ha4, by rw [raN, raN], (ha5).trans (by first | rfl | simp +arith), (ha6).trans (by first | rfl | simp +arith), by omega, ha8⟩ (by first | (simp; omega) | simp | (dsimp only; omega) | omega) (Sub.all rfl) rfl
 ·
  obtain ⟨hx0, hx1, hx2, ho6, hs6, hy6, hz6, hx3, ho7, hs7, hy7, hz7⟩ := hx
  show JC _ _ _ [(1, .slice ax m ct), (4, Ptr nb1 0), (5, Slc nb2 0 64 cp1), (6, Slc g6 0 k cp6), (7, Slc g7 0 k cp7), (8, I64 k)] [⟨nb1, cu8 (zr8 32), 54, (0, 0)⟩, ⟨nb2, cu8 (blkL key) ++ sp1, 5, (0, 0)⟩, ⟨g6, cu8 o6 ++ sp6, 5, (0, 0)⟩, ⟨g7, cu8 o7 ++ sp7, 5, (0, 0)⟩]
  refine AF (AF (AB (AA _ (AG rfl) rfl ?_)))
  refine AA (.bool (decide (((k:Int)) < (64:Int)))) (AJ rfl rfl fun _ => B9 _ _) rfl ?_
  refine AI (AC (B5 (decide (((k:Int)) < (64:Int))) rfl (fun hb1 => ?_) (fun hb1 => ?_)))
  ·
   have hp1 : ((k:Int)) < (64:Int) := of_decide_eq_true hb1
   refine BJ (AC (AF (A9 (AF (AB (AA _ (AG rfl) rfl ?_))))))
   refine AA _ (AG rfl) rfl ?_
   refine AA _ (AG rfl) rfl ?_
   refine AA (Ptr nb2 k) (ED 5 1 k AK AM rfl rfl (by omega) (by omega) (by omega)) rfl ?_
   refine AA (U8 (g8 (blkL key) k)) (AL rfl (AZ BZ (AR 1 rfl (BE (Seg.get (EC (i := k) (by rw [(FG _)]; omega))))))) rfl ?_
   refine AA (U8 ((g8 (blkL key) k) ^^^ (54:UInt8))) (AJ rfl rfl fun _ => DK (g8 (blkL key) k) (54:UInt8)) rfl ?_
   refine AV (BT 5 1 _ [(0, U8 ((g8 (blkL key) k) ^^^ (54:UInt8)))] (cu8 ([(g8 (blkL key) k) ^^^ (54:UInt8)])) AK AM C1 rfl rfl rfl (by kernel_rfl)) rfl ?_
   rintro v1 L1 ⟨nb7, hnb7, rfl, rfl⟩
   show JL _ _ _ _ ((22, Slc nb7 0 1 1) :: _) [_, _, _, _, ⟨nb7, cu8 ([(g8 (blkL key) k) ^^^ (54:UInt8)]), 5, (0, 0)⟩]
   refine AV (DH 43 5 [false, false, true, false, false] (Slc g6 0 k cp6) k o6 ([(g8 (blkL key) k) ^^^ (54:UInt8)]) (some ⟨nb7, 0, none⟩) 1 1 (k + 1) AK C4 rfl (.inr ⟨g6, sp6, cp6, rfl, rfl, (by first | exact ho6 | simp [ho6]), hs6, (by omega), (by omega)⟩) rfl (by simp) (SrcAt.mem (AR 4 rfl (AN _))) (by omega) (by unfold maxLen; omega) (by omega)) rfl ?_
   rintro v1 L1 ⟨nb8, sp4, cp4, hg3, rfl, rfl, ha9, ha10, ha11, ha12⟩
   show JL _ _ _ _ ((23, Slc nb8 0 (k + 1) cp4) :: _) [_, _, _, _, ⟨nb8, cu8 (o6 ++ ([(g8 (blkL key) k) ^^^ (54:UInt8)])) ++ sp4, 5, (0, 0)⟩]
   refine AA _ (AE rfl) rfl ?_
   refine AI (AC (AB (AA _ (AG rfl) rfl ?_)))
   refine AA _ (AG rfl) rfl ?_
   refine AA _ (AG rfl) rfl ?_
   refine AA (Ptr nb2 k) (ED 5 1 k AK AM rfl rfl (by omega) (by omega) (by omega)) rfl ?_
   refine AA (U8 (g8 (blkL key) k)) (AL rfl (AZ BZ (AR 1 rfl (BE (Seg.get (EC (i := k) (by rw [(FG _)]; omega))))))) rfl ?_
   refine AA (U8 ((g8 (blkL key) k) ^^^ (92:UInt8))) (AJ rfl rfl fun _ => DK (g8 (blkL key) k) (92:UInt8)) rfl ?_
   refine AV (BT 5 1 _ [(0, U8 ((g8 (blkL key) k) ^^^ (92:UInt8)))] (cu8 ([(g8 (blkL key) k) ^^^ (92:UInt8)])) AK AM C1 rfl rfl rfl (by kernel_rfl)) rfl ?_
   rintro v1 L1 ⟨nb9, hnb9, rfl, rfl⟩
   show JL _ _ _ _ ((30, Slc nb9 0 1 1) :: _) [_, _, _, _, _, ⟨nb9, cu8 ([(g8 (blkL key) k) ^^^ (92:UInt8)]), 5, (0, 0)⟩]
   refine AV (DH 43 5 [false, false, true, false, false, false] (Slc g7 0 k cp7) k o7 ([(g8 (blkL key) k) ^^^ (92:UInt8)]) (some ⟨nb9, 0, none⟩) 1 1 (k + 1) AK C4 rfl (.inr ⟨g7, sp7, cp7, rfl, rfl, (by first | exact ho7 | simp [ho7]), hs7, (by omega), (by omega)⟩) rfl (by simp) (SrcAt.mem (AR 5 rfl (AN _))) (by omega) (by unfold maxLen; omega) (by omega)) rfl ?_
   rintro v1 L1 ⟨nb10, sp5, cp5, hg4, rfl, rfl, ha13, ha14, ha15, ha16⟩
   show JL _ _ _ _ ((31, Slc nb10 0 (k + 1) cp5) :: _) [_, _, _, _, _, ⟨nb10, cu8 (o7 ++ ([(g8 (blkL key) k) ^^^ (92:UInt8)])) ++ sp5, 5, (0, 0)⟩]
   refine AA _ (AE rfl) rfl ?_
   refine AI (A5 (AC (AB (AA _ (AG rfl) rfl ?_))))
   refine AA (I64 ((k:Int) + 1)) (AJ rfl rfl fun _ => BP _ _ ((k:Int) + 1) (by omega) (by omega)) rfl ?_
   refine AA _ (AE rfl) rfl ?_
   refine AI (B6 (CA [true, true, false, true, false, true] ?_))
   show K _ _ [_, _, _, _] _
   refine DN (.inr (k + 1, o6 ++ ([(g8 (blkL key) k) ^^^ (54:UInt8)]), nb8, sp4, cp4, o7 ++ ([(g8 (blkL key) k) ^^^ (92:UInt8)]), nb10, sp5, cp5)) ⟨by omega, by omega, by rw [raN, ← hx2], (ha9).trans (by first | rfl | simp +arith), (ha10).trans (by first | rfl | simp +arith), by omega, ha12, by rw [raN, ← hx3], (ha13).trans (by first | rfl | simp +arith), (ha14).trans (by first | rfl | simp +arith), by omega, ha16⟩ (by first | (simp; omega) | simp | (dsimp only; omega) | omega) (Sub.all rfl) rfl
  ·
   have hp1 : ¬ (((k:Int)) < (64:Int)) := of_decide_eq_false hb1
   refine DA (AQ (AQ (BV (AC (AF (AB (AA _ (AG rfl) rfl ?_)))))))
   refine AA _ (AG rfl) rfl ?_
   refine AV (DH 43 5 [false, false, true, false] (Slc g6 0 k cp6) k o6 t ax m ct (k + m) AK C4 rfl (.inr ⟨g6, sp6, cp6, rfl, rfl, (by first | exact ho6 | simp [ho6]), hs6, (by omega), (by omega)⟩) rfl (by first | exact ht | simp [ht]; try omega) (hrt.src) (by omega) (by unfold maxLen; omega) (by omega)) rfl ?_
   rintro v1 L1 ⟨nb11, sp6, cp6, hg5, rfl, rfl, ha17, ha18, ha19, ha20⟩
   show JL _ _ _ _ ((34, Slc nb11 0 (k + m) cp6) :: _) [_, _, _, ⟨nb11, cu8 (o6 ++ t) ++ sp6, 5, (0, 0)⟩]
   refine A0 (AY 148 [Slc nb11 0 (k + m) cp6] (.agg (cu8 (sumG constL initL (o6 ++ t))).toArray) (A4 _ Tryd.call148 rfl) (fun w1 hw1 => rsum_c (some ⟨nb11, 0, none⟩) (k + m) cp6 (o6 ++ t) w1 ha17 (by omega) (RdB.of hw1 (AR 3 rfl (BE (AN _))) (by simp)) (GLr.at hw1 hGr) (GLi.at hw1 hGi))) rfl ?_
   show JL _ _ _ _ ((35, .agg (cu8 (sumG constL initL (o6 ++ t))).toArray) :: _) [_, _, _, _]
   refine AV (A7 _ (cu8 (zr8 32)) C6 (by kernel_rfl)) rfl ?_
   rintro v1 L1 ⟨nb12, hnb12, rfl, rfl⟩
   show JL _ _ _ _ ((9, Ptr nb12 0) :: _) [_, _, _, _, ⟨nb12, cu8 (zr8 32), 54, (0, 0)⟩]
   refine A0 (AX 4 nb12 32 (cu8 (zr8 32)) 54 (cu8 (sumG constL initL (o6 ++ t))) rfl rfl rfl CK (A8 (D7 _ _ _)) (by first | exact CD | exact CS | exact CR | (simp [cu8, cu32, cu64, Value.oneCell']; done)) (by simp [(AP 32)]) (A6 (by simp [(AP 32), (D7 _ _ _)]))) rfl ?_
   show JL _ _ _ _ _ [_, _, _, _, ⟨nb12, cu8 (sumG constL initL (o6 ++ t)), 54, (0, 0)⟩]
   refine AI (AC (AF (AB (AA _ (AG rfl) rfl ?_))))
   refine AA (Slc nb12 0 32 32) (B1 32 5 1 0 32 0 32 B4 AM rfl rfl rfl (by omega) (by omega) (by omega) (by omega) (by omega) 32 (by omega)) rfl ?_
   refine AV (DH 43 5 [false, false, true, false, false] (Slc g7 0 k cp7) k o7 (sumG constL initL (o6 ++ t)) (some ⟨nb12, 0, none⟩) 32 32 (k + 32) AK C4 rfl (.inr ⟨g7, sp7, cp7, rfl, rfl, (by first | exact ho7 | simp [ho7]), hs7, (by omega), (by omega)⟩) rfl (by first | exact (D7 _ _ _) | simp [(D7 _ _ _)]; try omega) (SrcAt.mem (AR 4 rfl (AN _))) (by omega) (by unfold maxLen; omega) (by omega)) rfl ?_
   rintro v1 L1 ⟨nb13, sp7, cp7, hg6, rfl, rfl, ha21, ha22, ha23, ha24⟩
   show JL _ _ _ _ ((38, Slc nb13 0 (k + 32) cp7) :: _) [_, _, _, _, ⟨nb13, cu8 (o7 ++ (sumG constL initL (o6 ++ t))) ++ sp7, 5, (0, 0)⟩]
   refine A0 (AY 148 [Slc nb13 0 (k + 32) cp7] (.agg (cu8 (sumG constL initL (o7 ++ (sumG constL initL (o6 ++ t))))).toArray) (A4 _ Tryd.call148 rfl) (fun w1 hw1 => rsum_c (some ⟨nb13, 0, none⟩) (k + 32) cp7 (o7 ++ (sumG constL initL (o6 ++ t))) w1 ha21 (by omega) (RdB.of hw1 (AR 4 rfl (BE (AN _))) (by simp)) (GLr.at hw1 hGr) (GLi.at hw1 hGi))) rfl ?_
   show JL _ _ _ _ ((39, .agg (cu8 (sumG constL initL (o7 ++ (sumG constL initL (o6 ++ t))))).toArray) :: _) [_, _, _, _, _]
   refine A0 (AX 0 nb1 32 (cu8 (zr8 32)) 54 (cu8 (sumG constL initL (o7 ++ (sumG constL initL (o6 ++ t))))) rfl rfl rfl CK (A8 (D7 _ _ _)) (by first | exact CD | exact CS | exact CR | (simp [cu8, cu32, cu64, Value.oneCell']; done)) (by simp [(AP 32)]) (A6 (by simp [(AP 32), (D7 _ _ _)]))) rfl ?_
   show JL _ _ _ _ _ [⟨nb1, cu8 (sumG constL initL (o7 ++ (sumG constL initL (o6 ++ t)))), 54, (0, 0)⟩, _, _, _, _]
   refine AI (AC (BO (BQ (.agg (cu8 (sumG constL initL (o7 ++ (sumG constL initL (o6 ++ t))))).toArray) (res1 Tryd.results92 (DY rfl (BH Tryd.isAgg54 CK (A8 (D7 _ _ _)) (AR 0 rfl (AN _))))) fun w1 hw1 => ?_)))
   have e1 : k = 64 := by omega
   subst e1
   refine ⟨_, [], rfl, ⟨?_, rfl⟩, hw1.sub (by simp) (by simp)⟩
   rw [macL, hx2, hx3, raN_xbN _ (FG _), raN_xbN _ (FG _)]
theorem same_c (a1 a2 : Option Addr) (n1 n2 c1 c2 : Nat) (x y : List UInt8) (w : World) (hx : x.length = n1) (hy : y.length = n2) (h1 : RdB w [] a1 x) (h2 : RdB w [] a2 y) (hi1 : n1 ≤ 9223372036854775807) (hi2 : n2 ≤ 9223372036854775807) : Calls Tryd.prog 151 #[.slice a1 n1 c1, .slice a2 n2 c2] w (Post w [] (fun v L => v = .bool (decide (x = y)) ∧ L = [])) := by
 refine enter w [] 31 [] [.slice a1 n1 c1, .slice a2 n2 c2] Tryd.func151 rfl rfl (by simp) (BR (by simp) (by simp) (by simp)) ?_
 show JC _ _ _ [(0, .slice a1 n1 c1), (1, .slice a2 n2 c2)] _
 refine AF (AB (AA _ (AE rfl) rfl ?_))
 refine AI (AC (AF (AF (AB (AA _ (AG rfl) rfl ?_)))))
 refine AA (I64 n1) (DW AK rfl) rfl ?_
 refine AA _ (AG rfl) rfl ?_
 refine AA (I64 n2) (DW AK rfl) rfl ?_
 refine AA (.bool (decide (((n1:Int)) ≠ ((n2:Int))))) (AJ rfl rfl fun _ => FU _ _) rfl ?_
 refine AI (AC (B5 (decide (((n1:Int)) ≠ ((n2:Int)))) rfl (fun hb1 => ?_) (fun hb1 => ?_)))
 ·
  have hp1 : ((n1:Int)) ≠ ((n2:Int)) := of_decide_eq_true hb1
  refine AF (AB (AA _ (AE rfl) rfl ?_))
  refine AI (AC (BO (A3 (BQ (.bool false) (res1 Tryd.results151 (B2 rfl)) fun w1 hw1 => ?_))))
  refine ⟨_, [], rfl, ⟨?_, rfl⟩, hw1.sub (by simp) (by simp)⟩
  have hne : x ≠ y := fun h => by subst h; omega
  rw [decide_eq_false hne]
 ·
  have hp1 : ¬ (((n1:Int)) ≠ ((n2:Int))) := of_decide_eq_false hb1
  refine BJ (AC (AF (AB (AA _ (AE rfl) rfl ?_))))
  refine AI (AC (AF (AF (AB (AA _ (AG rfl) rfl ?_)))))
  refine AA (I64 n1) (DW AK rfl) rfl ?_
  refine AA _ (AG rfl) rfl ?_
  refine AI (AC (A9 (DI (ι := Nat × UInt8) (fun ⟨i, a⟩ => [(0, .slice a1 n1 c1), (1, .slice a2 n2 c2), (4, .bool false), (13, I64 n1), (14, I64 i), (5, U8 a)]) (fun ⟨i, a⟩ => []) (fun ⟨i, a⟩ => i ≤ n1 ∧ a = orN x y i) (fun ⟨i, a⟩ => n1 - i) (0, 0) ⟨by omega, by rw [orN]⟩ (Sub.all rfl) rfl ?_)))
  rintro ⟨i, a⟩ ⟨hx1, hx2⟩
  show JC _ _ _ [(0, .slice a1 n1 c1), (1, .slice a2 n2 c2), (4, .bool false), (13, I64 n1), (14, I64 i), (5, U8 a)] []
  refine AF (AB (AA (.bool (decide (((i:Int)) < ((n1:Int))))) (AJ rfl rfl fun _ => B9 _ _) rfl ?_))
  refine AI (AC (AF (B5 (decide (((i:Int)) < ((n1:Int)))) rfl (fun hb2 => ?_) (fun hb2 => ?_))))
  ·
   have hp2 : ((i:Int)) < ((n1:Int)) := of_decide_eq_true hb2
   refine BJ (AC (AF (A9 (AF (AB (AA _ (AG rfl) rfl ?_))))))
   refine AA _ (AE rfl) rfl ?_
   refine AI (AC ?_)
   obtain ⟨bz1, oz1, hz1, hm1⟩ := h1.pos (by rw [hx]; omega)
   obtain ⟨bz2, oz2, hz2, hm2⟩ := h2.pos (by rw [hy]; omega)
   refine CT 31 1 [(0, U8 a), (1, .slice a1 n1 c1), (2, I64 i), (3, Ptr bz1 (i + oz1)), (4, U8 (g8 x i)), (5, .slice a2 n2 c2), (6, I64 i), (7, Ptr bz2 (i + oz2)), (8, U8 (g8 y i)), (9, U8 ((g8 x i) ^^^ (g8 y i))), (10, U8 (a ||| ((g8 x i) ^^^ (g8 y i)))), (11, U8 (a ||| ((g8 x i) ^^^ (g8 y i))))] BL rfl (by decide +kernel) ?_
   refine DE ⟨[], [0, 1, 2, 3, 4, 5, 6, 7, 8, 9, 10, 11], [], [0, 1, 2, 3, 4, 5, 6, 7, 8, 9, 10, 11], []⟩ rfl rfl (by decide +kernel) rfl ⟨AU rfl rfl rfl, AU rfl rfl rfl, AU rfl rfl rfl, ⟨_, rfl, AD rfl (CL 5 1 (i + oz1) AK AM rfl hz1 rfl (by omega) (by omega) (by omega))⟩, ⟨_, rfl, AD rfl (AL rfl (AZ BZ (BW (MemAt.base hm1.1 hm1.2.1 hm1.2.2) (Seg.get (EC (i := i) (by rw [hx]; omega))) (by omega))))⟩, AU rfl rfl rfl, AU rfl rfl rfl, ⟨_, rfl, AD rfl (CL 5 1 (i + oz2) AK AM rfl hz2 rfl (by omega) (by omega) (by omega))⟩, ⟨_, rfl, AD rfl (AL rfl (AZ BZ (BW (MemAt.base hm2.1 hm2.2.1 hm2.2.2) (Seg.get (EC (i := i) (by rw [hy]; omega))) (by omega))))⟩, ⟨_, rfl, AD rfl (AJ rfl rfl fun _ => DK (g8 x i) (g8 y i))⟩, ⟨_, rfl, AD rfl (AJ rfl rfl fun _ => bin_or_u8 a ((g8 x i) ^^^ (g8 y i)))⟩, ⟨_, rfl, AD rfl (AE rfl)⟩, trivial⟩ ?_
   refine CC (F' := [(17, U8 a), (18, .slice a1 n1 c1), (19, I64 i), (20, Ptr bz1 (i + oz1)), (21, U8 (g8 x i)), (22, .slice a2 n2 c2), (23, I64 i), (24, Ptr bz2 (i + oz2)), (25, U8 (g8 y i)), (26, U8 ((g8 x i) ^^^ (g8 y i))), (27, U8 (a ||| ((g8 x i) ^^^ (g8 y i)))), (5, U8 (a ||| ((g8 x i) ^^^ (g8 y i)))), (0, .slice a1 n1 c1), (1, .slice a2 n2 c2), (4, .bool false), (13, I64 n1), (14, I64 i), (15, .bool (decide (((i:Int)) < ((n1:Int))))), (16, I64 i), (6, I64 i)]) (by kernel_rfl) ?_
   refine A5 (AC (AB (AA (I64 ((i:Int) + 1)) (AJ rfl rfl fun _ => BP _ _ ((i:Int) + 1) (by omega) (by omega)) rfl ?_)))
   refine AA _ (AG rfl) rfl ?_
   refine AI (B6 (DN (i + 1, a ||| ((g8 x i) ^^^ (g8 y i))) ⟨by omega, by rw [orN, ← hx2]⟩ (by first | (simp; omega) | simp | (dsimp only; omega) | omega) (Sub.all rfl) rfl))
  ·
   have hp2 : ¬ (((i:Int)) < ((n1:Int))) := of_decide_eq_false hb2
   refine DA (AQ (AQ (BV (AC (AF (AB (AA _ (AG rfl) rfl ?_)))))))
   refine AA (.bool (decide (a = (0:UInt8)))) (AJ rfl rfl fun _ => bin_eql_u8 a (0:UInt8)) rfl ?_
   refine AA _ (AE rfl) rfl ?_
   refine AI (AC (BO (BQ (.bool (decide (a = (0:UInt8)))) (res1 Tryd.results151 (B2 rfl)) fun w1 hw1 => ?_)))
   refine ⟨_, [], rfl, ⟨?_, rfl⟩, hw1.sub (by simp) (by simp)⟩
   have e1 : i = n1 := by omega
   rw [hx2, e1, orN_same hx (by omega)]
theorem check_c (am : Option Addr) (m cm : Nat) (mm : List UInt8) (ao : Option Addr) (n cb : Nat) (key : List UInt8) (b c : Nat) (vs : List Value) (ls : List (List UInt8)) (w : World) (hm : mm.length = m) (hmi : m ≤ 9223372036854775807) (hrm : RdB w [] am mm) (hb : key.length = n) (hcb : ao = none → cb = 0) (hn : n ≤ 17592186044416) (hr : RdB w [] ao key) (hk : 1 ≤ ls.length) (hc : ls.length ≤ c) (hk2 : ls.length ≤ 1000) (hp : Parts w b vs ls) (hs : ls.flatten.length ≤ 100000000) (hG : GLs w) : Calls Tryd.prog 107 #[.slice am m cm, .slice ao n cb, .slice (some ⟨b, 0, none⟩) ls.length c] w (Post w [] (fun v L => v = .bool (decide (mm = macL key ls.flatten) || decide (mm = mid (macL key ls.flatten) 0 16)) ∧ L = [])) := by
  refine enter w [] 23 [] [.slice am m cm, .slice ao n cb, .slice (some ⟨b, 0, none⟩) ls.length c] Tryd.func107 rfl rfl (by simp) (BR (by simp) (by simp) (by simp)) ?_
  show JC _ _ _ [(0, .slice am m cm), (1, .slice ao n cb), (2, .slice (some ⟨b, 0, none⟩) ls.length c)] _
  refine AF (AB (AA _ (AE rfl) rfl ?_))
  refine AI (AC (AF (AB (AA _ (AG rfl) rfl ?_))))
  refine AA _ (AG rfl) rfl ?_
  refine A0 (AY 145 [.slice ao n cb, .slice (some ⟨b, 0, none⟩) ls.length c] (.agg (cu8 (macL key ls.flatten)).toArray) (A4 _ Tryd.call145 rfl) (fun w1 hw1 => mac_c ao n cb key b c vs ls w1 hb hcb (by omega) (hr.at (M' := []) hw1 (by simp)) hk hc hk2 (hp.at hw1 rfl (by omega)) hs (hG.at hw1))) rfl ?_
  show JL _ _ _ _ ((10, .agg (cu8 (macL key ls.flatten)).toArray) :: _) []
  refine AV (A7 _ (cu8 (zr8 32)) C6 (by kernel_rfl)) rfl ?_
  rintro v1 L1 ⟨nb1, hnb1, rfl, rfl⟩
  show JL _ _ _ _ ((7, Ptr nb1 0) :: _) [⟨nb1, cu8 (zr8 32), 54, (0, 0)⟩]
  refine A0 (AX 0 nb1 32 (cu8 (zr8 32)) 54 (cu8 (macL key ls.flatten)) rfl rfl rfl CK (A8 (CB _ _)) (by first | exact CD | exact CS | exact CR | (simp [cu8, cu32, cu64, Value.oneCell']; done)) (by simp [(AP 32)]) (A6 (by simp [(AP 32), (CB _ _)]))) rfl ?_
  show JL _ _ _ _ _ [⟨nb1, cu8 (macL key ls.flatten), 54, (0, 0)⟩]
  refine AI (AC (AF (AF (AB (AA _ (AG rfl) rfl ?_)))))
  refine AA (I64 m) (DW AK rfl) rfl ?_
  refine AI (AC (A9 (AF (AB (AA (.bool (decide (((m:Int)) = (16:Int)))) (AJ rfl rfl fun _ => D6 _ _) rfl ?_)))))
  refine AA _ (AE rfl) rfl ?_
  refine AI (AC (B5 (decide (((m:Int)) = (16:Int))) rfl (fun hb1 => ?_) (fun hb1 => ?_)))
  ·
    have hp1 : ((m:Int)) = (16:Int) := of_decide_eq_true hb1
    refine AF (AB (AA _ (AG rfl) rfl ?_))
    refine AA (Slc nb1 0 16 32) (B1 32 5 1 0 16 0 32 B4 AM rfl rfl rfl (by omega) (by omega) (by omega) (by omega) (by omega) 16 (by omega)) rfl ?_
    have hl1 : (mid (macL key ls.flatten) 0 16).length = 16 := D8 (by rw [(CB _ _)]; omega)
    refine A0 (AY 151 [.slice am m cm, Slc nb1 0 16 32] (.bool (decide (mm = (mid (macL key ls.flatten) 0 16)))) (A4 _ Tryd.call151 rfl) (fun w1 hw1 => same_c am (some ⟨nb1, 0, none⟩) m 16 cm 32 mm (mid (macL key ls.flatten) 0 16) w1 hm hl1 (hrm.at (M' := []) hw1 (by simp)) (RdB.of hw1 (AR 0 rfl (FB 0 16 (by rw [(CB _ _)]; omega))) (by simp)) (by omega) (by omega))) rfl ?_
    show JL _ _ _ _ ((17, .bool (decide (mm = (mid (macL key ls.flatten) 0 16)))) :: _) [_]
    refine AA _ (AE rfl) rfl ?_
    refine AI (AC (BO (CZ (A3 (BQ (.bool (decide (mm = (mid (macL key ls.flatten) 0 16)))) (res1 Tryd.results107 (B2 rfl)) fun w1 hw1 => ?_)))))
    refine ⟨_, [], rfl, ⟨?_, rfl⟩, hw1.sub (by simp) (by simp)⟩
    have hl1 : (macL key ls.flatten).length = 32 := CB _ _
    have hl2 : (mid (macL key ls.flatten) 0 16).length = 16 := D8 (by rw [hl1]; omega)
    first
    | (have hne : ¬ mm = macL key ls.flatten := fun h => by rw [← h] at hl1; omega
       rw [decide_eq_false hne, Bool.false_or]; done)
    | (have hne : ¬ mm = mid (macL key ls.flatten) 0 16 := fun h => by rw [← h] at hl2; omega
       rw [decide_eq_false hne, Bool.or_false]; done)
    | (have hne : ¬ mm = macL key ls.flatten := fun h => by rw [← h] at hl1; omega
       have hne2 : ¬ mm = mid (macL key ls.flatten) 0 16 := fun h => by rw [← h] at hl2; omega
       rw [decide_eq_false hne, decide_eq_false hne2]; rfl)
  ·
    have hp1 : ¬ (((m:Int)) = (16:Int)) := of_decide_eq_false hb1
    refine AF (AB (AA (.bool (decide (((m:Int)) = (32:Int)))) (AJ rfl rfl fun _ => D6 _ _) rfl ?_))
    refine AA _ (AE rfl) rfl ?_
    refine AI (AC (B5 (decide (((m:Int)) = (32:Int))) rfl (fun hb2 => ?_) (fun hb2 => ?_)))
    ·
      have hp2 : ((m:Int)) = (32:Int) := of_decide_eq_true hb2
      refine AF (AB (AA _ (AG rfl) rfl ?_))
      refine AA (Slc nb1 0 32 32) (B1 32 5 1 0 32 0 32 B4 AM rfl rfl rfl (by omega) (by omega) (by omega) (by omega) (by omega) 32 (by omega)) rfl ?_
      refine A0 (AY 151 [.slice am m cm, Slc nb1 0 32 32] (.bool (decide (mm = (macL key ls.flatten)))) (A4 _ Tryd.call151 rfl) (fun w1 hw1 => same_c am (some ⟨nb1, 0, none⟩) m 32 cm 32 mm (macL key ls.flatten) w1 hm (CB _ _) (hrm.at (M' := []) hw1 (by simp)) (RdB.of hw1 (AR 0 rfl (AN _)) (by simp)) (by omega) (by omega))) rfl ?_
      show JL _ _ _ _ ((22, .bool (decide (mm = (macL key ls.flatten)))) :: _) [_]
      refine AA _ (AE rfl) rfl ?_
      refine AI (AC (BO (CZ (A3 (BQ (.bool (decide (mm = (macL key ls.flatten)))) (res1 Tryd.results107 (B2 rfl)) fun w1 hw1 => ?_)))))
      refine ⟨_, [], rfl, ⟨?_, rfl⟩, hw1.sub (by simp) (by simp)⟩
      have hl1 : (macL key ls.flatten).length = 32 := CB _ _
      have hl2 : (mid (macL key ls.flatten) 0 16).length = 16 := D8 (by rw [hl1]; omega)
      first
      | (have hne : ¬ mm = macL key ls.flatten := fun h => by rw [← h] at hl1; omega
         rw [decide_eq_false hne, Bool.false_or]; done)
      | (have hne : ¬ mm = mid (macL key ls.flatten) 0 16 := fun h => by rw [← h] at hl2; omega
         rw [decide_eq_false hne, Bool.or_false]; done)
      | (have hne : ¬ mm = macL key ls.flatten := fun h => by rw [← h] at hl1; omega
         have hne2 : ¬ mm = mid (macL key ls.flatten) 0 16 := fun h => by rw [← h] at hl2; omega
         rw [decide_eq_false hne, decide_eq_false hne2]; rfl)
    ·
      have hp2 : ¬ (((m:Int)) = (32:Int)) := of_decide_eq_false hb2
      refine BJ (A5 (AC (AF (AB (AA _ (AE rfl) rfl ?_)))))
      refine AI (AC (BO (BQ (.bool false) (res1 Tryd.results107 (B2 rfl)) fun w1 hw1 => ?_)))
      refine ⟨_, [], rfl, ⟨?_, rfl⟩, hw1.sub (by simp) (by simp)⟩
      have hl1 : (macL key ls.flatten).length = 32 := CB _ _
      have hl2 : (mid (macL key ls.flatten) 0 16).length = 16 := D8 (by rw [hl1]; omega)
      first
      | (have hne : ¬ mm = macL key ls.flatten := fun h => by rw [← h] at hl1; omega
         rw [decide_eq_false hne, Bool.false_or]; done)
      | (have hne : ¬ mm = mid (macL key ls.flatten) 0 16 := fun h => by rw [← h] at hl2; omega
         rw [decide_eq_false hne, Bool.or_false]; done)
      | (have hne : ¬ mm = macL key ls.flatten := fun h => by rw [← h] at hl1; omega
         have hne2 : ¬ mm = mid (macL key ls.flatten) 0 16 := fun h => by rw [← h] at hl2; omega
         rw [decide_eq_false hne, decide_eq_false hne2]; rfl)
end Go.Proofs.YtkdpdgpphpngeaaDoor
namespace Go.Sx
open Go Go.RowKit
theorem Hp.allocF {w0 w : World} {M : List Nat} {L : List Ent} (h : Hp w0 M L w) (cs : List Value) (T : Nat) (fz : Nat × Nat) : Hp w0 M (L ++ [⟨w.heap.size, cs, T, fz⟩]) (w.alloc (.cells cs.toArray T fz)) := by
  have hlt : ∀ x ∈ L, x.b < w.heap.size := fun x hx => (Array.getElem?_eq_some_iff.1 (h.ent x hx)).1
  refine ⟨h.os, h.tape, h.output, by have := h.le; simp; omega, fun k hk hM => ?_, fun x hx => ?_, ?_, fun x hx => ?_⟩
  · rw [Below.heap_alloc _ _ _ (by have := h.le; omega)]; exact h.old k hk hM
  · rcases List.mem_append.1 hx with h1 | h1
    · rw [Below.heap_alloc _ _ _ (hlt x h1)]; exact h.ent x h1
    · simp at h1; subst h1; show (w.heap.push _)[w.heap.size]? = _; simp
  · rw [List.map_append, List.nodup_append]
    refine ⟨h.nd, by simp, fun a ha c hc => ?_⟩
    simp at hc; subst hc
    obtain ⟨x, hx, rfl⟩ := List.mem_map.1 ha
    have := hlt x hx; omega
  · rcases List.mem_append.1 hx with h1 | h1
    · exact h.own x h1
    · simp at h1; subst h1; exact .inr h.le
variable {C : Cx} {F : Frm} {L : List Ent}
theorem Step_strBytes {src dst ty : TypeId} {x : Operand} (e : Nat) (l : List UInt8) (hs : C.P.underlying src = some .string) (hd : C.P.underlying dst = some (.slice e)) (he : C.P.underlying e = some (.int .u8)) (hx : ev F x = some (.string ⟨l.toArray⟩)) (hl : l.length ≤ maxLen) :
  Step C F L (.convert src dst x) ty fun v L' => ∃ nb sp cap fz, C.w0.heap.size ≤ nb ∧ v = Slc nb 0 l.length cap ∧ L' = L ++ [⟨nb, cu8 l ++ sp, e, fz⟩] ∧ l.length ≤ cap ∧ cap ≤ maxLen := Step_run fun a w ha hw d pos aft g => by
 have hr := run_bytes_of_string (P := C.P) w src dst e ⟨l.toArray⟩ hs hd he
 have hsz : (⟨l.toArray⟩ : ByteArray).size = l.length := rfl
 rw [hsz] at hr
 have hrow : bytesRow ⟨l.toArray⟩ (grownCap w l.length 0 e) = (cu8 l ++ List.replicate (grownCap w l.length 0 e - l.length) (Value.int .u8 0)).toArray := by
  apply Array.toList_inj.1
  simp [bytesRow, cu8, hsz]
 rw [hrow] at hr
 refine ⟨_, _, _, ⟨w.heap.size, List.replicate (grownCap w l.length 0 e - l.length) (Value.int .u8 0), grownCap w l.length 0 e, _, hw.le, rfl, rfl, grownCap_ge w _ 0 e, grownCap_le_maxLen w _ 0 e hl⟩, (hw.drewN (w.drawn + 1)).allocF (cu8 l ++ List.replicate (grownCap w l.length 0 e - l.length) (Value.int .u8 0)) e ((cu8 l ++ List.replicate (grownCap w l.length 0 e - l.length) (Value.int .u8 0)).toArray.size, (cu8 l ++ List.replicate (grownCap w l.length 0 e - l.length) (Value.int .u8 0)).toArray.size + 1), .inl ?_⟩
 simp only [execOp, ha.ev hx]
 rw [Sem.run_bind, hr]
 rfl
end Go.Sx
namespace Go.Sx
open Go Go.RowKit
theorem foldl_lay (off : Nat) : ∀ (c : List Value) (k : Nat) (pre z post : List Value), z.length = c.length → pre.length = off + k →
  (c.zipIdx k).foldl (fun (cs : Array Value) (x : Value × Nat) => cs.setIfInBounds (off + x.2) x.1) (pre ++ (z ++ post)).toArray = ((pre ++ c) ++ post).toArray
 | [], k, pre, z, post, hz, _ => by
  have : z = [] := by simpa using hz
  subst this; simp
 | x :: c, k, pre, [], post, hz, _ => by simp at hz
 | x :: c, k, pre, y :: z, post, hz, hp => by
  rw [List.zipIdx_cons, List.foldl_cons]
  have e : (pre ++ (y :: z ++ post)).toArray.setIfInBounds (off + k) x = ((pre ++ [x]) ++ (z ++ post)).toArray := by
   rw [← hp]
   apply Array.toList_inj.1
   simp
  show (c.zipIdx (k + 1)).foldl _ ((pre ++ (y :: z ++ post)).toArray.setIfInBounds (off + k) x) = _
  rw [e, foldl_lay off c (k + 1) (pre ++ [x]) z post (by simpa using hz) (by simp; omega)]
  simp
theorem EW {place : Nat → Option (Nat × Nat)} {i : Nat} {v : Value} {rest : List (Nat × Value)} (pre z post c : List Value) (hc : v.cells = c.toArray) (hp : place i = some (pre.length, z.length)) (hl : c.length = z.length) :
  Instr.fill place (pre ++ (z ++ post)).toArray ((i, v) :: rest) = Instr.fill place ((pre ++ c) ++ post).toArray rest := by
 rw [Instr.fill, hp]
 have h1 : v.cells.size = z.length := by rw [hc]; simpa using hl
 have h2 : ¬ (pre.length + v.cells.size > (pre ++ (z ++ post)).toArray.size) := by rw [h1]; simp
 simp only [h1, ne_eq, not_true, decide_false, Bool.false_or, decide_eq_true_eq]
 rw [if_neg (by rw [h1] at h2; exact h2)]
 have := foldl_lay pre.length c 0 pre z post hl.symm (by simp)
 rw [← this, hc]
 congr 1
 rw [← Array.foldl_toList]
 simp
theorem run_build_struct {P : Program} {w : World} {T : TypeId} {fields : Array Field} {z : Value} {places : Array (Nat × Nat)} {pv : Array (Nat × Value)} {cs : List Value} (hz : ∀ w, (zeroValue T).run P w = .ok z w) (hu : P.underlying T = some (.struct fields))
  (hp : ∀ w, (fields.mapM fun f => do pure (f.offset, ← sizeOf f.type) : Sem (Array (Nat × Nat))).run P w = .ok places w) (hf : Instr.fill (places[·]?) z.cells pv.toList = some cs.toArray) : (Instr.build T pv).run P w = .ok (.agg cs.toArray) w := by
 simp only [Instr.build, Sem.run_bind, hz, Result.andThen_ok, run_underlying hu, hp, hf, Sem.run_pure]
end Go.Sx
