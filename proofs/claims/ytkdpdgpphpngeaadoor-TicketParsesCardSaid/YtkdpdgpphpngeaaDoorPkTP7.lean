import Derived.JoinedOf
import Derived.SevenTiedAt
import Derived.Test.YtkdpdgpphpngeaaDoorPkTP6
set_option linter.unusedVariables false
set_option linter.unusedSimpArgs false
set_option maxRecDepth 100000
namespace Go.Proofs.YtkdpdgpphpngeaaDoor
open Go Go.Sx
attribute [local irreducible] mid zr8 zr32 numK valK rvalK rotr wordL spreadL comprL cpN adN spN constL initL padL stN outN sumG putL RightB tktT mayN idxT selT macL eQ vQ tQ bQ sQ ixQ seQ
theorem bld107_0 {w : World} {v0 : Value} (h0 : v0.cells = [v0].toArray) : (Instr.build 107 ([(0, v0)] : List (Nat × Value)).toArray).run Tryd.prog w = .ok (.agg (([v0] : List Value) ++ ([I64 0] : List Value)).toArray) w :=
 EZ (places := #[(0, 1), (1, 1)]) (Z := (([.slice none 0 0] : List Value) ++ (([I64 0] : List Value) ++ []))) (fun _ => by kernel_rfl) BG (fun _ => by kernel_rfl) ((F6 ([.slice none 0 0] : List Value) (([I64 0] : List Value) ++ []) ([v0] : List Value) h0 (by simp [AN]) rfl).trans ((GG ([v0] : List Value) ([I64 0] : List Value) []).trans (by simp [Instr.fill])))
set_option maxHeartbeats 4000000 in
theorem tp3_c (ax : Option Addr) (n cx : Nat) (z : List UInt8) (k : Nat)  (w : World) (ha : ax.isNone = false) (hz : z.length = n) (hn : n ≤ 20000) (hc : n ≤ cx) (hcm : cx ≤ maxLen) (hr : RdB w [] ax z) (hok : Ok3 z) (hk : 41 + k = n) (hG : GLs w)  : Calls Tryd.prog 11 #[.slice ax n cx] w (Post w [] (fun v L => v = .bool true ∧ L = [])) := by
 have hmx : maxLen = 9223372036854775807 := rfl
 have hk9 := vQ_lt1 z 17
 have hmQ := mQ_eq z
 refine enter w [] 86 [] [.slice ax n cx] Tryd.func11 rfl rfl (by simp) (BY (by simp) (by simp) (by simp)) ?_
 show JC _ _ _ [(0, .slice ax n cx)] _
 refine AG (AB (AA _ (AH rfl) rfl ?_))
 refine AL (AC (AG (AG (AB (A2 (AX 43 [] (.bool true) (AZ _ Tryd.call43 rfl) (fun w1 hw1 => alive13_c  w1 (hG.at hw1))) rfl ?_)))))
 rintro v1 L1 ⟨rfl, rfl⟩
 show JL _ _ _ _ ((12, .bool true) :: _) []
 refine AA (.bool (!true)) (FD rfl) rfl ?_
 refine AL (AC (BZ _ rfl rfl ?_))
 refine BL (AC (AG (AG (AB (AA _ (AE rfl) rfl ?_)))))
 refine AA (I64 n) (DS AR rfl) rfl ?_
 refine AA (.bool (decide ((20000:Int) < ((n:Int))))) (AP rfl rfl fun _ => EL _ _) rfl ?_
 refine AL (AC (BZ _ rfl (decide_eq_false (by omega)) ?_))
 refine BL (AC (AG (AB (AA _ (AE rfl) rfl ?_))))
 refine AA (.agg #[.slice ax n cx, I64 0]) (DG [(0, .slice ax n cx)] _ rfl (fun _ => bld107_0 rfl)) rfl ?_
 have hz1 : (z).length = n := hz
 refine A2 (B3 58 [.agg #[.slice ax n cx, I64 0]] _ (AZ _ Tryd.call58 rfl) (fun w1 hw1 => rread3_w ax n cx z w1 hz (by omega) (by omega) (by omega) (hr.at (M' := []) hw1 (by simp)) k hok hk)) rfl ?_
 rintro v1 L1 ⟨_, ⟨ao1, ca1, rfl, rfl⟩, rfl⟩
 show JL _ _ _ _ ((20, .tuple #[.agg ([U64 (vQ z 0 8), U64 (vQ z 8 8), I64 (((vQ z 16 1).toNat:Int)), .slice none 0 0, .slice none 0 0, U64 (vQ z 17 8)] ++ cu8 (bQ z 25 16)).toArray, .agg #[.slice ao1 k ca1, I64 0]]) :: _) []
 refine AA _ (AE rfl) rfl ?_
 refine AA _ (BB rfl rfl) rfl ?_
 refine AA _ (BB rfl rfl) rfl ?_
 refine A2 (BN _ ([U64 0, U64 0, I64 0, .slice none 0 0, .slice none 0 0, U64 0] ++ cu8 (zr8 16)) Tryd.zeroValue38 (by kernel_rfl)) rfl ?_
 rintro v1 L1 ⟨nb1, hnb1, rfl, rfl⟩
 show JL _ _ _ _ ((3, Ptr nb1 0) :: _) [⟨nb1, [U64 0, U64 0, I64 0, .slice none 0 0, .slice none 0 0, U64 0] ++ cu8 (zr8 16), 38, (0, 0)⟩]
 refine A2 (BN _ ([.slice none 0 0, I64 0]) C7 (by kernel_rfl)) rfl ?_
 rintro v1 L1 ⟨nb2, hnb2, rfl, rfl⟩
 show JL _ _ _ _ ((4, Ptr nb2 0) :: _) [_, ⟨nb2, [.slice none 0 0, I64 0], 107, (0, 0)⟩]
 refine AY (AU 0 nb1 22 ([U64 0, U64 0, I64 0, .slice none 0 0, .slice none 0 0, U64 0] ++ cu8 (zr8 16)) 38 ([U64 (vQ z 0 8), U64 (vQ z 8 8), I64 (((vQ z 16 1).toNat:Int)), .slice none 0 0, .slice none 0 0, U64 (vQ z 17 8)] ++ cu8 (bQ z 25 16)) rfl rfl rfl B7 (by simp [(BJ _ _ _)]) (CK (by simp [Value.oneCell']) CF) (by simp [(AN 16)]) (A0 (by simp [(AN 16), (BJ _ _ _)]))) rfl ?_
 show JL _ _ _ _ _ [⟨nb1, [U64 (vQ z 0 8), U64 (vQ z 8 8), I64 (((vQ z 16 1).toNat:Int)), .slice none 0 0, .slice none 0 0, U64 (vQ z 17 8)] ++ cu8 (bQ z 25 16), 38, (0, 0)⟩, _]
 refine AY (AU 1 nb2 2 ([.slice none 0 0, I64 0]) 107 ([.slice ao1 k ca1, I64 0]) rfl rfl rfl AK rfl (by simp [Value.oneCell']) (Nat.le_of_ble_eq_true rfl) (A0 (by simp []))) rfl ?_
 show JL _ _ _ _ _ [_, ⟨nb2, [.slice ao1 k ca1, I64 0], 107, (0, 0)⟩]
 refine AL (AC (AG (AB (AA _ (AE rfl) rfl ?_))))
 refine A2 (B3 59 [.slice ax n cx] _ (AZ _ Tryd.call59 rfl) (fun w1 hw1 => from_c ax n cx z w1 ha hz (by omega) (hr.at (M' := []) hw1 (by simp)))) rfl ?_
 rintro v1 L1 ⟨_, ⟨nb3, nb4, sp1, cp1, rfl, rfl, hc1, hc2, hc3⟩, rfl⟩
 show JL _ _ _ _ ((24, Ptr nb3 0) :: _) [_, _, ⟨nb3, [.nilIface, Slc nb4 0 n cp1], 204, (0, 0)⟩, ⟨nb4, cu8 z ++ sp1, 5, (0, 0)⟩]
 refine AA _ (AH rfl) rfl ?_
 refine AL (AC (AG (AB (AA _ (AE rfl) rfl ?_))))
 have hz2 : (z).length = n := hz
 refine A2 (DE 60 _ [false, false, true, false] [nb3] _ (AZ [Ptr nb3 0] Tryd.call60 rfl) rfl (fun w1 hw1 => tread3_w nb3 (some ⟨nb4, 0, none⟩) n cp1 z w1 (hw1.ent _ (List.mem_of_getElem? (i := 2) rfl)) hz (by omega) (by omega) (by omega) (RdB.of hw1 (AT 3 rfl (A8 (AJ _))) (by intro _; simp only [List.mem_cons, List.not_mem_nil, or_false, not_or]; exact hw1.ne (i := 3) (j := 2) rfl rfl (by decide))) k hok hk)) rfl ?_
 rintro v1 L1 ⟨_, ⟨ao2, ca2, rfl, rfl, hb1, hb2⟩, rfl⟩
 show JL _ _ _ _ ((26, .agg ([U64 (vQ z 0 8), U64 (vQ z 8 8), I64 (((vQ z 16 1).toNat:Int)), .slice none 0 0, .slice none 0 0, U64 (vQ z 17 8)] ++ cu8 (bQ z 25 16)).toArray) :: _) [_, _, _, ⟨nb3, [.nilIface, .slice ao2 k ca2], 204, (0, 0)⟩]
 refine A2 (BN _ ([U64 0, U64 0, I64 0, .slice none 0 0, .slice none 0 0, U64 0] ++ cu8 (zr8 16)) CG (by kernel_rfl)) rfl ?_
 rintro v1 L1 ⟨nb5, hnb5, rfl, rfl⟩
 show JL _ _ _ _ ((6, Ptr nb5 0) :: _) [_, _, _, _, ⟨nb5, [U64 0, U64 0, I64 0, .slice none 0 0, .slice none 0 0, U64 0] ++ cu8 (zr8 16), 29, (0, 0)⟩]
 refine AY (AU 4 nb5 22 ([U64 0, U64 0, I64 0, .slice none 0 0, .slice none 0 0, U64 0] ++ cu8 (zr8 16)) 29 ([U64 (vQ z 0 8), U64 (vQ z 8 8), I64 (((vQ z 16 1).toNat:Int)), .slice none 0 0, .slice none 0 0, U64 (vQ z 17 8)] ++ cu8 (bQ z 25 16)) rfl rfl rfl A3 (by simp [(BJ _ _ _)]) (CK (by simp [Value.oneCell']) CF) (by simp [(AN 16)]) (A0 (by simp [(AN 16), (BJ _ _ _)]))) rfl ?_
 show JL _ _ _ _ _ [_, _, _, _, ⟨nb5, [U64 (vQ z 0 8), U64 (vQ z 8 8), I64 (((vQ z 16 1).toNat:Int)), .slice none 0 0, .slice none 0 0, U64 (vQ z 17 8)] ++ cu8 (bQ z 25 16), 29, (0, 0)⟩]
 refine AL (AC (AG (AG (CH 86 8 [(0, .agg ([U64 (vQ z 0 8), U64 (vQ z 8 8), I64 (((vQ z 16 1).toNat:Int)), .slice none 0 0, .slice none 0 0, U64 (vQ z 17 8)] ++ cu8 (bQ z 25 16)).toArray), (2, .agg ([U64 (vQ z 0 8), U64 (vQ z 8 8), I64 (((vQ z 16 1).toNat:Int)), .slice none 0 0, .slice none 0 0, U64 (vQ z 17 8)] ++ cu8 (bQ z 25 16)).toArray)] BP rfl (by decide +kernel) ?_))))
 refine B6 ⟨[], [0, 2], [], [0, 2], [1]⟩ 1 rfl rfl (by decide +kernel) rfl ⟨⟨_, rfl, AI rfl (AM rfl (A5 BW A3 (by simp [(BJ _ _ _)]) (AT 4 rfl (AJ _))))⟩, ⟨_, rfl, AI rfl (AM rfl (A5 DJ B7 (by simp [(BJ _ _ _)]) (AT 0 rfl (AJ _))))⟩, trivial⟩ rfl (A7 rfl (AX 44 [.agg ([U64 (vQ z 0 8), U64 (vQ z 8 8), I64 (((vQ z 16 1).toNat:Int)), .slice none 0 0, .slice none 0 0, U64 (vQ z 17 8)] ++ cu8 (bQ z 25 16)).toArray] (.agg ([U64 (vQ z 0 8), U64 (vQ z 8 8), I64 (((vQ z 16 1).toNat:Int)), .slice none 0 0, .slice none 0 0, U64 (vQ z 17 8)] ++ cu8 (bQ z 25 16)).toArray) (AZ _ Tryd.call44 rfl) (fun w1 hw1 => docTZ_c (vQ z 0 8) (vQ z 8 8) (((vQ z 16 1).toNat:Int)) none 0 0 ([] : List UInt64) none 0 (vQ z 17 8) (bQ z 25 16) w1 rfl (by omega) (by omega) (by omega) RdV.nil (by omega) (fun _ => rfl) (BJ _ _ _)))) ?_
 show DP _ _ _ _ _ _ _ _ [_, _, _, _, _]
 refine C5 ⟨[1], [0, 2], [0], [2], [3]⟩ 3 _ rfl rfl (by decide +kernel) rfl ⟨⟨_, rfl, AI rfl (AM rfl (A5 DJ B7 (by simp [(BJ _ _ _)]) (AT 0 rfl (AJ _))))⟩, trivial⟩ rfl (A7 rfl (AX 51 [.agg ([U64 (vQ z 0 8), U64 (vQ z 8 8), I64 (((vQ z 16 1).toNat:Int)), .slice none 0 0, .slice none 0 0, U64 (vQ z 17 8)] ++ cu8 (bQ z 25 16)).toArray, .agg ([U64 (vQ z 0 8), U64 (vQ z 8 8), I64 (((vQ z 16 1).toNat:Int)), .slice none 0 0, .slice none 0 0, U64 (vQ z 17 8)] ++ cu8 (bQ z 25 16)).toArray] (.bool (decide ((vQ z 0 8) = (vQ z 0 8) ∧ (vQ z 8 8) = (vQ z 8 8) ∧ (bQ z 25 16) = (bQ z 25 16) ∧ (((vQ z 16 1).toNat:Int)) = (((vQ z 16 1).toNat:Int)) ∧ (vQ z 17 8) = (vQ z 17 8) ∧ ([] : List UInt64) = ([] : List UInt64) ∧ ([] : List SealR) = ([] : List SealR)))) (AZ _ Tryd.call51 rfl) (fun w1 hw1 => rsame13_c (vQ z 0 8) (vQ z 8 8) (((vQ z 16 1).toNat:Int)) none 0 0 ([] : List UInt64) none 0 0 ([] : List SealR) (vQ z 17 8) (bQ z 25 16) (vQ z 0 8) (vQ z 8 8) (((vQ z 16 1).toNat:Int)) none 0 0 ([] : List UInt64) none 0 0 ([] : List SealR) (vQ z 17 8) (bQ z 25 16) w1 rfl (by omega) (by omega) (by omega) RdV.nil rfl (by omega) (by omega) (by omega) RdV.nil (BJ _ _ _) rfl (by omega) (by omega) (by omega) RdV.nil rfl (by omega) (by omega) (by omega) RdV.nil (BJ _ _ _)))) ?_
 rintro v1 L1 ⟨rfl, rfl⟩
 refine ⟨[(4, .bool (!(decide ((vQ z 0 8) = (vQ z 0 8) ∧ (vQ z 8 8) = (vQ z 8 8) ∧ (bQ z 25 16) = (bQ z 25 16) ∧ (((vQ z 16 1).toNat:Int)) = (((vQ z 16 1).toNat:Int)) ∧ (vQ z 17 8) = (vQ z 17 8) ∧ ([] : List UInt64) = ([] : List UInt64) ∧ ([] : List SealR) = ([] : List SealR))))), (5, .bool (!(decide ((vQ z 0 8) = (vQ z 0 8) ∧ (vQ z 8 8) = (vQ z 8 8) ∧ (bQ z 25 16) = (bQ z 25 16) ∧ (((vQ z 16 1).toNat:Int)) = (((vQ z 16 1).toNat:Int)) ∧ (vQ z 17 8) = (vQ z 17 8) ∧ ([] : List UInt64) = ([] : List UInt64) ∧ ([] : List SealR) = ([] : List SealR))))), (6, Ptr nb3 0), (8, .agg #[.slice ao1 k ca1, I64 0])], ?_⟩
 show DP _ _ _ _ _ _ _ _ [_, _, _, _, _]
 refine B6 ⟨[1, 3], [0, 2, 4, 5, 6, 8], [0, 2], [4, 5, 6, 8], [7]⟩ 7 rfl rfl (by decide +kernel) rfl ⟨⟨_, rfl, AI rfl (FD rfl)⟩, BQ rfl rfl rfl, ⟨_, rfl, B1 5 32 false _ rfl rfl rfl (bnotT (decide_eq_true ⟨rfl, rfl, rfl, rfl, rfl, rfl, rfl⟩)) (AE rfl)⟩, ⟨_, rfl, B1 5 32 false _ rfl rfl rfl (bnotT (decide_eq_true ⟨rfl, rfl, rfl, rfl, rfl, rfl, rfl⟩)) (AM rfl (A5 AQ AK rfl (AT 1 rfl (AJ _))))⟩, trivial⟩ rfl (D9 5 32 false _ rfl rfl rfl (bnotT (decide_eq_true ⟨rfl, rfl, rfl, rfl, rfl, rfl, rfl⟩)) (AX 61 [Ptr nb3 0] (I64 k) (AZ _ EM rfl) (fun w1 hw1 => leftZ_c nb3 0 ao2 k ca2 w1 (RdA.of hw1 (AT 3 rfl (AJ _)) (by simp)) rfl))) ?_
 show DP _ _ _ _ _ _ _ _ [_, _, _, _, _]
 refine C5 ⟨[1, 3, 7], [0, 2, 4, 5, 6, 8], [0, 2, 4, 5, 6], [8], [9]⟩ 9 _ rfl rfl (by decide +kernel) rfl ⟨⟨_, rfl, B1 5 32 false _ rfl rfl rfl (bnotT (decide_eq_true ⟨rfl, rfl, rfl, rfl, rfl, rfl, rfl⟩)) (AM rfl (A5 AQ AK rfl (AT 1 rfl (AJ _))))⟩, trivial⟩ rfl (D9 5 32 false _ rfl rfl rfl (bnotT (decide_eq_true ⟨rfl, rfl, rfl, rfl, rfl, rfl, rfl⟩)) (AX 62 [.agg #[.slice ao1 k ca1, I64 0]] (I64 ((leftN 0 k:Int))) (AZ _ Tryd.call62 rfl) (fun w1 hw1 => rleft_w ao1 k ca1 0 w1 ))) ?_
 rintro v1 L1 ⟨rfl, rfl⟩
 refine ⟨[(10, .bool (decide (((k:Int)) ≠ ((leftN 0 k:Int))))), (11, .bool (decide (((k:Int)) ≠ ((leftN 0 k:Int))))), (12, .bool (decide (((k:Int)) ≠ ((leftN 0 k:Int))))), (13, Ptr nb3 0), (16, .agg #[.slice ao1 k ca1, I64 0])], ?_⟩
 show DP _ _ _ _ _ _ _ _ [_, _, _, _, _]
 refine B6 ⟨[1, 3, 7, 9], [0, 2, 4, 5, 6, 8, 10, 11, 12, 13, 16], [0, 2, 4, 5, 6, 8], [10, 11, 12, 13, 16], [14]⟩ 14 rfl rfl (by decide +kernel) rfl ⟨⟨_, rfl, B1 5 32 false _ rfl rfl rfl (bnotT (decide_eq_true ⟨rfl, rfl, rfl, rfl, rfl, rfl, rfl⟩)) (AP rfl rfl fun _ => CE _ _)⟩, ⟨_, rfl, AI rfl (BF _ rfl (bnotT (decide_eq_true ⟨rfl, rfl, rfl, rfl, rfl, rfl, rfl⟩)) rfl)⟩, BQ rfl rfl rfl, ⟨_, rfl, B1 12 39 false _ rfl rfl rfl (decide_eq_false (by simp [leftN])) (AE rfl)⟩, ⟨_, rfl, B1 12 39 false _ rfl rfl rfl (decide_eq_false (by simp [leftN])) (AM rfl (A5 AQ AK rfl (AT 1 rfl (AJ _))))⟩, trivial⟩ rfl (D9 12 39 false _ rfl rfl rfl (decide_eq_false (by simp [leftN])) (AX 63 [Ptr nb3 0] (errV 50 (endN 0 k)) (AZ _ EF rfl) (fun w1 hw1 => end_w nb3 0 ao2 k ca2 w1 (RdA.of hw1 (AT 3 rfl (AJ _)) (by simp))))) ?_
 show DP _ _ _ _ _ _ _ _ [_, _, _, _, _]
 refine B6 ⟨[1, 3, 7, 9, 14], [0, 2, 4, 5, 6, 8, 10, 11, 12, 13, 16], [0, 2, 4, 5, 6, 8, 10, 11, 12, 13], [16], [15]⟩ 15 rfl rfl (by decide +kernel) rfl ⟨⟨_, rfl, B1 12 39 false _ rfl rfl rfl (decide_eq_false (by simp [leftN])) (AM rfl (A5 AQ AK rfl (AT 1 rfl (AJ _))))⟩, trivial⟩ rfl (D9 12 39 false _ rfl rfl rfl (decide_eq_false (by simp [leftN])) (AX 29 [errV 50 (endN 0 k)] (I64 ((endN 0 k:Int))) (AZ _ Tryd.call29 rfl) (fun w1 hw1 => errNum_w (endN 0 k) w1))) ?_
 show DP _ _ _ _ _ _ _ _ [_, _, _, _, _]
 refine C5 ⟨[1, 3, 7, 9, 14, 15], [0, 2, 4, 5, 6, 8, 10, 11, 12, 13, 16], [0, 2, 4, 5, 6, 8, 10, 11, 12, 13], [16], [17]⟩ 17 _ rfl rfl (by decide +kernel) rfl ⟨⟨_, rfl, B1 12 39 false _ rfl rfl rfl (decide_eq_false (by simp [leftN])) (AM rfl (A5 AQ AK rfl (AT 1 rfl (AJ _))))⟩, trivial⟩ rfl (D9 12 39 false _ rfl rfl rfl (decide_eq_false (by simp [leftN])) (AX 64 [.agg #[.slice ao1 k ca1, I64 0]] (I64 ((endN 0 k:Int))) (AZ _ Tryd.call64 rfl) (fun w1 hw1 => rend_w ao1 k ca1 0 w1 ))) ?_
 rintro v1 L1 ⟨rfl, rfl⟩
 refine ⟨[(18, .bool (decide (((endN 0 k:Int)) ≠ ((endN 0 k:Int))))), (19, .bool (decide (((endN 0 k:Int)) ≠ ((endN 0 k:Int)))))], ?_⟩
 show DP _ _ _ _ _ _ _ _ [_, _, _, _, _]
 refine C2 ⟨[1, 3, 7, 9, 14, 15, 17], [0, 2, 4, 5, 6, 8, 10, 11, 12, 13, 16, 18, 19], [0, 2, 4, 5, 6, 8, 10, 11, 12, 13, 16], [18, 19], []⟩ rfl rfl (by decide +kernel) rfl ⟨⟨_, rfl, B1 12 39 false _ rfl rfl rfl (decide_eq_false (by simp [leftN])) (AP rfl rfl fun _ => CE _ _)⟩, ⟨_, rfl, AI rfl (BF _ rfl (decide_eq_false (by simp [leftN])) rfl)⟩, trivial⟩ ?_
 refine CB (F' := [(46, .bool (decide (((endN 0 k:Int)) ≠ ((endN 0 k:Int))))), (0, .slice ax n cx), (2, .bool false), (4, Ptr nb2 0), (6, Ptr nb5 0)]) (by kernel_rfl) ?_
 refine AC (BZ _ rfl (by simp) ?_)
 refine BL (AC (AG ?_))
 by_cases hk0 : k = 0
 ·
  refine AB (AA _ (AE rfl) rfl ?_)
  have hz3 : (z).length = n := hz
  refine A2 (B3 65 [.slice ax n cx] _ (AZ _ Tryd.call65 rfl) (fun w1 hw1 => parse3Z_w ax n cx z w1 ha hz (by omega) (by omega) (by omega) (hr.at (M' := []) hw1 (by simp)) hok (by omega))) rfl ?_
  rintro v1 L1 ⟨_, ⟨rfl, rfl⟩, rfl⟩
  show JL _ _ _ _ ((49, .tuple #[.agg ([U64 (vQ z 0 8), U64 (vQ z 8 8), I64 (((vQ z 16 1).toNat:Int)), .slice none 0 0, .slice none 0 0, U64 (vQ z 17 8)] ++ cu8 (bQ z 25 16)).toArray, .nilIface]) :: _) [_, _, _, _, _]
  refine AA _ (AE rfl) rfl ?_
  refine AA _ (BB rfl rfl) rfl ?_
  refine AA _ (BB rfl rfl) rfl ?_
  refine A2 (BN _ ([U64 0, U64 0, I64 0, .slice none 0 0, .slice none 0 0, U64 0] ++ cu8 (zr8 16)) CG (by kernel_rfl)) rfl ?_
  rintro v1 L1 ⟨nb6, hnb6, rfl, rfl⟩
  show JL _ _ _ _ ((7, Ptr nb6 0) :: _) [_, _, _, _, _, ⟨nb6, [U64 0, U64 0, I64 0, .slice none 0 0, .slice none 0 0, U64 0] ++ cu8 (zr8 16), 29, (0, 0)⟩]
  refine AY (AU 5 nb6 22 ([U64 0, U64 0, I64 0, .slice none 0 0, .slice none 0 0, U64 0] ++ cu8 (zr8 16)) 29 ([U64 (vQ z 0 8), U64 (vQ z 8 8), I64 (((vQ z 16 1).toNat:Int)), .slice none 0 0, .slice none 0 0, U64 (vQ z 17 8)] ++ cu8 (bQ z 25 16)) rfl rfl rfl A3 (by simp [(BJ _ _ _)]) (CK (by simp [Value.oneCell']) CF) (by simp [(AN 16)]) (A0 (by simp [(AN 16), (BJ _ _ _)]))) rfl ?_
  show JL _ _ _ _ _ [_, _, _, _, _, ⟨nb6, [U64 (vQ z 0 8), U64 (vQ z 8 8), I64 (((vQ z 16 1).toNat:Int)), .slice none 0 0, .slice none 0 0, U64 (vQ z 17 8)] ++ cu8 (bQ z 25 16), 29, (0, 0)⟩]
  refine AA _ (AH rfl) rfl ?_
  refine AL (AC (AG (AG (AB (AA (.agg #[.slice ao1 k ca1, I64 0]) (AM rfl (A5 AQ AK rfl (AT 1 rfl (AJ _)))) rfl ?_)))))
  refine AY (AX 64 [.agg #[.slice ao1 k ca1, I64 0]] (I64 ((endN 0 k:Int))) (AZ _ Tryd.call64 rfl) (fun w1 hw1 => rend_w ao1 k ca1 0 w1 )) rfl ?_
  show JL _ _ _ _ ((53, I64 ((endN 0 k:Int))) :: _) [_, _, _, _, _, _]
  refine AA _ (AH rfl) rfl ?_
  refine AL (AC (AG (AB (AA _ (AE rfl) rfl ?_))))
  refine AA (.bool (decide (((endN 0 k:Int)) ≠ (0:Int)))) (AP rfl rfl fun _ => CE _ _) rfl ?_
  refine AL (AC (BZ _ rfl (decide_eq_false (by rw [hk0]; decide)) ?_))
  refine BL (AC (AG (AB (AA (.agg ([U64 (vQ z 0 8), U64 (vQ z 8 8), I64 (((vQ z 16 1).toNat:Int)), .slice none 0 0, .slice none 0 0, U64 (vQ z 17 8)] ++ cu8 (bQ z 25 16)).toArray) (AM rfl (A5 BW A3 (by simp [(BJ _ _ _)]) (AT 5 rfl (AJ _)))) rfl ?_))))
  refine A2 (B3 47 [.agg ([U64 (vQ z 0 8), U64 (vQ z 8 8), I64 (((vQ z 16 1).toNat:Int)), .slice none 0 0, .slice none 0 0, U64 (vQ z 17 8)] ++ cu8 (bQ z 25 16)).toArray] _ (AZ _ Tryd.call47 rfl) (fun w1 hw1 => put13_c (vQ z 0 8) (vQ z 8 8) ((vQ z 16 1).toNat) none 0 0 ([] : List UInt64) none 0 0 ([] : List SealR) (vQ z 17 8) (bQ z 25 16) 25 w1 rfl (by omega) (by omega) (by omega) RdV.nil rfl (by omega) (by omega) (by omega) RdV.nil (BJ _ _ _) hok.2.2 (.inr (.inr (by rw [hok.1]; rfl))) (by omega) (by unfold tktN; rw [if_pos (by rw [hok.1]; rfl)]) (by omega))) rfl ?_
  rintro v1 L1 ⟨_, ⟨nb7, sp2, cp2, rfl, rfl, hc4, hc5, hc6⟩, rfl⟩
  show JL _ _ _ _ ((67, .tuple #[Slc nb7 0 41 cp2, .nilIface]) :: _) [_, _, _, _, _, _, ⟨nb7, cu8 ((tktT (vQ z 0 8) (vQ z 8 8) ((vQ z 16 1).toNat) ([] : List UInt64) ([] : List SealR) (vQ z 17 8)) ++ (bQ z 25 16)) ++ sp2, 5, (0, 0)⟩]
  refine AA _ (AE rfl) rfl ?_
  refine AA _ (BB rfl rfl) rfl ?_
  refine AA _ (BB rfl rfl) rfl ?_
  refine AA _ (AH rfl) rfl ?_
  refine AA _ (AH rfl) rfl ?_
  refine AL (AC (AG (AB (AA _ (AE rfl) rfl ?_))))
  refine AA (.bool true) (DT _ _ _ rfl rfl (fun _ => FB ..) fun _ => ES BT) rfl ?_
  refine AA _ (AE rfl) rfl ?_
  refine AS 2 72 true _ (.agg ([U64 (vQ z 0 8), U64 (vQ z 8 8), I64 (((vQ z 16 1).toNat:Int)), .slice none 0 0, .slice none 0 0, U64 (vQ z 17 8)] ++ cu8 (bQ z 25 16)).toArray) rfl rfl rfl (AM rfl (A5 BW A3 (by simp [(BJ _ _ _)]) (AT 5 rfl (AJ _)))) rfl ?_
  refine AS 2 72 true _ (.agg ([U64 (vQ z 0 8), U64 (vQ z 8 8), I64 (((vQ z 16 1).toNat:Int)), .slice none 0 0, .slice none 0 0, U64 (vQ z 17 8)] ++ cu8 (bQ z 25 16)).toArray) rfl rfl rfl (AM rfl (A5 BW A3 (by simp [(BJ _ _ _)]) (AT 4 rfl (AJ _)))) rfl ?_
  refine DZ 2 72 true _ rfl rfl rfl (AX 49 [.agg ([U64 (vQ z 0 8), U64 (vQ z 8 8), I64 (((vQ z 16 1).toNat:Int)), .slice none 0 0, .slice none 0 0, U64 (vQ z 17 8)] ++ cu8 (bQ z 25 16)).toArray, .agg ([U64 (vQ z 0 8), U64 (vQ z 8 8), I64 (((vQ z 16 1).toNat:Int)), .slice none 0 0, .slice none 0 0, U64 (vQ z 17 8)] ++ cu8 (bQ z 25 16)).toArray] (.bool (decide ((vQ z 0 8) = (vQ z 0 8) ∧ (vQ z 8 8) = (vQ z 8 8) ∧ (bQ z 25 16) = (bQ z 25 16) ∧ (((vQ z 16 1).toNat:Int)) = (((vQ z 16 1).toNat:Int)) ∧ (vQ z 17 8) = (vQ z 17 8) ∧ ([] : List UInt64) = ([] : List UInt64) ∧ ([] : List SealR) = ([] : List SealR)))) (AZ _ Tryd.call49 rfl) (fun w1 hw1 => same13_c (vQ z 0 8) (vQ z 8 8) (((vQ z 16 1).toNat:Int)) none 0 0 ([] : List UInt64) none 0 0 ([] : List SealR) (vQ z 17 8) (bQ z 25 16) (vQ z 0 8) (vQ z 8 8) (((vQ z 16 1).toNat:Int)) none 0 0 ([] : List UInt64) none 0 0 ([] : List SealR) (vQ z 17 8) (bQ z 25 16) w1 rfl (by omega) (by omega) (by omega) RdV.nil rfl (by omega) (by omega) (by omega) RdV.nil (BJ _ _ _) rfl (by omega) (by omega) (by omega) RdV.nil rfl (by omega) (by omega) (by omega) RdV.nil (BJ _ _ _))) rfl ?_
  rintro v1 L1 ⟨rfl, rfl⟩
  show JL _ _ _ _ ((75, .bool (decide ((vQ z 0 8) = (vQ z 0 8) ∧ (vQ z 8 8) = (vQ z 8 8) ∧ (bQ z 25 16) = (bQ z 25 16) ∧ (((vQ z 16 1).toNat:Int)) = (((vQ z 16 1).toNat:Int)) ∧ (vQ z 17 8) = (vQ z 17 8) ∧ ([] : List UInt64) = ([] : List UInt64) ∧ ([] : List SealR) = ([] : List SealR)))) :: _) [_, _, _, _, _, _, _]
  refine AA _ (BO _ rfl rfl rfl) rfl ?_
  refine AA _ (AE rfl) rfl ?_
  refine AS 7 77 true _ _ rfl rfl (decide_eq_true ⟨rfl, rfl, rfl, rfl, rfl, rfl, rfl⟩) (AE rfl) rfl ?_
  refine AS 7 77 true _ (.bool true) rfl rfl (decide_eq_true ⟨rfl, rfl, rfl, rfl, rfl, rfl, rfl⟩) (DT _ _ _ rfl rfl (fun _ => FB ..) fun _ => ES BT) rfl ?_
  refine AA _ (BO _ rfl (decide_eq_true ⟨rfl, rfl, rfl, rfl, rfl, rfl, rfl⟩) rfl) rfl ?_
  refine AA _ (AE rfl) rfl ?_
  refine AS 11 81 true _ _ rfl rfl rfl (AE rfl) rfl ?_
  refine AS 11 81 true _ _ rfl rfl rfl (AE rfl) rfl ?_
  refine DZ 11 81 true _ rfl rfl rfl (AX 24 [Slc nb7 0 41 cp2, .slice ax n cx] (.bool (decide (((tktT (vQ z 0 8) (vQ z 8 8) ((vQ z 16 1).toNat) ([] : List UInt64) ([] : List SealR) (vQ z 17 8)) ++ (bQ z 25 16)) = z))) (AZ _ Tryd.call24 rfl) (fun w1 hw1 => bytes_c (some ⟨nb7, 0, none⟩) ax 41 n cp2 cx ((tktT (vQ z 0 8) (vQ z 8 8) ((vQ z 16 1).toNat) ([] : List UInt64) ([] : List SealR) (vQ z 17 8)) ++ (bQ z 25 16)) z w1 (show ((tktT (vQ z 0 8) (vQ z 8 8) ((vQ z 16 1).toNat) ([] : List UInt64) ([] : List SealR) (vQ z 17 8)) ++ (bQ z 25 16)).length = 41 from (by rw [List.length_append, (show (tktT (vQ z 0 8) (vQ z 8 8) ((vQ z 16 1).toNat) ([] : List UInt64) ([] : List SealR) (vQ z 17 8)).length = 25 from (tktT_len rfl rfl).trans (by unfold tktN; rw [if_pos (by rw [hok.1]; rfl)])), (BJ _ _ _)])) hz (RdB.of hw1 (AT 6 rfl (A8 (AJ _))) (by simp)) (hr.at (M' := []) hw1 (by simp)))) rfl ?_
  rintro v1 L1 ⟨rfl, rfl⟩
  show JL _ _ _ _ ((84, .bool (decide (((tktT (vQ z 0 8) (vQ z 8 8) ((vQ z 16 1).toNat) ([] : List UInt64) ([] : List SealR) (vQ z 17 8)) ++ (bQ z 25 16)) = z))) :: _) [_, _, _, _, _, _, _]
  refine AA _ (BO _ rfl rfl rfl) rfl ?_
  refine AA _ (AH rfl) rfl ?_
  refine AL (AC (BH (B5 [false, false, false, false, false, false, false] ?_)))
  show JQ _ _ _ _ []
  refine BI (.bool (decide (((tktT (vQ z 0 8) (vQ z 8 8) ((vQ z 16 1).toNat) ([] : List UInt64) ([] : List SealR) (vQ z 17 8)) ++ (bQ z 25 16)) = z))) (res1 Tryd.results11 (BU rfl)) fun w1 hw1 => ?_
  exact ⟨_, [], rfl, ⟨congrArg Value.bool (decide_eq_true (put3_q (by omega) hok.1)), rfl⟩, hw1.sub (by simp) (by simp)⟩
 ·
  refine AB (AA _ (AE rfl) rfl ?_)
  have hz4 : (z).length = n := hz
  refine AY (AX 65 [.slice ax n cx] (.tuple #[.agg ([U64 0, U64 0, I64 0, .slice none 0 0, .slice none 0 0, U64 0] ++ cu8 (zr8 16)).toArray, errV 50 2]) (AZ _ Tryd.call65 rfl) (fun w1 hw1 => parseN_w ax n cx z k w1 ha hz (by omega) (by omega) (by omega) (hr.at (M' := []) hw1 (by simp)) (.inr (.inr ⟨hok, hk, hk0⟩)))) rfl ?_
  show JL _ _ _ _ ((49, .tuple #[.agg ([U64 0, U64 0, I64 0, .slice none 0 0, .slice none 0 0, U64 0] ++ cu8 (zr8 16)).toArray, errV 50 2]) :: _) [_, _, _, _, _]
  refine AA _ (AE rfl) rfl ?_
  refine AA _ (BB rfl rfl) rfl ?_
  refine AA _ (BB rfl rfl) rfl ?_
  refine A2 (BN _ ([U64 0, U64 0, I64 0, .slice none 0 0, .slice none 0 0, U64 0] ++ cu8 (zr8 16)) CG (by kernel_rfl)) rfl ?_
  rintro v1 L1 ⟨nb8, hnb8, rfl, rfl⟩
  show JL _ _ _ _ ((7, Ptr nb8 0) :: _) [_, _, _, _, _, ⟨nb8, [U64 0, U64 0, I64 0, .slice none 0 0, .slice none 0 0, U64 0] ++ cu8 (zr8 16), 29, (0, 0)⟩]
  refine AY (AU 5 nb8 22 ([U64 0, U64 0, I64 0, .slice none 0 0, .slice none 0 0, U64 0] ++ cu8 (zr8 16)) 29 ([U64 0, U64 0, I64 0, .slice none 0 0, .slice none 0 0, U64 0] ++ cu8 (zr8 16)) rfl rfl rfl A3 (by simp [(AN 16)]) (CK (by simp [Value.oneCell']) CF) (by simp [(AN 16)]) (A0 (by simp [(AN 16), (AN 16)]))) rfl ?_
  show JL _ _ _ _ _ [_, _, _, _, _, ⟨nb8, [U64 0, U64 0, I64 0, .slice none 0 0, .slice none 0 0, U64 0] ++ cu8 (zr8 16), 29, (0, 0)⟩]
  refine AA _ (AH rfl) rfl ?_
  refine AL (AC (AG (AG (AB (AA (.agg #[.slice ao1 k ca1, I64 0]) (AM rfl (A5 AQ AK rfl (AT 1 rfl (AJ _)))) rfl ?_)))))
  refine AY (AX 64 [.agg #[.slice ao1 k ca1, I64 0]] (I64 ((endN 0 k:Int))) (AZ _ Tryd.call64 rfl) (fun w1 hw1 => rend_w ao1 k ca1 0 w1 )) rfl ?_
  show JL _ _ _ _ ((53, I64 ((endN 0 k:Int))) :: _) [_, _, _, _, _, _]
  refine AA _ (AH rfl) rfl ?_
  refine AL (AC (AG (AB (AA _ (AE rfl) rfl ?_))))
  refine AA (.bool (decide (((endN 0 k:Int)) ≠ (0:Int)))) (AP rfl rfl fun _ => CE _ _) rfl ?_
  refine AL (AC (CM _ rfl (decide_eq_true (by rw [endN_k hk0]; decide)) ?_))
  refine AG (AB (AA _ (AE rfl) rfl ?_))
  refine AY (AX 29 [errV 50 2] (I64 2) (AZ _ Tryd.call29 rfl) (fun w1 hw1 => errNum_w 2 w1)) rfl ?_
  show JL _ _ _ _ ((57, I64 2) :: _) [_, _, _, _, _, _]
  refine AA _ (AE rfl) rfl ?_
  refine AA (.bool (decide (((2:Int)) = ((endN 0 k:Int))))) (AP rfl rfl fun _ => CA _ _) rfl ?_
  refine AA _ (AE rfl) rfl ?_
  refine AS 4 60 true _ (.agg ([U64 0, U64 0, I64 0, .slice none 0 0, .slice none 0 0, U64 0] ++ cu8 (zr8 16)).toArray) rfl rfl (decide_eq_true (by rw [endN_k hk0]; rfl)) (AM rfl (A5 BW A3 (by simp [(AN 16)]) (AT 5 rfl (AJ _)))) rfl ?_
  refine AS 4 60 true _ (.agg ([U64 0, U64 0, I64 0, .slice none 0 0, .slice none 0 0, U64 0] ++ cu8 (zr8 16)).toArray) rfl rfl (decide_eq_true (by rw [endN_k hk0]; rfl)) (DG [] _ rfl (fun _ => by kernel_rfl)) rfl ?_
  refine DZ 4 60 true _ rfl rfl (decide_eq_true (by rw [endN_k hk0]; rfl)) (AX 49 [.agg ([U64 0, U64 0, I64 0, .slice none 0 0, .slice none 0 0, U64 0] ++ cu8 (zr8 16)).toArray, .agg ([U64 0, U64 0, I64 0, .slice none 0 0, .slice none 0 0, U64 0] ++ cu8 (zr8 16)).toArray] (.bool (decide ((0:UInt64) = (0:UInt64) ∧ (0:UInt64) = (0:UInt64) ∧ (zr8 16) = (zr8 16) ∧ (0:Int) = (0:Int) ∧ (0:UInt64) = (0:UInt64) ∧ ([] : List UInt64) = ([] : List UInt64) ∧ ([] : List SealR) = ([] : List SealR)))) (AZ _ Tryd.call49 rfl) (fun w1 hw1 => same13_c (0:UInt64) (0:UInt64) (0:Int) none 0 0 ([] : List UInt64) none 0 0 ([] : List SealR) (0:UInt64) (zr8 16) (0:UInt64) (0:UInt64) (0:Int) none 0 0 ([] : List UInt64) none 0 0 ([] : List SealR) (0:UInt64) (zr8 16) w1 rfl (by omega) (by omega) (by omega) RdV.nil rfl (by omega) (by omega) (by omega) RdV.nil (AN 16) rfl (by omega) (by omega) (by omega) RdV.nil rfl (by omega) (by omega) (by omega) RdV.nil (AN 16))) rfl ?_
  rintro v1 L1 ⟨rfl, rfl⟩
  show JL _ _ _ _ ((63, .bool (decide ((0:UInt64) = (0:UInt64) ∧ (0:UInt64) = (0:UInt64) ∧ (zr8 16) = (zr8 16) ∧ (0:Int) = (0:Int) ∧ (0:UInt64) = (0:UInt64) ∧ ([] : List UInt64) = ([] : List UInt64) ∧ ([] : List SealR) = ([] : List SealR)))) :: _) [_, _, _, _, _, _]
  refine AA _ (BO _ rfl (decide_eq_true (by rw [endN_k hk0]; rfl)) rfl) rfl ?_
  refine AA _ (AH rfl) rfl ?_
  refine AL (AC (BH (A4 (B5 [false, false, false, false, false, false] ?_))))
  show JQ _ _ _ _ []
  refine BI (.bool (decide ((0:UInt64) = (0:UInt64) ∧ (0:UInt64) = (0:UInt64) ∧ (zr8 16) = (zr8 16) ∧ (0:Int) = (0:Int) ∧ (0:UInt64) = (0:UInt64) ∧ ([] : List UInt64) = ([] : List UInt64) ∧ ([] : List SealR) = ([] : List SealR)))) (res1 Tryd.results11 (BU rfl)) fun w1 hw1 => ?_
  exact ⟨_, [], rfl, ⟨congrArg Value.bool (decide_eq_true ⟨rfl, rfl, rfl, rfl, rfl, rfl, rfl⟩), rfl⟩, hw1.sub (by simp) (by simp)⟩
set_option maxHeartbeats 4000000 in
theorem tp2_c (ax : Option Addr) (n cx : Nat) (z : List UInt8) (k : Nat)  (w : World) (ha : ax.isNone = false) (hz : z.length = n) (hn : n ≤ 20000) (hc : n ≤ cx) (hcm : cx ≤ maxLen) (hr : RdB w [] ax z) (hok : Ok2 z) (hk : 4*mQ z + 34 + k = n) (hG : GLs w)  : Calls Tryd.prog 11 #[.slice ax n cx] w (Post w [] (fun v L => v = .bool true ∧ L = [])) := by
 have hmx : maxLen = 9223372036854775807 := rfl
 have hk9 := vQ_lt1 z 17
 have hmQ := mQ_eq z
 refine enter w [] 86 [] [.slice ax n cx] Tryd.func11 rfl rfl (by simp) (BY (by simp) (by simp) (by simp)) ?_
 show JC _ _ _ [(0, .slice ax n cx)] _
 refine AG (AB (AA _ (AH rfl) rfl ?_))
 refine AL (AC (AG (AG (AB (A2 (AX 43 [] (.bool true) (AZ _ Tryd.call43 rfl) (fun w1 hw1 => alive13_c  w1 (hG.at hw1))) rfl ?_)))))
 rintro v1 L1 ⟨rfl, rfl⟩
 show JL _ _ _ _ ((12, .bool true) :: _) []
 refine AA (.bool (!true)) (FD rfl) rfl ?_
 refine AL (AC (BZ _ rfl rfl ?_))
 refine BL (AC (AG (AG (AB (AA _ (AE rfl) rfl ?_)))))
 refine AA (I64 n) (DS AR rfl) rfl ?_
 refine AA (.bool (decide ((20000:Int) < ((n:Int))))) (AP rfl rfl fun _ => EL _ _) rfl ?_
 refine AL (AC (BZ _ rfl (decide_eq_false (by omega)) ?_))
 refine BL (AC (AG (AB (AA _ (AE rfl) rfl ?_))))
 refine AA (.agg #[.slice ax n cx, I64 0]) (DG [(0, .slice ax n cx)] _ rfl (fun _ => bld107_0 rfl)) rfl ?_
 have hz1 : (z).length = n := hz
 refine A2 (B3 58 [.agg #[.slice ax n cx, I64 0]] _ (AZ _ Tryd.call58 rfl) (fun w1 hw1 => rread2_w ax n cx z w1 hz (by omega) (by omega) (by omega) (hr.at (M' := []) hw1 (by simp)) k hok hk)) rfl ?_
 rintro v1 L1 ⟨_, ⟨ao1, ca1, nb1, sp1, cp1, rfl, rfl, hc1, hc2, hc3⟩, rfl⟩
 show JL _ _ _ _ ((20, .tuple #[.agg ([U64 (vQ z 0 8), U64 (vQ z 8 8), I64 (((vQ z 16 1).toNat:Int)), Slc nb1 0 (mQ z) cp1, .slice none 0 0, U64 0] ++ cu8 (bQ z (4*mQ z + 18) 16)).toArray, .agg #[.slice ao1 k ca1, I64 0]]) :: _) [⟨nb1, cu64 (ixQ z 18 (mQ z)) ++ sp1, 22, (0, 0)⟩]
 refine AA _ (AE rfl) rfl ?_
 refine AA _ (BB rfl rfl) rfl ?_
 refine AA _ (BB rfl rfl) rfl ?_
 refine A2 (BN _ ([U64 0, U64 0, I64 0, .slice none 0 0, .slice none 0 0, U64 0] ++ cu8 (zr8 16)) Tryd.zeroValue38 (by kernel_rfl)) rfl ?_
 rintro v1 L1 ⟨nb2, hnb2, rfl, rfl⟩
 show JL _ _ _ _ ((3, Ptr nb2 0) :: _) [_, ⟨nb2, [U64 0, U64 0, I64 0, .slice none 0 0, .slice none 0 0, U64 0] ++ cu8 (zr8 16), 38, (0, 0)⟩]
 refine A2 (BN _ ([.slice none 0 0, I64 0]) C7 (by kernel_rfl)) rfl ?_
 rintro v1 L1 ⟨nb3, hnb3, rfl, rfl⟩
 show JL _ _ _ _ ((4, Ptr nb3 0) :: _) [_, _, ⟨nb3, [.slice none 0 0, I64 0], 107, (0, 0)⟩]
 refine AY (AU 1 nb2 22 ([U64 0, U64 0, I64 0, .slice none 0 0, .slice none 0 0, U64 0] ++ cu8 (zr8 16)) 38 ([U64 (vQ z 0 8), U64 (vQ z 8 8), I64 (((vQ z 16 1).toNat:Int)), Slc nb1 0 (mQ z) cp1, .slice none 0 0, U64 0] ++ cu8 (bQ z (4*mQ z + 18) 16)) rfl rfl rfl B7 (by simp [(BJ _ _ _)]) (CK (by simp [Value.oneCell']) CF) (by simp [(AN 16)]) (A0 (by simp [(AN 16), (BJ _ _ _)]))) rfl ?_
 show JL _ _ _ _ _ [_, ⟨nb2, [U64 (vQ z 0 8), U64 (vQ z 8 8), I64 (((vQ z 16 1).toNat:Int)), Slc nb1 0 (mQ z) cp1, .slice none 0 0, U64 0] ++ cu8 (bQ z (4*mQ z + 18) 16), 38, (0, 0)⟩, _]
 refine AY (AU 2 nb3 2 ([.slice none 0 0, I64 0]) 107 ([.slice ao1 k ca1, I64 0]) rfl rfl rfl AK rfl (by simp [Value.oneCell']) (Nat.le_of_ble_eq_true rfl) (A0 (by simp []))) rfl ?_
 show JL _ _ _ _ _ [_, _, ⟨nb3, [.slice ao1 k ca1, I64 0], 107, (0, 0)⟩]
 refine AL (AC (AG (AB (AA _ (AE rfl) rfl ?_))))
 refine A2 (B3 59 [.slice ax n cx] _ (AZ _ Tryd.call59 rfl) (fun w1 hw1 => from_c ax n cx z w1 ha hz (by omega) (hr.at (M' := []) hw1 (by simp)))) rfl ?_
 rintro v1 L1 ⟨_, ⟨nb4, nb5, sp2, cp2, rfl, rfl, hc4, hc5, hc6⟩, rfl⟩
 show JL _ _ _ _ ((24, Ptr nb4 0) :: _) [_, _, _, ⟨nb4, [.nilIface, Slc nb5 0 n cp2], 204, (0, 0)⟩, ⟨nb5, cu8 z ++ sp2, 5, (0, 0)⟩]
 refine AA _ (AH rfl) rfl ?_
 refine AL (AC (AG (AB (AA _ (AE rfl) rfl ?_))))
 have hz2 : (z).length = n := hz
 refine A2 (DE 60 _ [false, false, false, true, false] [nb4] _ (AZ [Ptr nb4 0] Tryd.call60 rfl) rfl (fun w1 hw1 => tread2_w nb4 (some ⟨nb5, 0, none⟩) n cp2 z w1 (hw1.ent _ (List.mem_of_getElem? (i := 3) rfl)) hz (by omega) (by omega) (by omega) (RdB.of hw1 (AT 4 rfl (A8 (AJ _))) (by intro _; simp only [List.mem_cons, List.not_mem_nil, or_false, not_or]; exact hw1.ne (i := 4) (j := 3) rfl rfl (by decide))) k hok hk)) rfl ?_
 rintro v1 L1 ⟨_, ⟨ao2, ca2, nb6, sp3, cp3, rfl, rfl, hb1, hb2, hc7, hc8, hc9⟩, rfl⟩
 show JL _ _ _ _ ((26, .agg ([U64 (vQ z 0 8), U64 (vQ z 8 8), I64 (((vQ z 16 1).toNat:Int)), Slc nb6 0 (mQ z) cp3, .slice none 0 0, U64 0] ++ cu8 (bQ z (4*mQ z + 18) 16)).toArray) :: _) [_, _, _, _, ⟨nb4, [.nilIface, .slice ao2 k ca2], 204, (0, 0)⟩, ⟨nb6, cu64 (ixQ z 18 (mQ z)) ++ sp3, 22, (0, 0)⟩]
 refine A2 (BN _ ([U64 0, U64 0, I64 0, .slice none 0 0, .slice none 0 0, U64 0] ++ cu8 (zr8 16)) CG (by kernel_rfl)) rfl ?_
 rintro v1 L1 ⟨nb7, hnb7, rfl, rfl⟩
 show JL _ _ _ _ ((6, Ptr nb7 0) :: _) [_, _, _, _, _, _, ⟨nb7, [U64 0, U64 0, I64 0, .slice none 0 0, .slice none 0 0, U64 0] ++ cu8 (zr8 16), 29, (0, 0)⟩]
 refine AY (AU 6 nb7 22 ([U64 0, U64 0, I64 0, .slice none 0 0, .slice none 0 0, U64 0] ++ cu8 (zr8 16)) 29 ([U64 (vQ z 0 8), U64 (vQ z 8 8), I64 (((vQ z 16 1).toNat:Int)), Slc nb6 0 (mQ z) cp3, .slice none 0 0, U64 0] ++ cu8 (bQ z (4*mQ z + 18) 16)) rfl rfl rfl A3 (by simp [(BJ _ _ _)]) (CK (by simp [Value.oneCell']) CF) (by simp [(AN 16)]) (A0 (by simp [(AN 16), (BJ _ _ _)]))) rfl ?_
 show JL _ _ _ _ _ [_, _, _, _, _, _, ⟨nb7, [U64 (vQ z 0 8), U64 (vQ z 8 8), I64 (((vQ z 16 1).toNat:Int)), Slc nb6 0 (mQ z) cp3, .slice none 0 0, U64 0] ++ cu8 (bQ z (4*mQ z + 18) 16), 29, (0, 0)⟩]
 refine AL (AC (AG (AG (CH 86 8 [(0, .agg ([U64 (vQ z 0 8), U64 (vQ z 8 8), I64 (((vQ z 16 1).toNat:Int)), Slc nb6 0 (mQ z) cp3, .slice none 0 0, U64 0] ++ cu8 (bQ z (4*mQ z + 18) 16)).toArray), (2, .agg ([U64 (vQ z 0 8), U64 (vQ z 8 8), I64 (((vQ z 16 1).toNat:Int)), Slc nb1 0 (mQ z) cp1, .slice none 0 0, U64 0] ++ cu8 (bQ z (4*mQ z + 18) 16)).toArray)] BP rfl (by decide +kernel) ?_))))
 refine B6 ⟨[], [0, 2], [], [0, 2], [1]⟩ 1 rfl rfl (by decide +kernel) rfl ⟨⟨_, rfl, AI rfl (AM rfl (A5 BW A3 (by simp [(BJ _ _ _)]) (AT 6 rfl (AJ _))))⟩, ⟨_, rfl, AI rfl (AM rfl (A5 DJ B7 (by simp [(BJ _ _ _)]) (AT 1 rfl (AJ _))))⟩, trivial⟩ rfl (A7 rfl (AX 44 [.agg ([U64 (vQ z 0 8), U64 (vQ z 8 8), I64 (((vQ z 16 1).toNat:Int)), Slc nb6 0 (mQ z) cp3, .slice none 0 0, U64 0] ++ cu8 (bQ z (4*mQ z + 18) 16)).toArray] (.agg ([U64 (vQ z 0 8), U64 (vQ z 8 8), I64 (((vQ z 16 1).toNat:Int)), Slc nb6 0 (mQ z) cp3, .slice none 0 0, U64 0] ++ cu8 (bQ z (4*mQ z + 18) 16)).toArray) (AZ _ Tryd.call44 rfl) (fun w1 hw1 => docTZ_c (vQ z 0 8) (vQ z 8 8) (((vQ z 16 1).toNat:Int)) (some ⟨nb6, 0, none⟩) (mQ z) cp3 (ixQ z 18 (mQ z)) none 0 (0:UInt64) (bQ z (4*mQ z + 18) 16) w1 (FF _ _ _) (by omega) (by omega) (by omega) (RdV.of hw1 (AT 5 rfl (A8 (AJ _)))) (by omega) (fun _ => rfl) (BJ _ _ _)))) ?_
 show DP _ _ _ _ _ _ _ _ [_, _, _, _, _, _, _]
 refine C5 ⟨[1], [0, 2], [0], [2], [3]⟩ 3 _ rfl rfl (by decide +kernel) rfl ⟨⟨_, rfl, AI rfl (AM rfl (A5 DJ B7 (by simp [(BJ _ _ _)]) (AT 1 rfl (AJ _))))⟩, trivial⟩ rfl (A7 rfl (AX 51 [.agg ([U64 (vQ z 0 8), U64 (vQ z 8 8), I64 (((vQ z 16 1).toNat:Int)), Slc nb6 0 (mQ z) cp3, .slice none 0 0, U64 0] ++ cu8 (bQ z (4*mQ z + 18) 16)).toArray, .agg ([U64 (vQ z 0 8), U64 (vQ z 8 8), I64 (((vQ z 16 1).toNat:Int)), Slc nb1 0 (mQ z) cp1, .slice none 0 0, U64 0] ++ cu8 (bQ z (4*mQ z + 18) 16)).toArray] (.bool (decide ((vQ z 0 8) = (vQ z 0 8) ∧ (vQ z 8 8) = (vQ z 8 8) ∧ (bQ z (4*mQ z + 18) 16) = (bQ z (4*mQ z + 18) 16) ∧ (((vQ z 16 1).toNat:Int)) = (((vQ z 16 1).toNat:Int)) ∧ (0:UInt64) = (0:UInt64) ∧ (ixQ z 18 (mQ z)) = (ixQ z 18 (mQ z)) ∧ ([] : List SealR) = ([] : List SealR)))) (AZ _ Tryd.call51 rfl) (fun w1 hw1 => rsame13_c (vQ z 0 8) (vQ z 8 8) (((vQ z 16 1).toNat:Int)) (some ⟨nb6, 0, none⟩) (mQ z) cp3 (ixQ z 18 (mQ z)) none 0 0 ([] : List SealR) (0:UInt64) (bQ z (4*mQ z + 18) 16) (vQ z 0 8) (vQ z 8 8) (((vQ z 16 1).toNat:Int)) (some ⟨nb1, 0, none⟩) (mQ z) cp1 (ixQ z 18 (mQ z)) none 0 0 ([] : List SealR) (0:UInt64) (bQ z (4*mQ z + 18) 16) w1 (FF _ _ _) (by omega) (by omega) (by omega) (RdV.of hw1 (AT 5 rfl (A8 (AJ _)))) rfl (by omega) (by omega) (by omega) RdV.nil (BJ _ _ _) (FF _ _ _) (by omega) (by omega) (by omega) (RdV.of hw1 (AT 0 rfl (A8 (AJ _)))) rfl (by omega) (by omega) (by omega) RdV.nil (BJ _ _ _)))) ?_
 rintro v1 L1 ⟨rfl, rfl⟩
 refine ⟨[(4, .bool (!(decide ((vQ z 0 8) = (vQ z 0 8) ∧ (vQ z 8 8) = (vQ z 8 8) ∧ (bQ z (4*mQ z + 18) 16) = (bQ z (4*mQ z + 18) 16) ∧ (((vQ z 16 1).toNat:Int)) = (((vQ z 16 1).toNat:Int)) ∧ (0:UInt64) = (0:UInt64) ∧ (ixQ z 18 (mQ z)) = (ixQ z 18 (mQ z)) ∧ ([] : List SealR) = ([] : List SealR))))), (5, .bool (!(decide ((vQ z 0 8) = (vQ z 0 8) ∧ (vQ z 8 8) = (vQ z 8 8) ∧ (bQ z (4*mQ z + 18) 16) = (bQ z (4*mQ z + 18) 16) ∧ (((vQ z 16 1).toNat:Int)) = (((vQ z 16 1).toNat:Int)) ∧ (0:UInt64) = (0:UInt64) ∧ (ixQ z 18 (mQ z)) = (ixQ z 18 (mQ z)) ∧ ([] : List SealR) = ([] : List SealR))))), (6, Ptr nb4 0), (8, .agg #[.slice ao1 k ca1, I64 0])], ?_⟩
 show DP _ _ _ _ _ _ _ _ [_, _, _, _, _, _, _]
 refine B6 ⟨[1, 3], [0, 2, 4, 5, 6, 8], [0, 2], [4, 5, 6, 8], [7]⟩ 7 rfl rfl (by decide +kernel) rfl ⟨⟨_, rfl, AI rfl (FD rfl)⟩, BQ rfl rfl rfl, ⟨_, rfl, B1 5 32 false _ rfl rfl rfl (bnotT (decide_eq_true ⟨rfl, rfl, rfl, rfl, rfl, rfl, rfl⟩)) (AE rfl)⟩, ⟨_, rfl, B1 5 32 false _ rfl rfl rfl (bnotT (decide_eq_true ⟨rfl, rfl, rfl, rfl, rfl, rfl, rfl⟩)) (AM rfl (A5 AQ AK rfl (AT 2 rfl (AJ _))))⟩, trivial⟩ rfl (D9 5 32 false _ rfl rfl rfl (bnotT (decide_eq_true ⟨rfl, rfl, rfl, rfl, rfl, rfl, rfl⟩)) (AX 61 [Ptr nb4 0] (I64 k) (AZ _ EM rfl) (fun w1 hw1 => leftZ_c nb4 0 ao2 k ca2 w1 (RdA.of hw1 (AT 4 rfl (AJ _)) (by simp)) rfl))) ?_
 show DP _ _ _ _ _ _ _ _ [_, _, _, _, _, _, _]
 refine C5 ⟨[1, 3, 7], [0, 2, 4, 5, 6, 8], [0, 2, 4, 5, 6], [8], [9]⟩ 9 _ rfl rfl (by decide +kernel) rfl ⟨⟨_, rfl, B1 5 32 false _ rfl rfl rfl (bnotT (decide_eq_true ⟨rfl, rfl, rfl, rfl, rfl, rfl, rfl⟩)) (AM rfl (A5 AQ AK rfl (AT 2 rfl (AJ _))))⟩, trivial⟩ rfl (D9 5 32 false _ rfl rfl rfl (bnotT (decide_eq_true ⟨rfl, rfl, rfl, rfl, rfl, rfl, rfl⟩)) (AX 62 [.agg #[.slice ao1 k ca1, I64 0]] (I64 ((leftN 0 k:Int))) (AZ _ Tryd.call62 rfl) (fun w1 hw1 => rleft_w ao1 k ca1 0 w1 ))) ?_
 rintro v1 L1 ⟨rfl, rfl⟩
 refine ⟨[(10, .bool (decide (((k:Int)) ≠ ((leftN 0 k:Int))))), (11, .bool (decide (((k:Int)) ≠ ((leftN 0 k:Int))))), (12, .bool (decide (((k:Int)) ≠ ((leftN 0 k:Int))))), (13, Ptr nb4 0), (16, .agg #[.slice ao1 k ca1, I64 0])], ?_⟩
 show DP _ _ _ _ _ _ _ _ [_, _, _, _, _, _, _]
 refine B6 ⟨[1, 3, 7, 9], [0, 2, 4, 5, 6, 8, 10, 11, 12, 13, 16], [0, 2, 4, 5, 6, 8], [10, 11, 12, 13, 16], [14]⟩ 14 rfl rfl (by decide +kernel) rfl ⟨⟨_, rfl, B1 5 32 false _ rfl rfl rfl (bnotT (decide_eq_true ⟨rfl, rfl, rfl, rfl, rfl, rfl, rfl⟩)) (AP rfl rfl fun _ => CE _ _)⟩, ⟨_, rfl, AI rfl (BF _ rfl (bnotT (decide_eq_true ⟨rfl, rfl, rfl, rfl, rfl, rfl, rfl⟩)) rfl)⟩, BQ rfl rfl rfl, ⟨_, rfl, B1 12 39 false _ rfl rfl rfl (decide_eq_false (by simp [leftN])) (AE rfl)⟩, ⟨_, rfl, B1 12 39 false _ rfl rfl rfl (decide_eq_false (by simp [leftN])) (AM rfl (A5 AQ AK rfl (AT 2 rfl (AJ _))))⟩, trivial⟩ rfl (D9 12 39 false _ rfl rfl rfl (decide_eq_false (by simp [leftN])) (AX 63 [Ptr nb4 0] (errV 50 (endN 0 k)) (AZ _ EF rfl) (fun w1 hw1 => end_w nb4 0 ao2 k ca2 w1 (RdA.of hw1 (AT 4 rfl (AJ _)) (by simp))))) ?_
 show DP _ _ _ _ _ _ _ _ [_, _, _, _, _, _, _]
 refine B6 ⟨[1, 3, 7, 9, 14], [0, 2, 4, 5, 6, 8, 10, 11, 12, 13, 16], [0, 2, 4, 5, 6, 8, 10, 11, 12, 13], [16], [15]⟩ 15 rfl rfl (by decide +kernel) rfl ⟨⟨_, rfl, B1 12 39 false _ rfl rfl rfl (decide_eq_false (by simp [leftN])) (AM rfl (A5 AQ AK rfl (AT 2 rfl (AJ _))))⟩, trivial⟩ rfl (D9 12 39 false _ rfl rfl rfl (decide_eq_false (by simp [leftN])) (AX 29 [errV 50 (endN 0 k)] (I64 ((endN 0 k:Int))) (AZ _ Tryd.call29 rfl) (fun w1 hw1 => errNum_w (endN 0 k) w1))) ?_
 show DP _ _ _ _ _ _ _ _ [_, _, _, _, _, _, _]
 refine C5 ⟨[1, 3, 7, 9, 14, 15], [0, 2, 4, 5, 6, 8, 10, 11, 12, 13, 16], [0, 2, 4, 5, 6, 8, 10, 11, 12, 13], [16], [17]⟩ 17 _ rfl rfl (by decide +kernel) rfl ⟨⟨_, rfl, B1 12 39 false _ rfl rfl rfl (decide_eq_false (by simp [leftN])) (AM rfl (A5 AQ AK rfl (AT 2 rfl (AJ _))))⟩, trivial⟩ rfl (D9 12 39 false _ rfl rfl rfl (decide_eq_false (by simp [leftN])) (AX 64 [.agg #[.slice ao1 k ca1, I64 0]] (I64 ((endN 0 k:Int))) (AZ _ Tryd.call64 rfl) (fun w1 hw1 => rend_w ao1 k ca1 0 w1 ))) ?_
 rintro v1 L1 ⟨rfl, rfl⟩
 refine ⟨[(18, .bool (decide (((endN 0 k:Int)) ≠ ((endN 0 k:Int))))), (19, .bool (decide (((endN 0 k:Int)) ≠ ((endN 0 k:Int)))))], ?_⟩
 show DP _ _ _ _ _ _ _ _ [_, _, _, _, _, _, _]
 refine C2 ⟨[1, 3, 7, 9, 14, 15, 17], [0, 2, 4, 5, 6, 8, 10, 11, 12, 13, 16, 18, 19], [0, 2, 4, 5, 6, 8, 10, 11, 12, 13, 16], [18, 19], []⟩ rfl rfl (by decide +kernel) rfl ⟨⟨_, rfl, B1 12 39 false _ rfl rfl rfl (decide_eq_false (by simp [leftN])) (AP rfl rfl fun _ => CE _ _)⟩, ⟨_, rfl, AI rfl (BF _ rfl (decide_eq_false (by simp [leftN])) rfl)⟩, trivial⟩ ?_
 refine CB (F' := [(46, .bool (decide (((endN 0 k:Int)) ≠ ((endN 0 k:Int))))), (0, .slice ax n cx), (2, .bool false), (4, Ptr nb3 0), (6, Ptr nb7 0)]) (by kernel_rfl) ?_
 refine AC (BZ _ rfl (by simp) ?_)
 refine BL (AC (AG ?_))
 by_cases hk0 : k = 0
 ·
  refine AB (AA _ (AE rfl) rfl ?_)
  have hz3 : (z).length = n := hz
  refine A2 (B3 65 [.slice ax n cx] _ (AZ _ Tryd.call65 rfl) (fun w1 hw1 => parse2Z_w ax n cx z w1 ha hz (by omega) (by omega) (by omega) (hr.at (M' := []) hw1 (by simp)) hok (by omega))) rfl ?_
  rintro v1 L1 ⟨_, ⟨nb8, sp4, cp4, rfl, rfl, hc10, hc11, hc12⟩, rfl⟩
  show JL _ _ _ _ ((49, .tuple #[.agg ([U64 (vQ z 0 8), U64 (vQ z 8 8), I64 (((vQ z 16 1).toNat:Int)), Slc nb8 0 (mQ z) cp4, .slice none 0 0, U64 0] ++ cu8 (bQ z (4*mQ z + 18) 16)).toArray, .nilIface]) :: _) [_, _, _, _, _, _, _, ⟨nb8, cu64 (ixQ z 18 (mQ z)) ++ sp4, 22, (0, 0)⟩]
  refine AA _ (AE rfl) rfl ?_
  refine AA _ (BB rfl rfl) rfl ?_
  refine AA _ (BB rfl rfl) rfl ?_
  refine A2 (BN _ ([U64 0, U64 0, I64 0, .slice none 0 0, .slice none 0 0, U64 0] ++ cu8 (zr8 16)) CG (by kernel_rfl)) rfl ?_
  rintro v1 L1 ⟨nb9, hnb9, rfl, rfl⟩
  show JL _ _ _ _ ((7, Ptr nb9 0) :: _) [_, _, _, _, _, _, _, _, ⟨nb9, [U64 0, U64 0, I64 0, .slice none 0 0, .slice none 0 0, U64 0] ++ cu8 (zr8 16), 29, (0, 0)⟩]
  refine AY (AU 8 nb9 22 ([U64 0, U64 0, I64 0, .slice none 0 0, .slice none 0 0, U64 0] ++ cu8 (zr8 16)) 29 ([U64 (vQ z 0 8), U64 (vQ z 8 8), I64 (((vQ z 16 1).toNat:Int)), Slc nb8 0 (mQ z) cp4, .slice none 0 0, U64 0] ++ cu8 (bQ z (4*mQ z + 18) 16)) rfl rfl rfl A3 (by simp [(BJ _ _ _)]) (CK (by simp [Value.oneCell']) CF) (by simp [(AN 16)]) (A0 (by simp [(AN 16), (BJ _ _ _)]))) rfl ?_
  show JL _ _ _ _ _ [_, _, _, _, _, _, _, _, ⟨nb9, [U64 (vQ z 0 8), U64 (vQ z 8 8), I64 (((vQ z 16 1).toNat:Int)), Slc nb8 0 (mQ z) cp4, .slice none 0 0, U64 0] ++ cu8 (bQ z (4*mQ z + 18) 16), 29, (0, 0)⟩]
  refine AA _ (AH rfl) rfl ?_
  refine AL (AC (AG (AG (AB (AA (.agg #[.slice ao1 k ca1, I64 0]) (AM rfl (A5 AQ AK rfl (AT 2 rfl (AJ _)))) rfl ?_)))))
  refine AY (AX 64 [.agg #[.slice ao1 k ca1, I64 0]] (I64 ((endN 0 k:Int))) (AZ _ Tryd.call64 rfl) (fun w1 hw1 => rend_w ao1 k ca1 0 w1 )) rfl ?_
  show JL _ _ _ _ ((53, I64 ((endN 0 k:Int))) :: _) [_, _, _, _, _, _, _, _, _]
  refine AA _ (AH rfl) rfl ?_
  refine AL (AC (AG (AB (AA _ (AE rfl) rfl ?_))))
  refine AA (.bool (decide (((endN 0 k:Int)) ≠ (0:Int)))) (AP rfl rfl fun _ => CE _ _) rfl ?_
  refine AL (AC (BZ _ rfl (decide_eq_false (by rw [hk0]; decide)) ?_))
  refine BL (AC (AG (AB (AA (.agg ([U64 (vQ z 0 8), U64 (vQ z 8 8), I64 (((vQ z 16 1).toNat:Int)), Slc nb8 0 (mQ z) cp4, .slice none 0 0, U64 0] ++ cu8 (bQ z (4*mQ z + 18) 16)).toArray) (AM rfl (A5 BW A3 (by simp [(BJ _ _ _)]) (AT 8 rfl (AJ _)))) rfl ?_))))
  refine A2 (B3 47 [.agg ([U64 (vQ z 0 8), U64 (vQ z 8 8), I64 (((vQ z 16 1).toNat:Int)), Slc nb8 0 (mQ z) cp4, .slice none 0 0, U64 0] ++ cu8 (bQ z (4*mQ z + 18) 16)).toArray] _ (AZ _ Tryd.call47 rfl) (fun w1 hw1 => put13_c (vQ z 0 8) (vQ z 8 8) ((vQ z 16 1).toNat) (some ⟨nb8, 0, none⟩) (mQ z) cp4 (ixQ z 18 (mQ z)) none 0 0 ([] : List SealR) (0:UInt64) (bQ z (4*mQ z + 18) 16) (4*(mQ z) + 18) w1 (FF _ _ _) (by omega) (by omega) (by omega) (RdV.of hw1 (AT 7 rfl (A8 (AJ _)))) rfl (by omega) (by omega) (by omega) RdV.nil (BJ _ _ _) hok.2.2 (.inr (.inl (by rw [hok.1]; rfl))) (by omega) (by unfold tktN; rw [if_neg (by rw [hok.1]; decide)]; first | omega | (simp; done) | (simp; omega)) (by omega))) rfl ?_
  rintro v1 L1 ⟨_, ⟨nb10, sp5, cp5, rfl, rfl, hc13, hc14, hc15⟩, rfl⟩
  show JL _ _ _ _ ((67, .tuple #[Slc nb10 0 (4*(mQ z) + 34) cp5, .nilIface]) :: _) [_, _, _, _, _, _, _, _, _, ⟨nb10, cu8 ((tktT (vQ z 0 8) (vQ z 8 8) ((vQ z 16 1).toNat) (ixQ z 18 (mQ z)) ([] : List SealR) (0:UInt64)) ++ (bQ z (4*mQ z + 18) 16)) ++ sp5, 5, (0, 0)⟩]
  refine AA _ (AE rfl) rfl ?_
  refine AA _ (BB rfl rfl) rfl ?_
  refine AA _ (BB rfl rfl) rfl ?_
  refine AA _ (AH rfl) rfl ?_
  refine AA _ (AH rfl) rfl ?_
  refine AL (AC (AG (AB (AA _ (AE rfl) rfl ?_))))
  refine AA (.bool true) (DT _ _ _ rfl rfl (fun _ => FB ..) fun _ => ES BT) rfl ?_
  refine AA _ (AE rfl) rfl ?_
  refine AS 2 72 true _ (.agg ([U64 (vQ z 0 8), U64 (vQ z 8 8), I64 (((vQ z 16 1).toNat:Int)), Slc nb8 0 (mQ z) cp4, .slice none 0 0, U64 0] ++ cu8 (bQ z (4*mQ z + 18) 16)).toArray) rfl rfl rfl (AM rfl (A5 BW A3 (by simp [(BJ _ _ _)]) (AT 8 rfl (AJ _)))) rfl ?_
  refine AS 2 72 true _ (.agg ([U64 (vQ z 0 8), U64 (vQ z 8 8), I64 (((vQ z 16 1).toNat:Int)), Slc nb6 0 (mQ z) cp3, .slice none 0 0, U64 0] ++ cu8 (bQ z (4*mQ z + 18) 16)).toArray) rfl rfl rfl (AM rfl (A5 BW A3 (by simp [(BJ _ _ _)]) (AT 6 rfl (AJ _)))) rfl ?_
  refine DZ 2 72 true _ rfl rfl rfl (AX 49 [.agg ([U64 (vQ z 0 8), U64 (vQ z 8 8), I64 (((vQ z 16 1).toNat:Int)), Slc nb8 0 (mQ z) cp4, .slice none 0 0, U64 0] ++ cu8 (bQ z (4*mQ z + 18) 16)).toArray, .agg ([U64 (vQ z 0 8), U64 (vQ z 8 8), I64 (((vQ z 16 1).toNat:Int)), Slc nb6 0 (mQ z) cp3, .slice none 0 0, U64 0] ++ cu8 (bQ z (4*mQ z + 18) 16)).toArray] (.bool (decide ((vQ z 0 8) = (vQ z 0 8) ∧ (vQ z 8 8) = (vQ z 8 8) ∧ (bQ z (4*mQ z + 18) 16) = (bQ z (4*mQ z + 18) 16) ∧ (((vQ z 16 1).toNat:Int)) = (((vQ z 16 1).toNat:Int)) ∧ (0:UInt64) = (0:UInt64) ∧ (ixQ z 18 (mQ z)) = (ixQ z 18 (mQ z)) ∧ ([] : List SealR) = ([] : List SealR)))) (AZ _ Tryd.call49 rfl) (fun w1 hw1 => same13_c (vQ z 0 8) (vQ z 8 8) (((vQ z 16 1).toNat:Int)) (some ⟨nb8, 0, none⟩) (mQ z) cp4 (ixQ z 18 (mQ z)) none 0 0 ([] : List SealR) (0:UInt64) (bQ z (4*mQ z + 18) 16) (vQ z 0 8) (vQ z 8 8) (((vQ z 16 1).toNat:Int)) (some ⟨nb6, 0, none⟩) (mQ z) cp3 (ixQ z 18 (mQ z)) none 0 0 ([] : List SealR) (0:UInt64) (bQ z (4*mQ z + 18) 16) w1 (FF _ _ _) (by omega) (by omega) (by omega) (RdV.of hw1 (AT 7 rfl (A8 (AJ _)))) rfl (by omega) (by omega) (by omega) RdV.nil (BJ _ _ _) (FF _ _ _) (by omega) (by omega) (by omega) (RdV.of hw1 (AT 5 rfl (A8 (AJ _)))) rfl (by omega) (by omega) (by omega) RdV.nil (BJ _ _ _))) rfl ?_
  rintro v1 L1 ⟨rfl, rfl⟩
  show JL _ _ _ _ ((75, .bool (decide ((vQ z 0 8) = (vQ z 0 8) ∧ (vQ z 8 8) = (vQ z 8 8) ∧ (bQ z (4*mQ z + 18) 16) = (bQ z (4*mQ z + 18) 16) ∧ (((vQ z 16 1).toNat:Int)) = (((vQ z 16 1).toNat:Int)) ∧ (0:UInt64) = (0:UInt64) ∧ (ixQ z 18 (mQ z)) = (ixQ z 18 (mQ z)) ∧ ([] : List SealR) = ([] : List SealR)))) :: _) [_, _, _, _, _, _, _, _, _, _]
  refine AA _ (BO _ rfl rfl rfl) rfl ?_
  refine AA _ (AE rfl) rfl ?_
  refine AS 7 77 true _ _ rfl rfl (decide_eq_true ⟨rfl, rfl, rfl, rfl, rfl, rfl, rfl⟩) (AE rfl) rfl ?_
  refine AS 7 77 true _ (.bool true) rfl rfl (decide_eq_true ⟨rfl, rfl, rfl, rfl, rfl, rfl, rfl⟩) (DT _ _ _ rfl rfl (fun _ => FB ..) fun _ => ES BT) rfl ?_
  refine AA _ (BO _ rfl (decide_eq_true ⟨rfl, rfl, rfl, rfl, rfl, rfl, rfl⟩) rfl) rfl ?_
  refine AA _ (AE rfl) rfl ?_
  refine AS 11 81 true _ _ rfl rfl rfl (AE rfl) rfl ?_
  refine AS 11 81 true _ _ rfl rfl rfl (AE rfl) rfl ?_
  refine DZ 11 81 true _ rfl rfl rfl (AX 24 [Slc nb10 0 (4*(mQ z) + 34) cp5, .slice ax n cx] (.bool (decide (((tktT (vQ z 0 8) (vQ z 8 8) ((vQ z 16 1).toNat) (ixQ z 18 (mQ z)) ([] : List SealR) (0:UInt64)) ++ (bQ z (4*mQ z + 18) 16)) = z))) (AZ _ Tryd.call24 rfl) (fun w1 hw1 => bytes_c (some ⟨nb10, 0, none⟩) ax (4*(mQ z) + 34) n cp5 cx ((tktT (vQ z 0 8) (vQ z 8 8) ((vQ z 16 1).toNat) (ixQ z 18 (mQ z)) ([] : List SealR) (0:UInt64)) ++ (bQ z (4*mQ z + 18) 16)) z w1 (show ((tktT (vQ z 0 8) (vQ z 8 8) ((vQ z 16 1).toNat) (ixQ z 18 (mQ z)) ([] : List SealR) (0:UInt64)) ++ (bQ z (4*mQ z + 18) 16)).length = (4*(mQ z) + 34) from (by rw [List.length_append, (show (tktT (vQ z 0 8) (vQ z 8 8) ((vQ z 16 1).toNat) (ixQ z 18 (mQ z)) ([] : List SealR) (0:UInt64)).length = (4*(mQ z) + 18) from (tktT_len (FF _ _ _) rfl).trans (by unfold tktN; rw [if_neg (by rw [hok.1]; decide)]; first | omega | (simp; done) | (simp; omega))), (BJ _ _ _)])) hz (RdB.of hw1 (AT 9 rfl (A8 (AJ _))) (by simp)) (hr.at (M' := []) hw1 (by simp)))) rfl ?_
  rintro v1 L1 ⟨rfl, rfl⟩
  show JL _ _ _ _ ((84, .bool (decide (((tktT (vQ z 0 8) (vQ z 8 8) ((vQ z 16 1).toNat) (ixQ z 18 (mQ z)) ([] : List SealR) (0:UInt64)) ++ (bQ z (4*mQ z + 18) 16)) = z))) :: _) [_, _, _, _, _, _, _, _, _, _]
  refine AA _ (BO _ rfl rfl rfl) rfl ?_
  refine AA _ (AH rfl) rfl ?_
  refine AL (AC (BH (B5 [false, false, false, false, false, false, false, false, false, false] ?_)))
  show JQ _ _ _ _ []
  refine BI (.bool (decide (((tktT (vQ z 0 8) (vQ z 8 8) ((vQ z 16 1).toNat) (ixQ z 18 (mQ z)) ([] : List SealR) (0:UInt64)) ++ (bQ z (4*mQ z + 18) 16)) = z))) (res1 Tryd.results11 (BU rfl)) fun w1 hw1 => ?_
  exact ⟨_, [], rfl, ⟨congrArg Value.bool (decide_eq_true (put2_q (by omega) hok.1)), rfl⟩, hw1.sub (by simp) (by simp)⟩
 ·
  refine AB (AA _ (AE rfl) rfl ?_)
  have hz4 : (z).length = n := hz
  refine AY (AX 65 [.slice ax n cx] (.tuple #[.agg ([U64 0, U64 0, I64 0, .slice none 0 0, .slice none 0 0, U64 0] ++ cu8 (zr8 16)).toArray, errV 50 2]) (AZ _ Tryd.call65 rfl) (fun w1 hw1 => parseN_w ax n cx z k w1 ha hz (by omega) (by omega) (by omega) (hr.at (M' := []) hw1 (by simp)) (.inr (.inl ⟨hok, hk, hk0⟩)))) rfl ?_
  show JL _ _ _ _ ((49, .tuple #[.agg ([U64 0, U64 0, I64 0, .slice none 0 0, .slice none 0 0, U64 0] ++ cu8 (zr8 16)).toArray, errV 50 2]) :: _) [_, _, _, _, _, _, _]
  refine AA _ (AE rfl) rfl ?_
  refine AA _ (BB rfl rfl) rfl ?_
  refine AA _ (BB rfl rfl) rfl ?_
  refine A2 (BN _ ([U64 0, U64 0, I64 0, .slice none 0 0, .slice none 0 0, U64 0] ++ cu8 (zr8 16)) CG (by kernel_rfl)) rfl ?_
  rintro v1 L1 ⟨nb11, hnb11, rfl, rfl⟩
  show JL _ _ _ _ ((7, Ptr nb11 0) :: _) [_, _, _, _, _, _, _, ⟨nb11, [U64 0, U64 0, I64 0, .slice none 0 0, .slice none 0 0, U64 0] ++ cu8 (zr8 16), 29, (0, 0)⟩]
  refine AY (AU 7 nb11 22 ([U64 0, U64 0, I64 0, .slice none 0 0, .slice none 0 0, U64 0] ++ cu8 (zr8 16)) 29 ([U64 0, U64 0, I64 0, .slice none 0 0, .slice none 0 0, U64 0] ++ cu8 (zr8 16)) rfl rfl rfl A3 (by simp [(AN 16)]) (CK (by simp [Value.oneCell']) CF) (by simp [(AN 16)]) (A0 (by simp [(AN 16), (AN 16)]))) rfl ?_
  show JL _ _ _ _ _ [_, _, _, _, _, _, _, ⟨nb11, [U64 0, U64 0, I64 0, .slice none 0 0, .slice none 0 0, U64 0] ++ cu8 (zr8 16), 29, (0, 0)⟩]
  refine AA _ (AH rfl) rfl ?_
  refine AL (AC (AG (AG (AB (AA (.agg #[.slice ao1 k ca1, I64 0]) (AM rfl (A5 AQ AK rfl (AT 2 rfl (AJ _)))) rfl ?_)))))
  refine AY (AX 64 [.agg #[.slice ao1 k ca1, I64 0]] (I64 ((endN 0 k:Int))) (AZ _ Tryd.call64 rfl) (fun w1 hw1 => rend_w ao1 k ca1 0 w1 )) rfl ?_
  show JL _ _ _ _ ((53, I64 ((endN 0 k:Int))) :: _) [_, _, _, _, _, _, _, _]
  refine AA _ (AH rfl) rfl ?_
  refine AL (AC (AG (AB (AA _ (AE rfl) rfl ?_))))
  refine AA (.bool (decide (((endN 0 k:Int)) ≠ (0:Int)))) (AP rfl rfl fun _ => CE _ _) rfl ?_
  refine AL (AC (CM _ rfl (decide_eq_true (by rw [endN_k hk0]; decide)) ?_))
  refine AG (AB (AA _ (AE rfl) rfl ?_))
  refine AY (AX 29 [errV 50 2] (I64 2) (AZ _ Tryd.call29 rfl) (fun w1 hw1 => errNum_w 2 w1)) rfl ?_
  show JL _ _ _ _ ((57, I64 2) :: _) [_, _, _, _, _, _, _, _]
  refine AA _ (AE rfl) rfl ?_
  refine AA (.bool (decide (((2:Int)) = ((endN 0 k:Int))))) (AP rfl rfl fun _ => CA _ _) rfl ?_
  refine AA _ (AE rfl) rfl ?_
  refine AS 4 60 true _ (.agg ([U64 0, U64 0, I64 0, .slice none 0 0, .slice none 0 0, U64 0] ++ cu8 (zr8 16)).toArray) rfl rfl (decide_eq_true (by rw [endN_k hk0]; rfl)) (AM rfl (A5 BW A3 (by simp [(AN 16)]) (AT 7 rfl (AJ _)))) rfl ?_
  refine AS 4 60 true _ (.agg ([U64 0, U64 0, I64 0, .slice none 0 0, .slice none 0 0, U64 0] ++ cu8 (zr8 16)).toArray) rfl rfl (decide_eq_true (by rw [endN_k hk0]; rfl)) (DG [] _ rfl (fun _ => by kernel_rfl)) rfl ?_
  refine DZ 4 60 true _ rfl rfl (decide_eq_true (by rw [endN_k hk0]; rfl)) (AX 49 [.agg ([U64 0, U64 0, I64 0, .slice none 0 0, .slice none 0 0, U64 0] ++ cu8 (zr8 16)).toArray, .agg ([U64 0, U64 0, I64 0, .slice none 0 0, .slice none 0 0, U64 0] ++ cu8 (zr8 16)).toArray] (.bool (decide ((0:UInt64) = (0:UInt64) ∧ (0:UInt64) = (0:UInt64) ∧ (zr8 16) = (zr8 16) ∧ (0:Int) = (0:Int) ∧ (0:UInt64) = (0:UInt64) ∧ ([] : List UInt64) = ([] : List UInt64) ∧ ([] : List SealR) = ([] : List SealR)))) (AZ _ Tryd.call49 rfl) (fun w1 hw1 => same13_c (0:UInt64) (0:UInt64) (0:Int) none 0 0 ([] : List UInt64) none 0 0 ([] : List SealR) (0:UInt64) (zr8 16) (0:UInt64) (0:UInt64) (0:Int) none 0 0 ([] : List UInt64) none 0 0 ([] : List SealR) (0:UInt64) (zr8 16) w1 rfl (by omega) (by omega) (by omega) RdV.nil rfl (by omega) (by omega) (by omega) RdV.nil (AN 16) rfl (by omega) (by omega) (by omega) RdV.nil rfl (by omega) (by omega) (by omega) RdV.nil (AN 16))) rfl ?_
  rintro v1 L1 ⟨rfl, rfl⟩
  show JL _ _ _ _ ((63, .bool (decide ((0:UInt64) = (0:UInt64) ∧ (0:UInt64) = (0:UInt64) ∧ (zr8 16) = (zr8 16) ∧ (0:Int) = (0:Int) ∧ (0:UInt64) = (0:UInt64) ∧ ([] : List UInt64) = ([] : List UInt64) ∧ ([] : List SealR) = ([] : List SealR)))) :: _) [_, _, _, _, _, _, _, _]
  refine AA _ (BO _ rfl (decide_eq_true (by rw [endN_k hk0]; rfl)) rfl) rfl ?_
  refine AA _ (AH rfl) rfl ?_
  refine AL (AC (BH (A4 (B5 [false, false, false, false, false, false, false, false] ?_))))
  show JQ _ _ _ _ []
  refine BI (.bool (decide ((0:UInt64) = (0:UInt64) ∧ (0:UInt64) = (0:UInt64) ∧ (zr8 16) = (zr8 16) ∧ (0:Int) = (0:Int) ∧ (0:UInt64) = (0:UInt64) ∧ ([] : List UInt64) = ([] : List UInt64) ∧ ([] : List SealR) = ([] : List SealR)))) (res1 Tryd.results11 (BU rfl)) fun w1 hw1 => ?_
  exact ⟨_, [], rfl, ⟨congrArg Value.bool (decide_eq_true ⟨rfl, rfl, rfl, rfl, rfl, rfl, rfl⟩), rfl⟩, hw1.sub (by simp) (by simp)⟩
set_option maxHeartbeats 4000000 in
theorem tp1_c (ax : Option Addr) (n cx : Nat) (z : List UInt8) (k : Nat)  (w : World) (ha : ax.isNone = false) (hz : z.length = n) (hn : n ≤ 20000) (hc : n ≤ cx) (hcm : cx ≤ maxLen) (hr : RdB w [] ax z) (hok : Ok1 z) (hk : 60*mQ z + 34 + k = n) (hG : GLs w)  : Calls Tryd.prog 11 #[.slice ax n cx] w (Post w [] (fun v L => v = .bool true ∧ L = [])) := by
 have hmx : maxLen = 9223372036854775807 := rfl
 have hk9 := vQ_lt1 z 17
 have hmQ := mQ_eq z
 refine enter w [] 86 [] [.slice ax n cx] Tryd.func11 rfl rfl (by simp) (BY (by simp) (by simp) (by simp)) ?_
 show JC _ _ _ [(0, .slice ax n cx)] _
 refine AG (AB (AA _ (AH rfl) rfl ?_))
 refine AL (AC (AG (AG (AB (A2 (AX 43 [] (.bool true) (AZ _ Tryd.call43 rfl) (fun w1 hw1 => alive13_c  w1 (hG.at hw1))) rfl ?_)))))
 rintro v1 L1 ⟨rfl, rfl⟩
 show JL _ _ _ _ ((12, .bool true) :: _) []
 refine AA (.bool (!true)) (FD rfl) rfl ?_
 refine AL (AC (BZ _ rfl rfl ?_))
 refine BL (AC (AG (AG (AB (AA _ (AE rfl) rfl ?_)))))
 refine AA (I64 n) (DS AR rfl) rfl ?_
 refine AA (.bool (decide ((20000:Int) < ((n:Int))))) (AP rfl rfl fun _ => EL _ _) rfl ?_
 refine AL (AC (BZ _ rfl (decide_eq_false (by omega)) ?_))
 refine BL (AC (AG (AB (AA _ (AE rfl) rfl ?_))))
 refine AA (.agg #[.slice ax n cx, I64 0]) (DG [(0, .slice ax n cx)] _ rfl (fun _ => bld107_0 rfl)) rfl ?_
 have hz1 : (z).length = n := hz
 refine A2 (B3 58 [.agg #[.slice ax n cx, I64 0]] _ (AZ _ Tryd.call58 rfl) (fun w1 hw1 => rread1_w ax n cx z w1 hz (by omega) (by omega) (by omega) (hr.at (M' := []) hw1 (by simp)) k hok hk)) rfl ?_
 rintro v1 L1 ⟨_, ⟨ao1, ca1, nb1, sp1, cp1, nb2, sp2, cp2, rfl, rfl, hc1, hc2, hc3, hc4, hc5, hc6⟩, rfl⟩
 show JL _ _ _ _ ((20, .tuple #[.agg ([U64 (vQ z 0 8), U64 (vQ z 8 8), I64 (((vQ z 16 1).toNat:Int)), Slc nb1 0 (mQ z) cp1, Slc nb2 0 (mQ z) cp2, U64 0] ++ cu8 (bQ z (60*mQ z + 18) 16)).toArray, .agg #[.slice ao1 k ca1, I64 0]]) :: _) [⟨nb1, cu64 (ixQ z 18 (mQ z)) ++ sp1, 22, (0, 0)⟩, ⟨nb2, (seQ z (4*mQ z + 18) (mQ z)).flatMap sealC ++ sp2, 164, (0, 0)⟩]
 refine AA _ (AE rfl) rfl ?_
 refine AA _ (BB rfl rfl) rfl ?_
 refine AA _ (BB rfl rfl) rfl ?_
 refine A2 (BN _ ([U64 0, U64 0, I64 0, .slice none 0 0, .slice none 0 0, U64 0] ++ cu8 (zr8 16)) Tryd.zeroValue38 (by kernel_rfl)) rfl ?_
 rintro v1 L1 ⟨nb3, hnb3, rfl, rfl⟩
 show JL _ _ _ _ ((3, Ptr nb3 0) :: _) [_, _, ⟨nb3, [U64 0, U64 0, I64 0, .slice none 0 0, .slice none 0 0, U64 0] ++ cu8 (zr8 16), 38, (0, 0)⟩]
 refine A2 (BN _ ([.slice none 0 0, I64 0]) C7 (by kernel_rfl)) rfl ?_
 rintro v1 L1 ⟨nb4, hnb4, rfl, rfl⟩
 show JL _ _ _ _ ((4, Ptr nb4 0) :: _) [_, _, _, ⟨nb4, [.slice none 0 0, I64 0], 107, (0, 0)⟩]
 refine AY (AU 2 nb3 22 ([U64 0, U64 0, I64 0, .slice none 0 0, .slice none 0 0, U64 0] ++ cu8 (zr8 16)) 38 ([U64 (vQ z 0 8), U64 (vQ z 8 8), I64 (((vQ z 16 1).toNat:Int)), Slc nb1 0 (mQ z) cp1, Slc nb2 0 (mQ z) cp2, U64 0] ++ cu8 (bQ z (60*mQ z + 18) 16)) rfl rfl rfl B7 (by simp [(BJ _ _ _)]) (CK (by simp [Value.oneCell']) CF) (by simp [(AN 16)]) (A0 (by simp [(AN 16), (BJ _ _ _)]))) rfl ?_
 show JL _ _ _ _ _ [_, _, ⟨nb3, [U64 (vQ z 0 8), U64 (vQ z 8 8), I64 (((vQ z 16 1).toNat:Int)), Slc nb1 0 (mQ z) cp1, Slc nb2 0 (mQ z) cp2, U64 0] ++ cu8 (bQ z (60*mQ z + 18) 16), 38, (0, 0)⟩, _]
 refine AY (AU 3 nb4 2 ([.slice none 0 0, I64 0]) 107 ([.slice ao1 k ca1, I64 0]) rfl rfl rfl AK rfl (by simp [Value.oneCell']) (Nat.le_of_ble_eq_true rfl) (A0 (by simp []))) rfl ?_
 show JL _ _ _ _ _ [_, _, _, ⟨nb4, [.slice ao1 k ca1, I64 0], 107, (0, 0)⟩]
 refine AL (AC (AG (AB (AA _ (AE rfl) rfl ?_))))
 refine A2 (B3 59 [.slice ax n cx] _ (AZ _ Tryd.call59 rfl) (fun w1 hw1 => from_c ax n cx z w1 ha hz (by omega) (hr.at (M' := []) hw1 (by simp)))) rfl ?_
 rintro v1 L1 ⟨_, ⟨nb5, nb6, sp3, cp3, rfl, rfl, hc7, hc8, hc9⟩, rfl⟩
 show JL _ _ _ _ ((24, Ptr nb5 0) :: _) [_, _, _, _, ⟨nb5, [.nilIface, Slc nb6 0 n cp3], 204, (0, 0)⟩, ⟨nb6, cu8 z ++ sp3, 5, (0, 0)⟩]
 refine AA _ (AH rfl) rfl ?_
 refine AL (AC (AG (AB (AA _ (AE rfl) rfl ?_))))
 have hz2 : (z).length = n := hz
 refine A2 (DE 60 _ [false, false, false, false, true, false] [nb5] _ (AZ [Ptr nb5 0] Tryd.call60 rfl) rfl (fun w1 hw1 => tread1_w nb5 (some ⟨nb6, 0, none⟩) n cp3 z w1 (hw1.ent _ (List.mem_of_getElem? (i := 4) rfl)) hz (by omega) (by omega) (by omega) (RdB.of hw1 (AT 5 rfl (A8 (AJ _))) (by intro _; simp only [List.mem_cons, List.not_mem_nil, or_false, not_or]; exact hw1.ne (i := 5) (j := 4) rfl rfl (by decide))) k hok hk)) rfl ?_
 rintro v1 L1 ⟨_, ⟨ao2, ca2, nb7, sp4, cp4, nb8, sp5, cp5, rfl, rfl, hb1, hb2, hc10, hc11, hc12, hc13, hc14, hc15⟩, rfl⟩
 show JL _ _ _ _ ((26, .agg ([U64 (vQ z 0 8), U64 (vQ z 8 8), I64 (((vQ z 16 1).toNat:Int)), Slc nb7 0 (mQ z) cp4, Slc nb8 0 (mQ z) cp5, U64 0] ++ cu8 (bQ z (60*mQ z + 18) 16)).toArray) :: _) [_, _, _, _, _, ⟨nb5, [.nilIface, .slice ao2 k ca2], 204, (0, 0)⟩, ⟨nb7, cu64 (ixQ z 18 (mQ z)) ++ sp4, 22, (0, 0)⟩, ⟨nb8, (seQ z (4*mQ z + 18) (mQ z)).flatMap sealC ++ sp5, 161, (0, 0)⟩]
 refine A2 (BN _ ([U64 0, U64 0, I64 0, .slice none 0 0, .slice none 0 0, U64 0] ++ cu8 (zr8 16)) CG (by kernel_rfl)) rfl ?_
 rintro v1 L1 ⟨nb9, hnb9, rfl, rfl⟩
 show JL _ _ _ _ ((6, Ptr nb9 0) :: _) [_, _, _, _, _, _, _, _, ⟨nb9, [U64 0, U64 0, I64 0, .slice none 0 0, .slice none 0 0, U64 0] ++ cu8 (zr8 16), 29, (0, 0)⟩]
 refine AY (AU 8 nb9 22 ([U64 0, U64 0, I64 0, .slice none 0 0, .slice none 0 0, U64 0] ++ cu8 (zr8 16)) 29 ([U64 (vQ z 0 8), U64 (vQ z 8 8), I64 (((vQ z 16 1).toNat:Int)), Slc nb7 0 (mQ z) cp4, Slc nb8 0 (mQ z) cp5, U64 0] ++ cu8 (bQ z (60*mQ z + 18) 16)) rfl rfl rfl A3 (by simp [(BJ _ _ _)]) (CK (by simp [Value.oneCell']) CF) (by simp [(AN 16)]) (A0 (by simp [(AN 16), (BJ _ _ _)]))) rfl ?_
 show JL _ _ _ _ _ [_, _, _, _, _, _, _, _, ⟨nb9, [U64 (vQ z 0 8), U64 (vQ z 8 8), I64 (((vQ z 16 1).toNat:Int)), Slc nb7 0 (mQ z) cp4, Slc nb8 0 (mQ z) cp5, U64 0] ++ cu8 (bQ z (60*mQ z + 18) 16), 29, (0, 0)⟩]
 refine AL (AC (AG (AG (CH 86 8 [(0, .agg ([U64 (vQ z 0 8), U64 (vQ z 8 8), I64 (((vQ z 16 1).toNat:Int)), Slc nb7 0 (mQ z) cp4, Slc nb8 0 (mQ z) cp5, U64 0] ++ cu8 (bQ z (60*mQ z + 18) 16)).toArray), (2, .agg ([U64 (vQ z 0 8), U64 (vQ z 8 8), I64 (((vQ z 16 1).toNat:Int)), Slc nb1 0 (mQ z) cp1, Slc nb2 0 (mQ z) cp2, U64 0] ++ cu8 (bQ z (60*mQ z + 18) 16)).toArray)] BP rfl (by decide +kernel) ?_))))
 refine C5 ⟨[], [0, 2], [], [0, 2], [1]⟩ 1 _ rfl rfl (by decide +kernel) rfl ⟨⟨_, rfl, AI rfl (AM rfl (A5 BW A3 (by simp [(BJ _ _ _)]) (AT 8 rfl (AJ _))))⟩, ⟨_, rfl, AI rfl (AM rfl (A5 DJ B7 (by simp [(BJ _ _ _)]) (AT 2 rfl (AJ _))))⟩, trivial⟩ rfl (A7 rfl (B3 44 [.agg ([U64 (vQ z 0 8), U64 (vQ z 8 8), I64 (((vQ z 16 1).toNat:Int)), Slc nb7 0 (mQ z) cp4, Slc nb8 0 (mQ z) cp5, U64 0] ++ cu8 (bQ z (60*mQ z + 18) 16)).toArray] _ (AZ _ Tryd.call44 rfl) (fun w1 hw1 => docTP_c (vQ z 0 8) (vQ z 8 8) (((vQ z 16 1).toNat:Int)) (some ⟨nb7, 0, none⟩) (mQ z) cp4 (ixQ z 18 (mQ z)) (some ⟨nb8, 0, none⟩) (mQ z) cp5 (seQ z (4*mQ z + 18) (mQ z)) (0:UInt64) (bQ z (60*mQ z + 18) 16) w1 (FF _ _ _) (by omega) (by omega) (by omega) (RdV.of hw1 (AT 6 rfl (A8 (AJ _)))) (seQ_len _ _ _) (by omega) (by omega) (by omega) (RdV.of hw1 (AT 7 rfl (A8 (AJ _)))) (by omega) (BJ _ _ _)))) ?_
 rintro v1 L1 ⟨_, ⟨nb10, sp6, cp6, rfl, rfl, hc16, hc17, hc18⟩, rfl⟩
 refine ⟨[], ?_⟩
 show DP _ _ _ _ _ _ _ _ [_, _, _, _, _, _, _, _, _, ⟨nb10, (seQ z (4*mQ z + 18) (mQ z)).flatMap sealC ++ sp6, 164, (0, 0)⟩]
 refine C5 ⟨[1], [0, 2], [0], [2], [3]⟩ 3 _ rfl rfl (by decide +kernel) rfl ⟨⟨_, rfl, AI rfl (AM rfl (A5 DJ B7 (by simp [(BJ _ _ _)]) (AT 2 rfl (AJ _))))⟩, trivial⟩ rfl (A7 rfl (AX 51 [.agg ([U64 (vQ z 0 8), U64 (vQ z 8 8), I64 (((vQ z 16 1).toNat:Int)), Slc nb7 0 (mQ z) cp4, Slc nb10 0 (mQ z) cp6, U64 0] ++ cu8 (bQ z (60*mQ z + 18) 16)).toArray, .agg ([U64 (vQ z 0 8), U64 (vQ z 8 8), I64 (((vQ z 16 1).toNat:Int)), Slc nb1 0 (mQ z) cp1, Slc nb2 0 (mQ z) cp2, U64 0] ++ cu8 (bQ z (60*mQ z + 18) 16)).toArray] (.bool (decide ((vQ z 0 8) = (vQ z 0 8) ∧ (vQ z 8 8) = (vQ z 8 8) ∧ (bQ z (60*mQ z + 18) 16) = (bQ z (60*mQ z + 18) 16) ∧ (((vQ z 16 1).toNat:Int)) = (((vQ z 16 1).toNat:Int)) ∧ (0:UInt64) = (0:UInt64) ∧ (ixQ z 18 (mQ z)) = (ixQ z 18 (mQ z)) ∧ (seQ z (4*mQ z + 18) (mQ z)) = (seQ z (4*mQ z + 18) (mQ z))))) (AZ _ Tryd.call51 rfl) (fun w1 hw1 => rsame13_c (vQ z 0 8) (vQ z 8 8) (((vQ z 16 1).toNat:Int)) (some ⟨nb7, 0, none⟩) (mQ z) cp4 (ixQ z 18 (mQ z)) (some ⟨nb10, 0, none⟩) (mQ z) cp6 (seQ z (4*mQ z + 18) (mQ z)) (0:UInt64) (bQ z (60*mQ z + 18) 16) (vQ z 0 8) (vQ z 8 8) (((vQ z 16 1).toNat:Int)) (some ⟨nb1, 0, none⟩) (mQ z) cp1 (ixQ z 18 (mQ z)) (some ⟨nb2, 0, none⟩) (mQ z) cp2 (seQ z (4*mQ z + 18) (mQ z)) (0:UInt64) (bQ z (60*mQ z + 18) 16) w1 (FF _ _ _) (by omega) (by omega) (by omega) (RdV.of hw1 (AT 6 rfl (A8 (AJ _)))) (seQ_len _ _ _) (by omega) (by omega) (by omega) (RdV.of hw1 (AT 9 rfl (A8 (AJ _)))) (BJ _ _ _) (FF _ _ _) (by omega) (by omega) (by omega) (RdV.of hw1 (AT 0 rfl (A8 (AJ _)))) (seQ_len _ _ _) (by omega) (by omega) (by omega) (RdV.of hw1 (AT 1 rfl (A8 (AJ _)))) (BJ _ _ _)))) ?_
 rintro v1 L1 ⟨rfl, rfl⟩
 refine ⟨[(4, .bool (!(decide ((vQ z 0 8) = (vQ z 0 8) ∧ (vQ z 8 8) = (vQ z 8 8) ∧ (bQ z (60*mQ z + 18) 16) = (bQ z (60*mQ z + 18) 16) ∧ (((vQ z 16 1).toNat:Int)) = (((vQ z 16 1).toNat:Int)) ∧ (0:UInt64) = (0:UInt64) ∧ (ixQ z 18 (mQ z)) = (ixQ z 18 (mQ z)) ∧ (seQ z (4*mQ z + 18) (mQ z)) = (seQ z (4*mQ z + 18) (mQ z)))))), (5, .bool (!(decide ((vQ z 0 8) = (vQ z 0 8) ∧ (vQ z 8 8) = (vQ z 8 8) ∧ (bQ z (60*mQ z + 18) 16) = (bQ z (60*mQ z + 18) 16) ∧ (((vQ z 16 1).toNat:Int)) = (((vQ z 16 1).toNat:Int)) ∧ (0:UInt64) = (0:UInt64) ∧ (ixQ z 18 (mQ z)) = (ixQ z 18 (mQ z)) ∧ (seQ z (4*mQ z + 18) (mQ z)) = (seQ z (4*mQ z + 18) (mQ z)))))), (6, Ptr nb5 0), (8, .agg #[.slice ao1 k ca1, I64 0])], ?_⟩
 show DP _ _ _ _ _ _ _ _ [_, _, _, _, _, _, _, _, _, _]
 refine B6 ⟨[1, 3], [0, 2, 4, 5, 6, 8], [0, 2], [4, 5, 6, 8], [7]⟩ 7 rfl rfl (by decide +kernel) rfl ⟨⟨_, rfl, AI rfl (FD rfl)⟩, BQ rfl rfl rfl, ⟨_, rfl, B1 5 32 false _ rfl rfl rfl (bnotT (decide_eq_true ⟨rfl, rfl, rfl, rfl, rfl, rfl, rfl⟩)) (AE rfl)⟩, ⟨_, rfl, B1 5 32 false _ rfl rfl rfl (bnotT (decide_eq_true ⟨rfl, rfl, rfl, rfl, rfl, rfl, rfl⟩)) (AM rfl (A5 AQ AK rfl (AT 3 rfl (AJ _))))⟩, trivial⟩ rfl (D9 5 32 false _ rfl rfl rfl (bnotT (decide_eq_true ⟨rfl, rfl, rfl, rfl, rfl, rfl, rfl⟩)) (AX 61 [Ptr nb5 0] (I64 k) (AZ _ EM rfl) (fun w1 hw1 => leftZ_c nb5 0 ao2 k ca2 w1 (RdA.of hw1 (AT 5 rfl (AJ _)) (by simp)) rfl))) ?_
 show DP _ _ _ _ _ _ _ _ [_, _, _, _, _, _, _, _, _, _]
 refine C5 ⟨[1, 3, 7], [0, 2, 4, 5, 6, 8], [0, 2, 4, 5, 6], [8], [9]⟩ 9 _ rfl rfl (by decide +kernel) rfl ⟨⟨_, rfl, B1 5 32 false _ rfl rfl rfl (bnotT (decide_eq_true ⟨rfl, rfl, rfl, rfl, rfl, rfl, rfl⟩)) (AM rfl (A5 AQ AK rfl (AT 3 rfl (AJ _))))⟩, trivial⟩ rfl (D9 5 32 false _ rfl rfl rfl (bnotT (decide_eq_true ⟨rfl, rfl, rfl, rfl, rfl, rfl, rfl⟩)) (AX 62 [.agg #[.slice ao1 k ca1, I64 0]] (I64 ((leftN 0 k:Int))) (AZ _ Tryd.call62 rfl) (fun w1 hw1 => rleft_w ao1 k ca1 0 w1 ))) ?_
 rintro v1 L1 ⟨rfl, rfl⟩
 refine ⟨[(10, .bool (decide (((k:Int)) ≠ ((leftN 0 k:Int))))), (11, .bool (decide (((k:Int)) ≠ ((leftN 0 k:Int))))), (12, .bool (decide (((k:Int)) ≠ ((leftN 0 k:Int))))), (13, Ptr nb5 0), (16, .agg #[.slice ao1 k ca1, I64 0])], ?_⟩
 show DP _ _ _ _ _ _ _ _ [_, _, _, _, _, _, _, _, _, _]
 refine B6 ⟨[1, 3, 7, 9], [0, 2, 4, 5, 6, 8, 10, 11, 12, 13, 16], [0, 2, 4, 5, 6, 8], [10, 11, 12, 13, 16], [14]⟩ 14 rfl rfl (by decide +kernel) rfl ⟨⟨_, rfl, B1 5 32 false _ rfl rfl rfl (bnotT (decide_eq_true ⟨rfl, rfl, rfl, rfl, rfl, rfl, rfl⟩)) (AP rfl rfl fun _ => CE _ _)⟩, ⟨_, rfl, AI rfl (BF _ rfl (bnotT (decide_eq_true ⟨rfl, rfl, rfl, rfl, rfl, rfl, rfl⟩)) rfl)⟩, BQ rfl rfl rfl, ⟨_, rfl, B1 12 39 false _ rfl rfl rfl (decide_eq_false (by simp [leftN])) (AE rfl)⟩, ⟨_, rfl, B1 12 39 false _ rfl rfl rfl (decide_eq_false (by simp [leftN])) (AM rfl (A5 AQ AK rfl (AT 3 rfl (AJ _))))⟩, trivial⟩ rfl (D9 12 39 false _ rfl rfl rfl (decide_eq_false (by simp [leftN])) (AX 63 [Ptr nb5 0] (errV 50 (endN 0 k)) (AZ _ EF rfl) (fun w1 hw1 => end_w nb5 0 ao2 k ca2 w1 (RdA.of hw1 (AT 5 rfl (AJ _)) (by simp))))) ?_
 show DP _ _ _ _ _ _ _ _ [_, _, _, _, _, _, _, _, _, _]
 refine B6 ⟨[1, 3, 7, 9, 14], [0, 2, 4, 5, 6, 8, 10, 11, 12, 13, 16], [0, 2, 4, 5, 6, 8, 10, 11, 12, 13], [16], [15]⟩ 15 rfl rfl (by decide +kernel) rfl ⟨⟨_, rfl, B1 12 39 false _ rfl rfl rfl (decide_eq_false (by simp [leftN])) (AM rfl (A5 AQ AK rfl (AT 3 rfl (AJ _))))⟩, trivial⟩ rfl (D9 12 39 false _ rfl rfl rfl (decide_eq_false (by simp [leftN])) (AX 29 [errV 50 (endN 0 k)] (I64 ((endN 0 k:Int))) (AZ _ Tryd.call29 rfl) (fun w1 hw1 => errNum_w (endN 0 k) w1))) ?_
 show DP _ _ _ _ _ _ _ _ [_, _, _, _, _, _, _, _, _, _]
 refine C5 ⟨[1, 3, 7, 9, 14, 15], [0, 2, 4, 5, 6, 8, 10, 11, 12, 13, 16], [0, 2, 4, 5, 6, 8, 10, 11, 12, 13], [16], [17]⟩ 17 _ rfl rfl (by decide +kernel) rfl ⟨⟨_, rfl, B1 12 39 false _ rfl rfl rfl (decide_eq_false (by simp [leftN])) (AM rfl (A5 AQ AK rfl (AT 3 rfl (AJ _))))⟩, trivial⟩ rfl (D9 12 39 false _ rfl rfl rfl (decide_eq_false (by simp [leftN])) (AX 64 [.agg #[.slice ao1 k ca1, I64 0]] (I64 ((endN 0 k:Int))) (AZ _ Tryd.call64 rfl) (fun w1 hw1 => rend_w ao1 k ca1 0 w1 ))) ?_
 rintro v1 L1 ⟨rfl, rfl⟩
 refine ⟨[(18, .bool (decide (((endN 0 k:Int)) ≠ ((endN 0 k:Int))))), (19, .bool (decide (((endN 0 k:Int)) ≠ ((endN 0 k:Int)))))], ?_⟩
 show DP _ _ _ _ _ _ _ _ [_, _, _, _, _, _, _, _, _, _]
 refine C2 ⟨[1, 3, 7, 9, 14, 15, 17], [0, 2, 4, 5, 6, 8, 10, 11, 12, 13, 16, 18, 19], [0, 2, 4, 5, 6, 8, 10, 11, 12, 13, 16], [18, 19], []⟩ rfl rfl (by decide +kernel) rfl ⟨⟨_, rfl, B1 12 39 false _ rfl rfl rfl (decide_eq_false (by simp [leftN])) (AP rfl rfl fun _ => CE _ _)⟩, ⟨_, rfl, AI rfl (BF _ rfl (decide_eq_false (by simp [leftN])) rfl)⟩, trivial⟩ ?_
 refine CB (F' := [(46, .bool (decide (((endN 0 k:Int)) ≠ ((endN 0 k:Int))))), (0, .slice ax n cx), (2, .bool false), (4, Ptr nb4 0), (6, Ptr nb9 0)]) (by kernel_rfl) ?_
 refine AC (BZ _ rfl (by simp) ?_)
 refine BL (AC (AG ?_))
 by_cases hk0 : k = 0
 ·
  refine AB (AA _ (AE rfl) rfl ?_)
  have hz3 : (z).length = n := hz
  refine A2 (B3 65 [.slice ax n cx] _ (AZ _ Tryd.call65 rfl) (fun w1 hw1 => parse1Z_w ax n cx z w1 ha hz (by omega) (by omega) (by omega) (hr.at (M' := []) hw1 (by simp)) hok (by omega))) rfl ?_
  rintro v1 L1 ⟨_, ⟨nb11, sp7, cp7, nb12, sp8, cp8, rfl, rfl, hc19, hc20, hc21, hc22, hc23, hc24⟩, rfl⟩
  show JL _ _ _ _ ((49, .tuple #[.agg ([U64 (vQ z 0 8), U64 (vQ z 8 8), I64 (((vQ z 16 1).toNat:Int)), Slc nb11 0 (mQ z) cp7, Slc nb12 0 (mQ z) cp8, U64 0] ++ cu8 (bQ z (60*mQ z + 18) 16)).toArray, .nilIface]) :: _) [_, _, _, _, _, _, _, _, _, _, ⟨nb11, cu64 (ixQ z 18 (mQ z)) ++ sp7, 22, (0, 0)⟩, ⟨nb12, (seQ z (4*mQ z + 18) (mQ z)).flatMap sealC ++ sp8, 161, (0, 0)⟩]
  refine AA _ (AE rfl) rfl ?_
  refine AA _ (BB rfl rfl) rfl ?_
  refine AA _ (BB rfl rfl) rfl ?_
  refine A2 (BN _ ([U64 0, U64 0, I64 0, .slice none 0 0, .slice none 0 0, U64 0] ++ cu8 (zr8 16)) CG (by kernel_rfl)) rfl ?_
  rintro v1 L1 ⟨nb13, hnb13, rfl, rfl⟩
  show JL _ _ _ _ ((7, Ptr nb13 0) :: _) [_, _, _, _, _, _, _, _, _, _, _, _, ⟨nb13, [U64 0, U64 0, I64 0, .slice none 0 0, .slice none 0 0, U64 0] ++ cu8 (zr8 16), 29, (0, 0)⟩]
  refine AY (AU 12 nb13 22 ([U64 0, U64 0, I64 0, .slice none 0 0, .slice none 0 0, U64 0] ++ cu8 (zr8 16)) 29 ([U64 (vQ z 0 8), U64 (vQ z 8 8), I64 (((vQ z 16 1).toNat:Int)), Slc nb11 0 (mQ z) cp7, Slc nb12 0 (mQ z) cp8, U64 0] ++ cu8 (bQ z (60*mQ z + 18) 16)) rfl rfl rfl A3 (by simp [(BJ _ _ _)]) (CK (by simp [Value.oneCell']) CF) (by simp [(AN 16)]) (A0 (by simp [(AN 16), (BJ _ _ _)]))) rfl ?_
  show JL _ _ _ _ _ [_, _, _, _, _, _, _, _, _, _, _, _, ⟨nb13, [U64 (vQ z 0 8), U64 (vQ z 8 8), I64 (((vQ z 16 1).toNat:Int)), Slc nb11 0 (mQ z) cp7, Slc nb12 0 (mQ z) cp8, U64 0] ++ cu8 (bQ z (60*mQ z + 18) 16), 29, (0, 0)⟩]
  refine AA _ (AH rfl) rfl ?_
  refine AL (AC (AG (AG (AB (AA (.agg #[.slice ao1 k ca1, I64 0]) (AM rfl (A5 AQ AK rfl (AT 3 rfl (AJ _)))) rfl ?_)))))
  refine AY (AX 64 [.agg #[.slice ao1 k ca1, I64 0]] (I64 ((endN 0 k:Int))) (AZ _ Tryd.call64 rfl) (fun w1 hw1 => rend_w ao1 k ca1 0 w1 )) rfl ?_
  show JL _ _ _ _ ((53, I64 ((endN 0 k:Int))) :: _) [_, _, _, _, _, _, _, _, _, _, _, _, _]
  refine AA _ (AH rfl) rfl ?_
  refine AL (AC (AG (AB (AA _ (AE rfl) rfl ?_))))
  refine AA (.bool (decide (((endN 0 k:Int)) ≠ (0:Int)))) (AP rfl rfl fun _ => CE _ _) rfl ?_
  refine AL (AC (BZ _ rfl (decide_eq_false (by rw [hk0]; decide)) ?_))
  refine BL (AC (AG (AB (AA (.agg ([U64 (vQ z 0 8), U64 (vQ z 8 8), I64 (((vQ z 16 1).toNat:Int)), Slc nb11 0 (mQ z) cp7, Slc nb12 0 (mQ z) cp8, U64 0] ++ cu8 (bQ z (60*mQ z + 18) 16)).toArray) (AM rfl (A5 BW A3 (by simp [(BJ _ _ _)]) (AT 12 rfl (AJ _)))) rfl ?_))))
  refine A2 (B3 47 [.agg ([U64 (vQ z 0 8), U64 (vQ z 8 8), I64 (((vQ z 16 1).toNat:Int)), Slc nb11 0 (mQ z) cp7, Slc nb12 0 (mQ z) cp8, U64 0] ++ cu8 (bQ z (60*mQ z + 18) 16)).toArray] _ (AZ _ Tryd.call47 rfl) (fun w1 hw1 => put13_c (vQ z 0 8) (vQ z 8 8) ((vQ z 16 1).toNat) (some ⟨nb11, 0, none⟩) (mQ z) cp7 (ixQ z 18 (mQ z)) (some ⟨nb12, 0, none⟩) (mQ z) cp8 (seQ z (4*mQ z + 18) (mQ z)) (0:UInt64) (bQ z (60*mQ z + 18) 16) (60*(mQ z) + 18) w1 (FF _ _ _) (by omega) (by omega) (by omega) (RdV.of hw1 (AT 10 rfl (A8 (AJ _)))) (seQ_len _ _ _) (by omega) (by omega) (by omega) (RdV.of hw1 (AT 11 rfl (A8 (AJ _)))) (BJ _ _ _) hok.2.2 (.inl (by rw [hok.1]; rfl)) (by omega) (by unfold tktN; rw [if_neg (by rw [hok.1]; decide)]; first | omega | (simp; done) | (simp; omega)) (by omega))) rfl ?_
  rintro v1 L1 ⟨_, ⟨nb14, sp9, cp9, rfl, rfl, hc25, hc26, hc27⟩, rfl⟩
  show JL _ _ _ _ ((67, .tuple #[Slc nb14 0 (60*(mQ z) + 34) cp9, .nilIface]) :: _) [_, _, _, _, _, _, _, _, _, _, _, _, _, ⟨nb14, cu8 ((tktT (vQ z 0 8) (vQ z 8 8) ((vQ z 16 1).toNat) (ixQ z 18 (mQ z)) (seQ z (4*mQ z + 18) (mQ z)) (0:UInt64)) ++ (bQ z (60*mQ z + 18) 16)) ++ sp9, 5, (0, 0)⟩]
  refine AA _ (AE rfl) rfl ?_
  refine AA _ (BB rfl rfl) rfl ?_
  refine AA _ (BB rfl rfl) rfl ?_
  refine AA _ (AH rfl) rfl ?_
  refine AA _ (AH rfl) rfl ?_
  refine AL (AC (AG (AB (AA _ (AE rfl) rfl ?_))))
  refine AA (.bool true) (DT _ _ _ rfl rfl (fun _ => FB ..) fun _ => ES BT) rfl ?_
  refine AA _ (AE rfl) rfl ?_
  refine AS 2 72 true _ (.agg ([U64 (vQ z 0 8), U64 (vQ z 8 8), I64 (((vQ z 16 1).toNat:Int)), Slc nb11 0 (mQ z) cp7, Slc nb12 0 (mQ z) cp8, U64 0] ++ cu8 (bQ z (60*mQ z + 18) 16)).toArray) rfl rfl rfl (AM rfl (A5 BW A3 (by simp [(BJ _ _ _)]) (AT 12 rfl (AJ _)))) rfl ?_
  refine AS 2 72 true _ (.agg ([U64 (vQ z 0 8), U64 (vQ z 8 8), I64 (((vQ z 16 1).toNat:Int)), Slc nb7 0 (mQ z) cp4, Slc nb8 0 (mQ z) cp5, U64 0] ++ cu8 (bQ z (60*mQ z + 18) 16)).toArray) rfl rfl rfl (AM rfl (A5 BW A3 (by simp [(BJ _ _ _)]) (AT 8 rfl (AJ _)))) rfl ?_
  refine DZ 2 72 true _ rfl rfl rfl (AX 49 [.agg ([U64 (vQ z 0 8), U64 (vQ z 8 8), I64 (((vQ z 16 1).toNat:Int)), Slc nb11 0 (mQ z) cp7, Slc nb12 0 (mQ z) cp8, U64 0] ++ cu8 (bQ z (60*mQ z + 18) 16)).toArray, .agg ([U64 (vQ z 0 8), U64 (vQ z 8 8), I64 (((vQ z 16 1).toNat:Int)), Slc nb7 0 (mQ z) cp4, Slc nb8 0 (mQ z) cp5, U64 0] ++ cu8 (bQ z (60*mQ z + 18) 16)).toArray] (.bool (decide ((vQ z 0 8) = (vQ z 0 8) ∧ (vQ z 8 8) = (vQ z 8 8) ∧ (bQ z (60*mQ z + 18) 16) = (bQ z (60*mQ z + 18) 16) ∧ (((vQ z 16 1).toNat:Int)) = (((vQ z 16 1).toNat:Int)) ∧ (0:UInt64) = (0:UInt64) ∧ (ixQ z 18 (mQ z)) = (ixQ z 18 (mQ z)) ∧ (seQ z (4*mQ z + 18) (mQ z)) = (seQ z (4*mQ z + 18) (mQ z))))) (AZ _ Tryd.call49 rfl) (fun w1 hw1 => same13_c (vQ z 0 8) (vQ z 8 8) (((vQ z 16 1).toNat:Int)) (some ⟨nb11, 0, none⟩) (mQ z) cp7 (ixQ z 18 (mQ z)) (some ⟨nb12, 0, none⟩) (mQ z) cp8 (seQ z (4*mQ z + 18) (mQ z)) (0:UInt64) (bQ z (60*mQ z + 18) 16) (vQ z 0 8) (vQ z 8 8) (((vQ z 16 1).toNat:Int)) (some ⟨nb7, 0, none⟩) (mQ z) cp4 (ixQ z 18 (mQ z)) (some ⟨nb8, 0, none⟩) (mQ z) cp5 (seQ z (4*mQ z + 18) (mQ z)) (0:UInt64) (bQ z (60*mQ z + 18) 16) w1 (FF _ _ _) (by omega) (by omega) (by omega) (RdV.of hw1 (AT 10 rfl (A8 (AJ _)))) (seQ_len _ _ _) (by omega) (by omega) (by omega) (RdV.of hw1 (AT 11 rfl (A8 (AJ _)))) (BJ _ _ _) (FF _ _ _) (by omega) (by omega) (by omega) (RdV.of hw1 (AT 6 rfl (A8 (AJ _)))) (seQ_len _ _ _) (by omega) (by omega) (by omega) (RdV.of hw1 (AT 7 rfl (A8 (AJ _)))) (BJ _ _ _))) rfl ?_
  rintro v1 L1 ⟨rfl, rfl⟩
  show JL _ _ _ _ ((75, .bool (decide ((vQ z 0 8) = (vQ z 0 8) ∧ (vQ z 8 8) = (vQ z 8 8) ∧ (bQ z (60*mQ z + 18) 16) = (bQ z (60*mQ z + 18) 16) ∧ (((vQ z 16 1).toNat:Int)) = (((vQ z 16 1).toNat:Int)) ∧ (0:UInt64) = (0:UInt64) ∧ (ixQ z 18 (mQ z)) = (ixQ z 18 (mQ z)) ∧ (seQ z (4*mQ z + 18) (mQ z)) = (seQ z (4*mQ z + 18) (mQ z))))) :: _) [_, _, _, _, _, _, _, _, _, _, _, _, _, _]
  refine AA _ (BO _ rfl rfl rfl) rfl ?_
  refine AA _ (AE rfl) rfl ?_
  refine AS 7 77 true _ _ rfl rfl (decide_eq_true ⟨rfl, rfl, rfl, rfl, rfl, rfl, rfl⟩) (AE rfl) rfl ?_
  refine AS 7 77 true _ (.bool true) rfl rfl (decide_eq_true ⟨rfl, rfl, rfl, rfl, rfl, rfl, rfl⟩) (DT _ _ _ rfl rfl (fun _ => FB ..) fun _ => ES BT) rfl ?_
  refine AA _ (BO _ rfl (decide_eq_true ⟨rfl, rfl, rfl, rfl, rfl, rfl, rfl⟩) rfl) rfl ?_
  refine AA _ (AE rfl) rfl ?_
  refine AS 11 81 true _ _ rfl rfl rfl (AE rfl) rfl ?_
  refine AS 11 81 true _ _ rfl rfl rfl (AE rfl) rfl ?_
  refine DZ 11 81 true _ rfl rfl rfl (AX 24 [Slc nb14 0 (60*(mQ z) + 34) cp9, .slice ax n cx] (.bool (decide (((tktT (vQ z 0 8) (vQ z 8 8) ((vQ z 16 1).toNat) (ixQ z 18 (mQ z)) (seQ z (4*mQ z + 18) (mQ z)) (0:UInt64)) ++ (bQ z (60*mQ z + 18) 16)) = z))) (AZ _ Tryd.call24 rfl) (fun w1 hw1 => bytes_c (some ⟨nb14, 0, none⟩) ax (60*(mQ z) + 34) n cp9 cx ((tktT (vQ z 0 8) (vQ z 8 8) ((vQ z 16 1).toNat) (ixQ z 18 (mQ z)) (seQ z (4*mQ z + 18) (mQ z)) (0:UInt64)) ++ (bQ z (60*mQ z + 18) 16)) z w1 (show ((tktT (vQ z 0 8) (vQ z 8 8) ((vQ z 16 1).toNat) (ixQ z 18 (mQ z)) (seQ z (4*mQ z + 18) (mQ z)) (0:UInt64)) ++ (bQ z (60*mQ z + 18) 16)).length = (60*(mQ z) + 34) from (by rw [List.length_append, (show (tktT (vQ z 0 8) (vQ z 8 8) ((vQ z 16 1).toNat) (ixQ z 18 (mQ z)) (seQ z (4*mQ z + 18) (mQ z)) (0:UInt64)).length = (60*(mQ z) + 18) from (tktT_len (FF _ _ _) (seQ_len _ _ _)).trans (by unfold tktN; rw [if_neg (by rw [hok.1]; decide)]; first | omega | (simp; done) | (simp; omega))), (BJ _ _ _)])) hz (RdB.of hw1 (AT 13 rfl (A8 (AJ _))) (by simp)) (hr.at (M' := []) hw1 (by simp)))) rfl ?_
  rintro v1 L1 ⟨rfl, rfl⟩
  show JL _ _ _ _ ((84, .bool (decide (((tktT (vQ z 0 8) (vQ z 8 8) ((vQ z 16 1).toNat) (ixQ z 18 (mQ z)) (seQ z (4*mQ z + 18) (mQ z)) (0:UInt64)) ++ (bQ z (60*mQ z + 18) 16)) = z))) :: _) [_, _, _, _, _, _, _, _, _, _, _, _, _, _]
  refine AA _ (BO _ rfl rfl rfl) rfl ?_
  refine AA _ (AH rfl) rfl ?_
  refine AL (AC (BH (B5 [false, false, false, false, false, false, false, false, false, false, false, false, false, false] ?_)))
  show JQ _ _ _ _ []
  refine BI (.bool (decide (((tktT (vQ z 0 8) (vQ z 8 8) ((vQ z 16 1).toNat) (ixQ z 18 (mQ z)) (seQ z (4*mQ z + 18) (mQ z)) (0:UInt64)) ++ (bQ z (60*mQ z + 18) 16)) = z))) (res1 Tryd.results11 (BU rfl)) fun w1 hw1 => ?_
  exact ⟨_, [], rfl, ⟨congrArg Value.bool (decide_eq_true (put1_q (by omega) hok.1)), rfl⟩, hw1.sub (by simp) (by simp)⟩
 ·
  refine AB (AA _ (AE rfl) rfl ?_)
  have hz4 : (z).length = n := hz
  refine AY (AX 65 [.slice ax n cx] (.tuple #[.agg ([U64 0, U64 0, I64 0, .slice none 0 0, .slice none 0 0, U64 0] ++ cu8 (zr8 16)).toArray, errV 50 2]) (AZ _ Tryd.call65 rfl) (fun w1 hw1 => parseN_w ax n cx z k w1 ha hz (by omega) (by omega) (by omega) (hr.at (M' := []) hw1 (by simp)) (.inl ⟨hok, hk, hk0⟩))) rfl ?_
  show JL _ _ _ _ ((49, .tuple #[.agg ([U64 0, U64 0, I64 0, .slice none 0 0, .slice none 0 0, U64 0] ++ cu8 (zr8 16)).toArray, errV 50 2]) :: _) [_, _, _, _, _, _, _, _, _, _]
  refine AA _ (AE rfl) rfl ?_
  refine AA _ (BB rfl rfl) rfl ?_
  refine AA _ (BB rfl rfl) rfl ?_
  refine A2 (BN _ ([U64 0, U64 0, I64 0, .slice none 0 0, .slice none 0 0, U64 0] ++ cu8 (zr8 16)) CG (by kernel_rfl)) rfl ?_
  rintro v1 L1 ⟨nb15, hnb15, rfl, rfl⟩
  show JL _ _ _ _ ((7, Ptr nb15 0) :: _) [_, _, _, _, _, _, _, _, _, _, ⟨nb15, [U64 0, U64 0, I64 0, .slice none 0 0, .slice none 0 0, U64 0] ++ cu8 (zr8 16), 29, (0, 0)⟩]
  refine AY (AU 10 nb15 22 ([U64 0, U64 0, I64 0, .slice none 0 0, .slice none 0 0, U64 0] ++ cu8 (zr8 16)) 29 ([U64 0, U64 0, I64 0, .slice none 0 0, .slice none 0 0, U64 0] ++ cu8 (zr8 16)) rfl rfl rfl A3 (by simp [(AN 16)]) (CK (by simp [Value.oneCell']) CF) (by simp [(AN 16)]) (A0 (by simp [(AN 16), (AN 16)]))) rfl ?_
  show JL _ _ _ _ _ [_, _, _, _, _, _, _, _, _, _, ⟨nb15, [U64 0, U64 0, I64 0, .slice none 0 0, .slice none 0 0, U64 0] ++ cu8 (zr8 16), 29, (0, 0)⟩]
  refine AA _ (AH rfl) rfl ?_
  refine AL (AC (AG (AG (AB (AA (.agg #[.slice ao1 k ca1, I64 0]) (AM rfl (A5 AQ AK rfl (AT 3 rfl (AJ _)))) rfl ?_)))))
  refine AY (AX 64 [.agg #[.slice ao1 k ca1, I64 0]] (I64 ((endN 0 k:Int))) (AZ _ Tryd.call64 rfl) (fun w1 hw1 => rend_w ao1 k ca1 0 w1 )) rfl ?_
  show JL _ _ _ _ ((53, I64 ((endN 0 k:Int))) :: _) [_, _, _, _, _, _, _, _, _, _, _]
  refine AA _ (AH rfl) rfl ?_
  refine AL (AC (AG (AB (AA _ (AE rfl) rfl ?_))))
  refine AA (.bool (decide (((endN 0 k:Int)) ≠ (0:Int)))) (AP rfl rfl fun _ => CE _ _) rfl ?_
  refine AL (AC (CM _ rfl (decide_eq_true (by rw [endN_k hk0]; decide)) ?_))
  refine AG (AB (AA _ (AE rfl) rfl ?_))
  refine AY (AX 29 [errV 50 2] (I64 2) (AZ _ Tryd.call29 rfl) (fun w1 hw1 => errNum_w 2 w1)) rfl ?_
  show JL _ _ _ _ ((57, I64 2) :: _) [_, _, _, _, _, _, _, _, _, _, _]
  refine AA _ (AE rfl) rfl ?_
  refine AA (.bool (decide (((2:Int)) = ((endN 0 k:Int))))) (AP rfl rfl fun _ => CA _ _) rfl ?_
  refine AA _ (AE rfl) rfl ?_
  refine AS 4 60 true _ (.agg ([U64 0, U64 0, I64 0, .slice none 0 0, .slice none 0 0, U64 0] ++ cu8 (zr8 16)).toArray) rfl rfl (decide_eq_true (by rw [endN_k hk0]; rfl)) (AM rfl (A5 BW A3 (by simp [(AN 16)]) (AT 10 rfl (AJ _)))) rfl ?_
  refine AS 4 60 true _ (.agg ([U64 0, U64 0, I64 0, .slice none 0 0, .slice none 0 0, U64 0] ++ cu8 (zr8 16)).toArray) rfl rfl (decide_eq_true (by rw [endN_k hk0]; rfl)) (DG [] _ rfl (fun _ => by kernel_rfl)) rfl ?_
  refine DZ 4 60 true _ rfl rfl (decide_eq_true (by rw [endN_k hk0]; rfl)) (AX 49 [.agg ([U64 0, U64 0, I64 0, .slice none 0 0, .slice none 0 0, U64 0] ++ cu8 (zr8 16)).toArray, .agg ([U64 0, U64 0, I64 0, .slice none 0 0, .slice none 0 0, U64 0] ++ cu8 (zr8 16)).toArray] (.bool (decide ((0:UInt64) = (0:UInt64) ∧ (0:UInt64) = (0:UInt64) ∧ (zr8 16) = (zr8 16) ∧ (0:Int) = (0:Int) ∧ (0:UInt64) = (0:UInt64) ∧ ([] : List UInt64) = ([] : List UInt64) ∧ ([] : List SealR) = ([] : List SealR)))) (AZ _ Tryd.call49 rfl) (fun w1 hw1 => same13_c (0:UInt64) (0:UInt64) (0:Int) none 0 0 ([] : List UInt64) none 0 0 ([] : List SealR) (0:UInt64) (zr8 16) (0:UInt64) (0:UInt64) (0:Int) none 0 0 ([] : List UInt64) none 0 0 ([] : List SealR) (0:UInt64) (zr8 16) w1 rfl (by omega) (by omega) (by omega) RdV.nil rfl (by omega) (by omega) (by omega) RdV.nil (AN 16) rfl (by omega) (by omega) (by omega) RdV.nil rfl (by omega) (by omega) (by omega) RdV.nil (AN 16))) rfl ?_
  rintro v1 L1 ⟨rfl, rfl⟩
  show JL _ _ _ _ ((63, .bool (decide ((0:UInt64) = (0:UInt64) ∧ (0:UInt64) = (0:UInt64) ∧ (zr8 16) = (zr8 16) ∧ (0:Int) = (0:Int) ∧ (0:UInt64) = (0:UInt64) ∧ ([] : List UInt64) = ([] : List UInt64) ∧ ([] : List SealR) = ([] : List SealR)))) :: _) [_, _, _, _, _, _, _, _, _, _, _]
  refine AA _ (BO _ rfl (decide_eq_true (by rw [endN_k hk0]; rfl)) rfl) rfl ?_
  refine AA _ (AH rfl) rfl ?_
  refine AL (AC (BH (A4 (B5 [false, false, false, false, false, false, false, false, false, false, false] ?_))))
  show JQ _ _ _ _ []
  refine BI (.bool (decide ((0:UInt64) = (0:UInt64) ∧ (0:UInt64) = (0:UInt64) ∧ (zr8 16) = (zr8 16) ∧ (0:Int) = (0:Int) ∧ (0:UInt64) = (0:UInt64) ∧ ([] : List UInt64) = ([] : List UInt64) ∧ ([] : List SealR) = ([] : List SealR)))) (res1 Tryd.results11 (BU rfl)) fun w1 hw1 => ?_
  exact ⟨_, [], rfl, ⟨congrArg Value.bool (decide_eq_true ⟨rfl, rfl, rfl, rfl, rfl, rfl, rfl⟩), rfl⟩, hw1.sub (by simp) (by simp)⟩
theorem tpB_c (ax : Option Addr) (n cx : Nat) (z : List UInt8)  (w : World) (ha : ax.isNone = false) (hz : z.length = n) (hn : n ≤ 20000) (hc : n ≤ cx) (hcm : cx ≤ maxLen) (hr : RdB w [] ax z) (hbad : BadQ z) (hG : GLs w)  : Calls Tryd.prog 11 #[.slice ax n cx] w (Post w [] (fun v L => v = .bool true ∧ L = [])) := by
 have hmx : maxLen = 9223372036854775807 := rfl
 have hk9 := vQ_lt1 z 17
 have hmQ := mQ_eq z
 refine enter w [] 86 [] [.slice ax n cx] Tryd.func11 rfl rfl (by simp) (BY (by simp) (by simp) (by simp)) ?_
 show JC _ _ _ [(0, .slice ax n cx)] _
 refine AG (AB (AA _ (AH rfl) rfl ?_))
 refine AL (AC (AG (AG (AB (A2 (AX 43 [] (.bool true) (AZ _ Tryd.call43 rfl) (fun w1 hw1 => alive13_c  w1 (hG.at hw1))) rfl ?_)))))
 rintro v1 L1 ⟨rfl, rfl⟩
 show JL _ _ _ _ ((12, .bool true) :: _) []
 refine AA (.bool (!true)) (FD rfl) rfl ?_
 refine AL (AC (BZ _ rfl rfl ?_))
 refine BL (AC (AG (AG (AB (AA _ (AE rfl) rfl ?_)))))
 refine AA (I64 n) (DS AR rfl) rfl ?_
 refine AA (.bool (decide ((20000:Int) < ((n:Int))))) (AP rfl rfl fun _ => EL _ _) rfl ?_
 refine AL (AC (BZ _ rfl (decide_eq_false (by omega)) ?_))
 refine BL (AC (AG (AB (AA _ (AE rfl) rfl ?_))))
 refine AA (.agg #[.slice ax n cx, I64 0]) (DG [(0, .slice ax n cx)] _ rfl (fun _ => bld107_0 rfl)) rfl ?_
 have hz1 : (z).length = n := hz
 refine A2 (B3 58 [.agg #[.slice ax n cx, I64 0]] _ (AZ _ Tryd.call58 rfl) (fun w1 hw1 => rreadB_w ax n cx z w1 hz (by omega) (by omega) (by omega) (hr.at (M' := []) hw1 (by simp)) hbad)) rfl ?_
 rintro v1 L1 ⟨_, ⟨ao1, ca2, ca1, rfl, rfl⟩, rfl⟩
 show JL _ _ _ _ ((20, .tuple #[.agg ([U64 0, U64 0, I64 0, .slice none 0 0, .slice none 0 0, U64 0] ++ cu8 (zr8 16)).toArray, .agg #[.slice ao1 ca2 ca1, I64 2]]) :: _) []
 refine AA _ (AE rfl) rfl ?_
 refine AA _ (BB rfl rfl) rfl ?_
 refine AA _ (BB rfl rfl) rfl ?_
 refine A2 (BN _ ([U64 0, U64 0, I64 0, .slice none 0 0, .slice none 0 0, U64 0] ++ cu8 (zr8 16)) Tryd.zeroValue38 (by kernel_rfl)) rfl ?_
 rintro v1 L1 ⟨nb1, hnb1, rfl, rfl⟩
 show JL _ _ _ _ ((3, Ptr nb1 0) :: _) [⟨nb1, [U64 0, U64 0, I64 0, .slice none 0 0, .slice none 0 0, U64 0] ++ cu8 (zr8 16), 38, (0, 0)⟩]
 refine A2 (BN _ ([.slice none 0 0, I64 0]) C7 (by kernel_rfl)) rfl ?_
 rintro v1 L1 ⟨nb2, hnb2, rfl, rfl⟩
 show JL _ _ _ _ ((4, Ptr nb2 0) :: _) [_, ⟨nb2, [.slice none 0 0, I64 0], 107, (0, 0)⟩]
 refine AY (AU 0 nb1 22 ([U64 0, U64 0, I64 0, .slice none 0 0, .slice none 0 0, U64 0] ++ cu8 (zr8 16)) 38 ([U64 0, U64 0, I64 0, .slice none 0 0, .slice none 0 0, U64 0] ++ cu8 (zr8 16)) rfl rfl rfl B7 (by simp [(AN 16)]) (CK (by simp [Value.oneCell']) CF) (by simp [(AN 16)]) (A0 (by simp [(AN 16), (AN 16)]))) rfl ?_
 show JL _ _ _ _ _ [⟨nb1, [U64 0, U64 0, I64 0, .slice none 0 0, .slice none 0 0, U64 0] ++ cu8 (zr8 16), 38, (0, 0)⟩, _]
 refine AY (AU 1 nb2 2 ([.slice none 0 0, I64 0]) 107 ([.slice ao1 ca2 ca1, I64 2]) rfl rfl rfl AK rfl (by simp [Value.oneCell']) (Nat.le_of_ble_eq_true rfl) (A0 (by simp []))) rfl ?_
 show JL _ _ _ _ _ [_, ⟨nb2, [.slice ao1 ca2 ca1, I64 2], 107, (0, 0)⟩]
 refine AL (AC (AG (AB (AA _ (AE rfl) rfl ?_))))
 refine A2 (B3 59 [.slice ax n cx] _ (AZ _ Tryd.call59 rfl) (fun w1 hw1 => from_c ax n cx z w1 ha hz (by omega) (hr.at (M' := []) hw1 (by simp)))) rfl ?_
 rintro v1 L1 ⟨_, ⟨nb3, nb4, sp1, cp1, rfl, rfl, hc1, hc2, hc3⟩, rfl⟩
 show JL _ _ _ _ ((24, Ptr nb3 0) :: _) [_, _, ⟨nb3, [.nilIface, Slc nb4 0 n cp1], 204, (0, 0)⟩, ⟨nb4, cu8 z ++ sp1, 5, (0, 0)⟩]
 refine AA _ (AH rfl) rfl ?_
 refine AL (AC (AG (AB (AA _ (AE rfl) rfl ?_))))
 have hz2 : (z).length = n := hz
 refine A2 (DE 60 _ [false, false, true, false] [nb3] _ (AZ [Ptr nb3 0] Tryd.call60 rfl) rfl (fun w1 hw1 => treadB_w nb3 (some ⟨nb4, 0, none⟩) n cp1 z w1 (hw1.ent _ (List.mem_of_getElem? (i := 2) rfl)) hz (by omega) (by omega) (by omega) (RdB.of hw1 (AT 3 rfl (A8 (AJ _))) (by intro _; simp only [List.mem_cons, List.not_mem_nil, or_false, not_or]; exact hw1.ne (i := 3) (j := 2) rfl rfl (by decide))) hbad)) rfl ?_
 rintro v1 L1 ⟨_, ⟨ao2, ca4, ca3, rfl, rfl⟩, rfl⟩
 show JL _ _ _ _ ((26, .agg ([U64 0, U64 0, I64 0, .slice none 0 0, .slice none 0 0, U64 0] ++ cu8 (zr8 16)).toArray) :: _) [_, _, _, ⟨nb3, [errV 50 2, .slice ao2 ca4 ca3], 204, (0, 0)⟩]
 refine A2 (BN _ ([U64 0, U64 0, I64 0, .slice none 0 0, .slice none 0 0, U64 0] ++ cu8 (zr8 16)) CG (by kernel_rfl)) rfl ?_
 rintro v1 L1 ⟨nb5, hnb5, rfl, rfl⟩
 show JL _ _ _ _ ((6, Ptr nb5 0) :: _) [_, _, _, _, ⟨nb5, [U64 0, U64 0, I64 0, .slice none 0 0, .slice none 0 0, U64 0] ++ cu8 (zr8 16), 29, (0, 0)⟩]
 refine AY (AU 4 nb5 22 ([U64 0, U64 0, I64 0, .slice none 0 0, .slice none 0 0, U64 0] ++ cu8 (zr8 16)) 29 ([U64 0, U64 0, I64 0, .slice none 0 0, .slice none 0 0, U64 0] ++ cu8 (zr8 16)) rfl rfl rfl A3 (by simp [(AN 16)]) (CK (by simp [Value.oneCell']) CF) (by simp [(AN 16)]) (A0 (by simp [(AN 16), (AN 16)]))) rfl ?_
 show JL _ _ _ _ _ [_, _, _, _, ⟨nb5, [U64 0, U64 0, I64 0, .slice none 0 0, .slice none 0 0, U64 0] ++ cu8 (zr8 16), 29, (0, 0)⟩]
 refine AL (AC (AG (AG (CH 86 8 [(0, .agg ([U64 0, U64 0, I64 0, .slice none 0 0, .slice none 0 0, U64 0] ++ cu8 (zr8 16)).toArray), (2, .agg ([U64 0, U64 0, I64 0, .slice none 0 0, .slice none 0 0, U64 0] ++ cu8 (zr8 16)).toArray)] BP rfl (by decide +kernel) ?_))))
 refine B6 ⟨[], [0, 2], [], [0, 2], [1]⟩ 1 rfl rfl (by decide +kernel) rfl ⟨⟨_, rfl, AI rfl (AM rfl (A5 BW A3 (by simp [(AN 16)]) (AT 4 rfl (AJ _))))⟩, ⟨_, rfl, AI rfl (AM rfl (A5 DJ B7 (by simp [(AN 16)]) (AT 0 rfl (AJ _))))⟩, trivial⟩ rfl (A7 rfl (AX 44 [.agg ([U64 0, U64 0, I64 0, .slice none 0 0, .slice none 0 0, U64 0] ++ cu8 (zr8 16)).toArray] (.agg ([U64 0, U64 0, I64 0, .slice none 0 0, .slice none 0 0, U64 0] ++ cu8 (zr8 16)).toArray) (AZ _ Tryd.call44 rfl) (fun w1 hw1 => docTZ_c (0:UInt64) (0:UInt64) (0:Int) none 0 0 ([] : List UInt64) none 0 (0:UInt64) (zr8 16) w1 rfl (by omega) (by omega) (by omega) RdV.nil (by omega) (fun _ => rfl) (AN 16)))) ?_
 show DP _ _ _ _ _ _ _ _ [_, _, _, _, _]
 refine C5 ⟨[1], [0, 2], [0], [2], [3]⟩ 3 _ rfl rfl (by decide +kernel) rfl ⟨⟨_, rfl, AI rfl (AM rfl (A5 DJ B7 (by simp [(AN 16)]) (AT 0 rfl (AJ _))))⟩, trivial⟩ rfl (A7 rfl (AX 51 [.agg ([U64 0, U64 0, I64 0, .slice none 0 0, .slice none 0 0, U64 0] ++ cu8 (zr8 16)).toArray, .agg ([U64 0, U64 0, I64 0, .slice none 0 0, .slice none 0 0, U64 0] ++ cu8 (zr8 16)).toArray] (.bool (decide ((0:UInt64) = (0:UInt64) ∧ (0:UInt64) = (0:UInt64) ∧ (zr8 16) = (zr8 16) ∧ (0:Int) = (0:Int) ∧ (0:UInt64) = (0:UInt64) ∧ ([] : List UInt64) = ([] : List UInt64) ∧ ([] : List SealR) = ([] : List SealR)))) (AZ _ Tryd.call51 rfl) (fun w1 hw1 => rsame13_c (0:UInt64) (0:UInt64) (0:Int) none 0 0 ([] : List UInt64) none 0 0 ([] : List SealR) (0:UInt64) (zr8 16) (0:UInt64) (0:UInt64) (0:Int) none 0 0 ([] : List UInt64) none 0 0 ([] : List SealR) (0:UInt64) (zr8 16) w1 rfl (by omega) (by omega) (by omega) RdV.nil rfl (by omega) (by omega) (by omega) RdV.nil (AN 16) rfl (by omega) (by omega) (by omega) RdV.nil rfl (by omega) (by omega) (by omega) RdV.nil (AN 16)))) ?_
 rintro v1 L1 ⟨rfl, rfl⟩
 refine ⟨[(4, .bool (!(decide ((0:UInt64) = (0:UInt64) ∧ (0:UInt64) = (0:UInt64) ∧ (zr8 16) = (zr8 16) ∧ (0:Int) = (0:Int) ∧ (0:UInt64) = (0:UInt64) ∧ ([] : List UInt64) = ([] : List UInt64) ∧ ([] : List SealR) = ([] : List SealR))))), (5, .bool (!(decide ((0:UInt64) = (0:UInt64) ∧ (0:UInt64) = (0:UInt64) ∧ (zr8 16) = (zr8 16) ∧ (0:Int) = (0:Int) ∧ (0:UInt64) = (0:UInt64) ∧ ([] : List UInt64) = ([] : List UInt64) ∧ ([] : List SealR) = ([] : List SealR))))), (6, Ptr nb3 0), (8, .agg #[.slice ao1 ca2 ca1, I64 2])], ?_⟩
 show DP _ _ _ _ _ _ _ _ [_, _, _, _, _]
 refine B6 ⟨[1, 3], [0, 2, 4, 5, 6, 8], [0, 2], [4, 5, 6, 8], [7]⟩ 7 rfl rfl (by decide +kernel) rfl ⟨⟨_, rfl, AI rfl (FD rfl)⟩, BQ rfl rfl rfl, ⟨_, rfl, B1 5 32 false _ rfl rfl rfl (bnotT (decide_eq_true ⟨rfl, rfl, rfl, rfl, rfl, rfl, rfl⟩)) (AE rfl)⟩, ⟨_, rfl, B1 5 32 false _ rfl rfl rfl (bnotT (decide_eq_true ⟨rfl, rfl, rfl, rfl, rfl, rfl, rfl⟩)) (AM rfl (A5 AQ AK rfl (AT 1 rfl (AJ _))))⟩, trivial⟩ rfl (D9 5 32 false _ rfl rfl rfl (bnotT (decide_eq_true ⟨rfl, rfl, rfl, rfl, rfl, rfl, rfl⟩)) (AX 61 [Ptr nb3 0] (I64 ((leftN 2 ca4:Int))) (AZ _ EM rfl) (fun w1 hw1 => left_w nb3 2 ao2 ca4 ca3 w1 (RdA.of hw1 (AT 3 rfl (AJ _)) (by simp))))) ?_
 show DP _ _ _ _ _ _ _ _ [_, _, _, _, _]
 refine C5 ⟨[1, 3, 7], [0, 2, 4, 5, 6, 8], [0, 2, 4, 5, 6], [8], [9]⟩ 9 _ rfl rfl (by decide +kernel) rfl ⟨⟨_, rfl, B1 5 32 false _ rfl rfl rfl (bnotT (decide_eq_true ⟨rfl, rfl, rfl, rfl, rfl, rfl, rfl⟩)) (AM rfl (A5 AQ AK rfl (AT 1 rfl (AJ _))))⟩, trivial⟩ rfl (D9 5 32 false _ rfl rfl rfl (bnotT (decide_eq_true ⟨rfl, rfl, rfl, rfl, rfl, rfl, rfl⟩)) (AX 62 [.agg #[.slice ao1 ca2 ca1, I64 2]] (I64 ((leftN 2 ca2:Int))) (AZ _ Tryd.call62 rfl) (fun w1 hw1 => rleft_w ao1 ca2 ca1 2 w1 ))) ?_
 rintro v1 L1 ⟨rfl, rfl⟩
 refine ⟨[(10, .bool (decide (((leftN 2 ca4:Int)) ≠ ((leftN 2 ca2:Int))))), (11, .bool (decide (((leftN 2 ca4:Int)) ≠ ((leftN 2 ca2:Int))))), (12, .bool (decide (((leftN 2 ca4:Int)) ≠ ((leftN 2 ca2:Int))))), (13, Ptr nb3 0), (16, .agg #[.slice ao1 ca2 ca1, I64 2])], ?_⟩
 show DP _ _ _ _ _ _ _ _ [_, _, _, _, _]
 refine B6 ⟨[1, 3, 7, 9], [0, 2, 4, 5, 6, 8, 10, 11, 12, 13, 16], [0, 2, 4, 5, 6, 8], [10, 11, 12, 13, 16], [14]⟩ 14 rfl rfl (by decide +kernel) rfl ⟨⟨_, rfl, B1 5 32 false _ rfl rfl rfl (bnotT (decide_eq_true ⟨rfl, rfl, rfl, rfl, rfl, rfl, rfl⟩)) (AP rfl rfl fun _ => CE _ _)⟩, ⟨_, rfl, AI rfl (BF _ rfl (bnotT (decide_eq_true ⟨rfl, rfl, rfl, rfl, rfl, rfl, rfl⟩)) rfl)⟩, BQ rfl rfl rfl, ⟨_, rfl, B1 12 39 false _ rfl rfl rfl (decide_eq_false (by simp [leftN])) (AE rfl)⟩, ⟨_, rfl, B1 12 39 false _ rfl rfl rfl (decide_eq_false (by simp [leftN])) (AM rfl (A5 AQ AK rfl (AT 1 rfl (AJ _))))⟩, trivial⟩ rfl (D9 12 39 false _ rfl rfl rfl (decide_eq_false (by simp [leftN])) (AX 63 [Ptr nb3 0] (errV 50 (endN 2 ca4)) (AZ _ EF rfl) (fun w1 hw1 => end_w nb3 2 ao2 ca4 ca3 w1 (RdA.of hw1 (AT 3 rfl (AJ _)) (by simp))))) ?_
 show DP _ _ _ _ _ _ _ _ [_, _, _, _, _]
 refine B6 ⟨[1, 3, 7, 9, 14], [0, 2, 4, 5, 6, 8, 10, 11, 12, 13, 16], [0, 2, 4, 5, 6, 8, 10, 11, 12, 13], [16], [15]⟩ 15 rfl rfl (by decide +kernel) rfl ⟨⟨_, rfl, B1 12 39 false _ rfl rfl rfl (decide_eq_false (by simp [leftN])) (AM rfl (A5 AQ AK rfl (AT 1 rfl (AJ _))))⟩, trivial⟩ rfl (D9 12 39 false _ rfl rfl rfl (decide_eq_false (by simp [leftN])) (AX 29 [errV 50 (endN 2 ca4)] (I64 ((endN 2 ca4:Int))) (AZ _ Tryd.call29 rfl) (fun w1 hw1 => errNum_w (endN 2 ca4) w1))) ?_
 show DP _ _ _ _ _ _ _ _ [_, _, _, _, _]
 refine C5 ⟨[1, 3, 7, 9, 14, 15], [0, 2, 4, 5, 6, 8, 10, 11, 12, 13, 16], [0, 2, 4, 5, 6, 8, 10, 11, 12, 13], [16], [17]⟩ 17 _ rfl rfl (by decide +kernel) rfl ⟨⟨_, rfl, B1 12 39 false _ rfl rfl rfl (decide_eq_false (by simp [leftN])) (AM rfl (A5 AQ AK rfl (AT 1 rfl (AJ _))))⟩, trivial⟩ rfl (D9 12 39 false _ rfl rfl rfl (decide_eq_false (by simp [leftN])) (AX 64 [.agg #[.slice ao1 ca2 ca1, I64 2]] (I64 ((endN 2 ca2:Int))) (AZ _ Tryd.call64 rfl) (fun w1 hw1 => rend_w ao1 ca2 ca1 2 w1 ))) ?_
 rintro v1 L1 ⟨rfl, rfl⟩
 refine ⟨[(18, .bool (decide (((endN 2 ca4:Int)) ≠ ((endN 2 ca2:Int))))), (19, .bool (decide (((endN 2 ca4:Int)) ≠ ((endN 2 ca2:Int)))))], ?_⟩
 show DP _ _ _ _ _ _ _ _ [_, _, _, _, _]
 refine C2 ⟨[1, 3, 7, 9, 14, 15, 17], [0, 2, 4, 5, 6, 8, 10, 11, 12, 13, 16, 18, 19], [0, 2, 4, 5, 6, 8, 10, 11, 12, 13, 16], [18, 19], []⟩ rfl rfl (by decide +kernel) rfl ⟨⟨_, rfl, B1 12 39 false _ rfl rfl rfl (decide_eq_false (by simp [leftN])) (AP rfl rfl fun _ => CE _ _)⟩, ⟨_, rfl, AI rfl (BF _ rfl (decide_eq_false (by simp [leftN])) rfl)⟩, trivial⟩ ?_
 refine CB (F' := [(46, .bool (decide (((endN 2 ca4:Int)) ≠ ((endN 2 ca2:Int))))), (0, .slice ax n cx), (2, .bool false), (4, Ptr nb2 0), (6, Ptr nb5 0)]) (by kernel_rfl) ?_
 refine AC (BZ _ rfl (decide_eq_false (by simp [endN])) ?_)
 refine BL (AC (AG (AB (AA _ (AE rfl) rfl ?_))))
 have hz3 : (z).length = n := hz
 refine AY (AX 65 [.slice ax n cx] (.tuple #[.agg ([U64 0, U64 0, I64 0, .slice none 0 0, .slice none 0 0, U64 0] ++ cu8 (zr8 16)).toArray, errV 50 2]) (AZ _ Tryd.call65 rfl) (fun w1 hw1 => parseB_c ax n cx z w1 ha hz (by omega) (by omega) (by omega) (hr.at (M' := []) hw1 (by simp)) hbad)) rfl ?_
 show JL _ _ _ _ ((49, .tuple #[.agg ([U64 0, U64 0, I64 0, .slice none 0 0, .slice none 0 0, U64 0] ++ cu8 (zr8 16)).toArray, errV 50 2]) :: _) [_, _, _, _, _]
 refine AA _ (AE rfl) rfl ?_
 refine AA _ (BB rfl rfl) rfl ?_
 refine AA _ (BB rfl rfl) rfl ?_
 refine A2 (BN _ ([U64 0, U64 0, I64 0, .slice none 0 0, .slice none 0 0, U64 0] ++ cu8 (zr8 16)) CG (by kernel_rfl)) rfl ?_
 rintro v1 L1 ⟨nb6, hnb6, rfl, rfl⟩
 show JL _ _ _ _ ((7, Ptr nb6 0) :: _) [_, _, _, _, _, ⟨nb6, [U64 0, U64 0, I64 0, .slice none 0 0, .slice none 0 0, U64 0] ++ cu8 (zr8 16), 29, (0, 0)⟩]
 refine AY (AU 5 nb6 22 ([U64 0, U64 0, I64 0, .slice none 0 0, .slice none 0 0, U64 0] ++ cu8 (zr8 16)) 29 ([U64 0, U64 0, I64 0, .slice none 0 0, .slice none 0 0, U64 0] ++ cu8 (zr8 16)) rfl rfl rfl A3 (by simp [(AN 16)]) (CK (by simp [Value.oneCell']) CF) (by simp [(AN 16)]) (A0 (by simp [(AN 16), (AN 16)]))) rfl ?_
 show JL _ _ _ _ _ [_, _, _, _, _, ⟨nb6, [U64 0, U64 0, I64 0, .slice none 0 0, .slice none 0 0, U64 0] ++ cu8 (zr8 16), 29, (0, 0)⟩]
 refine AA _ (AH rfl) rfl ?_
 refine AL (AC (AG (AG (AB (AA (.agg #[.slice ao1 ca2 ca1, I64 2]) (AM rfl (A5 AQ AK rfl (AT 1 rfl (AJ _)))) rfl ?_)))))
 refine AY (AX 64 [.agg #[.slice ao1 ca2 ca1, I64 2]] (I64 ((endN 2 ca2:Int))) (AZ _ Tryd.call64 rfl) (fun w1 hw1 => rend_w ao1 ca2 ca1 2 w1 )) rfl ?_
 show JL _ _ _ _ ((53, I64 ((endN 2 ca2:Int))) :: _) [_, _, _, _, _, _]
 refine AA _ (AH rfl) rfl ?_
 refine AL (AC (AG (AB (AA _ (AE rfl) rfl ?_))))
 refine AA (.bool (decide (((endN 2 ca2:Int)) ≠ (0:Int)))) (AP rfl rfl fun _ => CE _ _) rfl ?_
 refine AL (AC (CM _ rfl (decide_eq_true (by simp [endN])) ?_))
 refine AG (AB (AA _ (AE rfl) rfl ?_))
 refine AY (AX 29 [errV 50 2] (I64 2) (AZ _ Tryd.call29 rfl) (fun w1 hw1 => errNum_w 2 w1)) rfl ?_
 show JL _ _ _ _ ((57, I64 2) :: _) [_, _, _, _, _, _]
 refine AA _ (AE rfl) rfl ?_
 refine AA (.bool (decide (((2:Int)) = ((endN 2 ca2:Int))))) (AP rfl rfl fun _ => CA _ _) rfl ?_
 refine AA _ (AE rfl) rfl ?_
 refine AS 4 60 true _ (.agg ([U64 0, U64 0, I64 0, .slice none 0 0, .slice none 0 0, U64 0] ++ cu8 (zr8 16)).toArray) rfl rfl (decide_eq_true (by simp [endN])) (AM rfl (A5 BW A3 (by simp [(AN 16)]) (AT 5 rfl (AJ _)))) rfl ?_
 refine AS 4 60 true _ (.agg ([U64 0, U64 0, I64 0, .slice none 0 0, .slice none 0 0, U64 0] ++ cu8 (zr8 16)).toArray) rfl rfl (decide_eq_true (by simp [endN])) (DG [] _ rfl (fun _ => by kernel_rfl)) rfl ?_
 refine DZ 4 60 true _ rfl rfl (decide_eq_true (by simp [endN])) (AX 49 [.agg ([U64 0, U64 0, I64 0, .slice none 0 0, .slice none 0 0, U64 0] ++ cu8 (zr8 16)).toArray, .agg ([U64 0, U64 0, I64 0, .slice none 0 0, .slice none 0 0, U64 0] ++ cu8 (zr8 16)).toArray] (.bool (decide ((0:UInt64) = (0:UInt64) ∧ (0:UInt64) = (0:UInt64) ∧ (zr8 16) = (zr8 16) ∧ (0:Int) = (0:Int) ∧ (0:UInt64) = (0:UInt64) ∧ ([] : List UInt64) = ([] : List UInt64) ∧ ([] : List SealR) = ([] : List SealR)))) (AZ _ Tryd.call49 rfl) (fun w1 hw1 => same13_c (0:UInt64) (0:UInt64) (0:Int) none 0 0 ([] : List UInt64) none 0 0 ([] : List SealR) (0:UInt64) (zr8 16) (0:UInt64) (0:UInt64) (0:Int) none 0 0 ([] : List UInt64) none 0 0 ([] : List SealR) (0:UInt64) (zr8 16) w1 rfl (by omega) (by omega) (by omega) RdV.nil rfl (by omega) (by omega) (by omega) RdV.nil (AN 16) rfl (by omega) (by omega) (by omega) RdV.nil rfl (by omega) (by omega) (by omega) RdV.nil (AN 16))) rfl ?_
 rintro v1 L1 ⟨rfl, rfl⟩
 show JL _ _ _ _ ((63, .bool (decide ((0:UInt64) = (0:UInt64) ∧ (0:UInt64) = (0:UInt64) ∧ (zr8 16) = (zr8 16) ∧ (0:Int) = (0:Int) ∧ (0:UInt64) = (0:UInt64) ∧ ([] : List UInt64) = ([] : List UInt64) ∧ ([] : List SealR) = ([] : List SealR)))) :: _) [_, _, _, _, _, _]
 refine AA _ (BO _ rfl (decide_eq_true (by simp [endN])) rfl) rfl ?_
 refine AA _ (AH rfl) rfl ?_
 refine AL (AC (BH (A4 (B5 [false, false, false, false, false, false] ?_))))
 show JQ _ _ _ _ []
 refine BI (.bool (decide ((0:UInt64) = (0:UInt64) ∧ (0:UInt64) = (0:UInt64) ∧ (zr8 16) = (zr8 16) ∧ (0:Int) = (0:Int) ∧ (0:UInt64) = (0:UInt64) ∧ ([] : List UInt64) = ([] : List UInt64) ∧ ([] : List SealR) = ([] : List SealR)))) (res1 Tryd.results11 (BU rfl)) fun w1 hw1 => ?_
 exact ⟨_, [], rfl, ⟨congrArg Value.bool (decide_eq_true ⟨rfl, rfl, rfl, rfl, rfl, rfl, rfl⟩), rfl⟩, hw1.sub (by simp) (by simp)⟩
theorem tpN_c  (w : World) (hG : GLs w)  : Calls Tryd.prog 11 #[.slice none 0 0] w (Post w [] (fun v L => v = .bool true ∧ L = [])) := by
 have hmx : maxLen = 9223372036854775807 := rfl
 refine enter w [] 86 [] [.slice none 0 0] Tryd.func11 rfl rfl (by simp) (BY (by simp) (by simp) (by simp)) ?_
 show JC _ _ _ [(0, .slice none 0 0)] _
 refine AG (AB (AA _ (AH rfl) rfl ?_))
 refine AL (AC (AG (AG (AB (A2 (AX 43 [] (.bool true) (AZ _ Tryd.call43 rfl) (fun w1 hw1 => alive13_c  w1 (hG.at hw1))) rfl ?_)))))
 rintro v1 L1 ⟨rfl, rfl⟩
 show JL _ _ _ _ ((12, .bool true) :: _) []
 refine AA (.bool (!true)) (FD rfl) rfl ?_
 refine AL (AC (BZ _ rfl rfl ?_))
 refine BL (AC (AG (AG (AB (AA _ (AE rfl) rfl ?_)))))
 refine AA (I64 0) (DS AR rfl) rfl ?_
 refine AA (.bool (decide ((20000:Int) < (0:Int)))) (AP rfl rfl fun _ => EL _ _) rfl ?_
 refine AL (AC (BZ _ rfl (by decide) ?_))
 refine BL (AC (AG (AB (AA _ (AE rfl) rfl ?_))))
 refine AA (.agg #[.slice none 0 0, I64 0]) (DG [(0, .slice none 0 0)] _ rfl (fun _ => bld107_0 rfl)) rfl ?_
 have hz1 : (([] : List UInt8)).length = 0 := rfl
 refine A2 (B3 58 [.agg #[.slice none 0 0, I64 0]] _ (AZ _ Tryd.call58 rfl) (fun w1 hw1 => rreadB_w none 0 0 ([] : List UInt8) w1 rfl (by omega) (by omega) (by omega) RdB.nil bad_nil)) rfl ?_
 rintro v1 L1 ⟨_, ⟨ao1, ca2, ca1, rfl, rfl⟩, rfl⟩
 show JL _ _ _ _ ((20, .tuple #[.agg ([U64 0, U64 0, I64 0, .slice none 0 0, .slice none 0 0, U64 0] ++ cu8 (zr8 16)).toArray, .agg #[.slice ao1 ca2 ca1, I64 2]]) :: _) []
 refine AA _ (AE rfl) rfl ?_
 refine AA _ (BB rfl rfl) rfl ?_
 refine AA _ (BB rfl rfl) rfl ?_
 refine A2 (BN _ ([U64 0, U64 0, I64 0, .slice none 0 0, .slice none 0 0, U64 0] ++ cu8 (zr8 16)) Tryd.zeroValue38 (by kernel_rfl)) rfl ?_
 rintro v1 L1 ⟨nb1, hnb1, rfl, rfl⟩
 show JL _ _ _ _ ((3, Ptr nb1 0) :: _) [⟨nb1, [U64 0, U64 0, I64 0, .slice none 0 0, .slice none 0 0, U64 0] ++ cu8 (zr8 16), 38, (0, 0)⟩]
 refine A2 (BN _ ([.slice none 0 0, I64 0]) C7 (by kernel_rfl)) rfl ?_
 rintro v1 L1 ⟨nb2, hnb2, rfl, rfl⟩
 show JL _ _ _ _ ((4, Ptr nb2 0) :: _) [_, ⟨nb2, [.slice none 0 0, I64 0], 107, (0, 0)⟩]
 refine AY (AU 0 nb1 22 ([U64 0, U64 0, I64 0, .slice none 0 0, .slice none 0 0, U64 0] ++ cu8 (zr8 16)) 38 ([U64 0, U64 0, I64 0, .slice none 0 0, .slice none 0 0, U64 0] ++ cu8 (zr8 16)) rfl rfl rfl B7 (by simp [(AN 16)]) (CK (by simp [Value.oneCell']) CF) (by simp [(AN 16)]) (A0 (by simp [(AN 16), (AN 16)]))) rfl ?_
 show JL _ _ _ _ _ [⟨nb1, [U64 0, U64 0, I64 0, .slice none 0 0, .slice none 0 0, U64 0] ++ cu8 (zr8 16), 38, (0, 0)⟩, _]
 refine AY (AU 1 nb2 2 ([.slice none 0 0, I64 0]) 107 ([.slice ao1 ca2 ca1, I64 2]) rfl rfl rfl AK rfl (by simp [Value.oneCell']) (Nat.le_of_ble_eq_true rfl) (A0 (by simp []))) rfl ?_
 show JL _ _ _ _ _ [_, ⟨nb2, [.slice ao1 ca2 ca1, I64 2], 107, (0, 0)⟩]
 refine AL (AC (AG (AB (AA _ (AE rfl) rfl ?_))))
 refine A2 (B3 59 [.slice none 0 0] _ (AZ _ Tryd.call59 rfl) (fun w1 hw1 => fromNil_c w1)) rfl ?_
 rintro v1 L1 ⟨_, ⟨nb3, rfl, rfl⟩, rfl⟩
 show JL _ _ _ _ ((24, Ptr nb3 0) :: _) [_, _, ⟨nb3, [.nilIface, .slice none 0 0], 204, (0, 0)⟩]
 refine AA _ (AH rfl) rfl ?_
 refine AL (AC (AG (AB (AA _ (AE rfl) rfl ?_))))
 have hz2 : (([] : List UInt8)).length = 0 := rfl
 refine A2 (DE 60 _ [false, false, true] [nb3] _ (AZ [Ptr nb3 0] Tryd.call60 rfl) rfl (fun w1 hw1 => treadB_w nb3 none 0 0 ([] : List UInt8) w1 (hw1.ent _ (List.mem_of_getElem? (i := 2) rfl)) rfl (by omega) (by omega) (by omega) RdB.nil bad_nil)) rfl ?_
 rintro v1 L1 ⟨_, ⟨ao2, ca4, ca3, rfl, rfl⟩, rfl⟩
 show JL _ _ _ _ ((26, .agg ([U64 0, U64 0, I64 0, .slice none 0 0, .slice none 0 0, U64 0] ++ cu8 (zr8 16)).toArray) :: _) [_, _, ⟨nb3, [errV 50 2, .slice ao2 ca4 ca3], 204, (0, 0)⟩]
 refine A2 (BN _ ([U64 0, U64 0, I64 0, .slice none 0 0, .slice none 0 0, U64 0] ++ cu8 (zr8 16)) CG (by kernel_rfl)) rfl ?_
 rintro v1 L1 ⟨nb4, hnb4, rfl, rfl⟩
 show JL _ _ _ _ ((6, Ptr nb4 0) :: _) [_, _, _, ⟨nb4, [U64 0, U64 0, I64 0, .slice none 0 0, .slice none 0 0, U64 0] ++ cu8 (zr8 16), 29, (0, 0)⟩]
 refine AY (AU 3 nb4 22 ([U64 0, U64 0, I64 0, .slice none 0 0, .slice none 0 0, U64 0] ++ cu8 (zr8 16)) 29 ([U64 0, U64 0, I64 0, .slice none 0 0, .slice none 0 0, U64 0] ++ cu8 (zr8 16)) rfl rfl rfl A3 (by simp [(AN 16)]) (CK (by simp [Value.oneCell']) CF) (by simp [(AN 16)]) (A0 (by simp [(AN 16), (AN 16)]))) rfl ?_
 show JL _ _ _ _ _ [_, _, _, ⟨nb4, [U64 0, U64 0, I64 0, .slice none 0 0, .slice none 0 0, U64 0] ++ cu8 (zr8 16), 29, (0, 0)⟩]
 refine AL (AC (AG (AG (CH 86 8 [(0, .agg ([U64 0, U64 0, I64 0, .slice none 0 0, .slice none 0 0, U64 0] ++ cu8 (zr8 16)).toArray), (2, .agg ([U64 0, U64 0, I64 0, .slice none 0 0, .slice none 0 0, U64 0] ++ cu8 (zr8 16)).toArray)] BP rfl (by decide +kernel) ?_))))
 refine B6 ⟨[], [0, 2], [], [0, 2], [1]⟩ 1 rfl rfl (by decide +kernel) rfl ⟨⟨_, rfl, AI rfl (AM rfl (A5 BW A3 (by simp [(AN 16)]) (AT 3 rfl (AJ _))))⟩, ⟨_, rfl, AI rfl (AM rfl (A5 DJ B7 (by simp [(AN 16)]) (AT 0 rfl (AJ _))))⟩, trivial⟩ rfl (A7 rfl (AX 44 [.agg ([U64 0, U64 0, I64 0, .slice none 0 0, .slice none 0 0, U64 0] ++ cu8 (zr8 16)).toArray] (.agg ([U64 0, U64 0, I64 0, .slice none 0 0, .slice none 0 0, U64 0] ++ cu8 (zr8 16)).toArray) (AZ _ Tryd.call44 rfl) (fun w1 hw1 => docTZ_c (0:UInt64) (0:UInt64) (0:Int) none 0 0 ([] : List UInt64) none 0 (0:UInt64) (zr8 16) w1 rfl (by omega) (by omega) (by omega) RdV.nil (by omega) (fun _ => rfl) (AN 16)))) ?_
 show DP _ _ _ _ _ _ _ _ [_, _, _, _]
 refine C5 ⟨[1], [0, 2], [0], [2], [3]⟩ 3 _ rfl rfl (by decide +kernel) rfl ⟨⟨_, rfl, AI rfl (AM rfl (A5 DJ B7 (by simp [(AN 16)]) (AT 0 rfl (AJ _))))⟩, trivial⟩ rfl (A7 rfl (AX 51 [.agg ([U64 0, U64 0, I64 0, .slice none 0 0, .slice none 0 0, U64 0] ++ cu8 (zr8 16)).toArray, .agg ([U64 0, U64 0, I64 0, .slice none 0 0, .slice none 0 0, U64 0] ++ cu8 (zr8 16)).toArray] (.bool (decide ((0:UInt64) = (0:UInt64) ∧ (0:UInt64) = (0:UInt64) ∧ (zr8 16) = (zr8 16) ∧ (0:Int) = (0:Int) ∧ (0:UInt64) = (0:UInt64) ∧ ([] : List UInt64) = ([] : List UInt64) ∧ ([] : List SealR) = ([] : List SealR)))) (AZ _ Tryd.call51 rfl) (fun w1 hw1 => rsame13_c (0:UInt64) (0:UInt64) (0:Int) none 0 0 ([] : List UInt64) none 0 0 ([] : List SealR) (0:UInt64) (zr8 16) (0:UInt64) (0:UInt64) (0:Int) none 0 0 ([] : List UInt64) none 0 0 ([] : List SealR) (0:UInt64) (zr8 16) w1 rfl (by omega) (by omega) (by omega) RdV.nil rfl (by omega) (by omega) (by omega) RdV.nil (AN 16) rfl (by omega) (by omega) (by omega) RdV.nil rfl (by omega) (by omega) (by omega) RdV.nil (AN 16)))) ?_
 rintro v1 L1 ⟨rfl, rfl⟩
 refine ⟨[(4, .bool (!(decide ((0:UInt64) = (0:UInt64) ∧ (0:UInt64) = (0:UInt64) ∧ (zr8 16) = (zr8 16) ∧ (0:Int) = (0:Int) ∧ (0:UInt64) = (0:UInt64) ∧ ([] : List UInt64) = ([] : List UInt64) ∧ ([] : List SealR) = ([] : List SealR))))), (5, .bool (!(decide ((0:UInt64) = (0:UInt64) ∧ (0:UInt64) = (0:UInt64) ∧ (zr8 16) = (zr8 16) ∧ (0:Int) = (0:Int) ∧ (0:UInt64) = (0:UInt64) ∧ ([] : List UInt64) = ([] : List UInt64) ∧ ([] : List SealR) = ([] : List SealR))))), (6, Ptr nb3 0), (8, .agg #[.slice ao1 ca2 ca1, I64 2])], ?_⟩
 show DP _ _ _ _ _ _ _ _ [_, _, _, _]
 refine B6 ⟨[1, 3], [0, 2, 4, 5, 6, 8], [0, 2], [4, 5, 6, 8], [7]⟩ 7 rfl rfl (by decide +kernel) rfl ⟨⟨_, rfl, AI rfl (FD rfl)⟩, BQ rfl rfl rfl, ⟨_, rfl, B1 5 32 false _ rfl rfl rfl (bnotT (decide_eq_true ⟨rfl, rfl, rfl, rfl, rfl, rfl, rfl⟩)) (AE rfl)⟩, ⟨_, rfl, B1 5 32 false _ rfl rfl rfl (bnotT (decide_eq_true ⟨rfl, rfl, rfl, rfl, rfl, rfl, rfl⟩)) (AM rfl (A5 AQ AK rfl (AT 1 rfl (AJ _))))⟩, trivial⟩ rfl (D9 5 32 false _ rfl rfl rfl (bnotT (decide_eq_true ⟨rfl, rfl, rfl, rfl, rfl, rfl, rfl⟩)) (AX 61 [Ptr nb3 0] (I64 ((leftN 2 ca4:Int))) (AZ _ EM rfl) (fun w1 hw1 => left_w nb3 2 ao2 ca4 ca3 w1 (RdA.of hw1 (AT 2 rfl (AJ _)) (by simp))))) ?_
 show DP _ _ _ _ _ _ _ _ [_, _, _, _]
 refine C5 ⟨[1, 3, 7], [0, 2, 4, 5, 6, 8], [0, 2, 4, 5, 6], [8], [9]⟩ 9 _ rfl rfl (by decide +kernel) rfl ⟨⟨_, rfl, B1 5 32 false _ rfl rfl rfl (bnotT (decide_eq_true ⟨rfl, rfl, rfl, rfl, rfl, rfl, rfl⟩)) (AM rfl (A5 AQ AK rfl (AT 1 rfl (AJ _))))⟩, trivial⟩ rfl (D9 5 32 false _ rfl rfl rfl (bnotT (decide_eq_true ⟨rfl, rfl, rfl, rfl, rfl, rfl, rfl⟩)) (AX 62 [.agg #[.slice ao1 ca2 ca1, I64 2]] (I64 ((leftN 2 ca2:Int))) (AZ _ Tryd.call62 rfl) (fun w1 hw1 => rleft_w ao1 ca2 ca1 2 w1 ))) ?_
 rintro v1 L1 ⟨rfl, rfl⟩
 refine ⟨[(10, .bool (decide (((leftN 2 ca4:Int)) ≠ ((leftN 2 ca2:Int))))), (11, .bool (decide (((leftN 2 ca4:Int)) ≠ ((leftN 2 ca2:Int))))), (12, .bool (decide (((leftN 2 ca4:Int)) ≠ ((leftN 2 ca2:Int))))), (13, Ptr nb3 0), (16, .agg #[.slice ao1 ca2 ca1, I64 2])], ?_⟩
 show DP _ _ _ _ _ _ _ _ [_, _, _, _]
 refine B6 ⟨[1, 3, 7, 9], [0, 2, 4, 5, 6, 8, 10, 11, 12, 13, 16], [0, 2, 4, 5, 6, 8], [10, 11, 12, 13, 16], [14]⟩ 14 rfl rfl (by decide +kernel) rfl ⟨⟨_, rfl, B1 5 32 false _ rfl rfl rfl (bnotT (decide_eq_true ⟨rfl, rfl, rfl, rfl, rfl, rfl, rfl⟩)) (AP rfl rfl fun _ => CE _ _)⟩, ⟨_, rfl, AI rfl (BF _ rfl (bnotT (decide_eq_true ⟨rfl, rfl, rfl, rfl, rfl, rfl, rfl⟩)) rfl)⟩, BQ rfl rfl rfl, ⟨_, rfl, B1 12 39 false _ rfl rfl rfl (decide_eq_false (by simp [leftN])) (AE rfl)⟩, ⟨_, rfl, B1 12 39 false _ rfl rfl rfl (decide_eq_false (by simp [leftN])) (AM rfl (A5 AQ AK rfl (AT 1 rfl (AJ _))))⟩, trivial⟩ rfl (D9 12 39 false _ rfl rfl rfl (decide_eq_false (by simp [leftN])) (AX 63 [Ptr nb3 0] (errV 50 (endN 2 ca4)) (AZ _ EF rfl) (fun w1 hw1 => end_w nb3 2 ao2 ca4 ca3 w1 (RdA.of hw1 (AT 2 rfl (AJ _)) (by simp))))) ?_
 show DP _ _ _ _ _ _ _ _ [_, _, _, _]
 refine B6 ⟨[1, 3, 7, 9, 14], [0, 2, 4, 5, 6, 8, 10, 11, 12, 13, 16], [0, 2, 4, 5, 6, 8, 10, 11, 12, 13], [16], [15]⟩ 15 rfl rfl (by decide +kernel) rfl ⟨⟨_, rfl, B1 12 39 false _ rfl rfl rfl (decide_eq_false (by simp [leftN])) (AM rfl (A5 AQ AK rfl (AT 1 rfl (AJ _))))⟩, trivial⟩ rfl (D9 12 39 false _ rfl rfl rfl (decide_eq_false (by simp [leftN])) (AX 29 [errV 50 (endN 2 ca4)] (I64 ((endN 2 ca4:Int))) (AZ _ Tryd.call29 rfl) (fun w1 hw1 => errNum_w (endN 2 ca4) w1))) ?_
 show DP _ _ _ _ _ _ _ _ [_, _, _, _]
 refine C5 ⟨[1, 3, 7, 9, 14, 15], [0, 2, 4, 5, 6, 8, 10, 11, 12, 13, 16], [0, 2, 4, 5, 6, 8, 10, 11, 12, 13], [16], [17]⟩ 17 _ rfl rfl (by decide +kernel) rfl ⟨⟨_, rfl, B1 12 39 false _ rfl rfl rfl (decide_eq_false (by simp [leftN])) (AM rfl (A5 AQ AK rfl (AT 1 rfl (AJ _))))⟩, trivial⟩ rfl (D9 12 39 false _ rfl rfl rfl (decide_eq_false (by simp [leftN])) (AX 64 [.agg #[.slice ao1 ca2 ca1, I64 2]] (I64 ((endN 2 ca2:Int))) (AZ _ Tryd.call64 rfl) (fun w1 hw1 => rend_w ao1 ca2 ca1 2 w1 ))) ?_
 rintro v1 L1 ⟨rfl, rfl⟩
 refine ⟨[(18, .bool (decide (((endN 2 ca4:Int)) ≠ ((endN 2 ca2:Int))))), (19, .bool (decide (((endN 2 ca4:Int)) ≠ ((endN 2 ca2:Int)))))], ?_⟩
 show DP _ _ _ _ _ _ _ _ [_, _, _, _]
 refine C2 ⟨[1, 3, 7, 9, 14, 15, 17], [0, 2, 4, 5, 6, 8, 10, 11, 12, 13, 16, 18, 19], [0, 2, 4, 5, 6, 8, 10, 11, 12, 13, 16], [18, 19], []⟩ rfl rfl (by decide +kernel) rfl ⟨⟨_, rfl, B1 12 39 false _ rfl rfl rfl (decide_eq_false (by simp [leftN])) (AP rfl rfl fun _ => CE _ _)⟩, ⟨_, rfl, AI rfl (BF _ rfl (decide_eq_false (by simp [leftN])) rfl)⟩, trivial⟩ ?_
 refine CB (F' := [(46, .bool (decide (((endN 2 ca4:Int)) ≠ ((endN 2 ca2:Int))))), (0, .slice none 0 0), (2, .bool false), (4, Ptr nb2 0), (6, Ptr nb4 0)]) (by kernel_rfl) ?_
 refine AC (BZ _ rfl (decide_eq_false (by simp [endN])) ?_)
 refine BL (AC (AG (AB (AA _ (AE rfl) rfl ?_))))
 refine AY (AX 65 [.slice none 0 0] (.tuple #[.agg ([U64 0, U64 0, I64 0, .slice none 0 0, .slice none 0 0, U64 0] ++ cu8 (zr8 16)).toArray, errV 50 2]) (AZ _ Tryd.call65 rfl) (fun w1 hw1 => parseBN_c w1)) rfl ?_
 show JL _ _ _ _ ((49, .tuple #[.agg ([U64 0, U64 0, I64 0, .slice none 0 0, .slice none 0 0, U64 0] ++ cu8 (zr8 16)).toArray, errV 50 2]) :: _) [_, _, _, _]
 refine AA _ (AE rfl) rfl ?_
 refine AA _ (BB rfl rfl) rfl ?_
 refine AA _ (BB rfl rfl) rfl ?_
 refine A2 (BN _ ([U64 0, U64 0, I64 0, .slice none 0 0, .slice none 0 0, U64 0] ++ cu8 (zr8 16)) CG (by kernel_rfl)) rfl ?_
 rintro v1 L1 ⟨nb5, hnb5, rfl, rfl⟩
 show JL _ _ _ _ ((7, Ptr nb5 0) :: _) [_, _, _, _, ⟨nb5, [U64 0, U64 0, I64 0, .slice none 0 0, .slice none 0 0, U64 0] ++ cu8 (zr8 16), 29, (0, 0)⟩]
 refine AY (AU 4 nb5 22 ([U64 0, U64 0, I64 0, .slice none 0 0, .slice none 0 0, U64 0] ++ cu8 (zr8 16)) 29 ([U64 0, U64 0, I64 0, .slice none 0 0, .slice none 0 0, U64 0] ++ cu8 (zr8 16)) rfl rfl rfl A3 (by simp [(AN 16)]) (CK (by simp [Value.oneCell']) CF) (by simp [(AN 16)]) (A0 (by simp [(AN 16), (AN 16)]))) rfl ?_
 show JL _ _ _ _ _ [_, _, _, _, ⟨nb5, [U64 0, U64 0, I64 0, .slice none 0 0, .slice none 0 0, U64 0] ++ cu8 (zr8 16), 29, (0, 0)⟩]
 refine AA _ (AH rfl) rfl ?_
 refine AL (AC (AG (AG (AB (AA (.agg #[.slice ao1 ca2 ca1, I64 2]) (AM rfl (A5 AQ AK rfl (AT 1 rfl (AJ _)))) rfl ?_)))))
 refine AY (AX 64 [.agg #[.slice ao1 ca2 ca1, I64 2]] (I64 ((endN 2 ca2:Int))) (AZ _ Tryd.call64 rfl) (fun w1 hw1 => rend_w ao1 ca2 ca1 2 w1 )) rfl ?_
 show JL _ _ _ _ ((53, I64 ((endN 2 ca2:Int))) :: _) [_, _, _, _, _]
 refine AA _ (AH rfl) rfl ?_
 refine AL (AC (AG (AB (AA _ (AE rfl) rfl ?_))))
 refine AA (.bool (decide (((endN 2 ca2:Int)) ≠ (0:Int)))) (AP rfl rfl fun _ => CE _ _) rfl ?_
 refine AL (AC (CM _ rfl (decide_eq_true (by simp [endN])) ?_))
 refine AG (AB (AA _ (AE rfl) rfl ?_))
 refine AY (AX 29 [errV 50 2] (I64 2) (AZ _ Tryd.call29 rfl) (fun w1 hw1 => errNum_w 2 w1)) rfl ?_
 show JL _ _ _ _ ((57, I64 2) :: _) [_, _, _, _, _]
 refine AA _ (AE rfl) rfl ?_
 refine AA (.bool (decide (((2:Int)) = ((endN 2 ca2:Int))))) (AP rfl rfl fun _ => CA _ _) rfl ?_
 refine AA _ (AE rfl) rfl ?_
 refine AS 4 60 true _ (.agg ([U64 0, U64 0, I64 0, .slice none 0 0, .slice none 0 0, U64 0] ++ cu8 (zr8 16)).toArray) rfl rfl (decide_eq_true (by simp [endN])) (AM rfl (A5 BW A3 (by simp [(AN 16)]) (AT 4 rfl (AJ _)))) rfl ?_
 refine AS 4 60 true _ (.agg ([U64 0, U64 0, I64 0, .slice none 0 0, .slice none 0 0, U64 0] ++ cu8 (zr8 16)).toArray) rfl rfl (decide_eq_true (by simp [endN])) (DG [] _ rfl (fun _ => by kernel_rfl)) rfl ?_
 refine DZ 4 60 true _ rfl rfl (decide_eq_true (by simp [endN])) (AX 49 [.agg ([U64 0, U64 0, I64 0, .slice none 0 0, .slice none 0 0, U64 0] ++ cu8 (zr8 16)).toArray, .agg ([U64 0, U64 0, I64 0, .slice none 0 0, .slice none 0 0, U64 0] ++ cu8 (zr8 16)).toArray] (.bool (decide ((0:UInt64) = (0:UInt64) ∧ (0:UInt64) = (0:UInt64) ∧ (zr8 16) = (zr8 16) ∧ (0:Int) = (0:Int) ∧ (0:UInt64) = (0:UInt64) ∧ ([] : List UInt64) = ([] : List UInt64) ∧ ([] : List SealR) = ([] : List SealR)))) (AZ _ Tryd.call49 rfl) (fun w1 hw1 => same13_c (0:UInt64) (0:UInt64) (0:Int) none 0 0 ([] : List UInt64) none 0 0 ([] : List SealR) (0:UInt64) (zr8 16) (0:UInt64) (0:UInt64) (0:Int) none 0 0 ([] : List UInt64) none 0 0 ([] : List SealR) (0:UInt64) (zr8 16) w1 rfl (by omega) (by omega) (by omega) RdV.nil rfl (by omega) (by omega) (by omega) RdV.nil (AN 16) rfl (by omega) (by omega) (by omega) RdV.nil rfl (by omega) (by omega) (by omega) RdV.nil (AN 16))) rfl ?_
 rintro v1 L1 ⟨rfl, rfl⟩
 show JL _ _ _ _ ((63, .bool (decide ((0:UInt64) = (0:UInt64) ∧ (0:UInt64) = (0:UInt64) ∧ (zr8 16) = (zr8 16) ∧ (0:Int) = (0:Int) ∧ (0:UInt64) = (0:UInt64) ∧ ([] : List UInt64) = ([] : List UInt64) ∧ ([] : List SealR) = ([] : List SealR)))) :: _) [_, _, _, _, _]
 refine AA _ (BO _ rfl (decide_eq_true (by simp [endN])) rfl) rfl ?_
 refine AA _ (AH rfl) rfl ?_
 refine AL (AC (BH (A4 (B5 [false, false, false, false, false] ?_))))
 show JQ _ _ _ _ []
 refine BI (.bool (decide ((0:UInt64) = (0:UInt64) ∧ (0:UInt64) = (0:UInt64) ∧ (zr8 16) = (zr8 16) ∧ (0:Int) = (0:Int) ∧ (0:UInt64) = (0:UInt64) ∧ ([] : List UInt64) = ([] : List UInt64) ∧ ([] : List SealR) = ([] : List SealR)))) (res1 Tryd.results11 (BU rfl)) fun w1 hw1 => ?_
 exact ⟨_, [], rfl, ⟨congrArg Value.bool (decide_eq_true ⟨rfl, rfl, rfl, rfl, rfl, rfl, rfl⟩), rfl⟩, hw1.sub (by simp) (by simp)⟩
theorem tpL_c (ax : Option Addr) (n cx : Nat) (z : List UInt8)  (w : World) (hz : z.length = n) (hn : 20000 < n) (hc : n ≤ cx) (hcm : cx ≤ maxLen) (hr : RdB w [] ax z) (hG : GLs w)  : Calls Tryd.prog 11 #[.slice ax n cx] w (Post w [] (fun v L => v = .bool true ∧ L = [])) := by
 have hmx : maxLen = 9223372036854775807 := rfl
 refine enter w [] 86 [] [.slice ax n cx] Tryd.func11 rfl rfl (by simp) (BY (by simp) (by simp) (by simp)) ?_
 show JC _ _ _ [(0, .slice ax n cx)] _
 refine AG (AB (AA _ (AH rfl) rfl ?_))
 refine AL (AC (AG (AG (AB (A2 (AX 43 [] (.bool true) (AZ _ Tryd.call43 rfl) (fun w1 hw1 => alive13_c  w1 (hG.at hw1))) rfl ?_)))))
 rintro v1 L1 ⟨rfl, rfl⟩
 show JL _ _ _ _ ((12, .bool true) :: _) []
 refine AA (.bool (!true)) (FD rfl) rfl ?_
 refine AL (AC (BZ _ rfl rfl ?_))
 refine BL (AC (AG (AG (AB (AA _ (AE rfl) rfl ?_)))))
 refine AA (I64 n) (DS AR rfl) rfl ?_
 refine AA (.bool (decide ((20000:Int) < ((n:Int))))) (AP rfl rfl fun _ => EL _ _) rfl ?_
 refine AL (AC (CM _ rfl (decide_eq_true (by omega)) ?_))
 refine AG (AB (AA _ (AH rfl) rfl ?_))
 refine AL (AC (BH (A4 (BI (.bool true) (res1 Tryd.results11 (BU rfl)) fun w1 hw1 => ?_))))
 exact ⟨_, [], rfl, ⟨congrArg Value.bool rfl, rfl⟩, hw1.sub (by simp) (by simp)⟩
theorem ticketParses_w (az : Option Addr) (n cz : Nat) (z : List UInt8) (w : World) (hz : z.length = n) (hcb : az = none → cz = 0) (hc : n ≤ cz ∧ cz ≤ maxLen) (hr : RdB w [] az z) (hG : GLs w) : Calls Tryd.prog 11 #[.slice az n cz] w (Post w [] (fun v L => v = .bool true ∧ L = [])) := by
  by_cases hn : n ≤ 20000
  · by_cases ha : az = none
    · subst ha
      obtain rfl : cz = 0 := hcb rfl
      obtain rfl : n = 0 := by omega
      exact tpN_c w hG
    have ha' : az.isNone = false := by cases az with
      | none => exact absurd rfl ha
      | some x => rfl
    by_cases o1 : Ok1 z
    · have := o1.2.1
      exact tp1_c az n cz z (n - (60*mQ z + 34)) w ha' hz hn hc.1 hc.2 hr o1 (by omega) hG
    by_cases o2 : Ok2 z
    · have := o2.2.1
      exact tp2_c az n cz z (n - (4*mQ z + 34)) w ha' hz hn hc.1 hc.2 hr o2 (by omega) hG
    by_cases o3 : Ok3 z
    · have := o3.2.1
      exact tp3_c az n cz z (n - 41) w ha' hz hn hc.1 hc.2 hr o3 (by omega) hG
    · exact tpB_c az n cz z w ha' hz hn hc.1 hc.2 hr ⟨o1, o2, o3⟩ hG
  · exact tpL_c az n cz z w hz (by omega) hc.1 hc.2 hr hG
end Go.Proofs.YtkdpdgpphpngeaaDoor
namespace Go.Proofs.YtkdpdgpphpngeaaDoor
open Go
def headSigns : List Char := [Char.ofNat 104, Char.ofNat 97, Char.ofNat 114, Char.ofNat 110, Char.ofNat 101, Char.ofNat 115, Char.ofNat 115, Char.ofNat 32, Char.ofNat 50, Char.ofNat 100, Char.ofNat 55, Char.ofNat 48, Char.ofNat 102, Char.ofNat 53, Char.ofNat 99, Char.ofNat 56, Char.ofNat 51, Char.ofNat 51, Char.ofNat 98, Char.ofNat 102, Char.ofNat 98, Char.ofNat 55, Char.ofNat 98, Char.ofNat 99, Char.ofNat 56, Char.ofNat 100, Char.ofNat 101, Char.ofNat 50, Char.ofNat 52, Char.ofNat 51, Char.ofNat 50, Char.ofNat 51, Char.ofNat 48, Char.ofNat 101, Char.ofNat 101, Char.ofNat 48, Char.ofNat 52, Char.ofNat 55, Char.ofNat 57, Char.ofNat 55, Char.ofNat 51, Char.ofNat 101, Char.ofNat 57, Char.ofNat 54, Char.ofNat 57, Char.ofNat 51, Char.ofNat 101, Char.ofNat 100, Char.ofNat 101, Char.ofNat 55, Char.ofNat 53, Char.ofNat 51, Char.ofNat 52, Char.ofNat 48, Char.ofNat 54, Char.ofNat 50, Char.ofNat 55, Char.ofNat 99, Char.ofNat 57, Char.ofNat 57, Char.ofNat 52, Char.ofNat 50, Char.ofNat 54, Char.ofNat 50, Char.ofNat 100, Char.ofNat 102, Char.ofNat 102, Char.ofNat 56, Char.ofNat 48, Char.ofNat 54, Char.ofNat 100, Char.ofNat 50, Char.ofNat 32, Char.ofNat 99, Char.ofNat 117, Char.ofNat 116, Char.ofNat 32, Char.ofNat 97, Char.ofNat 116, Char.ofNat 32, Char.ofNat 101, Char.ofNat 110, Char.ofNat 116, Char.ofNat 114, Char.ofNat 117, Char.ofNat 115, Char.ofNat 116, Char.ofNat 47, Char.ofNat 101, Char.ofNat 110, Char.ofNat 116, Char.ofNat 114, Char.ofNat 117, Char.ofNat 115, Char.ofNat 116, Char.ofNat 108, Char.ofNat 97, Char.ofNat 119, Char.ofNat 49, Char.ofNat 52, Char.ofNat 46, Char.ofNat 87, Char.ofNat 105, Char.ofNat 114, Char.ofNat 101, Char.ofNat 82, Char.ofNat 101, Char.ofNat 113, Char.ofNat 117, Char.ofNat 101, Char.ofNat 115, Char.ofNat 116, Char.ofNat 115, Char.ofNat 32, Char.ofNat 101, Char.ofNat 110, Char.ofNat 116, Char.ofNat 114, Char.ofNat 117, Char.ofNat 115, Char.ofNat 116, Char.ofNat 47, Char.ofNat 101, Char.ofNat 110, Char.ofNat 116, Char.ofNat 114, Char.ofNat 117, Char.ofNat 115, Char.ofNat 116, Char.ofNat 108, Char.ofNat 97, Char.ofNat 119, Char.ofNat 49, Char.ofNat 53, Char.ofNat 46, Char.ofNat 76, Char.ofNat 105, Char.ofNat 110, Char.ofNat 107, Char.ofNat 83, Char.ofNat 101, Char.ofNat 97, Char.ofNat 108, Char.ofNat 115, Char.ofNat 32, Char.ofNat 101, Char.ofNat 110, Char.ofNat 116, Char.ofNat 114, Char.ofNat 117, Char.ofNat 115, Char.ofNat 116, Char.ofNat 47, Char.ofNat 101, Char.ofNat 110, Char.ofNat 116, Char.ofNat 114, Char.ofNat 117, Char.ofNat 115, Char.ofNat 116, Char.ofNat 108, Char.ofNat 97, Char.ofNat 119, Char.ofNat 49, Char.ofNat 53, Char.ofNat 46, Char.ofNat 76, Char.ofNat 105, Char.ofNat 110, Char.ofNat 107, Char.ofNat 83, Char.ofNat 105, Char.ofNat 122, Char.ofNat 101, Char.ofNat 115, Char.ofNat 32, Char.ofNat 101, Char.ofNat 110, Char.ofNat 116, Char.ofNat 114, Char.ofNat 117, Char.ofNat 115, Char.ofNat 116, Char.ofNat 47, Char.ofNat 101, Char.ofNat 110, Char.ofNat 116, Char.ofNat 114, Char.ofNat 117, Char.ofNat 115, Char.ofNat 116, Char.ofNat 108, Char.ofNat 97, Char.ofNat 119, Char.ofNat 49, Char.ofNat 52, Char.ofNat 46, Char.ofNat 87, Char.ofNat 105, Char.ofNat 114, Char.ofNat 101, Char.ofNat 82, Char.ofNat 101, Char.ofNat 112, Char.ofNat 108, Char.ofNat 105, Char.ofNat 101, Char.ofNat 115, Char.ofNat 32, Char.ofNat 101, Char.ofNat 110, Char.ofNat 116, Char.ofNat 114, Char.ofNat 117, Char.ofNat 115, Char.ofNat 116, Char.ofNat 47, Char.ofNat 101, Char.ofNat 110, Char.ofNat 116, Char.ofNat 114, Char.ofNat 117, Char.ofNat 115, Char.ofNat 116, Char.ofNat 108, Char.ofNat 97, Char.ofNat 119, Char.ofNat 49, Char.ofNat 53, Char.ofNat 46, Char.ofNat 76, Char.ofNat 105, Char.ofNat 110, Char.ofNat 107, Char.ofNat 79, Char.ofNat 112, Char.ofNat 101, Char.ofNat 110, Char.ofNat 115, Char.ofNat 32, Char.ofNat 101, Char.ofNat 110, Char.ofNat 116, Char.ofNat 114, Char.ofNat 117, Char.ofNat 115, Char.ofNat 116, Char.ofNat 47, Char.ofNat 101, Char.ofNat 110, Char.ofNat 116, Char.ofNat 114, Char.ofNat 117, Char.ofNat 115, Char.ofNat 116, Char.ofNat 108, Char.ofNat 97, Char.ofNat 119, Char.ofNat 49, Char.ofNat 53, Char.ofNat 46, Char.ofNat 76, Char.ofNat 105, Char.ofNat 110, Char.ofNat 107, Char.ofNat 66, Char.ofNat 97, Char.ofNat 99, Char.ofNat 107, Char.ofNat 32, Char.ofNat 101, Char.ofNat 110, Char.ofNat 116, Char.ofNat 114, Char.ofNat 117, Char.ofNat 115, Char.ofNat 116, Char.ofNat 47, Char.ofNat 101, Char.ofNat 110, Char.ofNat 116, Char.ofNat 114, Char.ofNat 117, Char.ofNat 115, Char.ofNat 116, Char.ofNat 108, Char.ofNat 97, Char.ofNat 119, Char.ofNat 49, Char.ofNat 51, Char.ofNat 46, Char.ofNat 84, Char.ofNat 105, Char.ofNat 99, Char.ofNat 107, Char.ofNat 101, Char.ofNat 116, Char.ofNat 83, Char.ofNat 105, Char.ofNat 103, Char.ofNat 110, Char.ofNat 115, Char.ofNat 32, Char.ofNat 101, Char.ofNat 110, Char.ofNat 116, Char.ofNat 114, Char.ofNat 117, Char.ofNat 115, Char.ofNat 116, Char.ofNat 47, Char.ofNat 101, Char.ofNat 110, Char.ofNat 116, Char.ofNat 114, Char.ofNat 117, Char.ofNat 115, Char.ofNat 116, Char.ofNat 108, Char.ofNat 97, Char.ofNat 119, Char.ofNat 49, Char.ofNat 52, Char.ofNat 46, Char.ofNat 87, Char.ofNat 105, Char.ofNat 114, Char.ofNat 101, Char.ofNat 80, Char.ofNat 97, Char.ofNat 114, Char.ofNat 115, Char.ofNat 101, Char.ofNat 115, Char.ofNat 32, Char.ofNat 101, Char.ofNat 110, Char.ofNat 116, Char.ofNat 114, Char.ofNat 117, Char.ofNat 115, Char.ofNat 116, Char.ofNat 47, Char.ofNat 101, Char.ofNat 110, Char.ofNat 116, Char.ofNat 114, Char.ofNat 117, Char.ofNat 115, Char.ofNat 116, Char.ofNat 108, Char.ofNat 97, Char.ofNat 119, Char.ofNat 49, Char.ofNat 51, Char.ofNat 46, Char.ofNat 84, Char.ofNat 105, Char.ofNat 99, Char.ofNat 107, Char.ofNat 101, Char.ofNat 116, Char.ofNat 80, Char.ofNat 97, Char.ofNat 114, Char.ofNat 115, Char.ofNat 101, Char.ofNat 115, Char.ofNat 32, Char.ofNat 101, Char.ofNat 110, Char.ofNat 116, Char.ofNat 114, Char.ofNat 117, Char.ofNat 115, Char.ofNat 116, Char.ofNat 47, Char.ofNat 101, Char.ofNat 110, Char.ofNat 116, Char.ofNat 114, Char.ofNat 117, Char.ofNat 115, Char.ofNat 116, Char.ofNat 108, Char.ofNat 97, Char.ofNat 119, Char.ofNat 49, Char.ofNat 51, Char.ofNat 46, Char.ofNat 84, Char.ofNat 105, Char.ofNat 99, Char.ofNat 107, Char.ofNat 101, Char.ofNat 116, Char.ofNat 66, Char.ofNat 97, Char.ofNat 99, Char.ofNat 107, Char.ofNat 32, Char.ofNat 101, Char.ofNat 110, Char.ofNat 116, Char.ofNat 114, Char.ofNat 117, Char.ofNat 115, Char.ofNat 116, Char.ofNat 47, Char.ofNat 101, Char.ofNat 110, Char.ofNat 116, Char.ofNat 114, Char.ofNat 117, Char.ofNat 115, Char.ofNat 116, Char.ofNat 108, Char.ofNat 97, Char.ofNat 119, Char.ofNat 49, Char.ofNat 51, Char.ofNat 46, Char.ofNat 84, Char.ofNat 105, Char.ofNat 99, Char.ofNat 107, Char.ofNat 101, Char.ofNat 116, Char.ofNat 79, Char.ofNat 114, Char.ofNat 100, Char.ofNat 101, Char.ofNat 114, Char.ofNat 115, Char.ofNat 32, Char.ofNat 101, Char.ofNat 110, Char.ofNat 116, Char.ofNat 114, Char.ofNat 117, Char.ofNat 115, Char.ofNat 116, Char.ofNat 47, Char.ofNat 101, Char.ofNat 110, Char.ofNat 116, Char.ofNat 114, Char.ofNat 117, Char.ofNat 115, Char.ofNat 116, Char.ofNat 108, Char.ofNat 97, Char.ofNat 119, Char.ofNat 49, Char.ofNat 52, Char.ofNat 46, Char.ofNat 87, Char.ofNat 105, Char.ofNat 114, Char.ofNat 101, Char.ofNat 87, Char.ofNat 111, Char.ofNat 114, Char.ofNat 100, Char.ofNat 115, Char.ofNat 32, Char.ofNat 101, Char.ofNat 110, Char.ofNat 116, Char.ofNat 114, Char.ofNat 117, Char.ofNat 115, Char.ofNat 116, Char.ofNat 47, Char.ofNat 101, Char.ofNat 110, Char.ofNat 116, Char.ofNat 114, Char.ofNat 117, Char.ofNat 115, Char.ofNat 116, Char.ofNat 108, Char.ofNat 97, Char.ofNat 119, Char.ofNat 49, Char.ofNat 52, Char.ofNat 46, Char.ofNat 87, Char.ofNat 105, Char.ofNat 114, Char.ofNat 101, Char.ofNat 66, Char.ofNat 97, Char.ofNat 99, Char.ofNat 107, Char.ofNat 32, Char.ofNat 101, Char.ofNat 110, Char.ofNat 116, Char.ofNat 114, Char.ofNat 117, Char.ofNat 115, Char.ofNat 116, Char.ofNat 47, Char.ofNat 101, Char.ofNat 110, Char.ofNat 116, Char.ofNat 114, Char.ofNat 117, Char.ofNat 115, Char.ofNat 116, Char.ofNat 108, Char.ofNat 97, Char.ofNat 119, Char.ofNat 49, Char.ofNat 51, Char.ofNat 46, Char.ofNat 84, Char.ofNat 105, Char.ofNat 99, Char.ofNat 107, Char.ofNat 101, Char.ofNat 116, Char.ofNat 83, Char.ofNat 101, Char.ofNat 97, Char.ofNat 108, Char.ofNat 115]
theorem headStr : Tryd.prog.initOrder = String.ofList headSigns := by kernel_rfl
theorem headIs : Tryd.prog.initOrder.toList = headSigns := by
 rw [headStr]
 exact String.toList_ofList
def sumSigns : List Char := [Char.ofNat 50, Char.ofNat 100, Char.ofNat 55, Char.ofNat 48, Char.ofNat 102, Char.ofNat 53, Char.ofNat 99, Char.ofNat 56, Char.ofNat 51, Char.ofNat 51, Char.ofNat 98, Char.ofNat 102, Char.ofNat 98, Char.ofNat 55, Char.ofNat 98, Char.ofNat 99, Char.ofNat 56, Char.ofNat 100, Char.ofNat 101, Char.ofNat 50, Char.ofNat 52, Char.ofNat 51, Char.ofNat 50, Char.ofNat 51, Char.ofNat 48, Char.ofNat 101, Char.ofNat 101, Char.ofNat 48, Char.ofNat 52, Char.ofNat 55, Char.ofNat 57, Char.ofNat 55, Char.ofNat 51, Char.ofNat 101, Char.ofNat 57, Char.ofNat 54, Char.ofNat 57, Char.ofNat 51, Char.ofNat 101, Char.ofNat 100, Char.ofNat 101, Char.ofNat 55, Char.ofNat 53, Char.ofNat 51, Char.ofNat 52, Char.ofNat 48, Char.ofNat 54, Char.ofNat 50, Char.ofNat 55, Char.ofNat 99, Char.ofNat 57, Char.ofNat 57, Char.ofNat 52, Char.ofNat 50, Char.ofNat 54, Char.ofNat 50, Char.ofNat 100, Char.ofNat 102, Char.ofNat 102, Char.ofNat 56, Char.ofNat 48, Char.ofNat 54, Char.ofNat 100, Char.ofNat 50]
theorem sumIs : "2d70f5c833bfb7bc8de243230ee047973e9693ede75340627c994262dff806d2".toList = sumSigns := by
 have h : "2d70f5c833bfb7bc8de243230ee047973e9693ede75340627c994262dff806d2" = String.ofList sumSigns := by kernel_rfl
 rw [h]
 exact String.toList_ofList
theorem head_cons {α : Type} {l : List α} {x : α} (h : l.head? = some x) : ∃ r, l = x :: r := by cases l <;> simp_all
theorem make_cut {P : Program} {r : List (List Char)} (h : behindMainWord (wordsSigns P.initOrder.toList) = "cut".toList :: r) : P.make = some .cut := by
 unfold Program.make
 rw [h]
 rfl
theorem headLifts_cut {P : Program} (h : (stripLifts liftWords (behindMainWord (wordsSigns P.initOrder.toList))).1 = []) : P.headLifts = [] := by
 unfold Program.headLifts
 simp only [h]
 split <;> rfl
theorem lifts_cut {P : Program} {r : List (List Char)} (h : behindMainWord (wordsSigns P.initOrder.toList) = "cut".toList :: r) (h1 : P.headLifts = []) : P.liftsFinal = false := by
 unfold Program.liftsFinal
 rw [h, h1]
 rfl
theorem mayEnter_cut {P : Program} {r : List (List Char)} (h : behindMainWord (wordsSigns P.initOrder.toList) = "cut".toList :: r) (h1 : P.laysLater = false) (h2 : P.bearsReflect = false)
  (h3 : (stripLifts liftWords (behindMainWord (wordsSigns P.initOrder.toList))).1 = []) (h4 : (stripLifts liftWords (behindMainWord (wordsSigns P.initOrder.toList))).2.head? = some "cut".toList) (h5 : P.doorFits [] = true) : P.mayEnter = true := by
 unfold Program.mayEnter
 rw [h] at h3 h4 ⊢
 simp only [h1, h2, h3, h4, h5]
 simp
theorem main_cut {P : Program} {s : List Char} {r : List (List Char)} (h : wordsSigns P.initOrder.toList = "harness".toList :: s :: r) (hs : isSumSigns s = true) : P.mainIs = some (true, s) := by
 unfold Program.mainIs
 rw [h]
 simp [hs]
theorem hHead : (behindMainWord (wordsSigns Tryd.prog.initOrder.toList)).head? = some "cut".toList := by
 rw [headIs]
 kernel_rfl
theorem hStrip : (stripLifts liftWords (behindMainWord (wordsSigns Tryd.prog.initOrder.toList))).1 = [] := by
 rw [headIs]
 kernel_rfl
theorem hStrip2 : (stripLifts liftWords (behindMainWord (wordsSigns Tryd.prog.initOrder.toList))).2.head? = some "cut".toList := by
 rw [headIs]
 kernel_rfl
theorem hMain : wordsSigns Tryd.prog.initOrder.toList = "harness".toList :: sumSigns :: (wordsSigns headSigns).drop 2 := by
 rw [headIs]
 kernel_rfl
theorem hSum : isSumSigns sumSigns = true := by kernel_rfl
theorem hLater : Tryd.prog.laysLater = false := by kernel_rfl
theorem hReflect : Tryd.prog.bearsReflect = false := by kernel_rfl
theorem hDoor : Tryd.prog.doorFits [] = true := by kernel_rfl
theorem kMayEnter : Tryd.prog.mayEnter = true := by
 obtain ⟨r, h⟩ := head_cons hHead
 exact mayEnter_cut h hLater hReflect hStrip hStrip2 hDoor
theorem kLifts : Tryd.prog.liftsFinal = false := by
 obtain ⟨r, h⟩ := head_cons hHead
 exact lifts_cut h (headLifts_cut hStrip)
theorem kMake : Tryd.prog.make = some .cut := by
 obtain ⟨r, h⟩ := head_cons hHead
 exact make_cut h
theorem kMainIs : Tryd.prog.mainIs = some (true, "2d70f5c833bfb7bc8de243230ee047973e9693ede75340627c994262dff806d2".toList) := by
 rw [sumIs]
 exact main_cut hMain hSum
theorem kLaidOut : (laidOutB Tryd.prog) = true := by kernel_rfl
theorem kRowed : mapsRowed Tryd.prog = true := by kernel_rfl
theorem kStops : (Tryd.prog.stops == []) = true := by kernel_rfl
theorem kKnobs : (Tryd.prog.stopKnobs == []) = true := by kernel_rfl
theorem kHeard : Tryd.prog.stopsHeard = true := by kernel_rfl
theorem kLooks : true = Tryd.prog.looks [] := by kernel_rfl
end Go.Proofs.YtkdpdgpphpngeaaDoor
