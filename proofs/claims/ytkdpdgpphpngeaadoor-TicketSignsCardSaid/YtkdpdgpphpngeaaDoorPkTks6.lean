import Derived.JoinedOf
import Derived.SevenTiedAt
import Derived.Test.YtkdpdgpphpngeaaDoorPkTks5
namespace Go.Proofs.YtkdpdgpphpngeaaDoor
open Go Go.Sx
set_option linter.unusedVariables false
set_option linter.unusedSimpArgs false
set_option maxRecDepth 100000
attribute [local irreducible] mid zr8 zr32 numK rnK rotr wordL spreadL comprL cpN adN spN wrdN constL initL padL stN outN routN sumG putL RightB tktT mayN idxT selT macL tkG
theorem signBZP_c (key : List UInt8) (pv ep : UInt64) (kd : Int) (ai : Option Addr) (ci : Nat) (sa : Option Addr) (ns sc : Nat) (ls : List SealR) (bl : UInt64)  (w : World) (hk32 : key.length = 32) (hci : ci ≤ maxLen) (hnI : ai = none → ci = 0) (hls : ls.length = ns) (hnn : ns ≤ 2000000) (hnd : ns ≤ sc) (hcn : sc ≤ maxLen) (hs : RdV w sa (ls.flatMap sealC)) (hp0 : 0 < ns) (hm : mayN pv ep kd ([] : List UInt64) ls bl ≠ 0)  : Calls Tryd.prog 46 #[.agg (cu8 key).toArray, U64 pv, U64 ep, .agg (List.toArray (α := Value) ([I64 (kd), .slice ai 0 ci, .slice sa ns sc, U64 bl]))] w (Post w [] (fun v L => v = .tuple #[.agg (List.toArray (α := Value) ([U64 (0:UInt64), U64 (0:UInt64), I64 (0:Int), .slice none 0 0, .slice none 0 0, U64 (0:UInt64)] ++ cu8 (zr8 16))), errV 50 (mayN pv ep kd ([] : List UInt64) ls bl)] ∧ L = [])) := by
 have hmx : maxLen = 9223372036854775807 := rfl
 refine enter (P := Tryd.prog) (f := 46) (fn := Tryd.f46) w [] 44 [] [.agg (cu8 key).toArray, U64 pv, U64 ep, .agg (List.toArray (α := Value) ([I64 (kd), .slice ai 0 ci, .slice sa ns sc, U64 bl]))] Tryd.func46 rfl rfl (by simp) (B7 (by simp) (by simp) (by simp)) ?_
 show JC _ _ _ [(0, .agg (cu8 key).toArray), (1, U64 pv), (2, U64 ep), (3, .agg (List.toArray (α := Value) ([I64 (kd), .slice ai 0 ci, .slice sa ns sc, U64 bl])))] _
 refine AL (AE (AR (CN (.agg (cu8 key).toArray) (cu8 key) rfl (by first | rfl | simp)) rfl ?_))
 rintro v1 L1 ⟨nb1, hnb1, rfl, rfl⟩
 show JL _ _ _ _ ((4, Ptr nb1 0) :: _) [⟨nb1, cu8 key, 54, (0, 0)⟩]
 refine AR (CN (.agg (List.toArray (α := Value) ([I64 (kd), .slice ai 0 ci, .slice sa ns sc, U64 bl]))) ([I64 (kd), .slice ai 0 ci, .slice sa ns sc, U64 bl]) rfl (by first | rfl | simp)) rfl ?_
 rintro v1 L1 ⟨nb2, hnb2, rfl, rfl⟩
 show JL _ _ _ _ ((7, Ptr nb2 0) :: _) [_, ⟨nb2, [I64 (kd), .slice ai 0 ci, .slice sa ns sc, U64 bl], 26, (0, 0)⟩]
 refine AR (BJ _ ([U64 (0:UInt64), U64 (0:UInt64), I64 (0:Int), .slice none 0 0, .slice none 0 0, U64 (0:UInt64)] ++ cu8 (zr8 16)) B9 (by kernel_rfl)) rfl ?_
 rintro v1 L1 ⟨nb3, hnb3, rfl, rfl⟩
 show JL _ _ _ _ ((8, Ptr nb3 0) :: _) [_, _, ⟨nb3, [U64 (0:UInt64), U64 (0:UInt64), I64 (0:Int), .slice none 0 0, .slice none 0 0, U64 (0:UInt64)] ++ cu8 (zr8 16), 29, (0, 0)⟩]
 refine AA _ (AH rfl) rfl ?_
 refine AN (AF (AL (CQ 44 5 [(0, U64 pv), (1, U64 ep), (2, Ptr nb2 0), (3, I64 (kd)), (4, Ptr nb2 1), (5, .slice ai 0 ci), (7, Ptr nb2 2), (8, .slice sa ns sc), (10, Ptr nb2 3), (11, U64 bl)] BQ rfl (by decide +kernel) ?_)))
 refine DP_two ⟨[], [0, 1, 2, 3, 4, 5, 7, 8, 10, 11], [], [0, 1, 2, 3, 4, 5, 7, 8, 10, 11], [6, 14]⟩ 6 14 _ _ rfl rfl (by decide +kernel) rfl ⟨⟨_, rfl, AB rfl (AD rfl)⟩, ⟨_, rfl, AB rfl (AD rfl)⟩, ⟨_, rfl, AB rfl (AC 0 3 1 AG rfl A7 rfl rfl)⟩, ⟨_, rfl, AB rfl (AK rfl (AV BA (MemAt.ent 1 rfl (Seg.head))))⟩, ⟨_, rfl, AB rfl (AC 1 23 1 AG rfl CE rfl rfl)⟩, ⟨_, rfl, AB rfl (AK rfl (AV CL (MemAt.ent 1 rfl (AJ (Seg.head)))))⟩, ⟨_, rfl, AB rfl (AC 2 24 1 AG rfl B3 rfl rfl)⟩, ⟨_, rfl, AB rfl (AK rfl (AV B6 (MemAt.ent 1 rfl (AJ (AJ (Seg.head))))))⟩, ⟨_, rfl, AB rfl (AC 3 22 1 AG rfl AT rfl rfl)⟩, ⟨_, rfl, AB rfl (AK rfl (AV AU (MemAt.ent 1 rfl (AJ (AJ (AJ (Seg.head)))))))⟩, trivial⟩ rfl rfl (AZ rfl (BG 112 [.slice ai 0 ci] _ (A0 [.slice ai 0 ci] EV rfl) (fun w1 hw1 => clone64Z_w ai ci w1 (by omega) hnI))) (AZ rfl (BJ _ ([U64 (0:UInt64), U64 (0:UInt64), I64 (0:Int), .slice none 0 0, .slice none 0 0, U64 (0:UInt64)] ++ cu8 (zr8 16)) B9 (by kernel_rfl))) ?_ ?_
 ·
  rintro v1 L1 ⟨_, ⟨ao1, ca1, rfl, rfl, hc1, hc2⟩, rfl⟩
  refine ⟨[], ?_⟩
  show DP _ _ _ _ _ _ _ _ [_, _, _]
  refine DP_two ⟨[6], [0, 1, 2, 3, 4, 5, 7, 8, 10, 11], [4, 5], [0, 1, 2, 3, 7, 8, 10, 11], [9, 14]⟩ 9 14 _ _ rfl rfl (by decide +kernel) rfl ⟨⟨_, rfl, AB rfl (AD rfl)⟩, ⟨_, rfl, AB rfl (AD rfl)⟩, ⟨_, rfl, AB rfl (AC 0 3 1 AG rfl A7 rfl rfl)⟩, ⟨_, rfl, AB rfl (AK rfl (AV BA (MemAt.ent 1 rfl (Seg.head))))⟩, ⟨_, rfl, AB rfl (AC 2 24 1 AG rfl B3 rfl rfl)⟩, ⟨_, rfl, AB rfl (AK rfl (AV B6 (MemAt.ent 1 rfl (AJ (AJ (Seg.head))))))⟩, ⟨_, rfl, AB rfl (AC 3 22 1 AG rfl AT rfl rfl)⟩, ⟨_, rfl, AB rfl (AK rfl (AV AU (MemAt.ent 1 rfl (AJ (AJ (AJ (Seg.head)))))))⟩, trivial⟩ rfl rfl (AZ rfl (BG 113 [.slice sa ns sc] _ (A0 [.slice sa ns sc] D2 rfl) (fun w1 hw1 => F7 sa ns sc ls w1 hls (by omega) (by omega) (by omega) (C1 hw1 rfl hs) (by omega)))) (AZ rfl (BJ _ ([U64 (0:UInt64), U64 (0:UInt64), I64 (0:Int), .slice none 0 0, .slice none 0 0, U64 (0:UInt64)] ++ cu8 (zr8 16)) B9 (by kernel_rfl))) ?_ ?_
  ·
   rintro v1 L1 ⟨_, ⟨nb5, sp1, cp1, rfl, rfl, hc3, hc4, hc5⟩, rfl⟩
   refine ⟨[(12, .agg (List.toArray (α := Value) ([I64 (kd), .slice ao1 0 ca1, Slc nb5 0 ns cp1, U64 bl]))), (13, .agg (List.toArray (α := Value) ([U64 pv, U64 ep, I64 (kd), .slice ao1 0 ca1, Slc nb5 0 ns cp1, U64 bl] ++ cu8 (zr8 16))))], ?_⟩
   show DP _ _ _ _ _ _ _ _ [_, _, _, ⟨nb5, ls.flatMap sealC ++ sp1, 161, (0, 0)⟩]
   refine BR ⟨[6, 9], [0, 1, 2, 3, 4, 5, 7, 8, 10, 11, 12, 13], [4, 5, 7, 8], [0, 1, 2, 3, 10, 11, 12, 13], [14]⟩ 14 _ rfl rfl (by decide +kernel) rfl ⟨⟨_, rfl, AB rfl (AD rfl)⟩, ⟨_, rfl, AB rfl (AD rfl)⟩, ⟨_, rfl, AB rfl (AC 0 3 1 AG rfl A7 rfl rfl)⟩, ⟨_, rfl, AB rfl (AK rfl (AV BA (MemAt.ent 1 rfl (Seg.head))))⟩, ⟨_, rfl, AB rfl (AC 3 22 1 AG rfl AT rfl rfl)⟩, ⟨_, rfl, AB rfl (AK rfl (AV AU (MemAt.ent 1 rfl (AJ (AJ (AJ (Seg.head)))))))⟩, ⟨_, rfl, AB rfl (CB [(0, I64 (kd)), (1, .slice ao1 0 ca1), (2, Slc nb5 0 ns cp1), (3, U64 bl)] _ rfl (fun _ => DY rfl rfl rfl rfl))⟩, ⟨_, rfl, AB rfl (CB [(0, U64 pv), (1, U64 ep), (2, .agg (List.toArray (α := Value) ([I64 (kd), .slice ao1 0 ca1, Slc nb5 0 ns cp1, U64 bl])))] _ rfl (fun _ => EA rfl rfl (by simp [AP])))⟩, trivial⟩ rfl (AZ rfl (BJ _ ([U64 (0:UInt64), U64 (0:UInt64), I64 (0:Int), .slice none 0 0, .slice none 0 0, U64 (0:UInt64)] ++ cu8 (zr8 16)) B9 (by kernel_rfl))) ?_
   rintro v1 L1 ⟨nb7, hnb7, rfl, rfl⟩
   refine ⟨[], ?_⟩
   show DP _ _ _ _ _ _ _ _ [_, _, _, _, ⟨nb7, [U64 (0:UInt64), U64 (0:UInt64), I64 (0:Int), .slice none 0 0, .slice none 0 0, U64 (0:UInt64)] ++ cu8 (zr8 16), 29, (0, 0)⟩]
   refine BR ⟨[6, 9, 14], [0, 1, 2, 3, 4, 5, 7, 8, 10, 11, 12, 13], [4, 5, 7, 8], [0, 1, 2, 3, 10, 11, 12, 13], [15]⟩ 15 _ rfl rfl (by decide +kernel) rfl ⟨⟨_, rfl, AB rfl (AD rfl)⟩, ⟨_, rfl, AB rfl (AD rfl)⟩, ⟨_, rfl, AB rfl (AC 0 3 1 AG rfl A7 rfl rfl)⟩, ⟨_, rfl, AB rfl (AK rfl (AV BA (MemAt.ent 1 rfl (Seg.head))))⟩, ⟨_, rfl, AB rfl (AC 3 22 1 AG rfl AT rfl rfl)⟩, ⟨_, rfl, AB rfl (AK rfl (AV AU (MemAt.ent 1 rfl (AJ (AJ (AJ (Seg.head)))))))⟩, ⟨_, rfl, AB rfl (CB [(0, I64 (kd)), (1, .slice ao1 0 ca1), (2, Slc nb5 0 ns cp1), (3, U64 bl)] _ rfl (fun _ => DY rfl rfl rfl rfl))⟩, ⟨_, rfl, AB rfl (CB [(0, U64 pv), (1, U64 ep), (2, .agg (List.toArray (α := Value) ([I64 (kd), .slice ao1 0 ca1, Slc nb5 0 ns cp1, U64 bl])))] _ rfl (fun _ => EA rfl rfl (by simp [AP])))⟩, trivial⟩ rfl (AZ rfl (A6 4 nb7 0 22 ([U64 (0:UInt64), U64 (0:UInt64), I64 (0:Int), .slice none 0 0, .slice none 0 0, U64 (0:UInt64)] ++ cu8 (zr8 16)) 29 (.agg (List.toArray (α := Value) ([U64 pv, U64 ep, I64 (kd), .slice ao1 0 ca1, Slc nb5 0 ns cp1, U64 bl] ++ cu8 (zr8 16)))) ([U64 pv, U64 ep, I64 (kd), .slice ao1 0 ca1, Slc nb5 0 ns cp1, U64 bl] ++ cu8 (zr8 16)) ([U64 pv, U64 ep, I64 (kd), .slice ao1 0 ca1, Slc nb5 0 ns cp1, U64 bl] ++ cu8 (zr8 16)) rfl rfl rfl (by first | rfl | simp) AW (by simp [(AP 16)]) (DA (by simp [Value.oneCell']) CK) (by simp [(AP 16)]) (BF (by simp [(AP 16), (AP 16)])))) ?_
   rintro v1 L1 ⟨rfl, rfl⟩
   refine ⟨[], ?_⟩
   show DP _ _ _ _ _ _ _ _ [_, _, _, _, ⟨nb7, [U64 pv, U64 ep, I64 (kd), .slice ao1 0 ca1, Slc nb5 0 ns cp1, U64 bl] ++ cu8 (zr8 16), 29, (0, 0)⟩]
   refine CZ ⟨[6, 9, 14, 15], [0, 1, 2, 3, 4, 5, 7, 8, 10, 11, 12, 13], [0, 1, 2, 3, 4, 5, 7, 8, 10, 11, 12, 13], [], []⟩ rfl rfl (by decide +kernel) rfl trivial ?_
   refine CC (F' := [(10, Ptr nb7 0), (4, Ptr nb1 0), (8, Ptr nb3 0), (9, .nilIface)]) (by kernel_rfl) ?_
   refine AF (AL (AE (AA (.agg (List.toArray (α := Value) ([U64 pv, U64 ep, I64 (kd), .slice ao1 0 ca1, Slc nb5 0 ns cp1, U64 bl] ++ cu8 (zr8 16)))) (AK rfl (BH BE AW (by simp [(AP 16)]) (MemAt.ent 4 rfl (AM _)))) rfl ?_)))
   refine AR (A3 114 [.agg (List.toArray (α := Value) ([U64 pv, U64 ep, I64 (kd), .slice ao1 0 ca1, Slc nb5 0 ns cp1, U64 bl] ++ cu8 (zr8 16)))] (.tuple #[.slice none 0 0, errV 50 (mayN pv ep (kd) ([] : List UInt64) ls bl)]) (A0 [.agg (List.toArray (α := Value) ([U64 pv, U64 ep, I64 (kd), .slice ao1 0 ca1, Slc nb5 0 ns cp1, U64 bl] ++ cu8 (zr8 16)))] DL rfl) (fun w1 hw1 => F5 pv ep (kd) ao1 0 ca1 ([] : List UInt64) (some ⟨nb5, 0, none⟩) ns cp1 ls bl (zr8 16) w1 rfl (by omega) (by omega) (by omega) RdV.nil hls (by omega) (by omega) (by omega) (RdV.of hw1 (MemAt.ent 3 rfl (A2 (AM _)))) (AP 16) hm)) rfl ?_
   rintro v1 L1 ⟨rfl, rfl⟩
   show JL _ _ _ _ ((29, .tuple #[.slice none 0 0, errV 50 (mayN pv ep (kd) ([] : List UInt64) ls bl)]) :: _) [_, _, _, _, _]
   refine AA _ (AD rfl) rfl ?_
   refine AA _ (BN rfl rfl) rfl ?_
   refine AA _ (BN rfl rfl) rfl ?_
   refine AA _ (AH rfl) rfl ?_
   refine AA _ (AH rfl) rfl ?_
   refine AN (AF (AL (AL (AE (AA _ (AD rfl) rfl ?_)))))
   refine AA (.bool (!(decide (mayN pv ep (kd) ([] : List UInt64) ls bl = 0)))) (DC _ _ _ rfl rfl (fun _ => C5 ..) fun _ => EW BB _ _) rfl ?_
   refine AN (AF (C9 _ rfl (by rw [show (decide (mayN pv ep (kd) ([] : List UInt64) ls bl = 0)) = false from (decide_eq_false hm)] <;> rfl) ?_))
   refine AL (AE (AA (.agg (List.toArray (α := Value) ([U64 (0:UInt64), U64 (0:UInt64), I64 (0:Int), .slice none 0 0, .slice none 0 0, U64 (0:UInt64)] ++ cu8 (zr8 16)))) (CB [] _ rfl (fun _ => by kernel_rfl)) rfl ?_))
   refine AA _ (AD rfl) rfl ?_
   refine AR (A6 2 nb3 0 22 ([U64 (0:UInt64), U64 (0:UInt64), I64 (0:Int), .slice none 0 0, .slice none 0 0, U64 (0:UInt64)] ++ cu8 (zr8 16)) 29 (.agg (List.toArray (α := Value) ([U64 (0:UInt64), U64 (0:UInt64), I64 (0:Int), .slice none 0 0, .slice none 0 0, U64 (0:UInt64)] ++ cu8 (zr8 16)))) ([U64 (0:UInt64), U64 (0:UInt64), I64 (0:Int), .slice none 0 0, .slice none 0 0, U64 (0:UInt64)] ++ cu8 (zr8 16)) ([U64 (0:UInt64), U64 (0:UInt64), I64 (0:Int), .slice none 0 0, .slice none 0 0, U64 (0:UInt64)] ++ cu8 (zr8 16)) rfl rfl rfl (by first | rfl | simp) AW (by simp [(AP 16)]) (DA (by simp [Value.oneCell']) CK) (by simp [(AP 16)]) (BF (by simp [(AP 16), (AP 16)]))) rfl ?_
   rintro v1 L1 ⟨rfl, rfl⟩
   show JL _ _ _ _ _ [_, _, ⟨nb3, [U64 (0:UInt64), U64 (0:UInt64), I64 (0:Int), .slice none 0 0, .slice none 0 0, U64 (0:UInt64)] ++ cu8 (zr8 16), 29, (0, 0)⟩, _, _]
   refine AA _ (AH rfl) rfl ?_
   refine AN (AF (BO (A5 (B8 [false, false, true, false, false] ?_))))
   show JQ _ _ _ _ [_]
   refine BP (.tuple #[.agg (List.toArray (α := Value) ([U64 (0:UInt64), U64 (0:UInt64), I64 (0:Int), .slice none 0 0, .slice none 0 0, U64 (0:UInt64)] ++ cu8 (zr8 16))), errV 50 (mayN pv ep (kd) ([] : List UInt64) ls bl)]) (res2 DM (ED rfl (BH BE AW (by simp [(AP 16)]) (MemAt.ent 0 rfl (AM _)))) (BT rfl)) fun w1 hw1 => ?_
   exact ⟨_, [], rfl, ⟨rfl, rfl⟩, hw1.sub (by simp) (by simp)⟩
  ·
   rintro v1 L1 ⟨nb6, hnb6, rfl, rfl⟩
   refine ⟨[], ?_⟩
   show DP _ _ _ _ _ _ _ _ [_, _, _, ⟨nb6, [U64 (0:UInt64), U64 (0:UInt64), I64 (0:Int), .slice none 0 0, .slice none 0 0, U64 (0:UInt64)] ++ cu8 (zr8 16), 29, (0, 0)⟩]
   refine BR ⟨[6, 14], [0, 1, 2, 3, 4, 5, 7, 8, 10, 11], [4, 5], [0, 1, 2, 3, 7, 8, 10, 11], [9]⟩ 9 _ rfl rfl (by decide +kernel) rfl ⟨⟨_, rfl, AB rfl (AD rfl)⟩, ⟨_, rfl, AB rfl (AD rfl)⟩, ⟨_, rfl, AB rfl (AC 0 3 1 AG rfl A7 rfl rfl)⟩, ⟨_, rfl, AB rfl (AK rfl (AV BA (MemAt.ent 1 rfl (Seg.head))))⟩, ⟨_, rfl, AB rfl (AC 2 24 1 AG rfl B3 rfl rfl)⟩, ⟨_, rfl, AB rfl (AK rfl (AV B6 (MemAt.ent 1 rfl (AJ (AJ (Seg.head))))))⟩, ⟨_, rfl, AB rfl (AC 3 22 1 AG rfl AT rfl rfl)⟩, ⟨_, rfl, AB rfl (AK rfl (AV AU (MemAt.ent 1 rfl (AJ (AJ (AJ (Seg.head)))))))⟩, trivial⟩ rfl (AZ rfl (BG 113 [.slice sa ns sc] _ (A0 [.slice sa ns sc] D2 rfl) (fun w1 hw1 => F7 sa ns sc ls w1 hls (by omega) (by omega) (by omega) (C1 hw1 rfl hs) (by omega)))) ?_
   rintro v1 L1 ⟨_, ⟨nb8, sp2, cp2, rfl, rfl, hc6, hc7, hc8⟩, rfl⟩
   refine ⟨[(12, .agg (List.toArray (α := Value) ([I64 (kd), .slice ao1 0 ca1, Slc nb8 0 ns cp2, U64 bl]))), (13, .agg (List.toArray (α := Value) ([U64 pv, U64 ep, I64 (kd), .slice ao1 0 ca1, Slc nb8 0 ns cp2, U64 bl] ++ cu8 (zr8 16))))], ?_⟩
   show DP _ _ _ _ _ _ _ _ [_, _, _, _, ⟨nb8, ls.flatMap sealC ++ sp2, 161, (0, 0)⟩]
   refine BR ⟨[6, 14, 9], [0, 1, 2, 3, 4, 5, 7, 8, 10, 11, 12, 13], [4, 5, 7, 8], [0, 1, 2, 3, 10, 11, 12, 13], [15]⟩ 15 _ rfl rfl (by decide +kernel) rfl ⟨⟨_, rfl, AB rfl (AD rfl)⟩, ⟨_, rfl, AB rfl (AD rfl)⟩, ⟨_, rfl, AB rfl (AC 0 3 1 AG rfl A7 rfl rfl)⟩, ⟨_, rfl, AB rfl (AK rfl (AV BA (MemAt.ent 1 rfl (Seg.head))))⟩, ⟨_, rfl, AB rfl (AC 3 22 1 AG rfl AT rfl rfl)⟩, ⟨_, rfl, AB rfl (AK rfl (AV AU (MemAt.ent 1 rfl (AJ (AJ (AJ (Seg.head)))))))⟩, ⟨_, rfl, AB rfl (CB [(0, I64 (kd)), (1, .slice ao1 0 ca1), (2, Slc nb8 0 ns cp2), (3, U64 bl)] _ rfl (fun _ => DY rfl rfl rfl rfl))⟩, ⟨_, rfl, AB rfl (CB [(0, U64 pv), (1, U64 ep), (2, .agg (List.toArray (α := Value) ([I64 (kd), .slice ao1 0 ca1, Slc nb8 0 ns cp2, U64 bl])))] _ rfl (fun _ => EA rfl rfl (by simp [AP])))⟩, trivial⟩ rfl (AZ rfl (A6 3 nb6 0 22 ([U64 (0:UInt64), U64 (0:UInt64), I64 (0:Int), .slice none 0 0, .slice none 0 0, U64 (0:UInt64)] ++ cu8 (zr8 16)) 29 (.agg (List.toArray (α := Value) ([U64 pv, U64 ep, I64 (kd), .slice ao1 0 ca1, Slc nb8 0 ns cp2, U64 bl] ++ cu8 (zr8 16)))) ([U64 pv, U64 ep, I64 (kd), .slice ao1 0 ca1, Slc nb8 0 ns cp2, U64 bl] ++ cu8 (zr8 16)) ([U64 pv, U64 ep, I64 (kd), .slice ao1 0 ca1, Slc nb8 0 ns cp2, U64 bl] ++ cu8 (zr8 16)) rfl rfl rfl (by first | rfl | simp) AW (by simp [(AP 16)]) (DA (by simp [Value.oneCell']) CK) (by simp [(AP 16)]) (BF (by simp [(AP 16), (AP 16)])))) ?_
   rintro v1 L1 ⟨rfl, rfl⟩
   refine ⟨[], ?_⟩
   show DP _ _ _ _ _ _ _ _ [_, _, _, ⟨nb6, [U64 pv, U64 ep, I64 (kd), .slice ao1 0 ca1, Slc nb8 0 ns cp2, U64 bl] ++ cu8 (zr8 16), 29, (0, 0)⟩, _]
   refine CZ ⟨[6, 14, 9, 15], [0, 1, 2, 3, 4, 5, 7, 8, 10, 11, 12, 13], [0, 1, 2, 3, 4, 5, 7, 8, 10, 11, 12, 13], [], []⟩ rfl rfl (by decide +kernel) rfl trivial ?_
   refine CC (F' := [(10, Ptr nb6 0), (4, Ptr nb1 0), (8, Ptr nb3 0), (9, .nilIface)]) (by kernel_rfl) ?_
   refine AF (AL (AE (AA (.agg (List.toArray (α := Value) ([U64 pv, U64 ep, I64 (kd), .slice ao1 0 ca1, Slc nb8 0 ns cp2, U64 bl] ++ cu8 (zr8 16)))) (AK rfl (BH BE AW (by simp [(AP 16)]) (MemAt.ent 3 rfl (AM _)))) rfl ?_)))
   refine AR (A3 114 [.agg (List.toArray (α := Value) ([U64 pv, U64 ep, I64 (kd), .slice ao1 0 ca1, Slc nb8 0 ns cp2, U64 bl] ++ cu8 (zr8 16)))] (.tuple #[.slice none 0 0, errV 50 (mayN pv ep (kd) ([] : List UInt64) ls bl)]) (A0 [.agg (List.toArray (α := Value) ([U64 pv, U64 ep, I64 (kd), .slice ao1 0 ca1, Slc nb8 0 ns cp2, U64 bl] ++ cu8 (zr8 16)))] DL rfl) (fun w1 hw1 => F5 pv ep (kd) ao1 0 ca1 ([] : List UInt64) (some ⟨nb8, 0, none⟩) ns cp2 ls bl (zr8 16) w1 rfl (by omega) (by omega) (by omega) RdV.nil hls (by omega) (by omega) (by omega) (RdV.of hw1 (MemAt.ent 4 rfl (A2 (AM _)))) (AP 16) hm)) rfl ?_
   rintro v1 L1 ⟨rfl, rfl⟩
   show JL _ _ _ _ ((29, .tuple #[.slice none 0 0, errV 50 (mayN pv ep (kd) ([] : List UInt64) ls bl)]) :: _) [_, _, _, _, _]
   refine AA _ (AD rfl) rfl ?_
   refine AA _ (BN rfl rfl) rfl ?_
   refine AA _ (BN rfl rfl) rfl ?_
   refine AA _ (AH rfl) rfl ?_
   refine AA _ (AH rfl) rfl ?_
   refine AN (AF (AL (AL (AE (AA _ (AD rfl) rfl ?_)))))
   refine AA (.bool (!(decide (mayN pv ep (kd) ([] : List UInt64) ls bl = 0)))) (DC _ _ _ rfl rfl (fun _ => C5 ..) fun _ => EW BB _ _) rfl ?_
   refine AN (AF (C9 _ rfl (by rw [show (decide (mayN pv ep (kd) ([] : List UInt64) ls bl = 0)) = false from (decide_eq_false hm)] <;> rfl) ?_))
   refine AL (AE (AA (.agg (List.toArray (α := Value) ([U64 (0:UInt64), U64 (0:UInt64), I64 (0:Int), .slice none 0 0, .slice none 0 0, U64 (0:UInt64)] ++ cu8 (zr8 16)))) (CB [] _ rfl (fun _ => by kernel_rfl)) rfl ?_))
   refine AA _ (AD rfl) rfl ?_
   refine AR (A6 2 nb3 0 22 ([U64 (0:UInt64), U64 (0:UInt64), I64 (0:Int), .slice none 0 0, .slice none 0 0, U64 (0:UInt64)] ++ cu8 (zr8 16)) 29 (.agg (List.toArray (α := Value) ([U64 (0:UInt64), U64 (0:UInt64), I64 (0:Int), .slice none 0 0, .slice none 0 0, U64 (0:UInt64)] ++ cu8 (zr8 16)))) ([U64 (0:UInt64), U64 (0:UInt64), I64 (0:Int), .slice none 0 0, .slice none 0 0, U64 (0:UInt64)] ++ cu8 (zr8 16)) ([U64 (0:UInt64), U64 (0:UInt64), I64 (0:Int), .slice none 0 0, .slice none 0 0, U64 (0:UInt64)] ++ cu8 (zr8 16)) rfl rfl rfl (by first | rfl | simp) AW (by simp [(AP 16)]) (DA (by simp [Value.oneCell']) CK) (by simp [(AP 16)]) (BF (by simp [(AP 16), (AP 16)]))) rfl ?_
   rintro v1 L1 ⟨rfl, rfl⟩
   show JL _ _ _ _ _ [_, _, ⟨nb3, [U64 (0:UInt64), U64 (0:UInt64), I64 (0:Int), .slice none 0 0, .slice none 0 0, U64 (0:UInt64)] ++ cu8 (zr8 16), 29, (0, 0)⟩, _, _]
   refine AA _ (AH rfl) rfl ?_
   refine AN (AF (BO (A5 (B8 [false, false, true, false, false] ?_))))
   show JQ _ _ _ _ [_]
   refine BP (.tuple #[.agg (List.toArray (α := Value) ([U64 (0:UInt64), U64 (0:UInt64), I64 (0:Int), .slice none 0 0, .slice none 0 0, U64 (0:UInt64)] ++ cu8 (zr8 16))), errV 50 (mayN pv ep (kd) ([] : List UInt64) ls bl)]) (res2 DM (ED rfl (BH BE AW (by simp [(AP 16)]) (MemAt.ent 0 rfl (AM _)))) (BT rfl)) fun w1 hw1 => ?_
   exact ⟨_, [], rfl, ⟨rfl, rfl⟩, hw1.sub (by simp) (by simp)⟩
 ·
  rintro v1 L1 ⟨nb4, hnb4, rfl, rfl⟩
  refine ⟨[], ?_⟩
  show DP _ _ _ _ _ _ _ _ [_, _, _, ⟨nb4, [U64 (0:UInt64), U64 (0:UInt64), I64 (0:Int), .slice none 0 0, .slice none 0 0, U64 (0:UInt64)] ++ cu8 (zr8 16), 29, (0, 0)⟩]
  refine BR ⟨[14], [0, 1, 2, 3, 4, 5, 7, 8, 10, 11], [], [0, 1, 2, 3, 4, 5, 7, 8, 10, 11], [6]⟩ 6 _ rfl rfl (by decide +kernel) rfl ⟨⟨_, rfl, AB rfl (AD rfl)⟩, ⟨_, rfl, AB rfl (AD rfl)⟩, ⟨_, rfl, AB rfl (AC 0 3 1 AG rfl A7 rfl rfl)⟩, ⟨_, rfl, AB rfl (AK rfl (AV BA (MemAt.ent 1 rfl (Seg.head))))⟩, ⟨_, rfl, AB rfl (AC 1 23 1 AG rfl CE rfl rfl)⟩, ⟨_, rfl, AB rfl (AK rfl (AV CL (MemAt.ent 1 rfl (AJ (Seg.head)))))⟩, ⟨_, rfl, AB rfl (AC 2 24 1 AG rfl B3 rfl rfl)⟩, ⟨_, rfl, AB rfl (AK rfl (AV B6 (MemAt.ent 1 rfl (AJ (AJ (Seg.head))))))⟩, ⟨_, rfl, AB rfl (AC 3 22 1 AG rfl AT rfl rfl)⟩, ⟨_, rfl, AB rfl (AK rfl (AV AU (MemAt.ent 1 rfl (AJ (AJ (AJ (Seg.head)))))))⟩, trivial⟩ rfl (AZ rfl (BG 112 [.slice ai 0 ci] _ (A0 [.slice ai 0 ci] EV rfl) (fun w1 hw1 => clone64Z_w ai ci w1 (by omega) hnI))) ?_
  rintro v1 L1 ⟨_, ⟨ao2, ca2, rfl, rfl, hc9, hc10⟩, rfl⟩
  refine ⟨[], ?_⟩
  show DP _ _ _ _ _ _ _ _ [_, _, _, _]
  refine BR ⟨[14, 6], [0, 1, 2, 3, 4, 5, 7, 8, 10, 11], [4, 5], [0, 1, 2, 3, 7, 8, 10, 11], [9]⟩ 9 _ rfl rfl (by decide +kernel) rfl ⟨⟨_, rfl, AB rfl (AD rfl)⟩, ⟨_, rfl, AB rfl (AD rfl)⟩, ⟨_, rfl, AB rfl (AC 0 3 1 AG rfl A7 rfl rfl)⟩, ⟨_, rfl, AB rfl (AK rfl (AV BA (MemAt.ent 1 rfl (Seg.head))))⟩, ⟨_, rfl, AB rfl (AC 2 24 1 AG rfl B3 rfl rfl)⟩, ⟨_, rfl, AB rfl (AK rfl (AV B6 (MemAt.ent 1 rfl (AJ (AJ (Seg.head))))))⟩, ⟨_, rfl, AB rfl (AC 3 22 1 AG rfl AT rfl rfl)⟩, ⟨_, rfl, AB rfl (AK rfl (AV AU (MemAt.ent 1 rfl (AJ (AJ (AJ (Seg.head)))))))⟩, trivial⟩ rfl (AZ rfl (BG 113 [.slice sa ns sc] _ (A0 [.slice sa ns sc] D2 rfl) (fun w1 hw1 => F7 sa ns sc ls w1 hls (by omega) (by omega) (by omega) (C1 hw1 rfl hs) (by omega)))) ?_
  rintro v1 L1 ⟨_, ⟨nb9, sp3, cp3, rfl, rfl, hc11, hc12, hc13⟩, rfl⟩
  refine ⟨[(12, .agg (List.toArray (α := Value) ([I64 (kd), .slice ao2 0 ca2, Slc nb9 0 ns cp3, U64 bl]))), (13, .agg (List.toArray (α := Value) ([U64 pv, U64 ep, I64 (kd), .slice ao2 0 ca2, Slc nb9 0 ns cp3, U64 bl] ++ cu8 (zr8 16))))], ?_⟩
  show DP _ _ _ _ _ _ _ _ [_, _, _, _, ⟨nb9, ls.flatMap sealC ++ sp3, 161, (0, 0)⟩]
  refine BR ⟨[14, 6, 9], [0, 1, 2, 3, 4, 5, 7, 8, 10, 11, 12, 13], [4, 5, 7, 8], [0, 1, 2, 3, 10, 11, 12, 13], [15]⟩ 15 _ rfl rfl (by decide +kernel) rfl ⟨⟨_, rfl, AB rfl (AD rfl)⟩, ⟨_, rfl, AB rfl (AD rfl)⟩, ⟨_, rfl, AB rfl (AC 0 3 1 AG rfl A7 rfl rfl)⟩, ⟨_, rfl, AB rfl (AK rfl (AV BA (MemAt.ent 1 rfl (Seg.head))))⟩, ⟨_, rfl, AB rfl (AC 3 22 1 AG rfl AT rfl rfl)⟩, ⟨_, rfl, AB rfl (AK rfl (AV AU (MemAt.ent 1 rfl (AJ (AJ (AJ (Seg.head)))))))⟩, ⟨_, rfl, AB rfl (CB [(0, I64 (kd)), (1, .slice ao2 0 ca2), (2, Slc nb9 0 ns cp3), (3, U64 bl)] _ rfl (fun _ => DY rfl rfl rfl rfl))⟩, ⟨_, rfl, AB rfl (CB [(0, U64 pv), (1, U64 ep), (2, .agg (List.toArray (α := Value) ([I64 (kd), .slice ao2 0 ca2, Slc nb9 0 ns cp3, U64 bl])))] _ rfl (fun _ => EA rfl rfl (by simp [AP])))⟩, trivial⟩ rfl (AZ rfl (A6 3 nb4 0 22 ([U64 (0:UInt64), U64 (0:UInt64), I64 (0:Int), .slice none 0 0, .slice none 0 0, U64 (0:UInt64)] ++ cu8 (zr8 16)) 29 (.agg (List.toArray (α := Value) ([U64 pv, U64 ep, I64 (kd), .slice ao2 0 ca2, Slc nb9 0 ns cp3, U64 bl] ++ cu8 (zr8 16)))) ([U64 pv, U64 ep, I64 (kd), .slice ao2 0 ca2, Slc nb9 0 ns cp3, U64 bl] ++ cu8 (zr8 16)) ([U64 pv, U64 ep, I64 (kd), .slice ao2 0 ca2, Slc nb9 0 ns cp3, U64 bl] ++ cu8 (zr8 16)) rfl rfl rfl (by first | rfl | simp) AW (by simp [(AP 16)]) (DA (by simp [Value.oneCell']) CK) (by simp [(AP 16)]) (BF (by simp [(AP 16), (AP 16)])))) ?_
  rintro v1 L1 ⟨rfl, rfl⟩
  refine ⟨[], ?_⟩
  show DP _ _ _ _ _ _ _ _ [_, _, _, ⟨nb4, [U64 pv, U64 ep, I64 (kd), .slice ao2 0 ca2, Slc nb9 0 ns cp3, U64 bl] ++ cu8 (zr8 16), 29, (0, 0)⟩, _]
  refine CZ ⟨[14, 6, 9, 15], [0, 1, 2, 3, 4, 5, 7, 8, 10, 11, 12, 13], [0, 1, 2, 3, 4, 5, 7, 8, 10, 11, 12, 13], [], []⟩ rfl rfl (by decide +kernel) rfl trivial ?_
  refine CC (F' := [(10, Ptr nb4 0), (4, Ptr nb1 0), (8, Ptr nb3 0), (9, .nilIface)]) (by kernel_rfl) ?_
  refine AF (AL (AE (AA (.agg (List.toArray (α := Value) ([U64 pv, U64 ep, I64 (kd), .slice ao2 0 ca2, Slc nb9 0 ns cp3, U64 bl] ++ cu8 (zr8 16)))) (AK rfl (BH BE AW (by simp [(AP 16)]) (MemAt.ent 3 rfl (AM _)))) rfl ?_)))
  refine AR (A3 114 [.agg (List.toArray (α := Value) ([U64 pv, U64 ep, I64 (kd), .slice ao2 0 ca2, Slc nb9 0 ns cp3, U64 bl] ++ cu8 (zr8 16)))] (.tuple #[.slice none 0 0, errV 50 (mayN pv ep (kd) ([] : List UInt64) ls bl)]) (A0 [.agg (List.toArray (α := Value) ([U64 pv, U64 ep, I64 (kd), .slice ao2 0 ca2, Slc nb9 0 ns cp3, U64 bl] ++ cu8 (zr8 16)))] DL rfl) (fun w1 hw1 => F5 pv ep (kd) ao2 0 ca2 ([] : List UInt64) (some ⟨nb9, 0, none⟩) ns cp3 ls bl (zr8 16) w1 rfl (by omega) (by omega) (by omega) RdV.nil hls (by omega) (by omega) (by omega) (RdV.of hw1 (MemAt.ent 4 rfl (A2 (AM _)))) (AP 16) hm)) rfl ?_
  rintro v1 L1 ⟨rfl, rfl⟩
  show JL _ _ _ _ ((29, .tuple #[.slice none 0 0, errV 50 (mayN pv ep (kd) ([] : List UInt64) ls bl)]) :: _) [_, _, _, _, _]
  refine AA _ (AD rfl) rfl ?_
  refine AA _ (BN rfl rfl) rfl ?_
  refine AA _ (BN rfl rfl) rfl ?_
  refine AA _ (AH rfl) rfl ?_
  refine AA _ (AH rfl) rfl ?_
  refine AN (AF (AL (AL (AE (AA _ (AD rfl) rfl ?_)))))
  refine AA (.bool (!(decide (mayN pv ep (kd) ([] : List UInt64) ls bl = 0)))) (DC _ _ _ rfl rfl (fun _ => C5 ..) fun _ => EW BB _ _) rfl ?_
  refine AN (AF (C9 _ rfl (by rw [show (decide (mayN pv ep (kd) ([] : List UInt64) ls bl = 0)) = false from (decide_eq_false hm)] <;> rfl) ?_))
  refine AL (AE (AA (.agg (List.toArray (α := Value) ([U64 (0:UInt64), U64 (0:UInt64), I64 (0:Int), .slice none 0 0, .slice none 0 0, U64 (0:UInt64)] ++ cu8 (zr8 16)))) (CB [] _ rfl (fun _ => by kernel_rfl)) rfl ?_))
  refine AA _ (AD rfl) rfl ?_
  refine AR (A6 2 nb3 0 22 ([U64 (0:UInt64), U64 (0:UInt64), I64 (0:Int), .slice none 0 0, .slice none 0 0, U64 (0:UInt64)] ++ cu8 (zr8 16)) 29 (.agg (List.toArray (α := Value) ([U64 (0:UInt64), U64 (0:UInt64), I64 (0:Int), .slice none 0 0, .slice none 0 0, U64 (0:UInt64)] ++ cu8 (zr8 16)))) ([U64 (0:UInt64), U64 (0:UInt64), I64 (0:Int), .slice none 0 0, .slice none 0 0, U64 (0:UInt64)] ++ cu8 (zr8 16)) ([U64 (0:UInt64), U64 (0:UInt64), I64 (0:Int), .slice none 0 0, .slice none 0 0, U64 (0:UInt64)] ++ cu8 (zr8 16)) rfl rfl rfl (by first | rfl | simp) AW (by simp [(AP 16)]) (DA (by simp [Value.oneCell']) CK) (by simp [(AP 16)]) (BF (by simp [(AP 16), (AP 16)]))) rfl ?_
  rintro v1 L1 ⟨rfl, rfl⟩
  show JL _ _ _ _ _ [_, _, ⟨nb3, [U64 (0:UInt64), U64 (0:UInt64), I64 (0:Int), .slice none 0 0, .slice none 0 0, U64 (0:UInt64)] ++ cu8 (zr8 16), 29, (0, 0)⟩, _, _]
  refine AA _ (AH rfl) rfl ?_
  refine AN (AF (BO (A5 (B8 [false, false, true, false, false] ?_))))
  show JQ _ _ _ _ [_]
  refine BP (.tuple #[.agg (List.toArray (α := Value) ([U64 (0:UInt64), U64 (0:UInt64), I64 (0:Int), .slice none 0 0, .slice none 0 0, U64 (0:UInt64)] ++ cu8 (zr8 16))), errV 50 (mayN pv ep (kd) ([] : List UInt64) ls bl)]) (res2 DM (ED rfl (BH BE AW (by simp [(AP 16)]) (MemAt.ent 0 rfl (AM _)))) (BT rfl)) fun w1 hw1 => ?_
  exact ⟨_, [], rfl, ⟨rfl, rfl⟩, hw1.sub (by simp) (by simp)⟩
theorem signBZZ_c (key : List UInt8) (pv ep : UInt64) (kd : Int) (ai : Option Addr) (ci : Nat) (sa : Option Addr) (sc : Nat) (bl : UInt64)  (w : World) (hk32 : key.length = 32) (hci : ci ≤ maxLen) (hnI : ai = none → ci = 0) (hcs : sc ≤ maxLen) (hnS : sa = none → sc = 0) (hm : mayN pv ep kd ([] : List UInt64) ([] : List SealR) bl ≠ 0)  : Calls Tryd.prog 46 #[.agg (cu8 key).toArray, U64 pv, U64 ep, .agg (List.toArray (α := Value) ([I64 (kd), .slice ai 0 ci, .slice sa 0 sc, U64 bl]))] w (Post w [] (fun v L => v = .tuple #[.agg (List.toArray (α := Value) ([U64 (0:UInt64), U64 (0:UInt64), I64 (0:Int), .slice none 0 0, .slice none 0 0, U64 (0:UInt64)] ++ cu8 (zr8 16))), errV 50 (mayN pv ep kd ([] : List UInt64) ([] : List SealR) bl)] ∧ L = [])) := by
 have hmx : maxLen = 9223372036854775807 := rfl
 refine enter (P := Tryd.prog) (f := 46) (fn := Tryd.f46) w [] 44 [] [.agg (cu8 key).toArray, U64 pv, U64 ep, .agg (List.toArray (α := Value) ([I64 (kd), .slice ai 0 ci, .slice sa 0 sc, U64 bl]))] Tryd.func46 rfl rfl (by simp) (B7 (by simp) (by simp) (by simp)) ?_
 show JC _ _ _ [(0, .agg (cu8 key).toArray), (1, U64 pv), (2, U64 ep), (3, .agg (List.toArray (α := Value) ([I64 (kd), .slice ai 0 ci, .slice sa 0 sc, U64 bl])))] _
 refine AL (AE (AR (CN (.agg (cu8 key).toArray) (cu8 key) rfl (by first | rfl | simp)) rfl ?_))
 rintro v1 L1 ⟨nb1, hnb1, rfl, rfl⟩
 show JL _ _ _ _ ((4, Ptr nb1 0) :: _) [⟨nb1, cu8 key, 54, (0, 0)⟩]
 refine AR (CN (.agg (List.toArray (α := Value) ([I64 (kd), .slice ai 0 ci, .slice sa 0 sc, U64 bl]))) ([I64 (kd), .slice ai 0 ci, .slice sa 0 sc, U64 bl]) rfl (by first | rfl | simp)) rfl ?_
 rintro v1 L1 ⟨nb2, hnb2, rfl, rfl⟩
 show JL _ _ _ _ ((7, Ptr nb2 0) :: _) [_, ⟨nb2, [I64 (kd), .slice ai 0 ci, .slice sa 0 sc, U64 bl], 26, (0, 0)⟩]
 refine AR (BJ _ ([U64 (0:UInt64), U64 (0:UInt64), I64 (0:Int), .slice none 0 0, .slice none 0 0, U64 (0:UInt64)] ++ cu8 (zr8 16)) B9 (by kernel_rfl)) rfl ?_
 rintro v1 L1 ⟨nb3, hnb3, rfl, rfl⟩
 show JL _ _ _ _ ((8, Ptr nb3 0) :: _) [_, _, ⟨nb3, [U64 (0:UInt64), U64 (0:UInt64), I64 (0:Int), .slice none 0 0, .slice none 0 0, U64 (0:UInt64)] ++ cu8 (zr8 16), 29, (0, 0)⟩]
 refine AA _ (AH rfl) rfl ?_
 refine AN (AF (AL (CQ 44 5 [(0, U64 pv), (1, U64 ep), (2, Ptr nb2 0), (3, I64 (kd)), (4, Ptr nb2 1), (5, .slice ai 0 ci), (7, Ptr nb2 2), (8, .slice sa 0 sc), (10, Ptr nb2 3), (11, U64 bl)] BQ rfl (by decide +kernel) ?_)))
 refine DP_two ⟨[], [0, 1, 2, 3, 4, 5, 7, 8, 10, 11], [], [0, 1, 2, 3, 4, 5, 7, 8, 10, 11], [6, 14]⟩ 6 14 _ _ rfl rfl (by decide +kernel) rfl ⟨⟨_, rfl, AB rfl (AD rfl)⟩, ⟨_, rfl, AB rfl (AD rfl)⟩, ⟨_, rfl, AB rfl (AC 0 3 1 AG rfl A7 rfl rfl)⟩, ⟨_, rfl, AB rfl (AK rfl (AV BA (MemAt.ent 1 rfl (Seg.head))))⟩, ⟨_, rfl, AB rfl (AC 1 23 1 AG rfl CE rfl rfl)⟩, ⟨_, rfl, AB rfl (AK rfl (AV CL (MemAt.ent 1 rfl (AJ (Seg.head)))))⟩, ⟨_, rfl, AB rfl (AC 2 24 1 AG rfl B3 rfl rfl)⟩, ⟨_, rfl, AB rfl (AK rfl (AV B6 (MemAt.ent 1 rfl (AJ (AJ (Seg.head))))))⟩, ⟨_, rfl, AB rfl (AC 3 22 1 AG rfl AT rfl rfl)⟩, ⟨_, rfl, AB rfl (AK rfl (AV AU (MemAt.ent 1 rfl (AJ (AJ (AJ (Seg.head)))))))⟩, trivial⟩ rfl rfl (AZ rfl (BG 112 [.slice ai 0 ci] _ (A0 [.slice ai 0 ci] EV rfl) (fun w1 hw1 => clone64Z_w ai ci w1 (by omega) hnI))) (AZ rfl (BJ _ ([U64 (0:UInt64), U64 (0:UInt64), I64 (0:Int), .slice none 0 0, .slice none 0 0, U64 (0:UInt64)] ++ cu8 (zr8 16)) B9 (by kernel_rfl))) ?_ ?_
 ·
  rintro v1 L1 ⟨_, ⟨ao1, ca1, rfl, rfl, hc1, hc2⟩, rfl⟩
  refine ⟨[], ?_⟩
  show DP _ _ _ _ _ _ _ _ [_, _, _]
  refine DP_two ⟨[6], [0, 1, 2, 3, 4, 5, 7, 8, 10, 11], [4, 5], [0, 1, 2, 3, 7, 8, 10, 11], [9, 14]⟩ 9 14 _ _ rfl rfl (by decide +kernel) rfl ⟨⟨_, rfl, AB rfl (AD rfl)⟩, ⟨_, rfl, AB rfl (AD rfl)⟩, ⟨_, rfl, AB rfl (AC 0 3 1 AG rfl A7 rfl rfl)⟩, ⟨_, rfl, AB rfl (AK rfl (AV BA (MemAt.ent 1 rfl (Seg.head))))⟩, ⟨_, rfl, AB rfl (AC 2 24 1 AG rfl B3 rfl rfl)⟩, ⟨_, rfl, AB rfl (AK rfl (AV B6 (MemAt.ent 1 rfl (AJ (AJ (Seg.head))))))⟩, ⟨_, rfl, AB rfl (AC 3 22 1 AG rfl AT rfl rfl)⟩, ⟨_, rfl, AB rfl (AK rfl (AV AU (MemAt.ent 1 rfl (AJ (AJ (AJ (Seg.head)))))))⟩, trivial⟩ rfl rfl (AZ rfl (BG 113 [.slice sa 0 sc] _ (A0 [.slice sa 0 sc] D2 rfl) (fun w1 hw1 => FS sa sc w1 (by omega) hnS))) (AZ rfl (BJ _ ([U64 (0:UInt64), U64 (0:UInt64), I64 (0:Int), .slice none 0 0, .slice none 0 0, U64 (0:UInt64)] ++ cu8 (zr8 16)) B9 (by kernel_rfl))) ?_ ?_
  ·
   rintro v1 L1 ⟨_, ⟨ao2, ca2, rfl, rfl, hc3, hc4⟩, rfl⟩
   refine ⟨[(12, .agg (List.toArray (α := Value) ([I64 (kd), .slice ao1 0 ca1, .slice ao2 0 ca2, U64 bl]))), (13, .agg (List.toArray (α := Value) ([U64 pv, U64 ep, I64 (kd), .slice ao1 0 ca1, .slice ao2 0 ca2, U64 bl] ++ cu8 (zr8 16))))], ?_⟩
   show DP _ _ _ _ _ _ _ _ [_, _, _]
   refine BR ⟨[6, 9], [0, 1, 2, 3, 4, 5, 7, 8, 10, 11, 12, 13], [4, 5, 7, 8], [0, 1, 2, 3, 10, 11, 12, 13], [14]⟩ 14 _ rfl rfl (by decide +kernel) rfl ⟨⟨_, rfl, AB rfl (AD rfl)⟩, ⟨_, rfl, AB rfl (AD rfl)⟩, ⟨_, rfl, AB rfl (AC 0 3 1 AG rfl A7 rfl rfl)⟩, ⟨_, rfl, AB rfl (AK rfl (AV BA (MemAt.ent 1 rfl (Seg.head))))⟩, ⟨_, rfl, AB rfl (AC 3 22 1 AG rfl AT rfl rfl)⟩, ⟨_, rfl, AB rfl (AK rfl (AV AU (MemAt.ent 1 rfl (AJ (AJ (AJ (Seg.head)))))))⟩, ⟨_, rfl, AB rfl (CB [(0, I64 (kd)), (1, .slice ao1 0 ca1), (2, .slice ao2 0 ca2), (3, U64 bl)] _ rfl (fun _ => DY rfl rfl rfl rfl))⟩, ⟨_, rfl, AB rfl (CB [(0, U64 pv), (1, U64 ep), (2, .agg (List.toArray (α := Value) ([I64 (kd), .slice ao1 0 ca1, .slice ao2 0 ca2, U64 bl])))] _ rfl (fun _ => EA rfl rfl (by simp [AP])))⟩, trivial⟩ rfl (AZ rfl (BJ _ ([U64 (0:UInt64), U64 (0:UInt64), I64 (0:Int), .slice none 0 0, .slice none 0 0, U64 (0:UInt64)] ++ cu8 (zr8 16)) B9 (by kernel_rfl))) ?_
   rintro v1 L1 ⟨nb6, hnb6, rfl, rfl⟩
   refine ⟨[], ?_⟩
   show DP _ _ _ _ _ _ _ _ [_, _, _, ⟨nb6, [U64 (0:UInt64), U64 (0:UInt64), I64 (0:Int), .slice none 0 0, .slice none 0 0, U64 (0:UInt64)] ++ cu8 (zr8 16), 29, (0, 0)⟩]
   refine BR ⟨[6, 9, 14], [0, 1, 2, 3, 4, 5, 7, 8, 10, 11, 12, 13], [4, 5, 7, 8], [0, 1, 2, 3, 10, 11, 12, 13], [15]⟩ 15 _ rfl rfl (by decide +kernel) rfl ⟨⟨_, rfl, AB rfl (AD rfl)⟩, ⟨_, rfl, AB rfl (AD rfl)⟩, ⟨_, rfl, AB rfl (AC 0 3 1 AG rfl A7 rfl rfl)⟩, ⟨_, rfl, AB rfl (AK rfl (AV BA (MemAt.ent 1 rfl (Seg.head))))⟩, ⟨_, rfl, AB rfl (AC 3 22 1 AG rfl AT rfl rfl)⟩, ⟨_, rfl, AB rfl (AK rfl (AV AU (MemAt.ent 1 rfl (AJ (AJ (AJ (Seg.head)))))))⟩, ⟨_, rfl, AB rfl (CB [(0, I64 (kd)), (1, .slice ao1 0 ca1), (2, .slice ao2 0 ca2), (3, U64 bl)] _ rfl (fun _ => DY rfl rfl rfl rfl))⟩, ⟨_, rfl, AB rfl (CB [(0, U64 pv), (1, U64 ep), (2, .agg (List.toArray (α := Value) ([I64 (kd), .slice ao1 0 ca1, .slice ao2 0 ca2, U64 bl])))] _ rfl (fun _ => EA rfl rfl (by simp [AP])))⟩, trivial⟩ rfl (AZ rfl (A6 3 nb6 0 22 ([U64 (0:UInt64), U64 (0:UInt64), I64 (0:Int), .slice none 0 0, .slice none 0 0, U64 (0:UInt64)] ++ cu8 (zr8 16)) 29 (.agg (List.toArray (α := Value) ([U64 pv, U64 ep, I64 (kd), .slice ao1 0 ca1, .slice ao2 0 ca2, U64 bl] ++ cu8 (zr8 16)))) ([U64 pv, U64 ep, I64 (kd), .slice ao1 0 ca1, .slice ao2 0 ca2, U64 bl] ++ cu8 (zr8 16)) ([U64 pv, U64 ep, I64 (kd), .slice ao1 0 ca1, .slice ao2 0 ca2, U64 bl] ++ cu8 (zr8 16)) rfl rfl rfl (by first | rfl | simp) AW (by simp [(AP 16)]) (DA (by simp [Value.oneCell']) CK) (by simp [(AP 16)]) (BF (by simp [(AP 16), (AP 16)])))) ?_
   rintro v1 L1 ⟨rfl, rfl⟩
   refine ⟨[], ?_⟩
   show DP _ _ _ _ _ _ _ _ [_, _, _, ⟨nb6, [U64 pv, U64 ep, I64 (kd), .slice ao1 0 ca1, .slice ao2 0 ca2, U64 bl] ++ cu8 (zr8 16), 29, (0, 0)⟩]
   refine CZ ⟨[6, 9, 14, 15], [0, 1, 2, 3, 4, 5, 7, 8, 10, 11, 12, 13], [0, 1, 2, 3, 4, 5, 7, 8, 10, 11, 12, 13], [], []⟩ rfl rfl (by decide +kernel) rfl trivial ?_
   refine CC (F' := [(10, Ptr nb6 0), (4, Ptr nb1 0), (8, Ptr nb3 0), (9, .nilIface)]) (by kernel_rfl) ?_
   refine AF (AL (AE (AA (.agg (List.toArray (α := Value) ([U64 pv, U64 ep, I64 (kd), .slice ao1 0 ca1, .slice ao2 0 ca2, U64 bl] ++ cu8 (zr8 16)))) (AK rfl (BH BE AW (by simp [(AP 16)]) (MemAt.ent 3 rfl (AM _)))) rfl ?_)))
   refine AR (A3 114 [.agg (List.toArray (α := Value) ([U64 pv, U64 ep, I64 (kd), .slice ao1 0 ca1, .slice ao2 0 ca2, U64 bl] ++ cu8 (zr8 16)))] (.tuple #[.slice none 0 0, errV 50 (mayN pv ep (kd) ([] : List UInt64) ([] : List SealR) bl)]) (A0 [.agg (List.toArray (α := Value) ([U64 pv, U64 ep, I64 (kd), .slice ao1 0 ca1, .slice ao2 0 ca2, U64 bl] ++ cu8 (zr8 16)))] DL rfl) (fun w1 hw1 => F5 pv ep (kd) ao1 0 ca1 ([] : List UInt64) ao2 0 ca2 ([] : List SealR) bl (zr8 16) w1 rfl (by omega) (by omega) (by omega) RdV.nil rfl (by omega) (by omega) (by omega) RdV.nil (AP 16) hm)) rfl ?_
   rintro v1 L1 ⟨rfl, rfl⟩
   show JL _ _ _ _ ((29, .tuple #[.slice none 0 0, errV 50 (mayN pv ep (kd) ([] : List UInt64) ([] : List SealR) bl)]) :: _) [_, _, _, _]
   refine AA _ (AD rfl) rfl ?_
   refine AA _ (BN rfl rfl) rfl ?_
   refine AA _ (BN rfl rfl) rfl ?_
   refine AA _ (AH rfl) rfl ?_
   refine AA _ (AH rfl) rfl ?_
   refine AN (AF (AL (AL (AE (AA _ (AD rfl) rfl ?_)))))
   refine AA (.bool (!(decide (mayN pv ep (kd) ([] : List UInt64) ([] : List SealR) bl = 0)))) (DC _ _ _ rfl rfl (fun _ => C5 ..) fun _ => EW BB _ _) rfl ?_
   refine AN (AF (C9 _ rfl (by rw [show (decide (mayN pv ep (kd) ([] : List UInt64) ([] : List SealR) bl = 0)) = false from (decide_eq_false hm)] <;> rfl) ?_))
   refine AL (AE (AA (.agg (List.toArray (α := Value) ([U64 (0:UInt64), U64 (0:UInt64), I64 (0:Int), .slice none 0 0, .slice none 0 0, U64 (0:UInt64)] ++ cu8 (zr8 16)))) (CB [] _ rfl (fun _ => by kernel_rfl)) rfl ?_))
   refine AA _ (AD rfl) rfl ?_
   refine AR (A6 2 nb3 0 22 ([U64 (0:UInt64), U64 (0:UInt64), I64 (0:Int), .slice none 0 0, .slice none 0 0, U64 (0:UInt64)] ++ cu8 (zr8 16)) 29 (.agg (List.toArray (α := Value) ([U64 (0:UInt64), U64 (0:UInt64), I64 (0:Int), .slice none 0 0, .slice none 0 0, U64 (0:UInt64)] ++ cu8 (zr8 16)))) ([U64 (0:UInt64), U64 (0:UInt64), I64 (0:Int), .slice none 0 0, .slice none 0 0, U64 (0:UInt64)] ++ cu8 (zr8 16)) ([U64 (0:UInt64), U64 (0:UInt64), I64 (0:Int), .slice none 0 0, .slice none 0 0, U64 (0:UInt64)] ++ cu8 (zr8 16)) rfl rfl rfl (by first | rfl | simp) AW (by simp [(AP 16)]) (DA (by simp [Value.oneCell']) CK) (by simp [(AP 16)]) (BF (by simp [(AP 16), (AP 16)]))) rfl ?_
   rintro v1 L1 ⟨rfl, rfl⟩
   show JL _ _ _ _ _ [_, _, ⟨nb3, [U64 (0:UInt64), U64 (0:UInt64), I64 (0:Int), .slice none 0 0, .slice none 0 0, U64 (0:UInt64)] ++ cu8 (zr8 16), 29, (0, 0)⟩, _]
   refine AA _ (AH rfl) rfl ?_
   refine AN (AF (BO (A5 (B8 [false, false, true, false] ?_))))
   show JQ _ _ _ _ [_]
   refine BP (.tuple #[.agg (List.toArray (α := Value) ([U64 (0:UInt64), U64 (0:UInt64), I64 (0:Int), .slice none 0 0, .slice none 0 0, U64 (0:UInt64)] ++ cu8 (zr8 16))), errV 50 (mayN pv ep (kd) ([] : List UInt64) ([] : List SealR) bl)]) (res2 DM (ED rfl (BH BE AW (by simp [(AP 16)]) (MemAt.ent 0 rfl (AM _)))) (BT rfl)) fun w1 hw1 => ?_
   exact ⟨_, [], rfl, ⟨rfl, rfl⟩, hw1.sub (by simp) (by simp)⟩
  ·
   rintro v1 L1 ⟨nb5, hnb5, rfl, rfl⟩
   refine ⟨[], ?_⟩
   show DP _ _ _ _ _ _ _ _ [_, _, _, ⟨nb5, [U64 (0:UInt64), U64 (0:UInt64), I64 (0:Int), .slice none 0 0, .slice none 0 0, U64 (0:UInt64)] ++ cu8 (zr8 16), 29, (0, 0)⟩]
   refine BR ⟨[6, 14], [0, 1, 2, 3, 4, 5, 7, 8, 10, 11], [4, 5], [0, 1, 2, 3, 7, 8, 10, 11], [9]⟩ 9 _ rfl rfl (by decide +kernel) rfl ⟨⟨_, rfl, AB rfl (AD rfl)⟩, ⟨_, rfl, AB rfl (AD rfl)⟩, ⟨_, rfl, AB rfl (AC 0 3 1 AG rfl A7 rfl rfl)⟩, ⟨_, rfl, AB rfl (AK rfl (AV BA (MemAt.ent 1 rfl (Seg.head))))⟩, ⟨_, rfl, AB rfl (AC 2 24 1 AG rfl B3 rfl rfl)⟩, ⟨_, rfl, AB rfl (AK rfl (AV B6 (MemAt.ent 1 rfl (AJ (AJ (Seg.head))))))⟩, ⟨_, rfl, AB rfl (AC 3 22 1 AG rfl AT rfl rfl)⟩, ⟨_, rfl, AB rfl (AK rfl (AV AU (MemAt.ent 1 rfl (AJ (AJ (AJ (Seg.head)))))))⟩, trivial⟩ rfl (AZ rfl (BG 113 [.slice sa 0 sc] _ (A0 [.slice sa 0 sc] D2 rfl) (fun w1 hw1 => FS sa sc w1 (by omega) hnS))) ?_
   rintro v1 L1 ⟨_, ⟨ao3, ca3, rfl, rfl, hc5, hc6⟩, rfl⟩
   refine ⟨[(12, .agg (List.toArray (α := Value) ([I64 (kd), .slice ao1 0 ca1, .slice ao3 0 ca3, U64 bl]))), (13, .agg (List.toArray (α := Value) ([U64 pv, U64 ep, I64 (kd), .slice ao1 0 ca1, .slice ao3 0 ca3, U64 bl] ++ cu8 (zr8 16))))], ?_⟩
   show DP _ _ _ _ _ _ _ _ [_, _, _, _]
   refine BR ⟨[6, 14, 9], [0, 1, 2, 3, 4, 5, 7, 8, 10, 11, 12, 13], [4, 5, 7, 8], [0, 1, 2, 3, 10, 11, 12, 13], [15]⟩ 15 _ rfl rfl (by decide +kernel) rfl ⟨⟨_, rfl, AB rfl (AD rfl)⟩, ⟨_, rfl, AB rfl (AD rfl)⟩, ⟨_, rfl, AB rfl (AC 0 3 1 AG rfl A7 rfl rfl)⟩, ⟨_, rfl, AB rfl (AK rfl (AV BA (MemAt.ent 1 rfl (Seg.head))))⟩, ⟨_, rfl, AB rfl (AC 3 22 1 AG rfl AT rfl rfl)⟩, ⟨_, rfl, AB rfl (AK rfl (AV AU (MemAt.ent 1 rfl (AJ (AJ (AJ (Seg.head)))))))⟩, ⟨_, rfl, AB rfl (CB [(0, I64 (kd)), (1, .slice ao1 0 ca1), (2, .slice ao3 0 ca3), (3, U64 bl)] _ rfl (fun _ => DY rfl rfl rfl rfl))⟩, ⟨_, rfl, AB rfl (CB [(0, U64 pv), (1, U64 ep), (2, .agg (List.toArray (α := Value) ([I64 (kd), .slice ao1 0 ca1, .slice ao3 0 ca3, U64 bl])))] _ rfl (fun _ => EA rfl rfl (by simp [AP])))⟩, trivial⟩ rfl (AZ rfl (A6 3 nb5 0 22 ([U64 (0:UInt64), U64 (0:UInt64), I64 (0:Int), .slice none 0 0, .slice none 0 0, U64 (0:UInt64)] ++ cu8 (zr8 16)) 29 (.agg (List.toArray (α := Value) ([U64 pv, U64 ep, I64 (kd), .slice ao1 0 ca1, .slice ao3 0 ca3, U64 bl] ++ cu8 (zr8 16)))) ([U64 pv, U64 ep, I64 (kd), .slice ao1 0 ca1, .slice ao3 0 ca3, U64 bl] ++ cu8 (zr8 16)) ([U64 pv, U64 ep, I64 (kd), .slice ao1 0 ca1, .slice ao3 0 ca3, U64 bl] ++ cu8 (zr8 16)) rfl rfl rfl (by first | rfl | simp) AW (by simp [(AP 16)]) (DA (by simp [Value.oneCell']) CK) (by simp [(AP 16)]) (BF (by simp [(AP 16), (AP 16)])))) ?_
   rintro v1 L1 ⟨rfl, rfl⟩
   refine ⟨[], ?_⟩
   show DP _ _ _ _ _ _ _ _ [_, _, _, ⟨nb5, [U64 pv, U64 ep, I64 (kd), .slice ao1 0 ca1, .slice ao3 0 ca3, U64 bl] ++ cu8 (zr8 16), 29, (0, 0)⟩]
   refine CZ ⟨[6, 14, 9, 15], [0, 1, 2, 3, 4, 5, 7, 8, 10, 11, 12, 13], [0, 1, 2, 3, 4, 5, 7, 8, 10, 11, 12, 13], [], []⟩ rfl rfl (by decide +kernel) rfl trivial ?_
   refine CC (F' := [(10, Ptr nb5 0), (4, Ptr nb1 0), (8, Ptr nb3 0), (9, .nilIface)]) (by kernel_rfl) ?_
   refine AF (AL (AE (AA (.agg (List.toArray (α := Value) ([U64 pv, U64 ep, I64 (kd), .slice ao1 0 ca1, .slice ao3 0 ca3, U64 bl] ++ cu8 (zr8 16)))) (AK rfl (BH BE AW (by simp [(AP 16)]) (MemAt.ent 3 rfl (AM _)))) rfl ?_)))
   refine AR (A3 114 [.agg (List.toArray (α := Value) ([U64 pv, U64 ep, I64 (kd), .slice ao1 0 ca1, .slice ao3 0 ca3, U64 bl] ++ cu8 (zr8 16)))] (.tuple #[.slice none 0 0, errV 50 (mayN pv ep (kd) ([] : List UInt64) ([] : List SealR) bl)]) (A0 [.agg (List.toArray (α := Value) ([U64 pv, U64 ep, I64 (kd), .slice ao1 0 ca1, .slice ao3 0 ca3, U64 bl] ++ cu8 (zr8 16)))] DL rfl) (fun w1 hw1 => F5 pv ep (kd) ao1 0 ca1 ([] : List UInt64) ao3 0 ca3 ([] : List SealR) bl (zr8 16) w1 rfl (by omega) (by omega) (by omega) RdV.nil rfl (by omega) (by omega) (by omega) RdV.nil (AP 16) hm)) rfl ?_
   rintro v1 L1 ⟨rfl, rfl⟩
   show JL _ _ _ _ ((29, .tuple #[.slice none 0 0, errV 50 (mayN pv ep (kd) ([] : List UInt64) ([] : List SealR) bl)]) :: _) [_, _, _, _]
   refine AA _ (AD rfl) rfl ?_
   refine AA _ (BN rfl rfl) rfl ?_
   refine AA _ (BN rfl rfl) rfl ?_
   refine AA _ (AH rfl) rfl ?_
   refine AA _ (AH rfl) rfl ?_
   refine AN (AF (AL (AL (AE (AA _ (AD rfl) rfl ?_)))))
   refine AA (.bool (!(decide (mayN pv ep (kd) ([] : List UInt64) ([] : List SealR) bl = 0)))) (DC _ _ _ rfl rfl (fun _ => C5 ..) fun _ => EW BB _ _) rfl ?_
   refine AN (AF (C9 _ rfl (by rw [show (decide (mayN pv ep (kd) ([] : List UInt64) ([] : List SealR) bl = 0)) = false from (decide_eq_false hm)] <;> rfl) ?_))
   refine AL (AE (AA (.agg (List.toArray (α := Value) ([U64 (0:UInt64), U64 (0:UInt64), I64 (0:Int), .slice none 0 0, .slice none 0 0, U64 (0:UInt64)] ++ cu8 (zr8 16)))) (CB [] _ rfl (fun _ => by kernel_rfl)) rfl ?_))
   refine AA _ (AD rfl) rfl ?_
   refine AR (A6 2 nb3 0 22 ([U64 (0:UInt64), U64 (0:UInt64), I64 (0:Int), .slice none 0 0, .slice none 0 0, U64 (0:UInt64)] ++ cu8 (zr8 16)) 29 (.agg (List.toArray (α := Value) ([U64 (0:UInt64), U64 (0:UInt64), I64 (0:Int), .slice none 0 0, .slice none 0 0, U64 (0:UInt64)] ++ cu8 (zr8 16)))) ([U64 (0:UInt64), U64 (0:UInt64), I64 (0:Int), .slice none 0 0, .slice none 0 0, U64 (0:UInt64)] ++ cu8 (zr8 16)) ([U64 (0:UInt64), U64 (0:UInt64), I64 (0:Int), .slice none 0 0, .slice none 0 0, U64 (0:UInt64)] ++ cu8 (zr8 16)) rfl rfl rfl (by first | rfl | simp) AW (by simp [(AP 16)]) (DA (by simp [Value.oneCell']) CK) (by simp [(AP 16)]) (BF (by simp [(AP 16), (AP 16)]))) rfl ?_
   rintro v1 L1 ⟨rfl, rfl⟩
   show JL _ _ _ _ _ [_, _, ⟨nb3, [U64 (0:UInt64), U64 (0:UInt64), I64 (0:Int), .slice none 0 0, .slice none 0 0, U64 (0:UInt64)] ++ cu8 (zr8 16), 29, (0, 0)⟩, _]
   refine AA _ (AH rfl) rfl ?_
   refine AN (AF (BO (A5 (B8 [false, false, true, false] ?_))))
   show JQ _ _ _ _ [_]
   refine BP (.tuple #[.agg (List.toArray (α := Value) ([U64 (0:UInt64), U64 (0:UInt64), I64 (0:Int), .slice none 0 0, .slice none 0 0, U64 (0:UInt64)] ++ cu8 (zr8 16))), errV 50 (mayN pv ep (kd) ([] : List UInt64) ([] : List SealR) bl)]) (res2 DM (ED rfl (BH BE AW (by simp [(AP 16)]) (MemAt.ent 0 rfl (AM _)))) (BT rfl)) fun w1 hw1 => ?_
   exact ⟨_, [], rfl, ⟨rfl, rfl⟩, hw1.sub (by simp) (by simp)⟩
 ·
  rintro v1 L1 ⟨nb4, hnb4, rfl, rfl⟩
  refine ⟨[], ?_⟩
  show DP _ _ _ _ _ _ _ _ [_, _, _, ⟨nb4, [U64 (0:UInt64), U64 (0:UInt64), I64 (0:Int), .slice none 0 0, .slice none 0 0, U64 (0:UInt64)] ++ cu8 (zr8 16), 29, (0, 0)⟩]
  refine BR ⟨[14], [0, 1, 2, 3, 4, 5, 7, 8, 10, 11], [], [0, 1, 2, 3, 4, 5, 7, 8, 10, 11], [6]⟩ 6 _ rfl rfl (by decide +kernel) rfl ⟨⟨_, rfl, AB rfl (AD rfl)⟩, ⟨_, rfl, AB rfl (AD rfl)⟩, ⟨_, rfl, AB rfl (AC 0 3 1 AG rfl A7 rfl rfl)⟩, ⟨_, rfl, AB rfl (AK rfl (AV BA (MemAt.ent 1 rfl (Seg.head))))⟩, ⟨_, rfl, AB rfl (AC 1 23 1 AG rfl CE rfl rfl)⟩, ⟨_, rfl, AB rfl (AK rfl (AV CL (MemAt.ent 1 rfl (AJ (Seg.head)))))⟩, ⟨_, rfl, AB rfl (AC 2 24 1 AG rfl B3 rfl rfl)⟩, ⟨_, rfl, AB rfl (AK rfl (AV B6 (MemAt.ent 1 rfl (AJ (AJ (Seg.head))))))⟩, ⟨_, rfl, AB rfl (AC 3 22 1 AG rfl AT rfl rfl)⟩, ⟨_, rfl, AB rfl (AK rfl (AV AU (MemAt.ent 1 rfl (AJ (AJ (AJ (Seg.head)))))))⟩, trivial⟩ rfl (AZ rfl (BG 112 [.slice ai 0 ci] _ (A0 [.slice ai 0 ci] EV rfl) (fun w1 hw1 => clone64Z_w ai ci w1 (by omega) hnI))) ?_
  rintro v1 L1 ⟨_, ⟨ao4, ca4, rfl, rfl, hc7, hc8⟩, rfl⟩
  refine ⟨[], ?_⟩
  show DP _ _ _ _ _ _ _ _ [_, _, _, _]
  refine BR ⟨[14, 6], [0, 1, 2, 3, 4, 5, 7, 8, 10, 11], [4, 5], [0, 1, 2, 3, 7, 8, 10, 11], [9]⟩ 9 _ rfl rfl (by decide +kernel) rfl ⟨⟨_, rfl, AB rfl (AD rfl)⟩, ⟨_, rfl, AB rfl (AD rfl)⟩, ⟨_, rfl, AB rfl (AC 0 3 1 AG rfl A7 rfl rfl)⟩, ⟨_, rfl, AB rfl (AK rfl (AV BA (MemAt.ent 1 rfl (Seg.head))))⟩, ⟨_, rfl, AB rfl (AC 2 24 1 AG rfl B3 rfl rfl)⟩, ⟨_, rfl, AB rfl (AK rfl (AV B6 (MemAt.ent 1 rfl (AJ (AJ (Seg.head))))))⟩, ⟨_, rfl, AB rfl (AC 3 22 1 AG rfl AT rfl rfl)⟩, ⟨_, rfl, AB rfl (AK rfl (AV AU (MemAt.ent 1 rfl (AJ (AJ (AJ (Seg.head)))))))⟩, trivial⟩ rfl (AZ rfl (BG 113 [.slice sa 0 sc] _ (A0 [.slice sa 0 sc] D2 rfl) (fun w1 hw1 => FS sa sc w1 (by omega) hnS))) ?_
  rintro v1 L1 ⟨_, ⟨ao5, ca5, rfl, rfl, hc9, hc10⟩, rfl⟩
  refine ⟨[(12, .agg (List.toArray (α := Value) ([I64 (kd), .slice ao4 0 ca4, .slice ao5 0 ca5, U64 bl]))), (13, .agg (List.toArray (α := Value) ([U64 pv, U64 ep, I64 (kd), .slice ao4 0 ca4, .slice ao5 0 ca5, U64 bl] ++ cu8 (zr8 16))))], ?_⟩
  show DP _ _ _ _ _ _ _ _ [_, _, _, _]
  refine BR ⟨[14, 6, 9], [0, 1, 2, 3, 4, 5, 7, 8, 10, 11, 12, 13], [4, 5, 7, 8], [0, 1, 2, 3, 10, 11, 12, 13], [15]⟩ 15 _ rfl rfl (by decide +kernel) rfl ⟨⟨_, rfl, AB rfl (AD rfl)⟩, ⟨_, rfl, AB rfl (AD rfl)⟩, ⟨_, rfl, AB rfl (AC 0 3 1 AG rfl A7 rfl rfl)⟩, ⟨_, rfl, AB rfl (AK rfl (AV BA (MemAt.ent 1 rfl (Seg.head))))⟩, ⟨_, rfl, AB rfl (AC 3 22 1 AG rfl AT rfl rfl)⟩, ⟨_, rfl, AB rfl (AK rfl (AV AU (MemAt.ent 1 rfl (AJ (AJ (AJ (Seg.head)))))))⟩, ⟨_, rfl, AB rfl (CB [(0, I64 (kd)), (1, .slice ao4 0 ca4), (2, .slice ao5 0 ca5), (3, U64 bl)] _ rfl (fun _ => DY rfl rfl rfl rfl))⟩, ⟨_, rfl, AB rfl (CB [(0, U64 pv), (1, U64 ep), (2, .agg (List.toArray (α := Value) ([I64 (kd), .slice ao4 0 ca4, .slice ao5 0 ca5, U64 bl])))] _ rfl (fun _ => EA rfl rfl (by simp [AP])))⟩, trivial⟩ rfl (AZ rfl (A6 3 nb4 0 22 ([U64 (0:UInt64), U64 (0:UInt64), I64 (0:Int), .slice none 0 0, .slice none 0 0, U64 (0:UInt64)] ++ cu8 (zr8 16)) 29 (.agg (List.toArray (α := Value) ([U64 pv, U64 ep, I64 (kd), .slice ao4 0 ca4, .slice ao5 0 ca5, U64 bl] ++ cu8 (zr8 16)))) ([U64 pv, U64 ep, I64 (kd), .slice ao4 0 ca4, .slice ao5 0 ca5, U64 bl] ++ cu8 (zr8 16)) ([U64 pv, U64 ep, I64 (kd), .slice ao4 0 ca4, .slice ao5 0 ca5, U64 bl] ++ cu8 (zr8 16)) rfl rfl rfl (by first | rfl | simp) AW (by simp [(AP 16)]) (DA (by simp [Value.oneCell']) CK) (by simp [(AP 16)]) (BF (by simp [(AP 16), (AP 16)])))) ?_
  rintro v1 L1 ⟨rfl, rfl⟩
  refine ⟨[], ?_⟩
  show DP _ _ _ _ _ _ _ _ [_, _, _, ⟨nb4, [U64 pv, U64 ep, I64 (kd), .slice ao4 0 ca4, .slice ao5 0 ca5, U64 bl] ++ cu8 (zr8 16), 29, (0, 0)⟩]
  refine CZ ⟨[14, 6, 9, 15], [0, 1, 2, 3, 4, 5, 7, 8, 10, 11, 12, 13], [0, 1, 2, 3, 4, 5, 7, 8, 10, 11, 12, 13], [], []⟩ rfl rfl (by decide +kernel) rfl trivial ?_
  refine CC (F' := [(10, Ptr nb4 0), (4, Ptr nb1 0), (8, Ptr nb3 0), (9, .nilIface)]) (by kernel_rfl) ?_
  refine AF (AL (AE (AA (.agg (List.toArray (α := Value) ([U64 pv, U64 ep, I64 (kd), .slice ao4 0 ca4, .slice ao5 0 ca5, U64 bl] ++ cu8 (zr8 16)))) (AK rfl (BH BE AW (by simp [(AP 16)]) (MemAt.ent 3 rfl (AM _)))) rfl ?_)))
  refine AR (A3 114 [.agg (List.toArray (α := Value) ([U64 pv, U64 ep, I64 (kd), .slice ao4 0 ca4, .slice ao5 0 ca5, U64 bl] ++ cu8 (zr8 16)))] (.tuple #[.slice none 0 0, errV 50 (mayN pv ep (kd) ([] : List UInt64) ([] : List SealR) bl)]) (A0 [.agg (List.toArray (α := Value) ([U64 pv, U64 ep, I64 (kd), .slice ao4 0 ca4, .slice ao5 0 ca5, U64 bl] ++ cu8 (zr8 16)))] DL rfl) (fun w1 hw1 => F5 pv ep (kd) ao4 0 ca4 ([] : List UInt64) ao5 0 ca5 ([] : List SealR) bl (zr8 16) w1 rfl (by omega) (by omega) (by omega) RdV.nil rfl (by omega) (by omega) (by omega) RdV.nil (AP 16) hm)) rfl ?_
  rintro v1 L1 ⟨rfl, rfl⟩
  show JL _ _ _ _ ((29, .tuple #[.slice none 0 0, errV 50 (mayN pv ep (kd) ([] : List UInt64) ([] : List SealR) bl)]) :: _) [_, _, _, _]
  refine AA _ (AD rfl) rfl ?_
  refine AA _ (BN rfl rfl) rfl ?_
  refine AA _ (BN rfl rfl) rfl ?_
  refine AA _ (AH rfl) rfl ?_
  refine AA _ (AH rfl) rfl ?_
  refine AN (AF (AL (AL (AE (AA _ (AD rfl) rfl ?_)))))
  refine AA (.bool (!(decide (mayN pv ep (kd) ([] : List UInt64) ([] : List SealR) bl = 0)))) (DC _ _ _ rfl rfl (fun _ => C5 ..) fun _ => EW BB _ _) rfl ?_
  refine AN (AF (C9 _ rfl (by rw [show (decide (mayN pv ep (kd) ([] : List UInt64) ([] : List SealR) bl = 0)) = false from (decide_eq_false hm)] <;> rfl) ?_))
  refine AL (AE (AA (.agg (List.toArray (α := Value) ([U64 (0:UInt64), U64 (0:UInt64), I64 (0:Int), .slice none 0 0, .slice none 0 0, U64 (0:UInt64)] ++ cu8 (zr8 16)))) (CB [] _ rfl (fun _ => by kernel_rfl)) rfl ?_))
  refine AA _ (AD rfl) rfl ?_
  refine AR (A6 2 nb3 0 22 ([U64 (0:UInt64), U64 (0:UInt64), I64 (0:Int), .slice none 0 0, .slice none 0 0, U64 (0:UInt64)] ++ cu8 (zr8 16)) 29 (.agg (List.toArray (α := Value) ([U64 (0:UInt64), U64 (0:UInt64), I64 (0:Int), .slice none 0 0, .slice none 0 0, U64 (0:UInt64)] ++ cu8 (zr8 16)))) ([U64 (0:UInt64), U64 (0:UInt64), I64 (0:Int), .slice none 0 0, .slice none 0 0, U64 (0:UInt64)] ++ cu8 (zr8 16)) ([U64 (0:UInt64), U64 (0:UInt64), I64 (0:Int), .slice none 0 0, .slice none 0 0, U64 (0:UInt64)] ++ cu8 (zr8 16)) rfl rfl rfl (by first | rfl | simp) AW (by simp [(AP 16)]) (DA (by simp [Value.oneCell']) CK) (by simp [(AP 16)]) (BF (by simp [(AP 16), (AP 16)]))) rfl ?_
  rintro v1 L1 ⟨rfl, rfl⟩
  show JL _ _ _ _ _ [_, _, ⟨nb3, [U64 (0:UInt64), U64 (0:UInt64), I64 (0:Int), .slice none 0 0, .slice none 0 0, U64 (0:UInt64)] ++ cu8 (zr8 16), 29, (0, 0)⟩, _]
  refine AA _ (AH rfl) rfl ?_
  refine AN (AF (BO (A5 (B8 [false, false, true, false] ?_))))
  show JQ _ _ _ _ [_]
  refine BP (.tuple #[.agg (List.toArray (α := Value) ([U64 (0:UInt64), U64 (0:UInt64), I64 (0:Int), .slice none 0 0, .slice none 0 0, U64 (0:UInt64)] ++ cu8 (zr8 16))), errV 50 (mayN pv ep (kd) ([] : List UInt64) ([] : List SealR) bl)]) (res2 DM (ED rfl (BH BE AW (by simp [(AP 16)]) (MemAt.ent 0 rfl (AM _)))) (BT rfl)) fun w1 hw1 => ?_
  exact ⟨_, [], rfl, ⟨rfl, rfl⟩, hw1.sub (by simp) (by simp)⟩
theorem signB_w (key : List UInt8) (pv ep : UInt64) (kd : Int) (ai : Option Addr) (ni ci : Nat) (l : List UInt64) (sa : Option Addr) (ns sc : Nat) (ls : List SealR) (bl : UInt64) (w : World) (hk32 : key.length = 32) (hl : l.length = ni) (hnm : ni ≤ 2000000) (hnc : ni ≤ ci) (hcm : ci ≤ maxLen) (hv : RdV w ai (cu64 l)) (hls : ls.length = ns) (hnn : ns ≤ 2000000) (hnd : ns ≤ sc) (hcn : sc ≤ maxLen) (hs : RdV w sa (ls.flatMap sealC)) (hnI : ai = none → ci = 0) (hnS : sa = none → sc = 0) (hm : mayN pv ep kd l ls bl ≠ 0) : Calls Tryd.prog 46 #[.agg (cu8 key).toArray, U64 pv, U64 ep, .agg (List.toArray (α := Value) ([I64 (kd), .slice ai ni ci, .slice sa ns sc, U64 bl]))] w (Post w [] (fun v L => v = .tuple #[.agg (List.toArray (α := Value) ([U64 (0:UInt64), U64 (0:UInt64), I64 (0:Int), .slice none 0 0, .slice none 0 0, U64 (0:UInt64)] ++ cu8 (zr8 16))), errV 50 (mayN pv ep kd l ls bl)] ∧ L = [])) := by
  by_cases hi0 : ni = 0 <;> by_cases hs0 : ns = 0
  · subst hi0; subst hs0
    obtain rfl : l = [] := List.eq_nil_of_length_eq_zero hl
    obtain rfl : ls = [] := List.eq_nil_of_length_eq_zero hls
    exact signBZZ_c key pv ep kd ai ci sa sc bl w hk32 hcm hnI hcn hnS hm
  · subst hi0
    obtain rfl : l = [] := List.eq_nil_of_length_eq_zero hl
    exact signBZP_c key pv ep kd ai ci sa ns sc ls bl w hk32 hcm hnI hls hnn hnd hcn hs (by omega) hm
  · subst hs0
    obtain rfl : ls = [] := List.eq_nil_of_length_eq_zero hls
    exact signBPZ_c key pv ep kd ai ni ci l sa sc bl w hk32 hl hnm hnc hcm hv hcn hnS (by omega) hm
  · exact signBPP_c key pv ep kd ai ni ci l sa ns sc ls bl w hk32 hl hnm hnc hcm hv hls hnn hnd hcn hs (by omega) (by omega) hm

end Go.Proofs.YtkdpdgpphpngeaaDoor
namespace Go.Proofs.YtkdpdgpphpngeaaDoor
open Go Go.Sx
set_option linter.unusedVariables false
set_option linter.unusedSimpArgs false
set_option maxRecDepth 100000
attribute [local irreducible] mid zr8 zr32 numK rnK rotr wordL spreadL comprL cpN adN spN wrdN constL initL padL stN outN routN sumG putL RightB tktT mayN idxT selT macL tkG chkG
theorem bld38_0123 {w : World} {v0 : Value} {v1 : Value} {c2 : List Value} {c3 : List Value} (h0 : v0.cells = [v0].toArray) (h1 : v1.cells = [v1].toArray) (h2 : c2.length = 4) (h3 : c3.length = 16) : (Instr.build 38 ([(0, v0), (1, v1), (2, .agg c2.toArray), (3, .agg c3.toArray)] : List (Nat × Value)).toArray).run Tryd.prog w = .ok (.agg (((([v0] : List Value) ++ ([v1] : List Value)) ++ c2) ++ c3).toArray) w :=
 FM (places := #[(0, 1), (1, 1), (2, 4), (6, 16)]) (Z := (([U64 (0:UInt64)] : List Value) ++ (([U64 (0:UInt64)] : List Value) ++ (([I64 (0:Int), .slice none 0 0, .slice none 0 0, U64 (0:UInt64)] : List Value) ++ ((cu8 (zr8 16) : List Value) ++ []))))) (fun _ => by kernel_rfl) A4 (fun _ => by kernel_rfl) ((fill_start ([U64 (0:UInt64)] : List Value) (([U64 (0:UInt64)] : List Value) ++ (([I64 (0:Int), .slice none 0 0, .slice none 0 0, U64 (0:UInt64)] : List Value) ++ ((cu8 (zr8 16) : List Value) ++ []))) ([v0] : List Value) h0 (by simp [AP]) rfl).trans ((FR ([v0] : List Value) ([U64 (0:UInt64)] : List Value) (([I64 (0:Int), .slice none 0 0, .slice none 0 0, U64 (0:UInt64)] : List Value) ++ ((cu8 (zr8 16) : List Value) ++ [])) ([v1] : List Value) h1 (by simp [AP]) rfl).trans ((FR (([v0] : List Value) ++ ([v1] : List Value)) ([I64 (0:Int), .slice none 0 0, .slice none 0 0, U64 (0:UInt64)] : List Value) ((cu8 (zr8 16) : List Value) ++ []) c2 rfl (by simp [AP, h2]) (by simp [h2, AP])).trans ((FR ((([v0] : List Value) ++ ([v1] : List Value)) ++ c2) (cu8 (zr8 16) : List Value) [] c3 rfl (by simp [AP, h2, h3]) (by simp [h3, AP])).trans (by simp [Instr.fill])))))
theorem docTZ_c (pv ep : UInt64) (kd : Int) (ai : Option Addr) (ni ci : Nat) (l : List UInt64) (sa : Option Addr) (sc : Nat) (bl : UInt64) (tg : List UInt8)  (w : World) (hl : l.length = ni) (hnm : ni ≤ 2000000) (hnc : ni ≤ ci) (hcm : ci ≤ maxLen) (hv : RdV w ai (cu64 l)) (hcs : sc ≤ maxLen) (hnS : sa = none → sc = 0) (htg : tg.length = 16)  : Calls Tryd.prog 44 #[.agg (List.toArray (α := Value) ([U64 pv, U64 ep, I64 (kd), .slice ai ni ci, .slice sa 0 sc, U64 bl] ++ cu8 tg))] w (Post w [] (fun v L => v = .agg (List.toArray (α := Value) ([U64 pv, U64 ep, I64 kd, .slice ai ni ci, .slice none 0 0, U64 bl] ++ cu8 tg)) ∧ L = [])) := by
 have hmx : maxLen = 9223372036854775807 := rfl
 refine enter (P := Tryd.prog) (f := 44) (fn := Tryd.f44) w [] 13 [] [.agg (List.toArray (α := Value) ([U64 pv, U64 ep, I64 (kd), .slice ai ni ci, .slice sa 0 sc, U64 bl] ++ cu8 tg))] Tryd.func44 rfl rfl (by simp) (B7 (by simp) (by simp) (by simp)) ?_
 show JC _ _ _ [(0, .agg (List.toArray (α := Value) ([U64 pv, U64 ep, I64 (kd), .slice ai ni ci, .slice sa 0 sc, U64 bl] ++ cu8 tg)))] _
 refine AL (AE (AR (CN (.agg (List.toArray (α := Value) ([U64 pv, U64 ep, I64 (kd), .slice ai ni ci, .slice sa 0 sc, U64 bl] ++ cu8 tg))) ([U64 pv, U64 ep, I64 (kd), .slice ai ni ci, .slice sa 0 sc, U64 bl] ++ cu8 tg) rfl (by first | rfl | simp)) rfl ?_))
 rintro v1 L1 ⟨nb1, hnb1, rfl, rfl⟩
 show JL _ _ _ _ ((1, Ptr nb1 0) :: _) [⟨nb1, [U64 pv, U64 ep, I64 (kd), .slice ai ni ci, .slice sa 0 sc, U64 bl] ++ cu8 tg, 29, (0, 0)⟩]
 refine AR (BJ _ ([U64 (0:UInt64), U64 (0:UInt64), I64 (0:Int), .slice none 0 0, .slice none 0 0, U64 (0:UInt64)] ++ cu8 (zr8 16)) ET (by kernel_rfl)) rfl ?_
 rintro v1 L1 ⟨nb2, hnb2, rfl, rfl⟩
 show JL _ _ _ _ ((2, Ptr nb2 0) :: _) [_, ⟨nb2, [U64 (0:UInt64), U64 (0:UInt64), I64 (0:Int), .slice none 0 0, .slice none 0 0, U64 (0:UInt64)] ++ cu8 (zr8 16), 38, (0, 0)⟩]
 refine AN (AF (AL (CQ 13 3 [(0, Ptr nb1 0), (1, U64 pv), (2, Ptr nb1 1), (3, U64 ep), (4, Ptr nb1 2), (5, .agg (List.toArray (α := Value) ([I64 (kd), .slice ai ni ci, .slice sa 0 sc, U64 bl]))), (7, Ptr nb1 6), (8, .agg (cu8 tg).toArray)] BQ rfl (by decide +kernel) ?_)))
 refine BR ⟨[], [0, 1, 2, 3, 4, 5, 7, 8], [], [0, 1, 2, 3, 4, 5, 7, 8], [6]⟩ 6 _ rfl rfl (by decide +kernel) rfl ⟨⟨_, rfl, AB rfl (AC 0 22 1 AS rfl AT rfl rfl)⟩, ⟨_, rfl, AB rfl (AK rfl (AV AU (MemAt.ent 0 rfl (A2 (Seg.head)))))⟩, ⟨_, rfl, AB rfl (AC 1 22 1 AS rfl AT rfl rfl)⟩, ⟨_, rfl, AB rfl (AK rfl (AV AU (MemAt.ent 0 rfl (A2 (AJ (Seg.head))))))⟩, ⟨_, rfl, AB rfl (AC 2 26 4 AS rfl BI rfl rfl)⟩, ⟨_, rfl, AB rfl (AK rfl (BH DE BI rfl (MemAt.ent 0 rfl (D9 (p := [U64 pv, U64 ep]) (q := cu8 tg) (vs := [I64 (kd), .slice ai ni ci, .slice sa 0 sc, U64 bl]) (by first | rfl | (simp only [List.append_assoc, List.nil_append, List.append_nil, List.cons_append]; done)) rfl))))⟩, ⟨_, rfl, AB rfl (AC 6 27 16 AS rfl A1 rfl rfl)⟩, ⟨_, rfl, AB rfl (AK rfl (BH C2 A1 (CG htg) (MemAt.ent 0 rfl (Seg.right 6 0 rfl rfl (AM _)))))⟩, trivial⟩ rfl (AZ rfl (A3 66 [.agg (List.toArray (α := Value) ([I64 (kd), .slice ai ni ci, .slice sa 0 sc, U64 bl]))] (.agg (List.toArray (α := Value) ([I64 (kd), .slice ai ni ci, .slice none 0 0, U64 bl]))) (A0 [.agg (List.toArray (α := Value) ([I64 (kd), .slice ai ni ci, .slice sa 0 sc, U64 bl]))] Tryd.call66 rfl) (fun w1 hw1 => order0_c (kd) ai ni ci l sa 0 sc ([] : List SealR) bl w1 hl (by omega) (by omega) (by omega) (C1 hw1 rfl hv) rfl (by omega) (by omega) (by omega) RdV.nil rfl))) ?_
 rintro v1 L1 ⟨rfl, rfl⟩
 refine ⟨[(9, .agg (List.toArray (α := Value) ([U64 pv, U64 ep, I64 (kd), .slice ai ni ci, .slice none 0 0, U64 bl] ++ cu8 tg)))], ?_⟩
 show DP _ _ _ _ _ _ _ _ [_, _]
 refine BR ⟨[6], [0, 1, 2, 3, 4, 5, 7, 8, 9], [4, 5], [0, 1, 2, 3, 7, 8, 9], [10]⟩ 10 _ rfl rfl (by decide +kernel) rfl ⟨⟨_, rfl, AB rfl (AC 0 22 1 AS rfl AT rfl rfl)⟩, ⟨_, rfl, AB rfl (AK rfl (AV AU (MemAt.ent 0 rfl (A2 (Seg.head)))))⟩, ⟨_, rfl, AB rfl (AC 1 22 1 AS rfl AT rfl rfl)⟩, ⟨_, rfl, AB rfl (AK rfl (AV AU (MemAt.ent 0 rfl (A2 (AJ (Seg.head))))))⟩, ⟨_, rfl, AB rfl (AC 6 27 16 AS rfl A1 rfl rfl)⟩, ⟨_, rfl, AB rfl (AK rfl (BH C2 A1 (CG htg) (MemAt.ent 0 rfl (Seg.right 6 0 rfl rfl (AM _)))))⟩, ⟨_, rfl, AB rfl (CB [(0, U64 pv), (1, U64 ep), (2, .agg (List.toArray (α := Value) ([I64 (kd), .slice ai ni ci, .slice none 0 0, U64 bl]))), (3, .agg (cu8 tg).toArray)] _ rfl (fun _ => bld38_0123 rfl rfl (by simp [AP]) (by simp [AP, htg])))⟩, trivial⟩ rfl (AZ rfl (A6 1 nb2 0 22 ([U64 (0:UInt64), U64 (0:UInt64), I64 (0:Int), .slice none 0 0, .slice none 0 0, U64 (0:UInt64)] ++ cu8 (zr8 16)) 38 (.agg (List.toArray (α := Value) ([U64 pv, U64 ep, I64 (kd), .slice ai ni ci, .slice none 0 0, U64 bl] ++ cu8 tg))) ([U64 pv, U64 ep, I64 (kd), .slice ai ni ci, .slice none 0 0, U64 bl] ++ cu8 tg) ([U64 pv, U64 ep, I64 (kd), .slice ai ni ci, .slice none 0 0, U64 bl] ++ cu8 tg) rfl rfl rfl (by first | rfl | simp) CM (by simp [htg]) (DA (by simp [Value.oneCell']) CK) (by simp [(AP 16)]) (BF (by simp [(AP 16), htg])))) ?_
 rintro v1 L1 ⟨rfl, rfl⟩
 refine ⟨[], ?_⟩
 show DP _ _ _ _ _ _ _ _ [_, ⟨nb2, [U64 pv, U64 ep, I64 (kd), .slice ai ni ci, .slice none 0 0, U64 bl] ++ cu8 tg, 38, (0, 0)⟩]
 refine CZ ⟨[6, 10], [0, 1, 2, 3, 4, 5, 7, 8, 9], [0, 1, 2, 3, 4, 5, 7, 8, 9], [], []⟩ rfl rfl (by decide +kernel) rfl trivial ?_
 refine CC (F' := [(2, Ptr nb2 0)]) (by kernel_rfl) ?_
 refine AF (BO (B8 [false, true] ?_))
 show JQ _ _ _ _ [_]
 refine BP (.agg (List.toArray (α := Value) ([U64 pv, U64 ep, I64 (kd), .slice ai ni ci, .slice none 0 0, U64 bl] ++ cu8 tg))) (res1 Tryd.results44 (ED rfl (BH DO CM (by simp [htg]) (MemAt.ent 0 rfl (AM _))))) fun w1 hw1 => ?_
 exact ⟨_, [], rfl, ⟨rfl, rfl⟩, hw1.sub (by simp) (by simp)⟩
theorem docTP_c (pv ep : UInt64) (kd : Int) (ai : Option Addr) (ni ci : Nat) (l : List UInt64) (sa : Option Addr) (ns sc : Nat) (ls : List SealR) (bl : UInt64) (tg : List UInt8)  (w : World) (hl : l.length = ni) (hnm : ni ≤ 2000000) (hnc : ni ≤ ci) (hcm : ci ≤ maxLen) (hv : RdV w ai (cu64 l)) (hls : ls.length = ns) (hnn : ns ≤ 2000000) (hnd : ns ≤ sc) (hcn : sc ≤ maxLen) (hs : RdV w sa (ls.flatMap sealC)) (hp0 : 0 < ns) (htg : tg.length = 16)  : Calls Tryd.prog 44 #[.agg (List.toArray (α := Value) ([U64 pv, U64 ep, I64 (kd), .slice ai ni ci, .slice sa ns sc, U64 bl] ++ cu8 tg))] w (Post w [] (fun v L => ∃ g sp cap, v = .agg (List.toArray (α := Value) ([U64 pv, U64 ep, I64 kd, .slice ai ni ci, Slc g 0 ns cap, U64 bl] ++ cu8 tg)) ∧ L = [⟨g, ls.flatMap sealC ++ sp, 164, (0, 0)⟩] ∧ sp.length = cap * 49 - ns * 49 ∧ ns ≤ cap ∧ cap ≤ maxLen)) := by
 have hmx : maxLen = 9223372036854775807 := rfl
 refine enter (P := Tryd.prog) (f := 44) (fn := Tryd.f44) w [] 13 [] [.agg (List.toArray (α := Value) ([U64 pv, U64 ep, I64 (kd), .slice ai ni ci, .slice sa ns sc, U64 bl] ++ cu8 tg))] Tryd.func44 rfl rfl (by simp) (B7 (by simp) (by simp) (by simp)) ?_
 show JC _ _ _ [(0, .agg (List.toArray (α := Value) ([U64 pv, U64 ep, I64 (kd), .slice ai ni ci, .slice sa ns sc, U64 bl] ++ cu8 tg)))] _
 refine AL (AE (AR (CN (.agg (List.toArray (α := Value) ([U64 pv, U64 ep, I64 (kd), .slice ai ni ci, .slice sa ns sc, U64 bl] ++ cu8 tg))) ([U64 pv, U64 ep, I64 (kd), .slice ai ni ci, .slice sa ns sc, U64 bl] ++ cu8 tg) rfl (by first | rfl | simp)) rfl ?_))
 rintro v1 L1 ⟨nb1, hnb1, rfl, rfl⟩
 show JL _ _ _ _ ((1, Ptr nb1 0) :: _) [⟨nb1, [U64 pv, U64 ep, I64 (kd), .slice ai ni ci, .slice sa ns sc, U64 bl] ++ cu8 tg, 29, (0, 0)⟩]
 refine AR (BJ _ ([U64 (0:UInt64), U64 (0:UInt64), I64 (0:Int), .slice none 0 0, .slice none 0 0, U64 (0:UInt64)] ++ cu8 (zr8 16)) ET (by kernel_rfl)) rfl ?_
 rintro v1 L1 ⟨nb2, hnb2, rfl, rfl⟩
 show JL _ _ _ _ ((2, Ptr nb2 0) :: _) [_, ⟨nb2, [U64 (0:UInt64), U64 (0:UInt64), I64 (0:Int), .slice none 0 0, .slice none 0 0, U64 (0:UInt64)] ++ cu8 (zr8 16), 38, (0, 0)⟩]
 refine AN (AF (AL (CQ 13 3 [(0, Ptr nb1 0), (1, U64 pv), (2, Ptr nb1 1), (3, U64 ep), (4, Ptr nb1 2), (5, .agg (List.toArray (α := Value) ([I64 (kd), .slice ai ni ci, .slice sa ns sc, U64 bl]))), (7, Ptr nb1 6), (8, .agg (cu8 tg).toArray)] BQ rfl (by decide +kernel) ?_)))
 refine BR ⟨[], [0, 1, 2, 3, 4, 5, 7, 8], [], [0, 1, 2, 3, 4, 5, 7, 8], [6]⟩ 6 _ rfl rfl (by decide +kernel) rfl ⟨⟨_, rfl, AB rfl (AC 0 22 1 AS rfl AT rfl rfl)⟩, ⟨_, rfl, AB rfl (AK rfl (AV AU (MemAt.ent 0 rfl (A2 (Seg.head)))))⟩, ⟨_, rfl, AB rfl (AC 1 22 1 AS rfl AT rfl rfl)⟩, ⟨_, rfl, AB rfl (AK rfl (AV AU (MemAt.ent 0 rfl (A2 (AJ (Seg.head))))))⟩, ⟨_, rfl, AB rfl (AC 2 26 4 AS rfl BI rfl rfl)⟩, ⟨_, rfl, AB rfl (AK rfl (BH DE BI rfl (MemAt.ent 0 rfl (D9 (p := [U64 pv, U64 ep]) (q := cu8 tg) (vs := [I64 (kd), .slice ai ni ci, .slice sa ns sc, U64 bl]) (by first | rfl | (simp only [List.append_assoc, List.nil_append, List.append_nil, List.cons_append]; done)) rfl))))⟩, ⟨_, rfl, AB rfl (AC 6 27 16 AS rfl A1 rfl rfl)⟩, ⟨_, rfl, AB rfl (AK rfl (BH C2 A1 (CG htg) (MemAt.ent 0 rfl (Seg.right 6 0 rfl rfl (AM _)))))⟩, trivial⟩ rfl (AZ rfl (BG 66 [.agg (List.toArray (α := Value) ([I64 (kd), .slice ai ni ci, .slice sa ns sc, U64 bl]))] _ (A0 [.agg (List.toArray (α := Value) ([I64 (kd), .slice ai ni ci, .slice sa ns sc, U64 bl]))] Tryd.call66 rfl) (fun w1 hw1 => orderP_c (kd) ai ni ci l sa ns sc ls bl w1 hl (by omega) (by omega) (by omega) (C1 hw1 rfl hv) hls (by omega) (by omega) (by omega) (C1 hw1 rfl hs) (by omega)))) ?_
 rintro v1 L1 ⟨_, ⟨nb3, sp1, cp1, rfl, rfl, hc1, hc2, hc3⟩, rfl⟩
 refine ⟨[(9, .agg (List.toArray (α := Value) ([U64 pv, U64 ep, I64 (kd), .slice ai ni ci, Slc nb3 0 ns cp1, U64 bl] ++ cu8 tg)))], ?_⟩
 show DP _ _ _ _ _ _ _ _ [_, _, ⟨nb3, (ls).flatMap sealC ++ sp1, 164, (0, 0)⟩]
 refine BR ⟨[6], [0, 1, 2, 3, 4, 5, 7, 8, 9], [4, 5], [0, 1, 2, 3, 7, 8, 9], [10]⟩ 10 _ rfl rfl (by decide +kernel) rfl ⟨⟨_, rfl, AB rfl (AC 0 22 1 AS rfl AT rfl rfl)⟩, ⟨_, rfl, AB rfl (AK rfl (AV AU (MemAt.ent 0 rfl (A2 (Seg.head)))))⟩, ⟨_, rfl, AB rfl (AC 1 22 1 AS rfl AT rfl rfl)⟩, ⟨_, rfl, AB rfl (AK rfl (AV AU (MemAt.ent 0 rfl (A2 (AJ (Seg.head))))))⟩, ⟨_, rfl, AB rfl (AC 6 27 16 AS rfl A1 rfl rfl)⟩, ⟨_, rfl, AB rfl (AK rfl (BH C2 A1 (CG htg) (MemAt.ent 0 rfl (Seg.right 6 0 rfl rfl (AM _)))))⟩, ⟨_, rfl, AB rfl (CB [(0, U64 pv), (1, U64 ep), (2, .agg (List.toArray (α := Value) ([I64 (kd), .slice ai ni ci, Slc nb3 0 ns cp1, U64 bl]))), (3, .agg (cu8 tg).toArray)] _ rfl (fun _ => bld38_0123 rfl rfl (by simp [AP]) (by simp [AP, htg])))⟩, trivial⟩ rfl (AZ rfl (A6 1 nb2 0 22 ([U64 (0:UInt64), U64 (0:UInt64), I64 (0:Int), .slice none 0 0, .slice none 0 0, U64 (0:UInt64)] ++ cu8 (zr8 16)) 38 (.agg (List.toArray (α := Value) ([U64 pv, U64 ep, I64 (kd), .slice ai ni ci, Slc nb3 0 ns cp1, U64 bl] ++ cu8 tg))) ([U64 pv, U64 ep, I64 (kd), .slice ai ni ci, Slc nb3 0 ns cp1, U64 bl] ++ cu8 tg) ([U64 pv, U64 ep, I64 (kd), .slice ai ni ci, Slc nb3 0 ns cp1, U64 bl] ++ cu8 tg) rfl rfl rfl (by first | rfl | simp) CM (by simp [htg]) (DA (by simp [Value.oneCell']) CK) (by simp [(AP 16)]) (BF (by simp [(AP 16), htg])))) ?_
 rintro v1 L1 ⟨rfl, rfl⟩
 refine ⟨[], ?_⟩
 show DP _ _ _ _ _ _ _ _ [_, ⟨nb2, [U64 pv, U64 ep, I64 (kd), .slice ai ni ci, Slc nb3 0 ns cp1, U64 bl] ++ cu8 tg, 38, (0, 0)⟩, _]
 refine CZ ⟨[6, 10], [0, 1, 2, 3, 4, 5, 7, 8, 9], [0, 1, 2, 3, 4, 5, 7, 8, 9], [], []⟩ rfl rfl (by decide +kernel) rfl trivial ?_
 refine CC (F' := [(2, Ptr nb2 0)]) (by kernel_rfl) ?_
 refine AF (BO (B8 [false, true, true] ?_))
 show JQ _ _ _ _ [_, _]
 refine BP (.agg (List.toArray (α := Value) ([U64 pv, U64 ep, I64 (kd), .slice ai ni ci, Slc nb3 0 ns cp1, U64 bl] ++ cu8 tg))) (res1 Tryd.results44 (ED rfl (BH DO CM (by simp [htg]) (MemAt.ent 0 rfl (AM _))))) fun w1 hw1 => ?_
 exact ⟨_, _, rfl, ⟨nb3, sp1, cp1, rfl, rfl, hc1, hc2, hc3⟩, hw1.sub (by simp) (by simp)⟩
theorem bld26_03 {w : World} {v0 : Value} {v3 : Value} (h0 : v0.cells = [v0].toArray) (h3 : v3.cells = [v3].toArray) : (Instr.build 26 ([(0, v0), (3, v3)] : List (Nat × Value)).toArray).run Tryd.prog w = .ok (.agg (((([v0] : List Value) ++ ([.slice none 0 0] : List Value)) ++ ([.slice none 0 0] : List Value)) ++ ([v3] : List Value)).toArray) w :=
 FM (places := #[(0, 1), (1, 1), (2, 1), (3, 1)]) (Z := (([I64 (0:Int)] : List Value) ++ (([.slice none 0 0] : List Value) ++ (([.slice none 0 0] : List Value) ++ (([U64 (0:UInt64)] : List Value) ++ []))))) (fun _ => by kernel_rfl) AG (fun _ => by kernel_rfl) ((fill_start ([I64 (0:Int)] : List Value) (([.slice none 0 0] : List Value) ++ (([.slice none 0 0] : List Value) ++ (([U64 (0:UInt64)] : List Value) ++ []))) ([v0] : List Value) h0 (by simp [AP]) rfl).trans ((fill_skip ([v0] : List Value) ([.slice none 0 0] : List Value) (([.slice none 0 0] : List Value) ++ (([U64 (0:UInt64)] : List Value) ++ []))).trans ((fill_skip (([v0] : List Value) ++ ([.slice none 0 0] : List Value)) ([.slice none 0 0] : List Value) (([U64 (0:UInt64)] : List Value) ++ [])).trans ((FR ((([v0] : List Value) ++ ([.slice none 0 0] : List Value)) ++ ([.slice none 0 0] : List Value)) ([U64 (0:UInt64)] : List Value) [] ([v3] : List Value) h3 (by simp [AP]) rfl).trans (by simp [Instr.fill])))))
theorem alive13_c  (w : World) (hG : GLs w) : Calls Tryd.prog 43 #[] w (Post w [] (fun v L => v = .bool true ∧ L = [])) := by
 have hmx : maxLen = 9223372036854775807 := rfl
 refine enter w [] 39 [] [] Tryd.func43 rfl rfl (by simp) (B7 (by simp) (by simp) (by simp)) ?_
 show JC _ _ _ [] _
 refine AL (AE (AA _ (AH rfl) rfl ?_))
 refine AN (AF (AL (AE (AA (.agg (cu8 ([(1:UInt8), (0:UInt8), (0:UInt8), (0:UInt8), (0:UInt8), (0:UInt8), (0:UInt8), (0:UInt8), (0:UInt8), (0:UInt8), (0:UInt8), (0:UInt8), (0:UInt8), (0:UInt8), (0:UInt8), (0:UInt8), (0:UInt8), (0:UInt8), (0:UInt8), (0:UInt8), (0:UInt8), (0:UInt8), (0:UInt8), (0:UInt8), (0:UInt8), (0:UInt8), (0:UInt8), (0:UInt8), (0:UInt8), (0:UInt8), (0:UInt8), (0:UInt8)])).toArray) (CB [(0, U8 (1:UInt8))] _ rfl (fun _ => by kernel_rfl)) rfl ?_))))
 refine AA (.agg (List.toArray (α := Value) ([I64 (3:Int), .slice none 0 0, .slice none 0 0, U64 (5:UInt64)]))) (CB [(0, I64 (3:Int)), (3, U64 (5:UInt64))] _ rfl (fun _ => bld26_03 rfl rfl)) rfl ?_
 refine AR (BG 46 [.agg (cu8 ([(1:UInt8), (0:UInt8), (0:UInt8), (0:UInt8), (0:UInt8), (0:UInt8), (0:UInt8), (0:UInt8), (0:UInt8), (0:UInt8), (0:UInt8), (0:UInt8), (0:UInt8), (0:UInt8), (0:UInt8), (0:UInt8), (0:UInt8), (0:UInt8), (0:UInt8), (0:UInt8), (0:UInt8), (0:UInt8), (0:UInt8), (0:UInt8), (0:UInt8), (0:UInt8), (0:UInt8), (0:UInt8), (0:UInt8), (0:UInt8), (0:UInt8), (0:UInt8)])).toArray, U64 (0:UInt64), U64 (1:UInt64), .agg (List.toArray (α := Value) ([I64 (3:Int), .slice none 0 0, .slice none 0 0, U64 (5:UInt64)]))] _ (A0 [.agg (cu8 ([(1:UInt8), (0:UInt8), (0:UInt8), (0:UInt8), (0:UInt8), (0:UInt8), (0:UInt8), (0:UInt8), (0:UInt8), (0:UInt8), (0:UInt8), (0:UInt8), (0:UInt8), (0:UInt8), (0:UInt8), (0:UInt8), (0:UInt8), (0:UInt8), (0:UInt8), (0:UInt8), (0:UInt8), (0:UInt8), (0:UInt8), (0:UInt8), (0:UInt8), (0:UInt8), (0:UInt8), (0:UInt8), (0:UInt8), (0:UInt8), (0:UInt8), (0:UInt8)])).toArray, U64 (0:UInt64), U64 (1:UInt64), .agg (List.toArray (α := Value) ([I64 (3:Int), .slice none 0 0, .slice none 0 0, U64 (5:UInt64)]))] Tryd.call46 rfl) (fun w1 hw1 => sign3_c ([(1:UInt8), (0:UInt8), (0:UInt8), (0:UInt8), (0:UInt8), (0:UInt8), (0:UInt8), (0:UInt8), (0:UInt8), (0:UInt8), (0:UInt8), (0:UInt8), (0:UInt8), (0:UInt8), (0:UInt8), (0:UInt8), (0:UInt8), (0:UInt8), (0:UInt8), (0:UInt8), (0:UInt8), (0:UInt8), (0:UInt8), (0:UInt8), (0:UInt8), (0:UInt8), (0:UInt8), (0:UInt8), (0:UInt8), (0:UInt8), (0:UInt8), (0:UInt8)]) (0:UInt64) (1:UInt64) 3 none 0 none 0 (5:UInt64) 25 w1 rfl (by omega) (fun _ => rfl) (by omega) (fun _ => rfl)  (by decide +kernel) rfl (by decide) (by omega) (hG.at hw1))) rfl ?_
 rintro v1 L1 ⟨_, ⟨ao1, ca1, ao2, ca2, rfl, rfl, hc1, hc2, hc3, hc4⟩, rfl⟩
 show JL _ _ _ _ ((8, .tuple #[.agg (List.toArray (α := Value) ([U64 (0:UInt64), U64 (1:UInt64), I64 (3:Int), .slice ao1 0 ca1, .slice ao2 0 ca2, U64 (5:UInt64)] ++ cu8 (tkG ([(1:UInt8), (0:UInt8), (0:UInt8), (0:UInt8), (0:UInt8), (0:UInt8), (0:UInt8), (0:UInt8), (0:UInt8), (0:UInt8), (0:UInt8), (0:UInt8), (0:UInt8), (0:UInt8), (0:UInt8), (0:UInt8), (0:UInt8), (0:UInt8), (0:UInt8), (0:UInt8), (0:UInt8), (0:UInt8), (0:UInt8), (0:UInt8), (0:UInt8), (0:UInt8), (0:UInt8), (0:UInt8), (0:UInt8), (0:UInt8), (0:UInt8), (0:UInt8)]) (0:UInt64) (1:UInt64) 3 ([] : List UInt64) ([] : List SealR) (5:UInt64)))), .nilIface]) :: _) []
 refine AA _ (AD rfl) rfl ?_
 refine AA _ (BN rfl rfl) rfl ?_
 refine AA _ (BN rfl rfl) rfl ?_
 refine AR (BJ _ ([U64 (0:UInt64), U64 (0:UInt64), I64 (0:Int), .slice none 0 0, .slice none 0 0, U64 (0:UInt64)] ++ cu8 (zr8 16)) B9 (by kernel_rfl)) rfl ?_
 rintro v1 L1 ⟨nb1, hnb1, rfl, rfl⟩
 show JL _ _ _ _ ((1, Ptr nb1 0) :: _) [⟨nb1, [U64 (0:UInt64), U64 (0:UInt64), I64 (0:Int), .slice none 0 0, .slice none 0 0, U64 (0:UInt64)] ++ cu8 (zr8 16), 29, (0, 0)⟩]
 refine AR (A6 0 nb1 0 22 ([U64 (0:UInt64), U64 (0:UInt64), I64 (0:Int), .slice none 0 0, .slice none 0 0, U64 (0:UInt64)] ++ cu8 (zr8 16)) 29 (.agg (List.toArray (α := Value) ([U64 (0:UInt64), U64 (1:UInt64), I64 (3:Int), .slice ao1 0 ca1, .slice ao2 0 ca2, U64 (5:UInt64)] ++ cu8 (tkG ([(1:UInt8), (0:UInt8), (0:UInt8), (0:UInt8), (0:UInt8), (0:UInt8), (0:UInt8), (0:UInt8), (0:UInt8), (0:UInt8), (0:UInt8), (0:UInt8), (0:UInt8), (0:UInt8), (0:UInt8), (0:UInt8), (0:UInt8), (0:UInt8), (0:UInt8), (0:UInt8), (0:UInt8), (0:UInt8), (0:UInt8), (0:UInt8), (0:UInt8), (0:UInt8), (0:UInt8), (0:UInt8), (0:UInt8), (0:UInt8), (0:UInt8), (0:UInt8)]) (0:UInt64) (1:UInt64) 3 ([] : List UInt64) ([] : List SealR) (5:UInt64))))) ([U64 (0:UInt64), U64 (1:UInt64), I64 (3:Int), .slice ao1 0 ca1, .slice ao2 0 ca2, U64 (5:UInt64)] ++ cu8 (tkG ([(1:UInt8), (0:UInt8), (0:UInt8), (0:UInt8), (0:UInt8), (0:UInt8), (0:UInt8), (0:UInt8), (0:UInt8), (0:UInt8), (0:UInt8), (0:UInt8), (0:UInt8), (0:UInt8), (0:UInt8), (0:UInt8), (0:UInt8), (0:UInt8), (0:UInt8), (0:UInt8), (0:UInt8), (0:UInt8), (0:UInt8), (0:UInt8), (0:UInt8), (0:UInt8), (0:UInt8), (0:UInt8), (0:UInt8), (0:UInt8), (0:UInt8), (0:UInt8)]) (0:UInt64) (1:UInt64) 3 ([] : List UInt64) ([] : List SealR) (5:UInt64))) ([U64 (0:UInt64), U64 (1:UInt64), I64 (3:Int), .slice ao1 0 ca1, .slice ao2 0 ca2, U64 (5:UInt64)] ++ cu8 (tkG ([(1:UInt8), (0:UInt8), (0:UInt8), (0:UInt8), (0:UInt8), (0:UInt8), (0:UInt8), (0:UInt8), (0:UInt8), (0:UInt8), (0:UInt8), (0:UInt8), (0:UInt8), (0:UInt8), (0:UInt8), (0:UInt8), (0:UInt8), (0:UInt8), (0:UInt8), (0:UInt8), (0:UInt8), (0:UInt8), (0:UInt8), (0:UInt8), (0:UInt8), (0:UInt8), (0:UInt8), (0:UInt8), (0:UInt8), (0:UInt8), (0:UInt8), (0:UInt8)]) (0:UInt64) (1:UInt64) 3 ([] : List UInt64) ([] : List SealR) (5:UInt64))) rfl rfl rfl (by first | rfl | simp) AW (by simp [(CO _ _ _ _ _ _ _)]) (DA (by simp [Value.oneCell']) CK) (by simp [(AP 16)]) (BF (by simp [(AP 16), (CO _ _ _ _ _ _ _)]))) rfl ?_
 rintro v1 L1 ⟨rfl, rfl⟩
 show JL _ _ _ _ _ [⟨nb1, [U64 (0:UInt64), U64 (1:UInt64), I64 (3:Int), .slice ao1 0 ca1, .slice ao2 0 ca2, U64 (5:UInt64)] ++ cu8 (tkG ([(1:UInt8), (0:UInt8), (0:UInt8), (0:UInt8), (0:UInt8), (0:UInt8), (0:UInt8), (0:UInt8), (0:UInt8), (0:UInt8), (0:UInt8), (0:UInt8), (0:UInt8), (0:UInt8), (0:UInt8), (0:UInt8), (0:UInt8), (0:UInt8), (0:UInt8), (0:UInt8), (0:UInt8), (0:UInt8), (0:UInt8), (0:UInt8), (0:UInt8), (0:UInt8), (0:UInt8), (0:UInt8), (0:UInt8), (0:UInt8), (0:UInt8), (0:UInt8)]) (0:UInt64) (1:UInt64) 3 ([] : List UInt64) ([] : List SealR) (5:UInt64)), 29, (0, 0)⟩]
 refine AA _ (AH rfl) rfl ?_
 refine AN (AF (AL (AE (AA (.agg (List.toArray (α := Value) ([U64 (0:UInt64), U64 (1:UInt64), I64 (3:Int), .slice ao1 0 ca1, .slice ao2 0 ca2, U64 (5:UInt64)] ++ cu8 (tkG ([(1:UInt8), (0:UInt8), (0:UInt8), (0:UInt8), (0:UInt8), (0:UInt8), (0:UInt8), (0:UInt8), (0:UInt8), (0:UInt8), (0:UInt8), (0:UInt8), (0:UInt8), (0:UInt8), (0:UInt8), (0:UInt8), (0:UInt8), (0:UInt8), (0:UInt8), (0:UInt8), (0:UInt8), (0:UInt8), (0:UInt8), (0:UInt8), (0:UInt8), (0:UInt8), (0:UInt8), (0:UInt8), (0:UInt8), (0:UInt8), (0:UInt8), (0:UInt8)]) (0:UInt64) (1:UInt64) 3 ([] : List UInt64) ([] : List SealR) (5:UInt64))))) (AK rfl (BH BE AW (by simp [(CO _ _ _ _ _ _ _)]) (MemAt.ent 0 rfl (AM _)))) rfl ?_))))
 refine AR (BG 47 [.agg (List.toArray (α := Value) ([U64 (0:UInt64), U64 (1:UInt64), I64 (3:Int), .slice ao1 0 ca1, .slice ao2 0 ca2, U64 (5:UInt64)] ++ cu8 (tkG ([(1:UInt8), (0:UInt8), (0:UInt8), (0:UInt8), (0:UInt8), (0:UInt8), (0:UInt8), (0:UInt8), (0:UInt8), (0:UInt8), (0:UInt8), (0:UInt8), (0:UInt8), (0:UInt8), (0:UInt8), (0:UInt8), (0:UInt8), (0:UInt8), (0:UInt8), (0:UInt8), (0:UInt8), (0:UInt8), (0:UInt8), (0:UInt8), (0:UInt8), (0:UInt8), (0:UInt8), (0:UInt8), (0:UInt8), (0:UInt8), (0:UInt8), (0:UInt8)]) (0:UInt64) (1:UInt64) 3 ([] : List UInt64) ([] : List SealR) (5:UInt64))))] _ (A0 [.agg (List.toArray (α := Value) ([U64 (0:UInt64), U64 (1:UInt64), I64 (3:Int), .slice ao1 0 ca1, .slice ao2 0 ca2, U64 (5:UInt64)] ++ cu8 (tkG ([(1:UInt8), (0:UInt8), (0:UInt8), (0:UInt8), (0:UInt8), (0:UInt8), (0:UInt8), (0:UInt8), (0:UInt8), (0:UInt8), (0:UInt8), (0:UInt8), (0:UInt8), (0:UInt8), (0:UInt8), (0:UInt8), (0:UInt8), (0:UInt8), (0:UInt8), (0:UInt8), (0:UInt8), (0:UInt8), (0:UInt8), (0:UInt8), (0:UInt8), (0:UInt8), (0:UInt8), (0:UInt8), (0:UInt8), (0:UInt8), (0:UInt8), (0:UInt8)]) (0:UInt64) (1:UInt64) 3 ([] : List UInt64) ([] : List SealR) (5:UInt64))))] Tryd.call47 rfl) (fun w1 hw1 => put13_c (0:UInt64) (1:UInt64) 3 ao1 0 ca1 ([] : List UInt64) ao2 0 ca2 ([] : List SealR) (5:UInt64) (tkG ([(1:UInt8), (0:UInt8), (0:UInt8), (0:UInt8), (0:UInt8), (0:UInt8), (0:UInt8), (0:UInt8), (0:UInt8), (0:UInt8), (0:UInt8), (0:UInt8), (0:UInt8), (0:UInt8), (0:UInt8), (0:UInt8), (0:UInt8), (0:UInt8), (0:UInt8), (0:UInt8), (0:UInt8), (0:UInt8), (0:UInt8), (0:UInt8), (0:UInt8), (0:UInt8), (0:UInt8), (0:UInt8), (0:UInt8), (0:UInt8), (0:UInt8), (0:UInt8)]) (0:UInt64) (1:UInt64) 3 ([] : List UInt64) ([] : List SealR) (5:UInt64)) 25 w1 rfl (by omega) (by omega) (by omega) RdV.nil rfl (by omega) (by omega) (by omega) RdV.nil (CO _ _ _ _ _ _ _) (by decide +kernel) (by omega) (by omega) (by decide) (by omega))) rfl ?_
 rintro v1 L1 ⟨_, ⟨nb2, sp1, cp1, rfl, rfl, hc5, hc6, hc7⟩, rfl⟩
 show JL _ _ _ _ ((13, .tuple #[Slc nb2 0 41 cp1, .nilIface]) :: _) [_, ⟨nb2, cu8 ((tktT (0:UInt64) (1:UInt64) 3 ([] : List UInt64) ([] : List SealR) (5:UInt64)) ++ (tkG ([(1:UInt8), (0:UInt8), (0:UInt8), (0:UInt8), (0:UInt8), (0:UInt8), (0:UInt8), (0:UInt8), (0:UInt8), (0:UInt8), (0:UInt8), (0:UInt8), (0:UInt8), (0:UInt8), (0:UInt8), (0:UInt8), (0:UInt8), (0:UInt8), (0:UInt8), (0:UInt8), (0:UInt8), (0:UInt8), (0:UInt8), (0:UInt8), (0:UInt8), (0:UInt8), (0:UInt8), (0:UInt8), (0:UInt8), (0:UInt8), (0:UInt8), (0:UInt8)]) (0:UInt64) (1:UInt64) 3 ([] : List UInt64) ([] : List SealR) (5:UInt64))) ++ sp1, 5, (0, 0)⟩]
 refine AA _ (AD rfl) rfl ?_
 refine AA _ (BN rfl rfl) rfl ?_
 refine AA _ (BN rfl rfl) rfl ?_
 refine AA _ (AH rfl) rfl ?_
 refine AA _ (AH rfl) rfl ?_
 refine AN (AF (AL (AE (AA _ (AD rfl) rfl ?_))))
 refine AA (.bool true) (DC _ _ _ rfl rfl (fun _ => EC ..) fun _ => ER BB) rfl ?_
 refine AA _ (AD rfl) rfl ?_
 refine AY 2 18 true _ _ rfl rfl rfl (AD rfl) rfl ?_
 refine AY 2 18 true _ (.bool true) rfl rfl rfl (DC _ _ _ rfl rfl (fun _ => EC ..) fun _ => ER BB) rfl ?_
 refine AA _ (B0 _ rfl rfl rfl) rfl ?_
 refine AA _ (AD rfl) rfl ?_
 refine AY 6 22 true _ _ rfl rfl rfl (AD rfl) rfl ?_
 refine AY 6 22 true _ (I64 (41:Int)) rfl rfl rfl (D4 AO rfl) rfl ?_
 refine AY 6 22 true _ (.bool (decide ((41:Int) = (41:Int)))) rfl rfl rfl (AQ rfl rfl fun _ => DD _ _) rfl ?_
 refine AA _ (B0 _ rfl rfl rfl) rfl ?_
 refine AA _ (AD rfl) rfl ?_
 refine AY 11 27 true _ _ rfl rfl (by decide) (AD rfl) rfl ?_
 refine AY 11 27 true _ (Ptr nb2 24) rfl rfl (by decide) (Ev_indexSl 5 1 24 AO AX rfl rfl (by omega) (by omega) (by omega)) rfl ?_
 refine AY 11 27 true _ (U8 (g8 ((tktT (0:UInt64) (1:UInt64) 3 ([] : List UInt64) ([] : List SealR) (5:UInt64)) ++ (tkG ([(1:UInt8), (0:UInt8), (0:UInt8), (0:UInt8), (0:UInt8), (0:UInt8), (0:UInt8), (0:UInt8), (0:UInt8), (0:UInt8), (0:UInt8), (0:UInt8), (0:UInt8), (0:UInt8), (0:UInt8), (0:UInt8), (0:UInt8), (0:UInt8), (0:UInt8), (0:UInt8), (0:UInt8), (0:UInt8), (0:UInt8), (0:UInt8), (0:UInt8), (0:UInt8), (0:UInt8), (0:UInt8), (0:UInt8), (0:UInt8), (0:UInt8), (0:UInt8)]) (0:UInt64) (1:UInt64) 3 ([] : List UInt64) ([] : List SealR) (5:UInt64))) 24)) rfl rfl (by decide) (AK rfl (AV DU (MemAt.ent 1 rfl (A2 (Seg.get (g8_get (i := 24) (by rw [(show ((tktT (0:UInt64) (1:UInt64) 3 ([] : List UInt64) ([] : List SealR) (5:UInt64)) ++ (tkG ([(1:UInt8), (0:UInt8), (0:UInt8), (0:UInt8), (0:UInt8), (0:UInt8), (0:UInt8), (0:UInt8), (0:UInt8), (0:UInt8), (0:UInt8), (0:UInt8), (0:UInt8), (0:UInt8), (0:UInt8), (0:UInt8), (0:UInt8), (0:UInt8), (0:UInt8), (0:UInt8), (0:UInt8), (0:UInt8), (0:UInt8), (0:UInt8), (0:UInt8), (0:UInt8), (0:UInt8), (0:UInt8), (0:UInt8), (0:UInt8), (0:UInt8), (0:UInt8)]) (0:UInt64) (1:UInt64) 3 ([] : List UInt64) ([] : List SealR) (5:UInt64))).length = 41 from (by rw [List.length_append, (show (tktT (0:UInt64) (1:UInt64) 3 ([] : List UInt64) ([] : List SealR) (5:UInt64)).length = 25 from (D5 rfl rfl).trans (by decide)), (CO _ _ _ _ _ _ _)]))]; omega))))))) rfl ?_
 refine AY 11 27 true _ (.bool (decide ((g8 ((tktT (0:UInt64) (1:UInt64) 3 ([] : List UInt64) ([] : List SealR) (5:UInt64)) ++ (tkG ([(1:UInt8), (0:UInt8), (0:UInt8), (0:UInt8), (0:UInt8), (0:UInt8), (0:UInt8), (0:UInt8), (0:UInt8), (0:UInt8), (0:UInt8), (0:UInt8), (0:UInt8), (0:UInt8), (0:UInt8), (0:UInt8), (0:UInt8), (0:UInt8), (0:UInt8), (0:UInt8), (0:UInt8), (0:UInt8), (0:UInt8), (0:UInt8), (0:UInt8), (0:UInt8), (0:UInt8), (0:UInt8), (0:UInt8), (0:UInt8), (0:UInt8), (0:UInt8)]) (0:UInt64) (1:UInt64) 3 ([] : List UInt64) ([] : List SealR) (5:UInt64))) 24) = (5:UInt8)))) rfl rfl (by decide) (AQ rfl rfl fun _ => bin_eql_u8 (g8 ((tktT (0:UInt64) (1:UInt64) 3 ([] : List UInt64) ([] : List SealR) (5:UInt64)) ++ (tkG ([(1:UInt8), (0:UInt8), (0:UInt8), (0:UInt8), (0:UInt8), (0:UInt8), (0:UInt8), (0:UInt8), (0:UInt8), (0:UInt8), (0:UInt8), (0:UInt8), (0:UInt8), (0:UInt8), (0:UInt8), (0:UInt8), (0:UInt8), (0:UInt8), (0:UInt8), (0:UInt8), (0:UInt8), (0:UInt8), (0:UInt8), (0:UInt8), (0:UInt8), (0:UInt8), (0:UInt8), (0:UInt8), (0:UInt8), (0:UInt8), (0:UInt8), (0:UInt8)]) (0:UInt64) (1:UInt64) 3 ([] : List UInt64) ([] : List SealR) (5:UInt64))) 24) (5:UInt8)) rfl ?_
 refine AA _ (B0 _ rfl (by decide) rfl) rfl ?_
 refine AA _ (AD rfl) rfl ?_
 refine AY 17 33 true _ (.agg (cu8 ([(1:UInt8), (0:UInt8), (0:UInt8), (0:UInt8), (0:UInt8), (0:UInt8), (0:UInt8), (0:UInt8), (0:UInt8), (0:UInt8), (0:UInt8), (0:UInt8), (0:UInt8), (0:UInt8), (0:UInt8), (0:UInt8), (0:UInt8), (0:UInt8), (0:UInt8), (0:UInt8), (0:UInt8), (0:UInt8), (0:UInt8), (0:UInt8), (0:UInt8), (0:UInt8), (0:UInt8), (0:UInt8), (0:UInt8), (0:UInt8), (0:UInt8), (0:UInt8)])).toArray) rfl rfl (by decide +kernel) (CB [(0, U8 (1:UInt8))] _ rfl (fun _ => by kernel_rfl)) rfl ?_
 refine AY 17 33 true _ (.agg (List.toArray (α := Value) ([U64 (0:UInt64), U64 (1:UInt64), I64 (3:Int), .slice ao1 0 ca1, .slice ao2 0 ca2, U64 (5:UInt64)] ++ cu8 (tkG ([(1:UInt8), (0:UInt8), (0:UInt8), (0:UInt8), (0:UInt8), (0:UInt8), (0:UInt8), (0:UInt8), (0:UInt8), (0:UInt8), (0:UInt8), (0:UInt8), (0:UInt8), (0:UInt8), (0:UInt8), (0:UInt8), (0:UInt8), (0:UInt8), (0:UInt8), (0:UInt8), (0:UInt8), (0:UInt8), (0:UInt8), (0:UInt8), (0:UInt8), (0:UInt8), (0:UInt8), (0:UInt8), (0:UInt8), (0:UInt8), (0:UInt8), (0:UInt8)]) (0:UInt64) (1:UInt64) 3 ([] : List UInt64) ([] : List SealR) (5:UInt64))))) rfl rfl (by decide +kernel) (AK rfl (BH BE AW (by simp [(CO _ _ _ _ _ _ _)]) (MemAt.ent 0 rfl (AM _)))) rfl ?_
 refine FL 17 33 true _ rfl rfl (by decide +kernel) (A3 48 [.agg (cu8 ([(1:UInt8), (0:UInt8), (0:UInt8), (0:UInt8), (0:UInt8), (0:UInt8), (0:UInt8), (0:UInt8), (0:UInt8), (0:UInt8), (0:UInt8), (0:UInt8), (0:UInt8), (0:UInt8), (0:UInt8), (0:UInt8), (0:UInt8), (0:UInt8), (0:UInt8), (0:UInt8), (0:UInt8), (0:UInt8), (0:UInt8), (0:UInt8), (0:UInt8), (0:UInt8), (0:UInt8), (0:UInt8), (0:UInt8), (0:UInt8), (0:UInt8), (0:UInt8)])).toArray, .agg (List.toArray (α := Value) ([U64 (0:UInt64), U64 (1:UInt64), I64 (3:Int), .slice ao1 0 ca1, .slice ao2 0 ca2, U64 (5:UInt64)] ++ cu8 (tkG ([(1:UInt8), (0:UInt8), (0:UInt8), (0:UInt8), (0:UInt8), (0:UInt8), (0:UInt8), (0:UInt8), (0:UInt8), (0:UInt8), (0:UInt8), (0:UInt8), (0:UInt8), (0:UInt8), (0:UInt8), (0:UInt8), (0:UInt8), (0:UInt8), (0:UInt8), (0:UInt8), (0:UInt8), (0:UInt8), (0:UInt8), (0:UInt8), (0:UInt8), (0:UInt8), (0:UInt8), (0:UInt8), (0:UInt8), (0:UInt8), (0:UInt8), (0:UInt8)]) (0:UInt64) (1:UInt64) 3 ([] : List UInt64) ([] : List SealR) (5:UInt64))))] (.nilIface) (A0 [.agg (cu8 ([(1:UInt8), (0:UInt8), (0:UInt8), (0:UInt8), (0:UInt8), (0:UInt8), (0:UInt8), (0:UInt8), (0:UInt8), (0:UInt8), (0:UInt8), (0:UInt8), (0:UInt8), (0:UInt8), (0:UInt8), (0:UInt8), (0:UInt8), (0:UInt8), (0:UInt8), (0:UInt8), (0:UInt8), (0:UInt8), (0:UInt8), (0:UInt8), (0:UInt8), (0:UInt8), (0:UInt8), (0:UInt8), (0:UInt8), (0:UInt8), (0:UInt8), (0:UInt8)])).toArray, .agg (List.toArray (α := Value) ([U64 (0:UInt64), U64 (1:UInt64), I64 (3:Int), .slice ao1 0 ca1, .slice ao2 0 ca2, U64 (5:UInt64)] ++ cu8 (tkG ([(1:UInt8), (0:UInt8), (0:UInt8), (0:UInt8), (0:UInt8), (0:UInt8), (0:UInt8), (0:UInt8), (0:UInt8), (0:UInt8), (0:UInt8), (0:UInt8), (0:UInt8), (0:UInt8), (0:UInt8), (0:UInt8), (0:UInt8), (0:UInt8), (0:UInt8), (0:UInt8), (0:UInt8), (0:UInt8), (0:UInt8), (0:UInt8), (0:UInt8), (0:UInt8), (0:UInt8), (0:UInt8), (0:UInt8), (0:UInt8), (0:UInt8), (0:UInt8)]) (0:UInt64) (1:UInt64) 3 ([] : List UInt64) ([] : List SealR) (5:UInt64))))] Tryd.call48 rfl) (fun w1 hw1 => chkK_c ([(1:UInt8), (0:UInt8), (0:UInt8), (0:UInt8), (0:UInt8), (0:UInt8), (0:UInt8), (0:UInt8), (0:UInt8), (0:UInt8), (0:UInt8), (0:UInt8), (0:UInt8), (0:UInt8), (0:UInt8), (0:UInt8), (0:UInt8), (0:UInt8), (0:UInt8), (0:UInt8), (0:UInt8), (0:UInt8), (0:UInt8), (0:UInt8), (0:UInt8), (0:UInt8), (0:UInt8), (0:UInt8), (0:UInt8), (0:UInt8), (0:UInt8), (0:UInt8)]) (0:UInt64) (1:UInt64) 3 ao1 0 ca1 ([] : List UInt64) ao2 0 ca2 ([] : List SealR) (5:UInt64) (tkG ([(1:UInt8), (0:UInt8), (0:UInt8), (0:UInt8), (0:UInt8), (0:UInt8), (0:UInt8), (0:UInt8), (0:UInt8), (0:UInt8), (0:UInt8), (0:UInt8), (0:UInt8), (0:UInt8), (0:UInt8), (0:UInt8), (0:UInt8), (0:UInt8), (0:UInt8), (0:UInt8), (0:UInt8), (0:UInt8), (0:UInt8), (0:UInt8), (0:UInt8), (0:UInt8), (0:UInt8), (0:UInt8), (0:UInt8), (0:UInt8), (0:UInt8), (0:UInt8)]) (0:UInt64) (1:UInt64) 3 ([] : List UInt64) ([] : List SealR) (5:UInt64)) 25 w1 rfl rfl (by omega) (by omega) (by omega) RdV.nil rfl (by omega) (by omega) (by omega) RdV.nil (CO _ _ _ _ _ _ _) (by decide +kernel) (by omega) (by omega) (by decide) (by omega) (hG.at hw1) rfl)) rfl ?_
 rintro v1 L1 ⟨rfl, rfl⟩
 show JL _ _ _ _ ((36, .nilIface) :: _) [_, _]
 refine AY 17 33 true _ (.bool true) rfl rfl (by decide +kernel) (DC _ _ _ rfl rfl (fun _ => EC ..) fun _ => ER BB) rfl ?_
 refine AA _ (B0 _ rfl (by decide +kernel) rfl) rfl ?_
 refine AA _ (AH rfl) rfl ?_
 refine AN (AF (BO (B8 [false, false] ?_)))
 show JQ _ _ _ _ []
 refine BP (.bool true) (res1 Tryd.results43 (BT rfl)) fun w1 hw1 => ?_
 exact ⟨_, [], rfl, ⟨by rw [show (true) = true from rfl], rfl⟩, hw1.sub (by simp) (by simp)⟩
end Go.Proofs.YtkdpdgpphpngeaaDoor
namespace Go.Proofs.YtkdpdgpphpngeaaDoor
open Go Go.Sx
set_option linter.unusedVariables false
set_option linter.unusedSimpArgs false
set_option maxRecDepth 100000
attribute [local irreducible] mid zr8 zr32 numK rnK rotr wordL spreadL comprL cpN adN spN wrdN constL initL padL stN outN routN sumG putL RightB tktT mayN idxT selT macL tkG chkG
theorem tsL_c (key : List UInt8) (pv ep : UInt64) (kd : Int) (ai : Option Addr) (ni ci : Nat) (l : List UInt64) (sa : Option Addr) (ns sc : Nat) (ls : List SealR) (bl : UInt64) (tg : List UInt8)  (w : World) (hk32 : key.length = 32) (htg : tg.length = 16) (hlg : LargeP ni ns) (hG : GLs w) (hGr : GLr w) (hGi : GLi w)  : Calls Tryd.prog 9 #[.agg (cu8 key).toArray, .agg (List.toArray (α := Value) ([U64 pv, U64 ep, I64 (kd), .slice ai ni ci, .slice sa ns sc, U64 bl] ++ cu8 tg))] w (Post w [] (fun v L => v = .bool true ∧ L = [])) := by
 have hmx : maxLen = 9223372036854775807 := rfl
 refine enter (P := Tryd.prog) (f := 9) (fn := Tryd.f9) w [] 109 [] [.agg (cu8 key).toArray, .agg (List.toArray (α := Value) ([U64 pv, U64 ep, I64 (kd), .slice ai ni ci, .slice sa ns sc, U64 bl] ++ cu8 tg))] Tryd.func9 rfl rfl (by simp) (B7 (by simp) (by simp) (by simp)) ?_
 show JC _ _ _ [(0, .agg (cu8 key).toArray), (1, .agg (List.toArray (α := Value) ([U64 pv, U64 ep, I64 (kd), .slice ai ni ci, .slice sa ns sc, U64 bl] ++ cu8 tg)))] _
 refine AL (AE (AR (CN (.agg (cu8 key).toArray) (cu8 key) rfl (by first | rfl | simp)) rfl ?_))
 rintro v1 L1 ⟨nb1, hnb1, rfl, rfl⟩
 show JL _ _ _ _ ((2, Ptr nb1 0) :: _) [⟨nb1, cu8 key, 54, (0, 0)⟩]
 refine AR (CN (.agg (List.toArray (α := Value) ([U64 pv, U64 ep, I64 (kd), .slice ai ni ci, .slice sa ns sc, U64 bl] ++ cu8 tg))) ([U64 pv, U64 ep, I64 (kd), .slice ai ni ci, .slice sa ns sc, U64 bl] ++ cu8 tg) rfl (by first | rfl | simp)) rfl ?_
 rintro v1 L1 ⟨nb2, hnb2, rfl, rfl⟩
 show JL _ _ _ _ ((3, Ptr nb2 0) :: _) [_, ⟨nb2, [U64 pv, U64 ep, I64 (kd), .slice ai ni ci, .slice sa ns sc, U64 bl] ++ cu8 tg, 29, (0, 0)⟩]
 refine AA _ (AH rfl) rfl ?_
 refine AN (AF (AL (AL (AE (AR (A3 43 [] (.bool true) (A0 [] Tryd.call43 rfl) (fun w1 hw1 => alive13_c  w1 (hG.at hw1))) rfl ?_)))))
 rintro v1 L1 ⟨rfl, rfl⟩
 show JL _ _ _ _ ((13, .bool true) :: _) [_, _]
 refine AA (.bool (!true)) (FK rfl) rfl ?_
 refine AN (AF (C0 _ rfl rfl ?_))
 refine B4 (AF (AL (AL (AE (AA (Ptr nb2 2) (AC 2 26 4 AS rfl BI rfl rfl) rfl ?_)))))
 refine AA (.agg (List.toArray (α := Value) ([I64 (kd), .slice ai ni ci, .slice sa ns sc, U64 bl]))) (AK rfl (BH DE BI rfl (MemAt.ent 1 rfl (D9 (p := [U64 pv, U64 ep]) (q := cu8 tg) (vs := [I64 (kd), .slice ai ni ci, .slice sa ns sc, U64 bl]) (by first | rfl | (simp only [List.append_assoc, List.nil_append, List.append_nil, List.cons_append]; done)) rfl)))) rfl ?_
 refine AR (A3 18 [.agg (List.toArray (α := Value) ([I64 (kd), .slice ai ni ci, .slice sa ns sc, U64 bl]))] (.bool (decide (LargeP ni ns))) (A0 [.agg (List.toArray (α := Value) ([I64 (kd), .slice ai ni ci, .slice sa ns sc, U64 bl]))] Tryd.call18 rfl) (fun w1 hw1 => large_c (kd) ai ni ci l sa ns sc ls bl w1 )) rfl ?_
 rintro v1 L1 ⟨rfl, rfl⟩
 show JL _ _ _ _ ((17, .bool (decide (LargeP ni ns))) :: _) [_, _]
 refine AN (AF (C9 _ rfl (decide_eq_true hlg) ?_))
 refine AL (AE (AA _ (AH rfl) rfl ?_))
 refine AN (AF (BO (A5 (B8 [false, false] ?_))))
 show JQ _ _ _ _ []
 refine BP (.bool true) (res1 Tryd.results9 (BT rfl)) fun w1 hw1 => ?_
 exact ⟨_, [], rfl, ⟨by rw [show (true) = true from rfl], rfl⟩, hw1.sub (by simp) (by simp)⟩
theorem ts1_c (key : List UInt8) (pv ep : UInt64) (k : Nat) (ai : Option Addr) (ni ci : Nat) (l : List UInt64) (sa : Option Addr) (ns sc : Nat) (ls : List SealR) (bl : UInt64) (tg : List UInt8) (tot : Nat)  (w : World) (hk32 : key.length = 32) (hl : l.length = ni) (hnm : ni ≤ 2000000) (hnc : ni ≤ ci) (hcm : ci ≤ maxLen) (hv : RdV w ai (cu64 l)) (hls : ls.length = ns) (hnn : ns ≤ 2000000) (hnd : ns ≤ sc) (hcn : sc ≤ maxLen) (hs : RdV w sa (ls.flatMap sealC)) (htg : tg.length = 16) (hp1 : 0 < ni) (hp0 : 0 < ns) (hG : GLs w) (hGr : GLr w) (hGi : GLi w) (hmay : mayN pv ep (k:Int) l ls bl = 0) (hk : k = 1) (htot : tktN k ni ns = tot) (htb : tot ≤ 30000) (hsm : ns ≤ 300) (hnb : ni ≤ 300) (hlg : ¬ LargeP ni ns)  : Calls Tryd.prog 9 #[.agg (cu8 key).toArray, .agg (List.toArray (α := Value) ([U64 pv, U64 ep, I64 ((k:Int)), .slice ai ni ci, .slice sa ns sc, U64 bl] ++ cu8 tg))] w (Post w [] (fun v L => v = .bool true ∧ L = [])) := by
 have hmx : maxLen = 9223372036854775807 := rfl
 refine enter (P := Tryd.prog) (f := 9) (fn := Tryd.f9) w [] 109 [] [.agg (cu8 key).toArray, .agg (List.toArray (α := Value) ([U64 pv, U64 ep, I64 ((k:Int)), .slice ai ni ci, .slice sa ns sc, U64 bl] ++ cu8 tg))] Tryd.func9 rfl rfl (by simp) (B7 (by simp) (by simp) (by simp)) ?_
 show JC _ _ _ [(0, .agg (cu8 key).toArray), (1, .agg (List.toArray (α := Value) ([U64 pv, U64 ep, I64 ((k:Int)), .slice ai ni ci, .slice sa ns sc, U64 bl] ++ cu8 tg)))] _
 refine AL (AE (AR (CN (.agg (cu8 key).toArray) (cu8 key) rfl (by first | rfl | simp)) rfl ?_))
 rintro v1 L1 ⟨nb1, hnb1, rfl, rfl⟩
 show JL _ _ _ _ ((2, Ptr nb1 0) :: _) [⟨nb1, cu8 key, 54, (0, 0)⟩]
 refine AR (CN (.agg (List.toArray (α := Value) ([U64 pv, U64 ep, I64 ((k:Int)), .slice ai ni ci, .slice sa ns sc, U64 bl] ++ cu8 tg))) ([U64 pv, U64 ep, I64 ((k:Int)), .slice ai ni ci, .slice sa ns sc, U64 bl] ++ cu8 tg) rfl (by first | rfl | simp)) rfl ?_
 rintro v1 L1 ⟨nb2, hnb2, rfl, rfl⟩
 show JL _ _ _ _ ((3, Ptr nb2 0) :: _) [_, ⟨nb2, [U64 pv, U64 ep, I64 ((k:Int)), .slice ai ni ci, .slice sa ns sc, U64 bl] ++ cu8 tg, 29, (0, 0)⟩]
 refine AA _ (AH rfl) rfl ?_
 refine AN (AF (AL (AL (AE (AR (A3 43 [] (.bool true) (A0 [] Tryd.call43 rfl) (fun w1 hw1 => alive13_c  w1 (hG.at hw1))) rfl ?_)))))
 rintro v1 L1 ⟨rfl, rfl⟩
 show JL _ _ _ _ ((13, .bool true) :: _) [_, _]
 refine AA (.bool (!true)) (FK rfl) rfl ?_
 refine AN (AF (C0 _ rfl rfl ?_))
 refine B4 (AF (AL (AL (AE (AA (Ptr nb2 2) (AC 2 26 4 AS rfl BI rfl rfl) rfl ?_)))))
 refine AA (.agg (List.toArray (α := Value) ([I64 ((k:Int)), .slice ai ni ci, .slice sa ns sc, U64 bl]))) (AK rfl (BH DE BI rfl (MemAt.ent 1 rfl (D9 (p := [U64 pv, U64 ep]) (q := cu8 tg) (vs := [I64 ((k:Int)), .slice ai ni ci, .slice sa ns sc, U64 bl]) (by first | rfl | (simp only [List.append_assoc, List.nil_append, List.append_nil, List.cons_append]; done)) rfl)))) rfl ?_
 refine AR (A3 18 [.agg (List.toArray (α := Value) ([I64 ((k:Int)), .slice ai ni ci, .slice sa ns sc, U64 bl]))] (.bool (decide (LargeP ni ns))) (A0 [.agg (List.toArray (α := Value) ([I64 ((k:Int)), .slice ai ni ci, .slice sa ns sc, U64 bl]))] Tryd.call18 rfl) (fun w1 hw1 => large_c ((k:Int)) ai ni ci l sa ns sc ls bl w1 )) rfl ?_
 rintro v1 L1 ⟨rfl, rfl⟩
 show JL _ _ _ _ ((17, .bool (decide (LargeP ni ns))) :: _) [_, _]
 refine AN (AF (C0 _ rfl (decide_eq_false hlg) ?_))
 refine B4 (AF (AL (AE (AA (.agg (List.toArray (α := Value) ([U64 pv, U64 ep, I64 ((k:Int)), .slice ai ni ci, .slice sa ns sc, U64 bl] ++ cu8 tg))) (AK rfl (BH BE AW (by simp [htg]) (MemAt.ent 1 rfl (AM _)))) rfl ?_))))
 refine AR (BG 44 [.agg (List.toArray (α := Value) ([U64 pv, U64 ep, I64 ((k:Int)), .slice ai ni ci, .slice sa ns sc, U64 bl] ++ cu8 tg))] _ (A0 [.agg (List.toArray (α := Value) ([U64 pv, U64 ep, I64 ((k:Int)), .slice ai ni ci, .slice sa ns sc, U64 bl] ++ cu8 tg))] Tryd.call44 rfl) (fun w1 hw1 => docTP_c pv ep ((k:Int)) ai ni ci l sa ns sc ls bl tg w1 hl (by omega) (by omega) (by omega) (C1 hw1 rfl hv) hls (by omega) (by omega) (by omega) (C1 hw1 rfl hs) (by omega) htg)) rfl ?_
 rintro v1 L1 ⟨_, ⟨nb3, sp1, cp1, rfl, rfl, hc1, hc2, hc3⟩, rfl⟩
 show JL _ _ _ _ ((19, .agg (List.toArray (α := Value) ([U64 pv, U64 ep, I64 ((k:Int)), .slice ai ni ci, Slc nb3 0 ns cp1, U64 bl] ++ cu8 tg))) :: _) [_, _, ⟨nb3, ls.flatMap sealC ++ sp1, 164, (0, 0)⟩]
 refine AR (BJ _ ([U64 (0:UInt64), U64 (0:UInt64), I64 (0:Int), .slice none 0 0, .slice none 0 0, U64 (0:UInt64)] ++ cu8 (zr8 16)) ET (by kernel_rfl)) rfl ?_
 rintro v1 L1 ⟨nb4, hnb4, rfl, rfl⟩
 show JL _ _ _ _ ((5, Ptr nb4 0) :: _) [_, _, _, ⟨nb4, [U64 (0:UInt64), U64 (0:UInt64), I64 (0:Int), .slice none 0 0, .slice none 0 0, U64 (0:UInt64)] ++ cu8 (zr8 16), 38, (0, 0)⟩]
 refine AR (A6 3 nb4 0 22 ([U64 (0:UInt64), U64 (0:UInt64), I64 (0:Int), .slice none 0 0, .slice none 0 0, U64 (0:UInt64)] ++ cu8 (zr8 16)) 38 (.agg (List.toArray (α := Value) ([U64 pv, U64 ep, I64 ((k:Int)), .slice ai ni ci, Slc nb3 0 ns cp1, U64 bl] ++ cu8 tg))) ([U64 pv, U64 ep, I64 ((k:Int)), .slice ai ni ci, Slc nb3 0 ns cp1, U64 bl] ++ cu8 tg) ([U64 pv, U64 ep, I64 ((k:Int)), .slice ai ni ci, Slc nb3 0 ns cp1, U64 bl] ++ cu8 tg) rfl rfl rfl (by first | rfl | simp) CM (by simp [htg]) (DA (by simp [Value.oneCell']) CK) (by simp [(AP 16)]) (BF (by simp [(AP 16), htg]))) rfl ?_
 rintro v1 L1 ⟨rfl, rfl⟩
 show JL _ _ _ _ _ [_, _, _, ⟨nb4, [U64 pv, U64 ep, I64 ((k:Int)), .slice ai ni ci, Slc nb3 0 ns cp1, U64 bl] ++ cu8 tg, 38, (0, 0)⟩]
 refine AN (AF (AL (AE (AA (.agg (List.toArray (α := Value) ([U64 pv, U64 ep, I64 ((k:Int)), .slice ai ni ci, Slc nb3 0 ns cp1, U64 bl] ++ cu8 tg))) (AK rfl (BH DO CM (by simp [htg]) (MemAt.ent 3 rfl (AM _)))) rfl ?_))))
 refine AR (A3 45 [.agg (List.toArray (α := Value) ([U64 pv, U64 ep, I64 ((k:Int)), .slice ai ni ci, Slc nb3 0 ns cp1, U64 bl] ++ cu8 tg))] (I64 (((mayN pv ep ((k:Int)) l ls bl):Int))) (A0 [.agg (List.toArray (α := Value) ([U64 pv, U64 ep, I64 ((k:Int)), .slice ai ni ci, Slc nb3 0 ns cp1, U64 bl] ++ cu8 tg))] Tryd.call45 rfl) (fun w1 hw1 => rmay13_c pv ep ((k:Int)) ai ni ci l (some ⟨nb3, 0, none⟩) ns cp1 ls bl tg w1 hl (by omega) (by omega) (by omega) (C1 hw1 rfl hv) hls (by omega) (by omega) (by omega) (RdV.of hw1 (MemAt.ent 2 rfl (A2 (AM _)))) htg)) rfl ?_
 rintro v1 L1 ⟨rfl, rfl⟩
 show JL _ _ _ _ ((21, I64 (((mayN pv ep ((k:Int)) l ls bl):Int))) :: _) [_, _, _, _]
 refine AA _ (AH rfl) rfl ?_
 refine AN (AF (AL (AE (AA (.agg (cu8 key).toArray) (AK rfl (BH D0 CD (CG hk32) (MemAt.ent 0 rfl (AM _)))) rfl ?_))))
 refine AA (Ptr nb2 0) (AC 0 22 1 AS rfl AT rfl rfl) rfl ?_
 refine AA (U64 pv) (AK rfl (AV AU (MemAt.ent 1 rfl (A2 (Seg.head))))) rfl ?_
 refine AA (Ptr nb2 1) (AC 1 22 1 AS rfl AT rfl rfl) rfl ?_
 refine AA (U64 ep) (AK rfl (AV AU (MemAt.ent 1 rfl (A2 (AJ (Seg.head)))))) rfl ?_
 refine AA (Ptr nb2 2) (AC 2 26 4 AS rfl BI rfl rfl) rfl ?_
 refine AA (.agg (List.toArray (α := Value) ([I64 ((k:Int)), .slice ai ni ci, .slice sa ns sc, U64 bl]))) (AK rfl (BH DE BI rfl (MemAt.ent 1 rfl (D9 (p := [U64 pv, U64 ep]) (q := cu8 tg) (vs := [I64 ((k:Int)), .slice ai ni ci, .slice sa ns sc, U64 bl]) (by first | rfl | (simp only [List.append_assoc, List.nil_append, List.append_nil, List.cons_append]; done)) rfl)))) rfl ?_
 refine AR (BG 46 [.agg (cu8 key).toArray, U64 pv, U64 ep, .agg (List.toArray (α := Value) ([I64 ((k:Int)), .slice ai ni ci, .slice sa ns sc, U64 bl]))] _ (A0 [.agg (cu8 key).toArray, U64 pv, U64 ep, .agg (List.toArray (α := Value) ([I64 ((k:Int)), .slice ai ni ci, .slice sa ns sc, U64 bl]))] Tryd.call46 rfl) (fun w1 hw1 => sign1_c key pv ep k ai ni ci l sa ns sc ls bl tot w1 hk32 hl (by omega) (by omega) (by omega) (C1 hw1 rfl hv) hls (by omega) (by omega) (by omega) (C1 hw1 rfl hs) (by omega) (by omega) hmay (by omega) htot (by omega) (by omega) (by omega) (hG.at hw1))) rfl ?_
 rintro v1 L1 ⟨_, ⟨nb5, sp2, cp2, nb6, sp3, cp3, rfl, rfl, hc4, hc5, hc6, hc7, hc8, hc9⟩, rfl⟩
 show JL _ _ _ _ ((30, .tuple #[.agg (List.toArray (α := Value) ([U64 pv, U64 ep, I64 ((k:Int)), Slc nb5 0 ni cp2, Slc nb6 0 ns cp3, U64 bl] ++ cu8 (tkG key pv ep k l ls bl))), .nilIface]) :: _) [_, _, _, _, ⟨nb5, cu64 l ++ sp2, 22, (0, 0)⟩, ⟨nb6, ls.flatMap sealC ++ sp3, 161, (0, 0)⟩]
 refine AA _ (AD rfl) rfl ?_
 refine AA _ (BN rfl rfl) rfl ?_
 refine AA _ (BN rfl rfl) rfl ?_
 refine AR (BJ _ ([U64 (0:UInt64), U64 (0:UInt64), I64 (0:Int), .slice none 0 0, .slice none 0 0, U64 (0:UInt64)] ++ cu8 (zr8 16)) B9 (by kernel_rfl)) rfl ?_
 rintro v1 L1 ⟨nb7, hnb7, rfl, rfl⟩
 show JL _ _ _ _ ((7, Ptr nb7 0) :: _) [_, _, _, _, _, _, ⟨nb7, [U64 (0:UInt64), U64 (0:UInt64), I64 (0:Int), .slice none 0 0, .slice none 0 0, U64 (0:UInt64)] ++ cu8 (zr8 16), 29, (0, 0)⟩]
 refine AR (A6 6 nb7 0 22 ([U64 (0:UInt64), U64 (0:UInt64), I64 (0:Int), .slice none 0 0, .slice none 0 0, U64 (0:UInt64)] ++ cu8 (zr8 16)) 29 (.agg (List.toArray (α := Value) ([U64 pv, U64 ep, I64 ((k:Int)), Slc nb5 0 ni cp2, Slc nb6 0 ns cp3, U64 bl] ++ cu8 (tkG key pv ep k l ls bl)))) ([U64 pv, U64 ep, I64 ((k:Int)), Slc nb5 0 ni cp2, Slc nb6 0 ns cp3, U64 bl] ++ cu8 (tkG key pv ep k l ls bl)) ([U64 pv, U64 ep, I64 ((k:Int)), Slc nb5 0 ni cp2, Slc nb6 0 ns cp3, U64 bl] ++ cu8 (tkG key pv ep k l ls bl)) rfl rfl rfl (by first | rfl | simp) AW (by simp [(CO _ _ _ _ _ _ _)]) (DA (by simp [Value.oneCell']) CK) (by simp [(AP 16)]) (BF (by simp [(AP 16), (CO _ _ _ _ _ _ _)]))) rfl ?_
 rintro v1 L1 ⟨rfl, rfl⟩
 show JL _ _ _ _ _ [_, _, _, _, _, _, ⟨nb7, [U64 pv, U64 ep, I64 ((k:Int)), Slc nb5 0 ni cp2, Slc nb6 0 ns cp3, U64 bl] ++ cu8 (tkG key pv ep k l ls bl), 29, (0, 0)⟩]
 refine AA _ (AH rfl) rfl ?_
 refine AN (AF (AL (AE (AA (.agg (List.toArray (α := Value) ([U64 pv, U64 ep, I64 ((k:Int)), .slice ai ni ci, .slice sa ns sc, U64 bl] ++ cu8 tg))) (AK rfl (BH BE AW (by simp [htg]) (MemAt.ent 1 rfl (AM _)))) rfl ?_))))
 refine AR (BG 47 [.agg (List.toArray (α := Value) ([U64 pv, U64 ep, I64 ((k:Int)), .slice ai ni ci, .slice sa ns sc, U64 bl] ++ cu8 tg))] _ (A0 [.agg (List.toArray (α := Value) ([U64 pv, U64 ep, I64 ((k:Int)), .slice ai ni ci, .slice sa ns sc, U64 bl] ++ cu8 tg))] Tryd.call47 rfl) (fun w1 hw1 => put13_c pv ep k ai ni ci l sa ns sc ls bl tg tot w1 hl (by omega) (by omega) (by omega) (C1 hw1 rfl hv) hls (by omega) (by omega) (by omega) (C1 hw1 rfl hs) htg hmay (by omega) (by omega) htot (by omega))) rfl ?_
 rintro v1 L1 ⟨_, ⟨nb8, sp4, cp4, rfl, rfl, hc10, hc11, hc12⟩, rfl⟩
 show JL _ _ _ _ ((35, .tuple #[Slc nb8 0 (tot + 16) cp4, .nilIface]) :: _) [_, _, _, _, _, _, _, ⟨nb8, cu8 ((tktT pv ep k l ls bl) ++ tg) ++ sp4, 5, (0, 0)⟩]
 refine AA _ (AD rfl) rfl ?_
 refine AA _ (BN rfl rfl) rfl ?_
 refine AA _ (BN rfl rfl) rfl ?_
 refine AA _ (AH rfl) rfl ?_
 refine AA _ (AH rfl) rfl ?_
 refine AN (AF (AL (AE (AA (.agg (cu8 key).toArray) (AK rfl (BH D0 CD (CG hk32) (MemAt.ent 0 rfl (AM _)))) rfl ?_))))
 refine AA (.agg (List.toArray (α := Value) ([U64 pv, U64 ep, I64 ((k:Int)), .slice ai ni ci, .slice sa ns sc, U64 bl] ++ cu8 tg))) (AK rfl (BH BE AW (by simp [htg]) (MemAt.ent 1 rfl (AM _)))) rfl ?_
 refine AR (A3 48 [.agg (cu8 key).toArray, .agg (List.toArray (α := Value) ([U64 pv, U64 ep, I64 ((k:Int)), .slice ai ni ci, .slice sa ns sc, U64 bl] ++ cu8 tg))] (errV 50 (chkG key pv ep k l ls bl tg)) (A0 [.agg (cu8 key).toArray, .agg (List.toArray (α := Value) ([U64 pv, U64 ep, I64 ((k:Int)), .slice ai ni ci, .slice sa ns sc, U64 bl] ++ cu8 tg))] Tryd.call48 rfl) (fun w1 hw1 => chk_w key pv ep k ai ni ci l sa ns sc ls bl tg tot w1 hk32 hl (by omega) (by omega) (by omega) (C1 hw1 rfl hv) hls (by omega) (by omega) (by omega) (C1 hw1 rfl hs) htg hmay (by omega) (by omega) htot (by omega) (hG.at hw1))) rfl ?_
 rintro v1 L1 ⟨rfl, rfl⟩
 show JL _ _ _ _ ((40, errV 50 (chkG key pv ep k l ls bl tg)) :: _) [_, _, _, _, _, _, _, _]
 refine AA _ (AH rfl) rfl ?_
 refine AN (AF (AL (AL (AE (AA _ (AD rfl) rfl ?_)))))
 refine AA (.bool (decide ((((mayN pv ep ((k:Int)) l ls bl):Int)) ≠ (0:Int)))) (AQ rfl rfl fun _ => E8 _ _) rfl ?_
 refine AN (AF (C0 _ rfl (decide_eq_false (by omega)) ?_))
 refine B4 (AF (AL (AE (AA (.agg (List.toArray (α := Value) ([U64 pv, U64 ep, I64 ((k:Int)), .slice ai ni ci, Slc nb3 0 ns cp1, U64 bl] ++ cu8 tg))) (AK rfl (BH DO CM (by simp [htg]) (MemAt.ent 3 rfl (AM _)))) rfl ?_))))
 refine AR (BJ _ ([U64 (0:UInt64), U64 (0:UInt64), I64 (0:Int), .slice none 0 0, .slice none 0 0, U64 (0:UInt64)] ++ cu8 (zr8 16)) ET (by kernel_rfl)) rfl ?_
 rintro v1 L1 ⟨nb9, hnb9, rfl, rfl⟩
 show JL _ _ _ _ ((12, Ptr nb9 0) :: _) [_, _, _, _, _, _, _, _, ⟨nb9, [U64 (0:UInt64), U64 (0:UInt64), I64 (0:Int), .slice none 0 0, .slice none 0 0, U64 (0:UInt64)] ++ cu8 (zr8 16), 38, (0, 0)⟩]
 refine AR (A6 8 nb9 0 22 ([U64 (0:UInt64), U64 (0:UInt64), I64 (0:Int), .slice none 0 0, .slice none 0 0, U64 (0:UInt64)] ++ cu8 (zr8 16)) 38 (.agg (List.toArray (α := Value) ([U64 pv, U64 ep, I64 ((k:Int)), .slice ai ni ci, Slc nb3 0 ns cp1, U64 bl] ++ cu8 tg))) ([U64 pv, U64 ep, I64 ((k:Int)), .slice ai ni ci, Slc nb3 0 ns cp1, U64 bl] ++ cu8 tg) ([U64 pv, U64 ep, I64 ((k:Int)), .slice ai ni ci, Slc nb3 0 ns cp1, U64 bl] ++ cu8 tg) rfl rfl rfl (by first | rfl | simp) CM (by simp [htg]) (DA (by simp [Value.oneCell']) CK) (by simp [(AP 16)]) (BF (by simp [(AP 16), htg]))) rfl ?_
 rintro v1 L1 ⟨rfl, rfl⟩
 show JL _ _ _ _ _ [_, _, _, _, _, _, _, _, ⟨nb9, [U64 pv, U64 ep, I64 ((k:Int)), .slice ai ni ci, Slc nb3 0 ns cp1, U64 bl] ++ cu8 tg, 38, (0, 0)⟩]
 refine AN (AF (AL (AE (AA (.agg (cu8 key).toArray) (AK rfl (BH D0 CD (CG hk32) (MemAt.ent 0 rfl (AM _)))) rfl ?_))))
 refine AA (.agg (List.toArray (α := Value) ([U64 pv, U64 ep, I64 ((k:Int)), .slice ai ni ci, Slc nb3 0 ns cp1, U64 bl] ++ cu8 tg))) (AK rfl (BH DO CM (by simp [htg]) (MemAt.ent 3 rfl (AM _)))) rfl ?_
 refine AR (A3 50 [.agg (cu8 key).toArray, .agg (List.toArray (α := Value) ([U64 pv, U64 ep, I64 ((k:Int)), .slice ai ni ci, Slc nb3 0 ns cp1, U64 bl] ++ cu8 tg))] (.agg (cu8 (tkG key pv ep k l ls bl)).toArray) (A0 [.agg (cu8 key).toArray, .agg (List.toArray (α := Value) ([U64 pv, U64 ep, I64 ((k:Int)), .slice ai ni ci, Slc nb3 0 ns cp1, U64 bl] ++ cu8 tg))] Tryd.call50 rfl) (fun w1 hw1 => rtag_c key pv ep k ai ni ci l (some ⟨nb3, 0, none⟩) ns cp1 ls bl tg tot w1 hk32 hl (by omega) (by omega) (by omega) (C1 hw1 rfl hv) hls (by omega) (by omega) (by omega) (RdV.of hw1 (MemAt.ent 2 rfl (A2 (AM _)))) htg hmay (by omega) (by omega) htot (by omega) (GLr.at hw1 hGr) (GLi.at hw1 hGi))) rfl ?_
 rintro v1 L1 ⟨rfl, rfl⟩
 show JL _ _ _ _ ((72, .agg (cu8 (tkG key pv ep k l ls bl)).toArray) :: _) [_, _, _, _, _, _, _, _, _]
 refine AA (Ptr nb9 6) (AC 6 27 16 A4 rfl A1 rfl rfl) rfl ?_
 refine AR (A6 8 nb9 6 16 ([U64 pv, U64 ep, I64 ((k:Int)), .slice ai ni ci, Slc nb3 0 ns cp1, U64 bl] ++ cu8 tg) 38 (.agg (cu8 (tkG key pv ep k l ls bl)).toArray) (cu8 (tkG key pv ep k l ls bl)) ([U64 pv, U64 ep, I64 ((k:Int)), .slice ai ni ci, Slc nb3 0 ns cp1, U64 bl] ++ cu8 (tkG key pv ep k l ls bl)) rfl rfl rfl (by first | rfl | simp) A1 (CG (CO _ _ _ _ _ _ _)) (by first | exact CK | exact DW | exact DT | (simp [cu8, cu32, cu64, Value.oneCell']; done)) (by simp [htg]) (FQ 6 0 rfl rfl (BF (by simp [htg, (CO _ _ _ _ _ _ _)])))) rfl ?_
 rintro v1 L1 ⟨rfl, rfl⟩
 show JL _ _ _ _ _ [_, _, _, _, _, _, _, _, ⟨nb9, [U64 pv, U64 ep, I64 ((k:Int)), .slice ai ni ci, Slc nb3 0 ns cp1, U64 bl] ++ cu8 (tkG key pv ep k l ls bl), 38, (0, 0)⟩]
 refine AN (AF (AL (AL (JC_cut (ι := Bool) (fun yb0 => [(4, .bool false), (5, Ptr nb4 0), (7, Ptr nb7 0), (8, .nilIface), (9, Slc nb8 0 (tot + 16) cp4), (10, .nilIface), (12, Ptr nb9 0), (90, .bool yb0)]) (fun yb0 => [⟨nb3, ls.flatMap sealC ++ sp1, 164, (0, 0)⟩, ⟨nb4, [U64 pv, U64 ep, I64 ((k:Int)), .slice ai ni ci, Slc nb3 0 ns cp1, U64 bl] ++ cu8 tg, 38, (0, 0)⟩, ⟨nb5, cu64 l ++ sp2, 22, (0, 0)⟩, ⟨nb6, ls.flatMap sealC ++ sp3, 161, (0, 0)⟩, ⟨nb7, [U64 pv, U64 ep, I64 ((k:Int)), Slc nb5 0 ni cp2, Slc nb6 0 ns cp3, U64 bl] ++ cu8 (tkG key pv ep k l ls bl), 29, (0, 0)⟩, ⟨nb8, cu8 ((tktT pv ep k l ls bl) ++ tg) ++ sp4, 5, (0, 0)⟩, ⟨nb9, [U64 pv, U64 ep, I64 ((k:Int)), .slice ai ni ci, Slc nb3 0 ns cp1, U64 bl] ++ cu8 (tkG key pv ep k l ls bl), 38, (0, 0)⟩]) (fun yb0 => yb0 = false) ?_ ?_))))
 ·
  rcases Bool.eq_false_or_eq_true (decide (chkG key pv ep k l ls bl tg = 0)) with hb1 | hb1
  ·
   have hp1 : chkG key pv ep k l ls bl tg = 0 := of_decide_eq_true hb1
   refine CQ 109 2 [(0, errV 50 (chkG key pv ep k l ls bl tg)), (1, .bool (decide (chkG key pv ep k l ls bl tg = 0))), (2, Ptr nb9 6), (3, .agg (cu8 (tkG key pv ep k l ls bl)).toArray), (4, Ptr nb4 6), (5, .agg (cu8 tg).toArray), (6, .bool (decide ((tkG key pv ep k l ls bl) = tg))), (7, .bool (!((decide (chkG key pv ep k l ls bl tg = 0)) == (decide ((tkG key pv ep k l ls bl) = tg))))), (8, .bool (!((decide (chkG key pv ep k l ls bl tg = 0)) == (decide ((tkG key pv ep k l ls bl) = tg))))), (9, errV 50 (chkG key pv ep k l ls bl tg)), (10, .bool (!(decide (chkG key pv ep k l ls bl tg = 0)))), (11, .bool (!(decide (chkG key pv ep k l ls bl tg = 0)))), (12, undef), (13, undef), (14, undef), (15, .bool false), (16, .bool false)] BQ rfl (by decide +kernel) ?_
   refine CZ ⟨[], [0, 1, 2, 3, 4, 5, 6, 7, 8, 9, 10, 11, 12, 13, 14, 15, 16], [], [0, 1, 2, 3, 4, 5, 6, 7, 8, 9, 10, 11, 12, 13, 14, 15, 16], []⟩ rfl rfl (by decide +kernel) rfl ⟨⟨_, rfl, AB rfl (AD rfl)⟩, ⟨_, rfl, AB rfl (DC _ _ _ rfl rfl (fun _ => C5 ..) fun _ => eql_errV BB _ _)⟩, ⟨_, rfl, AB rfl (AC 6 27 16 A4 rfl A1 rfl rfl)⟩, ⟨_, rfl, AB rfl (AK rfl (BH C2 A1 (CG (CO _ _ _ _ _ _ _)) (MemAt.ent 8 rfl (Seg.right 6 0 rfl rfl (AM _)))))⟩, ⟨_, rfl, AB rfl (AC 6 27 16 A4 rfl A1 rfl rfl)⟩, ⟨_, rfl, AB rfl (AK rfl (BH C2 A1 (CG htg) (MemAt.ent 3 rfl (Seg.right 6 0 rfl rfl (AM _)))))⟩, ⟨_, rfl, AB rfl (DC _ _ _ rfl rfl (fun _ => E9 _ _ _ _ _ _ (by kernel_rfl)) fun _ => eql_arr8 BC BY DU E1 FO (by simp [(CO _ _ _ _ _ _ _)]) (by simp [htg]))⟩, ⟨_, rfl, AB rfl (DC _ _ _ rfl rfl (fun _ => F2 ..) fun _ => neq_bool Tryd.underlying4)⟩, ⟨_, rfl, AB rfl (AD rfl)⟩, ⟨_, rfl, BS 8 82 false _ rfl rfl rfl (by rw [show ((decide (chkG key pv ep k l ls bl tg = 0)) == (decide ((tkG key pv ep k l ls bl) = tg))) = true from (FE _ _ _ _ _ _ _ _)] <;> rfl) (AD rfl)⟩, ⟨_, rfl, BS 8 82 false _ rfl rfl rfl (by rw [show ((decide (chkG key pv ep k l ls bl tg = 0)) == (decide ((tkG key pv ep k l ls bl) = tg))) = true from (FE _ _ _ _ _ _ _ _)] <;> rfl) (DC _ _ _ rfl rfl (fun _ => C5 ..) fun _ => EW BB _ _)⟩, ⟨_, rfl, BS 8 82 false _ rfl rfl rfl (by rw [show ((decide (chkG key pv ep k l ls bl tg = 0)) == (decide ((tkG key pv ep k l ls bl) = tg))) = true from (FE _ _ _ _ _ _ _ _)] <;> rfl) (AD rfl)⟩, ⟨_, rfl, CH 11 85 true _ rfl rfl rfl (by rw [show (decide (chkG key pv ep k l ls bl tg = 0)) = true from hb1] <;> rfl)⟩, ⟨_, rfl, CH 11 85 true _ rfl rfl rfl (by rw [show (decide (chkG key pv ep k l ls bl tg = 0)) = true from hb1] <;> rfl)⟩, ⟨_, rfl, CH 11 85 true _ rfl rfl rfl (by rw [show (decide (chkG key pv ep k l ls bl tg = 0)) = true from hb1] <;> rfl)⟩, ⟨_, rfl, BS 8 82 false _ rfl rfl rfl (by rw [show ((decide (chkG key pv ep k l ls bl tg = 0)) == (decide ((tkG key pv ep k l ls bl) = tg))) = true from (FE _ _ _ _ _ _ _ _)] <;> rfl) (BM _ rfl (by rw [show (decide (chkG key pv ep k l ls bl tg = 0)) = true from hb1] <;> rfl) rfl)⟩, ⟨_, rfl, AB rfl (BM _ rfl (by rw [show ((decide (chkG key pv ep k l ls bl tg = 0)) == (decide ((tkG key pv ep k l ls bl) = tg))) = true from (FE _ _ _ _ _ _ _ _)] <;> rfl) rfl)⟩, trivial⟩ ?_
   refine CC (F' := [(90, .bool false), (4, .bool false), (5, Ptr nb4 0), (7, Ptr nb7 0), (8, .nilIface), (9, Slc nb8 0 (tot + 16) cp4), (10, .nilIface), (12, Ptr nb9 0)]) (by kernel_rfl) ?_
   refine K_pick [2, 3, 4, 5, 6, 7, 8] (by decide) ?_
   show JQ _ _ _ _ [_, _, _, _, _, _, _]
   refine JQ_cut false rfl (Sub.cons rfl (Sub.cons rfl (Sub.cons rfl (Sub.cons rfl (Sub.cons rfl (Sub.cons rfl (Sub.cons rfl (Sub.cons rfl (Sub.nil))))))))) rfl
  ·
   have hp1 : ¬ (chkG key pv ep k l ls bl tg = 0) := of_decide_eq_false hb1
   refine CQ 109 2 [(0, errV 50 (chkG key pv ep k l ls bl tg)), (1, .bool (decide (chkG key pv ep k l ls bl tg = 0))), (2, Ptr nb9 6), (3, .agg (cu8 (tkG key pv ep k l ls bl)).toArray), (4, Ptr nb4 6), (5, .agg (cu8 tg).toArray), (6, .bool (decide ((tkG key pv ep k l ls bl) = tg))), (7, .bool (!((decide (chkG key pv ep k l ls bl tg = 0)) == (decide ((tkG key pv ep k l ls bl) = tg))))), (8, .bool (!((decide (chkG key pv ep k l ls bl tg = 0)) == (decide ((tkG key pv ep k l ls bl) = tg))))), (9, errV 50 (chkG key pv ep k l ls bl tg)), (10, .bool (!(decide (chkG key pv ep k l ls bl tg = 0)))), (11, .bool (!(decide (chkG key pv ep k l ls bl tg = 0)))), (12, errV 50 (chkG key pv ep k l ls bl tg))] BQ rfl (by decide +kernel) ?_
   refine BR ⟨[], [0, 1, 2, 3, 4, 5, 6, 7, 8, 9, 10, 11, 12], [], [0, 1, 2, 3, 4, 5, 6, 7, 8, 9, 10, 11, 12], [13]⟩ 13 _ rfl rfl (by decide +kernel) rfl ⟨⟨_, rfl, AB rfl (AD rfl)⟩, ⟨_, rfl, AB rfl (DC _ _ _ rfl rfl (fun _ => C5 ..) fun _ => eql_errV BB _ _)⟩, ⟨_, rfl, AB rfl (AC 6 27 16 A4 rfl A1 rfl rfl)⟩, ⟨_, rfl, AB rfl (AK rfl (BH C2 A1 (CG (CO _ _ _ _ _ _ _)) (MemAt.ent 8 rfl (Seg.right 6 0 rfl rfl (AM _)))))⟩, ⟨_, rfl, AB rfl (AC 6 27 16 A4 rfl A1 rfl rfl)⟩, ⟨_, rfl, AB rfl (AK rfl (BH C2 A1 (CG htg) (MemAt.ent 3 rfl (Seg.right 6 0 rfl rfl (AM _)))))⟩, ⟨_, rfl, AB rfl (DC _ _ _ rfl rfl (fun _ => E9 _ _ _ _ _ _ (by kernel_rfl)) fun _ => eql_arr8 BC BY DU E1 FO (by simp [(CO _ _ _ _ _ _ _)]) (by simp [htg]))⟩, ⟨_, rfl, AB rfl (DC _ _ _ rfl rfl (fun _ => F2 ..) fun _ => neq_bool Tryd.underlying4)⟩, ⟨_, rfl, AB rfl (AD rfl)⟩, ⟨_, rfl, BS 8 82 false _ rfl rfl rfl (by rw [show ((decide (chkG key pv ep k l ls bl tg = 0)) == (decide ((tkG key pv ep k l ls bl) = tg))) = true from (FE _ _ _ _ _ _ _ _)] <;> rfl) (AD rfl)⟩, ⟨_, rfl, BS 8 82 false _ rfl rfl rfl (by rw [show ((decide (chkG key pv ep k l ls bl tg = 0)) == (decide ((tkG key pv ep k l ls bl) = tg))) = true from (FE _ _ _ _ _ _ _ _)] <;> rfl) (DC _ _ _ rfl rfl (fun _ => C5 ..) fun _ => EW BB _ _)⟩, ⟨_, rfl, BS 8 82 false _ rfl rfl rfl (by rw [show ((decide (chkG key pv ep k l ls bl tg = 0)) == (decide ((tkG key pv ep k l ls bl) = tg))) = true from (FE _ _ _ _ _ _ _ _)] <;> rfl) (AD rfl)⟩, ⟨_, rfl, BS 11 85 true _ rfl rfl rfl (by rw [show (decide (chkG key pv ep k l ls bl tg = 0)) = false from hb1] <;> rfl) (AD rfl)⟩, trivial⟩ rfl (FD 11 85 true _ rfl rfl rfl (by rw [show (decide (chkG key pv ep k l ls bl tg = 0)) = false from hb1] <;> rfl) (A3 23 [errV 50 (chkG key pv ep k l ls bl tg), I64 (4:Int)] (.bool (decide ((chkG key pv ep k l ls bl tg:Int) = (4:Int)))) (A0 [errV 50 (chkG key pv ep k l ls bl tg), I64 (4:Int)] Tryd.call23 rfl) (fun w1 hw1 => is_c (chkG key pv ep k l ls bl tg) 4 w1))) ?_
   rintro v1 L1 ⟨rfl, rfl⟩
   refine ⟨[(14, .bool (!(decide ((chkG key pv ep k l ls bl tg:Int) = (4:Int))))), (15, .bool (!(decide ((chkG key pv ep k l ls bl tg:Int) = (4:Int))))), (16, .bool (!(decide ((chkG key pv ep k l ls bl tg:Int) = (4:Int)))))], ?_⟩
   show DP _ _ _ _ _ _ _ _ [_, _, _, _, _, _, _, _, _]
   refine CZ ⟨[13], [0, 1, 2, 3, 4, 5, 6, 7, 8, 9, 10, 11, 12, 14, 15, 16], [0, 1, 2, 3, 4, 5, 6, 7, 8, 9, 10, 11, 12], [14, 15, 16], []⟩ rfl rfl (by decide +kernel) rfl ⟨⟨_, rfl, BS 11 85 true _ rfl rfl rfl (by rw [show (decide (chkG key pv ep k l ls bl tg = 0)) = false from hb1] <;> rfl) (FK rfl)⟩, ⟨_, rfl, BS 8 82 false _ rfl rfl rfl (by rw [show ((decide (chkG key pv ep k l ls bl tg = 0)) == (decide ((tkG key pv ep k l ls bl) = tg))) = true from (FE _ _ _ _ _ _ _ _)] <;> rfl) (B0 _ rfl (by rw [show (decide (chkG key pv ep k l ls bl tg = 0)) = false from hb1] <;> rfl) rfl)⟩, ⟨_, rfl, AB rfl (BM _ rfl (by rw [show ((decide (chkG key pv ep k l ls bl tg = 0)) == (decide ((tkG key pv ep k l ls bl) = tg))) = true from (FE _ _ _ _ _ _ _ _)] <;> rfl) rfl)⟩, trivial⟩ ?_
   refine CC (F' := [(90, .bool (!(decide ((chkG key pv ep k l ls bl tg:Int) = (4:Int))))), (4, .bool false), (5, Ptr nb4 0), (7, Ptr nb7 0), (8, .nilIface), (9, Slc nb8 0 (tot + 16) cp4), (10, .nilIface), (12, Ptr nb9 0)]) (by kernel_rfl) ?_
   refine K_pick [2, 3, 4, 5, 6, 7, 8] (by decide) ?_
   show JQ _ _ _ _ [_, _, _, _, _, _, _]
   refine JQ_cut (!(decide ((chkG key pv ep k l ls bl tg:Int) = (4:Int)))) (by rw [show (decide ((chkG key pv ep k l ls bl tg:Int) = (4:Int))) = true from (decide_eq_true (by rw [chk_four (of_decide_eq_false hb1)]; rfl))] <;> rfl) (Sub.cons rfl (Sub.cons rfl (Sub.cons rfl (Sub.cons rfl (Sub.cons rfl (Sub.cons rfl (Sub.cons rfl (Sub.cons rfl (Sub.nil))))))))) rfl
 ·
  rintro yb0 hy1
  show JQ _ _ _ [(4, .bool false), (5, Ptr nb4 0), (7, Ptr nb7 0), (8, .nilIface), (9, Slc nb8 0 (tot + 16) cp4), (10, .nilIface), (12, Ptr nb9 0), (90, .bool yb0)] [⟨nb3, ls.flatMap sealC ++ sp1, 164, (0, 0)⟩, ⟨nb4, [U64 pv, U64 ep, I64 ((k:Int)), .slice ai ni ci, Slc nb3 0 ns cp1, U64 bl] ++ cu8 tg, 38, (0, 0)⟩, ⟨nb5, cu64 l ++ sp2, 22, (0, 0)⟩, ⟨nb6, ls.flatMap sealC ++ sp3, 161, (0, 0)⟩, ⟨nb7, [U64 pv, U64 ep, I64 ((k:Int)), Slc nb5 0 ni cp2, Slc nb6 0 ns cp3, U64 bl] ++ cu8 (tkG key pv ep k l ls bl), 29, (0, 0)⟩, ⟨nb8, cu8 ((tktT pv ep k l ls bl) ++ tg) ++ sp4, 5, (0, 0)⟩, ⟨nb9, [U64 pv, U64 ep, I64 ((k:Int)), .slice ai ni ci, Slc nb3 0 ns cp1, U64 bl] ++ cu8 (tkG key pv ep k l ls bl), 38, (0, 0)⟩]
  refine AF (C0 _ rfl hy1 ?_)
  refine B4 (AF (AL (CQ 109 5 [(0, .nilIface), (1, .bool true), (2, .bool true), (3, .nilIface), (4, .bool true), (5, .bool true), (6, .bool true), (7, .agg (List.toArray (α := Value) ([U64 pv, U64 ep, I64 ((k:Int)), Slc nb5 0 ni cp2, Slc nb6 0 ns cp3, U64 bl] ++ cu8 (tkG key pv ep k l ls bl)))), (9, .agg (List.toArray (α := Value) ([U64 pv, U64 ep, I64 ((k:Int)), .slice ai ni ci, Slc nb3 0 ns cp1, U64 bl] ++ cu8 (tkG key pv ep k l ls bl))))] BQ rfl (by decide +kernel) ?_)))
  refine BR ⟨[], [0, 1, 2, 3, 4, 5, 6, 7, 9], [], [0, 1, 2, 3, 4, 5, 6, 7, 9], [8]⟩ 8 _ rfl rfl (by decide +kernel) rfl ⟨⟨_, rfl, AB rfl (AD rfl)⟩, ⟨_, rfl, AB rfl (DC _ _ _ rfl rfl (fun _ => EC ..) fun _ => ER BB)⟩, ⟨_, rfl, AB rfl (AD rfl)⟩, ⟨_, rfl, BS 2 93 true _ rfl rfl rfl rfl (AD rfl)⟩, ⟨_, rfl, BS 2 93 true _ rfl rfl rfl rfl (DC _ _ _ rfl rfl (fun _ => EC ..) fun _ => ER BB)⟩, ⟨_, rfl, AB rfl (B0 _ rfl rfl rfl)⟩, ⟨_, rfl, AB rfl (AD rfl)⟩, ⟨_, rfl, BS 6 97 true _ rfl rfl rfl rfl (AK rfl (BH BE AW (by simp [(CO _ _ _ _ _ _ _)]) (MemAt.ent 4 rfl (AM _))))⟩, ⟨_, rfl, BS 6 97 true _ rfl rfl rfl rfl (AK rfl (BH DO CM (by simp [(CO _ _ _ _ _ _ _)]) (MemAt.ent 6 rfl (AM _))))⟩, trivial⟩ rfl (FD 6 97 true _ rfl rfl rfl rfl (BG 44 [.agg (List.toArray (α := Value) ([U64 pv, U64 ep, I64 ((k:Int)), Slc nb5 0 ni cp2, Slc nb6 0 ns cp3, U64 bl] ++ cu8 (tkG key pv ep k l ls bl)))] _ (A0 [.agg (List.toArray (α := Value) ([U64 pv, U64 ep, I64 ((k:Int)), Slc nb5 0 ni cp2, Slc nb6 0 ns cp3, U64 bl] ++ cu8 (tkG key pv ep k l ls bl)))] Tryd.call44 rfl) (fun w1 hw1 => docTP_c pv ep ((k:Int)) (some ⟨nb5, 0, none⟩) ni cp2 l (some ⟨nb6, 0, none⟩) ns cp3 ls bl (tkG key pv ep k l ls bl) w1 hl (by omega) (by omega) (by omega) (RdV.of hw1 (MemAt.ent 2 rfl (A2 (AM _)))) hls (by omega) (by omega) (by omega) (RdV.of hw1 (MemAt.ent 3 rfl (A2 (AM _)))) (by omega) (CO _ _ _ _ _ _ _)))) ?_
  rintro v1 L1 ⟨_, ⟨nb10, sp5, cp5, rfl, rfl, hc13, hc14, hc15⟩, rfl⟩
  refine ⟨[], ?_⟩
  show DP _ _ _ _ _ _ _ _ [_, _, _, _, _, _, _, ⟨nb10, ls.flatMap sealC ++ sp5, 164, (0, 0)⟩]
  refine BR ⟨[8], [0, 1, 2, 3, 4, 5, 6, 7, 9], [0, 1, 2, 3, 4, 5, 6, 7], [9], [10]⟩ 10 _ rfl rfl (by decide +kernel) rfl ⟨⟨_, rfl, BS 6 97 true _ rfl rfl rfl rfl (AK rfl (BH DO CM (by simp [(CO _ _ _ _ _ _ _)]) (MemAt.ent 6 rfl (AM _))))⟩, trivial⟩ rfl (FD 6 97 true _ rfl rfl rfl rfl (A3 51 [.agg (List.toArray (α := Value) ([U64 pv, U64 ep, I64 ((k:Int)), Slc nb5 0 ni cp2, Slc nb10 0 ns cp5, U64 bl] ++ cu8 (tkG key pv ep k l ls bl))), .agg (List.toArray (α := Value) ([U64 pv, U64 ep, I64 ((k:Int)), .slice ai ni ci, Slc nb3 0 ns cp1, U64 bl] ++ cu8 (tkG key pv ep k l ls bl)))] (.bool (decide (pv = pv ∧ ep = ep ∧ (tkG key pv ep k l ls bl) = (tkG key pv ep k l ls bl) ∧ ((k:Int)) = ((k:Int)) ∧ bl = bl ∧ l = l ∧ ls = ls))) (A0 [.agg (List.toArray (α := Value) ([U64 pv, U64 ep, I64 ((k:Int)), Slc nb5 0 ni cp2, Slc nb10 0 ns cp5, U64 bl] ++ cu8 (tkG key pv ep k l ls bl))), .agg (List.toArray (α := Value) ([U64 pv, U64 ep, I64 ((k:Int)), .slice ai ni ci, Slc nb3 0 ns cp1, U64 bl] ++ cu8 (tkG key pv ep k l ls bl)))] Tryd.call51 rfl) (fun w1 hw1 => rsame13_c pv ep ((k:Int)) (some ⟨nb5, 0, none⟩) ni cp2 l (some ⟨nb10, 0, none⟩) ns cp5 ls bl (tkG key pv ep k l ls bl) pv ep ((k:Int)) ai ni ci l (some ⟨nb3, 0, none⟩) ns cp1 ls bl (tkG key pv ep k l ls bl) w1 hl (by omega) (by omega) (by omega) (RdV.of hw1 (MemAt.ent 2 rfl (A2 (AM _)))) hls (by omega) (by omega) (by omega) (RdV.of hw1 (MemAt.ent 7 rfl (A2 (AM _)))) (CO _ _ _ _ _ _ _) hl (by omega) (by omega) (by omega) (C1 hw1 rfl hv) hls (by omega) (by omega) (by omega) (RdV.of hw1 (MemAt.ent 0 rfl (A2 (AM _)))) (CO _ _ _ _ _ _ _)))) ?_
  rintro v1 L1 ⟨rfl, rfl⟩
  refine ⟨[(11, .bool (decide (pv = pv ∧ ep = ep ∧ (tkG key pv ep k l ls bl) = (tkG key pv ep k l ls bl) ∧ ((k:Int)) = ((k:Int)) ∧ bl = bl ∧ l = l ∧ ls = ls))), (12, .bool (decide (pv = pv ∧ ep = ep ∧ (tkG key pv ep k l ls bl) = (tkG key pv ep k l ls bl) ∧ ((k:Int)) = ((k:Int)) ∧ bl = bl ∧ l = l ∧ ls = ls))), (13, Slc nb8 0 (tot + 16) cp4), (14, .agg (List.toArray (α := Value) ([U64 pv, U64 ep, I64 ((k:Int)), .slice ai ni ci, Slc nb3 0 ns cp1, U64 bl] ++ cu8 tg)))], ?_⟩
  show DP _ _ _ _ _ _ _ _ [_, _, _, _, _, _, _, _]
  refine BR ⟨[8, 10], [0, 1, 2, 3, 4, 5, 6, 7, 9, 11, 12, 13, 14], [0, 1, 2, 3, 4, 5, 6, 7, 9], [11, 12, 13, 14], [15]⟩ 15 _ rfl rfl (by decide +kernel) rfl ⟨⟨_, rfl, AB rfl (B0 _ rfl rfl rfl)⟩, ⟨_, rfl, AB rfl (AD rfl)⟩, ⟨_, rfl, BS 12 103 true _ rfl rfl rfl (decide_eq_true ⟨rfl, rfl, rfl, rfl, rfl, rfl, rfl⟩) (AD rfl)⟩, ⟨_, rfl, BS 12 103 true _ rfl rfl rfl (decide_eq_true ⟨rfl, rfl, rfl, rfl, rfl, rfl, rfl⟩) (AK rfl (BH DO CM (by simp [htg]) (MemAt.ent 1 rfl (AM _))))⟩, trivial⟩ rfl (FD 12 103 true _ rfl rfl rfl (decide_eq_true ⟨rfl, rfl, rfl, rfl, rfl, rfl, rfl⟩) (BG 52 [.agg (List.toArray (α := Value) ([U64 pv, U64 ep, I64 ((k:Int)), .slice ai ni ci, Slc nb3 0 ns cp1, U64 bl] ++ cu8 tg))] _ (A0 [.agg (List.toArray (α := Value) ([U64 pv, U64 ep, I64 ((k:Int)), .slice ai ni ci, Slc nb3 0 ns cp1, U64 bl] ++ cu8 tg))] Tryd.call52 rfl) (fun w1 hw1 => rput13_c pv ep k ai ni ci l (some ⟨nb3, 0, none⟩) ns cp1 ls bl tg tot w1 hl (by omega) (by omega) (by omega) (C1 hw1 rfl hv) hls (by omega) (by omega) (by omega) (RdV.of hw1 (MemAt.ent 0 rfl (A2 (AM _)))) htg hmay (by omega) (by omega) htot (by omega)))) ?_
  rintro v1 L1 ⟨_, ⟨nb11, sp6, cp6, rfl, rfl, hc16, hc17, hc18⟩, rfl⟩
  refine ⟨[], ?_⟩
  show DP _ _ _ _ _ _ _ _ [_, _, _, _, _, _, _, _, ⟨nb11, cu8 ((tktT pv ep k l ls bl) ++ tg) ++ sp6, 5, (0, 0)⟩]
  refine BR ⟨[8, 10, 15], [0, 1, 2, 3, 4, 5, 6, 7, 9, 11, 12, 13, 14], [0, 1, 2, 3, 4, 5, 6, 7, 9, 11, 12, 14], [13], [16]⟩ 16 _ rfl rfl (by decide +kernel) rfl ⟨⟨_, rfl, BS 12 103 true _ rfl rfl rfl (decide_eq_true ⟨rfl, rfl, rfl, rfl, rfl, rfl, rfl⟩) (AD rfl)⟩, trivial⟩ rfl (FD 12 103 true _ rfl rfl rfl (decide_eq_true ⟨rfl, rfl, rfl, rfl, rfl, rfl, rfl⟩) (A3 24 [Slc nb8 0 (tot + 16) cp4, Slc nb11 0 (tot + 16) cp6] (.bool (decide (((tktT pv ep k l ls bl) ++ tg) = ((tktT pv ep k l ls bl) ++ tg)))) (A0 [Slc nb8 0 (tot + 16) cp4, Slc nb11 0 (tot + 16) cp6] Tryd.call24 rfl) (fun w1 hw1 => bytes_c (some ⟨nb8, 0, none⟩) (some ⟨nb11, 0, none⟩) (tot + 16) (tot + 16) cp4 cp6 ((tktT pv ep k l ls bl) ++ tg) ((tktT pv ep k l ls bl) ++ tg) w1 (show ((tktT pv ep k l ls bl) ++ tg).length = (tot + 16) from (by rw [List.length_append, ((D5 hl hls).trans htot), htg])) (show ((tktT pv ep k l ls bl) ++ tg).length = (tot + 16) from (by rw [List.length_append, ((D5 hl hls).trans htot), htg])) (RdB.of hw1 (MemAt.ent 5 rfl (A2 (AM _))) (by simp)) (RdB.of hw1 (MemAt.ent 8 rfl (A2 (AM _))) (by simp))))) ?_
  rintro v1 L1 ⟨rfl, rfl⟩
  refine ⟨[(17, .bool (decide (((tktT pv ep k l ls bl) ++ tg) = ((tktT pv ep k l ls bl) ++ tg)))), (18, .bool (decide (((tktT pv ep k l ls bl) ++ tg) = ((tktT pv ep k l ls bl) ++ tg))))], ?_⟩
  show DP _ _ _ _ _ _ _ _ [_, _, _, _, _, _, _, _, _]
  refine CZ ⟨[8, 10, 15, 16], [0, 1, 2, 3, 4, 5, 6, 7, 9, 11, 12, 13, 14, 17, 18], [0, 1, 2, 3, 4, 5, 6, 7, 9, 11, 12, 13, 14], [17, 18], []⟩ rfl rfl (by decide +kernel) rfl ⟨⟨_, rfl, AB rfl (B0 _ rfl (decide_eq_true ⟨rfl, rfl, rfl, rfl, rfl, rfl, rfl⟩) rfl)⟩, ⟨_, rfl, AB rfl (AH rfl)⟩, trivial⟩ ?_
  refine CC (F' := [(4, .bool (decide (((tktT pv ep k l ls bl) ++ tg) = ((tktT pv ep k l ls bl) ++ tg))))]) (by kernel_rfl) ?_
  refine AF (BO (B8 [false, false, false, false, false, false, false, false, false] ?_))
  show JQ _ _ _ _ []
  refine BP (.bool (decide (((tktT pv ep k l ls bl) ++ tg) = ((tktT pv ep k l ls bl) ++ tg)))) (res1 Tryd.results9 (BT rfl)) fun w1 hw1 => ?_
  exact ⟨_, [], rfl, ⟨by rw [show (decide (((tktT pv ep k l ls bl) ++ tg) = ((tktT pv ep k l ls bl) ++ tg))) = true from (decide_eq_true rfl)], rfl⟩, hw1.sub (by simp) (by simp)⟩
theorem ts2_c (key : List UInt8) (pv ep : UInt64) (k : Nat) (ai : Option Addr) (ni ci : Nat) (l : List UInt64) (sa : Option Addr) (sc : Nat) (bl : UInt64) (tg : List UInt8) (tot : Nat)  (w : World) (hk32 : key.length = 32) (hl : l.length = ni) (hnm : ni ≤ 2000000) (hnc : ni ≤ ci) (hcm : ci ≤ maxLen) (hv : RdV w ai (cu64 l)) (hcs : sc ≤ maxLen) (hnS : sa = none → sc = 0) (htg : tg.length = 16) (hp1 : 0 < ni) (hG : GLs w) (hGr : GLr w) (hGi : GLi w) (hmay : mayN pv ep (k:Int) l ([] : List SealR) bl = 0) (hk : k = 2) (htot : tktN k ni 0 = tot) (htb : tot ≤ 30000) (hnb : ni ≤ 300) (hlg : ¬ LargeP ni 0)  : Calls Tryd.prog 9 #[.agg (cu8 key).toArray, .agg (List.toArray (α := Value) ([U64 pv, U64 ep, I64 ((k:Int)), .slice ai ni ci, .slice sa 0 sc, U64 bl] ++ cu8 tg))] w (Post w [] (fun v L => v = .bool true ∧ L = [])) := by
 have hmx : maxLen = 9223372036854775807 := rfl
 refine enter (P := Tryd.prog) (f := 9) (fn := Tryd.f9) w [] 109 [] [.agg (cu8 key).toArray, .agg (List.toArray (α := Value) ([U64 pv, U64 ep, I64 ((k:Int)), .slice ai ni ci, .slice sa 0 sc, U64 bl] ++ cu8 tg))] Tryd.func9 rfl rfl (by simp) (B7 (by simp) (by simp) (by simp)) ?_
 show JC _ _ _ [(0, .agg (cu8 key).toArray), (1, .agg (List.toArray (α := Value) ([U64 pv, U64 ep, I64 ((k:Int)), .slice ai ni ci, .slice sa 0 sc, U64 bl] ++ cu8 tg)))] _
 refine AL (AE (AR (CN (.agg (cu8 key).toArray) (cu8 key) rfl (by first | rfl | simp)) rfl ?_))
 rintro v1 L1 ⟨nb1, hnb1, rfl, rfl⟩
 show JL _ _ _ _ ((2, Ptr nb1 0) :: _) [⟨nb1, cu8 key, 54, (0, 0)⟩]
 refine AR (CN (.agg (List.toArray (α := Value) ([U64 pv, U64 ep, I64 ((k:Int)), .slice ai ni ci, .slice sa 0 sc, U64 bl] ++ cu8 tg))) ([U64 pv, U64 ep, I64 ((k:Int)), .slice ai ni ci, .slice sa 0 sc, U64 bl] ++ cu8 tg) rfl (by first | rfl | simp)) rfl ?_
 rintro v1 L1 ⟨nb2, hnb2, rfl, rfl⟩
 show JL _ _ _ _ ((3, Ptr nb2 0) :: _) [_, ⟨nb2, [U64 pv, U64 ep, I64 ((k:Int)), .slice ai ni ci, .slice sa 0 sc, U64 bl] ++ cu8 tg, 29, (0, 0)⟩]
 refine AA _ (AH rfl) rfl ?_
 refine AN (AF (AL (AL (AE (AR (A3 43 [] (.bool true) (A0 [] Tryd.call43 rfl) (fun w1 hw1 => alive13_c  w1 (hG.at hw1))) rfl ?_)))))
 rintro v1 L1 ⟨rfl, rfl⟩
 show JL _ _ _ _ ((13, .bool true) :: _) [_, _]
 refine AA (.bool (!true)) (FK rfl) rfl ?_
 refine AN (AF (C0 _ rfl rfl ?_))
 refine B4 (AF (AL (AL (AE (AA (Ptr nb2 2) (AC 2 26 4 AS rfl BI rfl rfl) rfl ?_)))))
 refine AA (.agg (List.toArray (α := Value) ([I64 ((k:Int)), .slice ai ni ci, .slice sa 0 sc, U64 bl]))) (AK rfl (BH DE BI rfl (MemAt.ent 1 rfl (D9 (p := [U64 pv, U64 ep]) (q := cu8 tg) (vs := [I64 ((k:Int)), .slice ai ni ci, .slice sa 0 sc, U64 bl]) (by first | rfl | (simp only [List.append_assoc, List.nil_append, List.append_nil, List.cons_append]; done)) rfl)))) rfl ?_
 refine AR (A3 18 [.agg (List.toArray (α := Value) ([I64 ((k:Int)), .slice ai ni ci, .slice sa 0 sc, U64 bl]))] (.bool (decide (LargeP ni 0))) (A0 [.agg (List.toArray (α := Value) ([I64 ((k:Int)), .slice ai ni ci, .slice sa 0 sc, U64 bl]))] Tryd.call18 rfl) (fun w1 hw1 => large_c ((k:Int)) ai ni ci l sa 0 sc ([] : List SealR) bl w1 )) rfl ?_
 rintro v1 L1 ⟨rfl, rfl⟩
 show JL _ _ _ _ ((17, .bool (decide (LargeP ni 0))) :: _) [_, _]
 refine AN (AF (C0 _ rfl (decide_eq_false hlg) ?_))
 refine B4 (AF (AL (AE (AA (.agg (List.toArray (α := Value) ([U64 pv, U64 ep, I64 ((k:Int)), .slice ai ni ci, .slice sa 0 sc, U64 bl] ++ cu8 tg))) (AK rfl (BH BE AW (by simp [htg]) (MemAt.ent 1 rfl (AM _)))) rfl ?_))))
 refine AR (A3 44 [.agg (List.toArray (α := Value) ([U64 pv, U64 ep, I64 ((k:Int)), .slice ai ni ci, .slice sa 0 sc, U64 bl] ++ cu8 tg))] (.agg (List.toArray (α := Value) ([U64 pv, U64 ep, I64 ((k:Int)), .slice ai ni ci, .slice none 0 0, U64 bl] ++ cu8 tg))) (A0 [.agg (List.toArray (α := Value) ([U64 pv, U64 ep, I64 ((k:Int)), .slice ai ni ci, .slice sa 0 sc, U64 bl] ++ cu8 tg))] Tryd.call44 rfl) (fun w1 hw1 => docTZ_c pv ep ((k:Int)) ai ni ci l sa sc bl tg w1 hl (by omega) (by omega) (by omega) (C1 hw1 rfl hv) (by omega) hnS htg)) rfl ?_
 rintro v1 L1 ⟨rfl, rfl⟩
 show JL _ _ _ _ ((19, .agg (List.toArray (α := Value) ([U64 pv, U64 ep, I64 ((k:Int)), .slice ai ni ci, .slice none 0 0, U64 bl] ++ cu8 tg))) :: _) [_, _]
 refine AR (BJ _ ([U64 (0:UInt64), U64 (0:UInt64), I64 (0:Int), .slice none 0 0, .slice none 0 0, U64 (0:UInt64)] ++ cu8 (zr8 16)) ET (by kernel_rfl)) rfl ?_
 rintro v1 L1 ⟨nb3, hnb3, rfl, rfl⟩
 show JL _ _ _ _ ((5, Ptr nb3 0) :: _) [_, _, ⟨nb3, [U64 (0:UInt64), U64 (0:UInt64), I64 (0:Int), .slice none 0 0, .slice none 0 0, U64 (0:UInt64)] ++ cu8 (zr8 16), 38, (0, 0)⟩]
 refine AR (A6 2 nb3 0 22 ([U64 (0:UInt64), U64 (0:UInt64), I64 (0:Int), .slice none 0 0, .slice none 0 0, U64 (0:UInt64)] ++ cu8 (zr8 16)) 38 (.agg (List.toArray (α := Value) ([U64 pv, U64 ep, I64 ((k:Int)), .slice ai ni ci, .slice none 0 0, U64 bl] ++ cu8 tg))) ([U64 pv, U64 ep, I64 ((k:Int)), .slice ai ni ci, .slice none 0 0, U64 bl] ++ cu8 tg) ([U64 pv, U64 ep, I64 ((k:Int)), .slice ai ni ci, .slice none 0 0, U64 bl] ++ cu8 tg) rfl rfl rfl (by first | rfl | simp) CM (by simp [htg]) (DA (by simp [Value.oneCell']) CK) (by simp [(AP 16)]) (BF (by simp [(AP 16), htg]))) rfl ?_
 rintro v1 L1 ⟨rfl, rfl⟩
 show JL _ _ _ _ _ [_, _, ⟨nb3, [U64 pv, U64 ep, I64 ((k:Int)), .slice ai ni ci, .slice none 0 0, U64 bl] ++ cu8 tg, 38, (0, 0)⟩]
 refine AN (AF (AL (AE (AA (.agg (List.toArray (α := Value) ([U64 pv, U64 ep, I64 ((k:Int)), .slice ai ni ci, .slice none 0 0, U64 bl] ++ cu8 tg))) (AK rfl (BH DO CM (by simp [htg]) (MemAt.ent 2 rfl (AM _)))) rfl ?_))))
 refine AR (A3 45 [.agg (List.toArray (α := Value) ([U64 pv, U64 ep, I64 ((k:Int)), .slice ai ni ci, .slice none 0 0, U64 bl] ++ cu8 tg))] (I64 (((mayN pv ep ((k:Int)) l ([] : List SealR) bl):Int))) (A0 [.agg (List.toArray (α := Value) ([U64 pv, U64 ep, I64 ((k:Int)), .slice ai ni ci, .slice none 0 0, U64 bl] ++ cu8 tg))] Tryd.call45 rfl) (fun w1 hw1 => rmay13_c pv ep ((k:Int)) ai ni ci l none 0 0 ([] : List SealR) bl tg w1 hl (by omega) (by omega) (by omega) (C1 hw1 rfl hv) rfl (by omega) (by omega) (by omega) RdV.nil htg)) rfl ?_
 rintro v1 L1 ⟨rfl, rfl⟩
 show JL _ _ _ _ ((21, I64 (((mayN pv ep ((k:Int)) l ([] : List SealR) bl):Int))) :: _) [_, _, _]
 refine AA _ (AH rfl) rfl ?_
 refine AN (AF (AL (AE (AA (.agg (cu8 key).toArray) (AK rfl (BH D0 CD (CG hk32) (MemAt.ent 0 rfl (AM _)))) rfl ?_))))
 refine AA (Ptr nb2 0) (AC 0 22 1 AS rfl AT rfl rfl) rfl ?_
 refine AA (U64 pv) (AK rfl (AV AU (MemAt.ent 1 rfl (A2 (Seg.head))))) rfl ?_
 refine AA (Ptr nb2 1) (AC 1 22 1 AS rfl AT rfl rfl) rfl ?_
 refine AA (U64 ep) (AK rfl (AV AU (MemAt.ent 1 rfl (A2 (AJ (Seg.head)))))) rfl ?_
 refine AA (Ptr nb2 2) (AC 2 26 4 AS rfl BI rfl rfl) rfl ?_
 refine AA (.agg (List.toArray (α := Value) ([I64 ((k:Int)), .slice ai ni ci, .slice sa 0 sc, U64 bl]))) (AK rfl (BH DE BI rfl (MemAt.ent 1 rfl (D9 (p := [U64 pv, U64 ep]) (q := cu8 tg) (vs := [I64 ((k:Int)), .slice ai ni ci, .slice sa 0 sc, U64 bl]) (by first | rfl | (simp only [List.append_assoc, List.nil_append, List.append_nil, List.cons_append]; done)) rfl)))) rfl ?_
 refine AR (BG 46 [.agg (cu8 key).toArray, U64 pv, U64 ep, .agg (List.toArray (α := Value) ([I64 ((k:Int)), .slice ai ni ci, .slice sa 0 sc, U64 bl]))] _ (A0 [.agg (cu8 key).toArray, U64 pv, U64 ep, .agg (List.toArray (α := Value) ([I64 ((k:Int)), .slice ai ni ci, .slice sa 0 sc, U64 bl]))] Tryd.call46 rfl) (fun w1 hw1 => sign2_c key pv ep k ai ni ci l sa sc bl tot w1 hk32 hl (by omega) (by omega) (by omega) (C1 hw1 rfl hv) (by omega) hnS (by omega) hmay (by omega) htot (by omega) (by omega) (hG.at hw1))) rfl ?_
 rintro v1 L1 ⟨_, ⟨nb4, sp1, cp1, ao1, ca1, rfl, rfl, hc1, hc2, hc3, hc4, hc5⟩, rfl⟩
 show JL _ _ _ _ ((30, .tuple #[.agg (List.toArray (α := Value) ([U64 pv, U64 ep, I64 ((k:Int)), Slc nb4 0 ni cp1, .slice ao1 0 ca1, U64 bl] ++ cu8 (tkG key pv ep k l ([] : List SealR) bl))), .nilIface]) :: _) [_, _, _, ⟨nb4, cu64 l ++ sp1, 22, (0, 0)⟩]
 refine AA _ (AD rfl) rfl ?_
 refine AA _ (BN rfl rfl) rfl ?_
 refine AA _ (BN rfl rfl) rfl ?_
 refine AR (BJ _ ([U64 (0:UInt64), U64 (0:UInt64), I64 (0:Int), .slice none 0 0, .slice none 0 0, U64 (0:UInt64)] ++ cu8 (zr8 16)) B9 (by kernel_rfl)) rfl ?_
 rintro v1 L1 ⟨nb5, hnb5, rfl, rfl⟩
 show JL _ _ _ _ ((7, Ptr nb5 0) :: _) [_, _, _, _, ⟨nb5, [U64 (0:UInt64), U64 (0:UInt64), I64 (0:Int), .slice none 0 0, .slice none 0 0, U64 (0:UInt64)] ++ cu8 (zr8 16), 29, (0, 0)⟩]
 refine AR (A6 4 nb5 0 22 ([U64 (0:UInt64), U64 (0:UInt64), I64 (0:Int), .slice none 0 0, .slice none 0 0, U64 (0:UInt64)] ++ cu8 (zr8 16)) 29 (.agg (List.toArray (α := Value) ([U64 pv, U64 ep, I64 ((k:Int)), Slc nb4 0 ni cp1, .slice ao1 0 ca1, U64 bl] ++ cu8 (tkG key pv ep k l ([] : List SealR) bl)))) ([U64 pv, U64 ep, I64 ((k:Int)), Slc nb4 0 ni cp1, .slice ao1 0 ca1, U64 bl] ++ cu8 (tkG key pv ep k l ([] : List SealR) bl)) ([U64 pv, U64 ep, I64 ((k:Int)), Slc nb4 0 ni cp1, .slice ao1 0 ca1, U64 bl] ++ cu8 (tkG key pv ep k l ([] : List SealR) bl)) rfl rfl rfl (by first | rfl | simp) AW (by simp [(CO _ _ _ _ _ _ _)]) (DA (by simp [Value.oneCell']) CK) (by simp [(AP 16)]) (BF (by simp [(AP 16), (CO _ _ _ _ _ _ _)]))) rfl ?_
 rintro v1 L1 ⟨rfl, rfl⟩
 show JL _ _ _ _ _ [_, _, _, _, ⟨nb5, [U64 pv, U64 ep, I64 ((k:Int)), Slc nb4 0 ni cp1, .slice ao1 0 ca1, U64 bl] ++ cu8 (tkG key pv ep k l ([] : List SealR) bl), 29, (0, 0)⟩]
 refine AA _ (AH rfl) rfl ?_
 refine AN (AF (AL (AE (AA (.agg (List.toArray (α := Value) ([U64 pv, U64 ep, I64 ((k:Int)), .slice ai ni ci, .slice sa 0 sc, U64 bl] ++ cu8 tg))) (AK rfl (BH BE AW (by simp [htg]) (MemAt.ent 1 rfl (AM _)))) rfl ?_))))
 refine AR (BG 47 [.agg (List.toArray (α := Value) ([U64 pv, U64 ep, I64 ((k:Int)), .slice ai ni ci, .slice sa 0 sc, U64 bl] ++ cu8 tg))] _ (A0 [.agg (List.toArray (α := Value) ([U64 pv, U64 ep, I64 ((k:Int)), .slice ai ni ci, .slice sa 0 sc, U64 bl] ++ cu8 tg))] Tryd.call47 rfl) (fun w1 hw1 => put13_c pv ep k ai ni ci l sa 0 sc ([] : List SealR) bl tg tot w1 hl (by omega) (by omega) (by omega) (C1 hw1 rfl hv) rfl (by omega) (by omega) (by omega) RdV.nil htg hmay (by omega) (by omega) htot (by omega))) rfl ?_
 rintro v1 L1 ⟨_, ⟨nb6, sp2, cp2, rfl, rfl, hc6, hc7, hc8⟩, rfl⟩
 show JL _ _ _ _ ((35, .tuple #[Slc nb6 0 (tot + 16) cp2, .nilIface]) :: _) [_, _, _, _, _, ⟨nb6, cu8 ((tktT pv ep k l ([] : List SealR) bl) ++ tg) ++ sp2, 5, (0, 0)⟩]
 refine AA _ (AD rfl) rfl ?_
 refine AA _ (BN rfl rfl) rfl ?_
 refine AA _ (BN rfl rfl) rfl ?_
 refine AA _ (AH rfl) rfl ?_
 refine AA _ (AH rfl) rfl ?_
 refine AN (AF (AL (AE (AA (.agg (cu8 key).toArray) (AK rfl (BH D0 CD (CG hk32) (MemAt.ent 0 rfl (AM _)))) rfl ?_))))
 refine AA (.agg (List.toArray (α := Value) ([U64 pv, U64 ep, I64 ((k:Int)), .slice ai ni ci, .slice sa 0 sc, U64 bl] ++ cu8 tg))) (AK rfl (BH BE AW (by simp [htg]) (MemAt.ent 1 rfl (AM _)))) rfl ?_
 refine AR (A3 48 [.agg (cu8 key).toArray, .agg (List.toArray (α := Value) ([U64 pv, U64 ep, I64 ((k:Int)), .slice ai ni ci, .slice sa 0 sc, U64 bl] ++ cu8 tg))] (errV 50 (chkG key pv ep k l ([] : List SealR) bl tg)) (A0 [.agg (cu8 key).toArray, .agg (List.toArray (α := Value) ([U64 pv, U64 ep, I64 ((k:Int)), .slice ai ni ci, .slice sa 0 sc, U64 bl] ++ cu8 tg))] Tryd.call48 rfl) (fun w1 hw1 => chk_w key pv ep k ai ni ci l sa 0 sc ([] : List SealR) bl tg tot w1 hk32 hl (by omega) (by omega) (by omega) (C1 hw1 rfl hv) rfl (by omega) (by omega) (by omega) RdV.nil htg hmay (by omega) (by omega) htot (by omega) (hG.at hw1))) rfl ?_
 rintro v1 L1 ⟨rfl, rfl⟩
 show JL _ _ _ _ ((40, errV 50 (chkG key pv ep k l ([] : List SealR) bl tg)) :: _) [_, _, _, _, _, _]
 refine AA _ (AH rfl) rfl ?_
 refine AN (AF (AL (AL (AE (AA _ (AD rfl) rfl ?_)))))
 refine AA (.bool (decide ((((mayN pv ep ((k:Int)) l ([] : List SealR) bl):Int)) ≠ (0:Int)))) (AQ rfl rfl fun _ => E8 _ _) rfl ?_
 refine AN (AF (C0 _ rfl (decide_eq_false (by omega)) ?_))
 refine B4 (AF (AL (AE (AA (.agg (List.toArray (α := Value) ([U64 pv, U64 ep, I64 ((k:Int)), .slice ai ni ci, .slice none 0 0, U64 bl] ++ cu8 tg))) (AK rfl (BH DO CM (by simp [htg]) (MemAt.ent 2 rfl (AM _)))) rfl ?_))))
 refine AR (BJ _ ([U64 (0:UInt64), U64 (0:UInt64), I64 (0:Int), .slice none 0 0, .slice none 0 0, U64 (0:UInt64)] ++ cu8 (zr8 16)) ET (by kernel_rfl)) rfl ?_
 rintro v1 L1 ⟨nb7, hnb7, rfl, rfl⟩
 show JL _ _ _ _ ((12, Ptr nb7 0) :: _) [_, _, _, _, _, _, ⟨nb7, [U64 (0:UInt64), U64 (0:UInt64), I64 (0:Int), .slice none 0 0, .slice none 0 0, U64 (0:UInt64)] ++ cu8 (zr8 16), 38, (0, 0)⟩]
 refine AR (A6 6 nb7 0 22 ([U64 (0:UInt64), U64 (0:UInt64), I64 (0:Int), .slice none 0 0, .slice none 0 0, U64 (0:UInt64)] ++ cu8 (zr8 16)) 38 (.agg (List.toArray (α := Value) ([U64 pv, U64 ep, I64 ((k:Int)), .slice ai ni ci, .slice none 0 0, U64 bl] ++ cu8 tg))) ([U64 pv, U64 ep, I64 ((k:Int)), .slice ai ni ci, .slice none 0 0, U64 bl] ++ cu8 tg) ([U64 pv, U64 ep, I64 ((k:Int)), .slice ai ni ci, .slice none 0 0, U64 bl] ++ cu8 tg) rfl rfl rfl (by first | rfl | simp) CM (by simp [htg]) (DA (by simp [Value.oneCell']) CK) (by simp [(AP 16)]) (BF (by simp [(AP 16), htg]))) rfl ?_
 rintro v1 L1 ⟨rfl, rfl⟩
 show JL _ _ _ _ _ [_, _, _, _, _, _, ⟨nb7, [U64 pv, U64 ep, I64 ((k:Int)), .slice ai ni ci, .slice none 0 0, U64 bl] ++ cu8 tg, 38, (0, 0)⟩]
 refine AN (AF (AL (AE (AA (.agg (cu8 key).toArray) (AK rfl (BH D0 CD (CG hk32) (MemAt.ent 0 rfl (AM _)))) rfl ?_))))
 refine AA (.agg (List.toArray (α := Value) ([U64 pv, U64 ep, I64 ((k:Int)), .slice ai ni ci, .slice none 0 0, U64 bl] ++ cu8 tg))) (AK rfl (BH DO CM (by simp [htg]) (MemAt.ent 2 rfl (AM _)))) rfl ?_
 refine AR (A3 50 [.agg (cu8 key).toArray, .agg (List.toArray (α := Value) ([U64 pv, U64 ep, I64 ((k:Int)), .slice ai ni ci, .slice none 0 0, U64 bl] ++ cu8 tg))] (.agg (cu8 (tkG key pv ep k l ([] : List SealR) bl)).toArray) (A0 [.agg (cu8 key).toArray, .agg (List.toArray (α := Value) ([U64 pv, U64 ep, I64 ((k:Int)), .slice ai ni ci, .slice none 0 0, U64 bl] ++ cu8 tg))] Tryd.call50 rfl) (fun w1 hw1 => rtag_c key pv ep k ai ni ci l none 0 0 ([] : List SealR) bl tg tot w1 hk32 hl (by omega) (by omega) (by omega) (C1 hw1 rfl hv) rfl (by omega) (by omega) (by omega) RdV.nil htg hmay (by omega) (by omega) htot (by omega) (GLr.at hw1 hGr) (GLi.at hw1 hGi))) rfl ?_
 rintro v1 L1 ⟨rfl, rfl⟩
 show JL _ _ _ _ ((72, .agg (cu8 (tkG key pv ep k l ([] : List SealR) bl)).toArray) :: _) [_, _, _, _, _, _, _]
 refine AA (Ptr nb7 6) (AC 6 27 16 A4 rfl A1 rfl rfl) rfl ?_
 refine AR (A6 6 nb7 6 16 ([U64 pv, U64 ep, I64 ((k:Int)), .slice ai ni ci, .slice none 0 0, U64 bl] ++ cu8 tg) 38 (.agg (cu8 (tkG key pv ep k l ([] : List SealR) bl)).toArray) (cu8 (tkG key pv ep k l ([] : List SealR) bl)) ([U64 pv, U64 ep, I64 ((k:Int)), .slice ai ni ci, .slice none 0 0, U64 bl] ++ cu8 (tkG key pv ep k l ([] : List SealR) bl)) rfl rfl rfl (by first | rfl | simp) A1 (CG (CO _ _ _ _ _ _ _)) (by first | exact CK | exact DW | exact DT | (simp [cu8, cu32, cu64, Value.oneCell']; done)) (by simp [htg]) (FQ 6 0 rfl rfl (BF (by simp [htg, (CO _ _ _ _ _ _ _)])))) rfl ?_
 rintro v1 L1 ⟨rfl, rfl⟩
 show JL _ _ _ _ _ [_, _, _, _, _, _, ⟨nb7, [U64 pv, U64 ep, I64 ((k:Int)), .slice ai ni ci, .slice none 0 0, U64 bl] ++ cu8 (tkG key pv ep k l ([] : List SealR) bl), 38, (0, 0)⟩]
 refine AN (AF (AL (AL (JC_cut (ι := Bool) (fun yb0 => [(4, .bool false), (5, Ptr nb3 0), (7, Ptr nb5 0), (8, .nilIface), (9, Slc nb6 0 (tot + 16) cp2), (10, .nilIface), (12, Ptr nb7 0), (90, .bool yb0)]) (fun yb0 => [⟨nb3, [U64 pv, U64 ep, I64 ((k:Int)), .slice ai ni ci, .slice none 0 0, U64 bl] ++ cu8 tg, 38, (0, 0)⟩, ⟨nb4, cu64 l ++ sp1, 22, (0, 0)⟩, ⟨nb5, [U64 pv, U64 ep, I64 ((k:Int)), Slc nb4 0 ni cp1, .slice ao1 0 ca1, U64 bl] ++ cu8 (tkG key pv ep k l ([] : List SealR) bl), 29, (0, 0)⟩, ⟨nb6, cu8 ((tktT pv ep k l ([] : List SealR) bl) ++ tg) ++ sp2, 5, (0, 0)⟩, ⟨nb7, [U64 pv, U64 ep, I64 ((k:Int)), .slice ai ni ci, .slice none 0 0, U64 bl] ++ cu8 (tkG key pv ep k l ([] : List SealR) bl), 38, (0, 0)⟩]) (fun yb0 => yb0 = false) ?_ ?_))))
 ·
  rcases Bool.eq_false_or_eq_true (decide (chkG key pv ep k l ([] : List SealR) bl tg = 0)) with hb1 | hb1
  ·
   have hp1 : chkG key pv ep k l ([] : List SealR) bl tg = 0 := of_decide_eq_true hb1
   refine CQ 109 2 [(0, errV 50 (chkG key pv ep k l ([] : List SealR) bl tg)), (1, .bool (decide (chkG key pv ep k l ([] : List SealR) bl tg = 0))), (2, Ptr nb7 6), (3, .agg (cu8 (tkG key pv ep k l ([] : List SealR) bl)).toArray), (4, Ptr nb3 6), (5, .agg (cu8 tg).toArray), (6, .bool (decide ((tkG key pv ep k l ([] : List SealR) bl) = tg))), (7, .bool (!((decide (chkG key pv ep k l ([] : List SealR) bl tg = 0)) == (decide ((tkG key pv ep k l ([] : List SealR) bl) = tg))))), (8, .bool (!((decide (chkG key pv ep k l ([] : List SealR) bl tg = 0)) == (decide ((tkG key pv ep k l ([] : List SealR) bl) = tg))))), (9, errV 50 (chkG key pv ep k l ([] : List SealR) bl tg)), (10, .bool (!(decide (chkG key pv ep k l ([] : List SealR) bl tg = 0)))), (11, .bool (!(decide (chkG key pv ep k l ([] : List SealR) bl tg = 0)))), (12, undef), (13, undef), (14, undef), (15, .bool false), (16, .bool false)] BQ rfl (by decide +kernel) ?_
   refine CZ ⟨[], [0, 1, 2, 3, 4, 5, 6, 7, 8, 9, 10, 11, 12, 13, 14, 15, 16], [], [0, 1, 2, 3, 4, 5, 6, 7, 8, 9, 10, 11, 12, 13, 14, 15, 16], []⟩ rfl rfl (by decide +kernel) rfl ⟨⟨_, rfl, AB rfl (AD rfl)⟩, ⟨_, rfl, AB rfl (DC _ _ _ rfl rfl (fun _ => C5 ..) fun _ => eql_errV BB _ _)⟩, ⟨_, rfl, AB rfl (AC 6 27 16 A4 rfl A1 rfl rfl)⟩, ⟨_, rfl, AB rfl (AK rfl (BH C2 A1 (CG (CO _ _ _ _ _ _ _)) (MemAt.ent 6 rfl (Seg.right 6 0 rfl rfl (AM _)))))⟩, ⟨_, rfl, AB rfl (AC 6 27 16 A4 rfl A1 rfl rfl)⟩, ⟨_, rfl, AB rfl (AK rfl (BH C2 A1 (CG htg) (MemAt.ent 2 rfl (Seg.right 6 0 rfl rfl (AM _)))))⟩, ⟨_, rfl, AB rfl (DC _ _ _ rfl rfl (fun _ => E9 _ _ _ _ _ _ (by kernel_rfl)) fun _ => eql_arr8 BC BY DU E1 FO (by simp [(CO _ _ _ _ _ _ _)]) (by simp [htg]))⟩, ⟨_, rfl, AB rfl (DC _ _ _ rfl rfl (fun _ => F2 ..) fun _ => neq_bool Tryd.underlying4)⟩, ⟨_, rfl, AB rfl (AD rfl)⟩, ⟨_, rfl, BS 8 82 false _ rfl rfl rfl (by rw [show ((decide (chkG key pv ep k l ([] : List SealR) bl tg = 0)) == (decide ((tkG key pv ep k l ([] : List SealR) bl) = tg))) = true from (FE _ _ _ _ _ _ _ _)] <;> rfl) (AD rfl)⟩, ⟨_, rfl, BS 8 82 false _ rfl rfl rfl (by rw [show ((decide (chkG key pv ep k l ([] : List SealR) bl tg = 0)) == (decide ((tkG key pv ep k l ([] : List SealR) bl) = tg))) = true from (FE _ _ _ _ _ _ _ _)] <;> rfl) (DC _ _ _ rfl rfl (fun _ => C5 ..) fun _ => EW BB _ _)⟩, ⟨_, rfl, BS 8 82 false _ rfl rfl rfl (by rw [show ((decide (chkG key pv ep k l ([] : List SealR) bl tg = 0)) == (decide ((tkG key pv ep k l ([] : List SealR) bl) = tg))) = true from (FE _ _ _ _ _ _ _ _)] <;> rfl) (AD rfl)⟩, ⟨_, rfl, CH 11 85 true _ rfl rfl rfl (by rw [show (decide (chkG key pv ep k l ([] : List SealR) bl tg = 0)) = true from hb1] <;> rfl)⟩, ⟨_, rfl, CH 11 85 true _ rfl rfl rfl (by rw [show (decide (chkG key pv ep k l ([] : List SealR) bl tg = 0)) = true from hb1] <;> rfl)⟩, ⟨_, rfl, CH 11 85 true _ rfl rfl rfl (by rw [show (decide (chkG key pv ep k l ([] : List SealR) bl tg = 0)) = true from hb1] <;> rfl)⟩, ⟨_, rfl, BS 8 82 false _ rfl rfl rfl (by rw [show ((decide (chkG key pv ep k l ([] : List SealR) bl tg = 0)) == (decide ((tkG key pv ep k l ([] : List SealR) bl) = tg))) = true from (FE _ _ _ _ _ _ _ _)] <;> rfl) (BM _ rfl (by rw [show (decide (chkG key pv ep k l ([] : List SealR) bl tg = 0)) = true from hb1] <;> rfl) rfl)⟩, ⟨_, rfl, AB rfl (BM _ rfl (by rw [show ((decide (chkG key pv ep k l ([] : List SealR) bl tg = 0)) == (decide ((tkG key pv ep k l ([] : List SealR) bl) = tg))) = true from (FE _ _ _ _ _ _ _ _)] <;> rfl) rfl)⟩, trivial⟩ ?_
   refine CC (F' := [(90, .bool false), (4, .bool false), (5, Ptr nb3 0), (7, Ptr nb5 0), (8, .nilIface), (9, Slc nb6 0 (tot + 16) cp2), (10, .nilIface), (12, Ptr nb7 0)]) (by kernel_rfl) ?_
   refine K_pick [2, 3, 4, 5, 6] (by decide) ?_
   show JQ _ _ _ _ [_, _, _, _, _]
   refine JQ_cut false rfl (Sub.cons rfl (Sub.cons rfl (Sub.cons rfl (Sub.cons rfl (Sub.cons rfl (Sub.cons rfl (Sub.cons rfl (Sub.cons rfl (Sub.nil))))))))) rfl
  ·
   have hp1 : ¬ (chkG key pv ep k l ([] : List SealR) bl tg = 0) := of_decide_eq_false hb1
   refine CQ 109 2 [(0, errV 50 (chkG key pv ep k l ([] : List SealR) bl tg)), (1, .bool (decide (chkG key pv ep k l ([] : List SealR) bl tg = 0))), (2, Ptr nb7 6), (3, .agg (cu8 (tkG key pv ep k l ([] : List SealR) bl)).toArray), (4, Ptr nb3 6), (5, .agg (cu8 tg).toArray), (6, .bool (decide ((tkG key pv ep k l ([] : List SealR) bl) = tg))), (7, .bool (!((decide (chkG key pv ep k l ([] : List SealR) bl tg = 0)) == (decide ((tkG key pv ep k l ([] : List SealR) bl) = tg))))), (8, .bool (!((decide (chkG key pv ep k l ([] : List SealR) bl tg = 0)) == (decide ((tkG key pv ep k l ([] : List SealR) bl) = tg))))), (9, errV 50 (chkG key pv ep k l ([] : List SealR) bl tg)), (10, .bool (!(decide (chkG key pv ep k l ([] : List SealR) bl tg = 0)))), (11, .bool (!(decide (chkG key pv ep k l ([] : List SealR) bl tg = 0)))), (12, errV 50 (chkG key pv ep k l ([] : List SealR) bl tg))] BQ rfl (by decide +kernel) ?_
   refine BR ⟨[], [0, 1, 2, 3, 4, 5, 6, 7, 8, 9, 10, 11, 12], [], [0, 1, 2, 3, 4, 5, 6, 7, 8, 9, 10, 11, 12], [13]⟩ 13 _ rfl rfl (by decide +kernel) rfl ⟨⟨_, rfl, AB rfl (AD rfl)⟩, ⟨_, rfl, AB rfl (DC _ _ _ rfl rfl (fun _ => C5 ..) fun _ => eql_errV BB _ _)⟩, ⟨_, rfl, AB rfl (AC 6 27 16 A4 rfl A1 rfl rfl)⟩, ⟨_, rfl, AB rfl (AK rfl (BH C2 A1 (CG (CO _ _ _ _ _ _ _)) (MemAt.ent 6 rfl (Seg.right 6 0 rfl rfl (AM _)))))⟩, ⟨_, rfl, AB rfl (AC 6 27 16 A4 rfl A1 rfl rfl)⟩, ⟨_, rfl, AB rfl (AK rfl (BH C2 A1 (CG htg) (MemAt.ent 2 rfl (Seg.right 6 0 rfl rfl (AM _)))))⟩, ⟨_, rfl, AB rfl (DC _ _ _ rfl rfl (fun _ => E9 _ _ _ _ _ _ (by kernel_rfl)) fun _ => eql_arr8 BC BY DU E1 FO (by simp [(CO _ _ _ _ _ _ _)]) (by simp [htg]))⟩, ⟨_, rfl, AB rfl (DC _ _ _ rfl rfl (fun _ => F2 ..) fun _ => neq_bool Tryd.underlying4)⟩, ⟨_, rfl, AB rfl (AD rfl)⟩, ⟨_, rfl, BS 8 82 false _ rfl rfl rfl (by rw [show ((decide (chkG key pv ep k l ([] : List SealR) bl tg = 0)) == (decide ((tkG key pv ep k l ([] : List SealR) bl) = tg))) = true from (FE _ _ _ _ _ _ _ _)] <;> rfl) (AD rfl)⟩, ⟨_, rfl, BS 8 82 false _ rfl rfl rfl (by rw [show ((decide (chkG key pv ep k l ([] : List SealR) bl tg = 0)) == (decide ((tkG key pv ep k l ([] : List SealR) bl) = tg))) = true from (FE _ _ _ _ _ _ _ _)] <;> rfl) (DC _ _ _ rfl rfl (fun _ => C5 ..) fun _ => EW BB _ _)⟩, ⟨_, rfl, BS 8 82 false _ rfl rfl rfl (by rw [show ((decide (chkG key pv ep k l ([] : List SealR) bl tg = 0)) == (decide ((tkG key pv ep k l ([] : List SealR) bl) = tg))) = true from (FE _ _ _ _ _ _ _ _)] <;> rfl) (AD rfl)⟩, ⟨_, rfl, BS 11 85 true _ rfl rfl rfl (by rw [show (decide (chkG key pv ep k l ([] : List SealR) bl tg = 0)) = false from hb1] <;> rfl) (AD rfl)⟩, trivial⟩ rfl (FD 11 85 true _ rfl rfl rfl (by rw [show (decide (chkG key pv ep k l ([] : List SealR) bl tg = 0)) = false from hb1] <;> rfl) (A3 23 [errV 50 (chkG key pv ep k l ([] : List SealR) bl tg), I64 (4:Int)] (.bool (decide ((chkG key pv ep k l ([] : List SealR) bl tg:Int) = (4:Int)))) (A0 [errV 50 (chkG key pv ep k l ([] : List SealR) bl tg), I64 (4:Int)] Tryd.call23 rfl) (fun w1 hw1 => is_c (chkG key pv ep k l ([] : List SealR) bl tg) 4 w1))) ?_
   rintro v1 L1 ⟨rfl, rfl⟩
   refine ⟨[(14, .bool (!(decide ((chkG key pv ep k l ([] : List SealR) bl tg:Int) = (4:Int))))), (15, .bool (!(decide ((chkG key pv ep k l ([] : List SealR) bl tg:Int) = (4:Int))))), (16, .bool (!(decide ((chkG key pv ep k l ([] : List SealR) bl tg:Int) = (4:Int)))))], ?_⟩
   show DP _ _ _ _ _ _ _ _ [_, _, _, _, _, _, _]
   refine CZ ⟨[13], [0, 1, 2, 3, 4, 5, 6, 7, 8, 9, 10, 11, 12, 14, 15, 16], [0, 1, 2, 3, 4, 5, 6, 7, 8, 9, 10, 11, 12], [14, 15, 16], []⟩ rfl rfl (by decide +kernel) rfl ⟨⟨_, rfl, BS 11 85 true _ rfl rfl rfl (by rw [show (decide (chkG key pv ep k l ([] : List SealR) bl tg = 0)) = false from hb1] <;> rfl) (FK rfl)⟩, ⟨_, rfl, BS 8 82 false _ rfl rfl rfl (by rw [show ((decide (chkG key pv ep k l ([] : List SealR) bl tg = 0)) == (decide ((tkG key pv ep k l ([] : List SealR) bl) = tg))) = true from (FE _ _ _ _ _ _ _ _)] <;> rfl) (B0 _ rfl (by rw [show (decide (chkG key pv ep k l ([] : List SealR) bl tg = 0)) = false from hb1] <;> rfl) rfl)⟩, ⟨_, rfl, AB rfl (BM _ rfl (by rw [show ((decide (chkG key pv ep k l ([] : List SealR) bl tg = 0)) == (decide ((tkG key pv ep k l ([] : List SealR) bl) = tg))) = true from (FE _ _ _ _ _ _ _ _)] <;> rfl) rfl)⟩, trivial⟩ ?_
   refine CC (F' := [(90, .bool (!(decide ((chkG key pv ep k l ([] : List SealR) bl tg:Int) = (4:Int))))), (4, .bool false), (5, Ptr nb3 0), (7, Ptr nb5 0), (8, .nilIface), (9, Slc nb6 0 (tot + 16) cp2), (10, .nilIface), (12, Ptr nb7 0)]) (by kernel_rfl) ?_
   refine K_pick [2, 3, 4, 5, 6] (by decide) ?_
   show JQ _ _ _ _ [_, _, _, _, _]
   refine JQ_cut (!(decide ((chkG key pv ep k l ([] : List SealR) bl tg:Int) = (4:Int)))) (by rw [show (decide ((chkG key pv ep k l ([] : List SealR) bl tg:Int) = (4:Int))) = true from (decide_eq_true (by rw [chk_four (of_decide_eq_false hb1)]; rfl))] <;> rfl) (Sub.cons rfl (Sub.cons rfl (Sub.cons rfl (Sub.cons rfl (Sub.cons rfl (Sub.cons rfl (Sub.cons rfl (Sub.cons rfl (Sub.nil))))))))) rfl
 ·
  rintro yb0 hy1
  show JQ _ _ _ [(4, .bool false), (5, Ptr nb3 0), (7, Ptr nb5 0), (8, .nilIface), (9, Slc nb6 0 (tot + 16) cp2), (10, .nilIface), (12, Ptr nb7 0), (90, .bool yb0)] [⟨nb3, [U64 pv, U64 ep, I64 ((k:Int)), .slice ai ni ci, .slice none 0 0, U64 bl] ++ cu8 tg, 38, (0, 0)⟩, ⟨nb4, cu64 l ++ sp1, 22, (0, 0)⟩, ⟨nb5, [U64 pv, U64 ep, I64 ((k:Int)), Slc nb4 0 ni cp1, .slice ao1 0 ca1, U64 bl] ++ cu8 (tkG key pv ep k l ([] : List SealR) bl), 29, (0, 0)⟩, ⟨nb6, cu8 ((tktT pv ep k l ([] : List SealR) bl) ++ tg) ++ sp2, 5, (0, 0)⟩, ⟨nb7, [U64 pv, U64 ep, I64 ((k:Int)), .slice ai ni ci, .slice none 0 0, U64 bl] ++ cu8 (tkG key pv ep k l ([] : List SealR) bl), 38, (0, 0)⟩]
  refine AF (C0 _ rfl hy1 ?_)
  refine B4 (AF (AL (CQ 109 5 [(0, .nilIface), (1, .bool true), (2, .bool true), (3, .nilIface), (4, .bool true), (5, .bool true), (6, .bool true), (7, .agg (List.toArray (α := Value) ([U64 pv, U64 ep, I64 ((k:Int)), Slc nb4 0 ni cp1, .slice ao1 0 ca1, U64 bl] ++ cu8 (tkG key pv ep k l ([] : List SealR) bl)))), (9, .agg (List.toArray (α := Value) ([U64 pv, U64 ep, I64 ((k:Int)), .slice ai ni ci, .slice none 0 0, U64 bl] ++ cu8 (tkG key pv ep k l ([] : List SealR) bl))))] BQ rfl (by decide +kernel) ?_)))
  refine BR ⟨[], [0, 1, 2, 3, 4, 5, 6, 7, 9], [], [0, 1, 2, 3, 4, 5, 6, 7, 9], [8]⟩ 8 _ rfl rfl (by decide +kernel) rfl ⟨⟨_, rfl, AB rfl (AD rfl)⟩, ⟨_, rfl, AB rfl (DC _ _ _ rfl rfl (fun _ => EC ..) fun _ => ER BB)⟩, ⟨_, rfl, AB rfl (AD rfl)⟩, ⟨_, rfl, BS 2 93 true _ rfl rfl rfl rfl (AD rfl)⟩, ⟨_, rfl, BS 2 93 true _ rfl rfl rfl rfl (DC _ _ _ rfl rfl (fun _ => EC ..) fun _ => ER BB)⟩, ⟨_, rfl, AB rfl (B0 _ rfl rfl rfl)⟩, ⟨_, rfl, AB rfl (AD rfl)⟩, ⟨_, rfl, BS 6 97 true _ rfl rfl rfl rfl (AK rfl (BH BE AW (by simp [(CO _ _ _ _ _ _ _)]) (MemAt.ent 2 rfl (AM _))))⟩, ⟨_, rfl, BS 6 97 true _ rfl rfl rfl rfl (AK rfl (BH DO CM (by simp [(CO _ _ _ _ _ _ _)]) (MemAt.ent 4 rfl (AM _))))⟩, trivial⟩ rfl (FD 6 97 true _ rfl rfl rfl rfl (A3 44 [.agg (List.toArray (α := Value) ([U64 pv, U64 ep, I64 ((k:Int)), Slc nb4 0 ni cp1, .slice ao1 0 ca1, U64 bl] ++ cu8 (tkG key pv ep k l ([] : List SealR) bl)))] (.agg (List.toArray (α := Value) ([U64 pv, U64 ep, I64 ((k:Int)), Slc nb4 0 ni cp1, .slice none 0 0, U64 bl] ++ cu8 (tkG key pv ep k l ([] : List SealR) bl)))) (A0 [.agg (List.toArray (α := Value) ([U64 pv, U64 ep, I64 ((k:Int)), Slc nb4 0 ni cp1, .slice ao1 0 ca1, U64 bl] ++ cu8 (tkG key pv ep k l ([] : List SealR) bl)))] Tryd.call44 rfl) (fun w1 hw1 => docTZ_c pv ep ((k:Int)) (some ⟨nb4, 0, none⟩) ni cp1 l ao1 ca1 bl (tkG key pv ep k l ([] : List SealR) bl) w1 hl (by omega) (by omega) (by omega) (RdV.of hw1 (MemAt.ent 1 rfl (A2 (AM _)))) (by omega) hc5 (CO _ _ _ _ _ _ _)))) ?_
  rintro v1 L1 ⟨rfl, rfl⟩
  refine ⟨[], ?_⟩
  show DP _ _ _ _ _ _ _ _ [_, _, _, _, _]
  refine BR ⟨[8], [0, 1, 2, 3, 4, 5, 6, 7, 9], [0, 1, 2, 3, 4, 5, 6, 7], [9], [10]⟩ 10 _ rfl rfl (by decide +kernel) rfl ⟨⟨_, rfl, BS 6 97 true _ rfl rfl rfl rfl (AK rfl (BH DO CM (by simp [(CO _ _ _ _ _ _ _)]) (MemAt.ent 4 rfl (AM _))))⟩, trivial⟩ rfl (FD 6 97 true _ rfl rfl rfl rfl (A3 51 [.agg (List.toArray (α := Value) ([U64 pv, U64 ep, I64 ((k:Int)), Slc nb4 0 ni cp1, .slice none 0 0, U64 bl] ++ cu8 (tkG key pv ep k l ([] : List SealR) bl))), .agg (List.toArray (α := Value) ([U64 pv, U64 ep, I64 ((k:Int)), .slice ai ni ci, .slice none 0 0, U64 bl] ++ cu8 (tkG key pv ep k l ([] : List SealR) bl)))] (.bool (decide (pv = pv ∧ ep = ep ∧ (tkG key pv ep k l ([] : List SealR) bl) = (tkG key pv ep k l ([] : List SealR) bl) ∧ ((k:Int)) = ((k:Int)) ∧ bl = bl ∧ l = l ∧ ([] : List SealR) = ([] : List SealR)))) (A0 [.agg (List.toArray (α := Value) ([U64 pv, U64 ep, I64 ((k:Int)), Slc nb4 0 ni cp1, .slice none 0 0, U64 bl] ++ cu8 (tkG key pv ep k l ([] : List SealR) bl))), .agg (List.toArray (α := Value) ([U64 pv, U64 ep, I64 ((k:Int)), .slice ai ni ci, .slice none 0 0, U64 bl] ++ cu8 (tkG key pv ep k l ([] : List SealR) bl)))] Tryd.call51 rfl) (fun w1 hw1 => rsame13_c pv ep ((k:Int)) (some ⟨nb4, 0, none⟩) ni cp1 l none 0 0 ([] : List SealR) bl (tkG key pv ep k l ([] : List SealR) bl) pv ep ((k:Int)) ai ni ci l none 0 0 ([] : List SealR) bl (tkG key pv ep k l ([] : List SealR) bl) w1 hl (by omega) (by omega) (by omega) (RdV.of hw1 (MemAt.ent 1 rfl (A2 (AM _)))) rfl (by omega) (by omega) (by omega) RdV.nil (CO _ _ _ _ _ _ _) hl (by omega) (by omega) (by omega) (C1 hw1 rfl hv) rfl (by omega) (by omega) (by omega) RdV.nil (CO _ _ _ _ _ _ _)))) ?_
  rintro v1 L1 ⟨rfl, rfl⟩
  refine ⟨[(11, .bool (decide (pv = pv ∧ ep = ep ∧ (tkG key pv ep k l ([] : List SealR) bl) = (tkG key pv ep k l ([] : List SealR) bl) ∧ ((k:Int)) = ((k:Int)) ∧ bl = bl ∧ l = l ∧ ([] : List SealR) = ([] : List SealR)))), (12, .bool (decide (pv = pv ∧ ep = ep ∧ (tkG key pv ep k l ([] : List SealR) bl) = (tkG key pv ep k l ([] : List SealR) bl) ∧ ((k:Int)) = ((k:Int)) ∧ bl = bl ∧ l = l ∧ ([] : List SealR) = ([] : List SealR)))), (13, Slc nb6 0 (tot + 16) cp2), (14, .agg (List.toArray (α := Value) ([U64 pv, U64 ep, I64 ((k:Int)), .slice ai ni ci, .slice none 0 0, U64 bl] ++ cu8 tg)))], ?_⟩
  show DP _ _ _ _ _ _ _ _ [_, _, _, _, _]
  refine BR ⟨[8, 10], [0, 1, 2, 3, 4, 5, 6, 7, 9, 11, 12, 13, 14], [0, 1, 2, 3, 4, 5, 6, 7, 9], [11, 12, 13, 14], [15]⟩ 15 _ rfl rfl (by decide +kernel) rfl ⟨⟨_, rfl, AB rfl (B0 _ rfl rfl rfl)⟩, ⟨_, rfl, AB rfl (AD rfl)⟩, ⟨_, rfl, BS 12 103 true _ rfl rfl rfl (decide_eq_true ⟨rfl, rfl, rfl, rfl, rfl, rfl, rfl⟩) (AD rfl)⟩, ⟨_, rfl, BS 12 103 true _ rfl rfl rfl (decide_eq_true ⟨rfl, rfl, rfl, rfl, rfl, rfl, rfl⟩) (AK rfl (BH DO CM (by simp [htg]) (MemAt.ent 0 rfl (AM _))))⟩, trivial⟩ rfl (FD 12 103 true _ rfl rfl rfl (decide_eq_true ⟨rfl, rfl, rfl, rfl, rfl, rfl, rfl⟩) (BG 52 [.agg (List.toArray (α := Value) ([U64 pv, U64 ep, I64 ((k:Int)), .slice ai ni ci, .slice none 0 0, U64 bl] ++ cu8 tg))] _ (A0 [.agg (List.toArray (α := Value) ([U64 pv, U64 ep, I64 ((k:Int)), .slice ai ni ci, .slice none 0 0, U64 bl] ++ cu8 tg))] Tryd.call52 rfl) (fun w1 hw1 => rput13_c pv ep k ai ni ci l none 0 0 ([] : List SealR) bl tg tot w1 hl (by omega) (by omega) (by omega) (C1 hw1 rfl hv) rfl (by omega) (by omega) (by omega) RdV.nil htg hmay (by omega) (by omega) htot (by omega)))) ?_
  rintro v1 L1 ⟨_, ⟨nb8, sp3, cp3, rfl, rfl, hc9, hc10, hc11⟩, rfl⟩
  refine ⟨[], ?_⟩
  show DP _ _ _ _ _ _ _ _ [_, _, _, _, _, ⟨nb8, cu8 ((tktT pv ep k l ([] : List SealR) bl) ++ tg) ++ sp3, 5, (0, 0)⟩]
  refine BR ⟨[8, 10, 15], [0, 1, 2, 3, 4, 5, 6, 7, 9, 11, 12, 13, 14], [0, 1, 2, 3, 4, 5, 6, 7, 9, 11, 12, 14], [13], [16]⟩ 16 _ rfl rfl (by decide +kernel) rfl ⟨⟨_, rfl, BS 12 103 true _ rfl rfl rfl (decide_eq_true ⟨rfl, rfl, rfl, rfl, rfl, rfl, rfl⟩) (AD rfl)⟩, trivial⟩ rfl (FD 12 103 true _ rfl rfl rfl (decide_eq_true ⟨rfl, rfl, rfl, rfl, rfl, rfl, rfl⟩) (A3 24 [Slc nb6 0 (tot + 16) cp2, Slc nb8 0 (tot + 16) cp3] (.bool (decide (((tktT pv ep k l ([] : List SealR) bl) ++ tg) = ((tktT pv ep k l ([] : List SealR) bl) ++ tg)))) (A0 [Slc nb6 0 (tot + 16) cp2, Slc nb8 0 (tot + 16) cp3] Tryd.call24 rfl) (fun w1 hw1 => bytes_c (some ⟨nb6, 0, none⟩) (some ⟨nb8, 0, none⟩) (tot + 16) (tot + 16) cp2 cp3 ((tktT pv ep k l ([] : List SealR) bl) ++ tg) ((tktT pv ep k l ([] : List SealR) bl) ++ tg) w1 (show ((tktT pv ep k l ([] : List SealR) bl) ++ tg).length = (tot + 16) from (by rw [List.length_append, ((D5 hl rfl).trans htot), htg])) (show ((tktT pv ep k l ([] : List SealR) bl) ++ tg).length = (tot + 16) from (by rw [List.length_append, ((D5 hl rfl).trans htot), htg])) (RdB.of hw1 (MemAt.ent 3 rfl (A2 (AM _))) (by simp)) (RdB.of hw1 (MemAt.ent 5 rfl (A2 (AM _))) (by simp))))) ?_
  rintro v1 L1 ⟨rfl, rfl⟩
  refine ⟨[(17, .bool (decide (((tktT pv ep k l ([] : List SealR) bl) ++ tg) = ((tktT pv ep k l ([] : List SealR) bl) ++ tg)))), (18, .bool (decide (((tktT pv ep k l ([] : List SealR) bl) ++ tg) = ((tktT pv ep k l ([] : List SealR) bl) ++ tg))))], ?_⟩
  show DP _ _ _ _ _ _ _ _ [_, _, _, _, _, _]
  refine CZ ⟨[8, 10, 15, 16], [0, 1, 2, 3, 4, 5, 6, 7, 9, 11, 12, 13, 14, 17, 18], [0, 1, 2, 3, 4, 5, 6, 7, 9, 11, 12, 13, 14], [17, 18], []⟩ rfl rfl (by decide +kernel) rfl ⟨⟨_, rfl, AB rfl (B0 _ rfl (decide_eq_true ⟨rfl, rfl, rfl, rfl, rfl, rfl, rfl⟩) rfl)⟩, ⟨_, rfl, AB rfl (AH rfl)⟩, trivial⟩ ?_
  refine CC (F' := [(4, .bool (decide (((tktT pv ep k l ([] : List SealR) bl) ++ tg) = ((tktT pv ep k l ([] : List SealR) bl) ++ tg))))]) (by kernel_rfl) ?_
  refine AF (BO (B8 [false, false, false, false, false, false] ?_))
  show JQ _ _ _ _ []
  refine BP (.bool (decide (((tktT pv ep k l ([] : List SealR) bl) ++ tg) = ((tktT pv ep k l ([] : List SealR) bl) ++ tg)))) (res1 Tryd.results9 (BT rfl)) fun w1 hw1 => ?_
  exact ⟨_, [], rfl, ⟨by rw [show (decide (((tktT pv ep k l ([] : List SealR) bl) ++ tg) = ((tktT pv ep k l ([] : List SealR) bl) ++ tg))) = true from (decide_eq_true rfl)], rfl⟩, hw1.sub (by simp) (by simp)⟩
theorem ts3_c (key : List UInt8) (pv ep : UInt64) (k : Nat) (ai : Option Addr) (ci : Nat) (sa : Option Addr) (sc : Nat) (bl : UInt64) (tg : List UInt8) (tot : Nat)  (w : World) (hk32 : key.length = 32) (hci : ci ≤ maxLen) (hnI : ai = none → ci = 0) (hcs : sc ≤ maxLen) (hnS : sa = none → sc = 0) (htg : tg.length = 16) (hG : GLs w) (hGr : GLr w) (hGi : GLi w) (hmay : mayN pv ep (k:Int) ([] : List UInt64) ([] : List SealR) bl = 0) (hk : k = 3) (htot : tktN k 0 0 = tot) (htb : tot ≤ 30000) (hlg : ¬ LargeP 0 0)  : Calls Tryd.prog 9 #[.agg (cu8 key).toArray, .agg (List.toArray (α := Value) ([U64 pv, U64 ep, I64 ((k:Int)), .slice ai 0 ci, .slice sa 0 sc, U64 bl] ++ cu8 tg))] w (Post w [] (fun v L => v = .bool true ∧ L = [])) := by
 have hmx : maxLen = 9223372036854775807 := rfl
 refine enter (P := Tryd.prog) (f := 9) (fn := Tryd.f9) w [] 109 [] [.agg (cu8 key).toArray, .agg (List.toArray (α := Value) ([U64 pv, U64 ep, I64 ((k:Int)), .slice ai 0 ci, .slice sa 0 sc, U64 bl] ++ cu8 tg))] Tryd.func9 rfl rfl (by simp) (B7 (by simp) (by simp) (by simp)) ?_
 show JC _ _ _ [(0, .agg (cu8 key).toArray), (1, .agg (List.toArray (α := Value) ([U64 pv, U64 ep, I64 ((k:Int)), .slice ai 0 ci, .slice sa 0 sc, U64 bl] ++ cu8 tg)))] _
 refine AL (AE (AR (CN (.agg (cu8 key).toArray) (cu8 key) rfl (by first | rfl | simp)) rfl ?_))
 rintro v1 L1 ⟨nb1, hnb1, rfl, rfl⟩
 show JL _ _ _ _ ((2, Ptr nb1 0) :: _) [⟨nb1, cu8 key, 54, (0, 0)⟩]
 refine AR (CN (.agg (List.toArray (α := Value) ([U64 pv, U64 ep, I64 ((k:Int)), .slice ai 0 ci, .slice sa 0 sc, U64 bl] ++ cu8 tg))) ([U64 pv, U64 ep, I64 ((k:Int)), .slice ai 0 ci, .slice sa 0 sc, U64 bl] ++ cu8 tg) rfl (by first | rfl | simp)) rfl ?_
 rintro v1 L1 ⟨nb2, hnb2, rfl, rfl⟩
 show JL _ _ _ _ ((3, Ptr nb2 0) :: _) [_, ⟨nb2, [U64 pv, U64 ep, I64 ((k:Int)), .slice ai 0 ci, .slice sa 0 sc, U64 bl] ++ cu8 tg, 29, (0, 0)⟩]
 refine AA _ (AH rfl) rfl ?_
 refine AN (AF (AL (AL (AE (AR (A3 43 [] (.bool true) (A0 [] Tryd.call43 rfl) (fun w1 hw1 => alive13_c  w1 (hG.at hw1))) rfl ?_)))))
 rintro v1 L1 ⟨rfl, rfl⟩
 show JL _ _ _ _ ((13, .bool true) :: _) [_, _]
 refine AA (.bool (!true)) (FK rfl) rfl ?_
 refine AN (AF (C0 _ rfl rfl ?_))
 refine B4 (AF (AL (AL (AE (AA (Ptr nb2 2) (AC 2 26 4 AS rfl BI rfl rfl) rfl ?_)))))
 refine AA (.agg (List.toArray (α := Value) ([I64 ((k:Int)), .slice ai 0 ci, .slice sa 0 sc, U64 bl]))) (AK rfl (BH DE BI rfl (MemAt.ent 1 rfl (D9 (p := [U64 pv, U64 ep]) (q := cu8 tg) (vs := [I64 ((k:Int)), .slice ai 0 ci, .slice sa 0 sc, U64 bl]) (by first | rfl | (simp only [List.append_assoc, List.nil_append, List.append_nil, List.cons_append]; done)) rfl)))) rfl ?_
 refine AR (A3 18 [.agg (List.toArray (α := Value) ([I64 ((k:Int)), .slice ai 0 ci, .slice sa 0 sc, U64 bl]))] (.bool (decide (LargeP 0 0))) (A0 [.agg (List.toArray (α := Value) ([I64 ((k:Int)), .slice ai 0 ci, .slice sa 0 sc, U64 bl]))] Tryd.call18 rfl) (fun w1 hw1 => large_c ((k:Int)) ai 0 ci ([] : List UInt64) sa 0 sc ([] : List SealR) bl w1 )) rfl ?_
 rintro v1 L1 ⟨rfl, rfl⟩
 show JL _ _ _ _ ((17, .bool (decide (LargeP 0 0))) :: _) [_, _]
 refine AN (AF (C0 _ rfl (decide_eq_false hlg) ?_))
 refine B4 (AF (AL (AE (AA (.agg (List.toArray (α := Value) ([U64 pv, U64 ep, I64 ((k:Int)), .slice ai 0 ci, .slice sa 0 sc, U64 bl] ++ cu8 tg))) (AK rfl (BH BE AW (by simp [htg]) (MemAt.ent 1 rfl (AM _)))) rfl ?_))))
 refine AR (A3 44 [.agg (List.toArray (α := Value) ([U64 pv, U64 ep, I64 ((k:Int)), .slice ai 0 ci, .slice sa 0 sc, U64 bl] ++ cu8 tg))] (.agg (List.toArray (α := Value) ([U64 pv, U64 ep, I64 ((k:Int)), .slice ai 0 ci, .slice none 0 0, U64 bl] ++ cu8 tg))) (A0 [.agg (List.toArray (α := Value) ([U64 pv, U64 ep, I64 ((k:Int)), .slice ai 0 ci, .slice sa 0 sc, U64 bl] ++ cu8 tg))] Tryd.call44 rfl) (fun w1 hw1 => docTZ_c pv ep ((k:Int)) ai 0 ci ([] : List UInt64) sa sc bl tg w1 rfl (by omega) (by omega) (by omega) RdV.nil (by omega) hnS htg)) rfl ?_
 rintro v1 L1 ⟨rfl, rfl⟩
 show JL _ _ _ _ ((19, .agg (List.toArray (α := Value) ([U64 pv, U64 ep, I64 ((k:Int)), .slice ai 0 ci, .slice none 0 0, U64 bl] ++ cu8 tg))) :: _) [_, _]
 refine AR (BJ _ ([U64 (0:UInt64), U64 (0:UInt64), I64 (0:Int), .slice none 0 0, .slice none 0 0, U64 (0:UInt64)] ++ cu8 (zr8 16)) ET (by kernel_rfl)) rfl ?_
 rintro v1 L1 ⟨nb3, hnb3, rfl, rfl⟩
 show JL _ _ _ _ ((5, Ptr nb3 0) :: _) [_, _, ⟨nb3, [U64 (0:UInt64), U64 (0:UInt64), I64 (0:Int), .slice none 0 0, .slice none 0 0, U64 (0:UInt64)] ++ cu8 (zr8 16), 38, (0, 0)⟩]
 refine AR (A6 2 nb3 0 22 ([U64 (0:UInt64), U64 (0:UInt64), I64 (0:Int), .slice none 0 0, .slice none 0 0, U64 (0:UInt64)] ++ cu8 (zr8 16)) 38 (.agg (List.toArray (α := Value) ([U64 pv, U64 ep, I64 ((k:Int)), .slice ai 0 ci, .slice none 0 0, U64 bl] ++ cu8 tg))) ([U64 pv, U64 ep, I64 ((k:Int)), .slice ai 0 ci, .slice none 0 0, U64 bl] ++ cu8 tg) ([U64 pv, U64 ep, I64 ((k:Int)), .slice ai 0 ci, .slice none 0 0, U64 bl] ++ cu8 tg) rfl rfl rfl (by first | rfl | simp) CM (by simp [htg]) (DA (by simp [Value.oneCell']) CK) (by simp [(AP 16)]) (BF (by simp [(AP 16), htg]))) rfl ?_
 rintro v1 L1 ⟨rfl, rfl⟩
 show JL _ _ _ _ _ [_, _, ⟨nb3, [U64 pv, U64 ep, I64 ((k:Int)), .slice ai 0 ci, .slice none 0 0, U64 bl] ++ cu8 tg, 38, (0, 0)⟩]
 refine AN (AF (AL (AE (AA (.agg (List.toArray (α := Value) ([U64 pv, U64 ep, I64 ((k:Int)), .slice ai 0 ci, .slice none 0 0, U64 bl] ++ cu8 tg))) (AK rfl (BH DO CM (by simp [htg]) (MemAt.ent 2 rfl (AM _)))) rfl ?_))))
 refine AR (A3 45 [.agg (List.toArray (α := Value) ([U64 pv, U64 ep, I64 ((k:Int)), .slice ai 0 ci, .slice none 0 0, U64 bl] ++ cu8 tg))] (I64 (((mayN pv ep ((k:Int)) ([] : List UInt64) ([] : List SealR) bl):Int))) (A0 [.agg (List.toArray (α := Value) ([U64 pv, U64 ep, I64 ((k:Int)), .slice ai 0 ci, .slice none 0 0, U64 bl] ++ cu8 tg))] Tryd.call45 rfl) (fun w1 hw1 => rmay13_c pv ep ((k:Int)) ai 0 ci ([] : List UInt64) none 0 0 ([] : List SealR) bl tg w1 rfl (by omega) (by omega) (by omega) RdV.nil rfl (by omega) (by omega) (by omega) RdV.nil htg)) rfl ?_
 rintro v1 L1 ⟨rfl, rfl⟩
 show JL _ _ _ _ ((21, I64 (((mayN pv ep ((k:Int)) ([] : List UInt64) ([] : List SealR) bl):Int))) :: _) [_, _, _]
 refine AA _ (AH rfl) rfl ?_
 refine AN (AF (AL (AE (AA (.agg (cu8 key).toArray) (AK rfl (BH D0 CD (CG hk32) (MemAt.ent 0 rfl (AM _)))) rfl ?_))))
 refine AA (Ptr nb2 0) (AC 0 22 1 AS rfl AT rfl rfl) rfl ?_
 refine AA (U64 pv) (AK rfl (AV AU (MemAt.ent 1 rfl (A2 (Seg.head))))) rfl ?_
 refine AA (Ptr nb2 1) (AC 1 22 1 AS rfl AT rfl rfl) rfl ?_
 refine AA (U64 ep) (AK rfl (AV AU (MemAt.ent 1 rfl (A2 (AJ (Seg.head)))))) rfl ?_
 refine AA (Ptr nb2 2) (AC 2 26 4 AS rfl BI rfl rfl) rfl ?_
 refine AA (.agg (List.toArray (α := Value) ([I64 ((k:Int)), .slice ai 0 ci, .slice sa 0 sc, U64 bl]))) (AK rfl (BH DE BI rfl (MemAt.ent 1 rfl (D9 (p := [U64 pv, U64 ep]) (q := cu8 tg) (vs := [I64 ((k:Int)), .slice ai 0 ci, .slice sa 0 sc, U64 bl]) (by first | rfl | (simp only [List.append_assoc, List.nil_append, List.append_nil, List.cons_append]; done)) rfl)))) rfl ?_
 refine AR (BG 46 [.agg (cu8 key).toArray, U64 pv, U64 ep, .agg (List.toArray (α := Value) ([I64 ((k:Int)), .slice ai 0 ci, .slice sa 0 sc, U64 bl]))] _ (A0 [.agg (cu8 key).toArray, U64 pv, U64 ep, .agg (List.toArray (α := Value) ([I64 ((k:Int)), .slice ai 0 ci, .slice sa 0 sc, U64 bl]))] Tryd.call46 rfl) (fun w1 hw1 => sign3_c key pv ep k ai ci sa sc bl tot w1 hk32 (by omega) hnI (by omega) hnS  hmay (by omega) htot (by omega) (hG.at hw1))) rfl ?_
 rintro v1 L1 ⟨_, ⟨ao1, ca1, ao2, ca2, rfl, rfl, hc1, hc2, hc3, hc4⟩, rfl⟩
 show JL _ _ _ _ ((30, .tuple #[.agg (List.toArray (α := Value) ([U64 pv, U64 ep, I64 ((k:Int)), .slice ao1 0 ca1, .slice ao2 0 ca2, U64 bl] ++ cu8 (tkG key pv ep k ([] : List UInt64) ([] : List SealR) bl))), .nilIface]) :: _) [_, _, _]
 refine AA _ (AD rfl) rfl ?_
 refine AA _ (BN rfl rfl) rfl ?_
 refine AA _ (BN rfl rfl) rfl ?_
 refine AR (BJ _ ([U64 (0:UInt64), U64 (0:UInt64), I64 (0:Int), .slice none 0 0, .slice none 0 0, U64 (0:UInt64)] ++ cu8 (zr8 16)) B9 (by kernel_rfl)) rfl ?_
 rintro v1 L1 ⟨nb4, hnb4, rfl, rfl⟩
 show JL _ _ _ _ ((7, Ptr nb4 0) :: _) [_, _, _, ⟨nb4, [U64 (0:UInt64), U64 (0:UInt64), I64 (0:Int), .slice none 0 0, .slice none 0 0, U64 (0:UInt64)] ++ cu8 (zr8 16), 29, (0, 0)⟩]
 refine AR (A6 3 nb4 0 22 ([U64 (0:UInt64), U64 (0:UInt64), I64 (0:Int), .slice none 0 0, .slice none 0 0, U64 (0:UInt64)] ++ cu8 (zr8 16)) 29 (.agg (List.toArray (α := Value) ([U64 pv, U64 ep, I64 ((k:Int)), .slice ao1 0 ca1, .slice ao2 0 ca2, U64 bl] ++ cu8 (tkG key pv ep k ([] : List UInt64) ([] : List SealR) bl)))) ([U64 pv, U64 ep, I64 ((k:Int)), .slice ao1 0 ca1, .slice ao2 0 ca2, U64 bl] ++ cu8 (tkG key pv ep k ([] : List UInt64) ([] : List SealR) bl)) ([U64 pv, U64 ep, I64 ((k:Int)), .slice ao1 0 ca1, .slice ao2 0 ca2, U64 bl] ++ cu8 (tkG key pv ep k ([] : List UInt64) ([] : List SealR) bl)) rfl rfl rfl (by first | rfl | simp) AW (by simp [(CO _ _ _ _ _ _ _)]) (DA (by simp [Value.oneCell']) CK) (by simp [(AP 16)]) (BF (by simp [(AP 16), (CO _ _ _ _ _ _ _)]))) rfl ?_
 rintro v1 L1 ⟨rfl, rfl⟩
 show JL _ _ _ _ _ [_, _, _, ⟨nb4, [U64 pv, U64 ep, I64 ((k:Int)), .slice ao1 0 ca1, .slice ao2 0 ca2, U64 bl] ++ cu8 (tkG key pv ep k ([] : List UInt64) ([] : List SealR) bl), 29, (0, 0)⟩]
 refine AA _ (AH rfl) rfl ?_
 refine AN (AF (AL (AE (AA (.agg (List.toArray (α := Value) ([U64 pv, U64 ep, I64 ((k:Int)), .slice ai 0 ci, .slice sa 0 sc, U64 bl] ++ cu8 tg))) (AK rfl (BH BE AW (by simp [htg]) (MemAt.ent 1 rfl (AM _)))) rfl ?_))))
 refine AR (BG 47 [.agg (List.toArray (α := Value) ([U64 pv, U64 ep, I64 ((k:Int)), .slice ai 0 ci, .slice sa 0 sc, U64 bl] ++ cu8 tg))] _ (A0 [.agg (List.toArray (α := Value) ([U64 pv, U64 ep, I64 ((k:Int)), .slice ai 0 ci, .slice sa 0 sc, U64 bl] ++ cu8 tg))] Tryd.call47 rfl) (fun w1 hw1 => put13_c pv ep k ai 0 ci ([] : List UInt64) sa 0 sc ([] : List SealR) bl tg tot w1 rfl (by omega) (by omega) (by omega) RdV.nil rfl (by omega) (by omega) (by omega) RdV.nil htg hmay (by omega) (by omega) htot (by omega))) rfl ?_
 rintro v1 L1 ⟨_, ⟨nb5, sp1, cp1, rfl, rfl, hc5, hc6, hc7⟩, rfl⟩
 show JL _ _ _ _ ((35, .tuple #[Slc nb5 0 (tot + 16) cp1, .nilIface]) :: _) [_, _, _, _, ⟨nb5, cu8 ((tktT pv ep k ([] : List UInt64) ([] : List SealR) bl) ++ tg) ++ sp1, 5, (0, 0)⟩]
 refine AA _ (AD rfl) rfl ?_
 refine AA _ (BN rfl rfl) rfl ?_
 refine AA _ (BN rfl rfl) rfl ?_
 refine AA _ (AH rfl) rfl ?_
 refine AA _ (AH rfl) rfl ?_
 refine AN (AF (AL (AE (AA (.agg (cu8 key).toArray) (AK rfl (BH D0 CD (CG hk32) (MemAt.ent 0 rfl (AM _)))) rfl ?_))))
 refine AA (.agg (List.toArray (α := Value) ([U64 pv, U64 ep, I64 ((k:Int)), .slice ai 0 ci, .slice sa 0 sc, U64 bl] ++ cu8 tg))) (AK rfl (BH BE AW (by simp [htg]) (MemAt.ent 1 rfl (AM _)))) rfl ?_
 refine AR (A3 48 [.agg (cu8 key).toArray, .agg (List.toArray (α := Value) ([U64 pv, U64 ep, I64 ((k:Int)), .slice ai 0 ci, .slice sa 0 sc, U64 bl] ++ cu8 tg))] (errV 50 (chkG key pv ep k ([] : List UInt64) ([] : List SealR) bl tg)) (A0 [.agg (cu8 key).toArray, .agg (List.toArray (α := Value) ([U64 pv, U64 ep, I64 ((k:Int)), .slice ai 0 ci, .slice sa 0 sc, U64 bl] ++ cu8 tg))] Tryd.call48 rfl) (fun w1 hw1 => chk_w key pv ep k ai 0 ci ([] : List UInt64) sa 0 sc ([] : List SealR) bl tg tot w1 hk32 rfl (by omega) (by omega) (by omega) RdV.nil rfl (by omega) (by omega) (by omega) RdV.nil htg hmay (by omega) (by omega) htot (by omega) (hG.at hw1))) rfl ?_
 rintro v1 L1 ⟨rfl, rfl⟩
 show JL _ _ _ _ ((40, errV 50 (chkG key pv ep k ([] : List UInt64) ([] : List SealR) bl tg)) :: _) [_, _, _, _, _]
 refine AA _ (AH rfl) rfl ?_
 refine AN (AF (AL (AL (AE (AA _ (AD rfl) rfl ?_)))))
 refine AA (.bool (decide ((((mayN pv ep ((k:Int)) ([] : List UInt64) ([] : List SealR) bl):Int)) ≠ (0:Int)))) (AQ rfl rfl fun _ => E8 _ _) rfl ?_
 refine AN (AF (C0 _ rfl (decide_eq_false (by omega)) ?_))
 refine B4 (AF (AL (AE (AA (.agg (List.toArray (α := Value) ([U64 pv, U64 ep, I64 ((k:Int)), .slice ai 0 ci, .slice none 0 0, U64 bl] ++ cu8 tg))) (AK rfl (BH DO CM (by simp [htg]) (MemAt.ent 2 rfl (AM _)))) rfl ?_))))
 refine AR (BJ _ ([U64 (0:UInt64), U64 (0:UInt64), I64 (0:Int), .slice none 0 0, .slice none 0 0, U64 (0:UInt64)] ++ cu8 (zr8 16)) ET (by kernel_rfl)) rfl ?_
 rintro v1 L1 ⟨nb6, hnb6, rfl, rfl⟩
 show JL _ _ _ _ ((12, Ptr nb6 0) :: _) [_, _, _, _, _, ⟨nb6, [U64 (0:UInt64), U64 (0:UInt64), I64 (0:Int), .slice none 0 0, .slice none 0 0, U64 (0:UInt64)] ++ cu8 (zr8 16), 38, (0, 0)⟩]
 refine AR (A6 5 nb6 0 22 ([U64 (0:UInt64), U64 (0:UInt64), I64 (0:Int), .slice none 0 0, .slice none 0 0, U64 (0:UInt64)] ++ cu8 (zr8 16)) 38 (.agg (List.toArray (α := Value) ([U64 pv, U64 ep, I64 ((k:Int)), .slice ai 0 ci, .slice none 0 0, U64 bl] ++ cu8 tg))) ([U64 pv, U64 ep, I64 ((k:Int)), .slice ai 0 ci, .slice none 0 0, U64 bl] ++ cu8 tg) ([U64 pv, U64 ep, I64 ((k:Int)), .slice ai 0 ci, .slice none 0 0, U64 bl] ++ cu8 tg) rfl rfl rfl (by first | rfl | simp) CM (by simp [htg]) (DA (by simp [Value.oneCell']) CK) (by simp [(AP 16)]) (BF (by simp [(AP 16), htg]))) rfl ?_
 rintro v1 L1 ⟨rfl, rfl⟩
 show JL _ _ _ _ _ [_, _, _, _, _, ⟨nb6, [U64 pv, U64 ep, I64 ((k:Int)), .slice ai 0 ci, .slice none 0 0, U64 bl] ++ cu8 tg, 38, (0, 0)⟩]
 refine AN (AF (AL (AE (AA (.agg (cu8 key).toArray) (AK rfl (BH D0 CD (CG hk32) (MemAt.ent 0 rfl (AM _)))) rfl ?_))))
 refine AA (.agg (List.toArray (α := Value) ([U64 pv, U64 ep, I64 ((k:Int)), .slice ai 0 ci, .slice none 0 0, U64 bl] ++ cu8 tg))) (AK rfl (BH DO CM (by simp [htg]) (MemAt.ent 2 rfl (AM _)))) rfl ?_
 refine AR (A3 50 [.agg (cu8 key).toArray, .agg (List.toArray (α := Value) ([U64 pv, U64 ep, I64 ((k:Int)), .slice ai 0 ci, .slice none 0 0, U64 bl] ++ cu8 tg))] (.agg (cu8 (tkG key pv ep k ([] : List UInt64) ([] : List SealR) bl)).toArray) (A0 [.agg (cu8 key).toArray, .agg (List.toArray (α := Value) ([U64 pv, U64 ep, I64 ((k:Int)), .slice ai 0 ci, .slice none 0 0, U64 bl] ++ cu8 tg))] Tryd.call50 rfl) (fun w1 hw1 => rtag_c key pv ep k ai 0 ci ([] : List UInt64) none 0 0 ([] : List SealR) bl tg tot w1 hk32 rfl (by omega) (by omega) (by omega) RdV.nil rfl (by omega) (by omega) (by omega) RdV.nil htg hmay (by omega) (by omega) htot (by omega) (GLr.at hw1 hGr) (GLi.at hw1 hGi))) rfl ?_
 rintro v1 L1 ⟨rfl, rfl⟩
 show JL _ _ _ _ ((72, .agg (cu8 (tkG key pv ep k ([] : List UInt64) ([] : List SealR) bl)).toArray) :: _) [_, _, _, _, _, _]
 refine AA (Ptr nb6 6) (AC 6 27 16 A4 rfl A1 rfl rfl) rfl ?_
 refine AR (A6 5 nb6 6 16 ([U64 pv, U64 ep, I64 ((k:Int)), .slice ai 0 ci, .slice none 0 0, U64 bl] ++ cu8 tg) 38 (.agg (cu8 (tkG key pv ep k ([] : List UInt64) ([] : List SealR) bl)).toArray) (cu8 (tkG key pv ep k ([] : List UInt64) ([] : List SealR) bl)) ([U64 pv, U64 ep, I64 ((k:Int)), .slice ai 0 ci, .slice none 0 0, U64 bl] ++ cu8 (tkG key pv ep k ([] : List UInt64) ([] : List SealR) bl)) rfl rfl rfl (by first | rfl | simp) A1 (CG (CO _ _ _ _ _ _ _)) (by first | exact CK | exact DW | exact DT | (simp [cu8, cu32, cu64, Value.oneCell']; done)) (by simp [htg]) (FQ 6 0 rfl rfl (BF (by simp [htg, (CO _ _ _ _ _ _ _)])))) rfl ?_
 rintro v1 L1 ⟨rfl, rfl⟩
 show JL _ _ _ _ _ [_, _, _, _, _, ⟨nb6, [U64 pv, U64 ep, I64 ((k:Int)), .slice ai 0 ci, .slice none 0 0, U64 bl] ++ cu8 (tkG key pv ep k ([] : List UInt64) ([] : List SealR) bl), 38, (0, 0)⟩]
 refine AN (AF (AL (AL (JC_cut (ι := Bool) (fun yb0 => [(4, .bool false), (5, Ptr nb3 0), (7, Ptr nb4 0), (8, .nilIface), (9, Slc nb5 0 (tot + 16) cp1), (10, .nilIface), (12, Ptr nb6 0), (90, .bool yb0)]) (fun yb0 => [⟨nb3, [U64 pv, U64 ep, I64 ((k:Int)), .slice ai 0 ci, .slice none 0 0, U64 bl] ++ cu8 tg, 38, (0, 0)⟩, ⟨nb4, [U64 pv, U64 ep, I64 ((k:Int)), .slice ao1 0 ca1, .slice ao2 0 ca2, U64 bl] ++ cu8 (tkG key pv ep k ([] : List UInt64) ([] : List SealR) bl), 29, (0, 0)⟩, ⟨nb5, cu8 ((tktT pv ep k ([] : List UInt64) ([] : List SealR) bl) ++ tg) ++ sp1, 5, (0, 0)⟩, ⟨nb6, [U64 pv, U64 ep, I64 ((k:Int)), .slice ai 0 ci, .slice none 0 0, U64 bl] ++ cu8 (tkG key pv ep k ([] : List UInt64) ([] : List SealR) bl), 38, (0, 0)⟩]) (fun yb0 => yb0 = false) ?_ ?_))))
 ·
  rcases Bool.eq_false_or_eq_true (decide (chkG key pv ep k ([] : List UInt64) ([] : List SealR) bl tg = 0)) with hb1 | hb1
  ·
   have hp1 : chkG key pv ep k ([] : List UInt64) ([] : List SealR) bl tg = 0 := of_decide_eq_true hb1
   refine CQ 109 2 [(0, errV 50 (chkG key pv ep k ([] : List UInt64) ([] : List SealR) bl tg)), (1, .bool (decide (chkG key pv ep k ([] : List UInt64) ([] : List SealR) bl tg = 0))), (2, Ptr nb6 6), (3, .agg (cu8 (tkG key pv ep k ([] : List UInt64) ([] : List SealR) bl)).toArray), (4, Ptr nb3 6), (5, .agg (cu8 tg).toArray), (6, .bool (decide ((tkG key pv ep k ([] : List UInt64) ([] : List SealR) bl) = tg))), (7, .bool (!((decide (chkG key pv ep k ([] : List UInt64) ([] : List SealR) bl tg = 0)) == (decide ((tkG key pv ep k ([] : List UInt64) ([] : List SealR) bl) = tg))))), (8, .bool (!((decide (chkG key pv ep k ([] : List UInt64) ([] : List SealR) bl tg = 0)) == (decide ((tkG key pv ep k ([] : List UInt64) ([] : List SealR) bl) = tg))))), (9, errV 50 (chkG key pv ep k ([] : List UInt64) ([] : List SealR) bl tg)), (10, .bool (!(decide (chkG key pv ep k ([] : List UInt64) ([] : List SealR) bl tg = 0)))), (11, .bool (!(decide (chkG key pv ep k ([] : List UInt64) ([] : List SealR) bl tg = 0)))), (12, undef), (13, undef), (14, undef), (15, .bool false), (16, .bool false)] BQ rfl (by decide +kernel) ?_
   refine CZ ⟨[], [0, 1, 2, 3, 4, 5, 6, 7, 8, 9, 10, 11, 12, 13, 14, 15, 16], [], [0, 1, 2, 3, 4, 5, 6, 7, 8, 9, 10, 11, 12, 13, 14, 15, 16], []⟩ rfl rfl (by decide +kernel) rfl ⟨⟨_, rfl, AB rfl (AD rfl)⟩, ⟨_, rfl, AB rfl (DC _ _ _ rfl rfl (fun _ => C5 ..) fun _ => eql_errV BB _ _)⟩, ⟨_, rfl, AB rfl (AC 6 27 16 A4 rfl A1 rfl rfl)⟩, ⟨_, rfl, AB rfl (AK rfl (BH C2 A1 (CG (CO _ _ _ _ _ _ _)) (MemAt.ent 5 rfl (Seg.right 6 0 rfl rfl (AM _)))))⟩, ⟨_, rfl, AB rfl (AC 6 27 16 A4 rfl A1 rfl rfl)⟩, ⟨_, rfl, AB rfl (AK rfl (BH C2 A1 (CG htg) (MemAt.ent 2 rfl (Seg.right 6 0 rfl rfl (AM _)))))⟩, ⟨_, rfl, AB rfl (DC _ _ _ rfl rfl (fun _ => E9 _ _ _ _ _ _ (by kernel_rfl)) fun _ => eql_arr8 BC BY DU E1 FO (by simp [(CO _ _ _ _ _ _ _)]) (by simp [htg]))⟩, ⟨_, rfl, AB rfl (DC _ _ _ rfl rfl (fun _ => F2 ..) fun _ => neq_bool Tryd.underlying4)⟩, ⟨_, rfl, AB rfl (AD rfl)⟩, ⟨_, rfl, BS 8 82 false _ rfl rfl rfl (by rw [show ((decide (chkG key pv ep k ([] : List UInt64) ([] : List SealR) bl tg = 0)) == (decide ((tkG key pv ep k ([] : List UInt64) ([] : List SealR) bl) = tg))) = true from (FE _ _ _ _ _ _ _ _)] <;> rfl) (AD rfl)⟩, ⟨_, rfl, BS 8 82 false _ rfl rfl rfl (by rw [show ((decide (chkG key pv ep k ([] : List UInt64) ([] : List SealR) bl tg = 0)) == (decide ((tkG key pv ep k ([] : List UInt64) ([] : List SealR) bl) = tg))) = true from (FE _ _ _ _ _ _ _ _)] <;> rfl) (DC _ _ _ rfl rfl (fun _ => C5 ..) fun _ => EW BB _ _)⟩, ⟨_, rfl, BS 8 82 false _ rfl rfl rfl (by rw [show ((decide (chkG key pv ep k ([] : List UInt64) ([] : List SealR) bl tg = 0)) == (decide ((tkG key pv ep k ([] : List UInt64) ([] : List SealR) bl) = tg))) = true from (FE _ _ _ _ _ _ _ _)] <;> rfl) (AD rfl)⟩, ⟨_, rfl, CH 11 85 true _ rfl rfl rfl (by rw [show (decide (chkG key pv ep k ([] : List UInt64) ([] : List SealR) bl tg = 0)) = true from hb1] <;> rfl)⟩, ⟨_, rfl, CH 11 85 true _ rfl rfl rfl (by rw [show (decide (chkG key pv ep k ([] : List UInt64) ([] : List SealR) bl tg = 0)) = true from hb1] <;> rfl)⟩, ⟨_, rfl, CH 11 85 true _ rfl rfl rfl (by rw [show (decide (chkG key pv ep k ([] : List UInt64) ([] : List SealR) bl tg = 0)) = true from hb1] <;> rfl)⟩, ⟨_, rfl, BS 8 82 false _ rfl rfl rfl (by rw [show ((decide (chkG key pv ep k ([] : List UInt64) ([] : List SealR) bl tg = 0)) == (decide ((tkG key pv ep k ([] : List UInt64) ([] : List SealR) bl) = tg))) = true from (FE _ _ _ _ _ _ _ _)] <;> rfl) (BM _ rfl (by rw [show (decide (chkG key pv ep k ([] : List UInt64) ([] : List SealR) bl tg = 0)) = true from hb1] <;> rfl) rfl)⟩, ⟨_, rfl, AB rfl (BM _ rfl (by rw [show ((decide (chkG key pv ep k ([] : List UInt64) ([] : List SealR) bl tg = 0)) == (decide ((tkG key pv ep k ([] : List UInt64) ([] : List SealR) bl) = tg))) = true from (FE _ _ _ _ _ _ _ _)] <;> rfl) rfl)⟩, trivial⟩ ?_
   refine CC (F' := [(90, .bool false), (4, .bool false), (5, Ptr nb3 0), (7, Ptr nb4 0), (8, .nilIface), (9, Slc nb5 0 (tot + 16) cp1), (10, .nilIface), (12, Ptr nb6 0)]) (by kernel_rfl) ?_
   refine K_pick [2, 3, 4, 5] (by decide) ?_
   show JQ _ _ _ _ [_, _, _, _]
   refine JQ_cut false rfl (Sub.cons rfl (Sub.cons rfl (Sub.cons rfl (Sub.cons rfl (Sub.cons rfl (Sub.cons rfl (Sub.cons rfl (Sub.cons rfl (Sub.nil))))))))) rfl
  ·
   have hp1 : ¬ (chkG key pv ep k ([] : List UInt64) ([] : List SealR) bl tg = 0) := of_decide_eq_false hb1
   refine CQ 109 2 [(0, errV 50 (chkG key pv ep k ([] : List UInt64) ([] : List SealR) bl tg)), (1, .bool (decide (chkG key pv ep k ([] : List UInt64) ([] : List SealR) bl tg = 0))), (2, Ptr nb6 6), (3, .agg (cu8 (tkG key pv ep k ([] : List UInt64) ([] : List SealR) bl)).toArray), (4, Ptr nb3 6), (5, .agg (cu8 tg).toArray), (6, .bool (decide ((tkG key pv ep k ([] : List UInt64) ([] : List SealR) bl) = tg))), (7, .bool (!((decide (chkG key pv ep k ([] : List UInt64) ([] : List SealR) bl tg = 0)) == (decide ((tkG key pv ep k ([] : List UInt64) ([] : List SealR) bl) = tg))))), (8, .bool (!((decide (chkG key pv ep k ([] : List UInt64) ([] : List SealR) bl tg = 0)) == (decide ((tkG key pv ep k ([] : List UInt64) ([] : List SealR) bl) = tg))))), (9, errV 50 (chkG key pv ep k ([] : List UInt64) ([] : List SealR) bl tg)), (10, .bool (!(decide (chkG key pv ep k ([] : List UInt64) ([] : List SealR) bl tg = 0)))), (11, .bool (!(decide (chkG key pv ep k ([] : List UInt64) ([] : List SealR) bl tg = 0)))), (12, errV 50 (chkG key pv ep k ([] : List UInt64) ([] : List SealR) bl tg))] BQ rfl (by decide +kernel) ?_
   refine BR ⟨[], [0, 1, 2, 3, 4, 5, 6, 7, 8, 9, 10, 11, 12], [], [0, 1, 2, 3, 4, 5, 6, 7, 8, 9, 10, 11, 12], [13]⟩ 13 _ rfl rfl (by decide +kernel) rfl ⟨⟨_, rfl, AB rfl (AD rfl)⟩, ⟨_, rfl, AB rfl (DC _ _ _ rfl rfl (fun _ => C5 ..) fun _ => eql_errV BB _ _)⟩, ⟨_, rfl, AB rfl (AC 6 27 16 A4 rfl A1 rfl rfl)⟩, ⟨_, rfl, AB rfl (AK rfl (BH C2 A1 (CG (CO _ _ _ _ _ _ _)) (MemAt.ent 5 rfl (Seg.right 6 0 rfl rfl (AM _)))))⟩, ⟨_, rfl, AB rfl (AC 6 27 16 A4 rfl A1 rfl rfl)⟩, ⟨_, rfl, AB rfl (AK rfl (BH C2 A1 (CG htg) (MemAt.ent 2 rfl (Seg.right 6 0 rfl rfl (AM _)))))⟩, ⟨_, rfl, AB rfl (DC _ _ _ rfl rfl (fun _ => E9 _ _ _ _ _ _ (by kernel_rfl)) fun _ => eql_arr8 BC BY DU E1 FO (by simp [(CO _ _ _ _ _ _ _)]) (by simp [htg]))⟩, ⟨_, rfl, AB rfl (DC _ _ _ rfl rfl (fun _ => F2 ..) fun _ => neq_bool Tryd.underlying4)⟩, ⟨_, rfl, AB rfl (AD rfl)⟩, ⟨_, rfl, BS 8 82 false _ rfl rfl rfl (by rw [show ((decide (chkG key pv ep k ([] : List UInt64) ([] : List SealR) bl tg = 0)) == (decide ((tkG key pv ep k ([] : List UInt64) ([] : List SealR) bl) = tg))) = true from (FE _ _ _ _ _ _ _ _)] <;> rfl) (AD rfl)⟩, ⟨_, rfl, BS 8 82 false _ rfl rfl rfl (by rw [show ((decide (chkG key pv ep k ([] : List UInt64) ([] : List SealR) bl tg = 0)) == (decide ((tkG key pv ep k ([] : List UInt64) ([] : List SealR) bl) = tg))) = true from (FE _ _ _ _ _ _ _ _)] <;> rfl) (DC _ _ _ rfl rfl (fun _ => C5 ..) fun _ => EW BB _ _)⟩, ⟨_, rfl, BS 8 82 false _ rfl rfl rfl (by rw [show ((decide (chkG key pv ep k ([] : List UInt64) ([] : List SealR) bl tg = 0)) == (decide ((tkG key pv ep k ([] : List UInt64) ([] : List SealR) bl) = tg))) = true from (FE _ _ _ _ _ _ _ _)] <;> rfl) (AD rfl)⟩, ⟨_, rfl, BS 11 85 true _ rfl rfl rfl (by rw [show (decide (chkG key pv ep k ([] : List UInt64) ([] : List SealR) bl tg = 0)) = false from hb1] <;> rfl) (AD rfl)⟩, trivial⟩ rfl (FD 11 85 true _ rfl rfl rfl (by rw [show (decide (chkG key pv ep k ([] : List UInt64) ([] : List SealR) bl tg = 0)) = false from hb1] <;> rfl) (A3 23 [errV 50 (chkG key pv ep k ([] : List UInt64) ([] : List SealR) bl tg), I64 (4:Int)] (.bool (decide ((chkG key pv ep k ([] : List UInt64) ([] : List SealR) bl tg:Int) = (4:Int)))) (A0 [errV 50 (chkG key pv ep k ([] : List UInt64) ([] : List SealR) bl tg), I64 (4:Int)] Tryd.call23 rfl) (fun w1 hw1 => is_c (chkG key pv ep k ([] : List UInt64) ([] : List SealR) bl tg) 4 w1))) ?_
   rintro v1 L1 ⟨rfl, rfl⟩
   refine ⟨[(14, .bool (!(decide ((chkG key pv ep k ([] : List UInt64) ([] : List SealR) bl tg:Int) = (4:Int))))), (15, .bool (!(decide ((chkG key pv ep k ([] : List UInt64) ([] : List SealR) bl tg:Int) = (4:Int))))), (16, .bool (!(decide ((chkG key pv ep k ([] : List UInt64) ([] : List SealR) bl tg:Int) = (4:Int)))))], ?_⟩
   show DP _ _ _ _ _ _ _ _ [_, _, _, _, _, _]
   refine CZ ⟨[13], [0, 1, 2, 3, 4, 5, 6, 7, 8, 9, 10, 11, 12, 14, 15, 16], [0, 1, 2, 3, 4, 5, 6, 7, 8, 9, 10, 11, 12], [14, 15, 16], []⟩ rfl rfl (by decide +kernel) rfl ⟨⟨_, rfl, BS 11 85 true _ rfl rfl rfl (by rw [show (decide (chkG key pv ep k ([] : List UInt64) ([] : List SealR) bl tg = 0)) = false from hb1] <;> rfl) (FK rfl)⟩, ⟨_, rfl, BS 8 82 false _ rfl rfl rfl (by rw [show ((decide (chkG key pv ep k ([] : List UInt64) ([] : List SealR) bl tg = 0)) == (decide ((tkG key pv ep k ([] : List UInt64) ([] : List SealR) bl) = tg))) = true from (FE _ _ _ _ _ _ _ _)] <;> rfl) (B0 _ rfl (by rw [show (decide (chkG key pv ep k ([] : List UInt64) ([] : List SealR) bl tg = 0)) = false from hb1] <;> rfl) rfl)⟩, ⟨_, rfl, AB rfl (BM _ rfl (by rw [show ((decide (chkG key pv ep k ([] : List UInt64) ([] : List SealR) bl tg = 0)) == (decide ((tkG key pv ep k ([] : List UInt64) ([] : List SealR) bl) = tg))) = true from (FE _ _ _ _ _ _ _ _)] <;> rfl) rfl)⟩, trivial⟩ ?_
   refine CC (F' := [(90, .bool (!(decide ((chkG key pv ep k ([] : List UInt64) ([] : List SealR) bl tg:Int) = (4:Int))))), (4, .bool false), (5, Ptr nb3 0), (7, Ptr nb4 0), (8, .nilIface), (9, Slc nb5 0 (tot + 16) cp1), (10, .nilIface), (12, Ptr nb6 0)]) (by kernel_rfl) ?_
   refine K_pick [2, 3, 4, 5] (by decide) ?_
   show JQ _ _ _ _ [_, _, _, _]
   refine JQ_cut (!(decide ((chkG key pv ep k ([] : List UInt64) ([] : List SealR) bl tg:Int) = (4:Int)))) (by rw [show (decide ((chkG key pv ep k ([] : List UInt64) ([] : List SealR) bl tg:Int) = (4:Int))) = true from (decide_eq_true (by rw [chk_four (of_decide_eq_false hb1)]; rfl))] <;> rfl) (Sub.cons rfl (Sub.cons rfl (Sub.cons rfl (Sub.cons rfl (Sub.cons rfl (Sub.cons rfl (Sub.cons rfl (Sub.cons rfl (Sub.nil))))))))) rfl
 ·
  rintro yb0 hy1
  show JQ _ _ _ [(4, .bool false), (5, Ptr nb3 0), (7, Ptr nb4 0), (8, .nilIface), (9, Slc nb5 0 (tot + 16) cp1), (10, .nilIface), (12, Ptr nb6 0), (90, .bool yb0)] [⟨nb3, [U64 pv, U64 ep, I64 ((k:Int)), .slice ai 0 ci, .slice none 0 0, U64 bl] ++ cu8 tg, 38, (0, 0)⟩, ⟨nb4, [U64 pv, U64 ep, I64 ((k:Int)), .slice ao1 0 ca1, .slice ao2 0 ca2, U64 bl] ++ cu8 (tkG key pv ep k ([] : List UInt64) ([] : List SealR) bl), 29, (0, 0)⟩, ⟨nb5, cu8 ((tktT pv ep k ([] : List UInt64) ([] : List SealR) bl) ++ tg) ++ sp1, 5, (0, 0)⟩, ⟨nb6, [U64 pv, U64 ep, I64 ((k:Int)), .slice ai 0 ci, .slice none 0 0, U64 bl] ++ cu8 (tkG key pv ep k ([] : List UInt64) ([] : List SealR) bl), 38, (0, 0)⟩]
  refine AF (C0 _ rfl hy1 ?_)
  refine B4 (AF (AL (CQ 109 5 [(0, .nilIface), (1, .bool true), (2, .bool true), (3, .nilIface), (4, .bool true), (5, .bool true), (6, .bool true), (7, .agg (List.toArray (α := Value) ([U64 pv, U64 ep, I64 ((k:Int)), .slice ao1 0 ca1, .slice ao2 0 ca2, U64 bl] ++ cu8 (tkG key pv ep k ([] : List UInt64) ([] : List SealR) bl)))), (9, .agg (List.toArray (α := Value) ([U64 pv, U64 ep, I64 ((k:Int)), .slice ai 0 ci, .slice none 0 0, U64 bl] ++ cu8 (tkG key pv ep k ([] : List UInt64) ([] : List SealR) bl))))] BQ rfl (by decide +kernel) ?_)))
  refine BR ⟨[], [0, 1, 2, 3, 4, 5, 6, 7, 9], [], [0, 1, 2, 3, 4, 5, 6, 7, 9], [8]⟩ 8 _ rfl rfl (by decide +kernel) rfl ⟨⟨_, rfl, AB rfl (AD rfl)⟩, ⟨_, rfl, AB rfl (DC _ _ _ rfl rfl (fun _ => EC ..) fun _ => ER BB)⟩, ⟨_, rfl, AB rfl (AD rfl)⟩, ⟨_, rfl, BS 2 93 true _ rfl rfl rfl rfl (AD rfl)⟩, ⟨_, rfl, BS 2 93 true _ rfl rfl rfl rfl (DC _ _ _ rfl rfl (fun _ => EC ..) fun _ => ER BB)⟩, ⟨_, rfl, AB rfl (B0 _ rfl rfl rfl)⟩, ⟨_, rfl, AB rfl (AD rfl)⟩, ⟨_, rfl, BS 6 97 true _ rfl rfl rfl rfl (AK rfl (BH BE AW (by simp [(CO _ _ _ _ _ _ _)]) (MemAt.ent 1 rfl (AM _))))⟩, ⟨_, rfl, BS 6 97 true _ rfl rfl rfl rfl (AK rfl (BH DO CM (by simp [(CO _ _ _ _ _ _ _)]) (MemAt.ent 3 rfl (AM _))))⟩, trivial⟩ rfl (FD 6 97 true _ rfl rfl rfl rfl (A3 44 [.agg (List.toArray (α := Value) ([U64 pv, U64 ep, I64 ((k:Int)), .slice ao1 0 ca1, .slice ao2 0 ca2, U64 bl] ++ cu8 (tkG key pv ep k ([] : List UInt64) ([] : List SealR) bl)))] (.agg (List.toArray (α := Value) ([U64 pv, U64 ep, I64 ((k:Int)), .slice ao1 0 ca1, .slice none 0 0, U64 bl] ++ cu8 (tkG key pv ep k ([] : List UInt64) ([] : List SealR) bl)))) (A0 [.agg (List.toArray (α := Value) ([U64 pv, U64 ep, I64 ((k:Int)), .slice ao1 0 ca1, .slice ao2 0 ca2, U64 bl] ++ cu8 (tkG key pv ep k ([] : List UInt64) ([] : List SealR) bl)))] Tryd.call44 rfl) (fun w1 hw1 => docTZ_c pv ep ((k:Int)) ao1 0 ca1 ([] : List UInt64) ao2 ca2 bl (tkG key pv ep k ([] : List UInt64) ([] : List SealR) bl) w1 rfl (by omega) (by omega) (by omega) RdV.nil (by omega) hc4 (CO _ _ _ _ _ _ _)))) ?_
  rintro v1 L1 ⟨rfl, rfl⟩
  refine ⟨[], ?_⟩
  show DP _ _ _ _ _ _ _ _ [_, _, _, _]
  refine BR ⟨[8], [0, 1, 2, 3, 4, 5, 6, 7, 9], [0, 1, 2, 3, 4, 5, 6, 7], [9], [10]⟩ 10 _ rfl rfl (by decide +kernel) rfl ⟨⟨_, rfl, BS 6 97 true _ rfl rfl rfl rfl (AK rfl (BH DO CM (by simp [(CO _ _ _ _ _ _ _)]) (MemAt.ent 3 rfl (AM _))))⟩, trivial⟩ rfl (FD 6 97 true _ rfl rfl rfl rfl (A3 51 [.agg (List.toArray (α := Value) ([U64 pv, U64 ep, I64 ((k:Int)), .slice ao1 0 ca1, .slice none 0 0, U64 bl] ++ cu8 (tkG key pv ep k ([] : List UInt64) ([] : List SealR) bl))), .agg (List.toArray (α := Value) ([U64 pv, U64 ep, I64 ((k:Int)), .slice ai 0 ci, .slice none 0 0, U64 bl] ++ cu8 (tkG key pv ep k ([] : List UInt64) ([] : List SealR) bl)))] (.bool (decide (pv = pv ∧ ep = ep ∧ (tkG key pv ep k ([] : List UInt64) ([] : List SealR) bl) = (tkG key pv ep k ([] : List UInt64) ([] : List SealR) bl) ∧ ((k:Int)) = ((k:Int)) ∧ bl = bl ∧ ([] : List UInt64) = ([] : List UInt64) ∧ ([] : List SealR) = ([] : List SealR)))) (A0 [.agg (List.toArray (α := Value) ([U64 pv, U64 ep, I64 ((k:Int)), .slice ao1 0 ca1, .slice none 0 0, U64 bl] ++ cu8 (tkG key pv ep k ([] : List UInt64) ([] : List SealR) bl))), .agg (List.toArray (α := Value) ([U64 pv, U64 ep, I64 ((k:Int)), .slice ai 0 ci, .slice none 0 0, U64 bl] ++ cu8 (tkG key pv ep k ([] : List UInt64) ([] : List SealR) bl)))] Tryd.call51 rfl) (fun w1 hw1 => rsame13_c pv ep ((k:Int)) ao1 0 ca1 ([] : List UInt64) none 0 0 ([] : List SealR) bl (tkG key pv ep k ([] : List UInt64) ([] : List SealR) bl) pv ep ((k:Int)) ai 0 ci ([] : List UInt64) none 0 0 ([] : List SealR) bl (tkG key pv ep k ([] : List UInt64) ([] : List SealR) bl) w1 rfl (by omega) (by omega) (by omega) RdV.nil rfl (by omega) (by omega) (by omega) RdV.nil (CO _ _ _ _ _ _ _) rfl (by omega) (by omega) (by omega) RdV.nil rfl (by omega) (by omega) (by omega) RdV.nil (CO _ _ _ _ _ _ _)))) ?_
  rintro v1 L1 ⟨rfl, rfl⟩
  refine ⟨[(11, .bool (decide (pv = pv ∧ ep = ep ∧ (tkG key pv ep k ([] : List UInt64) ([] : List SealR) bl) = (tkG key pv ep k ([] : List UInt64) ([] : List SealR) bl) ∧ ((k:Int)) = ((k:Int)) ∧ bl = bl ∧ ([] : List UInt64) = ([] : List UInt64) ∧ ([] : List SealR) = ([] : List SealR)))), (12, .bool (decide (pv = pv ∧ ep = ep ∧ (tkG key pv ep k ([] : List UInt64) ([] : List SealR) bl) = (tkG key pv ep k ([] : List UInt64) ([] : List SealR) bl) ∧ ((k:Int)) = ((k:Int)) ∧ bl = bl ∧ ([] : List UInt64) = ([] : List UInt64) ∧ ([] : List SealR) = ([] : List SealR)))), (13, Slc nb5 0 (tot + 16) cp1), (14, .agg (List.toArray (α := Value) ([U64 pv, U64 ep, I64 ((k:Int)), .slice ai 0 ci, .slice none 0 0, U64 bl] ++ cu8 tg)))], ?_⟩
  show DP _ _ _ _ _ _ _ _ [_, _, _, _]
  refine BR ⟨[8, 10], [0, 1, 2, 3, 4, 5, 6, 7, 9, 11, 12, 13, 14], [0, 1, 2, 3, 4, 5, 6, 7, 9], [11, 12, 13, 14], [15]⟩ 15 _ rfl rfl (by decide +kernel) rfl ⟨⟨_, rfl, AB rfl (B0 _ rfl rfl rfl)⟩, ⟨_, rfl, AB rfl (AD rfl)⟩, ⟨_, rfl, BS 12 103 true _ rfl rfl rfl (decide_eq_true ⟨rfl, rfl, rfl, rfl, rfl, rfl, rfl⟩) (AD rfl)⟩, ⟨_, rfl, BS 12 103 true _ rfl rfl rfl (decide_eq_true ⟨rfl, rfl, rfl, rfl, rfl, rfl, rfl⟩) (AK rfl (BH DO CM (by simp [htg]) (MemAt.ent 0 rfl (AM _))))⟩, trivial⟩ rfl (FD 12 103 true _ rfl rfl rfl (decide_eq_true ⟨rfl, rfl, rfl, rfl, rfl, rfl, rfl⟩) (BG 52 [.agg (List.toArray (α := Value) ([U64 pv, U64 ep, I64 ((k:Int)), .slice ai 0 ci, .slice none 0 0, U64 bl] ++ cu8 tg))] _ (A0 [.agg (List.toArray (α := Value) ([U64 pv, U64 ep, I64 ((k:Int)), .slice ai 0 ci, .slice none 0 0, U64 bl] ++ cu8 tg))] Tryd.call52 rfl) (fun w1 hw1 => rput13_c pv ep k ai 0 ci ([] : List UInt64) none 0 0 ([] : List SealR) bl tg tot w1 rfl (by omega) (by omega) (by omega) RdV.nil rfl (by omega) (by omega) (by omega) RdV.nil htg hmay (by omega) (by omega) htot (by omega)))) ?_
  rintro v1 L1 ⟨_, ⟨nb7, sp2, cp2, rfl, rfl, hc8, hc9, hc10⟩, rfl⟩
  refine ⟨[], ?_⟩
  show DP _ _ _ _ _ _ _ _ [_, _, _, _, ⟨nb7, cu8 ((tktT pv ep k ([] : List UInt64) ([] : List SealR) bl) ++ tg) ++ sp2, 5, (0, 0)⟩]
  refine BR ⟨[8, 10, 15], [0, 1, 2, 3, 4, 5, 6, 7, 9, 11, 12, 13, 14], [0, 1, 2, 3, 4, 5, 6, 7, 9, 11, 12, 14], [13], [16]⟩ 16 _ rfl rfl (by decide +kernel) rfl ⟨⟨_, rfl, BS 12 103 true _ rfl rfl rfl (decide_eq_true ⟨rfl, rfl, rfl, rfl, rfl, rfl, rfl⟩) (AD rfl)⟩, trivial⟩ rfl (FD 12 103 true _ rfl rfl rfl (decide_eq_true ⟨rfl, rfl, rfl, rfl, rfl, rfl, rfl⟩) (A3 24 [Slc nb5 0 (tot + 16) cp1, Slc nb7 0 (tot + 16) cp2] (.bool (decide (((tktT pv ep k ([] : List UInt64) ([] : List SealR) bl) ++ tg) = ((tktT pv ep k ([] : List UInt64) ([] : List SealR) bl) ++ tg)))) (A0 [Slc nb5 0 (tot + 16) cp1, Slc nb7 0 (tot + 16) cp2] Tryd.call24 rfl) (fun w1 hw1 => bytes_c (some ⟨nb5, 0, none⟩) (some ⟨nb7, 0, none⟩) (tot + 16) (tot + 16) cp1 cp2 ((tktT pv ep k ([] : List UInt64) ([] : List SealR) bl) ++ tg) ((tktT pv ep k ([] : List UInt64) ([] : List SealR) bl) ++ tg) w1 (show ((tktT pv ep k ([] : List UInt64) ([] : List SealR) bl) ++ tg).length = (tot + 16) from (by rw [List.length_append, ((D5 rfl rfl).trans htot), htg])) (show ((tktT pv ep k ([] : List UInt64) ([] : List SealR) bl) ++ tg).length = (tot + 16) from (by rw [List.length_append, ((D5 rfl rfl).trans htot), htg])) (RdB.of hw1 (MemAt.ent 2 rfl (A2 (AM _))) (by simp)) (RdB.of hw1 (MemAt.ent 4 rfl (A2 (AM _))) (by simp))))) ?_
  rintro v1 L1 ⟨rfl, rfl⟩
  refine ⟨[(17, .bool (decide (((tktT pv ep k ([] : List UInt64) ([] : List SealR) bl) ++ tg) = ((tktT pv ep k ([] : List UInt64) ([] : List SealR) bl) ++ tg)))), (18, .bool (decide (((tktT pv ep k ([] : List UInt64) ([] : List SealR) bl) ++ tg) = ((tktT pv ep k ([] : List UInt64) ([] : List SealR) bl) ++ tg))))], ?_⟩
  show DP _ _ _ _ _ _ _ _ [_, _, _, _, _]
  refine CZ ⟨[8, 10, 15, 16], [0, 1, 2, 3, 4, 5, 6, 7, 9, 11, 12, 13, 14, 17, 18], [0, 1, 2, 3, 4, 5, 6, 7, 9, 11, 12, 13, 14], [17, 18], []⟩ rfl rfl (by decide +kernel) rfl ⟨⟨_, rfl, AB rfl (B0 _ rfl (decide_eq_true ⟨rfl, rfl, rfl, rfl, rfl, rfl, rfl⟩) rfl)⟩, ⟨_, rfl, AB rfl (AH rfl)⟩, trivial⟩ ?_
  refine CC (F' := [(4, .bool (decide (((tktT pv ep k ([] : List UInt64) ([] : List SealR) bl) ++ tg) = ((tktT pv ep k ([] : List UInt64) ([] : List SealR) bl) ++ tg))))]) (by kernel_rfl) ?_
  refine AF (BO (B8 [false, false, false, false, false] ?_))
  show JQ _ _ _ _ []
  refine BP (.bool (decide (((tktT pv ep k ([] : List UInt64) ([] : List SealR) bl) ++ tg) = ((tktT pv ep k ([] : List UInt64) ([] : List SealR) bl) ++ tg)))) (res1 Tryd.results9 (BT rfl)) fun w1 hw1 => ?_
  exact ⟨_, [], rfl, ⟨by rw [show (decide (((tktT pv ep k ([] : List UInt64) ([] : List SealR) bl) ++ tg) = ((tktT pv ep k ([] : List UInt64) ([] : List SealR) bl) ++ tg))) = true from (decide_eq_true rfl)], rfl⟩, hw1.sub (by simp) (by simp)⟩
theorem tsBP_c (key : List UInt8) (pv ep : UInt64) (kd : Int) (ai : Option Addr) (ni ci : Nat) (l : List UInt64) (sa : Option Addr) (ns sc : Nat) (ls : List SealR) (bl : UInt64) (tg : List UInt8)  (w : World) (hk32 : key.length = 32) (hl : l.length = ni) (hnm : ni ≤ 2000000) (hnc : ni ≤ ci) (hcm : ci ≤ maxLen) (hv : RdV w ai (cu64 l)) (hls : ls.length = ns) (hnn : ns ≤ 2000000) (hnd : ns ≤ sc) (hcn : sc ≤ maxLen) (hs : RdV w sa (ls.flatMap sealC)) (hnI : ai = none → ci = 0) (hnS : sa = none → sc = 0) (htg : tg.length = 16) (hp0 : 0 < ns) (hG : GLs w) (hGr : GLr w) (hGi : GLi w) (hm : mayN pv ep kd l ls bl ≠ 0) (hlg : ¬ LargeP ni ns)  : Calls Tryd.prog 9 #[.agg (cu8 key).toArray, .agg (List.toArray (α := Value) ([U64 pv, U64 ep, I64 (kd), .slice ai ni ci, .slice sa ns sc, U64 bl] ++ cu8 tg))] w (Post w [] (fun v L => v = .bool true ∧ L = [])) := by
 have hmx : maxLen = 9223372036854775807 := rfl
 refine enter (P := Tryd.prog) (f := 9) (fn := Tryd.f9) w [] 109 [] [.agg (cu8 key).toArray, .agg (List.toArray (α := Value) ([U64 pv, U64 ep, I64 (kd), .slice ai ni ci, .slice sa ns sc, U64 bl] ++ cu8 tg))] Tryd.func9 rfl rfl (by simp) (B7 (by simp) (by simp) (by simp)) ?_
 show JC _ _ _ [(0, .agg (cu8 key).toArray), (1, .agg (List.toArray (α := Value) ([U64 pv, U64 ep, I64 (kd), .slice ai ni ci, .slice sa ns sc, U64 bl] ++ cu8 tg)))] _
 refine AL (AE (AR (CN (.agg (cu8 key).toArray) (cu8 key) rfl (by first | rfl | simp)) rfl ?_))
 rintro v1 L1 ⟨nb1, hnb1, rfl, rfl⟩
 show JL _ _ _ _ ((2, Ptr nb1 0) :: _) [⟨nb1, cu8 key, 54, (0, 0)⟩]
 refine AR (CN (.agg (List.toArray (α := Value) ([U64 pv, U64 ep, I64 (kd), .slice ai ni ci, .slice sa ns sc, U64 bl] ++ cu8 tg))) ([U64 pv, U64 ep, I64 (kd), .slice ai ni ci, .slice sa ns sc, U64 bl] ++ cu8 tg) rfl (by first | rfl | simp)) rfl ?_
 rintro v1 L1 ⟨nb2, hnb2, rfl, rfl⟩
 show JL _ _ _ _ ((3, Ptr nb2 0) :: _) [_, ⟨nb2, [U64 pv, U64 ep, I64 (kd), .slice ai ni ci, .slice sa ns sc, U64 bl] ++ cu8 tg, 29, (0, 0)⟩]
 refine AA _ (AH rfl) rfl ?_
 refine AN (AF (AL (AL (AE (AR (A3 43 [] (.bool true) (A0 [] Tryd.call43 rfl) (fun w1 hw1 => alive13_c  w1 (hG.at hw1))) rfl ?_)))))
 rintro v1 L1 ⟨rfl, rfl⟩
 show JL _ _ _ _ ((13, .bool true) :: _) [_, _]
 refine AA (.bool (!true)) (FK rfl) rfl ?_
 refine AN (AF (C0 _ rfl rfl ?_))
 refine B4 (AF (AL (AL (AE (AA (Ptr nb2 2) (AC 2 26 4 AS rfl BI rfl rfl) rfl ?_)))))
 refine AA (.agg (List.toArray (α := Value) ([I64 (kd), .slice ai ni ci, .slice sa ns sc, U64 bl]))) (AK rfl (BH DE BI rfl (MemAt.ent 1 rfl (D9 (p := [U64 pv, U64 ep]) (q := cu8 tg) (vs := [I64 (kd), .slice ai ni ci, .slice sa ns sc, U64 bl]) (by first | rfl | (simp only [List.append_assoc, List.nil_append, List.append_nil, List.cons_append]; done)) rfl)))) rfl ?_
 refine AR (A3 18 [.agg (List.toArray (α := Value) ([I64 (kd), .slice ai ni ci, .slice sa ns sc, U64 bl]))] (.bool (decide (LargeP ni ns))) (A0 [.agg (List.toArray (α := Value) ([I64 (kd), .slice ai ni ci, .slice sa ns sc, U64 bl]))] Tryd.call18 rfl) (fun w1 hw1 => large_c (kd) ai ni ci l sa ns sc ls bl w1 )) rfl ?_
 rintro v1 L1 ⟨rfl, rfl⟩
 show JL _ _ _ _ ((17, .bool (decide (LargeP ni ns))) :: _) [_, _]
 refine AN (AF (C0 _ rfl (decide_eq_false hlg) ?_))
 refine B4 (AF (AL (AE (AA (.agg (List.toArray (α := Value) ([U64 pv, U64 ep, I64 (kd), .slice ai ni ci, .slice sa ns sc, U64 bl] ++ cu8 tg))) (AK rfl (BH BE AW (by simp [htg]) (MemAt.ent 1 rfl (AM _)))) rfl ?_))))
 refine AR (BG 44 [.agg (List.toArray (α := Value) ([U64 pv, U64 ep, I64 (kd), .slice ai ni ci, .slice sa ns sc, U64 bl] ++ cu8 tg))] _ (A0 [.agg (List.toArray (α := Value) ([U64 pv, U64 ep, I64 (kd), .slice ai ni ci, .slice sa ns sc, U64 bl] ++ cu8 tg))] Tryd.call44 rfl) (fun w1 hw1 => docTP_c pv ep (kd) ai ni ci l sa ns sc ls bl tg w1 hl (by omega) (by omega) (by omega) (C1 hw1 rfl hv) hls (by omega) (by omega) (by omega) (C1 hw1 rfl hs) (by omega) htg)) rfl ?_
 rintro v1 L1 ⟨_, ⟨nb3, sp1, cp1, rfl, rfl, hc1, hc2, hc3⟩, rfl⟩
 show JL _ _ _ _ ((19, .agg (List.toArray (α := Value) ([U64 pv, U64 ep, I64 (kd), .slice ai ni ci, Slc nb3 0 ns cp1, U64 bl] ++ cu8 tg))) :: _) [_, _, ⟨nb3, ls.flatMap sealC ++ sp1, 164, (0, 0)⟩]
 refine AR (BJ _ ([U64 (0:UInt64), U64 (0:UInt64), I64 (0:Int), .slice none 0 0, .slice none 0 0, U64 (0:UInt64)] ++ cu8 (zr8 16)) ET (by kernel_rfl)) rfl ?_
 rintro v1 L1 ⟨nb4, hnb4, rfl, rfl⟩
 show JL _ _ _ _ ((5, Ptr nb4 0) :: _) [_, _, _, ⟨nb4, [U64 (0:UInt64), U64 (0:UInt64), I64 (0:Int), .slice none 0 0, .slice none 0 0, U64 (0:UInt64)] ++ cu8 (zr8 16), 38, (0, 0)⟩]
 refine AR (A6 3 nb4 0 22 ([U64 (0:UInt64), U64 (0:UInt64), I64 (0:Int), .slice none 0 0, .slice none 0 0, U64 (0:UInt64)] ++ cu8 (zr8 16)) 38 (.agg (List.toArray (α := Value) ([U64 pv, U64 ep, I64 (kd), .slice ai ni ci, Slc nb3 0 ns cp1, U64 bl] ++ cu8 tg))) ([U64 pv, U64 ep, I64 (kd), .slice ai ni ci, Slc nb3 0 ns cp1, U64 bl] ++ cu8 tg) ([U64 pv, U64 ep, I64 (kd), .slice ai ni ci, Slc nb3 0 ns cp1, U64 bl] ++ cu8 tg) rfl rfl rfl (by first | rfl | simp) CM (by simp [htg]) (DA (by simp [Value.oneCell']) CK) (by simp [(AP 16)]) (BF (by simp [(AP 16), htg]))) rfl ?_
 rintro v1 L1 ⟨rfl, rfl⟩
 show JL _ _ _ _ _ [_, _, _, ⟨nb4, [U64 pv, U64 ep, I64 (kd), .slice ai ni ci, Slc nb3 0 ns cp1, U64 bl] ++ cu8 tg, 38, (0, 0)⟩]
 refine AN (AF (AL (AE (AA (.agg (List.toArray (α := Value) ([U64 pv, U64 ep, I64 (kd), .slice ai ni ci, Slc nb3 0 ns cp1, U64 bl] ++ cu8 tg))) (AK rfl (BH DO CM (by simp [htg]) (MemAt.ent 3 rfl (AM _)))) rfl ?_))))
 refine AR (A3 45 [.agg (List.toArray (α := Value) ([U64 pv, U64 ep, I64 (kd), .slice ai ni ci, Slc nb3 0 ns cp1, U64 bl] ++ cu8 tg))] (I64 (((mayN pv ep (kd) l ls bl):Int))) (A0 [.agg (List.toArray (α := Value) ([U64 pv, U64 ep, I64 (kd), .slice ai ni ci, Slc nb3 0 ns cp1, U64 bl] ++ cu8 tg))] Tryd.call45 rfl) (fun w1 hw1 => rmay13_c pv ep (kd) ai ni ci l (some ⟨nb3, 0, none⟩) ns cp1 ls bl tg w1 hl (by omega) (by omega) (by omega) (C1 hw1 rfl hv) hls (by omega) (by omega) (by omega) (RdV.of hw1 (MemAt.ent 2 rfl (A2 (AM _)))) htg)) rfl ?_
 rintro v1 L1 ⟨rfl, rfl⟩
 show JL _ _ _ _ ((21, I64 (((mayN pv ep (kd) l ls bl):Int))) :: _) [_, _, _, _]
 refine AA _ (AH rfl) rfl ?_
 refine AN (AF (AL (AE (AA (.agg (cu8 key).toArray) (AK rfl (BH D0 CD (CG hk32) (MemAt.ent 0 rfl (AM _)))) rfl ?_))))
 refine AA (Ptr nb2 0) (AC 0 22 1 AS rfl AT rfl rfl) rfl ?_
 refine AA (U64 pv) (AK rfl (AV AU (MemAt.ent 1 rfl (A2 (Seg.head))))) rfl ?_
 refine AA (Ptr nb2 1) (AC 1 22 1 AS rfl AT rfl rfl) rfl ?_
 refine AA (U64 ep) (AK rfl (AV AU (MemAt.ent 1 rfl (A2 (AJ (Seg.head)))))) rfl ?_
 refine AA (Ptr nb2 2) (AC 2 26 4 AS rfl BI rfl rfl) rfl ?_
 refine AA (.agg (List.toArray (α := Value) ([I64 (kd), .slice ai ni ci, .slice sa ns sc, U64 bl]))) (AK rfl (BH DE BI rfl (MemAt.ent 1 rfl (D9 (p := [U64 pv, U64 ep]) (q := cu8 tg) (vs := [I64 (kd), .slice ai ni ci, .slice sa ns sc, U64 bl]) (by first | rfl | (simp only [List.append_assoc, List.nil_append, List.append_nil, List.cons_append]; done)) rfl)))) rfl ?_
 refine AR (A3 46 [.agg (cu8 key).toArray, U64 pv, U64 ep, .agg (List.toArray (α := Value) ([I64 (kd), .slice ai ni ci, .slice sa ns sc, U64 bl]))] (.tuple #[.agg (List.toArray (α := Value) ([U64 (0:UInt64), U64 (0:UInt64), I64 (0:Int), .slice none 0 0, .slice none 0 0, U64 (0:UInt64)] ++ cu8 (zr8 16))), errV 50 (mayN pv ep (kd) l ls bl)]) (A0 [.agg (cu8 key).toArray, U64 pv, U64 ep, .agg (List.toArray (α := Value) ([I64 (kd), .slice ai ni ci, .slice sa ns sc, U64 bl]))] Tryd.call46 rfl) (fun w1 hw1 => signB_w key pv ep (kd) ai ni ci l sa ns sc ls bl w1 hk32 hl (by omega) (by omega) (by omega) (C1 hw1 rfl hv) hls (by omega) (by omega) (by omega) (C1 hw1 rfl hs) hnI hnS hm)) rfl ?_
 rintro v1 L1 ⟨rfl, rfl⟩
 show JL _ _ _ _ ((30, .tuple #[.agg (List.toArray (α := Value) ([U64 (0:UInt64), U64 (0:UInt64), I64 (0:Int), .slice none 0 0, .slice none 0 0, U64 (0:UInt64)] ++ cu8 (zr8 16))), errV 50 (mayN pv ep (kd) l ls bl)]) :: _) [_, _, _, _]
 refine AA _ (AD rfl) rfl ?_
 refine AA _ (BN rfl rfl) rfl ?_
 refine AA _ (BN rfl rfl) rfl ?_
 refine AR (BJ _ ([U64 (0:UInt64), U64 (0:UInt64), I64 (0:Int), .slice none 0 0, .slice none 0 0, U64 (0:UInt64)] ++ cu8 (zr8 16)) B9 (by kernel_rfl)) rfl ?_
 rintro v1 L1 ⟨nb5, hnb5, rfl, rfl⟩
 show JL _ _ _ _ ((7, Ptr nb5 0) :: _) [_, _, _, _, ⟨nb5, [U64 (0:UInt64), U64 (0:UInt64), I64 (0:Int), .slice none 0 0, .slice none 0 0, U64 (0:UInt64)] ++ cu8 (zr8 16), 29, (0, 0)⟩]
 refine AR (A6 4 nb5 0 22 ([U64 (0:UInt64), U64 (0:UInt64), I64 (0:Int), .slice none 0 0, .slice none 0 0, U64 (0:UInt64)] ++ cu8 (zr8 16)) 29 (.agg (List.toArray (α := Value) ([U64 (0:UInt64), U64 (0:UInt64), I64 (0:Int), .slice none 0 0, .slice none 0 0, U64 (0:UInt64)] ++ cu8 (zr8 16)))) ([U64 (0:UInt64), U64 (0:UInt64), I64 (0:Int), .slice none 0 0, .slice none 0 0, U64 (0:UInt64)] ++ cu8 (zr8 16)) ([U64 (0:UInt64), U64 (0:UInt64), I64 (0:Int), .slice none 0 0, .slice none 0 0, U64 (0:UInt64)] ++ cu8 (zr8 16)) rfl rfl rfl (by first | rfl | simp) AW (by simp [(AP 16)]) (DA (by simp [Value.oneCell']) CK) (by simp [(AP 16)]) (BF (by simp [(AP 16), (AP 16)]))) rfl ?_
 rintro v1 L1 ⟨rfl, rfl⟩
 show JL _ _ _ _ _ [_, _, _, _, ⟨nb5, [U64 (0:UInt64), U64 (0:UInt64), I64 (0:Int), .slice none 0 0, .slice none 0 0, U64 (0:UInt64)] ++ cu8 (zr8 16), 29, (0, 0)⟩]
 refine AA _ (AH rfl) rfl ?_
 refine AN (AF (AL (AE (AA (.agg (List.toArray (α := Value) ([U64 pv, U64 ep, I64 (kd), .slice ai ni ci, .slice sa ns sc, U64 bl] ++ cu8 tg))) (AK rfl (BH BE AW (by simp [htg]) (MemAt.ent 1 rfl (AM _)))) rfl ?_))))
 refine AR (A3 47 [.agg (List.toArray (α := Value) ([U64 pv, U64 ep, I64 (kd), .slice ai ni ci, .slice sa ns sc, U64 bl] ++ cu8 tg))] (.tuple #[.slice none 0 0, errV 50 (mayN pv ep (kd) l ls bl)]) (A0 [.agg (List.toArray (α := Value) ([U64 pv, U64 ep, I64 (kd), .slice ai ni ci, .slice sa ns sc, U64 bl] ++ cu8 tg))] Tryd.call47 rfl) (fun w1 hw1 => putB_c pv ep (kd) ai ni ci l sa ns sc ls bl tg w1 hl (by omega) (by omega) (by omega) (C1 hw1 rfl hv) hls (by omega) (by omega) (by omega) (C1 hw1 rfl hs) htg hm)) rfl ?_
 rintro v1 L1 ⟨rfl, rfl⟩
 show JL _ _ _ _ ((35, .tuple #[.slice none 0 0, errV 50 (mayN pv ep (kd) l ls bl)]) :: _) [_, _, _, _, _]
 refine AA _ (AD rfl) rfl ?_
 refine AA _ (BN rfl rfl) rfl ?_
 refine AA _ (BN rfl rfl) rfl ?_
 refine AA _ (AH rfl) rfl ?_
 refine AA _ (AH rfl) rfl ?_
 refine AN (AF (AL (AE (AA (.agg (cu8 key).toArray) (AK rfl (BH D0 CD (CG hk32) (MemAt.ent 0 rfl (AM _)))) rfl ?_))))
 refine AA (.agg (List.toArray (α := Value) ([U64 pv, U64 ep, I64 (kd), .slice ai ni ci, .slice sa ns sc, U64 bl] ++ cu8 tg))) (AK rfl (BH BE AW (by simp [htg]) (MemAt.ent 1 rfl (AM _)))) rfl ?_
 refine AR (A3 48 [.agg (cu8 key).toArray, .agg (List.toArray (α := Value) ([U64 pv, U64 ep, I64 (kd), .slice ai ni ci, .slice sa ns sc, U64 bl] ++ cu8 tg))] (errV 50 (mayN pv ep (kd) l ls bl)) (A0 [.agg (cu8 key).toArray, .agg (List.toArray (α := Value) ([U64 pv, U64 ep, I64 (kd), .slice ai ni ci, .slice sa ns sc, U64 bl] ++ cu8 tg))] Tryd.call48 rfl) (fun w1 hw1 => chkB_c key pv ep (kd) ai ni ci l sa ns sc ls bl tg w1 hk32 hl (by omega) (by omega) (by omega) (C1 hw1 rfl hv) hls (by omega) (by omega) (by omega) (C1 hw1 rfl hs) htg hm)) rfl ?_
 rintro v1 L1 ⟨rfl, rfl⟩
 show JL _ _ _ _ ((40, errV 50 (mayN pv ep (kd) l ls bl)) :: _) [_, _, _, _, _]
 refine AA _ (AH rfl) rfl ?_
 refine AN (AF (AL (AL (AE (AA _ (AD rfl) rfl ?_)))))
 refine AA (.bool (decide ((((mayN pv ep (kd) l ls bl):Int)) ≠ (0:Int)))) (AQ rfl rfl fun _ => E8 _ _) rfl ?_
 refine AN (AF (C9 _ rfl (decide_eq_true (by omega)) ?_))
 refine AL (AE (AA _ (AD rfl) rfl ?_))
 refine AR (A3 29 [errV 50 (mayN pv ep (kd) l ls bl)] (I64 ((mayN pv ep (kd) l ls bl:Int))) (A0 [errV 50 (mayN pv ep (kd) l ls bl)] Tryd.call29 rfl) (fun w1 hw1 => errNum_w (mayN pv ep (kd) l ls bl) w1)) rfl ?_
 rintro v1 L1 ⟨rfl, rfl⟩
 show JL _ _ _ _ ((44, I64 ((mayN pv ep (kd) l ls bl:Int))) :: _) [_, _, _, _, _]
 refine AA _ (AD rfl) rfl ?_
 refine AA (.bool (decide (((mayN pv ep (kd) l ls bl:Int)) = (((mayN pv ep (kd) l ls bl):Int))))) (AQ rfl rfl fun _ => DD _ _) rfl ?_
 refine AA _ (AD rfl) rfl ?_
 refine AY 4 47 true _ _ rfl rfl (decide_eq_true rfl) (AD rfl) rfl ?_
 refine FL 4 47 true _ rfl rfl (decide_eq_true rfl) (A3 29 [errV 50 (mayN pv ep (kd) l ls bl)] (I64 ((mayN pv ep (kd) l ls bl:Int))) (A0 [errV 50 (mayN pv ep (kd) l ls bl)] Tryd.call29 rfl) (fun w1 hw1 => errNum_w (mayN pv ep (kd) l ls bl) w1)) rfl ?_
 rintro v1 L1 ⟨rfl, rfl⟩
 show JL _ _ _ _ ((49, I64 ((mayN pv ep (kd) l ls bl:Int))) :: _) [_, _, _, _, _]
 refine AY 4 47 true _ _ rfl rfl (decide_eq_true rfl) (AD rfl) rfl ?_
 refine AY 4 47 true _ (.bool (decide (((mayN pv ep (kd) l ls bl:Int)) = (((mayN pv ep (kd) l ls bl):Int))))) rfl rfl (decide_eq_true rfl) (AQ rfl rfl fun _ => DD _ _) rfl ?_
 refine AA _ (B0 _ rfl (decide_eq_true rfl) rfl) rfl ?_
 refine AA _ (AD rfl) rfl ?_
 refine AY 10 53 true _ _ rfl rfl (decide_eq_true rfl) (AD rfl) rfl ?_
 refine FL 10 53 true _ rfl rfl (decide_eq_true rfl) (A3 29 [errV 50 (mayN pv ep (kd) l ls bl)] (I64 ((mayN pv ep (kd) l ls bl:Int))) (A0 [errV 50 (mayN pv ep (kd) l ls bl)] Tryd.call29 rfl) (fun w1 hw1 => errNum_w (mayN pv ep (kd) l ls bl) w1)) rfl ?_
 rintro v1 L1 ⟨rfl, rfl⟩
 show JL _ _ _ _ ((55, I64 ((mayN pv ep (kd) l ls bl:Int))) :: _) [_, _, _, _, _]
 refine AY 10 53 true _ _ rfl rfl (decide_eq_true rfl) (AD rfl) rfl ?_
 refine AY 10 53 true _ (.bool (decide (((mayN pv ep (kd) l ls bl:Int)) = (((mayN pv ep (kd) l ls bl):Int))))) rfl rfl (decide_eq_true rfl) (AQ rfl rfl fun _ => DD _ _) rfl ?_
 refine AA _ (B0 _ rfl (decide_eq_true rfl) rfl) rfl ?_
 refine AA _ (AD rfl) rfl ?_
 refine AY 16 59 true _ _ rfl rfl (decide_eq_true rfl) (AD rfl) rfl ?_
 refine AY 16 59 true _ (I64 (0:Int)) rfl rfl (decide_eq_true rfl) (D4 AO rfl) rfl ?_
 refine AY 16 59 true _ (.bool (decide ((0:Int) = (0:Int)))) rfl rfl (decide_eq_true rfl) (AQ rfl rfl fun _ => DD _ _) rfl ?_
 refine AA _ (B0 _ rfl (decide_eq_true rfl) rfl) rfl ?_
 refine AA _ (AD rfl) rfl ?_
 refine AY 21 64 true _ (.agg (List.toArray (α := Value) ([U64 (0:UInt64), U64 (0:UInt64), I64 (0:Int), .slice none 0 0, .slice none 0 0, U64 (0:UInt64)] ++ cu8 (zr8 16)))) rfl rfl (by decide) (AK rfl (BH BE AW (by simp [(AP 16)]) (MemAt.ent 4 rfl (AM _)))) rfl ?_
 refine AY 21 64 true _ (.agg (List.toArray (α := Value) ([U64 (0:UInt64), U64 (0:UInt64), I64 (0:Int), .slice none 0 0, .slice none 0 0, U64 (0:UInt64)] ++ cu8 (zr8 16)))) rfl rfl (by decide) (CB [] _ rfl (fun _ => by kernel_rfl)) rfl ?_
 refine FL 21 64 true _ rfl rfl (by decide) (A3 49 [.agg (List.toArray (α := Value) ([U64 (0:UInt64), U64 (0:UInt64), I64 (0:Int), .slice none 0 0, .slice none 0 0, U64 (0:UInt64)] ++ cu8 (zr8 16))), .agg (List.toArray (α := Value) ([U64 (0:UInt64), U64 (0:UInt64), I64 (0:Int), .slice none 0 0, .slice none 0 0, U64 (0:UInt64)] ++ cu8 (zr8 16)))] (.bool (decide ((0:UInt64) = (0:UInt64) ∧ (0:UInt64) = (0:UInt64) ∧ (zr8 16) = (zr8 16) ∧ (0:Int) = (0:Int) ∧ (0:UInt64) = (0:UInt64) ∧ ([] : List UInt64) = ([] : List UInt64) ∧ ([] : List SealR) = ([] : List SealR)))) (A0 [.agg (List.toArray (α := Value) ([U64 (0:UInt64), U64 (0:UInt64), I64 (0:Int), .slice none 0 0, .slice none 0 0, U64 (0:UInt64)] ++ cu8 (zr8 16))), .agg (List.toArray (α := Value) ([U64 (0:UInt64), U64 (0:UInt64), I64 (0:Int), .slice none 0 0, .slice none 0 0, U64 (0:UInt64)] ++ cu8 (zr8 16)))] Tryd.call49 rfl) (fun w1 hw1 => same13_c (0:UInt64) (0:UInt64) (0:Int) none 0 0 ([] : List UInt64) none 0 0 ([] : List SealR) (0:UInt64) (zr8 16) (0:UInt64) (0:UInt64) (0:Int) none 0 0 ([] : List UInt64) none 0 0 ([] : List SealR) (0:UInt64) (zr8 16) w1 rfl (by omega) (by omega) (by omega) RdV.nil rfl (by omega) (by omega) (by omega) RdV.nil (AP 16) rfl (by omega) (by omega) (by omega) RdV.nil rfl (by omega) (by omega) (by omega) RdV.nil (AP 16))) rfl ?_
 rintro v1 L1 ⟨rfl, rfl⟩
 show JL _ _ _ _ ((67, .bool (decide ((0:UInt64) = (0:UInt64) ∧ (0:UInt64) = (0:UInt64) ∧ (zr8 16) = (zr8 16) ∧ (0:Int) = (0:Int) ∧ (0:UInt64) = (0:UInt64) ∧ ([] : List UInt64) = ([] : List UInt64) ∧ ([] : List SealR) = ([] : List SealR)))) :: _) [_, _, _, _, _]
 refine AA _ (B0 _ rfl (by decide) rfl) rfl ?_
 refine AA _ (AH rfl) rfl ?_
 refine AN (AF (BO (A5 (B8 [false, false, false, false, false] ?_))))
 show JQ _ _ _ _ []
 refine BP (.bool (decide ((0:UInt64) = (0:UInt64) ∧ (0:UInt64) = (0:UInt64) ∧ (zr8 16) = (zr8 16) ∧ (0:Int) = (0:Int) ∧ (0:UInt64) = (0:UInt64) ∧ ([] : List UInt64) = ([] : List UInt64) ∧ ([] : List SealR) = ([] : List SealR)))) (res1 Tryd.results9 (BT rfl)) fun w1 hw1 => ?_
 exact ⟨_, [], rfl, ⟨by rw [show (decide ((0:UInt64) = (0:UInt64) ∧ (0:UInt64) = (0:UInt64) ∧ (zr8 16) = (zr8 16) ∧ (0:Int) = (0:Int) ∧ (0:UInt64) = (0:UInt64) ∧ ([] : List UInt64) = ([] : List UInt64) ∧ ([] : List SealR) = ([] : List SealR))) = true from (decide_eq_true ⟨rfl, rfl, rfl, rfl, rfl, rfl, rfl⟩)], rfl⟩, hw1.sub (by simp) (by simp)⟩
theorem tsBZ_c (key : List UInt8) (pv ep : UInt64) (kd : Int) (ai : Option Addr) (ni ci : Nat) (l : List UInt64) (sa : Option Addr) (sc : Nat) (bl : UInt64) (tg : List UInt8)  (w : World) (hk32 : key.length = 32) (hl : l.length = ni) (hnm : ni ≤ 2000000) (hnc : ni ≤ ci) (hcm : ci ≤ maxLen) (hv : RdV w ai (cu64 l)) (hcs : sc ≤ maxLen) (hnS : sa = none → sc = 0) (hnI : ai = none → ci = 0) (htg : tg.length = 16) (hG : GLs w) (hGr : GLr w) (hGi : GLi w) (hm : mayN pv ep kd l ([] : List SealR) bl ≠ 0) (hlg : ¬ LargeP ni 0)  : Calls Tryd.prog 9 #[.agg (cu8 key).toArray, .agg (List.toArray (α := Value) ([U64 pv, U64 ep, I64 (kd), .slice ai ni ci, .slice sa 0 sc, U64 bl] ++ cu8 tg))] w (Post w [] (fun v L => v = .bool true ∧ L = [])) := by
 have hmx : maxLen = 9223372036854775807 := rfl
 refine enter (P := Tryd.prog) (f := 9) (fn := Tryd.f9) w [] 109 [] [.agg (cu8 key).toArray, .agg (List.toArray (α := Value) ([U64 pv, U64 ep, I64 (kd), .slice ai ni ci, .slice sa 0 sc, U64 bl] ++ cu8 tg))] Tryd.func9 rfl rfl (by simp) (B7 (by simp) (by simp) (by simp)) ?_
 show JC _ _ _ [(0, .agg (cu8 key).toArray), (1, .agg (List.toArray (α := Value) ([U64 pv, U64 ep, I64 (kd), .slice ai ni ci, .slice sa 0 sc, U64 bl] ++ cu8 tg)))] _
 refine AL (AE (AR (CN (.agg (cu8 key).toArray) (cu8 key) rfl (by first | rfl | simp)) rfl ?_))
 rintro v1 L1 ⟨nb1, hnb1, rfl, rfl⟩
 show JL _ _ _ _ ((2, Ptr nb1 0) :: _) [⟨nb1, cu8 key, 54, (0, 0)⟩]
 refine AR (CN (.agg (List.toArray (α := Value) ([U64 pv, U64 ep, I64 (kd), .slice ai ni ci, .slice sa 0 sc, U64 bl] ++ cu8 tg))) ([U64 pv, U64 ep, I64 (kd), .slice ai ni ci, .slice sa 0 sc, U64 bl] ++ cu8 tg) rfl (by first | rfl | simp)) rfl ?_
 rintro v1 L1 ⟨nb2, hnb2, rfl, rfl⟩
 show JL _ _ _ _ ((3, Ptr nb2 0) :: _) [_, ⟨nb2, [U64 pv, U64 ep, I64 (kd), .slice ai ni ci, .slice sa 0 sc, U64 bl] ++ cu8 tg, 29, (0, 0)⟩]
 refine AA _ (AH rfl) rfl ?_
 refine AN (AF (AL (AL (AE (AR (A3 43 [] (.bool true) (A0 [] Tryd.call43 rfl) (fun w1 hw1 => alive13_c  w1 (hG.at hw1))) rfl ?_)))))
 rintro v1 L1 ⟨rfl, rfl⟩
 show JL _ _ _ _ ((13, .bool true) :: _) [_, _]
 refine AA (.bool (!true)) (FK rfl) rfl ?_
 refine AN (AF (C0 _ rfl rfl ?_))
 refine B4 (AF (AL (AL (AE (AA (Ptr nb2 2) (AC 2 26 4 AS rfl BI rfl rfl) rfl ?_)))))
 refine AA (.agg (List.toArray (α := Value) ([I64 (kd), .slice ai ni ci, .slice sa 0 sc, U64 bl]))) (AK rfl (BH DE BI rfl (MemAt.ent 1 rfl (D9 (p := [U64 pv, U64 ep]) (q := cu8 tg) (vs := [I64 (kd), .slice ai ni ci, .slice sa 0 sc, U64 bl]) (by first | rfl | (simp only [List.append_assoc, List.nil_append, List.append_nil, List.cons_append]; done)) rfl)))) rfl ?_
 refine AR (A3 18 [.agg (List.toArray (α := Value) ([I64 (kd), .slice ai ni ci, .slice sa 0 sc, U64 bl]))] (.bool (decide (LargeP ni 0))) (A0 [.agg (List.toArray (α := Value) ([I64 (kd), .slice ai ni ci, .slice sa 0 sc, U64 bl]))] Tryd.call18 rfl) (fun w1 hw1 => large_c (kd) ai ni ci l sa 0 sc ([] : List SealR) bl w1 )) rfl ?_
 rintro v1 L1 ⟨rfl, rfl⟩
 show JL _ _ _ _ ((17, .bool (decide (LargeP ni 0))) :: _) [_, _]
 refine AN (AF (C0 _ rfl (decide_eq_false hlg) ?_))
 refine B4 (AF (AL (AE (AA (.agg (List.toArray (α := Value) ([U64 pv, U64 ep, I64 (kd), .slice ai ni ci, .slice sa 0 sc, U64 bl] ++ cu8 tg))) (AK rfl (BH BE AW (by simp [htg]) (MemAt.ent 1 rfl (AM _)))) rfl ?_))))
 refine AR (A3 44 [.agg (List.toArray (α := Value) ([U64 pv, U64 ep, I64 (kd), .slice ai ni ci, .slice sa 0 sc, U64 bl] ++ cu8 tg))] (.agg (List.toArray (α := Value) ([U64 pv, U64 ep, I64 (kd), .slice ai ni ci, .slice none 0 0, U64 bl] ++ cu8 tg))) (A0 [.agg (List.toArray (α := Value) ([U64 pv, U64 ep, I64 (kd), .slice ai ni ci, .slice sa 0 sc, U64 bl] ++ cu8 tg))] Tryd.call44 rfl) (fun w1 hw1 => docTZ_c pv ep (kd) ai ni ci l sa sc bl tg w1 hl (by omega) (by omega) (by omega) (C1 hw1 rfl hv) (by omega) hnS htg)) rfl ?_
 rintro v1 L1 ⟨rfl, rfl⟩
 show JL _ _ _ _ ((19, .agg (List.toArray (α := Value) ([U64 pv, U64 ep, I64 (kd), .slice ai ni ci, .slice none 0 0, U64 bl] ++ cu8 tg))) :: _) [_, _]
 refine AR (BJ _ ([U64 (0:UInt64), U64 (0:UInt64), I64 (0:Int), .slice none 0 0, .slice none 0 0, U64 (0:UInt64)] ++ cu8 (zr8 16)) ET (by kernel_rfl)) rfl ?_
 rintro v1 L1 ⟨nb3, hnb3, rfl, rfl⟩
 show JL _ _ _ _ ((5, Ptr nb3 0) :: _) [_, _, ⟨nb3, [U64 (0:UInt64), U64 (0:UInt64), I64 (0:Int), .slice none 0 0, .slice none 0 0, U64 (0:UInt64)] ++ cu8 (zr8 16), 38, (0, 0)⟩]
 refine AR (A6 2 nb3 0 22 ([U64 (0:UInt64), U64 (0:UInt64), I64 (0:Int), .slice none 0 0, .slice none 0 0, U64 (0:UInt64)] ++ cu8 (zr8 16)) 38 (.agg (List.toArray (α := Value) ([U64 pv, U64 ep, I64 (kd), .slice ai ni ci, .slice none 0 0, U64 bl] ++ cu8 tg))) ([U64 pv, U64 ep, I64 (kd), .slice ai ni ci, .slice none 0 0, U64 bl] ++ cu8 tg) ([U64 pv, U64 ep, I64 (kd), .slice ai ni ci, .slice none 0 0, U64 bl] ++ cu8 tg) rfl rfl rfl (by first | rfl | simp) CM (by simp [htg]) (DA (by simp [Value.oneCell']) CK) (by simp [(AP 16)]) (BF (by simp [(AP 16), htg]))) rfl ?_
 rintro v1 L1 ⟨rfl, rfl⟩
 show JL _ _ _ _ _ [_, _, ⟨nb3, [U64 pv, U64 ep, I64 (kd), .slice ai ni ci, .slice none 0 0, U64 bl] ++ cu8 tg, 38, (0, 0)⟩]
 refine AN (AF (AL (AE (AA (.agg (List.toArray (α := Value) ([U64 pv, U64 ep, I64 (kd), .slice ai ni ci, .slice none 0 0, U64 bl] ++ cu8 tg))) (AK rfl (BH DO CM (by simp [htg]) (MemAt.ent 2 rfl (AM _)))) rfl ?_))))
 refine AR (A3 45 [.agg (List.toArray (α := Value) ([U64 pv, U64 ep, I64 (kd), .slice ai ni ci, .slice none 0 0, U64 bl] ++ cu8 tg))] (I64 (((mayN pv ep (kd) l ([] : List SealR) bl):Int))) (A0 [.agg (List.toArray (α := Value) ([U64 pv, U64 ep, I64 (kd), .slice ai ni ci, .slice none 0 0, U64 bl] ++ cu8 tg))] Tryd.call45 rfl) (fun w1 hw1 => rmay13_c pv ep (kd) ai ni ci l none 0 0 ([] : List SealR) bl tg w1 hl (by omega) (by omega) (by omega) (C1 hw1 rfl hv) rfl (by omega) (by omega) (by omega) RdV.nil htg)) rfl ?_
 rintro v1 L1 ⟨rfl, rfl⟩
 show JL _ _ _ _ ((21, I64 (((mayN pv ep (kd) l ([] : List SealR) bl):Int))) :: _) [_, _, _]
 refine AA _ (AH rfl) rfl ?_
 refine AN (AF (AL (AE (AA (.agg (cu8 key).toArray) (AK rfl (BH D0 CD (CG hk32) (MemAt.ent 0 rfl (AM _)))) rfl ?_))))
 refine AA (Ptr nb2 0) (AC 0 22 1 AS rfl AT rfl rfl) rfl ?_
 refine AA (U64 pv) (AK rfl (AV AU (MemAt.ent 1 rfl (A2 (Seg.head))))) rfl ?_
 refine AA (Ptr nb2 1) (AC 1 22 1 AS rfl AT rfl rfl) rfl ?_
 refine AA (U64 ep) (AK rfl (AV AU (MemAt.ent 1 rfl (A2 (AJ (Seg.head)))))) rfl ?_
 refine AA (Ptr nb2 2) (AC 2 26 4 AS rfl BI rfl rfl) rfl ?_
 refine AA (.agg (List.toArray (α := Value) ([I64 (kd), .slice ai ni ci, .slice sa 0 sc, U64 bl]))) (AK rfl (BH DE BI rfl (MemAt.ent 1 rfl (D9 (p := [U64 pv, U64 ep]) (q := cu8 tg) (vs := [I64 (kd), .slice ai ni ci, .slice sa 0 sc, U64 bl]) (by first | rfl | (simp only [List.append_assoc, List.nil_append, List.append_nil, List.cons_append]; done)) rfl)))) rfl ?_
 refine AR (A3 46 [.agg (cu8 key).toArray, U64 pv, U64 ep, .agg (List.toArray (α := Value) ([I64 (kd), .slice ai ni ci, .slice sa 0 sc, U64 bl]))] (.tuple #[.agg (List.toArray (α := Value) ([U64 (0:UInt64), U64 (0:UInt64), I64 (0:Int), .slice none 0 0, .slice none 0 0, U64 (0:UInt64)] ++ cu8 (zr8 16))), errV 50 (mayN pv ep (kd) l ([] : List SealR) bl)]) (A0 [.agg (cu8 key).toArray, U64 pv, U64 ep, .agg (List.toArray (α := Value) ([I64 (kd), .slice ai ni ci, .slice sa 0 sc, U64 bl]))] Tryd.call46 rfl) (fun w1 hw1 => signB_w key pv ep (kd) ai ni ci l sa 0 sc ([] : List SealR) bl w1 hk32 hl (by omega) (by omega) (by omega) (C1 hw1 rfl hv) rfl (by omega) (by omega) (by omega) RdV.nil hnI hnS hm)) rfl ?_
 rintro v1 L1 ⟨rfl, rfl⟩
 show JL _ _ _ _ ((30, .tuple #[.agg (List.toArray (α := Value) ([U64 (0:UInt64), U64 (0:UInt64), I64 (0:Int), .slice none 0 0, .slice none 0 0, U64 (0:UInt64)] ++ cu8 (zr8 16))), errV 50 (mayN pv ep (kd) l ([] : List SealR) bl)]) :: _) [_, _, _]
 refine AA _ (AD rfl) rfl ?_
 refine AA _ (BN rfl rfl) rfl ?_
 refine AA _ (BN rfl rfl) rfl ?_
 refine AR (BJ _ ([U64 (0:UInt64), U64 (0:UInt64), I64 (0:Int), .slice none 0 0, .slice none 0 0, U64 (0:UInt64)] ++ cu8 (zr8 16)) B9 (by kernel_rfl)) rfl ?_
 rintro v1 L1 ⟨nb4, hnb4, rfl, rfl⟩
 show JL _ _ _ _ ((7, Ptr nb4 0) :: _) [_, _, _, ⟨nb4, [U64 (0:UInt64), U64 (0:UInt64), I64 (0:Int), .slice none 0 0, .slice none 0 0, U64 (0:UInt64)] ++ cu8 (zr8 16), 29, (0, 0)⟩]
 refine AR (A6 3 nb4 0 22 ([U64 (0:UInt64), U64 (0:UInt64), I64 (0:Int), .slice none 0 0, .slice none 0 0, U64 (0:UInt64)] ++ cu8 (zr8 16)) 29 (.agg (List.toArray (α := Value) ([U64 (0:UInt64), U64 (0:UInt64), I64 (0:Int), .slice none 0 0, .slice none 0 0, U64 (0:UInt64)] ++ cu8 (zr8 16)))) ([U64 (0:UInt64), U64 (0:UInt64), I64 (0:Int), .slice none 0 0, .slice none 0 0, U64 (0:UInt64)] ++ cu8 (zr8 16)) ([U64 (0:UInt64), U64 (0:UInt64), I64 (0:Int), .slice none 0 0, .slice none 0 0, U64 (0:UInt64)] ++ cu8 (zr8 16)) rfl rfl rfl (by first | rfl | simp) AW (by simp [(AP 16)]) (DA (by simp [Value.oneCell']) CK) (by simp [(AP 16)]) (BF (by simp [(AP 16), (AP 16)]))) rfl ?_
 rintro v1 L1 ⟨rfl, rfl⟩
 show JL _ _ _ _ _ [_, _, _, ⟨nb4, [U64 (0:UInt64), U64 (0:UInt64), I64 (0:Int), .slice none 0 0, .slice none 0 0, U64 (0:UInt64)] ++ cu8 (zr8 16), 29, (0, 0)⟩]
 refine AA _ (AH rfl) rfl ?_
 refine AN (AF (AL (AE (AA (.agg (List.toArray (α := Value) ([U64 pv, U64 ep, I64 (kd), .slice ai ni ci, .slice sa 0 sc, U64 bl] ++ cu8 tg))) (AK rfl (BH BE AW (by simp [htg]) (MemAt.ent 1 rfl (AM _)))) rfl ?_))))
 refine AR (A3 47 [.agg (List.toArray (α := Value) ([U64 pv, U64 ep, I64 (kd), .slice ai ni ci, .slice sa 0 sc, U64 bl] ++ cu8 tg))] (.tuple #[.slice none 0 0, errV 50 (mayN pv ep (kd) l ([] : List SealR) bl)]) (A0 [.agg (List.toArray (α := Value) ([U64 pv, U64 ep, I64 (kd), .slice ai ni ci, .slice sa 0 sc, U64 bl] ++ cu8 tg))] Tryd.call47 rfl) (fun w1 hw1 => putB_c pv ep (kd) ai ni ci l sa 0 sc ([] : List SealR) bl tg w1 hl (by omega) (by omega) (by omega) (C1 hw1 rfl hv) rfl (by omega) (by omega) (by omega) RdV.nil htg hm)) rfl ?_
 rintro v1 L1 ⟨rfl, rfl⟩
 show JL _ _ _ _ ((35, .tuple #[.slice none 0 0, errV 50 (mayN pv ep (kd) l ([] : List SealR) bl)]) :: _) [_, _, _, _]
 refine AA _ (AD rfl) rfl ?_
 refine AA _ (BN rfl rfl) rfl ?_
 refine AA _ (BN rfl rfl) rfl ?_
 refine AA _ (AH rfl) rfl ?_
 refine AA _ (AH rfl) rfl ?_
 refine AN (AF (AL (AE (AA (.agg (cu8 key).toArray) (AK rfl (BH D0 CD (CG hk32) (MemAt.ent 0 rfl (AM _)))) rfl ?_))))
 refine AA (.agg (List.toArray (α := Value) ([U64 pv, U64 ep, I64 (kd), .slice ai ni ci, .slice sa 0 sc, U64 bl] ++ cu8 tg))) (AK rfl (BH BE AW (by simp [htg]) (MemAt.ent 1 rfl (AM _)))) rfl ?_
 refine AR (A3 48 [.agg (cu8 key).toArray, .agg (List.toArray (α := Value) ([U64 pv, U64 ep, I64 (kd), .slice ai ni ci, .slice sa 0 sc, U64 bl] ++ cu8 tg))] (errV 50 (mayN pv ep (kd) l ([] : List SealR) bl)) (A0 [.agg (cu8 key).toArray, .agg (List.toArray (α := Value) ([U64 pv, U64 ep, I64 (kd), .slice ai ni ci, .slice sa 0 sc, U64 bl] ++ cu8 tg))] Tryd.call48 rfl) (fun w1 hw1 => chkB_c key pv ep (kd) ai ni ci l sa 0 sc ([] : List SealR) bl tg w1 hk32 hl (by omega) (by omega) (by omega) (C1 hw1 rfl hv) rfl (by omega) (by omega) (by omega) RdV.nil htg hm)) rfl ?_
 rintro v1 L1 ⟨rfl, rfl⟩
 show JL _ _ _ _ ((40, errV 50 (mayN pv ep (kd) l ([] : List SealR) bl)) :: _) [_, _, _, _]
 refine AA _ (AH rfl) rfl ?_
 refine AN (AF (AL (AL (AE (AA _ (AD rfl) rfl ?_)))))
 refine AA (.bool (decide ((((mayN pv ep (kd) l ([] : List SealR) bl):Int)) ≠ (0:Int)))) (AQ rfl rfl fun _ => E8 _ _) rfl ?_
 refine AN (AF (C9 _ rfl (decide_eq_true (by omega)) ?_))
 refine AL (AE (AA _ (AD rfl) rfl ?_))
 refine AR (A3 29 [errV 50 (mayN pv ep (kd) l ([] : List SealR) bl)] (I64 ((mayN pv ep (kd) l ([] : List SealR) bl:Int))) (A0 [errV 50 (mayN pv ep (kd) l ([] : List SealR) bl)] Tryd.call29 rfl) (fun w1 hw1 => errNum_w (mayN pv ep (kd) l ([] : List SealR) bl) w1)) rfl ?_
 rintro v1 L1 ⟨rfl, rfl⟩
 show JL _ _ _ _ ((44, I64 ((mayN pv ep (kd) l ([] : List SealR) bl:Int))) :: _) [_, _, _, _]
 refine AA _ (AD rfl) rfl ?_
 refine AA (.bool (decide (((mayN pv ep (kd) l ([] : List SealR) bl:Int)) = (((mayN pv ep (kd) l ([] : List SealR) bl):Int))))) (AQ rfl rfl fun _ => DD _ _) rfl ?_
 refine AA _ (AD rfl) rfl ?_
 refine AY 4 47 true _ _ rfl rfl (decide_eq_true rfl) (AD rfl) rfl ?_
 refine FL 4 47 true _ rfl rfl (decide_eq_true rfl) (A3 29 [errV 50 (mayN pv ep (kd) l ([] : List SealR) bl)] (I64 ((mayN pv ep (kd) l ([] : List SealR) bl:Int))) (A0 [errV 50 (mayN pv ep (kd) l ([] : List SealR) bl)] Tryd.call29 rfl) (fun w1 hw1 => errNum_w (mayN pv ep (kd) l ([] : List SealR) bl) w1)) rfl ?_
 rintro v1 L1 ⟨rfl, rfl⟩
 show JL _ _ _ _ ((49, I64 ((mayN pv ep (kd) l ([] : List SealR) bl:Int))) :: _) [_, _, _, _]
 refine AY 4 47 true _ _ rfl rfl (decide_eq_true rfl) (AD rfl) rfl ?_
 refine AY 4 47 true _ (.bool (decide (((mayN pv ep (kd) l ([] : List SealR) bl:Int)) = (((mayN pv ep (kd) l ([] : List SealR) bl):Int))))) rfl rfl (decide_eq_true rfl) (AQ rfl rfl fun _ => DD _ _) rfl ?_
 refine AA _ (B0 _ rfl (decide_eq_true rfl) rfl) rfl ?_
 refine AA _ (AD rfl) rfl ?_
 refine AY 10 53 true _ _ rfl rfl (decide_eq_true rfl) (AD rfl) rfl ?_
 refine FL 10 53 true _ rfl rfl (decide_eq_true rfl) (A3 29 [errV 50 (mayN pv ep (kd) l ([] : List SealR) bl)] (I64 ((mayN pv ep (kd) l ([] : List SealR) bl:Int))) (A0 [errV 50 (mayN pv ep (kd) l ([] : List SealR) bl)] Tryd.call29 rfl) (fun w1 hw1 => errNum_w (mayN pv ep (kd) l ([] : List SealR) bl) w1)) rfl ?_
 rintro v1 L1 ⟨rfl, rfl⟩
 show JL _ _ _ _ ((55, I64 ((mayN pv ep (kd) l ([] : List SealR) bl:Int))) :: _) [_, _, _, _]
 refine AY 10 53 true _ _ rfl rfl (decide_eq_true rfl) (AD rfl) rfl ?_
 refine AY 10 53 true _ (.bool (decide (((mayN pv ep (kd) l ([] : List SealR) bl:Int)) = (((mayN pv ep (kd) l ([] : List SealR) bl):Int))))) rfl rfl (decide_eq_true rfl) (AQ rfl rfl fun _ => DD _ _) rfl ?_
 refine AA _ (B0 _ rfl (decide_eq_true rfl) rfl) rfl ?_
 refine AA _ (AD rfl) rfl ?_
 refine AY 16 59 true _ _ rfl rfl (decide_eq_true rfl) (AD rfl) rfl ?_
 refine AY 16 59 true _ (I64 (0:Int)) rfl rfl (decide_eq_true rfl) (D4 AO rfl) rfl ?_
 refine AY 16 59 true _ (.bool (decide ((0:Int) = (0:Int)))) rfl rfl (decide_eq_true rfl) (AQ rfl rfl fun _ => DD _ _) rfl ?_
 refine AA _ (B0 _ rfl (decide_eq_true rfl) rfl) rfl ?_
 refine AA _ (AD rfl) rfl ?_
 refine AY 21 64 true _ (.agg (List.toArray (α := Value) ([U64 (0:UInt64), U64 (0:UInt64), I64 (0:Int), .slice none 0 0, .slice none 0 0, U64 (0:UInt64)] ++ cu8 (zr8 16)))) rfl rfl (by decide) (AK rfl (BH BE AW (by simp [(AP 16)]) (MemAt.ent 3 rfl (AM _)))) rfl ?_
 refine AY 21 64 true _ (.agg (List.toArray (α := Value) ([U64 (0:UInt64), U64 (0:UInt64), I64 (0:Int), .slice none 0 0, .slice none 0 0, U64 (0:UInt64)] ++ cu8 (zr8 16)))) rfl rfl (by decide) (CB [] _ rfl (fun _ => by kernel_rfl)) rfl ?_
 refine FL 21 64 true _ rfl rfl (by decide) (A3 49 [.agg (List.toArray (α := Value) ([U64 (0:UInt64), U64 (0:UInt64), I64 (0:Int), .slice none 0 0, .slice none 0 0, U64 (0:UInt64)] ++ cu8 (zr8 16))), .agg (List.toArray (α := Value) ([U64 (0:UInt64), U64 (0:UInt64), I64 (0:Int), .slice none 0 0, .slice none 0 0, U64 (0:UInt64)] ++ cu8 (zr8 16)))] (.bool (decide ((0:UInt64) = (0:UInt64) ∧ (0:UInt64) = (0:UInt64) ∧ (zr8 16) = (zr8 16) ∧ (0:Int) = (0:Int) ∧ (0:UInt64) = (0:UInt64) ∧ ([] : List UInt64) = ([] : List UInt64) ∧ ([] : List SealR) = ([] : List SealR)))) (A0 [.agg (List.toArray (α := Value) ([U64 (0:UInt64), U64 (0:UInt64), I64 (0:Int), .slice none 0 0, .slice none 0 0, U64 (0:UInt64)] ++ cu8 (zr8 16))), .agg (List.toArray (α := Value) ([U64 (0:UInt64), U64 (0:UInt64), I64 (0:Int), .slice none 0 0, .slice none 0 0, U64 (0:UInt64)] ++ cu8 (zr8 16)))] Tryd.call49 rfl) (fun w1 hw1 => same13_c (0:UInt64) (0:UInt64) (0:Int) none 0 0 ([] : List UInt64) none 0 0 ([] : List SealR) (0:UInt64) (zr8 16) (0:UInt64) (0:UInt64) (0:Int) none 0 0 ([] : List UInt64) none 0 0 ([] : List SealR) (0:UInt64) (zr8 16) w1 rfl (by omega) (by omega) (by omega) RdV.nil rfl (by omega) (by omega) (by omega) RdV.nil (AP 16) rfl (by omega) (by omega) (by omega) RdV.nil rfl (by omega) (by omega) (by omega) RdV.nil (AP 16))) rfl ?_
 rintro v1 L1 ⟨rfl, rfl⟩
 show JL _ _ _ _ ((67, .bool (decide ((0:UInt64) = (0:UInt64) ∧ (0:UInt64) = (0:UInt64) ∧ (zr8 16) = (zr8 16) ∧ (0:Int) = (0:Int) ∧ (0:UInt64) = (0:UInt64) ∧ ([] : List UInt64) = ([] : List UInt64) ∧ ([] : List SealR) = ([] : List SealR)))) :: _) [_, _, _, _]
 refine AA _ (B0 _ rfl (by decide) rfl) rfl ?_
 refine AA _ (AH rfl) rfl ?_
 refine AN (AF (BO (A5 (B8 [false, false, false, false] ?_))))
 show JQ _ _ _ _ []
 refine BP (.bool (decide ((0:UInt64) = (0:UInt64) ∧ (0:UInt64) = (0:UInt64) ∧ (zr8 16) = (zr8 16) ∧ (0:Int) = (0:Int) ∧ (0:UInt64) = (0:UInt64) ∧ ([] : List UInt64) = ([] : List UInt64) ∧ ([] : List SealR) = ([] : List SealR)))) (res1 Tryd.results9 (BT rfl)) fun w1 hw1 => ?_
 exact ⟨_, [], rfl, ⟨by rw [show (decide ((0:UInt64) = (0:UInt64) ∧ (0:UInt64) = (0:UInt64) ∧ (zr8 16) = (zr8 16) ∧ (0:Int) = (0:Int) ∧ (0:UInt64) = (0:UInt64) ∧ ([] : List UInt64) = ([] : List UInt64) ∧ ([] : List SealR) = ([] : List SealR))) = true from (decide_eq_true ⟨rfl, rfl, rfl, rfl, rfl, rfl, rfl⟩)], rfl⟩, hw1.sub (by simp) (by simp)⟩
end Go.Proofs.YtkdpdgpphpngeaaDoor
namespace Go.Proofs.YtkdpdgpphpngeaaDoor
open Go Go.Sx Go.RowKit
open Go.ChangeShapes Go.WideShapes
set_option linter.unusedVariables false
set_option linter.unusedSimpArgs false
section
variable {H : Type} {enc : TypeId × Value → H} {P : Program} {w : World} {base : Nat} {spare : Nat → Bool} {held : Bool} {sz : Bool} {t : TypeId} {cs : List Value}
theorem flat64 (l : List UInt64) : l.flatMap (fun a => [U64 a]) = cu64 l := by
 induction l with
 | nil => rfl
 | cons a l ih => rw [List.flatMap_cons, ih]; rfl
theorem TD.sl64 {e : Nat} (ht : P.underlying t = some (.slice e)) (he : P.underlying e = some (.int .u64)) (hs : P.cellsOf e = 1) (hb : P.bytesOf e ≠ 0) (h : TD enc P w base spare held sz t cs) :
  ∃ (ao : Option Addr) (n c : Nat) (l : List UInt64), cs = [.slice ao n c] ∧ l.length = n ∧ (ao = none → c = 0) ∧ (n ≤ c ∧ c ≤ maxLen) ∧ RdV w ao (cu64 l) := by
 obtain ⟨ao, n, c, al, h1, h2, h3, h4, h5, h6, h7⟩ := TD.rows (f := fun a : UInt64 => [U64 a]) (G := fun _ => True) (b := P.bytesOf e) ht hs (by decide) rfl (Nat.pos_of_ne_zero hb) (fun _ => rfl) (fun cs' hcs => by
  obtain ⟨a, ha⟩ := TD.u64 he hcs
  exact ⟨a, ha, trivial⟩) h
 rw [flat64] at h6
 exact ⟨ao, n, c, al, h1, h2, h4, h5, h6⟩
theorem TD.slSeal {e c64 a32 a16 u8 : TypeId} {fs : Array Field} (ht : P.underlying t = some (.slice e)) (hs : P.cellsOf e = 49) (hb : P.bytesOf e ≠ 0) (hst : P.underlying e = some (.struct fs))
  (f0 : (fs[0]?).map (fun f => (f.offset, f.type)) = some (0, c64)) (f1 : (fs[1]?).map (fun f => (f.offset, f.type)) = some (1, a32)) (f2 : (fs[2]?).map (fun f => (f.offset, f.type)) = some (33, a16))
  (uc : P.underlying c64 = some (.int .u64)) (ud : P.underlying a32 = some (.array 32 u8)) (ut : P.underlying a16 = some (.array 16 u8)) (uu : P.underlying u8 = some (.int .u8)) (cc : P.cellsOf c64 = 1) (cd : P.cellsOf a32 = 32) (ct : P.cellsOf a16 = 16) (cu : P.cellsOf u8 = 1)
  (h : TD enc P w base spare held sz t cs) :
  ∃ (ao : Option Addr) (n c : Nat) (ls : List SealR), cs = [.slice ao n c] ∧ ls.length = n ∧ (ao = none → c = 0) ∧ (n ≤ c ∧ c ≤ maxLen) ∧ RdV w ao (ls.flatMap sealC) := by
 obtain ⟨ao, n, c, al, h1, h2, h3, h4, h5, h6, h7⟩ := TD.rows (f := sealC) (G := fun _ => True) (b := P.bytesOf e) ht hs (by decide) rfl (Nat.pos_of_ne_zero hb) E2 (fun cs' hcs => by
  have hl : cs'.length = 49 := (TD.slen hst hcs).trans hs
  obtain ⟨x, e0⟩ := TD.u64 uc (F8 0 0 c64 1 hst f0 cc hcs)
  obtain ⟨d, e1, k1⟩ := TD.arr8 ud uu cu cd (F8 1 1 a32 32 hst f1 cd hcs)
  obtain ⟨q, e2, k2⟩ := TD.arr8 ut uu cu ct (F8 2 33 a16 16 hst f2 ct hcs)
  exact ⟨⟨x, d, q, k1, k2⟩, cat_end (cat_step (cat_step (cat0 e0) e1 rfl) e2 rfl) hl, trivial⟩) h
 exact ⟨ao, n, c, al, h1, h2, h4, h5, h6⟩
end
theorem RightO_cases {kd : Int} {l : List UInt64} {ls : List SealR} {bl : UInt64} (h : RightO kd l ls bl = true) :
    (kd = 1 ∧ 1 ≤ l.length ∧ ls.length = l.length) ∨ (kd = 2 ∧ 1 ≤ l.length ∧ ls.length = 0) ∨ (kd = 3 ∧ l.length = 0 ∧ ls.length = 0) := by
  unfold RightO at h
  split at h
  · rename_i hk
    simp only [Bool.and_eq_true, decide_eq_true_eq] at h
    have := h.2.1.1
    exact .inl ⟨hk, by omega, h.2.2.1⟩
  · split at h
    · rename_i hk
      simp only [Bool.and_eq_true, decide_eq_true_eq] at h
      have := h.2.1.1
      exact .inr (.inl ⟨hk, by omega, h.2.2⟩)
    · split at h
      · rename_i hk
        simp only [Bool.and_eq_true, decide_eq_true_eq] at h
        exact .inr (.inr ⟨hk, by omega, by omega⟩)
      · exact absurd h (by decide)
theorem RightO_len {kd : Int} {l : List UInt64} {ls : List SealR} {bl : UInt64} (h : RightO kd l ls bl = true) : l.length ≤ 256 := by
  rcases RightO_cases h with ⟨hk, _, _⟩ | ⟨hk, _, _⟩ | ⟨_, h1, _⟩
  · have := (RightI_pos (RightO_idx h (.inl hk))).2; omega
  · have := (RightI_pos (RightO_idx h (.inr hk))).2; omega
  · omega
theorem tktN_le {k ni ns : Nat} (h1 : ni ≤ 300) (h2 : ns ≤ 300) : tktN k ni ns ≤ 30000 := by
 unfold tktN; split <;> omega
theorem large_not {n m : Nat} (h : ¬ LargeP n m) : n ≤ 300 ∧ m ≤ 300 := by
 unfold LargeP at h; omega
end Go.Proofs.YtkdpdgpphpngeaaDoor
namespace Go.Proofs.YtkdpdgpphpngeaaDoor
open Go Go.Sx
set_option linter.unusedVariables false
set_option linter.unusedSimpArgs false
set_option maxRecDepth 100000
attribute [local irreducible] mid zr8 zr32 numK rnK rotr wordL spreadL comprL cpN adN spN wrdN constL initL padL stN outN routN sumG putL RightB tktT mayN idxT selT macL tkG chkG
theorem ticketSigns_w (key : List UInt8) (pv ep : UInt64) (kd : Int) (ai : Option Addr) (ni ci : Nat) (l : List UInt64) (sa : Option Addr) (ns sc : Nat) (ls : List SealR) (bl : UInt64) (tg : List UInt8) (w : World) (hk32 : key.length = 32) (hkd : -9223372036854775808 ≤ kd ∧ kd ≤ 9223372036854775807) (hl : l.length = ni) (hnI : ai = none → ci = 0) (hic : ni ≤ ci ∧ ci ≤ maxLen) (hv : RdV w ai (cu64 l)) (hls : ls.length = ns) (hnS : sa = none → sc = 0) (hsc : ns ≤ sc ∧ sc ≤ maxLen) (hs : RdV w sa (ls.flatMap sealC)) (htg : tg.length = 16) (hG : GLs w) (hGr : GLr w) (hGi : GLi w) : Calls Tryd.prog 9 #[.agg (cu8 key).toArray, .agg (List.toArray (α := Value) ([U64 pv, U64 ep, I64 (kd), .slice ai ni ci, .slice sa ns sc, U64 bl] ++ cu8 tg))] w (Post w [] (fun v L => v = .bool true ∧ L = [])) := by
  by_cases hlg : LargeP ni ns
  · exact tsL_c key pv ep kd ai ni ci l sa ns sc ls bl tg w hk32 htg hlg hG hGr hGi
  obtain ⟨hbi, hbs⟩ := large_not hlg
  by_cases hm : mayN pv ep kd l ls bl = 0
  · have hR := mayN_right hm
    have hR2 := RightO_len hR
    rcases RightO_cases hR with ⟨rfl, h1, h2⟩ | ⟨rfl, h1, h2⟩ | ⟨rfl, h1, h2⟩
    · exact ts1_c key pv ep 1 ai ni ci l sa ns sc ls bl tg (tktN 1 ni ns) w hk32 hl (by omega) hic.1 hic.2 hv hls (by omega) hsc.1 hsc.2 hs htg (by omega) (by omega) hG hGr hGi hm rfl rfl (tktN_le (by omega) (by omega)) hbs hbi hlg
    · obtain rfl : ls = [] := List.eq_nil_of_length_eq_zero h2
      obtain rfl : ns = 0 := hls.symm
      exact ts2_c key pv ep 2 ai ni ci l sa sc bl tg (tktN 2 ni 0) w hk32 hl (by omega) hic.1 hic.2 hv hsc.2 hnS htg (by omega) hG hGr hGi hm rfl rfl (tktN_le (by omega) (by omega)) hbi hlg
    · obtain rfl : ls = [] := List.eq_nil_of_length_eq_zero h2
      obtain rfl : ns = 0 := hls.symm
      obtain rfl : l = [] := List.eq_nil_of_length_eq_zero h1
      obtain rfl : ni = 0 := hl.symm
      exact ts3_c key pv ep 3 ai ci sa sc bl tg (tktN 3 0 0) w hk32 hic.2 hnI hsc.2 hnS htg  hG hGr hGi hm rfl rfl (tktN_le (by omega) (by omega))  hlg
  · by_cases hs0 : ns = 0
    · subst hs0
      obtain rfl : ls = [] := List.eq_nil_of_length_eq_zero hls
      exact tsBZ_c key pv ep kd ai ni ci l sa sc bl tg w hk32 hl (by omega) hic.1 hic.2 hv hsc.2 hnS hnI htg  hG hGr hGi hm hlg
    · exact tsBP_c key pv ep kd ai ni ci l sa ns sc ls bl tg w hk32 hl (by omega) hic.1 hic.2 hv hls (by omega) hsc.1 hsc.2 hs hnI hnS htg (by omega) hG hGr hGi hm hlg

end Go.Proofs.YtkdpdgpphpngeaaDoor
namespace Go.Proofs.YtkdpdgpphpngeaaDoor
open Go
def headSigns : List Char := [Char.ofNat 104, Char.ofNat 97, Char.ofNat 114, Char.ofNat 110, Char.ofNat 101, Char.ofNat 115, Char.ofNat 115, Char.ofNat 32, Char.ofNat 50, Char.ofNat 100, Char.ofNat 55, Char.ofNat 48, Char.ofNat 102, Char.ofNat 53, Char.ofNat 99, Char.ofNat 56, Char.ofNat 51, Char.ofNat 51, Char.ofNat 98, Char.ofNat 102, Char.ofNat 98, Char.ofNat 55, Char.ofNat 98, Char.ofNat 99, Char.ofNat 56, Char.ofNat 100, Char.ofNat 101, Char.ofNat 50, Char.ofNat 52, Char.ofNat 51, Char.ofNat 50, Char.ofNat 51, Char.ofNat 48, Char.ofNat 101, Char.ofNat 101, Char.ofNat 48, Char.ofNat 52, Char.ofNat 55, Char.ofNat 57, Char.ofNat 55, Char.ofNat 51, Char.ofNat 101, Char.ofNat 57, Char.ofNat 54, Char.ofNat 57, Char.ofNat 51, Char.ofNat 101, Char.ofNat 100, Char.ofNat 101, Char.ofNat 55, Char.ofNat 53, Char.ofNat 51, Char.ofNat 52, Char.ofNat 48, Char.ofNat 54, Char.ofNat 50, Char.ofNat 55, Char.ofNat 99, Char.ofNat 57, Char.ofNat 57, Char.ofNat 52, Char.ofNat 50, Char.ofNat 54, Char.ofNat 50, Char.ofNat 100, Char.ofNat 102, Char.ofNat 102, Char.ofNat 56, Char.ofNat 48, Char.ofNat 54, Char.ofNat 100, Char.ofNat 50, Char.ofNat 32, Char.ofNat 99, Char.ofNat 117, Char.ofNat 116, Char.ofNat 32, Char.ofNat 97, Char.ofNat 116, Char.ofNat 32, Char.ofNat 101, Char.ofNat 110, Char.ofNat 116, Char.ofNat 114, Char.ofNat 117, Char.ofNat 115, Char.ofNat 116, Char.ofNat 47, Char.ofNat 101, Char.ofNat 110, Char.ofNat 116, Char.ofNat 114, Char.ofNat 117, Char.ofNat 115, Char.ofNat 116, Char.ofNat 108, Char.ofNat 97, Char.ofNat 119, Char.ofNat 49, Char.ofNat 52, Char.ofNat 46, Char.ofNat 87, Char.ofNat 105, Char.ofNat 114, Char.ofNat 101, Char.ofNat 82, Char.ofNat 101, Char.ofNat 113, Char.ofNat 117, Char.ofNat 101, Char.ofNat 115, Char.ofNat 116, Char.ofNat 115, Char.ofNat 32, Char.ofNat 101, Char.ofNat 110, Char.ofNat 116, Char.ofNat 114, Char.ofNat 117, Char.ofNat 115, Char.ofNat 116, Char.ofNat 47, Char.ofNat 101, Char.ofNat 110, Char.ofNat 116, Char.ofNat 114, Char.ofNat 117, Char.ofNat 115, Char.ofNat 116, Char.ofNat 108, Char.ofNat 97, Char.ofNat 119, Char.ofNat 49, Char.ofNat 53, Char.ofNat 46, Char.ofNat 76, Char.ofNat 105, Char.ofNat 110, Char.ofNat 107, Char.ofNat 83, Char.ofNat 101, Char.ofNat 97, Char.ofNat 108, Char.ofNat 115, Char.ofNat 32, Char.ofNat 101, Char.ofNat 110, Char.ofNat 116, Char.ofNat 114, Char.ofNat 117, Char.ofNat 115, Char.ofNat 116, Char.ofNat 47, Char.ofNat 101, Char.ofNat 110, Char.ofNat 116, Char.ofNat 114, Char.ofNat 117, Char.ofNat 115, Char.ofNat 116, Char.ofNat 108, Char.ofNat 97, Char.ofNat 119, Char.ofNat 49, Char.ofNat 53, Char.ofNat 46, Char.ofNat 76, Char.ofNat 105, Char.ofNat 110, Char.ofNat 107, Char.ofNat 83, Char.ofNat 105, Char.ofNat 122, Char.ofNat 101, Char.ofNat 115, Char.ofNat 32, Char.ofNat 101, Char.ofNat 110, Char.ofNat 116, Char.ofNat 114, Char.ofNat 117, Char.ofNat 115, Char.ofNat 116, Char.ofNat 47, Char.ofNat 101, Char.ofNat 110, Char.ofNat 116, Char.ofNat 114, Char.ofNat 117, Char.ofNat 115, Char.ofNat 116, Char.ofNat 108, Char.ofNat 97, Char.ofNat 119, Char.ofNat 49, Char.ofNat 52, Char.ofNat 46, Char.ofNat 87, Char.ofNat 105, Char.ofNat 114, Char.ofNat 101, Char.ofNat 82, Char.ofNat 101, Char.ofNat 112, Char.ofNat 108, Char.ofNat 105, Char.ofNat 101, Char.ofNat 115, Char.ofNat 32, Char.ofNat 101, Char.ofNat 110, Char.ofNat 116, Char.ofNat 114, Char.ofNat 117, Char.ofNat 115, Char.ofNat 116, Char.ofNat 47, Char.ofNat 101, Char.ofNat 110, Char.ofNat 116, Char.ofNat 114, Char.ofNat 117, Char.ofNat 115, Char.ofNat 116, Char.ofNat 108, Char.ofNat 97, Char.ofNat 119, Char.ofNat 49, Char.ofNat 53, Char.ofNat 46, Char.ofNat 76, Char.ofNat 105, Char.ofNat 110, Char.ofNat 107, Char.ofNat 79, Char.ofNat 112, Char.ofNat 101, Char.ofNat 110, Char.ofNat 115, Char.ofNat 32, Char.ofNat 101, Char.ofNat 110, Char.ofNat 116, Char.ofNat 114, Char.ofNat 117, Char.ofNat 115, Char.ofNat 116, Char.ofNat 47, Char.ofNat 101, Char.ofNat 110, Char.ofNat 116, Char.ofNat 114, Char.ofNat 117, Char.ofNat 115, Char.ofNat 116, Char.ofNat 108, Char.ofNat 97, Char.ofNat 119, Char.ofNat 49, Char.ofNat 53, Char.ofNat 46, Char.ofNat 76, Char.ofNat 105, Char.ofNat 110, Char.ofNat 107, Char.ofNat 66, Char.ofNat 97, Char.ofNat 99, Char.ofNat 107, Char.ofNat 32, Char.ofNat 101, Char.ofNat 110, Char.ofNat 116, Char.ofNat 114, Char.ofNat 117, Char.ofNat 115, Char.ofNat 116, Char.ofNat 47, Char.ofNat 101, Char.ofNat 110, Char.ofNat 116, Char.ofNat 114, Char.ofNat 117, Char.ofNat 115, Char.ofNat 116, Char.ofNat 108, Char.ofNat 97, Char.ofNat 119, Char.ofNat 49, Char.ofNat 51, Char.ofNat 46, Char.ofNat 84, Char.ofNat 105, Char.ofNat 99, Char.ofNat 107, Char.ofNat 101, Char.ofNat 116, Char.ofNat 83, Char.ofNat 105, Char.ofNat 103, Char.ofNat 110, Char.ofNat 115, Char.ofNat 32, Char.ofNat 101, Char.ofNat 110, Char.ofNat 116, Char.ofNat 114, Char.ofNat 117, Char.ofNat 115, Char.ofNat 116, Char.ofNat 47, Char.ofNat 101, Char.ofNat 110, Char.ofNat 116, Char.ofNat 114, Char.ofNat 117, Char.ofNat 115, Char.ofNat 116, Char.ofNat 108, Char.ofNat 97, Char.ofNat 119, Char.ofNat 49, Char.ofNat 52, Char.ofNat 46, Char.ofNat 87, Char.ofNat 105, Char.ofNat 114, Char.ofNat 101, Char.ofNat 80, Char.ofNat 97, Char.ofNat 114, Char.ofNat 115, Char.ofNat 101, Char.ofNat 115, Char.ofNat 32, Char.ofNat 101, Char.ofNat 110, Char.ofNat 116, Char.ofNat 114, Char.ofNat 117, Char.ofNat 115, Char.ofNat 116, Char.ofNat 47, Char.ofNat 101, Char.ofNat 110, Char.ofNat 116, Char.ofNat 114, Char.ofNat 117, Char.ofNat 115, Char.ofNat 116, Char.ofNat 108, Char.ofNat 97, Char.ofNat 119, Char.ofNat 49, Char.ofNat 51, Char.ofNat 46, Char.ofNat 84, Char.ofNat 105, Char.ofNat 99, Char.ofNat 107, Char.ofNat 101, Char.ofNat 116, Char.ofNat 80, Char.ofNat 97, Char.ofNat 114, Char.ofNat 115, Char.ofNat 101, Char.ofNat 115, Char.ofNat 32, Char.ofNat 101, Char.ofNat 110, Char.ofNat 116, Char.ofNat 114, Char.ofNat 117, Char.ofNat 115, Char.ofNat 116, Char.ofNat 47, Char.ofNat 101, Char.ofNat 110, Char.ofNat 116, Char.ofNat 114, Char.ofNat 117, Char.ofNat 115, Char.ofNat 116, Char.ofNat 108, Char.ofNat 97, Char.ofNat 119, Char.ofNat 49, Char.ofNat 51, Char.ofNat 46, Char.ofNat 84, Char.ofNat 105, Char.ofNat 99, Char.ofNat 107, Char.ofNat 101, Char.ofNat 116, Char.ofNat 66, Char.ofNat 97, Char.ofNat 99, Char.ofNat 107, Char.ofNat 32, Char.ofNat 101, Char.ofNat 110, Char.ofNat 116, Char.ofNat 114, Char.ofNat 117, Char.ofNat 115, Char.ofNat 116, Char.ofNat 47, Char.ofNat 101, Char.ofNat 110, Char.ofNat 116, Char.ofNat 114, Char.ofNat 117, Char.ofNat 115, Char.ofNat 116, Char.ofNat 108, Char.ofNat 97, Char.ofNat 119, Char.ofNat 49, Char.ofNat 51, Char.ofNat 46, Char.ofNat 84, Char.ofNat 105, Char.ofNat 99, Char.ofNat 107, Char.ofNat 101, Char.ofNat 116, Char.ofNat 79, Char.ofNat 114, Char.ofNat 100, Char.ofNat 101, Char.ofNat 114, Char.ofNat 115, Char.ofNat 32, Char.ofNat 101, Char.ofNat 110, Char.ofNat 116, Char.ofNat 114, Char.ofNat 117, Char.ofNat 115, Char.ofNat 116, Char.ofNat 47, Char.ofNat 101, Char.ofNat 110, Char.ofNat 116, Char.ofNat 114, Char.ofNat 117, Char.ofNat 115, Char.ofNat 116, Char.ofNat 108, Char.ofNat 97, Char.ofNat 119, Char.ofNat 49, Char.ofNat 52, Char.ofNat 46, Char.ofNat 87, Char.ofNat 105, Char.ofNat 114, Char.ofNat 101, Char.ofNat 87, Char.ofNat 111, Char.ofNat 114, Char.ofNat 100, Char.ofNat 115, Char.ofNat 32, Char.ofNat 101, Char.ofNat 110, Char.ofNat 116, Char.ofNat 114, Char.ofNat 117, Char.ofNat 115, Char.ofNat 116, Char.ofNat 47, Char.ofNat 101, Char.ofNat 110, Char.ofNat 116, Char.ofNat 114, Char.ofNat 117, Char.ofNat 115, Char.ofNat 116, Char.ofNat 108, Char.ofNat 97, Char.ofNat 119, Char.ofNat 49, Char.ofNat 52, Char.ofNat 46, Char.ofNat 87, Char.ofNat 105, Char.ofNat 114, Char.ofNat 101, Char.ofNat 66, Char.ofNat 97, Char.ofNat 99, Char.ofNat 107, Char.ofNat 32, Char.ofNat 101, Char.ofNat 110, Char.ofNat 116, Char.ofNat 114, Char.ofNat 117, Char.ofNat 115, Char.ofNat 116, Char.ofNat 47, Char.ofNat 101, Char.ofNat 110, Char.ofNat 116, Char.ofNat 114, Char.ofNat 117, Char.ofNat 115, Char.ofNat 116, Char.ofNat 108, Char.ofNat 97, Char.ofNat 119, Char.ofNat 49, Char.ofNat 51, Char.ofNat 46, Char.ofNat 84, Char.ofNat 105, Char.ofNat 99, Char.ofNat 107, Char.ofNat 101, Char.ofNat 116, Char.ofNat 83, Char.ofNat 101, Char.ofNat 97, Char.ofNat 108, Char.ofNat 115]
theorem headStr : Tryd.prog.initOrder = String.ofList headSigns := by kernel_rfl
theorem headIs : Tryd.prog.initOrder.toList = headSigns := by
 rw [headStr]
 exact String.toList_ofList
def sumSigns : List Char := [Char.ofNat 50, Char.ofNat 100, Char.ofNat 55, Char.ofNat 48, Char.ofNat 102, Char.ofNat 53, Char.ofNat 99, Char.ofNat 56, Char.ofNat 51, Char.ofNat 51, Char.ofNat 98, Char.ofNat 102, Char.ofNat 98, Char.ofNat 55, Char.ofNat 98, Char.ofNat 99, Char.ofNat 56, Char.ofNat 100, Char.ofNat 101, Char.ofNat 50, Char.ofNat 52, Char.ofNat 51, Char.ofNat 50, Char.ofNat 51, Char.ofNat 48, Char.ofNat 101, Char.ofNat 101, Char.ofNat 48, Char.ofNat 52, Char.ofNat 55, Char.ofNat 57, Char.ofNat 55, Char.ofNat 51, Char.ofNat 101, Char.ofNat 57, Char.ofNat 54, Char.ofNat 57, Char.ofNat 51, Char.ofNat 101, Char.ofNat 100, Char.ofNat 101, Char.ofNat 55, Char.ofNat 53, Char.ofNat 51, Char.ofNat 52, Char.ofNat 48, Char.ofNat 54, Char.ofNat 50, Char.ofNat 55, Char.ofNat 99, Char.ofNat 57, Char.ofNat 57, Char.ofNat 52, Char.ofNat 50, Char.ofNat 54, Char.ofNat 50, Char.ofNat 100, Char.ofNat 102, Char.ofNat 102, Char.ofNat 56, Char.ofNat 48, Char.ofNat 54, Char.ofNat 100, Char.ofNat 50]
theorem sumIs : "2d70f5c833bfb7bc8de243230ee047973e9693ede75340627c994262dff806d2".toList = sumSigns := by
 have h : "2d70f5c833bfb7bc8de243230ee047973e9693ede75340627c994262dff806d2" = String.ofList sumSigns := by kernel_rfl
 rw [h]
 exact String.toList_ofList
theorem head_cons {α : Type} {l : List α} {x : α} (h : l.head? = some x) : ∃ r, l = x :: r := by cases l <;> simp_all
theorem make_cut {P : Program} {r : List (List Char)} (h : behindMainWord (wordsSigns P.initOrder.toList) = "cut".toList :: r) : P.make = some .cut := by
 unfold Program.make
 rw [h]
 rfl
theorem headLifts_cut {P : Program} (h : (stripLifts liftWords (behindMainWord (wordsSigns P.initOrder.toList))).1 = []) : P.headLifts = [] := by
 unfold Program.headLifts
 simp only [h]
 split <;> rfl
theorem lifts_cut {P : Program} {r : List (List Char)} (h : behindMainWord (wordsSigns P.initOrder.toList) = "cut".toList :: r) (h1 : P.headLifts = []) : P.liftsFinal = false := by
 unfold Program.liftsFinal
 rw [h, h1]
 rfl
theorem mayEnter_cut {P : Program} {r : List (List Char)} (h : behindMainWord (wordsSigns P.initOrder.toList) = "cut".toList :: r) (h1 : P.laysLater = false) (h2 : P.bearsReflect = false)
  (h3 : (stripLifts liftWords (behindMainWord (wordsSigns P.initOrder.toList))).1 = []) (h4 : (stripLifts liftWords (behindMainWord (wordsSigns P.initOrder.toList))).2.head? = some "cut".toList) (h5 : P.doorFits [] = true) : P.mayEnter = true := by
 unfold Program.mayEnter
 rw [h] at h3 h4 ⊢
 simp only [h1, h2, h3, h4, h5]
 simp
theorem main_cut {P : Program} {s : List Char} {r : List (List Char)} (h : wordsSigns P.initOrder.toList = "harness".toList :: s :: r) (hs : isSumSigns s = true) : P.mainIs = some (true, s) := by
 unfold Program.mainIs
 rw [h]
 simp [hs]
theorem hHead : (behindMainWord (wordsSigns Tryd.prog.initOrder.toList)).head? = some "cut".toList := by
 rw [headIs]
 kernel_rfl
theorem hStrip : (stripLifts liftWords (behindMainWord (wordsSigns Tryd.prog.initOrder.toList))).1 = [] := by
 rw [headIs]
 kernel_rfl
theorem hStrip2 : (stripLifts liftWords (behindMainWord (wordsSigns Tryd.prog.initOrder.toList))).2.head? = some "cut".toList := by
 rw [headIs]
 kernel_rfl
theorem hMain : wordsSigns Tryd.prog.initOrder.toList = "harness".toList :: sumSigns :: (wordsSigns headSigns).drop 2 := by
 rw [headIs]
 kernel_rfl
theorem hSum : isSumSigns sumSigns = true := by kernel_rfl
theorem hLater : Tryd.prog.laysLater = false := by kernel_rfl
theorem hReflect : Tryd.prog.bearsReflect = false := by kernel_rfl
theorem hDoor : Tryd.prog.doorFits [] = true := by kernel_rfl
theorem kMayEnter : Tryd.prog.mayEnter = true := by
 obtain ⟨r, h⟩ := head_cons hHead
 exact mayEnter_cut h hLater hReflect hStrip hStrip2 hDoor
theorem kLifts : Tryd.prog.liftsFinal = false := by
 obtain ⟨r, h⟩ := head_cons hHead
 exact lifts_cut h (headLifts_cut hStrip)
theorem kMake : Tryd.prog.make = some .cut := by
 obtain ⟨r, h⟩ := head_cons hHead
 exact make_cut h
theorem kMainIs : Tryd.prog.mainIs = some (true, "2d70f5c833bfb7bc8de243230ee047973e9693ede75340627c994262dff806d2".toList) := by
 rw [sumIs]
 exact main_cut hMain hSum
theorem kLaidOut : (laidOutB Tryd.prog) = true := by kernel_rfl
theorem kRowed : mapsRowed Tryd.prog = true := by kernel_rfl
theorem kStops : (Tryd.prog.stops == []) = true := by kernel_rfl
theorem kKnobs : (Tryd.prog.stopKnobs == []) = true := by kernel_rfl
theorem kHeard : Tryd.prog.stopsHeard = true := by kernel_rfl
theorem kLooks : true = Tryd.prog.looks [] := by kernel_rfl
end Go.Proofs.YtkdpdgpphpngeaaDoor
