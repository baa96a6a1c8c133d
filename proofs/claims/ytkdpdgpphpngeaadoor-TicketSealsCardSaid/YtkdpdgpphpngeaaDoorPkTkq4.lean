import Derived.LaidEql
import Derived.MakeChecks
import Derived.Laws.StructEq
import Derived.Test.YtkdpdgpphpngeaaDoorPkTkq3
set_option linter.unusedVariables false
set_option linter.unusedSimpArgs false
set_option maxRecDepth 100000
namespace Go.Proofs.YtkdpdgpphpngeaaDoor
open Go Go.Sx
attribute [local irreducible] mid zr8 zr32 rotr wordL spreadL comprL cpN adN spN wrdN constL initL padL stN outN routN hashL sumG blkL xbN raN macL orN
theorem label_c (k l : List UInt8) (w : World) (hk : k.length = 16) (hl : l.length ≤ 1000) (hG : GLs w) : Calls Tryd.prog 166 #[.agg (cu8 k).toArray, .string (⟨l.toArray⟩ : ByteArray)] w (Post w [] (fun v L => v = .agg (cu8 (macL k l)).toArray ∧ L = [])) := by
 have hmx : maxLen = 9223372036854775807 := rfl
 refine enter w [] 10 [] [.agg (cu8 k).toArray, .string (⟨l.toArray⟩ : ByteArray)] Tryd.func166 rfl rfl (by simp) (BR (by simp) (by simp) (by simp)) ?_
 show JC _ _ _ [(0, .agg (cu8 k).toArray), (1, .string (⟨l.toArray⟩ : ByteArray))] _
 refine AF (AB (AV (CG (.agg (cu8 k).toArray) (cu8 k) rfl (by first | rfl | simp)) rfl ?_))
 rintro v1 L1 ⟨nb1, hnb1, rfl, rfl⟩
 show JL _ _ _ _ ((2, Ptr nb1 0) :: _) [⟨nb1, cu8 k, 131, (0, 0)⟩]
 refine AV (A7 _ (cu8 (zr8 32)) C6 (by kernel_rfl)) rfl ?_
 rintro v1 L1 ⟨nb2, hnb2, rfl, rfl⟩
 show JL _ _ _ _ ((4, Ptr nb2 0) :: _) [_, ⟨nb2, cu8 (zr8 32), 54, (0, 0)⟩]
 refine AI (AC (AF (AB (AA (Slc nb1 0 16 16) (B1 16 5 1 0 16 0 16 EX AM rfl rfl rfl (by omega) (by omega) (by omega) (by omega) (by omega) 16 (by omega)) rfl ?_))))
 refine AA _ (AG rfl) rfl ?_
 refine AV (Step_strBytes 5 l Tryd.underlying9 AK B3 rfl (by first | omega | (simp [maxLen]; done))) rfl ?_
 rintro v1 L1 ⟨nb3, sp1, cp1, fz1, hnb3, rfl, rfl, hl1, hm1⟩
 show JL _ _ _ _ ((7, Slc nb3 0 l.length cp1) :: _) [_, _, ⟨nb3, cu8 l ++ sp1, 5, fz1⟩]
 refine AV (BT 43 1 _ [(0, Slc nb3 0 l.length cp1)] ([Slc nb3 0 l.length cp1]) FE CJ Tryd.zeroValue43 rfl rfl rfl (by kernel_rfl)) rfl ?_
 rintro v1 L1 ⟨nb4, hnb4, rfl, rfl⟩
 show JL _ _ _ _ ((8, Slc nb4 0 1 1) :: _) [_, _, _, ⟨nb4, [Slc nb3 0 l.length cp1], 43, (0, 0)⟩]
 refine A0 (AY 145 [Slc nb1 0 16 16, Slc nb4 0 1 1] (.agg (cu8 (macL k ([l].flatten))).toArray) (A4 _ Tryd.call145 rfl) (fun w1 hw1 => mac_c (some ⟨nb1, 0, none⟩) 16 16 k nb4 1 [Slc nb3 0 l.length cp1] [l] w1 hk (fun h => by cases h) (by omega) (RdB.of hw1 (AR 0 rfl (AN _)) (by simp)) (by simp) (by simp) (by simp) ⟨RdA.of hw1 (AR 3 rfl (Seg.head)) (by simp), ⟨⟨(some ⟨nb3, 0, none⟩), cp1, congrArg (fun n => Value.slice (some ⟨nb3, 0, none⟩) n cp1) ((rfl : l.length = _)).symm, (RdB.of hw1 (AR 2 rfl (BE (AN _))) (by simp))⟩, trivial⟩⟩ (by simp only [List.flatten_cons, List.flatten_nil, List.length_append, List.length_nil]; omega) (hG.at hw1))) rfl ?_
 show JL _ _ _ _ ((9, .agg (cu8 (macL k ([l].flatten))).toArray) :: _) [_, _, _, _]
 refine A0 (AX 1 nb2 32 (cu8 (zr8 32)) 54 (cu8 (macL k ([l].flatten))) rfl rfl rfl CK (A8 (CB _ _)) (by first | exact CD | exact CS | exact CR | (simp [cu8, cu32, cu64, Value.oneCell']; done)) (by simp [(AP 32)]) (A6 (by simp [(AP 32), (CB _ _)]))) rfl ?_
 show JL _ _ _ _ _ [_, ⟨nb2, cu8 (macL k ([l].flatten)), 54, (0, 0)⟩, _, _]
 refine AI (AC (BO (BQ (.agg (cu8 (macL k ([l].flatten))).toArray) (res1 Tryd.results166 (DY rfl (BH Tryd.isAgg54 CK (A8 (CB _ _)) (AR 1 rfl (AN _))))) fun w1 hw1 => ?_)))
 refine ⟨_, [], rfl, ⟨?_, rfl⟩, hw1.sub (by simp) (by simp)⟩
 first | rfl | (simp; done)
theorem rlabel_c (k l : List UInt8) (w : World) (hk : k.length = 16) (hl : l.length ≤ 1000) (hGr : GLr w) (hGi : GLi w) : Calls Tryd.prog 200 #[.agg (cu8 k).toArray, .string (⟨l.toArray⟩ : ByteArray)] w (Post w [] (fun v L => v = .agg (cu8 (macL k l)).toArray ∧ L = [])) := by
 have hmx : maxLen = 9223372036854775807 := rfl
 refine enter w [] 9 [] [.agg (cu8 k).toArray, .string (⟨l.toArray⟩ : ByteArray)] Tryd.func200 rfl rfl (by simp) (BR (by simp) (by simp) (by simp)) ?_
 show JC _ _ _ [(0, .agg (cu8 k).toArray), (1, .string (⟨l.toArray⟩ : ByteArray))] _
 refine AF (AB (AV (CG (.agg (cu8 k).toArray) (cu8 k) rfl (by first | rfl | simp)) rfl ?_))
 rintro v1 L1 ⟨nb1, hnb1, rfl, rfl⟩
 show JL _ _ _ _ ((2, Ptr nb1 0) :: _) [⟨nb1, cu8 k, 131, (0, 0)⟩]
 refine AV (A7 _ (cu8 (zr8 32)) C6 (by kernel_rfl)) rfl ?_
 rintro v1 L1 ⟨nb2, hnb2, rfl, rfl⟩
 show JL _ _ _ _ ((4, Ptr nb2 0) :: _) [_, ⟨nb2, cu8 (zr8 32), 54, (0, 0)⟩]
 refine AI (AC (AF (AB (AA (Slc nb1 0 16 16) (B1 16 5 1 0 16 0 16 EX AM rfl rfl rfl (by omega) (by omega) (by omega) (by omega) (by omega) 16 (by omega)) rfl ?_))))
 refine AA _ (AG rfl) rfl ?_
 refine AV (Step_strBytes 5 l Tryd.underlying9 AK B3 rfl (by first | omega | (simp [maxLen]; done))) rfl ?_
 rintro v1 L1 ⟨nb3, sp1, cp1, fz1, hnb3, rfl, rfl, hl1, hm1⟩
 show JL _ _ _ _ ((7, Slc nb3 0 l.length cp1) :: _) [_, _, ⟨nb3, cu8 l ++ sp1, 5, fz1⟩]
 refine A0 (AY 92 [Slc nb1 0 16 16, Slc nb3 0 l.length cp1] (.agg (cu8 (macL k l)).toArray) (A4 _ Tryd.call92 rfl) (fun w1 hw1 => rmac_c (some ⟨nb1, 0, none⟩) 16 16 k (some ⟨nb3, 0, none⟩) l.length cp1 l w1 hk (fun h => by cases h) (by omega) (RdB.of hw1 (AR 0 rfl (AN _)) (by simp)) (rfl : l.length = _) (by omega) (RdB.of hw1 (AR 2 rfl (BE (AN _))) (by simp)) (GLr.at hw1 hGr) (GLi.at hw1 hGi))) rfl ?_
 show JL _ _ _ _ ((8, .agg (cu8 (macL k l)).toArray) :: _) [_, _, _]
 refine A0 (AX 1 nb2 32 (cu8 (zr8 32)) 54 (cu8 (macL k l)) rfl rfl rfl CK (A8 (CB _ _)) (by first | exact CD | exact CS | exact CR | (simp [cu8, cu32, cu64, Value.oneCell']; done)) (by simp [(AP 32)]) (A6 (by simp [(AP 32), (CB _ _)]))) rfl ?_
 show JL _ _ _ _ _ [_, ⟨nb2, cu8 (macL k l), 54, (0, 0)⟩, _]
 refine AI (AC (BO (BQ (.agg (cu8 (macL k l)).toArray) (res1 Tryd.results200 (DY rfl (BH Tryd.isAgg54 CK (A8 (CB _ _)) (AR 1 rfl (AN _))))) fun w1 hw1 => ?_)))
 refine ⟨_, [], rfl, ⟨?_, rfl⟩, hw1.sub (by simp) (by simp)⟩
 first | rfl | (simp; done)
theorem keysOf_c (k : List UInt8) (w : World) (hk : k.length = 16) (hG : GLs w) : Calls Tryd.prog 140 #[.agg (cu8 k).toArray] w (Post w [] (fun v L => v = .agg (cu8 (mid (macL k ([101, 110, 116, 114, 117, 115, 116, 32, 115, 101, 97, 108] : List UInt8)) 0 16) ++ cu8 (macL k ([101, 110, 116, 114, 117, 115, 116, 32, 116, 97, 103] : List UInt8)) ++ cu8 (macL k ([101, 110, 116, 114, 117, 115, 116, 32, 116, 105, 99, 107, 101, 116] : List UInt8)) ++ cu8 (macL k ([101, 110, 116, 114, 117, 115, 116, 32, 108, 105, 110, 107] : List UInt8))).toArray ∧ L = [])) := by
 refine enter w [] 16 [] [.agg (cu8 k).toArray] Tryd.func140 rfl rfl (by simp) (BR (by simp) (by simp) (by simp)) ?_
 show JC _ _ _ [(0, .agg (cu8 k).toArray)] _
 refine AF (AB (AV (CG (.agg (cu8 k).toArray) (cu8 k) rfl (by first | rfl | simp)) rfl ?_))
 rintro v1 L1 ⟨nb1, hnb1, rfl, rfl⟩
 show JL _ _ _ _ ((1, Ptr nb1 0) :: _) [⟨nb1, cu8 k, 131, (0, 0)⟩]
 refine AV (A7 _ (cu8 (zr8 16) ++ cu8 (zr8 32) ++ cu8 (zr8 32) ++ cu8 (zr8 32)) Tryd.zeroValue221 (by kernel_rfl)) rfl ?_
 rintro v1 L1 ⟨nb2, hnb2, rfl, rfl⟩
 show JL _ _ _ _ ((2, Ptr nb2 0) :: _) [_, ⟨nb2, cu8 (zr8 16) ++ cu8 (zr8 32) ++ cu8 (zr8 32) ++ cu8 (zr8 32), 221, (0, 0)⟩]
 refine AI (AC (AF (AB (AA (.agg (cu8 k).toArray) (AL rfl (BH C7 CO (A8 hk) (AR 0 rfl (AN _)))) rfl ?_))))
 refine A0 (AY 166 [.agg (cu8 k).toArray, .string (⟨⟨[101, 110, 116, 114, 117, 115, 116, 32, 115, 101, 97, 108]⟩⟩)] (.agg (cu8 (macL k ([101, 110, 116, 114, 117, 115, 116, 32, 115, 101, 97, 108] : List UInt8))).toArray) (A4 _ Tryd.call166 rfl) (fun w1 hw1 => label_c k ([101, 110, 116, 114, 117, 115, 116, 32, 115, 101, 97, 108] : List UInt8) w1 hk (by first | omega | (simp; done)) (hG.at hw1))) rfl ?_
 show JL _ _ _ _ ((5, .agg (cu8 (macL k ([101, 110, 116, 114, 117, 115, 116, 32, 115, 101, 97, 108] : List UInt8))).toArray) :: _) [_, _]
 refine AV (A7 _ (cu8 (zr8 32)) C6 (by kernel_rfl)) rfl ?_
 rintro v1 L1 ⟨nb3, hnb3, rfl, rfl⟩
 show JL _ _ _ _ ((3, Ptr nb3 0) :: _) [_, _, ⟨nb3, cu8 (zr8 32), 54, (0, 0)⟩]
 refine A0 (AX 2 nb3 32 (cu8 (zr8 32)) 54 (cu8 (macL k ([101, 110, 116, 114, 117, 115, 116, 32, 115, 101, 97, 108] : List UInt8))) rfl rfl rfl CK (A8 (CB _ _)) (by first | exact CD | exact CS | exact CR | (simp [cu8, cu32, cu64, Value.oneCell']; done)) (by simp [(AP 32)]) (A6 (by simp [(AP 32), (CB _ _)]))) rfl ?_
 show JL _ _ _ _ _ [_, _, ⟨nb3, cu8 (macL k ([101, 110, 116, 114, 117, 115, 116, 32, 115, 101, 97, 108] : List UInt8)), 54, (0, 0)⟩]
 refine AI (AC (AF ?_))
 have hl1 : (mid (macL k ([101, 110, 116, 114, 117, 115, 116, 32, 115, 101, 97, 108] : List UInt8)) 0 16).length = 16 := D8 (by rw [(CB _ _)]; omega)
 refine CT 16 5 [(0, Slc nb3 0 16 32), (1, Ptr nb3 0), (2, .agg (cu8 (mid (macL k ([101, 110, 116, 114, 117, 115, 116, 32, 115, 101, 97, 108] : List UInt8)) 0 16)).toArray), (3, .agg (cu8 k).toArray), (5, .agg (cu8 k).toArray), (7, .agg (cu8 k).toArray)] BL rfl (by decide +kernel) ?_
 have hl2 : (mid (macL k ([101, 110, 116, 114, 117, 115, 116, 32, 115, 101, 97, 108] : List UInt8)) 0 16).length = 16 := D8 (by rw [(CB _ _)]; omega)
 refine C2 ⟨[], [0, 1, 2, 3, 5, 7], [], [0, 1, 2, 3, 5, 7], [4]⟩ 4 rfl rfl (by decide +kernel) rfl ⟨⟨_, rfl, AD rfl (B1 32 5 1 0 16 0 32 B4 AM rfl rfl rfl (by omega) (by omega) (by omega) (by omega) (by omega) 16 (by omega))⟩, ⟨_, rfl, AD rfl (Ev_s2ap 16 EX rfl (by omega))⟩, ⟨_, rfl, AD rfl (AL rfl (BH C7 CO (A8 hl2) (AR 2 rfl (FB 0 16 (by rw [(CB _ _)]; omega)))))⟩, ⟨_, rfl, AD rfl (AL rfl (BH C7 CO (A8 hk) (AR 0 rfl (AN _))))⟩, ⟨_, rfl, AD rfl (AL rfl (BH C7 CO (A8 hk) (AR 0 rfl (AN _))))⟩, ⟨_, rfl, AD rfl (AL rfl (BH C7 CO (A8 hk) (AR 0 rfl (AN _))))⟩, trivial⟩ rfl (AW rfl (AY 166 [.agg (cu8 k).toArray, .string (⟨⟨[101, 110, 116, 114, 117, 115, 116, 32, 116, 97, 103]⟩⟩)] (.agg (cu8 (macL k ([101, 110, 116, 114, 117, 115, 116, 32, 116, 97, 103] : List UInt8))).toArray) (A4 _ Tryd.call166 rfl) (fun w1 hw1 => label_c k ([101, 110, 116, 114, 117, 115, 116, 32, 116, 97, 103] : List UInt8) w1 hk (by first | omega | (simp; done)) (hG.at hw1)))) ?_
 show DP _ _ _ _ _ _ _ _ [_, _, _]
 have hl3 : (mid (macL k ([101, 110, 116, 114, 117, 115, 116, 32, 115, 101, 97, 108] : List UInt8)) 0 16).length = 16 := D8 (by rw [(CB _ _)]; omega)
 refine C2 ⟨[4], [0, 1, 2, 3, 5, 7], [3], [0, 1, 2, 5, 7], [6]⟩ 6 rfl rfl (by decide +kernel) rfl ⟨⟨_, rfl, AD rfl (B1 32 5 1 0 16 0 32 B4 AM rfl rfl rfl (by omega) (by omega) (by omega) (by omega) (by omega) 16 (by omega))⟩, ⟨_, rfl, AD rfl (Ev_s2ap 16 EX rfl (by omega))⟩, ⟨_, rfl, AD rfl (AL rfl (BH C7 CO (A8 hl3) (AR 2 rfl (FB 0 16 (by rw [(CB _ _)]; omega)))))⟩, ⟨_, rfl, AD rfl (AL rfl (BH C7 CO (A8 hk) (AR 0 rfl (AN _))))⟩, ⟨_, rfl, AD rfl (AL rfl (BH C7 CO (A8 hk) (AR 0 rfl (AN _))))⟩, trivial⟩ rfl (AW rfl (AY 166 [.agg (cu8 k).toArray, .string (⟨⟨[101, 110, 116, 114, 117, 115, 116, 32, 116, 105, 99, 107, 101, 116]⟩⟩)] (.agg (cu8 (macL k ([101, 110, 116, 114, 117, 115, 116, 32, 116, 105, 99, 107, 101, 116] : List UInt8))).toArray) (A4 _ Tryd.call166 rfl) (fun w1 hw1 => label_c k ([101, 110, 116, 114, 117, 115, 116, 32, 116, 105, 99, 107, 101, 116] : List UInt8) w1 hk (by first | omega | (simp; done)) (hG.at hw1)))) ?_
 show DP _ _ _ _ _ _ _ _ [_, _, _]
 have hl4 : (mid (macL k ([101, 110, 116, 114, 117, 115, 116, 32, 115, 101, 97, 108] : List UInt8)) 0 16).length = 16 := D8 (by rw [(CB _ _)]; omega)
 refine CU ⟨[4, 6], [0, 1, 2, 3, 5, 7], [3, 5], [0, 1, 2, 7], [8]⟩ 8 _ rfl rfl (by decide +kernel) rfl ⟨⟨_, rfl, AD rfl (B1 32 5 1 0 16 0 32 B4 AM rfl rfl rfl (by omega) (by omega) (by omega) (by omega) (by omega) 16 (by omega))⟩, ⟨_, rfl, AD rfl (Ev_s2ap 16 EX rfl (by omega))⟩, ⟨_, rfl, AD rfl (AL rfl (BH C7 CO (A8 hl4) (AR 2 rfl (FB 0 16 (by rw [(CB _ _)]; omega)))))⟩, ⟨_, rfl, AD rfl (AL rfl (BH C7 CO (A8 hk) (AR 0 rfl (AN _))))⟩, trivial⟩ rfl (AW rfl (AY 166 [.agg (cu8 k).toArray, .string (⟨⟨[101, 110, 116, 114, 117, 115, 116, 32, 108, 105, 110, 107]⟩⟩)] (.agg (cu8 (macL k ([101, 110, 116, 114, 117, 115, 116, 32, 108, 105, 110, 107] : List UInt8))).toArray) (A4 _ Tryd.call166 rfl) (fun w1 hw1 => label_c k ([101, 110, 116, 114, 117, 115, 116, 32, 108, 105, 110, 107] : List UInt8) w1 hk (by first | omega | (simp; done)) (hG.at hw1)))) ?_
 rintro v1 L1 ⟨rfl, rfl⟩
 refine ⟨[(9, .agg (cu8 (mid (macL k ([101, 110, 116, 114, 117, 115, 116, 32, 115, 101, 97, 108] : List UInt8)) 0 16) ++ cu8 (macL k ([101, 110, 116, 114, 117, 115, 116, 32, 116, 97, 103] : List UInt8)) ++ cu8 (macL k ([101, 110, 116, 114, 117, 115, 116, 32, 116, 105, 99, 107, 101, 116] : List UInt8)) ++ cu8 (macL k ([101, 110, 116, 114, 117, 115, 116, 32, 108, 105, 110, 107] : List UInt8))).toArray)], ?_⟩
 show DP _ _ _ _ _ _ _ _ [_, _, _]
 have hl5 : (mid (macL k ([101, 110, 116, 114, 117, 115, 116, 32, 115, 101, 97, 108] : List UInt8)) 0 16).length = 16 := D8 (by rw [(CB _ _)]; omega)
 refine C2 ⟨[4, 6, 8], [0, 1, 2, 3, 5, 7, 9], [3, 5, 7], [0, 1, 2, 9], [10]⟩ 10 rfl rfl (by decide +kernel) rfl ⟨⟨_, rfl, AD rfl (B1 32 5 1 0 16 0 32 B4 AM rfl rfl rfl (by omega) (by omega) (by omega) (by omega) (by omega) 16 (by omega))⟩, ⟨_, rfl, AD rfl (Ev_s2ap 16 EX rfl (by omega))⟩, ⟨_, rfl, AD rfl (AL rfl (BH C7 CO (A8 hl5) (AR 2 rfl (FB 0 16 (by rw [(CB _ _)]; omega)))))⟩, ⟨_, rfl, AD rfl (DG [(0, .agg (cu8 (mid (macL k ([101, 110, 116, 114, 117, 115, 116, 32, 115, 101, 97, 108] : List UInt8)) 0 16)).toArray), (1, .agg (cu8 (macL k ([101, 110, 116, 114, 117, 115, 116, 32, 116, 97, 103] : List UInt8))).toArray), (2, .agg (cu8 (macL k ([101, 110, 116, 114, 117, 115, 116, 32, 116, 105, 99, 107, 101, 116] : List UInt8))).toArray), (3, .agg (cu8 (macL k ([101, 110, 116, 114, 117, 115, 116, 32, 108, 105, 110, 107] : List UInt8))).toArray)] _ rfl (fun _ => run_build_struct (places := #[(0, 16), (16, 32), (48, 32), (80, 32)]) (z := .agg ((List.replicate 16 (U8 0) ++ (List.replicate 32 (U8 0) ++ (List.replicate 32 (U8 0) ++ (List.replicate 32 (U8 0) ++ []))))).toArray) (fun _ => by kernel_rfl) Tryd.underlying221 (fun _ => by kernel_rfl) ((EW ([]) (List.replicate 16 (U8 0)) (List.replicate 32 (U8 0) ++ (List.replicate 32 (U8 0) ++ (List.replicate 32 (U8 0) ++ []))) (cu8 (mid (macL k ([101, 110, 116, 114, 117, 115, 116, 32, 115, 101, 97, 108] : List UInt8)) 0 16)) rfl (by simp [hl1]) (by simp [hl1])).trans ((EW (([]) ++ (cu8 (mid (macL k ([101, 110, 116, 114, 117, 115, 116, 32, 115, 101, 97, 108] : List UInt8)) 0 16))) (List.replicate 32 (U8 0)) (List.replicate 32 (U8 0) ++ (List.replicate 32 (U8 0) ++ [])) (cu8 (macL k ([101, 110, 116, 114, 117, 115, 116, 32, 116, 97, 103] : List UInt8))) rfl (by simp [hl1, (CB _ _)]) (by simp [(CB _ _)])).trans ((EW ((([]) ++ (cu8 (mid (macL k ([101, 110, 116, 114, 117, 115, 116, 32, 115, 101, 97, 108] : List UInt8)) 0 16))) ++ (cu8 (macL k ([101, 110, 116, 114, 117, 115, 116, 32, 116, 97, 103] : List UInt8)))) (List.replicate 32 (U8 0)) (List.replicate 32 (U8 0) ++ []) (cu8 (macL k ([101, 110, 116, 114, 117, 115, 116, 32, 116, 105, 99, 107, 101, 116] : List UInt8))) rfl (by simp [hl1, (CB _ _), (CB _ _)]) (by simp [(CB _ _)])).trans ((EW (((([]) ++ (cu8 (mid (macL k ([101, 110, 116, 114, 117, 115, 116, 32, 115, 101, 97, 108] : List UInt8)) 0 16))) ++ (cu8 (macL k ([101, 110, 116, 114, 117, 115, 116, 32, 116, 97, 103] : List UInt8)))) ++ (cu8 (macL k ([101, 110, 116, 114, 117, 115, 116, 32, 116, 105, 99, 107, 101, 116] : List UInt8)))) (List.replicate 32 (U8 0)) [] (cu8 (macL k ([101, 110, 116, 114, 117, 115, 116, 32, 108, 105, 110, 107] : List UInt8))) rfl (by simp [hl1, (CB _ _), (CB _ _), (CB _ _)]) (by simp [(CB _ _)])).trans (by simp [Instr.fill])))))))⟩, trivial⟩ rfl (AW rfl (AX 1 nb2 112 (cu8 (zr8 16) ++ cu8 (zr8 32) ++ cu8 (zr8 32) ++ cu8 (zr8 32)) 221 (cu8 (mid (macL k ([101, 110, 116, 114, 117, 115, 116, 32, 115, 101, 97, 108] : List UInt8)) 0 16) ++ cu8 (macL k ([101, 110, 116, 114, 117, 115, 116, 32, 116, 97, 103] : List UInt8)) ++ cu8 (macL k ([101, 110, 116, 114, 117, 115, 116, 32, 116, 105, 99, 107, 101, 116] : List UInt8)) ++ cu8 (macL k ([101, 110, 116, 114, 117, 115, 116, 32, 108, 105, 110, 107] : List UInt8))) rfl rfl rfl Tryd.sizeOf221 (by simp [hl1, (CB _ _), (CB _ _), (CB _ _)]) (by simp only [← cu8_app]; exact CD) (by simp [(AP 16), (AP 32), (AP 32), (AP 32)]) (A6 (by simp [(AP 16), (AP 32), (AP 32), (AP 32), hl1, (CB _ _), (CB _ _), (CB _ _)])))) ?_
 show DP _ _ _ _ _ _ _ _ [_, ⟨nb2, cu8 (mid (macL k ([101, 110, 116, 114, 117, 115, 116, 32, 115, 101, 97, 108] : List UInt8)) 0 16) ++ cu8 (macL k ([101, 110, 116, 114, 117, 115, 116, 32, 116, 97, 103] : List UInt8)) ++ cu8 (macL k ([101, 110, 116, 114, 117, 115, 116, 32, 116, 105, 99, 107, 101, 116] : List UInt8)) ++ cu8 (macL k ([101, 110, 116, 114, 117, 115, 116, 32, 108, 105, 110, 107] : List UInt8)), 221, (0, 0)⟩, _]
 refine DE ⟨[4, 6, 8, 10], [0, 1, 2, 3, 5, 7, 9], [0, 1, 2, 3, 5, 7, 9], [], []⟩ rfl rfl (by decide +kernel) rfl trivial ?_
 refine CC (F' := [(2, Ptr nb2 0)]) (by kernel_rfl) ?_
 refine AC (BO (BQ (.agg (cu8 (mid (macL k ([101, 110, 116, 114, 117, 115, 116, 32, 115, 101, 97, 108] : List UInt8)) 0 16) ++ cu8 (macL k ([101, 110, 116, 114, 117, 115, 116, 32, 116, 97, 103] : List UInt8)) ++ cu8 (macL k ([101, 110, 116, 114, 117, 115, 116, 32, 116, 105, 99, 107, 101, 116] : List UInt8)) ++ cu8 (macL k ([101, 110, 116, 114, 117, 115, 116, 32, 108, 105, 110, 107] : List UInt8))).toArray) (res1 Tryd.results140 (DY rfl (BH Tryd.isAgg221 Tryd.sizeOf221 (by simp [hl1, (CB _ _), (CB _ _), (CB _ _)]) (AR 1 rfl (AN _))))) fun w1 hw1 => ?_))
 exact ⟨_, [], rfl, ⟨rfl, rfl⟩, hw1.sub (by simp) (by simp)⟩
theorem rtag_c (k : List UInt8) (w : World) (hk : k.length = 16) (hGr : GLr w) (hGi : GLi w) : Calls Tryd.prog 189 #[.agg (cu8 k).toArray] w (Post w [] (fun v L => v = .agg (cu8 (macL k ([101, 110, 116, 114, 117, 115, 116, 32, 116, 97, 103] : List UInt8))).toArray ∧ L = [])) := by
 refine enter w [] 5 [] [.agg (cu8 k).toArray] Tryd.func189 rfl rfl (by simp) (BR (by simp) (by simp) (by simp)) ?_
 show JC _ _ _ [(0, .agg (cu8 k).toArray)] _
 refine AF (AB (AV (CG (.agg (cu8 k).toArray) (cu8 k) rfl (by first | rfl | simp)) rfl ?_))
 rintro v1 L1 ⟨nb1, hnb1, rfl, rfl⟩
 show JL _ _ _ _ ((1, Ptr nb1 0) :: _) [⟨nb1, cu8 k, 131, (0, 0)⟩]
 refine AV (A7 _ (cu8 (zr8 32)) C6 (by kernel_rfl)) rfl ?_
 rintro v1 L1 ⟨nb2, hnb2, rfl, rfl⟩
 show JL _ _ _ _ ((2, Ptr nb2 0) :: _) [_, ⟨nb2, cu8 (zr8 32), 54, (0, 0)⟩]
 refine AI (AC (AF (AB (AA (.agg (cu8 k).toArray) (AL rfl (BH C7 CO (A8 hk) (AR 0 rfl (AN _)))) rfl ?_))))
 refine A0 (AY 200 [.agg (cu8 k).toArray, .string (⟨⟨[101, 110, 116, 114, 117, 115, 116, 32, 116, 97, 103]⟩⟩)] (.agg (cu8 (macL k ([101, 110, 116, 114, 117, 115, 116, 32, 116, 97, 103] : List UInt8))).toArray) (A4 _ Tryd.call200 rfl) (fun w1 hw1 => rlabel_c k ([101, 110, 116, 114, 117, 115, 116, 32, 116, 97, 103] : List UInt8) w1 hk (by first | omega | (simp; done)) (GLr.at hw1 hGr) (GLi.at hw1 hGi))) rfl ?_
 show JL _ _ _ _ ((4, .agg (cu8 (macL k ([101, 110, 116, 114, 117, 115, 116, 32, 116, 97, 103] : List UInt8))).toArray) :: _) [_, _]
 refine A0 (AX 1 nb2 32 (cu8 (zr8 32)) 54 (cu8 (macL k ([101, 110, 116, 114, 117, 115, 116, 32, 116, 97, 103] : List UInt8))) rfl rfl rfl CK (A8 (CB _ _)) (by first | exact CD | exact CS | exact CR | (simp [cu8, cu32, cu64, Value.oneCell']; done)) (by simp [(AP 32)]) (A6 (by simp [(AP 32), (CB _ _)]))) rfl ?_
 show JL _ _ _ _ _ [_, ⟨nb2, cu8 (macL k ([101, 110, 116, 114, 117, 115, 116, 32, 116, 97, 103] : List UInt8)), 54, (0, 0)⟩]
 refine AI (AC (BO (BQ (.agg (cu8 (macL k ([101, 110, 116, 114, 117, 115, 116, 32, 116, 97, 103] : List UInt8))).toArray) (res1 Tryd.results189 (DY rfl (BH Tryd.isAgg54 CK (A8 (CB _ _)) (AR 1 rfl (AN _))))) fun w1 hw1 => ?_)))
 exact ⟨_, [], rfl, ⟨rfl, rfl⟩, hw1.sub (by simp) (by simp)⟩
theorem renc6_c (k : List UInt8) (w : World) (hk : k.length = 16) (hGr : GLr w) (hGi : GLi w) : Calls Tryd.prog 188 #[.agg (cu8 k).toArray] w (Post w [] (fun v L => v = .agg (cu8 (mid (macL k ([101, 110, 116, 114, 117, 115, 116, 32, 115, 101, 97, 108] : List UInt8)) 0 16)).toArray ∧ L = [])) := by
 refine enter w [] 11 [] [.agg (cu8 k).toArray] Tryd.func188 rfl rfl (by simp) (BR (by simp) (by simp) (by simp)) ?_
 show JC _ _ _ [(0, .agg (cu8 k).toArray)] _
 refine AF (AB (AV (CG (.agg (cu8 k).toArray) (cu8 k) rfl (by first | rfl | simp)) rfl ?_))
 rintro v1 L1 ⟨nb1, hnb1, rfl, rfl⟩
 show JL _ _ _ _ ((1, Ptr nb1 0) :: _) [⟨nb1, cu8 k, 131, (0, 0)⟩]
 refine AV (A7 _ (cu8 (zr8 16)) Tryd.zeroValue131 (by kernel_rfl)) rfl ?_
 rintro v1 L1 ⟨nb2, hnb2, rfl, rfl⟩
 show JL _ _ _ _ ((2, Ptr nb2 0) :: _) [_, ⟨nb2, cu8 (zr8 16), 131, (0, 0)⟩]
 refine AI (AC (AF (AB (AA (.agg (cu8 k).toArray) (AL rfl (BH C7 CO (A8 hk) (AR 0 rfl (AN _)))) rfl ?_))))
 refine A0 (AY 200 [.agg (cu8 k).toArray, .string (⟨⟨[101, 110, 116, 114, 117, 115, 116, 32, 115, 101, 97, 108]⟩⟩)] (.agg (cu8 (macL k ([101, 110, 116, 114, 117, 115, 116, 32, 115, 101, 97, 108] : List UInt8))).toArray) (A4 _ Tryd.call200 rfl) (fun w1 hw1 => rlabel_c k ([101, 110, 116, 114, 117, 115, 116, 32, 115, 101, 97, 108] : List UInt8) w1 hk (by first | omega | (simp; done)) (GLr.at hw1 hGr) (GLi.at hw1 hGi))) rfl ?_
 show JL _ _ _ _ ((6, .agg (cu8 (macL k ([101, 110, 116, 114, 117, 115, 116, 32, 115, 101, 97, 108] : List UInt8))).toArray) :: _) [_, _]
 refine AV (A7 _ (cu8 (zr8 32)) C6 (by kernel_rfl)) rfl ?_
 rintro v1 L1 ⟨nb3, hnb3, rfl, rfl⟩
 show JL _ _ _ _ ((3, Ptr nb3 0) :: _) [_, _, ⟨nb3, cu8 (zr8 32), 54, (0, 0)⟩]
 refine A0 (AX 2 nb3 32 (cu8 (zr8 32)) 54 (cu8 (macL k ([101, 110, 116, 114, 117, 115, 116, 32, 115, 101, 97, 108] : List UInt8))) rfl rfl rfl CK (A8 (CB _ _)) (by first | exact CD | exact CS | exact CR | (simp [cu8, cu32, cu64, Value.oneCell']; done)) (by simp [(AP 32)]) (A6 (by simp [(AP 32), (CB _ _)]))) rfl ?_
 show JL _ _ _ _ _ [_, _, ⟨nb3, cu8 (macL k ([101, 110, 116, 114, 117, 115, 116, 32, 115, 101, 97, 108] : List UInt8)), 54, (0, 0)⟩]
 refine AI (AC (AF (AB (AV (A7 _ (cu8 (zr8 16)) Tryd.zeroValue131 (by kernel_rfl)) rfl ?_))))
 rintro v1 L1 ⟨nb4, hnb4, rfl, rfl⟩
 show JL _ _ _ _ ((4, Ptr nb4 0) :: _) [_, _, _, ⟨nb4, cu8 (zr8 16), 131, (0, 0)⟩]
 refine AI (AC (AF (CT 11 2 [(0, Slc nb4 0 16 16), (1, Slc nb3 0 32 32)] BL rfl (by decide +kernel) ?_)))
 have hl1 : (mid (macL k ([101, 110, 116, 114, 117, 115, 116, 32, 115, 101, 97, 108] : List UInt8)) 0 16).length = 16 := D8 (by rw [(CB _ _)]; omega)
 refine C2 ⟨[], [0, 1], [], [0, 1], [2]⟩ 2 rfl rfl (by decide +kernel) rfl ⟨⟨_, rfl, AD rfl (B1 16 5 1 0 16 0 16 EX AM rfl rfl rfl (by omega) (by omega) (by omega) (by omega) (by omega) 16 (by omega))⟩, ⟨_, rfl, AD rfl (B1 32 5 1 0 32 0 32 B4 AM rfl rfl rfl (by omega) (by omega) (by omega) (by omega) (by omega) 32 (by omega))⟩, trivial⟩ rfl (AW rfl (GF 43 43 5 3 nb4 0 16 16 (cu8 (zr8 16)) 131 (some ⟨nb3, 0, none⟩) 32 32 16 (cu8 (mid (macL k ([101, 110, 116, 114, 117, 115, 116, 32, 115, 101, 97, 108] : List UInt8)) 0 16)) (cu8 (mid (macL k ([101, 110, 116, 114, 117, 115, 116, 32, 115, 101, 97, 108] : List UInt8)) 0 16)) AK FK rfl rfl rfl (by rfl) (by simp [hl1]; try omega) (SrcAt.mem (AR 2 rfl (FB 0 16 (by rw [(CB _ _)]; omega)))) (by simp [(AP 16)]; try omega) (by first | exact CD | exact CS | exact CR | (simp [cu8, cu32, cu64, Value.oneCell']; done)) (A6 (by simp [(AP 16), hl1])))) ?_
 show DP _ _ _ _ _ _ _ _ [_, _, _, ⟨nb4, cu8 (mid (macL k ([101, 110, 116, 114, 117, 115, 116, 32, 115, 101, 97, 108] : List UInt8)) 0 16), 131, (0, 0)⟩]
 refine DE ⟨[2], [0, 1], [0, 1], [], []⟩ rfl rfl (by decide +kernel) rfl trivial ?_
 refine CC (F' := [(2, Ptr nb2 0), (4, Ptr nb4 0)]) (by kernel_rfl) ?_
 refine AC (AF (AB (AA (.agg (cu8 (mid (macL k ([101, 110, 116, 114, 117, 115, 116, 32, 115, 101, 97, 108] : List UInt8)) 0 16)).toArray) (AL rfl (BH C7 CO (A8 hl1) (AR 3 rfl (AN _)))) rfl ?_)))
 refine A0 (AX 1 nb2 16 (cu8 (zr8 16)) 131 (cu8 (mid (macL k ([101, 110, 116, 114, 117, 115, 116, 32, 115, 101, 97, 108] : List UInt8)) 0 16)) rfl rfl rfl CO (A8 hl1) (by first | exact CD | exact CS | exact CR | (simp [cu8, cu32, cu64, Value.oneCell']; done)) (by simp [(AP 16)]) (A6 (by simp [(AP 16), hl1]))) rfl ?_
 show JL _ _ _ _ _ [_, ⟨nb2, cu8 (mid (macL k ([101, 110, 116, 114, 117, 115, 116, 32, 115, 101, 97, 108] : List UInt8)) 0 16), 131, (0, 0)⟩, _, _]
 refine AI (AC (BO (BQ (.agg (cu8 (mid (macL k ([101, 110, 116, 114, 117, 115, 116, 32, 115, 101, 97, 108] : List UInt8)) 0 16)).toArray) (res1 Tryd.results188 (DY rfl (BH C7 CO (A8 hl1) (AR 1 rfl (AN _))))) fun w1 hw1 => ?_)))
 exact ⟨_, [], rfl, ⟨rfl, rfl⟩, hw1.sub (by simp) (by simp)⟩
end Go.Proofs.YtkdpdgpphpngeaaDoor
namespace Go.Sx
open Go Go.RowKit
variable {C : Cx} {Q : Exit → Act → World → Prop} {F F0 : Frm} {L : List Ent}
def CutQ {ι : Type} (C : Cx) (Q : Exit → Act → World → Prop) (FI : ι → Frm) (LI : ι → List Ent) (Pre : ι → Prop) : Exit → Act → World → Prop := fun e a w =>
 (e = .normal ∧ ∃ x, Pre x ∧ Fr (FI x) C a ∧ Hp C.w0 C.M (LI x) w) ∨ (e ≠ .normal ∧ Q e a w)
theorem JC_cut {ι : Type} {c : Code} (FI : ι → Frm) (LI : ι → List Ent) (Pre : ι → Prop) (h1 : JC C (CutQ C Q FI LI Pre) c F L) (h2 : ∀ x, Pre x → JQ C Q .normal (FI x) (LI x)) : JC C Q c F L := fun a w ha hw => wpIn_mono (h1 a w ha hw) (by
  rintro e a w (⟨rfl, x, hp, ha, hw⟩ | ⟨_, h⟩)
  · exact h2 x hp a w ha hw
  · exact h)
theorem JQ_cut {ι : Type} {FI : ι → Frm} {LI : ι → List Ent} {Pre : ι → Prop} (x : ι) (hp : Pre x) (hF : Sub (FI x) F) (hL : LI x = L) : JQ C (CutQ C Q FI LI Pre) .normal F L := fun a w ha hw => .inl ⟨rfl, x, hp, ha.weaken hF, hL ▸ hw⟩
variable {ops : Array Oper} {Vl : Vals}
end Go.Sx
namespace Go.Sx
open Go Go.RowKit
def errV (T e : Nat) : Value := if e = 0 then .nilIface else .iface T (I64 e)
theorem errV_pos {T e : Nat} (h : e ≠ 0) : errV T e = .iface T (I64 e) := if_neg h
section
variable {P : Program} {w : World}
theorem GC (op : BinOp) (t : TypeId) (x : Operand) (v : Value) (T e : Nat) : (eqGuard op t x (.const v) (errV T e) .nilIface).run P w = .ok () w := by
  unfold errV
  split
  · exact eqGuard_nilc op t x v
  · exact eqGuard_if op t x _ _ _
theorem neq_errV {t : TypeId} {ms : Array (String × TypeId)} (hu : P.underlying t = some (.interface ms)) (T e : Nat) : (binOp .neq t (errV T e) .nilIface).run P w = .ok (.bool (!(decide (e = 0)))) w := by
  by_cases h : e = 0
  · subst h; exact F6 hu
  · rw [errV_pos h, decide_eq_false h]; exact neq_if_nil hu
end
end Go.Sx
namespace Go.Proofs.YtkdpdgpphpngeaaDoor
open Go Go.Sx
theorem ext8n {a b : List UInt8} (hl : a.length = b.length) (h : ∀ i, i < a.length → g8 a i = g8 b i) : a = b :=
 List.ext_getElem hl fun i h1 h2 => by
  have := h i h1
  rwa [g8_eq h1, g8_eq h2] at this
theorem g8_mr {f : Nat → UInt8} {n i : Nat} (h : i < n) : g8 ((List.range n).map f) i = f i := by
 rw [g8_eq (by simpa using h)]; simp
def numK (k : Nat) (x : UInt64) (j : Nat) : List UInt8 := (List.range j).map fun i => (x >>> UInt64.ofNat (8*k - 8*i - 8)).toUInt8
theorem EA (k : Nat) (x : UInt64) (j : Nat) : (numK k x j).length = j := by simp [numK]
theorem numK_zero (k : Nat) (x : UInt64) : numK k x 0 = [] := rfl
theorem numK_succ (k : Nat) (x : UInt64) (j : Nat) : numK k x (j + 1) = numK k x j ++ [(x >>> UInt64.ofNat (8*k - 8*j - 8)).toUInt8] := by
 simp [numK, List.range_succ]
def rnK (k : Nat) (x : UInt64) : Nat → List UInt8 × UInt64
 | 0 => (zr8 k, x)
 | j + 1 => ((rnK k x j).1.set (k - j - 1) ((rnK k x j).2 % 256).toUInt8, (rnK k x j).2 / 256)
theorem rnK_len (k : Nat) (x : UInt64) : ∀ j, (rnK k x j).1.length = k
 | 0 => AP k
 | j + 1 => by rw [rnK]; simp [rnK_len k x j]
theorem rnK_snd (k : Nat) (x : UInt64) : ∀ j, (rnK k x j).2.toNat = x.toNat / 256 ^ j
 | 0 => by simp [rnK]
 | j + 1 => by
  rw [rnK]
  show ((rnK k x j).2 / 256).toNat = _
  rw [UInt64.toNat_div, rnK_snd k x j, Nat.pow_succ, ← Nat.div_div_eq_div_mul]
  rfl
theorem u8_modK (y : UInt64) : (y % 256).toUInt8 = y.toUInt8 := by
 apply UInt8.toNat_inj.1
 rw [UInt64.toNat_toUInt8, UInt64.toNat_toUInt8, UInt64.toNat_mod]
 show y.toNat % 256 % 2 ^ 8 = _
 omega
theorem shr_divK (x : UInt64) (j : Nat) (h : j ≤ 7) : (x >>> UInt64.ofNat (8*j)).toNat = x.toNat / 256 ^ j := by
 have : (UInt64.ofNat (8*j)).toNat = 8*j := by rw [UInt64.toNat_ofNat']; exact Nat.mod_eq_of_lt (by omega)
 rw [UInt64.toNat_shiftRight, this, Nat.mod_eq_of_lt (by omega), Nat.shiftRight_eq_div_pow, Nat.pow_mul]
theorem rnK_get (k : Nat) (x : UInt64) (hk : k ≤ 8) : ∀ j, j ≤ k → ∀ i, k - j ≤ i → i < k → g8 (rnK k x j).1 i = (x >>> UInt64.ofNat (8*k - 8*i - 8)).toUInt8
  | 0, _, i, h1, h2 => by omega
  | j + 1, h, i, h1, h2 => by
    rw [rnK]
    show g8 ((rnK k x j).1.set (k - j - 1) ((rnK k x j).2 % 256).toUInt8) i = _
    rw [FS _ _ _ _ (by rw [rnK_len]; omega)]
    by_cases hi : k - j - 1 = i
    · rw [if_pos hi, u8_modK]
      have : (rnK k x j).2 = x >>> UInt64.ofNat (8*j) := UInt64.toNat_inj.1 (by rw [rnK_snd k x j, shr_divK x j (by omega)])
      rw [this]
      have e : 8*k - 8*i - 8 = 8*j := by omega
      rw [e]
    · rw [if_neg hi]
      exact rnK_get k x hk j (by omega) i (by omega) h2
theorem rnK_num (k : Nat) (x : UInt64) (hk : k ≤ 8) : (rnK k x k).1 = numK k x k :=
 ext8n (by rw [rnK_len, EA]) fun i hi => by
  rw [rnK_len] at hi
  rw [rnK_get k x hk k (Nat.le_refl _) i (by omega) hi, numK, g8_mr hi]
def hashL (z : List UInt8) : List UInt8 := (z ++ zr8 32).take 32
theorem hashL_len (z : List UInt8) : (hashL z).length = 32 := by simp [hashL, zr8]
def Szd (s : Int) : Prop := s = 1 ∨ s = 2 ∨ s = 4 ∨ s = 8
attribute [local irreducible] mid zr8 zr32 numK rnK
theorem sizedT_c (s : Int) (w : World) (hs : Szd s) : Calls Tryd.prog 143 #[I64 (s)] w (Post w [] (fun v L => v = .bool true ∧ L = [])) := by
 refine enter w [] 17 [] [I64 (s)] Tryd.func143 rfl rfl (by simp) (BR (by simp) (by simp) (by simp)) ?_
 show JC _ _ _ [(0, I64 (s))] _
 refine AF (AB (AA _ (AE rfl) rfl ?_))
 refine AI (AC (AF (AB (AA _ (AG rfl) rfl ?_))))
 refine AA (.bool (decide ((s) = (1:Int)))) (AJ rfl rfl fun _ => D6 _ _) rfl ?_
 refine AA _ (AG rfl) rfl ?_
 rcases Bool.eq_false_or_eq_true (decide ((s) = (1:Int))) with hb1 | hb1
 ·
  have hp1 : (s) = (1:Int) := of_decide_eq_true hb1
  refine AO 2 5 false _ rfl rfl hb1 rfl ?_
  refine AO 2 5 false _ rfl rfl hb1 rfl ?_
  refine AA _ (CW _ rfl hb1 rfl) rfl ?_
  refine AA _ (AG rfl) rfl ?_
  refine AO 6 9 false _ rfl rfl rfl rfl ?_
  refine AO 6 9 false _ rfl rfl rfl rfl ?_
  refine AA _ (CW _ rfl rfl rfl) rfl ?_
  refine AA _ (AG rfl) rfl ?_
  refine AO 10 13 false _ rfl rfl rfl rfl ?_
  refine AO 10 13 false _ rfl rfl rfl rfl ?_
  refine AA _ (CW _ rfl rfl rfl) rfl ?_
  refine AA _ (AE rfl) rfl ?_
  refine AI (AC (BO (BQ (.bool true) (res1 Tryd.results143 (B2 rfl)) fun w1 hw1 => ?_)))
  exact ⟨_, [], rfl, ⟨by rw [show (true) = true from rfl], rfl⟩, hw1.sub (by simp) (by simp)⟩
 ·
  have hp1 : ¬ ((s) = (1:Int)) := of_decide_eq_false hb1
  refine BB 2 5 false _ _ rfl rfl hb1 (AG rfl) rfl ?_
  refine BB 2 5 false _ (.bool (decide ((s) = (2:Int)))) rfl rfl hb1 (AJ rfl rfl fun _ => D6 _ _) rfl ?_
  refine AA _ (C0 _ rfl hb1 rfl) rfl ?_
  refine AA _ (AG rfl) rfl ?_
  rcases Bool.eq_false_or_eq_true (decide ((s) = (2:Int))) with hb2 | hb2
  ·
   have hp2 : (s) = (2:Int) := of_decide_eq_true hb2
   refine AO 6 9 false _ rfl rfl hb2 rfl ?_
   refine AO 6 9 false _ rfl rfl hb2 rfl ?_
   refine AA _ (CW _ rfl hb2 rfl) rfl ?_
   refine AA _ (AG rfl) rfl ?_
   refine AO 10 13 false _ rfl rfl rfl rfl ?_
   refine AO 10 13 false _ rfl rfl rfl rfl ?_
   refine AA _ (CW _ rfl rfl rfl) rfl ?_
   refine AA _ (AE rfl) rfl ?_
   refine AI (AC (BO (BQ (.bool true) (res1 Tryd.results143 (B2 rfl)) fun w1 hw1 => ?_)))
   exact ⟨_, [], rfl, ⟨by rw [show (true) = true from rfl], rfl⟩, hw1.sub (by simp) (by simp)⟩
  ·
   have hp2 : ¬ ((s) = (2:Int)) := of_decide_eq_false hb2
   refine BB 6 9 false _ _ rfl rfl hb2 (AG rfl) rfl ?_
   refine BB 6 9 false _ (.bool (decide ((s) = (4:Int)))) rfl rfl hb2 (AJ rfl rfl fun _ => D6 _ _) rfl ?_
   refine AA _ (C0 _ rfl hb2 rfl) rfl ?_
   refine AA _ (AG rfl) rfl ?_
   rcases Bool.eq_false_or_eq_true (decide ((s) = (4:Int))) with hb3 | hb3
   ·
    have hp3 : (s) = (4:Int) := of_decide_eq_true hb3
    refine AO 10 13 false _ rfl rfl hb3 rfl ?_
    refine AO 10 13 false _ rfl rfl hb3 rfl ?_
    refine AA _ (CW _ rfl hb3 rfl) rfl ?_
    refine AA _ (AE rfl) rfl ?_
    refine AI (AC (BO (BQ (.bool true) (res1 Tryd.results143 (B2 rfl)) fun w1 hw1 => ?_)))
    exact ⟨_, [], rfl, ⟨by rw [show (true) = true from rfl], rfl⟩, hw1.sub (by simp) (by simp)⟩
   ·
    have hp3 : ¬ ((s) = (4:Int)) := of_decide_eq_false hb3
    refine BB 10 13 false _ _ rfl rfl hb3 (AG rfl) rfl ?_
    refine BB 10 13 false _ (.bool (decide ((s) = (8:Int)))) rfl rfl hb3 (AJ rfl rfl fun _ => D6 _ _) rfl ?_
    refine AA _ (C0 _ rfl hb3 rfl) rfl ?_
    refine AA _ (AE rfl) rfl ?_
    refine AI (AC (BO (BQ (.bool (decide ((s) = (8:Int)))) (res1 Tryd.results143 (B2 rfl)) fun w1 hw1 => ?_)))
    exact ⟨_, [], rfl, ⟨congrArg Value.bool (decide_eq_true (by unfold Szd at hs; omega)), rfl⟩, hw1.sub (by simp) (by simp)⟩
theorem numN_c (wb tot : Nat) (ev : Value) (nv : UInt64) (k : Nat)  (w : World) (h0 : w.heap[wb]? = some (.cells [ev, .slice none 0 0].toArray 149 (0, 0))) (hs : Szd (k:Int)) (hx : k < 8 → nv >>> UInt64.ofNat (8*k) = 0) (ht : k = tot) : Calls Tryd.prog 81 #[Ptr wb 0, U64 nv, I64 k] w (Post w [wb] (fun v L => v = Ptr wb 0 ∧ ∃ g sp cap, L = [⟨wb, [ev, Slc g 0 tot cap], 149, (0, 0)⟩, ⟨g, cu8 (numK k nv k) ++ sp, 5, (0, 0)⟩] ∧ sp.length = cap - tot ∧ tot ≤ cap ∧ cap ≤ maxLen)) := by
 have hmx : maxLen = 9223372036854775807 := rfl
 have hs4 : k = 1 ∨ k = 2 ∨ k = 4 ∨ k = 8 := by unfold Szd at hs; omega
 refine enter w [wb] 51 [⟨wb, [ev, .slice none 0 0], 149, (0, 0)⟩] [Ptr wb 0, U64 nv, I64 k] Tryd.func81 rfl rfl (by simp) (BR (by simpa using h0) (by simp) (by simp)) ?_
 show JC _ _ _ [(0, Ptr wb 0), (1, U64 nv), (2, I64 k)] _
 refine AF (AB (AA _ (AE rfl) rfl ?_))
 refine AI (AC (AF (AF (AB (AA _ (AG rfl) rfl ?_)))))
 refine AA (.bool false) (FQ _ _ _ rfl rfl (fun _ => eqGuard_ptr ..) fun _ => eql_ptr_nil Tryd.underlying145) rfl ?_
 refine AI (AC (DV _ rfl rfl ?_))
 refine BJ (AC (AF (AF (AB (AA _ (AG rfl) rfl ?_)))))
 refine A0 (AY 143 [I64 k] (.bool true) (A4 _ Tryd.call143 rfl) (fun w1 _ => sizedT_c ((k:Int)) w1 hs)) rfl ?_
 show JL _ _ _ _ ((11, .bool true) :: _) [_]
 refine AA (.bool (!true)) (FV rfl) rfl ?_
 refine AA _ (AG rfl) rfl ?_
 refine BB 3 13 false _ _ rfl rfl rfl (AG rfl) rfl ?_
 refine BB 3 13 false _ (.bool (decide (((k:Int)) < (8:Int)))) rfl rfl rfl (AJ rfl rfl fun _ => B9 _ _) rfl ?_
 refine BB 3 13 false _ _ rfl rfl rfl (AG rfl) rfl ?_
 rcases Bool.eq_false_or_eq_true (decide (((k:Int)) < (8:Int))) with hb1 | hb1
 ·
  have hp1 : ((k:Int)) < (8:Int) := of_decide_eq_true hb1
  refine BB 6 16 true _ _ rfl rfl hb1 (AG rfl) rfl ?_
  refine BB 6 16 true _ _ rfl rfl hb1 (AG rfl) rfl ?_
  refine BB 6 16 true _ (I64 (8*(k:Int))) rfl rfl hb1 (AJ rfl rfl fun _ => DX _ _ (8*(k:Int)) (by omega) (by omega)) rfl ?_
  refine BB 6 16 true _ (U64 (nv >>> UInt64.ofNat (8*k))) rfl rfl hb1 (AJ rfl rfl fun _ => FC nv _ _ (8*k) (by omega) (by omega)) rfl ?_
  refine BB 6 16 true _ (.bool (decide ((nv >>> UInt64.ofNat (8*k)) ≠ (0:UInt64)))) rfl rfl hb1 (AJ rfl rfl fun _ => FD (nv >>> UInt64.ofNat (8*k)) (0:UInt64)) rfl ?_
  refine BB 3 13 false _ _ rfl rfl rfl (CW _ rfl hb1 rfl) rfl ?_
  refine AA _ (C0 _ rfl rfl rfl) rfl ?_
  refine AI (AC (DV _ rfl (decide_eq_false (fun h => h (hx (by omega)))) ?_))
  refine BJ (AC (AF (AF (AB (AA _ (AG rfl) rfl ?_)))))
  refine AA (I64 ((k:Int) - 1)) (AJ rfl rfl fun _ => C5 _ _ ((k:Int) - 1) (by omega) (by omega)) rfl ?_
  refine AA _ (AE rfl) rfl ?_
  refine AI (AC (A9 (DI (ι := (Unit) ⊕ (Nat × List UInt8 × Nat × List Value × Nat)) (fun x => match x with | .inl _ => [(0, Ptr wb 0), (1, U64 nv), (6, .pointer none), (7, I64 ((k:Int) - 1))] | .inr ⟨q, oq, gq, spq, cpq⟩ => [(0, Ptr wb 0), (1, U64 nv), (6, .pointer none), (7, I64 ((k:Int) - (q:Int) - 1))]) (fun x => match x with | .inl _ => [⟨wb, [ev, .slice none 0 0], 149, (0, 0)⟩] | .inr ⟨q, oq, gq, spq, cpq⟩ => [⟨wb, [ev, Slc gq 0 q cpq], 149, (0, 0)⟩, ⟨gq, cu8 oq ++ spq, 5, (0, 0)⟩]) (fun x => match x with | .inl _ => True | .inr ⟨q, oq, gq, spq, cpq⟩ => 1 ≤ q ∧ q ≤ k ∧ oq = numK k nv q ∧ oq.length = q ∧ spq.length = cpq - (q) ∧ q ≤ cpq ∧ cpq ≤ maxLen) (fun x => match x with | .inl _ => k + 1 | .inr ⟨q, oq, gq, spq, cpq⟩ => k - q) (.inl ()) trivial (Sub.all rfl) rfl ?_)))
  rintro (_ | ⟨q, oq, gq, spq, cpq⟩) hx
  ·
   obtain _ := hx
   show JC _ _ _ [(0, Ptr wb 0), (1, U64 nv), (6, .pointer none), (7, I64 ((k:Int) - 1))] [⟨wb, [ev, .slice none 0 0], 149, (0, 0)⟩]
   refine AF (AF (AB (AA _ (AG rfl) rfl ?_)))
   refine AA (.bool (decide ((0:Int) ≤ ((k:Int) - 1)))) (AJ rfl rfl fun _ => FY _ _) rfl ?_
   refine AI (AC (D1 _ rfl (decide_eq_true (by omega)) ?_))
   refine BJ (AC (AF (A9 (CT 51 4 [(0, Ptr wb 0), (1, Ptr wb 0), (2, Ptr wb 0), (3, Ptr wb 1), (4, .slice none 0 0), (5, U64 nv), (6, I64 ((k:Int) - 1)), (7, I64 (8*(k:Int) - 8)), (8, U64 (nv >>> UInt64.ofNat (8*k - 8))), (9, U8 ((nv >>> UInt64.ofNat (8*k - 8)).toUInt8))] BL rfl (by decide +kernel) ?_))))
   refine CU ⟨[], [0, 1, 2, 3, 4, 5, 6, 7, 8, 9], [], [0, 1, 2, 3, 4, 5, 6, 7, 8, 9], [10]⟩ 10 _ rfl rfl (by decide +kernel) rfl ⟨AU rfl rfl rfl, AU rfl rfl rfl, ⟨_, rfl, AD rfl (CI rfl)⟩, ⟨_, rfl, AD rfl (AH 1 43 1 CY rfl CJ rfl rfl)⟩, ⟨_, rfl, AD rfl (AL rfl (AZ D0 (AR 0 rfl (AS (Seg.head)))))⟩, AU rfl rfl rfl, AU rfl rfl rfl, ⟨_, rfl, AD rfl (AJ rfl rfl fun _ => DX _ _ (8*(k:Int) - 8) (by omega) (by omega))⟩, ⟨_, rfl, AD rfl (AJ rfl rfl fun _ => FC nv _ _ (8*k - 8) (by omega) (by omega))⟩, ⟨_, rfl, AD rfl (EG _ _ rfl fun _ => E9 (by rw [B8]; rfl) B3 _)⟩, trivial⟩ rfl (AW rfl (BT 5 1 _ [(0, U8 ((nv >>> UInt64.ofNat (8*k - 8)).toUInt8))] (cu8 ([(nv >>> UInt64.ofNat (8*k - 8)).toUInt8])) AK AM C1 rfl rfl rfl (by kernel_rfl))) ?_
   rintro v1 L1 ⟨nb1, hnb1, rfl, rfl⟩
   refine ⟨[], ?_⟩
   show DP _ _ _ _ _ _ _ _ [_, ⟨nb1, cu8 ([(nv >>> UInt64.ofNat (8*k - 8)).toUInt8]), 5, (0, 0)⟩]
   refine CU ⟨[10], [0, 1, 2, 3, 4, 5, 6, 7, 8, 9], [5, 6, 7, 8, 9], [0, 1, 2, 3, 4], [11]⟩ 11 _ rfl rfl (by decide +kernel) rfl ⟨AU rfl rfl rfl, AU rfl rfl rfl, ⟨_, rfl, AD rfl (CI rfl)⟩, ⟨_, rfl, AD rfl (AH 1 43 1 CY rfl CJ rfl rfl)⟩, ⟨_, rfl, AD rfl (AL rfl (AZ D0 (AR 0 rfl (AS (Seg.head)))))⟩, trivial⟩ rfl (AW rfl (DH 43 5 [false, false] (.slice none 0 0) 0 ([] : List UInt8) ([(nv >>> UInt64.ofNat (8*k - 8)).toUInt8]) (some ⟨nb1, 0, none⟩) 1 1 1 AK C4 rfl (.inl ⟨rfl, rfl, rfl, rfl, by omega⟩) rfl (by simp) (SrcAt.mem (AR 1 rfl (AN _))) (by omega) (by unfold maxLen; omega) (by omega))) ?_
   rintro v1 L1 ⟨nb2, sp1, cp1, hg1, rfl, rfl, ha1, ha2, ha3, ha4⟩
   refine ⟨[(12, Ptr wb 0), (13, Ptr wb 1)], ?_⟩
   show DP _ _ _ _ _ _ _ _ [_, _, ⟨nb2, cu8 (([] : List UInt8) ++ ([(nv >>> UInt64.ofNat (8*k - 8)).toUInt8])) ++ sp1, 5, (0, 0)⟩]
   refine C2 ⟨[10, 11], [0, 1, 2, 3, 4, 5, 6, 7, 8, 9, 12, 13], [1, 2, 3, 4, 5, 6, 7, 8, 9], [0, 12, 13], [14]⟩ 14 rfl rfl (by decide +kernel) rfl ⟨AU rfl rfl rfl, ⟨_, rfl, AD rfl (CI rfl)⟩, ⟨_, rfl, AD rfl (AH 1 43 1 CY rfl CJ rfl rfl)⟩, trivial⟩ rfl (AW rfl (CN 0 wb 1 1 ([ev, .slice none 0 0]) 149 (Slc nb2 0 1 cp1) ([Slc nb2 0 1 cp1]) ([ev, Slc nb2 0 1 cp1]) rfl rfl rfl rfl CJ rfl (by simp [Value.oneCell']) (Nat.le_of_ble_eq_true rfl) (rfl))) ?_
   show DP _ _ _ _ _ _ _ _ [⟨wb, [ev, Slc nb2 0 1 cp1], 149, (0, 0)⟩, _, _]
   refine DE ⟨[10, 11, 14], [0, 1, 2, 3, 4, 5, 6, 7, 8, 9, 12, 13], [0, 1, 2, 3, 4, 5, 6, 7, 8, 9, 12, 13], [], []⟩ rfl rfl (by decide +kernel) rfl trivial ?_
   refine CC (F' := [(36, Ptr wb 0), (37, Ptr wb 0), (38, Ptr wb 0), (39, Ptr wb 1), (40, .slice none 0 0), (41, U64 nv), (42, I64 ((k:Int) - 1)), (43, I64 (8*(k:Int) - 8)), (44, U64 (nv >>> UInt64.ofNat (8*k - 8))), (45, U8 ((nv >>> UInt64.ofNat (8*k - 8)).toUInt8)), (46, Slc nb1 0 1 1), (47, Slc nb2 0 1 cp1), (48, Ptr wb 0), (49, Ptr wb 1), (0, Ptr wb 0), (1, U64 nv), (6, .pointer none), (7, I64 ((k:Int) - 1)), (32, I64 ((k:Int) - 1)), (33, .bool (decide ((0:Int) ≤ ((k:Int) - 1))))]) (by kernel_rfl) ?_
   refine A5 (AC (AB (AA _ (AG rfl) rfl ?_)))
   refine AA (I64 ((k:Int) - 2)) (AJ rfl rfl fun _ => C5 _ _ ((k:Int) - 2) (by omega) (by omega)) rfl ?_
   refine AA _ (AE rfl) rfl ?_
   refine AI (B6 (CA [true, false, true] ?_))
   show K _ _ [_, _] _
   refine DN (.inr (1, ([] : List UInt8) ++ ([(nv >>> UInt64.ofNat (8*k - 8)).toUInt8]), nb2, sp1, cp1)) ⟨by omega, by omega, by rw [numK_succ, numK_zero]; rfl, (ha1).trans (by first | rfl | simp +arith), (ha2).trans (by first | rfl | simp +arith), by omega, ha4⟩ (by first | (simp; omega) | simp | (dsimp only; omega) | omega) (Sub.cons rfl (Sub.cons rfl (Sub.cons rfl (Sub.cons (EM (by omega)) (Sub.nil))))) rfl
  ·
   obtain ⟨hx0, hx1, hx2, hoq, hx4, hx5, hx6⟩ := hx
   show JC _ _ _ [(0, Ptr wb 0), (1, U64 nv), (6, .pointer none), (7, I64 ((k:Int) - (q:Int) - 1))] [⟨wb, [ev, Slc gq 0 q cpq], 149, (0, 0)⟩, ⟨gq, cu8 oq ++ spq, 5, (0, 0)⟩]
   refine AF (AF (AB (AA _ (AG rfl) rfl ?_)))
   refine AA (.bool (decide ((0:Int) ≤ ((k:Int) - (q:Int) - 1)))) (AJ rfl rfl fun _ => FY _ _) rfl ?_
   refine AI (AC (B5 (decide ((0:Int) ≤ ((k:Int) - (q:Int) - 1))) rfl (fun hb2 => ?_) (fun hb2 => ?_)))
   ·
    have hp2 : (0:Int) ≤ ((k:Int) - (q:Int) - 1) := of_decide_eq_true hb2
    refine BJ (AC (AF (A9 (CT 51 4 [(0, Ptr wb 0), (1, Ptr wb 0), (2, Ptr wb 0), (3, Ptr wb 1), (4, Slc gq 0 q cpq), (5, U64 nv), (6, I64 ((k:Int) - (q:Int) - 1)), (7, I64 (8*(k:Int) - 8*(q:Int) - 8)), (8, U64 (nv >>> UInt64.ofNat (8*k - 8*q - 8))), (9, U8 ((nv >>> UInt64.ofNat (8*k - 8*q - 8)).toUInt8))] BL rfl (by decide +kernel) ?_))))
    refine CU ⟨[], [0, 1, 2, 3, 4, 5, 6, 7, 8, 9], [], [0, 1, 2, 3, 4, 5, 6, 7, 8, 9], [10]⟩ 10 _ rfl rfl (by decide +kernel) rfl ⟨AU rfl rfl rfl, AU rfl rfl rfl, ⟨_, rfl, AD rfl (CI rfl)⟩, ⟨_, rfl, AD rfl (AH 1 43 1 CY rfl CJ rfl rfl)⟩, ⟨_, rfl, AD rfl (AL rfl (AZ D0 (AR 0 rfl (AS (Seg.head)))))⟩, AU rfl rfl rfl, AU rfl rfl rfl, ⟨_, rfl, AD rfl (AJ rfl rfl fun _ => DX _ _ (8*(k:Int) - 8*(q:Int) - 8) (by omega) (by omega))⟩, ⟨_, rfl, AD rfl (AJ rfl rfl fun _ => FC nv _ _ (8*k - 8*q - 8) (by omega) (by omega))⟩, ⟨_, rfl, AD rfl (EG _ _ rfl fun _ => E9 (by rw [B8]; rfl) B3 _)⟩, trivial⟩ rfl (AW rfl (BT 5 1 _ [(0, U8 ((nv >>> UInt64.ofNat (8*k - 8*q - 8)).toUInt8))] (cu8 ([(nv >>> UInt64.ofNat (8*k - 8*q - 8)).toUInt8])) AK AM C1 rfl rfl rfl (by kernel_rfl))) ?_
    rintro v1 L1 ⟨nb3, hnb3, rfl, rfl⟩
    refine ⟨[], ?_⟩
    show DP _ _ _ _ _ _ _ _ [_, _, ⟨nb3, cu8 ([(nv >>> UInt64.ofNat (8*k - 8*q - 8)).toUInt8]), 5, (0, 0)⟩]
    refine CU ⟨[10], [0, 1, 2, 3, 4, 5, 6, 7, 8, 9], [5, 6, 7, 8, 9], [0, 1, 2, 3, 4], [11]⟩ 11 _ rfl rfl (by decide +kernel) rfl ⟨AU rfl rfl rfl, AU rfl rfl rfl, ⟨_, rfl, AD rfl (CI rfl)⟩, ⟨_, rfl, AD rfl (AH 1 43 1 CY rfl CJ rfl rfl)⟩, ⟨_, rfl, AD rfl (AL rfl (AZ D0 (AR 0 rfl (AS (Seg.head)))))⟩, trivial⟩ rfl (AW rfl (DH 43 5 [false, true, false] (Slc gq 0 q cpq) q oq ([(nv >>> UInt64.ofNat (8*k - 8*q - 8)).toUInt8]) (some ⟨nb3, 0, none⟩) 1 1 (q + 1) AK C4 rfl (.inr ⟨gq, spq, cpq, rfl, rfl, (by first | exact hoq | simp [hoq]), hx4, (by omega), (by omega)⟩) rfl (by simp) (SrcAt.mem (AR 2 rfl (AN _))) (by omega) (by unfold maxLen; omega) (by omega))) ?_
    rintro v1 L1 ⟨nb4, sp2, cp2, hg2, rfl, rfl, ha5, ha6, ha7, ha8⟩
    refine ⟨[(12, Ptr wb 0), (13, Ptr wb 1)], ?_⟩
    show DP _ _ _ _ _ _ _ _ [_, _, ⟨nb4, cu8 (oq ++ ([(nv >>> UInt64.ofNat (8*k - 8*q - 8)).toUInt8])) ++ sp2, 5, (0, 0)⟩]
    refine C2 ⟨[10, 11], [0, 1, 2, 3, 4, 5, 6, 7, 8, 9, 12, 13], [1, 2, 3, 4, 5, 6, 7, 8, 9], [0, 12, 13], [14]⟩ 14 rfl rfl (by decide +kernel) rfl ⟨AU rfl rfl rfl, ⟨_, rfl, AD rfl (CI rfl)⟩, ⟨_, rfl, AD rfl (AH 1 43 1 CY rfl CJ rfl rfl)⟩, trivial⟩ rfl (AW rfl (CN 0 wb 1 1 ([ev, Slc gq 0 q cpq]) 149 (Slc nb4 0 (q + 1) cp2) ([Slc nb4 0 (q + 1) cp2]) ([ev, Slc nb4 0 (q + 1) cp2]) rfl rfl rfl rfl CJ rfl (by simp [Value.oneCell']) (Nat.le_of_ble_eq_true rfl) (rfl))) ?_
    show DP _ _ _ _ _ _ _ _ [⟨wb, [ev, Slc nb4 0 (q + 1) cp2], 149, (0, 0)⟩, _, _]
    refine DE ⟨[10, 11, 14], [0, 1, 2, 3, 4, 5, 6, 7, 8, 9, 12, 13], [0, 1, 2, 3, 4, 5, 6, 7, 8, 9, 12, 13], [], []⟩ rfl rfl (by decide +kernel) rfl trivial ?_
    refine CC (F' := [(36, Ptr wb 0), (37, Ptr wb 0), (38, Ptr wb 0), (39, Ptr wb 1), (40, Slc gq 0 q cpq), (41, U64 nv), (42, I64 ((k:Int) - (q:Int) - 1)), (43, I64 (8*(k:Int) - 8*(q:Int) - 8)), (44, U64 (nv >>> UInt64.ofNat (8*k - 8*q - 8))), (45, U8 ((nv >>> UInt64.ofNat (8*k - 8*q - 8)).toUInt8)), (46, Slc nb3 0 1 1), (47, Slc nb4 0 (q + 1) cp2), (48, Ptr wb 0), (49, Ptr wb 1), (0, Ptr wb 0), (1, U64 nv), (6, .pointer none), (7, I64 ((k:Int) - (q:Int) - 1)), (32, I64 ((k:Int) - (q:Int) - 1)), (33, .bool (decide ((0:Int) ≤ ((k:Int) - (q:Int) - 1))))]) (by kernel_rfl) ?_
    refine A5 (AC (AB (AA _ (AG rfl) rfl ?_)))
    refine AA (I64 ((k:Int) - (q:Int) - 2)) (AJ rfl rfl fun _ => C5 _ _ ((k:Int) - (q:Int) - 2) (by omega) (by omega)) rfl ?_
    refine AA _ (AE rfl) rfl ?_
    refine AI (B6 (CA [true, false, true] ?_))
    show K _ _ [_, _] _
    refine DN (.inr (q + 1, oq ++ ([(nv >>> UInt64.ofNat (8*k - 8*q - 8)).toUInt8]), nb4, sp2, cp2)) ⟨by omega, by omega, by rw [numK_succ, ← hx2], (ha5).trans (by first | rfl | simp +arith), (ha6).trans (by first | rfl | simp +arith), by omega, ha8⟩ (by first | (simp; omega) | simp | (dsimp only; omega) | omega) (Sub.cons rfl (Sub.cons rfl (Sub.cons rfl (Sub.cons (EM (by omega)) (Sub.nil))))) rfl
   ·
    have hp2 : ¬ ((0:Int) ≤ ((k:Int) - (q:Int) - 1)) := of_decide_eq_false hb2
    refine DA (AQ (AQ (BV (AC (AF (AB (AA _ (AG rfl) rfl ?_)))))))
    refine AA _ (AE rfl) rfl ?_
    refine AI (AC (BO (BQ (Ptr wb 0) (res1 Tryd.results81 (B2 rfl)) fun w1 hw1 => ?_)))
    have e1 : q = k := by omega
    rw [hx2, e1] at hw1
    obtain rfl : tot = k := by omega
    exact ⟨_, _, rfl, ⟨rfl, gq, spq, cpq, rfl, by omega, by omega, hx6⟩, hw1⟩
 ·
  have hp1 : ¬ (((k:Int)) < (8:Int)) := of_decide_eq_false hb1
  refine AO 6 16 true _ rfl rfl hb1 rfl ?_
  refine AO 6 16 true _ rfl rfl hb1 rfl ?_
  refine AO 6 16 true _ rfl rfl hb1 rfl ?_
  refine AO 6 16 true _ rfl rfl hb1 rfl ?_
  refine AO 6 16 true _ rfl rfl hb1 rfl ?_
  refine BB 3 13 false _ _ rfl rfl rfl (C0 _ rfl hb1 rfl) rfl ?_
  refine AA _ (C0 _ rfl rfl rfl) rfl ?_
  refine AI (AC (DV _ rfl rfl ?_))
  refine BJ (AC (AF (AF (AB (AA _ (AG rfl) rfl ?_)))))
  refine AA (I64 ((k:Int) - 1)) (AJ rfl rfl fun _ => C5 _ _ ((k:Int) - 1) (by omega) (by omega)) rfl ?_
  refine AA _ (AE rfl) rfl ?_
  refine AI (AC (A9 (DI (ι := (Unit) ⊕ (Nat × List UInt8 × Nat × List Value × Nat)) (fun x => match x with | .inl _ => [(0, Ptr wb 0), (1, U64 nv), (6, .pointer none), (7, I64 ((k:Int) - 1))] | .inr ⟨q, oq, gq, spq, cpq⟩ => [(0, Ptr wb 0), (1, U64 nv), (6, .pointer none), (7, I64 ((k:Int) - (q:Int) - 1))]) (fun x => match x with | .inl _ => [⟨wb, [ev, .slice none 0 0], 149, (0, 0)⟩] | .inr ⟨q, oq, gq, spq, cpq⟩ => [⟨wb, [ev, Slc gq 0 q cpq], 149, (0, 0)⟩, ⟨gq, cu8 oq ++ spq, 5, (0, 0)⟩]) (fun x => match x with | .inl _ => True | .inr ⟨q, oq, gq, spq, cpq⟩ => 1 ≤ q ∧ q ≤ k ∧ oq = numK k nv q ∧ oq.length = q ∧ spq.length = cpq - (q) ∧ q ≤ cpq ∧ cpq ≤ maxLen) (fun x => match x with | .inl _ => k + 1 | .inr ⟨q, oq, gq, spq, cpq⟩ => k - q) (.inl ()) trivial (Sub.all rfl) rfl ?_)))
  rintro (_ | ⟨q, oq, gq, spq, cpq⟩) hx
  ·
   obtain _ := hx
   show JC _ _ _ [(0, Ptr wb 0), (1, U64 nv), (6, .pointer none), (7, I64 ((k:Int) - 1))] [⟨wb, [ev, .slice none 0 0], 149, (0, 0)⟩]
   refine AF (AF (AB (AA _ (AG rfl) rfl ?_)))
   refine AA (.bool (decide ((0:Int) ≤ ((k:Int) - 1)))) (AJ rfl rfl fun _ => FY _ _) rfl ?_
   refine AI (AC (D1 _ rfl (decide_eq_true (by omega)) ?_))
   refine BJ (AC (AF (A9 (CT 51 4 [(0, Ptr wb 0), (1, Ptr wb 0), (2, Ptr wb 0), (3, Ptr wb 1), (4, .slice none 0 0), (5, U64 nv), (6, I64 ((k:Int) - 1)), (7, I64 (8*(k:Int) - 8)), (8, U64 (nv >>> UInt64.ofNat (8*k - 8))), (9, U8 ((nv >>> UInt64.ofNat (8*k - 8)).toUInt8))] BL rfl (by decide +kernel) ?_))))
   refine CU ⟨[], [0, 1, 2, 3, 4, 5, 6, 7, 8, 9], [], [0, 1, 2, 3, 4, 5, 6, 7, 8, 9], [10]⟩ 10 _ rfl rfl (by decide +kernel) rfl ⟨AU rfl rfl rfl, AU rfl rfl rfl, ⟨_, rfl, AD rfl (CI rfl)⟩, ⟨_, rfl, AD rfl (AH 1 43 1 CY rfl CJ rfl rfl)⟩, ⟨_, rfl, AD rfl (AL rfl (AZ D0 (AR 0 rfl (AS (Seg.head)))))⟩, AU rfl rfl rfl, AU rfl rfl rfl, ⟨_, rfl, AD rfl (AJ rfl rfl fun _ => DX _ _ (8*(k:Int) - 8) (by omega) (by omega))⟩, ⟨_, rfl, AD rfl (AJ rfl rfl fun _ => FC nv _ _ (8*k - 8) (by omega) (by omega))⟩, ⟨_, rfl, AD rfl (EG _ _ rfl fun _ => E9 (by rw [B8]; rfl) B3 _)⟩, trivial⟩ rfl (AW rfl (BT 5 1 _ [(0, U8 ((nv >>> UInt64.ofNat (8*k - 8)).toUInt8))] (cu8 ([(nv >>> UInt64.ofNat (8*k - 8)).toUInt8])) AK AM C1 rfl rfl rfl (by kernel_rfl))) ?_
   rintro v1 L1 ⟨nb5, hnb5, rfl, rfl⟩
   refine ⟨[], ?_⟩
   show DP _ _ _ _ _ _ _ _ [_, ⟨nb5, cu8 ([(nv >>> UInt64.ofNat (8*k - 8)).toUInt8]), 5, (0, 0)⟩]
   refine CU ⟨[10], [0, 1, 2, 3, 4, 5, 6, 7, 8, 9], [5, 6, 7, 8, 9], [0, 1, 2, 3, 4], [11]⟩ 11 _ rfl rfl (by decide +kernel) rfl ⟨AU rfl rfl rfl, AU rfl rfl rfl, ⟨_, rfl, AD rfl (CI rfl)⟩, ⟨_, rfl, AD rfl (AH 1 43 1 CY rfl CJ rfl rfl)⟩, ⟨_, rfl, AD rfl (AL rfl (AZ D0 (AR 0 rfl (AS (Seg.head)))))⟩, trivial⟩ rfl (AW rfl (DH 43 5 [false, false] (.slice none 0 0) 0 ([] : List UInt8) ([(nv >>> UInt64.ofNat (8*k - 8)).toUInt8]) (some ⟨nb5, 0, none⟩) 1 1 1 AK C4 rfl (.inl ⟨rfl, rfl, rfl, rfl, by omega⟩) rfl (by simp) (SrcAt.mem (AR 1 rfl (AN _))) (by omega) (by unfold maxLen; omega) (by omega))) ?_
   rintro v1 L1 ⟨nb6, sp3, cp3, hg3, rfl, rfl, ha9, ha10, ha11, ha12⟩
   refine ⟨[(12, Ptr wb 0), (13, Ptr wb 1)], ?_⟩
   show DP _ _ _ _ _ _ _ _ [_, _, ⟨nb6, cu8 (([] : List UInt8) ++ ([(nv >>> UInt64.ofNat (8*k - 8)).toUInt8])) ++ sp3, 5, (0, 0)⟩]
   refine C2 ⟨[10, 11], [0, 1, 2, 3, 4, 5, 6, 7, 8, 9, 12, 13], [1, 2, 3, 4, 5, 6, 7, 8, 9], [0, 12, 13], [14]⟩ 14 rfl rfl (by decide +kernel) rfl ⟨AU rfl rfl rfl, ⟨_, rfl, AD rfl (CI rfl)⟩, ⟨_, rfl, AD rfl (AH 1 43 1 CY rfl CJ rfl rfl)⟩, trivial⟩ rfl (AW rfl (CN 0 wb 1 1 ([ev, .slice none 0 0]) 149 (Slc nb6 0 1 cp3) ([Slc nb6 0 1 cp3]) ([ev, Slc nb6 0 1 cp3]) rfl rfl rfl rfl CJ rfl (by simp [Value.oneCell']) (Nat.le_of_ble_eq_true rfl) (rfl))) ?_
   show DP _ _ _ _ _ _ _ _ [⟨wb, [ev, Slc nb6 0 1 cp3], 149, (0, 0)⟩, _, _]
   refine DE ⟨[10, 11, 14], [0, 1, 2, 3, 4, 5, 6, 7, 8, 9, 12, 13], [0, 1, 2, 3, 4, 5, 6, 7, 8, 9, 12, 13], [], []⟩ rfl rfl (by decide +kernel) rfl trivial ?_
   refine CC (F' := [(36, Ptr wb 0), (37, Ptr wb 0), (38, Ptr wb 0), (39, Ptr wb 1), (40, .slice none 0 0), (41, U64 nv), (42, I64 ((k:Int) - 1)), (43, I64 (8*(k:Int) - 8)), (44, U64 (nv >>> UInt64.ofNat (8*k - 8))), (45, U8 ((nv >>> UInt64.ofNat (8*k - 8)).toUInt8)), (46, Slc nb5 0 1 1), (47, Slc nb6 0 1 cp3), (48, Ptr wb 0), (49, Ptr wb 1), (0, Ptr wb 0), (1, U64 nv), (6, .pointer none), (7, I64 ((k:Int) - 1)), (32, I64 ((k:Int) - 1)), (33, .bool (decide ((0:Int) ≤ ((k:Int) - 1))))]) (by kernel_rfl) ?_
   refine A5 (AC (AB (AA _ (AG rfl) rfl ?_)))
   refine AA (I64 ((k:Int) - 2)) (AJ rfl rfl fun _ => C5 _ _ ((k:Int) - 2) (by omega) (by omega)) rfl ?_
   refine AA _ (AE rfl) rfl ?_
   refine AI (B6 (CA [true, false, true] ?_))
   show K _ _ [_, _] _
   refine DN (.inr (1, ([] : List UInt8) ++ ([(nv >>> UInt64.ofNat (8*k - 8)).toUInt8]), nb6, sp3, cp3)) ⟨by omega, by omega, by rw [numK_succ, numK_zero]; rfl, (ha9).trans (by first | rfl | simp +arith), (ha10).trans (by first | rfl | simp +arith), by omega, ha12⟩ (by first | (simp; omega) | simp | (dsimp only; omega) | omega) (Sub.cons rfl (Sub.cons rfl (Sub.cons rfl (Sub.cons (EM (by omega)) (Sub.nil))))) rfl
  ·
   obtain ⟨hx0, hx1, hx2, hoq, hx4, hx5, hx6⟩ := hx
   show JC _ _ _ [(0, Ptr wb 0), (1, U64 nv), (6, .pointer none), (7, I64 ((k:Int) - (q:Int) - 1))] [⟨wb, [ev, Slc gq 0 q cpq], 149, (0, 0)⟩, ⟨gq, cu8 oq ++ spq, 5, (0, 0)⟩]
   refine AF (AF (AB (AA _ (AG rfl) rfl ?_)))
   refine AA (.bool (decide ((0:Int) ≤ ((k:Int) - (q:Int) - 1)))) (AJ rfl rfl fun _ => FY _ _) rfl ?_
   refine AI (AC (B5 (decide ((0:Int) ≤ ((k:Int) - (q:Int) - 1))) rfl (fun hb3 => ?_) (fun hb3 => ?_)))
   ·
    have hp3 : (0:Int) ≤ ((k:Int) - (q:Int) - 1) := of_decide_eq_true hb3
    refine BJ (AC (AF (A9 (CT 51 4 [(0, Ptr wb 0), (1, Ptr wb 0), (2, Ptr wb 0), (3, Ptr wb 1), (4, Slc gq 0 q cpq), (5, U64 nv), (6, I64 ((k:Int) - (q:Int) - 1)), (7, I64 (8*(k:Int) - 8*(q:Int) - 8)), (8, U64 (nv >>> UInt64.ofNat (8*k - 8*q - 8))), (9, U8 ((nv >>> UInt64.ofNat (8*k - 8*q - 8)).toUInt8))] BL rfl (by decide +kernel) ?_))))
    refine CU ⟨[], [0, 1, 2, 3, 4, 5, 6, 7, 8, 9], [], [0, 1, 2, 3, 4, 5, 6, 7, 8, 9], [10]⟩ 10 _ rfl rfl (by decide +kernel) rfl ⟨AU rfl rfl rfl, AU rfl rfl rfl, ⟨_, rfl, AD rfl (CI rfl)⟩, ⟨_, rfl, AD rfl (AH 1 43 1 CY rfl CJ rfl rfl)⟩, ⟨_, rfl, AD rfl (AL rfl (AZ D0 (AR 0 rfl (AS (Seg.head)))))⟩, AU rfl rfl rfl, AU rfl rfl rfl, ⟨_, rfl, AD rfl (AJ rfl rfl fun _ => DX _ _ (8*(k:Int) - 8*(q:Int) - 8) (by omega) (by omega))⟩, ⟨_, rfl, AD rfl (AJ rfl rfl fun _ => FC nv _ _ (8*k - 8*q - 8) (by omega) (by omega))⟩, ⟨_, rfl, AD rfl (EG _ _ rfl fun _ => E9 (by rw [B8]; rfl) B3 _)⟩, trivial⟩ rfl (AW rfl (BT 5 1 _ [(0, U8 ((nv >>> UInt64.ofNat (8*k - 8*q - 8)).toUInt8))] (cu8 ([(nv >>> UInt64.ofNat (8*k - 8*q - 8)).toUInt8])) AK AM C1 rfl rfl rfl (by kernel_rfl))) ?_
    rintro v1 L1 ⟨nb7, hnb7, rfl, rfl⟩
    refine ⟨[], ?_⟩
    show DP _ _ _ _ _ _ _ _ [_, _, ⟨nb7, cu8 ([(nv >>> UInt64.ofNat (8*k - 8*q - 8)).toUInt8]), 5, (0, 0)⟩]
    refine CU ⟨[10], [0, 1, 2, 3, 4, 5, 6, 7, 8, 9], [5, 6, 7, 8, 9], [0, 1, 2, 3, 4], [11]⟩ 11 _ rfl rfl (by decide +kernel) rfl ⟨AU rfl rfl rfl, AU rfl rfl rfl, ⟨_, rfl, AD rfl (CI rfl)⟩, ⟨_, rfl, AD rfl (AH 1 43 1 CY rfl CJ rfl rfl)⟩, ⟨_, rfl, AD rfl (AL rfl (AZ D0 (AR 0 rfl (AS (Seg.head)))))⟩, trivial⟩ rfl (AW rfl (DH 43 5 [false, true, false] (Slc gq 0 q cpq) q oq ([(nv >>> UInt64.ofNat (8*k - 8*q - 8)).toUInt8]) (some ⟨nb7, 0, none⟩) 1 1 (q + 1) AK C4 rfl (.inr ⟨gq, spq, cpq, rfl, rfl, (by first | exact hoq | simp [hoq]), hx4, (by omega), (by omega)⟩) rfl (by simp) (SrcAt.mem (AR 2 rfl (AN _))) (by omega) (by unfold maxLen; omega) (by omega))) ?_
    rintro v1 L1 ⟨nb8, sp4, cp4, hg4, rfl, rfl, ha13, ha14, ha15, ha16⟩
    refine ⟨[(12, Ptr wb 0), (13, Ptr wb 1)], ?_⟩
    show DP _ _ _ _ _ _ _ _ [_, _, ⟨nb8, cu8 (oq ++ ([(nv >>> UInt64.ofNat (8*k - 8*q - 8)).toUInt8])) ++ sp4, 5, (0, 0)⟩]
    refine C2 ⟨[10, 11], [0, 1, 2, 3, 4, 5, 6, 7, 8, 9, 12, 13], [1, 2, 3, 4, 5, 6, 7, 8, 9], [0, 12, 13], [14]⟩ 14 rfl rfl (by decide +kernel) rfl ⟨AU rfl rfl rfl, ⟨_, rfl, AD rfl (CI rfl)⟩, ⟨_, rfl, AD rfl (AH 1 43 1 CY rfl CJ rfl rfl)⟩, trivial⟩ rfl (AW rfl (CN 0 wb 1 1 ([ev, Slc gq 0 q cpq]) 149 (Slc nb8 0 (q + 1) cp4) ([Slc nb8 0 (q + 1) cp4]) ([ev, Slc nb8 0 (q + 1) cp4]) rfl rfl rfl rfl CJ rfl (by simp [Value.oneCell']) (Nat.le_of_ble_eq_true rfl) (rfl))) ?_
    show DP _ _ _ _ _ _ _ _ [⟨wb, [ev, Slc nb8 0 (q + 1) cp4], 149, (0, 0)⟩, _, _]
    refine DE ⟨[10, 11, 14], [0, 1, 2, 3, 4, 5, 6, 7, 8, 9, 12, 13], [0, 1, 2, 3, 4, 5, 6, 7, 8, 9, 12, 13], [], []⟩ rfl rfl (by decide +kernel) rfl trivial ?_
    refine CC (F' := [(36, Ptr wb 0), (37, Ptr wb 0), (38, Ptr wb 0), (39, Ptr wb 1), (40, Slc gq 0 q cpq), (41, U64 nv), (42, I64 ((k:Int) - (q:Int) - 1)), (43, I64 (8*(k:Int) - 8*(q:Int) - 8)), (44, U64 (nv >>> UInt64.ofNat (8*k - 8*q - 8))), (45, U8 ((nv >>> UInt64.ofNat (8*k - 8*q - 8)).toUInt8)), (46, Slc nb7 0 1 1), (47, Slc nb8 0 (q + 1) cp4), (48, Ptr wb 0), (49, Ptr wb 1), (0, Ptr wb 0), (1, U64 nv), (6, .pointer none), (7, I64 ((k:Int) - (q:Int) - 1)), (32, I64 ((k:Int) - (q:Int) - 1)), (33, .bool (decide ((0:Int) ≤ ((k:Int) - (q:Int) - 1))))]) (by kernel_rfl) ?_
    refine A5 (AC (AB (AA _ (AG rfl) rfl ?_)))
    refine AA (I64 ((k:Int) - (q:Int) - 2)) (AJ rfl rfl fun _ => C5 _ _ ((k:Int) - (q:Int) - 2) (by omega) (by omega)) rfl ?_
    refine AA _ (AE rfl) rfl ?_
    refine AI (B6 (CA [true, false, true] ?_))
    show K _ _ [_, _] _
    refine DN (.inr (q + 1, oq ++ ([(nv >>> UInt64.ofNat (8*k - 8*q - 8)).toUInt8]), nb8, sp4, cp4)) ⟨by omega, by omega, by rw [numK_succ, ← hx2], (ha13).trans (by first | rfl | simp +arith), (ha14).trans (by first | rfl | simp +arith), by omega, ha16⟩ (by first | (simp; omega) | simp | (dsimp only; omega) | omega) (Sub.cons rfl (Sub.cons rfl (Sub.cons rfl (Sub.cons (EM (by omega)) (Sub.nil))))) rfl
   ·
    have hp3 : ¬ ((0:Int) ≤ ((k:Int) - (q:Int) - 1)) := of_decide_eq_false hb3
    refine DA (AQ (AQ (BV (AC (AF (AB (AA _ (AG rfl) rfl ?_)))))))
    refine AA _ (AE rfl) rfl ?_
    refine AI (AC (BO (BQ (Ptr wb 0) (res1 Tryd.results81 (B2 rfl)) fun w1 hw1 => ?_)))
    have e1 : q = k := by omega
    rw [hx2, e1] at hw1
    obtain rfl : tot = k := by omega
    exact ⟨_, _, rfl, ⟨rfl, gq, spq, cpq, rfl, by omega, by omega, hx6⟩, hw1⟩
theorem numO_c (wb gb n cap0 tot : Nat) (ev : Value) (o : List UInt8) (sp0 : List Value) (nv : UInt64) (k : Nat)  (w : World) (h0 : w.heap[wb]? = some (.cells [ev, Slc gb 0 n cap0].toArray 149 (0, 0))) (h1 : w.heap[gb]? = some (.cells (cu8 o ++ sp0).toArray 5 (0, 0))) (hne : wb ≠ gb) (ho : o.length = n) (hsp : sp0.length = cap0 - n) (hca : n ≤ cap0) (hcm : cap0 ≤ maxLen) (hn : n ≤ 1000000000) (hs : Szd (k:Int)) (hx : k < 8 → nv >>> UInt64.ofNat (8*k) = 0) (ht : n + k = tot) : Calls Tryd.prog 81 #[Ptr wb 0, U64 nv, I64 k] w (Post w [wb, gb] (fun v L => v = Ptr wb 0 ∧ ∃ g sp cap, L = [⟨wb, [ev, Slc g 0 tot cap], 149, (0, 0)⟩, ⟨g, cu8 (o ++ numK k nv k) ++ sp, 5, (0, 0)⟩] ∧ sp.length = cap - tot ∧ tot ≤ cap ∧ cap ≤ maxLen)) := by
 have hmx : maxLen = 9223372036854775807 := rfl
 have hs4 : k = 1 ∨ k = 2 ∨ k = 4 ∨ k = 8 := by unfold Szd at hs; omega
 refine enter w [wb, gb] 51 [⟨wb, [ev, Slc gb 0 n cap0], 149, (0, 0)⟩, ⟨gb, cu8 o ++ sp0, 5, (0, 0)⟩] [Ptr wb 0, U64 nv, I64 k] Tryd.func81 rfl rfl (by simp) (BR (by simp; exact ⟨h0, h1⟩) (by simp; exact hne) (by simp)) ?_
 show JC _ _ _ [(0, Ptr wb 0), (1, U64 nv), (2, I64 k)] _
 refine AF (AB (AA _ (AE rfl) rfl ?_))
 refine AI (AC (AF (AF (AB (AA _ (AG rfl) rfl ?_)))))
 refine AA (.bool false) (FQ _ _ _ rfl rfl (fun _ => eqGuard_ptr ..) fun _ => eql_ptr_nil Tryd.underlying145) rfl ?_
 refine AI (AC (DV _ rfl rfl ?_))
 refine BJ (AC (AF (AF (AB (AA _ (AG rfl) rfl ?_)))))
 refine A0 (AY 143 [I64 k] (.bool true) (A4 _ Tryd.call143 rfl) (fun w1 _ => sizedT_c ((k:Int)) w1 hs)) rfl ?_
 show JL _ _ _ _ ((11, .bool true) :: _) [_, _]
 refine AA (.bool (!true)) (FV rfl) rfl ?_
 refine AA _ (AG rfl) rfl ?_
 refine BB 3 13 false _ _ rfl rfl rfl (AG rfl) rfl ?_
 refine BB 3 13 false _ (.bool (decide (((k:Int)) < (8:Int)))) rfl rfl rfl (AJ rfl rfl fun _ => B9 _ _) rfl ?_
 refine BB 3 13 false _ _ rfl rfl rfl (AG rfl) rfl ?_
 rcases Bool.eq_false_or_eq_true (decide (((k:Int)) < (8:Int))) with hb1 | hb1
 ·
  have hp1 : ((k:Int)) < (8:Int) := of_decide_eq_true hb1
  refine BB 6 16 true _ _ rfl rfl hb1 (AG rfl) rfl ?_
  refine BB 6 16 true _ _ rfl rfl hb1 (AG rfl) rfl ?_
  refine BB 6 16 true _ (I64 (8*(k:Int))) rfl rfl hb1 (AJ rfl rfl fun _ => DX _ _ (8*(k:Int)) (by omega) (by omega)) rfl ?_
  refine BB 6 16 true _ (U64 (nv >>> UInt64.ofNat (8*k))) rfl rfl hb1 (AJ rfl rfl fun _ => FC nv _ _ (8*k) (by omega) (by omega)) rfl ?_
  refine BB 6 16 true _ (.bool (decide ((nv >>> UInt64.ofNat (8*k)) ≠ (0:UInt64)))) rfl rfl hb1 (AJ rfl rfl fun _ => FD (nv >>> UInt64.ofNat (8*k)) (0:UInt64)) rfl ?_
  refine BB 3 13 false _ _ rfl rfl rfl (CW _ rfl hb1 rfl) rfl ?_
  refine AA _ (C0 _ rfl rfl rfl) rfl ?_
  refine AI (AC (DV _ rfl (decide_eq_false (fun h => h (hx (by omega)))) ?_))
  refine BJ (AC (AF (AF (AB (AA _ (AG rfl) rfl ?_)))))
  refine AA (I64 ((k:Int) - 1)) (AJ rfl rfl fun _ => C5 _ _ ((k:Int) - 1) (by omega) (by omega)) rfl ?_
  refine AA _ (AE rfl) rfl ?_
  refine AI (AC (A9 (DI (ι := Nat × List UInt8 × Nat × List Value × Nat) (fun ⟨q, oq, gq, spq, cpq⟩ => [(0, Ptr wb 0), (1, U64 nv), (6, .pointer none), (7, I64 ((k:Int) - (q:Int) - 1))]) (fun ⟨q, oq, gq, spq, cpq⟩ => [⟨wb, [ev, Slc gq 0 (n + q) cpq], 149, (0, 0)⟩, ⟨gq, cu8 oq ++ spq, 5, (0, 0)⟩]) (fun ⟨q, oq, gq, spq, cpq⟩ => q ≤ k ∧ oq = o ++ numK k nv q ∧ oq.length = (n + q) ∧ spq.length = cpq - ((n + q)) ∧ (n + q) ≤ cpq ∧ cpq ≤ maxLen) (fun ⟨q, oq, gq, spq, cpq⟩ => k - q) (0, o, gb, sp0, cap0) ⟨by omega, by rw [numK_zero, List.append_nil], by omega, by omega, by omega, hcm⟩ (Sub.cons rfl (Sub.cons rfl (Sub.cons rfl (Sub.cons (EM (by omega)) (Sub.nil))))) rfl ?_)))
  rintro ⟨q, oq, gq, spq, cpq⟩ ⟨hx1, hx2, hoq, hx4, hx5, hx6⟩
  show JC _ _ _ [(0, Ptr wb 0), (1, U64 nv), (6, .pointer none), (7, I64 ((k:Int) - (q:Int) - 1))] [⟨wb, [ev, Slc gq 0 (n + q) cpq], 149, (0, 0)⟩, ⟨gq, cu8 oq ++ spq, 5, (0, 0)⟩]
  refine AF (AF (AB (AA _ (AG rfl) rfl ?_)))
  refine AA (.bool (decide ((0:Int) ≤ ((k:Int) - (q:Int) - 1)))) (AJ rfl rfl fun _ => FY _ _) rfl ?_
  refine AI (AC (B5 (decide ((0:Int) ≤ ((k:Int) - (q:Int) - 1))) rfl (fun hb2 => ?_) (fun hb2 => ?_)))
  ·
   have hp2 : (0:Int) ≤ ((k:Int) - (q:Int) - 1) := of_decide_eq_true hb2
   refine BJ (AC (AF (A9 (CT 51 4 [(0, Ptr wb 0), (1, Ptr wb 0), (2, Ptr wb 0), (3, Ptr wb 1), (4, Slc gq 0 (n + q) cpq), (5, U64 nv), (6, I64 ((k:Int) - (q:Int) - 1)), (7, I64 (8*(k:Int) - 8*(q:Int) - 8)), (8, U64 (nv >>> UInt64.ofNat (8*k - 8*q - 8))), (9, U8 ((nv >>> UInt64.ofNat (8*k - 8*q - 8)).toUInt8))] BL rfl (by decide +kernel) ?_))))
   refine CU ⟨[], [0, 1, 2, 3, 4, 5, 6, 7, 8, 9], [], [0, 1, 2, 3, 4, 5, 6, 7, 8, 9], [10]⟩ 10 _ rfl rfl (by decide +kernel) rfl ⟨AU rfl rfl rfl, AU rfl rfl rfl, ⟨_, rfl, AD rfl (CI rfl)⟩, ⟨_, rfl, AD rfl (AH 1 43 1 CY rfl CJ rfl rfl)⟩, ⟨_, rfl, AD rfl (AL rfl (AZ D0 (AR 0 rfl (AS (Seg.head)))))⟩, AU rfl rfl rfl, AU rfl rfl rfl, ⟨_, rfl, AD rfl (AJ rfl rfl fun _ => DX _ _ (8*(k:Int) - 8*(q:Int) - 8) (by omega) (by omega))⟩, ⟨_, rfl, AD rfl (AJ rfl rfl fun _ => FC nv _ _ (8*k - 8*q - 8) (by omega) (by omega))⟩, ⟨_, rfl, AD rfl (EG _ _ rfl fun _ => E9 (by rw [B8]; rfl) B3 _)⟩, trivial⟩ rfl (AW rfl (BT 5 1 _ [(0, U8 ((nv >>> UInt64.ofNat (8*k - 8*q - 8)).toUInt8))] (cu8 ([(nv >>> UInt64.ofNat (8*k - 8*q - 8)).toUInt8])) AK AM C1 rfl rfl rfl (by kernel_rfl))) ?_
   rintro v1 L1 ⟨nb1, hnb1, rfl, rfl⟩
   refine ⟨[], ?_⟩
   show DP _ _ _ _ _ _ _ _ [_, _, ⟨nb1, cu8 ([(nv >>> UInt64.ofNat (8*k - 8*q - 8)).toUInt8]), 5, (0, 0)⟩]
   refine CU ⟨[10], [0, 1, 2, 3, 4, 5, 6, 7, 8, 9], [5, 6, 7, 8, 9], [0, 1, 2, 3, 4], [11]⟩ 11 _ rfl rfl (by decide +kernel) rfl ⟨AU rfl rfl rfl, AU rfl rfl rfl, ⟨_, rfl, AD rfl (CI rfl)⟩, ⟨_, rfl, AD rfl (AH 1 43 1 CY rfl CJ rfl rfl)⟩, ⟨_, rfl, AD rfl (AL rfl (AZ D0 (AR 0 rfl (AS (Seg.head)))))⟩, trivial⟩ rfl (AW rfl (DH 43 5 [false, true, false] (Slc gq 0 (n + q) cpq) (n + q) oq ([(nv >>> UInt64.ofNat (8*k - 8*q - 8)).toUInt8]) (some ⟨nb1, 0, none⟩) 1 1 (n + q + 1) AK C4 rfl (.inr ⟨gq, spq, cpq, rfl, rfl, (by first | exact hoq | simp [hoq]), hx4, (by omega), (by omega)⟩) rfl (by simp) (SrcAt.mem (AR 2 rfl (AN _))) (by omega) (by unfold maxLen; omega) (by omega))) ?_
   rintro v1 L1 ⟨nb2, sp1, cp1, hg1, rfl, rfl, ha1, ha2, ha3, ha4⟩
   refine ⟨[(12, Ptr wb 0), (13, Ptr wb 1)], ?_⟩
   show DP _ _ _ _ _ _ _ _ [_, _, ⟨nb2, cu8 (oq ++ ([(nv >>> UInt64.ofNat (8*k - 8*q - 8)).toUInt8])) ++ sp1, 5, (0, 0)⟩]
   refine C2 ⟨[10, 11], [0, 1, 2, 3, 4, 5, 6, 7, 8, 9, 12, 13], [1, 2, 3, 4, 5, 6, 7, 8, 9], [0, 12, 13], [14]⟩ 14 rfl rfl (by decide +kernel) rfl ⟨AU rfl rfl rfl, ⟨_, rfl, AD rfl (CI rfl)⟩, ⟨_, rfl, AD rfl (AH 1 43 1 CY rfl CJ rfl rfl)⟩, trivial⟩ rfl (AW rfl (CN 0 wb 1 1 ([ev, Slc gq 0 (n + q) cpq]) 149 (Slc nb2 0 (n + q + 1) cp1) ([Slc nb2 0 (n + q + 1) cp1]) ([ev, Slc nb2 0 (n + q + 1) cp1]) rfl rfl rfl rfl CJ rfl (by simp [Value.oneCell']) (Nat.le_of_ble_eq_true rfl) (rfl))) ?_
   show DP _ _ _ _ _ _ _ _ [⟨wb, [ev, Slc nb2 0 (n + q + 1) cp1], 149, (0, 0)⟩, _, _]
   refine DE ⟨[10, 11, 14], [0, 1, 2, 3, 4, 5, 6, 7, 8, 9, 12, 13], [0, 1, 2, 3, 4, 5, 6, 7, 8, 9, 12, 13], [], []⟩ rfl rfl (by decide +kernel) rfl trivial ?_
   refine CC (F' := [(36, Ptr wb 0), (37, Ptr wb 0), (38, Ptr wb 0), (39, Ptr wb 1), (40, Slc gq 0 (n + q) cpq), (41, U64 nv), (42, I64 ((k:Int) - (q:Int) - 1)), (43, I64 (8*(k:Int) - 8*(q:Int) - 8)), (44, U64 (nv >>> UInt64.ofNat (8*k - 8*q - 8))), (45, U8 ((nv >>> UInt64.ofNat (8*k - 8*q - 8)).toUInt8)), (46, Slc nb1 0 1 1), (47, Slc nb2 0 (n + q + 1) cp1), (48, Ptr wb 0), (49, Ptr wb 1), (0, Ptr wb 0), (1, U64 nv), (6, .pointer none), (7, I64 ((k:Int) - (q:Int) - 1)), (32, I64 ((k:Int) - (q:Int) - 1)), (33, .bool (decide ((0:Int) ≤ ((k:Int) - (q:Int) - 1))))]) (by kernel_rfl) ?_
   refine A5 (AC (AB (AA _ (AG rfl) rfl ?_)))
   refine AA (I64 ((k:Int) - (q:Int) - 2)) (AJ rfl rfl fun _ => C5 _ _ ((k:Int) - (q:Int) - 2) (by omega) (by omega)) rfl ?_
   refine AA _ (AE rfl) rfl ?_
   refine AI (B6 (CA [true, false, true] ?_))
   show K _ _ [_, _] _
   refine DN (q + 1, oq ++ ([(nv >>> UInt64.ofNat (8*k - 8*q - 8)).toUInt8]), nb2, sp1, cp1) ⟨by omega, by rw [numK_succ, ← List.append_assoc, ← hx2], (ha1).trans (by first | rfl | simp +arith), (ha2).trans (by first | rfl | simp +arith), by omega, ha4⟩ (by first | (simp; omega) | simp | (dsimp only; omega) | omega) (Sub.cons rfl (Sub.cons rfl (Sub.cons rfl (Sub.cons (EM (by omega)) (Sub.nil))))) rfl
  ·
   have hp2 : ¬ ((0:Int) ≤ ((k:Int) - (q:Int) - 1)) := of_decide_eq_false hb2
   refine DA (AQ (AQ (BV (AC (AF (AB (AA _ (AG rfl) rfl ?_)))))))
   refine AA _ (AE rfl) rfl ?_
   refine AI (AC (BO (BQ (Ptr wb 0) (res1 Tryd.results81 (B2 rfl)) fun w1 hw1 => ?_)))
   have e1 : q = k := by omega
   rw [hx2, e1] at hw1
   obtain rfl : tot = n + k := by omega
   exact ⟨_, _, rfl, ⟨rfl, gq, spq, cpq, rfl, by omega, by omega, hx6⟩, hw1⟩
 ·
  have hp1 : ¬ (((k:Int)) < (8:Int)) := of_decide_eq_false hb1
  refine AO 6 16 true _ rfl rfl hb1 rfl ?_
  refine AO 6 16 true _ rfl rfl hb1 rfl ?_
  refine AO 6 16 true _ rfl rfl hb1 rfl ?_
  refine AO 6 16 true _ rfl rfl hb1 rfl ?_
  refine AO 6 16 true _ rfl rfl hb1 rfl ?_
  refine BB 3 13 false _ _ rfl rfl rfl (C0 _ rfl hb1 rfl) rfl ?_
  refine AA _ (C0 _ rfl rfl rfl) rfl ?_
  refine AI (AC (DV _ rfl rfl ?_))
  refine BJ (AC (AF (AF (AB (AA _ (AG rfl) rfl ?_)))))
  refine AA (I64 ((k:Int) - 1)) (AJ rfl rfl fun _ => C5 _ _ ((k:Int) - 1) (by omega) (by omega)) rfl ?_
  refine AA _ (AE rfl) rfl ?_
  refine AI (AC (A9 (DI (ι := Nat × List UInt8 × Nat × List Value × Nat) (fun ⟨q, oq, gq, spq, cpq⟩ => [(0, Ptr wb 0), (1, U64 nv), (6, .pointer none), (7, I64 ((k:Int) - (q:Int) - 1))]) (fun ⟨q, oq, gq, spq, cpq⟩ => [⟨wb, [ev, Slc gq 0 (n + q) cpq], 149, (0, 0)⟩, ⟨gq, cu8 oq ++ spq, 5, (0, 0)⟩]) (fun ⟨q, oq, gq, spq, cpq⟩ => q ≤ k ∧ oq = o ++ numK k nv q ∧ oq.length = (n + q) ∧ spq.length = cpq - ((n + q)) ∧ (n + q) ≤ cpq ∧ cpq ≤ maxLen) (fun ⟨q, oq, gq, spq, cpq⟩ => k - q) (0, o, gb, sp0, cap0) ⟨by omega, by rw [numK_zero, List.append_nil], by omega, by omega, by omega, hcm⟩ (Sub.cons rfl (Sub.cons rfl (Sub.cons rfl (Sub.cons (EM (by omega)) (Sub.nil))))) rfl ?_)))
  rintro ⟨q, oq, gq, spq, cpq⟩ ⟨hx1, hx2, hoq, hx4, hx5, hx6⟩
  show JC _ _ _ [(0, Ptr wb 0), (1, U64 nv), (6, .pointer none), (7, I64 ((k:Int) - (q:Int) - 1))] [⟨wb, [ev, Slc gq 0 (n + q) cpq], 149, (0, 0)⟩, ⟨gq, cu8 oq ++ spq, 5, (0, 0)⟩]
  refine AF (AF (AB (AA _ (AG rfl) rfl ?_)))
  refine AA (.bool (decide ((0:Int) ≤ ((k:Int) - (q:Int) - 1)))) (AJ rfl rfl fun _ => FY _ _) rfl ?_
  refine AI (AC (B5 (decide ((0:Int) ≤ ((k:Int) - (q:Int) - 1))) rfl (fun hb3 => ?_) (fun hb3 => ?_)))
  ·
   have hp3 : (0:Int) ≤ ((k:Int) - (q:Int) - 1) := of_decide_eq_true hb3
   refine BJ (AC (AF (A9 (CT 51 4 [(0, Ptr wb 0), (1, Ptr wb 0), (2, Ptr wb 0), (3, Ptr wb 1), (4, Slc gq 0 (n + q) cpq), (5, U64 nv), (6, I64 ((k:Int) - (q:Int) - 1)), (7, I64 (8*(k:Int) - 8*(q:Int) - 8)), (8, U64 (nv >>> UInt64.ofNat (8*k - 8*q - 8))), (9, U8 ((nv >>> UInt64.ofNat (8*k - 8*q - 8)).toUInt8))] BL rfl (by decide +kernel) ?_))))
   refine CU ⟨[], [0, 1, 2, 3, 4, 5, 6, 7, 8, 9], [], [0, 1, 2, 3, 4, 5, 6, 7, 8, 9], [10]⟩ 10 _ rfl rfl (by decide +kernel) rfl ⟨AU rfl rfl rfl, AU rfl rfl rfl, ⟨_, rfl, AD rfl (CI rfl)⟩, ⟨_, rfl, AD rfl (AH 1 43 1 CY rfl CJ rfl rfl)⟩, ⟨_, rfl, AD rfl (AL rfl (AZ D0 (AR 0 rfl (AS (Seg.head)))))⟩, AU rfl rfl rfl, AU rfl rfl rfl, ⟨_, rfl, AD rfl (AJ rfl rfl fun _ => DX _ _ (8*(k:Int) - 8*(q:Int) - 8) (by omega) (by omega))⟩, ⟨_, rfl, AD rfl (AJ rfl rfl fun _ => FC nv _ _ (8*k - 8*q - 8) (by omega) (by omega))⟩, ⟨_, rfl, AD rfl (EG _ _ rfl fun _ => E9 (by rw [B8]; rfl) B3 _)⟩, trivial⟩ rfl (AW rfl (BT 5 1 _ [(0, U8 ((nv >>> UInt64.ofNat (8*k - 8*q - 8)).toUInt8))] (cu8 ([(nv >>> UInt64.ofNat (8*k - 8*q - 8)).toUInt8])) AK AM C1 rfl rfl rfl (by kernel_rfl))) ?_
   rintro v1 L1 ⟨nb3, hnb3, rfl, rfl⟩
   refine ⟨[], ?_⟩
   show DP _ _ _ _ _ _ _ _ [_, _, ⟨nb3, cu8 ([(nv >>> UInt64.ofNat (8*k - 8*q - 8)).toUInt8]), 5, (0, 0)⟩]
   refine CU ⟨[10], [0, 1, 2, 3, 4, 5, 6, 7, 8, 9], [5, 6, 7, 8, 9], [0, 1, 2, 3, 4], [11]⟩ 11 _ rfl rfl (by decide +kernel) rfl ⟨AU rfl rfl rfl, AU rfl rfl rfl, ⟨_, rfl, AD rfl (CI rfl)⟩, ⟨_, rfl, AD rfl (AH 1 43 1 CY rfl CJ rfl rfl)⟩, ⟨_, rfl, AD rfl (AL rfl (AZ D0 (AR 0 rfl (AS (Seg.head)))))⟩, trivial⟩ rfl (AW rfl (DH 43 5 [false, true, false] (Slc gq 0 (n + q) cpq) (n + q) oq ([(nv >>> UInt64.ofNat (8*k - 8*q - 8)).toUInt8]) (some ⟨nb3, 0, none⟩) 1 1 (n + q + 1) AK C4 rfl (.inr ⟨gq, spq, cpq, rfl, rfl, (by first | exact hoq | simp [hoq]), hx4, (by omega), (by omega)⟩) rfl (by simp) (SrcAt.mem (AR 2 rfl (AN _))) (by omega) (by unfold maxLen; omega) (by omega))) ?_
   rintro v1 L1 ⟨nb4, sp2, cp2, hg2, rfl, rfl, ha5, ha6, ha7, ha8⟩
   refine ⟨[(12, Ptr wb 0), (13, Ptr wb 1)], ?_⟩
   show DP _ _ _ _ _ _ _ _ [_, _, ⟨nb4, cu8 (oq ++ ([(nv >>> UInt64.ofNat (8*k - 8*q - 8)).toUInt8])) ++ sp2, 5, (0, 0)⟩]
   refine C2 ⟨[10, 11], [0, 1, 2, 3, 4, 5, 6, 7, 8, 9, 12, 13], [1, 2, 3, 4, 5, 6, 7, 8, 9], [0, 12, 13], [14]⟩ 14 rfl rfl (by decide +kernel) rfl ⟨AU rfl rfl rfl, ⟨_, rfl, AD rfl (CI rfl)⟩, ⟨_, rfl, AD rfl (AH 1 43 1 CY rfl CJ rfl rfl)⟩, trivial⟩ rfl (AW rfl (CN 0 wb 1 1 ([ev, Slc gq 0 (n + q) cpq]) 149 (Slc nb4 0 (n + q + 1) cp2) ([Slc nb4 0 (n + q + 1) cp2]) ([ev, Slc nb4 0 (n + q + 1) cp2]) rfl rfl rfl rfl CJ rfl (by simp [Value.oneCell']) (Nat.le_of_ble_eq_true rfl) (rfl))) ?_
   show DP _ _ _ _ _ _ _ _ [⟨wb, [ev, Slc nb4 0 (n + q + 1) cp2], 149, (0, 0)⟩, _, _]
   refine DE ⟨[10, 11, 14], [0, 1, 2, 3, 4, 5, 6, 7, 8, 9, 12, 13], [0, 1, 2, 3, 4, 5, 6, 7, 8, 9, 12, 13], [], []⟩ rfl rfl (by decide +kernel) rfl trivial ?_
   refine CC (F' := [(36, Ptr wb 0), (37, Ptr wb 0), (38, Ptr wb 0), (39, Ptr wb 1), (40, Slc gq 0 (n + q) cpq), (41, U64 nv), (42, I64 ((k:Int) - (q:Int) - 1)), (43, I64 (8*(k:Int) - 8*(q:Int) - 8)), (44, U64 (nv >>> UInt64.ofNat (8*k - 8*q - 8))), (45, U8 ((nv >>> UInt64.ofNat (8*k - 8*q - 8)).toUInt8)), (46, Slc nb3 0 1 1), (47, Slc nb4 0 (n + q + 1) cp2), (48, Ptr wb 0), (49, Ptr wb 1), (0, Ptr wb 0), (1, U64 nv), (6, .pointer none), (7, I64 ((k:Int) - (q:Int) - 1)), (32, I64 ((k:Int) - (q:Int) - 1)), (33, .bool (decide ((0:Int) ≤ ((k:Int) - (q:Int) - 1))))]) (by kernel_rfl) ?_
   refine A5 (AC (AB (AA _ (AG rfl) rfl ?_)))
   refine AA (I64 ((k:Int) - (q:Int) - 2)) (AJ rfl rfl fun _ => C5 _ _ ((k:Int) - (q:Int) - 2) (by omega) (by omega)) rfl ?_
   refine AA _ (AE rfl) rfl ?_
   refine AI (B6 (CA [true, false, true] ?_))
   show K _ _ [_, _] _
   refine DN (q + 1, oq ++ ([(nv >>> UInt64.ofNat (8*k - 8*q - 8)).toUInt8]), nb4, sp2, cp2) ⟨by omega, by rw [numK_succ, ← List.append_assoc, ← hx2], (ha5).trans (by first | rfl | simp +arith), (ha6).trans (by first | rfl | simp +arith), by omega, ha8⟩ (by first | (simp; omega) | simp | (dsimp only; omega) | omega) (Sub.cons rfl (Sub.cons rfl (Sub.cons rfl (Sub.cons (EM (by omega)) (Sub.nil))))) rfl
  ·
   have hp3 : ¬ ((0:Int) ≤ ((k:Int) - (q:Int) - 1)) := of_decide_eq_false hb3
   refine DA (AQ (AQ (BV (AC (AF (AB (AA _ (AG rfl) rfl ?_)))))))
   refine AA _ (AE rfl) rfl ?_
   refine AI (AC (BO (BQ (Ptr wb 0) (res1 Tryd.results81 (B2 rfl)) fun w1 hw1 => ?_)))
   have e1 : q = k := by omega
   rw [hx2, e1] at hw1
   obtain rfl : tot = n + k := by omega
   exact ⟨_, _, rfl, ⟨rfl, gq, spq, cpq, rfl, by omega, by omega, hx6⟩, hw1⟩
theorem rawO_c (wb gb n cap0 tot : Nat) (ev : Value) (o : List UInt8) (sp0 : List Value) (ax : Option Addr) (p cx : Nat) (z : List UInt8) (w : World) (h0 : w.heap[wb]? = some (.cells [ev, Slc gb 0 n cap0].toArray 149 (0, 0))) (h1 : w.heap[gb]? = some (.cells (cu8 o ++ sp0).toArray 5 (0, 0))) (hne : wb ≠ gb) (ho : o.length = n) (hsp : sp0.length = cap0 - n) (hca : n ≤ cap0) (hcm : cap0 ≤ maxLen) (hn : n ≤ 1000000000) (hz : z.length = p) (hm : p ≤ 1000000000) (hr : RdB w [wb, gb] ax z) (ht : n + p = tot) : Calls Tryd.prog 82 #[Ptr wb 0, .slice ax p cx] w (Post w [wb, gb] (fun v L => v = Ptr wb 0 ∧ ∃ g sp cap, L = [⟨wb, [ev, Slc g 0 tot cap], 149, (0, 0)⟩, ⟨g, cu8 (o ++ z) ++ sp, 5, (0, 0)⟩] ∧ sp.length = cap - tot ∧ tot ≤ cap ∧ cap ≤ maxLen)) := by
 have hmx : maxLen = 9223372036854775807 := rfl
 refine enter w [wb, gb] 17 [⟨wb, [ev, Slc gb 0 n cap0], 149, (0, 0)⟩, ⟨gb, cu8 o ++ sp0, 5, (0, 0)⟩] [Ptr wb 0, .slice ax p cx] Tryd.func82 rfl rfl (by simp) (BR (by simp; exact ⟨h0, h1⟩) (by simp; exact hne) (by simp)) ?_
 show JC _ _ _ [(0, Ptr wb 0), (1, .slice ax p cx)] _
 refine AF (AB (AA _ (AE rfl) rfl ?_))
 refine AI (AC (AF (AF (AB (AA _ (AG rfl) rfl ?_)))))
 refine AA (.bool false) (FQ _ _ _ rfl rfl (fun _ => eqGuard_ptr ..) fun _ => eql_ptr_nil Tryd.underlying145) rfl ?_
 refine AI (AC (DV _ rfl rfl ?_))
 refine BJ (AC (AF (AB (AA _ (AG rfl) rfl ?_))))
 refine AA _ (AG rfl) rfl ?_
 refine AA _ (CI rfl) rfl ?_
 refine AA (Ptr wb 1) (AH 1 43 1 CY rfl CJ rfl rfl) rfl ?_
 refine AA (Slc gb 0 n cap0) (AL rfl (AZ D0 (AR 0 rfl (AS (Seg.head))))) rfl ?_
 refine AA _ (AG rfl) rfl ?_
 refine AV (DH 43 5 [false, true] (Slc gb 0 n cap0) n o z ax p cx (n + p) AK C4 rfl (.inr ⟨gb, sp0, cap0, rfl, rfl, (by first | exact ho | simp [ho]), hsp, (by omega), (by omega)⟩) rfl (by first | exact hz | simp [hz]; try omega) (hr.src) (by omega) (by unfold maxLen; omega) (by omega)) rfl ?_
 rintro v1 L1 ⟨nb1, sp1, cp1, hg1, rfl, rfl, ha1, ha2, ha3, ha4⟩
 show JL _ _ _ _ ((13, Slc nb1 0 (n + p) cp1) :: _) [_, ⟨nb1, cu8 (o ++ z) ++ sp1, 5, (0, 0)⟩]
 refine AA _ (CI rfl) rfl ?_
 refine AA (Ptr wb 1) (AH 1 43 1 CY rfl CJ rfl rfl) rfl ?_
 refine A0 (CN 0 wb 1 1 ([ev, Slc gb 0 n cap0]) 149 (Slc nb1 0 (n + p) cp1) ([Slc nb1 0 (n + p) cp1]) ([ev, Slc nb1 0 (n + p) cp1]) rfl rfl rfl rfl CJ rfl (by simp [Value.oneCell']) (Nat.le_of_ble_eq_true rfl) (rfl)) rfl ?_
 show JL _ _ _ _ _ [⟨wb, [ev, Slc nb1 0 (n + p) cp1], 149, (0, 0)⟩, _]
 refine AI (AC (AF (AB (AA _ (AG rfl) rfl ?_))))
 refine AA _ (AE rfl) rfl ?_
 refine AI (AC (BO (BQ (Ptr wb 0) (res1 Tryd.results82 (B2 rfl)) fun w1 hw1 => ?_)))
 obtain rfl : tot = (n + p) := by omega
 exact ⟨_, _, rfl, ⟨rfl, nb1, sp1, cp1, rfl, ha2, ha3, ha4⟩, hw1⟩
theorem doneO_c (wb e gb n cap0 : Nat) (o : List UInt8) (w : World) (hw : RdA w wb 0 [errV 50 e, Slc gb 0 n cap0]) (he : e = 0) (ho : o.length = n) (hn : n ≤ 2000000000) (hr : RdB w [] (some ⟨gb, 0, none⟩) o) : Calls Tryd.prog 83 #[Ptr wb 0] w (Post w [] (fun v L => ∃ g sp cap, v = .tuple #[Slc g 0 n cap, .nilIface] ∧ L = [⟨g, cu8 o ++ sp, 5, (0, 0)⟩] ∧ sp.length = cap - n ∧ n ≤ cap ∧ cap ≤ maxLen)) := by
 refine enter w [] 25 [] [Ptr wb 0] Tryd.func83 rfl rfl (by simp) (BR (by simp) (by simp) (by simp)) ?_
 show JC _ _ _ [(0, Ptr wb 0)] _
 refine AF (AB (AA _ (AE rfl) rfl ?_))
 refine AA _ (AE rfl) rfl ?_
 refine AI (AC (AF (A9 (AF (AB (AA _ (AG rfl) rfl ?_))))))
 refine AA (.bool false) (FQ _ _ _ rfl rfl (fun _ => eqGuard_ptr ..) fun _ => eql_ptr_nil Tryd.underlying145) rfl ?_
 refine AA _ (AE rfl) rfl ?_
 refine AI (AC (DV _ rfl rfl ?_))
 refine AF (AB (AA _ (AG rfl) rfl ?_))
 refine AA _ (CI rfl) rfl ?_
 refine AA (Ptr wb 0) (AH 0 147 1 CY rfl Tryd.sizeOf147 rfl rfl) rfl ?_
 refine AA (Ptr wb 0) (AH 0 45 1 Tryd.underlying147 rfl Tryd.sizeOf45 rfl rfl) rfl ?_
 refine AA (errV 50 e) (AL rfl (AZ Tryd.isAgg45 (BW (hw.mem (by simp)) (Seg.head) (by omega)))) rfl ?_
 refine AA (.bool (!(decide (e = 0)))) (FQ _ _ _ rfl rfl (fun _ => GC ..) fun _ => neq_errV DU _ _) rfl ?_
 refine AA _ (AE rfl) rfl ?_
 refine AI (AC (DV _ rfl (by rw [show (decide (e = 0)) = true from (decide_eq_true he)] <;> rfl) ?_))
 refine BJ (A5 (AC (AF (AB (AA _ (AG rfl) rfl ?_)))))
 refine AA _ (CI rfl) rfl ?_
 refine AA (Ptr wb 1) (AH 1 43 1 CY rfl CJ rfl rfl) rfl ?_
 refine AA (.slice (some ⟨gb, 0, none⟩) n cap0) (AL rfl (AZ D0 (BW (hw.mem (by simp)) (AS (Seg.head)) (by omega)))) rfl ?_
 refine AV (CH 108 [.slice (some ⟨gb, 0, none⟩) n cap0] _ (A4 _ Tryd.call108 rfl) (fun w1 hw1 => sclone_c (some ⟨gb, 0, none⟩) n cap0 o w1 rfl ho (by omega) (hr.at (M' := []) hw1 (by simp)))) rfl ?_
 rintro v1 L1 ⟨_, ⟨nb1, sp1, cp1, rfl, rfl, hc1, hc2, hc3⟩, rfl⟩
 show JL _ _ _ _ ((24, Slc nb1 0 n cp1) :: _) [⟨nb1, cu8 o ++ sp1, 5, (0, 0)⟩]
 refine AA _ (AE rfl) rfl ?_
 refine AA _ (AE rfl) rfl ?_
 refine AI (AC (BO (BQ (.tuple #[Slc nb1 0 n cp1, .nilIface]) (res2 Tryd.results83 (B2 rfl) (B2 rfl)) fun w1 hw1 => ?_)))
 exact ⟨_, _, rfl, ⟨nb1, sp1, cp1, rfl, rfl, hc1, hc2, hc3⟩, hw1.sub (by simp) (by simp)⟩
theorem errNo_c  (w : World) : Calls Tryd.prog 29 #[.nilIface] w (Post w [] (fun v L => v = I64 0 ∧ L = [])) := by
 refine enter w [] 18 [] [.nilIface] Tryd.func29 rfl rfl (by simp) (BR (by simp) (by simp) (by simp)) ?_
 show JC _ _ _ [(0, .nilIface)] _
 refine AF (AB (AA _ (AE rfl) rfl ?_))
 refine AI (AC (AF (AF (AB (AA _ (AG rfl) rfl ?_)))))
 refine AA (.bool true) (FQ _ _ _ rfl rfl (fun _ => GI ..) fun _ => eql_if_nil_nil DU) rfl ?_
 refine AI (AC (D1 _ rfl rfl ?_))
 refine AF (AB (AA _ (AE rfl) rfl ?_))
 refine AI (AC (BO (A3 (BQ (I64 0) (res1 Tryd.results29 (B2 rfl)) fun w1 hw1 => ?_))))
 exact ⟨_, [], rfl, ⟨rfl, rfl⟩, hw1.sub (by simp) (by simp)⟩
theorem errSome_c (e : Nat) (w : World) (he : e ≠ 0) : Calls Tryd.prog 29 #[.iface 50 (I64 e)] w (Post w [] (fun v L => v = I64 (e : Int) ∧ L = [])) := by
 refine enter w [] 18 [] [.iface 50 (I64 e)] Tryd.func29 rfl rfl (by simp) (BR (by simp) (by simp) (by simp)) ?_
 show JC _ _ _ [(0, .iface 50 (I64 e))] _
 refine AF (AB (AA _ (AE rfl) rfl ?_))
 refine AI (AC (AF (AF (AB (AA _ (AG rfl) rfl ?_)))))
 refine AA (.bool false) (FQ _ _ _ rfl rfl (fun _ => eqGuard_if ..) fun _ => eql_if_nil DU) rfl ?_
 refine AI (AC (DV _ rfl rfl ?_))
 refine BJ (AC (AF (AF (AB (AA _ (AG rfl) rfl ?_)))))
 refine AA (.tuple #[I64 e, .bool true]) (Ev_assert _ _ rfl (fun _ => by kernel_rfl)) rfl ?_
 refine AA _ (AG rfl) rfl ?_
 refine AA _ (BS rfl rfl) rfl ?_
 refine AA _ (BS rfl rfl) rfl ?_
 refine AA _ (AE rfl) rfl ?_
 refine AA _ (AE rfl) rfl ?_
 refine AI (AC (AF (AB (AA _ (AG rfl) rfl ?_))))
 refine AA _ (AG rfl) rfl ?_
 refine BB 1 13 true _ _ rfl rfl rfl (AG rfl) rfl ?_
 refine BB 1 13 true _ (.bool (decide (((e:Int)) ≠ (0:Int)))) rfl rfl rfl (AJ rfl rfl fun _ => FU _ _) rfl ?_
 refine AA _ (CW _ rfl rfl rfl) rfl ?_
 refine AI (AC (D1 _ rfl (decide_eq_true (by omega)) ?_))
 refine AF (AB (AA _ (AG rfl) rfl ?_))
 refine AA _ (AE rfl) rfl ?_
 refine AI (AC (BO (A3 (BQ (I64 e) (res1 Tryd.results29 (B2 rfl)) fun w1 hw1 => ?_))))
 exact ⟨_, [], rfl, ⟨rfl, rfl⟩, hw1.sub (by simp) (by simp)⟩
theorem errNum_w (e : Nat) (w : World) : Calls Tryd.prog 29 #[errV 50 e] w (Post w [] (fun v L => v = I64 (e : Int) ∧ L = [])) := by
  by_cases he : e = 0
  · subst he; exact errNo_c w
  · rw [errV_pos he]; exact errSome_c e w he
end Go.Proofs.YtkdpdgpphpngeaaDoor
namespace Go.Proofs.YtkdpdgpphpngeaaDoor
open Go Go.Sx
def putL (e : UInt64) (d t : List UInt8) : List UInt8 := (numK 8 e 8 ++ d) ++ t
theorem putL_len {e : UInt64} {d t : List UInt8} (hd : d.length = 32) (ht : t.length = 16) : (putL e d t).length = 56 := by
 unfold putL; rw [List.length_append, List.length_append, EA, hd, ht]
theorem shr4z {i : UInt64} (h : ¬ (4294967295:UInt64) < i) : 4 < 8 → i >>> UInt64.ofNat (8*4) = 0 := fun _ => by
 apply UInt64.toNat_inj.1
 rw [shr_divK _ 4 (by omega)]
 have h2 := Nat.le_of_not_lt fun q => h (UInt64.lt_iff_toNat_lt.2 q)
 have h3 : (4294967295:UInt64).toNat = 4294967295 := rfl
 have h4 : (0:UInt64).toNat = 0 := rfl
 rw [h3] at h2; rw [h4]
 omega
end Go.Proofs.YtkdpdgpphpngeaaDoor
namespace Go.Sx
open Go Go.RowKit
open Go.ChangeShapes Go.WideShapes
section
variable {H : Type} {enc : TypeId × Value → H} {P : Program} {w : World} {base : Nat} {spare : Nat → Bool} {held : Bool} {sz : Bool}
def TD (enc : TypeId × Value → H) (P : Program) (w : World) (base : Nat) (spare : Nat → Bool) (held sz : Bool) (t : TypeId) (cs : List Value) : Prop :=
 ∃ fuel d ps, DataW.trod enc P w base spare held fuel t cs = some (d, ps) ∧ (sz = true → (d.weights P t).all (· ≤ reachBytes) = true)
theorem TD.of {t : TypeId} {v : Value} {d : DataW H} {ps : List MemPlace} (h : DataW.Trod enc P w base spare held t v d ps) (hw : sz = true → (d.weights P t).all (· ≤ reachBytes) = true) : TD enc P w base spare held sz t v.cells.toList := by
 obtain ⟨fuel, hf⟩ := h
 exact ⟨fuel, d, ps, hf, hw⟩
theorem TD.ofN {t : TypeId} {v : Value} {d : DataW H} {ps : List MemPlace} (h : DataW.Trod enc P w base spare held t v d ps) : TD enc P w base spare held false t v.cells.toList := TD.of h (fun h => by cases h)
theorem wEach_get {p : Nat → Bool} : ∀ (ts : List TypeId) (ds : List (DataW H)), (DataW.weightsEach P ts ds).all p = true → ∀ (i : Nat) (t : TypeId) (d : DataW H), ts[i]? = some t → ds[i]? = some d → (d.weights P t).all p = true
 | [], _, _, i, t, d, h, _ => by simp at h
 | t0 :: ts, [], _, i, t, d, _, h => by simp at h
 | t0 :: ts, d0 :: ds, h, i, t, d, ht, hd => by
  rw [DataW.weightsEach, List.all_append, Bool.and_eq_true] at h
  cases i with
  | zero => simp at ht hd; subst ht; subst hd; exact h.1
  | succ i => exact wEach_get ts ds h.2 i t d (by simpa using ht) (by simpa using hd)
theorem wAll_get {p : Nat → Bool} {e : TypeId} : ∀ (ds : List (DataW H)), (DataW.weightsAll P e ds).all p = true → ∀ (i : Nat) (d : DataW H), ds[i]? = some d → (d.weights P e).all p = true
 | [], _, i, d, h => by simp at h
 | d0 :: ds, h, i, d, hd => by
  rw [DataW.weightsAll, List.all_append, Bool.and_eq_true] at h
  cases i with
  | zero => simp at hd; subst hd; exact h.1
  | succ i => exact wAll_get ds h.2 i d (by simpa using hd)
variable {t : TypeId} {cs : List Value}
theorem TD.slen {fs : Array Field} (ht : P.underlying t = some (.struct fs)) (h : TD enc P w base spare held sz t cs) : cs.length = P.cellsOf t := by
 obtain ⟨fuel, d, ps, h, hw⟩ := h
 obtain ⟨xs, n, _, hx, hl, hlen, hf⟩ := DataW.trod_struct ht h
 exact hl
theorem TD.alen {n e : Nat} (ht : P.underlying t = some (.array n e)) (h : TD enc P w base spare held sz t cs) : cs.length = P.cellsOf t := by
 obtain ⟨fuel, d, ps, h, hw⟩ := h
 obtain ⟨xs, m, _, hx, hl, hlen, hf⟩ := DataW.trod_array ht h
 exact hl
theorem TD.field {fs : Array Field} (i o ft s : Nat) (ht : P.underlying t = some (.struct fs)) (hi : (fs[i]?).map (fun f => (f.offset, f.type)) = some (o, ft)) (hs : P.cellsOf ft = s) (h : TD enc P w base spare held sz t cs) :
  TD enc P w base spare held sz ft ((cs.drop o).take s) := by
 obtain ⟨fuel, d, ps, h, hw⟩ := h
 obtain ⟨xs, n, _, hx, hl, hlen, hf⟩ := DataW.trod_struct ht h
 obtain ⟨f, hfi, hfo⟩ := Option.map_eq_some_iff.1 hi
 simp only [Prod.mk.injEq] at hfo
 obtain ⟨rfl, rfl⟩ := hfo
 subst hs
 have hlt : i < xs.length := by rw [hlen]; exact (Array.getElem?_eq_some_iff.1 hfi).1
 have hk := hf i f hfi
 rw [List.getElem?_eq_getElem hlt] at hk
 refine ⟨n, _, _, hk, fun hz => ?_⟩
 have hw := hw hz
 simp only [Prod.mk.injEq] at hx
 rw [hx.1, DataW.weights, ht] at hw
 exact wEach_get _ _ hw i f.type _ (by simp [hfi]) (by simp [hlt])
theorem TD.elem {n e : Nat} (i o s : Nat) (ht : P.underlying t = some (.array n e)) (hi : i < n) (hs : P.cellsOf e = s) (ho : o = i * s) (h : TD enc P w base spare held sz t cs) :
  TD enc P w base spare held sz e ((cs.drop o).take s) := by
 obtain ⟨fuel, d, ps, h, hw⟩ := h
 obtain ⟨xs, m, _, hx, hl, hlen, hf⟩ := DataW.trod_array ht h
 subst ho; subst hs
 have hlt : i < xs.length := by rw [hlen]; exact hi
 have hk := hf i hi
 rw [List.getElem?_eq_getElem hlt] at hk
 refine ⟨m, _, _, hk, fun hz => ?_⟩
 have hw := hw hz
 simp only [Prod.mk.injEq] at hx
 rw [hx.1, DataW.weights, ht] at hw
 exact wAll_get _ hw i _ (by simp [hlt])
theorem TD.u8 (ht : P.underlying t = some (.int .u8)) (h : TD enc P w base spare held sz t cs) : ∃ a : UInt8, cs = [U8 a] := by
 obtain ⟨fuel, d, ps, h, hw⟩ := h
 obtain ⟨n, rfl, _, hn⟩ := DataW.trod_int ht h
 obtain ⟨u, rfl⟩ := wf_u8 hn
 exact ⟨u, rfl⟩
theorem TD.u32 (ht : P.underlying t = some (.int .u32)) (h : TD enc P w base spare held sz t cs) : ∃ a : UInt32, cs = [U32 a] := by
 obtain ⟨fuel, d, ps, h, hw⟩ := h
 obtain ⟨n, rfl, _, hn⟩ := DataW.trod_int ht h
 obtain ⟨u, rfl⟩ := wf_u32 hn
 exact ⟨u, rfl⟩
theorem TD.u64 (ht : P.underlying t = some (.int .u64)) (h : TD enc P w base spare held sz t cs) : ∃ a : UInt64, cs = [U64 a] := by
 obtain ⟨fuel, d, ps, h, hw⟩ := h
 obtain ⟨n, rfl, _, hn⟩ := DataW.trod_int ht h
 obtain ⟨u, rfl⟩ := wf_u64 hn
 exact ⟨u, rfl⟩
theorem TD.i64 (ht : P.underlying t = some (.int .i64)) (h : TD enc P w base spare held sz t cs) : ∃ a : Int, cs = [I64 a] ∧ (-9223372036854775808 ≤ a ∧ a ≤ 9223372036854775807) := by
 obtain ⟨fuel, d, ps, h, hw⟩ := h
 obtain ⟨n, rfl, _, hn⟩ := DataW.trod_int ht h
 exact ⟨n, rfl, bounds_i64 hn⟩
theorem TD.bool (ht : P.underlying t = some .bool) (h : TD enc P w base spare held sz t cs) : ∃ a : Bool, cs = [.bool a] := by
 obtain ⟨fuel, d, ps, h, hw⟩ := h
 obtain ⟨b, rfl, _⟩ := DataW.trod_bool ht h
 exact ⟨b, rfl⟩
theorem TD.arr8 {n e : Nat} (ht : P.underlying t = some (.array n e)) (he : P.underlying e = some (.int .u8)) (hc : P.cellsOf e = 1) (hT : P.cellsOf t = n) (h : TD enc P w base spare held sz t cs) : ∃ l : List UInt8, cs = cu8 l ∧ l.length = n := by
 have hl := TD.alen ht h
 obtain ⟨l, rfl⟩ := all_u8 cs (fun i hi => by
  obtain ⟨u, hu⟩ := TD.u8 he (TD.elem i i 1 ht (by omega) hc (by omega) h)
  refine ⟨u, ?_⟩
  have h0 : ((cs.drop i).take 1)[0]? = some (U8 u) := by rw [hu]; rfl
  rw [List.getElem?_take, if_pos (by omega), List.getElem?_drop] at h0
  simpa using h0)
 exact ⟨l, rfl, by rw [← hT, ← hl]; simp⟩
def RdV (w : World) (ao : Option Addr) (vs : List Value) : Prop := vs = [] ∨ ∃ b off, ao = some ⟨b, off, none⟩ ∧ RdA w b off vs
theorem flat_get {α : Type} (f : α → List Value) (s : Nat) (hf : ∀ a, (f a).length = s) : ∀ (asL : List α) (j : Nat) (v : Value), (asL.flatMap f)[j]? = some v → ∃ (i k : Nat) (a : α), asL[i]? = some a ∧ j = i * s + k ∧ k < s ∧ (f a)[k]? = some v
  | [], j, v, h => by simp at h
  | a :: asL, j, v, h => by
    rw [List.flatMap_cons] at h
    by_cases hj : j < s
    · rw [List.getElem?_append_left (by rw [hf]; exact hj)] at h
      exact ⟨0, j, a, rfl, by omega, hj, h⟩
    · rw [List.getElem?_append_right (by rw [hf]; omega), hf] at h
      obtain ⟨i, k, x, h1, h2, h3, h4⟩ := flat_get f s hf asL (j - s) v h
      exact ⟨i + 1, k, x, by simpa using h1, by rw [Nat.succ_mul]; omega, h3, h4⟩
theorem rows_choose {α : Type} {f : α → List Value} {G : α → Prop} : ∀ (n : Nat) (R : Nat → List Value → Prop), (∀ i, i < n → ∃ a, R i (f a) ∧ G a) → ∃ asL : List α, asL.length = n ∧ (∀ a ∈ asL, G a) ∧ ∀ i a, asL[i]? = some a → R i (f a)
 | 0, R, _ => ⟨[], rfl, by simp, by simp⟩
 | n + 1, R, h => by
  obtain ⟨asL, h1, h2, h3⟩ := rows_choose n (fun i => R (i + 1)) (fun i hi => h (i + 1) (by omega))
  obtain ⟨a, h4, h5⟩ := h 0 (by omega)
  refine ⟨a :: asL, by simp [h1], by simpa using ⟨h5, h2⟩, fun i x hx => ?_⟩
  cases i with
  | zero => simp at hx; subst hx; exact h4
  | succ i => exact h3 i x (by simpa using hx)
theorem addr_add2 (a : Addr) (i j : Nat) : (a.add i).add j = a.add (i + j) := by
 unfold Addr.add
 by_cases hi : i = 0 <;> by_cases hj : j = 0 <;> simp [hi, hj, Nat.add_assoc]
theorem TD.rows {α : Type} (f : α → List Value) (G : α → Prop) {e s b : Nat} (ht : P.underlying t = some (.slice e)) (hs : P.cellsOf e = s) (hs0 : 0 < s) (hb : P.bytesOf e = b) (hb0 : 0 < b) (hf : ∀ a, (f a).length = s)
    (hop : ∀ cs', TD enc P w base spare held sz e cs' → ∃ a, cs' = f a ∧ G a) (h : TD enc P w base spare held sz t cs) :
    ∃ (ao : Option Addr) (n c : Nat) (asL : List α), cs = [.slice ao n c] ∧ asL.length = n ∧ (∀ a ∈ asL, G a) ∧ (ao = none → c = 0) ∧ (n ≤ c ∧ c ≤ maxLen) ∧ RdV w ao (asL.flatMap f) ∧ (sz = true → n ≤ 140737488351232) := by
  obtain ⟨fuel, d, ps, h, hw⟩ := h
  rcases DataW.trod_slice ht h with ⟨rfl, _⟩ | ⟨a, len, cap, elems, rest, k, _, rfl, hx, _, hl, hm, hlen, hel, _⟩
  · exact ⟨none, 0, 0, [], rfl, rfl, by simp, fun _ => rfl, ⟨Nat.le_refl _, by unfold maxLen; omega⟩, .inl rfl, fun _ => by omega⟩
  simp only [Prod.mk.injEq] at hx
  obtain ⟨asL, h1, h2, h3⟩ := rows_choose (f := f) (G := G) len (fun i cs' => w.cells? base (a.add (i * s)) s = some cs') (fun i hi => by
    have hk := hel i hi
    rw [List.getElem?_eq_getElem (by omega), hs] at hk
    obtain ⟨cs', h1, h2⟩ := Option.bind_eq_some_iff.1 hk
    obtain ⟨x, rfl, hG⟩ := hop cs' ⟨k, _, _, h2, fun hz => by
      have hw := hw hz
      rw [hx.1, DataW.weights, ht] at hw
      simp only [List.all_cons, Bool.and_eq_true, List.all_append] at hw
      exact wAll_get _ hw.2.1 i _ (by simp [show i < elems.length by omega])⟩
    exact ⟨x, h1, hG⟩)
  have cell : ∀ j v, (asL.flatMap f)[j]? = some v → w.cell? (a.add j) = some v := fun j v hj => by
    obtain ⟨i, q, x, hi, rfl, hq, hv⟩ := flat_get f s hf asL j v hj
    have hc := h3 i x hi
    obtain ⟨_, _, hc⟩ := World.cells?_some hc
    have := hc q hq
    rw [hv] at this
    rw [← this]
    rw [addr_add2]
  refine ⟨some a, len, cap, asL, rfl, h1, h2, (fun h => by cases h), ⟨hl, hm⟩, ?_, fun hz => ?_⟩
  · by_cases h0 : asL.flatMap f = []
    · exact .inl h0
    · obtain ⟨v, hv⟩ : ∃ v, (asL.flatMap f)[0]? = some v := by
        cases hq : asL.flatMap f with
        | nil => exact absurd hq h0
        | cons x y => exact ⟨x, rfl⟩
      have c0 := cell 0 v hv
      have hadd0 : a.add 0 = a := by simp [Addr.add]
      rw [hadd0] at c0
      have ha := addr_of_cell c0
      exact .inr ⟨a.block, a.off, by rw [← ha], lt_of_cell (ha ▸ c0), fun j v hj => cell_off ha (cell j v hj)⟩
  · have hw := hw hz
    rw [hx.1, DataW.weights, ht] at hw
    simp only [List.all_cons, Bool.and_eq_true, decide_eq_true_eq, hb, List.length_map, hlen] at hw
    have := hw.1
    unfold reachBytes at this
    have h5 : len * 1 ≤ (len + rest.length) * b := Nat.mul_le_mul (by omega) hb0
    omega
theorem cat0 {a : List Value} {s : Nat} (h : (cs.drop 0).take s = a) : cs.take s = a := h
theorem cat_step {a b : List Value} {o s o' : Nat} (h : cs.take o = a) (h1 : (cs.drop o).take s = b) (ho : o' = o + s) : cs.take o' = a ++ b := by
 subst ho; rw [List.take_add, h, h1]
theorem cat_end {a : List Value} {o : Nat} (h : cs.take o = a) (hl : cs.length = o) : cs = a := by
 rw [← h, ← hl, List.take_length]
theorem agg_of {v : Value} {cs : List Value} {r : Reach} {b0 : Nat} {fs : Array Field} (ht : P.underlying t = some (.struct fs)) (hval : Value.okWide P w r b0 t v) (h : v.cells.toList = cs) : v = .agg cs.toArray := by
 simp only [Value.okWide, ht] at hval
 obtain ⟨xs, rfl, _⟩ := hval
 have : (Value.agg xs).cells = xs := rfl
 rw [this] at h
 rw [← h]
end
end Go.Sx
namespace Go.Proofs.YtkdpdgpphpngeaaDoor
open Go Go.Sx Go.RowKit
instance (s : Int) : Decidable (Szd s) := by unfold Szd; infer_instance
def advA (ao : Option Addr) (c s : Nat) : Option Addr := if c = s then ao else ao.map (·.add (s * 1))
theorem RdB.adv {w : World} {M : List Nat} {ao : Option Addr} {z : List UInt8} {c : Nat} (h : RdB w M ao z) (s : Nat) (hs : s ≤ z.length) (hc : z.length ≤ c) : RdB w M (advA ao c s) (z.drop s) := by
 have := RdB.slice h s z.length (Nat.le_refl _) hc
 rwa [List.take_of_length_le (by simp)] at this
theorem RdB.pre {w : World} {M : List Nat} {ao : Option Addr} {z : List UInt8} (h : RdB w M ao z) (s : Nat) : RdB w M ao (mid z 0 s) := by
  rcases h with rfl | ⟨b, off, h1, h2, h3, h4⟩
  · exact .inl (by simp [mid])
  · refine .inr ⟨b, off, h1, h2, h3, fun j v hj => h4 j v ?_⟩
    simp only [mid, List.drop_zero, cu8, List.map_take] at hj
    have hlt := (List.getElem?_eq_some_iff.1 hj).1
    rw [List.getElem?_take, if_pos (by simp at hlt; omega)] at hj
    exact hj
def Adv (ao : Option Addr) (z : List UInt8) (c : Nat) (ao' : Option Addr) (z' : List UInt8) (c' : Nat) : Prop :=
 (∀ w M, RdB w M ao z → RdB w M ao' z') ∧ z'.length ≤ c' ∧ c' ≤ maxLen ∧ z'.length ≤ z.length
theorem Adv.drop {ao : Option Addr} {z : List UInt8} {c : Nat} (s : Nat) (hs : s ≤ z.length) (h : z.length ≤ c) (hm : c ≤ maxLen) : Adv ao z c (advA ao c s) (z.drop s) (c - s) :=
 ⟨fun _ _ hr => RdB.adv hr s hs h, by simp; omega, by omega, by simp⟩
theorem Adv.trans {ao ao' ao'' : Option Addr} {z z' z'' : List UInt8} {c c' c'' : Nat} (h : Adv ao z c ao' z' c') (h' : Adv ao' z' c' ao'' z'' c'') : Adv ao z c ao'' z'' c'' :=
 ⟨fun w M hr => h'.1 w M (h.1 w M hr), h'.2.1, h'.2.2.1, Nat.le_trans h'.2.2.2 h.2.2.2⟩
def TkOk (z : List UInt8) (e : Nat) (s : Int) : Prop := e = 0 ∧ 0 ≤ s ∧ s ≤ z.length
instance (z : List UInt8) (e : Nat) (s : Int) : Decidable (TkOk z e s) := by unfold TkOk; infer_instance
def NuOk (z : List UInt8) (e : Nat) (s : Int) : Prop := e = 0 ∧ Szd s ∧ s ≤ z.length
instance (z : List UInt8) (e : Nat) (s : Int) : Decidable (NuOk z e s) := by unfold NuOk; infer_instance
def fdN (z : List UInt8) : Nat := 256 * (g8 z 0).toNat + (g8 z 1).toNat
def FdOk (z : List UInt8) (e : Nat) (s : Int) : Prop := e = 0 ∧ 2 ≤ z.length ∧ (fdN z : Int) ≤ s ∧ fdN z + 2 ≤ z.length
instance (z : List UInt8) (e : Nat) (s : Int) : Decidable (FdOk z e s) := by unfold FdOk; infer_instance
def HsOk (z : List UInt8) (e : Nat) : Prop := e = 0 ∧ 32 ≤ z.length
instance (z : List UInt8) (e : Nat) : Decidable (HsOk z e) := by unfold HsOk; infer_instance
def FgOk (z : List UInt8) (e : Nat) : Prop := e = 0 ∧ 1 ≤ z.length ∧ g8 z 0 ≤ 1
instance (z : List UInt8) (e : Nat) : Decidable (FgOk z e) := by unfold FgOk; infer_instance
structure ActV where
 kd : Int
 s : Int
 nn : UInt64
 ao : Option Addr
 p : Nat
 c : Nat
 z : List UInt8
theorem flat_at {α : Type} (f : α → List Value) (s : Nat) (hf : ∀ a, (f a).length = s) : ∀ (asL : List α) (i : Nat) (a : α), asL[i]? = some a → ∀ (j : Nat) (v : Value), (f a)[j]? = some v → (asL.flatMap f)[i * s + j]? = some v
 | [], i, a, h, _, _, _ => by simp at h
 | x :: asL, 0, a, h, j, v, hj => by
  simp at h; subst h
  rw [List.flatMap_cons, Nat.zero_mul, Nat.zero_add, List.getElem?_append_left (List.getElem?_eq_some_iff.1 hj).1]
  exact hj
 | x :: asL, i + 1, a, h, j, v, hj => by
  rw [List.flatMap_cons, List.getElem?_append_right (by rw [hf, Nat.succ_mul]; omega), hf, show (i + 1) * s + j - s = i * s + j by rw [Nat.succ_mul]; omega]
  exact flat_at f s hf asL i a (by simpa using h) j v hj
theorem rows_at {α : Type} {f : α → List Value} {s : Nat} (hf : ∀ a, (f a).length = s) (hs : 0 < s) {w : World} {ao : Option Addr} {asL : List α} (h : RdV w ao (asL.flatMap f)) {i : Nat} {a : α} (ha : asL[i]? = some a) :
    ∃ b off, ao = some ⟨b, off, none⟩ ∧ RdA w b (off + i * s) (f a) := by
  have hne : asL.flatMap f ≠ [] := fun h0 => by
    have hl := hf a
    have h1 : 0 < (f a).length := by omega
    have := flat_at f s hf asL i a ha 0 ((f a)[0]) (by simp [h1])
    rw [h0] at this; simp at this
  rcases h with h | ⟨b, off, h1, h2, h3⟩
  · exact absurd h hne
  · exact ⟨b, off, h1, h2, fun j v hj => by rw [Nat.add_assoc]; exact h3 _ v (flat_at f s hf asL i a ha j v hj)⟩
section
variable {H : Type} {enc : TypeId × Value → H} {P : Program} {w : World} {base : Nat} {spare : Nat → Bool} {held : Bool} {sz : Bool}
end
theorem FT {C : Cx} {L : List Ent} {w : World} {ao : Option Addr} {vs : List Value} (hw : Hp C.w0 C.M L w) (hM : C.M = []) (h : RdV C.w0 ao vs) : RdV w ao vs := by
  rcases h with h | ⟨b, off, h1, h2⟩
  · exact .inl h
  · cases vs with
    | nil => exact .inl rfl
    | cons v vs => exact .inr ⟨b, off, h1, RdA.of hw (h2.mem (by rw [hM]; simp)) (by simp)⟩
def sumP (asL : List ActV) (i : Nat) : Nat := ((asL.take i).map ActV.p).sum
def LongP (asL : List ActV) (n : Nat) : Prop := ¬ (n ≤ 41 ∧ sumP asL n ≤ 200000)
instance (asL : List ActV) (n : Nat) : Decidable (LongP asL n) := by unfold LongP; infer_instance
end Go.Proofs.YtkdpdgpphpngeaaDoor
namespace Go.Sx
open Go Go.RowKit
section
variable {P : Program}
def PartV (P : Program) (t : TypeId) (cs : List Value) (off : Nat) (u : Value) : Prop := ∀ w, (part t cs.toArray off).run P w = .ok u w
theorem PartV.one {t : TypeId} {cs : List Value} {off : Nat} {v : Value} (hA : ∀ w, (isAgg t).run P w = .ok false w) (h : Seg cs off [v]) : PartV P t cs off v := fun w => by
 have h0 : cs[off]? = some v := by simpa using h 0 v rfl
 simp [part, hA w, h0]
theorem PartV.agg {t : TypeId} {cs vs : List Value} {off n : Nat} (hA : ∀ w, (isAgg t).run P w = .ok true w) (hS : ∀ w, (sizeOf t).run P w = .ok n w) (h : (cs.drop off).take n = vs) : PartV P t cs off (.agg vs.toArray) := fun w => by
 simp [part, hA w, hS w, ← h]
def EqV (P : Program) (d : Nat) (t : TypeId) (u v : Value) (b : Bool) : Prop := ∀ w, (Op.equalIn d t u v).run P w = .ok b w
theorem EqV.u64 {d : Nat} {t : TypeId} (he : P.underlying t = some (.int .u64)) (a b : UInt64) : EqV P (d + 1) t (U64 a) (U64 b) (decide (a = b)) := fun w => by
 have pe := run_equalIn_int (P := P) w d t .u64 .u64 a.toNat b.toNat he
 have e1 : ((a.toNat : Int) == (b.toNat : Int)) = decide (a = b) := by rw [Bool.eq_iff_iff]; simp [← UInt64.toNat_inj]; omega
 rw [e1] at pe
 simpa using pe
theorem EqV.u8 {d : Nat} {t : TypeId} (he : P.underlying t = some (.int .u8)) (a b : UInt8) : EqV P (d + 1) t (U8 a) (U8 b) (decide (a = b)) := fun w => by
 have pe := run_equalIn_int (P := P) w d t .u8 .u8 a.toNat b.toNat he
 have e1 : ((a.toNat : Int) == (b.toNat : Int)) = decide (a = b) := by rw [Bool.eq_iff_iff]; simp [← UInt8.toNat_inj]; omega
 rw [e1] at pe
 simpa using pe
theorem EqV.i64 {d : Nat} {t : TypeId} (he : P.underlying t = some (.int .i64)) (a b : Int) : EqV P (d + 1) t (I64 a) (I64 b) (decide (a = b)) := fun w => by
 have pe := run_equalIn_int (P := P) w d t .i64 .i64 a b he
 have e1 : (a == b) = decide (a = b) := rfl
 rw [e1] at pe
 simpa using pe
theorem EqV.bool {d : Nat} {t : TypeId} (he : P.underlying t = some .bool) (a b : Bool) : EqV P (d + 1) t (.bool a) (.bool b) (a == b) := fun w => by
 simp [Op.equalIn, run_underlying he]
theorem EqV.arr8 {d : Nat} {T e : TypeId} {n : Nat} (hu : P.underlying T = some (.array n e)) (he : P.underlying e = some (.int .u8)) (hA : ∀ w, (isAgg e).run P w = .ok false w) (hc : P.cellsOf e = 1) (hi : (P.info? e).isSome = true) {a b : List UInt8} (ha : a.length = n) (hb : b.length = n) :
  EqV P (d + 2) T (.agg (cu8 a).toArray) (.agg (cu8 b).toArray) (decide (a = b)) := fun w => equalIn_arr8 d hu he hA hc hi ha hb
inductive EqRs (P : Program) (d : Nat) (xs ys : List Value) : List (TypeId × Nat) → Bool → Prop
 | last (t o : Nat) (u v : Value) (b : Bool) : PartV P t xs o u → PartV P t ys o v → EqV P d t u v b → EqRs P d xs ys [(t, o)] b
 | cons (t o : Nat) (u v : Value) (b : Bool) (r : List (TypeId × Nat)) (c : Bool) : PartV P t xs o u → PartV P t ys o v → EqV P d t u v b → EqRs P d xs ys r c → EqRs P d xs ys ((t, o) :: r) (b && c)
theorem EqRs.run {d : Nat} {xs ys : List Value} {r : List (TypeId × Nat)} {b : Bool} (h : EqRs P d xs ys r b) : ∀ (fs : List Field), fs.map (fun f => (decide (f.name ≠ "_"), f.type, f.offset)) = r.map (fun x => (true, x.1, x.2)) →
    ∀ w, (Op.eqFields d xs.toArray ys.toArray fs).run P w = .ok b w := by
  induction h with
  | last t o u v b hx hy he =>
    intro fs hf w
    obtain ⟨f, rfl⟩ : ∃ f, fs = [f] := by
      cases fs with
      | nil => simp at hf
      | cons f r => cases r with
        | nil => exact ⟨f, rfl⟩
        | cons g r => simp at hf
    · simp only [List.map_cons, List.map_nil, List.cons.injEq, Prod.mk.injEq, and_true, decide_eq_true_eq] at hf
      obtain ⟨h1, h2, h3⟩ := hf
      rw [Op.eqFields, if_pos h1, h2, h3]
      simp only [Sem.run_bind, hx w, hy w, he w, Result.andThen_ok, Op.eqFields]
      cases b <;> simp
  | cons t o u v b r c hx hy he hr ih =>
    intro fs hf w
    cases fs with
    | nil => simp at hf
    | cons f fs =>
      simp only [List.map_cons, List.cons.injEq, Prod.mk.injEq, decide_eq_true_eq] at hf
      obtain ⟨⟨h1, h2, h3⟩, h4⟩ := hf
      rw [Op.eqFields, if_pos h1, h2, h3]
      simp only [Sem.run_bind, hx w, hy w, he w, Result.andThen_ok]
      cases b with
      | false => simp
      | true => simpa using ih fs h4 w
theorem EqV.struct {d : Nat} {t : TypeId} {xs ys : List Value} {r : List (TypeId × Nat)} {b : Bool} (hu : P.underlying t = some (.struct (P.fieldsOf t))) (hp : P.stoodInHeld t = false)
  (hr : (P.fieldsOf t).toList.map (fun f => (decide (f.name ≠ "_"), f.type, f.offset)) = r.map (fun x => (true, x.1, x.2))) (h : EqRs P d xs ys r b) : EqV P (d + 1) t (.agg xs.toArray) (.agg ys.toArray) b := fun w => by
 rw [run_equalIn_struct w d t _ _ hu hp]
 exact h.run _ hr w
theorem neq_struct {t : TypeId} {x y : Array Value} {b : Bool} (p : Prop) [Decidable p] (h : EqV P 10000 t (.agg x) (.agg y) b) (hb : b = decide p) : ∀ w, (binOp .neq t (.agg x) (.agg y)).run P w = .ok (.bool (!decide p)) w := fun w => by
 subst hb
 exact neq_of (by simp [binOp]) (h w)
theorem dt_dt {cs : List Value} {a n b m o : Nat} (hb : b + m ≤ n) (ho : o = a + b) : ((((cs.drop a).take n).drop b).take m) = (cs.drop o).take m := by
 subst ho
 rw [List.drop_take, List.take_take, List.drop_drop, Nat.min_eq_left (by omega)]
theorem TD.sub {H : Type} {enc : TypeId × Value → H} {w : World} {base : Nat} {spare : Nat → Bool} {held sz : Bool} {t : TypeId} {cs : List Value} {a n b m o : Nat} (h : TD enc P w base spare held sz t ((((cs.drop a).take n).drop b).take m)) (hb : b + m ≤ n) (ho : o = a + b) :
  TD enc P w base spare held sz t ((cs.drop o).take m) := by rw [← dt_dt hb ho]; exact h
theorem Seg.split {cs p q vs : List Value} {off : Nat} (h : cs = p ++ (vs ++ q)) (hn : p.length = off) : Seg cs off vs := Seg.sub (p := p) (q := q) (o := 0) hn (by omega) (by rw [h, List.append_assoc]; exact AN _)
theorem F1 {place : Nat → Option (Nat × Nat)} {i : Nat} {v : Value} {rest : List (Nat × Value)} (z post c : List Value) (hc : v.cells = c.toArray) (hp : place i = some (0, z.length)) (hl : c.length = z.length) :
  Instr.fill place (z ++ post).toArray ((i, v) :: rest) = Instr.fill place (c ++ post).toArray rest := EW [] z post c hc hp hl
theorem EH {w : World} {T : TypeId} {fields : Array Field} {Z : List Value} {places : Array (Nat × Nat)} {pv : Array (Nat × Value)} {cs : List Value} (hz : ∀ w, (zeroValue T).run P w = .ok (.agg Z.toArray) w) (hu : P.underlying T = some (.struct fields))
  (hp : ∀ w, (fields.mapM fun f => do pure (f.offset, ← sizeOf f.type) : Sem (Array (Nat × Nat))).run P w = .ok places w) (hf : Instr.fill (places[·]?) Z.toArray pv.toList = some cs.toArray) : (Instr.build T pv).run P w = .ok (.agg cs.toArray) w := run_build_struct hz hu hp hf
theorem F2 {place : Nat → Option (Nat × Nat)} {rest : List (Nat × Value)} (pre z post : List Value) : Instr.fill place (pre ++ (z ++ post)).toArray rest = Instr.fill place ((pre ++ z) ++ post).toArray rest := by rw [List.append_assoc]
theorem EO {a b : List Value} (ha : ∀ u ∈ a, u.oneCell' = true) (hb : ∀ u ∈ b, u.oneCell' = true) : ∀ u ∈ a ++ b, u.oneCell' = true := fun u hu => (List.mem_append.1 hu).elim (ha u) (hb u)
end
section
variable {C : Cx} {F : Frm} {L : List Ent}
end
end Go.Sx
namespace Go.Proofs.YtkdpdgpphpngeaaDoor
open Go Go.Sx
theorem RdV.pos {w : World} {ao : Option Addr} {vs : List Value} (h : RdV w ao vs) (hv : 0 < vs.length) : ∃ b off, ao = some ⟨b, off, none⟩ ∧ RdA w b off vs := by
  rcases h with h | h
  · rw [h] at hv; simp at hv
  · exact h
theorem RdV.of {C : Cx} {L : List Ent} {w : World} {b off : Nat} {vs : List Value} (hw : Hp C.w0 C.M L w) (h : MemAt C L b off vs) : RdV w (some ⟨b, off, none⟩) vs := by
 cases vs with
 | nil => exact .inl rfl
 | cons v vs => exact .inr ⟨b, off, rfl, RdA.of hw h (by simp)⟩
theorem RdV.src {C : Cx} {L : List Ent} {ao : Option Addr} {vs : List Value} (h : RdV C.w0 ao vs) (hM : C.M = []) : SrcAt C L ao vs := by
  rcases h with rfl | ⟨b, off, rfl, h⟩
  · exact SrcAt.nil
  · exact SrcAt.mem (h.mem (by rw [hM]; simp))
theorem RdV.nil {w : World} {ao : Option Addr} : RdV w ao [] := .inl rfl
section
variable {C : Cx} {F : Frm} {L : List Ent} {ty : TypeId}
theorem Cl_clo {f : FuncId} {x : Operand} {args : Array Operand} {ats : Array TypeId} (vs caps : List Value) (hcf : ∀ (args : Array Value) (w : World), Sem.run C.P (callFunc f args) w = Result.ok (Next.enter f args) w)
  (hx : ev F x = some (.func (.func f) #[] caps.toArray)) (h : args.toList.map (ev F) = vs.map some) : Cl C F L (.call { callee := .value x, args := args, argTypes := ats }) ty f (vs ++ caps).toArray := fun a w ha _ d pos aft g => by
 have : args.map a.eval = vs.toArray := by
  apply Array.toList_inj.1
  rw [Array.toList_map]
  generalize args.toList = l at h
  clear hcf hx
  induction l generalizing vs with
  | nil => cases vs <;> simp_all
  | cons o l ih =>
   cases vs with
   | nil => simp at h
   | cons v vs =>
    simp only [List.map_cons, List.cons.injEq] at h
    simp [ha.ev h.1, ih vs h.2]
 have h2 : a.eval x = .func (.func f) #[] caps.toArray := ha.ev hx
 simp [execOp, resolve, this, h2, Deferred.ofValue, invoke, hcf]
end
def IdxBad (l : List UInt64) (k : Nat) : Prop := g64 l k >>> 32 ≠ 0 ∨ (0 < k ∧ g64 l k ≤ g64 l (k - 1))
instance (l : List UInt64) (k : Nat) : Decidable (IdxBad l k) := by unfold IdxBad; infer_instance
def RightI (l : List UInt64) : Prop := 1 ≤ l.length ∧ l.length ≤ 256 ∧ ∀ k, k < l.length → ¬ IdxBad l k
instance (l : List UInt64) : Decidable (RightI l) := by unfold RightI; infer_instance
theorem RightI_pos {l : List UInt64} (h : RightI l) : 1 ≤ l.length ∧ l.length ≤ 256 := ⟨h.1, h.2.1⟩
theorem idx_step {l : List UInt64} {i : Nat} (h : ∀ k, k < i → ¬ IdxBad l k) (hi : ¬ IdxBad l i) : ∀ k, k < i + 1 → ¬ IdxBad l k := fun k hk => by
  by_cases e : k = i
  · rw [e]; exact hi
  · exact h k (by omega)
theorem shr32 (x : UInt64) : (4294967296:UInt64) ≤ x ↔ x >>> 32 ≠ 0 := by
 have h1 : (4294967296:UInt64).toNat = 4294967296 := rfl
 have h2 : (x >>> 32).toNat = x.toNat / 4294967296 := by
  rw [UInt64.toNat_shiftRight, Nat.shiftRight_eq_div_pow]
  rfl
 have h3 : (0:UInt64).toNat = 0 := rfl
 rw [UInt64.le_iff_toNat_le, h1, ne_eq, ← UInt64.toNat_inj, h2, h3]
 omega
theorem pow2_step (j : Nat) : UInt64.ofNat (2 ^ j) * 2 = UInt64.ofNat (2 ^ (j + 1)) := by
 rw [Nat.pow_succ, UInt64.ofNat_mul]; rfl
structure SealR where
 e : UInt64
 d : List UInt8
 t : List UInt8
 hd : d.length = 32
 ht : t.length = 16
deriving DecidableEq
theorem SealR.eq_iff (x y : SealR) : x = y ↔ x.e = y.e ∧ x.d = y.d ∧ x.t = y.t := by
 refine ⟨fun h => by rw [h]; exact ⟨rfl, rfl, rfl⟩, fun h => ?_⟩
 obtain ⟨a, b, c, _, _⟩ := x
 obtain ⟨a', b', c', _, _⟩ := y
 obtain ⟨rfl, rfl, rfl⟩ := h
 rfl
def sealC (x : SealR) : List Value := [U64 x.e] ++ cu8 x.d ++ cu8 x.t
theorem F5 (x : SealR) : (sealC x).length = 49 := by
 have h1 := x.hd
 have h2 := x.ht
 simp [sealC, h1, h2]
def RightB (i e : UInt64) : Bool := decide (i < 4294967296) && (decide (1 ≤ e) && decide (e < 18446744073709551615))
theorem u64_bounds (i e : UInt64) : (i ≤ 4294967295 ↔ i < 4294967296) ∧ (e ≠ 0 ↔ 1 ≤ e) ∧ (e ≠ 18446744073709551615 ↔ e < 18446744073709551615) := by
 have h1 : (4294967295:UInt64).toNat = 4294967295 := rfl
 have h2 : (4294967296:UInt64).toNat = 4294967296 := rfl
 have h3 : (0:UInt64).toNat = 0 := rfl
 have h4 : (1:UInt64).toNat = 1 := rfl
 have h5 : (18446744073709551615:UInt64).toNat = 18446744073709551615 := rfl
 have h6 := e.toNat_lt
 simp only [UInt64.lt_iff_toNat_lt, UInt64.le_iff_toNat_le, ne_eq, ← UInt64.toNat_inj, h1, h2, h3, h4, h5]
 omega
theorem RightB_ref (i e : UInt64) : RightB i e = (decide (i ≤ 4294967295) && (decide (e ≠ 0) && decide (e ≠ 18446744073709551615))) := by
 obtain ⟨h1, h2, h3⟩ := u64_bounds i e
 unfold RightB
 rw [decide_eq_decide.2 h1, decide_eq_decide.2 h2, decide_eq_decide.2 h3]
theorem right_not {i e : UInt64} (h : RightB i e = true) : ¬ (4294967295:UInt64) < i := fun h2 => by
 unfold RightB at h
 simp only [Bool.and_eq_true, decide_eq_true_eq] at h
 exact absurd ((u64_bounds i e).1.2 h.1) (UInt64.not_le.2 h2)
def findIx {α : Type} (p : α → Bool) (ls : List α) : Int := if ls.any p then (ls.findIdx p : Nat) else -1
theorem findIx_at {α : Type} {p : α → Bool} {ls : List α} {i : Nat} {x : α} (h : ls[i]? = some x) (hp : p x = true) (hlt : ∀ k, k < i → ∀ y, ls[k]? = some y → p y = false) : findIx p ls = i := by
 obtain ⟨hi, hx⟩ := List.getElem?_eq_some_iff.1 h
 have h1 : ls.any p = true := List.any_eq_true.2 ⟨x, hx ▸ List.getElem_mem hi, hp⟩
 have h2 : ls.findIdx p = i := by
  rw [List.findIdx_eq hi]
  exact ⟨by rw [hx]; exact hp, fun j hj => hlt j hj _ (List.getElem?_eq_getElem (by omega))⟩
 unfold findIx
 rw [if_pos h1, h2]
theorem findIx_no {α : Type} {p : α → Bool} {ls : List α} (h : ∀ k, k < ls.length → ∀ y, ls[k]? = some y → p y = false) : findIx p ls = -1 := by
 unfold findIx
 rw [if_neg]
 intro ha
 obtain ⟨x, hx, hp⟩ := List.any_eq_true.1 ha
 obtain ⟨k, hk, hk2⟩ := List.getElem_of_mem hx
 rw [h k hk x (by rw [List.getElem?_eq_getElem hk, hk2])] at hp
 exact absurd hp (by decide)
theorem findIx_ge {α : Type} (p : α → Bool) (ls : List α) : decide (0 ≤ findIx p ls) = ls.any p := by
 unfold findIx
 cases h : ls.any p with
 | true => rw [if_pos rfl]; exact decide_eq_true (by omega)
 | false => rw [if_neg (by decide)]; exact decide_eq_false (by omega)
theorem find_step {α : Type} {p : α → Bool} {ls : List α} {i : Nat} {x : α} (h : ls[i]? = some x) (hp : p x = false) (hlt : ∀ k, k < i → ∀ y, ls[k]? = some y → p y = false) : ∀ k, k < i + 1 → ∀ y, ls[k]? = some y → p y = false := fun k hk y hy => by
  by_cases e : k = i
  · rw [e, h] at hy
    injection hy with hy
    rw [← hy]; exact hp
  · exact hlt k (by omega) y hy
theorem g64_at {l : List UInt64} {i : Nat} (h : i < l.length) : l[i]? = some (g64 l i) := by rw [g64_eq h, List.getElem?_eq_getElem h]
def headE (ls : List SealR) : UInt64 := (ls[0]?.map SealR.e).getD 0
theorem headE_of {ls : List SealR} {x : SealR} (h : ls[0]? = some x) : headE ls = x.e := by unfold headE; rw [h]; rfl
def oddB (e0 e : UInt64) : Bool := !RightB 0 e || decide (e ≠ e0)
def RightO (kd : Int) (l : List UInt64) (ls : List SealR) (bl : UInt64) : Bool :=
 if kd = 1 then decide (bl = 0) && (decide (RightI l) && (decide (ls.length = l.length) && !(ls.any (fun x => oddB (headE ls) (SealR.e x)))))
 else if kd = 2 then decide (bl = 0) && (decide (RightI l) && decide (ls.length = 0))
 else if kd = 3 then decide (l.length + ls.length = 0) && (decide ((1:UInt64) ≤ bl) && decide (bl ≤ 4294967296))
 else false
theorem any_odd {α : Type} {p : α → Bool} {ls : List α} {i : Nat} {x : α} (h : ls[i]? = some x) (hp : p x = true) : ls.any p = true := by
 obtain ⟨hi, hx⟩ := List.getElem?_eq_some_iff.1 h
 exact List.any_eq_true.2 ⟨x, hx ▸ List.getElem_mem hi, hp⟩
theorem any_no {α : Type} {p : α → Bool} {ls : List α} (h : ∀ k, k < ls.length → ∀ y, ls[k]? = some y → p y = false) : ls.any p = false := by
 cases ha : ls.any p with
 | false => rfl
 | true =>
  obtain ⟨x, hx, hp⟩ := List.any_eq_true.1 ha
  obtain ⟨k, hk, hk2⟩ := List.getElem_of_mem hx
  rw [h k hk x (by rw [List.getElem?_eq_getElem hk, hk2])] at hp
  exact absurd hp (by decide)
theorem bl_pos (bl : UInt64) : (0:UInt64) < bl ↔ (1:UInt64) ≤ bl := by
 have h0 : (0:UInt64).toNat = 0 := rfl
 have h1 : (1:UInt64).toNat = 1 := rfl
 rw [UInt64.lt_iff_toNat_lt, UInt64.le_iff_toNat_le, h0, h1]
 omega
section
variable {C : Cx} {F : Frm} {L : List Ent}
theorem one_seal (z : SealR) : ∀ v ∈ sealC z, v.oneCell' = true := by
  intro v hv
  unfold sealC at hv
  simp only [List.mem_append, List.mem_cons, List.not_mem_nil, or_false] at hv
  rcases hv with (rfl | hv) | hv
  · rfl
  · exact CD v hv
  · exact CD v hv
theorem rows_len (l : List SealR) : (l.flatMap sealC).length = l.length * 49 := by
 induction l with
 | nil => rfl
 | cons a l ih => rw [List.flatMap_cons, List.length_append, F5, ih, List.length_cons]; omega
theorem GK {x y : Operand} {ty : TypeId} (t e bytes : Nat) (zv : Value) (m : List Bool) (v : Value) (n : Nat) (l : List SealR) (z : SealR) (ao : Option Addr) (c tot : Nat)
    (hu : C.P.underlying t = some (.slice e)) (hi : (C.P.info? e).map (fun i => (i.zero, i.size, i.bytes)) = some (some zv, 49, bytes)) (hzs : zv.cells.size = 49)
    (hx : ev F x = some v)
    (hv : (v = .slice none 0 0 ∧ n = 0 ∧ l = [] ∧ take? m L = []) ∨ (∃ g sp cap, v = Slc g 0 n cap ∧ take? m L = [⟨g, l.flatMap sealC ++ sp, e, (0, 0)⟩] ∧ l.length = n ∧ sp.length = cap * 49 - n * 49 ∧ n ≤ cap ∧ cap ≤ maxLen))
    (hy : ev F y = some (.slice ao 1 c)) (hm : SrcAt C L ao (sealC z)) (hmax : (n + 1) * bytes ≤ 140737488355328) (hmax' : n + 1 ≤ maxLen) (htot : n + 1 = tot) :
    Step C F L (.call { callee := .builtin .append, args := #[x, y], argTypes := #[t, t] }) ty fun v' L' => ∃ g sp cap, (C.w0.heap.size ≤ g ∨ g ∈ C.M) ∧ v' = Slc g 0 tot cap ∧ L' = rest? m L ++ [⟨g, (l ++ [z]).flatMap sealC ++ sp, e, (0, 0)⟩] ∧ (l ++ [z]).length = tot ∧ sp.length = cap * 49 - tot * 49 ∧ tot ≤ cap ∧ cap ≤ maxLen := by
  subst htot
  have hv' : (v = .slice none 0 0 ∧ n = 0 ∧ l.flatMap sealC = [] ∧ take? m L = [] ∧ 0 < 1) ∨ (∃ g sp cap, v = Slc g 0 n cap ∧ take? m L = [⟨g, l.flatMap sealC ++ sp, e, (0, 0)⟩] ∧ (l.flatMap sealC).length = n * 49 ∧ (l.flatMap sealC ++ sp).length = cap * 49 ∧ n ≤ cap ∧ cap ≤ maxLen) := by
    rcases hv with ⟨h1, h2, h3, h4⟩ | ⟨g, sp, cap, h1, h2, h3, h4, h5, h6⟩
    · exact .inl ⟨h1, h2, by rw [h3]; rfl, h4, by omega⟩
    · refine .inr ⟨g, sp, cap, h1, h2, by rw [rows_len, h3], ?_, h5, h6⟩
      rw [List.length_append, h4, rows_len, h3]; omega
  have h := Step_append (C := C) (F := F) (L := L) (x := x) (y := y) (ty := ty) t e 49 bytes zv m v n (l.flatMap sealC) (sealC z) ao 1 c hu hi hzs (by decide) hx hv' hy (by rw [F5]) hm (one_seal z) hmax hmax'
  intro a w ha hw d pos aft g Kk Q hq
  refine h a w ha hw d pos aft g Kk Q ?_
  rintro v' L' w' ⟨g, sp, cap, h1, h2, h3, h4, h5, h6, h7⟩ hw'
  have e1 : l.flatMap sealC ++ sealC z = (l ++ [z]).flatMap sealC := by rw [List.flatMap_append]; simp
  rw [e1] at h3 h4 h5
  rw [rows_len] at h4
  refine hq v' L' w' ⟨g, sp, cap, h1, h2, h3, by omega, ?_, h6, h7⟩ hw'
  rw [List.length_append, rows_len] at h5
  omega
end
theorem take_step {α : Type} {ls : List α} {i : Nat} {x : α} (h : ls[i]? = some x) : ls.take i ++ [x] = ls.take (i + 1) := by rw [List.take_add_one, h]; rfl
theorem fill_one {s : Nat} {zs : Array Value} {c Z : List Value} (hl : c.length = s) (hz : (Array.range (1 * s)).map (fun j => zs[j % zs.size]!) = Z.toArray) (hZ : Z.length = s) :
  Instr.fill (fun i => some (i * s, s)) ((Array.range (1 * s)).map (fun j => zs[j % zs.size]!)) [(0, .agg c.toArray)] = some c.toArray := by
 rw [hz]
 have h := F1 (place := fun i => some (i * s, s)) (i := 0) (v := .agg c.toArray) (rest := []) Z [] c rfl (by simp [hZ]) (by rw [hl, hZ])
 rw [List.append_nil, List.append_nil] at h
 exact h
def LargeP (n m : Nat) : Prop := 300 < n ∨ 300 < m ∨ (20 < m ∧ m ≤ 256)
instance (n m : Nat) : Decidable (LargeP n m) := by unfold LargeP; infer_instance
theorem list_eq {α : Type} {a b : List α} (hl : a.length = b.length) (h : ∀ k, k < a.length → ∀ x y, a[k]? = some x → b[k]? = some y → x = y) : a = b := by
 apply List.ext_getElem hl
 intro k h1 h2
 exact h k h1 _ _ (List.getElem?_eq_getElem h1) (List.getElem?_eq_getElem h2)
theorem list_ne {α : Type} {a b : List α} {k : Nat} {x y : α} (h1 : a[k]? = some x) (h2 : b[k]? = some y) (h : x ≠ y) : a ≠ b := fun e => by
 rw [e, h2] at h1
 injection h1 with h1
 exact h h1.symm
theorem eq_step {α : Type} {a b : List α} {i : Nat} {p q : α} (ha : a[i]? = some p) (hb : b[i]? = some q) (hpq : p = q) (h : ∀ k, k < i → ∀ x y, a[k]? = some x → b[k]? = some y → x = y) : ∀ k, k < i + 1 → ∀ x y, a[k]? = some x → b[k]? = some y → x = y := fun k hk x y hx hy => by
  by_cases e : k = i
  · rw [e, ha] at hx
    rw [e, hb] at hy
    injection hx with hx
    injection hy with hy
    rw [← hx, ← hy]; exact hpq
  · exact h k (by omega) x y hx hy
theorem RightO_pos {kd : Int} {l : List UInt64} {ls : List SealR} {bl : UInt64} (h : RightO kd l ls bl = true) (hk : kd = 1) : 1 ≤ ls.length ∧ ls.length = l.length := by
 unfold RightO at h
 rw [if_pos hk] at h
 simp only [Bool.and_eq_true, decide_eq_true_eq] at h
 have := h.2.1.1
 exact ⟨by omega, h.2.2.1⟩
def mayN (pv ep : UInt64) (kd : Int) (l : List UInt64) (ls : List SealR) (bl : UInt64) : Nat :=
 if RightO kd l ls bl = true then (if kd = 1 ∧ headE ls ≠ ep then 2 else if RightB 0 ep = true ∧ ¬ ep ≤ pv then 0 else 1) else 2
theorem mayN_right {pv ep : UInt64} {kd : Int} {l : List UInt64} {ls : List SealR} {bl : UInt64} (h : mayN pv ep kd l ls bl = 0) : RightO kd l ls bl = true := by
  unfold mayN at h
  split at h
  · assumption
  · omega
theorem RightO_idx {kd : Int} {l : List UInt64} {ls : List SealR} {bl : UInt64} (h : RightO kd l ls bl = true) (hk : kd = 1 ∨ kd = 2) : RightI l := by
  unfold RightO at h
  rcases hk with hk | hk
  · rw [if_pos hk] at h
    simp only [Bool.and_eq_true, decide_eq_true_eq] at h
    exact h.2.1
  · rw [if_neg (by omega), if_pos hk] at h
    simp only [Bool.and_eq_true, decide_eq_true_eq] at h
    exact h.2.1
def idxT (l : List UInt64) (i : Nat) : List UInt8 := (List.range i).flatMap (fun k => numK 4 (g64 l k) 4)
theorem idxT_zero (l : List UInt64) : idxT l 0 = [] := rfl
theorem idxT_succ (l : List UInt64) (i : Nat) : idxT l (i + 1) = idxT l i ++ numK 4 (g64 l i) 4 := by
 unfold idxT; rw [List.range_succ, List.flatMap_append]; simp
theorem idxT_len (l : List UInt64) : ∀ i, (idxT l i).length = 4 * i
 | 0 => rfl
 | i + 1 => by rw [idxT_succ, List.length_append, idxT_len l i, EA]; omega
def selT (ls : List SealR) : List UInt8 := ls.flatMap (fun x => putL x.e x.d x.t)
theorem selT_nil : selT [] = [] := rfl
theorem selT_app (ls : List SealR) (x : SealR) : selT (ls ++ [x]) = selT ls ++ putL x.e x.d x.t := by unfold selT; rw [List.flatMap_append]; simp
theorem selT_len : ∀ ls : List SealR, (selT ls).length = 56 * ls.length
 | [] => rfl
 | x :: ls => by
  have h := selT_len ls
  unfold selT at h ⊢
  rw [List.flatMap_cons, List.length_append, h, putL_len x.hd x.ht, List.length_cons]; omega
theorem shr8n {n : Nat} (h : n < 256) : UInt64.ofNat n >>> UInt64.ofNat (8 * 1) = 0 := by
 apply UInt64.toNat_inj.1
 rw [UInt64.toNat_shiftRight, UInt64.toNat_ofNat', Nat.mod_eq_of_lt (by omega), Nat.shiftRight_eq_div_pow]
 show n / 2 ^ 8 = 0
 exact Nat.div_eq_of_lt h
theorem idx_fit {l : List UInt64} {i : Nat} (h : RightI l) (hi : i < l.length) : g64 l i >>> UInt64.ofNat (8 * 4) = 0 := by
 have h1 := h.2.2 i hi
 unfold IdxBad at h1
 exact Classical.not_not.1 (fun e => h1 (.inl e))
def tktT (pv ep : UInt64) (k : Nat) (l : List UInt64) (ls : List SealR) (bl : UInt64) : List UInt8 :=
 if k = 3 then ((numK 8 pv 8 ++ numK 8 ep 8) ++ numK 1 (UInt64.ofNat k) 1) ++ numK 8 bl 8
 else ((((numK 8 pv 8 ++ numK 8 ep 8) ++ numK 1 (UInt64.ofNat k) 1) ++ numK 1 (UInt64.ofNat (l.length - 1)) 1) ++ idxT l l.length) ++ selT ls
end Go.Proofs.YtkdpdgpphpngeaaDoor
namespace Go.Proofs.YtkdpdgpphpngeaaDoor
open Go Go.Sx
def encK (k : List UInt8) : List UInt8 := mid (macL k ([101, 110, 116, 114, 117, 115, 116, 32, 115, 101, 97, 108] : List UInt8)) 0 16
def tgK (k : List UInt8) : List UInt8 := macL k ([101, 110, 116, 114, 117, 115, 116, 32, 116, 97, 103] : List UInt8)
theorem GB (k : List UInt8) : (encK k).length = 16 := D8 (by rw [CB]; omega)
theorem tgK_len (k : List UInt8) : (tgK k).length = 32 := CB _ _
def placeT (i e : UInt64) : List UInt8 := numK 4 i 4 ++ numK 8 e 8
theorem DO (i e : UInt64) : (placeT i e).length = 12 := by unfold placeT; rw [List.length_append, EA, EA]
theorem spl12 {p : List UInt8} (h : p.length = 12) : spl (zr8 16) 0 p = p ++ zr8 4 := by
 unfold spl
 rw [h]
 simp [zr8]
theorem ctr12 {p : List UInt8} (h : p.length = 12) : (p ++ zr8 4).length = 16 := by rw [List.length_append, h, AP]
def turnP (k p b : List UInt8) : List UInt8 := xorN (strT (eBlk (rkL (encK k)) (p ++ zr8 4)) 32) b 32
theorem E4 (k b : List UInt8) {p : List UInt8} (h : p.length = 12) : (turnP k p b).length = 32 := by
 unfold turnP; exact (GL _ _ _).trans (GG (fun j => GM (ctr12 h) j) 32)
theorem turnP_ref (k b : List UInt8) {p : List UInt8} (h : p.length = 12) : xorN (strT (rBlk (rkeysL (encK k)) (p ++ zr8 4)) 32) b 32 = turnP k p b := by
 unfold turnP; rw [str_rstr (GB k) (ctr12 h)]
def tagP (k p d : List UInt8) : List UInt8 := mid (macL (tgK k) (p ++ d)) 0 16
theorem GQ (k p d : List UInt8) : (tagP k p d).length = 16 := D8 (by rw [CB]; omega)
def sealN (i e : UInt64) : Nat := if RightB i e then 0 else 1
def sE (i e : UInt64) : UInt64 := if RightB i e then e else 0
def sD (k : List UInt8) (i e : UInt64) (b : List UInt8) : List UInt8 := if RightB i e then turnP k (placeT i e) b else zr8 32
def sT (k : List UInt8) (i e : UInt64) (b : List UInt8) : List UInt8 := if RightB i e then tagP k (placeT i e) (turnP k (placeT i e) b) else zr8 16
theorem EK (k : List UInt8) (i e : UInt64) (b : List UInt8) : (sD k i e b).length = 32 := by
  unfold sD; split
  · exact E4 k b (DO i e)
  · exact AP 32
theorem EJ (k : List UInt8) (i e : UInt64) (b : List UInt8) : (sT k i e b).length = 16 := by
  unfold sT; split
  · exact GQ _ _ _
  · exact AP 16
def tktN (k ni ns : Nat) : Nat := if k = 3 then 25 else 18 + 4*ni + 56*ns
theorem tktT_len {pv ep : UInt64} {k : Nat} {l : List UInt64} {ls : List SealR} {bl : UInt64} {ni ns : Nat} (hl : l.length = ni) (hls : ls.length = ns) : (tktT pv ep k l ls bl).length = tktN k ni ns := by
  unfold tktT tktN
  split
  · simp only [List.length_append, EA]
  · simp only [List.length_append, EA, idxT_len, selT_len, hl, hls]
def tkG (key : List UInt8) (pv ep : UInt64) (k : Nat) (l : List UInt64) (ls : List SealR) (bl : UInt64) : List UInt8 := mid (macL key (tktT pv ep k l ls bl)) 0 16
theorem tkG_len (key : List UInt8) (pv ep : UInt64) (k : Nat) (l : List UInt64) (ls : List SealR) (bl : UInt64) : (tkG key pv ep k l ls bl).length = 16 := D8 (by rw [CB]; omega)
theorem tkG_of (key : List UInt8) (pv ep : UInt64) (k : Nat) (l : List UInt64) (ls : List SealR) (bl : UInt64) : mid (macL key [tktT pv ep k l ls bl].flatten) 0 16 = tkG key pv ep k l ls bl := by
 unfold tkG; simp
theorem chk_tk (key : List UInt8) (pv ep : UInt64) (k : Nat) (l : List UInt64) (ls : List SealR) (bl : UInt64) {tg : List UInt8} (ht : tg.length = 16) :
  (decide (tg = macL key [tktT pv ep k l ls bl].flatten) || decide (tg = mid (macL key [tktT pv ep k l ls bl].flatten) 0 16)) = decide (tg = tkG key pv ep k l ls bl) := by
 rw [tkG_of, decide_eq_false, Bool.false_or]
 intro h
 have := congrArg List.length h
 rw [CB, ht] at this
 omega
section
variable {C : Cx} {F : Frm} {L : List Ent}
theorem one_rows : ∀ (ls : List SealR), ∀ v ∈ ls.flatMap sealC, v.oneCell' = true := fun ls v hv => by
 obtain ⟨z, _, hz⟩ := List.mem_flatMap.1 hv
 exact one_seal z v hz
theorem Step_cloneS {x y : Operand} {ty : TypeId} (t e bytes : Nat) (zv : Value) (m : List Bool) (nb : Nat) (ls : List SealR) (ao : Option Addr) (k c : Nat)
  (hu : C.P.underlying t = some (.slice e)) (hi : (C.P.info? e).map (fun i => (i.zero, i.size, i.bytes)) = some (some zv, 49, bytes)) (hzs : zv.cells.size = 49)
  (hx : ev F x = some (Slc nb 0 0 0)) (ht : take? m L = [⟨nb, [], e, (0, 0)⟩]) (hy : ev F y = some (.slice ao k c)) (hl : ls.length = k) (hm : SrcAt C L ao (ls.flatMap sealC)) (hmax : k * bytes ≤ 140737488355328) (hmax' : k ≤ maxLen) :
  Step C F L (.call { callee := .builtin .append, args := #[x, y], argTypes := #[t, t] }) ty fun v' L' => ∃ g sp cap, (C.w0.heap.size ≤ g ∨ g ∈ C.M) ∧ v' = Slc g 0 k cap ∧ L' = rest? m L ++ [⟨g, ls.flatMap sealC ++ sp, e, (0, 0)⟩] ∧ sp.length = cap * 49 - k * 49 ∧ k ≤ cap ∧ cap ≤ maxLen := by
 have h := Step_append (C := C) (F := F) (L := L) (x := x) (y := y) (ty := ty) t e 49 bytes zv m (Slc nb 0 0 0) 0 [] (ls.flatMap sealC) ao k c hu hi hzs (by decide) hx (.inr ⟨nb, [], 0, rfl, ht, rfl, rfl, Nat.le_refl _, Nat.zero_le _⟩) hy (by rw [rows_len, hl]) hm (one_rows ls) (by rw [Nat.zero_add]; exact hmax) (by omega)
 intro a w ha hw d pos aft g Kk Q hq
 refine h a w ha hw d pos aft g Kk Q ?_
 rintro v' L' w' ⟨g, sp, cap, h1, h2, h3, h4, h5, h6, h7⟩ hw'
 rw [List.nil_append] at h3 h4 h5
 rw [Nat.zero_add] at h2 h4 h6
 refine hq v' L' w' ⟨g, sp, cap, h1, h2, h3, ?_, h6, h7⟩ hw'
 rw [List.length_append, h4] at h5
 omega
end
end Go.Proofs.YtkdpdgpphpngeaaDoor
namespace Go.Proofs.YtkdpdgpphpngeaaDoor
open Go Go.Sx Go.RowKit
open Go.ChangeShapes Go.WideShapes
section
variable {H : Type} {enc : TypeId × Value → H} {P : Program} {w : World} {base : Nat} {spare : Nat → Bool} {held : Bool} {sz : Bool} {t : TypeId} {cs : List Value}
theorem flat64 (l : List UInt64) : l.flatMap (fun a => [U64 a]) = cu64 l := by
 induction l with
 | nil => rfl
 | cons a l ih => rw [List.flatMap_cons, ih]; rfl
theorem TD.sl64 {e : Nat} (ht : P.underlying t = some (.slice e)) (he : P.underlying e = some (.int .u64)) (hs : P.cellsOf e = 1) (hb : P.bytesOf e ≠ 0) (h : TD enc P w base spare held sz t cs) :
  ∃ (ao : Option Addr) (n c : Nat) (l : List UInt64), cs = [.slice ao n c] ∧ l.length = n ∧ (ao = none → c = 0) ∧ (n ≤ c ∧ c ≤ maxLen) ∧ RdV w ao (cu64 l) := by
 obtain ⟨ao, n, c, al, h1, h2, h3, h4, h5, h6, h7⟩ := TD.rows (f := fun a : UInt64 => [U64 a]) (G := fun _ => True) (b := P.bytesOf e) ht hs (by decide) rfl (Nat.pos_of_ne_zero hb) (fun _ => rfl) (fun cs' hcs => by
  obtain ⟨a, ha⟩ := TD.u64 he hcs
  exact ⟨a, ha, trivial⟩) h
 rw [flat64] at h6
 exact ⟨ao, n, c, al, h1, h2, h4, h5, h6⟩
end
end Go.Proofs.YtkdpdgpphpngeaaDoor
namespace Go.Proofs.YtkdpdgpphpngeaaDoor
open Go Go.Sx Go.RowKit
open Go.ChangeShapes Go.WideShapes
def slX (k : List UInt8) (e : UInt64) (l : List UInt64) (x : List UInt8) (j : Nat) : SealR :=
 SealR.mk (sE (g64 l j) e) (sD k (g64 l j) e (mid x (32*j) 32)) (sT k (g64 l j) e (mid x (32*j) 32)) (EK _ _ _ _) (EJ _ _ _ _)
def slS (k : List UInt8) (e : UInt64) (l : List UInt64) (x : List UInt8) : Nat → List SealR
 | 0 => []
 | i + 1 => slS k e l x i ++ [slX k e l x i]
theorem slS_zero (k : List UInt8) (e : UInt64) (l : List UInt64) (x : List UInt8) : slS k e l x 0 = [] := rfl
theorem slS_succ (k : List UInt8) (e : UInt64) (l : List UInt64) (x : List UInt8) (i : Nat) : slS k e l x (i + 1) = slS k e l x i ++ [slX k e l x i] := rfl
theorem slS_len (k : List UInt8) (e : UInt64) (l : List UInt64) (x : List UInt8) : ∀ i, (slS k e l x i).length = i
 | 0 => rfl
 | i + 1 => by rw [slS_succ, List.length_append, slS_len k e l x i]; rfl
theorem seal_one {i e : UInt64} (h : ¬ sealN i e = 0) : sealN i e = 1 := by
  unfold sealN at h ⊢
  split
  · rename_i hr; rw [if_pos hr] at h; exact absurd rfl h
  · rfl
theorem seal_ok {i e : UInt64} (h : RightB i e = true) : sealN i e = 0 := by unfold sealN; rw [if_pos h]
theorem seal_right {i e : UInt64} (h : sealN i e = 0) : RightB i e = true := by
 unfold sealN at h
 cases hr : RightB i e with
 | true => rfl
 | false => rw [hr] at h; exact absurd h (by decide)
theorem all_step {l : List UInt64} {e : UInt64} {i : Nat} (h : ∀ j, j < i → RightB (g64 l j) e = true) (hi : RightB (g64 l i) e = true) : ∀ j, j < i + 1 → RightB (g64 l j) e = true := fun j hj => by
  by_cases he : j = i
  · rw [he]; exact hi
  · exact h j (by omega)
section
variable {H : Type} {enc : TypeId × Value → H} {P : Program} {w : World} {base : Nat} {spare : Nat → Bool} {held : Bool} {sz : Bool} {t : TypeId} {cs : List Value}
theorem flat32 (al2 : List {l : List UInt8 // l.length = 32}) : al2.flatMap (fun a => cu8 a.1) = cu8 (al2.flatMap (fun a => a.1)) := by
 induction al2 with
 | nil => rfl
 | cons a al2 ih => rw [List.flatMap_cons, List.flatMap_cons, cu8_app, ih]
theorem flat32_len (al2 : List {l : List UInt8 // l.length = 32}) : (al2.flatMap (fun a => a.1)).length = 32 * al2.length := by
 induction al2 with
 | nil => rfl
 | cons a al2 ih => rw [List.flatMap_cons, List.length_append, ih, a.2, List.length_cons]; omega
theorem TD.sl32 {e u8 : TypeId} (ht : P.underlying t = some (.slice e)) (he : P.underlying e = some (.array 32 u8)) (uu : P.underlying u8 = some (.int .u8)) (hs : P.cellsOf e = 32) (hb : P.bytesOf e ≠ 0) (cu : P.cellsOf u8 = 1)
    (h : TD enc P w base spare held sz t cs) :
    ∃ (ao : Option Addr) (n c : Nat) (x : List UInt8), cs = [.slice ao n c] ∧ x.length = 32 * n ∧ (ao = none → c = 0) ∧ (n ≤ c ∧ c ≤ maxLen) ∧ RdB w [] ao x := by
  obtain ⟨ao, n, c, al, h1, h2, h3, h4, h5, h6, h7⟩ := TD.rows (f := fun a : {l : List UInt8 // l.length = 32} => cu8 a.1) (G := fun _ => True) (b := P.bytesOf e) ht hs (by decide) rfl (Nat.pos_of_ne_zero hb) (fun a => by rw [cu8_length]; exact a.2) (fun cs' hcs => by
    obtain ⟨l, e1, k1⟩ := TD.arr8 he uu cu hs hcs
    exact ⟨⟨l, k1⟩, e1, trivial⟩) h
  rw [flat32] at h6
  refine ⟨ao, n, c, al.flatMap (fun a => a.1), h1, by rw [flat32_len, h2], h4, h5, ?_⟩
  rcases h6 with h | ⟨b, off, h8, h9, h10⟩
  · left
    have := congrArg List.length h
    rw [cu8_length] at this
    exact List.eq_nil_of_length_eq_zero this
  · exact .inr ⟨b, off, h8, h9, by simp, h10⟩
end
end Go.Proofs.YtkdpdgpphpngeaaDoor
namespace Go.Proofs.YtkdpdgpphpngeaaDoor
open Go Go.Sx
attribute [local irreducible] mid zr8 zr32 numK rnK rotr wordL spreadL comprL cpN adN spN wrdN constL initL padL stN outN routN sumG putL
theorem pright_c (ai : Option Addr) (ni ci : Nat) (l : List UInt64)  (w : World) (hl : l.length = ni) (hnm : ni ≤ 2000000) (hnc : ni ≤ ci) (hcm : ci ≤ maxLen) (hv : RdV w ai (cu64 l))  : Calls Tryd.prog 85 #[I64 32, .slice ai ni ci] w (Post w [] (fun v L => v = .bool (decide (RightI l)) ∧ L = [])) := by
 have hmx : maxLen = 9223372036854775807 := rfl
 refine enter w [] 48 [] [I64 32, .slice ai ni ci] Tryd.func85 rfl rfl (by simp) (BR (by simp) (by simp) (by simp)) ?_
 show JC _ _ _ [(0, I64 32), (1, .slice ai ni ci)] _
 refine AF (AB (AA _ (AE rfl) rfl ?_))
 refine AI (AC (AF (AF (AB (AA _ (AG rfl) rfl ?_)))))
 refine AA (.bool (decide ((32:Int) < (0:Int)))) (AJ rfl rfl fun _ => B9 _ _) rfl ?_
 refine AA _ (AG rfl) rfl ?_
 refine BB 2 9 false _ _ rfl rfl (by decide) (AG rfl) rfl ?_
 refine BB 2 9 false _ (.bool (decide ((32:Int) < (32:Int)))) rfl rfl (by decide) (AJ rfl rfl fun _ => FP _ _) rfl ?_
 refine AA _ (C0 _ rfl (by decide) rfl) rfl ?_
 refine AA _ (AG rfl) rfl ?_
 refine BB 6 13 false _ _ rfl rfl (by decide) (AG rfl) rfl ?_
 refine BB 6 13 false _ (I64 ni) rfl rfl (by decide) (DW BI rfl) rfl ?_
 refine BB 6 13 false _ (.bool (decide (((ni:Int)) < (1:Int)))) rfl rfl (by decide) (AJ rfl rfl fun _ => B9 _ _) rfl ?_
 refine AA _ (C0 _ rfl (by decide) rfl) rfl ?_
 refine AA _ (AG rfl) rfl ?_
 rcases Bool.eq_false_or_eq_true (decide (((ni:Int)) < (1:Int))) with hb1 | hb1
 ·
  have hp1 : ((ni:Int)) < (1:Int) := of_decide_eq_true hb1
  refine AO 11 18 false _ rfl rfl hb1 rfl ?_
  refine AO 11 18 false _ rfl rfl hb1 rfl ?_
  refine AO 11 18 false _ rfl rfl hb1 rfl ?_
  refine AA _ (CW _ rfl hb1 rfl) rfl ?_
  refine AI (AC (D1 _ rfl rfl ?_))
  refine AF (AB (AA _ (AE rfl) rfl ?_))
  refine AI (AC (BO (A3 (BQ (.bool false) (res1 Tryd.results85 (B2 rfl)) fun w1 hw1 => ?_))))
  refine ⟨_, [], rfl, ⟨congrArg Value.bool (Eq.symm (decide_eq_false (fun h => ?_))), rfl⟩, hw1.sub (by simp) (by simp)⟩
  first | (have := h.1; omega) | (have := h.2.1; omega) | exact h.2.2 i (by omega) (.inl ‹_›) | exact h.2.2 i (by omega) (.inr ⟨by omega, ‹_›⟩) | exact h.2.2 i (by omega) (.inl ((shr32 _).1 ‹_›))
 ·
  have hp1 : ¬ (((ni:Int)) < (1:Int)) := of_decide_eq_false hb1
  refine BB 11 18 false _ _ rfl rfl hb1 (AG rfl) rfl ?_
  refine BB 11 18 false _ (I64 ni) rfl rfl hb1 (DW BI rfl) rfl ?_
  refine BB 11 18 false _ (.bool (decide ((256:Int) < ((ni:Int))))) rfl rfl hb1 (AJ rfl rfl fun _ => FP _ _) rfl ?_
  refine AA _ (C0 _ rfl hb1 rfl) rfl ?_
  refine AI (AC (B5 (decide ((256:Int) < ((ni:Int)))) rfl (fun hb2 => ?_) (fun hb2 => ?_)))
  ·
   have hp2 : (256:Int) < ((ni:Int)) := of_decide_eq_true hb2
   refine AF (AB (AA _ (AE rfl) rfl ?_))
   refine AI (AC (BO (A3 (BQ (.bool false) (res1 Tryd.results85 (B2 rfl)) fun w1 hw1 => ?_))))
   refine ⟨_, [], rfl, ⟨congrArg Value.bool (Eq.symm (decide_eq_false (fun h => ?_))), rfl⟩, hw1.sub (by simp) (by simp)⟩
   first | (have := h.1; omega) | (have := h.2.1; omega) | exact h.2.2 i (by omega) (.inl ‹_›) | exact h.2.2 i (by omega) (.inr ⟨by omega, ‹_›⟩) | exact h.2.2 i (by omega) (.inl ((shr32 _).1 ‹_›))
  ·
   have hp2 : ¬ ((256:Int) < ((ni:Int))) := of_decide_eq_false hb2
   refine BJ (AC (AF (AF (AB (AA _ (AG rfl) rfl ?_)))))
   refine AA (I64 ni) (DW BI rfl) rfl ?_
   refine AA _ (AG rfl) rfl ?_
   refine AI (AC (A9 (DI (ι := Nat) (fun i => [(0, I64 32), (1, .slice ai ni ci), (23, .slice ai ni ci), (24, I64 ni), (25, I64 i)]) (fun i => []) (fun i => i ≤ ni ∧ ∀ k, k < i → ¬ IdxBad l k) (fun i => ni - i) 0 ⟨by omega, fun k hk => absurd hk (by omega)⟩ (Sub.all rfl) rfl ?_)))
   rintro i ⟨hx1, hx2⟩
   show JC _ _ _ [(0, I64 32), (1, .slice ai ni ci), (23, .slice ai ni ci), (24, I64 ni), (25, I64 i)] []
   refine AF (AB (AA (.bool (decide (((i:Int)) < ((ni:Int))))) (AJ rfl rfl fun _ => B9 _ _) rfl ?_))
   refine AI (AC (AF (B5 (decide (((i:Int)) < ((ni:Int)))) rfl (fun hb3 => ?_) (fun hb3 => ?_))))
   ·
    have hp3 : ((i:Int)) < ((ni:Int)) := of_decide_eq_true hb3
    refine BJ (AC (AF (A9 (AF (AB (AA _ (AG rfl) rfl ?_))))))
    obtain ⟨bz1, oz1, hz1, hm1⟩ := RdV.pos hv (by rw [FO, hl]; omega)
    refine AA (Ptr bz1 (i + oz1)) (CL 22 1 (i + oz1) BI BC rfl hz1 rfl (by omega) (by omega) (by omega)) rfl ?_
    refine AA (U64 (g64 l i)) (AL rfl (AZ BG (BW (hm1.mem (by simp)) (Seg.get (F9 (i := i) (by rw [hl]; omega))) (by omega)))) rfl ?_
    refine AA _ (AE rfl) rfl ?_
    refine AA _ (AE rfl) rfl ?_
    refine AI (AC (AF (AB (AA _ (AG rfl) rfl ?_))))
    refine AA _ (AG rfl) rfl ?_
    refine AA (U64 ((g64 l i) >>> (32:UInt64))) (AJ rfl rfl fun _ => FC (g64 l i) _ _ 32 (by decide) rfl) rfl ?_
    refine AA (.bool (decide (((g64 l i) >>> (32:UInt64)) ≠ (0:UInt64)))) (AJ rfl rfl fun _ => FD ((g64 l i) >>> (32:UInt64)) (0:UInt64)) rfl ?_
    refine AA _ (AG rfl) rfl ?_
    rcases Bool.eq_false_or_eq_true (decide (((g64 l i) >>> (32:UInt64)) ≠ (0:UInt64))) with hb4 | hb4
    ·
     have hp4 : ((g64 l i) >>> (32:UInt64)) ≠ (0:UInt64) := of_decide_eq_true hb4
     refine AO 4 34 false _ rfl rfl hb4 rfl ?_
     refine AO 4 34 false _ rfl rfl hb4 rfl ?_
     refine AO 4 34 false _ rfl rfl hb4 rfl ?_
     refine JL_gskipU 7 37 true rfl rfl rfl ?_
     refine JL_gskipU 7 37 true rfl rfl rfl ?_
     refine JL_gskipU 7 37 true rfl rfl rfl ?_
     refine JL_gskipU 7 37 true rfl rfl rfl ?_
     refine JL_gskipU 7 37 true rfl rfl rfl ?_
     refine JL_gskipU 7 37 true rfl rfl rfl ?_
     refine JL_gskipU 7 37 true rfl rfl rfl ?_
     refine AO 4 34 false _ rfl rfl hb4 rfl ?_
     refine AA _ (CW _ rfl hb4 rfl) rfl ?_
     refine AI (AC (D1 _ rfl rfl ?_))
     refine AF (AB (AA _ (AE rfl) rfl ?_))
     refine AI (AC (BO (CZ (A3 (A3 (CZ (A3 (BQ (.bool false) (res1 Tryd.results85 (B2 rfl)) fun w1 hw1 => ?_))))))))
     refine ⟨_, [], rfl, ⟨congrArg Value.bool (Eq.symm (decide_eq_false (fun h => ?_))), rfl⟩, hw1.sub (by simp) (by simp)⟩
     first | (have := h.1; omega) | (have := h.2.1; omega) | exact h.2.2 i (by omega) (.inl ‹_›) | exact h.2.2 i (by omega) (.inr ⟨by omega, ‹_›⟩) | exact h.2.2 i (by omega) (.inl ((shr32 _).1 ‹_›))
    ·
     have hp4 : ¬ (((g64 l i) >>> (32:UInt64)) ≠ (0:UInt64)) := of_decide_eq_false hb4
     refine BB 4 34 false _ _ rfl rfl hb4 (AG rfl) rfl ?_
     refine BB 4 34 false _ (.bool (decide ((0:Int) < ((i:Int))))) rfl rfl hb4 (AJ rfl rfl fun _ => FP _ _) rfl ?_
     refine BB 4 34 false _ _ rfl rfl hb4 (AG rfl) rfl ?_
     rcases Bool.eq_false_or_eq_true (decide ((0:Int) < ((i:Int)))) with hb5 | hb5
     ·
      have hp5 : (0:Int) < ((i:Int)) := of_decide_eq_true hb5
      refine BB 7 37 true _ _ rfl rfl hb5 (AG rfl) rfl ?_
      refine BB 7 37 true _ _ rfl rfl hb5 (AG rfl) rfl ?_
      refine BB 7 37 true _ (I64 ((i:Int) - 1)) rfl rfl hb5 (AJ rfl rfl fun _ => C5 _ _ ((i:Int) - 1) (by omega) (by omega)) rfl ?_
      refine BB 7 37 true _ (Ptr bz1 (i + oz1 - 1)) rfl rfl hb5 (CL 22 1 (i + oz1 - 1) BI BC rfl hz1 rfl (by omega) (by omega) (by omega)) rfl ?_
      refine BB 7 37 true _ (U64 (g64 l (i - 1))) rfl rfl hb5 (AL rfl (AZ BG (BW (hm1.mem (by simp)) (Seg.get (F9 (i := (i - 1)) (by rw [hl]; omega))) (by omega)))) rfl ?_
      refine BB 7 37 true _ _ rfl rfl hb5 (AG rfl) rfl ?_
      refine BB 7 37 true _ (.bool (decide ((g64 l i) ≤ (g64 l (i - 1))))) rfl rfl hb5 (AJ rfl rfl fun _ => GD (g64 l (i - 1)) (g64 l i)) rfl ?_
      refine BB 4 34 false _ _ rfl rfl hb4 (CW _ rfl hb5 rfl) rfl ?_
      refine AA _ (C0 _ rfl hb4 rfl) rfl ?_
      refine AI (AC (B5 (decide ((g64 l i) ≤ (g64 l (i - 1)))) rfl (fun hb6 => ?_) (fun hb6 => ?_)))
      ·
       have hp6 : (g64 l i) ≤ (g64 l (i - 1)) := of_decide_eq_true hb6
       refine AF (AB (AA _ (AE rfl) rfl ?_))
       refine AI (AC (BO (CZ (A3 (A3 (CZ (A3 (BQ (.bool false) (res1 Tryd.results85 (B2 rfl)) fun w1 hw1 => ?_))))))))
       refine ⟨_, [], rfl, ⟨congrArg Value.bool (Eq.symm (decide_eq_false (fun h => ?_))), rfl⟩, hw1.sub (by simp) (by simp)⟩
       first | (have := h.1; omega) | (have := h.2.1; omega) | exact h.2.2 i (by omega) (.inl ‹_›) | exact h.2.2 i (by omega) (.inr ⟨by omega, ‹_›⟩) | exact h.2.2 i (by omega) (.inl ((shr32 _).1 ‹_›))
      ·
       have hp6 : ¬ ((g64 l i) ≤ (g64 l (i - 1))) := of_decide_eq_false hb6
       refine BJ (A5 (AC (AB (AA (I64 ((i:Int) + 1)) (AJ rfl rfl fun _ => BP _ _ ((i:Int) + 1) (by omega) (by omega)) rfl ?_))))
       refine AA _ (AG rfl) rfl ?_
       refine AI (B6 (DN (i + 1) ⟨by omega, idx_step hx2 (fun hq => by rcases hq with hq | ⟨hq1, hq2⟩ <;> first | contradiction | omega | exact absurd ((shr32 _).2 hq) ‹_›)⟩ (by first | (simp; omega) | simp | (dsimp only; omega) | omega) (Sub.all rfl) rfl))
     ·
      have hp5 : ¬ ((0:Int) < ((i:Int))) := of_decide_eq_false hb5
      refine AO 7 37 true _ rfl rfl hb5 rfl ?_
      refine AO 7 37 true _ rfl rfl hb5 rfl ?_
      refine AO 7 37 true _ rfl rfl hb5 rfl ?_
      refine AO 7 37 true _ rfl rfl hb5 rfl ?_
      refine AO 7 37 true _ rfl rfl hb5 rfl ?_
      refine AO 7 37 true _ rfl rfl hb5 rfl ?_
      refine AO 7 37 true _ rfl rfl hb5 rfl ?_
      refine BB 4 34 false _ _ rfl rfl hb4 (C0 _ rfl hb5 rfl) rfl ?_
      refine AA _ (C0 _ rfl hb4 rfl) rfl ?_
      refine AI (AC (DV _ rfl rfl ?_))
      refine BJ (A5 (AC (AB (AA (I64 ((i:Int) + 1)) (AJ rfl rfl fun _ => BP _ _ ((i:Int) + 1) (by omega) (by omega)) rfl ?_))))
      refine AA _ (AG rfl) rfl ?_
      refine AI (B6 (DN (i + 1) ⟨by omega, idx_step hx2 (fun hq => by rcases hq with hq | ⟨hq1, hq2⟩ <;> first | contradiction | omega | exact absurd ((shr32 _).2 hq) ‹_›)⟩ (by first | (simp; omega) | simp | (dsimp only; omega) | omega) (Sub.all rfl) rfl))
   ·
    have hp3 : ¬ (((i:Int)) < ((ni:Int))) := of_decide_eq_false hb3
    refine DA (AQ (AQ (BV (AC (AF (AB (AA _ (AE rfl) rfl ?_)))))))
    refine AI (AC (BO (BQ (.bool true) (res1 Tryd.results85 (B2 rfl)) fun w1 hw1 => ?_)))
    have e1 : i = ni := by omega
    subst e1
    exact ⟨_, [], rfl, ⟨congrArg Value.bool (Eq.symm (decide_eq_true ⟨by omega, by omega, by rw [hl]; exact hx2⟩)), rfl⟩, hw1.sub (by simp) (by simp)⟩
theorem rpright_c (ai : Option Addr) (ni ci : Nat) (l : List UInt64)  (w : World) (hl : l.length = ni) (hnm : ni ≤ 2000000) (hnc : ni ≤ ci) (hcm : ci ≤ maxLen) (hv : RdV w ai (cu64 l))  : Calls Tryd.prog 79 #[I64 32, .slice ai ni ci] w (Post w [] (fun v L => v = .bool (decide (RightI l)) ∧ L = [])) := by
 have hmx : maxLen = 9223372036854775807 := rfl
 refine enter w [] 59 [] [I64 32, .slice ai ni ci] Tryd.func79 rfl rfl (by simp) (BR (by simp) (by simp) (by simp)) ?_
 show JC _ _ _ [(0, I64 32), (1, .slice ai ni ci)] _
 refine AF (AB (AA _ (AE rfl) rfl ?_))
 refine AI (AC (AF (AF (AB (AA _ (AG rfl) rfl ?_)))))
 refine AA (.bool (decide ((32:Int) < (0:Int)))) (AJ rfl rfl fun _ => B9 _ _) rfl ?_
 refine AA _ (AG rfl) rfl ?_
 refine BB 2 10 false _ _ rfl rfl (by decide) (AG rfl) rfl ?_
 refine BB 2 10 false _ (.bool (decide ((32:Int) < (32:Int)))) rfl rfl (by decide) (AJ rfl rfl fun _ => FP _ _) rfl ?_
 refine AA _ (C0 _ rfl (by decide) rfl) rfl ?_
 refine AA _ (AG rfl) rfl ?_
 refine BB 6 14 false _ _ rfl rfl (by decide) (AG rfl) rfl ?_
 refine BB 6 14 false _ (I64 ni) rfl rfl (by decide) (DW BI rfl) rfl ?_
 refine BB 6 14 false _ (.bool (decide (((ni:Int)) = (0:Int)))) rfl rfl (by decide) (AJ rfl rfl fun _ => D6 _ _) rfl ?_
 refine AA _ (C0 _ rfl (by decide) rfl) rfl ?_
 refine AA _ (AG rfl) rfl ?_
 rcases Bool.eq_false_or_eq_true (decide (((ni:Int)) = (0:Int))) with hb1 | hb1
 ·
  have hp1 : ((ni:Int)) = (0:Int) := of_decide_eq_true hb1
  refine AO 11 19 false _ rfl rfl hb1 rfl ?_
  refine AO 11 19 false _ rfl rfl hb1 rfl ?_
  refine AO 11 19 false _ rfl rfl hb1 rfl ?_
  refine AA _ (CW _ rfl hb1 rfl) rfl ?_
  refine AI (AC (D1 _ rfl rfl ?_))
  refine AF (AB (AA _ (AE rfl) rfl ?_))
  refine AI (AC (BO (A3 (BQ (.bool false) (res1 Tryd.results79 (B2 rfl)) fun w1 hw1 => ?_))))
  refine ⟨_, [], rfl, ⟨congrArg Value.bool (Eq.symm (decide_eq_false (fun h => ?_))), rfl⟩, hw1.sub (by simp) (by simp)⟩
  first | (have := h.1; omega) | (have := h.2.1; omega) | exact h.2.2 i (by omega) (.inl ‹_›) | exact h.2.2 i (by omega) (.inr ⟨by omega, ‹_›⟩) | exact h.2.2 i (by omega) (.inl ((shr32 _).1 ‹_›))
 ·
  have hp1 : ¬ (((ni:Int)) = (0:Int)) := of_decide_eq_false hb1
  refine BB 11 19 false _ _ rfl rfl hb1 (AG rfl) rfl ?_
  refine BB 11 19 false _ (I64 ni) rfl rfl hb1 (DW BI rfl) rfl ?_
  refine BB 11 19 false _ (.bool (decide ((256:Int) < ((ni:Int))))) rfl rfl hb1 (AJ rfl rfl fun _ => FP _ _) rfl ?_
  refine AA _ (C0 _ rfl hb1 rfl) rfl ?_
  refine AI (AC (B5 (decide ((256:Int) < ((ni:Int)))) rfl (fun hb2 => ?_) (fun hb2 => ?_)))
  ·
   have hp2 : (256:Int) < ((ni:Int)) := of_decide_eq_true hb2
   refine AF (AB (AA _ (AE rfl) rfl ?_))
   refine AI (AC (BO (A3 (BQ (.bool false) (res1 Tryd.results79 (B2 rfl)) fun w1 hw1 => ?_))))
   refine ⟨_, [], rfl, ⟨congrArg Value.bool (Eq.symm (decide_eq_false (fun h => ?_))), rfl⟩, hw1.sub (by simp) (by simp)⟩
   first | (have := h.1; omega) | (have := h.2.1; omega) | exact h.2.2 i (by omega) (.inl ‹_›) | exact h.2.2 i (by omega) (.inr ⟨by omega, ‹_›⟩) | exact h.2.2 i (by omega) (.inl ((shr32 _).1 ‹_›))
  ·
   have hp2 : ¬ ((256:Int) < ((ni:Int))) := of_decide_eq_false hb2
   refine BJ (AC (AF (AB (AA _ (AE rfl) rfl ?_))))
   refine AI (AC (AF (AF (AB (AA _ (AE rfl) rfl ?_)))))
   refine AI (AC (A9 (DI (ι := Nat × UInt64) (fun ⟨j, y⟩ => [(0, I64 32), (1, .slice ai ni ci), (4, .bool false), (6, I64 j), (5, U64 y)]) (fun ⟨j, y⟩ => []) (fun ⟨j, y⟩ => j ≤ 32 ∧ y = UInt64.ofNat (2 ^ j)) (fun ⟨j, y⟩ => 32 - j) (0, 1) ⟨by omega, rfl⟩ (Sub.all rfl) rfl ?_)))
   rintro ⟨j, y⟩ ⟨hj1, hj2⟩
   show JC _ _ _ [(0, I64 32), (1, .slice ai ni ci), (4, .bool false), (6, I64 j), (5, U64 y)] []
   refine AF (AF (AB (AA _ (AG rfl) rfl ?_)))
   refine AA _ (AG rfl) rfl ?_
   refine AA (.bool (decide (((j:Int)) < (32:Int)))) (AJ rfl rfl fun _ => B9 _ _) rfl ?_
   refine AI (AC (B5 (decide (((j:Int)) < (32:Int))) rfl (fun hb3 => ?_) (fun hb3 => ?_)))
   ·
    have hp3 : ((j:Int)) < (32:Int) := of_decide_eq_true hb3
    refine BJ (AC (AF (A9 (AB (AA _ (AG rfl) rfl ?_)))))
    refine AA (U64 (y * (2:UInt64))) (AJ rfl rfl fun _ => bin_mul_u64 y (2:UInt64)) rfl ?_
    refine AA _ (AE rfl) rfl ?_
    refine AI (A5 (AC (AB (AA _ (AG rfl) rfl ?_))))
    refine AA (I64 ((j:Int) + 1)) (AJ rfl rfl fun _ => BP _ _ ((j:Int) + 1) (by omega) (by omega)) rfl ?_
    refine AA _ (AE rfl) rfl ?_
    refine AI (B6 (DN (j + 1, y * 2) ⟨by omega, by rw [hj2]; exact pow2_step j⟩ (by first | (simp; omega) | simp | (dsimp only; omega) | omega) (Sub.all rfl) rfl))
   ·
    have hp3 : ¬ (((j:Int)) < (32:Int)) := of_decide_eq_false hb3
    refine DA (AQ (AQ (BV (AC (AF (AF ?_))))))
    have hj3 : j = 32 := by omega
    have hy : y = 4294967296 := by rw [hj2, hj3]; rfl
    subst hy
    skip
    refine AB (AA _ (AE rfl) rfl ?_)
    refine AI (AC (A9 (DI (ι := Nat) (fun i => [(1, .slice ai ni ci), (5, U64 4294967296), (7, I64 i)]) (fun i => []) (fun i => i ≤ ni ∧ ∀ k, k < i → ¬ IdxBad l k) (fun i => ni - i) 0 ⟨by omega, fun k hk => absurd hk (by omega)⟩ (Sub.all rfl) rfl ?_)))
    rintro i ⟨hx1, hx2⟩
    show JC _ _ _ [(1, .slice ai ni ci), (5, U64 4294967296), (7, I64 i)] []
    refine AF (AF (AB (AA _ (AG rfl) rfl ?_)))
    refine AA _ (AG rfl) rfl ?_
    refine AA (I64 ni) (DW BI rfl) rfl ?_
    refine AA (.bool (decide (((i:Int)) < ((ni:Int))))) (AJ rfl rfl fun _ => B9 _ _) rfl ?_
    refine AI (AC (B5 (decide (((i:Int)) < ((ni:Int)))) rfl (fun hb4 => ?_) (fun hb4 => ?_)))
    ·
     have hp4 : ((i:Int)) < ((ni:Int)) := of_decide_eq_true hb4
     refine BJ (AC (AF (A9 (AF ?_))))
     rcases Bool.eq_false_or_eq_true (decide ((4294967296:UInt64) ≤ (g64 l i))) with hb5 | hb5
     ·
      have hp5 : (4294967296:UInt64) ≤ (g64 l i) := of_decide_eq_true hb5
      obtain ⟨bz1, oz1, hz1, hm1⟩ := RdV.pos hv (by rw [FO, hl]; omega)
      refine CT 59 1 [(0, .slice ai ni ci), (1, I64 i), (2, Ptr bz1 (i + oz1)), (3, U64 (g64 l i)), (4, U64 4294967296), (5, .bool (decide ((4294967296:UInt64) ≤ (g64 l i)))), (6, .bool (decide ((4294967296:UInt64) ≤ (g64 l i)))), (7, undef), (8, undef), (9, undef), (10, undef), (11, undef), (12, undef), (13, undef), (14, undef), (15, undef), (16, undef), (17, undef), (18, undef), (19, undef), (20, undef), (21, .bool true)] BL rfl (by decide +kernel) ?_
      refine DE ⟨[], [0, 1, 2, 3, 4, 5, 6, 7, 8, 9, 10, 11, 12, 13, 14, 15, 16, 17, 18, 19, 20, 21], [], [0, 1, 2, 3, 4, 5, 6, 7, 8, 9, 10, 11, 12, 13, 14, 15, 16, 17, 18, 19, 20, 21], []⟩ rfl rfl (by decide +kernel) rfl ⟨AU rfl rfl rfl, AU rfl rfl rfl, ⟨_, rfl, AD rfl (CL 22 1 (i + oz1) BI BC rfl hz1 rfl (by omega) (by omega) (by omega))⟩, ⟨_, rfl, AD rfl (AL rfl (AZ BG (BW (hm1.mem (by simp)) (Seg.get (F9 (i := i) (by rw [hl]; omega))) (by omega))))⟩, AU rfl rfl rfl, ⟨_, rfl, AD rfl (AJ rfl rfl fun _ => GD (g64 l i) (4294967296:UInt64))⟩, AU rfl rfl rfl, ⟨_, rfl, DQ 6 43 false _ rfl rfl rfl hb5⟩, ⟨_, rfl, DQ 6 43 false _ rfl rfl rfl hb5⟩, ⟨_, rfl, DQ 6 43 false _ rfl rfl rfl hb5⟩, ⟨_, rfl, F8 9 46 true rfl rfl rfl⟩, ⟨_, rfl, F8 9 46 true rfl rfl rfl⟩, ⟨_, rfl, F8 9 46 true rfl rfl rfl⟩, ⟨_, rfl, F8 9 46 true rfl rfl rfl⟩, ⟨_, rfl, F8 9 46 true rfl rfl rfl⟩, ⟨_, rfl, F8 9 46 true rfl rfl rfl⟩, ⟨_, rfl, F8 9 46 true rfl rfl rfl⟩, ⟨_, rfl, F8 9 46 true rfl rfl rfl⟩, ⟨_, rfl, F8 9 46 true rfl rfl rfl⟩, ⟨_, rfl, F8 9 46 true rfl rfl rfl⟩, ⟨_, rfl, DQ 6 43 false _ rfl rfl rfl hb5⟩, ⟨_, rfl, AD rfl (CW _ rfl hb5 rfl)⟩, trivial⟩ ?_
      refine CC (F' := [(37, .slice ai ni ci), (38, I64 i), (39, Ptr bz1 (i + oz1)), (40, U64 (g64 l i)), (41, U64 4294967296), (42, .bool (decide ((4294967296:UInt64) ≤ (g64 l i)))), (43, .bool (decide ((4294967296:UInt64) ≤ (g64 l i)))), (44, undef), (45, undef), (46, undef), (47, undef), (48, undef), (49, undef), (50, undef), (51, undef), (52, undef), (53, undef), (54, undef), (55, undef), (56, undef), (57, undef), (58, .bool true), (1, .slice ai ni ci), (5, U64 4294967296), (7, I64 i), (31, I64 i), (32, .slice ai ni ci), (33, I64 ni), (34, .bool (decide (((i:Int)) < ((ni:Int)))))]) (by kernel_rfl) ?_
      refine AC (D1 _ rfl rfl ?_)
      refine AF (AB (AA _ (AE rfl) rfl ?_))
      refine AI (AC (BO (CZ (A3 (A3 (CZ (A3 (BQ (.bool false) (res1 Tryd.results79 (B2 rfl)) fun w1 hw1 => ?_))))))))
      refine ⟨_, [], rfl, ⟨congrArg Value.bool (Eq.symm (decide_eq_false (fun h => ?_))), rfl⟩, hw1.sub (by simp) (by simp)⟩
      first | (have := h.1; omega) | (have := h.2.1; omega) | exact h.2.2 i (by omega) (.inl ‹_›) | exact h.2.2 i (by omega) (.inr ⟨by omega, ‹_›⟩) | exact h.2.2 i (by omega) (.inl ((shr32 _).1 ‹_›))
     ·
      have hp5 : ¬ ((4294967296:UInt64) ≤ (g64 l i)) := of_decide_eq_false hb5
      rcases Bool.eq_false_or_eq_true (decide ((0:Int) < ((i:Int)))) with hb6 | hb6
      ·
       have hp6 : (0:Int) < ((i:Int)) := of_decide_eq_true hb6
       obtain ⟨bz2, oz2, hz2, hm2⟩ := RdV.pos hv (by rw [FO, hl]; omega)
       refine CT 59 1 [(0, .slice ai ni ci), (1, I64 i), (2, Ptr bz2 (i + oz2)), (3, U64 (g64 l i)), (4, U64 4294967296), (5, .bool (decide ((4294967296:UInt64) ≤ (g64 l i)))), (6, .bool (decide ((4294967296:UInt64) ≤ (g64 l i)))), (7, I64 i), (8, .bool (decide ((0:Int) < ((i:Int))))), (9, .bool (decide ((0:Int) < ((i:Int))))), (10, .slice ai ni ci), (11, I64 i), (12, Ptr bz2 (i + oz2)), (13, U64 (g64 l i)), (14, .slice ai ni ci), (15, I64 i), (16, I64 ((i:Int) - 1)), (17, Ptr bz2 (i + oz2 - 1)), (18, U64 (g64 l (i - 1))), (19, .bool (decide ((g64 l i) ≤ (g64 l (i - 1))))), (20, .bool (decide ((g64 l i) ≤ (g64 l (i - 1))))), (21, .bool (decide ((g64 l i) ≤ (g64 l (i - 1)))))] BL rfl (by decide +kernel) ?_
       refine DE ⟨[], [0, 1, 2, 3, 4, 5, 6, 7, 8, 9, 10, 11, 12, 13, 14, 15, 16, 17, 18, 19, 20, 21], [], [0, 1, 2, 3, 4, 5, 6, 7, 8, 9, 10, 11, 12, 13, 14, 15, 16, 17, 18, 19, 20, 21], []⟩ rfl rfl (by decide +kernel) rfl ⟨AU rfl rfl rfl, AU rfl rfl rfl, ⟨_, rfl, AD rfl (CL 22 1 (i + oz2) BI BC rfl hz2 rfl (by omega) (by omega) (by omega))⟩, ⟨_, rfl, AD rfl (AL rfl (AZ BG (BW (hm2.mem (by simp)) (Seg.get (F9 (i := i) (by rw [hl]; omega))) (by omega))))⟩, AU rfl rfl rfl, ⟨_, rfl, AD rfl (AJ rfl rfl fun _ => GD (g64 l i) (4294967296:UInt64))⟩, AU rfl rfl rfl, ⟨_, rfl, DD 6 43 false _ rfl rfl rfl hb5 (AG rfl)⟩, ⟨_, rfl, DD 6 43 false _ rfl rfl rfl hb5 (AJ rfl rfl fun _ => FP _ _)⟩, ⟨_, rfl, DD 6 43 false _ rfl rfl rfl hb5 (AG rfl)⟩, ⟨_, rfl, DD 9 46 true _ rfl rfl rfl hb6 (AG rfl)⟩, ⟨_, rfl, DD 9 46 true _ rfl rfl rfl hb6 (AG rfl)⟩, ⟨_, rfl, DD 9 46 true _ rfl rfl rfl hb6 (CL 22 1 (i + oz2) BI BC rfl hz2 rfl (by omega) (by omega) (by omega))⟩, ⟨_, rfl, DD 9 46 true _ rfl rfl rfl hb6 (AL rfl (AZ BG (BW (hm2.mem (by simp)) (Seg.get (F9 (i := i) (by rw [hl]; omega))) (by omega))))⟩, ⟨_, rfl, DD 9 46 true _ rfl rfl rfl hb6 (AG rfl)⟩, ⟨_, rfl, DD 9 46 true _ rfl rfl rfl hb6 (AG rfl)⟩, ⟨_, rfl, DD 9 46 true _ rfl rfl rfl hb6 (AJ rfl rfl fun _ => C5 _ _ ((i:Int) - 1) (by omega) (by omega))⟩, ⟨_, rfl, DD 9 46 true _ rfl rfl rfl hb6 (CL 22 1 (i + oz2 - 1) BI BC rfl hz2 rfl (by omega) (by omega) (by omega))⟩, ⟨_, rfl, DD 9 46 true _ rfl rfl rfl hb6 (AL rfl (AZ BG (BW (hm2.mem (by simp)) (Seg.get (F9 (i := (i - 1)) (by rw [hl]; omega))) (by omega))))⟩, ⟨_, rfl, DD 9 46 true _ rfl rfl rfl hb6 (AJ rfl rfl fun _ => bin_leq_u64 (g64 l i) (g64 l (i - 1)))⟩, ⟨_, rfl, DD 6 43 false _ rfl rfl rfl hb5 (CW _ rfl hb6 rfl)⟩, ⟨_, rfl, AD rfl (C0 _ rfl hb5 rfl)⟩, trivial⟩ ?_
       refine CC (F' := [(37, .slice ai ni ci), (38, I64 i), (39, Ptr bz2 (i + oz2)), (40, U64 (g64 l i)), (41, U64 4294967296), (42, .bool (decide ((4294967296:UInt64) ≤ (g64 l i)))), (43, .bool (decide ((4294967296:UInt64) ≤ (g64 l i)))), (44, I64 i), (45, .bool (decide ((0:Int) < ((i:Int))))), (46, .bool (decide ((0:Int) < ((i:Int))))), (47, .slice ai ni ci), (48, I64 i), (49, Ptr bz2 (i + oz2)), (50, U64 (g64 l i)), (51, .slice ai ni ci), (52, I64 i), (53, I64 ((i:Int) - 1)), (54, Ptr bz2 (i + oz2 - 1)), (55, U64 (g64 l (i - 1))), (56, .bool (decide ((g64 l i) ≤ (g64 l (i - 1))))), (57, .bool (decide ((g64 l i) ≤ (g64 l (i - 1))))), (58, .bool (decide ((g64 l i) ≤ (g64 l (i - 1))))), (1, .slice ai ni ci), (5, U64 4294967296), (7, I64 i), (31, I64 i), (32, .slice ai ni ci), (33, I64 ni), (34, .bool (decide (((i:Int)) < ((ni:Int)))))]) (by kernel_rfl) ?_
       refine AC (B5 (decide ((g64 l i) ≤ (g64 l (i - 1)))) rfl (fun hb7 => ?_) (fun hb7 => ?_))
       ·
        have hp7 : (g64 l i) ≤ (g64 l (i - 1)) := of_decide_eq_true hb7
        refine AF (AB (AA _ (AE rfl) rfl ?_))
        refine AI (AC (BO (CZ (A3 (A3 (CZ (A3 (BQ (.bool false) (res1 Tryd.results79 (B2 rfl)) fun w1 hw1 => ?_))))))))
        refine ⟨_, [], rfl, ⟨congrArg Value.bool (Eq.symm (decide_eq_false (fun h => ?_))), rfl⟩, hw1.sub (by simp) (by simp)⟩
        first | (have := h.1; omega) | (have := h.2.1; omega) | exact h.2.2 i (by omega) (.inl ‹_›) | exact h.2.2 i (by omega) (.inr ⟨by omega, ‹_›⟩) | exact h.2.2 i (by omega) (.inl ((shr32 _).1 ‹_›))
       ·
        have hp7 : ¬ ((g64 l i) ≤ (g64 l (i - 1))) := of_decide_eq_false hb7
        refine BJ (A5 (AC (AB (AA _ (AG rfl) rfl ?_))))
        refine AA (I64 ((i:Int) + 1)) (AJ rfl rfl fun _ => BP _ _ ((i:Int) + 1) (by omega) (by omega)) rfl ?_
        refine AA _ (AE rfl) rfl ?_
        refine AI (B6 (DN (i + 1) ⟨by omega, idx_step hx2 (fun hq => by rcases hq with hq | ⟨hq1, hq2⟩ <;> first | contradiction | omega | exact absurd ((shr32 _).2 hq) ‹_›)⟩ (by first | (simp; omega) | simp | (dsimp only; omega) | omega) (Sub.all rfl) rfl))
      ·
       have hp6 : ¬ ((0:Int) < ((i:Int))) := of_decide_eq_false hb6
       obtain ⟨bz3, oz3, hz3, hm3⟩ := RdV.pos hv (by rw [FO, hl]; omega)
       refine CT 59 1 [(0, .slice ai ni ci), (1, I64 i), (2, Ptr bz3 (i + oz3)), (3, U64 (g64 l i)), (4, U64 4294967296), (5, .bool (decide ((4294967296:UInt64) ≤ (g64 l i)))), (6, .bool (decide ((4294967296:UInt64) ≤ (g64 l i)))), (7, I64 i), (8, .bool (decide ((0:Int) < ((i:Int))))), (9, .bool (decide ((0:Int) < ((i:Int))))), (10, undef), (11, undef), (12, undef), (13, undef), (14, undef), (15, undef), (16, undef), (17, undef), (18, undef), (19, undef), (20, .bool false), (21, .bool false)] BL rfl (by decide +kernel) ?_
       refine DE ⟨[], [0, 1, 2, 3, 4, 5, 6, 7, 8, 9, 10, 11, 12, 13, 14, 15, 16, 17, 18, 19, 20, 21], [], [0, 1, 2, 3, 4, 5, 6, 7, 8, 9, 10, 11, 12, 13, 14, 15, 16, 17, 18, 19, 20, 21], []⟩ rfl rfl (by decide +kernel) rfl ⟨AU rfl rfl rfl, AU rfl rfl rfl, ⟨_, rfl, AD rfl (CL 22 1 (i + oz3) BI BC rfl hz3 rfl (by omega) (by omega) (by omega))⟩, ⟨_, rfl, AD rfl (AL rfl (AZ BG (BW (hm3.mem (by simp)) (Seg.get (F9 (i := i) (by rw [hl]; omega))) (by omega))))⟩, AU rfl rfl rfl, ⟨_, rfl, AD rfl (AJ rfl rfl fun _ => GD (g64 l i) (4294967296:UInt64))⟩, AU rfl rfl rfl, ⟨_, rfl, DD 6 43 false _ rfl rfl rfl hb5 (AG rfl)⟩, ⟨_, rfl, DD 6 43 false _ rfl rfl rfl hb5 (AJ rfl rfl fun _ => FP _ _)⟩, ⟨_, rfl, DD 6 43 false _ rfl rfl rfl hb5 (AG rfl)⟩, ⟨_, rfl, DQ 9 46 true _ rfl rfl rfl hb6⟩, ⟨_, rfl, DQ 9 46 true _ rfl rfl rfl hb6⟩, ⟨_, rfl, DQ 9 46 true _ rfl rfl rfl hb6⟩, ⟨_, rfl, DQ 9 46 true _ rfl rfl rfl hb6⟩, ⟨_, rfl, DQ 9 46 true _ rfl rfl rfl hb6⟩, ⟨_, rfl, DQ 9 46 true _ rfl rfl rfl hb6⟩, ⟨_, rfl, DQ 9 46 true _ rfl rfl rfl hb6⟩, ⟨_, rfl, DQ 9 46 true _ rfl rfl rfl hb6⟩, ⟨_, rfl, DQ 9 46 true _ rfl rfl rfl hb6⟩, ⟨_, rfl, DQ 9 46 true _ rfl rfl rfl hb6⟩, ⟨_, rfl, DD 6 43 false _ rfl rfl rfl hb5 (C0 _ rfl hb6 rfl)⟩, ⟨_, rfl, AD rfl (C0 _ rfl hb5 rfl)⟩, trivial⟩ ?_
       refine CC (F' := [(37, .slice ai ni ci), (38, I64 i), (39, Ptr bz3 (i + oz3)), (40, U64 (g64 l i)), (41, U64 4294967296), (42, .bool (decide ((4294967296:UInt64) ≤ (g64 l i)))), (43, .bool (decide ((4294967296:UInt64) ≤ (g64 l i)))), (44, I64 i), (45, .bool (decide ((0:Int) < ((i:Int))))), (46, .bool (decide ((0:Int) < ((i:Int))))), (47, undef), (48, undef), (49, undef), (50, undef), (51, undef), (52, undef), (53, undef), (54, undef), (55, undef), (56, undef), (57, .bool false), (58, .bool false), (1, .slice ai ni ci), (5, U64 4294967296), (7, I64 i), (31, I64 i), (32, .slice ai ni ci), (33, I64 ni), (34, .bool (decide (((i:Int)) < ((ni:Int)))))]) (by kernel_rfl) ?_
       refine AC (DV _ rfl rfl ?_)
       refine BJ (A5 (AC (AB (AA _ (AG rfl) rfl ?_))))
       refine AA (I64 ((i:Int) + 1)) (AJ rfl rfl fun _ => BP _ _ ((i:Int) + 1) (by omega) (by omega)) rfl ?_
       refine AA _ (AE rfl) rfl ?_
       refine AI (B6 (DN (i + 1) ⟨by omega, idx_step hx2 (fun hq => by rcases hq with hq | ⟨hq1, hq2⟩ <;> first | contradiction | omega | exact absurd ((shr32 _).2 hq) ‹_›)⟩ (by first | (simp; omega) | simp | (dsimp only; omega) | omega) (Sub.all rfl) rfl))
    ·
     have hp4 : ¬ (((i:Int)) < ((ni:Int))) := of_decide_eq_false hb4
     refine DA (AQ (AQ (BV (AC (AF (AB (AA _ (AE rfl) rfl ?_)))))))
     refine AI (AC (BO (BQ (.bool true) (res1 Tryd.results79 (B2 rfl)) fun w1 hw1 => ?_)))
     have e1 : i = ni := by omega
     subst e1
     exact ⟨_, [], rfl, ⟨congrArg Value.bool (Eq.symm (decide_eq_true ⟨by omega, by omega, by rw [hl]; exact hx2⟩)), rfl⟩, hw1.sub (by simp) (by simp)⟩
attribute [local irreducible] RightB
theorem right_c (i e : UInt64) (w : World) : Calls Tryd.prog 133 #[U64 i, U64 e] w (Post w [] (fun v L => v = .bool (RightB i e) ∧ L = [])) := by
 refine enter w [] 15 [] [U64 i, U64 e] Tryd.func133 rfl rfl (by simp) (BR (by simp) (by simp) (by simp)) ?_
 show JC _ _ _ [(0, U64 i), (1, U64 e)] _
 refine AF (AB (AA _ (AE rfl) rfl ?_))
 refine AI (AC (AF (AB (AA _ (AG rfl) rfl ?_))))
 refine AA (.bool (decide (i < (4294967296:UInt64)))) (AJ rfl rfl fun _ => bin_lss_u64 i (4294967296:UInt64)) rfl ?_
 refine AA _ (AG rfl) rfl ?_
 rcases Bool.eq_false_or_eq_true (decide (i < (4294967296:UInt64))) with hb1 | hb1
 ·
  have hp1 : i < (4294967296:UInt64) := of_decide_eq_true hb1
  refine BB 2 7 true _ _ rfl rfl hb1 (AG rfl) rfl ?_
  refine BB 2 7 true _ (.bool (decide ((1:UInt64) ≤ e))) rfl rfl hb1 (AJ rfl rfl fun _ => GD e (1:UInt64)) rfl ?_
  refine AA _ (CW _ rfl hb1 rfl) rfl ?_
  refine AA _ (AG rfl) rfl ?_
  rcases Bool.eq_false_or_eq_true (decide ((1:UInt64) ≤ e)) with hb2 | hb2
  ·
   have hp2 : (1:UInt64) ≤ e := of_decide_eq_true hb2
   refine BB 6 11 true _ _ rfl rfl hb2 (AG rfl) rfl ?_
   refine BB 6 11 true _ (.bool (decide (e < (18446744073709551615:UInt64)))) rfl rfl hb2 (AJ rfl rfl fun _ => bin_lss_u64 e (18446744073709551615:UInt64)) rfl ?_
   refine AA _ (CW _ rfl hb2 rfl) rfl ?_
   refine AA _ (AE rfl) rfl ?_
   refine AI (AC (BO (BQ (.bool (decide (e < (18446744073709551615:UInt64)))) (res1 Tryd.results133 (B2 rfl)) fun w1 hw1 => ?_)))
   refine ⟨_, [], rfl, ⟨congrArg Value.bool ?_, rfl⟩, hw1.sub (by simp) (by simp)⟩
   unfold RightB
   simp [*]
  ·
   have hp2 : ¬ ((1:UInt64) ≤ e) := of_decide_eq_false hb2
   refine AO 6 11 true _ rfl rfl hb2 rfl ?_
   refine AO 6 11 true _ rfl rfl hb2 rfl ?_
   refine AA _ (C0 _ rfl hb2 rfl) rfl ?_
   refine AA _ (AE rfl) rfl ?_
   refine AI (AC (BO (BQ (.bool false) (res1 Tryd.results133 (B2 rfl)) fun w1 hw1 => ?_)))
   refine ⟨_, [], rfl, ⟨congrArg Value.bool ?_, rfl⟩, hw1.sub (by simp) (by simp)⟩
   unfold RightB
   simp [*]
 ·
  have hp1 : ¬ (i < (4294967296:UInt64)) := of_decide_eq_false hb1
  refine AO 2 7 true _ rfl rfl hb1 rfl ?_
  refine AO 2 7 true _ rfl rfl hb1 rfl ?_
  refine AA _ (C0 _ rfl hb1 rfl) rfl ?_
  refine AA _ (AG rfl) rfl ?_
  refine AO 6 11 true _ rfl rfl rfl rfl ?_
  refine AO 6 11 true _ rfl rfl rfl rfl ?_
  refine AA _ (C0 _ rfl rfl rfl) rfl ?_
  refine AA _ (AE rfl) rfl ?_
  refine AI (AC (BO (BQ (.bool false) (res1 Tryd.results133 (B2 rfl)) fun w1 hw1 => ?_)))
  refine ⟨_, [], rfl, ⟨congrArg Value.bool ?_, rfl⟩, hw1.sub (by simp) (by simp)⟩
  unfold RightB
  simp [*]
theorem rright_c (i e : UInt64) (w : World) : Calls Tryd.prog 111 #[U64 i, U64 e] w (Post w [] (fun v L => v = .bool (RightB i e) ∧ L = [])) := by
 refine enter w [] 15 [] [U64 i, U64 e] Tryd.func111 rfl rfl (by simp) (BR (by simp) (by simp) (by simp)) ?_
 show JC _ _ _ [(0, U64 i), (1, U64 e)] _
 refine AF (AB (AA _ (AE rfl) rfl ?_))
 refine AI (AC (AF (AB (AA _ (AG rfl) rfl ?_))))
 refine AA (.bool (decide (i ≤ (4294967295:UInt64)))) (AJ rfl rfl fun _ => bin_leq_u64 i (4294967295:UInt64)) rfl ?_
 refine AA _ (AG rfl) rfl ?_
 rcases Bool.eq_false_or_eq_true (decide (i ≤ (4294967295:UInt64))) with hb1 | hb1
 ·
  have hp1 : i ≤ (4294967295:UInt64) := of_decide_eq_true hb1
  refine BB 2 7 true _ _ rfl rfl hb1 (AG rfl) rfl ?_
  refine BB 2 7 true _ (.bool (decide (e ≠ (0:UInt64)))) rfl rfl hb1 (AJ rfl rfl fun _ => FD e (0:UInt64)) rfl ?_
  refine AA _ (CW _ rfl hb1 rfl) rfl ?_
  refine AA _ (AG rfl) rfl ?_
  rcases Bool.eq_false_or_eq_true (decide (e ≠ (0:UInt64))) with hb2 | hb2
  ·
   have hp2 : e ≠ (0:UInt64) := of_decide_eq_true hb2
   refine BB 6 11 true _ _ rfl rfl hb2 (AG rfl) rfl ?_
   refine BB 6 11 true _ (.bool (decide (e ≠ (18446744073709551615:UInt64)))) rfl rfl hb2 (AJ rfl rfl fun _ => FD e (18446744073709551615:UInt64)) rfl ?_
   refine AA _ (CW _ rfl hb2 rfl) rfl ?_
   refine AA _ (AE rfl) rfl ?_
   refine AI (AC (BO (BQ (.bool (decide (e ≠ (18446744073709551615:UInt64)))) (res1 Tryd.results111 (B2 rfl)) fun w1 hw1 => ?_)))
   refine ⟨_, [], rfl, ⟨congrArg Value.bool ?_, rfl⟩, hw1.sub (by simp) (by simp)⟩
   rw [RightB_ref]
   simp [*]
  ·
   have hp2 : ¬ (e ≠ (0:UInt64)) := of_decide_eq_false hb2
   refine AO 6 11 true _ rfl rfl hb2 rfl ?_
   refine AO 6 11 true _ rfl rfl hb2 rfl ?_
   refine AA _ (C0 _ rfl hb2 rfl) rfl ?_
   refine AA _ (AE rfl) rfl ?_
   refine AI (AC (BO (BQ (.bool false) (res1 Tryd.results111 (B2 rfl)) fun w1 hw1 => ?_)))
   refine ⟨_, [], rfl, ⟨congrArg Value.bool ?_, rfl⟩, hw1.sub (by simp) (by simp)⟩
   rw [RightB_ref]
   simp [*]
 ·
  have hp1 : ¬ (i ≤ (4294967295:UInt64)) := of_decide_eq_false hb1
  refine AO 2 7 true _ rfl rfl hb1 rfl ?_
  refine AO 2 7 true _ rfl rfl hb1 rfl ?_
  refine AA _ (C0 _ rfl hb1 rfl) rfl ?_
  refine AA _ (AG rfl) rfl ?_
  refine AO 6 11 true _ rfl rfl rfl rfl ?_
  refine AO 6 11 true _ rfl rfl rfl rfl ?_
  refine AA _ (C0 _ rfl rfl rfl) rfl ?_
  refine AA _ (AE rfl) rfl ?_
  refine AI (AC (BO (BQ (.bool false) (res1 Tryd.results111 (B2 rfl)) fun w1 hw1 => ?_)))
  refine ⟨_, [], rfl, ⟨congrArg Value.bool ?_, rfl⟩, hw1.sub (by simp) (by simp)⟩
  rw [RightB_ref]
  simp [*]
theorem odd_c (ob : Nat) (kd : Int) (ai : Option Addr) (ni ci : Nat) (l : List UInt64) (sa : Option Addr) (ns sc : Nat) (ls : List SealR) (bl : UInt64) (e : UInt64) (d t : List UInt8)  (w : World) (hd : d.length = 32) (ht : t.length = 16) (hpos : 0 < ns) (hls : ls.length = ns) (hnn : ns ≤ 2000000) (hnd : ns ≤ sc) (hcn : sc ≤ maxLen) (hs : RdV w sa (ls.flatMap sealC)) (hO : RdA w ob 0 [I64 (kd), .slice ai ni ci, .slice sa ns sc, U64 bl])  : Calls Tryd.prog 132 #[.agg ([U64 e] ++ cu8 d ++ cu8 t).toArray, Ptr ob 0] w (Post w [] (fun v L => v = .bool (oddB (headE ls) e) ∧ L = [])) := by
 have hmx : maxLen = 9223372036854775807 := rfl
 refine enter (P := Tryd.prog) (f := 132) (fn := Tryd.f132) w [] 18 [] [.agg ([U64 e] ++ cu8 d ++ cu8 t).toArray, Ptr ob 0] Tryd.func132 rfl rfl (by simp) (BR (by simp) (by simp) (by simp)) ?_
 show JC _ _ _ [(0, .agg ([U64 e] ++ cu8 d ++ cu8 t).toArray), (1, Ptr ob 0)] _
 refine AF (AB (AV (CG (.agg ([U64 e] ++ cu8 d ++ cu8 t).toArray) ([U64 e] ++ cu8 d ++ cu8 t) rfl (by first | rfl | simp)) rfl ?_))
 rintro v1 L1 ⟨nb1, hnb1, rfl, rfl⟩
 show JL _ _ _ _ ((2, Ptr nb1 0) :: _) [⟨nb1, [U64 e] ++ cu8 d ++ cu8 t, 161, (0, 0)⟩]
 refine AA _ (AE rfl) rfl ?_
 refine AI (AC (AF ?_))
 rcases Bool.eq_false_or_eq_true (RightB (0:UInt64) e) with hb1 | hb1
 ·
  refine CT 18 2 [(0, Ptr nb1 0), (1, U64 e)] BL rfl (by decide +kernel) ?_
  refine CU ⟨[], [0, 1], [], [0, 1], [2]⟩ 2 _ rfl rfl (by decide +kernel) rfl ⟨⟨_, rfl, AD rfl (AH 0 22 1 DZ rfl BC rfl rfl)⟩, ⟨_, rfl, AD rfl (AL rfl (AZ BG (AR 0 rfl (BE (BE (Seg.head))))))⟩, trivial⟩ rfl (AW rfl (AY 133 [U64 0, U64 e] (.bool (RightB (0:UInt64) e)) (A4 _ Tryd.call133 rfl) (fun w1 hw1 => right_c (0:UInt64) e w1 ))) ?_
  rintro v1 L1 ⟨rfl, rfl⟩
  obtain ⟨x1, hx1⟩ : ∃ x, ls[0]? = some x := ⟨_, List.getElem?_eq_getElem (by rw [hls]; omega)⟩
  obtain ⟨bz1, oz1, hz1, hm1⟩ := rows_at F5 (by decide) hs hx1
  refine ⟨[(3, .bool (!(RightB (0:UInt64) e))), (4, .bool (!(RightB (0:UInt64) e))), (5, Ptr nb1 0), (6, U64 e), (7, Ptr ob 2), (8, .slice sa ns sc), (9, Ptr bz1 oz1), (10, Ptr bz1 oz1), (11, U64 x1.e), (12, .bool (decide (e ≠ x1.e))), (13, .bool (decide (e ≠ x1.e))), (14, .bool (decide (e ≠ x1.e)))], ?_⟩
  show DP _ _ _ _ _ _ _ _ [_]
  refine DE ⟨[2], [0, 1, 3, 4, 5, 6, 7, 8, 9, 10, 11, 12, 13, 14], [0, 1], [3, 4, 5, 6, 7, 8, 9, 10, 11, 12, 13, 14], []⟩ rfl rfl (by decide +kernel) rfl ⟨⟨_, rfl, AD rfl (FV rfl)⟩, AU rfl rfl rfl, ⟨_, rfl, DD 4 8 false _ rfl rfl rfl (by rw [show (RightB (0:UInt64) e) = true from hb1] <;> rfl) (AH 0 22 1 DZ rfl BC rfl rfl)⟩, ⟨_, rfl, DD 4 8 false _ rfl rfl rfl (by rw [show (RightB (0:UInt64) e) = true from hb1] <;> rfl) (AL rfl (AZ BG (AR 0 rfl (BE (BE (Seg.head))))))⟩, ⟨_, rfl, DD 4 8 false _ rfl rfl rfl (by rw [show (RightB (0:UInt64) e) = true from hb1] <;> rfl) (AH 2 24 1 A2 rfl DS rfl rfl)⟩, ⟨_, rfl, DD 4 8 false _ rfl rfl rfl (by rw [show (RightB (0:UInt64) e) = true from hb1] <;> rfl) (AL rfl (AZ ER (BW (hO.mem (by simp)) (AS (AS (Seg.head))) (by omega))))⟩, ⟨_, rfl, DD 4 8 false _ rfl rfl rfl (by rw [show (RightB (0:UInt64) e) = true from hb1] <;> rfl) (CL 161 49 oz1 CQ CE rfl hz1 rfl (by omega) (by omega) (by omega))⟩, ⟨_, rfl, DD 4 8 false _ rfl rfl rfl (by rw [show (RightB (0:UInt64) e) = true from hb1] <;> rfl) (AH 0 22 1 DZ rfl BC rfl rfl)⟩, ⟨_, rfl, DD 4 8 false _ rfl rfl rfl (by rw [show (RightB (0:UInt64) e) = true from hb1] <;> rfl) (AL rfl (AZ BG (BW (hm1.mem (by simp)) (BE (BE (Seg.head))) (by omega))))⟩, ⟨_, rfl, DD 4 8 false _ rfl rfl rfl (by rw [show (RightB (0:UInt64) e) = true from hb1] <;> rfl) (AJ rfl rfl fun _ => FD e x1.e)⟩, ⟨_, rfl, AD rfl (C0 _ rfl (by rw [show (RightB (0:UInt64) e) = true from hb1] <;> rfl) rfl)⟩, ⟨_, rfl, AD rfl (AE rfl)⟩, trivial⟩ ?_
  refine CC (F' := [(3, .bool (decide (e ≠ x1.e)))]) (by kernel_rfl) ?_
  refine AC (BO (BQ (.bool (decide (e ≠ x1.e))) (res1 Tryd.results132 (B2 rfl)) fun w1 hw1 => ?_))
  refine ⟨_, [], rfl, ⟨congrArg Value.bool ?_, rfl⟩, hw1.sub (by simp) (by simp)⟩
  first | (simp [oddB, *]; done) | (rw [headE_of hx1]; simp [oddB, *]; done)
 ·
  refine CT 18 2 [(0, Ptr nb1 0), (1, U64 e)] BL rfl (by decide +kernel) ?_
  refine CU ⟨[], [0, 1], [], [0, 1], [2]⟩ 2 _ rfl rfl (by decide +kernel) rfl ⟨⟨_, rfl, AD rfl (AH 0 22 1 DZ rfl BC rfl rfl)⟩, ⟨_, rfl, AD rfl (AL rfl (AZ BG (AR 0 rfl (BE (BE (Seg.head))))))⟩, trivial⟩ rfl (AW rfl (AY 133 [U64 0, U64 e] (.bool (RightB (0:UInt64) e)) (A4 _ Tryd.call133 rfl) (fun w1 hw1 => right_c (0:UInt64) e w1 ))) ?_
  rintro v1 L1 ⟨rfl, rfl⟩
  refine ⟨[(3, .bool (!(RightB (0:UInt64) e))), (4, .bool (!(RightB (0:UInt64) e))), (5, undef), (6, undef), (7, undef), (8, undef), (9, undef), (10, undef), (11, undef), (12, undef), (13, .bool true), (14, .bool true)], ?_⟩
  show DP _ _ _ _ _ _ _ _ [_]
  refine DE ⟨[2], [0, 1, 3, 4, 5, 6, 7, 8, 9, 10, 11, 12, 13, 14], [0, 1], [3, 4, 5, 6, 7, 8, 9, 10, 11, 12, 13, 14], []⟩ rfl rfl (by decide +kernel) rfl ⟨⟨_, rfl, AD rfl (FV rfl)⟩, AU rfl rfl rfl, ⟨_, rfl, DQ 4 8 false _ rfl rfl rfl (by rw [show (RightB (0:UInt64) e) = false from hb1] <;> rfl)⟩, ⟨_, rfl, DQ 4 8 false _ rfl rfl rfl (by rw [show (RightB (0:UInt64) e) = false from hb1] <;> rfl)⟩, ⟨_, rfl, DQ 4 8 false _ rfl rfl rfl (by rw [show (RightB (0:UInt64) e) = false from hb1] <;> rfl)⟩, ⟨_, rfl, DQ 4 8 false _ rfl rfl rfl (by rw [show (RightB (0:UInt64) e) = false from hb1] <;> rfl)⟩, ⟨_, rfl, DQ 4 8 false _ rfl rfl rfl (by rw [show (RightB (0:UInt64) e) = false from hb1] <;> rfl)⟩, ⟨_, rfl, DQ 4 8 false _ rfl rfl rfl (by rw [show (RightB (0:UInt64) e) = false from hb1] <;> rfl)⟩, ⟨_, rfl, DQ 4 8 false _ rfl rfl rfl (by rw [show (RightB (0:UInt64) e) = false from hb1] <;> rfl)⟩, ⟨_, rfl, DQ 4 8 false _ rfl rfl rfl (by rw [show (RightB (0:UInt64) e) = false from hb1] <;> rfl)⟩, ⟨_, rfl, AD rfl (CW _ rfl (by rw [show (RightB (0:UInt64) e) = false from hb1] <;> rfl) rfl)⟩, ⟨_, rfl, AD rfl (AE rfl)⟩, trivial⟩ ?_
  refine CC (F' := [(3, .bool true)]) (by kernel_rfl) ?_
  refine AC (BO (BQ (.bool true) (res1 Tryd.results132 (B2 rfl)) fun w1 hw1 => ?_))
  refine ⟨_, [], rfl, ⟨congrArg Value.bool ?_, rfl⟩, hw1.sub (by simp) (by simp)⟩
  first | (simp [oddB, *]; done) | (rw [headE_of hx1]; simp [oddB, *]; done)
theorem ixOdd_c (ob : Nat) (kd : Int) (ai : Option Addr) (ni ci : Nat) (l : List UInt64) (sa : Option Addr) (ns sc : Nat) (ls : List SealR) (bl : UInt64)  (w : World) (hls : ls.length = ns) (hnn : ns ≤ 2000000) (hnd : ns ≤ sc) (hcn : sc ≤ maxLen) (hs : RdV w sa (ls.flatMap sealC)) (hO : RdA w ob 0 [I64 (kd), .slice ai ni ci, .slice sa ns sc, U64 bl])  : Calls Tryd.prog 158 #[.slice sa ns sc, .func (.func 132) #[] #[Ptr ob 0]] w (Post w [] (fun v L => v = I64 (findIx (fun x => oddB (headE ls) (SealR.e x)) ls) ∧ L = [])) := by
 have hmx : maxLen = 9223372036854775807 := rfl
 refine enter w [] 19 [] [.slice sa ns sc, .func (.func 132) #[] #[Ptr ob 0]] Tryd.func158 rfl rfl (by simp) (BR (by simp) (by simp) (by simp)) ?_
 show JC _ _ _ [(0, .slice sa ns sc), (1, .func (.func 132) #[] #[Ptr ob 0])] _
 refine AF (AB (AA _ (AE rfl) rfl ?_))
 refine AI (AC (AF (AF (AB (AA _ (AG rfl) rfl ?_)))))
 refine AA (I64 ns) (DW CQ rfl) rfl ?_
 refine AA _ (AG rfl) rfl ?_
 refine AI (AC (A9 (DI (ι := Nat) (fun i => [(0, .slice sa ns sc), (1, .func (.func 132) #[] #[Ptr ob 0]), (7, I64 ns), (8, I64 i)]) (fun i => []) (fun i => i ≤ ns ∧ ∀ k, k < i → ∀ y, ls[k]? = some y → (fun x => oddB (headE ls) (SealR.e x)) y = false) (fun i => ns - i) 0 ⟨by omega, fun k hk => absurd hk (by omega)⟩ (Sub.all rfl) rfl ?_)))
 rintro i ⟨hi1, hi2⟩
 show JC _ _ _ [(0, .slice sa ns sc), (1, .func (.func 132) #[] #[Ptr ob 0]), (7, I64 ns), (8, I64 i)] []
 refine AF (AB (AA (.bool (decide (((i:Int)) < ((ns:Int))))) (AJ rfl rfl fun _ => B9 _ _) rfl ?_))
 refine AI (AC (AF (B5 (decide (((i:Int)) < ((ns:Int)))) rfl (fun hb1 => ?_) (fun hb1 => ?_))))
 ·
  have hp1 : ((i:Int)) < ((ns:Int)) := of_decide_eq_true hb1
  refine BJ (AC (AF (A9 (AF (AB (AA _ (AG rfl) rfl ?_))))))
  refine AA _ (AE rfl) rfl ?_
  refine AI (AC (AF (AB (AA _ (AG rfl) rfl ?_))))
  refine AA _ (AG rfl) rfl ?_
  refine AA _ (AG rfl) rfl ?_
  obtain ⟨x1, hx1⟩ : ∃ x, ls[i]? = some x := ⟨_, List.getElem?_eq_getElem (by rw [hls]; omega)⟩
  obtain ⟨bz1, oz1, hz1, hm1⟩ := rows_at F5 (by decide) hs hx1
  refine AA (Ptr bz1 (49*i + oz1)) (CL 161 49 (49*i + oz1) CQ CE rfl hz1 rfl (by omega) (by omega) (by omega)) rfl ?_
  refine AA (.agg ([U64 x1.e] ++ cu8 x1.d ++ cu8 x1.t).toArray) (AL rfl (BH EY CE (by simp [x1.hd, x1.ht]) (BW (hm1.mem (by simp)) (AN _) (by omega)))) rfl ?_
  refine A0 (AY 132 [.agg ([U64 x1.e] ++ cu8 x1.d ++ cu8 x1.t).toArray, Ptr ob 0] (.bool (oddB (headE ls) x1.e)) (Cl_clo [.agg ([U64 x1.e] ++ cu8 x1.d ++ cu8 x1.t).toArray] [Ptr ob 0] Tryd.call132 rfl rfl) (fun w1 hw1 => odd_c ob kd ai ni ci l sa ns sc ls bl x1.e x1.d x1.t w1 x1.hd x1.ht (by omega) hls hnn hnd hcn (FT hw1 rfl hs) (RdA_at hw1 hO (by simp) (by simp)))) rfl ?_
  show JL _ _ _ _ ((16, .bool (oddB (headE ls) x1.e)) :: _) []
  refine AI (AC (B5 (oddB (headE ls) x1.e) rfl (fun hb2 => ?_) (fun hb2 => ?_)))
  ·
   refine AF (AB (AA _ (AG rfl) rfl ?_))
   refine AA _ (AE rfl) rfl ?_
   refine AI (AC (BO (CZ (A3 (A3 (CZ (A3 (BQ (I64 i) (res1 Tryd.results158 (B2 rfl)) fun w1 hw1 => ?_))))))))
   have e1 : findIx (fun x => oddB (headE ls) (SealR.e x)) ls = i := findIx_at hx1 (by assumption) hi2
   exact ⟨_, [], rfl, ⟨by rw [e1], rfl⟩, hw1.sub (by simp) (by simp)⟩
  ·
   refine BJ (A5 (AC (AB (AA (I64 ((i:Int) + 1)) (AJ rfl rfl fun _ => BP _ _ ((i:Int) + 1) (by omega) (by omega)) rfl ?_))))
   refine AA _ (AG rfl) rfl ?_
   refine AI (B6 (DN (i + 1) ⟨by omega, find_step hx1 (by assumption) hi2⟩ (by first | (simp; omega) | simp | (dsimp only; omega) | omega) (Sub.all rfl) rfl))
 ·
  have hp1 : ¬ (((i:Int)) < ((ns:Int))) := of_decide_eq_false hb1
  refine DA (AQ (AQ (BV (AC (AF (AB (AA _ (AE rfl) rfl ?_)))))))
  refine AI (AC (BO (BQ (I64 (-1:Int)) (res1 Tryd.results158 (B2 rfl)) fun w1 hw1 => ?_)))
  have e1 : findIx (fun x => oddB (headE ls) (SealR.e x)) ls = -1 := findIx_no (by rw [hls]; intro k hk; exact hi2 k (by omega))
  exact ⟨_, [], rfl, ⟨by rw [e1], rfl⟩, hw1.sub (by simp) (by simp)⟩
theorem cfOdd_c (ob : Nat) (kd : Int) (ai : Option Addr) (ni ci : Nat) (l : List UInt64) (sa : Option Addr) (ns sc : Nat) (ls : List SealR) (bl : UInt64)  (w : World) (hls : ls.length = ns) (hnn : ns ≤ 2000000) (hnd : ns ≤ sc) (hcn : sc ≤ maxLen) (hs : RdV w sa (ls.flatMap sealC)) (hO : RdA w ob 0 [I64 (kd), .slice ai ni ci, .slice sa ns sc, U64 bl])  : Calls Tryd.prog 134 #[.slice sa ns sc, .func (.func 132) #[] #[Ptr ob 0]] w (Post w [] (fun v L => v = .bool (ls.any (fun x => oddB (headE ls) (SealR.e x))) ∧ L = [])) := by
 refine enter w [] 9 [] [.slice sa ns sc, .func (.func 132) #[] #[Ptr ob 0]] Tryd.func134 rfl rfl (by simp) (BR (by simp) (by simp) (by simp)) ?_
 show JC _ _ _ [(0, .slice sa ns sc), (1, .func (.func 132) #[] #[Ptr ob 0])] _
 refine AF (AB (AA _ (AE rfl) rfl ?_))
 refine AI (AC (AF (AB (AA _ (AG rfl) rfl ?_))))
 refine AA _ (AG rfl) rfl ?_
 refine A0 (AY 158 [.slice sa ns sc, .func (.func 132) #[] #[Ptr ob 0]] (I64 ((findIx (fun x => oddB (headE ls) (SealR.e x)) ls))) (A4 _ Tryd.call158 rfl) (fun w1 hw1 => ixOdd_c ob kd ai ni ci l sa ns sc ls bl w1 hls hnn hnd hcn (FT hw1 rfl hs) (RdA_at hw1 hO (by simp) (by simp)))) rfl ?_
 show JL _ _ _ _ ((7, I64 ((findIx (fun x => oddB (headE ls) (SealR.e x)) ls))) :: _) []
 refine AA (.bool (decide ((0:Int) ≤ ((findIx (fun x => oddB (headE ls) (SealR.e x)) ls))))) (AJ rfl rfl fun _ => FY _ _) rfl ?_
 refine AA _ (AE rfl) rfl ?_
 refine AI (AC (BO (BQ (.bool (decide ((0:Int) ≤ ((findIx (fun x => oddB (headE ls) (SealR.e x)) ls))))) (res1 Tryd.results134 (B2 rfl)) fun w1 hw1 => ?_)))
 exact ⟨_, [], rfl, ⟨congrArg Value.bool (findIx_ge _ _), rfl⟩, hw1.sub (by simp) (by simp)⟩
attribute [local irreducible] oddB
theorem right13_c (kd : Int) (ai : Option Addr) (ni ci : Nat) (l : List UInt64) (sa : Option Addr) (ns sc : Nat) (ls : List SealR) (bl : UInt64)  (w : World) (hl : l.length = ni) (hnm : ni ≤ 2000000) (hnc : ni ≤ ci) (hcm : ci ≤ maxLen) (hv : RdV w ai (cu64 l)) (hls : ls.length = ns) (hnn : ns ≤ 2000000) (hnd : ns ≤ sc) (hcn : sc ≤ maxLen) (hs : RdV w sa (ls.flatMap sealC))  : Calls Tryd.prog 69 #[.agg #[I64 (kd), .slice ai ni ci, .slice sa ns sc, U64 bl]] w (Post w [] (fun v L => v = .bool (RightO kd l ls bl) ∧ L = [])) := by
 have hmx : maxLen = 9223372036854775807 := rfl
 refine enter (P := Tryd.prog) (f := 69) (fn := Tryd.f69) w [] 69 [] [.agg #[I64 (kd), .slice ai ni ci, .slice sa ns sc, U64 bl]] Tryd.func69 rfl rfl (by simp) (BR (by simp) (by simp) (by simp)) ?_
 show JC _ _ _ [(0, .agg #[I64 (kd), .slice ai ni ci, .slice sa ns sc, U64 bl])] _
 refine AF (AB (AV (CG (.agg #[I64 (kd), .slice ai ni ci, .slice sa ns sc, U64 bl]) ([I64 (kd), .slice ai ni ci, .slice sa ns sc, U64 bl]) rfl (by first | rfl | simp)) rfl ?_))
 rintro v1 L1 ⟨nb1, hnb1, rfl, rfl⟩
 show JL _ _ _ _ ((1, Ptr nb1 0) :: _) [⟨nb1, [I64 (kd), .slice ai ni ci, .slice sa ns sc, U64 bl], 26, (0, 0)⟩]
 refine AA _ (AE rfl) rfl ?_
 refine AI (AC (AF (AB (AA (.func (.func 132) #[] #[Ptr nb1 0]) (Ev_makeFunc (vs := [Ptr nb1 0]) rfl (fun _ _ => rfl)) rfl ?_))))
 refine AA _ (AE rfl) rfl ?_
 refine AI (AC (AF (AF (AB (AA (Ptr nb1 0) (AH 0 3 1 A2 rfl DR rfl rfl) rfl ?_)))))
 refine AA (I64 (kd)) (AL rfl (AZ DC (AR 0 rfl (Seg.head)))) rfl ?_
 refine AI (AC (A9 (AF (AB (AA (.bool (decide ((kd) = (1:Int)))) (AJ rfl rfl fun _ => D6 _ _) rfl ?_)))))
 refine AA _ (AE rfl) rfl ?_
 refine AI (AC (B5 (decide ((kd) = (1:Int))) rfl (fun hb1 => ?_) (fun hb1 => ?_)))
 ·
  have hp1 : (kd) = (1:Int) := of_decide_eq_true hb1
  refine AF (AB (AA (Ptr nb1 3) (AH 3 22 1 A2 rfl BC rfl rfl) rfl ?_))
  refine AA (U64 bl) (AL rfl (AZ BG (AR 0 rfl (AS (AS (AS (Seg.head))))))) rfl ?_
  refine AA (.bool (decide (bl = (0:UInt64)))) (AJ rfl rfl fun _ => bin_eql_u64 bl (0:UInt64)) rfl ?_
  refine AA _ (AG rfl) rfl ?_
  rcases Bool.eq_false_or_eq_true (decide (bl = (0:UInt64))) with hb2 | hb2
  ·
   have hp2 : bl = (0:UInt64) := of_decide_eq_true hb2
   refine BB 3 12 true _ (Ptr nb1 1) rfl rfl hb2 (AH 1 23 1 A2 rfl CV rfl rfl) rfl ?_
   refine BB 3 12 true _ (.slice ai ni ci) rfl rfl hb2 (AL rfl (AZ DB (AR 0 rfl (AS (Seg.head))))) rfl ?_
   refine JL_gstep 3 12 true _ rfl rfl hb2 (AY 85 [I64 32, .slice ai ni ci] (.bool (decide (RightI l))) (A4 _ Tryd.call85 rfl) (fun w1 hw1 => pright_c ai ni ci l w1 hl (by omega) (by omega) (by omega) (FT hw1 rfl hv))) rfl ?_
   rintro v1 L1 ⟨rfl, rfl⟩
   show JL _ _ _ _ ((15, .bool (decide (RightI l))) :: _) [_]
   refine AA _ (CW _ rfl hb2 rfl) rfl ?_
   refine AA _ (AG rfl) rfl ?_
   rcases Bool.eq_false_or_eq_true (decide (RightI l)) with hb3 | hb3
   ·
    have hp3 : RightI l := of_decide_eq_true hb3
    refine BB 8 17 true _ (Ptr nb1 2) rfl rfl hb3 (AH 2 24 1 A2 rfl DS rfl rfl) rfl ?_
    refine BB 8 17 true _ (.slice sa ns sc) rfl rfl hb3 (AL rfl (AZ ER (AR 0 rfl (AS (AS (Seg.head)))))) rfl ?_
    refine BB 8 17 true _ (I64 ns) rfl rfl hb3 (DW CQ rfl) rfl ?_
    refine BB 8 17 true _ (Ptr nb1 1) rfl rfl hb3 (AH 1 23 1 A2 rfl CV rfl rfl) rfl ?_
    refine BB 8 17 true _ (.slice ai ni ci) rfl rfl hb3 (AL rfl (AZ DB (AR 0 rfl (AS (Seg.head))))) rfl ?_
    refine BB 8 17 true _ (I64 ni) rfl rfl hb3 (DW BI rfl) rfl ?_
    refine BB 8 17 true _ (.bool (decide (((ns:Int)) = ((ni:Int))))) rfl rfl hb3 (AJ rfl rfl fun _ => D6 _ _) rfl ?_
    refine AA _ (CW _ rfl hb3 rfl) rfl ?_
    refine AA _ (AG rfl) rfl ?_
    rcases Bool.eq_false_or_eq_true (decide (((ns:Int)) = ((ni:Int)))) with hb4 | hb4
    ·
     have hp4 : ((ns:Int)) = ((ni:Int)) := of_decide_eq_true hb4
     refine BB 17 26 true _ (Ptr nb1 2) rfl rfl hb4 (AH 2 24 1 A2 rfl DS rfl rfl) rfl ?_
     refine BB 17 26 true _ (.slice sa ns sc) rfl rfl hb4 (AL rfl (AZ ER (AR 0 rfl (AS (AS (Seg.head)))))) rfl ?_
     refine BB 17 26 true _ _ rfl rfl hb4 (AG rfl) rfl ?_
     refine JL_gstep 17 26 true _ rfl rfl hb4 (AY 134 [.slice sa ns sc, .func (.func 132) #[] #[Ptr nb1 0]] (.bool (ls.any (fun x => oddB (headE ls) (SealR.e x)))) (A4 _ Tryd.call134 rfl) (fun w1 hw1 => cfOdd_c nb1 (kd) ai ni ci l sa ns sc ls bl w1 hls (by omega) (by omega) (by omega) (FT hw1 rfl hs) (RdA.of hw1 (AR 0 rfl (AN _)) (by simp)))) rfl ?_
     rintro v1 L1 ⟨rfl, rfl⟩
     show JL _ _ _ _ ((30, .bool (ls.any (fun x => oddB (headE ls) (SealR.e x)))) :: _) [_]
     refine BB 17 26 true _ (.bool (!(ls.any (fun x => oddB (headE ls) (SealR.e x))))) rfl rfl hb4 (FV rfl) rfl ?_
     refine AA _ (CW _ rfl hb4 rfl) rfl ?_
     refine AA _ (AE rfl) rfl ?_
     refine AI (AC (BO (CZ (A3 (CA [false] ?_)))))
     show JQ _ _ _ _ []
     refine BQ (.bool (!(ls.any (fun x => oddB (headE ls) (SealR.e x))))) (res1 FA (B2 rfl)) fun w1 hw1 => ?_
     refine ⟨_, [], rfl, ⟨congrArg Value.bool ?_, rfl⟩, hw1.sub (by simp) (by simp)⟩
     unfold RightO
     rw [hl, hls]
     first | (simp [*]; done) | (simp [*]; omega)
    ·
     have hp4 : ¬ (((ns:Int)) = ((ni:Int))) := of_decide_eq_false hb4
     refine AO 17 26 true _ rfl rfl hb4 rfl ?_
     refine AO 17 26 true _ rfl rfl hb4 rfl ?_
     refine AO 17 26 true _ rfl rfl hb4 rfl ?_
     refine AO 17 26 true _ rfl rfl hb4 rfl ?_
     refine AO 17 26 true _ rfl rfl hb4 rfl ?_
     refine AA _ (C0 _ rfl hb4 rfl) rfl ?_
     refine AA _ (AE rfl) rfl ?_
     refine AI (AC (BO (CZ (A3 (CA [false] ?_)))))
     show JQ _ _ _ _ []
     refine BQ (.bool false) (res1 FA (B2 rfl)) fun w1 hw1 => ?_
     refine ⟨_, [], rfl, ⟨congrArg Value.bool ?_, rfl⟩, hw1.sub (by simp) (by simp)⟩
     unfold RightO
     rw [hl, hls]
     first | (simp [*]; done) | (simp [*]; omega)
   ·
    have hp3 : ¬ (RightI l) := of_decide_eq_false hb3
    refine AO 8 17 true _ rfl rfl hb3 rfl ?_
    refine AO 8 17 true _ rfl rfl hb3 rfl ?_
    refine AO 8 17 true _ rfl rfl hb3 rfl ?_
    refine AO 8 17 true _ rfl rfl hb3 rfl ?_
    refine AO 8 17 true _ rfl rfl hb3 rfl ?_
    refine AO 8 17 true _ rfl rfl hb3 rfl ?_
    refine AO 8 17 true _ rfl rfl hb3 rfl ?_
    refine AA _ (C0 _ rfl hb3 rfl) rfl ?_
    refine AA _ (AG rfl) rfl ?_
    refine AO 17 26 true _ rfl rfl rfl rfl ?_
    refine AO 17 26 true _ rfl rfl rfl rfl ?_
    refine AO 17 26 true _ rfl rfl rfl rfl ?_
    refine AO 17 26 true _ rfl rfl rfl rfl ?_
    refine AO 17 26 true _ rfl rfl rfl rfl ?_
    refine AA _ (C0 _ rfl rfl rfl) rfl ?_
    refine AA _ (AE rfl) rfl ?_
    refine AI (AC (BO (CZ (A3 (CA [false] ?_)))))
    show JQ _ _ _ _ []
    refine BQ (.bool false) (res1 FA (B2 rfl)) fun w1 hw1 => ?_
    refine ⟨_, [], rfl, ⟨congrArg Value.bool ?_, rfl⟩, hw1.sub (by simp) (by simp)⟩
    unfold RightO
    rw [hl, hls]
    first | (simp [*]; done) | (simp [*]; omega)
  ·
   have hp2 : ¬ (bl = (0:UInt64)) := of_decide_eq_false hb2
   refine AO 3 12 true _ rfl rfl hb2 rfl ?_
   refine AO 3 12 true _ rfl rfl hb2 rfl ?_
   refine AO 3 12 true _ rfl rfl hb2 rfl ?_
   refine AA _ (C0 _ rfl hb2 rfl) rfl ?_
   refine AA _ (AG rfl) rfl ?_
   refine AO 8 17 true _ rfl rfl rfl rfl ?_
   refine AO 8 17 true _ rfl rfl rfl rfl ?_
   refine AO 8 17 true _ rfl rfl rfl rfl ?_
   refine AO 8 17 true _ rfl rfl rfl rfl ?_
   refine AO 8 17 true _ rfl rfl rfl rfl ?_
   refine AO 8 17 true _ rfl rfl rfl rfl ?_
   refine AO 8 17 true _ rfl rfl rfl rfl ?_
   refine AA _ (C0 _ rfl rfl rfl) rfl ?_
   refine AA _ (AG rfl) rfl ?_
   refine AO 17 26 true _ rfl rfl rfl rfl ?_
   refine AO 17 26 true _ rfl rfl rfl rfl ?_
   refine AO 17 26 true _ rfl rfl rfl rfl ?_
   refine AO 17 26 true _ rfl rfl rfl rfl ?_
   refine AO 17 26 true _ rfl rfl rfl rfl ?_
   refine AA _ (C0 _ rfl rfl rfl) rfl ?_
   refine AA _ (AE rfl) rfl ?_
   refine AI (AC (BO (CZ (A3 (CA [false] ?_)))))
   show JQ _ _ _ _ []
   refine BQ (.bool false) (res1 FA (B2 rfl)) fun w1 hw1 => ?_
   refine ⟨_, [], rfl, ⟨congrArg Value.bool ?_, rfl⟩, hw1.sub (by simp) (by simp)⟩
   unfold RightO
   rw [hl, hls]
   first | (simp [*]; done) | (simp [*]; omega)
 ·
  have hp1 : ¬ ((kd) = (1:Int)) := of_decide_eq_false hb1
  refine AF (AB (AA (.bool (decide ((kd) = (2:Int)))) (AJ rfl rfl fun _ => D6 _ _) rfl ?_))
  refine AA _ (AE rfl) rfl ?_
  refine AI (AC (B5 (decide ((kd) = (2:Int))) rfl (fun hb5 => ?_) (fun hb5 => ?_)))
  ·
   have hp5 : (kd) = (2:Int) := of_decide_eq_true hb5
   refine AF (AB (AA (Ptr nb1 3) (AH 3 22 1 A2 rfl BC rfl rfl) rfl ?_))
   refine AA (U64 bl) (AL rfl (AZ BG (AR 0 rfl (AS (AS (AS (Seg.head))))))) rfl ?_
   refine AA (.bool (decide (bl = (0:UInt64)))) (AJ rfl rfl fun _ => bin_eql_u64 bl (0:UInt64)) rfl ?_
   refine AA _ (AG rfl) rfl ?_
   rcases Bool.eq_false_or_eq_true (decide (bl = (0:UInt64))) with hb6 | hb6
   ·
    have hp6 : bl = (0:UInt64) := of_decide_eq_true hb6
    refine BB 3 38 true _ (Ptr nb1 1) rfl rfl hb6 (AH 1 23 1 A2 rfl CV rfl rfl) rfl ?_
    refine BB 3 38 true _ (.slice ai ni ci) rfl rfl hb6 (AL rfl (AZ DB (AR 0 rfl (AS (Seg.head))))) rfl ?_
    refine JL_gstep 3 38 true _ rfl rfl hb6 (AY 85 [I64 32, .slice ai ni ci] (.bool (decide (RightI l))) (A4 _ Tryd.call85 rfl) (fun w1 hw1 => pright_c ai ni ci l w1 hl (by omega) (by omega) (by omega) (FT hw1 rfl hv))) rfl ?_
    rintro v1 L1 ⟨rfl, rfl⟩
    show JL _ _ _ _ ((41, .bool (decide (RightI l))) :: _) [_]
    refine AA _ (CW _ rfl hb6 rfl) rfl ?_
    refine AA _ (AG rfl) rfl ?_
    rcases Bool.eq_false_or_eq_true (decide (RightI l)) with hb7 | hb7
    ·
     have hp7 : RightI l := of_decide_eq_true hb7
     refine BB 8 43 true _ (Ptr nb1 2) rfl rfl hb7 (AH 2 24 1 A2 rfl DS rfl rfl) rfl ?_
     refine BB 8 43 true _ (.slice sa ns sc) rfl rfl hb7 (AL rfl (AZ ER (AR 0 rfl (AS (AS (Seg.head)))))) rfl ?_
     refine BB 8 43 true _ (I64 ns) rfl rfl hb7 (DW CQ rfl) rfl ?_
     refine BB 8 43 true _ (.bool (decide (((ns:Int)) = (0:Int)))) rfl rfl hb7 (AJ rfl rfl fun _ => D6 _ _) rfl ?_
     refine AA _ (CW _ rfl hb7 rfl) rfl ?_
     refine AA _ (AE rfl) rfl ?_
     refine AI (AC (BO (CZ (A3 (CA [false] ?_)))))
     show JQ _ _ _ _ []
     refine BQ (.bool (decide (((ns:Int)) = (0:Int)))) (res1 FA (B2 rfl)) fun w1 hw1 => ?_
     refine ⟨_, [], rfl, ⟨congrArg Value.bool ?_, rfl⟩, hw1.sub (by simp) (by simp)⟩
     unfold RightO
     rw [hl, hls]
     first | (simp [*]; done) | (simp [*]; omega)
    ·
     have hp7 : ¬ (RightI l) := of_decide_eq_false hb7
     refine AO 8 43 true _ rfl rfl hb7 rfl ?_
     refine AO 8 43 true _ rfl rfl hb7 rfl ?_
     refine AO 8 43 true _ rfl rfl hb7 rfl ?_
     refine AO 8 43 true _ rfl rfl hb7 rfl ?_
     refine AA _ (C0 _ rfl hb7 rfl) rfl ?_
     refine AA _ (AE rfl) rfl ?_
     refine AI (AC (BO (CZ (A3 (CA [false] ?_)))))
     show JQ _ _ _ _ []
     refine BQ (.bool false) (res1 FA (B2 rfl)) fun w1 hw1 => ?_
     refine ⟨_, [], rfl, ⟨congrArg Value.bool ?_, rfl⟩, hw1.sub (by simp) (by simp)⟩
     unfold RightO
     rw [hl, hls]
     first | (simp [*]; done) | (simp [*]; omega)
   ·
    have hp6 : ¬ (bl = (0:UInt64)) := of_decide_eq_false hb6
    refine AO 3 38 true _ rfl rfl hb6 rfl ?_
    refine AO 3 38 true _ rfl rfl hb6 rfl ?_
    refine AO 3 38 true _ rfl rfl hb6 rfl ?_
    refine AA _ (C0 _ rfl hb6 rfl) rfl ?_
    refine AA _ (AG rfl) rfl ?_
    refine AO 8 43 true _ rfl rfl rfl rfl ?_
    refine AO 8 43 true _ rfl rfl rfl rfl ?_
    refine AO 8 43 true _ rfl rfl rfl rfl ?_
    refine AO 8 43 true _ rfl rfl rfl rfl ?_
    refine AA _ (C0 _ rfl rfl rfl) rfl ?_
    refine AA _ (AE rfl) rfl ?_
    refine AI (AC (BO (CZ (A3 (CA [false] ?_)))))
    show JQ _ _ _ _ []
    refine BQ (.bool false) (res1 FA (B2 rfl)) fun w1 hw1 => ?_
    refine ⟨_, [], rfl, ⟨congrArg Value.bool ?_, rfl⟩, hw1.sub (by simp) (by simp)⟩
    unfold RightO
    rw [hl, hls]
    first | (simp [*]; done) | (simp [*]; omega)
  ·
   have hp5 : ¬ ((kd) = (2:Int)) := of_decide_eq_false hb5
   refine AF (AB (AA (.bool (decide ((kd) = (3:Int)))) (AJ rfl rfl fun _ => D6 _ _) rfl ?_))
   refine AA _ (AE rfl) rfl ?_
   refine AI (AC (B5 (decide ((kd) = (3:Int))) rfl (fun hb8 => ?_) (fun hb8 => ?_)))
   ·
    have hp8 : (kd) = (3:Int) := of_decide_eq_true hb8
    refine AF (AB (AA (Ptr nb1 1) (AH 1 23 1 A2 rfl CV rfl rfl) rfl ?_))
    refine AA (.slice ai ni ci) (AL rfl (AZ DB (AR 0 rfl (AS (Seg.head))))) rfl ?_
    refine AA (I64 ni) (DW BI rfl) rfl ?_
    refine AA (Ptr nb1 2) (AH 2 24 1 A2 rfl DS rfl rfl) rfl ?_
    refine AA (.slice sa ns sc) (AL rfl (AZ ER (AR 0 rfl (AS (AS (Seg.head)))))) rfl ?_
    refine AA (I64 ns) (DW CQ rfl) rfl ?_
    refine AA (I64 ((ni:Int) + (ns:Int))) (AJ rfl rfl fun _ => BP _ _ ((ni:Int) + (ns:Int)) (by omega) (by omega)) rfl ?_
    refine AA (.bool (decide (((ni:Int) + (ns:Int)) = (0:Int)))) (AJ rfl rfl fun _ => D6 _ _) rfl ?_
    refine AA _ (AG rfl) rfl ?_
    rcases Bool.eq_false_or_eq_true (decide (((ni:Int) + (ns:Int)) = (0:Int))) with hb9 | hb9
    ·
     have hp9 : ((ni:Int) + (ns:Int)) = (0:Int) := of_decide_eq_true hb9
     refine BB 8 59 true _ (Ptr nb1 3) rfl rfl hb9 (AH 3 22 1 A2 rfl BC rfl rfl) rfl ?_
     refine BB 8 59 true _ (U64 bl) rfl rfl hb9 (AL rfl (AZ BG (AR 0 rfl (AS (AS (AS (Seg.head))))))) rfl ?_
     refine BB 8 59 true _ (.bool (decide ((1:UInt64) ≤ bl))) rfl rfl hb9 (AJ rfl rfl fun _ => GD bl (1:UInt64)) rfl ?_
     refine AA _ (CW _ rfl hb9 rfl) rfl ?_
     refine AA _ (AG rfl) rfl ?_
     rcases Bool.eq_false_or_eq_true (decide ((1:UInt64) ≤ bl)) with hb10 | hb10
     ·
      have hp10 : (1:UInt64) ≤ bl := of_decide_eq_true hb10
      refine BB 13 64 true _ (Ptr nb1 3) rfl rfl hb10 (AH 3 22 1 A2 rfl BC rfl rfl) rfl ?_
      refine BB 13 64 true _ (U64 bl) rfl rfl hb10 (AL rfl (AZ BG (AR 0 rfl (AS (AS (AS (Seg.head))))))) rfl ?_
      refine BB 13 64 true _ (.bool (decide (bl ≤ (4294967296:UInt64)))) rfl rfl hb10 (AJ rfl rfl fun _ => bin_leq_u64 bl (4294967296:UInt64)) rfl ?_
      refine AA _ (CW _ rfl hb10 rfl) rfl ?_
      refine AA _ (AE rfl) rfl ?_
      refine AI (AC (BO (CZ (A3 (CA [false] ?_)))))
      show JQ _ _ _ _ []
      refine BQ (.bool (decide (bl ≤ (4294967296:UInt64)))) (res1 FA (B2 rfl)) fun w1 hw1 => ?_
      refine ⟨_, [], rfl, ⟨congrArg Value.bool ?_, rfl⟩, hw1.sub (by simp) (by simp)⟩
      unfold RightO
      rw [hl, hls]
      first | (simp [*]; done) | (simp [*]; omega)
     ·
      have hp10 : ¬ ((1:UInt64) ≤ bl) := of_decide_eq_false hb10
      refine AO 13 64 true _ rfl rfl hb10 rfl ?_
      refine AO 13 64 true _ rfl rfl hb10 rfl ?_
      refine AO 13 64 true _ rfl rfl hb10 rfl ?_
      refine AA _ (C0 _ rfl hb10 rfl) rfl ?_
      refine AA _ (AE rfl) rfl ?_
      refine AI (AC (BO (CZ (A3 (CA [false] ?_)))))
      show JQ _ _ _ _ []
      refine BQ (.bool false) (res1 FA (B2 rfl)) fun w1 hw1 => ?_
      refine ⟨_, [], rfl, ⟨congrArg Value.bool ?_, rfl⟩, hw1.sub (by simp) (by simp)⟩
      unfold RightO
      rw [hl, hls]
      first | (simp [*]; done) | (simp [*]; omega)
    ·
     have hp9 : ¬ (((ni:Int) + (ns:Int)) = (0:Int)) := of_decide_eq_false hb9
     refine AO 8 59 true _ rfl rfl hb9 rfl ?_
     refine AO 8 59 true _ rfl rfl hb9 rfl ?_
     refine AO 8 59 true _ rfl rfl hb9 rfl ?_
     refine AA _ (C0 _ rfl hb9 rfl) rfl ?_
     refine AA _ (AG rfl) rfl ?_
     refine AO 13 64 true _ rfl rfl rfl rfl ?_
     refine AO 13 64 true _ rfl rfl rfl rfl ?_
     refine AO 13 64 true _ rfl rfl rfl rfl ?_
     refine AA _ (C0 _ rfl rfl rfl) rfl ?_
     refine AA _ (AE rfl) rfl ?_
     refine AI (AC (BO (CZ (A3 (CA [false] ?_)))))
     show JQ _ _ _ _ []
     refine BQ (.bool false) (res1 FA (B2 rfl)) fun w1 hw1 => ?_
     refine ⟨_, [], rfl, ⟨congrArg Value.bool ?_, rfl⟩, hw1.sub (by simp) (by simp)⟩
     unfold RightO
     rw [hl, hls]
     first | (simp [*]; done) | (simp [*]; omega)
   ·
    have hp8 : ¬ ((kd) = (3:Int)) := of_decide_eq_false hb8
    refine BJ (A5 (AC (AF (AB (AA _ (AE rfl) rfl ?_)))))
    refine AI (AC (BO (CA [false] ?_)))
    show JQ _ _ _ _ []
    refine BQ (.bool false) (res1 FA (B2 rfl)) fun w1 hw1 => ?_
    refine ⟨_, [], rfl, ⟨congrArg Value.bool ?_, rfl⟩, hw1.sub (by simp) (by simp)⟩
    unfold RightO
    rw [hl, hls]
    first | (simp [*]; done) | (simp [*]; omega)
theorem doc7_c (e : UInt64) (d t : List UInt8)  (w : World) (hd : d.length = 32) (ht : t.length = 16)  : Calls Tryd.prog 93 #[.agg ([U64 e] ++ cu8 d ++ cu8 t).toArray] w (Post w [] (fun v L => v = .agg ([U64 e] ++ cu8 d ++ cu8 t).toArray ∧ L = [])) := by
 refine enter (P := Tryd.prog) (f := 93) (fn := Tryd.f93) w [] 4 [] [.agg ([U64 e] ++ cu8 d ++ cu8 t).toArray] Tryd.func93 rfl rfl (by simp) (BR (by simp) (by simp) (by simp)) ?_
 show JC _ _ _ [(0, .agg ([U64 e] ++ cu8 d ++ cu8 t).toArray)] _
 refine AF (AB (AV (CG (.agg ([U64 e] ++ cu8 d ++ cu8 t).toArray) ([U64 e] ++ cu8 d ++ cu8 t) rfl (by first | rfl | simp)) rfl ?_))
 rintro v1 L1 ⟨nb1, hnb1, rfl, rfl⟩
 show JL _ _ _ _ ((1, Ptr nb1 0) :: _) [⟨nb1, [U64 e] ++ cu8 d ++ cu8 t, 161, (0, 0)⟩]
 refine AV (A7 _ ([U64 0] ++ cu8 (zr8 32) ++ cu8 (zr8 16)) EI (by kernel_rfl)) rfl ?_
 rintro v1 L1 ⟨nb2, hnb2, rfl, rfl⟩
 show JL _ _ _ _ ((2, Ptr nb2 0) :: _) [_, ⟨nb2, [U64 0] ++ cu8 (zr8 32) ++ cu8 (zr8 16), 164, (0, 0)⟩]
 refine AI (AC (AF (AB (AA (.agg ([U64 e] ++ cu8 d ++ cu8 t).toArray) (AL rfl (BH EY CE (by simp [hd, ht]) (AR 0 rfl (AN _)))) rfl ?_))))
 refine A0 (AX 1 nb2 49 ([U64 0] ++ cu8 (zr8 32) ++ cu8 (zr8 16)) 164 ([U64 e] ++ cu8 d ++ cu8 t) rfl rfl rfl C9 (by simp [hd, ht]) (EO (EO (by simp [Value.oneCell']) CD) CD) (by simp [(AP 32), (AP 16)]) (A6 (by simp [(AP 32), (AP 16), hd, ht]))) rfl ?_
 show JL _ _ _ _ _ [_, ⟨nb2, [U64 e] ++ cu8 d ++ cu8 t, 164, (0, 0)⟩]
 refine AI (AC (BO (BQ (.agg ([U64 e] ++ cu8 d ++ cu8 t).toArray) (res1 Tryd.results93 (DY rfl (BH Tryd.isAgg164 C9 (by simp [hd, ht]) (AR 1 rfl (AN _))))) fun w1 hw1 => ?_)))
 exact ⟨_, [], rfl, ⟨rfl, rfl⟩, hw1.sub (by simp) (by simp)⟩
theorem bld36_013 {w : World} {v0 : Value} {v1 : Value} {v3 : Value} (h0 : v0.cells = [v0].toArray) (h1 : v1.cells = [v1].toArray) (h3 : v3.cells = [v3].toArray) : (Instr.build 36 ([(0, v0), (1, v1), (3, v3)] : List (Nat × Value)).toArray).run Tryd.prog w = .ok (.agg (((([v0] : List Value) ++ ([v1] : List Value)) ++ ([.slice none 0 0] : List Value)) ++ ([v3] : List Value)).toArray) w :=
 EH (places := #[(0, 1), (1, 1), (2, 1), (3, 1)]) (Z := (([I64 0] : List Value) ++ (([.slice none 0 0] : List Value) ++ (([.slice none 0 0] : List Value) ++ (([U64 0] : List Value) ++ []))))) (fun _ => by kernel_rfl) BD (fun _ => by kernel_rfl) ((F1 ([I64 0] : List Value) (([.slice none 0 0] : List Value) ++ (([.slice none 0 0] : List Value) ++ (([U64 0] : List Value) ++ []))) ([v0] : List Value) h0 (by simp [AP]) rfl).trans ((EW ([v0] : List Value) ([.slice none 0 0] : List Value) (([.slice none 0 0] : List Value) ++ (([U64 0] : List Value) ++ [])) ([v1] : List Value) h1 (by simp [AP]) rfl).trans ((F2 (([v0] : List Value) ++ ([v1] : List Value)) ([.slice none 0 0] : List Value) (([U64 0] : List Value) ++ [])).trans ((EW ((([v0] : List Value) ++ ([v1] : List Value)) ++ ([.slice none 0 0] : List Value)) ([U64 0] : List Value) [] ([v3] : List Value) h3 (by simp [AP]) rfl).trans (by simp [Instr.fill])))))
theorem order0_c (kd : Int) (ai : Option Addr) (ni ci : Nat) (l : List UInt64) (sa : Option Addr) (ns sc : Nat) (ls : List SealR) (bl : UInt64)  (w : World) (hl : l.length = ni) (hnm : ni ≤ 2000000) (hnc : ni ≤ ci) (hcm : ci ≤ maxLen) (hv : RdV w ai (cu64 l)) (hls : ls.length = ns) (hnn : ns ≤ 2000000) (hnd : ns ≤ sc) (hcn : sc ≤ maxLen) (hs : RdV w sa (ls.flatMap sealC)) (h0 : ns = 0) : Calls Tryd.prog 66 #[.agg #[I64 (kd), .slice ai ni ci, .slice sa ns sc, U64 bl]] w (Post w [] (fun v L => v = .agg #[I64 kd, .slice ai ni ci, .slice none 0 0, U64 bl] ∧ L = [])) := by
 have hmx : maxLen = 9223372036854775807 := rfl
 refine enter (P := Tryd.prog) (f := 66) (fn := Tryd.f66) w [] 29 [] [.agg #[I64 (kd), .slice ai ni ci, .slice sa ns sc, U64 bl]] Tryd.func66 rfl rfl (by simp) (BR (by simp) (by simp) (by simp)) ?_
 show JC _ _ _ [(0, .agg #[I64 (kd), .slice ai ni ci, .slice sa ns sc, U64 bl])] _
 refine AF (AB (AV (CG (.agg #[I64 (kd), .slice ai ni ci, .slice sa ns sc, U64 bl]) ([I64 (kd), .slice ai ni ci, .slice sa ns sc, U64 bl]) rfl (by first | rfl | simp)) rfl ?_))
 rintro v1 L1 ⟨nb1, hnb1, rfl, rfl⟩
 show JL _ _ _ _ ((1, Ptr nb1 0) :: _) [⟨nb1, [I64 (kd), .slice ai ni ci, .slice sa ns sc, U64 bl], 26, (0, 0)⟩]
 refine AV (A7 _ ([I64 0, .slice none 0 0, .slice none 0 0, U64 0]) E1 (by kernel_rfl)) rfl ?_
 rintro v1 L1 ⟨nb2, hnb2, rfl, rfl⟩
 show JL _ _ _ _ ((2, Ptr nb2 0) :: _) [_, ⟨nb2, [I64 0, .slice none 0 0, .slice none 0 0, U64 0], 36, (0, 0)⟩]
 refine AI (AC (AF (AB (AA (Ptr nb1 0) (AH 0 3 1 A2 rfl DR rfl rfl) rfl ?_))))
 refine AA (I64 (kd)) (AL rfl (AZ DC (AR 0 rfl (Seg.head)))) rfl ?_
 refine AA (Ptr nb1 1) (AH 1 23 1 A2 rfl CV rfl rfl) rfl ?_
 refine AA (.slice ai ni ci) (AL rfl (AZ DB (AR 0 rfl (AS (Seg.head))))) rfl ?_
 refine AA (Ptr nb1 3) (AH 3 22 1 A2 rfl BC rfl rfl) rfl ?_
 refine AA (U64 bl) (AL rfl (AZ BG (AR 0 rfl (AS (AS (AS (Seg.head))))))) rfl ?_
 refine AA (.agg #[I64 (kd), .slice ai ni ci, .slice none 0 0, U64 bl]) (DG [(0, I64 (kd)), (1, .slice ai ni ci), (3, U64 bl)] _ rfl (fun _ => bld36_013 rfl rfl rfl)) rfl ?_
 refine AV (A7 _ ([I64 0, .slice none 0 0, .slice none 0 0, U64 0]) E1 (by kernel_rfl)) rfl ?_
 rintro v1 L1 ⟨nb3, hnb3, rfl, rfl⟩
 show JL _ _ _ _ ((3, Ptr nb3 0) :: _) [_, _, ⟨nb3, [I64 0, .slice none 0 0, .slice none 0 0, U64 0], 36, (0, 0)⟩]
 refine A0 (AX 2 nb3 4 ([I64 0, .slice none 0 0, .slice none 0 0, U64 0]) 36 ([I64 (kd), .slice ai ni ci, .slice none 0 0, U64 bl]) rfl rfl rfl B0 rfl (by simp [Value.oneCell']) (Nat.le_of_ble_eq_true rfl) (A6 (by simp []))) rfl ?_
 show JL _ _ _ _ _ [_, _, ⟨nb3, [I64 (kd), .slice ai ni ci, .slice none 0 0, U64 bl], 36, (0, 0)⟩]
 refine AI (AC (AF (AF (AB (AA (Ptr nb1 2) (AH 2 24 1 A2 rfl DS rfl rfl) rfl ?_)))))
 refine AA (.slice sa ns sc) (AL rfl (AZ ER (AR 0 rfl (AS (AS (Seg.head)))))) rfl ?_
 refine AA (I64 ns) (DW CQ rfl) rfl ?_
 refine AA _ (AG rfl) rfl ?_
 refine AI (AC (A9 (CA [false, true, true] ?_)))
 show JC _ _ _ _ [_, _]
 refine DI (ι := Unit) (fun _ => [(2, Ptr nb2 0), (3, Ptr nb3 0), (14, .slice sa ns sc), (15, I64 ns), (16, I64 0)]) (fun _ => [⟨nb2, [I64 0, .slice none 0 0, .slice none 0 0, U64 0], 36, (0, 0)⟩, ⟨nb3, [I64 (kd), .slice ai ni ci, .slice none 0 0, U64 bl], 36, (0, 0)⟩]) (fun _ => True) (fun _ => 1) () trivial (Sub.all rfl) rfl ?_
 rintro _ _
 show JC _ _ _ [(2, Ptr nb2 0), (3, Ptr nb3 0), (14, .slice sa ns sc), (15, I64 ns), (16, I64 0)] [⟨nb2, [I64 0, .slice none 0 0, .slice none 0 0, U64 0], 36, (0, 0)⟩, ⟨nb3, [I64 (kd), .slice ai ni ci, .slice none 0 0, U64 bl], 36, (0, 0)⟩]
 refine AF (AB (AA (.bool (decide ((0:Int) < ((ns:Int))))) (AJ rfl rfl fun _ => B9 _ _) rfl ?_))
 refine AI (AC (AF (DV _ rfl (decide_eq_false (by omega)) ?_)))
 refine DA (AQ (AQ (BV (AC (AF (AB (AA (.agg #[I64 (kd), .slice ai ni ci, .slice none 0 0, U64 bl]) (AL rfl (BH EL B0 rfl (AR 1 rfl (AN _)))) rfl ?_)))))))
 refine A0 (AX 0 nb2 4 ([I64 0, .slice none 0 0, .slice none 0 0, U64 0]) 36 ([I64 (kd), .slice ai ni ci, .slice none 0 0, U64 bl]) rfl rfl rfl B0 rfl (by simp [Value.oneCell']) (Nat.le_of_ble_eq_true rfl) (A6 (by simp []))) rfl ?_
 show JL _ _ _ _ _ [⟨nb2, [I64 (kd), .slice ai ni ci, .slice none 0 0, U64 bl], 36, (0, 0)⟩, _]
 refine AI (AC (BO (BQ (.agg #[I64 (kd), .slice ai ni ci, .slice none 0 0, U64 bl]) (res1 Tryd.results66 (DY rfl (BH EL B0 rfl (AR 0 rfl (AN _))))) fun w1 hw1 => ?_)))
 exact ⟨_, [], rfl, ⟨rfl, rfl⟩, hw1.sub (by simp) (by simp)⟩
theorem orderP_c (kd : Int) (ai : Option Addr) (ni ci : Nat) (l : List UInt64) (sa : Option Addr) (ns sc : Nat) (ls : List SealR) (bl : UInt64)  (w : World) (hl : l.length = ni) (hnm : ni ≤ 2000000) (hnc : ni ≤ ci) (hcm : ci ≤ maxLen) (hv : RdV w ai (cu64 l)) (hls : ls.length = ns) (hnn : ns ≤ 2000000) (hnd : ns ≤ sc) (hcn : sc ≤ maxLen) (hs : RdV w sa (ls.flatMap sealC)) (h0 : 0 < ns) : Calls Tryd.prog 66 #[.agg #[I64 (kd), .slice ai ni ci, .slice sa ns sc, U64 bl]] w (Post w [] (fun v L => ∃ g sp cap, v = .agg #[I64 kd, .slice ai ni ci, Slc g 0 ns cap, U64 bl] ∧ L = [⟨g, ls.flatMap sealC ++ sp, 164, (0, 0)⟩] ∧ sp.length = cap * 49 - ns * 49 ∧ ns ≤ cap ∧ cap ≤ maxLen)) := by
 have hmx : maxLen = 9223372036854775807 := rfl
 refine enter (P := Tryd.prog) (f := 66) (fn := Tryd.f66) w [] 29 [] [.agg #[I64 (kd), .slice ai ni ci, .slice sa ns sc, U64 bl]] Tryd.func66 rfl rfl (by simp) (BR (by simp) (by simp) (by simp)) ?_
 show JC _ _ _ [(0, .agg #[I64 (kd), .slice ai ni ci, .slice sa ns sc, U64 bl])] _
 refine AF (AB (AV (CG (.agg #[I64 (kd), .slice ai ni ci, .slice sa ns sc, U64 bl]) ([I64 (kd), .slice ai ni ci, .slice sa ns sc, U64 bl]) rfl (by first | rfl | simp)) rfl ?_))
 rintro v1 L1 ⟨nb1, hnb1, rfl, rfl⟩
 show JL _ _ _ _ ((1, Ptr nb1 0) :: _) [⟨nb1, [I64 (kd), .slice ai ni ci, .slice sa ns sc, U64 bl], 26, (0, 0)⟩]
 refine AV (A7 _ ([I64 0, .slice none 0 0, .slice none 0 0, U64 0]) E1 (by kernel_rfl)) rfl ?_
 rintro v1 L1 ⟨nb2, hnb2, rfl, rfl⟩
 show JL _ _ _ _ ((2, Ptr nb2 0) :: _) [_, ⟨nb2, [I64 0, .slice none 0 0, .slice none 0 0, U64 0], 36, (0, 0)⟩]
 refine AI (AC (AF (AB (AA (Ptr nb1 0) (AH 0 3 1 A2 rfl DR rfl rfl) rfl ?_))))
 refine AA (I64 (kd)) (AL rfl (AZ DC (AR 0 rfl (Seg.head)))) rfl ?_
 refine AA (Ptr nb1 1) (AH 1 23 1 A2 rfl CV rfl rfl) rfl ?_
 refine AA (.slice ai ni ci) (AL rfl (AZ DB (AR 0 rfl (AS (Seg.head))))) rfl ?_
 refine AA (Ptr nb1 3) (AH 3 22 1 A2 rfl BC rfl rfl) rfl ?_
 refine AA (U64 bl) (AL rfl (AZ BG (AR 0 rfl (AS (AS (AS (Seg.head))))))) rfl ?_
 refine AA (.agg #[I64 (kd), .slice ai ni ci, .slice none 0 0, U64 bl]) (DG [(0, I64 (kd)), (1, .slice ai ni ci), (3, U64 bl)] _ rfl (fun _ => bld36_013 rfl rfl rfl)) rfl ?_
 refine AV (A7 _ ([I64 0, .slice none 0 0, .slice none 0 0, U64 0]) E1 (by kernel_rfl)) rfl ?_
 rintro v1 L1 ⟨nb3, hnb3, rfl, rfl⟩
 show JL _ _ _ _ ((3, Ptr nb3 0) :: _) [_, _, ⟨nb3, [I64 0, .slice none 0 0, .slice none 0 0, U64 0], 36, (0, 0)⟩]
 refine A0 (AX 2 nb3 4 ([I64 0, .slice none 0 0, .slice none 0 0, U64 0]) 36 ([I64 (kd), .slice ai ni ci, .slice none 0 0, U64 bl]) rfl rfl rfl B0 rfl (by simp [Value.oneCell']) (Nat.le_of_ble_eq_true rfl) (A6 (by simp []))) rfl ?_
 show JL _ _ _ _ _ [_, _, ⟨nb3, [I64 (kd), .slice ai ni ci, .slice none 0 0, U64 bl], 36, (0, 0)⟩]
 refine AI (AC (AF (AF (AB (AA (Ptr nb1 2) (AH 2 24 1 A2 rfl DS rfl rfl) rfl ?_)))))
 refine AA (.slice sa ns sc) (AL rfl (AZ ER (AR 0 rfl (AS (AS (Seg.head)))))) rfl ?_
 refine AA (I64 ns) (DW CQ rfl) rfl ?_
 refine AA _ (AG rfl) rfl ?_
 refine AI (AC (A9 (CA [false, true, true] ?_)))
 show JC _ _ _ _ [_, _]
 refine DI (ι := (Unit) ⊕ (Nat × List SealR × Nat × List Value × Nat)) (fun x => match x with | .inl _ => [(2, Ptr nb2 0), (3, Ptr nb3 0), (14, .slice sa ns sc), (15, I64 ns), (16, I64 0)] | .inr ⟨i, rr, gb, sp, cp⟩ => [(2, Ptr nb2 0), (3, Ptr nb3 0), (14, .slice sa ns sc), (15, I64 ns), (16, I64 i)]) (fun x => match x with | .inl _ => [⟨nb2, [I64 0, .slice none 0 0, .slice none 0 0, U64 0], 36, (0, 0)⟩, ⟨nb3, [I64 (kd), .slice ai ni ci, .slice none 0 0, U64 bl], 36, (0, 0)⟩] | .inr ⟨i, rr, gb, sp, cp⟩ => [⟨nb2, [I64 0, .slice none 0 0, .slice none 0 0, U64 0], 36, (0, 0)⟩, ⟨nb3, [I64 (kd), .slice ai ni ci, Slc gb 0 i cp, U64 bl], 36, (0, 0)⟩, ⟨gb, (rr).flatMap sealC ++ sp, 164, (0, 0)⟩]) (fun x => match x with | .inl _ => True | .inr ⟨i, rr, gb, sp, cp⟩ => 0 < i ∧ i ≤ ns ∧ rr = ls.take i ∧ rr.length = i ∧ sp.length = cp * 49 - i * 49 ∧ i ≤ cp ∧ cp ≤ maxLen) (fun x => match x with | .inl _ => ns + 2 | .inr ⟨i, rr, gb, sp, cp⟩ => ns + 1 - i) (.inl ()) trivial (Sub.all rfl) rfl ?_
 rintro (_ | ⟨i, rr, gb, sp, cp⟩) hx
 ·
  obtain _ := hx
  show JC _ _ _ [(2, Ptr nb2 0), (3, Ptr nb3 0), (14, .slice sa ns sc), (15, I64 ns), (16, I64 0)] [⟨nb2, [I64 0, .slice none 0 0, .slice none 0 0, U64 0], 36, (0, 0)⟩, ⟨nb3, [I64 (kd), .slice ai ni ci, .slice none 0 0, U64 bl], 36, (0, 0)⟩]
  refine AF (AB (AA (.bool (decide ((0:Int) < ((ns:Int))))) (AJ rfl rfl fun _ => B9 _ _) rfl ?_))
  refine AI (AC (AF (D1 _ rfl (decide_eq_true (by omega)) ?_)))
  refine BJ (AC (AF (A9 (AF (AB ?_)))))
  obtain ⟨x1, hx1⟩ : ∃ x, ls[0]? = some x := ⟨_, List.getElem?_eq_getElem (by rw [hls]; omega)⟩
  obtain ⟨bz1, oz1, hz1, hm1⟩ := rows_at F5 (by decide) hs hx1
  refine AA (Ptr bz1 oz1) (CL 161 49 oz1 CQ CE rfl hz1 rfl (by omega) (by omega) (by omega)) rfl ?_
  refine AA (.agg ([U64 x1.e] ++ cu8 x1.d ++ cu8 x1.t).toArray) (AL rfl (BH EY CE (by simp [x1.hd, x1.ht]) (BW (hm1.mem (by simp)) (AN _) (by omega)))) rfl ?_
  refine AV (A7 _ ([U64 0] ++ cu8 (zr8 32) ++ cu8 (zr8 16)) D9 (by kernel_rfl)) rfl ?_
  rintro v1 L1 ⟨nb4, hnb4, rfl, rfl⟩
  show JL _ _ _ _ ((5, Ptr nb4 0) :: _) [_, _, ⟨nb4, [U64 0] ++ cu8 (zr8 32) ++ cu8 (zr8 16), 161, (0, 0)⟩]
  refine A0 (AX 2 nb4 49 ([U64 0] ++ cu8 (zr8 32) ++ cu8 (zr8 16)) 161 ([U64 x1.e] ++ cu8 x1.d ++ cu8 x1.t) rfl rfl rfl CE (by simp [x1.hd, x1.ht]) (EO (EO (by simp [Value.oneCell']) CD) CD) (by simp [(AP 32), (AP 16)]) (A6 (by simp [(AP 32), (AP 16), x1.hd, x1.ht]))) rfl ?_
  show JL _ _ _ _ _ [_, _, ⟨nb4, [U64 x1.e] ++ cu8 x1.d ++ cu8 x1.t, 161, (0, 0)⟩]
  refine AI (AC (CT 29 5 [(0, Ptr nb3 2), (1, .slice none 0 0), (2, .agg ([U64 x1.e] ++ cu8 x1.d ++ cu8 x1.t).toArray)] BL rfl (by decide +kernel) ?_))
  refine C2 ⟨[], [0, 1, 2], [], [0, 1, 2], [3]⟩ 3 rfl rfl (by decide +kernel) rfl ⟨⟨_, rfl, AD rfl (AH 2 34 1 BD rfl CP rfl rfl)⟩, ⟨_, rfl, AD rfl (AL rfl (AZ D4 (AR 1 rfl (AS (AS (Seg.head))))))⟩, ⟨_, rfl, AD rfl (AL rfl (BH EY CE (by simp [x1.hd, x1.ht]) (AR 2 rfl (AN _))))⟩, trivial⟩ rfl (AW rfl (AY 93 [.agg ([U64 x1.e] ++ cu8 x1.d ++ cu8 x1.t).toArray] (.agg ([U64 x1.e] ++ cu8 x1.d ++ cu8 x1.t).toArray) (A4 _ Tryd.call93 rfl) (fun w1 hw1 => doc7_c x1.e x1.d x1.t w1 x1.hd x1.ht))) ?_
  show DP _ _ _ _ _ _ _ _ [_, _, _]
  refine CU ⟨[3], [0, 1, 2], [2], [0, 1], [4]⟩ 4 _ rfl rfl (by decide +kernel) rfl ⟨⟨_, rfl, AD rfl (AH 2 34 1 BD rfl CP rfl rfl)⟩, ⟨_, rfl, AD rfl (AL rfl (AZ D4 (AR 1 rfl (AS (AS (Seg.head))))))⟩, trivial⟩ rfl (AW rfl (BT 164 49 _ [(0, .agg ([U64 x1.e] ++ cu8 x1.d ++ cu8 x1.t).toArray)] ([U64 x1.e] ++ cu8 x1.d ++ cu8 x1.t) CM C9 EI rfl rfl rfl (fill_one (Z := [U64 0] ++ cu8 (zr8 32) ++ cu8 (zr8 16)) (by simp [x1.hd, x1.ht]) (by kernel_rfl) (by simp [zr8])))) ?_
  rintro v1 L1 ⟨nb5, hnb5, rfl, rfl⟩
  refine ⟨[], ?_⟩
  show DP _ _ _ _ _ _ _ _ [_, _, _, ⟨nb5, [U64 x1.e] ++ cu8 x1.d ++ cu8 x1.t, 164, (0, 0)⟩]
  refine CU ⟨[3, 4], [0, 1, 2], [2], [0, 1], [5]⟩ 5 _ rfl rfl (by decide +kernel) rfl ⟨⟨_, rfl, AD rfl (AH 2 34 1 BD rfl CP rfl rfl)⟩, ⟨_, rfl, AD rfl (AL rfl (AZ D4 (AR 1 rfl (AS (AS (Seg.head))))))⟩, trivial⟩ rfl (AW rfl (GK 34 164 56 (.agg ([U64 0] ++ cu8 (zr8 32) ++ cu8 (zr8 16)).toArray) [false, false, false, false] (.slice none 0 0) 0 ([] : List SealR) x1 (some ⟨nb5, 0, none⟩) 1 1 CM (by kernel_rfl) (by kernel_rfl) rfl (.inl ⟨rfl, rfl, rfl, rfl⟩) rfl (SrcAt.mem (AR 3 rfl (AN _))) (by omega) (by unfold maxLen; omega) (by omega))) ?_
  rintro v1 L1 ⟨nb6, sp1, cp1, hg1, rfl, rfl, ha1, ha2, ha3, ha4⟩
  refine ⟨[(6, Ptr nb3 2)], ?_⟩
  show DP _ _ _ _ _ _ _ _ [_, _, _, _, ⟨nb6, (([] : List SealR) ++ [x1]).flatMap sealC ++ sp1, 164, (0, 0)⟩]
  refine C2 ⟨[3, 4, 5], [0, 1, 2, 6], [0, 1, 2], [6], [7]⟩ 7 rfl rfl (by decide +kernel) rfl ⟨⟨_, rfl, AD rfl (AH 2 34 1 BD rfl CP rfl rfl)⟩, trivial⟩ rfl (AW rfl (CN 1 nb3 2 1 ([I64 (kd), .slice ai ni ci, .slice none 0 0, U64 bl]) 36 (Slc nb6 0 1 cp1) ([Slc nb6 0 1 cp1]) ([I64 (kd), .slice ai ni ci, Slc nb6 0 1 cp1, U64 bl]) rfl rfl rfl rfl CP rfl (by simp [Value.oneCell']) (Nat.le_of_ble_eq_true rfl) (rfl))) ?_
  show DP _ _ _ _ _ _ _ _ [_, ⟨nb3, [I64 (kd), .slice ai ni ci, Slc nb6 0 1 cp1, U64 bl], 36, (0, 0)⟩, _, _, _]
  refine DE ⟨[3, 4, 5, 7], [0, 1, 2, 6], [0, 1, 2, 6], [], []⟩ rfl rfl (by decide +kernel) rfl trivial ?_
  refine CC (F' := [(20, Ptr nb3 2), (21, .slice none 0 0), (22, .agg ([U64 x1.e] ++ cu8 x1.d ++ cu8 x1.t).toArray), (23, .agg ([U64 x1.e] ++ cu8 x1.d ++ cu8 x1.t).toArray), (24, Slc nb5 0 1 1), (25, Slc nb6 0 1 cp1), (26, Ptr nb3 2), (2, Ptr nb2 0), (3, Ptr nb3 0), (14, .slice sa ns sc), (15, I64 ns), (16, I64 0), (17, .bool (decide ((0:Int) < ((ns:Int))))), (18, Ptr bz1 oz1), (19, .agg ([U64 x1.e] ++ cu8 x1.d ++ cu8 x1.t).toArray), (5, Ptr nb4 0)]) (by kernel_rfl) ?_
  refine A5 (AC (AB (AA (I64 1) (AJ rfl rfl fun _ => BP _ _ (1:Int) (by omega) (by omega)) rfl ?_)))
  refine AA _ (AG rfl) rfl ?_
  refine AI (B6 (CA [true, true, false, false, true] ?_))
  show K _ _ [_, _, _] _
  refine DN (.inr (1, ([] : List SealR) ++ [x1], nb6, sp1, cp1)) ⟨by omega, by omega, take_step (i := 0) hx1, (ha1).trans (by first | rfl | simp +arith), (ha2).trans (by first | rfl | simp +arith), by omega, by omega⟩ (by first | (simp; omega) | simp | (dsimp only; omega) | omega) (Sub.all rfl) rfl
 ·
  obtain ⟨hi1, hi2, hi3, hi4, hi5, hi6, hi7⟩ := hx
  show JC _ _ _ [(2, Ptr nb2 0), (3, Ptr nb3 0), (14, .slice sa ns sc), (15, I64 ns), (16, I64 i)] [⟨nb2, [I64 0, .slice none 0 0, .slice none 0 0, U64 0], 36, (0, 0)⟩, ⟨nb3, [I64 (kd), .slice ai ni ci, Slc gb 0 i cp, U64 bl], 36, (0, 0)⟩, ⟨gb, (rr).flatMap sealC ++ sp, 164, (0, 0)⟩]
  refine AF (AB (AA (.bool (decide (((i:Int)) < ((ns:Int))))) (AJ rfl rfl fun _ => B9 _ _) rfl ?_))
  refine AI (AC (AF (B5 (decide (((i:Int)) < ((ns:Int)))) rfl (fun hb1 => ?_) (fun hb1 => ?_))))
  ·
   have hp1 : ((i:Int)) < ((ns:Int)) := of_decide_eq_true hb1
   refine BJ (AC (AF (A9 (AF (AB ?_)))))
   obtain ⟨x2, hx2⟩ : ∃ x, ls[i]? = some x := ⟨_, List.getElem?_eq_getElem (by rw [hls]; omega)⟩
   obtain ⟨bz2, oz2, hz2, hm2⟩ := rows_at F5 (by decide) hs hx2
   refine AA (Ptr bz2 (49*i + oz2)) (CL 161 49 (49*i + oz2) CQ CE rfl hz2 rfl (by omega) (by omega) (by omega)) rfl ?_
   refine AA (.agg ([U64 x2.e] ++ cu8 x2.d ++ cu8 x2.t).toArray) (AL rfl (BH EY CE (by simp [x2.hd, x2.ht]) (BW (hm2.mem (by simp)) (AN _) (by omega)))) rfl ?_
   refine AV (A7 _ ([U64 0] ++ cu8 (zr8 32) ++ cu8 (zr8 16)) D9 (by kernel_rfl)) rfl ?_
   rintro v1 L1 ⟨nb7, hnb7, rfl, rfl⟩
   show JL _ _ _ _ ((5, Ptr nb7 0) :: _) [_, _, _, ⟨nb7, [U64 0] ++ cu8 (zr8 32) ++ cu8 (zr8 16), 161, (0, 0)⟩]
   refine A0 (AX 3 nb7 49 ([U64 0] ++ cu8 (zr8 32) ++ cu8 (zr8 16)) 161 ([U64 x2.e] ++ cu8 x2.d ++ cu8 x2.t) rfl rfl rfl CE (by simp [x2.hd, x2.ht]) (EO (EO (by simp [Value.oneCell']) CD) CD) (by simp [(AP 32), (AP 16)]) (A6 (by simp [(AP 32), (AP 16), x2.hd, x2.ht]))) rfl ?_
   show JL _ _ _ _ _ [_, _, _, ⟨nb7, [U64 x2.e] ++ cu8 x2.d ++ cu8 x2.t, 161, (0, 0)⟩]
   refine AI (AC (CT 29 5 [(0, Ptr nb3 2), (1, Slc gb 0 i cp), (2, .agg ([U64 x2.e] ++ cu8 x2.d ++ cu8 x2.t).toArray)] BL rfl (by decide +kernel) ?_))
   refine C2 ⟨[], [0, 1, 2], [], [0, 1, 2], [3]⟩ 3 rfl rfl (by decide +kernel) rfl ⟨⟨_, rfl, AD rfl (AH 2 34 1 BD rfl CP rfl rfl)⟩, ⟨_, rfl, AD rfl (AL rfl (AZ D4 (AR 1 rfl (AS (AS (Seg.head))))))⟩, ⟨_, rfl, AD rfl (AL rfl (BH EY CE (by simp [x2.hd, x2.ht]) (AR 3 rfl (AN _))))⟩, trivial⟩ rfl (AW rfl (AY 93 [.agg ([U64 x2.e] ++ cu8 x2.d ++ cu8 x2.t).toArray] (.agg ([U64 x2.e] ++ cu8 x2.d ++ cu8 x2.t).toArray) (A4 _ Tryd.call93 rfl) (fun w1 hw1 => doc7_c x2.e x2.d x2.t w1 x2.hd x2.ht))) ?_
   show DP _ _ _ _ _ _ _ _ [_, _, _, _]
   refine CU ⟨[3], [0, 1, 2], [2], [0, 1], [4]⟩ 4 _ rfl rfl (by decide +kernel) rfl ⟨⟨_, rfl, AD rfl (AH 2 34 1 BD rfl CP rfl rfl)⟩, ⟨_, rfl, AD rfl (AL rfl (AZ D4 (AR 1 rfl (AS (AS (Seg.head))))))⟩, trivial⟩ rfl (AW rfl (BT 164 49 _ [(0, .agg ([U64 x2.e] ++ cu8 x2.d ++ cu8 x2.t).toArray)] ([U64 x2.e] ++ cu8 x2.d ++ cu8 x2.t) CM C9 EI rfl rfl rfl (fill_one (Z := [U64 0] ++ cu8 (zr8 32) ++ cu8 (zr8 16)) (by simp [x2.hd, x2.ht]) (by kernel_rfl) (by simp [zr8])))) ?_
   rintro v1 L1 ⟨nb8, hnb8, rfl, rfl⟩
   refine ⟨[], ?_⟩
   show DP _ _ _ _ _ _ _ _ [_, _, _, _, ⟨nb8, [U64 x2.e] ++ cu8 x2.d ++ cu8 x2.t, 164, (0, 0)⟩]
   refine CU ⟨[3, 4], [0, 1, 2], [2], [0, 1], [5]⟩ 5 _ rfl rfl (by decide +kernel) rfl ⟨⟨_, rfl, AD rfl (AH 2 34 1 BD rfl CP rfl rfl)⟩, ⟨_, rfl, AD rfl (AL rfl (AZ D4 (AR 1 rfl (AS (AS (Seg.head))))))⟩, trivial⟩ rfl (AW rfl (GK 34 164 56 (.agg ([U64 0] ++ cu8 (zr8 32) ++ cu8 (zr8 16)).toArray) [false, false, true, false, false] (Slc gb 0 i cp) i rr x2 (some ⟨nb8, 0, none⟩) 1 (i + 1) CM (by kernel_rfl) (by kernel_rfl) rfl (.inr ⟨gb, sp, cp, rfl, rfl, (by have h : (rr).length = i := hi4; omega), (by first | exact hi5 | omega), (by omega), (by omega)⟩) rfl (SrcAt.mem (AR 4 rfl (AN _))) (by omega) (by unfold maxLen; omega) (by omega))) ?_
   rintro v1 L1 ⟨nb9, sp2, cp2, hg2, rfl, rfl, ha5, ha6, ha7, ha8⟩
   refine ⟨[(6, Ptr nb3 2)], ?_⟩
   show DP _ _ _ _ _ _ _ _ [_, _, _, _, ⟨nb9, (rr ++ [x2]).flatMap sealC ++ sp2, 164, (0, 0)⟩]
   refine C2 ⟨[3, 4, 5], [0, 1, 2, 6], [0, 1, 2], [6], [7]⟩ 7 rfl rfl (by decide +kernel) rfl ⟨⟨_, rfl, AD rfl (AH 2 34 1 BD rfl CP rfl rfl)⟩, trivial⟩ rfl (AW rfl (CN 1 nb3 2 1 ([I64 (kd), .slice ai ni ci, Slc gb 0 i cp, U64 bl]) 36 (Slc nb9 0 (i + 1) cp2) ([Slc nb9 0 (i + 1) cp2]) ([I64 (kd), .slice ai ni ci, Slc nb9 0 (i + 1) cp2, U64 bl]) rfl rfl rfl rfl CP rfl (by simp [Value.oneCell']) (Nat.le_of_ble_eq_true rfl) (rfl))) ?_
   show DP _ _ _ _ _ _ _ _ [_, ⟨nb3, [I64 (kd), .slice ai ni ci, Slc nb9 0 (i + 1) cp2, U64 bl], 36, (0, 0)⟩, _, _, _]
   refine DE ⟨[3, 4, 5, 7], [0, 1, 2, 6], [0, 1, 2, 6], [], []⟩ rfl rfl (by decide +kernel) rfl trivial ?_
   refine CC (F' := [(20, Ptr nb3 2), (21, Slc gb 0 i cp), (22, .agg ([U64 x2.e] ++ cu8 x2.d ++ cu8 x2.t).toArray), (23, .agg ([U64 x2.e] ++ cu8 x2.d ++ cu8 x2.t).toArray), (24, Slc nb8 0 1 1), (25, Slc nb9 0 (i + 1) cp2), (26, Ptr nb3 2), (2, Ptr nb2 0), (3, Ptr nb3 0), (14, .slice sa ns sc), (15, I64 ns), (16, I64 i), (17, .bool (decide (((i:Int)) < ((ns:Int))))), (18, Ptr bz2 (49*i + oz2)), (19, .agg ([U64 x2.e] ++ cu8 x2.d ++ cu8 x2.t).toArray), (5, Ptr nb7 0)]) (by kernel_rfl) ?_
   refine A5 (AC (AB (AA (I64 ((i:Int) + 1)) (AJ rfl rfl fun _ => BP _ _ ((i:Int) + 1) (by omega) (by omega)) rfl ?_)))
   refine AA _ (AG rfl) rfl ?_
   refine AI (B6 (CA [true, true, false, false, true] ?_))
   show K _ _ [_, _, _] _
   refine DN (.inr (i + 1, rr ++ [x2], nb9, sp2, cp2)) ⟨by omega, by omega, (by rw [hi3]; exact take_step hx2), (ha5).trans (by first | rfl | simp +arith), (ha6).trans (by first | rfl | simp +arith), by omega, by omega⟩ (by first | (simp; omega) | simp | (dsimp only; omega) | omega) (Sub.all rfl) rfl
  ·
   have hp1 : ¬ (((i:Int)) < ((ns:Int))) := of_decide_eq_false hb1
   refine DA (AQ (AQ (BV (AC (AF (AB (AA (.agg #[I64 (kd), .slice ai ni ci, Slc gb 0 i cp, U64 bl]) (AL rfl (BH EL B0 rfl (AR 1 rfl (AN _)))) rfl ?_)))))))
   refine A0 (AX 0 nb2 4 ([I64 0, .slice none 0 0, .slice none 0 0, U64 0]) 36 ([I64 (kd), .slice ai ni ci, Slc gb 0 i cp, U64 bl]) rfl rfl rfl B0 rfl (by simp [Value.oneCell']) (Nat.le_of_ble_eq_true rfl) (A6 (by simp []))) rfl ?_
   show JL _ _ _ _ _ [⟨nb2, [I64 (kd), .slice ai ni ci, Slc gb 0 i cp, U64 bl], 36, (0, 0)⟩, _, _]
   refine AI (AC (BO (CA [true, false, true] ?_)))
   show JQ _ _ _ _ [_, _]
   refine BQ (.agg #[I64 (kd), .slice ai ni ci, Slc gb 0 i cp, U64 bl]) (res1 Tryd.results66 (DY rfl (BH EL B0 rfl (AR 0 rfl (AN _))))) fun w1 hw1 => ?_
   obtain rfl : i = ns := by omega
   have hr : rr = ls := by rw [hi3]; exact List.take_of_length_le (by omega)
   rw [hr] at hw1
   exact ⟨_, _, rfl, ⟨gb, sp, cp, rfl, rfl, by omega, by omega, hi7⟩, hw1.sub (by simp) (by simp)⟩
end Go.Proofs.YtkdpdgpphpngeaaDoor
namespace Go.Proofs.YtkdpdgpphpngeaaDoor
open Go Go.Sx
attribute [local irreducible] mid zr8 zr32 numK rnK rotr wordL spreadL comprL cpN adN spN wrdN constL initL padL stN outN routN sumG putL RightB
theorem rright13_c (kd : Int) (ai : Option Addr) (ni ci : Nat) (l : List UInt64) (sa : Option Addr) (ns sc : Nat) (ls : List SealR) (bl : UInt64)  (w : World) (hl : l.length = ni) (hnm : ni ≤ 2000000) (hnc : ni ≤ ci) (hcm : ci ≤ maxLen) (hv : RdV w ai (cu64 l)) (hls : ls.length = ns) (hnn : ns ≤ 2000000) (hnd : ns ≤ sc) (hcn : sc ≤ maxLen) (hs : RdV w sa (ls.flatMap sealC))  : Calls Tryd.prog 67 #[.agg #[I64 (kd), .slice ai ni ci, .slice sa ns sc, U64 bl]] w (Post w [] (fun v L => v = .bool (RightO kd l ls bl) ∧ L = [])) := by
 have hmx : maxLen = 9223372036854775807 := rfl
 refine enter (P := Tryd.prog) (f := 67) (fn := Tryd.f67) w [] 89 [] [.agg #[I64 (kd), .slice ai ni ci, .slice sa ns sc, U64 bl]] Tryd.func67 rfl rfl (by simp) (BR (by simp) (by simp) (by simp)) ?_
 show JC _ _ _ [(0, .agg #[I64 (kd), .slice ai ni ci, .slice sa ns sc, U64 bl])] _
 refine AF (AB (AV (CG (.agg #[I64 (kd), .slice ai ni ci, .slice sa ns sc, U64 bl]) ([I64 (kd), .slice ai ni ci, .slice sa ns sc, U64 bl]) rfl (by first | rfl | simp)) rfl ?_))
 rintro v1 L1 ⟨nb1, hnb1, rfl, rfl⟩
 show JL _ _ _ _ ((1, Ptr nb1 0) :: _) [⟨nb1, [I64 (kd), .slice ai ni ci, .slice sa ns sc, U64 bl], 36, (0, 0)⟩]
 refine AA _ (AE rfl) rfl ?_
 refine AI (AC (AF (AF (AB (AA (Ptr nb1 0) (AH 0 3 1 BD rfl DR rfl rfl) rfl ?_)))))
 refine AA (I64 (kd)) (AL rfl (AZ DC (AR 0 rfl (Seg.head)))) rfl ?_
 refine AA (.bool (decide ((kd) = (3:Int)))) (AJ rfl rfl fun _ => D6 _ _) rfl ?_
 refine AI (AC (B5 (decide ((kd) = (3:Int))) rfl (fun hb1 => ?_) (fun hb1 => ?_)))
 ·
  have hp1 : (kd) = (3:Int) := of_decide_eq_true hb1
  refine AF (AB (AA (Ptr nb1 1) (AH 1 23 1 BD rfl CV rfl rfl) rfl ?_))
  refine AA (.slice ai ni ci) (AL rfl (AZ DB (AR 0 rfl (AS (Seg.head))))) rfl ?_
  refine AA (I64 ni) (DW BI rfl) rfl ?_
  refine AA (.bool (decide (((ni:Int)) = (0:Int)))) (AJ rfl rfl fun _ => D6 _ _) rfl ?_
  refine AA _ (AG rfl) rfl ?_
  rcases Bool.eq_false_or_eq_true (decide (((ni:Int)) = (0:Int))) with hb2 | hb2
  ·
   have hp2 : ((ni:Int)) = (0:Int) := of_decide_eq_true hb2
   refine BB 4 11 true _ (Ptr nb1 2) rfl rfl hb2 (AH 2 34 1 BD rfl CP rfl rfl) rfl ?_
   refine BB 4 11 true _ (.slice sa ns sc) rfl rfl hb2 (AL rfl (AZ D4 (AR 0 rfl (AS (AS (Seg.head)))))) rfl ?_
   refine BB 4 11 true _ (I64 ns) rfl rfl hb2 (DW CM rfl) rfl ?_
   refine BB 4 11 true _ (.bool (decide (((ns:Int)) = (0:Int)))) rfl rfl hb2 (AJ rfl rfl fun _ => D6 _ _) rfl ?_
   refine AA _ (CW _ rfl hb2 rfl) rfl ?_
   refine AA _ (AG rfl) rfl ?_
   rcases Bool.eq_false_or_eq_true (decide (((ns:Int)) = (0:Int))) with hb3 | hb3
   ·
    have hp3 : ((ns:Int)) = (0:Int) := of_decide_eq_true hb3
    refine BB 10 17 true _ (Ptr nb1 3) rfl rfl hb3 (AH 3 22 1 BD rfl BC rfl rfl) rfl ?_
    refine BB 10 17 true _ (U64 bl) rfl rfl hb3 (AL rfl (AZ BG (AR 0 rfl (AS (AS (AS (Seg.head))))))) rfl ?_
    refine BB 10 17 true _ (.bool (decide ((0:UInt64) < bl))) rfl rfl hb3 (AJ rfl rfl fun _ => bin_gtr_u64 bl (0:UInt64)) rfl ?_
    refine AA _ (CW _ rfl hb3 rfl) rfl ?_
    refine AA _ (AG rfl) rfl ?_
    rcases Bool.eq_false_or_eq_true (decide ((0:UInt64) < bl)) with hb4 | hb4
    ·
     have hp4 : (0:UInt64) < bl := of_decide_eq_true hb4
     refine BB 15 22 true _ (Ptr nb1 3) rfl rfl hb4 (AH 3 22 1 BD rfl BC rfl rfl) rfl ?_
     refine BB 15 22 true _ (U64 bl) rfl rfl hb4 (AL rfl (AZ BG (AR 0 rfl (AS (AS (AS (Seg.head))))))) rfl ?_
     refine BB 15 22 true _ (.bool (decide (bl ≤ (4294967296:UInt64)))) rfl rfl hb4 (AJ rfl rfl fun _ => bin_leq_u64 bl (4294967296:UInt64)) rfl ?_
     refine AA _ (CW _ rfl hb4 rfl) rfl ?_
     refine AA _ (AE rfl) rfl ?_
     refine AI (AC (BO (A3 (CA [false] ?_))))
     show JQ _ _ _ _ []
     refine BQ (.bool (decide (bl ≤ (4294967296:UInt64)))) (res1 EU (B2 rfl)) fun w1 hw1 => ?_
     refine ⟨_, [], rfl, ⟨congrArg Value.bool ?_, rfl⟩, hw1.sub (by simp) (by simp)⟩
     unfold RightO
     rw [hl, hls]
     first | rw [if_pos (show kd = 1 by omega)] | rw [if_neg (show ¬ kd = 1 by omega), if_pos (show kd = 2 by omega)] | rw [if_neg (show ¬ kd = 1 by omega), if_neg (show ¬ kd = 2 by omega), if_pos (show kd = 3 by omega)] | rw [if_neg (show ¬ kd = 1 by omega), if_neg (show ¬ kd = 2 by omega), if_neg (show ¬ kd = 3 by omega)]
     rw [show decide ((1:UInt64) ≤ bl) = decide ((0:UInt64) < bl) from decide_eq_decide.2 (bl_pos bl).symm]
     first | rw [decide_eq_true (show ni + ns = 0 by omega), Bool.true_and] | rw [decide_eq_false (show ¬ ni + ns = 0 by omega), Bool.false_and]
     all_goals (first | rfl | (simp only [*, Bool.true_and, Bool.false_and, Bool.and_true, Bool.and_false, Bool.not_true, Bool.not_false]; done) | (simp [*]; done))
    ·
     have hp4 : ¬ ((0:UInt64) < bl) := of_decide_eq_false hb4
     refine AO 15 22 true _ rfl rfl hb4 rfl ?_
     refine AO 15 22 true _ rfl rfl hb4 rfl ?_
     refine AO 15 22 true _ rfl rfl hb4 rfl ?_
     refine AA _ (C0 _ rfl hb4 rfl) rfl ?_
     refine AA _ (AE rfl) rfl ?_
     refine AI (AC (BO (A3 (CA [false] ?_))))
     show JQ _ _ _ _ []
     refine BQ (.bool false) (res1 EU (B2 rfl)) fun w1 hw1 => ?_
     refine ⟨_, [], rfl, ⟨congrArg Value.bool ?_, rfl⟩, hw1.sub (by simp) (by simp)⟩
     unfold RightO
     rw [hl, hls]
     first | rw [if_pos (show kd = 1 by omega)] | rw [if_neg (show ¬ kd = 1 by omega), if_pos (show kd = 2 by omega)] | rw [if_neg (show ¬ kd = 1 by omega), if_neg (show ¬ kd = 2 by omega), if_pos (show kd = 3 by omega)] | rw [if_neg (show ¬ kd = 1 by omega), if_neg (show ¬ kd = 2 by omega), if_neg (show ¬ kd = 3 by omega)]
     rw [show decide ((1:UInt64) ≤ bl) = decide ((0:UInt64) < bl) from decide_eq_decide.2 (bl_pos bl).symm]
     first | rw [decide_eq_true (show ni + ns = 0 by omega), Bool.true_and] | rw [decide_eq_false (show ¬ ni + ns = 0 by omega), Bool.false_and]
     all_goals (first | rfl | (simp only [*, Bool.true_and, Bool.false_and, Bool.and_true, Bool.and_false, Bool.not_true, Bool.not_false]; done) | (simp [*]; done))
   ·
    have hp3 : ¬ (((ns:Int)) = (0:Int)) := of_decide_eq_false hb3
    refine AO 10 17 true _ rfl rfl hb3 rfl ?_
    refine AO 10 17 true _ rfl rfl hb3 rfl ?_
    refine AO 10 17 true _ rfl rfl hb3 rfl ?_
    refine AA _ (C0 _ rfl hb3 rfl) rfl ?_
    refine AA _ (AG rfl) rfl ?_
    refine AO 15 22 true _ rfl rfl rfl rfl ?_
    refine AO 15 22 true _ rfl rfl rfl rfl ?_
    refine AO 15 22 true _ rfl rfl rfl rfl ?_
    refine AA _ (C0 _ rfl rfl rfl) rfl ?_
    refine AA _ (AE rfl) rfl ?_
    refine AI (AC (BO (A3 (CA [false] ?_))))
    show JQ _ _ _ _ []
    refine BQ (.bool false) (res1 EU (B2 rfl)) fun w1 hw1 => ?_
    refine ⟨_, [], rfl, ⟨congrArg Value.bool ?_, rfl⟩, hw1.sub (by simp) (by simp)⟩
    unfold RightO
    rw [hl, hls]
    first | rw [if_pos (show kd = 1 by omega)] | rw [if_neg (show ¬ kd = 1 by omega), if_pos (show kd = 2 by omega)] | rw [if_neg (show ¬ kd = 1 by omega), if_neg (show ¬ kd = 2 by omega), if_pos (show kd = 3 by omega)] | rw [if_neg (show ¬ kd = 1 by omega), if_neg (show ¬ kd = 2 by omega), if_neg (show ¬ kd = 3 by omega)]
    rw [show decide ((1:UInt64) ≤ bl) = decide ((0:UInt64) < bl) from decide_eq_decide.2 (bl_pos bl).symm]
    first | rw [decide_eq_true (show ni + ns = 0 by omega), Bool.true_and] | rw [decide_eq_false (show ¬ ni + ns = 0 by omega), Bool.false_and]
    all_goals (first | rfl | (simp only [*, Bool.true_and, Bool.false_and, Bool.and_true, Bool.and_false, Bool.not_true, Bool.not_false]; done) | (simp [*]; done))
  ·
   have hp2 : ¬ (((ni:Int)) = (0:Int)) := of_decide_eq_false hb2
   refine AO 4 11 true _ rfl rfl hb2 rfl ?_
   refine AO 4 11 true _ rfl rfl hb2 rfl ?_
   refine AO 4 11 true _ rfl rfl hb2 rfl ?_
   refine AO 4 11 true _ rfl rfl hb2 rfl ?_
   refine AA _ (C0 _ rfl hb2 rfl) rfl ?_
   refine AA _ (AG rfl) rfl ?_
   refine AO 10 17 true _ rfl rfl rfl rfl ?_
   refine AO 10 17 true _ rfl rfl rfl rfl ?_
   refine AO 10 17 true _ rfl rfl rfl rfl ?_
   refine AA _ (C0 _ rfl rfl rfl) rfl ?_
   refine AA _ (AG rfl) rfl ?_
   refine AO 15 22 true _ rfl rfl rfl rfl ?_
   refine AO 15 22 true _ rfl rfl rfl rfl ?_
   refine AO 15 22 true _ rfl rfl rfl rfl ?_
   refine AA _ (C0 _ rfl rfl rfl) rfl ?_
   refine AA _ (AE rfl) rfl ?_
   refine AI (AC (BO (A3 (CA [false] ?_))))
   show JQ _ _ _ _ []
   refine BQ (.bool false) (res1 EU (B2 rfl)) fun w1 hw1 => ?_
   refine ⟨_, [], rfl, ⟨congrArg Value.bool ?_, rfl⟩, hw1.sub (by simp) (by simp)⟩
   unfold RightO
   rw [hl, hls]
   first | rw [if_pos (show kd = 1 by omega)] | rw [if_neg (show ¬ kd = 1 by omega), if_pos (show kd = 2 by omega)] | rw [if_neg (show ¬ kd = 1 by omega), if_neg (show ¬ kd = 2 by omega), if_pos (show kd = 3 by omega)] | rw [if_neg (show ¬ kd = 1 by omega), if_neg (show ¬ kd = 2 by omega), if_neg (show ¬ kd = 3 by omega)]
   rw [show decide ((1:UInt64) ≤ bl) = decide ((0:UInt64) < bl) from decide_eq_decide.2 (bl_pos bl).symm]
   first | rw [decide_eq_true (show ni + ns = 0 by omega), Bool.true_and] | rw [decide_eq_false (show ¬ ni + ns = 0 by omega), Bool.false_and]
   all_goals (first | rfl | (simp only [*, Bool.true_and, Bool.false_and, Bool.and_true, Bool.and_false, Bool.not_true, Bool.not_false]; done) | (simp [*]; done))
 ·
  have hp1 : ¬ ((kd) = (3:Int)) := of_decide_eq_false hb1
  refine BJ (AC (AF (AF (AB (AA (Ptr nb1 0) (AH 0 3 1 BD rfl DR rfl rfl) rfl ?_)))))
  refine AA (I64 (kd)) (AL rfl (AZ DC (AR 0 rfl (Seg.head)))) rfl ?_
  refine AA (.bool (decide ((kd) ≠ (1:Int)))) (AJ rfl rfl fun _ => FU _ _) rfl ?_
  refine AA _ (AG rfl) rfl ?_
  rcases Bool.eq_false_or_eq_true (decide ((kd) ≠ (1:Int))) with hb5 | hb5
  ·
   have hp5 : (kd) ≠ (1:Int) := of_decide_eq_true hb5
   refine BB 3 30 true _ (Ptr nb1 0) rfl rfl hb5 (AH 0 3 1 BD rfl DR rfl rfl) rfl ?_
   refine BB 3 30 true _ (I64 (kd)) rfl rfl hb5 (AL rfl (AZ DC (AR 0 rfl (Seg.head)))) rfl ?_
   refine BB 3 30 true _ (.bool (decide ((kd) ≠ (2:Int)))) rfl rfl hb5 (AJ rfl rfl fun _ => FU _ _) rfl ?_
   refine AA _ (CW _ rfl hb5 rfl) rfl ?_
   refine AA _ (AG rfl) rfl ?_
   rcases Bool.eq_false_or_eq_true (decide ((kd) ≠ (2:Int))) with hb6 | hb6
   ·
    have hp6 : (kd) ≠ (2:Int) := of_decide_eq_true hb6
    refine AO 8 35 false _ rfl rfl hb6 rfl ?_
    refine AO 8 35 false _ rfl rfl hb6 rfl ?_
    refine AO 8 35 false _ rfl rfl hb6 rfl ?_
    refine AA _ (CW _ rfl hb6 rfl) rfl ?_
    refine AA _ (AG rfl) rfl ?_
    refine AO 13 40 false _ rfl rfl rfl rfl ?_
    refine AO 13 40 false _ rfl rfl rfl rfl ?_
    refine AO 13 40 false _ rfl rfl rfl rfl ?_
    refine AO 13 40 false _ rfl rfl rfl rfl ?_
    refine AA _ (CW _ rfl rfl rfl) rfl ?_
    refine AI (AC (D1 _ rfl rfl ?_))
    refine AF (AB (AA _ (AE rfl) rfl ?_))
    refine AI (AC (BO (A3 (CA [false] ?_))))
    show JQ _ _ _ _ []
    refine BQ (.bool false) (res1 EU (B2 rfl)) fun w1 hw1 => ?_
    refine ⟨_, [], rfl, ⟨congrArg Value.bool ?_, rfl⟩, hw1.sub (by simp) (by simp)⟩
    unfold RightO
    rw [hl, hls]
    first | rw [if_pos (show kd = 1 by omega)] | rw [if_neg (show ¬ kd = 1 by omega), if_pos (show kd = 2 by omega)] | rw [if_neg (show ¬ kd = 1 by omega), if_neg (show ¬ kd = 2 by omega), if_pos (show kd = 3 by omega)] | rw [if_neg (show ¬ kd = 1 by omega), if_neg (show ¬ kd = 2 by omega), if_neg (show ¬ kd = 3 by omega)]
    all_goals (first | rfl | (simp [*]; done) | (simp_all; done) | (simp_all; omega))
   ·
    have hp6 : ¬ ((kd) ≠ (2:Int)) := of_decide_eq_false hb6
    refine BB 8 35 false _ (Ptr nb1 3) rfl rfl hb6 (AH 3 22 1 BD rfl BC rfl rfl) rfl ?_
    refine BB 8 35 false _ (U64 bl) rfl rfl hb6 (AL rfl (AZ BG (AR 0 rfl (AS (AS (AS (Seg.head))))))) rfl ?_
    refine BB 8 35 false _ (.bool (decide (bl ≠ (0:UInt64)))) rfl rfl hb6 (AJ rfl rfl fun _ => FD bl (0:UInt64)) rfl ?_
    refine AA _ (C0 _ rfl hb6 rfl) rfl ?_
    refine AA _ (AG rfl) rfl ?_
    rcases Bool.eq_false_or_eq_true (decide (bl ≠ (0:UInt64))) with hb7 | hb7
    ·
     have hp7 : bl ≠ (0:UInt64) := of_decide_eq_true hb7
     refine AO 13 40 false _ rfl rfl hb7 rfl ?_
     refine AO 13 40 false _ rfl rfl hb7 rfl ?_
     refine AO 13 40 false _ rfl rfl hb7 rfl ?_
     refine AO 13 40 false _ rfl rfl hb7 rfl ?_
     refine AA _ (CW _ rfl hb7 rfl) rfl ?_
     refine AI (AC (D1 _ rfl rfl ?_))
     refine AF (AB (AA _ (AE rfl) rfl ?_))
     refine AI (AC (BO (A3 (CA [false] ?_))))
     show JQ _ _ _ _ []
     refine BQ (.bool false) (res1 EU (B2 rfl)) fun w1 hw1 => ?_
     refine ⟨_, [], rfl, ⟨congrArg Value.bool ?_, rfl⟩, hw1.sub (by simp) (by simp)⟩
     unfold RightO
     rw [hl, hls]
     first | rw [if_pos (show kd = 1 by omega)] | rw [if_neg (show ¬ kd = 1 by omega), if_pos (show kd = 2 by omega)] | rw [if_neg (show ¬ kd = 1 by omega), if_neg (show ¬ kd = 2 by omega), if_pos (show kd = 3 by omega)] | rw [if_neg (show ¬ kd = 1 by omega), if_neg (show ¬ kd = 2 by omega), if_neg (show ¬ kd = 3 by omega)]
     all_goals (first | rfl | (simp [*]; done) | (simp_all; done) | (simp_all; omega))
    ·
     have hp7 : ¬ (bl ≠ (0:UInt64)) := of_decide_eq_false hb7
     refine BB 13 40 false _ (Ptr nb1 1) rfl rfl hb7 (AH 1 23 1 BD rfl CV rfl rfl) rfl ?_
     refine BB 13 40 false _ (.slice ai ni ci) rfl rfl hb7 (AL rfl (AZ DB (AR 0 rfl (AS (Seg.head))))) rfl ?_
     refine JL_gstep 13 40 false _ rfl rfl hb7 (AY 79 [I64 32, .slice ai ni ci] (.bool (decide (RightI l))) (A4 _ Tryd.call79 rfl) (fun w1 hw1 => rpright_c ai ni ci l w1 hl (by omega) (by omega) (by omega) (FT hw1 rfl hv))) rfl ?_
     rintro v1 L1 ⟨rfl, rfl⟩
     show JL _ _ _ _ ((43, .bool (decide (RightI l))) :: _) [_]
     refine BB 13 40 false _ (.bool (!(decide (RightI l)))) rfl rfl hb7 (FV rfl) rfl ?_
     refine AA _ (C0 _ rfl hb7 rfl) rfl ?_
     refine AI (AC (B5 (!(decide (RightI l))) rfl (fun hb8 => ?_) (fun hb8 => ?_)))
     ·
      have hb9 : (decide (RightI l)) = false := by simpa using hb8
      have hp9 : ¬ (RightI l) := of_decide_eq_false hb9
      refine AF (AB (AA _ (AE rfl) rfl ?_))
      refine AI (AC (BO (A3 (CA [false] ?_))))
      show JQ _ _ _ _ []
      refine BQ (.bool false) (res1 EU (B2 rfl)) fun w1 hw1 => ?_
      refine ⟨_, [], rfl, ⟨congrArg Value.bool ?_, rfl⟩, hw1.sub (by simp) (by simp)⟩
      unfold RightO
      rw [hl, hls]
      first | rw [if_pos (show kd = 1 by omega)] | rw [if_neg (show ¬ kd = 1 by omega), if_pos (show kd = 2 by omega)] | rw [if_neg (show ¬ kd = 1 by omega), if_neg (show ¬ kd = 2 by omega), if_pos (show kd = 3 by omega)] | rw [if_neg (show ¬ kd = 1 by omega), if_neg (show ¬ kd = 2 by omega), if_neg (show ¬ kd = 3 by omega)]
      all_goals (first | rfl | (simp [*]; done) | (simp_all; done) | (simp_all; omega))
     ·
      have hb10 : (decide (RightI l)) = true := by simpa using hb8
      have hp10 : RightI l := of_decide_eq_true hb10
      refine BJ (AC (AF (AF (AB (AA (Ptr nb1 0) (AH 0 3 1 BD rfl DR rfl rfl) rfl ?_)))))
      refine AA (I64 (kd)) (AL rfl (AZ DC (AR 0 rfl (Seg.head)))) rfl ?_
      refine AA (.bool (decide ((kd) = (2:Int)))) (AJ rfl rfl fun _ => D6 _ _) rfl ?_
      refine AI (AC (D1 _ rfl (decide_eq_true (by have := of_decide_eq_false hb6; omega)) ?_))
      refine AF (AB (AA (Ptr nb1 2) (AH 2 34 1 BD rfl CP rfl rfl) rfl ?_))
      refine AA (.slice sa ns sc) (AL rfl (AZ D4 (AR 0 rfl (AS (AS (Seg.head)))))) rfl ?_
      refine AA (I64 ns) (DW CM rfl) rfl ?_
      refine AA (.bool (decide (((ns:Int)) = (0:Int)))) (AJ rfl rfl fun _ => D6 _ _) rfl ?_
      refine AA _ (AE rfl) rfl ?_
      refine AI (AC (BO (A3 (CA [false] ?_))))
      show JQ _ _ _ _ []
      refine BQ (.bool (decide (((ns:Int)) = (0:Int)))) (res1 EU (B2 rfl)) fun w1 hw1 => ?_
      refine ⟨_, [], rfl, ⟨congrArg Value.bool ?_, rfl⟩, hw1.sub (by simp) (by simp)⟩
      unfold RightO
      rw [hl, hls]
      first | rw [if_pos (show kd = 1 by omega)] | rw [if_neg (show ¬ kd = 1 by omega), if_pos (show kd = 2 by omega)] | rw [if_neg (show ¬ kd = 1 by omega), if_neg (show ¬ kd = 2 by omega), if_pos (show kd = 3 by omega)] | rw [if_neg (show ¬ kd = 1 by omega), if_neg (show ¬ kd = 2 by omega), if_neg (show ¬ kd = 3 by omega)]
      all_goals (first | rfl | (simp [*]; done) | (simp_all; done) | (simp_all; omega))
  ·
   have hp5 : ¬ ((kd) ≠ (1:Int)) := of_decide_eq_false hb5
   refine AO 3 30 true _ rfl rfl hb5 rfl ?_
   refine AO 3 30 true _ rfl rfl hb5 rfl ?_
   refine AO 3 30 true _ rfl rfl hb5 rfl ?_
   refine AA _ (C0 _ rfl hb5 rfl) rfl ?_
   refine AA _ (AG rfl) rfl ?_
   refine BB 8 35 false _ (Ptr nb1 3) rfl rfl rfl (AH 3 22 1 BD rfl BC rfl rfl) rfl ?_
   refine BB 8 35 false _ (U64 bl) rfl rfl rfl (AL rfl (AZ BG (AR 0 rfl (AS (AS (AS (Seg.head))))))) rfl ?_
   refine BB 8 35 false _ (.bool (decide (bl ≠ (0:UInt64)))) rfl rfl rfl (AJ rfl rfl fun _ => FD bl (0:UInt64)) rfl ?_
   refine AA _ (C0 _ rfl rfl rfl) rfl ?_
   refine AA _ (AG rfl) rfl ?_
   rcases Bool.eq_false_or_eq_true (decide (bl ≠ (0:UInt64))) with hb11 | hb11
   ·
    have hp11 : bl ≠ (0:UInt64) := of_decide_eq_true hb11
    refine AO 13 40 false _ rfl rfl hb11 rfl ?_
    refine AO 13 40 false _ rfl rfl hb11 rfl ?_
    refine AO 13 40 false _ rfl rfl hb11 rfl ?_
    refine AO 13 40 false _ rfl rfl hb11 rfl ?_
    refine AA _ (CW _ rfl hb11 rfl) rfl ?_
    refine AI (AC (D1 _ rfl rfl ?_))
    refine AF (AB (AA _ (AE rfl) rfl ?_))
    refine AI (AC (BO (A3 (CA [false] ?_))))
    show JQ _ _ _ _ []
    refine BQ (.bool false) (res1 EU (B2 rfl)) fun w1 hw1 => ?_
    refine ⟨_, [], rfl, ⟨congrArg Value.bool ?_, rfl⟩, hw1.sub (by simp) (by simp)⟩
    unfold RightO
    rw [hl, hls]
    first | rw [if_pos (show kd = 1 by omega)] | rw [if_neg (show ¬ kd = 1 by omega), if_pos (show kd = 2 by omega)] | rw [if_neg (show ¬ kd = 1 by omega), if_neg (show ¬ kd = 2 by omega), if_pos (show kd = 3 by omega)] | rw [if_neg (show ¬ kd = 1 by omega), if_neg (show ¬ kd = 2 by omega), if_neg (show ¬ kd = 3 by omega)]
    all_goals (first | rfl | (simp [*]; done) | (simp_all; done) | (simp_all; omega))
   ·
    have hp11 : ¬ (bl ≠ (0:UInt64)) := of_decide_eq_false hb11
    refine BB 13 40 false _ (Ptr nb1 1) rfl rfl hb11 (AH 1 23 1 BD rfl CV rfl rfl) rfl ?_
    refine BB 13 40 false _ (.slice ai ni ci) rfl rfl hb11 (AL rfl (AZ DB (AR 0 rfl (AS (Seg.head))))) rfl ?_
    refine JL_gstep 13 40 false _ rfl rfl hb11 (AY 79 [I64 32, .slice ai ni ci] (.bool (decide (RightI l))) (A4 _ Tryd.call79 rfl) (fun w1 hw1 => rpright_c ai ni ci l w1 hl (by omega) (by omega) (by omega) (FT hw1 rfl hv))) rfl ?_
    rintro v1 L1 ⟨rfl, rfl⟩
    show JL _ _ _ _ ((43, .bool (decide (RightI l))) :: _) [_]
    refine BB 13 40 false _ (.bool (!(decide (RightI l)))) rfl rfl hb11 (FV rfl) rfl ?_
    refine AA _ (C0 _ rfl hb11 rfl) rfl ?_
    refine AI (AC (B5 (!(decide (RightI l))) rfl (fun hb12 => ?_) (fun hb12 => ?_)))
    ·
     have hb13 : (decide (RightI l)) = false := by simpa using hb12
     have hp13 : ¬ (RightI l) := of_decide_eq_false hb13
     refine AF (AB (AA _ (AE rfl) rfl ?_))
     refine AI (AC (BO (A3 (CA [false] ?_))))
     show JQ _ _ _ _ []
     refine BQ (.bool false) (res1 EU (B2 rfl)) fun w1 hw1 => ?_
     refine ⟨_, [], rfl, ⟨congrArg Value.bool ?_, rfl⟩, hw1.sub (by simp) (by simp)⟩
     unfold RightO
     rw [hl, hls]
     first | rw [if_pos (show kd = 1 by omega)] | rw [if_neg (show ¬ kd = 1 by omega), if_pos (show kd = 2 by omega)] | rw [if_neg (show ¬ kd = 1 by omega), if_neg (show ¬ kd = 2 by omega), if_pos (show kd = 3 by omega)] | rw [if_neg (show ¬ kd = 1 by omega), if_neg (show ¬ kd = 2 by omega), if_neg (show ¬ kd = 3 by omega)]
     all_goals (first | rfl | (simp [*]; done) | (simp_all; done) | (simp_all; omega))
    ·
     have hb14 : (decide (RightI l)) = true := by simpa using hb12
     have hp14 : RightI l := of_decide_eq_true hb14
     refine BJ (AC (AF (AF (AB (AA (Ptr nb1 0) (AH 0 3 1 BD rfl DR rfl rfl) rfl ?_)))))
     refine AA (I64 (kd)) (AL rfl (AZ DC (AR 0 rfl (Seg.head)))) rfl ?_
     refine AA (.bool (decide ((kd) = (2:Int)))) (AJ rfl rfl fun _ => D6 _ _) rfl ?_
     refine AI (AC (B5 (decide ((kd) = (2:Int))) rfl (fun hb15 => ?_) (fun hb15 => ?_)))
     ·
      have hp15 : (kd) = (2:Int) := of_decide_eq_true hb15
      refine AF (AB (AA (Ptr nb1 2) (AH 2 34 1 BD rfl CP rfl rfl) rfl ?_))
      refine AA (.slice sa ns sc) (AL rfl (AZ D4 (AR 0 rfl (AS (AS (Seg.head)))))) rfl ?_
      refine AA (I64 ns) (DW CM rfl) rfl ?_
      refine AA (.bool (decide (((ns:Int)) = (0:Int)))) (AJ rfl rfl fun _ => D6 _ _) rfl ?_
      refine AA _ (AE rfl) rfl ?_
      refine AI (AC (BO (A3 (CA [false] ?_))))
      show JQ _ _ _ _ []
      refine BQ (.bool (decide (((ns:Int)) = (0:Int)))) (res1 EU (B2 rfl)) fun w1 hw1 => ?_
      refine ⟨_, [], rfl, ⟨congrArg Value.bool ?_, rfl⟩, hw1.sub (by simp) (by simp)⟩
      unfold RightO
      rw [hl, hls]
      first | rw [if_pos (show kd = 1 by omega)] | rw [if_neg (show ¬ kd = 1 by omega), if_pos (show kd = 2 by omega)] | rw [if_neg (show ¬ kd = 1 by omega), if_neg (show ¬ kd = 2 by omega), if_pos (show kd = 3 by omega)] | rw [if_neg (show ¬ kd = 1 by omega), if_neg (show ¬ kd = 2 by omega), if_neg (show ¬ kd = 3 by omega)]
      all_goals (first | rfl | (simp [*]; done) | (simp_all; done) | (simp_all; omega))
     ·
      have hp15 : ¬ ((kd) = (2:Int)) := of_decide_eq_false hb15
      refine BJ (AC (AF (AF (AB (AA _ (AE rfl) rfl ?_)))))
      refine AI (AC (A9 (DI (ι := Nat) (fun i => [(1, Ptr nb1 0), (3, I64 i)]) (fun i => [⟨nb1, [I64 (kd), .slice ai ni ci, .slice sa ns sc, U64 bl], 36, (0, 0)⟩]) (fun i => i ≤ ns ∧ ∀ k, k < i → ∀ y, ls[k]? = some y → (fun x => oddB (headE ls) (SealR.e x)) y = false) (fun i => ns - i) 0 ⟨by omega, fun k hk => absurd hk (by omega)⟩ (Sub.all rfl) rfl ?_)))
      rintro i ⟨hi1, hi2⟩
      show JC _ _ _ [(1, Ptr nb1 0), (3, I64 i)] [⟨nb1, [I64 (kd), .slice ai ni ci, .slice sa ns sc, U64 bl], 36, (0, 0)⟩]
      refine AF (AF (AB (AA _ (AG rfl) rfl ?_)))
      refine AA (Ptr nb1 2) (AH 2 34 1 BD rfl CP rfl rfl) rfl ?_
      refine AA (.slice sa ns sc) (AL rfl (AZ D4 (AR 0 rfl (AS (AS (Seg.head)))))) rfl ?_
      refine AA (I64 ns) (DW CM rfl) rfl ?_
      refine AA (.bool (decide (((i:Int)) < ((ns:Int))))) (AJ rfl rfl fun _ => B9 _ _) rfl ?_
      refine AI (AC (B5 (decide (((i:Int)) < ((ns:Int)))) rfl (fun hb16 => ?_) (fun hb16 => ?_)))
      ·
       have hp16 : ((i:Int)) < ((ns:Int)) := of_decide_eq_true hb16
       refine BJ (AC (AF (A9 (AF ?_))))
       obtain ⟨x1, hx1⟩ : ∃ x, ls[i]? = some x := ⟨_, List.getElem?_eq_getElem (by rw [hls]; omega)⟩
       obtain ⟨bz1, oz1, hz1, hm1⟩ := rows_at F5 (by decide) hs hx1
       obtain ⟨x2, hx2⟩ : ∃ x, ls[0]? = some x := ⟨_, List.getElem?_eq_getElem (by rw [hls]; omega)⟩
       obtain ⟨bz2, oz2, hz2, hm2⟩ := rows_at F5 (by decide) hs hx2
       rcases Bool.eq_false_or_eq_true (RightB (0:UInt64) x1.e) with hb17 | hb17
       ·
        refine CT 89 2 [(0, Ptr nb1 2), (1, .slice sa ns sc), (2, I64 i), (3, Ptr bz1 (49*i + oz1)), (4, Ptr bz1 (49*i + oz1)), (5, U64 x1.e)] BL rfl (by decide +kernel) ?_
        refine CU ⟨[], [0, 1, 2, 3, 4, 5], [], [0, 1, 2, 3, 4, 5], [6]⟩ 6 _ rfl rfl (by decide +kernel) rfl ⟨⟨_, rfl, AD rfl (AH 2 34 1 BD rfl CP rfl rfl)⟩, ⟨_, rfl, AD rfl (AL rfl (AZ D4 (AR 0 rfl (AS (AS (Seg.head))))))⟩, AU rfl rfl rfl, ⟨_, rfl, AD rfl (CL 164 49 (49*i + oz1) CM C9 rfl hz1 rfl (by omega) (by omega) (by omega))⟩, ⟨_, rfl, AD rfl (AH 0 22 1 Tryd.underlying164 rfl BC rfl rfl)⟩, ⟨_, rfl, AD rfl (AL rfl (AZ BG (BW (hm1.mem (by simp)) (BE (BE (Seg.head))) (by omega))))⟩, trivial⟩ rfl (AW rfl (AY 111 [U64 0, U64 x1.e] (.bool (RightB (0:UInt64) x1.e)) (A4 _ Tryd.call111 rfl) (fun w1 hw1 => rright_c (0:UInt64) x1.e w1 ))) ?_
        rintro v1 L1 ⟨rfl, rfl⟩
        refine ⟨[(7, .bool (!(RightB (0:UInt64) x1.e))), (8, .bool (!(RightB (0:UInt64) x1.e))), (9, Ptr nb1 2), (10, .slice sa ns sc), (11, I64 i), (12, Ptr bz1 (49*i + oz1)), (13, Ptr bz1 (49*i + oz1)), (14, U64 x1.e), (15, Ptr nb1 2), (16, .slice sa ns sc), (17, Ptr bz2 oz2), (18, Ptr bz2 oz2), (19, U64 x2.e), (20, .bool (decide (x1.e ≠ x2.e))), (21, .bool (decide (x1.e ≠ x2.e)))], ?_⟩
        show DP _ _ _ _ _ _ _ _ [_]
        refine DE ⟨[6], [0, 1, 2, 3, 4, 5, 7, 8, 9, 10, 11, 12, 13, 14, 15, 16, 17, 18, 19, 20, 21], [0, 1, 2, 3, 4, 5], [7, 8, 9, 10, 11, 12, 13, 14, 15, 16, 17, 18, 19, 20, 21], []⟩ rfl rfl (by decide +kernel) rfl ⟨⟨_, rfl, AD rfl (FV rfl)⟩, AU rfl rfl rfl, ⟨_, rfl, DD 8 68 false _ rfl rfl rfl (by rw [show (RightB (0:UInt64) x1.e) = true from hb17] <;> rfl) (AH 2 34 1 BD rfl CP rfl rfl)⟩, ⟨_, rfl, DD 8 68 false _ rfl rfl rfl (by rw [show (RightB (0:UInt64) x1.e) = true from hb17] <;> rfl) (AL rfl (AZ D4 (AR 0 rfl (AS (AS (Seg.head))))))⟩, ⟨_, rfl, DD 8 68 false _ rfl rfl rfl (by rw [show (RightB (0:UInt64) x1.e) = true from hb17] <;> rfl) (AG rfl)⟩, ⟨_, rfl, DD 8 68 false _ rfl rfl rfl (by rw [show (RightB (0:UInt64) x1.e) = true from hb17] <;> rfl) (CL 164 49 (49*i + oz1) CM C9 rfl hz1 rfl (by omega) (by omega) (by omega))⟩, ⟨_, rfl, DD 8 68 false _ rfl rfl rfl (by rw [show (RightB (0:UInt64) x1.e) = true from hb17] <;> rfl) (AH 0 22 1 Tryd.underlying164 rfl BC rfl rfl)⟩, ⟨_, rfl, DD 8 68 false _ rfl rfl rfl (by rw [show (RightB (0:UInt64) x1.e) = true from hb17] <;> rfl) (AL rfl (AZ BG (BW (hm1.mem (by simp)) (BE (BE (Seg.head))) (by omega))))⟩, ⟨_, rfl, DD 8 68 false _ rfl rfl rfl (by rw [show (RightB (0:UInt64) x1.e) = true from hb17] <;> rfl) (AH 2 34 1 BD rfl CP rfl rfl)⟩, ⟨_, rfl, DD 8 68 false _ rfl rfl rfl (by rw [show (RightB (0:UInt64) x1.e) = true from hb17] <;> rfl) (AL rfl (AZ D4 (AR 0 rfl (AS (AS (Seg.head))))))⟩, ⟨_, rfl, DD 8 68 false _ rfl rfl rfl (by rw [show (RightB (0:UInt64) x1.e) = true from hb17] <;> rfl) (CL 164 49 oz2 CM C9 rfl hz2 rfl (by omega) (by omega) (by omega))⟩, ⟨_, rfl, DD 8 68 false _ rfl rfl rfl (by rw [show (RightB (0:UInt64) x1.e) = true from hb17] <;> rfl) (AH 0 22 1 Tryd.underlying164 rfl BC rfl rfl)⟩, ⟨_, rfl, DD 8 68 false _ rfl rfl rfl (by rw [show (RightB (0:UInt64) x1.e) = true from hb17] <;> rfl) (AL rfl (AZ BG (BW (hm2.mem (by simp)) (BE (BE (Seg.head))) (by omega))))⟩, ⟨_, rfl, DD 8 68 false _ rfl rfl rfl (by rw [show (RightB (0:UInt64) x1.e) = true from hb17] <;> rfl) (AJ rfl rfl fun _ => FD x1.e x2.e)⟩, ⟨_, rfl, AD rfl (C0 _ rfl (by rw [show (RightB (0:UInt64) x1.e) = true from hb17] <;> rfl) rfl)⟩, trivial⟩ ?_
        refine CC (F' := [(60, Ptr nb1 2), (61, .slice sa ns sc), (62, I64 i), (63, Ptr bz1 (49*i + oz1)), (64, Ptr bz1 (49*i + oz1)), (65, U64 x1.e), (66, .bool (RightB (0:UInt64) x1.e)), (67, .bool (!(RightB (0:UInt64) x1.e))), (68, .bool (!(RightB (0:UInt64) x1.e))), (69, Ptr nb1 2), (70, .slice sa ns sc), (71, I64 i), (72, Ptr bz1 (49*i + oz1)), (73, Ptr bz1 (49*i + oz1)), (74, U64 x1.e), (75, Ptr nb1 2), (76, .slice sa ns sc), (77, Ptr bz2 oz2), (78, Ptr bz2 oz2), (79, U64 x2.e), (80, .bool (decide (x1.e ≠ x2.e))), (81, .bool (decide (x1.e ≠ x2.e))), (1, Ptr nb1 0), (3, I64 i), (53, I64 i), (54, Ptr nb1 2), (55, .slice sa ns sc), (56, I64 ns), (57, .bool (decide (((i:Int)) < ((ns:Int)))))]) (by kernel_rfl) ?_
        refine AC (B5 (decide (x1.e ≠ x2.e)) rfl (fun hb18 => ?_) (fun hb18 => ?_))
        ·
         have hp18 : x1.e ≠ x2.e := of_decide_eq_true hb18
         refine AF (AB (AA _ (AE rfl) rfl ?_))
         refine AI (AC (BO (CZ (A3 (A3 (CZ (A3 (CA [false] ?_))))))))
         show JQ _ _ _ _ []
         refine BQ (.bool false) (res1 EU (B2 rfl)) fun w1 hw1 => ?_
         refine ⟨_, [], rfl, ⟨congrArg Value.bool ?_, rfl⟩, hw1.sub (by simp) (by simp)⟩
         unfold RightO
         rw [hl, hls]
         first | rw [if_pos (show kd = 1 by omega)] | rw [if_neg (show ¬ kd = 1 by omega), if_pos (show kd = 2 by omega)] | rw [if_neg (show ¬ kd = 1 by omega), if_neg (show ¬ kd = 2 by omega), if_pos (show kd = 3 by omega)] | rw [if_neg (show ¬ kd = 1 by omega), if_neg (show ¬ kd = 2 by omega), if_neg (show ¬ kd = 3 by omega)]
         have ha : ls.any (fun x => oddB (headE ls) (SealR.e x)) = true := any_odd hx1 (by first | (simp [oddB, *]; done) | (rw [headE_of hx2]; simp [oddB, *]; done))
         simp [*]
        ·
         have hp18 : ¬ (x1.e ≠ x2.e) := of_decide_eq_false hb18
         refine BJ (A5 (AC (AB (AA _ (AG rfl) rfl ?_))))
         refine AA (I64 ((i:Int) + 1)) (AJ rfl rfl fun _ => BP _ _ ((i:Int) + 1) (by omega) (by omega)) rfl ?_
         refine AA _ (AE rfl) rfl ?_
         refine AI (B6 (DN (i + 1) ⟨by omega, find_step hx1 (by show oddB (headE ls) x1.e = false; rw [headE_of hx2]; simp [oddB, *]) hi2⟩ (by first | (simp; omega) | simp | (dsimp only; omega) | omega) (Sub.all rfl) rfl))
       ·
        refine CT 89 2 [(0, Ptr nb1 2), (1, .slice sa ns sc), (2, I64 i), (3, Ptr bz1 (49*i + oz1)), (4, Ptr bz1 (49*i + oz1)), (5, U64 x1.e)] BL rfl (by decide +kernel) ?_
        refine CU ⟨[], [0, 1, 2, 3, 4, 5], [], [0, 1, 2, 3, 4, 5], [6]⟩ 6 _ rfl rfl (by decide +kernel) rfl ⟨⟨_, rfl, AD rfl (AH 2 34 1 BD rfl CP rfl rfl)⟩, ⟨_, rfl, AD rfl (AL rfl (AZ D4 (AR 0 rfl (AS (AS (Seg.head))))))⟩, AU rfl rfl rfl, ⟨_, rfl, AD rfl (CL 164 49 (49*i + oz1) CM C9 rfl hz1 rfl (by omega) (by omega) (by omega))⟩, ⟨_, rfl, AD rfl (AH 0 22 1 Tryd.underlying164 rfl BC rfl rfl)⟩, ⟨_, rfl, AD rfl (AL rfl (AZ BG (BW (hm1.mem (by simp)) (BE (BE (Seg.head))) (by omega))))⟩, trivial⟩ rfl (AW rfl (AY 111 [U64 0, U64 x1.e] (.bool (RightB (0:UInt64) x1.e)) (A4 _ Tryd.call111 rfl) (fun w1 hw1 => rright_c (0:UInt64) x1.e w1 ))) ?_
        rintro v1 L1 ⟨rfl, rfl⟩
        refine ⟨[(7, .bool (!(RightB (0:UInt64) x1.e))), (8, .bool (!(RightB (0:UInt64) x1.e))), (9, undef), (10, undef), (11, undef), (12, undef), (13, undef), (14, undef), (15, undef), (16, undef), (17, undef), (18, undef), (19, undef), (20, undef), (21, .bool true)], ?_⟩
        show DP _ _ _ _ _ _ _ _ [_]
        refine DE ⟨[6], [0, 1, 2, 3, 4, 5, 7, 8, 9, 10, 11, 12, 13, 14, 15, 16, 17, 18, 19, 20, 21], [0, 1, 2, 3, 4, 5], [7, 8, 9, 10, 11, 12, 13, 14, 15, 16, 17, 18, 19, 20, 21], []⟩ rfl rfl (by decide +kernel) rfl ⟨⟨_, rfl, AD rfl (FV rfl)⟩, AU rfl rfl rfl, ⟨_, rfl, DQ 8 68 false _ rfl rfl rfl (by rw [show (RightB (0:UInt64) x1.e) = false from hb17] <;> rfl)⟩, ⟨_, rfl, DQ 8 68 false _ rfl rfl rfl (by rw [show (RightB (0:UInt64) x1.e) = false from hb17] <;> rfl)⟩, ⟨_, rfl, DQ 8 68 false _ rfl rfl rfl (by rw [show (RightB (0:UInt64) x1.e) = false from hb17] <;> rfl)⟩, ⟨_, rfl, DQ 8 68 false _ rfl rfl rfl (by rw [show (RightB (0:UInt64) x1.e) = false from hb17] <;> rfl)⟩, ⟨_, rfl, DQ 8 68 false _ rfl rfl rfl (by rw [show (RightB (0:UInt64) x1.e) = false from hb17] <;> rfl)⟩, ⟨_, rfl, DQ 8 68 false _ rfl rfl rfl (by rw [show (RightB (0:UInt64) x1.e) = false from hb17] <;> rfl)⟩, ⟨_, rfl, DQ 8 68 false _ rfl rfl rfl (by rw [show (RightB (0:UInt64) x1.e) = false from hb17] <;> rfl)⟩, ⟨_, rfl, DQ 8 68 false _ rfl rfl rfl (by rw [show (RightB (0:UInt64) x1.e) = false from hb17] <;> rfl)⟩, ⟨_, rfl, DQ 8 68 false _ rfl rfl rfl (by rw [show (RightB (0:UInt64) x1.e) = false from hb17] <;> rfl)⟩, ⟨_, rfl, DQ 8 68 false _ rfl rfl rfl (by rw [show (RightB (0:UInt64) x1.e) = false from hb17] <;> rfl)⟩, ⟨_, rfl, DQ 8 68 false _ rfl rfl rfl (by rw [show (RightB (0:UInt64) x1.e) = false from hb17] <;> rfl)⟩, ⟨_, rfl, DQ 8 68 false _ rfl rfl rfl (by rw [show (RightB (0:UInt64) x1.e) = false from hb17] <;> rfl)⟩, ⟨_, rfl, AD rfl (CW _ rfl (by rw [show (RightB (0:UInt64) x1.e) = false from hb17] <;> rfl) rfl)⟩, trivial⟩ ?_
        refine CC (F' := [(60, Ptr nb1 2), (61, .slice sa ns sc), (62, I64 i), (63, Ptr bz1 (49*i + oz1)), (64, Ptr bz1 (49*i + oz1)), (65, U64 x1.e), (66, .bool (RightB (0:UInt64) x1.e)), (67, .bool (!(RightB (0:UInt64) x1.e))), (68, .bool (!(RightB (0:UInt64) x1.e))), (69, undef), (70, undef), (71, undef), (72, undef), (73, undef), (74, undef), (75, undef), (76, undef), (77, undef), (78, undef), (79, undef), (80, undef), (81, .bool true), (1, Ptr nb1 0), (3, I64 i), (53, I64 i), (54, Ptr nb1 2), (55, .slice sa ns sc), (56, I64 ns), (57, .bool (decide (((i:Int)) < ((ns:Int)))))]) (by kernel_rfl) ?_
        refine AC (D1 _ rfl rfl ?_)
        refine AF (AB (AA _ (AE rfl) rfl ?_))
        refine AI (AC (BO (CZ (A3 (A3 (CZ (A3 (CA [false] ?_))))))))
        show JQ _ _ _ _ []
        refine BQ (.bool false) (res1 EU (B2 rfl)) fun w1 hw1 => ?_
        refine ⟨_, [], rfl, ⟨congrArg Value.bool ?_, rfl⟩, hw1.sub (by simp) (by simp)⟩
        unfold RightO
        rw [hl, hls]
        first | rw [if_pos (show kd = 1 by omega)] | rw [if_neg (show ¬ kd = 1 by omega), if_pos (show kd = 2 by omega)] | rw [if_neg (show ¬ kd = 1 by omega), if_neg (show ¬ kd = 2 by omega), if_pos (show kd = 3 by omega)] | rw [if_neg (show ¬ kd = 1 by omega), if_neg (show ¬ kd = 2 by omega), if_neg (show ¬ kd = 3 by omega)]
        have ha : ls.any (fun x => oddB (headE ls) (SealR.e x)) = true := any_odd hx1 (by first | (simp [oddB, *]; done) | (rw [headE_of hx2]; simp [oddB, *]; done))
        simp [*]
      ·
       have hp16 : ¬ (((i:Int)) < ((ns:Int))) := of_decide_eq_false hb16
       refine DA (AQ (AQ (BV (AC (AF (AB (AA (Ptr nb1 2) (AH 2 34 1 BD rfl CP rfl rfl) rfl ?_)))))))
       refine AA (.slice sa ns sc) (AL rfl (AZ D4 (AR 0 rfl (AS (AS (Seg.head)))))) rfl ?_
       refine AA (I64 ns) (DW CM rfl) rfl ?_
       refine AA (Ptr nb1 1) (AH 1 23 1 BD rfl CV rfl rfl) rfl ?_
       refine AA (.slice ai ni ci) (AL rfl (AZ DB (AR 0 rfl (AS (Seg.head))))) rfl ?_
       refine AA (I64 ni) (DW BI rfl) rfl ?_
       refine AA (.bool (decide (((ns:Int)) = ((ni:Int))))) (AJ rfl rfl fun _ => D6 _ _) rfl ?_
       refine AA _ (AE rfl) rfl ?_
       refine AI (AC (BO (CA [false] ?_)))
       show JQ _ _ _ _ []
       refine BQ (.bool (decide (((ns:Int)) = ((ni:Int))))) (res1 EU (B2 rfl)) fun w1 hw1 => ?_
       refine ⟨_, [], rfl, ⟨congrArg Value.bool ?_, rfl⟩, hw1.sub (by simp) (by simp)⟩
       unfold RightO
       rw [hl, hls]
       first | rw [if_pos (show kd = 1 by omega)] | rw [if_neg (show ¬ kd = 1 by omega), if_pos (show kd = 2 by omega)] | rw [if_neg (show ¬ kd = 1 by omega), if_neg (show ¬ kd = 2 by omega), if_pos (show kd = 3 by omega)] | rw [if_neg (show ¬ kd = 1 by omega), if_neg (show ¬ kd = 2 by omega), if_neg (show ¬ kd = 3 by omega)]
       have ha : ls.any (fun x => oddB (headE ls) (SealR.e x)) = false := any_no (by rw [hls]; intro k hk; exact hi2 k (by omega))
       rw [ha, decide_eq_true (Classical.not_not.1 ‹¬ bl ≠ 0›), decide_eq_true ‹RightI l›]
       simp only [Bool.true_and, Bool.not_false, Bool.and_true]
       exact decide_eq_decide.2 (by omega)
end Go.Proofs.YtkdpdgpphpngeaaDoor
