import Derived.JoinedOf
import Derived.SevenTiedAt
import Derived.Test.YtkdpdgpphpngeaaDoorPkTB6
set_option linter.unusedVariables false
set_option linter.unusedSimpArgs false
set_option maxRecDepth 100000
namespace Go.Proofs.YtkdpdgpphpngeaaDoor
open Go Go.Sx
attribute [local irreducible] mid zr8 zr32 numK rnK valK rotr wordL spreadL comprL cpN adN spN wrdN constL initL padL stN outN routN sumG putL RightB tktT mayN idxT selT macL eQ vQ bQ sQ ixQ seQ
set_option maxHeartbeats 4000000 in
theorem tb1_c (key : List UInt8) (pv ep : UInt64) (k : Nat) (ai : Option Addr) (ni ci : Nat) (l : List UInt64) (sa : Option Addr) (ns sc : Nat) (ls : List SealR) (bl : UInt64) (tg : List UInt8) (bit : Int) (tot : Nat)  (w : World) (hk32 : key.length = 32) (hl : l.length = ni) (hnm : ni ≤ 2000000) (hnc : ni ≤ ci) (hcm : ci ≤ maxLen) (hv : RdV w ai (cu64 l)) (hls : ls.length = ns) (hnn : ns ≤ 2000000) (hnd : ns ≤ sc) (hcn : sc ≤ maxLen) (hs : RdV w sa (ls.flatMap sealC)) (htg : tg.length = 16) (hbit : -9223372036854775808 ≤ bit ∧ bit ≤ 9223372036854775807) (hp1 : 0 < ni) (hp0 : 0 < ns) (hG : GLs w) (hGr : GLr w) (hGi : GLi w) (hmay : mayN pv ep (k:Int) l ls bl = 0) (hk : k = 1) (htot : tktN k ni ns = tot) (htb : tot ≤ 30000) (hsm : ns ≤ 300) (hnb : ni ≤ 300) (hlg : ¬ LargeP ni ns)  : Calls Tryd.prog 12 #[.agg (cu8 key).toArray, .agg ([U64 pv, U64 ep, I64 k, .slice ai ni ci, .slice sa ns sc, U64 bl] ++ cu8 tg).toArray, I64 (bit)] w (Post w [] (fun v L => v = .bool true ∧ L = [])) := by
 have hmx : maxLen = 9223372036854775807 := rfl
 have hkq := rem_lt (m := 8*tot + 128) (u64i bit) (by omega) (by omega)
 have hnn1 : ns = ni := by
  have h9 := RightO_pos (F7 hmay) (by omega)
  omega
 have htot2 : tot = 60*ni + 18 := by
  rw [← htot]; unfold tktN
  rw [if_neg (by omega)]
  all_goals omega
 refine enter (P := Tryd.prog) (f := 12) (fn := Tryd.f12) w [] 120 [] [.agg (cu8 key).toArray, .agg ([U64 pv, U64 ep, I64 k, .slice ai ni ci, .slice sa ns sc, U64 bl] ++ cu8 tg).toArray, I64 (bit)] Tryd.func12 rfl rfl (by simp) (BZ (by simp) (by simp) (by simp)) ?_
 show JC _ _ _ [(0, .agg (cu8 key).toArray), (1, .agg ([U64 pv, U64 ep, I64 k, .slice ai ni ci, .slice sa ns sc, U64 bl] ++ cu8 tg).toArray), (2, I64 (bit))] _
 refine AI (AD (A1 (CW (.agg (cu8 key).toArray) (cu8 key) rfl (by first | rfl | simp)) rfl ?_))
 rintro v1 L1 ⟨nb1, hnb1, rfl, rfl⟩
 show JL _ _ _ _ ((3, Ptr nb1 0) :: _) [⟨nb1, cu8 key, 54, (0, 0)⟩]
 refine A1 (CW (.agg ([U64 pv, U64 ep, I64 k, .slice ai ni ci, .slice sa ns sc, U64 bl] ++ cu8 tg).toArray) ([U64 pv, U64 ep, I64 k, .slice ai ni ci, .slice sa ns sc, U64 bl] ++ cu8 tg) rfl (by first | rfl | simp)) rfl ?_
 rintro v1 L1 ⟨nb2, hnb2, rfl, rfl⟩
 show JL _ _ _ _ ((4, Ptr nb2 0) :: _) [_, ⟨nb2, [U64 pv, U64 ep, I64 k, .slice ai ni ci, .slice sa ns sc, U64 bl] ++ cu8 tg, 29, (0, 0)⟩]
 refine AA _ (AG rfl) rfl ?_
 refine AN (AE (AI (AI (AD (A1 (A3 43 [] (.bool true) (AY _ Tryd.call43 rfl) (fun w1 hw1 => alive13_c  w1 (hG.at hw1))) rfl ?_)))))
 rintro v1 L1 ⟨rfl, rfl⟩
 show JL _ _ _ _ ((14, .bool true) :: _) [_, _]
 refine AA (.bool (!true)) (FH rfl) rfl ?_
 refine AN (AE (CK _ rfl rfl ?_))
 refine BT (AE (AI (AI (AD (AA (Ptr nb2 2) (AB 2 26 4 AO rfl A8 rfl rfl) rfl ?_)))))
 refine AA (.agg #[I64 k, .slice ai ni ci, .slice sa ns sc, U64 bl]) (AK rfl (BH DG A8 rfl (AS 1 rfl (EI (p := [U64 pv, U64 ep]) (q := cu8 tg) (vs := [I64 k, .slice ai ni ci, .slice sa ns sc, U64 bl]) (by first | rfl | (simp only [List.append_assoc, List.nil_append, List.append_nil, List.cons_append]; done)) rfl)))) rfl ?_
 refine A7 (A3 18 [.agg #[I64 k, .slice ai ni ci, .slice sa ns sc, U64 bl]] (.bool (decide (LargeP ni ns))) (AY _ Tryd.call18 rfl) (fun w1 hw1 => large_c ((k:Int)) ai ni ci l sa ns sc ls bl w1 )) rfl ?_
 show JL _ _ _ _ ((18, .bool (decide (LargeP ni ns))) :: _) [_, _]
 refine AN (AE (CK _ rfl (decide_eq_false hlg) ?_))
 refine BT (AE (AI (AD (AA (.agg (cu8 key).toArray) (AK rfl (BH DE B1 (CM hk32) (AS 0 rfl (AL _)))) rfl ?_))))
 refine AA (Ptr nb2 0) (AB 0 22 1 AO rfl AU rfl rfl) rfl ?_
 refine AA (U64 pv) (AK rfl (AV AX (AS 1 rfl (A4 (Seg.head))))) rfl ?_
 refine AA (Ptr nb2 1) (AB 1 22 1 AO rfl AU rfl rfl) rfl ?_
 refine AA (U64 ep) (AK rfl (AV AX (AS 1 rfl (A4 (AJ (Seg.head)))))) rfl ?_
 refine AA (Ptr nb2 2) (AB 2 26 4 AO rfl A8 rfl rfl) rfl ?_
 refine AA (.agg #[I64 k, .slice ai ni ci, .slice sa ns sc, U64 bl]) (AK rfl (BH DG A8 rfl (AS 1 rfl (EI (p := [U64 pv, U64 ep]) (q := cu8 tg) (vs := [I64 k, .slice ai ni ci, .slice sa ns sc, U64 bl]) (by first | rfl | (simp only [List.append_assoc, List.nil_append, List.append_nil, List.cons_append]; done)) rfl)))) rfl ?_
 refine A1 (BI 46 [.agg (cu8 key).toArray, U64 pv, U64 ep, .agg #[I64 k, .slice ai ni ci, .slice sa ns sc, U64 bl]] _ (AY _ Tryd.call46 rfl) (fun w1 hw1 => sign1_c key pv ep k ai ni ci l sa ns sc ls bl tot w1 hk32 hl (by omega) (by omega) (by omega) (EG hw1 rfl hv) hls (by omega) (by omega) (by omega) (EG hw1 rfl hs) (by omega) (by omega) hmay (by omega) (by first | exact htot | exact hnn1 ▸ htot) (by omega) (by omega) (by omega) (hG.at hw1))) rfl ?_
 rintro v1 L1 ⟨_, ⟨nb3, sp1, cp1, nb4, sp2, cp2, rfl, rfl, hc1, hc2, hc3, hc4, hc5, hc6⟩, rfl⟩
 show JL _ _ _ _ ((27, .tuple #[.agg ([U64 pv, U64 ep, I64 k, Slc nb3 0 ni cp1, Slc nb4 0 ns cp2, U64 bl] ++ cu8 (tkG key pv ep k l ls bl)).toArray, .nilIface]) :: _) [_, _, ⟨nb3, cu64 l ++ sp1, 22, (0, 0)⟩, ⟨nb4, ls.flatMap sealC ++ sp2, 161, (0, 0)⟩]
 refine AA _ (AH rfl) rfl ?_
 refine AA _ (B4 rfl rfl) rfl ?_
 refine AA _ (B4 rfl rfl) rfl ?_
 refine A1 (BG _ ([U64 0, U64 0, I64 0, .slice none 0 0, .slice none 0 0, U64 0] ++ cu8 (zr8 16)) BK (by kernel_rfl)) rfl ?_
 rintro v1 L1 ⟨nb5, hnb5, rfl, rfl⟩
 show JL _ _ _ _ ((7, Ptr nb5 0) :: _) [_, _, _, _, ⟨nb5, [U64 0, U64 0, I64 0, .slice none 0 0, .slice none 0 0, U64 0] ++ cu8 (zr8 16), 29, (0, 0)⟩]
 refine A7 (A5 4 nb5 22 ([U64 0, U64 0, I64 0, .slice none 0 0, .slice none 0 0, U64 0] ++ cu8 (zr8 16)) 29 ([U64 pv, U64 ep, I64 k, Slc nb3 0 ni cp1, Slc nb4 0 ns cp2, U64 bl] ++ cu8 (tkG key pv ep k l ls bl)) rfl rfl rfl AT (by simp [(CL _ _ _ _ _ _ _)]) (CO (by simp [Value.oneCell']) CD) (by simp [(AP 16)]) (BC (by simp [(AP 16), (CL _ _ _ _ _ _ _)]))) rfl ?_
 show JL _ _ _ _ _ [_, _, _, _, ⟨nb5, [U64 pv, U64 ep, I64 k, Slc nb3 0 ni cp1, Slc nb4 0 ns cp2, U64 bl] ++ cu8 (tkG key pv ep k l ls bl), 29, (0, 0)⟩]
 refine AA _ (AG rfl) rfl ?_
 refine AN (AE (AI (AI (AD (AA _ (AH rfl) rfl ?_)))))
 refine AA (.bool false) (C2 _ _ _ rfl rfl (fun _ => EA ..) fun _ => DC A6) rfl ?_
 refine AN (AE (CK _ rfl rfl ?_))
 refine BT (AE (AI (AD (AA (.agg ([U64 pv, U64 ep, I64 k, Slc nb3 0 ni cp1, Slc nb4 0 ns cp2, U64 bl] ++ cu8 (tkG key pv ep k l ls bl)).toArray) (AK rfl (BH A9 AT (by simp [(CL _ _ _ _ _ _ _)]) (AS 4 rfl (AL _)))) rfl ?_))))
 refine A1 (BI 47 [.agg ([U64 pv, U64 ep, I64 k, Slc nb3 0 ni cp1, Slc nb4 0 ns cp2, U64 bl] ++ cu8 (tkG key pv ep k l ls bl)).toArray] _ (AY _ Tryd.call47 rfl) (fun w1 hw1 => put13_c pv ep k (some ⟨nb3, 0, none⟩) ni cp1 l (some ⟨nb4, 0, none⟩) ns cp2 ls bl (tkG key pv ep k l ls bl) tot w1 hl (by omega) (by omega) (by omega) (RdV.of hw1 (AS 2 rfl (A4 (AL _)))) hls (by omega) (by omega) (by omega) (RdV.of hw1 (AS 3 rfl (A4 (AL _)))) (CL _ _ _ _ _ _ _) hmay (by omega) (by omega) (by first | exact htot | exact hnn1 ▸ htot) (by omega))) rfl ?_
 rintro v1 L1 ⟨_, ⟨nb6, sp3, cp3, rfl, rfl, hc7, hc8, hc9⟩, rfl⟩
 show JL _ _ _ _ ((37, .tuple #[Slc nb6 0 (tot + 16) cp3, .nilIface]) :: _) [_, _, _, _, _, ⟨nb6, cu8 ((tktT pv ep k l ls bl) ++ (tkG key pv ep k l ls bl)) ++ sp3, 5, (0, 0)⟩]
 refine AA _ (AH rfl) rfl ?_
 refine AA _ (B4 rfl rfl) rfl ?_
 refine AA _ (B4 rfl rfl) rfl ?_
 refine AA _ (AG rfl) rfl ?_
 refine AA _ (AG rfl) rfl ?_
 refine AN (AE (AI ?_))
 obtain ⟨P, hP, hPl⟩ : ∃ P : List UInt8, (tktT pv ep k l ls bl) ++ (tkG key pv ep k l ls bl) = P ∧ P.length = tot + 16 := ⟨_, rfl, (show ((tktT pv ep k l ls bl) ++ (tkG key pv ep k l ls bl)).length = (tot + 16) from (by rw [List.length_append, (show (tktT pv ep k l ls bl).length = tot from (EX hl hls).trans (by first | exact htot | exact hnn1 ▸ htot)), (CL _ _ _ _ _ _ _)]))⟩
 rw [hP]
 show JC _ _ _ _ [⟨nb1, cu8 key, 54, (0, 0)⟩, ⟨nb2, [U64 pv, U64 ep, I64 k, .slice ai ni ci, .slice sa ns sc, U64 bl] ++ cu8 tg, 29, (0, 0)⟩, ⟨nb3, cu64 l ++ sp1, 22, (0, 0)⟩, ⟨nb4, ls.flatMap sealC ++ sp2, 161, (0, 0)⟩, ⟨nb5, [U64 pv, U64 ep, I64 k, Slc nb3 0 ni cp1, Slc nb4 0 ns cp2, U64 bl] ++ cu8 (tkG key pv ep k l ls bl), 29, (0, 0)⟩, ⟨nb6, cu8 P ++ sp3, 5, (0, 0)⟩]
 refine AD (AA _ (AH rfl) rfl ?_)
 have hz1 : (P).length = (tot + 16) := hPl
 refine A1 (BI 65 [Slc nb6 0 (tot + 16) cp3] _ (AY _ Tryd.call65 rfl) (fun w1 hw1 => parsePut1_w (some ⟨nb6, 0, none⟩) (tot + 16) cp3 P pv ep k l ni ls bl (tkG key pv ep k l ls bl) w1 rfl hPl (by omega) (by omega) (by omega) (RdB.of hw1 (AS 5 rfl (A4 (AL _))) (by simp)) hk hP.symm (CL _ _ _ _ _ _ _) hmay hl (hls.trans hnn1))) rfl ?_
 rintro v1 L1 ⟨_, ⟨nb7, sp4, cp4, nb8, sp5, cp5, rfl, rfl, hc10, hc11, hc12, hc13, hc14, hc15⟩, rfl⟩
 show JL _ _ _ _ ((42, .tuple #[.agg ([U64 pv, U64 ep, I64 k, Slc nb7 0 ni cp4, Slc nb8 0 ni cp5, U64 bl] ++ cu8 (tkG key pv ep k l ls bl)).toArray, .nilIface]) :: _) [_, _, _, _, _, _, ⟨nb7, cu64 l ++ sp4, 22, (0, 0)⟩, ⟨nb8, ls.flatMap sealC ++ sp5, 161, (0, 0)⟩]
 refine AA _ (AH rfl) rfl ?_
 refine AA _ (B4 rfl rfl) rfl ?_
 refine AA _ (B4 rfl rfl) rfl ?_
 refine A1 (BG _ ([U64 0, U64 0, I64 0, .slice none 0 0, .slice none 0 0, U64 0] ++ cu8 (zr8 16)) BK (by kernel_rfl)) rfl ?_
 rintro v1 L1 ⟨nb9, hnb9, rfl, rfl⟩
 show JL _ _ _ _ ((10, Ptr nb9 0) :: _) [_, _, _, _, _, _, _, _, ⟨nb9, [U64 0, U64 0, I64 0, .slice none 0 0, .slice none 0 0, U64 0] ++ cu8 (zr8 16), 29, (0, 0)⟩]
 refine A7 (A5 8 nb9 22 ([U64 0, U64 0, I64 0, .slice none 0 0, .slice none 0 0, U64 0] ++ cu8 (zr8 16)) 29 ([U64 pv, U64 ep, I64 k, Slc nb7 0 ni cp4, Slc nb8 0 ni cp5, U64 bl] ++ cu8 (tkG key pv ep k l ls bl)) rfl rfl rfl AT (by simp [(CL _ _ _ _ _ _ _)]) (CO (by simp [Value.oneCell']) CD) (by simp [(AP 16)]) (BC (by simp [(AP 16), (CL _ _ _ _ _ _ _)]))) rfl ?_
 show JL _ _ _ _ _ [_, _, _, _, _, _, _, _, ⟨nb9, [U64 pv, U64 ep, I64 k, Slc nb7 0 ni cp4, Slc nb8 0 ni cp5, U64 bl] ++ cu8 (tkG key pv ep k l ls bl), 29, (0, 0)⟩]
 refine AA _ (AG rfl) rfl ?_
 refine AN (AE (AI (AI (AD (AA _ (AH rfl) rfl ?_)))))
 refine AA (.bool false) (C2 _ _ _ rfl rfl (fun _ => EA ..) fun _ => DC A6) rfl ?_
 refine AA _ (AH rfl) rfl ?_
 refine A0 2 47 false _ _ rfl rfl rfl (AH rfl) rfl ?_
 refine A0 2 47 false _ (.bool false) rfl rfl rfl (C2 _ _ _ rfl rfl (fun _ => EA ..) fun _ => DC A6) rfl ?_
 refine AA _ (BU _ rfl rfl rfl) rfl ?_
 refine AA _ (AH rfl) rfl ?_
 refine A0 6 51 false _ (.agg ([U64 pv, U64 ep, I64 k, Slc nb7 0 ni cp4, Slc nb8 0 ni cp5, U64 bl] ++ cu8 (tkG key pv ep k l ls bl)).toArray) rfl rfl rfl (AK rfl (BH A9 AT (by simp [(CL _ _ _ _ _ _ _)]) (AS 8 rfl (AL _)))) rfl ?_
 refine A0 6 51 false _ (.agg ([U64 pv, U64 ep, I64 k, Slc nb3 0 ni cp1, Slc nb4 0 ns cp2, U64 bl] ++ cu8 (tkG key pv ep k l ls bl)).toArray) rfl rfl rfl (AK rfl (BH A9 AT (by simp [(CL _ _ _ _ _ _ _)]) (AS 4 rfl (AL _)))) rfl ?_
 refine EK 6 51 false _ rfl rfl rfl (A3 49 [.agg ([U64 pv, U64 ep, I64 k, Slc nb7 0 ni cp4, Slc nb8 0 ni cp5, U64 bl] ++ cu8 (tkG key pv ep k l ls bl)).toArray, .agg ([U64 pv, U64 ep, I64 k, Slc nb3 0 ni cp1, Slc nb4 0 ns cp2, U64 bl] ++ cu8 (tkG key pv ep k l ls bl)).toArray] (.bool (decide (pv = pv ∧ ep = ep ∧ (tkG key pv ep k l ls bl) = (tkG key pv ep k l ls bl) ∧ ((k:Int)) = ((k:Int)) ∧ bl = bl ∧ l = l ∧ ls = ls))) (AY _ Tryd.call49 rfl) (fun w1 hw1 => GC pv ep ((k:Int)) (some ⟨nb7, 0, none⟩) ni cp4 l (some ⟨nb8, 0, none⟩) ni cp5 ls bl (tkG key pv ep k l ls bl) pv ep ((k:Int)) (some ⟨nb3, 0, none⟩) ni cp1 l (some ⟨nb4, 0, none⟩) ns cp2 ls bl (tkG key pv ep k l ls bl) w1 hl (by omega) (by omega) (by omega) (RdV.of hw1 (AS 6 rfl (A4 (AL _)))) (hls.trans hnn1) (by omega) (by omega) (by omega) (RdV.of hw1 (AS 7 rfl (A4 (AL _)))) (CL _ _ _ _ _ _ _) hl (by omega) (by omega) (by omega) (RdV.of hw1 (AS 2 rfl (A4 (AL _)))) hls (by omega) (by omega) (by omega) (RdV.of hw1 (AS 3 rfl (A4 (AL _)))) (CL _ _ _ _ _ _ _))) rfl ?_
 rintro v1 L1 ⟨rfl, rfl⟩
 show JL _ _ _ _ ((54, .bool (decide (pv = pv ∧ ep = ep ∧ (tkG key pv ep k l ls bl) = (tkG key pv ep k l ls bl) ∧ ((k:Int)) = ((k:Int)) ∧ bl = bl ∧ l = l ∧ ls = ls))) :: _) [_, _, _, _, _, _, _, _, _]
 refine A0 6 51 false _ (.bool (!(decide (pv = pv ∧ ep = ep ∧ (tkG key pv ep k l ls bl) = (tkG key pv ep k l ls bl) ∧ ((k:Int)) = ((k:Int)) ∧ bl = bl ∧ l = l ∧ ls = ls)))) rfl rfl rfl (FH rfl) rfl ?_
 refine AA _ (BU _ rfl rfl rfl) rfl ?_
 refine AA _ (AH rfl) rfl ?_
 refine A0 12 57 false _ (.agg (cu8 key).toArray) rfl rfl (bnotT (decide_eq_true ⟨rfl, rfl, rfl, rfl, rfl, rfl, rfl⟩)) (AK rfl (BH DE B1 (CM hk32) (AS 0 rfl (AL _)))) rfl ?_
 refine A0 12 57 false _ (.agg ([U64 pv, U64 ep, I64 k, Slc nb7 0 ni cp4, Slc nb8 0 ni cp5, U64 bl] ++ cu8 (tkG key pv ep k l ls bl)).toArray) rfl rfl (bnotT (decide_eq_true ⟨rfl, rfl, rfl, rfl, rfl, rfl, rfl⟩)) (AK rfl (BH A9 AT (by simp [(CL _ _ _ _ _ _ _)]) (AS 8 rfl (AL _)))) rfl ?_
 refine EK 12 57 false _ rfl rfl (bnotT (decide_eq_true ⟨rfl, rfl, rfl, rfl, rfl, rfl, rfl⟩)) (A3 48 [.agg (cu8 key).toArray, .agg ([U64 pv, U64 ep, I64 k, Slc nb7 0 ni cp4, Slc nb8 0 ni cp5, U64 bl] ++ cu8 (tkG key pv ep k l ls bl)).toArray] (.nilIface) (AY _ Tryd.call48 rfl) (fun w1 hw1 => chkK_c key pv ep k (some ⟨nb7, 0, none⟩) ni cp4 l (some ⟨nb8, 0, none⟩) ni cp5 ls bl (tkG key pv ep k l ls bl) tot w1 hk32 hl (by omega) (by omega) (by omega) (RdV.of hw1 (AS 6 rfl (A4 (AL _)))) (hls.trans hnn1) (by omega) (by omega) (by omega) (RdV.of hw1 (AS 7 rfl (A4 (AL _)))) (CL _ _ _ _ _ _ _) hmay (by omega) (by omega) (by first | exact htot | exact hnn1 ▸ htot) (by omega) (hG.at hw1) rfl)) rfl ?_
 rintro v1 L1 ⟨rfl, rfl⟩
 show JL _ _ _ _ ((60, .nilIface) :: _) [_, _, _, _, _, _, _, _, _]
 refine A0 12 57 false _ (.bool false) rfl rfl (bnotT (decide_eq_true ⟨rfl, rfl, rfl, rfl, rfl, rfl, rfl⟩)) (C2 _ _ _ rfl rfl (fun _ => EA ..) fun _ => DC A6) rfl ?_
 refine AA _ (BU _ rfl (bnotT (decide_eq_true ⟨rfl, rfl, rfl, rfl, rfl, rfl, rfl⟩)) rfl) rfl ?_
 refine AA _ (AH rfl) rfl ?_
 refine A0 18 63 false _ _ rfl rfl rfl (AH rfl) rfl ?_
 refine A0 18 63 false _ (I64 ((tot:Int) + 16)) rfl rfl rfl (FX AM rfl (by omega)) rfl ?_
 refine A0 18 63 false _ (.bool (decide (((tot:Int) + 16) = (0:Int)))) rfl rfl rfl (AR rfl rfl fun _ => C9 _ _) rfl ?_
 refine AA _ (BU _ rfl rfl rfl) rfl ?_
 refine AN (AE (CK _ rfl (decide_eq_false (by omega)) ?_))
 refine BT (AE (AI (AD (AA _ (AH rfl) rfl ?_))))
 refine AA (U64 (u64i (bit))) (DW _ _ rfl fun _ => conv_i64_u64i (by rw [CG]; rfl) DS (bit)) rfl ?_
 refine AA _ (AH rfl) rfl ?_
 refine AA (I64 ((tot:Int) + 16)) (FX AM rfl (by omega)) rfl ?_
 refine AA (I64 (8*(tot:Int) + 128)) (AR rfl rfl fun _ => E8 _ _ (8*(tot:Int) + 128) (by omega) (by omega)) rfl ?_
 refine AA (U64 (UInt64.ofNat (8*tot + 128))) (DW _ _ rfl fun _ => EN (by rw [CG]; rfl) DS (8*tot + 128) _ (by omega)) rfl ?_
 refine AA (U64 ((u64i (bit)) % (UInt64.ofNat (8*tot + 128)))) (AR rfl rfl fun _ => bin_rem_u64 (u64i (bit)) (UInt64.ofNat (8*tot + 128)) (ofN_ne (by omega) (by omega))) rfl ?_
 refine AA (I64 ((((u64i (bit)) % (UInt64.ofNat (8*tot + 128))).toNat:Int))) (DW _ _ rfl fun _ => conv_u64_i64 (by rw [DS]; rfl) CG ((u64i (bit)) % (UInt64.ofNat (8*tot + 128))) _ rfl (by omega)) rfl ?_
 refine AA _ (AG rfl) rfl ?_
 refine AN (AE (AI ?_))
 obtain ⟨dq1, hdq1, hdq1a, hdq1b⟩ : ∃ q : Nat, q = (((u64i (bit)) % (UInt64.ofNat (8*tot + 128))).toNat) / 8 ∧ (q : Int) = ((((u64i (bit)) % (UInt64.ofNat (8*tot + 128))).toNat:Int)) / 8 ∧ (q * 8 ≤ (((u64i (bit)) % (UInt64.ofNat (8*tot + 128))).toNat) ∧ (((u64i (bit)) % (UInt64.ofNat (8*tot + 128))).toNat) < q * 8 + 8) := ⟨_, rfl, by first | rfl | omega, by omega⟩
 obtain ⟨dq2, hdq2, hdq2a, hdq2b⟩ : ∃ q : Nat, q = (((u64i (bit)) % (UInt64.ofNat (8*tot + 128))).toNat) % 8 ∧ (q : Int) = ((((u64i (bit)) % (UInt64.ofNat (8*tot + 128))).toNat:Int)) % 8 ∧ (q < 8) := ⟨_, rfl, by first | rfl | omega, by omega⟩
 refine C1 120 2 [(0, Slc nb6 0 (tot + 16) cp3), (1, I64 ((((u64i (bit)) % (UInt64.ofNat (8*tot + 128))).toNat:Int))), (2, I64 dq1), (3, Ptr nb6 dq1), (4, U8 (g8 P dq1)), (5, I64 ((((u64i (bit)) % (UInt64.ofNat (8*tot + 128))).toNat:Int))), (6, I64 dq2), (7, U8 ((1:UInt8) <<< UInt8.ofNat dq2)), (8, U8 ((g8 P dq1) ^^^ ((1:UInt8) <<< UInt8.ofNat dq2))), (9, Ptr nb6 dq1)] BV rfl (by decide +kernel) ?_
 have hl1 : (P.set dq1 ((g8 P dq1) ^^^ ((1:UInt8) <<< UInt8.ofNat dq2))).length = (tot + 16) := by first | (rw [List.length_set]; exact hPl) | simp [hPl]
 refine CQ ⟨[], [0, 1, 2, 3, 4, 5, 6, 7, 8, 9], [], [0, 1, 2, 3, 4, 5, 6, 7, 8, 9], [10]⟩ 10 rfl rfl (by decide +kernel) rfl ⟨A2 rfl rfl rfl, A2 rfl rfl rfl, ⟨_, rfl, AC rfl (AR rfl rfl fun _ => F3 _ _ ((dq1:Int)) (by omega) (by omega) (by omega))⟩, ⟨_, rfl, AC rfl (FC 5 1 dq1 AM AW rfl rfl (by omega) (by omega) (by omega))⟩, ⟨_, rfl, AC rfl (AK rfl (AV D4 (AS 5 rfl (A4 (Seg.get (GE (i := dq1) (by rw [hPl]; omega)))))))⟩, A2 rfl rfl rfl, ⟨_, rfl, AC rfl (AR rfl rfl fun _ => bin_rem_i _ _ ((dq2:Int)) (by omega) (by omega) (by omega))⟩, ⟨_, rfl, AC rfl (AR rfl rfl fun _ => bin_shl_u8 (1:UInt8) _ _ dq2 (by omega) (by omega))⟩, ⟨_, rfl, AC rfl (AR rfl rfl fun _ => FZ (g8 P dq1) ((1:UInt8) <<< UInt8.ofNat dq2))⟩, ⟨_, rfl, AC rfl (FC 5 1 dq1 AM AW rfl rfl (by omega) (by omega) (by omega))⟩, trivial⟩ rfl (AZ rfl (DT 5 nb6 dq1 1 (cu8 P ++ sp3) 5 (U8 ((g8 P dq1) ^^^ ((1:UInt8) <<< UInt8.ofNat dq2))) ([U8 ((g8 P dq1) ^^^ ((1:UInt8) <<< UInt8.ofNat dq2))]) (cu8 (P.set dq1 ((g8 P dq1) ^^^ ((1:UInt8) <<< UInt8.ofNat dq2))) ++ sp3) rfl rfl rfl rfl AW rfl (by simp [Value.oneCell']) (by simp [hPl, hc7]; try omega) (lay_left (p := cu8 P) (vs := [U8 ((g8 P dq1) ^^^ ((1:UInt8) <<< UInt8.ofNat dq2))]) (o := dq1) (by simp [hPl]; omega) (lay8 _ _ _ (by rw [hPl]; omega))))) ?_
 show DP _ _ _ _ _ _ _ _ [_, _, _, _, _, ⟨nb6, cu8 (P.set dq1 ((g8 P dq1) ^^^ ((1:UInt8) <<< UInt8.ofNat dq2))) ++ sp3, 5, (0, 0)⟩, _, _, _]
 refine C4 ⟨[10], [0, 1, 2, 3, 4, 5, 6, 7, 8, 9], [0, 1, 2, 3, 4, 5, 6, 7, 8, 9], [], []⟩ rfl rfl (by decide +kernel) rfl trivial ?_
 refine CI (F' := [(3, Ptr nb1 0), (6, .bool false), (7, Ptr nb5 0), (8, .nilIface), (9, Slc nb6 0 (tot + 16) cp3), (10, Ptr nb9 0), (12, I64 ((((u64i (bit)) % (UInt64.ofNat (8*tot + 128))).toNat:Int)))]) (by kernel_rfl) ?_
 refine AE (AI ?_)
 have hF0 : P.set dq1 ((g8 P dq1) ^^^ ((1:UInt8) <<< UInt8.ofNat dq2)) = flipB P dq1 dq2 := (flipB_def _ _ _).symm
 have hqP : dq1 < P.length := by omega
 have hr8 : dq2 < 8 := by omega
 obtain ⟨F, hF⟩ : ∃ F : List UInt8, flipB P dq1 dq2 = F := ⟨_, rfl⟩
 have hFl : F.length = tot + 16 := by rw [← hF, F2]; exact hPl
 have hFne : F ≠ P := by rw [← hF]; exact flip_neP hqP hr8
 rw [hF0, hF]
 clear hF0
 show JC _ _ _ _ [⟨nb1, cu8 key, 54, (0, 0)⟩, ⟨nb2, [U64 pv, U64 ep, I64 k, .slice ai ni ci, .slice sa ns sc, U64 bl] ++ cu8 tg, 29, (0, 0)⟩, ⟨nb3, cu64 l ++ sp1, 22, (0, 0)⟩, ⟨nb4, ls.flatMap sealC ++ sp2, 161, (0, 0)⟩, ⟨nb5, [U64 pv, U64 ep, I64 k, Slc nb3 0 ni cp1, Slc nb4 0 ns cp2, U64 bl] ++ cu8 (tkG key pv ep k l ls bl), 29, (0, 0)⟩, ⟨nb6, cu8 F ++ sp3, 5, (0, 0)⟩, ⟨nb7, cu64 l ++ sp4, 22, (0, 0)⟩, ⟨nb8, ls.flatMap sealC ++ sp5, 161, (0, 0)⟩, ⟨nb9, [U64 pv, U64 ep, I64 k, Slc nb7 0 ni cp4, Slc nb8 0 ni cp5, U64 bl] ++ cu8 (tkG key pv ep k l ls bl), 29, (0, 0)⟩]
 by_cases hW : Ok1 F ∧ F.length = 60*mQ F + 34
 ·
  have hk9 := vQ_lt1 F 17
  have hmQ := mQ_eq F
  have hpu := put1_q hW.2 hW.1.1
  refine AD (AA _ (AH rfl) rfl ?_)
  have hz2 : (F).length = (tot + 16) := hFl
  refine A1 (BI 65 [Slc nb6 0 (tot + 16) cp3] _ (AY _ Tryd.call65 rfl) (fun w1 hw1 => parse1Z_w (some ⟨nb6, 0, none⟩) (tot + 16) cp3 F w1 rfl hFl (by omega) (by omega) (by omega) (RdB.of hw1 (AS 5 rfl (A4 (AL _))) (by simp)) hW.1 (by omega))) rfl ?_
  rintro v1 L1 ⟨_, ⟨nb10, sp6, cp6, nb11, sp7, cp7, rfl, rfl, hc16, hc17, hc18, hc19, hc20, hc21⟩, rfl⟩
  show JL _ _ _ _ ((88, .tuple #[.agg ([U64 (vQ F 0 8), U64 (vQ F 8 8), I64 (((vQ F 16 1).toNat:Int)), Slc nb10 0 (mQ F) cp6, Slc nb11 0 (mQ F) cp7, U64 0] ++ cu8 (bQ F (60*mQ F + 18) 16)).toArray, .nilIface]) :: _) [_, _, _, _, _, _, _, _, _, ⟨nb10, cu64 (ixQ F 18 (mQ F)) ++ sp6, 22, (0, 0)⟩, ⟨nb11, (seQ F (4*mQ F + 18) (mQ F)).flatMap sealC ++ sp7, 161, (0, 0)⟩]
  refine AA _ (AH rfl) rfl ?_
  refine AA _ (B4 rfl rfl) rfl ?_
  refine AA _ (B4 rfl rfl) rfl ?_
  refine A7 (A5 8 nb9 22 ([U64 pv, U64 ep, I64 k, Slc nb7 0 ni cp4, Slc nb8 0 ni cp5, U64 bl] ++ cu8 (tkG key pv ep k l ls bl)) 29 ([U64 (vQ F 0 8), U64 (vQ F 8 8), I64 (((vQ F 16 1).toNat:Int)), Slc nb10 0 (mQ F) cp6, Slc nb11 0 (mQ F) cp7, U64 0] ++ cu8 (bQ F (60*mQ F + 18) 16)) rfl rfl rfl AT (by simp [(B5 _ _ _)]) (CO (by simp [Value.oneCell']) CD) (by simp [(CL _ _ _ _ _ _ _)]) (BC (by simp [(CL _ _ _ _ _ _ _), (B5 _ _ _)]))) rfl ?_
  show JL _ _ _ _ _ [_, _, _, _, _, _, _, _, ⟨nb9, [U64 (vQ F 0 8), U64 (vQ F 8 8), I64 (((vQ F 16 1).toNat:Int)), Slc nb10 0 (mQ F) cp6, Slc nb11 0 (mQ F) cp7, U64 0] ++ cu8 (bQ F (60*mQ F + 18) 16), 29, (0, 0)⟩, _, _]
  refine AA _ (AG rfl) rfl ?_
  refine AN (AE (AI (AI (AD (AA _ (AH rfl) rfl ?_)))))
  refine AA (.bool false) (C2 _ _ _ rfl rfl (fun _ => EA ..) fun _ => DC A6) rfl ?_
  refine AN (AE (CK _ rfl rfl ?_))
  refine BT (AE (AI ?_))
  by_cases hqt : dq1 < tot
  ·
   refine C1 120 3 [(0, I64 ((((u64i (bit)) % (UInt64.ofNat (8*tot + 128))).toNat:Int))), (1, I64 dq1), (2, Slc nb6 0 (tot + 16) cp3), (3, I64 ((tot:Int) + 16)), (4, I64 tot), (5, .bool (decide (((dq1:Int)) < ((tot:Int))))), (6, .bool (decide (((dq1:Int)) < ((tot:Int))))), (7, .agg (cu8 key).toArray), (8, .agg ([U64 (vQ F 0 8), U64 (vQ F 8 8), I64 (((vQ F 16 1).toNat:Int)), Slc nb10 0 (mQ F) cp6, Slc nb11 0 (mQ F) cp7, U64 0] ++ cu8 (bQ F (60*mQ F + 18) 16)).toArray), (11, Ptr nb9 6), (12, .agg (cu8 (bQ F (60*mQ F + 18) 16)).toArray)] BV rfl (by decide +kernel) ?_
   refine CR ⟨[], [0, 1, 2, 3, 4, 5, 6, 7, 8, 11, 12], [], [0, 1, 2, 3, 4, 5, 6, 7, 8, 11, 12], [9]⟩ 9 _ rfl rfl (by decide +kernel) rfl ⟨A2 rfl rfl rfl, ⟨_, rfl, AC rfl (AR rfl rfl fun _ => F3 _ _ ((dq1:Int)) (by omega) (by omega) (by omega))⟩, A2 rfl rfl rfl, ⟨_, rfl, AC rfl (FX AM rfl (by omega))⟩, ⟨_, rfl, AC rfl (AR rfl rfl fun _ => DD _ _ ((tot:Int)) (by omega) (by omega))⟩, ⟨_, rfl, AC rfl (AR rfl rfl fun _ => CS _ _)⟩, A2 rfl rfl rfl, ⟨_, rfl, DK 6 99 true _ rfl rfl rfl (decide_eq_true (by omega)) (AK rfl (BH DE B1 (CM hk32) (AS 0 rfl (AL _))))⟩, ⟨_, rfl, DK 6 99 true _ rfl rfl rfl (decide_eq_true (by omega)) (AK rfl (BH A9 AT (by simp [(B5 _ _ _)]) (AS 8 rfl (AL _))))⟩, ⟨_, rfl, DK 6 99 true _ rfl rfl rfl (decide_eq_true (by omega)) (AB 6 27 16 AO rfl BE rfl rfl)⟩, ⟨_, rfl, DK 6 99 true _ rfl rfl rfl (decide_eq_true (by omega)) (AK rfl (BH DO BE (CM (B5 _ _ _)) (AS 8 rfl (Seg.right 6 0 rfl rfl (AL _)))))⟩, trivial⟩ rfl (Cok_gstep 6 99 true _ rfl rfl rfl (decide_eq_true (by omega)) (BI 44 [.agg ([U64 (vQ F 0 8), U64 (vQ F 8 8), I64 (((vQ F 16 1).toNat:Int)), Slc nb10 0 (mQ F) cp6, Slc nb11 0 (mQ F) cp7, U64 0] ++ cu8 (bQ F (60*mQ F + 18) 16)).toArray] _ (AY _ Tryd.call44 rfl) (fun w1 hw1 => docTP_c (vQ F 0 8) (vQ F 8 8) (((vQ F 16 1).toNat:Int)) (some ⟨nb10, 0, none⟩) (mQ F) cp6 (ixQ F 18 (mQ F)) (some ⟨nb11, 0, none⟩) (mQ F) cp7 (seQ F (4*mQ F + 18) (mQ F)) (0:UInt64) (bQ F (60*mQ F + 18) 16) w1 (FJ _ _ _) (by omega) (by omega) (by omega) (RdV.of hw1 (AS 9 rfl (A4 (AL _)))) (seQ_len _ _ _) (by omega) (by omega) (by omega) (RdV.of hw1 (AS 10 rfl (A4 (AL _)))) (by omega) (B5 _ _ _)))) ?_
   rintro v1 L1 ⟨_, ⟨nb12, sp8, cp8, rfl, rfl, hc22, hc23, hc24⟩, rfl⟩
   refine ⟨[], ?_⟩
   show DP _ _ _ _ _ _ _ _ [_, _, _, _, _, _, _, _, _, _, _, ⟨nb12, (seQ F (4*mQ F + 18) (mQ F)).flatMap sealC ++ sp8, 164, (0, 0)⟩]
   refine CR ⟨[9], [0, 1, 2, 3, 4, 5, 6, 7, 8, 11, 12], [0, 1, 2, 3, 4, 5, 6, 8], [7, 11, 12], [10]⟩ 10 _ rfl rfl (by decide +kernel) rfl ⟨⟨_, rfl, DK 6 99 true _ rfl rfl rfl (decide_eq_true (by omega)) (AK rfl (BH DE B1 (CM hk32) (AS 0 rfl (AL _))))⟩, ⟨_, rfl, DK 6 99 true _ rfl rfl rfl (decide_eq_true (by omega)) (AB 6 27 16 AO rfl BE rfl rfl)⟩, ⟨_, rfl, DK 6 99 true _ rfl rfl rfl (decide_eq_true (by omega)) (AK rfl (BH DO BE (CM (B5 _ _ _)) (AS 8 rfl (Seg.right 6 0 rfl rfl (AL _)))))⟩, trivial⟩ rfl (Cok_gstep 6 99 true _ rfl rfl rfl (decide_eq_true (by omega)) (A3 50 [.agg (cu8 key).toArray, .agg ([U64 (vQ F 0 8), U64 (vQ F 8 8), I64 (((vQ F 16 1).toNat:Int)), Slc nb10 0 (mQ F) cp6, Slc nb12 0 (mQ F) cp8, U64 0] ++ cu8 (bQ F (60*mQ F + 18) 16)).toArray] (.agg (cu8 (tkG key (vQ F 0 8) (vQ F 8 8) ((vQ F 16 1).toNat) (ixQ F 18 (mQ F)) (seQ F (4*mQ F + 18) (mQ F)) (0:UInt64))).toArray) (AY _ Tryd.call50 rfl) (fun w1 hw1 => rtag13_c key (vQ F 0 8) (vQ F 8 8) ((vQ F 16 1).toNat) (some ⟨nb10, 0, none⟩) (mQ F) cp6 (ixQ F 18 (mQ F)) (some ⟨nb12, 0, none⟩) (mQ F) cp8 (seQ F (4*mQ F + 18) (mQ F)) (0:UInt64) (bQ F (60*mQ F + 18) 16) tot w1 hk32 (FJ _ _ _) (by omega) (by omega) (by omega) (RdV.of hw1 (AS 9 rfl (A4 (AL _)))) (seQ_len _ _ _) (by omega) (by omega) (by omega) (RdV.of hw1 (AS 11 rfl (A4 (AL _)))) (B5 _ _ _) hW.1.2.2 (.inl (by rw [hW.1.1]; rfl)) (by omega) (by unfold tktN; rw [if_neg (by rw [hW.1.1]; decide)]; first | omega | (simp; omega)) (by omega) (GLr.at hw1 hGr) (GLi.at hw1 hGi)))) ?_
   rintro v1 L1 ⟨rfl, rfl⟩
   refine ⟨[(13, .bool (decide ((tkG key (vQ F 0 8) (vQ F 8 8) ((vQ F 16 1).toNat) (ixQ F 18 (mQ F)) (seQ F (4*mQ F + 18) (mQ F)) (0:UInt64)) = (bQ F (60*mQ F + 18) 16)))), (14, .bool (decide ((tkG key (vQ F 0 8) (vQ F 8 8) ((vQ F 16 1).toNat) (ixQ F 18 (mQ F)) (seQ F (4*mQ F + 18) (mQ F)) (0:UInt64)) = (bQ F (60*mQ F + 18) 16)))), (15, .bool (decide ((tkG key (vQ F 0 8) (vQ F 8 8) ((vQ F 16 1).toNat) (ixQ F 18 (mQ F)) (seQ F (4*mQ F + 18) (mQ F)) (0:UInt64)) = (bQ F (60*mQ F + 18) 16))))], ?_⟩
   show DP _ _ _ _ _ _ _ _ [_, _, _, _, _, _, _, _, _, _, _, _]
   refine C4 ⟨[9, 10], [0, 1, 2, 3, 4, 5, 6, 7, 8, 11, 12, 13, 14, 15], [0, 1, 2, 3, 4, 5, 6, 7, 8], [11, 12, 13, 14, 15], []⟩ rfl rfl (by decide +kernel) rfl ⟨⟨_, rfl, DK 6 99 true _ rfl rfl rfl (decide_eq_true (by omega)) (AB 6 27 16 AO rfl BE rfl rfl)⟩, ⟨_, rfl, DK 6 99 true _ rfl rfl rfl (decide_eq_true (by omega)) (AK rfl (BH DO BE (CM (B5 _ _ _)) (AS 8 rfl (Seg.right 6 0 rfl rfl (AL _)))))⟩, ⟨_, rfl, DK 6 99 true _ rfl rfl rfl (decide_eq_true (by omega)) (C2 _ _ _ rfl rfl (fun _ => eqGuard_agg _ _ _ _ _ _ (by kernel_rfl)) fun _ => eql_arr8 BJ B6 D4 F5 Tryd.has5 (by simp [(CL _ _ _ _ _ _ _)]) (by simp [(B5 _ _ _)]))⟩, ⟨_, rfl, AC rfl (CN _ rfl (decide_eq_true (by omega)) rfl)⟩, ⟨_, rfl, AC rfl (AG rfl)⟩, trivial⟩ ?_
   refine CI (F' := [(13, .bool (decide ((tkG key (vQ F 0 8) (vQ F 8 8) ((vQ F 16 1).toNat) (ixQ F 18 (mQ F)) (seQ F (4*mQ F + 18) (mQ F)) (0:UInt64)) = (bQ F (60*mQ F + 18) 16)))), (3, Ptr nb1 0), (6, .bool false), (7, Ptr nb5 0), (10, Ptr nb9 0)]) (by kernel_rfl) ?_
   refine AE (AI (AD (AA (.agg ([U64 (vQ F 0 8), U64 (vQ F 8 8), I64 (((vQ F 16 1).toNat:Int)), Slc nb10 0 (mQ F) cp6, Slc nb11 0 (mQ F) cp7, U64 0] ++ cu8 (bQ F (60*mQ F + 18) 16)).toArray) (AK rfl (BH A9 AT (by simp [(B5 _ _ _)]) (AS 8 rfl (AL _)))) rfl ?_)))
   refine AA (.agg ([U64 pv, U64 ep, I64 k, Slc nb3 0 ni cp1, Slc nb4 0 ns cp2, U64 bl] ++ cu8 (tkG key pv ep k l ls bl)).toArray) (AK rfl (BH A9 AT (by simp [(CL _ _ _ _ _ _ _)]) (AS 4 rfl (AL _)))) rfl ?_
   refine A7 (A3 49 [.agg ([U64 (vQ F 0 8), U64 (vQ F 8 8), I64 (((vQ F 16 1).toNat:Int)), Slc nb10 0 (mQ F) cp6, Slc nb11 0 (mQ F) cp7, U64 0] ++ cu8 (bQ F (60*mQ F + 18) 16)).toArray, .agg ([U64 pv, U64 ep, I64 k, Slc nb3 0 ni cp1, Slc nb4 0 ns cp2, U64 bl] ++ cu8 (tkG key pv ep k l ls bl)).toArray] (.bool (decide ((vQ F 0 8) = pv ∧ (vQ F 8 8) = ep ∧ (bQ F (60*mQ F + 18) 16) = (tkG key pv ep k l ls bl) ∧ (((vQ F 16 1).toNat:Int)) = ((k:Int)) ∧ (0:UInt64) = bl ∧ (ixQ F 18 (mQ F)) = l ∧ (seQ F (4*mQ F + 18) (mQ F)) = ls))) (AY _ Tryd.call49 rfl) (fun w1 hw1 => GC (vQ F 0 8) (vQ F 8 8) (((vQ F 16 1).toNat:Int)) (some ⟨nb10, 0, none⟩) (mQ F) cp6 (ixQ F 18 (mQ F)) (some ⟨nb11, 0, none⟩) (mQ F) cp7 (seQ F (4*mQ F + 18) (mQ F)) (0:UInt64) (bQ F (60*mQ F + 18) 16) pv ep ((k:Int)) (some ⟨nb3, 0, none⟩) ni cp1 l (some ⟨nb4, 0, none⟩) ns cp2 ls bl (tkG key pv ep k l ls bl) w1 (FJ _ _ _) (by omega) (by omega) (by omega) (RdV.of hw1 (AS 9 rfl (A4 (AL _)))) (seQ_len _ _ _) (by omega) (by omega) (by omega) (RdV.of hw1 (AS 10 rfl (A4 (AL _)))) (B5 _ _ _) hl (by omega) (by omega) (by omega) (RdV.of hw1 (AS 2 rfl (A4 (AL _)))) hls (by omega) (by omega) (by omega) (RdV.of hw1 (AS 3 rfl (A4 (AL _)))) (CL _ _ _ _ _ _ _))) rfl ?_
   show JL _ _ _ _ ((110, .bool (decide ((vQ F 0 8) = pv ∧ (vQ F 8 8) = ep ∧ (bQ F (60*mQ F + 18) 16) = (tkG key pv ep k l ls bl) ∧ (((vQ F 16 1).toNat:Int)) = ((k:Int)) ∧ (0:UInt64) = bl ∧ (ixQ F 18 (mQ F)) = l ∧ (seQ F (4*mQ F + 18) (mQ F)) = ls))) :: _) [_, _, _, _, _, _, _, _, _, _, _, _]
   refine AA (.bool (!(decide ((vQ F 0 8) = pv ∧ (vQ F 8 8) = ep ∧ (bQ F (60*mQ F + 18) 16) = (tkG key pv ep k l ls bl) ∧ (((vQ F 16 1).toNat:Int)) = ((k:Int)) ∧ (0:UInt64) = bl ∧ (ixQ F 18 (mQ F)) = l ∧ (seQ F (4*mQ F + 18) (mQ F)) = ls)))) (FH rfl) rfl ?_
   refine AA _ (AH rfl) rfl ?_
   refine A0 4 112 true _ (.agg (cu8 key).toArray) rfl rfl (bnotF (decide_eq_false (EJ hP.symm hpu.symm hFne))) (AK rfl (BH DE B1 (CM hk32) (AS 0 rfl (AL _)))) rfl ?_
   refine A0 4 112 true _ (.agg ([U64 (vQ F 0 8), U64 (vQ F 8 8), I64 (((vQ F 16 1).toNat:Int)), Slc nb10 0 (mQ F) cp6, Slc nb11 0 (mQ F) cp7, U64 0] ++ cu8 (bQ F (60*mQ F + 18) 16)).toArray) rfl rfl (bnotF (decide_eq_false (EJ hP.symm hpu.symm hFne))) (AK rfl (BH A9 AT (by simp [(B5 _ _ _)]) (AS 8 rfl (AL _)))) rfl ?_
   refine EK 4 112 true _ rfl rfl (bnotF (decide_eq_false (EJ hP.symm hpu.symm hFne))) (A3 48 [.agg (cu8 key).toArray, .agg ([U64 (vQ F 0 8), U64 (vQ F 8 8), I64 (((vQ F 16 1).toNat:Int)), Slc nb10 0 (mQ F) cp6, Slc nb11 0 (mQ F) cp7, U64 0] ++ cu8 (bQ F (60*mQ F + 18) 16)).toArray] (errV 50 (chkG key (vQ F 0 8) (vQ F 8 8) ((vQ F 16 1).toNat) (ixQ F 18 (mQ F)) (seQ F (4*mQ F + 18) (mQ F)) (0:UInt64) (bQ F (60*mQ F + 18) 16))) (AY _ Tryd.call48 rfl) (fun w1 hw1 => chk_w key (vQ F 0 8) (vQ F 8 8) ((vQ F 16 1).toNat) (some ⟨nb10, 0, none⟩) (mQ F) cp6 (ixQ F 18 (mQ F)) (some ⟨nb11, 0, none⟩) (mQ F) cp7 (seQ F (4*mQ F + 18) (mQ F)) (0:UInt64) (bQ F (60*mQ F + 18) 16) tot w1 hk32 (FJ _ _ _) (by omega) (by omega) (by omega) (RdV.of hw1 (AS 9 rfl (A4 (AL _)))) (seQ_len _ _ _) (by omega) (by omega) (by omega) (RdV.of hw1 (AS 10 rfl (A4 (AL _)))) (B5 _ _ _) hW.1.2.2 (.inl (by rw [hW.1.1]; rfl)) (by omega) (by unfold tktN; rw [if_neg (by rw [hW.1.1]; decide)]; first | omega | (simp; omega)) (by omega) (hG.at hw1))) rfl ?_
   rintro v1 L1 ⟨rfl, rfl⟩
   show JL _ _ _ _ ((115, errV 50 (chkG key (vQ F 0 8) (vQ F 8 8) ((vQ F 16 1).toNat) (ixQ F 18 (mQ F)) (seQ F (4*mQ F + 18) (mQ F)) (0:UInt64) (bQ F (60*mQ F + 18) 16))) :: _) [_, _, _, _, _, _, _, _, _, _, _, _]
   refine A0 4 112 true _ (.bool (decide (chkG key (vQ F 0 8) (vQ F 8 8) ((vQ F 16 1).toNat) (ixQ F 18 (mQ F)) (seQ F (4*mQ F + 18) (mQ F)) (0:UInt64) (bQ F (60*mQ F + 18) 16) = 0))) rfl rfl (bnotF (decide_eq_false (EJ hP.symm hpu.symm hFne))) (C2 _ _ _ rfl rfl (fun _ => CJ ..) fun _ => eql_errV A6 _ _) rfl ?_
   refine A0 4 112 true _ _ rfl rfl (bnotF (decide_eq_false (EJ hP.symm hpu.symm hFne))) (AH rfl) rfl ?_
   refine A0 4 112 true _ (.bool ((decide (chkG key (vQ F 0 8) (vQ F 8 8) ((vQ F 16 1).toNat) (ixQ F 18 (mQ F)) (seQ F (4*mQ F + 18) (mQ F)) (0:UInt64) (bQ F (60*mQ F + 18) 16) = 0)) == (decide ((tkG key (vQ F 0 8) (vQ F 8 8) ((vQ F 16 1).toNat) (ixQ F 18 (mQ F)) (seQ F (4*mQ F + 18) (mQ F)) (0:UInt64)) = (bQ F (60*mQ F + 18) 16))))) rfl rfl (bnotF (decide_eq_false (EJ hP.symm hpu.symm hFne))) (C2 _ _ _ rfl rfl (fun _ => F9 ..) fun _ => eql_bool Tryd.underlying4) rfl ?_
   refine AA _ (CN _ rfl (bnotF (decide_eq_false (EJ hP.symm hpu.symm hFne))) rfl) rfl ?_
   refine AA _ (AG rfl) rfl ?_
   refine AN (AE (BP (CH [false, false, false, false, false, false, false, false, false, false, false, false] ?_)))
   show JQ _ _ _ _ []
   refine BQ (.bool ((decide (chkG key (vQ F 0 8) (vQ F 8 8) ((vQ F 16 1).toNat) (ixQ F 18 (mQ F)) (seQ F (4*mQ F + 18) (mQ F)) (0:UInt64) (bQ F (60*mQ F + 18) 16) = 0)) == (decide ((tkG key (vQ F 0 8) (vQ F 8 8) ((vQ F 16 1).toNat) (ixQ F 18 (mQ F)) (seQ F (4*mQ F + 18) (mQ F)) (0:UInt64)) = (bQ F (60*mQ F + 18) 16))))) (res1 EV (B2 rfl)) fun w1 hw1 => ?_
   exact ⟨_, [], rfl, ⟨congrArg Value.bool (chk_eq _ _ _ _ _ _ _ _), rfl⟩, hw1.sub (by simp) (by simp)⟩
  ·
   refine C1 120 3 [(0, I64 ((((u64i (bit)) % (UInt64.ofNat (8*tot + 128))).toNat:Int))), (1, I64 dq1), (2, Slc nb6 0 (tot + 16) cp3), (3, I64 ((tot:Int) + 16)), (4, I64 tot), (5, .bool (decide (((dq1:Int)) < ((tot:Int))))), (6, .bool (decide (((dq1:Int)) < ((tot:Int))))), (7, undef), (8, undef), (9, undef), (10, undef), (11, undef), (12, undef), (13, undef), (14, .bool false), (15, .bool false)] BV rfl (by decide +kernel) ?_
   refine C4 ⟨[], [0, 1, 2, 3, 4, 5, 6, 7, 8, 9, 10, 11, 12, 13, 14, 15], [], [0, 1, 2, 3, 4, 5, 6, 7, 8, 9, 10, 11, 12, 13, 14, 15], []⟩ rfl rfl (by decide +kernel) rfl ⟨A2 rfl rfl rfl, ⟨_, rfl, AC rfl (AR rfl rfl fun _ => F3 _ _ ((dq1:Int)) (by omega) (by omega) (by omega))⟩, A2 rfl rfl rfl, ⟨_, rfl, AC rfl (FX AM rfl (by omega))⟩, ⟨_, rfl, AC rfl (AR rfl rfl fun _ => DD _ _ ((tot:Int)) (by omega) (by omega))⟩, ⟨_, rfl, AC rfl (AR rfl rfl fun _ => CS _ _)⟩, A2 rfl rfl rfl, ⟨_, rfl, DM 6 99 true _ rfl rfl rfl (decide_eq_false (by omega))⟩, ⟨_, rfl, DM 6 99 true _ rfl rfl rfl (decide_eq_false (by omega))⟩, ⟨_, rfl, DM 6 99 true _ rfl rfl rfl (decide_eq_false (by omega))⟩, ⟨_, rfl, DM 6 99 true _ rfl rfl rfl (decide_eq_false (by omega))⟩, ⟨_, rfl, DM 6 99 true _ rfl rfl rfl (decide_eq_false (by omega))⟩, ⟨_, rfl, DM 6 99 true _ rfl rfl rfl (decide_eq_false (by omega))⟩, ⟨_, rfl, DM 6 99 true _ rfl rfl rfl (decide_eq_false (by omega))⟩, ⟨_, rfl, AC rfl (BU _ rfl (decide_eq_false (by omega)) rfl)⟩, ⟨_, rfl, AC rfl (AG rfl)⟩, trivial⟩ ?_
   refine CI (F' := [(13, .bool false), (3, Ptr nb1 0), (6, .bool false), (7, Ptr nb5 0), (10, Ptr nb9 0)]) (by kernel_rfl) ?_
   refine AE (AI (AD (AA (.agg ([U64 (vQ F 0 8), U64 (vQ F 8 8), I64 (((vQ F 16 1).toNat:Int)), Slc nb10 0 (mQ F) cp6, Slc nb11 0 (mQ F) cp7, U64 0] ++ cu8 (bQ F (60*mQ F + 18) 16)).toArray) (AK rfl (BH A9 AT (by simp [(B5 _ _ _)]) (AS 8 rfl (AL _)))) rfl ?_)))
   refine AA (.agg ([U64 pv, U64 ep, I64 k, Slc nb3 0 ni cp1, Slc nb4 0 ns cp2, U64 bl] ++ cu8 (tkG key pv ep k l ls bl)).toArray) (AK rfl (BH A9 AT (by simp [(CL _ _ _ _ _ _ _)]) (AS 4 rfl (AL _)))) rfl ?_
   refine A7 (A3 49 [.agg ([U64 (vQ F 0 8), U64 (vQ F 8 8), I64 (((vQ F 16 1).toNat:Int)), Slc nb10 0 (mQ F) cp6, Slc nb11 0 (mQ F) cp7, U64 0] ++ cu8 (bQ F (60*mQ F + 18) 16)).toArray, .agg ([U64 pv, U64 ep, I64 k, Slc nb3 0 ni cp1, Slc nb4 0 ns cp2, U64 bl] ++ cu8 (tkG key pv ep k l ls bl)).toArray] (.bool (decide ((vQ F 0 8) = pv ∧ (vQ F 8 8) = ep ∧ (bQ F (60*mQ F + 18) 16) = (tkG key pv ep k l ls bl) ∧ (((vQ F 16 1).toNat:Int)) = ((k:Int)) ∧ (0:UInt64) = bl ∧ (ixQ F 18 (mQ F)) = l ∧ (seQ F (4*mQ F + 18) (mQ F)) = ls))) (AY _ Tryd.call49 rfl) (fun w1 hw1 => GC (vQ F 0 8) (vQ F 8 8) (((vQ F 16 1).toNat:Int)) (some ⟨nb10, 0, none⟩) (mQ F) cp6 (ixQ F 18 (mQ F)) (some ⟨nb11, 0, none⟩) (mQ F) cp7 (seQ F (4*mQ F + 18) (mQ F)) (0:UInt64) (bQ F (60*mQ F + 18) 16) pv ep ((k:Int)) (some ⟨nb3, 0, none⟩) ni cp1 l (some ⟨nb4, 0, none⟩) ns cp2 ls bl (tkG key pv ep k l ls bl) w1 (FJ _ _ _) (by omega) (by omega) (by omega) (RdV.of hw1 (AS 9 rfl (A4 (AL _)))) (seQ_len _ _ _) (by omega) (by omega) (by omega) (RdV.of hw1 (AS 10 rfl (A4 (AL _)))) (B5 _ _ _) hl (by omega) (by omega) (by omega) (RdV.of hw1 (AS 2 rfl (A4 (AL _)))) hls (by omega) (by omega) (by omega) (RdV.of hw1 (AS 3 rfl (A4 (AL _)))) (CL _ _ _ _ _ _ _))) rfl ?_
   show JL _ _ _ _ ((110, .bool (decide ((vQ F 0 8) = pv ∧ (vQ F 8 8) = ep ∧ (bQ F (60*mQ F + 18) 16) = (tkG key pv ep k l ls bl) ∧ (((vQ F 16 1).toNat:Int)) = ((k:Int)) ∧ (0:UInt64) = bl ∧ (ixQ F 18 (mQ F)) = l ∧ (seQ F (4*mQ F + 18) (mQ F)) = ls))) :: _) [_, _, _, _, _, _, _, _, _, _, _]
   refine AA (.bool (!(decide ((vQ F 0 8) = pv ∧ (vQ F 8 8) = ep ∧ (bQ F (60*mQ F + 18) 16) = (tkG key pv ep k l ls bl) ∧ (((vQ F 16 1).toNat:Int)) = ((k:Int)) ∧ (0:UInt64) = bl ∧ (ixQ F 18 (mQ F)) = l ∧ (seQ F (4*mQ F + 18) (mQ F)) = ls)))) (FH rfl) rfl ?_
   refine AA _ (AH rfl) rfl ?_
   refine A0 4 112 true _ (.agg (cu8 key).toArray) rfl rfl (bnotF (decide_eq_false (EJ hP.symm hpu.symm hFne))) (AK rfl (BH DE B1 (CM hk32) (AS 0 rfl (AL _)))) rfl ?_
   refine A0 4 112 true _ (.agg ([U64 (vQ F 0 8), U64 (vQ F 8 8), I64 (((vQ F 16 1).toNat:Int)), Slc nb10 0 (mQ F) cp6, Slc nb11 0 (mQ F) cp7, U64 0] ++ cu8 (bQ F (60*mQ F + 18) 16)).toArray) rfl rfl (bnotF (decide_eq_false (EJ hP.symm hpu.symm hFne))) (AK rfl (BH A9 AT (by simp [(B5 _ _ _)]) (AS 8 rfl (AL _)))) rfl ?_
   refine EK 4 112 true _ rfl rfl (bnotF (decide_eq_false (EJ hP.symm hpu.symm hFne))) (A3 48 [.agg (cu8 key).toArray, .agg ([U64 (vQ F 0 8), U64 (vQ F 8 8), I64 (((vQ F 16 1).toNat:Int)), Slc nb10 0 (mQ F) cp6, Slc nb11 0 (mQ F) cp7, U64 0] ++ cu8 (bQ F (60*mQ F + 18) 16)).toArray] (errV 50 (chkG key (vQ F 0 8) (vQ F 8 8) ((vQ F 16 1).toNat) (ixQ F 18 (mQ F)) (seQ F (4*mQ F + 18) (mQ F)) (0:UInt64) (bQ F (60*mQ F + 18) 16))) (AY _ Tryd.call48 rfl) (fun w1 hw1 => chk_w key (vQ F 0 8) (vQ F 8 8) ((vQ F 16 1).toNat) (some ⟨nb10, 0, none⟩) (mQ F) cp6 (ixQ F 18 (mQ F)) (some ⟨nb11, 0, none⟩) (mQ F) cp7 (seQ F (4*mQ F + 18) (mQ F)) (0:UInt64) (bQ F (60*mQ F + 18) 16) tot w1 hk32 (FJ _ _ _) (by omega) (by omega) (by omega) (RdV.of hw1 (AS 9 rfl (A4 (AL _)))) (seQ_len _ _ _) (by omega) (by omega) (by omega) (RdV.of hw1 (AS 10 rfl (A4 (AL _)))) (B5 _ _ _) hW.1.2.2 (.inl (by rw [hW.1.1]; rfl)) (by omega) (by unfold tktN; rw [if_neg (by rw [hW.1.1]; decide)]; first | omega | (simp; omega)) (by omega) (hG.at hw1))) rfl ?_
   rintro v1 L1 ⟨rfl, rfl⟩
   show JL _ _ _ _ ((115, errV 50 (chkG key (vQ F 0 8) (vQ F 8 8) ((vQ F 16 1).toNat) (ixQ F 18 (mQ F)) (seQ F (4*mQ F + 18) (mQ F)) (0:UInt64) (bQ F (60*mQ F + 18) 16))) :: _) [_, _, _, _, _, _, _, _, _, _, _]
   refine A0 4 112 true _ (.bool (decide (chkG key (vQ F 0 8) (vQ F 8 8) ((vQ F 16 1).toNat) (ixQ F 18 (mQ F)) (seQ F (4*mQ F + 18) (mQ F)) (0:UInt64) (bQ F (60*mQ F + 18) 16) = 0))) rfl rfl (bnotF (decide_eq_false (EJ hP.symm hpu.symm hFne))) (C2 _ _ _ rfl rfl (fun _ => CJ ..) fun _ => eql_errV A6 _ _) rfl ?_
   refine A0 4 112 true _ _ rfl rfl (bnotF (decide_eq_false (EJ hP.symm hpu.symm hFne))) (AH rfl) rfl ?_
   refine A0 4 112 true _ (.bool ((decide (chkG key (vQ F 0 8) (vQ F 8 8) ((vQ F 16 1).toNat) (ixQ F 18 (mQ F)) (seQ F (4*mQ F + 18) (mQ F)) (0:UInt64) (bQ F (60*mQ F + 18) 16) = 0)) == false)) rfl rfl (bnotF (decide_eq_false (EJ hP.symm hpu.symm hFne))) (C2 _ _ _ rfl rfl (fun _ => F9 ..) fun _ => eql_bool Tryd.underlying4) rfl ?_
   refine AA _ (CN _ rfl (bnotF (decide_eq_false (EJ hP.symm hpu.symm hFne))) rfl) rfl ?_
   refine AA _ (AG rfl) rfl ?_
   refine AN (AE (BP (CH [false, false, false, false, false, false, false, false, false, false, false] ?_)))
   show JQ _ _ _ _ []
   refine BQ (.bool ((decide (chkG key (vQ F 0 8) (vQ F 8 8) ((vQ F 16 1).toNat) (ixQ F 18 (mQ F)) (seQ F (4*mQ F + 18) (mQ F)) (0:UInt64) (bQ F (60*mQ F + 18) 16) = 0)) == false)) (res1 EV (B2 rfl)) fun w1 hw1 => ?_
   exact ⟨_, [], rfl, ⟨congrArg Value.bool (beqF (decide_eq_false (chk_flip hP.symm hpu.symm ((EX hl hls).trans htot) (by rw [← hF]; exact flip_take hqP (by omega)) hFne (by rw [EX (FJ _ _ _) (seQ_len _ _ _)]; (unfold tktN; rw [if_neg (by rw [hW.1.1]; decide)]; first | omega | (simp; omega)))))), rfl⟩, hw1.sub (by simp) (by simp)⟩
 ·
  have hnW : ¬ WholeT F := by
   rw [← hF] at hW ⊢
   subst hk
   exact noWhole1 (n := ni) (back1 hP.symm (CL _ _ _ _ _ _ _) hmay hl (hls.trans hnn1)).1.1 (by omega) hqP hr8 hW
  refine AD (AA _ (AH rfl) rfl ?_)
  have hz3 : (F).length = (tot + 16) := hFl
  refine A7 (A3 65 [Slc nb6 0 (tot + 16) cp3] (.tuple #[.agg ([U64 0, U64 0, I64 0, .slice none 0 0, .slice none 0 0, U64 0] ++ cu8 (zr8 16)).toArray, .iface 50 (I64 2)]) (AY _ Tryd.call65 rfl) (fun w1 hw1 => parseX_w (some ⟨nb6, 0, none⟩) (tot + 16) cp3 F w1 rfl hFl (by omega) (by omega) (by omega) (RdB.of hw1 (AS 5 rfl (A4 (AL _))) (by simp)) hnW)) rfl ?_
  show JL _ _ _ _ ((88, .tuple #[.agg ([U64 0, U64 0, I64 0, .slice none 0 0, .slice none 0 0, U64 0] ++ cu8 (zr8 16)).toArray, .iface 50 (I64 2)]) :: _) [_, _, _, _, _, _, _, _, _]
  refine AA _ (AH rfl) rfl ?_
  refine AA _ (B4 rfl rfl) rfl ?_
  refine AA _ (B4 rfl rfl) rfl ?_
  refine A7 (A5 8 nb9 22 ([U64 pv, U64 ep, I64 k, Slc nb7 0 ni cp4, Slc nb8 0 ni cp5, U64 bl] ++ cu8 (tkG key pv ep k l ls bl)) 29 ([U64 0, U64 0, I64 0, .slice none 0 0, .slice none 0 0, U64 0] ++ cu8 (zr8 16)) rfl rfl rfl AT (by simp [(AP 16)]) (CO (by simp [Value.oneCell']) CD) (by simp [(CL _ _ _ _ _ _ _)]) (BC (by simp [(CL _ _ _ _ _ _ _), (AP 16)]))) rfl ?_
  show JL _ _ _ _ _ [_, _, _, _, _, _, _, _, ⟨nb9, [U64 0, U64 0, I64 0, .slice none 0 0, .slice none 0 0, U64 0] ++ cu8 (zr8 16), 29, (0, 0)⟩]
  refine AA _ (AG rfl) rfl ?_
  refine AN (AE (AI (AI (AD (AA _ (AH rfl) rfl ?_)))))
  refine AA (.bool true) (C2 _ _ _ rfl rfl (fun _ => eqGuard_if ..) fun _ => neq_if_nil A6) rfl ?_
  refine AN (AE (DJ _ rfl rfl ?_))
  refine AI (AD (AA _ (AG rfl) rfl ?_))
  refine AN (AE (BP (BN (CH [false, false, false, false, false, false, false, false, false] ?_))))
  show JQ _ _ _ _ []
  refine BQ (.bool true) (res1 EV (B2 rfl)) fun w1 hw1 => ?_
  exact ⟨_, [], rfl, ⟨congrArg Value.bool rfl, rfl⟩, hw1.sub (by simp) (by simp)⟩
set_option maxHeartbeats 4000000 in
theorem tb2_c (key : List UInt8) (pv ep : UInt64) (k : Nat) (ai : Option Addr) (ni ci : Nat) (l : List UInt64) (sa : Option Addr) (sc : Nat) (bl : UInt64) (tg : List UInt8) (bit : Int) (tot : Nat)  (w : World) (hk32 : key.length = 32) (hl : l.length = ni) (hnm : ni ≤ 2000000) (hnc : ni ≤ ci) (hcm : ci ≤ maxLen) (hv : RdV w ai (cu64 l)) (hcs : sc ≤ maxLen) (hnS : sa = none → sc = 0) (htg : tg.length = 16) (hbit : -9223372036854775808 ≤ bit ∧ bit ≤ 9223372036854775807) (hp1 : 0 < ni) (hG : GLs w) (hGr : GLr w) (hGi : GLi w) (hmay : mayN pv ep (k:Int) l ([] : List SealR) bl = 0) (hk : k = 2) (htot : tktN k ni 0 = tot) (htb : tot ≤ 30000) (hnb : ni ≤ 300) (hlg : ¬ LargeP ni 0)  : Calls Tryd.prog 12 #[.agg (cu8 key).toArray, .agg ([U64 pv, U64 ep, I64 k, .slice ai ni ci, .slice sa 0 sc, U64 bl] ++ cu8 tg).toArray, I64 (bit)] w (Post w [] (fun v L => v = .bool true ∧ L = [])) := by
 have hmx : maxLen = 9223372036854775807 := rfl
 have hkq := rem_lt (m := 8*tot + 128) (u64i bit) (by omega) (by omega)
 have htot2 : tot = 4*ni + 18 := by
  rw [← htot]; unfold tktN
  rw [if_neg (by omega)]
  all_goals omega
 refine enter (P := Tryd.prog) (f := 12) (fn := Tryd.f12) w [] 120 [] [.agg (cu8 key).toArray, .agg ([U64 pv, U64 ep, I64 k, .slice ai ni ci, .slice sa 0 sc, U64 bl] ++ cu8 tg).toArray, I64 (bit)] Tryd.func12 rfl rfl (by simp) (BZ (by simp) (by simp) (by simp)) ?_
 show JC _ _ _ [(0, .agg (cu8 key).toArray), (1, .agg ([U64 pv, U64 ep, I64 k, .slice ai ni ci, .slice sa 0 sc, U64 bl] ++ cu8 tg).toArray), (2, I64 (bit))] _
 refine AI (AD (A1 (CW (.agg (cu8 key).toArray) (cu8 key) rfl (by first | rfl | simp)) rfl ?_))
 rintro v1 L1 ⟨nb1, hnb1, rfl, rfl⟩
 show JL _ _ _ _ ((3, Ptr nb1 0) :: _) [⟨nb1, cu8 key, 54, (0, 0)⟩]
 refine A1 (CW (.agg ([U64 pv, U64 ep, I64 k, .slice ai ni ci, .slice sa 0 sc, U64 bl] ++ cu8 tg).toArray) ([U64 pv, U64 ep, I64 k, .slice ai ni ci, .slice sa 0 sc, U64 bl] ++ cu8 tg) rfl (by first | rfl | simp)) rfl ?_
 rintro v1 L1 ⟨nb2, hnb2, rfl, rfl⟩
 show JL _ _ _ _ ((4, Ptr nb2 0) :: _) [_, ⟨nb2, [U64 pv, U64 ep, I64 k, .slice ai ni ci, .slice sa 0 sc, U64 bl] ++ cu8 tg, 29, (0, 0)⟩]
 refine AA _ (AG rfl) rfl ?_
 refine AN (AE (AI (AI (AD (A1 (A3 43 [] (.bool true) (AY _ Tryd.call43 rfl) (fun w1 hw1 => alive13_c  w1 (hG.at hw1))) rfl ?_)))))
 rintro v1 L1 ⟨rfl, rfl⟩
 show JL _ _ _ _ ((14, .bool true) :: _) [_, _]
 refine AA (.bool (!true)) (FH rfl) rfl ?_
 refine AN (AE (CK _ rfl rfl ?_))
 refine BT (AE (AI (AI (AD (AA (Ptr nb2 2) (AB 2 26 4 AO rfl A8 rfl rfl) rfl ?_)))))
 refine AA (.agg #[I64 k, .slice ai ni ci, .slice sa 0 sc, U64 bl]) (AK rfl (BH DG A8 rfl (AS 1 rfl (EI (p := [U64 pv, U64 ep]) (q := cu8 tg) (vs := [I64 k, .slice ai ni ci, .slice sa 0 sc, U64 bl]) (by first | rfl | (simp only [List.append_assoc, List.nil_append, List.append_nil, List.cons_append]; done)) rfl)))) rfl ?_
 refine A7 (A3 18 [.agg #[I64 k, .slice ai ni ci, .slice sa 0 sc, U64 bl]] (.bool (decide (LargeP ni 0))) (AY _ Tryd.call18 rfl) (fun w1 hw1 => large_c ((k:Int)) ai ni ci l sa 0 sc ([] : List SealR) bl w1 )) rfl ?_
 show JL _ _ _ _ ((18, .bool (decide (LargeP ni 0))) :: _) [_, _]
 refine AN (AE (CK _ rfl (decide_eq_false hlg) ?_))
 refine BT (AE (AI (AD (AA (.agg (cu8 key).toArray) (AK rfl (BH DE B1 (CM hk32) (AS 0 rfl (AL _)))) rfl ?_))))
 refine AA (Ptr nb2 0) (AB 0 22 1 AO rfl AU rfl rfl) rfl ?_
 refine AA (U64 pv) (AK rfl (AV AX (AS 1 rfl (A4 (Seg.head))))) rfl ?_
 refine AA (Ptr nb2 1) (AB 1 22 1 AO rfl AU rfl rfl) rfl ?_
 refine AA (U64 ep) (AK rfl (AV AX (AS 1 rfl (A4 (AJ (Seg.head)))))) rfl ?_
 refine AA (Ptr nb2 2) (AB 2 26 4 AO rfl A8 rfl rfl) rfl ?_
 refine AA (.agg #[I64 k, .slice ai ni ci, .slice sa 0 sc, U64 bl]) (AK rfl (BH DG A8 rfl (AS 1 rfl (EI (p := [U64 pv, U64 ep]) (q := cu8 tg) (vs := [I64 k, .slice ai ni ci, .slice sa 0 sc, U64 bl]) (by first | rfl | (simp only [List.append_assoc, List.nil_append, List.append_nil, List.cons_append]; done)) rfl)))) rfl ?_
 refine A1 (BI 46 [.agg (cu8 key).toArray, U64 pv, U64 ep, .agg #[I64 k, .slice ai ni ci, .slice sa 0 sc, U64 bl]] _ (AY _ Tryd.call46 rfl) (fun w1 hw1 => sign2_c key pv ep k ai ni ci l sa sc bl tot w1 hk32 hl (by omega) (by omega) (by omega) (EG hw1 rfl hv) (by omega) hnS (by omega) hmay (by omega) htot (by omega) (by omega) (hG.at hw1))) rfl ?_
 rintro v1 L1 ⟨_, ⟨nb3, sp1, cp1, ao1, ca1, rfl, rfl, hc1, hc2, hc3, hc4, hc5⟩, rfl⟩
 show JL _ _ _ _ ((27, .tuple #[.agg ([U64 pv, U64 ep, I64 k, Slc nb3 0 ni cp1, .slice ao1 0 ca1, U64 bl] ++ cu8 (tkG key pv ep k l ([] : List SealR) bl)).toArray, .nilIface]) :: _) [_, _, ⟨nb3, cu64 l ++ sp1, 22, (0, 0)⟩]
 refine AA _ (AH rfl) rfl ?_
 refine AA _ (B4 rfl rfl) rfl ?_
 refine AA _ (B4 rfl rfl) rfl ?_
 refine A1 (BG _ ([U64 0, U64 0, I64 0, .slice none 0 0, .slice none 0 0, U64 0] ++ cu8 (zr8 16)) BK (by kernel_rfl)) rfl ?_
 rintro v1 L1 ⟨nb4, hnb4, rfl, rfl⟩
 show JL _ _ _ _ ((7, Ptr nb4 0) :: _) [_, _, _, ⟨nb4, [U64 0, U64 0, I64 0, .slice none 0 0, .slice none 0 0, U64 0] ++ cu8 (zr8 16), 29, (0, 0)⟩]
 refine A7 (A5 3 nb4 22 ([U64 0, U64 0, I64 0, .slice none 0 0, .slice none 0 0, U64 0] ++ cu8 (zr8 16)) 29 ([U64 pv, U64 ep, I64 k, Slc nb3 0 ni cp1, .slice ao1 0 ca1, U64 bl] ++ cu8 (tkG key pv ep k l ([] : List SealR) bl)) rfl rfl rfl AT (by simp [(CL _ _ _ _ _ _ _)]) (CO (by simp [Value.oneCell']) CD) (by simp [(AP 16)]) (BC (by simp [(AP 16), (CL _ _ _ _ _ _ _)]))) rfl ?_
 show JL _ _ _ _ _ [_, _, _, ⟨nb4, [U64 pv, U64 ep, I64 k, Slc nb3 0 ni cp1, .slice ao1 0 ca1, U64 bl] ++ cu8 (tkG key pv ep k l ([] : List SealR) bl), 29, (0, 0)⟩]
 refine AA _ (AG rfl) rfl ?_
 refine AN (AE (AI (AI (AD (AA _ (AH rfl) rfl ?_)))))
 refine AA (.bool false) (C2 _ _ _ rfl rfl (fun _ => EA ..) fun _ => DC A6) rfl ?_
 refine AN (AE (CK _ rfl rfl ?_))
 refine BT (AE (AI (AD (AA (.agg ([U64 pv, U64 ep, I64 k, Slc nb3 0 ni cp1, .slice ao1 0 ca1, U64 bl] ++ cu8 (tkG key pv ep k l ([] : List SealR) bl)).toArray) (AK rfl (BH A9 AT (by simp [(CL _ _ _ _ _ _ _)]) (AS 3 rfl (AL _)))) rfl ?_))))
 refine A1 (BI 47 [.agg ([U64 pv, U64 ep, I64 k, Slc nb3 0 ni cp1, .slice ao1 0 ca1, U64 bl] ++ cu8 (tkG key pv ep k l ([] : List SealR) bl)).toArray] _ (AY _ Tryd.call47 rfl) (fun w1 hw1 => put13_c pv ep k (some ⟨nb3, 0, none⟩) ni cp1 l ao1 0 ca1 ([] : List SealR) bl (tkG key pv ep k l ([] : List SealR) bl) tot w1 hl (by omega) (by omega) (by omega) (RdV.of hw1 (AS 2 rfl (A4 (AL _)))) rfl (by omega) (by omega) (by omega) RdV.nil (CL _ _ _ _ _ _ _) hmay (by omega) (by omega) htot (by omega))) rfl ?_
 rintro v1 L1 ⟨_, ⟨nb5, sp2, cp2, rfl, rfl, hc6, hc7, hc8⟩, rfl⟩
 show JL _ _ _ _ ((37, .tuple #[Slc nb5 0 (tot + 16) cp2, .nilIface]) :: _) [_, _, _, _, ⟨nb5, cu8 ((tktT pv ep k l ([] : List SealR) bl) ++ (tkG key pv ep k l ([] : List SealR) bl)) ++ sp2, 5, (0, 0)⟩]
 refine AA _ (AH rfl) rfl ?_
 refine AA _ (B4 rfl rfl) rfl ?_
 refine AA _ (B4 rfl rfl) rfl ?_
 refine AA _ (AG rfl) rfl ?_
 refine AA _ (AG rfl) rfl ?_
 refine AN (AE (AI ?_))
 obtain ⟨P, hP, hPl⟩ : ∃ P : List UInt8, (tktT pv ep k l ([] : List SealR) bl) ++ (tkG key pv ep k l ([] : List SealR) bl) = P ∧ P.length = tot + 16 := ⟨_, rfl, (show ((tktT pv ep k l ([] : List SealR) bl) ++ (tkG key pv ep k l ([] : List SealR) bl)).length = (tot + 16) from (by rw [List.length_append, ((EX hl rfl).trans htot), (CL _ _ _ _ _ _ _)]))⟩
 rw [hP]
 show JC _ _ _ _ [⟨nb1, cu8 key, 54, (0, 0)⟩, ⟨nb2, [U64 pv, U64 ep, I64 k, .slice ai ni ci, .slice sa 0 sc, U64 bl] ++ cu8 tg, 29, (0, 0)⟩, ⟨nb3, cu64 l ++ sp1, 22, (0, 0)⟩, ⟨nb4, [U64 pv, U64 ep, I64 k, Slc nb3 0 ni cp1, .slice ao1 0 ca1, U64 bl] ++ cu8 (tkG key pv ep k l ([] : List SealR) bl), 29, (0, 0)⟩, ⟨nb5, cu8 P ++ sp2, 5, (0, 0)⟩]
 refine AD (AA _ (AH rfl) rfl ?_)
 have hz1 : (P).length = (tot + 16) := hPl
 refine A1 (BI 65 [Slc nb5 0 (tot + 16) cp2] _ (AY _ Tryd.call65 rfl) (fun w1 hw1 => parsePut2_w (some ⟨nb5, 0, none⟩) (tot + 16) cp2 P pv ep k l ni bl (tkG key pv ep k l ([] : List SealR) bl) w1 rfl hPl (by omega) (by omega) (by omega) (RdB.of hw1 (AS 4 rfl (A4 (AL _))) (by simp)) hk hP.symm (CL _ _ _ _ _ _ _) hmay hl)) rfl ?_
 rintro v1 L1 ⟨_, ⟨nb6, sp3, cp3, rfl, rfl, hc9, hc10, hc11⟩, rfl⟩
 show JL _ _ _ _ ((42, .tuple #[.agg ([U64 pv, U64 ep, I64 k, Slc nb6 0 ni cp3, .slice none 0 0, U64 bl] ++ cu8 (tkG key pv ep k l ([] : List SealR) bl)).toArray, .nilIface]) :: _) [_, _, _, _, _, ⟨nb6, cu64 l ++ sp3, 22, (0, 0)⟩]
 refine AA _ (AH rfl) rfl ?_
 refine AA _ (B4 rfl rfl) rfl ?_
 refine AA _ (B4 rfl rfl) rfl ?_
 refine A1 (BG _ ([U64 0, U64 0, I64 0, .slice none 0 0, .slice none 0 0, U64 0] ++ cu8 (zr8 16)) BK (by kernel_rfl)) rfl ?_
 rintro v1 L1 ⟨nb7, hnb7, rfl, rfl⟩
 show JL _ _ _ _ ((10, Ptr nb7 0) :: _) [_, _, _, _, _, _, ⟨nb7, [U64 0, U64 0, I64 0, .slice none 0 0, .slice none 0 0, U64 0] ++ cu8 (zr8 16), 29, (0, 0)⟩]
 refine A7 (A5 6 nb7 22 ([U64 0, U64 0, I64 0, .slice none 0 0, .slice none 0 0, U64 0] ++ cu8 (zr8 16)) 29 ([U64 pv, U64 ep, I64 k, Slc nb6 0 ni cp3, .slice none 0 0, U64 bl] ++ cu8 (tkG key pv ep k l ([] : List SealR) bl)) rfl rfl rfl AT (by simp [(CL _ _ _ _ _ _ _)]) (CO (by simp [Value.oneCell']) CD) (by simp [(AP 16)]) (BC (by simp [(AP 16), (CL _ _ _ _ _ _ _)]))) rfl ?_
 show JL _ _ _ _ _ [_, _, _, _, _, _, ⟨nb7, [U64 pv, U64 ep, I64 k, Slc nb6 0 ni cp3, .slice none 0 0, U64 bl] ++ cu8 (tkG key pv ep k l ([] : List SealR) bl), 29, (0, 0)⟩]
 refine AA _ (AG rfl) rfl ?_
 refine AN (AE (AI (AI (AD (AA _ (AH rfl) rfl ?_)))))
 refine AA (.bool false) (C2 _ _ _ rfl rfl (fun _ => EA ..) fun _ => DC A6) rfl ?_
 refine AA _ (AH rfl) rfl ?_
 refine A0 2 47 false _ _ rfl rfl rfl (AH rfl) rfl ?_
 refine A0 2 47 false _ (.bool false) rfl rfl rfl (C2 _ _ _ rfl rfl (fun _ => EA ..) fun _ => DC A6) rfl ?_
 refine AA _ (BU _ rfl rfl rfl) rfl ?_
 refine AA _ (AH rfl) rfl ?_
 refine A0 6 51 false _ (.agg ([U64 pv, U64 ep, I64 k, Slc nb6 0 ni cp3, .slice none 0 0, U64 bl] ++ cu8 (tkG key pv ep k l ([] : List SealR) bl)).toArray) rfl rfl rfl (AK rfl (BH A9 AT (by simp [(CL _ _ _ _ _ _ _)]) (AS 6 rfl (AL _)))) rfl ?_
 refine A0 6 51 false _ (.agg ([U64 pv, U64 ep, I64 k, Slc nb3 0 ni cp1, .slice ao1 0 ca1, U64 bl] ++ cu8 (tkG key pv ep k l ([] : List SealR) bl)).toArray) rfl rfl rfl (AK rfl (BH A9 AT (by simp [(CL _ _ _ _ _ _ _)]) (AS 3 rfl (AL _)))) rfl ?_
 refine EK 6 51 false _ rfl rfl rfl (A3 49 [.agg ([U64 pv, U64 ep, I64 k, Slc nb6 0 ni cp3, .slice none 0 0, U64 bl] ++ cu8 (tkG key pv ep k l ([] : List SealR) bl)).toArray, .agg ([U64 pv, U64 ep, I64 k, Slc nb3 0 ni cp1, .slice ao1 0 ca1, U64 bl] ++ cu8 (tkG key pv ep k l ([] : List SealR) bl)).toArray] (.bool (decide (pv = pv ∧ ep = ep ∧ (tkG key pv ep k l ([] : List SealR) bl) = (tkG key pv ep k l ([] : List SealR) bl) ∧ ((k:Int)) = ((k:Int)) ∧ bl = bl ∧ l = l ∧ ([] : List SealR) = ([] : List SealR)))) (AY _ Tryd.call49 rfl) (fun w1 hw1 => GC pv ep ((k:Int)) (some ⟨nb6, 0, none⟩) ni cp3 l none 0 0 ([] : List SealR) bl (tkG key pv ep k l ([] : List SealR) bl) pv ep ((k:Int)) (some ⟨nb3, 0, none⟩) ni cp1 l ao1 0 ca1 ([] : List SealR) bl (tkG key pv ep k l ([] : List SealR) bl) w1 hl (by omega) (by omega) (by omega) (RdV.of hw1 (AS 5 rfl (A4 (AL _)))) rfl (by omega) (by omega) (by omega) RdV.nil (CL _ _ _ _ _ _ _) hl (by omega) (by omega) (by omega) (RdV.of hw1 (AS 2 rfl (A4 (AL _)))) rfl (by omega) (by omega) (by omega) RdV.nil (CL _ _ _ _ _ _ _))) rfl ?_
 rintro v1 L1 ⟨rfl, rfl⟩
 show JL _ _ _ _ ((54, .bool (decide (pv = pv ∧ ep = ep ∧ (tkG key pv ep k l ([] : List SealR) bl) = (tkG key pv ep k l ([] : List SealR) bl) ∧ ((k:Int)) = ((k:Int)) ∧ bl = bl ∧ l = l ∧ ([] : List SealR) = ([] : List SealR)))) :: _) [_, _, _, _, _, _, _]
 refine A0 6 51 false _ (.bool (!(decide (pv = pv ∧ ep = ep ∧ (tkG key pv ep k l ([] : List SealR) bl) = (tkG key pv ep k l ([] : List SealR) bl) ∧ ((k:Int)) = ((k:Int)) ∧ bl = bl ∧ l = l ∧ ([] : List SealR) = ([] : List SealR))))) rfl rfl rfl (FH rfl) rfl ?_
 refine AA _ (BU _ rfl rfl rfl) rfl ?_
 refine AA _ (AH rfl) rfl ?_
 refine A0 12 57 false _ (.agg (cu8 key).toArray) rfl rfl (bnotT (decide_eq_true ⟨rfl, rfl, rfl, rfl, rfl, rfl, rfl⟩)) (AK rfl (BH DE B1 (CM hk32) (AS 0 rfl (AL _)))) rfl ?_
 refine A0 12 57 false _ (.agg ([U64 pv, U64 ep, I64 k, Slc nb6 0 ni cp3, .slice none 0 0, U64 bl] ++ cu8 (tkG key pv ep k l ([] : List SealR) bl)).toArray) rfl rfl (bnotT (decide_eq_true ⟨rfl, rfl, rfl, rfl, rfl, rfl, rfl⟩)) (AK rfl (BH A9 AT (by simp [(CL _ _ _ _ _ _ _)]) (AS 6 rfl (AL _)))) rfl ?_
 refine EK 12 57 false _ rfl rfl (bnotT (decide_eq_true ⟨rfl, rfl, rfl, rfl, rfl, rfl, rfl⟩)) (A3 48 [.agg (cu8 key).toArray, .agg ([U64 pv, U64 ep, I64 k, Slc nb6 0 ni cp3, .slice none 0 0, U64 bl] ++ cu8 (tkG key pv ep k l ([] : List SealR) bl)).toArray] (.nilIface) (AY _ Tryd.call48 rfl) (fun w1 hw1 => chkK_c key pv ep k (some ⟨nb6, 0, none⟩) ni cp3 l none 0 0 ([] : List SealR) bl (tkG key pv ep k l ([] : List SealR) bl) tot w1 hk32 hl (by omega) (by omega) (by omega) (RdV.of hw1 (AS 5 rfl (A4 (AL _)))) rfl (by omega) (by omega) (by omega) RdV.nil (CL _ _ _ _ _ _ _) hmay (by omega) (by omega) htot (by omega) (hG.at hw1) rfl)) rfl ?_
 rintro v1 L1 ⟨rfl, rfl⟩
 show JL _ _ _ _ ((60, .nilIface) :: _) [_, _, _, _, _, _, _]
 refine A0 12 57 false _ (.bool false) rfl rfl (bnotT (decide_eq_true ⟨rfl, rfl, rfl, rfl, rfl, rfl, rfl⟩)) (C2 _ _ _ rfl rfl (fun _ => EA ..) fun _ => DC A6) rfl ?_
 refine AA _ (BU _ rfl (bnotT (decide_eq_true ⟨rfl, rfl, rfl, rfl, rfl, rfl, rfl⟩)) rfl) rfl ?_
 refine AA _ (AH rfl) rfl ?_
 refine A0 18 63 false _ _ rfl rfl rfl (AH rfl) rfl ?_
 refine A0 18 63 false _ (I64 ((tot:Int) + 16)) rfl rfl rfl (FX AM rfl (by omega)) rfl ?_
 refine A0 18 63 false _ (.bool (decide (((tot:Int) + 16) = (0:Int)))) rfl rfl rfl (AR rfl rfl fun _ => C9 _ _) rfl ?_
 refine AA _ (BU _ rfl rfl rfl) rfl ?_
 refine AN (AE (CK _ rfl (decide_eq_false (by omega)) ?_))
 refine BT (AE (AI (AD (AA _ (AH rfl) rfl ?_))))
 refine AA (U64 (u64i (bit))) (DW _ _ rfl fun _ => conv_i64_u64i (by rw [CG]; rfl) DS (bit)) rfl ?_
 refine AA _ (AH rfl) rfl ?_
 refine AA (I64 ((tot:Int) + 16)) (FX AM rfl (by omega)) rfl ?_
 refine AA (I64 (8*(tot:Int) + 128)) (AR rfl rfl fun _ => E8 _ _ (8*(tot:Int) + 128) (by omega) (by omega)) rfl ?_
 refine AA (U64 (UInt64.ofNat (8*tot + 128))) (DW _ _ rfl fun _ => EN (by rw [CG]; rfl) DS (8*tot + 128) _ (by omega)) rfl ?_
 refine AA (U64 ((u64i (bit)) % (UInt64.ofNat (8*tot + 128)))) (AR rfl rfl fun _ => bin_rem_u64 (u64i (bit)) (UInt64.ofNat (8*tot + 128)) (ofN_ne (by omega) (by omega))) rfl ?_
 refine AA (I64 ((((u64i (bit)) % (UInt64.ofNat (8*tot + 128))).toNat:Int))) (DW _ _ rfl fun _ => conv_u64_i64 (by rw [DS]; rfl) CG ((u64i (bit)) % (UInt64.ofNat (8*tot + 128))) _ rfl (by omega)) rfl ?_
 refine AA _ (AG rfl) rfl ?_
 refine AN (AE (AI ?_))
 obtain ⟨dq1, hdq1, hdq1a, hdq1b⟩ : ∃ q : Nat, q = (((u64i (bit)) % (UInt64.ofNat (8*tot + 128))).toNat) / 8 ∧ (q : Int) = ((((u64i (bit)) % (UInt64.ofNat (8*tot + 128))).toNat:Int)) / 8 ∧ (q * 8 ≤ (((u64i (bit)) % (UInt64.ofNat (8*tot + 128))).toNat) ∧ (((u64i (bit)) % (UInt64.ofNat (8*tot + 128))).toNat) < q * 8 + 8) := ⟨_, rfl, by first | rfl | omega, by omega⟩
 obtain ⟨dq2, hdq2, hdq2a, hdq2b⟩ : ∃ q : Nat, q = (((u64i (bit)) % (UInt64.ofNat (8*tot + 128))).toNat) % 8 ∧ (q : Int) = ((((u64i (bit)) % (UInt64.ofNat (8*tot + 128))).toNat:Int)) % 8 ∧ (q < 8) := ⟨_, rfl, by first | rfl | omega, by omega⟩
 refine C1 120 2 [(0, Slc nb5 0 (tot + 16) cp2), (1, I64 ((((u64i (bit)) % (UInt64.ofNat (8*tot + 128))).toNat:Int))), (2, I64 dq1), (3, Ptr nb5 dq1), (4, U8 (g8 P dq1)), (5, I64 ((((u64i (bit)) % (UInt64.ofNat (8*tot + 128))).toNat:Int))), (6, I64 dq2), (7, U8 ((1:UInt8) <<< UInt8.ofNat dq2)), (8, U8 ((g8 P dq1) ^^^ ((1:UInt8) <<< UInt8.ofNat dq2))), (9, Ptr nb5 dq1)] BV rfl (by decide +kernel) ?_
 have hl1 : (P.set dq1 ((g8 P dq1) ^^^ ((1:UInt8) <<< UInt8.ofNat dq2))).length = (tot + 16) := by first | (rw [List.length_set]; exact hPl) | simp [hPl]
 refine CQ ⟨[], [0, 1, 2, 3, 4, 5, 6, 7, 8, 9], [], [0, 1, 2, 3, 4, 5, 6, 7, 8, 9], [10]⟩ 10 rfl rfl (by decide +kernel) rfl ⟨A2 rfl rfl rfl, A2 rfl rfl rfl, ⟨_, rfl, AC rfl (AR rfl rfl fun _ => F3 _ _ ((dq1:Int)) (by omega) (by omega) (by omega))⟩, ⟨_, rfl, AC rfl (FC 5 1 dq1 AM AW rfl rfl (by omega) (by omega) (by omega))⟩, ⟨_, rfl, AC rfl (AK rfl (AV D4 (AS 4 rfl (A4 (Seg.get (GE (i := dq1) (by rw [hPl]; omega)))))))⟩, A2 rfl rfl rfl, ⟨_, rfl, AC rfl (AR rfl rfl fun _ => bin_rem_i _ _ ((dq2:Int)) (by omega) (by omega) (by omega))⟩, ⟨_, rfl, AC rfl (AR rfl rfl fun _ => bin_shl_u8 (1:UInt8) _ _ dq2 (by omega) (by omega))⟩, ⟨_, rfl, AC rfl (AR rfl rfl fun _ => FZ (g8 P dq1) ((1:UInt8) <<< UInt8.ofNat dq2))⟩, ⟨_, rfl, AC rfl (FC 5 1 dq1 AM AW rfl rfl (by omega) (by omega) (by omega))⟩, trivial⟩ rfl (AZ rfl (DT 4 nb5 dq1 1 (cu8 P ++ sp2) 5 (U8 ((g8 P dq1) ^^^ ((1:UInt8) <<< UInt8.ofNat dq2))) ([U8 ((g8 P dq1) ^^^ ((1:UInt8) <<< UInt8.ofNat dq2))]) (cu8 (P.set dq1 ((g8 P dq1) ^^^ ((1:UInt8) <<< UInt8.ofNat dq2))) ++ sp2) rfl rfl rfl rfl AW rfl (by simp [Value.oneCell']) (by simp [hPl, hc6]; try omega) (lay_left (p := cu8 P) (vs := [U8 ((g8 P dq1) ^^^ ((1:UInt8) <<< UInt8.ofNat dq2))]) (o := dq1) (by simp [hPl]; omega) (lay8 _ _ _ (by rw [hPl]; omega))))) ?_
 show DP _ _ _ _ _ _ _ _ [_, _, _, _, ⟨nb5, cu8 (P.set dq1 ((g8 P dq1) ^^^ ((1:UInt8) <<< UInt8.ofNat dq2))) ++ sp2, 5, (0, 0)⟩, _, _]
 refine C4 ⟨[10], [0, 1, 2, 3, 4, 5, 6, 7, 8, 9], [0, 1, 2, 3, 4, 5, 6, 7, 8, 9], [], []⟩ rfl rfl (by decide +kernel) rfl trivial ?_
 refine CI (F' := [(3, Ptr nb1 0), (6, .bool false), (7, Ptr nb4 0), (8, .nilIface), (9, Slc nb5 0 (tot + 16) cp2), (10, Ptr nb7 0), (12, I64 ((((u64i (bit)) % (UInt64.ofNat (8*tot + 128))).toNat:Int)))]) (by kernel_rfl) ?_
 refine AE (AI ?_)
 have hF0 : P.set dq1 ((g8 P dq1) ^^^ ((1:UInt8) <<< UInt8.ofNat dq2)) = flipB P dq1 dq2 := (flipB_def _ _ _).symm
 have hqP : dq1 < P.length := by omega
 have hr8 : dq2 < 8 := by omega
 obtain ⟨F, hF⟩ : ∃ F : List UInt8, flipB P dq1 dq2 = F := ⟨_, rfl⟩
 have hFl : F.length = tot + 16 := by rw [← hF, F2]; exact hPl
 have hFne : F ≠ P := by rw [← hF]; exact flip_neP hqP hr8
 rw [hF0, hF]
 clear hF0
 show JC _ _ _ _ [⟨nb1, cu8 key, 54, (0, 0)⟩, ⟨nb2, [U64 pv, U64 ep, I64 k, .slice ai ni ci, .slice sa 0 sc, U64 bl] ++ cu8 tg, 29, (0, 0)⟩, ⟨nb3, cu64 l ++ sp1, 22, (0, 0)⟩, ⟨nb4, [U64 pv, U64 ep, I64 k, Slc nb3 0 ni cp1, .slice ao1 0 ca1, U64 bl] ++ cu8 (tkG key pv ep k l ([] : List SealR) bl), 29, (0, 0)⟩, ⟨nb5, cu8 F ++ sp2, 5, (0, 0)⟩, ⟨nb6, cu64 l ++ sp3, 22, (0, 0)⟩, ⟨nb7, [U64 pv, U64 ep, I64 k, Slc nb6 0 ni cp3, .slice none 0 0, U64 bl] ++ cu8 (tkG key pv ep k l ([] : List SealR) bl), 29, (0, 0)⟩]
 by_cases hW : Ok2 F ∧ F.length = 4*mQ F + 34
 ·
  have hk9 := vQ_lt1 F 17
  have hmQ := mQ_eq F
  have hpu := put2_q hW.2 hW.1.1
  refine AD (AA _ (AH rfl) rfl ?_)
  have hz2 : (F).length = (tot + 16) := hFl
  refine A1 (BI 65 [Slc nb5 0 (tot + 16) cp2] _ (AY _ Tryd.call65 rfl) (fun w1 hw1 => parse2Z_w (some ⟨nb5, 0, none⟩) (tot + 16) cp2 F w1 rfl hFl (by omega) (by omega) (by omega) (RdB.of hw1 (AS 4 rfl (A4 (AL _))) (by simp)) hW.1 (by omega))) rfl ?_
  rintro v1 L1 ⟨_, ⟨nb8, sp4, cp4, rfl, rfl, hc12, hc13, hc14⟩, rfl⟩
  show JL _ _ _ _ ((88, .tuple #[.agg ([U64 (vQ F 0 8), U64 (vQ F 8 8), I64 (((vQ F 16 1).toNat:Int)), Slc nb8 0 (mQ F) cp4, .slice none 0 0, U64 0] ++ cu8 (bQ F (4*mQ F + 18) 16)).toArray, .nilIface]) :: _) [_, _, _, _, _, _, _, ⟨nb8, cu64 (ixQ F 18 (mQ F)) ++ sp4, 22, (0, 0)⟩]
  refine AA _ (AH rfl) rfl ?_
  refine AA _ (B4 rfl rfl) rfl ?_
  refine AA _ (B4 rfl rfl) rfl ?_
  refine A7 (A5 6 nb7 22 ([U64 pv, U64 ep, I64 k, Slc nb6 0 ni cp3, .slice none 0 0, U64 bl] ++ cu8 (tkG key pv ep k l ([] : List SealR) bl)) 29 ([U64 (vQ F 0 8), U64 (vQ F 8 8), I64 (((vQ F 16 1).toNat:Int)), Slc nb8 0 (mQ F) cp4, .slice none 0 0, U64 0] ++ cu8 (bQ F (4*mQ F + 18) 16)) rfl rfl rfl AT (by simp [(B5 _ _ _)]) (CO (by simp [Value.oneCell']) CD) (by simp [(CL _ _ _ _ _ _ _)]) (BC (by simp [(CL _ _ _ _ _ _ _), (B5 _ _ _)]))) rfl ?_
  show JL _ _ _ _ _ [_, _, _, _, _, _, ⟨nb7, [U64 (vQ F 0 8), U64 (vQ F 8 8), I64 (((vQ F 16 1).toNat:Int)), Slc nb8 0 (mQ F) cp4, .slice none 0 0, U64 0] ++ cu8 (bQ F (4*mQ F + 18) 16), 29, (0, 0)⟩, _]
  refine AA _ (AG rfl) rfl ?_
  refine AN (AE (AI (AI (AD (AA _ (AH rfl) rfl ?_)))))
  refine AA (.bool false) (C2 _ _ _ rfl rfl (fun _ => EA ..) fun _ => DC A6) rfl ?_
  refine AN (AE (CK _ rfl rfl ?_))
  refine BT (AE (AI ?_))
  by_cases hqt : dq1 < tot
  ·
   refine C1 120 3 [(0, I64 ((((u64i (bit)) % (UInt64.ofNat (8*tot + 128))).toNat:Int))), (1, I64 dq1), (2, Slc nb5 0 (tot + 16) cp2), (3, I64 ((tot:Int) + 16)), (4, I64 tot), (5, .bool (decide (((dq1:Int)) < ((tot:Int))))), (6, .bool (decide (((dq1:Int)) < ((tot:Int))))), (7, .agg (cu8 key).toArray), (8, .agg ([U64 (vQ F 0 8), U64 (vQ F 8 8), I64 (((vQ F 16 1).toNat:Int)), Slc nb8 0 (mQ F) cp4, .slice none 0 0, U64 0] ++ cu8 (bQ F (4*mQ F + 18) 16)).toArray), (11, Ptr nb7 6), (12, .agg (cu8 (bQ F (4*mQ F + 18) 16)).toArray)] BV rfl (by decide +kernel) ?_
   refine CQ ⟨[], [0, 1, 2, 3, 4, 5, 6, 7, 8, 11, 12], [], [0, 1, 2, 3, 4, 5, 6, 7, 8, 11, 12], [9]⟩ 9 rfl rfl (by decide +kernel) rfl ⟨A2 rfl rfl rfl, ⟨_, rfl, AC rfl (AR rfl rfl fun _ => F3 _ _ ((dq1:Int)) (by omega) (by omega) (by omega))⟩, A2 rfl rfl rfl, ⟨_, rfl, AC rfl (FX AM rfl (by omega))⟩, ⟨_, rfl, AC rfl (AR rfl rfl fun _ => DD _ _ ((tot:Int)) (by omega) (by omega))⟩, ⟨_, rfl, AC rfl (AR rfl rfl fun _ => CS _ _)⟩, A2 rfl rfl rfl, ⟨_, rfl, DK 6 99 true _ rfl rfl rfl (decide_eq_true (by omega)) (AK rfl (BH DE B1 (CM hk32) (AS 0 rfl (AL _))))⟩, ⟨_, rfl, DK 6 99 true _ rfl rfl rfl (decide_eq_true (by omega)) (AK rfl (BH A9 AT (by simp [(B5 _ _ _)]) (AS 6 rfl (AL _))))⟩, ⟨_, rfl, DK 6 99 true _ rfl rfl rfl (decide_eq_true (by omega)) (AB 6 27 16 AO rfl BE rfl rfl)⟩, ⟨_, rfl, DK 6 99 true _ rfl rfl rfl (decide_eq_true (by omega)) (AK rfl (BH DO BE (CM (B5 _ _ _)) (AS 6 rfl (Seg.right 6 0 rfl rfl (AL _)))))⟩, trivial⟩ rfl (Cok_gstep 6 99 true _ rfl rfl rfl (decide_eq_true (by omega)) (A3 44 [.agg ([U64 (vQ F 0 8), U64 (vQ F 8 8), I64 (((vQ F 16 1).toNat:Int)), Slc nb8 0 (mQ F) cp4, .slice none 0 0, U64 0] ++ cu8 (bQ F (4*mQ F + 18) 16)).toArray] (.agg ([U64 (vQ F 0 8), U64 (vQ F 8 8), I64 (((vQ F 16 1).toNat:Int)), Slc nb8 0 (mQ F) cp4, .slice none 0 0, U64 0] ++ cu8 (bQ F (4*mQ F + 18) 16)).toArray) (AY _ Tryd.call44 rfl) (fun w1 hw1 => docTZ_c (vQ F 0 8) (vQ F 8 8) (((vQ F 16 1).toNat:Int)) (some ⟨nb8, 0, none⟩) (mQ F) cp4 (ixQ F 18 (mQ F)) none 0 (0:UInt64) (bQ F (4*mQ F + 18) 16) w1 (FJ _ _ _) (by omega) (by omega) (by omega) (RdV.of hw1 (AS 7 rfl (A4 (AL _)))) (by omega) (fun _ => rfl) (B5 _ _ _)))) ?_
   show DP _ _ _ _ _ _ _ _ [_, _, _, _, _, _, _, _]
   refine CR ⟨[9], [0, 1, 2, 3, 4, 5, 6, 7, 8, 11, 12], [0, 1, 2, 3, 4, 5, 6, 8], [7, 11, 12], [10]⟩ 10 _ rfl rfl (by decide +kernel) rfl ⟨⟨_, rfl, DK 6 99 true _ rfl rfl rfl (decide_eq_true (by omega)) (AK rfl (BH DE B1 (CM hk32) (AS 0 rfl (AL _))))⟩, ⟨_, rfl, DK 6 99 true _ rfl rfl rfl (decide_eq_true (by omega)) (AB 6 27 16 AO rfl BE rfl rfl)⟩, ⟨_, rfl, DK 6 99 true _ rfl rfl rfl (decide_eq_true (by omega)) (AK rfl (BH DO BE (CM (B5 _ _ _)) (AS 6 rfl (Seg.right 6 0 rfl rfl (AL _)))))⟩, trivial⟩ rfl (Cok_gstep 6 99 true _ rfl rfl rfl (decide_eq_true (by omega)) (A3 50 [.agg (cu8 key).toArray, .agg ([U64 (vQ F 0 8), U64 (vQ F 8 8), I64 (((vQ F 16 1).toNat:Int)), Slc nb8 0 (mQ F) cp4, .slice none 0 0, U64 0] ++ cu8 (bQ F (4*mQ F + 18) 16)).toArray] (.agg (cu8 (tkG key (vQ F 0 8) (vQ F 8 8) ((vQ F 16 1).toNat) (ixQ F 18 (mQ F)) ([] : List SealR) (0:UInt64))).toArray) (AY _ Tryd.call50 rfl) (fun w1 hw1 => rtag13_c key (vQ F 0 8) (vQ F 8 8) ((vQ F 16 1).toNat) (some ⟨nb8, 0, none⟩) (mQ F) cp4 (ixQ F 18 (mQ F)) none 0 0 ([] : List SealR) (0:UInt64) (bQ F (4*mQ F + 18) 16) tot w1 hk32 (FJ _ _ _) (by omega) (by omega) (by omega) (RdV.of hw1 (AS 7 rfl (A4 (AL _)))) rfl (by omega) (by omega) (by omega) RdV.nil (B5 _ _ _) hW.1.2.2 (.inr (.inl (by rw [hW.1.1]; rfl))) (by omega) (by unfold tktN; rw [if_neg (by rw [hW.1.1]; decide)]; first | omega | (simp; omega)) (by omega) (GLr.at hw1 hGr) (GLi.at hw1 hGi)))) ?_
   rintro v1 L1 ⟨rfl, rfl⟩
   refine ⟨[(13, .bool (decide ((tkG key (vQ F 0 8) (vQ F 8 8) ((vQ F 16 1).toNat) (ixQ F 18 (mQ F)) ([] : List SealR) (0:UInt64)) = (bQ F (4*mQ F + 18) 16)))), (14, .bool (decide ((tkG key (vQ F 0 8) (vQ F 8 8) ((vQ F 16 1).toNat) (ixQ F 18 (mQ F)) ([] : List SealR) (0:UInt64)) = (bQ F (4*mQ F + 18) 16)))), (15, .bool (decide ((tkG key (vQ F 0 8) (vQ F 8 8) ((vQ F 16 1).toNat) (ixQ F 18 (mQ F)) ([] : List SealR) (0:UInt64)) = (bQ F (4*mQ F + 18) 16))))], ?_⟩
   show DP _ _ _ _ _ _ _ _ [_, _, _, _, _, _, _, _]
   refine C4 ⟨[9, 10], [0, 1, 2, 3, 4, 5, 6, 7, 8, 11, 12, 13, 14, 15], [0, 1, 2, 3, 4, 5, 6, 7, 8], [11, 12, 13, 14, 15], []⟩ rfl rfl (by decide +kernel) rfl ⟨⟨_, rfl, DK 6 99 true _ rfl rfl rfl (decide_eq_true (by omega)) (AB 6 27 16 AO rfl BE rfl rfl)⟩, ⟨_, rfl, DK 6 99 true _ rfl rfl rfl (decide_eq_true (by omega)) (AK rfl (BH DO BE (CM (B5 _ _ _)) (AS 6 rfl (Seg.right 6 0 rfl rfl (AL _)))))⟩, ⟨_, rfl, DK 6 99 true _ rfl rfl rfl (decide_eq_true (by omega)) (C2 _ _ _ rfl rfl (fun _ => eqGuard_agg _ _ _ _ _ _ (by kernel_rfl)) fun _ => eql_arr8 BJ B6 D4 F5 Tryd.has5 (by simp [(CL _ _ _ _ _ _ _)]) (by simp [(B5 _ _ _)]))⟩, ⟨_, rfl, AC rfl (CN _ rfl (decide_eq_true (by omega)) rfl)⟩, ⟨_, rfl, AC rfl (AG rfl)⟩, trivial⟩ ?_
   refine CI (F' := [(13, .bool (decide ((tkG key (vQ F 0 8) (vQ F 8 8) ((vQ F 16 1).toNat) (ixQ F 18 (mQ F)) ([] : List SealR) (0:UInt64)) = (bQ F (4*mQ F + 18) 16)))), (3, Ptr nb1 0), (6, .bool false), (7, Ptr nb4 0), (10, Ptr nb7 0)]) (by kernel_rfl) ?_
   refine AE (AI (AD (AA (.agg ([U64 (vQ F 0 8), U64 (vQ F 8 8), I64 (((vQ F 16 1).toNat:Int)), Slc nb8 0 (mQ F) cp4, .slice none 0 0, U64 0] ++ cu8 (bQ F (4*mQ F + 18) 16)).toArray) (AK rfl (BH A9 AT (by simp [(B5 _ _ _)]) (AS 6 rfl (AL _)))) rfl ?_)))
   refine AA (.agg ([U64 pv, U64 ep, I64 k, Slc nb3 0 ni cp1, .slice ao1 0 ca1, U64 bl] ++ cu8 (tkG key pv ep k l ([] : List SealR) bl)).toArray) (AK rfl (BH A9 AT (by simp [(CL _ _ _ _ _ _ _)]) (AS 3 rfl (AL _)))) rfl ?_
   refine A7 (A3 49 [.agg ([U64 (vQ F 0 8), U64 (vQ F 8 8), I64 (((vQ F 16 1).toNat:Int)), Slc nb8 0 (mQ F) cp4, .slice none 0 0, U64 0] ++ cu8 (bQ F (4*mQ F + 18) 16)).toArray, .agg ([U64 pv, U64 ep, I64 k, Slc nb3 0 ni cp1, .slice ao1 0 ca1, U64 bl] ++ cu8 (tkG key pv ep k l ([] : List SealR) bl)).toArray] (.bool (decide ((vQ F 0 8) = pv ∧ (vQ F 8 8) = ep ∧ (bQ F (4*mQ F + 18) 16) = (tkG key pv ep k l ([] : List SealR) bl) ∧ (((vQ F 16 1).toNat:Int)) = ((k:Int)) ∧ (0:UInt64) = bl ∧ (ixQ F 18 (mQ F)) = l ∧ ([] : List SealR) = ([] : List SealR)))) (AY _ Tryd.call49 rfl) (fun w1 hw1 => GC (vQ F 0 8) (vQ F 8 8) (((vQ F 16 1).toNat:Int)) (some ⟨nb8, 0, none⟩) (mQ F) cp4 (ixQ F 18 (mQ F)) none 0 0 ([] : List SealR) (0:UInt64) (bQ F (4*mQ F + 18) 16) pv ep ((k:Int)) (some ⟨nb3, 0, none⟩) ni cp1 l ao1 0 ca1 ([] : List SealR) bl (tkG key pv ep k l ([] : List SealR) bl) w1 (FJ _ _ _) (by omega) (by omega) (by omega) (RdV.of hw1 (AS 7 rfl (A4 (AL _)))) rfl (by omega) (by omega) (by omega) RdV.nil (B5 _ _ _) hl (by omega) (by omega) (by omega) (RdV.of hw1 (AS 2 rfl (A4 (AL _)))) rfl (by omega) (by omega) (by omega) RdV.nil (CL _ _ _ _ _ _ _))) rfl ?_
   show JL _ _ _ _ ((110, .bool (decide ((vQ F 0 8) = pv ∧ (vQ F 8 8) = ep ∧ (bQ F (4*mQ F + 18) 16) = (tkG key pv ep k l ([] : List SealR) bl) ∧ (((vQ F 16 1).toNat:Int)) = ((k:Int)) ∧ (0:UInt64) = bl ∧ (ixQ F 18 (mQ F)) = l ∧ ([] : List SealR) = ([] : List SealR)))) :: _) [_, _, _, _, _, _, _, _]
   refine AA (.bool (!(decide ((vQ F 0 8) = pv ∧ (vQ F 8 8) = ep ∧ (bQ F (4*mQ F + 18) 16) = (tkG key pv ep k l ([] : List SealR) bl) ∧ (((vQ F 16 1).toNat:Int)) = ((k:Int)) ∧ (0:UInt64) = bl ∧ (ixQ F 18 (mQ F)) = l ∧ ([] : List SealR) = ([] : List SealR))))) (FH rfl) rfl ?_
   refine AA _ (AH rfl) rfl ?_
   refine A0 4 112 true _ (.agg (cu8 key).toArray) rfl rfl (bnotF (decide_eq_false (EJ hP.symm hpu.symm hFne))) (AK rfl (BH DE B1 (CM hk32) (AS 0 rfl (AL _)))) rfl ?_
   refine A0 4 112 true _ (.agg ([U64 (vQ F 0 8), U64 (vQ F 8 8), I64 (((vQ F 16 1).toNat:Int)), Slc nb8 0 (mQ F) cp4, .slice none 0 0, U64 0] ++ cu8 (bQ F (4*mQ F + 18) 16)).toArray) rfl rfl (bnotF (decide_eq_false (EJ hP.symm hpu.symm hFne))) (AK rfl (BH A9 AT (by simp [(B5 _ _ _)]) (AS 6 rfl (AL _)))) rfl ?_
   refine EK 4 112 true _ rfl rfl (bnotF (decide_eq_false (EJ hP.symm hpu.symm hFne))) (A3 48 [.agg (cu8 key).toArray, .agg ([U64 (vQ F 0 8), U64 (vQ F 8 8), I64 (((vQ F 16 1).toNat:Int)), Slc nb8 0 (mQ F) cp4, .slice none 0 0, U64 0] ++ cu8 (bQ F (4*mQ F + 18) 16)).toArray] (errV 50 (chkG key (vQ F 0 8) (vQ F 8 8) ((vQ F 16 1).toNat) (ixQ F 18 (mQ F)) ([] : List SealR) (0:UInt64) (bQ F (4*mQ F + 18) 16))) (AY _ Tryd.call48 rfl) (fun w1 hw1 => chk_w key (vQ F 0 8) (vQ F 8 8) ((vQ F 16 1).toNat) (some ⟨nb8, 0, none⟩) (mQ F) cp4 (ixQ F 18 (mQ F)) none 0 0 ([] : List SealR) (0:UInt64) (bQ F (4*mQ F + 18) 16) tot w1 hk32 (FJ _ _ _) (by omega) (by omega) (by omega) (RdV.of hw1 (AS 7 rfl (A4 (AL _)))) rfl (by omega) (by omega) (by omega) RdV.nil (B5 _ _ _) hW.1.2.2 (.inr (.inl (by rw [hW.1.1]; rfl))) (by omega) (by unfold tktN; rw [if_neg (by rw [hW.1.1]; decide)]; first | omega | (simp; omega)) (by omega) (hG.at hw1))) rfl ?_
   rintro v1 L1 ⟨rfl, rfl⟩
   show JL _ _ _ _ ((115, errV 50 (chkG key (vQ F 0 8) (vQ F 8 8) ((vQ F 16 1).toNat) (ixQ F 18 (mQ F)) ([] : List SealR) (0:UInt64) (bQ F (4*mQ F + 18) 16))) :: _) [_, _, _, _, _, _, _, _]
   refine A0 4 112 true _ (.bool (decide (chkG key (vQ F 0 8) (vQ F 8 8) ((vQ F 16 1).toNat) (ixQ F 18 (mQ F)) ([] : List SealR) (0:UInt64) (bQ F (4*mQ F + 18) 16) = 0))) rfl rfl (bnotF (decide_eq_false (EJ hP.symm hpu.symm hFne))) (C2 _ _ _ rfl rfl (fun _ => CJ ..) fun _ => eql_errV A6 _ _) rfl ?_
   refine A0 4 112 true _ _ rfl rfl (bnotF (decide_eq_false (EJ hP.symm hpu.symm hFne))) (AH rfl) rfl ?_
   refine A0 4 112 true _ (.bool ((decide (chkG key (vQ F 0 8) (vQ F 8 8) ((vQ F 16 1).toNat) (ixQ F 18 (mQ F)) ([] : List SealR) (0:UInt64) (bQ F (4*mQ F + 18) 16) = 0)) == (decide ((tkG key (vQ F 0 8) (vQ F 8 8) ((vQ F 16 1).toNat) (ixQ F 18 (mQ F)) ([] : List SealR) (0:UInt64)) = (bQ F (4*mQ F + 18) 16))))) rfl rfl (bnotF (decide_eq_false (EJ hP.symm hpu.symm hFne))) (C2 _ _ _ rfl rfl (fun _ => F9 ..) fun _ => eql_bool Tryd.underlying4) rfl ?_
   refine AA _ (CN _ rfl (bnotF (decide_eq_false (EJ hP.symm hpu.symm hFne))) rfl) rfl ?_
   refine AA _ (AG rfl) rfl ?_
   refine AN (AE (BP (CH [false, false, false, false, false, false, false, false] ?_)))
   show JQ _ _ _ _ []
   refine BQ (.bool ((decide (chkG key (vQ F 0 8) (vQ F 8 8) ((vQ F 16 1).toNat) (ixQ F 18 (mQ F)) ([] : List SealR) (0:UInt64) (bQ F (4*mQ F + 18) 16) = 0)) == (decide ((tkG key (vQ F 0 8) (vQ F 8 8) ((vQ F 16 1).toNat) (ixQ F 18 (mQ F)) ([] : List SealR) (0:UInt64)) = (bQ F (4*mQ F + 18) 16))))) (res1 EV (B2 rfl)) fun w1 hw1 => ?_
   exact ⟨_, [], rfl, ⟨congrArg Value.bool (chk_eq _ _ _ _ _ _ _ _), rfl⟩, hw1.sub (by simp) (by simp)⟩
  ·
   refine C1 120 3 [(0, I64 ((((u64i (bit)) % (UInt64.ofNat (8*tot + 128))).toNat:Int))), (1, I64 dq1), (2, Slc nb5 0 (tot + 16) cp2), (3, I64 ((tot:Int) + 16)), (4, I64 tot), (5, .bool (decide (((dq1:Int)) < ((tot:Int))))), (6, .bool (decide (((dq1:Int)) < ((tot:Int))))), (7, undef), (8, undef), (9, undef), (10, undef), (11, undef), (12, undef), (13, undef), (14, .bool false), (15, .bool false)] BV rfl (by decide +kernel) ?_
   refine C4 ⟨[], [0, 1, 2, 3, 4, 5, 6, 7, 8, 9, 10, 11, 12, 13, 14, 15], [], [0, 1, 2, 3, 4, 5, 6, 7, 8, 9, 10, 11, 12, 13, 14, 15], []⟩ rfl rfl (by decide +kernel) rfl ⟨A2 rfl rfl rfl, ⟨_, rfl, AC rfl (AR rfl rfl fun _ => F3 _ _ ((dq1:Int)) (by omega) (by omega) (by omega))⟩, A2 rfl rfl rfl, ⟨_, rfl, AC rfl (FX AM rfl (by omega))⟩, ⟨_, rfl, AC rfl (AR rfl rfl fun _ => DD _ _ ((tot:Int)) (by omega) (by omega))⟩, ⟨_, rfl, AC rfl (AR rfl rfl fun _ => CS _ _)⟩, A2 rfl rfl rfl, ⟨_, rfl, DM 6 99 true _ rfl rfl rfl (decide_eq_false (by omega))⟩, ⟨_, rfl, DM 6 99 true _ rfl rfl rfl (decide_eq_false (by omega))⟩, ⟨_, rfl, DM 6 99 true _ rfl rfl rfl (decide_eq_false (by omega))⟩, ⟨_, rfl, DM 6 99 true _ rfl rfl rfl (decide_eq_false (by omega))⟩, ⟨_, rfl, DM 6 99 true _ rfl rfl rfl (decide_eq_false (by omega))⟩, ⟨_, rfl, DM 6 99 true _ rfl rfl rfl (decide_eq_false (by omega))⟩, ⟨_, rfl, DM 6 99 true _ rfl rfl rfl (decide_eq_false (by omega))⟩, ⟨_, rfl, AC rfl (BU _ rfl (decide_eq_false (by omega)) rfl)⟩, ⟨_, rfl, AC rfl (AG rfl)⟩, trivial⟩ ?_
   refine CI (F' := [(13, .bool false), (3, Ptr nb1 0), (6, .bool false), (7, Ptr nb4 0), (10, Ptr nb7 0)]) (by kernel_rfl) ?_
   refine AE (AI (AD (AA (.agg ([U64 (vQ F 0 8), U64 (vQ F 8 8), I64 (((vQ F 16 1).toNat:Int)), Slc nb8 0 (mQ F) cp4, .slice none 0 0, U64 0] ++ cu8 (bQ F (4*mQ F + 18) 16)).toArray) (AK rfl (BH A9 AT (by simp [(B5 _ _ _)]) (AS 6 rfl (AL _)))) rfl ?_)))
   refine AA (.agg ([U64 pv, U64 ep, I64 k, Slc nb3 0 ni cp1, .slice ao1 0 ca1, U64 bl] ++ cu8 (tkG key pv ep k l ([] : List SealR) bl)).toArray) (AK rfl (BH A9 AT (by simp [(CL _ _ _ _ _ _ _)]) (AS 3 rfl (AL _)))) rfl ?_
   refine A7 (A3 49 [.agg ([U64 (vQ F 0 8), U64 (vQ F 8 8), I64 (((vQ F 16 1).toNat:Int)), Slc nb8 0 (mQ F) cp4, .slice none 0 0, U64 0] ++ cu8 (bQ F (4*mQ F + 18) 16)).toArray, .agg ([U64 pv, U64 ep, I64 k, Slc nb3 0 ni cp1, .slice ao1 0 ca1, U64 bl] ++ cu8 (tkG key pv ep k l ([] : List SealR) bl)).toArray] (.bool (decide ((vQ F 0 8) = pv ∧ (vQ F 8 8) = ep ∧ (bQ F (4*mQ F + 18) 16) = (tkG key pv ep k l ([] : List SealR) bl) ∧ (((vQ F 16 1).toNat:Int)) = ((k:Int)) ∧ (0:UInt64) = bl ∧ (ixQ F 18 (mQ F)) = l ∧ ([] : List SealR) = ([] : List SealR)))) (AY _ Tryd.call49 rfl) (fun w1 hw1 => GC (vQ F 0 8) (vQ F 8 8) (((vQ F 16 1).toNat:Int)) (some ⟨nb8, 0, none⟩) (mQ F) cp4 (ixQ F 18 (mQ F)) none 0 0 ([] : List SealR) (0:UInt64) (bQ F (4*mQ F + 18) 16) pv ep ((k:Int)) (some ⟨nb3, 0, none⟩) ni cp1 l ao1 0 ca1 ([] : List SealR) bl (tkG key pv ep k l ([] : List SealR) bl) w1 (FJ _ _ _) (by omega) (by omega) (by omega) (RdV.of hw1 (AS 7 rfl (A4 (AL _)))) rfl (by omega) (by omega) (by omega) RdV.nil (B5 _ _ _) hl (by omega) (by omega) (by omega) (RdV.of hw1 (AS 2 rfl (A4 (AL _)))) rfl (by omega) (by omega) (by omega) RdV.nil (CL _ _ _ _ _ _ _))) rfl ?_
   show JL _ _ _ _ ((110, .bool (decide ((vQ F 0 8) = pv ∧ (vQ F 8 8) = ep ∧ (bQ F (4*mQ F + 18) 16) = (tkG key pv ep k l ([] : List SealR) bl) ∧ (((vQ F 16 1).toNat:Int)) = ((k:Int)) ∧ (0:UInt64) = bl ∧ (ixQ F 18 (mQ F)) = l ∧ ([] : List SealR) = ([] : List SealR)))) :: _) [_, _, _, _, _, _, _, _]
   refine AA (.bool (!(decide ((vQ F 0 8) = pv ∧ (vQ F 8 8) = ep ∧ (bQ F (4*mQ F + 18) 16) = (tkG key pv ep k l ([] : List SealR) bl) ∧ (((vQ F 16 1).toNat:Int)) = ((k:Int)) ∧ (0:UInt64) = bl ∧ (ixQ F 18 (mQ F)) = l ∧ ([] : List SealR) = ([] : List SealR))))) (FH rfl) rfl ?_
   refine AA _ (AH rfl) rfl ?_
   refine A0 4 112 true _ (.agg (cu8 key).toArray) rfl rfl (bnotF (decide_eq_false (EJ hP.symm hpu.symm hFne))) (AK rfl (BH DE B1 (CM hk32) (AS 0 rfl (AL _)))) rfl ?_
   refine A0 4 112 true _ (.agg ([U64 (vQ F 0 8), U64 (vQ F 8 8), I64 (((vQ F 16 1).toNat:Int)), Slc nb8 0 (mQ F) cp4, .slice none 0 0, U64 0] ++ cu8 (bQ F (4*mQ F + 18) 16)).toArray) rfl rfl (bnotF (decide_eq_false (EJ hP.symm hpu.symm hFne))) (AK rfl (BH A9 AT (by simp [(B5 _ _ _)]) (AS 6 rfl (AL _)))) rfl ?_
   refine EK 4 112 true _ rfl rfl (bnotF (decide_eq_false (EJ hP.symm hpu.symm hFne))) (A3 48 [.agg (cu8 key).toArray, .agg ([U64 (vQ F 0 8), U64 (vQ F 8 8), I64 (((vQ F 16 1).toNat:Int)), Slc nb8 0 (mQ F) cp4, .slice none 0 0, U64 0] ++ cu8 (bQ F (4*mQ F + 18) 16)).toArray] (errV 50 (chkG key (vQ F 0 8) (vQ F 8 8) ((vQ F 16 1).toNat) (ixQ F 18 (mQ F)) ([] : List SealR) (0:UInt64) (bQ F (4*mQ F + 18) 16))) (AY _ Tryd.call48 rfl) (fun w1 hw1 => chk_w key (vQ F 0 8) (vQ F 8 8) ((vQ F 16 1).toNat) (some ⟨nb8, 0, none⟩) (mQ F) cp4 (ixQ F 18 (mQ F)) none 0 0 ([] : List SealR) (0:UInt64) (bQ F (4*mQ F + 18) 16) tot w1 hk32 (FJ _ _ _) (by omega) (by omega) (by omega) (RdV.of hw1 (AS 7 rfl (A4 (AL _)))) rfl (by omega) (by omega) (by omega) RdV.nil (B5 _ _ _) hW.1.2.2 (.inr (.inl (by rw [hW.1.1]; rfl))) (by omega) (by unfold tktN; rw [if_neg (by rw [hW.1.1]; decide)]; first | omega | (simp; omega)) (by omega) (hG.at hw1))) rfl ?_
   rintro v1 L1 ⟨rfl, rfl⟩
   show JL _ _ _ _ ((115, errV 50 (chkG key (vQ F 0 8) (vQ F 8 8) ((vQ F 16 1).toNat) (ixQ F 18 (mQ F)) ([] : List SealR) (0:UInt64) (bQ F (4*mQ F + 18) 16))) :: _) [_, _, _, _, _, _, _, _]
   refine A0 4 112 true _ (.bool (decide (chkG key (vQ F 0 8) (vQ F 8 8) ((vQ F 16 1).toNat) (ixQ F 18 (mQ F)) ([] : List SealR) (0:UInt64) (bQ F (4*mQ F + 18) 16) = 0))) rfl rfl (bnotF (decide_eq_false (EJ hP.symm hpu.symm hFne))) (C2 _ _ _ rfl rfl (fun _ => CJ ..) fun _ => eql_errV A6 _ _) rfl ?_
   refine A0 4 112 true _ _ rfl rfl (bnotF (decide_eq_false (EJ hP.symm hpu.symm hFne))) (AH rfl) rfl ?_
   refine A0 4 112 true _ (.bool ((decide (chkG key (vQ F 0 8) (vQ F 8 8) ((vQ F 16 1).toNat) (ixQ F 18 (mQ F)) ([] : List SealR) (0:UInt64) (bQ F (4*mQ F + 18) 16) = 0)) == false)) rfl rfl (bnotF (decide_eq_false (EJ hP.symm hpu.symm hFne))) (C2 _ _ _ rfl rfl (fun _ => F9 ..) fun _ => eql_bool Tryd.underlying4) rfl ?_
   refine AA _ (CN _ rfl (bnotF (decide_eq_false (EJ hP.symm hpu.symm hFne))) rfl) rfl ?_
   refine AA _ (AG rfl) rfl ?_
   refine AN (AE (BP (CH [false, false, false, false, false, false, false, false] ?_)))
   show JQ _ _ _ _ []
   refine BQ (.bool ((decide (chkG key (vQ F 0 8) (vQ F 8 8) ((vQ F 16 1).toNat) (ixQ F 18 (mQ F)) ([] : List SealR) (0:UInt64) (bQ F (4*mQ F + 18) 16) = 0)) == false)) (res1 EV (B2 rfl)) fun w1 hw1 => ?_
   exact ⟨_, [], rfl, ⟨congrArg Value.bool (beqF (decide_eq_false (chk_flip hP.symm hpu.symm ((EX hl rfl).trans htot) (by rw [← hF]; exact flip_take hqP (by omega)) hFne (by rw [EX (FJ _ _ _) rfl]; (unfold tktN; rw [if_neg (by rw [hW.1.1]; decide)]; first | omega | (simp; omega)))))), rfl⟩, hw1.sub (by simp) (by simp)⟩
 ·
  have hnW : ¬ WholeT F := by
   rw [← hF] at hW ⊢
   subst hk
   exact noWhole2 (n := ni) (back2 hP.symm (CL _ _ _ _ _ _ _) hmay hl).1.1 (by omega) hqP hr8 hW
  refine AD (AA _ (AH rfl) rfl ?_)
  have hz3 : (F).length = (tot + 16) := hFl
  refine A7 (A3 65 [Slc nb5 0 (tot + 16) cp2] (.tuple #[.agg ([U64 0, U64 0, I64 0, .slice none 0 0, .slice none 0 0, U64 0] ++ cu8 (zr8 16)).toArray, .iface 50 (I64 2)]) (AY _ Tryd.call65 rfl) (fun w1 hw1 => parseX_w (some ⟨nb5, 0, none⟩) (tot + 16) cp2 F w1 rfl hFl (by omega) (by omega) (by omega) (RdB.of hw1 (AS 4 rfl (A4 (AL _))) (by simp)) hnW)) rfl ?_
  show JL _ _ _ _ ((88, .tuple #[.agg ([U64 0, U64 0, I64 0, .slice none 0 0, .slice none 0 0, U64 0] ++ cu8 (zr8 16)).toArray, .iface 50 (I64 2)]) :: _) [_, _, _, _, _, _, _]
  refine AA _ (AH rfl) rfl ?_
  refine AA _ (B4 rfl rfl) rfl ?_
  refine AA _ (B4 rfl rfl) rfl ?_
  refine A7 (A5 6 nb7 22 ([U64 pv, U64 ep, I64 k, Slc nb6 0 ni cp3, .slice none 0 0, U64 bl] ++ cu8 (tkG key pv ep k l ([] : List SealR) bl)) 29 ([U64 0, U64 0, I64 0, .slice none 0 0, .slice none 0 0, U64 0] ++ cu8 (zr8 16)) rfl rfl rfl AT (by simp [(AP 16)]) (CO (by simp [Value.oneCell']) CD) (by simp [(CL _ _ _ _ _ _ _)]) (BC (by simp [(CL _ _ _ _ _ _ _), (AP 16)]))) rfl ?_
  show JL _ _ _ _ _ [_, _, _, _, _, _, ⟨nb7, [U64 0, U64 0, I64 0, .slice none 0 0, .slice none 0 0, U64 0] ++ cu8 (zr8 16), 29, (0, 0)⟩]
  refine AA _ (AG rfl) rfl ?_
  refine AN (AE (AI (AI (AD (AA _ (AH rfl) rfl ?_)))))
  refine AA (.bool true) (C2 _ _ _ rfl rfl (fun _ => eqGuard_if ..) fun _ => neq_if_nil A6) rfl ?_
  refine AN (AE (DJ _ rfl rfl ?_))
  refine AI (AD (AA _ (AG rfl) rfl ?_))
  refine AN (AE (BP (BN (CH [false, false, false, false, false, false, false] ?_))))
  show JQ _ _ _ _ []
  refine BQ (.bool true) (res1 EV (B2 rfl)) fun w1 hw1 => ?_
  exact ⟨_, [], rfl, ⟨congrArg Value.bool rfl, rfl⟩, hw1.sub (by simp) (by simp)⟩
set_option maxHeartbeats 4000000 in
theorem tb3_c (key : List UInt8) (pv ep : UInt64) (k : Nat) (ai : Option Addr) (ci : Nat) (sa : Option Addr) (sc : Nat) (bl : UInt64) (tg : List UInt8) (bit : Int) (tot : Nat)  (w : World) (hk32 : key.length = 32) (hci : ci ≤ maxLen) (hnI : ai = none → ci = 0) (hcs : sc ≤ maxLen) (hnS : sa = none → sc = 0) (htg : tg.length = 16) (hbit : -9223372036854775808 ≤ bit ∧ bit ≤ 9223372036854775807) (hG : GLs w) (hGr : GLr w) (hGi : GLi w) (hmay : mayN pv ep (k:Int) ([] : List UInt64) ([] : List SealR) bl = 0) (hk : k = 3) (htot : tktN k 0 0 = tot) (htb : tot ≤ 30000) (hlg : ¬ LargeP 0 0)  : Calls Tryd.prog 12 #[.agg (cu8 key).toArray, .agg ([U64 pv, U64 ep, I64 k, .slice ai 0 ci, .slice sa 0 sc, U64 bl] ++ cu8 tg).toArray, I64 (bit)] w (Post w [] (fun v L => v = .bool true ∧ L = [])) := by
 have hmx : maxLen = 9223372036854775807 := rfl
 have hkq := rem_lt (m := 8*tot + 128) (u64i bit) (by omega) (by omega)
 have htot2 : tot = 25 := by
  rw [← htot]; unfold tktN
  rw [if_pos hk]
  all_goals omega
 refine enter (P := Tryd.prog) (f := 12) (fn := Tryd.f12) w [] 120 [] [.agg (cu8 key).toArray, .agg ([U64 pv, U64 ep, I64 k, .slice ai 0 ci, .slice sa 0 sc, U64 bl] ++ cu8 tg).toArray, I64 (bit)] Tryd.func12 rfl rfl (by simp) (BZ (by simp) (by simp) (by simp)) ?_
 show JC _ _ _ [(0, .agg (cu8 key).toArray), (1, .agg ([U64 pv, U64 ep, I64 k, .slice ai 0 ci, .slice sa 0 sc, U64 bl] ++ cu8 tg).toArray), (2, I64 (bit))] _
 refine AI (AD (A1 (CW (.agg (cu8 key).toArray) (cu8 key) rfl (by first | rfl | simp)) rfl ?_))
 rintro v1 L1 ⟨nb1, hnb1, rfl, rfl⟩
 show JL _ _ _ _ ((3, Ptr nb1 0) :: _) [⟨nb1, cu8 key, 54, (0, 0)⟩]
 refine A1 (CW (.agg ([U64 pv, U64 ep, I64 k, .slice ai 0 ci, .slice sa 0 sc, U64 bl] ++ cu8 tg).toArray) ([U64 pv, U64 ep, I64 k, .slice ai 0 ci, .slice sa 0 sc, U64 bl] ++ cu8 tg) rfl (by first | rfl | simp)) rfl ?_
 rintro v1 L1 ⟨nb2, hnb2, rfl, rfl⟩
 show JL _ _ _ _ ((4, Ptr nb2 0) :: _) [_, ⟨nb2, [U64 pv, U64 ep, I64 k, .slice ai 0 ci, .slice sa 0 sc, U64 bl] ++ cu8 tg, 29, (0, 0)⟩]
 refine AA _ (AG rfl) rfl ?_
 refine AN (AE (AI (AI (AD (A1 (A3 43 [] (.bool true) (AY _ Tryd.call43 rfl) (fun w1 hw1 => alive13_c  w1 (hG.at hw1))) rfl ?_)))))
 rintro v1 L1 ⟨rfl, rfl⟩
 show JL _ _ _ _ ((14, .bool true) :: _) [_, _]
 refine AA (.bool (!true)) (FH rfl) rfl ?_
 refine AN (AE (CK _ rfl rfl ?_))
 refine BT (AE (AI (AI (AD (AA (Ptr nb2 2) (AB 2 26 4 AO rfl A8 rfl rfl) rfl ?_)))))
 refine AA (.agg #[I64 k, .slice ai 0 ci, .slice sa 0 sc, U64 bl]) (AK rfl (BH DG A8 rfl (AS 1 rfl (EI (p := [U64 pv, U64 ep]) (q := cu8 tg) (vs := [I64 k, .slice ai 0 ci, .slice sa 0 sc, U64 bl]) (by first | rfl | (simp only [List.append_assoc, List.nil_append, List.append_nil, List.cons_append]; done)) rfl)))) rfl ?_
 refine A7 (A3 18 [.agg #[I64 k, .slice ai 0 ci, .slice sa 0 sc, U64 bl]] (.bool (decide (LargeP 0 0))) (AY _ Tryd.call18 rfl) (fun w1 hw1 => large_c ((k:Int)) ai 0 ci ([] : List UInt64) sa 0 sc ([] : List SealR) bl w1 )) rfl ?_
 show JL _ _ _ _ ((18, .bool (decide (LargeP 0 0))) :: _) [_, _]
 refine AN (AE (CK _ rfl (decide_eq_false hlg) ?_))
 refine BT (AE (AI (AD (AA (.agg (cu8 key).toArray) (AK rfl (BH DE B1 (CM hk32) (AS 0 rfl (AL _)))) rfl ?_))))
 refine AA (Ptr nb2 0) (AB 0 22 1 AO rfl AU rfl rfl) rfl ?_
 refine AA (U64 pv) (AK rfl (AV AX (AS 1 rfl (A4 (Seg.head))))) rfl ?_
 refine AA (Ptr nb2 1) (AB 1 22 1 AO rfl AU rfl rfl) rfl ?_
 refine AA (U64 ep) (AK rfl (AV AX (AS 1 rfl (A4 (AJ (Seg.head)))))) rfl ?_
 refine AA (Ptr nb2 2) (AB 2 26 4 AO rfl A8 rfl rfl) rfl ?_
 refine AA (.agg #[I64 k, .slice ai 0 ci, .slice sa 0 sc, U64 bl]) (AK rfl (BH DG A8 rfl (AS 1 rfl (EI (p := [U64 pv, U64 ep]) (q := cu8 tg) (vs := [I64 k, .slice ai 0 ci, .slice sa 0 sc, U64 bl]) (by first | rfl | (simp only [List.append_assoc, List.nil_append, List.append_nil, List.cons_append]; done)) rfl)))) rfl ?_
 refine A1 (BI 46 [.agg (cu8 key).toArray, U64 pv, U64 ep, .agg #[I64 k, .slice ai 0 ci, .slice sa 0 sc, U64 bl]] _ (AY _ Tryd.call46 rfl) (fun w1 hw1 => sign3_c key pv ep k ai ci sa sc bl tot w1 hk32 (by omega) hnI (by omega) hnS  hmay (by omega) htot (by omega) (hG.at hw1))) rfl ?_
 rintro v1 L1 ⟨_, ⟨ao1, ca1, ao2, ca2, rfl, rfl, hc1, hc2, hc3, hc4⟩, rfl⟩
 show JL _ _ _ _ ((27, .tuple #[.agg ([U64 pv, U64 ep, I64 k, .slice ao1 0 ca1, .slice ao2 0 ca2, U64 bl] ++ cu8 (tkG key pv ep k ([] : List UInt64) ([] : List SealR) bl)).toArray, .nilIface]) :: _) [_, _]
 refine AA _ (AH rfl) rfl ?_
 refine AA _ (B4 rfl rfl) rfl ?_
 refine AA _ (B4 rfl rfl) rfl ?_
 refine A1 (BG _ ([U64 0, U64 0, I64 0, .slice none 0 0, .slice none 0 0, U64 0] ++ cu8 (zr8 16)) BK (by kernel_rfl)) rfl ?_
 rintro v1 L1 ⟨nb3, hnb3, rfl, rfl⟩
 show JL _ _ _ _ ((7, Ptr nb3 0) :: _) [_, _, ⟨nb3, [U64 0, U64 0, I64 0, .slice none 0 0, .slice none 0 0, U64 0] ++ cu8 (zr8 16), 29, (0, 0)⟩]
 refine A7 (A5 2 nb3 22 ([U64 0, U64 0, I64 0, .slice none 0 0, .slice none 0 0, U64 0] ++ cu8 (zr8 16)) 29 ([U64 pv, U64 ep, I64 k, .slice ao1 0 ca1, .slice ao2 0 ca2, U64 bl] ++ cu8 (tkG key pv ep k ([] : List UInt64) ([] : List SealR) bl)) rfl rfl rfl AT (by simp [(CL _ _ _ _ _ _ _)]) (CO (by simp [Value.oneCell']) CD) (by simp [(AP 16)]) (BC (by simp [(AP 16), (CL _ _ _ _ _ _ _)]))) rfl ?_
 show JL _ _ _ _ _ [_, _, ⟨nb3, [U64 pv, U64 ep, I64 k, .slice ao1 0 ca1, .slice ao2 0 ca2, U64 bl] ++ cu8 (tkG key pv ep k ([] : List UInt64) ([] : List SealR) bl), 29, (0, 0)⟩]
 refine AA _ (AG rfl) rfl ?_
 refine AN (AE (AI (AI (AD (AA _ (AH rfl) rfl ?_)))))
 refine AA (.bool false) (C2 _ _ _ rfl rfl (fun _ => EA ..) fun _ => DC A6) rfl ?_
 refine AN (AE (CK _ rfl rfl ?_))
 refine BT (AE (AI (AD (AA (.agg ([U64 pv, U64 ep, I64 k, .slice ao1 0 ca1, .slice ao2 0 ca2, U64 bl] ++ cu8 (tkG key pv ep k ([] : List UInt64) ([] : List SealR) bl)).toArray) (AK rfl (BH A9 AT (by simp [(CL _ _ _ _ _ _ _)]) (AS 2 rfl (AL _)))) rfl ?_))))
 refine A1 (BI 47 [.agg ([U64 pv, U64 ep, I64 k, .slice ao1 0 ca1, .slice ao2 0 ca2, U64 bl] ++ cu8 (tkG key pv ep k ([] : List UInt64) ([] : List SealR) bl)).toArray] _ (AY _ Tryd.call47 rfl) (fun w1 hw1 => put13_c pv ep k ao1 0 ca1 ([] : List UInt64) ao2 0 ca2 ([] : List SealR) bl (tkG key pv ep k ([] : List UInt64) ([] : List SealR) bl) tot w1 rfl (by omega) (by omega) (by omega) RdV.nil rfl (by omega) (by omega) (by omega) RdV.nil (CL _ _ _ _ _ _ _) hmay (by omega) (by omega) htot (by omega))) rfl ?_
 rintro v1 L1 ⟨_, ⟨nb4, sp1, cp1, rfl, rfl, hc5, hc6, hc7⟩, rfl⟩
 show JL _ _ _ _ ((37, .tuple #[Slc nb4 0 (tot + 16) cp1, .nilIface]) :: _) [_, _, _, ⟨nb4, cu8 ((tktT pv ep k ([] : List UInt64) ([] : List SealR) bl) ++ (tkG key pv ep k ([] : List UInt64) ([] : List SealR) bl)) ++ sp1, 5, (0, 0)⟩]
 refine AA _ (AH rfl) rfl ?_
 refine AA _ (B4 rfl rfl) rfl ?_
 refine AA _ (B4 rfl rfl) rfl ?_
 refine AA _ (AG rfl) rfl ?_
 refine AA _ (AG rfl) rfl ?_
 refine AN (AE (AI ?_))
 obtain ⟨P, hP, hPl⟩ : ∃ P : List UInt8, (tktT pv ep k ([] : List UInt64) ([] : List SealR) bl) ++ (tkG key pv ep k ([] : List UInt64) ([] : List SealR) bl) = P ∧ P.length = tot + 16 := ⟨_, rfl, (show ((tktT pv ep k ([] : List UInt64) ([] : List SealR) bl) ++ (tkG key pv ep k ([] : List UInt64) ([] : List SealR) bl)).length = (tot + 16) from (by rw [List.length_append, ((EX rfl rfl).trans htot), (CL _ _ _ _ _ _ _)]))⟩
 rw [hP]
 show JC _ _ _ _ [⟨nb1, cu8 key, 54, (0, 0)⟩, ⟨nb2, [U64 pv, U64 ep, I64 k, .slice ai 0 ci, .slice sa 0 sc, U64 bl] ++ cu8 tg, 29, (0, 0)⟩, ⟨nb3, [U64 pv, U64 ep, I64 k, .slice ao1 0 ca1, .slice ao2 0 ca2, U64 bl] ++ cu8 (tkG key pv ep k ([] : List UInt64) ([] : List SealR) bl), 29, (0, 0)⟩, ⟨nb4, cu8 P ++ sp1, 5, (0, 0)⟩]
 refine AD (AA _ (AH rfl) rfl ?_)
 have hz1 : (P).length = (tot + 16) := hPl
 refine A1 (BI 65 [Slc nb4 0 (tot + 16) cp1] _ (AY _ Tryd.call65 rfl) (fun w1 hw1 => parsePut3_w (some ⟨nb4, 0, none⟩) (tot + 16) cp1 P pv ep k bl (tkG key pv ep k ([] : List UInt64) ([] : List SealR) bl) w1 rfl hPl (by omega) (by omega) (by omega) (RdB.of hw1 (AS 3 rfl (A4 (AL _))) (by simp)) hk hP.symm (CL _ _ _ _ _ _ _) hmay)) rfl ?_
 rintro v1 L1 ⟨_, ⟨rfl, rfl⟩, rfl⟩
 show JL _ _ _ _ ((42, .tuple #[.agg ([U64 pv, U64 ep, I64 k, .slice none 0 0, .slice none 0 0, U64 bl] ++ cu8 (tkG key pv ep k ([] : List UInt64) ([] : List SealR) bl)).toArray, .nilIface]) :: _) [_, _, _, _]
 refine AA _ (AH rfl) rfl ?_
 refine AA _ (B4 rfl rfl) rfl ?_
 refine AA _ (B4 rfl rfl) rfl ?_
 refine A1 (BG _ ([U64 0, U64 0, I64 0, .slice none 0 0, .slice none 0 0, U64 0] ++ cu8 (zr8 16)) BK (by kernel_rfl)) rfl ?_
 rintro v1 L1 ⟨nb5, hnb5, rfl, rfl⟩
 show JL _ _ _ _ ((10, Ptr nb5 0) :: _) [_, _, _, _, ⟨nb5, [U64 0, U64 0, I64 0, .slice none 0 0, .slice none 0 0, U64 0] ++ cu8 (zr8 16), 29, (0, 0)⟩]
 refine A7 (A5 4 nb5 22 ([U64 0, U64 0, I64 0, .slice none 0 0, .slice none 0 0, U64 0] ++ cu8 (zr8 16)) 29 ([U64 pv, U64 ep, I64 k, .slice none 0 0, .slice none 0 0, U64 bl] ++ cu8 (tkG key pv ep k ([] : List UInt64) ([] : List SealR) bl)) rfl rfl rfl AT (by simp [(CL _ _ _ _ _ _ _)]) (CO (by simp [Value.oneCell']) CD) (by simp [(AP 16)]) (BC (by simp [(AP 16), (CL _ _ _ _ _ _ _)]))) rfl ?_
 show JL _ _ _ _ _ [_, _, _, _, ⟨nb5, [U64 pv, U64 ep, I64 k, .slice none 0 0, .slice none 0 0, U64 bl] ++ cu8 (tkG key pv ep k ([] : List UInt64) ([] : List SealR) bl), 29, (0, 0)⟩]
 refine AA _ (AG rfl) rfl ?_
 refine AN (AE (AI (AI (AD (AA _ (AH rfl) rfl ?_)))))
 refine AA (.bool false) (C2 _ _ _ rfl rfl (fun _ => EA ..) fun _ => DC A6) rfl ?_
 refine AA _ (AH rfl) rfl ?_
 refine A0 2 47 false _ _ rfl rfl rfl (AH rfl) rfl ?_
 refine A0 2 47 false _ (.bool false) rfl rfl rfl (C2 _ _ _ rfl rfl (fun _ => EA ..) fun _ => DC A6) rfl ?_
 refine AA _ (BU _ rfl rfl rfl) rfl ?_
 refine AA _ (AH rfl) rfl ?_
 refine A0 6 51 false _ (.agg ([U64 pv, U64 ep, I64 k, .slice none 0 0, .slice none 0 0, U64 bl] ++ cu8 (tkG key pv ep k ([] : List UInt64) ([] : List SealR) bl)).toArray) rfl rfl rfl (AK rfl (BH A9 AT (by simp [(CL _ _ _ _ _ _ _)]) (AS 4 rfl (AL _)))) rfl ?_
 refine A0 6 51 false _ (.agg ([U64 pv, U64 ep, I64 k, .slice ao1 0 ca1, .slice ao2 0 ca2, U64 bl] ++ cu8 (tkG key pv ep k ([] : List UInt64) ([] : List SealR) bl)).toArray) rfl rfl rfl (AK rfl (BH A9 AT (by simp [(CL _ _ _ _ _ _ _)]) (AS 2 rfl (AL _)))) rfl ?_
 refine EK 6 51 false _ rfl rfl rfl (A3 49 [.agg ([U64 pv, U64 ep, I64 k, .slice none 0 0, .slice none 0 0, U64 bl] ++ cu8 (tkG key pv ep k ([] : List UInt64) ([] : List SealR) bl)).toArray, .agg ([U64 pv, U64 ep, I64 k, .slice ao1 0 ca1, .slice ao2 0 ca2, U64 bl] ++ cu8 (tkG key pv ep k ([] : List UInt64) ([] : List SealR) bl)).toArray] (.bool (decide (pv = pv ∧ ep = ep ∧ (tkG key pv ep k ([] : List UInt64) ([] : List SealR) bl) = (tkG key pv ep k ([] : List UInt64) ([] : List SealR) bl) ∧ ((k:Int)) = ((k:Int)) ∧ bl = bl ∧ ([] : List UInt64) = ([] : List UInt64) ∧ ([] : List SealR) = ([] : List SealR)))) (AY _ Tryd.call49 rfl) (fun w1 hw1 => GC pv ep ((k:Int)) none 0 0 ([] : List UInt64) none 0 0 ([] : List SealR) bl (tkG key pv ep k ([] : List UInt64) ([] : List SealR) bl) pv ep ((k:Int)) ao1 0 ca1 ([] : List UInt64) ao2 0 ca2 ([] : List SealR) bl (tkG key pv ep k ([] : List UInt64) ([] : List SealR) bl) w1 rfl (by omega) (by omega) (by omega) RdV.nil rfl (by omega) (by omega) (by omega) RdV.nil (CL _ _ _ _ _ _ _) rfl (by omega) (by omega) (by omega) RdV.nil rfl (by omega) (by omega) (by omega) RdV.nil (CL _ _ _ _ _ _ _))) rfl ?_
 rintro v1 L1 ⟨rfl, rfl⟩
 show JL _ _ _ _ ((54, .bool (decide (pv = pv ∧ ep = ep ∧ (tkG key pv ep k ([] : List UInt64) ([] : List SealR) bl) = (tkG key pv ep k ([] : List UInt64) ([] : List SealR) bl) ∧ ((k:Int)) = ((k:Int)) ∧ bl = bl ∧ ([] : List UInt64) = ([] : List UInt64) ∧ ([] : List SealR) = ([] : List SealR)))) :: _) [_, _, _, _, _]
 refine A0 6 51 false _ (.bool (!(decide (pv = pv ∧ ep = ep ∧ (tkG key pv ep k ([] : List UInt64) ([] : List SealR) bl) = (tkG key pv ep k ([] : List UInt64) ([] : List SealR) bl) ∧ ((k:Int)) = ((k:Int)) ∧ bl = bl ∧ ([] : List UInt64) = ([] : List UInt64) ∧ ([] : List SealR) = ([] : List SealR))))) rfl rfl rfl (FH rfl) rfl ?_
 refine AA _ (BU _ rfl rfl rfl) rfl ?_
 refine AA _ (AH rfl) rfl ?_
 refine A0 12 57 false _ (.agg (cu8 key).toArray) rfl rfl (bnotT (decide_eq_true ⟨rfl, rfl, rfl, rfl, rfl, rfl, rfl⟩)) (AK rfl (BH DE B1 (CM hk32) (AS 0 rfl (AL _)))) rfl ?_
 refine A0 12 57 false _ (.agg ([U64 pv, U64 ep, I64 k, .slice none 0 0, .slice none 0 0, U64 bl] ++ cu8 (tkG key pv ep k ([] : List UInt64) ([] : List SealR) bl)).toArray) rfl rfl (bnotT (decide_eq_true ⟨rfl, rfl, rfl, rfl, rfl, rfl, rfl⟩)) (AK rfl (BH A9 AT (by simp [(CL _ _ _ _ _ _ _)]) (AS 4 rfl (AL _)))) rfl ?_
 refine EK 12 57 false _ rfl rfl (bnotT (decide_eq_true ⟨rfl, rfl, rfl, rfl, rfl, rfl, rfl⟩)) (A3 48 [.agg (cu8 key).toArray, .agg ([U64 pv, U64 ep, I64 k, .slice none 0 0, .slice none 0 0, U64 bl] ++ cu8 (tkG key pv ep k ([] : List UInt64) ([] : List SealR) bl)).toArray] (.nilIface) (AY _ Tryd.call48 rfl) (fun w1 hw1 => chkK_c key pv ep k none 0 0 ([] : List UInt64) none 0 0 ([] : List SealR) bl (tkG key pv ep k ([] : List UInt64) ([] : List SealR) bl) tot w1 hk32 rfl (by omega) (by omega) (by omega) RdV.nil rfl (by omega) (by omega) (by omega) RdV.nil (CL _ _ _ _ _ _ _) hmay (by omega) (by omega) htot (by omega) (hG.at hw1) rfl)) rfl ?_
 rintro v1 L1 ⟨rfl, rfl⟩
 show JL _ _ _ _ ((60, .nilIface) :: _) [_, _, _, _, _]
 refine A0 12 57 false _ (.bool false) rfl rfl (bnotT (decide_eq_true ⟨rfl, rfl, rfl, rfl, rfl, rfl, rfl⟩)) (C2 _ _ _ rfl rfl (fun _ => EA ..) fun _ => DC A6) rfl ?_
 refine AA _ (BU _ rfl (bnotT (decide_eq_true ⟨rfl, rfl, rfl, rfl, rfl, rfl, rfl⟩)) rfl) rfl ?_
 refine AA _ (AH rfl) rfl ?_
 refine A0 18 63 false _ _ rfl rfl rfl (AH rfl) rfl ?_
 refine A0 18 63 false _ (I64 ((tot:Int) + 16)) rfl rfl rfl (FX AM rfl (by omega)) rfl ?_
 refine A0 18 63 false _ (.bool (decide (((tot:Int) + 16) = (0:Int)))) rfl rfl rfl (AR rfl rfl fun _ => C9 _ _) rfl ?_
 refine AA _ (BU _ rfl rfl rfl) rfl ?_
 refine AN (AE (CK _ rfl (decide_eq_false (by omega)) ?_))
 refine BT (AE (AI (AD (AA _ (AH rfl) rfl ?_))))
 refine AA (U64 (u64i (bit))) (DW _ _ rfl fun _ => conv_i64_u64i (by rw [CG]; rfl) DS (bit)) rfl ?_
 refine AA _ (AH rfl) rfl ?_
 refine AA (I64 ((tot:Int) + 16)) (FX AM rfl (by omega)) rfl ?_
 refine AA (I64 (8*(tot:Int) + 128)) (AR rfl rfl fun _ => E8 _ _ (8*(tot:Int) + 128) (by omega) (by omega)) rfl ?_
 refine AA (U64 (UInt64.ofNat (8*tot + 128))) (DW _ _ rfl fun _ => EN (by rw [CG]; rfl) DS (8*tot + 128) _ (by omega)) rfl ?_
 refine AA (U64 ((u64i (bit)) % (UInt64.ofNat (8*tot + 128)))) (AR rfl rfl fun _ => bin_rem_u64 (u64i (bit)) (UInt64.ofNat (8*tot + 128)) (ofN_ne (by omega) (by omega))) rfl ?_
 refine AA (I64 ((((u64i (bit)) % (UInt64.ofNat (8*tot + 128))).toNat:Int))) (DW _ _ rfl fun _ => conv_u64_i64 (by rw [DS]; rfl) CG ((u64i (bit)) % (UInt64.ofNat (8*tot + 128))) _ rfl (by omega)) rfl ?_
 refine AA _ (AG rfl) rfl ?_
 refine AN (AE (AI ?_))
 obtain ⟨dq1, hdq1, hdq1a, hdq1b⟩ : ∃ q : Nat, q = (((u64i (bit)) % (UInt64.ofNat (8*tot + 128))).toNat) / 8 ∧ (q : Int) = ((((u64i (bit)) % (UInt64.ofNat (8*tot + 128))).toNat:Int)) / 8 ∧ (q * 8 ≤ (((u64i (bit)) % (UInt64.ofNat (8*tot + 128))).toNat) ∧ (((u64i (bit)) % (UInt64.ofNat (8*tot + 128))).toNat) < q * 8 + 8) := ⟨_, rfl, by first | rfl | omega, by omega⟩
 obtain ⟨dq2, hdq2, hdq2a, hdq2b⟩ : ∃ q : Nat, q = (((u64i (bit)) % (UInt64.ofNat (8*tot + 128))).toNat) % 8 ∧ (q : Int) = ((((u64i (bit)) % (UInt64.ofNat (8*tot + 128))).toNat:Int)) % 8 ∧ (q < 8) := ⟨_, rfl, by first | rfl | omega, by omega⟩
 refine C1 120 2 [(0, Slc nb4 0 (tot + 16) cp1), (1, I64 ((((u64i (bit)) % (UInt64.ofNat (8*tot + 128))).toNat:Int))), (2, I64 dq1), (3, Ptr nb4 dq1), (4, U8 (g8 P dq1)), (5, I64 ((((u64i (bit)) % (UInt64.ofNat (8*tot + 128))).toNat:Int))), (6, I64 dq2), (7, U8 ((1:UInt8) <<< UInt8.ofNat dq2)), (8, U8 ((g8 P dq1) ^^^ ((1:UInt8) <<< UInt8.ofNat dq2))), (9, Ptr nb4 dq1)] BV rfl (by decide +kernel) ?_
 have hl1 : (P.set dq1 ((g8 P dq1) ^^^ ((1:UInt8) <<< UInt8.ofNat dq2))).length = (tot + 16) := by first | (rw [List.length_set]; exact hPl) | simp [hPl]
 refine CQ ⟨[], [0, 1, 2, 3, 4, 5, 6, 7, 8, 9], [], [0, 1, 2, 3, 4, 5, 6, 7, 8, 9], [10]⟩ 10 rfl rfl (by decide +kernel) rfl ⟨A2 rfl rfl rfl, A2 rfl rfl rfl, ⟨_, rfl, AC rfl (AR rfl rfl fun _ => F3 _ _ ((dq1:Int)) (by omega) (by omega) (by omega))⟩, ⟨_, rfl, AC rfl (FC 5 1 dq1 AM AW rfl rfl (by omega) (by omega) (by omega))⟩, ⟨_, rfl, AC rfl (AK rfl (AV D4 (AS 3 rfl (A4 (Seg.get (GE (i := dq1) (by rw [hPl]; omega)))))))⟩, A2 rfl rfl rfl, ⟨_, rfl, AC rfl (AR rfl rfl fun _ => bin_rem_i _ _ ((dq2:Int)) (by omega) (by omega) (by omega))⟩, ⟨_, rfl, AC rfl (AR rfl rfl fun _ => bin_shl_u8 (1:UInt8) _ _ dq2 (by omega) (by omega))⟩, ⟨_, rfl, AC rfl (AR rfl rfl fun _ => FZ (g8 P dq1) ((1:UInt8) <<< UInt8.ofNat dq2))⟩, ⟨_, rfl, AC rfl (FC 5 1 dq1 AM AW rfl rfl (by omega) (by omega) (by omega))⟩, trivial⟩ rfl (AZ rfl (DT 3 nb4 dq1 1 (cu8 P ++ sp1) 5 (U8 ((g8 P dq1) ^^^ ((1:UInt8) <<< UInt8.ofNat dq2))) ([U8 ((g8 P dq1) ^^^ ((1:UInt8) <<< UInt8.ofNat dq2))]) (cu8 (P.set dq1 ((g8 P dq1) ^^^ ((1:UInt8) <<< UInt8.ofNat dq2))) ++ sp1) rfl rfl rfl rfl AW rfl (by simp [Value.oneCell']) (by simp [hPl, hc5]; try omega) (lay_left (p := cu8 P) (vs := [U8 ((g8 P dq1) ^^^ ((1:UInt8) <<< UInt8.ofNat dq2))]) (o := dq1) (by simp [hPl]; omega) (lay8 _ _ _ (by rw [hPl]; omega))))) ?_
 show DP _ _ _ _ _ _ _ _ [_, _, _, ⟨nb4, cu8 (P.set dq1 ((g8 P dq1) ^^^ ((1:UInt8) <<< UInt8.ofNat dq2))) ++ sp1, 5, (0, 0)⟩, _]
 refine C4 ⟨[10], [0, 1, 2, 3, 4, 5, 6, 7, 8, 9], [0, 1, 2, 3, 4, 5, 6, 7, 8, 9], [], []⟩ rfl rfl (by decide +kernel) rfl trivial ?_
 refine CI (F' := [(3, Ptr nb1 0), (6, .bool false), (7, Ptr nb3 0), (8, .nilIface), (9, Slc nb4 0 (tot + 16) cp1), (10, Ptr nb5 0), (12, I64 ((((u64i (bit)) % (UInt64.ofNat (8*tot + 128))).toNat:Int)))]) (by kernel_rfl) ?_
 refine AE (AI ?_)
 have hF0 : P.set dq1 ((g8 P dq1) ^^^ ((1:UInt8) <<< UInt8.ofNat dq2)) = flipB P dq1 dq2 := (flipB_def _ _ _).symm
 have hqP : dq1 < P.length := by omega
 have hr8 : dq2 < 8 := by omega
 obtain ⟨F, hF⟩ : ∃ F : List UInt8, flipB P dq1 dq2 = F := ⟨_, rfl⟩
 have hFl : F.length = tot + 16 := by rw [← hF, F2]; exact hPl
 have hFne : F ≠ P := by rw [← hF]; exact flip_neP hqP hr8
 rw [hF0, hF]
 clear hF0
 show JC _ _ _ _ [⟨nb1, cu8 key, 54, (0, 0)⟩, ⟨nb2, [U64 pv, U64 ep, I64 k, .slice ai 0 ci, .slice sa 0 sc, U64 bl] ++ cu8 tg, 29, (0, 0)⟩, ⟨nb3, [U64 pv, U64 ep, I64 k, .slice ao1 0 ca1, .slice ao2 0 ca2, U64 bl] ++ cu8 (tkG key pv ep k ([] : List UInt64) ([] : List SealR) bl), 29, (0, 0)⟩, ⟨nb4, cu8 F ++ sp1, 5, (0, 0)⟩, ⟨nb5, [U64 pv, U64 ep, I64 k, .slice none 0 0, .slice none 0 0, U64 bl] ++ cu8 (tkG key pv ep k ([] : List UInt64) ([] : List SealR) bl), 29, (0, 0)⟩]
 by_cases hW : Ok3 F ∧ F.length = 41
 ·
  have hk9 := vQ_lt1 F 17
  have hmQ := mQ_eq F
  have hpu := put3_q hW.2 hW.1.1
  refine AD (AA _ (AH rfl) rfl ?_)
  have hz2 : (F).length = (tot + 16) := hFl
  refine A1 (BI 65 [Slc nb4 0 (tot + 16) cp1] _ (AY _ Tryd.call65 rfl) (fun w1 hw1 => parse3Z_w (some ⟨nb4, 0, none⟩) (tot + 16) cp1 F w1 rfl hFl (by omega) (by omega) (by omega) (RdB.of hw1 (AS 3 rfl (A4 (AL _))) (by simp)) hW.1 (by omega))) rfl ?_
  rintro v1 L1 ⟨_, ⟨rfl, rfl⟩, rfl⟩
  show JL _ _ _ _ ((88, .tuple #[.agg ([U64 (vQ F 0 8), U64 (vQ F 8 8), I64 (((vQ F 16 1).toNat:Int)), .slice none 0 0, .slice none 0 0, U64 (vQ F 17 8)] ++ cu8 (bQ F 25 16)).toArray, .nilIface]) :: _) [_, _, _, _, _]
  refine AA _ (AH rfl) rfl ?_
  refine AA _ (B4 rfl rfl) rfl ?_
  refine AA _ (B4 rfl rfl) rfl ?_
  refine A7 (A5 4 nb5 22 ([U64 pv, U64 ep, I64 k, .slice none 0 0, .slice none 0 0, U64 bl] ++ cu8 (tkG key pv ep k ([] : List UInt64) ([] : List SealR) bl)) 29 ([U64 (vQ F 0 8), U64 (vQ F 8 8), I64 (((vQ F 16 1).toNat:Int)), .slice none 0 0, .slice none 0 0, U64 (vQ F 17 8)] ++ cu8 (bQ F 25 16)) rfl rfl rfl AT (by simp [(B5 _ _ _)]) (CO (by simp [Value.oneCell']) CD) (by simp [(CL _ _ _ _ _ _ _)]) (BC (by simp [(CL _ _ _ _ _ _ _), (B5 _ _ _)]))) rfl ?_
  show JL _ _ _ _ _ [_, _, _, _, ⟨nb5, [U64 (vQ F 0 8), U64 (vQ F 8 8), I64 (((vQ F 16 1).toNat:Int)), .slice none 0 0, .slice none 0 0, U64 (vQ F 17 8)] ++ cu8 (bQ F 25 16), 29, (0, 0)⟩]
  refine AA _ (AG rfl) rfl ?_
  refine AN (AE (AI (AI (AD (AA _ (AH rfl) rfl ?_)))))
  refine AA (.bool false) (C2 _ _ _ rfl rfl (fun _ => EA ..) fun _ => DC A6) rfl ?_
  refine AN (AE (CK _ rfl rfl ?_))
  refine BT (AE (AI ?_))
  by_cases hqt : dq1 < tot
  ·
   refine C1 120 3 [(0, I64 ((((u64i (bit)) % (UInt64.ofNat (8*tot + 128))).toNat:Int))), (1, I64 dq1), (2, Slc nb4 0 (tot + 16) cp1), (3, I64 ((tot:Int) + 16)), (4, I64 tot), (5, .bool (decide (((dq1:Int)) < ((tot:Int))))), (6, .bool (decide (((dq1:Int)) < ((tot:Int))))), (7, .agg (cu8 key).toArray), (8, .agg ([U64 (vQ F 0 8), U64 (vQ F 8 8), I64 (((vQ F 16 1).toNat:Int)), .slice none 0 0, .slice none 0 0, U64 (vQ F 17 8)] ++ cu8 (bQ F 25 16)).toArray), (11, Ptr nb5 6), (12, .agg (cu8 (bQ F 25 16)).toArray)] BV rfl (by decide +kernel) ?_
   refine CQ ⟨[], [0, 1, 2, 3, 4, 5, 6, 7, 8, 11, 12], [], [0, 1, 2, 3, 4, 5, 6, 7, 8, 11, 12], [9]⟩ 9 rfl rfl (by decide +kernel) rfl ⟨A2 rfl rfl rfl, ⟨_, rfl, AC rfl (AR rfl rfl fun _ => F3 _ _ ((dq1:Int)) (by omega) (by omega) (by omega))⟩, A2 rfl rfl rfl, ⟨_, rfl, AC rfl (FX AM rfl (by omega))⟩, ⟨_, rfl, AC rfl (AR rfl rfl fun _ => DD _ _ ((tot:Int)) (by omega) (by omega))⟩, ⟨_, rfl, AC rfl (AR rfl rfl fun _ => CS _ _)⟩, A2 rfl rfl rfl, ⟨_, rfl, DK 6 99 true _ rfl rfl rfl (decide_eq_true (by omega)) (AK rfl (BH DE B1 (CM hk32) (AS 0 rfl (AL _))))⟩, ⟨_, rfl, DK 6 99 true _ rfl rfl rfl (decide_eq_true (by omega)) (AK rfl (BH A9 AT (by simp [(B5 _ _ _)]) (AS 4 rfl (AL _))))⟩, ⟨_, rfl, DK 6 99 true _ rfl rfl rfl (decide_eq_true (by omega)) (AB 6 27 16 AO rfl BE rfl rfl)⟩, ⟨_, rfl, DK 6 99 true _ rfl rfl rfl (decide_eq_true (by omega)) (AK rfl (BH DO BE (CM (B5 _ _ _)) (AS 4 rfl (Seg.right 6 0 rfl rfl (AL _)))))⟩, trivial⟩ rfl (Cok_gstep 6 99 true _ rfl rfl rfl (decide_eq_true (by omega)) (A3 44 [.agg ([U64 (vQ F 0 8), U64 (vQ F 8 8), I64 (((vQ F 16 1).toNat:Int)), .slice none 0 0, .slice none 0 0, U64 (vQ F 17 8)] ++ cu8 (bQ F 25 16)).toArray] (.agg ([U64 (vQ F 0 8), U64 (vQ F 8 8), I64 (((vQ F 16 1).toNat:Int)), .slice none 0 0, .slice none 0 0, U64 (vQ F 17 8)] ++ cu8 (bQ F 25 16)).toArray) (AY _ Tryd.call44 rfl) (fun w1 hw1 => docTZ_c (vQ F 0 8) (vQ F 8 8) (((vQ F 16 1).toNat:Int)) none 0 0 ([] : List UInt64) none 0 (vQ F 17 8) (bQ F 25 16) w1 rfl (by omega) (by omega) (by omega) RdV.nil (by omega) (fun _ => rfl) (B5 _ _ _)))) ?_
   show DP _ _ _ _ _ _ _ _ [_, _, _, _, _]
   refine CR ⟨[9], [0, 1, 2, 3, 4, 5, 6, 7, 8, 11, 12], [0, 1, 2, 3, 4, 5, 6, 8], [7, 11, 12], [10]⟩ 10 _ rfl rfl (by decide +kernel) rfl ⟨⟨_, rfl, DK 6 99 true _ rfl rfl rfl (decide_eq_true (by omega)) (AK rfl (BH DE B1 (CM hk32) (AS 0 rfl (AL _))))⟩, ⟨_, rfl, DK 6 99 true _ rfl rfl rfl (decide_eq_true (by omega)) (AB 6 27 16 AO rfl BE rfl rfl)⟩, ⟨_, rfl, DK 6 99 true _ rfl rfl rfl (decide_eq_true (by omega)) (AK rfl (BH DO BE (CM (B5 _ _ _)) (AS 4 rfl (Seg.right 6 0 rfl rfl (AL _)))))⟩, trivial⟩ rfl (Cok_gstep 6 99 true _ rfl rfl rfl (decide_eq_true (by omega)) (A3 50 [.agg (cu8 key).toArray, .agg ([U64 (vQ F 0 8), U64 (vQ F 8 8), I64 (((vQ F 16 1).toNat:Int)), .slice none 0 0, .slice none 0 0, U64 (vQ F 17 8)] ++ cu8 (bQ F 25 16)).toArray] (.agg (cu8 (tkG key (vQ F 0 8) (vQ F 8 8) ((vQ F 16 1).toNat) ([] : List UInt64) ([] : List SealR) (vQ F 17 8))).toArray) (AY _ Tryd.call50 rfl) (fun w1 hw1 => rtag13_c key (vQ F 0 8) (vQ F 8 8) ((vQ F 16 1).toNat) none 0 0 ([] : List UInt64) none 0 0 ([] : List SealR) (vQ F 17 8) (bQ F 25 16) tot w1 hk32 rfl (by omega) (by omega) (by omega) RdV.nil rfl (by omega) (by omega) (by omega) RdV.nil (B5 _ _ _) hW.1.2.2 (.inr (.inr (by rw [hW.1.1]; rfl))) (by omega) (by unfold tktN; rw [if_pos (by rw [hW.1.1]; rfl)]; first | omega | (simp; omega)) (by omega) (GLr.at hw1 hGr) (GLi.at hw1 hGi)))) ?_
   rintro v1 L1 ⟨rfl, rfl⟩
   refine ⟨[(13, .bool (decide ((tkG key (vQ F 0 8) (vQ F 8 8) ((vQ F 16 1).toNat) ([] : List UInt64) ([] : List SealR) (vQ F 17 8)) = (bQ F 25 16)))), (14, .bool (decide ((tkG key (vQ F 0 8) (vQ F 8 8) ((vQ F 16 1).toNat) ([] : List UInt64) ([] : List SealR) (vQ F 17 8)) = (bQ F 25 16)))), (15, .bool (decide ((tkG key (vQ F 0 8) (vQ F 8 8) ((vQ F 16 1).toNat) ([] : List UInt64) ([] : List SealR) (vQ F 17 8)) = (bQ F 25 16))))], ?_⟩
   show DP _ _ _ _ _ _ _ _ [_, _, _, _, _]
   refine C4 ⟨[9, 10], [0, 1, 2, 3, 4, 5, 6, 7, 8, 11, 12, 13, 14, 15], [0, 1, 2, 3, 4, 5, 6, 7, 8], [11, 12, 13, 14, 15], []⟩ rfl rfl (by decide +kernel) rfl ⟨⟨_, rfl, DK 6 99 true _ rfl rfl rfl (decide_eq_true (by omega)) (AB 6 27 16 AO rfl BE rfl rfl)⟩, ⟨_, rfl, DK 6 99 true _ rfl rfl rfl (decide_eq_true (by omega)) (AK rfl (BH DO BE (CM (B5 _ _ _)) (AS 4 rfl (Seg.right 6 0 rfl rfl (AL _)))))⟩, ⟨_, rfl, DK 6 99 true _ rfl rfl rfl (decide_eq_true (by omega)) (C2 _ _ _ rfl rfl (fun _ => eqGuard_agg _ _ _ _ _ _ (by kernel_rfl)) fun _ => eql_arr8 BJ B6 D4 F5 Tryd.has5 (by simp [(CL _ _ _ _ _ _ _)]) (by simp [(B5 _ _ _)]))⟩, ⟨_, rfl, AC rfl (CN _ rfl (decide_eq_true (by omega)) rfl)⟩, ⟨_, rfl, AC rfl (AG rfl)⟩, trivial⟩ ?_
   refine CI (F' := [(13, .bool (decide ((tkG key (vQ F 0 8) (vQ F 8 8) ((vQ F 16 1).toNat) ([] : List UInt64) ([] : List SealR) (vQ F 17 8)) = (bQ F 25 16)))), (3, Ptr nb1 0), (6, .bool false), (7, Ptr nb3 0), (10, Ptr nb5 0)]) (by kernel_rfl) ?_
   refine AE (AI (AD (AA (.agg ([U64 (vQ F 0 8), U64 (vQ F 8 8), I64 (((vQ F 16 1).toNat:Int)), .slice none 0 0, .slice none 0 0, U64 (vQ F 17 8)] ++ cu8 (bQ F 25 16)).toArray) (AK rfl (BH A9 AT (by simp [(B5 _ _ _)]) (AS 4 rfl (AL _)))) rfl ?_)))
   refine AA (.agg ([U64 pv, U64 ep, I64 k, .slice ao1 0 ca1, .slice ao2 0 ca2, U64 bl] ++ cu8 (tkG key pv ep k ([] : List UInt64) ([] : List SealR) bl)).toArray) (AK rfl (BH A9 AT (by simp [(CL _ _ _ _ _ _ _)]) (AS 2 rfl (AL _)))) rfl ?_
   refine A7 (A3 49 [.agg ([U64 (vQ F 0 8), U64 (vQ F 8 8), I64 (((vQ F 16 1).toNat:Int)), .slice none 0 0, .slice none 0 0, U64 (vQ F 17 8)] ++ cu8 (bQ F 25 16)).toArray, .agg ([U64 pv, U64 ep, I64 k, .slice ao1 0 ca1, .slice ao2 0 ca2, U64 bl] ++ cu8 (tkG key pv ep k ([] : List UInt64) ([] : List SealR) bl)).toArray] (.bool (decide ((vQ F 0 8) = pv ∧ (vQ F 8 8) = ep ∧ (bQ F 25 16) = (tkG key pv ep k ([] : List UInt64) ([] : List SealR) bl) ∧ (((vQ F 16 1).toNat:Int)) = ((k:Int)) ∧ (vQ F 17 8) = bl ∧ ([] : List UInt64) = ([] : List UInt64) ∧ ([] : List SealR) = ([] : List SealR)))) (AY _ Tryd.call49 rfl) (fun w1 hw1 => GC (vQ F 0 8) (vQ F 8 8) (((vQ F 16 1).toNat:Int)) none 0 0 ([] : List UInt64) none 0 0 ([] : List SealR) (vQ F 17 8) (bQ F 25 16) pv ep ((k:Int)) ao1 0 ca1 ([] : List UInt64) ao2 0 ca2 ([] : List SealR) bl (tkG key pv ep k ([] : List UInt64) ([] : List SealR) bl) w1 rfl (by omega) (by omega) (by omega) RdV.nil rfl (by omega) (by omega) (by omega) RdV.nil (B5 _ _ _) rfl (by omega) (by omega) (by omega) RdV.nil rfl (by omega) (by omega) (by omega) RdV.nil (CL _ _ _ _ _ _ _))) rfl ?_
   show JL _ _ _ _ ((110, .bool (decide ((vQ F 0 8) = pv ∧ (vQ F 8 8) = ep ∧ (bQ F 25 16) = (tkG key pv ep k ([] : List UInt64) ([] : List SealR) bl) ∧ (((vQ F 16 1).toNat:Int)) = ((k:Int)) ∧ (vQ F 17 8) = bl ∧ ([] : List UInt64) = ([] : List UInt64) ∧ ([] : List SealR) = ([] : List SealR)))) :: _) [_, _, _, _, _]
   refine AA (.bool (!(decide ((vQ F 0 8) = pv ∧ (vQ F 8 8) = ep ∧ (bQ F 25 16) = (tkG key pv ep k ([] : List UInt64) ([] : List SealR) bl) ∧ (((vQ F 16 1).toNat:Int)) = ((k:Int)) ∧ (vQ F 17 8) = bl ∧ ([] : List UInt64) = ([] : List UInt64) ∧ ([] : List SealR) = ([] : List SealR))))) (FH rfl) rfl ?_
   refine AA _ (AH rfl) rfl ?_
   refine A0 4 112 true _ (.agg (cu8 key).toArray) rfl rfl (bnotF (decide_eq_false (EJ hP.symm hpu.symm hFne))) (AK rfl (BH DE B1 (CM hk32) (AS 0 rfl (AL _)))) rfl ?_
   refine A0 4 112 true _ (.agg ([U64 (vQ F 0 8), U64 (vQ F 8 8), I64 (((vQ F 16 1).toNat:Int)), .slice none 0 0, .slice none 0 0, U64 (vQ F 17 8)] ++ cu8 (bQ F 25 16)).toArray) rfl rfl (bnotF (decide_eq_false (EJ hP.symm hpu.symm hFne))) (AK rfl (BH A9 AT (by simp [(B5 _ _ _)]) (AS 4 rfl (AL _)))) rfl ?_
   refine EK 4 112 true _ rfl rfl (bnotF (decide_eq_false (EJ hP.symm hpu.symm hFne))) (A3 48 [.agg (cu8 key).toArray, .agg ([U64 (vQ F 0 8), U64 (vQ F 8 8), I64 (((vQ F 16 1).toNat:Int)), .slice none 0 0, .slice none 0 0, U64 (vQ F 17 8)] ++ cu8 (bQ F 25 16)).toArray] (errV 50 (chkG key (vQ F 0 8) (vQ F 8 8) ((vQ F 16 1).toNat) ([] : List UInt64) ([] : List SealR) (vQ F 17 8) (bQ F 25 16))) (AY _ Tryd.call48 rfl) (fun w1 hw1 => chk_w key (vQ F 0 8) (vQ F 8 8) ((vQ F 16 1).toNat) none 0 0 ([] : List UInt64) none 0 0 ([] : List SealR) (vQ F 17 8) (bQ F 25 16) tot w1 hk32 rfl (by omega) (by omega) (by omega) RdV.nil rfl (by omega) (by omega) (by omega) RdV.nil (B5 _ _ _) hW.1.2.2 (.inr (.inr (by rw [hW.1.1]; rfl))) (by omega) (by unfold tktN; rw [if_pos (by rw [hW.1.1]; rfl)]; first | omega | (simp; omega)) (by omega) (hG.at hw1))) rfl ?_
   rintro v1 L1 ⟨rfl, rfl⟩
   show JL _ _ _ _ ((115, errV 50 (chkG key (vQ F 0 8) (vQ F 8 8) ((vQ F 16 1).toNat) ([] : List UInt64) ([] : List SealR) (vQ F 17 8) (bQ F 25 16))) :: _) [_, _, _, _, _]
   refine A0 4 112 true _ (.bool (decide (chkG key (vQ F 0 8) (vQ F 8 8) ((vQ F 16 1).toNat) ([] : List UInt64) ([] : List SealR) (vQ F 17 8) (bQ F 25 16) = 0))) rfl rfl (bnotF (decide_eq_false (EJ hP.symm hpu.symm hFne))) (C2 _ _ _ rfl rfl (fun _ => CJ ..) fun _ => eql_errV A6 _ _) rfl ?_
   refine A0 4 112 true _ _ rfl rfl (bnotF (decide_eq_false (EJ hP.symm hpu.symm hFne))) (AH rfl) rfl ?_
   refine A0 4 112 true _ (.bool ((decide (chkG key (vQ F 0 8) (vQ F 8 8) ((vQ F 16 1).toNat) ([] : List UInt64) ([] : List SealR) (vQ F 17 8) (bQ F 25 16) = 0)) == (decide ((tkG key (vQ F 0 8) (vQ F 8 8) ((vQ F 16 1).toNat) ([] : List UInt64) ([] : List SealR) (vQ F 17 8)) = (bQ F 25 16))))) rfl rfl (bnotF (decide_eq_false (EJ hP.symm hpu.symm hFne))) (C2 _ _ _ rfl rfl (fun _ => F9 ..) fun _ => eql_bool Tryd.underlying4) rfl ?_
   refine AA _ (CN _ rfl (bnotF (decide_eq_false (EJ hP.symm hpu.symm hFne))) rfl) rfl ?_
   refine AA _ (AG rfl) rfl ?_
   refine AN (AE (BP (CH [false, false, false, false, false] ?_)))
   show JQ _ _ _ _ []
   refine BQ (.bool ((decide (chkG key (vQ F 0 8) (vQ F 8 8) ((vQ F 16 1).toNat) ([] : List UInt64) ([] : List SealR) (vQ F 17 8) (bQ F 25 16) = 0)) == (decide ((tkG key (vQ F 0 8) (vQ F 8 8) ((vQ F 16 1).toNat) ([] : List UInt64) ([] : List SealR) (vQ F 17 8)) = (bQ F 25 16))))) (res1 EV (B2 rfl)) fun w1 hw1 => ?_
   exact ⟨_, [], rfl, ⟨congrArg Value.bool (chk_eq _ _ _ _ _ _ _ _), rfl⟩, hw1.sub (by simp) (by simp)⟩
  ·
   refine C1 120 3 [(0, I64 ((((u64i (bit)) % (UInt64.ofNat (8*tot + 128))).toNat:Int))), (1, I64 dq1), (2, Slc nb4 0 (tot + 16) cp1), (3, I64 ((tot:Int) + 16)), (4, I64 tot), (5, .bool (decide (((dq1:Int)) < ((tot:Int))))), (6, .bool (decide (((dq1:Int)) < ((tot:Int))))), (7, undef), (8, undef), (9, undef), (10, undef), (11, undef), (12, undef), (13, undef), (14, .bool false), (15, .bool false)] BV rfl (by decide +kernel) ?_
   refine C4 ⟨[], [0, 1, 2, 3, 4, 5, 6, 7, 8, 9, 10, 11, 12, 13, 14, 15], [], [0, 1, 2, 3, 4, 5, 6, 7, 8, 9, 10, 11, 12, 13, 14, 15], []⟩ rfl rfl (by decide +kernel) rfl ⟨A2 rfl rfl rfl, ⟨_, rfl, AC rfl (AR rfl rfl fun _ => F3 _ _ ((dq1:Int)) (by omega) (by omega) (by omega))⟩, A2 rfl rfl rfl, ⟨_, rfl, AC rfl (FX AM rfl (by omega))⟩, ⟨_, rfl, AC rfl (AR rfl rfl fun _ => DD _ _ ((tot:Int)) (by omega) (by omega))⟩, ⟨_, rfl, AC rfl (AR rfl rfl fun _ => CS _ _)⟩, A2 rfl rfl rfl, ⟨_, rfl, DM 6 99 true _ rfl rfl rfl (decide_eq_false (by omega))⟩, ⟨_, rfl, DM 6 99 true _ rfl rfl rfl (decide_eq_false (by omega))⟩, ⟨_, rfl, DM 6 99 true _ rfl rfl rfl (decide_eq_false (by omega))⟩, ⟨_, rfl, DM 6 99 true _ rfl rfl rfl (decide_eq_false (by omega))⟩, ⟨_, rfl, DM 6 99 true _ rfl rfl rfl (decide_eq_false (by omega))⟩, ⟨_, rfl, DM 6 99 true _ rfl rfl rfl (decide_eq_false (by omega))⟩, ⟨_, rfl, DM 6 99 true _ rfl rfl rfl (decide_eq_false (by omega))⟩, ⟨_, rfl, AC rfl (BU _ rfl (decide_eq_false (by omega)) rfl)⟩, ⟨_, rfl, AC rfl (AG rfl)⟩, trivial⟩ ?_
   refine CI (F' := [(13, .bool false), (3, Ptr nb1 0), (6, .bool false), (7, Ptr nb3 0), (10, Ptr nb5 0)]) (by kernel_rfl) ?_
   refine AE (AI (AD (AA (.agg ([U64 (vQ F 0 8), U64 (vQ F 8 8), I64 (((vQ F 16 1).toNat:Int)), .slice none 0 0, .slice none 0 0, U64 (vQ F 17 8)] ++ cu8 (bQ F 25 16)).toArray) (AK rfl (BH A9 AT (by simp [(B5 _ _ _)]) (AS 4 rfl (AL _)))) rfl ?_)))
   refine AA (.agg ([U64 pv, U64 ep, I64 k, .slice ao1 0 ca1, .slice ao2 0 ca2, U64 bl] ++ cu8 (tkG key pv ep k ([] : List UInt64) ([] : List SealR) bl)).toArray) (AK rfl (BH A9 AT (by simp [(CL _ _ _ _ _ _ _)]) (AS 2 rfl (AL _)))) rfl ?_
   refine A7 (A3 49 [.agg ([U64 (vQ F 0 8), U64 (vQ F 8 8), I64 (((vQ F 16 1).toNat:Int)), .slice none 0 0, .slice none 0 0, U64 (vQ F 17 8)] ++ cu8 (bQ F 25 16)).toArray, .agg ([U64 pv, U64 ep, I64 k, .slice ao1 0 ca1, .slice ao2 0 ca2, U64 bl] ++ cu8 (tkG key pv ep k ([] : List UInt64) ([] : List SealR) bl)).toArray] (.bool (decide ((vQ F 0 8) = pv ∧ (vQ F 8 8) = ep ∧ (bQ F 25 16) = (tkG key pv ep k ([] : List UInt64) ([] : List SealR) bl) ∧ (((vQ F 16 1).toNat:Int)) = ((k:Int)) ∧ (vQ F 17 8) = bl ∧ ([] : List UInt64) = ([] : List UInt64) ∧ ([] : List SealR) = ([] : List SealR)))) (AY _ Tryd.call49 rfl) (fun w1 hw1 => GC (vQ F 0 8) (vQ F 8 8) (((vQ F 16 1).toNat:Int)) none 0 0 ([] : List UInt64) none 0 0 ([] : List SealR) (vQ F 17 8) (bQ F 25 16) pv ep ((k:Int)) ao1 0 ca1 ([] : List UInt64) ao2 0 ca2 ([] : List SealR) bl (tkG key pv ep k ([] : List UInt64) ([] : List SealR) bl) w1 rfl (by omega) (by omega) (by omega) RdV.nil rfl (by omega) (by omega) (by omega) RdV.nil (B5 _ _ _) rfl (by omega) (by omega) (by omega) RdV.nil rfl (by omega) (by omega) (by omega) RdV.nil (CL _ _ _ _ _ _ _))) rfl ?_
   show JL _ _ _ _ ((110, .bool (decide ((vQ F 0 8) = pv ∧ (vQ F 8 8) = ep ∧ (bQ F 25 16) = (tkG key pv ep k ([] : List UInt64) ([] : List SealR) bl) ∧ (((vQ F 16 1).toNat:Int)) = ((k:Int)) ∧ (vQ F 17 8) = bl ∧ ([] : List UInt64) = ([] : List UInt64) ∧ ([] : List SealR) = ([] : List SealR)))) :: _) [_, _, _, _, _]
   refine AA (.bool (!(decide ((vQ F 0 8) = pv ∧ (vQ F 8 8) = ep ∧ (bQ F 25 16) = (tkG key pv ep k ([] : List UInt64) ([] : List SealR) bl) ∧ (((vQ F 16 1).toNat:Int)) = ((k:Int)) ∧ (vQ F 17 8) = bl ∧ ([] : List UInt64) = ([] : List UInt64) ∧ ([] : List SealR) = ([] : List SealR))))) (FH rfl) rfl ?_
   refine AA _ (AH rfl) rfl ?_
   refine A0 4 112 true _ (.agg (cu8 key).toArray) rfl rfl (bnotF (decide_eq_false (EJ hP.symm hpu.symm hFne))) (AK rfl (BH DE B1 (CM hk32) (AS 0 rfl (AL _)))) rfl ?_
   refine A0 4 112 true _ (.agg ([U64 (vQ F 0 8), U64 (vQ F 8 8), I64 (((vQ F 16 1).toNat:Int)), .slice none 0 0, .slice none 0 0, U64 (vQ F 17 8)] ++ cu8 (bQ F 25 16)).toArray) rfl rfl (bnotF (decide_eq_false (EJ hP.symm hpu.symm hFne))) (AK rfl (BH A9 AT (by simp [(B5 _ _ _)]) (AS 4 rfl (AL _)))) rfl ?_
   refine EK 4 112 true _ rfl rfl (bnotF (decide_eq_false (EJ hP.symm hpu.symm hFne))) (A3 48 [.agg (cu8 key).toArray, .agg ([U64 (vQ F 0 8), U64 (vQ F 8 8), I64 (((vQ F 16 1).toNat:Int)), .slice none 0 0, .slice none 0 0, U64 (vQ F 17 8)] ++ cu8 (bQ F 25 16)).toArray] (errV 50 (chkG key (vQ F 0 8) (vQ F 8 8) ((vQ F 16 1).toNat) ([] : List UInt64) ([] : List SealR) (vQ F 17 8) (bQ F 25 16))) (AY _ Tryd.call48 rfl) (fun w1 hw1 => chk_w key (vQ F 0 8) (vQ F 8 8) ((vQ F 16 1).toNat) none 0 0 ([] : List UInt64) none 0 0 ([] : List SealR) (vQ F 17 8) (bQ F 25 16) tot w1 hk32 rfl (by omega) (by omega) (by omega) RdV.nil rfl (by omega) (by omega) (by omega) RdV.nil (B5 _ _ _) hW.1.2.2 (.inr (.inr (by rw [hW.1.1]; rfl))) (by omega) (by unfold tktN; rw [if_pos (by rw [hW.1.1]; rfl)]; first | omega | (simp; omega)) (by omega) (hG.at hw1))) rfl ?_
   rintro v1 L1 ⟨rfl, rfl⟩
   show JL _ _ _ _ ((115, errV 50 (chkG key (vQ F 0 8) (vQ F 8 8) ((vQ F 16 1).toNat) ([] : List UInt64) ([] : List SealR) (vQ F 17 8) (bQ F 25 16))) :: _) [_, _, _, _, _]
   refine A0 4 112 true _ (.bool (decide (chkG key (vQ F 0 8) (vQ F 8 8) ((vQ F 16 1).toNat) ([] : List UInt64) ([] : List SealR) (vQ F 17 8) (bQ F 25 16) = 0))) rfl rfl (bnotF (decide_eq_false (EJ hP.symm hpu.symm hFne))) (C2 _ _ _ rfl rfl (fun _ => CJ ..) fun _ => eql_errV A6 _ _) rfl ?_
   refine A0 4 112 true _ _ rfl rfl (bnotF (decide_eq_false (EJ hP.symm hpu.symm hFne))) (AH rfl) rfl ?_
   refine A0 4 112 true _ (.bool ((decide (chkG key (vQ F 0 8) (vQ F 8 8) ((vQ F 16 1).toNat) ([] : List UInt64) ([] : List SealR) (vQ F 17 8) (bQ F 25 16) = 0)) == false)) rfl rfl (bnotF (decide_eq_false (EJ hP.symm hpu.symm hFne))) (C2 _ _ _ rfl rfl (fun _ => F9 ..) fun _ => eql_bool Tryd.underlying4) rfl ?_
   refine AA _ (CN _ rfl (bnotF (decide_eq_false (EJ hP.symm hpu.symm hFne))) rfl) rfl ?_
   refine AA _ (AG rfl) rfl ?_
   refine AN (AE (BP (CH [false, false, false, false, false] ?_)))
   show JQ _ _ _ _ []
   refine BQ (.bool ((decide (chkG key (vQ F 0 8) (vQ F 8 8) ((vQ F 16 1).toNat) ([] : List UInt64) ([] : List SealR) (vQ F 17 8) (bQ F 25 16) = 0)) == false)) (res1 EV (B2 rfl)) fun w1 hw1 => ?_
   exact ⟨_, [], rfl, ⟨congrArg Value.bool (beqF (decide_eq_false (chk_flip hP.symm hpu.symm ((EX rfl rfl).trans htot) (by rw [← hF]; exact flip_take hqP (by omega)) hFne (by rw [EX rfl rfl]; (unfold tktN; rw [if_pos (by rw [hW.1.1]; rfl)]; first | omega | (simp; omega)))))), rfl⟩, hw1.sub (by simp) (by simp)⟩
 ·
  have hnW : ¬ WholeT F := by
   rw [← hF] at hW ⊢
   subst hk
   exact noWhole3 (by omega) hW
  refine AD (AA _ (AH rfl) rfl ?_)
  have hz3 : (F).length = (tot + 16) := hFl
  refine A7 (A3 65 [Slc nb4 0 (tot + 16) cp1] (.tuple #[.agg ([U64 0, U64 0, I64 0, .slice none 0 0, .slice none 0 0, U64 0] ++ cu8 (zr8 16)).toArray, .iface 50 (I64 2)]) (AY _ Tryd.call65 rfl) (fun w1 hw1 => parseX_w (some ⟨nb4, 0, none⟩) (tot + 16) cp1 F w1 rfl hFl (by omega) (by omega) (by omega) (RdB.of hw1 (AS 3 rfl (A4 (AL _))) (by simp)) hnW)) rfl ?_
  show JL _ _ _ _ ((88, .tuple #[.agg ([U64 0, U64 0, I64 0, .slice none 0 0, .slice none 0 0, U64 0] ++ cu8 (zr8 16)).toArray, .iface 50 (I64 2)]) :: _) [_, _, _, _, _]
  refine AA _ (AH rfl) rfl ?_
  refine AA _ (B4 rfl rfl) rfl ?_
  refine AA _ (B4 rfl rfl) rfl ?_
  refine A7 (A5 4 nb5 22 ([U64 pv, U64 ep, I64 k, .slice none 0 0, .slice none 0 0, U64 bl] ++ cu8 (tkG key pv ep k ([] : List UInt64) ([] : List SealR) bl)) 29 ([U64 0, U64 0, I64 0, .slice none 0 0, .slice none 0 0, U64 0] ++ cu8 (zr8 16)) rfl rfl rfl AT (by simp [(AP 16)]) (CO (by simp [Value.oneCell']) CD) (by simp [(CL _ _ _ _ _ _ _)]) (BC (by simp [(CL _ _ _ _ _ _ _), (AP 16)]))) rfl ?_
  show JL _ _ _ _ _ [_, _, _, _, ⟨nb5, [U64 0, U64 0, I64 0, .slice none 0 0, .slice none 0 0, U64 0] ++ cu8 (zr8 16), 29, (0, 0)⟩]
  refine AA _ (AG rfl) rfl ?_
  refine AN (AE (AI (AI (AD (AA _ (AH rfl) rfl ?_)))))
  refine AA (.bool true) (C2 _ _ _ rfl rfl (fun _ => eqGuard_if ..) fun _ => neq_if_nil A6) rfl ?_
  refine AN (AE (DJ _ rfl rfl ?_))
  refine AI (AD (AA _ (AG rfl) rfl ?_))
  refine AN (AE (BP (BN (CH [false, false, false, false, false] ?_))))
  show JQ _ _ _ _ []
  refine BQ (.bool true) (res1 EV (B2 rfl)) fun w1 hw1 => ?_
  exact ⟨_, [], rfl, ⟨congrArg Value.bool rfl, rfl⟩, hw1.sub (by simp) (by simp)⟩
theorem tbL_c (key : List UInt8) (pv ep : UInt64) (kd : Int) (ai : Option Addr) (ni ci : Nat) (l : List UInt64) (sa : Option Addr) (ns sc : Nat) (ls : List SealR) (bl : UInt64) (tg : List UInt8) (bit : Int)  (w : World) (hk32 : key.length = 32) (htg : tg.length = 16) (hlg : LargeP ni ns) (hG : GLs w) (hGr : GLr w) (hGi : GLi w)  : Calls Tryd.prog 12 #[.agg (cu8 key).toArray, .agg ([U64 pv, U64 ep, I64 (kd), .slice ai ni ci, .slice sa ns sc, U64 bl] ++ cu8 tg).toArray, I64 (bit)] w (Post w [] (fun v L => v = .bool true ∧ L = [])) := by
 have hmx : maxLen = 9223372036854775807 := rfl
 refine enter (P := Tryd.prog) (f := 12) (fn := Tryd.f12) w [] 120 [] [.agg (cu8 key).toArray, .agg ([U64 pv, U64 ep, I64 (kd), .slice ai ni ci, .slice sa ns sc, U64 bl] ++ cu8 tg).toArray, I64 (bit)] Tryd.func12 rfl rfl (by simp) (BZ (by simp) (by simp) (by simp)) ?_
 show JC _ _ _ [(0, .agg (cu8 key).toArray), (1, .agg ([U64 pv, U64 ep, I64 (kd), .slice ai ni ci, .slice sa ns sc, U64 bl] ++ cu8 tg).toArray), (2, I64 (bit))] _
 refine AI (AD (A1 (CW (.agg (cu8 key).toArray) (cu8 key) rfl (by first | rfl | simp)) rfl ?_))
 rintro v1 L1 ⟨nb1, hnb1, rfl, rfl⟩
 show JL _ _ _ _ ((3, Ptr nb1 0) :: _) [⟨nb1, cu8 key, 54, (0, 0)⟩]
 refine A1 (CW (.agg ([U64 pv, U64 ep, I64 (kd), .slice ai ni ci, .slice sa ns sc, U64 bl] ++ cu8 tg).toArray) ([U64 pv, U64 ep, I64 (kd), .slice ai ni ci, .slice sa ns sc, U64 bl] ++ cu8 tg) rfl (by first | rfl | simp)) rfl ?_
 rintro v1 L1 ⟨nb2, hnb2, rfl, rfl⟩
 show JL _ _ _ _ ((4, Ptr nb2 0) :: _) [_, ⟨nb2, [U64 pv, U64 ep, I64 (kd), .slice ai ni ci, .slice sa ns sc, U64 bl] ++ cu8 tg, 29, (0, 0)⟩]
 refine AA _ (AG rfl) rfl ?_
 refine AN (AE (AI (AI (AD (A1 (A3 43 [] (.bool true) (AY _ Tryd.call43 rfl) (fun w1 hw1 => alive13_c  w1 (hG.at hw1))) rfl ?_)))))
 rintro v1 L1 ⟨rfl, rfl⟩
 show JL _ _ _ _ ((14, .bool true) :: _) [_, _]
 refine AA (.bool (!true)) (FH rfl) rfl ?_
 refine AN (AE (CK _ rfl rfl ?_))
 refine BT (AE (AI (AI (AD (AA (Ptr nb2 2) (AB 2 26 4 AO rfl A8 rfl rfl) rfl ?_)))))
 refine AA (.agg #[I64 (kd), .slice ai ni ci, .slice sa ns sc, U64 bl]) (AK rfl (BH DG A8 rfl (AS 1 rfl (EI (p := [U64 pv, U64 ep]) (q := cu8 tg) (vs := [I64 (kd), .slice ai ni ci, .slice sa ns sc, U64 bl]) (by first | rfl | (simp only [List.append_assoc, List.nil_append, List.append_nil, List.cons_append]; done)) rfl)))) rfl ?_
 refine A7 (A3 18 [.agg #[I64 (kd), .slice ai ni ci, .slice sa ns sc, U64 bl]] (.bool (decide (LargeP ni ns))) (AY _ Tryd.call18 rfl) (fun w1 hw1 => large_c (kd) ai ni ci l sa ns sc ls bl w1 )) rfl ?_
 show JL _ _ _ _ ((18, .bool (decide (LargeP ni ns))) :: _) [_, _]
 refine AN (AE (DJ _ rfl (decide_eq_true hlg) ?_))
 refine AI (AD (AA _ (AG rfl) rfl ?_))
 refine AN (AE (BP (BN (CH [false, false] ?_))))
 show JQ _ _ _ _ []
 refine BQ (.bool true) (res1 EV (B2 rfl)) fun w1 hw1 => ?_
 exact ⟨_, [], rfl, ⟨congrArg Value.bool rfl, rfl⟩, hw1.sub (by simp) (by simp)⟩
theorem tbBP_c (key : List UInt8) (pv ep : UInt64) (kd : Int) (ai : Option Addr) (ni ci : Nat) (l : List UInt64) (sa : Option Addr) (ns sc : Nat) (ls : List SealR) (bl : UInt64) (tg : List UInt8) (bit : Int)  (w : World) (hk32 : key.length = 32) (hl : l.length = ni) (hnm : ni ≤ 2000000) (hnc : ni ≤ ci) (hcm : ci ≤ maxLen) (hv : RdV w ai (cu64 l)) (hls : ls.length = ns) (hnn : ns ≤ 2000000) (hnd : ns ≤ sc) (hcn : sc ≤ maxLen) (hs : RdV w sa (ls.flatMap sealC)) (hnI : ai = none → ci = 0) (hnS : sa = none → sc = 0) (htg : tg.length = 16) (hp0 : 0 < ns) (hG : GLs w) (hGr : GLr w) (hGi : GLi w) (hm : mayN pv ep kd l ls bl ≠ 0) (hlg : ¬ LargeP ni ns)  : Calls Tryd.prog 12 #[.agg (cu8 key).toArray, .agg ([U64 pv, U64 ep, I64 (kd), .slice ai ni ci, .slice sa ns sc, U64 bl] ++ cu8 tg).toArray, I64 (bit)] w (Post w [] (fun v L => v = .bool true ∧ L = [])) := by
 have hmx : maxLen = 9223372036854775807 := rfl
 refine enter (P := Tryd.prog) (f := 12) (fn := Tryd.f12) w [] 120 [] [.agg (cu8 key).toArray, .agg ([U64 pv, U64 ep, I64 (kd), .slice ai ni ci, .slice sa ns sc, U64 bl] ++ cu8 tg).toArray, I64 (bit)] Tryd.func12 rfl rfl (by simp) (BZ (by simp) (by simp) (by simp)) ?_
 show JC _ _ _ [(0, .agg (cu8 key).toArray), (1, .agg ([U64 pv, U64 ep, I64 (kd), .slice ai ni ci, .slice sa ns sc, U64 bl] ++ cu8 tg).toArray), (2, I64 (bit))] _
 refine AI (AD (A1 (CW (.agg (cu8 key).toArray) (cu8 key) rfl (by first | rfl | simp)) rfl ?_))
 rintro v1 L1 ⟨nb1, hnb1, rfl, rfl⟩
 show JL _ _ _ _ ((3, Ptr nb1 0) :: _) [⟨nb1, cu8 key, 54, (0, 0)⟩]
 refine A1 (CW (.agg ([U64 pv, U64 ep, I64 (kd), .slice ai ni ci, .slice sa ns sc, U64 bl] ++ cu8 tg).toArray) ([U64 pv, U64 ep, I64 (kd), .slice ai ni ci, .slice sa ns sc, U64 bl] ++ cu8 tg) rfl (by first | rfl | simp)) rfl ?_
 rintro v1 L1 ⟨nb2, hnb2, rfl, rfl⟩
 show JL _ _ _ _ ((4, Ptr nb2 0) :: _) [_, ⟨nb2, [U64 pv, U64 ep, I64 (kd), .slice ai ni ci, .slice sa ns sc, U64 bl] ++ cu8 tg, 29, (0, 0)⟩]
 refine AA _ (AG rfl) rfl ?_
 refine AN (AE (AI (AI (AD (A1 (A3 43 [] (.bool true) (AY _ Tryd.call43 rfl) (fun w1 hw1 => alive13_c  w1 (hG.at hw1))) rfl ?_)))))
 rintro v1 L1 ⟨rfl, rfl⟩
 show JL _ _ _ _ ((14, .bool true) :: _) [_, _]
 refine AA (.bool (!true)) (FH rfl) rfl ?_
 refine AN (AE (CK _ rfl rfl ?_))
 refine BT (AE (AI (AI (AD (AA (Ptr nb2 2) (AB 2 26 4 AO rfl A8 rfl rfl) rfl ?_)))))
 refine AA (.agg #[I64 (kd), .slice ai ni ci, .slice sa ns sc, U64 bl]) (AK rfl (BH DG A8 rfl (AS 1 rfl (EI (p := [U64 pv, U64 ep]) (q := cu8 tg) (vs := [I64 (kd), .slice ai ni ci, .slice sa ns sc, U64 bl]) (by first | rfl | (simp only [List.append_assoc, List.nil_append, List.append_nil, List.cons_append]; done)) rfl)))) rfl ?_
 refine A7 (A3 18 [.agg #[I64 (kd), .slice ai ni ci, .slice sa ns sc, U64 bl]] (.bool (decide (LargeP ni ns))) (AY _ Tryd.call18 rfl) (fun w1 hw1 => large_c (kd) ai ni ci l sa ns sc ls bl w1 )) rfl ?_
 show JL _ _ _ _ ((18, .bool (decide (LargeP ni ns))) :: _) [_, _]
 refine AN (AE (CK _ rfl (decide_eq_false hlg) ?_))
 refine BT (AE (AI (AD (AA (.agg (cu8 key).toArray) (AK rfl (BH DE B1 (CM hk32) (AS 0 rfl (AL _)))) rfl ?_))))
 refine AA (Ptr nb2 0) (AB 0 22 1 AO rfl AU rfl rfl) rfl ?_
 refine AA (U64 pv) (AK rfl (AV AX (AS 1 rfl (A4 (Seg.head))))) rfl ?_
 refine AA (Ptr nb2 1) (AB 1 22 1 AO rfl AU rfl rfl) rfl ?_
 refine AA (U64 ep) (AK rfl (AV AX (AS 1 rfl (A4 (AJ (Seg.head)))))) rfl ?_
 refine AA (Ptr nb2 2) (AB 2 26 4 AO rfl A8 rfl rfl) rfl ?_
 refine AA (.agg #[I64 (kd), .slice ai ni ci, .slice sa ns sc, U64 bl]) (AK rfl (BH DG A8 rfl (AS 1 rfl (EI (p := [U64 pv, U64 ep]) (q := cu8 tg) (vs := [I64 (kd), .slice ai ni ci, .slice sa ns sc, U64 bl]) (by first | rfl | (simp only [List.append_assoc, List.nil_append, List.append_nil, List.cons_append]; done)) rfl)))) rfl ?_
 refine A7 (A3 46 [.agg (cu8 key).toArray, U64 pv, U64 ep, .agg #[I64 (kd), .slice ai ni ci, .slice sa ns sc, U64 bl]] (.tuple #[.agg ([U64 0, U64 0, I64 0, .slice none 0 0, .slice none 0 0, U64 0] ++ cu8 (zr8 16)).toArray, errV 50 (mayN pv ep (kd) l ls bl)]) (AY _ Tryd.call46 rfl) (fun w1 hw1 => signB_w key pv ep (kd) ai ni ci l sa ns sc ls bl w1 hk32 hl (by omega) (by omega) (by omega) (EG hw1 rfl hv) hls (by omega) (by omega) (by omega) (EG hw1 rfl hs) hnI hnS hm)) rfl ?_
 show JL _ _ _ _ ((27, .tuple #[.agg ([U64 0, U64 0, I64 0, .slice none 0 0, .slice none 0 0, U64 0] ++ cu8 (zr8 16)).toArray, errV 50 (mayN pv ep (kd) l ls bl)]) :: _) [_, _]
 refine AA _ (AH rfl) rfl ?_
 refine AA _ (B4 rfl rfl) rfl ?_
 refine AA _ (B4 rfl rfl) rfl ?_
 refine A1 (BG _ ([U64 0, U64 0, I64 0, .slice none 0 0, .slice none 0 0, U64 0] ++ cu8 (zr8 16)) BK (by kernel_rfl)) rfl ?_
 rintro v1 L1 ⟨nb3, hnb3, rfl, rfl⟩
 show JL _ _ _ _ ((7, Ptr nb3 0) :: _) [_, _, ⟨nb3, [U64 0, U64 0, I64 0, .slice none 0 0, .slice none 0 0, U64 0] ++ cu8 (zr8 16), 29, (0, 0)⟩]
 refine A7 (A5 2 nb3 22 ([U64 0, U64 0, I64 0, .slice none 0 0, .slice none 0 0, U64 0] ++ cu8 (zr8 16)) 29 ([U64 0, U64 0, I64 0, .slice none 0 0, .slice none 0 0, U64 0] ++ cu8 (zr8 16)) rfl rfl rfl AT (by simp [(AP 16)]) (CO (by simp [Value.oneCell']) CD) (by simp [(AP 16)]) (BC (by simp [(AP 16), (AP 16)]))) rfl ?_
 show JL _ _ _ _ _ [_, _, ⟨nb3, [U64 0, U64 0, I64 0, .slice none 0 0, .slice none 0 0, U64 0] ++ cu8 (zr8 16), 29, (0, 0)⟩]
 refine AA _ (AG rfl) rfl ?_
 refine AN (AE (AI (AI (AD (AA _ (AH rfl) rfl ?_)))))
 refine AA (.bool (!(decide (mayN pv ep (kd) l ls bl = 0)))) (C2 _ _ _ rfl rfl (fun _ => CJ ..) fun _ => EF A6 _ _) rfl ?_
 refine AN (AE (DJ _ rfl (bnotF (decide_eq_false hm)) ?_))
 refine AI (AD (AA (.agg ([U64 0, U64 0, I64 0, .slice none 0 0, .slice none 0 0, U64 0] ++ cu8 (zr8 16)).toArray) (AK rfl (BH A9 AT (by simp [(AP 16)]) (AS 2 rfl (AL _)))) rfl ?_))
 refine AA (.agg ([U64 0, U64 0, I64 0, .slice none 0 0, .slice none 0 0, U64 0] ++ cu8 (zr8 16)).toArray) (B8 [] _ rfl (fun _ => by kernel_rfl)) rfl ?_
 refine A7 (A3 49 [.agg ([U64 0, U64 0, I64 0, .slice none 0 0, .slice none 0 0, U64 0] ++ cu8 (zr8 16)).toArray, .agg ([U64 0, U64 0, I64 0, .slice none 0 0, .slice none 0 0, U64 0] ++ cu8 (zr8 16)).toArray] (.bool (decide ((0:UInt64) = (0:UInt64) ∧ (0:UInt64) = (0:UInt64) ∧ (zr8 16) = (zr8 16) ∧ (0:Int) = (0:Int) ∧ (0:UInt64) = (0:UInt64) ∧ ([] : List UInt64) = ([] : List UInt64) ∧ ([] : List SealR) = ([] : List SealR)))) (AY _ Tryd.call49 rfl) (fun w1 hw1 => GC (0:UInt64) (0:UInt64) (0:Int) none 0 0 ([] : List UInt64) none 0 0 ([] : List SealR) (0:UInt64) (zr8 16) (0:UInt64) (0:UInt64) (0:Int) none 0 0 ([] : List UInt64) none 0 0 ([] : List SealR) (0:UInt64) (zr8 16) w1 rfl (by omega) (by omega) (by omega) RdV.nil rfl (by omega) (by omega) (by omega) RdV.nil (AP 16) rfl (by omega) (by omega) (by omega) RdV.nil rfl (by omega) (by omega) (by omega) RdV.nil (AP 16))) rfl ?_
 show JL _ _ _ _ ((34, .bool (decide ((0:UInt64) = (0:UInt64) ∧ (0:UInt64) = (0:UInt64) ∧ (zr8 16) = (zr8 16) ∧ (0:Int) = (0:Int) ∧ (0:UInt64) = (0:UInt64) ∧ ([] : List UInt64) = ([] : List UInt64) ∧ ([] : List SealR) = ([] : List SealR)))) :: _) [_, _, _]
 refine AA _ (AG rfl) rfl ?_
 refine AN (AE (BP (BN (CH [false, false, false] ?_))))
 show JQ _ _ _ _ []
 refine BQ (.bool (decide ((0:UInt64) = (0:UInt64) ∧ (0:UInt64) = (0:UInt64) ∧ (zr8 16) = (zr8 16) ∧ (0:Int) = (0:Int) ∧ (0:UInt64) = (0:UInt64) ∧ ([] : List UInt64) = ([] : List UInt64) ∧ ([] : List SealR) = ([] : List SealR)))) (res1 EV (B2 rfl)) fun w1 hw1 => ?_
 exact ⟨_, [], rfl, ⟨congrArg Value.bool (decide_eq_true ⟨rfl, rfl, rfl, rfl, rfl, rfl, rfl⟩), rfl⟩, hw1.sub (by simp) (by simp)⟩
theorem tbBZ_c (key : List UInt8) (pv ep : UInt64) (kd : Int) (ai : Option Addr) (ni ci : Nat) (l : List UInt64) (sa : Option Addr) (sc : Nat) (bl : UInt64) (tg : List UInt8) (bit : Int)  (w : World) (hk32 : key.length = 32) (hl : l.length = ni) (hnm : ni ≤ 2000000) (hnc : ni ≤ ci) (hcm : ci ≤ maxLen) (hv : RdV w ai (cu64 l)) (hcs : sc ≤ maxLen) (hnS : sa = none → sc = 0) (hnI : ai = none → ci = 0) (htg : tg.length = 16) (hG : GLs w) (hGr : GLr w) (hGi : GLi w) (hm : mayN pv ep kd l ([] : List SealR) bl ≠ 0) (hlg : ¬ LargeP ni 0)  : Calls Tryd.prog 12 #[.agg (cu8 key).toArray, .agg ([U64 pv, U64 ep, I64 (kd), .slice ai ni ci, .slice sa 0 sc, U64 bl] ++ cu8 tg).toArray, I64 (bit)] w (Post w [] (fun v L => v = .bool true ∧ L = [])) := by
 have hmx : maxLen = 9223372036854775807 := rfl
 refine enter (P := Tryd.prog) (f := 12) (fn := Tryd.f12) w [] 120 [] [.agg (cu8 key).toArray, .agg ([U64 pv, U64 ep, I64 (kd), .slice ai ni ci, .slice sa 0 sc, U64 bl] ++ cu8 tg).toArray, I64 (bit)] Tryd.func12 rfl rfl (by simp) (BZ (by simp) (by simp) (by simp)) ?_
 show JC _ _ _ [(0, .agg (cu8 key).toArray), (1, .agg ([U64 pv, U64 ep, I64 (kd), .slice ai ni ci, .slice sa 0 sc, U64 bl] ++ cu8 tg).toArray), (2, I64 (bit))] _
 refine AI (AD (A1 (CW (.agg (cu8 key).toArray) (cu8 key) rfl (by first | rfl | simp)) rfl ?_))
 rintro v1 L1 ⟨nb1, hnb1, rfl, rfl⟩
 show JL _ _ _ _ ((3, Ptr nb1 0) :: _) [⟨nb1, cu8 key, 54, (0, 0)⟩]
 refine A1 (CW (.agg ([U64 pv, U64 ep, I64 (kd), .slice ai ni ci, .slice sa 0 sc, U64 bl] ++ cu8 tg).toArray) ([U64 pv, U64 ep, I64 (kd), .slice ai ni ci, .slice sa 0 sc, U64 bl] ++ cu8 tg) rfl (by first | rfl | simp)) rfl ?_
 rintro v1 L1 ⟨nb2, hnb2, rfl, rfl⟩
 show JL _ _ _ _ ((4, Ptr nb2 0) :: _) [_, ⟨nb2, [U64 pv, U64 ep, I64 (kd), .slice ai ni ci, .slice sa 0 sc, U64 bl] ++ cu8 tg, 29, (0, 0)⟩]
 refine AA _ (AG rfl) rfl ?_
 refine AN (AE (AI (AI (AD (A1 (A3 43 [] (.bool true) (AY _ Tryd.call43 rfl) (fun w1 hw1 => alive13_c  w1 (hG.at hw1))) rfl ?_)))))
 rintro v1 L1 ⟨rfl, rfl⟩
 show JL _ _ _ _ ((14, .bool true) :: _) [_, _]
 refine AA (.bool (!true)) (FH rfl) rfl ?_
 refine AN (AE (CK _ rfl rfl ?_))
 refine BT (AE (AI (AI (AD (AA (Ptr nb2 2) (AB 2 26 4 AO rfl A8 rfl rfl) rfl ?_)))))
 refine AA (.agg #[I64 (kd), .slice ai ni ci, .slice sa 0 sc, U64 bl]) (AK rfl (BH DG A8 rfl (AS 1 rfl (EI (p := [U64 pv, U64 ep]) (q := cu8 tg) (vs := [I64 (kd), .slice ai ni ci, .slice sa 0 sc, U64 bl]) (by first | rfl | (simp only [List.append_assoc, List.nil_append, List.append_nil, List.cons_append]; done)) rfl)))) rfl ?_
 refine A7 (A3 18 [.agg #[I64 (kd), .slice ai ni ci, .slice sa 0 sc, U64 bl]] (.bool (decide (LargeP ni 0))) (AY _ Tryd.call18 rfl) (fun w1 hw1 => large_c (kd) ai ni ci l sa 0 sc ([] : List SealR) bl w1 )) rfl ?_
 show JL _ _ _ _ ((18, .bool (decide (LargeP ni 0))) :: _) [_, _]
 refine AN (AE (CK _ rfl (decide_eq_false hlg) ?_))
 refine BT (AE (AI (AD (AA (.agg (cu8 key).toArray) (AK rfl (BH DE B1 (CM hk32) (AS 0 rfl (AL _)))) rfl ?_))))
 refine AA (Ptr nb2 0) (AB 0 22 1 AO rfl AU rfl rfl) rfl ?_
 refine AA (U64 pv) (AK rfl (AV AX (AS 1 rfl (A4 (Seg.head))))) rfl ?_
 refine AA (Ptr nb2 1) (AB 1 22 1 AO rfl AU rfl rfl) rfl ?_
 refine AA (U64 ep) (AK rfl (AV AX (AS 1 rfl (A4 (AJ (Seg.head)))))) rfl ?_
 refine AA (Ptr nb2 2) (AB 2 26 4 AO rfl A8 rfl rfl) rfl ?_
 refine AA (.agg #[I64 (kd), .slice ai ni ci, .slice sa 0 sc, U64 bl]) (AK rfl (BH DG A8 rfl (AS 1 rfl (EI (p := [U64 pv, U64 ep]) (q := cu8 tg) (vs := [I64 (kd), .slice ai ni ci, .slice sa 0 sc, U64 bl]) (by first | rfl | (simp only [List.append_assoc, List.nil_append, List.append_nil, List.cons_append]; done)) rfl)))) rfl ?_
 refine A7 (A3 46 [.agg (cu8 key).toArray, U64 pv, U64 ep, .agg #[I64 (kd), .slice ai ni ci, .slice sa 0 sc, U64 bl]] (.tuple #[.agg ([U64 0, U64 0, I64 0, .slice none 0 0, .slice none 0 0, U64 0] ++ cu8 (zr8 16)).toArray, errV 50 (mayN pv ep (kd) l ([] : List SealR) bl)]) (AY _ Tryd.call46 rfl) (fun w1 hw1 => signB_w key pv ep (kd) ai ni ci l sa 0 sc ([] : List SealR) bl w1 hk32 hl (by omega) (by omega) (by omega) (EG hw1 rfl hv) rfl (by omega) (by omega) (by omega) RdV.nil hnI hnS hm)) rfl ?_
 show JL _ _ _ _ ((27, .tuple #[.agg ([U64 0, U64 0, I64 0, .slice none 0 0, .slice none 0 0, U64 0] ++ cu8 (zr8 16)).toArray, errV 50 (mayN pv ep (kd) l ([] : List SealR) bl)]) :: _) [_, _]
 refine AA _ (AH rfl) rfl ?_
 refine AA _ (B4 rfl rfl) rfl ?_
 refine AA _ (B4 rfl rfl) rfl ?_
 refine A1 (BG _ ([U64 0, U64 0, I64 0, .slice none 0 0, .slice none 0 0, U64 0] ++ cu8 (zr8 16)) BK (by kernel_rfl)) rfl ?_
 rintro v1 L1 ⟨nb3, hnb3, rfl, rfl⟩
 show JL _ _ _ _ ((7, Ptr nb3 0) :: _) [_, _, ⟨nb3, [U64 0, U64 0, I64 0, .slice none 0 0, .slice none 0 0, U64 0] ++ cu8 (zr8 16), 29, (0, 0)⟩]
 refine A7 (A5 2 nb3 22 ([U64 0, U64 0, I64 0, .slice none 0 0, .slice none 0 0, U64 0] ++ cu8 (zr8 16)) 29 ([U64 0, U64 0, I64 0, .slice none 0 0, .slice none 0 0, U64 0] ++ cu8 (zr8 16)) rfl rfl rfl AT (by simp [(AP 16)]) (CO (by simp [Value.oneCell']) CD) (by simp [(AP 16)]) (BC (by simp [(AP 16), (AP 16)]))) rfl ?_
 show JL _ _ _ _ _ [_, _, ⟨nb3, [U64 0, U64 0, I64 0, .slice none 0 0, .slice none 0 0, U64 0] ++ cu8 (zr8 16), 29, (0, 0)⟩]
 refine AA _ (AG rfl) rfl ?_
 refine AN (AE (AI (AI (AD (AA _ (AH rfl) rfl ?_)))))
 refine AA (.bool (!(decide (mayN pv ep (kd) l ([] : List SealR) bl = 0)))) (C2 _ _ _ rfl rfl (fun _ => CJ ..) fun _ => EF A6 _ _) rfl ?_
 refine AN (AE (DJ _ rfl (bnotF (decide_eq_false hm)) ?_))
 refine AI (AD (AA (.agg ([U64 0, U64 0, I64 0, .slice none 0 0, .slice none 0 0, U64 0] ++ cu8 (zr8 16)).toArray) (AK rfl (BH A9 AT (by simp [(AP 16)]) (AS 2 rfl (AL _)))) rfl ?_))
 refine AA (.agg ([U64 0, U64 0, I64 0, .slice none 0 0, .slice none 0 0, U64 0] ++ cu8 (zr8 16)).toArray) (B8 [] _ rfl (fun _ => by kernel_rfl)) rfl ?_
 refine A7 (A3 49 [.agg ([U64 0, U64 0, I64 0, .slice none 0 0, .slice none 0 0, U64 0] ++ cu8 (zr8 16)).toArray, .agg ([U64 0, U64 0, I64 0, .slice none 0 0, .slice none 0 0, U64 0] ++ cu8 (zr8 16)).toArray] (.bool (decide ((0:UInt64) = (0:UInt64) ∧ (0:UInt64) = (0:UInt64) ∧ (zr8 16) = (zr8 16) ∧ (0:Int) = (0:Int) ∧ (0:UInt64) = (0:UInt64) ∧ ([] : List UInt64) = ([] : List UInt64) ∧ ([] : List SealR) = ([] : List SealR)))) (AY _ Tryd.call49 rfl) (fun w1 hw1 => GC (0:UInt64) (0:UInt64) (0:Int) none 0 0 ([] : List UInt64) none 0 0 ([] : List SealR) (0:UInt64) (zr8 16) (0:UInt64) (0:UInt64) (0:Int) none 0 0 ([] : List UInt64) none 0 0 ([] : List SealR) (0:UInt64) (zr8 16) w1 rfl (by omega) (by omega) (by omega) RdV.nil rfl (by omega) (by omega) (by omega) RdV.nil (AP 16) rfl (by omega) (by omega) (by omega) RdV.nil rfl (by omega) (by omega) (by omega) RdV.nil (AP 16))) rfl ?_
 show JL _ _ _ _ ((34, .bool (decide ((0:UInt64) = (0:UInt64) ∧ (0:UInt64) = (0:UInt64) ∧ (zr8 16) = (zr8 16) ∧ (0:Int) = (0:Int) ∧ (0:UInt64) = (0:UInt64) ∧ ([] : List UInt64) = ([] : List UInt64) ∧ ([] : List SealR) = ([] : List SealR)))) :: _) [_, _, _]
 refine AA _ (AG rfl) rfl ?_
 refine AN (AE (BP (BN (CH [false, false, false] ?_))))
 show JQ _ _ _ _ []
 refine BQ (.bool (decide ((0:UInt64) = (0:UInt64) ∧ (0:UInt64) = (0:UInt64) ∧ (zr8 16) = (zr8 16) ∧ (0:Int) = (0:Int) ∧ (0:UInt64) = (0:UInt64) ∧ ([] : List UInt64) = ([] : List UInt64) ∧ ([] : List SealR) = ([] : List SealR)))) (res1 EV (B2 rfl)) fun w1 hw1 => ?_
 exact ⟨_, [], rfl, ⟨congrArg Value.bool (decide_eq_true ⟨rfl, rfl, rfl, rfl, rfl, rfl, rfl⟩), rfl⟩, hw1.sub (by simp) (by simp)⟩
theorem ticketBack_w (key : List UInt8) (pv ep : UInt64) (kd : Int) (ai : Option Addr) (ni ci : Nat) (l : List UInt64) (sa : Option Addr) (ns sc : Nat) (ls : List SealR) (bl : UInt64) (tg : List UInt8) (bit : Int) (w : World) (hk32 : key.length = 32) (hkd : -9223372036854775808 ≤ kd ∧ kd ≤ 9223372036854775807) (hl : l.length = ni) (hnI : ai = none → ci = 0) (hic : ni ≤ ci ∧ ci ≤ maxLen) (hv : RdV w ai (cu64 l)) (hls : ls.length = ns) (hnS : sa = none → sc = 0) (hsc : ns ≤ sc ∧ sc ≤ maxLen) (hs : RdV w sa (ls.flatMap sealC)) (htg : tg.length = 16) (hbit : -9223372036854775808 ≤ bit ∧ bit ≤ 9223372036854775807) (hG : GLs w) (hGr : GLr w) (hGi : GLi w) : Calls Tryd.prog 12 #[.agg (cu8 key).toArray, .agg ([U64 pv, U64 ep, I64 (kd), .slice ai ni ci, .slice sa ns sc, U64 bl] ++ cu8 tg).toArray, I64 bit] w (Post w [] (fun v L => v = .bool true ∧ L = [])) := by
  by_cases hlg : LargeP ni ns
  · exact tbL_c key pv ep kd ai ni ci l sa ns sc ls bl tg bit w hk32 htg hlg hG hGr hGi
  obtain ⟨hbi, hbs⟩ := large_not hlg
  by_cases hm : mayN pv ep kd l ls bl = 0
  · have hR := F7 hm
    have hR2 := RightO_len hR
    rcases RightO_cases hR with ⟨rfl, h1, h2⟩ | ⟨rfl, h1, h2⟩ | ⟨rfl, h1, h2⟩
    · exact tb1_c key pv ep 1 ai ni ci l sa ns sc ls bl tg bit (tktN 1 ni ns) w hk32 hl (by omega) hic.1 hic.2 hv hls (by omega) hsc.1 hsc.2 hs htg hbit (by omega) (by omega) hG hGr hGi hm rfl rfl (tktN_le (by omega) (by omega)) hbs hbi hlg
    · obtain rfl : ls = [] := List.eq_nil_of_length_eq_zero h2
      obtain rfl : ns = 0 := hls.symm
      exact tb2_c key pv ep 2 ai ni ci l sa sc bl tg bit (tktN 2 ni 0) w hk32 hl (by omega) hic.1 hic.2 hv hsc.2 hnS htg hbit (by omega) hG hGr hGi hm rfl rfl (tktN_le (by omega) (by omega)) hbi hlg
    · obtain rfl : ls = [] := List.eq_nil_of_length_eq_zero h2
      obtain rfl : ns = 0 := hls.symm
      obtain rfl : l = [] := List.eq_nil_of_length_eq_zero h1
      obtain rfl : ni = 0 := hl.symm
      exact tb3_c key pv ep 3 ai ci sa sc bl tg bit (tktN 3 0 0) w hk32 hic.2 hnI hsc.2 hnS htg hbit  hG hGr hGi hm rfl rfl (tktN_le (by omega) (by omega))  hlg
  · by_cases hs0 : ns = 0
    · subst hs0
      obtain rfl : ls = [] := List.eq_nil_of_length_eq_zero hls
      exact tbBZ_c key pv ep kd ai ni ci l sa sc bl tg bit w hk32 hl (by omega) hic.1 hic.2 hv hsc.2 hnS hnI htg  hG hGr hGi hm hlg
    · exact tbBP_c key pv ep kd ai ni ci l sa ns sc ls bl tg bit w hk32 hl (by omega) hic.1 hic.2 hv hls (by omega) hsc.1 hsc.2 hs hnI hnS htg (by omega) hG hGr hGi hm hlg
end Go.Proofs.YtkdpdgpphpngeaaDoor
namespace Go.Proofs.YtkdpdgpphpngeaaDoor
open Go
def headSigns : List Char := [Char.ofNat 104, Char.ofNat 97, Char.ofNat 114, Char.ofNat 110, Char.ofNat 101, Char.ofNat 115, Char.ofNat 115, Char.ofNat 32, Char.ofNat 50, Char.ofNat 100, Char.ofNat 55, Char.ofNat 48, Char.ofNat 102, Char.ofNat 53, Char.ofNat 99, Char.ofNat 56, Char.ofNat 51, Char.ofNat 51, Char.ofNat 98, Char.ofNat 102, Char.ofNat 98, Char.ofNat 55, Char.ofNat 98, Char.ofNat 99, Char.ofNat 56, Char.ofNat 100, Char.ofNat 101, Char.ofNat 50, Char.ofNat 52, Char.ofNat 51, Char.ofNat 50, Char.ofNat 51, Char.ofNat 48, Char.ofNat 101, Char.ofNat 101, Char.ofNat 48, Char.ofNat 52, Char.ofNat 55, Char.ofNat 57, Char.ofNat 55, Char.ofNat 51, Char.ofNat 101, Char.ofNat 57, Char.ofNat 54, Char.ofNat 57, Char.ofNat 51, Char.ofNat 101, Char.ofNat 100, Char.ofNat 101, Char.ofNat 55, Char.ofNat 53, Char.ofNat 51, Char.ofNat 52, Char.ofNat 48, Char.ofNat 54, Char.ofNat 50, Char.ofNat 55, Char.ofNat 99, Char.ofNat 57, Char.ofNat 57, Char.ofNat 52, Char.ofNat 50, Char.ofNat 54, Char.ofNat 50, Char.ofNat 100, Char.ofNat 102, Char.ofNat 102, Char.ofNat 56, Char.ofNat 48, Char.ofNat 54, Char.ofNat 100, Char.ofNat 50, Char.ofNat 32, Char.ofNat 99, Char.ofNat 117, Char.ofNat 116, Char.ofNat 32, Char.ofNat 97, Char.ofNat 116, Char.ofNat 32, Char.ofNat 101, Char.ofNat 110, Char.ofNat 116, Char.ofNat 114, Char.ofNat 117, Char.ofNat 115, Char.ofNat 116, Char.ofNat 47, Char.ofNat 101, Char.ofNat 110, Char.ofNat 116, Char.ofNat 114, Char.ofNat 117, Char.ofNat 115, Char.ofNat 116, Char.ofNat 108, Char.ofNat 97, Char.ofNat 119, Char.ofNat 49, Char.ofNat 52, Char.ofNat 46, Char.ofNat 87, Char.ofNat 105, Char.ofNat 114, Char.ofNat 101, Char.ofNat 82, Char.ofNat 101, Char.ofNat 113, Char.ofNat 117, Char.ofNat 101, Char.ofNat 115, Char.ofNat 116, Char.ofNat 115, Char.ofNat 32, Char.ofNat 101, Char.ofNat 110, Char.ofNat 116, Char.ofNat 114, Char.ofNat 117, Char.ofNat 115, Char.ofNat 116, Char.ofNat 47, Char.ofNat 101, Char.ofNat 110, Char.ofNat 116, Char.ofNat 114, Char.ofNat 117, Char.ofNat 115, Char.ofNat 116, Char.ofNat 108, Char.ofNat 97, Char.ofNat 119, Char.ofNat 49, Char.ofNat 53, Char.ofNat 46, Char.ofNat 76, Char.ofNat 105, Char.ofNat 110, Char.ofNat 107, Char.ofNat 83, Char.ofNat 101, Char.ofNat 97, Char.ofNat 108, Char.ofNat 115, Char.ofNat 32, Char.ofNat 101, Char.ofNat 110, Char.ofNat 116, Char.ofNat 114, Char.ofNat 117, Char.ofNat 115, Char.ofNat 116, Char.ofNat 47, Char.ofNat 101, Char.ofNat 110, Char.ofNat 116, Char.ofNat 114, Char.ofNat 117, Char.ofNat 115, Char.ofNat 116, Char.ofNat 108, Char.ofNat 97, Char.ofNat 119, Char.ofNat 49, Char.ofNat 53, Char.ofNat 46, Char.ofNat 76, Char.ofNat 105, Char.ofNat 110, Char.ofNat 107, Char.ofNat 83, Char.ofNat 105, Char.ofNat 122, Char.ofNat 101, Char.ofNat 115, Char.ofNat 32, Char.ofNat 101, Char.ofNat 110, Char.ofNat 116, Char.ofNat 114, Char.ofNat 117, Char.ofNat 115, Char.ofNat 116, Char.ofNat 47, Char.ofNat 101, Char.ofNat 110, Char.ofNat 116, Char.ofNat 114, Char.ofNat 117, Char.ofNat 115, Char.ofNat 116, Char.ofNat 108, Char.ofNat 97, Char.ofNat 119, Char.ofNat 49, Char.ofNat 52, Char.ofNat 46, Char.ofNat 87, Char.ofNat 105, Char.ofNat 114, Char.ofNat 101, Char.ofNat 82, Char.ofNat 101, Char.ofNat 112, Char.ofNat 108, Char.ofNat 105, Char.ofNat 101, Char.ofNat 115, Char.ofNat 32, Char.ofNat 101, Char.ofNat 110, Char.ofNat 116, Char.ofNat 114, Char.ofNat 117, Char.ofNat 115, Char.ofNat 116, Char.ofNat 47, Char.ofNat 101, Char.ofNat 110, Char.ofNat 116, Char.ofNat 114, Char.ofNat 117, Char.ofNat 115, Char.ofNat 116, Char.ofNat 108, Char.ofNat 97, Char.ofNat 119, Char.ofNat 49, Char.ofNat 53, Char.ofNat 46, Char.ofNat 76, Char.ofNat 105, Char.ofNat 110, Char.ofNat 107, Char.ofNat 79, Char.ofNat 112, Char.ofNat 101, Char.ofNat 110, Char.ofNat 115, Char.ofNat 32, Char.ofNat 101, Char.ofNat 110, Char.ofNat 116, Char.ofNat 114, Char.ofNat 117, Char.ofNat 115, Char.ofNat 116, Char.ofNat 47, Char.ofNat 101, Char.ofNat 110, Char.ofNat 116, Char.ofNat 114, Char.ofNat 117, Char.ofNat 115, Char.ofNat 116, Char.ofNat 108, Char.ofNat 97, Char.ofNat 119, Char.ofNat 49, Char.ofNat 53, Char.ofNat 46, Char.ofNat 76, Char.ofNat 105, Char.ofNat 110, Char.ofNat 107, Char.ofNat 66, Char.ofNat 97, Char.ofNat 99, Char.ofNat 107, Char.ofNat 32, Char.ofNat 101, Char.ofNat 110, Char.ofNat 116, Char.ofNat 114, Char.ofNat 117, Char.ofNat 115, Char.ofNat 116, Char.ofNat 47, Char.ofNat 101, Char.ofNat 110, Char.ofNat 116, Char.ofNat 114, Char.ofNat 117, Char.ofNat 115, Char.ofNat 116, Char.ofNat 108, Char.ofNat 97, Char.ofNat 119, Char.ofNat 49, Char.ofNat 51, Char.ofNat 46, Char.ofNat 84, Char.ofNat 105, Char.ofNat 99, Char.ofNat 107, Char.ofNat 101, Char.ofNat 116, Char.ofNat 83, Char.ofNat 105, Char.ofNat 103, Char.ofNat 110, Char.ofNat 115, Char.ofNat 32, Char.ofNat 101, Char.ofNat 110, Char.ofNat 116, Char.ofNat 114, Char.ofNat 117, Char.ofNat 115, Char.ofNat 116, Char.ofNat 47, Char.ofNat 101, Char.ofNat 110, Char.ofNat 116, Char.ofNat 114, Char.ofNat 117, Char.ofNat 115, Char.ofNat 116, Char.ofNat 108, Char.ofNat 97, Char.ofNat 119, Char.ofNat 49, Char.ofNat 52, Char.ofNat 46, Char.ofNat 87, Char.ofNat 105, Char.ofNat 114, Char.ofNat 101, Char.ofNat 80, Char.ofNat 97, Char.ofNat 114, Char.ofNat 115, Char.ofNat 101, Char.ofNat 115, Char.ofNat 32, Char.ofNat 101, Char.ofNat 110, Char.ofNat 116, Char.ofNat 114, Char.ofNat 117, Char.ofNat 115, Char.ofNat 116, Char.ofNat 47, Char.ofNat 101, Char.ofNat 110, Char.ofNat 116, Char.ofNat 114, Char.ofNat 117, Char.ofNat 115, Char.ofNat 116, Char.ofNat 108, Char.ofNat 97, Char.ofNat 119, Char.ofNat 49, Char.ofNat 51, Char.ofNat 46, Char.ofNat 84, Char.ofNat 105, Char.ofNat 99, Char.ofNat 107, Char.ofNat 101, Char.ofNat 116, Char.ofNat 80, Char.ofNat 97, Char.ofNat 114, Char.ofNat 115, Char.ofNat 101, Char.ofNat 115, Char.ofNat 32, Char.ofNat 101, Char.ofNat 110, Char.ofNat 116, Char.ofNat 114, Char.ofNat 117, Char.ofNat 115, Char.ofNat 116, Char.ofNat 47, Char.ofNat 101, Char.ofNat 110, Char.ofNat 116, Char.ofNat 114, Char.ofNat 117, Char.ofNat 115, Char.ofNat 116, Char.ofNat 108, Char.ofNat 97, Char.ofNat 119, Char.ofNat 49, Char.ofNat 51, Char.ofNat 46, Char.ofNat 84, Char.ofNat 105, Char.ofNat 99, Char.ofNat 107, Char.ofNat 101, Char.ofNat 116, Char.ofNat 66, Char.ofNat 97, Char.ofNat 99, Char.ofNat 107, Char.ofNat 32, Char.ofNat 101, Char.ofNat 110, Char.ofNat 116, Char.ofNat 114, Char.ofNat 117, Char.ofNat 115, Char.ofNat 116, Char.ofNat 47, Char.ofNat 101, Char.ofNat 110, Char.ofNat 116, Char.ofNat 114, Char.ofNat 117, Char.ofNat 115, Char.ofNat 116, Char.ofNat 108, Char.ofNat 97, Char.ofNat 119, Char.ofNat 49, Char.ofNat 51, Char.ofNat 46, Char.ofNat 84, Char.ofNat 105, Char.ofNat 99, Char.ofNat 107, Char.ofNat 101, Char.ofNat 116, Char.ofNat 79, Char.ofNat 114, Char.ofNat 100, Char.ofNat 101, Char.ofNat 114, Char.ofNat 115, Char.ofNat 32, Char.ofNat 101, Char.ofNat 110, Char.ofNat 116, Char.ofNat 114, Char.ofNat 117, Char.ofNat 115, Char.ofNat 116, Char.ofNat 47, Char.ofNat 101, Char.ofNat 110, Char.ofNat 116, Char.ofNat 114, Char.ofNat 117, Char.ofNat 115, Char.ofNat 116, Char.ofNat 108, Char.ofNat 97, Char.ofNat 119, Char.ofNat 49, Char.ofNat 52, Char.ofNat 46, Char.ofNat 87, Char.ofNat 105, Char.ofNat 114, Char.ofNat 101, Char.ofNat 87, Char.ofNat 111, Char.ofNat 114, Char.ofNat 100, Char.ofNat 115, Char.ofNat 32, Char.ofNat 101, Char.ofNat 110, Char.ofNat 116, Char.ofNat 114, Char.ofNat 117, Char.ofNat 115, Char.ofNat 116, Char.ofNat 47, Char.ofNat 101, Char.ofNat 110, Char.ofNat 116, Char.ofNat 114, Char.ofNat 117, Char.ofNat 115, Char.ofNat 116, Char.ofNat 108, Char.ofNat 97, Char.ofNat 119, Char.ofNat 49, Char.ofNat 52, Char.ofNat 46, Char.ofNat 87, Char.ofNat 105, Char.ofNat 114, Char.ofNat 101, Char.ofNat 66, Char.ofNat 97, Char.ofNat 99, Char.ofNat 107, Char.ofNat 32, Char.ofNat 101, Char.ofNat 110, Char.ofNat 116, Char.ofNat 114, Char.ofNat 117, Char.ofNat 115, Char.ofNat 116, Char.ofNat 47, Char.ofNat 101, Char.ofNat 110, Char.ofNat 116, Char.ofNat 114, Char.ofNat 117, Char.ofNat 115, Char.ofNat 116, Char.ofNat 108, Char.ofNat 97, Char.ofNat 119, Char.ofNat 49, Char.ofNat 51, Char.ofNat 46, Char.ofNat 84, Char.ofNat 105, Char.ofNat 99, Char.ofNat 107, Char.ofNat 101, Char.ofNat 116, Char.ofNat 83, Char.ofNat 101, Char.ofNat 97, Char.ofNat 108, Char.ofNat 115]
theorem headStr : Tryd.prog.initOrder = String.ofList headSigns := by kernel_rfl
theorem headIs : Tryd.prog.initOrder.toList = headSigns := by
 rw [headStr]
 exact String.toList_ofList
def sumSigns : List Char := [Char.ofNat 50, Char.ofNat 100, Char.ofNat 55, Char.ofNat 48, Char.ofNat 102, Char.ofNat 53, Char.ofNat 99, Char.ofNat 56, Char.ofNat 51, Char.ofNat 51, Char.ofNat 98, Char.ofNat 102, Char.ofNat 98, Char.ofNat 55, Char.ofNat 98, Char.ofNat 99, Char.ofNat 56, Char.ofNat 100, Char.ofNat 101, Char.ofNat 50, Char.ofNat 52, Char.ofNat 51, Char.ofNat 50, Char.ofNat 51, Char.ofNat 48, Char.ofNat 101, Char.ofNat 101, Char.ofNat 48, Char.ofNat 52, Char.ofNat 55, Char.ofNat 57, Char.ofNat 55, Char.ofNat 51, Char.ofNat 101, Char.ofNat 57, Char.ofNat 54, Char.ofNat 57, Char.ofNat 51, Char.ofNat 101, Char.ofNat 100, Char.ofNat 101, Char.ofNat 55, Char.ofNat 53, Char.ofNat 51, Char.ofNat 52, Char.ofNat 48, Char.ofNat 54, Char.ofNat 50, Char.ofNat 55, Char.ofNat 99, Char.ofNat 57, Char.ofNat 57, Char.ofNat 52, Char.ofNat 50, Char.ofNat 54, Char.ofNat 50, Char.ofNat 100, Char.ofNat 102, Char.ofNat 102, Char.ofNat 56, Char.ofNat 48, Char.ofNat 54, Char.ofNat 100, Char.ofNat 50]
theorem sumIs : "2d70f5c833bfb7bc8de243230ee047973e9693ede75340627c994262dff806d2".toList = sumSigns := by
 have h : "2d70f5c833bfb7bc8de243230ee047973e9693ede75340627c994262dff806d2" = String.ofList sumSigns := by kernel_rfl
 rw [h]
 exact String.toList_ofList
theorem head_cons {α : Type} {l : List α} {x : α} (h : l.head? = some x) : ∃ r, l = x :: r := by cases l <;> simp_all
theorem make_cut {P : Program} {r : List (List Char)} (h : behindMainWord (wordsSigns P.initOrder.toList) = "cut".toList :: r) : P.make = some .cut := by
 unfold Program.make
 rw [h]
 rfl
theorem headLifts_cut {P : Program} (h : (stripLifts liftWords (behindMainWord (wordsSigns P.initOrder.toList))).1 = []) : P.headLifts = [] := by
 unfold Program.headLifts
 simp only [h]
 split <;> rfl
theorem lifts_cut {P : Program} {r : List (List Char)} (h : behindMainWord (wordsSigns P.initOrder.toList) = "cut".toList :: r) (h1 : P.headLifts = []) : P.liftsFinal = false := by
 unfold Program.liftsFinal
 rw [h, h1]
 rfl
theorem mayEnter_cut {P : Program} {r : List (List Char)} (h : behindMainWord (wordsSigns P.initOrder.toList) = "cut".toList :: r) (h1 : P.laysLater = false) (h2 : P.bearsReflect = false)
  (h3 : (stripLifts liftWords (behindMainWord (wordsSigns P.initOrder.toList))).1 = []) (h4 : (stripLifts liftWords (behindMainWord (wordsSigns P.initOrder.toList))).2.head? = some "cut".toList) (h5 : P.doorFits [] = true) : P.mayEnter = true := by
 unfold Program.mayEnter
 rw [h] at h3 h4 ⊢
 simp only [h1, h2, h3, h4, h5]
 simp
theorem main_cut {P : Program} {s : List Char} {r : List (List Char)} (h : wordsSigns P.initOrder.toList = "harness".toList :: s :: r) (hs : isSumSigns s = true) : P.mainIs = some (true, s) := by
 unfold Program.mainIs
 rw [h]
 simp [hs]
theorem hHead : (behindMainWord (wordsSigns Tryd.prog.initOrder.toList)).head? = some "cut".toList := by
 rw [headIs]
 kernel_rfl
theorem hStrip : (stripLifts liftWords (behindMainWord (wordsSigns Tryd.prog.initOrder.toList))).1 = [] := by
 rw [headIs]
 kernel_rfl
theorem hStrip2 : (stripLifts liftWords (behindMainWord (wordsSigns Tryd.prog.initOrder.toList))).2.head? = some "cut".toList := by
 rw [headIs]
 kernel_rfl
theorem hMain : wordsSigns Tryd.prog.initOrder.toList = "harness".toList :: sumSigns :: (wordsSigns headSigns).drop 2 := by
 rw [headIs]
 kernel_rfl
theorem hSum : isSumSigns sumSigns = true := by kernel_rfl
theorem hLater : Tryd.prog.laysLater = false := by kernel_rfl
theorem hReflect : Tryd.prog.bearsReflect = false := by kernel_rfl
theorem hDoor : Tryd.prog.doorFits [] = true := by kernel_rfl
theorem kMayEnter : Tryd.prog.mayEnter = true := by
 obtain ⟨r, h⟩ := head_cons hHead
 exact mayEnter_cut h hLater hReflect hStrip hStrip2 hDoor
theorem kLifts : Tryd.prog.liftsFinal = false := by
 obtain ⟨r, h⟩ := head_cons hHead
 exact lifts_cut h (headLifts_cut hStrip)
theorem kMake : Tryd.prog.make = some .cut := by
 obtain ⟨r, h⟩ := head_cons hHead
 exact make_cut h
theorem kMainIs : Tryd.prog.mainIs = some (true, "2d70f5c833bfb7bc8de243230ee047973e9693ede75340627c994262dff806d2".toList) := by
 rw [sumIs]
 exact main_cut hMain hSum
theorem kLaidOut : (laidOutB Tryd.prog) = true := by kernel_rfl
theorem kRowed : mapsRowed Tryd.prog = true := by kernel_rfl
theorem kStops : (Tryd.prog.stops == []) = true := by kernel_rfl
theorem kKnobs : (Tryd.prog.stopKnobs == []) = true := by kernel_rfl
theorem kHeard : Tryd.prog.stopsHeard = true := by kernel_rfl
theorem kLooks : true = Tryd.prog.looks [] := by kernel_rfl
end Go.Proofs.YtkdpdgpphpngeaaDoor
