import Derived.ChangeArms
import Derived.JoinedOf
import Derived.SevenTiedAt
import Derived.Test.YtkdpdgpphpngeaaDoorPkWR5
set_option linter.unusedVariables false
set_option linter.unusedSimpArgs false
set_option maxRecDepth 100000
namespace Go.Proofs.YtkdpdgpphpngeaaDoor
open Go Go.Sx
attribute [local irreducible] mid zr8 numK rnK valK constL initL putL RightB tktT mayN idxT selT blankB spanB reqR
theorem wr1Z_c (sq : UInt64) (aiq : Option Addr) (niq ciq : Nat) (lq : List UInt64) (fs : UInt64) (mn : Int) (pv ep : UInt64) (kd : Int) (ai : Option Addr) (ni ci : Nat) (l : List UInt64) (sa : Option Addr) (sc : Nat) (bl : UInt64) (tg : List UInt8) (eq : UInt64)  (w : World) (hlq : lq.length = niq) (hnmq : niq ≤ 2000000) (hncq : niq ≤ ciq) (hcmq : ciq ≤ maxLen) (hvq : RdV w aiq (cu64 lq)) (hl : l.length = ni) (hnm : ni ≤ 2000000) (hnc : ni ≤ ci) (hcm : ci ≤ maxLen) (hv : RdV w ai (cu64 l)) (hcs : sc ≤ maxLen) (hnS : sa = none → sc = 0) (hnI : ai = none → ci = 0) (htg : tg.length = 16) (hbq : niq ≤ 300) (hlg : ¬ LargeP ni 0) (hbi : ni ≤ 300) (hW : GLw w) (hR : reqR (1:Int) lq fs mn eq (blankB pv ep kd l ([] : List SealR) bl tg) (decide (mayN pv ep kd l ([] : List SealR) bl = 0)) = true)  : Calls Tryd.prog 3 #[.agg ([U64 sq, I64 1, .slice aiq niq ciq, U64 fs, I64 (mn), U64 pv, U64 ep, I64 (kd), .slice ai ni ci, .slice sa 0 sc, U64 bl] ++ cu8 tg ++ [U64 eq]).toArray] w (Post w [] (fun v L => v = .bool true ∧ L = [])) := by
 have hmx : maxLen = 9223372036854775807 := rfl
 refine enter (P := Tryd.prog) (f := 3) (fn := Tryd.f3) w [] 49 [] [.agg ([U64 sq, I64 1, .slice aiq niq ciq, U64 fs, I64 (mn), U64 pv, U64 ep, I64 (kd), .slice ai ni ci, .slice sa 0 sc, U64 bl] ++ cu8 tg ++ [U64 eq]).toArray] Tryd.func3 rfl rfl (by simp) (B2 (by simp) (by simp) (by simp)) ?_
 show JC _ _ _ [(0, .agg ([U64 sq, I64 1, .slice aiq niq ciq, U64 fs, I64 (mn), U64 pv, U64 ep, I64 (kd), .slice ai ni ci, .slice sa 0 sc, U64 bl] ++ cu8 tg ++ [U64 eq]).toArray)] _
 refine AI (AC (BG (CE (.agg ([U64 sq, I64 1, .slice aiq niq ciq, U64 fs, I64 (mn), U64 pv, U64 ep, I64 (kd), .slice ai ni ci, .slice sa 0 sc, U64 bl] ++ cu8 tg ++ [U64 eq]).toArray) ([U64 sq, I64 1, .slice aiq niq ciq, U64 fs, I64 (mn), U64 pv, U64 ep, I64 (kd), .slice ai ni ci, .slice sa 0 sc, U64 bl] ++ cu8 tg ++ [U64 eq]) rfl (by first | rfl | simp)) rfl ?_))
 rintro v1 L1 ⟨nb1, hnb1, rfl, rfl⟩
 show JL _ _ _ _ ((1, Ptr nb1 0) :: _) [⟨nb1, [U64 sq, I64 1, .slice aiq niq ciq, U64 fs, I64 (mn), U64 pv, U64 ep, I64 (kd), .slice ai ni ci, .slice sa 0 sc, U64 bl] ++ cu8 tg ++ [U64 eq], 31, (0, 0)⟩]
 refine AA _ (AF rfl) rfl ?_
 refine AK (AE (AI (AI (AC (BG (A2 17 [] (.bool true) (A5 _ Tryd.call17 rfl) (fun w1 hw1 => E5  w1 (GLw.at hw1 hW))) rfl ?_)))))
 rintro v1 L1 ⟨rfl, rfl⟩
 show JL _ _ _ _ ((7, .bool true) :: _) [_]
 refine AA (.bool (!true)) (C8 rfl) rfl ?_
 refine AK (AE (BT _ rfl rfl ?_))
 refine BM (AE (AI (AI (AC (AA (Ptr nb1 2) (AB 2 23 1 AS rfl BI rfl rfl) rfl ?_)))))
 refine AA (.slice aiq niq ciq) (AL rfl (AV BL (AY 0 rfl (AH (AH (AG (AG (Seg.head)))))))) rfl ?_
 refine AA (I64 niq) (C9 A8 rfl) rfl ?_
 refine AA (.bool (decide ((300:Int) < ((niq:Int))))) (AQ rfl rfl fun _ => C2 _ _) rfl ?_
 refine AA _ (AM rfl) rfl ?_
 refine AN 4 13 false _ (Ptr nb1 5) rfl rfl (decide_eq_false (by omega)) (AB 5 29 22 AS rfl CN rfl rfl) rfl ?_
 refine AN 4 13 false _ (Ptr nb1 7) rfl rfl (decide_eq_false (by omega)) (AB 2 26 4 A3 rfl BN rfl rfl) rfl ?_
 refine AN 4 13 false _ (.agg #[I64 (kd), .slice ai ni ci, .slice sa 0 sc, U64 bl]) rfl rfl (decide_eq_false (by omega)) (AL rfl (B1 CZ BN rfl (AY 0 rfl (CO (p := [U64 sq, I64 1, .slice aiq niq ciq, U64 fs, I64 (mn), U64 pv, U64 ep]) (q := cu8 tg ++ [U64 eq]) (vs := [I64 (kd), .slice ai ni ci, .slice sa 0 sc, U64 bl]) (by first | rfl | (simp only [List.append_assoc, List.nil_append, List.append_nil, List.cons_append]; done)) rfl)))) rfl ?_
 refine DB 4 13 false _ rfl rfl (decide_eq_false (by omega)) (A2 18 [.agg #[I64 (kd), .slice ai ni ci, .slice sa 0 sc, U64 bl]] (.bool (decide (LargeP ni 0))) (A5 _ Tryd.call18 rfl) (fun w1 hw1 => large_c (kd) ai ni ci l sa 0 sc ([] : List SealR) bl w1 )) rfl ?_
 rintro v1 L1 ⟨rfl, rfl⟩
 show JL _ _ _ _ ((17, .bool (decide (LargeP ni 0))) :: _) [_]
 refine AA _ (A0 _ rfl (decide_eq_false (by omega)) rfl) rfl ?_
 refine AK (AE (BT _ rfl (decide_eq_false hlg) ?_))
 refine BM (AE (AI (AC (AA (.agg ([U64 sq, I64 1, .slice aiq niq ciq, U64 fs, I64 (mn), U64 pv, U64 ep, I64 (kd), .slice ai ni ci, .slice sa 0 sc, U64 bl] ++ cu8 tg ++ [U64 eq]).toArray) (AL rfl (B1 CS CJ (by simp [htg]) (AY 0 rfl (A1 _)))) rfl ?_))))
 refine BS (A2 19 [.agg ([U64 sq, I64 1, .slice aiq niq ciq, U64 fs, I64 (mn), U64 pv, U64 ep, I64 (kd), .slice ai ni ci, .slice sa 0 sc, U64 bl] ++ cu8 tg ++ [U64 eq]).toArray] (.agg ([U64 sq, I64 1, .slice aiq niq ciq, U64 fs, I64 (mn), U64 pv, U64 ep, I64 (kd), .slice ai ni ci, .slice none 0 0, U64 bl] ++ cu8 tg ++ [U64 eq]).toArray) (A5 _ Tryd.call19 rfl) (fun w1 hw1 => reqZ_c sq (1:Int) aiq niq ciq lq fs (mn) pv ep (kd) ai ni ci l sa sc bl tg eq w1 hlq (by omega) (by omega) (by omega) (BP hw1 rfl hvq) hl (by omega) (by omega) (by omega) (BP hw1 rfl hv) (by omega) hnS htg)) rfl ?_
 show JL _ _ _ _ ((20, .agg ([U64 sq, I64 1, .slice aiq niq ciq, U64 fs, I64 (mn), U64 pv, U64 ep, I64 (kd), .slice ai ni ci, .slice none 0 0, U64 bl] ++ cu8 tg ++ [U64 eq]).toArray) :: _) [_]
 refine BG (DF _ ([U64 0, I64 0, .slice none 0 0, U64 0, I64 0, U64 0, U64 0, I64 0, .slice none 0 0, .slice none 0 0, U64 0] ++ cu8 (zr8 16) ++ [U64 0]) DZ (by kernel_rfl)) rfl ?_
 rintro v1 L1 ⟨nb2, hnb2, rfl, rfl⟩
 show JL _ _ _ _ ((3, Ptr nb2 0) :: _) [_, ⟨nb2, [U64 0, I64 0, .slice none 0 0, U64 0, I64 0, U64 0, U64 0, I64 0, .slice none 0 0, .slice none 0 0, U64 0] ++ cu8 (zr8 16) ++ [U64 0], 40, (0, 0)⟩]
 refine BS (C5 1 nb2 28 ([U64 0, I64 0, .slice none 0 0, U64 0, I64 0, U64 0, U64 0, I64 0, .slice none 0 0, .slice none 0 0, U64 0] ++ cu8 (zr8 16) ++ [U64 0]) 40 ([U64 sq, I64 1, .slice aiq niq ciq, U64 fs, I64 (mn), U64 pv, U64 ep, I64 (kd), .slice ai ni ci, .slice none 0 0, U64 bl] ++ cu8 tg ++ [U64 eq]) rfl rfl rfl CV (by simp [htg]) (D4 (D4 (by simp [Value.oneCell']) EZ) (by simp [Value.oneCell'])) (by simp [(CL 16)]) (DN (by simp [(CL 16), htg]))) rfl ?_
 show JL _ _ _ _ _ [_, ⟨nb2, [U64 sq, I64 1, .slice aiq niq ciq, U64 fs, I64 (mn), U64 pv, U64 ep, I64 (kd), .slice ai ni ci, .slice none 0 0, U64 bl] ++ cu8 tg ++ [U64 eq], 40, (0, 0)⟩]
 refine AK (AE (AI (AC (AA (.agg ([U64 sq, I64 1, .slice aiq niq ciq, U64 fs, I64 (mn), U64 pv, U64 ep, I64 (kd), .slice ai ni ci, .slice none 0 0, U64 bl] ++ cu8 tg ++ [U64 eq]).toArray) (AL rfl (B1 DW CV (by simp [htg]) (AY 1 rfl (A1 _)))) rfl ?_))))
 refine BS (A2 20 [.agg ([U64 sq, I64 1, .slice aiq niq ciq, U64 fs, I64 (mn), U64 pv, U64 ep, I64 (kd), .slice ai ni ci, .slice none 0 0, U64 bl] ++ cu8 tg ++ [U64 eq]).toArray] (.bool (reqR (1:Int) lq fs (mn) eq (blankB pv ep (kd) l ([] : List SealR) bl tg) (decide (mayN pv ep (kd) l ([] : List SealR) bl = 0)))) (A5 _ Tryd.call20 rfl) (fun w1 hw1 => EY sq (1:Int) aiq niq ciq lq fs (mn) pv ep (kd) ai ni ci l none 0 0 ([] : List SealR) bl tg eq w1 hlq (by omega) (by omega) (by omega) (BP hw1 rfl hvq) hl (by omega) (by omega) (by omega) (BP hw1 rfl hv) rfl (by omega) (by omega) (by omega) RdV.nil htg (by omega) (by omega))) rfl ?_
 show JL _ _ _ _ ((22, .bool (reqR (1:Int) lq fs (mn) eq (blankB pv ep (kd) l ([] : List SealR) bl tg) (decide (mayN pv ep (kd) l ([] : List SealR) bl = 0)))) :: _) [_, _]
 refine AA _ (AF rfl) rfl ?_
 refine AK (AE (AI (AC (AA (.agg ([U64 sq, I64 1, .slice aiq niq ciq, U64 fs, I64 (mn), U64 pv, U64 ep, I64 (kd), .slice ai ni ci, .slice sa 0 sc, U64 bl] ++ cu8 tg ++ [U64 eq]).toArray) (AL rfl (B1 CS CJ (by simp [htg]) (AY 0 rfl (A1 _)))) rfl ?_))))
 refine BG (BV 21 [.agg ([U64 sq, I64 1, .slice aiq niq ciq, U64 fs, I64 (mn), U64 pv, U64 ep, I64 (kd), .slice ai ni ci, .slice sa 0 sc, U64 bl] ++ cu8 tg ++ [U64 eq]).toArray] _ (A5 _ Tryd.call21 rfl) (fun w1 hw1 => putReq1_c sq aiq niq ciq lq fs (mn) pv ep (kd) ai ni ci l sa 0 sc ([] : List SealR) bl tg eq w1 hlq (by omega) (by omega) (by omega) (BP hw1 rfl hvq) hl (by omega) (by omega) (by omega) (BP hw1 rfl hv) rfl (by omega) (by omega) (by omega) RdV.nil htg (by omega) (by omega) hR)) rfl ?_
 rintro v1 L1 ⟨_, ⟨nb3, sp1, cp1, rfl, rfl, hc1, hc2, hc3⟩, rfl⟩
 show JL _ _ _ _ ((25, .tuple #[Slc nb3 0 (4*niq + 18) cp1, .nilIface]) :: _) [_, _, ⟨nb3, cu8 ((((numK 8 sq 8 ++ numK 1 (1:UInt64) 1) ++ numK 8 eq 8) ++ numK 1 (UInt64.ofNat (niq - 1)) 1) ++ idxT lq niq) ++ sp1, 5, (0, 0)⟩]
 refine AA _ (AM rfl) rfl ?_
 refine AA _ (CC rfl rfl) rfl ?_
 refine AA _ (CC rfl rfl) rfl ?_
 refine AA _ (AF rfl) rfl ?_
 refine AA _ (AF rfl) rfl ?_
 refine AK (AE (AI (AI (AC (AA (.agg ([U64 sq, I64 1, .slice aiq niq ciq, U64 fs, I64 (mn), U64 pv, U64 ep, I64 (kd), .slice ai ni ci, .slice sa 0 sc, U64 bl] ++ cu8 tg ++ [U64 eq]).toArray) (AL rfl (B1 CS CJ (by simp [htg]) (AY 0 rfl (A1 _)))) rfl ?_)))))
 refine BS (A2 22 [.agg ([U64 sq, I64 1, .slice aiq niq ciq, U64 fs, I64 (mn), U64 pv, U64 ep, I64 (kd), .slice ai ni ci, .slice sa 0 sc, U64 bl] ++ cu8 tg ++ [U64 eq]).toArray] (.bool (reqR (1:Int) lq fs (mn) eq (blankB pv ep (kd) l ([] : List SealR) bl tg) (decide (mayN pv ep (kd) l ([] : List SealR) bl = 0)))) (A5 _ Tryd.call22 rfl) (fun w1 hw1 => ED sq (1:Int) aiq niq ciq lq fs (mn) pv ep (kd) ai ni ci l sa 0 sc ([] : List SealR) bl tg eq w1 hlq (by omega) (by omega) (by omega) (BP hw1 rfl hvq) hl (by omega) (by omega) (by omega) (BP hw1 rfl hv) rfl (by omega) (by omega) (by omega) RdV.nil htg (by omega) (by omega))) rfl ?_
 show JL _ _ _ _ ((29, .bool (reqR (1:Int) lq fs (mn) eq (blankB pv ep (kd) l ([] : List SealR) bl tg) (decide (mayN pv ep (kd) l ([] : List SealR) bl = 0)))) :: _) [_, _, _]
 refine AA _ (AM rfl) rfl ?_
 refine AA (.bool (!((reqR (1:Int) lq fs (mn) eq (blankB pv ep (kd) l ([] : List SealR) bl tg) (decide (mayN pv ep (kd) l ([] : List SealR) bl = 0))) == (reqR (1:Int) lq fs (mn) eq (blankB pv ep (kd) l ([] : List SealR) bl tg) (decide (mayN pv ep (kd) l ([] : List SealR) bl = 0)))))) (D5 _ _ _ rfl rfl (fun _ => EQ ..) fun _ => neq_bool Tryd.underlying4) rfl ?_
 refine AK (AE (BT _ rfl (bnotT (beq_self_eq_true _)) ?_))
 refine BM (AE (AI (AI (AC (AA _ (AM rfl) rfl ?_)))))
 refine AA (.bool (!(reqR (1:Int) lq fs (mn) eq (blankB pv ep (kd) l ([] : List SealR) bl tg) (decide (mayN pv ep (kd) l ([] : List SealR) bl = 0))))) (C8 rfl) rfl ?_
 refine AK (AE (BT _ rfl (bnotT hR) ?_))
 refine BM (AE (AI (AC (AA _ (AM rfl) rfl ?_))))
 refine AA (.bool true) (D5 _ _ _ rfl rfl (fun _ => EK ..) fun _ => D6 CT) rfl ?_
 refine AA _ (AM rfl) rfl ?_
 refine AN 2 43 true _ _ rfl rfl rfl (AM rfl) rfl ?_
 refine AN 2 43 true _ (.agg ([U64 sq, I64 1, .slice aiq niq ciq, U64 fs, I64 (mn), U64 pv, U64 ep, I64 (kd), .slice ai ni ci, .slice none 0 0, U64 bl] ++ cu8 tg ++ [U64 eq]).toArray) rfl rfl rfl (AL rfl (B1 DW CV (by simp [htg]) (AY 1 rfl (A1 _)))) rfl ?_
 refine DB 2 43 true _ rfl rfl rfl (BV 25 [.agg ([U64 sq, I64 1, .slice aiq niq ciq, U64 fs, I64 (mn), U64 pv, U64 ep, I64 (kd), .slice ai ni ci, .slice none 0 0, U64 bl] ++ cu8 tg ++ [U64 eq]).toArray] _ (A5 _ Tryd.call25 rfl) (fun w1 hw1 => rputReq1_c sq aiq niq ciq lq fs (mn) pv ep (kd) ai ni ci l none 0 0 ([] : List SealR) bl tg eq w1 hlq (by omega) (by omega) (by omega) (BP hw1 rfl hvq) hl (by omega) (by omega) (by omega) (BP hw1 rfl hv) rfl (by omega) (by omega) (by omega) RdV.nil htg (by omega) (by omega) hR)) rfl ?_
 rintro v1 L1 ⟨_, ⟨nb4, sp2, cp2, rfl, rfl, hc4, hc5, hc6⟩, rfl⟩
 show JL _ _ _ _ ((46, Slc nb4 0 (4*niq + 18) cp2) :: _) [_, _, _, ⟨nb4, cu8 ((((numK 8 sq 8 ++ numK 1 (1:UInt64) 1) ++ numK 8 eq 8) ++ numK 1 (UInt64.ofNat (niq - 1)) 1) ++ idxT lq niq) ++ sp2, 5, (0, 0)⟩]
 refine DB 2 43 true _ rfl rfl rfl (A2 24 [Slc nb3 0 (4*niq + 18) cp1, Slc nb4 0 (4*niq + 18) cp2] (.bool (decide (((((numK 8 sq 8 ++ numK 1 (1:UInt64) 1) ++ numK 8 eq 8) ++ numK 1 (UInt64.ofNat (niq - 1)) 1) ++ idxT lq niq) = ((((numK 8 sq 8 ++ numK 1 (1:UInt64) 1) ++ numK 8 eq 8) ++ numK 1 (UInt64.ofNat (niq - 1)) 1) ++ idxT lq niq)))) (A5 _ Tryd.call24 rfl) (fun w1 hw1 => bytes_c (some ⟨nb3, 0, none⟩) (some ⟨nb4, 0, none⟩) (4*niq + 18) (4*niq + 18) cp1 cp2 ((((numK 8 sq 8 ++ numK 1 (1:UInt64) 1) ++ numK 8 eq 8) ++ numK 1 (UInt64.ofNat (niq - 1)) 1) ++ idxT lq niq) ((((numK 8 sq 8 ++ numK 1 (1:UInt64) 1) ++ numK 8 eq 8) ++ numK 1 (UInt64.ofNat (niq - 1)) 1) ++ idxT lq niq) w1 (show ((((numK 8 sq 8 ++ numK 1 (1:UInt64) 1) ++ numK 8 eq 8) ++ numK 1 (UInt64.ofNat (niq - 1)) 1) ++ idxT lq niq).length = (4*niq + 18) from (show ((((numK 8 sq 8 ++ numK 1 (1:UInt64) 1) ++ numK 8 eq 8) ++ numK 1 (UInt64.ofNat (niq - 1)) 1) ++ idxT lq niq).length = (4*niq + 18) from (by simp [BE, idxT_len]; omega))) (show ((((numK 8 sq 8 ++ numK 1 (1:UInt64) 1) ++ numK 8 eq 8) ++ numK 1 (UInt64.ofNat (niq - 1)) 1) ++ idxT lq niq).length = (4*niq + 18) from (show ((((numK 8 sq 8 ++ numK 1 (1:UInt64) 1) ++ numK 8 eq 8) ++ numK 1 (UInt64.ofNat (niq - 1)) 1) ++ idxT lq niq).length = (4*niq + 18) from (by simp [BE, idxT_len]; omega))) (RdB.of hw1 (AY 2 rfl (AH (A1 _))) (by simp)) (RdB.of hw1 (AY 3 rfl (AH (A1 _))) (by simp)))) rfl ?_
 rintro v1 L1 ⟨rfl, rfl⟩
 show JL _ _ _ _ ((47, .bool (decide (((((numK 8 sq 8 ++ numK 1 (1:UInt64) 1) ++ numK 8 eq 8) ++ numK 1 (UInt64.ofNat (niq - 1)) 1) ++ idxT lq niq) = ((((numK 8 sq 8 ++ numK 1 (1:UInt64) 1) ++ numK 8 eq 8) ++ numK 1 (UInt64.ofNat (niq - 1)) 1) ++ idxT lq niq)))) :: _) [_, _, _, _]
 refine AA _ (BD _ rfl rfl rfl) rfl ?_
 refine AA _ (AF rfl) rfl ?_
 refine AK (AE (BA (BF [false, false, false, false] ?_)))
 show JQ _ _ _ _ []
 refine A9 (.bool (decide (((((numK 8 sq 8 ++ numK 1 (1:UInt64) 1) ++ numK 8 eq 8) ++ numK 1 (UInt64.ofNat (niq - 1)) 1) ++ idxT lq niq) = ((((numK 8 sq 8 ++ numK 1 (1:UInt64) 1) ++ numK 8 eq 8) ++ numK 1 (UInt64.ofNat (niq - 1)) 1) ++ idxT lq niq)))) (res1 Tryd.results3 (A7 rfl)) fun w1 hw1 => ?_
 exact ⟨_, [], rfl, ⟨congrArg Value.bool (decide_eq_true rfl), rfl⟩, hw1.sub (by simp) (by simp)⟩
theorem wr2Z_c (sq : UInt64) (aiq : Option Addr) (niq ciq : Nat) (lq : List UInt64) (fs : UInt64) (mn : Nat) (pv ep : UInt64) (kd : Int) (ai : Option Addr) (ni ci : Nat) (l : List UInt64) (sa : Option Addr) (sc : Nat) (bl : UInt64) (tg : List UInt8) (eq : UInt64)  (w : World) (hlq : lq.length = niq) (hnmq : niq ≤ 2000000) (hncq : niq ≤ ciq) (hcmq : ciq ≤ maxLen) (hvq : RdV w aiq (cu64 lq)) (hl : l.length = ni) (hnm : ni ≤ 2000000) (hnc : ni ≤ ci) (hcm : ci ≤ maxLen) (hv : RdV w ai (cu64 l)) (hcs : sc ≤ maxLen) (hnS : sa = none → sc = 0) (hnI : ai = none → ci = 0) (htg : tg.length = 16) (hbq : niq ≤ 300) (hlg : ¬ LargeP ni 0) (hbi : ni ≤ 300) (hW : GLw w) (hR : reqR (2:Int) lq fs mn eq (blankB pv ep kd l ([] : List SealR) bl tg) (decide (mayN pv ep kd l ([] : List SealR) bl = 0)) = true)  : Calls Tryd.prog 3 #[.agg ([U64 sq, I64 2, .slice aiq niq ciq, U64 fs, I64 mn, U64 pv, U64 ep, I64 (kd), .slice ai ni ci, .slice sa 0 sc, U64 bl] ++ cu8 tg ++ [U64 eq]).toArray] w (Post w [] (fun v L => v = .bool true ∧ L = [])) := by
 have hmx : maxLen = 9223372036854775807 := rfl
 refine enter (P := Tryd.prog) (f := 3) (fn := Tryd.f3) w [] 49 [] [.agg ([U64 sq, I64 2, .slice aiq niq ciq, U64 fs, I64 mn, U64 pv, U64 ep, I64 (kd), .slice ai ni ci, .slice sa 0 sc, U64 bl] ++ cu8 tg ++ [U64 eq]).toArray] Tryd.func3 rfl rfl (by simp) (B2 (by simp) (by simp) (by simp)) ?_
 show JC _ _ _ [(0, .agg ([U64 sq, I64 2, .slice aiq niq ciq, U64 fs, I64 mn, U64 pv, U64 ep, I64 (kd), .slice ai ni ci, .slice sa 0 sc, U64 bl] ++ cu8 tg ++ [U64 eq]).toArray)] _
 refine AI (AC (BG (CE (.agg ([U64 sq, I64 2, .slice aiq niq ciq, U64 fs, I64 mn, U64 pv, U64 ep, I64 (kd), .slice ai ni ci, .slice sa 0 sc, U64 bl] ++ cu8 tg ++ [U64 eq]).toArray) ([U64 sq, I64 2, .slice aiq niq ciq, U64 fs, I64 mn, U64 pv, U64 ep, I64 (kd), .slice ai ni ci, .slice sa 0 sc, U64 bl] ++ cu8 tg ++ [U64 eq]) rfl (by first | rfl | simp)) rfl ?_))
 rintro v1 L1 ⟨nb1, hnb1, rfl, rfl⟩
 show JL _ _ _ _ ((1, Ptr nb1 0) :: _) [⟨nb1, [U64 sq, I64 2, .slice aiq niq ciq, U64 fs, I64 mn, U64 pv, U64 ep, I64 (kd), .slice ai ni ci, .slice sa 0 sc, U64 bl] ++ cu8 tg ++ [U64 eq], 31, (0, 0)⟩]
 refine AA _ (AF rfl) rfl ?_
 refine AK (AE (AI (AI (AC (BG (A2 17 [] (.bool true) (A5 _ Tryd.call17 rfl) (fun w1 hw1 => E5  w1 (GLw.at hw1 hW))) rfl ?_)))))
 rintro v1 L1 ⟨rfl, rfl⟩
 show JL _ _ _ _ ((7, .bool true) :: _) [_]
 refine AA (.bool (!true)) (C8 rfl) rfl ?_
 refine AK (AE (BT _ rfl rfl ?_))
 refine BM (AE (AI (AI (AC (AA (Ptr nb1 2) (AB 2 23 1 AS rfl BI rfl rfl) rfl ?_)))))
 refine AA (.slice aiq niq ciq) (AL rfl (AV BL (AY 0 rfl (AH (AH (AG (AG (Seg.head)))))))) rfl ?_
 refine AA (I64 niq) (C9 A8 rfl) rfl ?_
 refine AA (.bool (decide ((300:Int) < ((niq:Int))))) (AQ rfl rfl fun _ => C2 _ _) rfl ?_
 refine AA _ (AM rfl) rfl ?_
 refine AN 4 13 false _ (Ptr nb1 5) rfl rfl (decide_eq_false (by omega)) (AB 5 29 22 AS rfl CN rfl rfl) rfl ?_
 refine AN 4 13 false _ (Ptr nb1 7) rfl rfl (decide_eq_false (by omega)) (AB 2 26 4 A3 rfl BN rfl rfl) rfl ?_
 refine AN 4 13 false _ (.agg #[I64 (kd), .slice ai ni ci, .slice sa 0 sc, U64 bl]) rfl rfl (decide_eq_false (by omega)) (AL rfl (B1 CZ BN rfl (AY 0 rfl (CO (p := [U64 sq, I64 2, .slice aiq niq ciq, U64 fs, I64 mn, U64 pv, U64 ep]) (q := cu8 tg ++ [U64 eq]) (vs := [I64 (kd), .slice ai ni ci, .slice sa 0 sc, U64 bl]) (by first | rfl | (simp only [List.append_assoc, List.nil_append, List.append_nil, List.cons_append]; done)) rfl)))) rfl ?_
 refine DB 4 13 false _ rfl rfl (decide_eq_false (by omega)) (A2 18 [.agg #[I64 (kd), .slice ai ni ci, .slice sa 0 sc, U64 bl]] (.bool (decide (LargeP ni 0))) (A5 _ Tryd.call18 rfl) (fun w1 hw1 => large_c (kd) ai ni ci l sa 0 sc ([] : List SealR) bl w1 )) rfl ?_
 rintro v1 L1 ⟨rfl, rfl⟩
 show JL _ _ _ _ ((17, .bool (decide (LargeP ni 0))) :: _) [_]
 refine AA _ (A0 _ rfl (decide_eq_false (by omega)) rfl) rfl ?_
 refine AK (AE (BT _ rfl (decide_eq_false hlg) ?_))
 refine BM (AE (AI (AC (AA (.agg ([U64 sq, I64 2, .slice aiq niq ciq, U64 fs, I64 mn, U64 pv, U64 ep, I64 (kd), .slice ai ni ci, .slice sa 0 sc, U64 bl] ++ cu8 tg ++ [U64 eq]).toArray) (AL rfl (B1 CS CJ (by simp [htg]) (AY 0 rfl (A1 _)))) rfl ?_))))
 refine BS (A2 19 [.agg ([U64 sq, I64 2, .slice aiq niq ciq, U64 fs, I64 mn, U64 pv, U64 ep, I64 (kd), .slice ai ni ci, .slice sa 0 sc, U64 bl] ++ cu8 tg ++ [U64 eq]).toArray] (.agg ([U64 sq, I64 2, .slice aiq niq ciq, U64 fs, I64 mn, U64 pv, U64 ep, I64 (kd), .slice ai ni ci, .slice none 0 0, U64 bl] ++ cu8 tg ++ [U64 eq]).toArray) (A5 _ Tryd.call19 rfl) (fun w1 hw1 => reqZ_c sq (2:Int) aiq niq ciq lq fs ((mn:Int)) pv ep (kd) ai ni ci l sa sc bl tg eq w1 hlq (by omega) (by omega) (by omega) (BP hw1 rfl hvq) hl (by omega) (by omega) (by omega) (BP hw1 rfl hv) (by omega) hnS htg)) rfl ?_
 show JL _ _ _ _ ((20, .agg ([U64 sq, I64 2, .slice aiq niq ciq, U64 fs, I64 mn, U64 pv, U64 ep, I64 (kd), .slice ai ni ci, .slice none 0 0, U64 bl] ++ cu8 tg ++ [U64 eq]).toArray) :: _) [_]
 refine BG (DF _ ([U64 0, I64 0, .slice none 0 0, U64 0, I64 0, U64 0, U64 0, I64 0, .slice none 0 0, .slice none 0 0, U64 0] ++ cu8 (zr8 16) ++ [U64 0]) DZ (by kernel_rfl)) rfl ?_
 rintro v1 L1 ⟨nb2, hnb2, rfl, rfl⟩
 show JL _ _ _ _ ((3, Ptr nb2 0) :: _) [_, ⟨nb2, [U64 0, I64 0, .slice none 0 0, U64 0, I64 0, U64 0, U64 0, I64 0, .slice none 0 0, .slice none 0 0, U64 0] ++ cu8 (zr8 16) ++ [U64 0], 40, (0, 0)⟩]
 refine BS (C5 1 nb2 28 ([U64 0, I64 0, .slice none 0 0, U64 0, I64 0, U64 0, U64 0, I64 0, .slice none 0 0, .slice none 0 0, U64 0] ++ cu8 (zr8 16) ++ [U64 0]) 40 ([U64 sq, I64 2, .slice aiq niq ciq, U64 fs, I64 mn, U64 pv, U64 ep, I64 (kd), .slice ai ni ci, .slice none 0 0, U64 bl] ++ cu8 tg ++ [U64 eq]) rfl rfl rfl CV (by simp [htg]) (D4 (D4 (by simp [Value.oneCell']) EZ) (by simp [Value.oneCell'])) (by simp [(CL 16)]) (DN (by simp [(CL 16), htg]))) rfl ?_
 show JL _ _ _ _ _ [_, ⟨nb2, [U64 sq, I64 2, .slice aiq niq ciq, U64 fs, I64 mn, U64 pv, U64 ep, I64 (kd), .slice ai ni ci, .slice none 0 0, U64 bl] ++ cu8 tg ++ [U64 eq], 40, (0, 0)⟩]
 refine AK (AE (AI (AC (AA (.agg ([U64 sq, I64 2, .slice aiq niq ciq, U64 fs, I64 mn, U64 pv, U64 ep, I64 (kd), .slice ai ni ci, .slice none 0 0, U64 bl] ++ cu8 tg ++ [U64 eq]).toArray) (AL rfl (B1 DW CV (by simp [htg]) (AY 1 rfl (A1 _)))) rfl ?_))))
 refine BS (A2 20 [.agg ([U64 sq, I64 2, .slice aiq niq ciq, U64 fs, I64 mn, U64 pv, U64 ep, I64 (kd), .slice ai ni ci, .slice none 0 0, U64 bl] ++ cu8 tg ++ [U64 eq]).toArray] (.bool (reqR (2:Int) lq fs ((mn:Int)) eq (blankB pv ep (kd) l ([] : List SealR) bl tg) (decide (mayN pv ep (kd) l ([] : List SealR) bl = 0)))) (A5 _ Tryd.call20 rfl) (fun w1 hw1 => EY sq (2:Int) aiq niq ciq lq fs ((mn:Int)) pv ep (kd) ai ni ci l none 0 0 ([] : List SealR) bl tg eq w1 hlq (by omega) (by omega) (by omega) (BP hw1 rfl hvq) hl (by omega) (by omega) (by omega) (BP hw1 rfl hv) rfl (by omega) (by omega) (by omega) RdV.nil htg (by omega) (by omega))) rfl ?_
 show JL _ _ _ _ ((22, .bool (reqR (2:Int) lq fs ((mn:Int)) eq (blankB pv ep (kd) l ([] : List SealR) bl tg) (decide (mayN pv ep (kd) l ([] : List SealR) bl = 0)))) :: _) [_, _]
 refine AA _ (AF rfl) rfl ?_
 refine AK (AE (AI (AC (AA (.agg ([U64 sq, I64 2, .slice aiq niq ciq, U64 fs, I64 mn, U64 pv, U64 ep, I64 (kd), .slice ai ni ci, .slice sa 0 sc, U64 bl] ++ cu8 tg ++ [U64 eq]).toArray) (AL rfl (B1 CS CJ (by simp [htg]) (AY 0 rfl (A1 _)))) rfl ?_))))
 refine BG (BV 21 [.agg ([U64 sq, I64 2, .slice aiq niq ciq, U64 fs, I64 mn, U64 pv, U64 ep, I64 (kd), .slice ai ni ci, .slice sa 0 sc, U64 bl] ++ cu8 tg ++ [U64 eq]).toArray] _ (A5 _ Tryd.call21 rfl) (fun w1 hw1 => putReq2_c sq aiq niq ciq lq fs mn pv ep (kd) ai ni ci l sa 0 sc ([] : List SealR) bl tg eq w1 hlq (by omega) (by omega) (by omega) (BP hw1 rfl hvq) hl (by omega) (by omega) (by omega) (BP hw1 rfl hv) rfl (by omega) (by omega) (by omega) RdV.nil htg (by omega) (by omega) hR)) rfl ?_
 rintro v1 L1 ⟨_, ⟨nb3, sp1, cp1, rfl, rfl, hc1, hc2, hc3⟩, rfl⟩
 show JL _ _ _ _ ((25, .tuple #[Slc nb3 0 22 cp1, .nilIface]) :: _) [_, _, ⟨nb3, cu8 ((((numK 8 sq 8 ++ numK 1 (2:UInt64) 1) ++ numK 8 eq 8) ++ numK 4 fs 4) ++ numK 1 (UInt64.ofNat (mn - 1)) 1) ++ sp1, 5, (0, 0)⟩]
 refine AA _ (AM rfl) rfl ?_
 refine AA _ (CC rfl rfl) rfl ?_
 refine AA _ (CC rfl rfl) rfl ?_
 refine AA _ (AF rfl) rfl ?_
 refine AA _ (AF rfl) rfl ?_
 refine AK (AE (AI (AI (AC (AA (.agg ([U64 sq, I64 2, .slice aiq niq ciq, U64 fs, I64 mn, U64 pv, U64 ep, I64 (kd), .slice ai ni ci, .slice sa 0 sc, U64 bl] ++ cu8 tg ++ [U64 eq]).toArray) (AL rfl (B1 CS CJ (by simp [htg]) (AY 0 rfl (A1 _)))) rfl ?_)))))
 refine BS (A2 22 [.agg ([U64 sq, I64 2, .slice aiq niq ciq, U64 fs, I64 mn, U64 pv, U64 ep, I64 (kd), .slice ai ni ci, .slice sa 0 sc, U64 bl] ++ cu8 tg ++ [U64 eq]).toArray] (.bool (reqR (2:Int) lq fs ((mn:Int)) eq (blankB pv ep (kd) l ([] : List SealR) bl tg) (decide (mayN pv ep (kd) l ([] : List SealR) bl = 0)))) (A5 _ Tryd.call22 rfl) (fun w1 hw1 => ED sq (2:Int) aiq niq ciq lq fs ((mn:Int)) pv ep (kd) ai ni ci l sa 0 sc ([] : List SealR) bl tg eq w1 hlq (by omega) (by omega) (by omega) (BP hw1 rfl hvq) hl (by omega) (by omega) (by omega) (BP hw1 rfl hv) rfl (by omega) (by omega) (by omega) RdV.nil htg (by omega) (by omega))) rfl ?_
 show JL _ _ _ _ ((29, .bool (reqR (2:Int) lq fs ((mn:Int)) eq (blankB pv ep (kd) l ([] : List SealR) bl tg) (decide (mayN pv ep (kd) l ([] : List SealR) bl = 0)))) :: _) [_, _, _]
 refine AA _ (AM rfl) rfl ?_
 refine AA (.bool (!((reqR (2:Int) lq fs ((mn:Int)) eq (blankB pv ep (kd) l ([] : List SealR) bl tg) (decide (mayN pv ep (kd) l ([] : List SealR) bl = 0))) == (reqR (2:Int) lq fs ((mn:Int)) eq (blankB pv ep (kd) l ([] : List SealR) bl tg) (decide (mayN pv ep (kd) l ([] : List SealR) bl = 0)))))) (D5 _ _ _ rfl rfl (fun _ => EQ ..) fun _ => neq_bool Tryd.underlying4) rfl ?_
 refine AK (AE (BT _ rfl (bnotT (beq_self_eq_true _)) ?_))
 refine BM (AE (AI (AI (AC (AA _ (AM rfl) rfl ?_)))))
 refine AA (.bool (!(reqR (2:Int) lq fs ((mn:Int)) eq (blankB pv ep (kd) l ([] : List SealR) bl tg) (decide (mayN pv ep (kd) l ([] : List SealR) bl = 0))))) (C8 rfl) rfl ?_
 refine AK (AE (BT _ rfl (bnotT hR) ?_))
 refine BM (AE (AI (AC (AA _ (AM rfl) rfl ?_))))
 refine AA (.bool true) (D5 _ _ _ rfl rfl (fun _ => EK ..) fun _ => D6 CT) rfl ?_
 refine AA _ (AM rfl) rfl ?_
 refine AN 2 43 true _ _ rfl rfl rfl (AM rfl) rfl ?_
 refine AN 2 43 true _ (.agg ([U64 sq, I64 2, .slice aiq niq ciq, U64 fs, I64 mn, U64 pv, U64 ep, I64 (kd), .slice ai ni ci, .slice none 0 0, U64 bl] ++ cu8 tg ++ [U64 eq]).toArray) rfl rfl rfl (AL rfl (B1 DW CV (by simp [htg]) (AY 1 rfl (A1 _)))) rfl ?_
 refine DB 2 43 true _ rfl rfl rfl (BV 25 [.agg ([U64 sq, I64 2, .slice aiq niq ciq, U64 fs, I64 mn, U64 pv, U64 ep, I64 (kd), .slice ai ni ci, .slice none 0 0, U64 bl] ++ cu8 tg ++ [U64 eq]).toArray] _ (A5 _ Tryd.call25 rfl) (fun w1 hw1 => rputReq2_c sq aiq niq ciq lq fs mn pv ep (kd) ai ni ci l none 0 0 ([] : List SealR) bl tg eq w1 hlq (by omega) (by omega) (by omega) (BP hw1 rfl hvq) hl (by omega) (by omega) (by omega) (BP hw1 rfl hv) rfl (by omega) (by omega) (by omega) RdV.nil htg (by omega) (by omega) hR)) rfl ?_
 rintro v1 L1 ⟨_, ⟨nb4, sp2, cp2, rfl, rfl, hc4, hc5, hc6⟩, rfl⟩
 show JL _ _ _ _ ((46, Slc nb4 0 22 cp2) :: _) [_, _, _, ⟨nb4, cu8 ((((numK 8 sq 8 ++ numK 1 (2:UInt64) 1) ++ numK 8 eq 8) ++ numK 4 fs 4) ++ numK 1 (UInt64.ofNat (mn - 1)) 1) ++ sp2, 5, (0, 0)⟩]
 refine DB 2 43 true _ rfl rfl rfl (A2 24 [Slc nb3 0 22 cp1, Slc nb4 0 22 cp2] (.bool (decide (((((numK 8 sq 8 ++ numK 1 (2:UInt64) 1) ++ numK 8 eq 8) ++ numK 4 fs 4) ++ numK 1 (UInt64.ofNat (mn - 1)) 1) = ((((numK 8 sq 8 ++ numK 1 (2:UInt64) 1) ++ numK 8 eq 8) ++ numK 4 fs 4) ++ numK 1 (UInt64.ofNat (mn - 1)) 1)))) (A5 _ Tryd.call24 rfl) (fun w1 hw1 => bytes_c (some ⟨nb3, 0, none⟩) (some ⟨nb4, 0, none⟩) 22 22 cp1 cp2 ((((numK 8 sq 8 ++ numK 1 (2:UInt64) 1) ++ numK 8 eq 8) ++ numK 4 fs 4) ++ numK 1 (UInt64.ofNat (mn - 1)) 1) ((((numK 8 sq 8 ++ numK 1 (2:UInt64) 1) ++ numK 8 eq 8) ++ numK 4 fs 4) ++ numK 1 (UInt64.ofNat (mn - 1)) 1) w1 (show ((((numK 8 sq 8 ++ numK 1 (2:UInt64) 1) ++ numK 8 eq 8) ++ numK 4 fs 4) ++ numK 1 (UInt64.ofNat (mn - 1)) 1).length = 22 from (show ((((numK 8 sq 8 ++ numK 1 (2:UInt64) 1) ++ numK 8 eq 8) ++ numK 4 fs 4) ++ numK 1 (UInt64.ofNat (mn - 1)) 1).length = 22 from (by simp [BE]))) (show ((((numK 8 sq 8 ++ numK 1 (2:UInt64) 1) ++ numK 8 eq 8) ++ numK 4 fs 4) ++ numK 1 (UInt64.ofNat (mn - 1)) 1).length = 22 from (show ((((numK 8 sq 8 ++ numK 1 (2:UInt64) 1) ++ numK 8 eq 8) ++ numK 4 fs 4) ++ numK 1 (UInt64.ofNat (mn - 1)) 1).length = 22 from (by simp [BE]))) (RdB.of hw1 (AY 2 rfl (AH (A1 _))) (by simp)) (RdB.of hw1 (AY 3 rfl (AH (A1 _))) (by simp)))) rfl ?_
 rintro v1 L1 ⟨rfl, rfl⟩
 show JL _ _ _ _ ((47, .bool (decide (((((numK 8 sq 8 ++ numK 1 (2:UInt64) 1) ++ numK 8 eq 8) ++ numK 4 fs 4) ++ numK 1 (UInt64.ofNat (mn - 1)) 1) = ((((numK 8 sq 8 ++ numK 1 (2:UInt64) 1) ++ numK 8 eq 8) ++ numK 4 fs 4) ++ numK 1 (UInt64.ofNat (mn - 1)) 1)))) :: _) [_, _, _, _]
 refine AA _ (BD _ rfl rfl rfl) rfl ?_
 refine AA _ (AF rfl) rfl ?_
 refine AK (AE (BA (BF [false, false, false, false] ?_)))
 show JQ _ _ _ _ []
 refine A9 (.bool (decide (((((numK 8 sq 8 ++ numK 1 (2:UInt64) 1) ++ numK 8 eq 8) ++ numK 4 fs 4) ++ numK 1 (UInt64.ofNat (mn - 1)) 1) = ((((numK 8 sq 8 ++ numK 1 (2:UInt64) 1) ++ numK 8 eq 8) ++ numK 4 fs 4) ++ numK 1 (UInt64.ofNat (mn - 1)) 1)))) (res1 Tryd.results3 (A7 rfl)) fun w1 hw1 => ?_
 exact ⟨_, [], rfl, ⟨congrArg Value.bool (decide_eq_true rfl), rfl⟩, hw1.sub (by simp) (by simp)⟩
theorem wr3P_c (sq : UInt64) (aiq : Option Addr) (niq ciq : Nat) (lq : List UInt64) (fs : UInt64) (mn : Int) (pv ep : UInt64) (k : Nat) (ai : Option Addr) (ni ci : Nat) (l : List UInt64) (sa : Option Addr) (ns sc : Nat) (ls : List SealR) (bl : UInt64) (tg : List UInt8) (eq : UInt64) (tot : Nat)  (w : World) (hlq : lq.length = niq) (hnmq : niq ≤ 2000000) (hncq : niq ≤ ciq) (hcmq : ciq ≤ maxLen) (hvq : RdV w aiq (cu64 lq)) (hl : l.length = ni) (hnm : ni ≤ 2000000) (hnc : ni ≤ ci) (hcm : ci ≤ maxLen) (hv : RdV w ai (cu64 l)) (hls : ls.length = ns) (hnn : ns ≤ 2000000) (hnd : ns ≤ sc) (hcn : sc ≤ maxLen) (hs : RdV w sa (ls.flatMap sealC)) (hnI : ai = none → ci = 0) (hnS : sa = none → sc = 0) (htg : tg.length = 16) (hp0 : 0 < ns) (hbq : niq ≤ 300) (hlg : ¬ LargeP ni ns) (hbi : ni ≤ 300) (hbs : ns ≤ 300) (hW : GLw w) (hR : reqR (3:Int) lq fs mn eq (blankB pv ep (k:Int) l ls bl tg) (decide (mayN pv ep (k:Int) l ls bl = 0)) = true) (hmay : mayN pv ep (k:Int) l ls bl = 0) (hk : k = 1 ∨ k = 2 ∨ k = 3) (htot : tktN k ni ns = tot) (htb : tot ≤ 30000)  : Calls Tryd.prog 3 #[.agg ([U64 sq, I64 3, .slice aiq niq ciq, U64 fs, I64 (mn), U64 pv, U64 ep, I64 k, .slice ai ni ci, .slice sa ns sc, U64 bl] ++ cu8 tg ++ [U64 eq]).toArray] w (Post w [] (fun v L => v = .bool true ∧ L = [])) := by
 have hmx : maxLen = 9223372036854775807 := rfl
 refine enter (P := Tryd.prog) (f := 3) (fn := Tryd.f3) w [] 49 [] [.agg ([U64 sq, I64 3, .slice aiq niq ciq, U64 fs, I64 (mn), U64 pv, U64 ep, I64 k, .slice ai ni ci, .slice sa ns sc, U64 bl] ++ cu8 tg ++ [U64 eq]).toArray] Tryd.func3 rfl rfl (by simp) (B2 (by simp) (by simp) (by simp)) ?_
 show JC _ _ _ [(0, .agg ([U64 sq, I64 3, .slice aiq niq ciq, U64 fs, I64 (mn), U64 pv, U64 ep, I64 k, .slice ai ni ci, .slice sa ns sc, U64 bl] ++ cu8 tg ++ [U64 eq]).toArray)] _
 refine AI (AC (BG (CE (.agg ([U64 sq, I64 3, .slice aiq niq ciq, U64 fs, I64 (mn), U64 pv, U64 ep, I64 k, .slice ai ni ci, .slice sa ns sc, U64 bl] ++ cu8 tg ++ [U64 eq]).toArray) ([U64 sq, I64 3, .slice aiq niq ciq, U64 fs, I64 (mn), U64 pv, U64 ep, I64 k, .slice ai ni ci, .slice sa ns sc, U64 bl] ++ cu8 tg ++ [U64 eq]) rfl (by first | rfl | simp)) rfl ?_))
 rintro v1 L1 ⟨nb1, hnb1, rfl, rfl⟩
 show JL _ _ _ _ ((1, Ptr nb1 0) :: _) [⟨nb1, [U64 sq, I64 3, .slice aiq niq ciq, U64 fs, I64 (mn), U64 pv, U64 ep, I64 k, .slice ai ni ci, .slice sa ns sc, U64 bl] ++ cu8 tg ++ [U64 eq], 31, (0, 0)⟩]
 refine AA _ (AF rfl) rfl ?_
 refine AK (AE (AI (AI (AC (BG (A2 17 [] (.bool true) (A5 _ Tryd.call17 rfl) (fun w1 hw1 => E5  w1 (GLw.at hw1 hW))) rfl ?_)))))
 rintro v1 L1 ⟨rfl, rfl⟩
 show JL _ _ _ _ ((7, .bool true) :: _) [_]
 refine AA (.bool (!true)) (C8 rfl) rfl ?_
 refine AK (AE (BT _ rfl rfl ?_))
 refine BM (AE (AI (AI (AC (AA (Ptr nb1 2) (AB 2 23 1 AS rfl BI rfl rfl) rfl ?_)))))
 refine AA (.slice aiq niq ciq) (AL rfl (AV BL (AY 0 rfl (AH (AH (AG (AG (Seg.head)))))))) rfl ?_
 refine AA (I64 niq) (C9 A8 rfl) rfl ?_
 refine AA (.bool (decide ((300:Int) < ((niq:Int))))) (AQ rfl rfl fun _ => C2 _ _) rfl ?_
 refine AA _ (AM rfl) rfl ?_
 refine AN 4 13 false _ (Ptr nb1 5) rfl rfl (decide_eq_false (by omega)) (AB 5 29 22 AS rfl CN rfl rfl) rfl ?_
 refine AN 4 13 false _ (Ptr nb1 7) rfl rfl (decide_eq_false (by omega)) (AB 2 26 4 A3 rfl BN rfl rfl) rfl ?_
 refine AN 4 13 false _ (.agg #[I64 k, .slice ai ni ci, .slice sa ns sc, U64 bl]) rfl rfl (decide_eq_false (by omega)) (AL rfl (B1 CZ BN rfl (AY 0 rfl (CO (p := [U64 sq, I64 3, .slice aiq niq ciq, U64 fs, I64 (mn), U64 pv, U64 ep]) (q := cu8 tg ++ [U64 eq]) (vs := [I64 k, .slice ai ni ci, .slice sa ns sc, U64 bl]) (by first | rfl | (simp only [List.append_assoc, List.nil_append, List.append_nil, List.cons_append]; done)) rfl)))) rfl ?_
 refine DB 4 13 false _ rfl rfl (decide_eq_false (by omega)) (A2 18 [.agg #[I64 k, .slice ai ni ci, .slice sa ns sc, U64 bl]] (.bool (decide (LargeP ni ns))) (A5 _ Tryd.call18 rfl) (fun w1 hw1 => large_c ((k:Int)) ai ni ci l sa ns sc ls bl w1 )) rfl ?_
 rintro v1 L1 ⟨rfl, rfl⟩
 show JL _ _ _ _ ((17, .bool (decide (LargeP ni ns))) :: _) [_]
 refine AA _ (A0 _ rfl (decide_eq_false (by omega)) rfl) rfl ?_
 refine AK (AE (BT _ rfl (decide_eq_false hlg) ?_))
 refine BM (AE (AI (AC (AA (.agg ([U64 sq, I64 3, .slice aiq niq ciq, U64 fs, I64 (mn), U64 pv, U64 ep, I64 k, .slice ai ni ci, .slice sa ns sc, U64 bl] ++ cu8 tg ++ [U64 eq]).toArray) (AL rfl (B1 CS CJ (by simp [htg]) (AY 0 rfl (A1 _)))) rfl ?_))))
 refine BG (BV 19 [.agg ([U64 sq, I64 3, .slice aiq niq ciq, U64 fs, I64 (mn), U64 pv, U64 ep, I64 k, .slice ai ni ci, .slice sa ns sc, U64 bl] ++ cu8 tg ++ [U64 eq]).toArray] _ (A5 _ Tryd.call19 rfl) (fun w1 hw1 => reqP_c sq (3:Int) aiq niq ciq lq fs (mn) pv ep ((k:Int)) ai ni ci l sa ns sc ls bl tg eq w1 hlq (by omega) (by omega) (by omega) (BP hw1 rfl hvq) hl (by omega) (by omega) (by omega) (BP hw1 rfl hv) hls (by omega) (by omega) (by omega) (BP hw1 rfl hs) (by omega) htg)) rfl ?_
 rintro v1 L1 ⟨_, ⟨nb2, sp1, cp1, rfl, rfl, hc1, hc2, hc3⟩, rfl⟩
 show JL _ _ _ _ ((20, .agg ([U64 sq, I64 3, .slice aiq niq ciq, U64 fs, I64 (mn), U64 pv, U64 ep, I64 k, .slice ai ni ci, Slc nb2 0 ns cp1, U64 bl] ++ cu8 tg ++ [U64 eq]).toArray) :: _) [_, ⟨nb2, ls.flatMap sealC ++ sp1, 164, (0, 0)⟩]
 refine BG (DF _ ([U64 0, I64 0, .slice none 0 0, U64 0, I64 0, U64 0, U64 0, I64 0, .slice none 0 0, .slice none 0 0, U64 0] ++ cu8 (zr8 16) ++ [U64 0]) DZ (by kernel_rfl)) rfl ?_
 rintro v1 L1 ⟨nb3, hnb3, rfl, rfl⟩
 show JL _ _ _ _ ((3, Ptr nb3 0) :: _) [_, _, ⟨nb3, [U64 0, I64 0, .slice none 0 0, U64 0, I64 0, U64 0, U64 0, I64 0, .slice none 0 0, .slice none 0 0, U64 0] ++ cu8 (zr8 16) ++ [U64 0], 40, (0, 0)⟩]
 refine BS (C5 2 nb3 28 ([U64 0, I64 0, .slice none 0 0, U64 0, I64 0, U64 0, U64 0, I64 0, .slice none 0 0, .slice none 0 0, U64 0] ++ cu8 (zr8 16) ++ [U64 0]) 40 ([U64 sq, I64 3, .slice aiq niq ciq, U64 fs, I64 (mn), U64 pv, U64 ep, I64 k, .slice ai ni ci, Slc nb2 0 ns cp1, U64 bl] ++ cu8 tg ++ [U64 eq]) rfl rfl rfl CV (by simp [htg]) (D4 (D4 (by simp [Value.oneCell']) EZ) (by simp [Value.oneCell'])) (by simp [(CL 16)]) (DN (by simp [(CL 16), htg]))) rfl ?_
 show JL _ _ _ _ _ [_, _, ⟨nb3, [U64 sq, I64 3, .slice aiq niq ciq, U64 fs, I64 (mn), U64 pv, U64 ep, I64 k, .slice ai ni ci, Slc nb2 0 ns cp1, U64 bl] ++ cu8 tg ++ [U64 eq], 40, (0, 0)⟩]
 refine AK (AE (AI (AC (AA (.agg ([U64 sq, I64 3, .slice aiq niq ciq, U64 fs, I64 (mn), U64 pv, U64 ep, I64 k, .slice ai ni ci, Slc nb2 0 ns cp1, U64 bl] ++ cu8 tg ++ [U64 eq]).toArray) (AL rfl (B1 DW CV (by simp [htg]) (AY 2 rfl (A1 _)))) rfl ?_))))
 refine BS (A2 20 [.agg ([U64 sq, I64 3, .slice aiq niq ciq, U64 fs, I64 (mn), U64 pv, U64 ep, I64 k, .slice ai ni ci, Slc nb2 0 ns cp1, U64 bl] ++ cu8 tg ++ [U64 eq]).toArray] (.bool (reqR (3:Int) lq fs (mn) eq (blankB pv ep ((k:Int)) l ls bl tg) (decide (mayN pv ep ((k:Int)) l ls bl = 0)))) (A5 _ Tryd.call20 rfl) (fun w1 hw1 => EY sq (3:Int) aiq niq ciq lq fs (mn) pv ep ((k:Int)) ai ni ci l (some ⟨nb2, 0, none⟩) ns cp1 ls bl tg eq w1 hlq (by omega) (by omega) (by omega) (BP hw1 rfl hvq) hl (by omega) (by omega) (by omega) (BP hw1 rfl hv) hls (by omega) (by omega) (by omega) (RdV.of hw1 (AY 1 rfl (AH (A1 _)))) htg (by omega) (by omega))) rfl ?_
 show JL _ _ _ _ ((22, .bool (reqR (3:Int) lq fs (mn) eq (blankB pv ep ((k:Int)) l ls bl tg) (decide (mayN pv ep ((k:Int)) l ls bl = 0)))) :: _) [_, _, _]
 refine AA _ (AF rfl) rfl ?_
 refine AK (AE (AI (AC (AA (.agg ([U64 sq, I64 3, .slice aiq niq ciq, U64 fs, I64 (mn), U64 pv, U64 ep, I64 k, .slice ai ni ci, .slice sa ns sc, U64 bl] ++ cu8 tg ++ [U64 eq]).toArray) (AL rfl (B1 CS CJ (by simp [htg]) (AY 0 rfl (A1 _)))) rfl ?_))))
 refine BG (BV 21 [.agg ([U64 sq, I64 3, .slice aiq niq ciq, U64 fs, I64 (mn), U64 pv, U64 ep, I64 k, .slice ai ni ci, .slice sa ns sc, U64 bl] ++ cu8 tg ++ [U64 eq]).toArray] _ (A5 _ Tryd.call21 rfl) (fun w1 hw1 => putReq3_c sq aiq niq ciq lq fs (mn) pv ep k ai ni ci l sa ns sc ls bl tg eq tot w1 hlq (by omega) (by omega) (by omega) (BP hw1 rfl hvq) hl (by omega) (by omega) (by omega) (BP hw1 rfl hv) hls (by omega) (by omega) (by omega) (BP hw1 rfl hs) htg (by omega) (by omega) hR hmay hk (by omega) htot (by omega))) rfl ?_
 rintro v1 L1 ⟨_, ⟨nb4, sp2, cp2, rfl, rfl, hc4, hc5, hc6⟩, rfl⟩
 show JL _ _ _ _ ((25, .tuple #[Slc nb4 0 (tot + 25) cp2, .nilIface]) :: _) [_, _, _, ⟨nb4, cu8 ((numK 8 sq 8 ++ numK 1 (3:UInt64) 1) ++ ((tktT pv ep k l ls bl) ++ tg)) ++ sp2, 5, (0, 0)⟩]
 refine AA _ (AM rfl) rfl ?_
 refine AA _ (CC rfl rfl) rfl ?_
 refine AA _ (CC rfl rfl) rfl ?_
 refine AA _ (AF rfl) rfl ?_
 refine AA _ (AF rfl) rfl ?_
 refine AK (AE (AI (AI (AC (AA (.agg ([U64 sq, I64 3, .slice aiq niq ciq, U64 fs, I64 (mn), U64 pv, U64 ep, I64 k, .slice ai ni ci, .slice sa ns sc, U64 bl] ++ cu8 tg ++ [U64 eq]).toArray) (AL rfl (B1 CS CJ (by simp [htg]) (AY 0 rfl (A1 _)))) rfl ?_)))))
 refine BS (A2 22 [.agg ([U64 sq, I64 3, .slice aiq niq ciq, U64 fs, I64 (mn), U64 pv, U64 ep, I64 k, .slice ai ni ci, .slice sa ns sc, U64 bl] ++ cu8 tg ++ [U64 eq]).toArray] (.bool (reqR (3:Int) lq fs (mn) eq (blankB pv ep ((k:Int)) l ls bl tg) (decide (mayN pv ep ((k:Int)) l ls bl = 0)))) (A5 _ Tryd.call22 rfl) (fun w1 hw1 => ED sq (3:Int) aiq niq ciq lq fs (mn) pv ep ((k:Int)) ai ni ci l sa ns sc ls bl tg eq w1 hlq (by omega) (by omega) (by omega) (BP hw1 rfl hvq) hl (by omega) (by omega) (by omega) (BP hw1 rfl hv) hls (by omega) (by omega) (by omega) (BP hw1 rfl hs) htg (by omega) (by omega))) rfl ?_
 show JL _ _ _ _ ((29, .bool (reqR (3:Int) lq fs (mn) eq (blankB pv ep ((k:Int)) l ls bl tg) (decide (mayN pv ep ((k:Int)) l ls bl = 0)))) :: _) [_, _, _, _]
 refine AA _ (AM rfl) rfl ?_
 refine AA (.bool (!((reqR (3:Int) lq fs (mn) eq (blankB pv ep ((k:Int)) l ls bl tg) (decide (mayN pv ep ((k:Int)) l ls bl = 0))) == (reqR (3:Int) lq fs (mn) eq (blankB pv ep ((k:Int)) l ls bl tg) (decide (mayN pv ep ((k:Int)) l ls bl = 0)))))) (D5 _ _ _ rfl rfl (fun _ => EQ ..) fun _ => neq_bool Tryd.underlying4) rfl ?_
 refine AK (AE (BT _ rfl (bnotT (beq_self_eq_true _)) ?_))
 refine BM (AE (AI (AI (AC (AA _ (AM rfl) rfl ?_)))))
 refine AA (.bool (!(reqR (3:Int) lq fs (mn) eq (blankB pv ep ((k:Int)) l ls bl tg) (decide (mayN pv ep ((k:Int)) l ls bl = 0))))) (C8 rfl) rfl ?_
 refine AK (AE (BT _ rfl (bnotT hR) ?_))
 refine BM (AE (AI (AC (AA _ (AM rfl) rfl ?_))))
 refine AA (.bool true) (D5 _ _ _ rfl rfl (fun _ => EK ..) fun _ => D6 CT) rfl ?_
 refine AA _ (AM rfl) rfl ?_
 refine AN 2 43 true _ _ rfl rfl rfl (AM rfl) rfl ?_
 refine AN 2 43 true _ (.agg ([U64 sq, I64 3, .slice aiq niq ciq, U64 fs, I64 (mn), U64 pv, U64 ep, I64 k, .slice ai ni ci, Slc nb2 0 ns cp1, U64 bl] ++ cu8 tg ++ [U64 eq]).toArray) rfl rfl rfl (AL rfl (B1 DW CV (by simp [htg]) (AY 2 rfl (A1 _)))) rfl ?_
 refine DB 2 43 true _ rfl rfl rfl (BV 25 [.agg ([U64 sq, I64 3, .slice aiq niq ciq, U64 fs, I64 (mn), U64 pv, U64 ep, I64 k, .slice ai ni ci, Slc nb2 0 ns cp1, U64 bl] ++ cu8 tg ++ [U64 eq]).toArray] _ (A5 _ Tryd.call25 rfl) (fun w1 hw1 => rputReq3_c sq aiq niq ciq lq fs (mn) pv ep k ai ni ci l (some ⟨nb2, 0, none⟩) ns cp1 ls bl tg eq tot w1 hlq (by omega) (by omega) (by omega) (BP hw1 rfl hvq) hl (by omega) (by omega) (by omega) (BP hw1 rfl hv) hls (by omega) (by omega) (by omega) (RdV.of hw1 (AY 1 rfl (AH (A1 _)))) htg (by omega) (by omega) hR hmay hk (by omega) htot (by omega))) rfl ?_
 rintro v1 L1 ⟨_, ⟨nb5, sp3, cp3, rfl, rfl, hc7, hc8, hc9⟩, rfl⟩
 show JL _ _ _ _ ((46, Slc nb5 0 (tot + 25) cp3) :: _) [_, _, _, _, ⟨nb5, cu8 ((numK 8 sq 8 ++ numK 1 (3:UInt64) 1) ++ ((tktT pv ep k l ls bl) ++ tg)) ++ sp3, 5, (0, 0)⟩]
 refine DB 2 43 true _ rfl rfl rfl (A2 24 [Slc nb4 0 (tot + 25) cp2, Slc nb5 0 (tot + 25) cp3] (.bool (decide (((numK 8 sq 8 ++ numK 1 (3:UInt64) 1) ++ ((tktT pv ep k l ls bl) ++ tg)) = ((numK 8 sq 8 ++ numK 1 (3:UInt64) 1) ++ ((tktT pv ep k l ls bl) ++ tg))))) (A5 _ Tryd.call24 rfl) (fun w1 hw1 => bytes_c (some ⟨nb4, 0, none⟩) (some ⟨nb5, 0, none⟩) (tot + 25) (tot + 25) cp2 cp3 ((numK 8 sq 8 ++ numK 1 (3:UInt64) 1) ++ ((tktT pv ep k l ls bl) ++ tg)) ((numK 8 sq 8 ++ numK 1 (3:UInt64) 1) ++ ((tktT pv ep k l ls bl) ++ tg)) w1 (show ((numK 8 sq 8 ++ numK 1 (3:UInt64) 1) ++ ((tktT pv ep k l ls bl) ++ tg)).length = (tot + 25) from (show ((numK 8 sq 8 ++ numK 1 (3:UInt64) 1) ++ ((tktT pv ep k l ls bl) ++ tg)).length = (tot + 25) from (by simp [BE, htg, (EV hl hls).trans htot]; omega))) (show ((numK 8 sq 8 ++ numK 1 (3:UInt64) 1) ++ ((tktT pv ep k l ls bl) ++ tg)).length = (tot + 25) from (show ((numK 8 sq 8 ++ numK 1 (3:UInt64) 1) ++ ((tktT pv ep k l ls bl) ++ tg)).length = (tot + 25) from (by simp [BE, htg, (EV hl hls).trans htot]; omega))) (RdB.of hw1 (AY 3 rfl (AH (A1 _))) (by simp)) (RdB.of hw1 (AY 4 rfl (AH (A1 _))) (by simp)))) rfl ?_
 rintro v1 L1 ⟨rfl, rfl⟩
 show JL _ _ _ _ ((47, .bool (decide (((numK 8 sq 8 ++ numK 1 (3:UInt64) 1) ++ ((tktT pv ep k l ls bl) ++ tg)) = ((numK 8 sq 8 ++ numK 1 (3:UInt64) 1) ++ ((tktT pv ep k l ls bl) ++ tg))))) :: _) [_, _, _, _, _]
 refine AA _ (BD _ rfl rfl rfl) rfl ?_
 refine AA _ (AF rfl) rfl ?_
 refine AK (AE (BA (BF [false, false, false, false, false] ?_)))
 show JQ _ _ _ _ []
 refine A9 (.bool (decide (((numK 8 sq 8 ++ numK 1 (3:UInt64) 1) ++ ((tktT pv ep k l ls bl) ++ tg)) = ((numK 8 sq 8 ++ numK 1 (3:UInt64) 1) ++ ((tktT pv ep k l ls bl) ++ tg))))) (res1 Tryd.results3 (A7 rfl)) fun w1 hw1 => ?_
 exact ⟨_, [], rfl, ⟨congrArg Value.bool (decide_eq_true rfl), rfl⟩, hw1.sub (by simp) (by simp)⟩
theorem wr3Z_c (sq : UInt64) (aiq : Option Addr) (niq ciq : Nat) (lq : List UInt64) (fs : UInt64) (mn : Int) (pv ep : UInt64) (k : Nat) (ai : Option Addr) (ni ci : Nat) (l : List UInt64) (sa : Option Addr) (sc : Nat) (bl : UInt64) (tg : List UInt8) (eq : UInt64) (tot : Nat)  (w : World) (hlq : lq.length = niq) (hnmq : niq ≤ 2000000) (hncq : niq ≤ ciq) (hcmq : ciq ≤ maxLen) (hvq : RdV w aiq (cu64 lq)) (hl : l.length = ni) (hnm : ni ≤ 2000000) (hnc : ni ≤ ci) (hcm : ci ≤ maxLen) (hv : RdV w ai (cu64 l)) (hcs : sc ≤ maxLen) (hnS : sa = none → sc = 0) (hnI : ai = none → ci = 0) (htg : tg.length = 16) (hbq : niq ≤ 300) (hlg : ¬ LargeP ni 0) (hbi : ni ≤ 300) (hW : GLw w) (hR : reqR (3:Int) lq fs mn eq (blankB pv ep (k:Int) l ([] : List SealR) bl tg) (decide (mayN pv ep (k:Int) l ([] : List SealR) bl = 0)) = true) (hmay : mayN pv ep (k:Int) l ([] : List SealR) bl = 0) (hk : k = 1 ∨ k = 2 ∨ k = 3) (htot : tktN k ni 0 = tot) (htb : tot ≤ 30000)  : Calls Tryd.prog 3 #[.agg ([U64 sq, I64 3, .slice aiq niq ciq, U64 fs, I64 (mn), U64 pv, U64 ep, I64 k, .slice ai ni ci, .slice sa 0 sc, U64 bl] ++ cu8 tg ++ [U64 eq]).toArray] w (Post w [] (fun v L => v = .bool true ∧ L = [])) := by
 have hmx : maxLen = 9223372036854775807 := rfl
 refine enter (P := Tryd.prog) (f := 3) (fn := Tryd.f3) w [] 49 [] [.agg ([U64 sq, I64 3, .slice aiq niq ciq, U64 fs, I64 (mn), U64 pv, U64 ep, I64 k, .slice ai ni ci, .slice sa 0 sc, U64 bl] ++ cu8 tg ++ [U64 eq]).toArray] Tryd.func3 rfl rfl (by simp) (B2 (by simp) (by simp) (by simp)) ?_
 show JC _ _ _ [(0, .agg ([U64 sq, I64 3, .slice aiq niq ciq, U64 fs, I64 (mn), U64 pv, U64 ep, I64 k, .slice ai ni ci, .slice sa 0 sc, U64 bl] ++ cu8 tg ++ [U64 eq]).toArray)] _
 refine AI (AC (BG (CE (.agg ([U64 sq, I64 3, .slice aiq niq ciq, U64 fs, I64 (mn), U64 pv, U64 ep, I64 k, .slice ai ni ci, .slice sa 0 sc, U64 bl] ++ cu8 tg ++ [U64 eq]).toArray) ([U64 sq, I64 3, .slice aiq niq ciq, U64 fs, I64 (mn), U64 pv, U64 ep, I64 k, .slice ai ni ci, .slice sa 0 sc, U64 bl] ++ cu8 tg ++ [U64 eq]) rfl (by first | rfl | simp)) rfl ?_))
 rintro v1 L1 ⟨nb1, hnb1, rfl, rfl⟩
 show JL _ _ _ _ ((1, Ptr nb1 0) :: _) [⟨nb1, [U64 sq, I64 3, .slice aiq niq ciq, U64 fs, I64 (mn), U64 pv, U64 ep, I64 k, .slice ai ni ci, .slice sa 0 sc, U64 bl] ++ cu8 tg ++ [U64 eq], 31, (0, 0)⟩]
 refine AA _ (AF rfl) rfl ?_
 refine AK (AE (AI (AI (AC (BG (A2 17 [] (.bool true) (A5 _ Tryd.call17 rfl) (fun w1 hw1 => E5  w1 (GLw.at hw1 hW))) rfl ?_)))))
 rintro v1 L1 ⟨rfl, rfl⟩
 show JL _ _ _ _ ((7, .bool true) :: _) [_]
 refine AA (.bool (!true)) (C8 rfl) rfl ?_
 refine AK (AE (BT _ rfl rfl ?_))
 refine BM (AE (AI (AI (AC (AA (Ptr nb1 2) (AB 2 23 1 AS rfl BI rfl rfl) rfl ?_)))))
 refine AA (.slice aiq niq ciq) (AL rfl (AV BL (AY 0 rfl (AH (AH (AG (AG (Seg.head)))))))) rfl ?_
 refine AA (I64 niq) (C9 A8 rfl) rfl ?_
 refine AA (.bool (decide ((300:Int) < ((niq:Int))))) (AQ rfl rfl fun _ => C2 _ _) rfl ?_
 refine AA _ (AM rfl) rfl ?_
 refine AN 4 13 false _ (Ptr nb1 5) rfl rfl (decide_eq_false (by omega)) (AB 5 29 22 AS rfl CN rfl rfl) rfl ?_
 refine AN 4 13 false _ (Ptr nb1 7) rfl rfl (decide_eq_false (by omega)) (AB 2 26 4 A3 rfl BN rfl rfl) rfl ?_
 refine AN 4 13 false _ (.agg #[I64 k, .slice ai ni ci, .slice sa 0 sc, U64 bl]) rfl rfl (decide_eq_false (by omega)) (AL rfl (B1 CZ BN rfl (AY 0 rfl (CO (p := [U64 sq, I64 3, .slice aiq niq ciq, U64 fs, I64 (mn), U64 pv, U64 ep]) (q := cu8 tg ++ [U64 eq]) (vs := [I64 k, .slice ai ni ci, .slice sa 0 sc, U64 bl]) (by first | rfl | (simp only [List.append_assoc, List.nil_append, List.append_nil, List.cons_append]; done)) rfl)))) rfl ?_
 refine DB 4 13 false _ rfl rfl (decide_eq_false (by omega)) (A2 18 [.agg #[I64 k, .slice ai ni ci, .slice sa 0 sc, U64 bl]] (.bool (decide (LargeP ni 0))) (A5 _ Tryd.call18 rfl) (fun w1 hw1 => large_c ((k:Int)) ai ni ci l sa 0 sc ([] : List SealR) bl w1 )) rfl ?_
 rintro v1 L1 ⟨rfl, rfl⟩
 show JL _ _ _ _ ((17, .bool (decide (LargeP ni 0))) :: _) [_]
 refine AA _ (A0 _ rfl (decide_eq_false (by omega)) rfl) rfl ?_
 refine AK (AE (BT _ rfl (decide_eq_false hlg) ?_))
 refine BM (AE (AI (AC (AA (.agg ([U64 sq, I64 3, .slice aiq niq ciq, U64 fs, I64 (mn), U64 pv, U64 ep, I64 k, .slice ai ni ci, .slice sa 0 sc, U64 bl] ++ cu8 tg ++ [U64 eq]).toArray) (AL rfl (B1 CS CJ (by simp [htg]) (AY 0 rfl (A1 _)))) rfl ?_))))
 refine BS (A2 19 [.agg ([U64 sq, I64 3, .slice aiq niq ciq, U64 fs, I64 (mn), U64 pv, U64 ep, I64 k, .slice ai ni ci, .slice sa 0 sc, U64 bl] ++ cu8 tg ++ [U64 eq]).toArray] (.agg ([U64 sq, I64 3, .slice aiq niq ciq, U64 fs, I64 (mn), U64 pv, U64 ep, I64 k, .slice ai ni ci, .slice none 0 0, U64 bl] ++ cu8 tg ++ [U64 eq]).toArray) (A5 _ Tryd.call19 rfl) (fun w1 hw1 => reqZ_c sq (3:Int) aiq niq ciq lq fs (mn) pv ep ((k:Int)) ai ni ci l sa sc bl tg eq w1 hlq (by omega) (by omega) (by omega) (BP hw1 rfl hvq) hl (by omega) (by omega) (by omega) (BP hw1 rfl hv) (by omega) hnS htg)) rfl ?_
 show JL _ _ _ _ ((20, .agg ([U64 sq, I64 3, .slice aiq niq ciq, U64 fs, I64 (mn), U64 pv, U64 ep, I64 k, .slice ai ni ci, .slice none 0 0, U64 bl] ++ cu8 tg ++ [U64 eq]).toArray) :: _) [_]
 refine BG (DF _ ([U64 0, I64 0, .slice none 0 0, U64 0, I64 0, U64 0, U64 0, I64 0, .slice none 0 0, .slice none 0 0, U64 0] ++ cu8 (zr8 16) ++ [U64 0]) DZ (by kernel_rfl)) rfl ?_
 rintro v1 L1 ⟨nb2, hnb2, rfl, rfl⟩
 show JL _ _ _ _ ((3, Ptr nb2 0) :: _) [_, ⟨nb2, [U64 0, I64 0, .slice none 0 0, U64 0, I64 0, U64 0, U64 0, I64 0, .slice none 0 0, .slice none 0 0, U64 0] ++ cu8 (zr8 16) ++ [U64 0], 40, (0, 0)⟩]
 refine BS (C5 1 nb2 28 ([U64 0, I64 0, .slice none 0 0, U64 0, I64 0, U64 0, U64 0, I64 0, .slice none 0 0, .slice none 0 0, U64 0] ++ cu8 (zr8 16) ++ [U64 0]) 40 ([U64 sq, I64 3, .slice aiq niq ciq, U64 fs, I64 (mn), U64 pv, U64 ep, I64 k, .slice ai ni ci, .slice none 0 0, U64 bl] ++ cu8 tg ++ [U64 eq]) rfl rfl rfl CV (by simp [htg]) (D4 (D4 (by simp [Value.oneCell']) EZ) (by simp [Value.oneCell'])) (by simp [(CL 16)]) (DN (by simp [(CL 16), htg]))) rfl ?_
 show JL _ _ _ _ _ [_, ⟨nb2, [U64 sq, I64 3, .slice aiq niq ciq, U64 fs, I64 (mn), U64 pv, U64 ep, I64 k, .slice ai ni ci, .slice none 0 0, U64 bl] ++ cu8 tg ++ [U64 eq], 40, (0, 0)⟩]
 refine AK (AE (AI (AC (AA (.agg ([U64 sq, I64 3, .slice aiq niq ciq, U64 fs, I64 (mn), U64 pv, U64 ep, I64 k, .slice ai ni ci, .slice none 0 0, U64 bl] ++ cu8 tg ++ [U64 eq]).toArray) (AL rfl (B1 DW CV (by simp [htg]) (AY 1 rfl (A1 _)))) rfl ?_))))
 refine BS (A2 20 [.agg ([U64 sq, I64 3, .slice aiq niq ciq, U64 fs, I64 (mn), U64 pv, U64 ep, I64 k, .slice ai ni ci, .slice none 0 0, U64 bl] ++ cu8 tg ++ [U64 eq]).toArray] (.bool (reqR (3:Int) lq fs (mn) eq (blankB pv ep ((k:Int)) l ([] : List SealR) bl tg) (decide (mayN pv ep ((k:Int)) l ([] : List SealR) bl = 0)))) (A5 _ Tryd.call20 rfl) (fun w1 hw1 => EY sq (3:Int) aiq niq ciq lq fs (mn) pv ep ((k:Int)) ai ni ci l none 0 0 ([] : List SealR) bl tg eq w1 hlq (by omega) (by omega) (by omega) (BP hw1 rfl hvq) hl (by omega) (by omega) (by omega) (BP hw1 rfl hv) rfl (by omega) (by omega) (by omega) RdV.nil htg (by omega) (by omega))) rfl ?_
 show JL _ _ _ _ ((22, .bool (reqR (3:Int) lq fs (mn) eq (blankB pv ep ((k:Int)) l ([] : List SealR) bl tg) (decide (mayN pv ep ((k:Int)) l ([] : List SealR) bl = 0)))) :: _) [_, _]
 refine AA _ (AF rfl) rfl ?_
 refine AK (AE (AI (AC (AA (.agg ([U64 sq, I64 3, .slice aiq niq ciq, U64 fs, I64 (mn), U64 pv, U64 ep, I64 k, .slice ai ni ci, .slice sa 0 sc, U64 bl] ++ cu8 tg ++ [U64 eq]).toArray) (AL rfl (B1 CS CJ (by simp [htg]) (AY 0 rfl (A1 _)))) rfl ?_))))
 refine BG (BV 21 [.agg ([U64 sq, I64 3, .slice aiq niq ciq, U64 fs, I64 (mn), U64 pv, U64 ep, I64 k, .slice ai ni ci, .slice sa 0 sc, U64 bl] ++ cu8 tg ++ [U64 eq]).toArray] _ (A5 _ Tryd.call21 rfl) (fun w1 hw1 => putReq3_c sq aiq niq ciq lq fs (mn) pv ep k ai ni ci l sa 0 sc ([] : List SealR) bl tg eq tot w1 hlq (by omega) (by omega) (by omega) (BP hw1 rfl hvq) hl (by omega) (by omega) (by omega) (BP hw1 rfl hv) rfl (by omega) (by omega) (by omega) RdV.nil htg (by omega) (by omega) hR hmay hk (by omega) htot (by omega))) rfl ?_
 rintro v1 L1 ⟨_, ⟨nb3, sp1, cp1, rfl, rfl, hc1, hc2, hc3⟩, rfl⟩
 show JL _ _ _ _ ((25, .tuple #[Slc nb3 0 (tot + 25) cp1, .nilIface]) :: _) [_, _, ⟨nb3, cu8 ((numK 8 sq 8 ++ numK 1 (3:UInt64) 1) ++ ((tktT pv ep k l ([] : List SealR) bl) ++ tg)) ++ sp1, 5, (0, 0)⟩]
 refine AA _ (AM rfl) rfl ?_
 refine AA _ (CC rfl rfl) rfl ?_
 refine AA _ (CC rfl rfl) rfl ?_
 refine AA _ (AF rfl) rfl ?_
 refine AA _ (AF rfl) rfl ?_
 refine AK (AE (AI (AI (AC (AA (.agg ([U64 sq, I64 3, .slice aiq niq ciq, U64 fs, I64 (mn), U64 pv, U64 ep, I64 k, .slice ai ni ci, .slice sa 0 sc, U64 bl] ++ cu8 tg ++ [U64 eq]).toArray) (AL rfl (B1 CS CJ (by simp [htg]) (AY 0 rfl (A1 _)))) rfl ?_)))))
 refine BS (A2 22 [.agg ([U64 sq, I64 3, .slice aiq niq ciq, U64 fs, I64 (mn), U64 pv, U64 ep, I64 k, .slice ai ni ci, .slice sa 0 sc, U64 bl] ++ cu8 tg ++ [U64 eq]).toArray] (.bool (reqR (3:Int) lq fs (mn) eq (blankB pv ep ((k:Int)) l ([] : List SealR) bl tg) (decide (mayN pv ep ((k:Int)) l ([] : List SealR) bl = 0)))) (A5 _ Tryd.call22 rfl) (fun w1 hw1 => ED sq (3:Int) aiq niq ciq lq fs (mn) pv ep ((k:Int)) ai ni ci l sa 0 sc ([] : List SealR) bl tg eq w1 hlq (by omega) (by omega) (by omega) (BP hw1 rfl hvq) hl (by omega) (by omega) (by omega) (BP hw1 rfl hv) rfl (by omega) (by omega) (by omega) RdV.nil htg (by omega) (by omega))) rfl ?_
 show JL _ _ _ _ ((29, .bool (reqR (3:Int) lq fs (mn) eq (blankB pv ep ((k:Int)) l ([] : List SealR) bl tg) (decide (mayN pv ep ((k:Int)) l ([] : List SealR) bl = 0)))) :: _) [_, _, _]
 refine AA _ (AM rfl) rfl ?_
 refine AA (.bool (!((reqR (3:Int) lq fs (mn) eq (blankB pv ep ((k:Int)) l ([] : List SealR) bl tg) (decide (mayN pv ep ((k:Int)) l ([] : List SealR) bl = 0))) == (reqR (3:Int) lq fs (mn) eq (blankB pv ep ((k:Int)) l ([] : List SealR) bl tg) (decide (mayN pv ep ((k:Int)) l ([] : List SealR) bl = 0)))))) (D5 _ _ _ rfl rfl (fun _ => EQ ..) fun _ => neq_bool Tryd.underlying4) rfl ?_
 refine AK (AE (BT _ rfl (bnotT (beq_self_eq_true _)) ?_))
 refine BM (AE (AI (AI (AC (AA _ (AM rfl) rfl ?_)))))
 refine AA (.bool (!(reqR (3:Int) lq fs (mn) eq (blankB pv ep ((k:Int)) l ([] : List SealR) bl tg) (decide (mayN pv ep ((k:Int)) l ([] : List SealR) bl = 0))))) (C8 rfl) rfl ?_
 refine AK (AE (BT _ rfl (bnotT hR) ?_))
 refine BM (AE (AI (AC (AA _ (AM rfl) rfl ?_))))
 refine AA (.bool true) (D5 _ _ _ rfl rfl (fun _ => EK ..) fun _ => D6 CT) rfl ?_
 refine AA _ (AM rfl) rfl ?_
 refine AN 2 43 true _ _ rfl rfl rfl (AM rfl) rfl ?_
 refine AN 2 43 true _ (.agg ([U64 sq, I64 3, .slice aiq niq ciq, U64 fs, I64 (mn), U64 pv, U64 ep, I64 k, .slice ai ni ci, .slice none 0 0, U64 bl] ++ cu8 tg ++ [U64 eq]).toArray) rfl rfl rfl (AL rfl (B1 DW CV (by simp [htg]) (AY 1 rfl (A1 _)))) rfl ?_
 refine DB 2 43 true _ rfl rfl rfl (BV 25 [.agg ([U64 sq, I64 3, .slice aiq niq ciq, U64 fs, I64 (mn), U64 pv, U64 ep, I64 k, .slice ai ni ci, .slice none 0 0, U64 bl] ++ cu8 tg ++ [U64 eq]).toArray] _ (A5 _ Tryd.call25 rfl) (fun w1 hw1 => rputReq3_c sq aiq niq ciq lq fs (mn) pv ep k ai ni ci l none 0 0 ([] : List SealR) bl tg eq tot w1 hlq (by omega) (by omega) (by omega) (BP hw1 rfl hvq) hl (by omega) (by omega) (by omega) (BP hw1 rfl hv) rfl (by omega) (by omega) (by omega) RdV.nil htg (by omega) (by omega) hR hmay hk (by omega) htot (by omega))) rfl ?_
 rintro v1 L1 ⟨_, ⟨nb4, sp2, cp2, rfl, rfl, hc4, hc5, hc6⟩, rfl⟩
 show JL _ _ _ _ ((46, Slc nb4 0 (tot + 25) cp2) :: _) [_, _, _, ⟨nb4, cu8 ((numK 8 sq 8 ++ numK 1 (3:UInt64) 1) ++ ((tktT pv ep k l ([] : List SealR) bl) ++ tg)) ++ sp2, 5, (0, 0)⟩]
 refine DB 2 43 true _ rfl rfl rfl (A2 24 [Slc nb3 0 (tot + 25) cp1, Slc nb4 0 (tot + 25) cp2] (.bool (decide (((numK 8 sq 8 ++ numK 1 (3:UInt64) 1) ++ ((tktT pv ep k l ([] : List SealR) bl) ++ tg)) = ((numK 8 sq 8 ++ numK 1 (3:UInt64) 1) ++ ((tktT pv ep k l ([] : List SealR) bl) ++ tg))))) (A5 _ Tryd.call24 rfl) (fun w1 hw1 => bytes_c (some ⟨nb3, 0, none⟩) (some ⟨nb4, 0, none⟩) (tot + 25) (tot + 25) cp1 cp2 ((numK 8 sq 8 ++ numK 1 (3:UInt64) 1) ++ ((tktT pv ep k l ([] : List SealR) bl) ++ tg)) ((numK 8 sq 8 ++ numK 1 (3:UInt64) 1) ++ ((tktT pv ep k l ([] : List SealR) bl) ++ tg)) w1 (show ((numK 8 sq 8 ++ numK 1 (3:UInt64) 1) ++ ((tktT pv ep k l ([] : List SealR) bl) ++ tg)).length = (tot + 25) from (show ((numK 8 sq 8 ++ numK 1 (3:UInt64) 1) ++ ((tktT pv ep k l ([] : List SealR) bl) ++ tg)).length = (tot + 25) from (by simp [BE, htg, (EV hl (rfl : ([] : List SealR).length = 0)).trans htot]; omega))) (show ((numK 8 sq 8 ++ numK 1 (3:UInt64) 1) ++ ((tktT pv ep k l ([] : List SealR) bl) ++ tg)).length = (tot + 25) from (show ((numK 8 sq 8 ++ numK 1 (3:UInt64) 1) ++ ((tktT pv ep k l ([] : List SealR) bl) ++ tg)).length = (tot + 25) from (by simp [BE, htg, (EV hl (rfl : ([] : List SealR).length = 0)).trans htot]; omega))) (RdB.of hw1 (AY 2 rfl (AH (A1 _))) (by simp)) (RdB.of hw1 (AY 3 rfl (AH (A1 _))) (by simp)))) rfl ?_
 rintro v1 L1 ⟨rfl, rfl⟩
 show JL _ _ _ _ ((47, .bool (decide (((numK 8 sq 8 ++ numK 1 (3:UInt64) 1) ++ ((tktT pv ep k l ([] : List SealR) bl) ++ tg)) = ((numK 8 sq 8 ++ numK 1 (3:UInt64) 1) ++ ((tktT pv ep k l ([] : List SealR) bl) ++ tg))))) :: _) [_, _, _, _]
 refine AA _ (BD _ rfl rfl rfl) rfl ?_
 refine AA _ (AF rfl) rfl ?_
 refine AK (AE (BA (BF [false, false, false, false] ?_)))
 show JQ _ _ _ _ []
 refine A9 (.bool (decide (((numK 8 sq 8 ++ numK 1 (3:UInt64) 1) ++ ((tktT pv ep k l ([] : List SealR) bl) ++ tg)) = ((numK 8 sq 8 ++ numK 1 (3:UInt64) 1) ++ ((tktT pv ep k l ([] : List SealR) bl) ++ tg))))) (res1 Tryd.results3 (A7 rfl)) fun w1 hw1 => ?_
 exact ⟨_, [], rfl, ⟨congrArg Value.bool (decide_eq_true rfl), rfl⟩, hw1.sub (by simp) (by simp)⟩
theorem wr4Z_c (sq : UInt64) (aiq : Option Addr) (niq ciq : Nat) (lq : List UInt64) (fs : UInt64) (mn : Int) (pv ep : UInt64) (kd : Int) (ai : Option Addr) (ni ci : Nat) (l : List UInt64) (sa : Option Addr) (sc : Nat) (bl : UInt64) (tg : List UInt8) (eq : UInt64)  (w : World) (hlq : lq.length = niq) (hnmq : niq ≤ 2000000) (hncq : niq ≤ ciq) (hcmq : ciq ≤ maxLen) (hvq : RdV w aiq (cu64 lq)) (hl : l.length = ni) (hnm : ni ≤ 2000000) (hnc : ni ≤ ci) (hcm : ci ≤ maxLen) (hv : RdV w ai (cu64 l)) (hcs : sc ≤ maxLen) (hnS : sa = none → sc = 0) (hnI : ai = none → ci = 0) (htg : tg.length = 16) (hbq : niq ≤ 300) (hlg : ¬ LargeP ni 0) (hbi : ni ≤ 300) (hW : GLw w) (hR : reqR (4:Int) lq fs mn eq (blankB pv ep kd l ([] : List SealR) bl tg) (decide (mayN pv ep kd l ([] : List SealR) bl = 0)) = true)  : Calls Tryd.prog 3 #[.agg ([U64 sq, I64 4, .slice aiq niq ciq, U64 fs, I64 (mn), U64 pv, U64 ep, I64 (kd), .slice ai ni ci, .slice sa 0 sc, U64 bl] ++ cu8 tg ++ [U64 eq]).toArray] w (Post w [] (fun v L => v = .bool true ∧ L = [])) := by
 have hmx : maxLen = 9223372036854775807 := rfl
 refine enter (P := Tryd.prog) (f := 3) (fn := Tryd.f3) w [] 49 [] [.agg ([U64 sq, I64 4, .slice aiq niq ciq, U64 fs, I64 (mn), U64 pv, U64 ep, I64 (kd), .slice ai ni ci, .slice sa 0 sc, U64 bl] ++ cu8 tg ++ [U64 eq]).toArray] Tryd.func3 rfl rfl (by simp) (B2 (by simp) (by simp) (by simp)) ?_
 show JC _ _ _ [(0, .agg ([U64 sq, I64 4, .slice aiq niq ciq, U64 fs, I64 (mn), U64 pv, U64 ep, I64 (kd), .slice ai ni ci, .slice sa 0 sc, U64 bl] ++ cu8 tg ++ [U64 eq]).toArray)] _
 refine AI (AC (BG (CE (.agg ([U64 sq, I64 4, .slice aiq niq ciq, U64 fs, I64 (mn), U64 pv, U64 ep, I64 (kd), .slice ai ni ci, .slice sa 0 sc, U64 bl] ++ cu8 tg ++ [U64 eq]).toArray) ([U64 sq, I64 4, .slice aiq niq ciq, U64 fs, I64 (mn), U64 pv, U64 ep, I64 (kd), .slice ai ni ci, .slice sa 0 sc, U64 bl] ++ cu8 tg ++ [U64 eq]) rfl (by first | rfl | simp)) rfl ?_))
 rintro v1 L1 ⟨nb1, hnb1, rfl, rfl⟩
 show JL _ _ _ _ ((1, Ptr nb1 0) :: _) [⟨nb1, [U64 sq, I64 4, .slice aiq niq ciq, U64 fs, I64 (mn), U64 pv, U64 ep, I64 (kd), .slice ai ni ci, .slice sa 0 sc, U64 bl] ++ cu8 tg ++ [U64 eq], 31, (0, 0)⟩]
 refine AA _ (AF rfl) rfl ?_
 refine AK (AE (AI (AI (AC (BG (A2 17 [] (.bool true) (A5 _ Tryd.call17 rfl) (fun w1 hw1 => E5  w1 (GLw.at hw1 hW))) rfl ?_)))))
 rintro v1 L1 ⟨rfl, rfl⟩
 show JL _ _ _ _ ((7, .bool true) :: _) [_]
 refine AA (.bool (!true)) (C8 rfl) rfl ?_
 refine AK (AE (BT _ rfl rfl ?_))
 refine BM (AE (AI (AI (AC (AA (Ptr nb1 2) (AB 2 23 1 AS rfl BI rfl rfl) rfl ?_)))))
 refine AA (.slice aiq niq ciq) (AL rfl (AV BL (AY 0 rfl (AH (AH (AG (AG (Seg.head)))))))) rfl ?_
 refine AA (I64 niq) (C9 A8 rfl) rfl ?_
 refine AA (.bool (decide ((300:Int) < ((niq:Int))))) (AQ rfl rfl fun _ => C2 _ _) rfl ?_
 refine AA _ (AM rfl) rfl ?_
 refine AN 4 13 false _ (Ptr nb1 5) rfl rfl (decide_eq_false (by omega)) (AB 5 29 22 AS rfl CN rfl rfl) rfl ?_
 refine AN 4 13 false _ (Ptr nb1 7) rfl rfl (decide_eq_false (by omega)) (AB 2 26 4 A3 rfl BN rfl rfl) rfl ?_
 refine AN 4 13 false _ (.agg #[I64 (kd), .slice ai ni ci, .slice sa 0 sc, U64 bl]) rfl rfl (decide_eq_false (by omega)) (AL rfl (B1 CZ BN rfl (AY 0 rfl (CO (p := [U64 sq, I64 4, .slice aiq niq ciq, U64 fs, I64 (mn), U64 pv, U64 ep]) (q := cu8 tg ++ [U64 eq]) (vs := [I64 (kd), .slice ai ni ci, .slice sa 0 sc, U64 bl]) (by first | rfl | (simp only [List.append_assoc, List.nil_append, List.append_nil, List.cons_append]; done)) rfl)))) rfl ?_
 refine DB 4 13 false _ rfl rfl (decide_eq_false (by omega)) (A2 18 [.agg #[I64 (kd), .slice ai ni ci, .slice sa 0 sc, U64 bl]] (.bool (decide (LargeP ni 0))) (A5 _ Tryd.call18 rfl) (fun w1 hw1 => large_c (kd) ai ni ci l sa 0 sc ([] : List SealR) bl w1 )) rfl ?_
 rintro v1 L1 ⟨rfl, rfl⟩
 show JL _ _ _ _ ((17, .bool (decide (LargeP ni 0))) :: _) [_]
 refine AA _ (A0 _ rfl (decide_eq_false (by omega)) rfl) rfl ?_
 refine AK (AE (BT _ rfl (decide_eq_false hlg) ?_))
 refine BM (AE (AI (AC (AA (.agg ([U64 sq, I64 4, .slice aiq niq ciq, U64 fs, I64 (mn), U64 pv, U64 ep, I64 (kd), .slice ai ni ci, .slice sa 0 sc, U64 bl] ++ cu8 tg ++ [U64 eq]).toArray) (AL rfl (B1 CS CJ (by simp [htg]) (AY 0 rfl (A1 _)))) rfl ?_))))
 refine BS (A2 19 [.agg ([U64 sq, I64 4, .slice aiq niq ciq, U64 fs, I64 (mn), U64 pv, U64 ep, I64 (kd), .slice ai ni ci, .slice sa 0 sc, U64 bl] ++ cu8 tg ++ [U64 eq]).toArray] (.agg ([U64 sq, I64 4, .slice aiq niq ciq, U64 fs, I64 (mn), U64 pv, U64 ep, I64 (kd), .slice ai ni ci, .slice none 0 0, U64 bl] ++ cu8 tg ++ [U64 eq]).toArray) (A5 _ Tryd.call19 rfl) (fun w1 hw1 => reqZ_c sq (4:Int) aiq niq ciq lq fs (mn) pv ep (kd) ai ni ci l sa sc bl tg eq w1 hlq (by omega) (by omega) (by omega) (BP hw1 rfl hvq) hl (by omega) (by omega) (by omega) (BP hw1 rfl hv) (by omega) hnS htg)) rfl ?_
 show JL _ _ _ _ ((20, .agg ([U64 sq, I64 4, .slice aiq niq ciq, U64 fs, I64 (mn), U64 pv, U64 ep, I64 (kd), .slice ai ni ci, .slice none 0 0, U64 bl] ++ cu8 tg ++ [U64 eq]).toArray) :: _) [_]
 refine BG (DF _ ([U64 0, I64 0, .slice none 0 0, U64 0, I64 0, U64 0, U64 0, I64 0, .slice none 0 0, .slice none 0 0, U64 0] ++ cu8 (zr8 16) ++ [U64 0]) DZ (by kernel_rfl)) rfl ?_
 rintro v1 L1 ⟨nb2, hnb2, rfl, rfl⟩
 show JL _ _ _ _ ((3, Ptr nb2 0) :: _) [_, ⟨nb2, [U64 0, I64 0, .slice none 0 0, U64 0, I64 0, U64 0, U64 0, I64 0, .slice none 0 0, .slice none 0 0, U64 0] ++ cu8 (zr8 16) ++ [U64 0], 40, (0, 0)⟩]
 refine BS (C5 1 nb2 28 ([U64 0, I64 0, .slice none 0 0, U64 0, I64 0, U64 0, U64 0, I64 0, .slice none 0 0, .slice none 0 0, U64 0] ++ cu8 (zr8 16) ++ [U64 0]) 40 ([U64 sq, I64 4, .slice aiq niq ciq, U64 fs, I64 (mn), U64 pv, U64 ep, I64 (kd), .slice ai ni ci, .slice none 0 0, U64 bl] ++ cu8 tg ++ [U64 eq]) rfl rfl rfl CV (by simp [htg]) (D4 (D4 (by simp [Value.oneCell']) EZ) (by simp [Value.oneCell'])) (by simp [(CL 16)]) (DN (by simp [(CL 16), htg]))) rfl ?_
 show JL _ _ _ _ _ [_, ⟨nb2, [U64 sq, I64 4, .slice aiq niq ciq, U64 fs, I64 (mn), U64 pv, U64 ep, I64 (kd), .slice ai ni ci, .slice none 0 0, U64 bl] ++ cu8 tg ++ [U64 eq], 40, (0, 0)⟩]
 refine AK (AE (AI (AC (AA (.agg ([U64 sq, I64 4, .slice aiq niq ciq, U64 fs, I64 (mn), U64 pv, U64 ep, I64 (kd), .slice ai ni ci, .slice none 0 0, U64 bl] ++ cu8 tg ++ [U64 eq]).toArray) (AL rfl (B1 DW CV (by simp [htg]) (AY 1 rfl (A1 _)))) rfl ?_))))
 refine BS (A2 20 [.agg ([U64 sq, I64 4, .slice aiq niq ciq, U64 fs, I64 (mn), U64 pv, U64 ep, I64 (kd), .slice ai ni ci, .slice none 0 0, U64 bl] ++ cu8 tg ++ [U64 eq]).toArray] (.bool (reqR (4:Int) lq fs (mn) eq (blankB pv ep (kd) l ([] : List SealR) bl tg) (decide (mayN pv ep (kd) l ([] : List SealR) bl = 0)))) (A5 _ Tryd.call20 rfl) (fun w1 hw1 => EY sq (4:Int) aiq niq ciq lq fs (mn) pv ep (kd) ai ni ci l none 0 0 ([] : List SealR) bl tg eq w1 hlq (by omega) (by omega) (by omega) (BP hw1 rfl hvq) hl (by omega) (by omega) (by omega) (BP hw1 rfl hv) rfl (by omega) (by omega) (by omega) RdV.nil htg (by omega) (by omega))) rfl ?_
 show JL _ _ _ _ ((22, .bool (reqR (4:Int) lq fs (mn) eq (blankB pv ep (kd) l ([] : List SealR) bl tg) (decide (mayN pv ep (kd) l ([] : List SealR) bl = 0)))) :: _) [_, _]
 refine AA _ (AF rfl) rfl ?_
 refine AK (AE (AI (AC (AA (.agg ([U64 sq, I64 4, .slice aiq niq ciq, U64 fs, I64 (mn), U64 pv, U64 ep, I64 (kd), .slice ai ni ci, .slice sa 0 sc, U64 bl] ++ cu8 tg ++ [U64 eq]).toArray) (AL rfl (B1 CS CJ (by simp [htg]) (AY 0 rfl (A1 _)))) rfl ?_))))
 refine BG (BV 21 [.agg ([U64 sq, I64 4, .slice aiq niq ciq, U64 fs, I64 (mn), U64 pv, U64 ep, I64 (kd), .slice ai ni ci, .slice sa 0 sc, U64 bl] ++ cu8 tg ++ [U64 eq]).toArray] _ (A5 _ Tryd.call21 rfl) (fun w1 hw1 => putReq4_c sq aiq niq ciq lq fs (mn) pv ep (kd) ai ni ci l sa 0 sc ([] : List SealR) bl tg eq w1 hlq (by omega) (by omega) (by omega) (BP hw1 rfl hvq) hl (by omega) (by omega) (by omega) (BP hw1 rfl hv) rfl (by omega) (by omega) (by omega) RdV.nil htg (by omega) (by omega) hR)) rfl ?_
 rintro v1 L1 ⟨_, ⟨nb3, sp1, cp1, rfl, rfl, hc1, hc2, hc3⟩, rfl⟩
 show JL _ _ _ _ ((25, .tuple #[Slc nb3 0 17 cp1, .nilIface]) :: _) [_, _, ⟨nb3, cu8 ((numK 8 sq 8 ++ numK 1 (4:UInt64) 1) ++ numK 8 eq 8) ++ sp1, 5, (0, 0)⟩]
 refine AA _ (AM rfl) rfl ?_
 refine AA _ (CC rfl rfl) rfl ?_
 refine AA _ (CC rfl rfl) rfl ?_
 refine AA _ (AF rfl) rfl ?_
 refine AA _ (AF rfl) rfl ?_
 refine AK (AE (AI (AI (AC (AA (.agg ([U64 sq, I64 4, .slice aiq niq ciq, U64 fs, I64 (mn), U64 pv, U64 ep, I64 (kd), .slice ai ni ci, .slice sa 0 sc, U64 bl] ++ cu8 tg ++ [U64 eq]).toArray) (AL rfl (B1 CS CJ (by simp [htg]) (AY 0 rfl (A1 _)))) rfl ?_)))))
 refine BS (A2 22 [.agg ([U64 sq, I64 4, .slice aiq niq ciq, U64 fs, I64 (mn), U64 pv, U64 ep, I64 (kd), .slice ai ni ci, .slice sa 0 sc, U64 bl] ++ cu8 tg ++ [U64 eq]).toArray] (.bool (reqR (4:Int) lq fs (mn) eq (blankB pv ep (kd) l ([] : List SealR) bl tg) (decide (mayN pv ep (kd) l ([] : List SealR) bl = 0)))) (A5 _ Tryd.call22 rfl) (fun w1 hw1 => ED sq (4:Int) aiq niq ciq lq fs (mn) pv ep (kd) ai ni ci l sa 0 sc ([] : List SealR) bl tg eq w1 hlq (by omega) (by omega) (by omega) (BP hw1 rfl hvq) hl (by omega) (by omega) (by omega) (BP hw1 rfl hv) rfl (by omega) (by omega) (by omega) RdV.nil htg (by omega) (by omega))) rfl ?_
 show JL _ _ _ _ ((29, .bool (reqR (4:Int) lq fs (mn) eq (blankB pv ep (kd) l ([] : List SealR) bl tg) (decide (mayN pv ep (kd) l ([] : List SealR) bl = 0)))) :: _) [_, _, _]
 refine AA _ (AM rfl) rfl ?_
 refine AA (.bool (!((reqR (4:Int) lq fs (mn) eq (blankB pv ep (kd) l ([] : List SealR) bl tg) (decide (mayN pv ep (kd) l ([] : List SealR) bl = 0))) == (reqR (4:Int) lq fs (mn) eq (blankB pv ep (kd) l ([] : List SealR) bl tg) (decide (mayN pv ep (kd) l ([] : List SealR) bl = 0)))))) (D5 _ _ _ rfl rfl (fun _ => EQ ..) fun _ => neq_bool Tryd.underlying4) rfl ?_
 refine AK (AE (BT _ rfl (bnotT (beq_self_eq_true _)) ?_))
 refine BM (AE (AI (AI (AC (AA _ (AM rfl) rfl ?_)))))
 refine AA (.bool (!(reqR (4:Int) lq fs (mn) eq (blankB pv ep (kd) l ([] : List SealR) bl tg) (decide (mayN pv ep (kd) l ([] : List SealR) bl = 0))))) (C8 rfl) rfl ?_
 refine AK (AE (BT _ rfl (bnotT hR) ?_))
 refine BM (AE (AI (AC (AA _ (AM rfl) rfl ?_))))
 refine AA (.bool true) (D5 _ _ _ rfl rfl (fun _ => EK ..) fun _ => D6 CT) rfl ?_
 refine AA _ (AM rfl) rfl ?_
 refine AN 2 43 true _ _ rfl rfl rfl (AM rfl) rfl ?_
 refine AN 2 43 true _ (.agg ([U64 sq, I64 4, .slice aiq niq ciq, U64 fs, I64 (mn), U64 pv, U64 ep, I64 (kd), .slice ai ni ci, .slice none 0 0, U64 bl] ++ cu8 tg ++ [U64 eq]).toArray) rfl rfl rfl (AL rfl (B1 DW CV (by simp [htg]) (AY 1 rfl (A1 _)))) rfl ?_
 refine DB 2 43 true _ rfl rfl rfl (BV 25 [.agg ([U64 sq, I64 4, .slice aiq niq ciq, U64 fs, I64 (mn), U64 pv, U64 ep, I64 (kd), .slice ai ni ci, .slice none 0 0, U64 bl] ++ cu8 tg ++ [U64 eq]).toArray] _ (A5 _ Tryd.call25 rfl) (fun w1 hw1 => rputReq4_c sq aiq niq ciq lq fs (mn) pv ep (kd) ai ni ci l none 0 0 ([] : List SealR) bl tg eq w1 hlq (by omega) (by omega) (by omega) (BP hw1 rfl hvq) hl (by omega) (by omega) (by omega) (BP hw1 rfl hv) rfl (by omega) (by omega) (by omega) RdV.nil htg (by omega) (by omega) hR)) rfl ?_
 rintro v1 L1 ⟨_, ⟨nb4, sp2, cp2, rfl, rfl, hc4, hc5, hc6⟩, rfl⟩
 show JL _ _ _ _ ((46, Slc nb4 0 17 cp2) :: _) [_, _, _, ⟨nb4, cu8 ((numK 8 sq 8 ++ numK 1 (4:UInt64) 1) ++ numK 8 eq 8) ++ sp2, 5, (0, 0)⟩]
 refine DB 2 43 true _ rfl rfl rfl (A2 24 [Slc nb3 0 17 cp1, Slc nb4 0 17 cp2] (.bool (decide (((numK 8 sq 8 ++ numK 1 (4:UInt64) 1) ++ numK 8 eq 8) = ((numK 8 sq 8 ++ numK 1 (4:UInt64) 1) ++ numK 8 eq 8)))) (A5 _ Tryd.call24 rfl) (fun w1 hw1 => bytes_c (some ⟨nb3, 0, none⟩) (some ⟨nb4, 0, none⟩) 17 17 cp1 cp2 ((numK 8 sq 8 ++ numK 1 (4:UInt64) 1) ++ numK 8 eq 8) ((numK 8 sq 8 ++ numK 1 (4:UInt64) 1) ++ numK 8 eq 8) w1 (show ((numK 8 sq 8 ++ numK 1 (4:UInt64) 1) ++ numK 8 eq 8).length = 17 from (show ((numK 8 sq 8 ++ numK 1 (4:UInt64) 1) ++ numK 8 eq 8).length = 17 from (by simp [BE]))) (show ((numK 8 sq 8 ++ numK 1 (4:UInt64) 1) ++ numK 8 eq 8).length = 17 from (show ((numK 8 sq 8 ++ numK 1 (4:UInt64) 1) ++ numK 8 eq 8).length = 17 from (by simp [BE]))) (RdB.of hw1 (AY 2 rfl (AH (A1 _))) (by simp)) (RdB.of hw1 (AY 3 rfl (AH (A1 _))) (by simp)))) rfl ?_
 rintro v1 L1 ⟨rfl, rfl⟩
 show JL _ _ _ _ ((47, .bool (decide (((numK 8 sq 8 ++ numK 1 (4:UInt64) 1) ++ numK 8 eq 8) = ((numK 8 sq 8 ++ numK 1 (4:UInt64) 1) ++ numK 8 eq 8)))) :: _) [_, _, _, _]
 refine AA _ (BD _ rfl rfl rfl) rfl ?_
 refine AA _ (AF rfl) rfl ?_
 refine AK (AE (BA (BF [false, false, false, false] ?_)))
 show JQ _ _ _ _ []
 refine A9 (.bool (decide (((numK 8 sq 8 ++ numK 1 (4:UInt64) 1) ++ numK 8 eq 8) = ((numK 8 sq 8 ++ numK 1 (4:UInt64) 1) ++ numK 8 eq 8)))) (res1 Tryd.results3 (A7 rfl)) fun w1 hw1 => ?_
 exact ⟨_, [], rfl, ⟨congrArg Value.bool (decide_eq_true rfl), rfl⟩, hw1.sub (by simp) (by simp)⟩
theorem wr5Z_c (sq : UInt64) (aiq : Option Addr) (niq ciq : Nat) (lq : List UInt64) (fs : UInt64) (mn : Int) (pv ep : UInt64) (kd : Int) (ai : Option Addr) (ni ci : Nat) (l : List UInt64) (sa : Option Addr) (sc : Nat) (bl : UInt64) (tg : List UInt8) (eq : UInt64)  (w : World) (hlq : lq.length = niq) (hnmq : niq ≤ 2000000) (hncq : niq ≤ ciq) (hcmq : ciq ≤ maxLen) (hvq : RdV w aiq (cu64 lq)) (hl : l.length = ni) (hnm : ni ≤ 2000000) (hnc : ni ≤ ci) (hcm : ci ≤ maxLen) (hv : RdV w ai (cu64 l)) (hcs : sc ≤ maxLen) (hnS : sa = none → sc = 0) (hnI : ai = none → ci = 0) (htg : tg.length = 16) (hbq : niq ≤ 300) (hlg : ¬ LargeP ni 0) (hbi : ni ≤ 300) (hW : GLw w) (hR : reqR (5:Int) lq fs mn eq (blankB pv ep kd l ([] : List SealR) bl tg) (decide (mayN pv ep kd l ([] : List SealR) bl = 0)) = true)  : Calls Tryd.prog 3 #[.agg ([U64 sq, I64 5, .slice aiq niq ciq, U64 fs, I64 (mn), U64 pv, U64 ep, I64 (kd), .slice ai ni ci, .slice sa 0 sc, U64 bl] ++ cu8 tg ++ [U64 eq]).toArray] w (Post w [] (fun v L => v = .bool true ∧ L = [])) := by
 have hmx : maxLen = 9223372036854775807 := rfl
 refine enter (P := Tryd.prog) (f := 3) (fn := Tryd.f3) w [] 49 [] [.agg ([U64 sq, I64 5, .slice aiq niq ciq, U64 fs, I64 (mn), U64 pv, U64 ep, I64 (kd), .slice ai ni ci, .slice sa 0 sc, U64 bl] ++ cu8 tg ++ [U64 eq]).toArray] Tryd.func3 rfl rfl (by simp) (B2 (by simp) (by simp) (by simp)) ?_
 show JC _ _ _ [(0, .agg ([U64 sq, I64 5, .slice aiq niq ciq, U64 fs, I64 (mn), U64 pv, U64 ep, I64 (kd), .slice ai ni ci, .slice sa 0 sc, U64 bl] ++ cu8 tg ++ [U64 eq]).toArray)] _
 refine AI (AC (BG (CE (.agg ([U64 sq, I64 5, .slice aiq niq ciq, U64 fs, I64 (mn), U64 pv, U64 ep, I64 (kd), .slice ai ni ci, .slice sa 0 sc, U64 bl] ++ cu8 tg ++ [U64 eq]).toArray) ([U64 sq, I64 5, .slice aiq niq ciq, U64 fs, I64 (mn), U64 pv, U64 ep, I64 (kd), .slice ai ni ci, .slice sa 0 sc, U64 bl] ++ cu8 tg ++ [U64 eq]) rfl (by first | rfl | simp)) rfl ?_))
 rintro v1 L1 ⟨nb1, hnb1, rfl, rfl⟩
 show JL _ _ _ _ ((1, Ptr nb1 0) :: _) [⟨nb1, [U64 sq, I64 5, .slice aiq niq ciq, U64 fs, I64 (mn), U64 pv, U64 ep, I64 (kd), .slice ai ni ci, .slice sa 0 sc, U64 bl] ++ cu8 tg ++ [U64 eq], 31, (0, 0)⟩]
 refine AA _ (AF rfl) rfl ?_
 refine AK (AE (AI (AI (AC (BG (A2 17 [] (.bool true) (A5 _ Tryd.call17 rfl) (fun w1 hw1 => E5  w1 (GLw.at hw1 hW))) rfl ?_)))))
 rintro v1 L1 ⟨rfl, rfl⟩
 show JL _ _ _ _ ((7, .bool true) :: _) [_]
 refine AA (.bool (!true)) (C8 rfl) rfl ?_
 refine AK (AE (BT _ rfl rfl ?_))
 refine BM (AE (AI (AI (AC (AA (Ptr nb1 2) (AB 2 23 1 AS rfl BI rfl rfl) rfl ?_)))))
 refine AA (.slice aiq niq ciq) (AL rfl (AV BL (AY 0 rfl (AH (AH (AG (AG (Seg.head)))))))) rfl ?_
 refine AA (I64 niq) (C9 A8 rfl) rfl ?_
 refine AA (.bool (decide ((300:Int) < ((niq:Int))))) (AQ rfl rfl fun _ => C2 _ _) rfl ?_
 refine AA _ (AM rfl) rfl ?_
 refine AN 4 13 false _ (Ptr nb1 5) rfl rfl (decide_eq_false (by omega)) (AB 5 29 22 AS rfl CN rfl rfl) rfl ?_
 refine AN 4 13 false _ (Ptr nb1 7) rfl rfl (decide_eq_false (by omega)) (AB 2 26 4 A3 rfl BN rfl rfl) rfl ?_
 refine AN 4 13 false _ (.agg #[I64 (kd), .slice ai ni ci, .slice sa 0 sc, U64 bl]) rfl rfl (decide_eq_false (by omega)) (AL rfl (B1 CZ BN rfl (AY 0 rfl (CO (p := [U64 sq, I64 5, .slice aiq niq ciq, U64 fs, I64 (mn), U64 pv, U64 ep]) (q := cu8 tg ++ [U64 eq]) (vs := [I64 (kd), .slice ai ni ci, .slice sa 0 sc, U64 bl]) (by first | rfl | (simp only [List.append_assoc, List.nil_append, List.append_nil, List.cons_append]; done)) rfl)))) rfl ?_
 refine DB 4 13 false _ rfl rfl (decide_eq_false (by omega)) (A2 18 [.agg #[I64 (kd), .slice ai ni ci, .slice sa 0 sc, U64 bl]] (.bool (decide (LargeP ni 0))) (A5 _ Tryd.call18 rfl) (fun w1 hw1 => large_c (kd) ai ni ci l sa 0 sc ([] : List SealR) bl w1 )) rfl ?_
 rintro v1 L1 ⟨rfl, rfl⟩
 show JL _ _ _ _ ((17, .bool (decide (LargeP ni 0))) :: _) [_]
 refine AA _ (A0 _ rfl (decide_eq_false (by omega)) rfl) rfl ?_
 refine AK (AE (BT _ rfl (decide_eq_false hlg) ?_))
 refine BM (AE (AI (AC (AA (.agg ([U64 sq, I64 5, .slice aiq niq ciq, U64 fs, I64 (mn), U64 pv, U64 ep, I64 (kd), .slice ai ni ci, .slice sa 0 sc, U64 bl] ++ cu8 tg ++ [U64 eq]).toArray) (AL rfl (B1 CS CJ (by simp [htg]) (AY 0 rfl (A1 _)))) rfl ?_))))
 refine BS (A2 19 [.agg ([U64 sq, I64 5, .slice aiq niq ciq, U64 fs, I64 (mn), U64 pv, U64 ep, I64 (kd), .slice ai ni ci, .slice sa 0 sc, U64 bl] ++ cu8 tg ++ [U64 eq]).toArray] (.agg ([U64 sq, I64 5, .slice aiq niq ciq, U64 fs, I64 (mn), U64 pv, U64 ep, I64 (kd), .slice ai ni ci, .slice none 0 0, U64 bl] ++ cu8 tg ++ [U64 eq]).toArray) (A5 _ Tryd.call19 rfl) (fun w1 hw1 => reqZ_c sq (5:Int) aiq niq ciq lq fs (mn) pv ep (kd) ai ni ci l sa sc bl tg eq w1 hlq (by omega) (by omega) (by omega) (BP hw1 rfl hvq) hl (by omega) (by omega) (by omega) (BP hw1 rfl hv) (by omega) hnS htg)) rfl ?_
 show JL _ _ _ _ ((20, .agg ([U64 sq, I64 5, .slice aiq niq ciq, U64 fs, I64 (mn), U64 pv, U64 ep, I64 (kd), .slice ai ni ci, .slice none 0 0, U64 bl] ++ cu8 tg ++ [U64 eq]).toArray) :: _) [_]
 refine BG (DF _ ([U64 0, I64 0, .slice none 0 0, U64 0, I64 0, U64 0, U64 0, I64 0, .slice none 0 0, .slice none 0 0, U64 0] ++ cu8 (zr8 16) ++ [U64 0]) DZ (by kernel_rfl)) rfl ?_
 rintro v1 L1 ⟨nb2, hnb2, rfl, rfl⟩
 show JL _ _ _ _ ((3, Ptr nb2 0) :: _) [_, ⟨nb2, [U64 0, I64 0, .slice none 0 0, U64 0, I64 0, U64 0, U64 0, I64 0, .slice none 0 0, .slice none 0 0, U64 0] ++ cu8 (zr8 16) ++ [U64 0], 40, (0, 0)⟩]
 refine BS (C5 1 nb2 28 ([U64 0, I64 0, .slice none 0 0, U64 0, I64 0, U64 0, U64 0, I64 0, .slice none 0 0, .slice none 0 0, U64 0] ++ cu8 (zr8 16) ++ [U64 0]) 40 ([U64 sq, I64 5, .slice aiq niq ciq, U64 fs, I64 (mn), U64 pv, U64 ep, I64 (kd), .slice ai ni ci, .slice none 0 0, U64 bl] ++ cu8 tg ++ [U64 eq]) rfl rfl rfl CV (by simp [htg]) (D4 (D4 (by simp [Value.oneCell']) EZ) (by simp [Value.oneCell'])) (by simp [(CL 16)]) (DN (by simp [(CL 16), htg]))) rfl ?_
 show JL _ _ _ _ _ [_, ⟨nb2, [U64 sq, I64 5, .slice aiq niq ciq, U64 fs, I64 (mn), U64 pv, U64 ep, I64 (kd), .slice ai ni ci, .slice none 0 0, U64 bl] ++ cu8 tg ++ [U64 eq], 40, (0, 0)⟩]
 refine AK (AE (AI (AC (AA (.agg ([U64 sq, I64 5, .slice aiq niq ciq, U64 fs, I64 (mn), U64 pv, U64 ep, I64 (kd), .slice ai ni ci, .slice none 0 0, U64 bl] ++ cu8 tg ++ [U64 eq]).toArray) (AL rfl (B1 DW CV (by simp [htg]) (AY 1 rfl (A1 _)))) rfl ?_))))
 refine BS (A2 20 [.agg ([U64 sq, I64 5, .slice aiq niq ciq, U64 fs, I64 (mn), U64 pv, U64 ep, I64 (kd), .slice ai ni ci, .slice none 0 0, U64 bl] ++ cu8 tg ++ [U64 eq]).toArray] (.bool (reqR (5:Int) lq fs (mn) eq (blankB pv ep (kd) l ([] : List SealR) bl tg) (decide (mayN pv ep (kd) l ([] : List SealR) bl = 0)))) (A5 _ Tryd.call20 rfl) (fun w1 hw1 => EY sq (5:Int) aiq niq ciq lq fs (mn) pv ep (kd) ai ni ci l none 0 0 ([] : List SealR) bl tg eq w1 hlq (by omega) (by omega) (by omega) (BP hw1 rfl hvq) hl (by omega) (by omega) (by omega) (BP hw1 rfl hv) rfl (by omega) (by omega) (by omega) RdV.nil htg (by omega) (by omega))) rfl ?_
 show JL _ _ _ _ ((22, .bool (reqR (5:Int) lq fs (mn) eq (blankB pv ep (kd) l ([] : List SealR) bl tg) (decide (mayN pv ep (kd) l ([] : List SealR) bl = 0)))) :: _) [_, _]
 refine AA _ (AF rfl) rfl ?_
 refine AK (AE (AI (AC (AA (.agg ([U64 sq, I64 5, .slice aiq niq ciq, U64 fs, I64 (mn), U64 pv, U64 ep, I64 (kd), .slice ai ni ci, .slice sa 0 sc, U64 bl] ++ cu8 tg ++ [U64 eq]).toArray) (AL rfl (B1 CS CJ (by simp [htg]) (AY 0 rfl (A1 _)))) rfl ?_))))
 refine BG (BV 21 [.agg ([U64 sq, I64 5, .slice aiq niq ciq, U64 fs, I64 (mn), U64 pv, U64 ep, I64 (kd), .slice ai ni ci, .slice sa 0 sc, U64 bl] ++ cu8 tg ++ [U64 eq]).toArray] _ (A5 _ Tryd.call21 rfl) (fun w1 hw1 => putReq5_c sq aiq niq ciq lq fs (mn) pv ep (kd) ai ni ci l sa 0 sc ([] : List SealR) bl tg eq w1 hlq (by omega) (by omega) (by omega) (BP hw1 rfl hvq) hl (by omega) (by omega) (by omega) (BP hw1 rfl hv) rfl (by omega) (by omega) (by omega) RdV.nil htg (by omega) (by omega) hR)) rfl ?_
 rintro v1 L1 ⟨_, ⟨nb3, sp1, cp1, rfl, rfl, hc1, hc2, hc3⟩, rfl⟩
 show JL _ _ _ _ ((25, .tuple #[Slc nb3 0 17 cp1, .nilIface]) :: _) [_, _, ⟨nb3, cu8 ((numK 8 sq 8 ++ numK 1 (5:UInt64) 1) ++ numK 8 eq 8) ++ sp1, 5, (0, 0)⟩]
 refine AA _ (AM rfl) rfl ?_
 refine AA _ (CC rfl rfl) rfl ?_
 refine AA _ (CC rfl rfl) rfl ?_
 refine AA _ (AF rfl) rfl ?_
 refine AA _ (AF rfl) rfl ?_
 refine AK (AE (AI (AI (AC (AA (.agg ([U64 sq, I64 5, .slice aiq niq ciq, U64 fs, I64 (mn), U64 pv, U64 ep, I64 (kd), .slice ai ni ci, .slice sa 0 sc, U64 bl] ++ cu8 tg ++ [U64 eq]).toArray) (AL rfl (B1 CS CJ (by simp [htg]) (AY 0 rfl (A1 _)))) rfl ?_)))))
 refine BS (A2 22 [.agg ([U64 sq, I64 5, .slice aiq niq ciq, U64 fs, I64 (mn), U64 pv, U64 ep, I64 (kd), .slice ai ni ci, .slice sa 0 sc, U64 bl] ++ cu8 tg ++ [U64 eq]).toArray] (.bool (reqR (5:Int) lq fs (mn) eq (blankB pv ep (kd) l ([] : List SealR) bl tg) (decide (mayN pv ep (kd) l ([] : List SealR) bl = 0)))) (A5 _ Tryd.call22 rfl) (fun w1 hw1 => ED sq (5:Int) aiq niq ciq lq fs (mn) pv ep (kd) ai ni ci l sa 0 sc ([] : List SealR) bl tg eq w1 hlq (by omega) (by omega) (by omega) (BP hw1 rfl hvq) hl (by omega) (by omega) (by omega) (BP hw1 rfl hv) rfl (by omega) (by omega) (by omega) RdV.nil htg (by omega) (by omega))) rfl ?_
 show JL _ _ _ _ ((29, .bool (reqR (5:Int) lq fs (mn) eq (blankB pv ep (kd) l ([] : List SealR) bl tg) (decide (mayN pv ep (kd) l ([] : List SealR) bl = 0)))) :: _) [_, _, _]
 refine AA _ (AM rfl) rfl ?_
 refine AA (.bool (!((reqR (5:Int) lq fs (mn) eq (blankB pv ep (kd) l ([] : List SealR) bl tg) (decide (mayN pv ep (kd) l ([] : List SealR) bl = 0))) == (reqR (5:Int) lq fs (mn) eq (blankB pv ep (kd) l ([] : List SealR) bl tg) (decide (mayN pv ep (kd) l ([] : List SealR) bl = 0)))))) (D5 _ _ _ rfl rfl (fun _ => EQ ..) fun _ => neq_bool Tryd.underlying4) rfl ?_
 refine AK (AE (BT _ rfl (bnotT (beq_self_eq_true _)) ?_))
 refine BM (AE (AI (AI (AC (AA _ (AM rfl) rfl ?_)))))
 refine AA (.bool (!(reqR (5:Int) lq fs (mn) eq (blankB pv ep (kd) l ([] : List SealR) bl tg) (decide (mayN pv ep (kd) l ([] : List SealR) bl = 0))))) (C8 rfl) rfl ?_
 refine AK (AE (BT _ rfl (bnotT hR) ?_))
 refine BM (AE (AI (AC (AA _ (AM rfl) rfl ?_))))
 refine AA (.bool true) (D5 _ _ _ rfl rfl (fun _ => EK ..) fun _ => D6 CT) rfl ?_
 refine AA _ (AM rfl) rfl ?_
 refine AN 2 43 true _ _ rfl rfl rfl (AM rfl) rfl ?_
 refine AN 2 43 true _ (.agg ([U64 sq, I64 5, .slice aiq niq ciq, U64 fs, I64 (mn), U64 pv, U64 ep, I64 (kd), .slice ai ni ci, .slice none 0 0, U64 bl] ++ cu8 tg ++ [U64 eq]).toArray) rfl rfl rfl (AL rfl (B1 DW CV (by simp [htg]) (AY 1 rfl (A1 _)))) rfl ?_
 refine DB 2 43 true _ rfl rfl rfl (BV 25 [.agg ([U64 sq, I64 5, .slice aiq niq ciq, U64 fs, I64 (mn), U64 pv, U64 ep, I64 (kd), .slice ai ni ci, .slice none 0 0, U64 bl] ++ cu8 tg ++ [U64 eq]).toArray] _ (A5 _ Tryd.call25 rfl) (fun w1 hw1 => rputReq5_c sq aiq niq ciq lq fs (mn) pv ep (kd) ai ni ci l none 0 0 ([] : List SealR) bl tg eq w1 hlq (by omega) (by omega) (by omega) (BP hw1 rfl hvq) hl (by omega) (by omega) (by omega) (BP hw1 rfl hv) rfl (by omega) (by omega) (by omega) RdV.nil htg (by omega) (by omega) hR)) rfl ?_
 rintro v1 L1 ⟨_, ⟨nb4, sp2, cp2, rfl, rfl, hc4, hc5, hc6⟩, rfl⟩
 show JL _ _ _ _ ((46, Slc nb4 0 17 cp2) :: _) [_, _, _, ⟨nb4, cu8 ((numK 8 sq 8 ++ numK 1 (5:UInt64) 1) ++ numK 8 eq 8) ++ sp2, 5, (0, 0)⟩]
 refine DB 2 43 true _ rfl rfl rfl (A2 24 [Slc nb3 0 17 cp1, Slc nb4 0 17 cp2] (.bool (decide (((numK 8 sq 8 ++ numK 1 (5:UInt64) 1) ++ numK 8 eq 8) = ((numK 8 sq 8 ++ numK 1 (5:UInt64) 1) ++ numK 8 eq 8)))) (A5 _ Tryd.call24 rfl) (fun w1 hw1 => bytes_c (some ⟨nb3, 0, none⟩) (some ⟨nb4, 0, none⟩) 17 17 cp1 cp2 ((numK 8 sq 8 ++ numK 1 (5:UInt64) 1) ++ numK 8 eq 8) ((numK 8 sq 8 ++ numK 1 (5:UInt64) 1) ++ numK 8 eq 8) w1 (show ((numK 8 sq 8 ++ numK 1 (5:UInt64) 1) ++ numK 8 eq 8).length = 17 from (show ((numK 8 sq 8 ++ numK 1 (5:UInt64) 1) ++ numK 8 eq 8).length = 17 from (by simp [BE]))) (show ((numK 8 sq 8 ++ numK 1 (5:UInt64) 1) ++ numK 8 eq 8).length = 17 from (show ((numK 8 sq 8 ++ numK 1 (5:UInt64) 1) ++ numK 8 eq 8).length = 17 from (by simp [BE]))) (RdB.of hw1 (AY 2 rfl (AH (A1 _))) (by simp)) (RdB.of hw1 (AY 3 rfl (AH (A1 _))) (by simp)))) rfl ?_
 rintro v1 L1 ⟨rfl, rfl⟩
 show JL _ _ _ _ ((47, .bool (decide (((numK 8 sq 8 ++ numK 1 (5:UInt64) 1) ++ numK 8 eq 8) = ((numK 8 sq 8 ++ numK 1 (5:UInt64) 1) ++ numK 8 eq 8)))) :: _) [_, _, _, _]
 refine AA _ (BD _ rfl rfl rfl) rfl ?_
 refine AA _ (AF rfl) rfl ?_
 refine AK (AE (BA (BF [false, false, false, false] ?_)))
 show JQ _ _ _ _ []
 refine A9 (.bool (decide (((numK 8 sq 8 ++ numK 1 (5:UInt64) 1) ++ numK 8 eq 8) = ((numK 8 sq 8 ++ numK 1 (5:UInt64) 1) ++ numK 8 eq 8)))) (res1 Tryd.results3 (A7 rfl)) fun w1 hw1 => ?_
 exact ⟨_, [], rfl, ⟨congrArg Value.bool (decide_eq_true rfl), rfl⟩, hw1.sub (by simp) (by simp)⟩
theorem wrBP_c (sq : UInt64) (qk : Int) (aiq : Option Addr) (niq ciq : Nat) (lq : List UInt64) (fs : UInt64) (mn : Int) (pv ep : UInt64) (kd : Int) (ai : Option Addr) (ni ci : Nat) (l : List UInt64) (sa : Option Addr) (ns sc : Nat) (ls : List SealR) (bl : UInt64) (tg : List UInt8) (eq : UInt64)  (w : World) (hlq : lq.length = niq) (hnmq : niq ≤ 2000000) (hncq : niq ≤ ciq) (hcmq : ciq ≤ maxLen) (hvq : RdV w aiq (cu64 lq)) (hl : l.length = ni) (hnm : ni ≤ 2000000) (hnc : ni ≤ ci) (hcm : ci ≤ maxLen) (hv : RdV w ai (cu64 l)) (hls : ls.length = ns) (hnn : ns ≤ 2000000) (hnd : ns ≤ sc) (hcn : sc ≤ maxLen) (hs : RdV w sa (ls.flatMap sealC)) (hnI : ai = none → ci = 0) (hnS : sa = none → sc = 0) (htg : tg.length = 16) (hp0 : 0 < ns) (hbq : niq ≤ 300) (hlg : ¬ LargeP ni ns) (hbi : ni ≤ 300) (hbs : ns ≤ 300) (hW : GLw w) (hR : reqR qk lq fs mn eq (blankB pv ep kd l ls bl tg) (decide (mayN pv ep kd l ls bl = 0)) = false)  : Calls Tryd.prog 3 #[.agg ([U64 sq, I64 (qk), .slice aiq niq ciq, U64 fs, I64 (mn), U64 pv, U64 ep, I64 (kd), .slice ai ni ci, .slice sa ns sc, U64 bl] ++ cu8 tg ++ [U64 eq]).toArray] w (Post w [] (fun v L => v = .bool true ∧ L = [])) := by
 have hmx : maxLen = 9223372036854775807 := rfl
 refine enter (P := Tryd.prog) (f := 3) (fn := Tryd.f3) w [] 49 [] [.agg ([U64 sq, I64 (qk), .slice aiq niq ciq, U64 fs, I64 (mn), U64 pv, U64 ep, I64 (kd), .slice ai ni ci, .slice sa ns sc, U64 bl] ++ cu8 tg ++ [U64 eq]).toArray] Tryd.func3 rfl rfl (by simp) (B2 (by simp) (by simp) (by simp)) ?_
 show JC _ _ _ [(0, .agg ([U64 sq, I64 (qk), .slice aiq niq ciq, U64 fs, I64 (mn), U64 pv, U64 ep, I64 (kd), .slice ai ni ci, .slice sa ns sc, U64 bl] ++ cu8 tg ++ [U64 eq]).toArray)] _
 refine AI (AC (BG (CE (.agg ([U64 sq, I64 (qk), .slice aiq niq ciq, U64 fs, I64 (mn), U64 pv, U64 ep, I64 (kd), .slice ai ni ci, .slice sa ns sc, U64 bl] ++ cu8 tg ++ [U64 eq]).toArray) ([U64 sq, I64 (qk), .slice aiq niq ciq, U64 fs, I64 (mn), U64 pv, U64 ep, I64 (kd), .slice ai ni ci, .slice sa ns sc, U64 bl] ++ cu8 tg ++ [U64 eq]) rfl (by first | rfl | simp)) rfl ?_))
 rintro v1 L1 ⟨nb1, hnb1, rfl, rfl⟩
 show JL _ _ _ _ ((1, Ptr nb1 0) :: _) [⟨nb1, [U64 sq, I64 (qk), .slice aiq niq ciq, U64 fs, I64 (mn), U64 pv, U64 ep, I64 (kd), .slice ai ni ci, .slice sa ns sc, U64 bl] ++ cu8 tg ++ [U64 eq], 31, (0, 0)⟩]
 refine AA _ (AF rfl) rfl ?_
 refine AK (AE (AI (AI (AC (BG (A2 17 [] (.bool true) (A5 _ Tryd.call17 rfl) (fun w1 hw1 => E5  w1 (GLw.at hw1 hW))) rfl ?_)))))
 rintro v1 L1 ⟨rfl, rfl⟩
 show JL _ _ _ _ ((7, .bool true) :: _) [_]
 refine AA (.bool (!true)) (C8 rfl) rfl ?_
 refine AK (AE (BT _ rfl rfl ?_))
 refine BM (AE (AI (AI (AC (AA (Ptr nb1 2) (AB 2 23 1 AS rfl BI rfl rfl) rfl ?_)))))
 refine AA (.slice aiq niq ciq) (AL rfl (AV BL (AY 0 rfl (AH (AH (AG (AG (Seg.head)))))))) rfl ?_
 refine AA (I64 niq) (C9 A8 rfl) rfl ?_
 refine AA (.bool (decide ((300:Int) < ((niq:Int))))) (AQ rfl rfl fun _ => C2 _ _) rfl ?_
 refine AA _ (AM rfl) rfl ?_
 refine AN 4 13 false _ (Ptr nb1 5) rfl rfl (decide_eq_false (by omega)) (AB 5 29 22 AS rfl CN rfl rfl) rfl ?_
 refine AN 4 13 false _ (Ptr nb1 7) rfl rfl (decide_eq_false (by omega)) (AB 2 26 4 A3 rfl BN rfl rfl) rfl ?_
 refine AN 4 13 false _ (.agg #[I64 (kd), .slice ai ni ci, .slice sa ns sc, U64 bl]) rfl rfl (decide_eq_false (by omega)) (AL rfl (B1 CZ BN rfl (AY 0 rfl (CO (p := [U64 sq, I64 (qk), .slice aiq niq ciq, U64 fs, I64 (mn), U64 pv, U64 ep]) (q := cu8 tg ++ [U64 eq]) (vs := [I64 (kd), .slice ai ni ci, .slice sa ns sc, U64 bl]) (by first | rfl | (simp only [List.append_assoc, List.nil_append, List.append_nil, List.cons_append]; done)) rfl)))) rfl ?_
 refine DB 4 13 false _ rfl rfl (decide_eq_false (by omega)) (A2 18 [.agg #[I64 (kd), .slice ai ni ci, .slice sa ns sc, U64 bl]] (.bool (decide (LargeP ni ns))) (A5 _ Tryd.call18 rfl) (fun w1 hw1 => large_c (kd) ai ni ci l sa ns sc ls bl w1 )) rfl ?_
 rintro v1 L1 ⟨rfl, rfl⟩
 show JL _ _ _ _ ((17, .bool (decide (LargeP ni ns))) :: _) [_]
 refine AA _ (A0 _ rfl (decide_eq_false (by omega)) rfl) rfl ?_
 refine AK (AE (BT _ rfl (decide_eq_false hlg) ?_))
 refine BM (AE (AI (AC (AA (.agg ([U64 sq, I64 (qk), .slice aiq niq ciq, U64 fs, I64 (mn), U64 pv, U64 ep, I64 (kd), .slice ai ni ci, .slice sa ns sc, U64 bl] ++ cu8 tg ++ [U64 eq]).toArray) (AL rfl (B1 CS CJ (by simp [htg]) (AY 0 rfl (A1 _)))) rfl ?_))))
 refine BG (BV 19 [.agg ([U64 sq, I64 (qk), .slice aiq niq ciq, U64 fs, I64 (mn), U64 pv, U64 ep, I64 (kd), .slice ai ni ci, .slice sa ns sc, U64 bl] ++ cu8 tg ++ [U64 eq]).toArray] _ (A5 _ Tryd.call19 rfl) (fun w1 hw1 => reqP_c sq (qk) aiq niq ciq lq fs (mn) pv ep (kd) ai ni ci l sa ns sc ls bl tg eq w1 hlq (by omega) (by omega) (by omega) (BP hw1 rfl hvq) hl (by omega) (by omega) (by omega) (BP hw1 rfl hv) hls (by omega) (by omega) (by omega) (BP hw1 rfl hs) (by omega) htg)) rfl ?_
 rintro v1 L1 ⟨_, ⟨nb2, sp1, cp1, rfl, rfl, hc1, hc2, hc3⟩, rfl⟩
 show JL _ _ _ _ ((20, .agg ([U64 sq, I64 (qk), .slice aiq niq ciq, U64 fs, I64 (mn), U64 pv, U64 ep, I64 (kd), .slice ai ni ci, Slc nb2 0 ns cp1, U64 bl] ++ cu8 tg ++ [U64 eq]).toArray) :: _) [_, ⟨nb2, ls.flatMap sealC ++ sp1, 164, (0, 0)⟩]
 refine BG (DF _ ([U64 0, I64 0, .slice none 0 0, U64 0, I64 0, U64 0, U64 0, I64 0, .slice none 0 0, .slice none 0 0, U64 0] ++ cu8 (zr8 16) ++ [U64 0]) DZ (by kernel_rfl)) rfl ?_
 rintro v1 L1 ⟨nb3, hnb3, rfl, rfl⟩
 show JL _ _ _ _ ((3, Ptr nb3 0) :: _) [_, _, ⟨nb3, [U64 0, I64 0, .slice none 0 0, U64 0, I64 0, U64 0, U64 0, I64 0, .slice none 0 0, .slice none 0 0, U64 0] ++ cu8 (zr8 16) ++ [U64 0], 40, (0, 0)⟩]
 refine BS (C5 2 nb3 28 ([U64 0, I64 0, .slice none 0 0, U64 0, I64 0, U64 0, U64 0, I64 0, .slice none 0 0, .slice none 0 0, U64 0] ++ cu8 (zr8 16) ++ [U64 0]) 40 ([U64 sq, I64 (qk), .slice aiq niq ciq, U64 fs, I64 (mn), U64 pv, U64 ep, I64 (kd), .slice ai ni ci, Slc nb2 0 ns cp1, U64 bl] ++ cu8 tg ++ [U64 eq]) rfl rfl rfl CV (by simp [htg]) (D4 (D4 (by simp [Value.oneCell']) EZ) (by simp [Value.oneCell'])) (by simp [(CL 16)]) (DN (by simp [(CL 16), htg]))) rfl ?_
 show JL _ _ _ _ _ [_, _, ⟨nb3, [U64 sq, I64 (qk), .slice aiq niq ciq, U64 fs, I64 (mn), U64 pv, U64 ep, I64 (kd), .slice ai ni ci, Slc nb2 0 ns cp1, U64 bl] ++ cu8 tg ++ [U64 eq], 40, (0, 0)⟩]
 refine AK (AE (AI (AC (AA (.agg ([U64 sq, I64 (qk), .slice aiq niq ciq, U64 fs, I64 (mn), U64 pv, U64 ep, I64 (kd), .slice ai ni ci, Slc nb2 0 ns cp1, U64 bl] ++ cu8 tg ++ [U64 eq]).toArray) (AL rfl (B1 DW CV (by simp [htg]) (AY 2 rfl (A1 _)))) rfl ?_))))
 refine BS (A2 20 [.agg ([U64 sq, I64 (qk), .slice aiq niq ciq, U64 fs, I64 (mn), U64 pv, U64 ep, I64 (kd), .slice ai ni ci, Slc nb2 0 ns cp1, U64 bl] ++ cu8 tg ++ [U64 eq]).toArray] (.bool (reqR (qk) lq fs (mn) eq (blankB pv ep (kd) l ls bl tg) (decide (mayN pv ep (kd) l ls bl = 0)))) (A5 _ Tryd.call20 rfl) (fun w1 hw1 => EY sq (qk) aiq niq ciq lq fs (mn) pv ep (kd) ai ni ci l (some ⟨nb2, 0, none⟩) ns cp1 ls bl tg eq w1 hlq (by omega) (by omega) (by omega) (BP hw1 rfl hvq) hl (by omega) (by omega) (by omega) (BP hw1 rfl hv) hls (by omega) (by omega) (by omega) (RdV.of hw1 (AY 1 rfl (AH (A1 _)))) htg (by omega) (by omega))) rfl ?_
 show JL _ _ _ _ ((22, .bool (reqR (qk) lq fs (mn) eq (blankB pv ep (kd) l ls bl tg) (decide (mayN pv ep (kd) l ls bl = 0)))) :: _) [_, _, _]
 refine AA _ (AF rfl) rfl ?_
 refine AK (AE (AI (AC (AA (.agg ([U64 sq, I64 (qk), .slice aiq niq ciq, U64 fs, I64 (mn), U64 pv, U64 ep, I64 (kd), .slice ai ni ci, .slice sa ns sc, U64 bl] ++ cu8 tg ++ [U64 eq]).toArray) (AL rfl (B1 CS CJ (by simp [htg]) (AY 0 rfl (A1 _)))) rfl ?_))))
 refine BS (A2 21 [.agg ([U64 sq, I64 (qk), .slice aiq niq ciq, U64 fs, I64 (mn), U64 pv, U64 ep, I64 (kd), .slice ai ni ci, .slice sa ns sc, U64 bl] ++ cu8 tg ++ [U64 eq]).toArray] (.tuple #[.slice none 0 0, .iface 50 (I64 2)]) (A5 _ Tryd.call21 rfl) (fun w1 hw1 => putReqB_c sq (qk) aiq niq ciq lq fs (mn) pv ep (kd) ai ni ci l sa ns sc ls bl tg eq w1 hlq (by omega) (by omega) (by omega) (BP hw1 rfl hvq) hl (by omega) (by omega) (by omega) (BP hw1 rfl hv) hls (by omega) (by omega) (by omega) (BP hw1 rfl hs) htg (by omega) (by omega) hR)) rfl ?_
 show JL _ _ _ _ ((25, .tuple #[.slice none 0 0, .iface 50 (I64 2)]) :: _) [_, _, _]
 refine AA _ (AM rfl) rfl ?_
 refine AA _ (CC rfl rfl) rfl ?_
 refine AA _ (CC rfl rfl) rfl ?_
 refine AA _ (AF rfl) rfl ?_
 refine AA _ (AF rfl) rfl ?_
 refine AK (AE (AI (AI (AC (AA (.agg ([U64 sq, I64 (qk), .slice aiq niq ciq, U64 fs, I64 (mn), U64 pv, U64 ep, I64 (kd), .slice ai ni ci, .slice sa ns sc, U64 bl] ++ cu8 tg ++ [U64 eq]).toArray) (AL rfl (B1 CS CJ (by simp [htg]) (AY 0 rfl (A1 _)))) rfl ?_)))))
 refine BS (A2 22 [.agg ([U64 sq, I64 (qk), .slice aiq niq ciq, U64 fs, I64 (mn), U64 pv, U64 ep, I64 (kd), .slice ai ni ci, .slice sa ns sc, U64 bl] ++ cu8 tg ++ [U64 eq]).toArray] (.bool (reqR (qk) lq fs (mn) eq (blankB pv ep (kd) l ls bl tg) (decide (mayN pv ep (kd) l ls bl = 0)))) (A5 _ Tryd.call22 rfl) (fun w1 hw1 => ED sq (qk) aiq niq ciq lq fs (mn) pv ep (kd) ai ni ci l sa ns sc ls bl tg eq w1 hlq (by omega) (by omega) (by omega) (BP hw1 rfl hvq) hl (by omega) (by omega) (by omega) (BP hw1 rfl hv) hls (by omega) (by omega) (by omega) (BP hw1 rfl hs) htg (by omega) (by omega))) rfl ?_
 show JL _ _ _ _ ((29, .bool (reqR (qk) lq fs (mn) eq (blankB pv ep (kd) l ls bl tg) (decide (mayN pv ep (kd) l ls bl = 0)))) :: _) [_, _, _]
 refine AA _ (AM rfl) rfl ?_
 refine AA (.bool (!((reqR (qk) lq fs (mn) eq (blankB pv ep (kd) l ls bl tg) (decide (mayN pv ep (kd) l ls bl = 0))) == (reqR (qk) lq fs (mn) eq (blankB pv ep (kd) l ls bl tg) (decide (mayN pv ep (kd) l ls bl = 0)))))) (D5 _ _ _ rfl rfl (fun _ => EQ ..) fun _ => neq_bool Tryd.underlying4) rfl ?_
 refine AK (AE (BT _ rfl (bnotT (beq_self_eq_true _)) ?_))
 refine BM (AE (AI (AI (AC (AA _ (AM rfl) rfl ?_)))))
 refine AA (.bool (!(reqR (qk) lq fs (mn) eq (blankB pv ep (kd) l ls bl tg) (decide (mayN pv ep (kd) l ls bl = 0))))) (C8 rfl) rfl ?_
 refine AK (AE (B5 _ rfl (bnotF hR) ?_))
 refine AI (AC (AA _ (AM rfl) rfl ?_))
 refine BS (A2 23 [.iface 50 (I64 2), I64 2] (.bool true) (A5 _ Tryd.call23 rfl) (fun w1 hw1 => is_c 2 2 w1)) rfl ?_
 show JL _ _ _ _ ((35, .bool true) :: _) [_, _, _]
 refine AA _ (AM rfl) rfl ?_
 refine AN 2 36 true _ _ rfl rfl rfl (AM rfl) rfl ?_
 refine AN 2 36 true _ (I64 0) rfl rfl rfl (C9 AW rfl) rfl ?_
 refine AN 2 36 true _ (.bool (decide ((0:Int) = (0:Int)))) rfl rfl rfl (AQ rfl rfl fun _ => A4 _ _) rfl ?_
 refine AA _ (BD _ rfl rfl rfl) rfl ?_
 refine AA _ (AF rfl) rfl ?_
 refine AK (AE (BA (AU (BF [false, false, false] ?_))))
 show JQ _ _ _ _ []
 refine A9 (.bool (decide ((0:Int) = (0:Int)))) (res1 Tryd.results3 (A7 rfl)) fun w1 hw1 => ?_
 exact ⟨_, [], rfl, ⟨congrArg Value.bool (by decide), rfl⟩, hw1.sub (by simp) (by simp)⟩
theorem wrBZ_c (sq : UInt64) (qk : Int) (aiq : Option Addr) (niq ciq : Nat) (lq : List UInt64) (fs : UInt64) (mn : Int) (pv ep : UInt64) (kd : Int) (ai : Option Addr) (ni ci : Nat) (l : List UInt64) (sa : Option Addr) (sc : Nat) (bl : UInt64) (tg : List UInt8) (eq : UInt64)  (w : World) (hlq : lq.length = niq) (hnmq : niq ≤ 2000000) (hncq : niq ≤ ciq) (hcmq : ciq ≤ maxLen) (hvq : RdV w aiq (cu64 lq)) (hl : l.length = ni) (hnm : ni ≤ 2000000) (hnc : ni ≤ ci) (hcm : ci ≤ maxLen) (hv : RdV w ai (cu64 l)) (hcs : sc ≤ maxLen) (hnS : sa = none → sc = 0) (hnI : ai = none → ci = 0) (htg : tg.length = 16) (hbq : niq ≤ 300) (hlg : ¬ LargeP ni 0) (hbi : ni ≤ 300) (hW : GLw w) (hR : reqR qk lq fs mn eq (blankB pv ep kd l ([] : List SealR) bl tg) (decide (mayN pv ep kd l ([] : List SealR) bl = 0)) = false)  : Calls Tryd.prog 3 #[.agg ([U64 sq, I64 (qk), .slice aiq niq ciq, U64 fs, I64 (mn), U64 pv, U64 ep, I64 (kd), .slice ai ni ci, .slice sa 0 sc, U64 bl] ++ cu8 tg ++ [U64 eq]).toArray] w (Post w [] (fun v L => v = .bool true ∧ L = [])) := by
 have hmx : maxLen = 9223372036854775807 := rfl
 refine enter (P := Tryd.prog) (f := 3) (fn := Tryd.f3) w [] 49 [] [.agg ([U64 sq, I64 (qk), .slice aiq niq ciq, U64 fs, I64 (mn), U64 pv, U64 ep, I64 (kd), .slice ai ni ci, .slice sa 0 sc, U64 bl] ++ cu8 tg ++ [U64 eq]).toArray] Tryd.func3 rfl rfl (by simp) (B2 (by simp) (by simp) (by simp)) ?_
 show JC _ _ _ [(0, .agg ([U64 sq, I64 (qk), .slice aiq niq ciq, U64 fs, I64 (mn), U64 pv, U64 ep, I64 (kd), .slice ai ni ci, .slice sa 0 sc, U64 bl] ++ cu8 tg ++ [U64 eq]).toArray)] _
 refine AI (AC (BG (CE (.agg ([U64 sq, I64 (qk), .slice aiq niq ciq, U64 fs, I64 (mn), U64 pv, U64 ep, I64 (kd), .slice ai ni ci, .slice sa 0 sc, U64 bl] ++ cu8 tg ++ [U64 eq]).toArray) ([U64 sq, I64 (qk), .slice aiq niq ciq, U64 fs, I64 (mn), U64 pv, U64 ep, I64 (kd), .slice ai ni ci, .slice sa 0 sc, U64 bl] ++ cu8 tg ++ [U64 eq]) rfl (by first | rfl | simp)) rfl ?_))
 rintro v1 L1 ⟨nb1, hnb1, rfl, rfl⟩
 show JL _ _ _ _ ((1, Ptr nb1 0) :: _) [⟨nb1, [U64 sq, I64 (qk), .slice aiq niq ciq, U64 fs, I64 (mn), U64 pv, U64 ep, I64 (kd), .slice ai ni ci, .slice sa 0 sc, U64 bl] ++ cu8 tg ++ [U64 eq], 31, (0, 0)⟩]
 refine AA _ (AF rfl) rfl ?_
 refine AK (AE (AI (AI (AC (BG (A2 17 [] (.bool true) (A5 _ Tryd.call17 rfl) (fun w1 hw1 => E5  w1 (GLw.at hw1 hW))) rfl ?_)))))
 rintro v1 L1 ⟨rfl, rfl⟩
 show JL _ _ _ _ ((7, .bool true) :: _) [_]
 refine AA (.bool (!true)) (C8 rfl) rfl ?_
 refine AK (AE (BT _ rfl rfl ?_))
 refine BM (AE (AI (AI (AC (AA (Ptr nb1 2) (AB 2 23 1 AS rfl BI rfl rfl) rfl ?_)))))
 refine AA (.slice aiq niq ciq) (AL rfl (AV BL (AY 0 rfl (AH (AH (AG (AG (Seg.head)))))))) rfl ?_
 refine AA (I64 niq) (C9 A8 rfl) rfl ?_
 refine AA (.bool (decide ((300:Int) < ((niq:Int))))) (AQ rfl rfl fun _ => C2 _ _) rfl ?_
 refine AA _ (AM rfl) rfl ?_
 refine AN 4 13 false _ (Ptr nb1 5) rfl rfl (decide_eq_false (by omega)) (AB 5 29 22 AS rfl CN rfl rfl) rfl ?_
 refine AN 4 13 false _ (Ptr nb1 7) rfl rfl (decide_eq_false (by omega)) (AB 2 26 4 A3 rfl BN rfl rfl) rfl ?_
 refine AN 4 13 false _ (.agg #[I64 (kd), .slice ai ni ci, .slice sa 0 sc, U64 bl]) rfl rfl (decide_eq_false (by omega)) (AL rfl (B1 CZ BN rfl (AY 0 rfl (CO (p := [U64 sq, I64 (qk), .slice aiq niq ciq, U64 fs, I64 (mn), U64 pv, U64 ep]) (q := cu8 tg ++ [U64 eq]) (vs := [I64 (kd), .slice ai ni ci, .slice sa 0 sc, U64 bl]) (by first | rfl | (simp only [List.append_assoc, List.nil_append, List.append_nil, List.cons_append]; done)) rfl)))) rfl ?_
 refine DB 4 13 false _ rfl rfl (decide_eq_false (by omega)) (A2 18 [.agg #[I64 (kd), .slice ai ni ci, .slice sa 0 sc, U64 bl]] (.bool (decide (LargeP ni 0))) (A5 _ Tryd.call18 rfl) (fun w1 hw1 => large_c (kd) ai ni ci l sa 0 sc ([] : List SealR) bl w1 )) rfl ?_
 rintro v1 L1 ⟨rfl, rfl⟩
 show JL _ _ _ _ ((17, .bool (decide (LargeP ni 0))) :: _) [_]
 refine AA _ (A0 _ rfl (decide_eq_false (by omega)) rfl) rfl ?_
 refine AK (AE (BT _ rfl (decide_eq_false hlg) ?_))
 refine BM (AE (AI (AC (AA (.agg ([U64 sq, I64 (qk), .slice aiq niq ciq, U64 fs, I64 (mn), U64 pv, U64 ep, I64 (kd), .slice ai ni ci, .slice sa 0 sc, U64 bl] ++ cu8 tg ++ [U64 eq]).toArray) (AL rfl (B1 CS CJ (by simp [htg]) (AY 0 rfl (A1 _)))) rfl ?_))))
 refine BS (A2 19 [.agg ([U64 sq, I64 (qk), .slice aiq niq ciq, U64 fs, I64 (mn), U64 pv, U64 ep, I64 (kd), .slice ai ni ci, .slice sa 0 sc, U64 bl] ++ cu8 tg ++ [U64 eq]).toArray] (.agg ([U64 sq, I64 (qk), .slice aiq niq ciq, U64 fs, I64 (mn), U64 pv, U64 ep, I64 (kd), .slice ai ni ci, .slice none 0 0, U64 bl] ++ cu8 tg ++ [U64 eq]).toArray) (A5 _ Tryd.call19 rfl) (fun w1 hw1 => reqZ_c sq (qk) aiq niq ciq lq fs (mn) pv ep (kd) ai ni ci l sa sc bl tg eq w1 hlq (by omega) (by omega) (by omega) (BP hw1 rfl hvq) hl (by omega) (by omega) (by omega) (BP hw1 rfl hv) (by omega) hnS htg)) rfl ?_
 show JL _ _ _ _ ((20, .agg ([U64 sq, I64 (qk), .slice aiq niq ciq, U64 fs, I64 (mn), U64 pv, U64 ep, I64 (kd), .slice ai ni ci, .slice none 0 0, U64 bl] ++ cu8 tg ++ [U64 eq]).toArray) :: _) [_]
 refine BG (DF _ ([U64 0, I64 0, .slice none 0 0, U64 0, I64 0, U64 0, U64 0, I64 0, .slice none 0 0, .slice none 0 0, U64 0] ++ cu8 (zr8 16) ++ [U64 0]) DZ (by kernel_rfl)) rfl ?_
 rintro v1 L1 ⟨nb2, hnb2, rfl, rfl⟩
 show JL _ _ _ _ ((3, Ptr nb2 0) :: _) [_, ⟨nb2, [U64 0, I64 0, .slice none 0 0, U64 0, I64 0, U64 0, U64 0, I64 0, .slice none 0 0, .slice none 0 0, U64 0] ++ cu8 (zr8 16) ++ [U64 0], 40, (0, 0)⟩]
 refine BS (C5 1 nb2 28 ([U64 0, I64 0, .slice none 0 0, U64 0, I64 0, U64 0, U64 0, I64 0, .slice none 0 0, .slice none 0 0, U64 0] ++ cu8 (zr8 16) ++ [U64 0]) 40 ([U64 sq, I64 (qk), .slice aiq niq ciq, U64 fs, I64 (mn), U64 pv, U64 ep, I64 (kd), .slice ai ni ci, .slice none 0 0, U64 bl] ++ cu8 tg ++ [U64 eq]) rfl rfl rfl CV (by simp [htg]) (D4 (D4 (by simp [Value.oneCell']) EZ) (by simp [Value.oneCell'])) (by simp [(CL 16)]) (DN (by simp [(CL 16), htg]))) rfl ?_
 show JL _ _ _ _ _ [_, ⟨nb2, [U64 sq, I64 (qk), .slice aiq niq ciq, U64 fs, I64 (mn), U64 pv, U64 ep, I64 (kd), .slice ai ni ci, .slice none 0 0, U64 bl] ++ cu8 tg ++ [U64 eq], 40, (0, 0)⟩]
 refine AK (AE (AI (AC (AA (.agg ([U64 sq, I64 (qk), .slice aiq niq ciq, U64 fs, I64 (mn), U64 pv, U64 ep, I64 (kd), .slice ai ni ci, .slice none 0 0, U64 bl] ++ cu8 tg ++ [U64 eq]).toArray) (AL rfl (B1 DW CV (by simp [htg]) (AY 1 rfl (A1 _)))) rfl ?_))))
 refine BS (A2 20 [.agg ([U64 sq, I64 (qk), .slice aiq niq ciq, U64 fs, I64 (mn), U64 pv, U64 ep, I64 (kd), .slice ai ni ci, .slice none 0 0, U64 bl] ++ cu8 tg ++ [U64 eq]).toArray] (.bool (reqR (qk) lq fs (mn) eq (blankB pv ep (kd) l ([] : List SealR) bl tg) (decide (mayN pv ep (kd) l ([] : List SealR) bl = 0)))) (A5 _ Tryd.call20 rfl) (fun w1 hw1 => EY sq (qk) aiq niq ciq lq fs (mn) pv ep (kd) ai ni ci l none 0 0 ([] : List SealR) bl tg eq w1 hlq (by omega) (by omega) (by omega) (BP hw1 rfl hvq) hl (by omega) (by omega) (by omega) (BP hw1 rfl hv) rfl (by omega) (by omega) (by omega) RdV.nil htg (by omega) (by omega))) rfl ?_
 show JL _ _ _ _ ((22, .bool (reqR (qk) lq fs (mn) eq (blankB pv ep (kd) l ([] : List SealR) bl tg) (decide (mayN pv ep (kd) l ([] : List SealR) bl = 0)))) :: _) [_, _]
 refine AA _ (AF rfl) rfl ?_
 refine AK (AE (AI (AC (AA (.agg ([U64 sq, I64 (qk), .slice aiq niq ciq, U64 fs, I64 (mn), U64 pv, U64 ep, I64 (kd), .slice ai ni ci, .slice sa 0 sc, U64 bl] ++ cu8 tg ++ [U64 eq]).toArray) (AL rfl (B1 CS CJ (by simp [htg]) (AY 0 rfl (A1 _)))) rfl ?_))))
 refine BS (A2 21 [.agg ([U64 sq, I64 (qk), .slice aiq niq ciq, U64 fs, I64 (mn), U64 pv, U64 ep, I64 (kd), .slice ai ni ci, .slice sa 0 sc, U64 bl] ++ cu8 tg ++ [U64 eq]).toArray] (.tuple #[.slice none 0 0, .iface 50 (I64 2)]) (A5 _ Tryd.call21 rfl) (fun w1 hw1 => putReqB_c sq (qk) aiq niq ciq lq fs (mn) pv ep (kd) ai ni ci l sa 0 sc ([] : List SealR) bl tg eq w1 hlq (by omega) (by omega) (by omega) (BP hw1 rfl hvq) hl (by omega) (by omega) (by omega) (BP hw1 rfl hv) rfl (by omega) (by omega) (by omega) RdV.nil htg (by omega) (by omega) hR)) rfl ?_
 show JL _ _ _ _ ((25, .tuple #[.slice none 0 0, .iface 50 (I64 2)]) :: _) [_, _]
 refine AA _ (AM rfl) rfl ?_
 refine AA _ (CC rfl rfl) rfl ?_
 refine AA _ (CC rfl rfl) rfl ?_
 refine AA _ (AF rfl) rfl ?_
 refine AA _ (AF rfl) rfl ?_
 refine AK (AE (AI (AI (AC (AA (.agg ([U64 sq, I64 (qk), .slice aiq niq ciq, U64 fs, I64 (mn), U64 pv, U64 ep, I64 (kd), .slice ai ni ci, .slice sa 0 sc, U64 bl] ++ cu8 tg ++ [U64 eq]).toArray) (AL rfl (B1 CS CJ (by simp [htg]) (AY 0 rfl (A1 _)))) rfl ?_)))))
 refine BS (A2 22 [.agg ([U64 sq, I64 (qk), .slice aiq niq ciq, U64 fs, I64 (mn), U64 pv, U64 ep, I64 (kd), .slice ai ni ci, .slice sa 0 sc, U64 bl] ++ cu8 tg ++ [U64 eq]).toArray] (.bool (reqR (qk) lq fs (mn) eq (blankB pv ep (kd) l ([] : List SealR) bl tg) (decide (mayN pv ep (kd) l ([] : List SealR) bl = 0)))) (A5 _ Tryd.call22 rfl) (fun w1 hw1 => ED sq (qk) aiq niq ciq lq fs (mn) pv ep (kd) ai ni ci l sa 0 sc ([] : List SealR) bl tg eq w1 hlq (by omega) (by omega) (by omega) (BP hw1 rfl hvq) hl (by omega) (by omega) (by omega) (BP hw1 rfl hv) rfl (by omega) (by omega) (by omega) RdV.nil htg (by omega) (by omega))) rfl ?_
 show JL _ _ _ _ ((29, .bool (reqR (qk) lq fs (mn) eq (blankB pv ep (kd) l ([] : List SealR) bl tg) (decide (mayN pv ep (kd) l ([] : List SealR) bl = 0)))) :: _) [_, _]
 refine AA _ (AM rfl) rfl ?_
 refine AA (.bool (!((reqR (qk) lq fs (mn) eq (blankB pv ep (kd) l ([] : List SealR) bl tg) (decide (mayN pv ep (kd) l ([] : List SealR) bl = 0))) == (reqR (qk) lq fs (mn) eq (blankB pv ep (kd) l ([] : List SealR) bl tg) (decide (mayN pv ep (kd) l ([] : List SealR) bl = 0)))))) (D5 _ _ _ rfl rfl (fun _ => EQ ..) fun _ => neq_bool Tryd.underlying4) rfl ?_
 refine AK (AE (BT _ rfl (bnotT (beq_self_eq_true _)) ?_))
 refine BM (AE (AI (AI (AC (AA _ (AM rfl) rfl ?_)))))
 refine AA (.bool (!(reqR (qk) lq fs (mn) eq (blankB pv ep (kd) l ([] : List SealR) bl tg) (decide (mayN pv ep (kd) l ([] : List SealR) bl = 0))))) (C8 rfl) rfl ?_
 refine AK (AE (B5 _ rfl (bnotF hR) ?_))
 refine AI (AC (AA _ (AM rfl) rfl ?_))
 refine BS (A2 23 [.iface 50 (I64 2), I64 2] (.bool true) (A5 _ Tryd.call23 rfl) (fun w1 hw1 => is_c 2 2 w1)) rfl ?_
 show JL _ _ _ _ ((35, .bool true) :: _) [_, _]
 refine AA _ (AM rfl) rfl ?_
 refine AN 2 36 true _ _ rfl rfl rfl (AM rfl) rfl ?_
 refine AN 2 36 true _ (I64 0) rfl rfl rfl (C9 AW rfl) rfl ?_
 refine AN 2 36 true _ (.bool (decide ((0:Int) = (0:Int)))) rfl rfl rfl (AQ rfl rfl fun _ => A4 _ _) rfl ?_
 refine AA _ (BD _ rfl rfl rfl) rfl ?_
 refine AA _ (AF rfl) rfl ?_
 refine AK (AE (BA (AU (BF [false, false] ?_))))
 show JQ _ _ _ _ []
 refine A9 (.bool (decide ((0:Int) = (0:Int)))) (res1 Tryd.results3 (A7 rfl)) fun w1 hw1 => ?_
 exact ⟨_, [], rfl, ⟨congrArg Value.bool (by decide), rfl⟩, hw1.sub (by simp) (by simp)⟩
theorem wrQ_c (sq : UInt64) (qk : Int) (aiq : Option Addr) (niq ciq : Nat) (lq : List UInt64) (fs : UInt64) (mn : Int) (pv ep : UInt64) (kd : Int) (ai : Option Addr) (ni ci : Nat) (l : List UInt64) (sa : Option Addr) (ns sc : Nat) (ls : List SealR) (bl : UInt64) (tg : List UInt8) (eq : UInt64)  (w : World) (htg : tg.length = 16) (hbq : 300 < niq) (hW : GLw w)  : Calls Tryd.prog 3 #[.agg ([U64 sq, I64 (qk), .slice aiq niq ciq, U64 fs, I64 (mn), U64 pv, U64 ep, I64 (kd), .slice ai ni ci, .slice sa ns sc, U64 bl] ++ cu8 tg ++ [U64 eq]).toArray] w (Post w [] (fun v L => v = .bool true ∧ L = [])) := by
 have hmx : maxLen = 9223372036854775807 := rfl
 refine enter (P := Tryd.prog) (f := 3) (fn := Tryd.f3) w [] 49 [] [.agg ([U64 sq, I64 (qk), .slice aiq niq ciq, U64 fs, I64 (mn), U64 pv, U64 ep, I64 (kd), .slice ai ni ci, .slice sa ns sc, U64 bl] ++ cu8 tg ++ [U64 eq]).toArray] Tryd.func3 rfl rfl (by simp) (B2 (by simp) (by simp) (by simp)) ?_
 show JC _ _ _ [(0, .agg ([U64 sq, I64 (qk), .slice aiq niq ciq, U64 fs, I64 (mn), U64 pv, U64 ep, I64 (kd), .slice ai ni ci, .slice sa ns sc, U64 bl] ++ cu8 tg ++ [U64 eq]).toArray)] _
 refine AI (AC (BG (CE (.agg ([U64 sq, I64 (qk), .slice aiq niq ciq, U64 fs, I64 (mn), U64 pv, U64 ep, I64 (kd), .slice ai ni ci, .slice sa ns sc, U64 bl] ++ cu8 tg ++ [U64 eq]).toArray) ([U64 sq, I64 (qk), .slice aiq niq ciq, U64 fs, I64 (mn), U64 pv, U64 ep, I64 (kd), .slice ai ni ci, .slice sa ns sc, U64 bl] ++ cu8 tg ++ [U64 eq]) rfl (by first | rfl | simp)) rfl ?_))
 rintro v1 L1 ⟨nb1, hnb1, rfl, rfl⟩
 show JL _ _ _ _ ((1, Ptr nb1 0) :: _) [⟨nb1, [U64 sq, I64 (qk), .slice aiq niq ciq, U64 fs, I64 (mn), U64 pv, U64 ep, I64 (kd), .slice ai ni ci, .slice sa ns sc, U64 bl] ++ cu8 tg ++ [U64 eq], 31, (0, 0)⟩]
 refine AA _ (AF rfl) rfl ?_
 refine AK (AE (AI (AI (AC (BG (A2 17 [] (.bool true) (A5 _ Tryd.call17 rfl) (fun w1 hw1 => E5  w1 (GLw.at hw1 hW))) rfl ?_)))))
 rintro v1 L1 ⟨rfl, rfl⟩
 show JL _ _ _ _ ((7, .bool true) :: _) [_]
 refine AA (.bool (!true)) (C8 rfl) rfl ?_
 refine AK (AE (BT _ rfl rfl ?_))
 refine BM (AE (AI (AI (AC (AA (Ptr nb1 2) (AB 2 23 1 AS rfl BI rfl rfl) rfl ?_)))))
 refine AA (.slice aiq niq ciq) (AL rfl (AV BL (AY 0 rfl (AH (AH (AG (AG (Seg.head)))))))) rfl ?_
 refine AA (I64 niq) (C9 A8 rfl) rfl ?_
 refine AA (.bool (decide ((300:Int) < ((niq:Int))))) (AQ rfl rfl fun _ => C2 _ _) rfl ?_
 refine AA _ (AM rfl) rfl ?_
 refine AD 4 13 false _ rfl rfl (decide_eq_true (by omega)) rfl ?_
 refine AD 4 13 false _ rfl rfl (decide_eq_true (by omega)) rfl ?_
 refine AD 4 13 false _ rfl rfl (decide_eq_true (by omega)) rfl ?_
 refine AD 4 13 false _ rfl rfl (decide_eq_true (by omega)) rfl ?_
 refine AA _ (BD _ rfl (decide_eq_true (by omega)) rfl) rfl ?_
 refine AK (AE (B5 _ rfl rfl ?_))
 refine AI (AC (AA _ (AF rfl) rfl ?_))
 refine AK (AE (BA (AU (BF [false] ?_))))
 show JQ _ _ _ _ []
 refine A9 (.bool true) (res1 Tryd.results3 (A7 rfl)) fun w1 hw1 => ?_
 exact ⟨_, [], rfl, ⟨congrArg Value.bool rfl, rfl⟩, hw1.sub (by simp) (by simp)⟩
theorem wrL_c (sq : UInt64) (qk : Int) (aiq : Option Addr) (niq ciq : Nat) (lq : List UInt64) (fs : UInt64) (mn : Int) (pv ep : UInt64) (kd : Int) (ai : Option Addr) (ni ci : Nat) (l : List UInt64) (sa : Option Addr) (ns sc : Nat) (ls : List SealR) (bl : UInt64) (tg : List UInt8) (eq : UInt64)  (w : World) (htg : tg.length = 16) (hbq : niq ≤ 300) (hlg : LargeP ni ns) (hW : GLw w)  : Calls Tryd.prog 3 #[.agg ([U64 sq, I64 (qk), .slice aiq niq ciq, U64 fs, I64 (mn), U64 pv, U64 ep, I64 (kd), .slice ai ni ci, .slice sa ns sc, U64 bl] ++ cu8 tg ++ [U64 eq]).toArray] w (Post w [] (fun v L => v = .bool true ∧ L = [])) := by
 have hmx : maxLen = 9223372036854775807 := rfl
 refine enter (P := Tryd.prog) (f := 3) (fn := Tryd.f3) w [] 49 [] [.agg ([U64 sq, I64 (qk), .slice aiq niq ciq, U64 fs, I64 (mn), U64 pv, U64 ep, I64 (kd), .slice ai ni ci, .slice sa ns sc, U64 bl] ++ cu8 tg ++ [U64 eq]).toArray] Tryd.func3 rfl rfl (by simp) (B2 (by simp) (by simp) (by simp)) ?_
 show JC _ _ _ [(0, .agg ([U64 sq, I64 (qk), .slice aiq niq ciq, U64 fs, I64 (mn), U64 pv, U64 ep, I64 (kd), .slice ai ni ci, .slice sa ns sc, U64 bl] ++ cu8 tg ++ [U64 eq]).toArray)] _
 refine AI (AC (BG (CE (.agg ([U64 sq, I64 (qk), .slice aiq niq ciq, U64 fs, I64 (mn), U64 pv, U64 ep, I64 (kd), .slice ai ni ci, .slice sa ns sc, U64 bl] ++ cu8 tg ++ [U64 eq]).toArray) ([U64 sq, I64 (qk), .slice aiq niq ciq, U64 fs, I64 (mn), U64 pv, U64 ep, I64 (kd), .slice ai ni ci, .slice sa ns sc, U64 bl] ++ cu8 tg ++ [U64 eq]) rfl (by first | rfl | simp)) rfl ?_))
 rintro v1 L1 ⟨nb1, hnb1, rfl, rfl⟩
 show JL _ _ _ _ ((1, Ptr nb1 0) :: _) [⟨nb1, [U64 sq, I64 (qk), .slice aiq niq ciq, U64 fs, I64 (mn), U64 pv, U64 ep, I64 (kd), .slice ai ni ci, .slice sa ns sc, U64 bl] ++ cu8 tg ++ [U64 eq], 31, (0, 0)⟩]
 refine AA _ (AF rfl) rfl ?_
 refine AK (AE (AI (AI (AC (BG (A2 17 [] (.bool true) (A5 _ Tryd.call17 rfl) (fun w1 hw1 => E5  w1 (GLw.at hw1 hW))) rfl ?_)))))
 rintro v1 L1 ⟨rfl, rfl⟩
 show JL _ _ _ _ ((7, .bool true) :: _) [_]
 refine AA (.bool (!true)) (C8 rfl) rfl ?_
 refine AK (AE (BT _ rfl rfl ?_))
 refine BM (AE (AI (AI (AC (AA (Ptr nb1 2) (AB 2 23 1 AS rfl BI rfl rfl) rfl ?_)))))
 refine AA (.slice aiq niq ciq) (AL rfl (AV BL (AY 0 rfl (AH (AH (AG (AG (Seg.head)))))))) rfl ?_
 refine AA (I64 niq) (C9 A8 rfl) rfl ?_
 refine AA (.bool (decide ((300:Int) < ((niq:Int))))) (AQ rfl rfl fun _ => C2 _ _) rfl ?_
 refine AA _ (AM rfl) rfl ?_
 refine AN 4 13 false _ (Ptr nb1 5) rfl rfl (decide_eq_false (by omega)) (AB 5 29 22 AS rfl CN rfl rfl) rfl ?_
 refine AN 4 13 false _ (Ptr nb1 7) rfl rfl (decide_eq_false (by omega)) (AB 2 26 4 A3 rfl BN rfl rfl) rfl ?_
 refine AN 4 13 false _ (.agg #[I64 (kd), .slice ai ni ci, .slice sa ns sc, U64 bl]) rfl rfl (decide_eq_false (by omega)) (AL rfl (B1 CZ BN rfl (AY 0 rfl (CO (p := [U64 sq, I64 (qk), .slice aiq niq ciq, U64 fs, I64 (mn), U64 pv, U64 ep]) (q := cu8 tg ++ [U64 eq]) (vs := [I64 (kd), .slice ai ni ci, .slice sa ns sc, U64 bl]) (by first | rfl | (simp only [List.append_assoc, List.nil_append, List.append_nil, List.cons_append]; done)) rfl)))) rfl ?_
 refine DB 4 13 false _ rfl rfl (decide_eq_false (by omega)) (A2 18 [.agg #[I64 (kd), .slice ai ni ci, .slice sa ns sc, U64 bl]] (.bool (decide (LargeP ni ns))) (A5 _ Tryd.call18 rfl) (fun w1 hw1 => large_c (kd) ai ni ci l sa ns sc ls bl w1 )) rfl ?_
 rintro v1 L1 ⟨rfl, rfl⟩
 show JL _ _ _ _ ((17, .bool (decide (LargeP ni ns))) :: _) [_]
 refine AA _ (A0 _ rfl (decide_eq_false (by omega)) rfl) rfl ?_
 refine AK (AE (B5 _ rfl (decide_eq_true hlg) ?_))
 refine AI (AC (AA _ (AF rfl) rfl ?_))
 refine AK (AE (BA (AU (BF [false] ?_))))
 show JQ _ _ _ _ []
 refine A9 (.bool true) (res1 Tryd.results3 (A7 rfl)) fun w1 hw1 => ?_
 exact ⟨_, [], rfl, ⟨congrArg Value.bool rfl, rfl⟩, hw1.sub (by simp) (by simp)⟩
theorem wireRequests_w (sq : UInt64) (qk : Int) (aiq : Option Addr) (niq ciq : Nat) (lq : List UInt64) (fs : UInt64) (mn : Int) (pv ep : UInt64) (kd : Int) (ai : Option Addr) (ni ci : Nat) (l : List UInt64) (sa : Option Addr) (ns sc : Nat) (ls : List SealR) (bl : UInt64) (tg : List UInt8) (eq : UInt64) (w : World) (hqk : -9223372036854775808 ≤ qk ∧ qk ≤ 9223372036854775807) (hlq : lq.length = niq) (hnq : aiq = none → ciq = 0) (hiq : niq ≤ ciq ∧ ciq ≤ maxLen) (hvq : RdV w aiq (cu64 lq)) (hmn : -9223372036854775808 ≤ mn ∧ mn ≤ 9223372036854775807) (hkd : -9223372036854775808 ≤ kd ∧ kd ≤ 9223372036854775807) (hl : l.length = ni) (hnI : ai = none → ci = 0) (hic : ni ≤ ci ∧ ci ≤ maxLen) (hv : RdV w ai (cu64 l)) (hls : ls.length = ns) (hnS : sa = none → sc = 0) (hsc : ns ≤ sc ∧ sc ≤ maxLen) (hs : RdV w sa (ls.flatMap sealC)) (htg : tg.length = 16) (hW : GLw w) : Calls Tryd.prog 3 #[.agg ([U64 sq, I64 (qk), .slice aiq niq ciq, U64 fs, I64 (mn), U64 pv, U64 ep, I64 (kd), .slice ai ni ci, .slice sa ns sc, U64 bl] ++ cu8 tg ++ [U64 eq]).toArray] w (Post w [] (fun v L => v = .bool true ∧ L = [])) := by
  by_cases hbq : 300 < niq
  · exact wrQ_c sq qk aiq niq ciq lq fs mn pv ep kd ai ni ci l sa ns sc ls bl tg eq w htg hbq hW
  have hbq : niq ≤ 300 := by omega
  by_cases hlg : LargeP ni ns
  · exact wrL_c sq qk aiq niq ciq lq fs mn pv ep kd ai ni ci l sa ns sc ls bl tg eq w htg hbq hlg hW
  obtain ⟨hbi, hbs⟩ := large_not hlg
  cases hR : reqR qk lq fs mn eq (blankB pv ep kd l ls bl tg) (decide (mayN pv ep kd l ls bl = 0)) with
  | false =>
    by_cases hs0 : ns = 0
    · subst hs0
      obtain rfl : ls = [] := List.eq_nil_of_length_eq_zero hls
      exact wrBZ_c sq qk aiq niq ciq lq fs mn pv ep kd ai ni ci l sa sc bl tg eq w hlq (by omega) hiq.1 hiq.2 hvq hl (by omega) hic.1 hic.2 hv hsc.2 hnS hnI htg hbq hlg hbi hW hR
    · exact wrBP_c sq qk aiq niq ciq lq fs mn pv ep kd ai ni ci l sa ns sc ls bl tg eq w hlq (by omega) hiq.1 hiq.2 hvq hl (by omega) hic.1 hic.2 hv hls (by omega) hsc.1 hsc.2 hs hnI hnS htg (by omega) hbq hlg hbi hbs hW hR
  | true =>
    by_cases h3 : qk = 3
    · subst h3
      have hmay := of_decide_eq_true (reqR_three hR)
      rcases RightO_cases (mayN_right hmay) with ⟨rfl, h1, h2⟩ | ⟨rfl, h1, h2⟩ | ⟨rfl, h1, h2⟩
      · exact wr3P_c sq aiq niq ciq lq fs mn pv ep 1 ai ni ci l sa ns sc ls bl tg eq (tktN 1 ni ns) w hlq (by omega) hiq.1 hiq.2 hvq hl (by omega) hic.1 hic.2 hv hls (by omega) hsc.1 hsc.2 hs hnI hnS htg (by omega) hbq hlg hbi hbs hW hR hmay (.inl rfl) rfl (tktN_le (by omega) (by omega))
      · obtain rfl : ls = [] := List.eq_nil_of_length_eq_zero h2
        obtain rfl : ns = 0 := hls.symm
        exact wr3Z_c sq aiq niq ciq lq fs mn pv ep 2 ai ni ci l sa sc bl tg eq (tktN 2 ni 0) w hlq (by omega) hiq.1 hiq.2 hvq hl (by omega) hic.1 hic.2 hv hsc.2 hnS hnI htg hbq hlg hbi hW hR hmay (.inr (.inl rfl)) rfl (tktN_le (by omega) (by omega))
      · obtain rfl : ls = [] := List.eq_nil_of_length_eq_zero h2
        obtain rfl : ns = 0 := hls.symm
        exact wr3Z_c sq aiq niq ciq lq fs mn pv ep 3 ai ni ci l sa sc bl tg eq (tktN 3 ni 0) w hlq (by omega) hiq.1 hiq.2 hvq hl (by omega) hic.1 hic.2 hv hsc.2 hnS hnI htg hbq hlg hbi hW hR hmay (.inr (.inr rfl)) rfl (tktN_le (by omega) (by omega))
    · obtain ⟨hb, hk⟩ := reqR_blank hR h3
      obtain ⟨_, hls0⟩ := blankB_of hb
      subst hls0
      obtain rfl : ns = 0 := hls.symm
      rcases hk with rfl | rfl | rfl | rfl
      · exact wr1Z_c sq aiq niq ciq lq fs mn pv ep kd ai ni ci l sa sc bl tg eq w hlq (by omega) hiq.1 hiq.2 hvq hl (by omega) hic.1 hic.2 hv hsc.2 hnS hnI htg hbq hlg hbi hW hR
      · have hsp := span_nn (reqR_two hR)
        obtain ⟨mm, rfl⟩ : ∃ mm : Nat, mn = mm := ⟨mn.toNat, by omega⟩
        exact wr2Z_c sq aiq niq ciq lq fs mm pv ep kd ai ni ci l sa sc bl tg eq w hlq (by omega) hiq.1 hiq.2 hvq hl (by omega) hic.1 hic.2 hv hsc.2 hnS hnI htg hbq hlg hbi hW hR
      · exact wr4Z_c sq aiq niq ciq lq fs mn pv ep kd ai ni ci l sa sc bl tg eq w hlq (by omega) hiq.1 hiq.2 hvq hl (by omega) hic.1 hic.2 hv hsc.2 hnS hnI htg hbq hlg hbi hW hR
      · exact wr5Z_c sq aiq niq ciq lq fs mn pv ep kd ai ni ci l sa sc bl tg eq w hlq (by omega) hiq.1 hiq.2 hvq hl (by omega) hic.1 hic.2 hv hsc.2 hnS hnI htg hbq hlg hbi hW hR
end Go.Proofs.YtkdpdgpphpngeaaDoor
namespace Go.Sx
open Go Go.RowKit
open Go.ChangeShapes Go.WideShapes
theorem strs_cells {H : Type} {enc : TypeId × Value → H} {P : Program} {w : World} {base : Nat} {sp : Nat → Bool} {held : Bool} {t e : TypeId} {n : Nat} {l : List (List UInt8)} {p : List MemPlace}
    (ht : P.underlying t = some (.array n e)) (he : P.underlying e = some .string) (hce : P.cellsOf e = 1) (hct : P.cellsOf t = n) :
    ∀ {fuel : Nat} {cs : List Value}, DataW.trod enc P w base sp held fuel t cs = some (.agg (l.map fun s => .lit (.string s)), p) → cs = l.map fun s => Value.string ⟨s.toArray⟩
  | 0, cs, h => by simp [DataW.trod] at h
  | fuel + 1, cs, h => by
    simp only [DataW.trod, ht, hce, hct, Nat.mul_one] at h
    split at h
    case isFalse => cases h
    case isTrue hl =>
      obtain ⟨xs, hm, hx⟩ := Option.map_eq_some_iff.1 h
      have e1 : xs.map Prod.fst = l.map fun s => (DataW.lit (.string s) : DataW H) := by simpa using congrArg Prod.fst hx
      have e2 : xs.length = n := by simpa using Lib.mapM_length hm
      have e3 : l.length = n := by rw [← e2]; simpa using (congrArg List.length e1).symm
      refine List.ext_getElem? fun i => ?_
      by_cases hi : i < n
      · obtain ⟨b, hb, hf⟩ := Lib.mapM_at hm i i (by simp [hi])
        obtain ⟨s, hc, rfl, _⟩ := DataW.trod_string he hf
        have c0 : (List.take 1 (List.drop i cs))[0]? = some (Value.string s) := by rw [hc]; rfl
        have c1 : cs[i]? = some (.string s) := by simpa [List.getElem?_take, List.getElem?_drop] using c0
        have c2 := congrArg (·[i]?) e1
        simp only [List.getElem?_map, hb, Option.map_some] at c2
        obtain ⟨s', hs', he'⟩ := Option.map_eq_some_iff.1 c2.symm
        have he2 : s' = s.data.toList := by simpa using he'
        subst he2
        rw [c1, List.getElem?_map, hs']
        simp
      · rw [List.getElem?_eq_none (by omega), List.getElem?_eq_none (by simp; omega)]
theorem laid_rdS {P : Program} {W : World} {laid : List (String × DataW Unit)} (h : laidMetH P laid W) (hp : (laid.all fun x => x.2.handleName?.isNone) = true) {name : String} {d : DataW Unit} (hm : (name, d) ∈ laid) (l : List (List UInt8))
  (hd : d = .agg (l.map fun s => .lit (.string s))) {g t e n : Nat}
  (hg : P.globalNamed name = some g) (hty : (P.globals[g]?).map (·.type) = some t) (ht : P.underlying t = some (.array n e)) (he : P.underlying e = some .string) (hce : P.cellsOf e = 1) (hct : P.cellsOf t = n) (hl : 0 < l.length) : RdA W g 0 (l.map fun s => Value.string ⟨s.toArray⟩) := by
 rw [MakeChecks.laidMetH_plain _ _ _ hp] at h
 obtain ⟨ps, hv, _, _⟩ := h
 obtain ⟨g', t', cs, fuel, p, hg', ht', hvar, htr⟩ := laidVars_mem hv hm
 obtain rfl := Option.some.inj (hg.symm.trans hg')
 obtain rfl := Option.some.inj (hty.symm.trans ht')
 subst hd
 have hcs := strs_cells ht he hce hct htr
 have key : ∀ j v, (l.map fun s => Value.string ⟨s.toArray⟩)[j]? = some v → W.cell? ⟨g, 0 + j, none⟩ = some v := fun j v hj => by
  have := World.var?_cell hg hvar j
  rw [Nat.zero_add, this, ← Array.getElem?_toList, hcs]
  exact hj
 have h0 : (l.map fun s => Value.string ⟨s.toArray⟩)[0]? = some (Value.string ⟨(l[0]'hl).toArray⟩) := by simp [hl]
 exact ⟨lt_of_cell (key 0 _ h0), key⟩
end Go.Sx
namespace Go.Proofs.YtkdpdgpphpngeaaDoor
open Go
def headSigns : List Char := [Char.ofNat 104, Char.ofNat 97, Char.ofNat 114, Char.ofNat 110, Char.ofNat 101, Char.ofNat 115, Char.ofNat 115, Char.ofNat 32, Char.ofNat 50, Char.ofNat 100, Char.ofNat 55, Char.ofNat 48, Char.ofNat 102, Char.ofNat 53, Char.ofNat 99, Char.ofNat 56, Char.ofNat 51, Char.ofNat 51, Char.ofNat 98, Char.ofNat 102, Char.ofNat 98, Char.ofNat 55, Char.ofNat 98, Char.ofNat 99, Char.ofNat 56, Char.ofNat 100, Char.ofNat 101, Char.ofNat 50, Char.ofNat 52, Char.ofNat 51, Char.ofNat 50, Char.ofNat 51, Char.ofNat 48, Char.ofNat 101, Char.ofNat 101, Char.ofNat 48, Char.ofNat 52, Char.ofNat 55, Char.ofNat 57, Char.ofNat 55, Char.ofNat 51, Char.ofNat 101, Char.ofNat 57, Char.ofNat 54, Char.ofNat 57, Char.ofNat 51, Char.ofNat 101, Char.ofNat 100, Char.ofNat 101, Char.ofNat 55, Char.ofNat 53, Char.ofNat 51, Char.ofNat 52, Char.ofNat 48, Char.ofNat 54, Char.ofNat 50, Char.ofNat 55, Char.ofNat 99, Char.ofNat 57, Char.ofNat 57, Char.ofNat 52, Char.ofNat 50, Char.ofNat 54, Char.ofNat 50, Char.ofNat 100, Char.ofNat 102, Char.ofNat 102, Char.ofNat 56, Char.ofNat 48, Char.ofNat 54, Char.ofNat 100, Char.ofNat 50, Char.ofNat 32, Char.ofNat 99, Char.ofNat 117, Char.ofNat 116, Char.ofNat 32, Char.ofNat 97, Char.ofNat 116, Char.ofNat 32, Char.ofNat 101, Char.ofNat 110, Char.ofNat 116, Char.ofNat 114, Char.ofNat 117, Char.ofNat 115, Char.ofNat 116, Char.ofNat 47, Char.ofNat 101, Char.ofNat 110, Char.ofNat 116, Char.ofNat 114, Char.ofNat 117, Char.ofNat 115, Char.ofNat 116, Char.ofNat 108, Char.ofNat 97, Char.ofNat 119, Char.ofNat 49, Char.ofNat 52, Char.ofNat 46, Char.ofNat 87, Char.ofNat 105, Char.ofNat 114, Char.ofNat 101, Char.ofNat 82, Char.ofNat 101, Char.ofNat 113, Char.ofNat 117, Char.ofNat 101, Char.ofNat 115, Char.ofNat 116, Char.ofNat 115, Char.ofNat 32, Char.ofNat 101, Char.ofNat 110, Char.ofNat 116, Char.ofNat 114, Char.ofNat 117, Char.ofNat 115, Char.ofNat 116, Char.ofNat 47, Char.ofNat 101, Char.ofNat 110, Char.ofNat 116, Char.ofNat 114, Char.ofNat 117, Char.ofNat 115, Char.ofNat 116, Char.ofNat 108, Char.ofNat 97, Char.ofNat 119, Char.ofNat 49, Char.ofNat 53, Char.ofNat 46, Char.ofNat 76, Char.ofNat 105, Char.ofNat 110, Char.ofNat 107, Char.ofNat 83, Char.ofNat 101, Char.ofNat 97, Char.ofNat 108, Char.ofNat 115, Char.ofNat 32, Char.ofNat 101, Char.ofNat 110, Char.ofNat 116, Char.ofNat 114, Char.ofNat 117, Char.ofNat 115, Char.ofNat 116, Char.ofNat 47, Char.ofNat 101, Char.ofNat 110, Char.ofNat 116, Char.ofNat 114, Char.ofNat 117, Char.ofNat 115, Char.ofNat 116, Char.ofNat 108, Char.ofNat 97, Char.ofNat 119, Char.ofNat 49, Char.ofNat 53, Char.ofNat 46, Char.ofNat 76, Char.ofNat 105, Char.ofNat 110, Char.ofNat 107, Char.ofNat 83, Char.ofNat 105, Char.ofNat 122, Char.ofNat 101, Char.ofNat 115, Char.ofNat 32, Char.ofNat 101, Char.ofNat 110, Char.ofNat 116, Char.ofNat 114, Char.ofNat 117, Char.ofNat 115, Char.ofNat 116, Char.ofNat 47, Char.ofNat 101, Char.ofNat 110, Char.ofNat 116, Char.ofNat 114, Char.ofNat 117, Char.ofNat 115, Char.ofNat 116, Char.ofNat 108, Char.ofNat 97, Char.ofNat 119, Char.ofNat 49, Char.ofNat 52, Char.ofNat 46, Char.ofNat 87, Char.ofNat 105, Char.ofNat 114, Char.ofNat 101, Char.ofNat 82, Char.ofNat 101, Char.ofNat 112, Char.ofNat 108, Char.ofNat 105, Char.ofNat 101, Char.ofNat 115, Char.ofNat 32, Char.ofNat 101, Char.ofNat 110, Char.ofNat 116, Char.ofNat 114, Char.ofNat 117, Char.ofNat 115, Char.ofNat 116, Char.ofNat 47, Char.ofNat 101, Char.ofNat 110, Char.ofNat 116, Char.ofNat 114, Char.ofNat 117, Char.ofNat 115, Char.ofNat 116, Char.ofNat 108, Char.ofNat 97, Char.ofNat 119, Char.ofNat 49, Char.ofNat 53, Char.ofNat 46, Char.ofNat 76, Char.ofNat 105, Char.ofNat 110, Char.ofNat 107, Char.ofNat 79, Char.ofNat 112, Char.ofNat 101, Char.ofNat 110, Char.ofNat 115, Char.ofNat 32, Char.ofNat 101, Char.ofNat 110, Char.ofNat 116, Char.ofNat 114, Char.ofNat 117, Char.ofNat 115, Char.ofNat 116, Char.ofNat 47, Char.ofNat 101, Char.ofNat 110, Char.ofNat 116, Char.ofNat 114, Char.ofNat 117, Char.ofNat 115, Char.ofNat 116, Char.ofNat 108, Char.ofNat 97, Char.ofNat 119, Char.ofNat 49, Char.ofNat 53, Char.ofNat 46, Char.ofNat 76, Char.ofNat 105, Char.ofNat 110, Char.ofNat 107, Char.ofNat 66, Char.ofNat 97, Char.ofNat 99, Char.ofNat 107, Char.ofNat 32, Char.ofNat 101, Char.ofNat 110, Char.ofNat 116, Char.ofNat 114, Char.ofNat 117, Char.ofNat 115, Char.ofNat 116, Char.ofNat 47, Char.ofNat 101, Char.ofNat 110, Char.ofNat 116, Char.ofNat 114, Char.ofNat 117, Char.ofNat 115, Char.ofNat 116, Char.ofNat 108, Char.ofNat 97, Char.ofNat 119, Char.ofNat 49, Char.ofNat 51, Char.ofNat 46, Char.ofNat 84, Char.ofNat 105, Char.ofNat 99, Char.ofNat 107, Char.ofNat 101, Char.ofNat 116, Char.ofNat 83, Char.ofNat 105, Char.ofNat 103, Char.ofNat 110, Char.ofNat 115, Char.ofNat 32, Char.ofNat 101, Char.ofNat 110, Char.ofNat 116, Char.ofNat 114, Char.ofNat 117, Char.ofNat 115, Char.ofNat 116, Char.ofNat 47, Char.ofNat 101, Char.ofNat 110, Char.ofNat 116, Char.ofNat 114, Char.ofNat 117, Char.ofNat 115, Char.ofNat 116, Char.ofNat 108, Char.ofNat 97, Char.ofNat 119, Char.ofNat 49, Char.ofNat 52, Char.ofNat 46, Char.ofNat 87, Char.ofNat 105, Char.ofNat 114, Char.ofNat 101, Char.ofNat 80, Char.ofNat 97, Char.ofNat 114, Char.ofNat 115, Char.ofNat 101, Char.ofNat 115, Char.ofNat 32, Char.ofNat 101, Char.ofNat 110, Char.ofNat 116, Char.ofNat 114, Char.ofNat 117, Char.ofNat 115, Char.ofNat 116, Char.ofNat 47, Char.ofNat 101, Char.ofNat 110, Char.ofNat 116, Char.ofNat 114, Char.ofNat 117, Char.ofNat 115, Char.ofNat 116, Char.ofNat 108, Char.ofNat 97, Char.ofNat 119, Char.ofNat 49, Char.ofNat 51, Char.ofNat 46, Char.ofNat 84, Char.ofNat 105, Char.ofNat 99, Char.ofNat 107, Char.ofNat 101, Char.ofNat 116, Char.ofNat 80, Char.ofNat 97, Char.ofNat 114, Char.ofNat 115, Char.ofNat 101, Char.ofNat 115, Char.ofNat 32, Char.ofNat 101, Char.ofNat 110, Char.ofNat 116, Char.ofNat 114, Char.ofNat 117, Char.ofNat 115, Char.ofNat 116, Char.ofNat 47, Char.ofNat 101, Char.ofNat 110, Char.ofNat 116, Char.ofNat 114, Char.ofNat 117, Char.ofNat 115, Char.ofNat 116, Char.ofNat 108, Char.ofNat 97, Char.ofNat 119, Char.ofNat 49, Char.ofNat 51, Char.ofNat 46, Char.ofNat 84, Char.ofNat 105, Char.ofNat 99, Char.ofNat 107, Char.ofNat 101, Char.ofNat 116, Char.ofNat 66, Char.ofNat 97, Char.ofNat 99, Char.ofNat 107, Char.ofNat 32, Char.ofNat 101, Char.ofNat 110, Char.ofNat 116, Char.ofNat 114, Char.ofNat 117, Char.ofNat 115, Char.ofNat 116, Char.ofNat 47, Char.ofNat 101, Char.ofNat 110, Char.ofNat 116, Char.ofNat 114, Char.ofNat 117, Char.ofNat 115, Char.ofNat 116, Char.ofNat 108, Char.ofNat 97, Char.ofNat 119, Char.ofNat 49, Char.ofNat 51, Char.ofNat 46, Char.ofNat 84, Char.ofNat 105, Char.ofNat 99, Char.ofNat 107, Char.ofNat 101, Char.ofNat 116, Char.ofNat 79, Char.ofNat 114, Char.ofNat 100, Char.ofNat 101, Char.ofNat 114, Char.ofNat 115, Char.ofNat 32, Char.ofNat 101, Char.ofNat 110, Char.ofNat 116, Char.ofNat 114, Char.ofNat 117, Char.ofNat 115, Char.ofNat 116, Char.ofNat 47, Char.ofNat 101, Char.ofNat 110, Char.ofNat 116, Char.ofNat 114, Char.ofNat 117, Char.ofNat 115, Char.ofNat 116, Char.ofNat 108, Char.ofNat 97, Char.ofNat 119, Char.ofNat 49, Char.ofNat 52, Char.ofNat 46, Char.ofNat 87, Char.ofNat 105, Char.ofNat 114, Char.ofNat 101, Char.ofNat 87, Char.ofNat 111, Char.ofNat 114, Char.ofNat 100, Char.ofNat 115, Char.ofNat 32, Char.ofNat 101, Char.ofNat 110, Char.ofNat 116, Char.ofNat 114, Char.ofNat 117, Char.ofNat 115, Char.ofNat 116, Char.ofNat 47, Char.ofNat 101, Char.ofNat 110, Char.ofNat 116, Char.ofNat 114, Char.ofNat 117, Char.ofNat 115, Char.ofNat 116, Char.ofNat 108, Char.ofNat 97, Char.ofNat 119, Char.ofNat 49, Char.ofNat 52, Char.ofNat 46, Char.ofNat 87, Char.ofNat 105, Char.ofNat 114, Char.ofNat 101, Char.ofNat 66, Char.ofNat 97, Char.ofNat 99, Char.ofNat 107, Char.ofNat 32, Char.ofNat 101, Char.ofNat 110, Char.ofNat 116, Char.ofNat 114, Char.ofNat 117, Char.ofNat 115, Char.ofNat 116, Char.ofNat 47, Char.ofNat 101, Char.ofNat 110, Char.ofNat 116, Char.ofNat 114, Char.ofNat 117, Char.ofNat 115, Char.ofNat 116, Char.ofNat 108, Char.ofNat 97, Char.ofNat 119, Char.ofNat 49, Char.ofNat 51, Char.ofNat 46, Char.ofNat 84, Char.ofNat 105, Char.ofNat 99, Char.ofNat 107, Char.ofNat 101, Char.ofNat 116, Char.ofNat 83, Char.ofNat 101, Char.ofNat 97, Char.ofNat 108, Char.ofNat 115]
theorem headStr : Tryd.prog.initOrder = String.ofList headSigns := by kernel_rfl
theorem headIs : Tryd.prog.initOrder.toList = headSigns := by
 rw [headStr]
 exact String.toList_ofList
def sumSigns : List Char := [Char.ofNat 50, Char.ofNat 100, Char.ofNat 55, Char.ofNat 48, Char.ofNat 102, Char.ofNat 53, Char.ofNat 99, Char.ofNat 56, Char.ofNat 51, Char.ofNat 51, Char.ofNat 98, Char.ofNat 102, Char.ofNat 98, Char.ofNat 55, Char.ofNat 98, Char.ofNat 99, Char.ofNat 56, Char.ofNat 100, Char.ofNat 101, Char.ofNat 50, Char.ofNat 52, Char.ofNat 51, Char.ofNat 50, Char.ofNat 51, Char.ofNat 48, Char.ofNat 101, Char.ofNat 101, Char.ofNat 48, Char.ofNat 52, Char.ofNat 55, Char.ofNat 57, Char.ofNat 55, Char.ofNat 51, Char.ofNat 101, Char.ofNat 57, Char.ofNat 54, Char.ofNat 57, Char.ofNat 51, Char.ofNat 101, Char.ofNat 100, Char.ofNat 101, Char.ofNat 55, Char.ofNat 53, Char.ofNat 51, Char.ofNat 52, Char.ofNat 48, Char.ofNat 54, Char.ofNat 50, Char.ofNat 55, Char.ofNat 99, Char.ofNat 57, Char.ofNat 57, Char.ofNat 52, Char.ofNat 50, Char.ofNat 54, Char.ofNat 50, Char.ofNat 100, Char.ofNat 102, Char.ofNat 102, Char.ofNat 56, Char.ofNat 48, Char.ofNat 54, Char.ofNat 100, Char.ofNat 50]
theorem sumIs : "2d70f5c833bfb7bc8de243230ee047973e9693ede75340627c994262dff806d2".toList = sumSigns := by
 have h : "2d70f5c833bfb7bc8de243230ee047973e9693ede75340627c994262dff806d2" = String.ofList sumSigns := by kernel_rfl
 rw [h]
 exact String.toList_ofList
theorem head_cons {α : Type} {l : List α} {x : α} (h : l.head? = some x) : ∃ r, l = x :: r := by cases l <;> simp_all
theorem make_cut {P : Program} {r : List (List Char)} (h : behindMainWord (wordsSigns P.initOrder.toList) = "cut".toList :: r) : P.make = some .cut := by
 unfold Program.make
 rw [h]
 rfl
theorem headLifts_cut {P : Program} (h : (stripLifts liftWords (behindMainWord (wordsSigns P.initOrder.toList))).1 = []) : P.headLifts = [] := by
 unfold Program.headLifts
 simp only [h]
 split <;> rfl
theorem lifts_cut {P : Program} {r : List (List Char)} (h : behindMainWord (wordsSigns P.initOrder.toList) = "cut".toList :: r) (h1 : P.headLifts = []) : P.liftsFinal = false := by
 unfold Program.liftsFinal
 rw [h, h1]
 rfl
theorem mayEnter_cut {P : Program} {r : List (List Char)} (h : behindMainWord (wordsSigns P.initOrder.toList) = "cut".toList :: r) (h1 : P.laysLater = false) (h2 : P.bearsReflect = false)
  (h3 : (stripLifts liftWords (behindMainWord (wordsSigns P.initOrder.toList))).1 = []) (h4 : (stripLifts liftWords (behindMainWord (wordsSigns P.initOrder.toList))).2.head? = some "cut".toList) (h5 : P.doorFits [] = true) : P.mayEnter = true := by
 unfold Program.mayEnter
 rw [h] at h3 h4 ⊢
 simp only [h1, h2, h3, h4, h5]
 simp
theorem main_cut {P : Program} {s : List Char} {r : List (List Char)} (h : wordsSigns P.initOrder.toList = "harness".toList :: s :: r) (hs : isSumSigns s = true) : P.mainIs = some (true, s) := by
 unfold Program.mainIs
 rw [h]
 simp [hs]
theorem hHead : (behindMainWord (wordsSigns Tryd.prog.initOrder.toList)).head? = some "cut".toList := by
 rw [headIs]
 kernel_rfl
theorem hStrip : (stripLifts liftWords (behindMainWord (wordsSigns Tryd.prog.initOrder.toList))).1 = [] := by
 rw [headIs]
 kernel_rfl
theorem hStrip2 : (stripLifts liftWords (behindMainWord (wordsSigns Tryd.prog.initOrder.toList))).2.head? = some "cut".toList := by
 rw [headIs]
 kernel_rfl
theorem hMain : wordsSigns Tryd.prog.initOrder.toList = "harness".toList :: sumSigns :: (wordsSigns headSigns).drop 2 := by
 rw [headIs]
 kernel_rfl
theorem hSum : isSumSigns sumSigns = true := by kernel_rfl
theorem hLater : Tryd.prog.laysLater = false := by kernel_rfl
theorem hReflect : Tryd.prog.bearsReflect = false := by kernel_rfl
theorem hDoor : Tryd.prog.doorFits [] = true := by kernel_rfl
theorem kMayEnter : Tryd.prog.mayEnter = true := by
 obtain ⟨r, h⟩ := head_cons hHead
 exact mayEnter_cut h hLater hReflect hStrip hStrip2 hDoor
theorem kLifts : Tryd.prog.liftsFinal = false := by
 obtain ⟨r, h⟩ := head_cons hHead
 exact lifts_cut h (headLifts_cut hStrip)
theorem kMake : Tryd.prog.make = some .cut := by
 obtain ⟨r, h⟩ := head_cons hHead
 exact make_cut h
theorem kMainIs : Tryd.prog.mainIs = some (true, "2d70f5c833bfb7bc8de243230ee047973e9693ede75340627c994262dff806d2".toList) := by
 rw [sumIs]
 exact main_cut hMain hSum
theorem kLaidOut : (laidOutB Tryd.prog) = true := by kernel_rfl
theorem kRowed : mapsRowed Tryd.prog = true := by kernel_rfl
theorem kStops : (Tryd.prog.stops == []) = true := by kernel_rfl
theorem kKnobs : (Tryd.prog.stopKnobs == []) = true := by kernel_rfl
theorem kHeard : Tryd.prog.stopsHeard = true := by kernel_rfl
theorem kLooks : true = Tryd.prog.looks [] := by kernel_rfl
end Go.Proofs.YtkdpdgpphpngeaaDoor
