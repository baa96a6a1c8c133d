import Derived.JoinedOf
import Derived.SevenTiedAt
import Derived.Test.YtkdpdgpphpngeaaDoorPkTko4
namespace Go.Proofs.YtkdpdgpphpngeaaDoor
open Go Go.Sx
set_option linter.unusedVariables false
set_option linter.unusedSimpArgs false
set_option maxRecDepth 100000
attribute [local irreducible] mid zr8 zr32 numK rnK rotr wordL spreadL comprL cpN adN spN wrdN constL initL padL stN outN routN sumG putL leafT joinT empL empA empR RightB tktT mayN idxT selT macL tkG
theorem bld26_03 {w : World} {v0 : Value} {v3 : Value} (h0 : v0.cells = [v0].toArray) (h3 : v3.cells = [v3].toArray) : (Instr.build 26 ([(0, v0), (3, v3)] : List (Nat × Value)).toArray).run Tryd.prog w = .ok (.agg (((([v0] : List Value) ++ ([.slice none 0 0] : List Value)) ++ ([.slice none 0 0] : List Value)) ++ ([v3] : List Value)).toArray) w :=
 FB (places := #[(0, 1), (1, 1), (2, 1), (3, 1)]) (Z := (([I64 (0:Int)] : List Value) ++ (([.slice none 0 0] : List Value) ++ (([.slice none 0 0] : List Value) ++ (([U64 (0:UInt64)] : List Value) ++ []))))) (fun _ => by kernel_rfl) AO (fun _ => by kernel_rfl) ((fill_start ([I64 (0:Int)] : List Value) (([.slice none 0 0] : List Value) ++ (([.slice none 0 0] : List Value) ++ (([U64 (0:UInt64)] : List Value) ++ []))) ([v0] : List Value) h0 (by simp [A2]) rfl).trans ((fill_skip ([v0] : List Value) ([.slice none 0 0] : List Value) (([.slice none 0 0] : List Value) ++ (([U64 (0:UInt64)] : List Value) ++ []))).trans ((fill_skip (([v0] : List Value) ++ ([.slice none 0 0] : List Value)) ([.slice none 0 0] : List Value) (([U64 (0:UInt64)] : List Value) ++ [])).trans ((FD ((([v0] : List Value) ++ ([.slice none 0 0] : List Value)) ++ ([.slice none 0 0] : List Value)) ([U64 (0:UInt64)] : List Value) [] ([v3] : List Value) h3 (by simp [A2]) rfl).trans (by simp [Instr.fill])))))
theorem alive13_c  (w : World) (hG : GLs w) : Calls Tryd.prog 43 #[] w (Post w [] (fun v L => v = .bool true ∧ L = [])) := by
 have hmx : maxLen = 9223372036854775807 := rfl
 refine enter w [] 39 [] [] Tryd.func43 rfl rfl (by simp) (BL (by simp) (by simp) (by simp)) ?_
 show JC _ _ _ [] _
 refine AG (AC (AA _ (AF rfl) rfl ?_))
 refine AI (AE (AG (AC (AA (.agg (cu8 ([(1:UInt8), (0:UInt8), (0:UInt8), (0:UInt8), (0:UInt8), (0:UInt8), (0:UInt8), (0:UInt8), (0:UInt8), (0:UInt8), (0:UInt8), (0:UInt8), (0:UInt8), (0:UInt8), (0:UInt8), (0:UInt8), (0:UInt8), (0:UInt8), (0:UInt8), (0:UInt8), (0:UInt8), (0:UInt8), (0:UInt8), (0:UInt8), (0:UInt8), (0:UInt8), (0:UInt8), (0:UInt8), (0:UInt8), (0:UInt8), (0:UInt8), (0:UInt8)])).toArray) (EG [(0, U8 (1:UInt8))] _ rfl (fun _ => by kernel_rfl)) rfl ?_))))
 refine AA (.agg (List.toArray (α := Value) ([I64 (3:Int), .slice none 0 0, .slice none 0 0, U64 (5:UInt64)]))) (EG [(0, I64 (3:Int)), (3, U64 (5:UInt64))] _ rfl (fun _ => bld26_03 rfl rfl)) rfl ?_
 refine AN (B1 46 [.agg (cu8 ([(1:UInt8), (0:UInt8), (0:UInt8), (0:UInt8), (0:UInt8), (0:UInt8), (0:UInt8), (0:UInt8), (0:UInt8), (0:UInt8), (0:UInt8), (0:UInt8), (0:UInt8), (0:UInt8), (0:UInt8), (0:UInt8), (0:UInt8), (0:UInt8), (0:UInt8), (0:UInt8), (0:UInt8), (0:UInt8), (0:UInt8), (0:UInt8), (0:UInt8), (0:UInt8), (0:UInt8), (0:UInt8), (0:UInt8), (0:UInt8), (0:UInt8), (0:UInt8)])).toArray, U64 (0:UInt64), U64 (1:UInt64), .agg (List.toArray (α := Value) ([I64 (3:Int), .slice none 0 0, .slice none 0 0, U64 (5:UInt64)]))] _ (AW [.agg (cu8 ([(1:UInt8), (0:UInt8), (0:UInt8), (0:UInt8), (0:UInt8), (0:UInt8), (0:UInt8), (0:UInt8), (0:UInt8), (0:UInt8), (0:UInt8), (0:UInt8), (0:UInt8), (0:UInt8), (0:UInt8), (0:UInt8), (0:UInt8), (0:UInt8), (0:UInt8), (0:UInt8), (0:UInt8), (0:UInt8), (0:UInt8), (0:UInt8), (0:UInt8), (0:UInt8), (0:UInt8), (0:UInt8), (0:UInt8), (0:UInt8), (0:UInt8), (0:UInt8)])).toArray, U64 (0:UInt64), U64 (1:UInt64), .agg (List.toArray (α := Value) ([I64 (3:Int), .slice none 0 0, .slice none 0 0, U64 (5:UInt64)]))] Tryd.call46 rfl) (fun w1 hw1 => sign3_c ([(1:UInt8), (0:UInt8), (0:UInt8), (0:UInt8), (0:UInt8), (0:UInt8), (0:UInt8), (0:UInt8), (0:UInt8), (0:UInt8), (0:UInt8), (0:UInt8), (0:UInt8), (0:UInt8), (0:UInt8), (0:UInt8), (0:UInt8), (0:UInt8), (0:UInt8), (0:UInt8), (0:UInt8), (0:UInt8), (0:UInt8), (0:UInt8), (0:UInt8), (0:UInt8), (0:UInt8), (0:UInt8), (0:UInt8), (0:UInt8), (0:UInt8), (0:UInt8)]) (0:UInt64) (1:UInt64) 3 none 0 none 0 (5:UInt64) 25 w1 rfl (by omega) (fun _ => rfl) (by omega) (fun _ => rfl)  (by decide +kernel) rfl (by decide) (by omega) (hG.at hw1))) rfl ?_
 rintro v1 L1 ⟨_, ⟨ao1, ca1, ao2, ca2, rfl, rfl, hc1, hc2, hc3, hc4⟩, rfl⟩
 show JL _ _ _ _ ((8, .tuple #[.agg (List.toArray (α := Value) ([U64 (0:UInt64), U64 (1:UInt64), I64 (3:Int), .slice ao1 0 ca1, .slice ao2 0 ca2, U64 (5:UInt64)] ++ cu8 (tkG ([(1:UInt8), (0:UInt8), (0:UInt8), (0:UInt8), (0:UInt8), (0:UInt8), (0:UInt8), (0:UInt8), (0:UInt8), (0:UInt8), (0:UInt8), (0:UInt8), (0:UInt8), (0:UInt8), (0:UInt8), (0:UInt8), (0:UInt8), (0:UInt8), (0:UInt8), (0:UInt8), (0:UInt8), (0:UInt8), (0:UInt8), (0:UInt8), (0:UInt8), (0:UInt8), (0:UInt8), (0:UInt8), (0:UInt8), (0:UInt8), (0:UInt8), (0:UInt8)]) (0:UInt64) (1:UInt64) 3 ([] : List UInt64) ([] : List SealR) (5:UInt64)))), .nilIface]) :: _) []
 refine AA _ (AD rfl) rfl ?_
 refine AA _ (BJ rfl rfl) rfl ?_
 refine AA _ (BJ rfl rfl) rfl ?_
 refine AN (BR _ ([U64 (0:UInt64), U64 (0:UInt64), I64 (0:Int), .slice none 0 0, .slice none 0 0, U64 (0:UInt64)] ++ cu8 (zr8 16)) Tryd.zeroValue29 (by kernel_rfl)) rfl ?_
 rintro v1 L1 ⟨nb1, hnb1, rfl, rfl⟩
 show JL _ _ _ _ ((1, Ptr nb1 0) :: _) [⟨nb1, [U64 (0:UInt64), U64 (0:UInt64), I64 (0:Int), .slice none 0 0, .slice none 0 0, U64 (0:UInt64)] ++ cu8 (zr8 16), 29, (0, 0)⟩]
 refine AN (A8 0 nb1 0 22 ([U64 (0:UInt64), U64 (0:UInt64), I64 (0:Int), .slice none 0 0, .slice none 0 0, U64 (0:UInt64)] ++ cu8 (zr8 16)) 29 (.agg (List.toArray (α := Value) ([U64 (0:UInt64), U64 (1:UInt64), I64 (3:Int), .slice ao1 0 ca1, .slice ao2 0 ca2, U64 (5:UInt64)] ++ cu8 (tkG ([(1:UInt8), (0:UInt8), (0:UInt8), (0:UInt8), (0:UInt8), (0:UInt8), (0:UInt8), (0:UInt8), (0:UInt8), (0:UInt8), (0:UInt8), (0:UInt8), (0:UInt8), (0:UInt8), (0:UInt8), (0:UInt8), (0:UInt8), (0:UInt8), (0:UInt8), (0:UInt8), (0:UInt8), (0:UInt8), (0:UInt8), (0:UInt8), (0:UInt8), (0:UInt8), (0:UInt8), (0:UInt8), (0:UInt8), (0:UInt8), (0:UInt8), (0:UInt8)]) (0:UInt64) (1:UInt64) 3 ([] : List UInt64) ([] : List SealR) (5:UInt64))))) ([U64 (0:UInt64), U64 (1:UInt64), I64 (3:Int), .slice ao1 0 ca1, .slice ao2 0 ca2, U64 (5:UInt64)] ++ cu8 (tkG ([(1:UInt8), (0:UInt8), (0:UInt8), (0:UInt8), (0:UInt8), (0:UInt8), (0:UInt8), (0:UInt8), (0:UInt8), (0:UInt8), (0:UInt8), (0:UInt8), (0:UInt8), (0:UInt8), (0:UInt8), (0:UInt8), (0:UInt8), (0:UInt8), (0:UInt8), (0:UInt8), (0:UInt8), (0:UInt8), (0:UInt8), (0:UInt8), (0:UInt8), (0:UInt8), (0:UInt8), (0:UInt8), (0:UInt8), (0:UInt8), (0:UInt8), (0:UInt8)]) (0:UInt64) (1:UInt64) 3 ([] : List UInt64) ([] : List SealR) (5:UInt64))) ([U64 (0:UInt64), U64 (1:UInt64), I64 (3:Int), .slice ao1 0 ca1, .slice ao2 0 ca2, U64 (5:UInt64)] ++ cu8 (tkG ([(1:UInt8), (0:UInt8), (0:UInt8), (0:UInt8), (0:UInt8), (0:UInt8), (0:UInt8), (0:UInt8), (0:UInt8), (0:UInt8), (0:UInt8), (0:UInt8), (0:UInt8), (0:UInt8), (0:UInt8), (0:UInt8), (0:UInt8), (0:UInt8), (0:UInt8), (0:UInt8), (0:UInt8), (0:UInt8), (0:UInt8), (0:UInt8), (0:UInt8), (0:UInt8), (0:UInt8), (0:UInt8), (0:UInt8), (0:UInt8), (0:UInt8), (0:UInt8)]) (0:UInt64) (1:UInt64) 3 ([] : List UInt64) ([] : List SealR) (5:UInt64))) rfl rfl rfl (by first | rfl | simp) C4 (by simp [(EX _ _ _ _ _ _ _)]) (FA (by simp [Value.oneCell']) C5) (by simp [(A2 16)]) (BU (by simp [(A2 16), (EX _ _ _ _ _ _ _)]))) rfl ?_
 rintro v1 L1 ⟨rfl, rfl⟩
 show JL _ _ _ _ _ [⟨nb1, [U64 (0:UInt64), U64 (1:UInt64), I64 (3:Int), .slice ao1 0 ca1, .slice ao2 0 ca2, U64 (5:UInt64)] ++ cu8 (tkG ([(1:UInt8), (0:UInt8), (0:UInt8), (0:UInt8), (0:UInt8), (0:UInt8), (0:UInt8), (0:UInt8), (0:UInt8), (0:UInt8), (0:UInt8), (0:UInt8), (0:UInt8), (0:UInt8), (0:UInt8), (0:UInt8), (0:UInt8), (0:UInt8), (0:UInt8), (0:UInt8), (0:UInt8), (0:UInt8), (0:UInt8), (0:UInt8), (0:UInt8), (0:UInt8), (0:UInt8), (0:UInt8), (0:UInt8), (0:UInt8), (0:UInt8), (0:UInt8)]) (0:UInt64) (1:UInt64) 3 ([] : List UInt64) ([] : List SealR) (5:UInt64)), 29, (0, 0)⟩]
 refine AA _ (AF rfl) rfl ?_
 refine AI (AE (AG (AC (AA (.agg (List.toArray (α := Value) ([U64 (0:UInt64), U64 (1:UInt64), I64 (3:Int), .slice ao1 0 ca1, .slice ao2 0 ca2, U64 (5:UInt64)] ++ cu8 (tkG ([(1:UInt8), (0:UInt8), (0:UInt8), (0:UInt8), (0:UInt8), (0:UInt8), (0:UInt8), (0:UInt8), (0:UInt8), (0:UInt8), (0:UInt8), (0:UInt8), (0:UInt8), (0:UInt8), (0:UInt8), (0:UInt8), (0:UInt8), (0:UInt8), (0:UInt8), (0:UInt8), (0:UInt8), (0:UInt8), (0:UInt8), (0:UInt8), (0:UInt8), (0:UInt8), (0:UInt8), (0:UInt8), (0:UInt8), (0:UInt8), (0:UInt8), (0:UInt8)]) (0:UInt64) (1:UInt64) 3 ([] : List UInt64) ([] : List SealR) (5:UInt64))))) (AL rfl (BO D7 C4 (by simp [(EX _ _ _ _ _ _ _)]) (MemAt.ent 0 rfl (AM _)))) rfl ?_))))
 refine AN (B1 47 [.agg (List.toArray (α := Value) ([U64 (0:UInt64), U64 (1:UInt64), I64 (3:Int), .slice ao1 0 ca1, .slice ao2 0 ca2, U64 (5:UInt64)] ++ cu8 (tkG ([(1:UInt8), (0:UInt8), (0:UInt8), (0:UInt8), (0:UInt8), (0:UInt8), (0:UInt8), (0:UInt8), (0:UInt8), (0:UInt8), (0:UInt8), (0:UInt8), (0:UInt8), (0:UInt8), (0:UInt8), (0:UInt8), (0:UInt8), (0:UInt8), (0:UInt8), (0:UInt8), (0:UInt8), (0:UInt8), (0:UInt8), (0:UInt8), (0:UInt8), (0:UInt8), (0:UInt8), (0:UInt8), (0:UInt8), (0:UInt8), (0:UInt8), (0:UInt8)]) (0:UInt64) (1:UInt64) 3 ([] : List UInt64) ([] : List SealR) (5:UInt64))))] _ (AW [.agg (List.toArray (α := Value) ([U64 (0:UInt64), U64 (1:UInt64), I64 (3:Int), .slice ao1 0 ca1, .slice ao2 0 ca2, U64 (5:UInt64)] ++ cu8 (tkG ([(1:UInt8), (0:UInt8), (0:UInt8), (0:UInt8), (0:UInt8), (0:UInt8), (0:UInt8), (0:UInt8), (0:UInt8), (0:UInt8), (0:UInt8), (0:UInt8), (0:UInt8), (0:UInt8), (0:UInt8), (0:UInt8), (0:UInt8), (0:UInt8), (0:UInt8), (0:UInt8), (0:UInt8), (0:UInt8), (0:UInt8), (0:UInt8), (0:UInt8), (0:UInt8), (0:UInt8), (0:UInt8), (0:UInt8), (0:UInt8), (0:UInt8), (0:UInt8)]) (0:UInt64) (1:UInt64) 3 ([] : List UInt64) ([] : List SealR) (5:UInt64))))] Tryd.call47 rfl) (fun w1 hw1 => put13_c (0:UInt64) (1:UInt64) 3 ao1 0 ca1 ([] : List UInt64) ao2 0 ca2 ([] : List SealR) (5:UInt64) (tkG ([(1:UInt8), (0:UInt8), (0:UInt8), (0:UInt8), (0:UInt8), (0:UInt8), (0:UInt8), (0:UInt8), (0:UInt8), (0:UInt8), (0:UInt8), (0:UInt8), (0:UInt8), (0:UInt8), (0:UInt8), (0:UInt8), (0:UInt8), (0:UInt8), (0:UInt8), (0:UInt8), (0:UInt8), (0:UInt8), (0:UInt8), (0:UInt8), (0:UInt8), (0:UInt8), (0:UInt8), (0:UInt8), (0:UInt8), (0:UInt8), (0:UInt8), (0:UInt8)]) (0:UInt64) (1:UInt64) 3 ([] : List UInt64) ([] : List SealR) (5:UInt64)) 25 w1 rfl (by omega) (by omega) (by omega) RdV.nil rfl (by omega) (by omega) (by omega) RdV.nil (EX _ _ _ _ _ _ _) (by decide +kernel) (by omega) (by omega) (by decide) (by omega))) rfl ?_
 rintro v1 L1 ⟨_, ⟨nb2, sp1, cp1, rfl, rfl, hc5, hc6, hc7⟩, rfl⟩
 show JL _ _ _ _ ((13, .tuple #[Slc nb2 0 41 cp1, .nilIface]) :: _) [_, ⟨nb2, cu8 ((tktT (0:UInt64) (1:UInt64) 3 ([] : List UInt64) ([] : List SealR) (5:UInt64)) ++ (tkG ([(1:UInt8), (0:UInt8), (0:UInt8), (0:UInt8), (0:UInt8), (0:UInt8), (0:UInt8), (0:UInt8), (0:UInt8), (0:UInt8), (0:UInt8), (0:UInt8), (0:UInt8), (0:UInt8), (0:UInt8), (0:UInt8), (0:UInt8), (0:UInt8), (0:UInt8), (0:UInt8), (0:UInt8), (0:UInt8), (0:UInt8), (0:UInt8), (0:UInt8), (0:UInt8), (0:UInt8), (0:UInt8), (0:UInt8), (0:UInt8), (0:UInt8), (0:UInt8)]) (0:UInt64) (1:UInt64) 3 ([] : List UInt64) ([] : List SealR) (5:UInt64))) ++ sp1, 5, (0, 0)⟩]
 refine AA _ (AD rfl) rfl ?_
 refine AA _ (BJ rfl rfl) rfl ?_
 refine AA _ (BJ rfl rfl) rfl ?_
 refine AA _ (AF rfl) rfl ?_
 refine AA _ (AF rfl) rfl ?_
 refine AI (AE (AG (AC (AA _ (AD rfl) rfl ?_))))
 refine AA (.bool true) (D8 _ _ _ rfl rfl (fun _ => D6 ..) fun _ => E4 B8) rfl ?_
 refine AA _ (AD rfl) rfl ?_
 refine AU 2 18 true _ _ rfl rfl rfl (AD rfl) rfl ?_
 refine AU 2 18 true _ (.bool true) rfl rfl rfl (D8 _ _ _ rfl rfl (fun _ => D6 ..) fun _ => E4 B8) rfl ?_
 refine AA _ (CG _ rfl rfl rfl) rfl ?_
 refine AA _ (AD rfl) rfl ?_
 refine AU 6 22 true _ _ rfl rfl rfl (AD rfl) rfl ?_
 refine AU 6 22 true _ (I64 (41:Int)) rfl rfl rfl (DJ AP rfl) rfl ?_
 refine AU 6 22 true _ (.bool (decide ((41:Int) = (41:Int)))) rfl rfl rfl (AK rfl rfl fun _ => CU _ _) rfl ?_
 refine AA _ (CG _ rfl rfl rfl) rfl ?_
 refine AA _ (AD rfl) rfl ?_
 refine AU 11 27 true _ _ rfl rfl (by decide) (AD rfl) rfl ?_
 refine AU 11 27 true _ (Ptr nb2 24) rfl rfl (by decide) (EU 5 1 24 AP AY rfl rfl (by omega) (by omega) (by omega)) rfl ?_
 refine AU 11 27 true _ (U8 (g8 ((tktT (0:UInt64) (1:UInt64) 3 ([] : List UInt64) ([] : List SealR) (5:UInt64)) ++ (tkG ([(1:UInt8), (0:UInt8), (0:UInt8), (0:UInt8), (0:UInt8), (0:UInt8), (0:UInt8), (0:UInt8), (0:UInt8), (0:UInt8), (0:UInt8), (0:UInt8), (0:UInt8), (0:UInt8), (0:UInt8), (0:UInt8), (0:UInt8), (0:UInt8), (0:UInt8), (0:UInt8), (0:UInt8), (0:UInt8), (0:UInt8), (0:UInt8), (0:UInt8), (0:UInt8), (0:UInt8), (0:UInt8), (0:UInt8), (0:UInt8), (0:UInt8), (0:UInt8)]) (0:UInt64) (1:UInt64) 3 ([] : List UInt64) ([] : List SealR) (5:UInt64))) 24)) rfl rfl (by decide) (AL rfl (AZ Tryd.isAgg5 (MemAt.ent 1 rfl (BV (Seg.get (g8_get (i := 24) (by rw [(show ((tktT (0:UInt64) (1:UInt64) 3 ([] : List UInt64) ([] : List SealR) (5:UInt64)) ++ (tkG ([(1:UInt8), (0:UInt8), (0:UInt8), (0:UInt8), (0:UInt8), (0:UInt8), (0:UInt8), (0:UInt8), (0:UInt8), (0:UInt8), (0:UInt8), (0:UInt8), (0:UInt8), (0:UInt8), (0:UInt8), (0:UInt8), (0:UInt8), (0:UInt8), (0:UInt8), (0:UInt8), (0:UInt8), (0:UInt8), (0:UInt8), (0:UInt8), (0:UInt8), (0:UInt8), (0:UInt8), (0:UInt8), (0:UInt8), (0:UInt8), (0:UInt8), (0:UInt8)]) (0:UInt64) (1:UInt64) 3 ([] : List UInt64) ([] : List SealR) (5:UInt64))).length = 41 from (by rw [List.length_append, (show (tktT (0:UInt64) (1:UInt64) 3 ([] : List UInt64) ([] : List SealR) (5:UInt64)).length = 25 from (FH rfl rfl).trans (by decide)), (EX _ _ _ _ _ _ _)]))]; omega))))))) rfl ?_
 refine AU 11 27 true _ (.bool (decide ((g8 ((tktT (0:UInt64) (1:UInt64) 3 ([] : List UInt64) ([] : List SealR) (5:UInt64)) ++ (tkG ([(1:UInt8), (0:UInt8), (0:UInt8), (0:UInt8), (0:UInt8), (0:UInt8), (0:UInt8), (0:UInt8), (0:UInt8), (0:UInt8), (0:UInt8), (0:UInt8), (0:UInt8), (0:UInt8), (0:UInt8), (0:UInt8), (0:UInt8), (0:UInt8), (0:UInt8), (0:UInt8), (0:UInt8), (0:UInt8), (0:UInt8), (0:UInt8), (0:UInt8), (0:UInt8), (0:UInt8), (0:UInt8), (0:UInt8), (0:UInt8), (0:UInt8), (0:UInt8)]) (0:UInt64) (1:UInt64) 3 ([] : List UInt64) ([] : List SealR) (5:UInt64))) 24) = (5:UInt8)))) rfl rfl (by decide) (AK rfl rfl fun _ => bin_eql_u8 (g8 ((tktT (0:UInt64) (1:UInt64) 3 ([] : List UInt64) ([] : List SealR) (5:UInt64)) ++ (tkG ([(1:UInt8), (0:UInt8), (0:UInt8), (0:UInt8), (0:UInt8), (0:UInt8), (0:UInt8), (0:UInt8), (0:UInt8), (0:UInt8), (0:UInt8), (0:UInt8), (0:UInt8), (0:UInt8), (0:UInt8), (0:UInt8), (0:UInt8), (0:UInt8), (0:UInt8), (0:UInt8), (0:UInt8), (0:UInt8), (0:UInt8), (0:UInt8), (0:UInt8), (0:UInt8), (0:UInt8), (0:UInt8), (0:UInt8), (0:UInt8), (0:UInt8), (0:UInt8)]) (0:UInt64) (1:UInt64) 3 ([] : List UInt64) ([] : List SealR) (5:UInt64))) 24) (5:UInt8)) rfl ?_
 refine AA _ (CG _ rfl (by decide) rfl) rfl ?_
 refine AA _ (AD rfl) rfl ?_
 refine AU 17 33 true _ (.agg (cu8 ([(1:UInt8), (0:UInt8), (0:UInt8), (0:UInt8), (0:UInt8), (0:UInt8), (0:UInt8), (0:UInt8), (0:UInt8), (0:UInt8), (0:UInt8), (0:UInt8), (0:UInt8), (0:UInt8), (0:UInt8), (0:UInt8), (0:UInt8), (0:UInt8), (0:UInt8), (0:UInt8), (0:UInt8), (0:UInt8), (0:UInt8), (0:UInt8), (0:UInt8), (0:UInt8), (0:UInt8), (0:UInt8), (0:UInt8), (0:UInt8), (0:UInt8), (0:UInt8)])).toArray) rfl rfl (by decide +kernel) (EG [(0, U8 (1:UInt8))] _ rfl (fun _ => by kernel_rfl)) rfl ?_
 refine AU 17 33 true _ (.agg (List.toArray (α := Value) ([U64 (0:UInt64), U64 (1:UInt64), I64 (3:Int), .slice ao1 0 ca1, .slice ao2 0 ca2, U64 (5:UInt64)] ++ cu8 (tkG ([(1:UInt8), (0:UInt8), (0:UInt8), (0:UInt8), (0:UInt8), (0:UInt8), (0:UInt8), (0:UInt8), (0:UInt8), (0:UInt8), (0:UInt8), (0:UInt8), (0:UInt8), (0:UInt8), (0:UInt8), (0:UInt8), (0:UInt8), (0:UInt8), (0:UInt8), (0:UInt8), (0:UInt8), (0:UInt8), (0:UInt8), (0:UInt8), (0:UInt8), (0:UInt8), (0:UInt8), (0:UInt8), (0:UInt8), (0:UInt8), (0:UInt8), (0:UInt8)]) (0:UInt64) (1:UInt64) 3 ([] : List UInt64) ([] : List SealR) (5:UInt64))))) rfl rfl (by decide +kernel) (AL rfl (BO D7 C4 (by simp [(EX _ _ _ _ _ _ _)]) (MemAt.ent 0 rfl (AM _)))) rfl ?_
 refine FL 17 33 true _ rfl rfl (by decide +kernel) (AT 48 [.agg (cu8 ([(1:UInt8), (0:UInt8), (0:UInt8), (0:UInt8), (0:UInt8), (0:UInt8), (0:UInt8), (0:UInt8), (0:UInt8), (0:UInt8), (0:UInt8), (0:UInt8), (0:UInt8), (0:UInt8), (0:UInt8), (0:UInt8), (0:UInt8), (0:UInt8), (0:UInt8), (0:UInt8), (0:UInt8), (0:UInt8), (0:UInt8), (0:UInt8), (0:UInt8), (0:UInt8), (0:UInt8), (0:UInt8), (0:UInt8), (0:UInt8), (0:UInt8), (0:UInt8)])).toArray, .agg (List.toArray (α := Value) ([U64 (0:UInt64), U64 (1:UInt64), I64 (3:Int), .slice ao1 0 ca1, .slice ao2 0 ca2, U64 (5:UInt64)] ++ cu8 (tkG ([(1:UInt8), (0:UInt8), (0:UInt8), (0:UInt8), (0:UInt8), (0:UInt8), (0:UInt8), (0:UInt8), (0:UInt8), (0:UInt8), (0:UInt8), (0:UInt8), (0:UInt8), (0:UInt8), (0:UInt8), (0:UInt8), (0:UInt8), (0:UInt8), (0:UInt8), (0:UInt8), (0:UInt8), (0:UInt8), (0:UInt8), (0:UInt8), (0:UInt8), (0:UInt8), (0:UInt8), (0:UInt8), (0:UInt8), (0:UInt8), (0:UInt8), (0:UInt8)]) (0:UInt64) (1:UInt64) 3 ([] : List UInt64) ([] : List SealR) (5:UInt64))))] (.nilIface) (AW [.agg (cu8 ([(1:UInt8), (0:UInt8), (0:UInt8), (0:UInt8), (0:UInt8), (0:UInt8), (0:UInt8), (0:UInt8), (0:UInt8), (0:UInt8), (0:UInt8), (0:UInt8), (0:UInt8), (0:UInt8), (0:UInt8), (0:UInt8), (0:UInt8), (0:UInt8), (0:UInt8), (0:UInt8), (0:UInt8), (0:UInt8), (0:UInt8), (0:UInt8), (0:UInt8), (0:UInt8), (0:UInt8), (0:UInt8), (0:UInt8), (0:UInt8), (0:UInt8), (0:UInt8)])).toArray, .agg (List.toArray (α := Value) ([U64 (0:UInt64), U64 (1:UInt64), I64 (3:Int), .slice ao1 0 ca1, .slice ao2 0 ca2, U64 (5:UInt64)] ++ cu8 (tkG ([(1:UInt8), (0:UInt8), (0:UInt8), (0:UInt8), (0:UInt8), (0:UInt8), (0:UInt8), (0:UInt8), (0:UInt8), (0:UInt8), (0:UInt8), (0:UInt8), (0:UInt8), (0:UInt8), (0:UInt8), (0:UInt8), (0:UInt8), (0:UInt8), (0:UInt8), (0:UInt8), (0:UInt8), (0:UInt8), (0:UInt8), (0:UInt8), (0:UInt8), (0:UInt8), (0:UInt8), (0:UInt8), (0:UInt8), (0:UInt8), (0:UInt8), (0:UInt8)]) (0:UInt64) (1:UInt64) 3 ([] : List UInt64) ([] : List SealR) (5:UInt64))))] Tryd.call48 rfl) (fun w1 hw1 => chkK_c ([(1:UInt8), (0:UInt8), (0:UInt8), (0:UInt8), (0:UInt8), (0:UInt8), (0:UInt8), (0:UInt8), (0:UInt8), (0:UInt8), (0:UInt8), (0:UInt8), (0:UInt8), (0:UInt8), (0:UInt8), (0:UInt8), (0:UInt8), (0:UInt8), (0:UInt8), (0:UInt8), (0:UInt8), (0:UInt8), (0:UInt8), (0:UInt8), (0:UInt8), (0:UInt8), (0:UInt8), (0:UInt8), (0:UInt8), (0:UInt8), (0:UInt8), (0:UInt8)]) (0:UInt64) (1:UInt64) 3 ao1 0 ca1 ([] : List UInt64) ao2 0 ca2 ([] : List SealR) (5:UInt64) (tkG ([(1:UInt8), (0:UInt8), (0:UInt8), (0:UInt8), (0:UInt8), (0:UInt8), (0:UInt8), (0:UInt8), (0:UInt8), (0:UInt8), (0:UInt8), (0:UInt8), (0:UInt8), (0:UInt8), (0:UInt8), (0:UInt8), (0:UInt8), (0:UInt8), (0:UInt8), (0:UInt8), (0:UInt8), (0:UInt8), (0:UInt8), (0:UInt8), (0:UInt8), (0:UInt8), (0:UInt8), (0:UInt8), (0:UInt8), (0:UInt8), (0:UInt8), (0:UInt8)]) (0:UInt64) (1:UInt64) 3 ([] : List UInt64) ([] : List SealR) (5:UInt64)) 25 w1 rfl rfl (by omega) (by omega) (by omega) RdV.nil rfl (by omega) (by omega) (by omega) RdV.nil (EX _ _ _ _ _ _ _) (by decide +kernel) (by omega) (by omega) (by decide) (by omega) (hG.at hw1) rfl)) rfl ?_
 rintro v1 L1 ⟨rfl, rfl⟩
 show JL _ _ _ _ ((36, .nilIface) :: _) [_, _]
 refine AU 17 33 true _ (.bool true) rfl rfl (by decide +kernel) (D8 _ _ _ rfl rfl (fun _ => D6 ..) fun _ => E4 B8) rfl ?_
 refine AA _ (CG _ rfl (by decide +kernel) rfl) rfl ?_
 refine AA _ (AF rfl) rfl ?_
 refine AI (AE (BG (B5 [false, false] ?_)))
 show JQ _ _ _ _ []
 refine BI (.bool true) (res1 Tryd.results43 (BK rfl)) fun w1 hw1 => ?_
 exact ⟨_, [], rfl, ⟨by rw [show (true) = true from rfl], rfl⟩, hw1.sub (by simp) (by simp)⟩
end Go.Proofs.YtkdpdgpphpngeaaDoor
namespace Go.Proofs.YtkdpdgpphpngeaaDoor
open Go Go.Sx
set_option linter.unusedVariables false
set_option linter.unusedSimpArgs false
set_option maxRecDepth 100000
attribute [local irreducible] mid zr8 zr32 numK rnK rotr wordL spreadL comprL cpN adN spN wrdN constL initL padL stN outN routN sumG putL leafT joinT empL empA empR RightB tktT mayN idxT selT macL tkG mulH repL lvT lvH RightO
theorem toL_c (pv ep : UInt64) (kd : Int) (ai : Option Addr) (ni ci : Nat) (l : List UInt64) (sa : Option Addr) (ns sc : Nat) (ls : List SealR) (bl : UInt64) (blk : UInt64)  (w : World) (hlg : LargeP ni ns) (hG : GLs w) (hGr : GLr w) (hGi : GLi w)  : Calls Tryd.prog 13 #[.agg (List.toArray (α := Value) ([I64 (kd), .slice ai ni ci, .slice sa ns sc, U64 bl])), U64 blk] w (Post w [] (fun v L => v = .bool true ∧ L = [])) := by
 have hmx : maxLen = 9223372036854775807 := rfl
 refine enter (P := Tryd.prog) (f := 13) (fn := Tryd.f13) w [] 57 [] [.agg (List.toArray (α := Value) ([I64 (kd), .slice ai ni ci, .slice sa ns sc, U64 bl])), U64 blk] Tryd.func13 rfl rfl (by simp) (BL (by simp) (by simp) (by simp)) ?_
 show JC _ _ _ [(0, .agg (List.toArray (α := Value) ([I64 (kd), .slice ai ni ci, .slice sa ns sc, U64 bl]))), (1, U64 blk)] _
 refine AG (AC (AN (CM (.agg (List.toArray (α := Value) ([I64 (kd), .slice ai ni ci, .slice sa ns sc, U64 bl]))) ([I64 (kd), .slice ai ni ci, .slice sa ns sc, U64 bl]) rfl (by first | rfl | simp)) rfl ?_))
 rintro v1 L1 ⟨nb1, hnb1, rfl, rfl⟩
 show JL _ _ _ _ ((2, Ptr nb1 0) :: _) [⟨nb1, [I64 (kd), .slice ai ni ci, .slice sa ns sc, U64 bl], 26, (0, 0)⟩]
 refine AA _ (AF rfl) rfl ?_
 refine AI (AE (AG (AG (AC (AN (AT 43 [] (.bool true) (AW [] Tryd.call43 rfl) (fun w1 hw1 => alive13_c  w1 (hG.at hw1))) rfl ?_)))))
 rintro v1 L1 ⟨rfl, rfl⟩
 show JL _ _ _ _ ((9, .bool true) :: _) [_]
 refine AA (.bool (!true)) (ER rfl) rfl ?_
 refine AI (AE (B9 _ rfl rfl ?_))
 refine BE (AE (AG (AG (AC (AA (.agg (List.toArray (α := Value) ([I64 (kd), .slice ai ni ci, .slice sa ns sc, U64 bl]))) (AL rfl (BO CV B0 rfl (MemAt.ent 0 rfl (AM _)))) rfl ?_)))))
 refine AN (AT 18 [.agg (List.toArray (α := Value) ([I64 (kd), .slice ai ni ci, .slice sa ns sc, U64 bl]))] (.bool (decide (LargeP ni ns))) (AW [.agg (List.toArray (α := Value) ([I64 (kd), .slice ai ni ci, .slice sa ns sc, U64 bl]))] Tryd.call18 rfl) (fun w1 hw1 => large_c (kd) ai ni ci l sa ns sc ls bl w1 )) rfl ?_
 rintro v1 L1 ⟨rfl, rfl⟩
 show JL _ _ _ _ ((12, .bool (decide (LargeP ni ns))) :: _) [_]
 refine AI (AE (DM _ rfl (decide_eq_true hlg) ?_))
 refine AG (AC (AA _ (AF rfl) rfl ?_))
 refine AI (AE (BG (A0 (B5 [false] ?_))))
 show JQ _ _ _ _ []
 refine BI (.bool true) (res1 Tryd.results13 (BK rfl)) fun w1 hw1 => ?_
 exact ⟨_, [], rfl, ⟨by rw [show (true) = true from rfl], rfl⟩, hw1.sub (by simp) (by simp)⟩
theorem to1_c (pv ep : UInt64) (k : Nat) (ai : Option Addr) (ni ci : Nat) (l : List UInt64) (sa : Option Addr) (ns sc : Nat) (ls : List SealR) (bl : UInt64) (blk : UInt64)  (w : World) (hl : l.length = ni) (hnm : ni ≤ 2000000) (hnc : ni ≤ ci) (hcm : ci ≤ maxLen) (hv : RdV w ai (cu64 l)) (hls : ls.length = ns) (hnn : ns ≤ 2000000) (hnd : ns ≤ sc) (hcn : sc ≤ maxLen) (hs : RdV w sa (ls.flatMap sealC)) (hp1 : 0 < ni) (hp0 : 0 < ns) (hR : RightO (k:Int) l ls bl = true) (hk : k = 1) (hRI : RightI l) (hn3 : ni ≤ 300) (hnn2 : ns = ni) (hG : GLs w) (hGr : GLr w) (hGi : GLi w) (hlg : ¬ LargeP ni ns)  : Calls Tryd.prog 13 #[.agg (List.toArray (α := Value) ([I64 ((k:Int)), .slice ai ni ci, .slice sa ns sc, U64 bl])), U64 blk] w (Post w [] (fun v L => v = .bool true ∧ L = [])) := by
 have hmx : maxLen = 9223372036854775807 := rfl
 refine enter (P := Tryd.prog) (f := 13) (fn := Tryd.f13) w [] 57 [] [.agg (List.toArray (α := Value) ([I64 ((k:Int)), .slice ai ni ci, .slice sa ns sc, U64 bl])), U64 blk] Tryd.func13 rfl rfl (by simp) (BL (by simp) (by simp) (by simp)) ?_
 show JC _ _ _ [(0, .agg (List.toArray (α := Value) ([I64 ((k:Int)), .slice ai ni ci, .slice sa ns sc, U64 bl]))), (1, U64 blk)] _
 refine AG (AC (AN (CM (.agg (List.toArray (α := Value) ([I64 ((k:Int)), .slice ai ni ci, .slice sa ns sc, U64 bl]))) ([I64 ((k:Int)), .slice ai ni ci, .slice sa ns sc, U64 bl]) rfl (by first | rfl | simp)) rfl ?_))
 rintro v1 L1 ⟨nb1, hnb1, rfl, rfl⟩
 show JL _ _ _ _ ((2, Ptr nb1 0) :: _) [⟨nb1, [I64 ((k:Int)), .slice ai ni ci, .slice sa ns sc, U64 bl], 26, (0, 0)⟩]
 refine AA _ (AF rfl) rfl ?_
 refine AI (AE (AG (AG (AC (AN (AT 43 [] (.bool true) (AW [] Tryd.call43 rfl) (fun w1 hw1 => alive13_c  w1 (hG.at hw1))) rfl ?_)))))
 rintro v1 L1 ⟨rfl, rfl⟩
 show JL _ _ _ _ ((9, .bool true) :: _) [_]
 refine AA (.bool (!true)) (ER rfl) rfl ?_
 refine AI (AE (B9 _ rfl rfl ?_))
 refine BE (AE (AG (AG (AC (AA (.agg (List.toArray (α := Value) ([I64 ((k:Int)), .slice ai ni ci, .slice sa ns sc, U64 bl]))) (AL rfl (BO CV B0 rfl (MemAt.ent 0 rfl (AM _)))) rfl ?_)))))
 refine AN (AT 18 [.agg (List.toArray (α := Value) ([I64 ((k:Int)), .slice ai ni ci, .slice sa ns sc, U64 bl]))] (.bool (decide (LargeP ni ns))) (AW [.agg (List.toArray (α := Value) ([I64 ((k:Int)), .slice ai ni ci, .slice sa ns sc, U64 bl]))] Tryd.call18 rfl) (fun w1 hw1 => large_c ((k:Int)) ai ni ci l sa ns sc ls bl w1 )) rfl ?_
 rintro v1 L1 ⟨rfl, rfl⟩
 show JL _ _ _ _ ((12, .bool (decide (LargeP ni ns))) :: _) [_]
 refine AI (AE (B9 _ rfl (decide_eq_false hlg) ?_))
 refine BE (AE (AG (AC (AA (.agg (List.toArray (α := Value) ([I64 ((k:Int)), .slice ai ni ci, .slice sa ns sc, U64 bl]))) (AL rfl (BO CV B0 rfl (MemAt.ent 0 rfl (AM _)))) rfl ?_))))
 refine AN (B1 66 [.agg (List.toArray (α := Value) ([I64 ((k:Int)), .slice ai ni ci, .slice sa ns sc, U64 bl]))] _ (AW [.agg (List.toArray (α := Value) ([I64 ((k:Int)), .slice ai ni ci, .slice sa ns sc, U64 bl]))] Tryd.call66 rfl) (fun w1 hw1 => orderP_c ((k:Int)) ai ni ci l sa ns sc ls bl w1 hl (by omega) (by omega) (by omega) (DD hw1 rfl hv) hls (by omega) (by omega) (by omega) (DD hw1 rfl hs) (by omega))) rfl ?_
 rintro v1 L1 ⟨_, ⟨nb2, sp1, cp1, rfl, rfl, hc1, hc2, hc3⟩, rfl⟩
 show JL _ _ _ _ ((14, .agg (List.toArray (α := Value) ([I64 ((k:Int)), .slice ai ni ci, Slc nb2 0 ns cp1, U64 bl]))) :: _) [_, ⟨nb2, (ls).flatMap sealC ++ sp1, 164, (0, 0)⟩]
 refine AN (BR _ ([I64 (0:Int), .slice none 0 0, .slice none 0 0, U64 (0:UInt64)]) Tryd.zeroValue36 (by kernel_rfl)) rfl ?_
 rintro v1 L1 ⟨nb3, hnb3, rfl, rfl⟩
 show JL _ _ _ _ ((5, Ptr nb3 0) :: _) [_, _, ⟨nb3, [I64 (0:Int), .slice none 0 0, .slice none 0 0, U64 (0:UInt64)], 36, (0, 0)⟩]
 refine AN (A8 2 nb3 0 4 ([I64 (0:Int), .slice none 0 0, .slice none 0 0, U64 (0:UInt64)]) 36 (.agg (List.toArray (α := Value) ([I64 ((k:Int)), .slice ai ni ci, Slc nb2 0 ns cp1, U64 bl]))) ([I64 ((k:Int)), .slice ai ni ci, Slc nb2 0 ns cp1, U64 bl]) ([I64 ((k:Int)), .slice ai ni ci, Slc nb2 0 ns cp1, U64 bl]) rfl rfl rfl (by first | rfl | simp) CQ rfl (by simp [Value.oneCell']) (Nat.le_of_ble_eq_true rfl) (BU (by simp []))) rfl ?_
 rintro v1 L1 ⟨rfl, rfl⟩
 show JL _ _ _ _ _ [_, _, ⟨nb3, [I64 ((k:Int)), .slice ai ni ci, Slc nb2 0 ns cp1, U64 bl], 36, (0, 0)⟩]
 refine AI (AE (AG (AC (AA (.agg (List.toArray (α := Value) ([I64 ((k:Int)), .slice ai ni ci, Slc nb2 0 ns cp1, U64 bl]))) (AL rfl (BO DO CQ rfl (MemAt.ent 2 rfl (AM _)))) rfl ?_))))
 refine AN (AT 67 [.agg (List.toArray (α := Value) ([I64 ((k:Int)), .slice ai ni ci, Slc nb2 0 ns cp1, U64 bl]))] (.bool (RightO ((k:Int)) l ls bl)) (AW [.agg (List.toArray (α := Value) ([I64 ((k:Int)), .slice ai ni ci, Slc nb2 0 ns cp1, U64 bl]))] Tryd.call67 rfl) (fun w1 hw1 => rright13_c ((k:Int)) ai ni ci l (some ⟨nb2, 0, none⟩) ns cp1 ls bl w1 hl (by omega) (by omega) (by omega) (DD hw1 rfl hv) hls (by omega) (by omega) (by omega) (RdV.of hw1 (MemAt.ent 1 rfl (BV (AM _)))))) rfl ?_
 rintro v1 L1 ⟨rfl, rfl⟩
 show JL _ _ _ _ ((16, .bool (RightO ((k:Int)) l ls bl)) :: _) [_, _, _]
 refine AA _ (AF rfl) rfl ?_
 refine AI (AE (AG (AC (AA (.agg (List.toArray (α := Value) ([I64 ((k:Int)), .slice ai ni ci, .slice sa ns sc, U64 bl]))) (AL rfl (BO CV B0 rfl (MemAt.ent 0 rfl (AM _)))) rfl ?_))))
 refine AN (B1 68 [.agg (List.toArray (α := Value) ([I64 ((k:Int)), .slice ai ni ci, .slice sa ns sc, U64 bl]))] _ (AW [.agg (List.toArray (α := Value) ([I64 ((k:Int)), .slice ai ni ci, .slice sa ns sc, U64 bl]))] Tryd.call68 rfl) (fun w1 hw1 => leaves1_c 0 0 k ai ni ci l sa ns sc ls bl w1 hl (by omega) (by omega) (by omega) (DD hw1 rfl hv) hls (by omega) (by omega) (by omega) (DD hw1 rfl hs) hR hk hRI (by omega) hn3 hnn2 (hG.at hw1))) rfl ?_
 rintro v1 L1 ⟨_, ⟨nb4, rfl, rfl⟩, rfl⟩
 show JL _ _ _ _ ((19, .tuple #[Slc nb4 0 ni ni, .nilIface]) :: _) [_, _, _, ⟨nb4, cu8 (lvT l ls ni), 54, (0, 0)⟩]
 refine AA _ (AD rfl) rfl ?_
 refine AA _ (BJ rfl rfl) rfl ?_
 refine AA _ (BJ rfl rfl) rfl ?_
 refine AA _ (AF rfl) rfl ?_
 refine AA _ (AF rfl) rfl ?_
 refine AI (AE (AG (AG (C3 57 4 [(0, .agg (List.toArray (α := Value) ([I64 ((k:Int)), .slice ai ni ci, .slice sa ns sc, U64 bl]))), (2, .bool (RightO ((k:Int)) l ls bl))] BQ rfl (by decide +kernel) ?_))))
 refine BT ⟨[], [0, 2], [], [0, 2], [1]⟩ 1 _ rfl rfl (by decide +kernel) rfl ⟨⟨_, rfl, AB rfl (AL rfl (BO CV B0 rfl (MemAt.ent 0 rfl (AM _))))⟩, ⟨_, rfl, AB rfl (AD rfl)⟩, trivial⟩ rfl (A1 rfl (AT 69 [.agg (List.toArray (α := Value) ([I64 ((k:Int)), .slice ai ni ci, .slice sa ns sc, U64 bl]))] (.bool (RightO ((k:Int)) l ls bl)) (AW [.agg (List.toArray (α := Value) ([I64 ((k:Int)), .slice ai ni ci, .slice sa ns sc, U64 bl]))] Tryd.call69 rfl) (fun w1 hw1 => FJ ((k:Int)) ai ni ci l sa ns sc ls bl w1 hl (by omega) (by omega) (by omega) (DD hw1 rfl hv) hls (by omega) (by omega) (by omega) (DD hw1 rfl hs)))) ?_
 rintro v1 L1 ⟨rfl, rfl⟩
 refine ⟨[(3, .bool (!((RightO ((k:Int)) l ls bl) == (RightO ((k:Int)) l ls bl)))), (4, .bool (!((RightO ((k:Int)) l ls bl) == (RightO ((k:Int)) l ls bl)))), (5, .agg (List.toArray (α := Value) ([I64 ((k:Int)), .slice ai ni ci, .slice sa ns sc, U64 bl]))), (6, U64 blk), (8, .agg (List.toArray (α := Value) ([I64 ((k:Int)), .slice ai ni ci, Slc nb2 0 ns cp1, U64 bl]))), (9, U64 blk)], ?_⟩
 show DP _ _ _ _ _ _ _ _ [_, _, _, _]
 refine BT ⟨[1], [0, 2, 3, 4, 5, 6, 8, 9], [0], [2, 3, 4, 5, 6, 8, 9], [7]⟩ 7 _ rfl rfl (by decide +kernel) rfl ⟨⟨_, rfl, AB rfl (AD rfl)⟩, ⟨_, rfl, AB rfl (D8 _ _ _ rfl rfl (fun _ => EV ..) fun _ => neq_bool Tryd.underlying4)⟩, ⟨_, rfl, AB rfl (AD rfl)⟩, ⟨_, rfl, BW 4 26 false _ rfl rfl rfl (by rw [show ((RightO ((k:Int)) l ls bl) == (RightO ((k:Int)) l ls bl)) = true from (beq_self_eq_true _)] <;> rfl) (AL rfl (BO CV B0 rfl (MemAt.ent 0 rfl (AM _))))⟩, ⟨_, rfl, BW 4 26 false _ rfl rfl rfl (by rw [show ((RightO ((k:Int)) l ls bl) == (RightO ((k:Int)) l ls bl)) = true from (beq_self_eq_true _)] <;> rfl) (AD rfl)⟩, ⟨_, rfl, BW 4 26 false _ rfl rfl rfl (by rw [show ((RightO ((k:Int)) l ls bl) == (RightO ((k:Int)) l ls bl)) = true from (beq_self_eq_true _)] <;> rfl) (AL rfl (BO DO CQ rfl (MemAt.ent 2 rfl (AM _))))⟩, ⟨_, rfl, BW 4 26 false _ rfl rfl rfl (by rw [show ((RightO ((k:Int)) l ls bl) == (RightO ((k:Int)) l ls bl)) = true from (beq_self_eq_true _)] <;> rfl) (AD rfl)⟩, trivial⟩ rfl (Cok_gstep 4 26 false _ rfl rfl rfl (by rw [show ((RightO ((k:Int)) l ls bl) == (RightO ((k:Int)) l ls bl)) = true from (beq_self_eq_true _)] <;> rfl) (AT 70 [.agg (List.toArray (α := Value) ([I64 ((k:Int)), .slice ai ni ci, .slice sa ns sc, U64 bl])), U64 blk] (.bool ((RightO ((k:Int)) l ls bl) && (!(l.any (fun x => decide (blk ≤ x)))))) (AW [.agg (List.toArray (α := Value) ([I64 ((k:Int)), .slice ai ni ci, .slice sa ns sc, U64 bl])), U64 blk] Tryd.call70 rfl) (fun w1 hw1 => fits13_c ((k:Int)) ai ni ci l sa ns sc ls bl blk w1 hl (by omega) (by omega) (by omega) (DD hw1 rfl hv) hls (by omega) (by omega) (by omega) (DD hw1 rfl hs)))) ?_
 rintro v1 L1 ⟨rfl, rfl⟩
 refine ⟨[], ?_⟩
 show DP _ _ _ _ _ _ _ _ [_, _, _, _]
 refine BT ⟨[1, 7], [0, 2, 3, 4, 5, 6, 8, 9], [0, 2, 3, 4, 5, 6], [8, 9], [10]⟩ 10 _ rfl rfl (by decide +kernel) rfl ⟨⟨_, rfl, BW 4 26 false _ rfl rfl rfl (by rw [show ((RightO ((k:Int)) l ls bl) == (RightO ((k:Int)) l ls bl)) = true from (beq_self_eq_true _)] <;> rfl) (AL rfl (BO DO CQ rfl (MemAt.ent 2 rfl (AM _))))⟩, ⟨_, rfl, BW 4 26 false _ rfl rfl rfl (by rw [show ((RightO ((k:Int)) l ls bl) == (RightO ((k:Int)) l ls bl)) = true from (beq_self_eq_true _)] <;> rfl) (AD rfl)⟩, trivial⟩ rfl (Cok_gstep 4 26 false _ rfl rfl rfl (by rw [show ((RightO ((k:Int)) l ls bl) == (RightO ((k:Int)) l ls bl)) = true from (beq_self_eq_true _)] <;> rfl) (AT 71 [.agg (List.toArray (α := Value) ([I64 ((k:Int)), .slice ai ni ci, Slc nb2 0 ns cp1, U64 bl])), U64 blk] (.bool ((RightO ((k:Int)) l ls bl) && (!(l.any (fun x => decide (blk ≤ x)))))) (AW [.agg (List.toArray (α := Value) ([I64 ((k:Int)), .slice ai ni ci, Slc nb2 0 ns cp1, U64 bl])), U64 blk] Tryd.call71 rfl) (fun w1 hw1 => rfits13_c ((k:Int)) ai ni ci l (some ⟨nb2, 0, none⟩) ns cp1 ls bl blk w1 hl (by omega) (by omega) (by omega) (DD hw1 rfl hv) hls (by omega) (by omega) (by omega) (RdV.of hw1 (MemAt.ent 1 rfl (BV (AM _))))))) ?_
 rintro v1 L1 ⟨rfl, rfl⟩
 refine ⟨[(11, .bool (!(((RightO ((k:Int)) l ls bl) && (!(l.any (fun x => decide (blk ≤ x))))) == ((RightO ((k:Int)) l ls bl) && (!(l.any (fun x => decide (blk ≤ x)))))))), (12, .bool (!(((RightO ((k:Int)) l ls bl) && (!(l.any (fun x => decide (blk ≤ x))))) == ((RightO ((k:Int)) l ls bl) && (!(l.any (fun x => decide (blk ≤ x))))))))], ?_⟩
 show DP _ _ _ _ _ _ _ _ [_, _, _, _]
 refine DG ⟨[1, 7, 10], [0, 2, 3, 4, 5, 6, 8, 9, 11, 12], [0, 2, 3, 4, 5, 6, 8, 9], [11, 12], []⟩ rfl rfl (by decide +kernel) rfl ⟨⟨_, rfl, BW 4 26 false _ rfl rfl rfl (by rw [show ((RightO ((k:Int)) l ls bl) == (RightO ((k:Int)) l ls bl)) = true from (beq_self_eq_true _)] <;> rfl) (D8 _ _ _ rfl rfl (fun _ => EV ..) fun _ => neq_bool Tryd.underlying4)⟩, ⟨_, rfl, AB rfl (BX _ rfl (by rw [show ((RightO ((k:Int)) l ls bl) == (RightO ((k:Int)) l ls bl)) = true from (beq_self_eq_true _)] <;> rfl) rfl)⟩, trivial⟩ ?_
 refine CZ (F' := [(34, .bool (!(((RightO ((k:Int)) l ls bl) && (!(l.any (fun x => decide (blk ≤ x))))) == ((RightO ((k:Int)) l ls bl) && (!(l.any (fun x => decide (blk ≤ x)))))))), (2, Ptr nb1 0), (4, .bool false), (5, Ptr nb3 0), (6, .bool (RightO ((k:Int)) l ls bl)), (7, Slc nb4 0 ni ni), (8, .nilIface)]) (by kernel_rfl) ?_
 refine AE (B9 _ rfl (by rw [show (((RightO ((k:Int)) l ls bl) && (!(l.any (fun x => decide (blk ≤ x))))) == ((RightO ((k:Int)) l ls bl) && (!(l.any (fun x => decide (blk ≤ x)))))) = true from (beq_self_eq_true _)] <;> rfl) ?_)
 refine BE (AE (AG (AG (AC (AA _ (AD rfl) rfl ?_)))))
 refine AA (.bool (!(RightO ((k:Int)) l ls bl))) (ER rfl) rfl ?_
 refine AA _ (AD rfl) rfl ?_
 refine AU 2 37 false _ (Ptr nb1 0) rfl rfl (by rw [show (RightO ((k:Int)) l ls bl) = true from hR] <;> rfl) (AJ 0 3 1 AO rfl B3 rfl rfl) rfl ?_
 refine AU 2 37 false _ (I64 ((k:Int))) rfl rfl (by rw [show (RightO ((k:Int)) l ls bl) = true from hR] <;> rfl) (AL rfl (AZ B7 (MemAt.ent 0 rfl (Seg.head)))) rfl ?_
 refine AU 2 37 false _ (.bool (decide (((k:Int)) = (3:Int)))) rfl rfl (by rw [show (RightO ((k:Int)) l ls bl) = true from hR] <;> rfl) (AK rfl rfl fun _ => CU _ _) rfl ?_
 refine AA _ (BX _ rfl (by rw [show (RightO ((k:Int)) l ls bl) = true from hR] <;> rfl) rfl) rfl ?_
 refine AI (AE (B9 _ rfl (decide_eq_false (by omega)) ?_))
 refine BE (AE (AG (AC (AA _ (AD rfl) rfl ?_))))
 refine AA (.bool true) (D8 _ _ _ rfl rfl (fun _ => D6 ..) fun _ => E4 B8) rfl ?_
 refine AA _ (AD rfl) rfl ?_
 refine AU 2 51 true _ _ rfl rfl rfl (AD rfl) rfl ?_
 refine AU 2 51 true _ (.agg (List.toArray (α := Value) ([I64 ((k:Int)), .slice ai ni ci, Slc nb2 0 ns cp1, U64 bl]))) rfl rfl rfl (AL rfl (BO DO CQ rfl (MemAt.ent 2 rfl (AM _)))) rfl ?_
 refine FL 2 51 true _ rfl rfl rfl (B1 73 [.agg (List.toArray (α := Value) ([I64 ((k:Int)), .slice ai ni ci, Slc nb2 0 ns cp1, U64 bl]))] _ (AW [.agg (List.toArray (α := Value) ([I64 ((k:Int)), .slice ai ni ci, Slc nb2 0 ns cp1, U64 bl]))] Tryd.call73 rfl) (fun w1 hw1 => rleaves1_c 0 0 k ai ni ci l (some ⟨nb2, 0, none⟩) ns cp1 ls bl w1 hl (by omega) (by omega) (by omega) (DD hw1 rfl hv) hls (by omega) (by omega) (by omega) (RdV.of hw1 (MemAt.ent 1 rfl (BV (AM _)))) hk (by omega) hn3 hnn2 (GLr.at hw1 hGr) (GLi.at hw1 hGi))) rfl ?_
 rintro v1 L1 ⟨_, ⟨nb5, sp2, cp2, rfl, rfl, hc4, hc5, hc6⟩, rfl⟩
 show JL _ _ _ _ ((54, Slc nb5 0 ni cp2) :: _) [_, _, _, _, ⟨nb5, cu8 (lvT l ls ni) ++ sp2, 54, (0, 0)⟩]
 refine FL 2 51 true _ rfl rfl rfl (AT 72 [Slc nb4 0 ni ni, Slc nb5 0 ni cp2] (.bool (decide ((lvT l ls ni) = (lvT l ls ni)))) (AW [Slc nb4 0 ni ni, Slc nb5 0 ni cp2] Tryd.call72 rfl) (fun w1 hw1 => hashes_c (some ⟨nb4, 0, none⟩) ni ni (lvT l ls ni) (some ⟨nb5, 0, none⟩) ni cp2 (lvT l ls ni) w1 (((lvT_len _ _ _).trans (by omega))) (((lvT_len _ _ _).trans (by omega))) (by omega) (by omega) (RdB.of hw1 (MemAt.ent 3 rfl (AM _)) (by simp)) (RdB.of hw1 (MemAt.ent 4 rfl (BV (AM _))) (by simp)))) rfl ?_
 rintro v1 L1 ⟨rfl, rfl⟩
 show JL _ _ _ _ ((55, .bool (decide ((lvT l ls ni) = (lvT l ls ni)))) :: _) [_, _, _, _, _]
 refine AA _ (CG _ rfl rfl rfl) rfl ?_
 refine AA _ (AF rfl) rfl ?_
 refine AI (AE (BG (B5 [false, false, false, false, false] ?_)))
 show JQ _ _ _ _ []
 refine BI (.bool (decide ((lvT l ls ni) = (lvT l ls ni)))) (res1 Tryd.results13 (BK rfl)) fun w1 hw1 => ?_
 exact ⟨_, [], rfl, ⟨by rw [show (decide ((lvT l ls ni) = (lvT l ls ni))) = true from (decide_eq_true rfl)], rfl⟩, hw1.sub (by simp) (by simp)⟩
theorem to2_c (pv ep : UInt64) (k : Nat) (ai : Option Addr) (ni ci : Nat) (l : List UInt64) (sa : Option Addr) (sc : Nat) (bl : UInt64) (blk : UInt64)  (w : World) (hl : l.length = ni) (hnm : ni ≤ 2000000) (hnc : ni ≤ ci) (hcm : ci ≤ maxLen) (hv : RdV w ai (cu64 l)) (hcs : sc ≤ maxLen) (hnS : sa = none → sc = 0) (hp1 : 0 < ni) (hR : RightO (k:Int) l ([] : List SealR) bl = true) (hk : k = 2) (hRI : RightI l) (hn3 : ni ≤ 300) (hG : GLs w) (hGr : GLr w) (hGi : GLi w) (hlg : ¬ LargeP ni 0)  : Calls Tryd.prog 13 #[.agg (List.toArray (α := Value) ([I64 ((k:Int)), .slice ai ni ci, .slice sa 0 sc, U64 bl])), U64 blk] w (Post w [] (fun v L => v = .bool true ∧ L = [])) := by
 have hmx : maxLen = 9223372036854775807 := rfl
 refine enter (P := Tryd.prog) (f := 13) (fn := Tryd.f13) w [] 57 [] [.agg (List.toArray (α := Value) ([I64 ((k:Int)), .slice ai ni ci, .slice sa 0 sc, U64 bl])), U64 blk] Tryd.func13 rfl rfl (by simp) (BL (by simp) (by simp) (by simp)) ?_
 show JC _ _ _ [(0, .agg (List.toArray (α := Value) ([I64 ((k:Int)), .slice ai ni ci, .slice sa 0 sc, U64 bl]))), (1, U64 blk)] _
 refine AG (AC (AN (CM (.agg (List.toArray (α := Value) ([I64 ((k:Int)), .slice ai ni ci, .slice sa 0 sc, U64 bl]))) ([I64 ((k:Int)), .slice ai ni ci, .slice sa 0 sc, U64 bl]) rfl (by first | rfl | simp)) rfl ?_))
 rintro v1 L1 ⟨nb1, hnb1, rfl, rfl⟩
 show JL _ _ _ _ ((2, Ptr nb1 0) :: _) [⟨nb1, [I64 ((k:Int)), .slice ai ni ci, .slice sa 0 sc, U64 bl], 26, (0, 0)⟩]
 refine AA _ (AF rfl) rfl ?_
 refine AI (AE (AG (AG (AC (AN (AT 43 [] (.bool true) (AW [] Tryd.call43 rfl) (fun w1 hw1 => alive13_c  w1 (hG.at hw1))) rfl ?_)))))
 rintro v1 L1 ⟨rfl, rfl⟩
 show JL _ _ _ _ ((9, .bool true) :: _) [_]
 refine AA (.bool (!true)) (ER rfl) rfl ?_
 refine AI (AE (B9 _ rfl rfl ?_))
 refine BE (AE (AG (AG (AC (AA (.agg (List.toArray (α := Value) ([I64 ((k:Int)), .slice ai ni ci, .slice sa 0 sc, U64 bl]))) (AL rfl (BO CV B0 rfl (MemAt.ent 0 rfl (AM _)))) rfl ?_)))))
 refine AN (AT 18 [.agg (List.toArray (α := Value) ([I64 ((k:Int)), .slice ai ni ci, .slice sa 0 sc, U64 bl]))] (.bool (decide (LargeP ni 0))) (AW [.agg (List.toArray (α := Value) ([I64 ((k:Int)), .slice ai ni ci, .slice sa 0 sc, U64 bl]))] Tryd.call18 rfl) (fun w1 hw1 => large_c ((k:Int)) ai ni ci l sa 0 sc ([] : List SealR) bl w1 )) rfl ?_
 rintro v1 L1 ⟨rfl, rfl⟩
 show JL _ _ _ _ ((12, .bool (decide (LargeP ni 0))) :: _) [_]
 refine AI (AE (B9 _ rfl (decide_eq_false hlg) ?_))
 refine BE (AE (AG (AC (AA (.agg (List.toArray (α := Value) ([I64 ((k:Int)), .slice ai ni ci, .slice sa 0 sc, U64 bl]))) (AL rfl (BO CV B0 rfl (MemAt.ent 0 rfl (AM _)))) rfl ?_))))
 refine AN (AT 66 [.agg (List.toArray (α := Value) ([I64 ((k:Int)), .slice ai ni ci, .slice sa 0 sc, U64 bl]))] (.agg (List.toArray (α := Value) ([I64 ((k:Int)), .slice ai ni ci, .slice none 0 0, U64 bl]))) (AW [.agg (List.toArray (α := Value) ([I64 ((k:Int)), .slice ai ni ci, .slice sa 0 sc, U64 bl]))] Tryd.call66 rfl) (fun w1 hw1 => order0_c ((k:Int)) ai ni ci l sa 0 sc ([] : List SealR) bl w1 hl (by omega) (by omega) (by omega) (DD hw1 rfl hv) rfl (by omega) (by omega) (by omega) RdV.nil rfl)) rfl ?_
 rintro v1 L1 ⟨rfl, rfl⟩
 show JL _ _ _ _ ((14, .agg (List.toArray (α := Value) ([I64 ((k:Int)), .slice ai ni ci, .slice none 0 0, U64 bl]))) :: _) [_]
 refine AN (BR _ ([I64 (0:Int), .slice none 0 0, .slice none 0 0, U64 (0:UInt64)]) Tryd.zeroValue36 (by kernel_rfl)) rfl ?_
 rintro v1 L1 ⟨nb2, hnb2, rfl, rfl⟩
 show JL _ _ _ _ ((5, Ptr nb2 0) :: _) [_, ⟨nb2, [I64 (0:Int), .slice none 0 0, .slice none 0 0, U64 (0:UInt64)], 36, (0, 0)⟩]
 refine AN (A8 1 nb2 0 4 ([I64 (0:Int), .slice none 0 0, .slice none 0 0, U64 (0:UInt64)]) 36 (.agg (List.toArray (α := Value) ([I64 ((k:Int)), .slice ai ni ci, .slice none 0 0, U64 bl]))) ([I64 ((k:Int)), .slice ai ni ci, .slice none 0 0, U64 bl]) ([I64 ((k:Int)), .slice ai ni ci, .slice none 0 0, U64 bl]) rfl rfl rfl (by first | rfl | simp) CQ rfl (by simp [Value.oneCell']) (Nat.le_of_ble_eq_true rfl) (BU (by simp []))) rfl ?_
 rintro v1 L1 ⟨rfl, rfl⟩
 show JL _ _ _ _ _ [_, ⟨nb2, [I64 ((k:Int)), .slice ai ni ci, .slice none 0 0, U64 bl], 36, (0, 0)⟩]
 refine AI (AE (AG (AC (AA (.agg (List.toArray (α := Value) ([I64 ((k:Int)), .slice ai ni ci, .slice none 0 0, U64 bl]))) (AL rfl (BO DO CQ rfl (MemAt.ent 1 rfl (AM _)))) rfl ?_))))
 refine AN (AT 67 [.agg (List.toArray (α := Value) ([I64 ((k:Int)), .slice ai ni ci, .slice none 0 0, U64 bl]))] (.bool (RightO ((k:Int)) l ([] : List SealR) bl)) (AW [.agg (List.toArray (α := Value) ([I64 ((k:Int)), .slice ai ni ci, .slice none 0 0, U64 bl]))] Tryd.call67 rfl) (fun w1 hw1 => rright13_c ((k:Int)) ai ni ci l none 0 0 ([] : List SealR) bl w1 hl (by omega) (by omega) (by omega) (DD hw1 rfl hv) rfl (by omega) (by omega) (by omega) RdV.nil)) rfl ?_
 rintro v1 L1 ⟨rfl, rfl⟩
 show JL _ _ _ _ ((16, .bool (RightO ((k:Int)) l ([] : List SealR) bl)) :: _) [_, _]
 refine AA _ (AF rfl) rfl ?_
 refine AI (AE (AG (AC (AA (.agg (List.toArray (α := Value) ([I64 ((k:Int)), .slice ai ni ci, .slice sa 0 sc, U64 bl]))) (AL rfl (BO CV B0 rfl (MemAt.ent 0 rfl (AM _)))) rfl ?_))))
 refine AN (B1 68 [.agg (List.toArray (α := Value) ([I64 ((k:Int)), .slice ai ni ci, .slice sa 0 sc, U64 bl]))] _ (AW [.agg (List.toArray (α := Value) ([I64 ((k:Int)), .slice ai ni ci, .slice sa 0 sc, U64 bl]))] Tryd.call68 rfl) (fun w1 hw1 => leaves2_c 0 0 k ai ni ci l sa sc bl w1 hl (by omega) (by omega) (by omega) (DD hw1 rfl hv) (by omega) hnS hR hk hRI (by omega) hn3 (hG.at hw1))) rfl ?_
 rintro v1 L1 ⟨_, ⟨nb3, rfl, rfl⟩, rfl⟩
 show JL _ _ _ _ ((19, .tuple #[Slc nb3 0 ni ni, .nilIface]) :: _) [_, _, ⟨nb3, cu8 (lvT l ([] : List SealR) ni), 54, (0, 0)⟩]
 refine AA _ (AD rfl) rfl ?_
 refine AA _ (BJ rfl rfl) rfl ?_
 refine AA _ (BJ rfl rfl) rfl ?_
 refine AA _ (AF rfl) rfl ?_
 refine AA _ (AF rfl) rfl ?_
 refine AI (AE (AG (AG (C3 57 4 [(0, .agg (List.toArray (α := Value) ([I64 ((k:Int)), .slice ai ni ci, .slice sa 0 sc, U64 bl]))), (2, .bool (RightO ((k:Int)) l ([] : List SealR) bl))] BQ rfl (by decide +kernel) ?_))))
 refine BT ⟨[], [0, 2], [], [0, 2], [1]⟩ 1 _ rfl rfl (by decide +kernel) rfl ⟨⟨_, rfl, AB rfl (AL rfl (BO CV B0 rfl (MemAt.ent 0 rfl (AM _))))⟩, ⟨_, rfl, AB rfl (AD rfl)⟩, trivial⟩ rfl (A1 rfl (AT 69 [.agg (List.toArray (α := Value) ([I64 ((k:Int)), .slice ai ni ci, .slice sa 0 sc, U64 bl]))] (.bool (RightO ((k:Int)) l ([] : List SealR) bl)) (AW [.agg (List.toArray (α := Value) ([I64 ((k:Int)), .slice ai ni ci, .slice sa 0 sc, U64 bl]))] Tryd.call69 rfl) (fun w1 hw1 => FJ ((k:Int)) ai ni ci l sa 0 sc ([] : List SealR) bl w1 hl (by omega) (by omega) (by omega) (DD hw1 rfl hv) rfl (by omega) (by omega) (by omega) RdV.nil))) ?_
 rintro v1 L1 ⟨rfl, rfl⟩
 refine ⟨[(3, .bool (!((RightO ((k:Int)) l ([] : List SealR) bl) == (RightO ((k:Int)) l ([] : List SealR) bl)))), (4, .bool (!((RightO ((k:Int)) l ([] : List SealR) bl) == (RightO ((k:Int)) l ([] : List SealR) bl)))), (5, .agg (List.toArray (α := Value) ([I64 ((k:Int)), .slice ai ni ci, .slice sa 0 sc, U64 bl]))), (6, U64 blk), (8, .agg (List.toArray (α := Value) ([I64 ((k:Int)), .slice ai ni ci, .slice none 0 0, U64 bl]))), (9, U64 blk)], ?_⟩
 show DP _ _ _ _ _ _ _ _ [_, _, _]
 refine BT ⟨[1], [0, 2, 3, 4, 5, 6, 8, 9], [0], [2, 3, 4, 5, 6, 8, 9], [7]⟩ 7 _ rfl rfl (by decide +kernel) rfl ⟨⟨_, rfl, AB rfl (AD rfl)⟩, ⟨_, rfl, AB rfl (D8 _ _ _ rfl rfl (fun _ => EV ..) fun _ => neq_bool Tryd.underlying4)⟩, ⟨_, rfl, AB rfl (AD rfl)⟩, ⟨_, rfl, BW 4 26 false _ rfl rfl rfl (by rw [show ((RightO ((k:Int)) l ([] : List SealR) bl) == (RightO ((k:Int)) l ([] : List SealR) bl)) = true from (beq_self_eq_true _)] <;> rfl) (AL rfl (BO CV B0 rfl (MemAt.ent 0 rfl (AM _))))⟩, ⟨_, rfl, BW 4 26 false _ rfl rfl rfl (by rw [show ((RightO ((k:Int)) l ([] : List SealR) bl) == (RightO ((k:Int)) l ([] : List SealR) bl)) = true from (beq_self_eq_true _)] <;> rfl) (AD rfl)⟩, ⟨_, rfl, BW 4 26 false _ rfl rfl rfl (by rw [show ((RightO ((k:Int)) l ([] : List SealR) bl) == (RightO ((k:Int)) l ([] : List SealR) bl)) = true from (beq_self_eq_true _)] <;> rfl) (AL rfl (BO DO CQ rfl (MemAt.ent 1 rfl (AM _))))⟩, ⟨_, rfl, BW 4 26 false _ rfl rfl rfl (by rw [show ((RightO ((k:Int)) l ([] : List SealR) bl) == (RightO ((k:Int)) l ([] : List SealR) bl)) = true from (beq_self_eq_true _)] <;> rfl) (AD rfl)⟩, trivial⟩ rfl (Cok_gstep 4 26 false _ rfl rfl rfl (by rw [show ((RightO ((k:Int)) l ([] : List SealR) bl) == (RightO ((k:Int)) l ([] : List SealR) bl)) = true from (beq_self_eq_true _)] <;> rfl) (AT 70 [.agg (List.toArray (α := Value) ([I64 ((k:Int)), .slice ai ni ci, .slice sa 0 sc, U64 bl])), U64 blk] (.bool ((RightO ((k:Int)) l ([] : List SealR) bl) && (!(l.any (fun x => decide (blk ≤ x)))))) (AW [.agg (List.toArray (α := Value) ([I64 ((k:Int)), .slice ai ni ci, .slice sa 0 sc, U64 bl])), U64 blk] Tryd.call70 rfl) (fun w1 hw1 => fits13_c ((k:Int)) ai ni ci l sa 0 sc ([] : List SealR) bl blk w1 hl (by omega) (by omega) (by omega) (DD hw1 rfl hv) rfl (by omega) (by omega) (by omega) RdV.nil))) ?_
 rintro v1 L1 ⟨rfl, rfl⟩
 refine ⟨[], ?_⟩
 show DP _ _ _ _ _ _ _ _ [_, _, _]
 refine BT ⟨[1, 7], [0, 2, 3, 4, 5, 6, 8, 9], [0, 2, 3, 4, 5, 6], [8, 9], [10]⟩ 10 _ rfl rfl (by decide +kernel) rfl ⟨⟨_, rfl, BW 4 26 false _ rfl rfl rfl (by rw [show ((RightO ((k:Int)) l ([] : List SealR) bl) == (RightO ((k:Int)) l ([] : List SealR) bl)) = true from (beq_self_eq_true _)] <;> rfl) (AL rfl (BO DO CQ rfl (MemAt.ent 1 rfl (AM _))))⟩, ⟨_, rfl, BW 4 26 false _ rfl rfl rfl (by rw [show ((RightO ((k:Int)) l ([] : List SealR) bl) == (RightO ((k:Int)) l ([] : List SealR) bl)) = true from (beq_self_eq_true _)] <;> rfl) (AD rfl)⟩, trivial⟩ rfl (Cok_gstep 4 26 false _ rfl rfl rfl (by rw [show ((RightO ((k:Int)) l ([] : List SealR) bl) == (RightO ((k:Int)) l ([] : List SealR) bl)) = true from (beq_self_eq_true _)] <;> rfl) (AT 71 [.agg (List.toArray (α := Value) ([I64 ((k:Int)), .slice ai ni ci, .slice none 0 0, U64 bl])), U64 blk] (.bool ((RightO ((k:Int)) l ([] : List SealR) bl) && (!(l.any (fun x => decide (blk ≤ x)))))) (AW [.agg (List.toArray (α := Value) ([I64 ((k:Int)), .slice ai ni ci, .slice none 0 0, U64 bl])), U64 blk] Tryd.call71 rfl) (fun w1 hw1 => rfits13_c ((k:Int)) ai ni ci l none 0 0 ([] : List SealR) bl blk w1 hl (by omega) (by omega) (by omega) (DD hw1 rfl hv) rfl (by omega) (by omega) (by omega) RdV.nil))) ?_
 rintro v1 L1 ⟨rfl, rfl⟩
 refine ⟨[(11, .bool (!(((RightO ((k:Int)) l ([] : List SealR) bl) && (!(l.any (fun x => decide (blk ≤ x))))) == ((RightO ((k:Int)) l ([] : List SealR) bl) && (!(l.any (fun x => decide (blk ≤ x)))))))), (12, .bool (!(((RightO ((k:Int)) l ([] : List SealR) bl) && (!(l.any (fun x => decide (blk ≤ x))))) == ((RightO ((k:Int)) l ([] : List SealR) bl) && (!(l.any (fun x => decide (blk ≤ x))))))))], ?_⟩
 show DP _ _ _ _ _ _ _ _ [_, _, _]
 refine DG ⟨[1, 7, 10], [0, 2, 3, 4, 5, 6, 8, 9, 11, 12], [0, 2, 3, 4, 5, 6, 8, 9], [11, 12], []⟩ rfl rfl (by decide +kernel) rfl ⟨⟨_, rfl, BW 4 26 false _ rfl rfl rfl (by rw [show ((RightO ((k:Int)) l ([] : List SealR) bl) == (RightO ((k:Int)) l ([] : List SealR) bl)) = true from (beq_self_eq_true _)] <;> rfl) (D8 _ _ _ rfl rfl (fun _ => EV ..) fun _ => neq_bool Tryd.underlying4)⟩, ⟨_, rfl, AB rfl (BX _ rfl (by rw [show ((RightO ((k:Int)) l ([] : List SealR) bl) == (RightO ((k:Int)) l ([] : List SealR) bl)) = true from (beq_self_eq_true _)] <;> rfl) rfl)⟩, trivial⟩ ?_
 refine CZ (F' := [(34, .bool (!(((RightO ((k:Int)) l ([] : List SealR) bl) && (!(l.any (fun x => decide (blk ≤ x))))) == ((RightO ((k:Int)) l ([] : List SealR) bl) && (!(l.any (fun x => decide (blk ≤ x)))))))), (2, Ptr nb1 0), (4, .bool false), (5, Ptr nb2 0), (6, .bool (RightO ((k:Int)) l ([] : List SealR) bl)), (7, Slc nb3 0 ni ni), (8, .nilIface)]) (by kernel_rfl) ?_
 refine AE (B9 _ rfl (by rw [show (((RightO ((k:Int)) l ([] : List SealR) bl) && (!(l.any (fun x => decide (blk ≤ x))))) == ((RightO ((k:Int)) l ([] : List SealR) bl) && (!(l.any (fun x => decide (blk ≤ x)))))) = true from (beq_self_eq_true _)] <;> rfl) ?_)
 refine BE (AE (AG (AG (AC (AA _ (AD rfl) rfl ?_)))))
 refine AA (.bool (!(RightO ((k:Int)) l ([] : List SealR) bl))) (ER rfl) rfl ?_
 refine AA _ (AD rfl) rfl ?_
 refine AU 2 37 false _ (Ptr nb1 0) rfl rfl (by rw [show (RightO ((k:Int)) l ([] : List SealR) bl) = true from hR] <;> rfl) (AJ 0 3 1 AO rfl B3 rfl rfl) rfl ?_
 refine AU 2 37 false _ (I64 ((k:Int))) rfl rfl (by rw [show (RightO ((k:Int)) l ([] : List SealR) bl) = true from hR] <;> rfl) (AL rfl (AZ B7 (MemAt.ent 0 rfl (Seg.head)))) rfl ?_
 refine AU 2 37 false _ (.bool (decide (((k:Int)) = (3:Int)))) rfl rfl (by rw [show (RightO ((k:Int)) l ([] : List SealR) bl) = true from hR] <;> rfl) (AK rfl rfl fun _ => CU _ _) rfl ?_
 refine AA _ (BX _ rfl (by rw [show (RightO ((k:Int)) l ([] : List SealR) bl) = true from hR] <;> rfl) rfl) rfl ?_
 refine AI (AE (B9 _ rfl (decide_eq_false (by omega)) ?_))
 refine BE (AE (AG (AC (AA _ (AD rfl) rfl ?_))))
 refine AA (.bool true) (D8 _ _ _ rfl rfl (fun _ => D6 ..) fun _ => E4 B8) rfl ?_
 refine AA _ (AD rfl) rfl ?_
 refine AU 2 51 true _ _ rfl rfl rfl (AD rfl) rfl ?_
 refine AU 2 51 true _ (.agg (List.toArray (α := Value) ([I64 ((k:Int)), .slice ai ni ci, .slice none 0 0, U64 bl]))) rfl rfl rfl (AL rfl (BO DO CQ rfl (MemAt.ent 1 rfl (AM _)))) rfl ?_
 refine FL 2 51 true _ rfl rfl rfl (B1 73 [.agg (List.toArray (α := Value) ([I64 ((k:Int)), .slice ai ni ci, .slice none 0 0, U64 bl]))] _ (AW [.agg (List.toArray (α := Value) ([I64 ((k:Int)), .slice ai ni ci, .slice none 0 0, U64 bl]))] Tryd.call73 rfl) (fun w1 hw1 => rleaves2_c 0 0 k ai ni ci l none 0 bl w1 hl (by omega) (by omega) (by omega) (DD hw1 rfl hv) (by omega) (fun _ => rfl) hk (by omega) hn3 (GLr.at hw1 hGr) (GLi.at hw1 hGi))) rfl ?_
 rintro v1 L1 ⟨_, ⟨nb4, sp1, cp1, rfl, rfl, hc1, hc2, hc3⟩, rfl⟩
 show JL _ _ _ _ ((54, Slc nb4 0 ni cp1) :: _) [_, _, _, ⟨nb4, cu8 (lvT l ([] : List SealR) ni) ++ sp1, 54, (0, 0)⟩]
 refine FL 2 51 true _ rfl rfl rfl (AT 72 [Slc nb3 0 ni ni, Slc nb4 0 ni cp1] (.bool (decide ((lvT l ([] : List SealR) ni) = (lvT l ([] : List SealR) ni)))) (AW [Slc nb3 0 ni ni, Slc nb4 0 ni cp1] Tryd.call72 rfl) (fun w1 hw1 => hashes_c (some ⟨nb3, 0, none⟩) ni ni (lvT l ([] : List SealR) ni) (some ⟨nb4, 0, none⟩) ni cp1 (lvT l ([] : List SealR) ni) w1 (((lvT_len _ _ _).trans (by omega))) (((lvT_len _ _ _).trans (by omega))) (by omega) (by omega) (RdB.of hw1 (MemAt.ent 2 rfl (AM _)) (by simp)) (RdB.of hw1 (MemAt.ent 3 rfl (BV (AM _))) (by simp)))) rfl ?_
 rintro v1 L1 ⟨rfl, rfl⟩
 show JL _ _ _ _ ((55, .bool (decide ((lvT l ([] : List SealR) ni) = (lvT l ([] : List SealR) ni)))) :: _) [_, _, _, _]
 refine AA _ (CG _ rfl rfl rfl) rfl ?_
 refine AA _ (AF rfl) rfl ?_
 refine AI (AE (BG (B5 [false, false, false, false] ?_)))
 show JQ _ _ _ _ []
 refine BI (.bool (decide ((lvT l ([] : List SealR) ni) = (lvT l ([] : List SealR) ni)))) (res1 Tryd.results13 (BK rfl)) fun w1 hw1 => ?_
 exact ⟨_, [], rfl, ⟨by rw [show (decide ((lvT l ([] : List SealR) ni) = (lvT l ([] : List SealR) ni))) = true from (decide_eq_true rfl)], rfl⟩, hw1.sub (by simp) (by simp)⟩
theorem toBZ_c (pv ep : UInt64) (kd : Int) (ai : Option Addr) (ni ci : Nat) (l : List UInt64) (sa : Option Addr) (sc : Nat) (bl : UInt64) (blk : UInt64)  (w : World) (hl : l.length = ni) (hnm : ni ≤ 2000000) (hnc : ni ≤ ci) (hcm : ci ≤ maxLen) (hv : RdV w ai (cu64 l)) (hcs : sc ≤ maxLen) (hnS : sa = none → sc = 0) (hbad : RightO kd l ([] : List SealR) bl = false ∨ kd = 3) (hG : GLs w) (hGr : GLr w) (hGi : GLi w) (hlg : ¬ LargeP ni 0)  : Calls Tryd.prog 13 #[.agg (List.toArray (α := Value) ([I64 (kd), .slice ai ni ci, .slice sa 0 sc, U64 bl])), U64 blk] w (Post w [] (fun v L => v = .bool true ∧ L = [])) := by
 have hmx : maxLen = 9223372036854775807 := rfl
 refine enter (P := Tryd.prog) (f := 13) (fn := Tryd.f13) w [] 57 [] [.agg (List.toArray (α := Value) ([I64 (kd), .slice ai ni ci, .slice sa 0 sc, U64 bl])), U64 blk] Tryd.func13 rfl rfl (by simp) (BL (by simp) (by simp) (by simp)) ?_
 show JC _ _ _ [(0, .agg (List.toArray (α := Value) ([I64 (kd), .slice ai ni ci, .slice sa 0 sc, U64 bl]))), (1, U64 blk)] _
 refine AG (AC (AN (CM (.agg (List.toArray (α := Value) ([I64 (kd), .slice ai ni ci, .slice sa 0 sc, U64 bl]))) ([I64 (kd), .slice ai ni ci, .slice sa 0 sc, U64 bl]) rfl (by first | rfl | simp)) rfl ?_))
 rintro v1 L1 ⟨nb1, hnb1, rfl, rfl⟩
 show JL _ _ _ _ ((2, Ptr nb1 0) :: _) [⟨nb1, [I64 (kd), .slice ai ni ci, .slice sa 0 sc, U64 bl], 26, (0, 0)⟩]
 refine AA _ (AF rfl) rfl ?_
 refine AI (AE (AG (AG (AC (AN (AT 43 [] (.bool true) (AW [] Tryd.call43 rfl) (fun w1 hw1 => alive13_c  w1 (hG.at hw1))) rfl ?_)))))
 rintro v1 L1 ⟨rfl, rfl⟩
 show JL _ _ _ _ ((9, .bool true) :: _) [_]
 refine AA (.bool (!true)) (ER rfl) rfl ?_
 refine AI (AE (B9 _ rfl rfl ?_))
 refine BE (AE (AG (AG (AC (AA (.agg (List.toArray (α := Value) ([I64 (kd), .slice ai ni ci, .slice sa 0 sc, U64 bl]))) (AL rfl (BO CV B0 rfl (MemAt.ent 0 rfl (AM _)))) rfl ?_)))))
 refine AN (AT 18 [.agg (List.toArray (α := Value) ([I64 (kd), .slice ai ni ci, .slice sa 0 sc, U64 bl]))] (.bool (decide (LargeP ni 0))) (AW [.agg (List.toArray (α := Value) ([I64 (kd), .slice ai ni ci, .slice sa 0 sc, U64 bl]))] Tryd.call18 rfl) (fun w1 hw1 => large_c (kd) ai ni ci l sa 0 sc ([] : List SealR) bl w1 )) rfl ?_
 rintro v1 L1 ⟨rfl, rfl⟩
 show JL _ _ _ _ ((12, .bool (decide (LargeP ni 0))) :: _) [_]
 refine AI (AE (B9 _ rfl (decide_eq_false hlg) ?_))
 refine BE (AE (AG (AC (AA (.agg (List.toArray (α := Value) ([I64 (kd), .slice ai ni ci, .slice sa 0 sc, U64 bl]))) (AL rfl (BO CV B0 rfl (MemAt.ent 0 rfl (AM _)))) rfl ?_))))
 refine AN (AT 66 [.agg (List.toArray (α := Value) ([I64 (kd), .slice ai ni ci, .slice sa 0 sc, U64 bl]))] (.agg (List.toArray (α := Value) ([I64 (kd), .slice ai ni ci, .slice none 0 0, U64 bl]))) (AW [.agg (List.toArray (α := Value) ([I64 (kd), .slice ai ni ci, .slice sa 0 sc, U64 bl]))] Tryd.call66 rfl) (fun w1 hw1 => order0_c (kd) ai ni ci l sa 0 sc ([] : List SealR) bl w1 hl (by omega) (by omega) (by omega) (DD hw1 rfl hv) rfl (by omega) (by omega) (by omega) RdV.nil rfl)) rfl ?_
 rintro v1 L1 ⟨rfl, rfl⟩
 show JL _ _ _ _ ((14, .agg (List.toArray (α := Value) ([I64 (kd), .slice ai ni ci, .slice none 0 0, U64 bl]))) :: _) [_]
 refine AN (BR _ ([I64 (0:Int), .slice none 0 0, .slice none 0 0, U64 (0:UInt64)]) Tryd.zeroValue36 (by kernel_rfl)) rfl ?_
 rintro v1 L1 ⟨nb2, hnb2, rfl, rfl⟩
 show JL _ _ _ _ ((5, Ptr nb2 0) :: _) [_, ⟨nb2, [I64 (0:Int), .slice none 0 0, .slice none 0 0, U64 (0:UInt64)], 36, (0, 0)⟩]
 refine AN (A8 1 nb2 0 4 ([I64 (0:Int), .slice none 0 0, .slice none 0 0, U64 (0:UInt64)]) 36 (.agg (List.toArray (α := Value) ([I64 (kd), .slice ai ni ci, .slice none 0 0, U64 bl]))) ([I64 (kd), .slice ai ni ci, .slice none 0 0, U64 bl]) ([I64 (kd), .slice ai ni ci, .slice none 0 0, U64 bl]) rfl rfl rfl (by first | rfl | simp) CQ rfl (by simp [Value.oneCell']) (Nat.le_of_ble_eq_true rfl) (BU (by simp []))) rfl ?_
 rintro v1 L1 ⟨rfl, rfl⟩
 show JL _ _ _ _ _ [_, ⟨nb2, [I64 (kd), .slice ai ni ci, .slice none 0 0, U64 bl], 36, (0, 0)⟩]
 refine AI (AE (AG (AC (AA (.agg (List.toArray (α := Value) ([I64 (kd), .slice ai ni ci, .slice none 0 0, U64 bl]))) (AL rfl (BO DO CQ rfl (MemAt.ent 1 rfl (AM _)))) rfl ?_))))
 refine AN (AT 67 [.agg (List.toArray (α := Value) ([I64 (kd), .slice ai ni ci, .slice none 0 0, U64 bl]))] (.bool (RightO (kd) l ([] : List SealR) bl)) (AW [.agg (List.toArray (α := Value) ([I64 (kd), .slice ai ni ci, .slice none 0 0, U64 bl]))] Tryd.call67 rfl) (fun w1 hw1 => rright13_c (kd) ai ni ci l none 0 0 ([] : List SealR) bl w1 hl (by omega) (by omega) (by omega) (DD hw1 rfl hv) rfl (by omega) (by omega) (by omega) RdV.nil)) rfl ?_
 rintro v1 L1 ⟨rfl, rfl⟩
 show JL _ _ _ _ ((16, .bool (RightO (kd) l ([] : List SealR) bl)) :: _) [_, _]
 refine AA _ (AF rfl) rfl ?_
 refine AI (AE (AG (AC (AA (.agg (List.toArray (α := Value) ([I64 (kd), .slice ai ni ci, .slice sa 0 sc, U64 bl]))) (AL rfl (BO CV B0 rfl (MemAt.ent 0 rfl (AM _)))) rfl ?_))))
 refine AN (AT 68 [.agg (List.toArray (α := Value) ([I64 (kd), .slice ai ni ci, .slice sa 0 sc, U64 bl]))] (.tuple #[.slice none 0 0, .iface 50 (I64 (2:Int))]) (AW [.agg (List.toArray (α := Value) ([I64 (kd), .slice ai ni ci, .slice sa 0 sc, U64 bl]))] Tryd.call68 rfl) (fun w1 hw1 => leavesB_c 0 0 (kd) ai ni ci l sa 0 sc ([] : List SealR) bl w1 hl (by omega) (by omega) (by omega) (DD hw1 rfl hv) rfl (by omega) (by omega) (by omega) RdV.nil hbad)) rfl ?_
 rintro v1 L1 ⟨rfl, rfl⟩
 show JL _ _ _ _ ((19, .tuple #[.slice none 0 0, .iface 50 (I64 (2:Int))]) :: _) [_, _]
 refine AA _ (AD rfl) rfl ?_
 refine AA _ (BJ rfl rfl) rfl ?_
 refine AA _ (BJ rfl rfl) rfl ?_
 refine AA _ (AF rfl) rfl ?_
 refine AA _ (AF rfl) rfl ?_
 refine AI (AE (AG (AG (C3 57 4 [(0, .agg (List.toArray (α := Value) ([I64 (kd), .slice ai ni ci, .slice sa 0 sc, U64 bl]))), (2, .bool (RightO (kd) l ([] : List SealR) bl))] BQ rfl (by decide +kernel) ?_))))
 refine BT ⟨[], [0, 2], [], [0, 2], [1]⟩ 1 _ rfl rfl (by decide +kernel) rfl ⟨⟨_, rfl, AB rfl (AL rfl (BO CV B0 rfl (MemAt.ent 0 rfl (AM _))))⟩, ⟨_, rfl, AB rfl (AD rfl)⟩, trivial⟩ rfl (A1 rfl (AT 69 [.agg (List.toArray (α := Value) ([I64 (kd), .slice ai ni ci, .slice sa 0 sc, U64 bl]))] (.bool (RightO (kd) l ([] : List SealR) bl)) (AW [.agg (List.toArray (α := Value) ([I64 (kd), .slice ai ni ci, .slice sa 0 sc, U64 bl]))] Tryd.call69 rfl) (fun w1 hw1 => FJ (kd) ai ni ci l sa 0 sc ([] : List SealR) bl w1 hl (by omega) (by omega) (by omega) (DD hw1 rfl hv) rfl (by omega) (by omega) (by omega) RdV.nil))) ?_
 rintro v1 L1 ⟨rfl, rfl⟩
 refine ⟨[(3, .bool (!((RightO (kd) l ([] : List SealR) bl) == (RightO (kd) l ([] : List SealR) bl)))), (4, .bool (!((RightO (kd) l ([] : List SealR) bl) == (RightO (kd) l ([] : List SealR) bl)))), (5, .agg (List.toArray (α := Value) ([I64 (kd), .slice ai ni ci, .slice sa 0 sc, U64 bl]))), (6, U64 blk), (8, .agg (List.toArray (α := Value) ([I64 (kd), .slice ai ni ci, .slice none 0 0, U64 bl]))), (9, U64 blk)], ?_⟩
 show DP _ _ _ _ _ _ _ _ [_, _]
 refine BT ⟨[1], [0, 2, 3, 4, 5, 6, 8, 9], [0], [2, 3, 4, 5, 6, 8, 9], [7]⟩ 7 _ rfl rfl (by decide +kernel) rfl ⟨⟨_, rfl, AB rfl (AD rfl)⟩, ⟨_, rfl, AB rfl (D8 _ _ _ rfl rfl (fun _ => EV ..) fun _ => neq_bool Tryd.underlying4)⟩, ⟨_, rfl, AB rfl (AD rfl)⟩, ⟨_, rfl, BW 4 26 false _ rfl rfl rfl (by rw [show ((RightO (kd) l ([] : List SealR) bl) == (RightO (kd) l ([] : List SealR) bl)) = true from (beq_self_eq_true _)] <;> rfl) (AL rfl (BO CV B0 rfl (MemAt.ent 0 rfl (AM _))))⟩, ⟨_, rfl, BW 4 26 false _ rfl rfl rfl (by rw [show ((RightO (kd) l ([] : List SealR) bl) == (RightO (kd) l ([] : List SealR) bl)) = true from (beq_self_eq_true _)] <;> rfl) (AD rfl)⟩, ⟨_, rfl, BW 4 26 false _ rfl rfl rfl (by rw [show ((RightO (kd) l ([] : List SealR) bl) == (RightO (kd) l ([] : List SealR) bl)) = true from (beq_self_eq_true _)] <;> rfl) (AL rfl (BO DO CQ rfl (MemAt.ent 1 rfl (AM _))))⟩, ⟨_, rfl, BW 4 26 false _ rfl rfl rfl (by rw [show ((RightO (kd) l ([] : List SealR) bl) == (RightO (kd) l ([] : List SealR) bl)) = true from (beq_self_eq_true _)] <;> rfl) (AD rfl)⟩, trivial⟩ rfl (Cok_gstep 4 26 false _ rfl rfl rfl (by rw [show ((RightO (kd) l ([] : List SealR) bl) == (RightO (kd) l ([] : List SealR) bl)) = true from (beq_self_eq_true _)] <;> rfl) (AT 70 [.agg (List.toArray (α := Value) ([I64 (kd), .slice ai ni ci, .slice sa 0 sc, U64 bl])), U64 blk] (.bool ((RightO (kd) l ([] : List SealR) bl) && (!(l.any (fun x => decide (blk ≤ x)))))) (AW [.agg (List.toArray (α := Value) ([I64 (kd), .slice ai ni ci, .slice sa 0 sc, U64 bl])), U64 blk] Tryd.call70 rfl) (fun w1 hw1 => fits13_c (kd) ai ni ci l sa 0 sc ([] : List SealR) bl blk w1 hl (by omega) (by omega) (by omega) (DD hw1 rfl hv) rfl (by omega) (by omega) (by omega) RdV.nil))) ?_
 rintro v1 L1 ⟨rfl, rfl⟩
 refine ⟨[], ?_⟩
 show DP _ _ _ _ _ _ _ _ [_, _]
 refine BT ⟨[1, 7], [0, 2, 3, 4, 5, 6, 8, 9], [0, 2, 3, 4, 5, 6], [8, 9], [10]⟩ 10 _ rfl rfl (by decide +kernel) rfl ⟨⟨_, rfl, BW 4 26 false _ rfl rfl rfl (by rw [show ((RightO (kd) l ([] : List SealR) bl) == (RightO (kd) l ([] : List SealR) bl)) = true from (beq_self_eq_true _)] <;> rfl) (AL rfl (BO DO CQ rfl (MemAt.ent 1 rfl (AM _))))⟩, ⟨_, rfl, BW 4 26 false _ rfl rfl rfl (by rw [show ((RightO (kd) l ([] : List SealR) bl) == (RightO (kd) l ([] : List SealR) bl)) = true from (beq_self_eq_true _)] <;> rfl) (AD rfl)⟩, trivial⟩ rfl (Cok_gstep 4 26 false _ rfl rfl rfl (by rw [show ((RightO (kd) l ([] : List SealR) bl) == (RightO (kd) l ([] : List SealR) bl)) = true from (beq_self_eq_true _)] <;> rfl) (AT 71 [.agg (List.toArray (α := Value) ([I64 (kd), .slice ai ni ci, .slice none 0 0, U64 bl])), U64 blk] (.bool ((RightO (kd) l ([] : List SealR) bl) && (!(l.any (fun x => decide (blk ≤ x)))))) (AW [.agg (List.toArray (α := Value) ([I64 (kd), .slice ai ni ci, .slice none 0 0, U64 bl])), U64 blk] Tryd.call71 rfl) (fun w1 hw1 => rfits13_c (kd) ai ni ci l none 0 0 ([] : List SealR) bl blk w1 hl (by omega) (by omega) (by omega) (DD hw1 rfl hv) rfl (by omega) (by omega) (by omega) RdV.nil))) ?_
 rintro v1 L1 ⟨rfl, rfl⟩
 refine ⟨[(11, .bool (!(((RightO (kd) l ([] : List SealR) bl) && (!(l.any (fun x => decide (blk ≤ x))))) == ((RightO (kd) l ([] : List SealR) bl) && (!(l.any (fun x => decide (blk ≤ x)))))))), (12, .bool (!(((RightO (kd) l ([] : List SealR) bl) && (!(l.any (fun x => decide (blk ≤ x))))) == ((RightO (kd) l ([] : List SealR) bl) && (!(l.any (fun x => decide (blk ≤ x))))))))], ?_⟩
 show DP _ _ _ _ _ _ _ _ [_, _]
 refine DG ⟨[1, 7, 10], [0, 2, 3, 4, 5, 6, 8, 9, 11, 12], [0, 2, 3, 4, 5, 6, 8, 9], [11, 12], []⟩ rfl rfl (by decide +kernel) rfl ⟨⟨_, rfl, BW 4 26 false _ rfl rfl rfl (by rw [show ((RightO (kd) l ([] : List SealR) bl) == (RightO (kd) l ([] : List SealR) bl)) = true from (beq_self_eq_true _)] <;> rfl) (D8 _ _ _ rfl rfl (fun _ => EV ..) fun _ => neq_bool Tryd.underlying4)⟩, ⟨_, rfl, AB rfl (BX _ rfl (by rw [show ((RightO (kd) l ([] : List SealR) bl) == (RightO (kd) l ([] : List SealR) bl)) = true from (beq_self_eq_true _)] <;> rfl) rfl)⟩, trivial⟩ ?_
 refine CZ (F' := [(34, .bool (!(((RightO (kd) l ([] : List SealR) bl) && (!(l.any (fun x => decide (blk ≤ x))))) == ((RightO (kd) l ([] : List SealR) bl) && (!(l.any (fun x => decide (blk ≤ x)))))))), (2, Ptr nb1 0), (4, .bool false), (5, Ptr nb2 0), (6, .bool (RightO (kd) l ([] : List SealR) bl)), (7, .slice none 0 0), (8, .iface 50 (I64 (2:Int)))]) (by kernel_rfl) ?_
 refine AE (B9 _ rfl (by rw [show (((RightO (kd) l ([] : List SealR) bl) && (!(l.any (fun x => decide (blk ≤ x))))) == ((RightO (kd) l ([] : List SealR) bl) && (!(l.any (fun x => decide (blk ≤ x)))))) = true from (beq_self_eq_true _)] <;> rfl) ?_)
 refine BE (AE (AG (AG (AC (AA _ (AD rfl) rfl ?_)))))
 refine AA (.bool (!(RightO (kd) l ([] : List SealR) bl))) (ER rfl) rfl ?_
 refine AA _ (AD rfl) rfl ?_
 rcases Bool.eq_false_or_eq_true (RightO (kd) l ([] : List SealR) bl) with hb1 | hb1
 ·
  refine AU 2 37 false _ (Ptr nb1 0) rfl rfl (by rw [show (RightO (kd) l ([] : List SealR) bl) = true from hb1] <;> rfl) (AJ 0 3 1 AO rfl B3 rfl rfl) rfl ?_
  refine AU 2 37 false _ (I64 (kd)) rfl rfl (by rw [show (RightO (kd) l ([] : List SealR) bl) = true from hb1] <;> rfl) (AL rfl (AZ B7 (MemAt.ent 0 rfl (Seg.head)))) rfl ?_
  refine AU 2 37 false _ (.bool (decide ((kd) = (3:Int)))) rfl rfl (by rw [show (RightO (kd) l ([] : List SealR) bl) = true from hb1] <;> rfl) (AK rfl rfl fun _ => CU _ _) rfl ?_
  refine AA _ (BX _ rfl (by rw [show (RightO (kd) l ([] : List SealR) bl) = true from hb1] <;> rfl) rfl) rfl ?_
  refine AI (AE (DM _ rfl (decide_eq_true (hbad.resolve_left (fun h => by rw [hb1] at h; cases h))) ?_))
  refine AG (AC (AA _ (AD rfl) rfl ?_))
  refine AN (AT 23 [.iface 50 (I64 (2:Int)), I64 (2:Int)] (.bool true) (AW [.iface 50 (I64 (2:Int)), I64 (2:Int)] Tryd.call23 rfl) (fun w1 hw1 => is_c 2 2 w1)) rfl ?_
  rintro v1 L1 ⟨rfl, rfl⟩
  show JL _ _ _ _ ((43, .bool true) :: _) [_, _]
  refine AA _ (AD rfl) rfl ?_
  refine AU 2 44 true _ _ rfl rfl rfl (AD rfl) rfl ?_
  refine AU 2 44 true _ (I64 (0:Int)) rfl rfl rfl (DJ A7 rfl) rfl ?_
  refine AU 2 44 true _ (.bool (decide ((0:Int) = (0:Int)))) rfl rfl rfl (AK rfl rfl fun _ => CU _ _) rfl ?_
  refine AA _ (CG _ rfl rfl rfl) rfl ?_
  refine AA _ (AF rfl) rfl ?_
  refine AI (AE (BG (A0 (B5 [false, false] ?_))))
  show JQ _ _ _ _ []
  refine BI (.bool (decide ((0:Int) = (0:Int)))) (res1 Tryd.results13 (BK rfl)) fun w1 hw1 => ?_
  exact ⟨_, [], rfl, ⟨by rw [show (decide ((0:Int) = (0:Int))) = true from (by decide)], rfl⟩, hw1.sub (by simp) (by simp)⟩
 ·
  refine AS 2 37 false _ rfl rfl (by rw [show (RightO (kd) l ([] : List SealR) bl) = false from hb1] <;> rfl) rfl ?_
  refine AS 2 37 false _ rfl rfl (by rw [show (RightO (kd) l ([] : List SealR) bl) = false from hb1] <;> rfl) rfl ?_
  refine AS 2 37 false _ rfl rfl (by rw [show (RightO (kd) l ([] : List SealR) bl) = false from hb1] <;> rfl) rfl ?_
  refine AA _ (CG _ rfl (by rw [show (RightO (kd) l ([] : List SealR) bl) = false from hb1] <;> rfl) rfl) rfl ?_
  refine AI (AE (DM _ rfl rfl ?_))
  refine AG (AC (AA _ (AD rfl) rfl ?_))
  refine AN (AT 23 [.iface 50 (I64 (2:Int)), I64 (2:Int)] (.bool true) (AW [.iface 50 (I64 (2:Int)), I64 (2:Int)] Tryd.call23 rfl) (fun w1 hw1 => is_c 2 2 w1)) rfl ?_
  rintro v1 L1 ⟨rfl, rfl⟩
  show JL _ _ _ _ ((43, .bool true) :: _) [_, _]
  refine AA _ (AD rfl) rfl ?_
  refine AU 2 44 true _ _ rfl rfl rfl (AD rfl) rfl ?_
  refine AU 2 44 true _ (I64 (0:Int)) rfl rfl rfl (DJ A7 rfl) rfl ?_
  refine AU 2 44 true _ (.bool (decide ((0:Int) = (0:Int)))) rfl rfl rfl (AK rfl rfl fun _ => CU _ _) rfl ?_
  refine AA _ (CG _ rfl rfl rfl) rfl ?_
  refine AA _ (AF rfl) rfl ?_
  refine AI (AE (BG (A0 (B5 [false, false] ?_))))
  show JQ _ _ _ _ []
  refine BI (.bool (decide ((0:Int) = (0:Int)))) (res1 Tryd.results13 (BK rfl)) fun w1 hw1 => ?_
  exact ⟨_, [], rfl, ⟨by rw [show (decide ((0:Int) = (0:Int))) = true from (by decide)], rfl⟩, hw1.sub (by simp) (by simp)⟩
theorem toBP_c (pv ep : UInt64) (kd : Int) (ai : Option Addr) (ni ci : Nat) (l : List UInt64) (sa : Option Addr) (ns sc : Nat) (ls : List SealR) (bl : UInt64) (blk : UInt64)  (w : World) (hl : l.length = ni) (hnm : ni ≤ 2000000) (hnc : ni ≤ ci) (hcm : ci ≤ maxLen) (hv : RdV w ai (cu64 l)) (hls : ls.length = ns) (hnn : ns ≤ 2000000) (hnd : ns ≤ sc) (hcn : sc ≤ maxLen) (hs : RdV w sa (ls.flatMap sealC)) (hp0 : 0 < ns) (hbad : RightO kd l ls bl = false ∨ kd = 3) (hG : GLs w) (hGr : GLr w) (hGi : GLi w) (hlg : ¬ LargeP ni ns)  : Calls Tryd.prog 13 #[.agg (List.toArray (α := Value) ([I64 (kd), .slice ai ni ci, .slice sa ns sc, U64 bl])), U64 blk] w (Post w [] (fun v L => v = .bool true ∧ L = [])) := by
 have hmx : maxLen = 9223372036854775807 := rfl
 refine enter (P := Tryd.prog) (f := 13) (fn := Tryd.f13) w [] 57 [] [.agg (List.toArray (α := Value) ([I64 (kd), .slice ai ni ci, .slice sa ns sc, U64 bl])), U64 blk] Tryd.func13 rfl rfl (by simp) (BL (by simp) (by simp) (by simp)) ?_
 show JC _ _ _ [(0, .agg (List.toArray (α := Value) ([I64 (kd), .slice ai ni ci, .slice sa ns sc, U64 bl]))), (1, U64 blk)] _
 refine AG (AC (AN (CM (.agg (List.toArray (α := Value) ([I64 (kd), .slice ai ni ci, .slice sa ns sc, U64 bl]))) ([I64 (kd), .slice ai ni ci, .slice sa ns sc, U64 bl]) rfl (by first | rfl | simp)) rfl ?_))
 rintro v1 L1 ⟨nb1, hnb1, rfl, rfl⟩
 show JL _ _ _ _ ((2, Ptr nb1 0) :: _) [⟨nb1, [I64 (kd), .slice ai ni ci, .slice sa ns sc, U64 bl], 26, (0, 0)⟩]
 refine AA _ (AF rfl) rfl ?_
 refine AI (AE (AG (AG (AC (AN (AT 43 [] (.bool true) (AW [] Tryd.call43 rfl) (fun w1 hw1 => alive13_c  w1 (hG.at hw1))) rfl ?_)))))
 rintro v1 L1 ⟨rfl, rfl⟩
 show JL _ _ _ _ ((9, .bool true) :: _) [_]
 refine AA (.bool (!true)) (ER rfl) rfl ?_
 refine AI (AE (B9 _ rfl rfl ?_))
 refine BE (AE (AG (AG (AC (AA (.agg (List.toArray (α := Value) ([I64 (kd), .slice ai ni ci, .slice sa ns sc, U64 bl]))) (AL rfl (BO CV B0 rfl (MemAt.ent 0 rfl (AM _)))) rfl ?_)))))
 refine AN (AT 18 [.agg (List.toArray (α := Value) ([I64 (kd), .slice ai ni ci, .slice sa ns sc, U64 bl]))] (.bool (decide (LargeP ni ns))) (AW [.agg (List.toArray (α := Value) ([I64 (kd), .slice ai ni ci, .slice sa ns sc, U64 bl]))] Tryd.call18 rfl) (fun w1 hw1 => large_c (kd) ai ni ci l sa ns sc ls bl w1 )) rfl ?_
 rintro v1 L1 ⟨rfl, rfl⟩
 show JL _ _ _ _ ((12, .bool (decide (LargeP ni ns))) :: _) [_]
 refine AI (AE (B9 _ rfl (decide_eq_false hlg) ?_))
 refine BE (AE (AG (AC (AA (.agg (List.toArray (α := Value) ([I64 (kd), .slice ai ni ci, .slice sa ns sc, U64 bl]))) (AL rfl (BO CV B0 rfl (MemAt.ent 0 rfl (AM _)))) rfl ?_))))
 refine AN (B1 66 [.agg (List.toArray (α := Value) ([I64 (kd), .slice ai ni ci, .slice sa ns sc, U64 bl]))] _ (AW [.agg (List.toArray (α := Value) ([I64 (kd), .slice ai ni ci, .slice sa ns sc, U64 bl]))] Tryd.call66 rfl) (fun w1 hw1 => orderP_c (kd) ai ni ci l sa ns sc ls bl w1 hl (by omega) (by omega) (by omega) (DD hw1 rfl hv) hls (by omega) (by omega) (by omega) (DD hw1 rfl hs) (by omega))) rfl ?_
 rintro v1 L1 ⟨_, ⟨nb2, sp1, cp1, rfl, rfl, hc1, hc2, hc3⟩, rfl⟩
 show JL _ _ _ _ ((14, .agg (List.toArray (α := Value) ([I64 (kd), .slice ai ni ci, Slc nb2 0 ns cp1, U64 bl]))) :: _) [_, ⟨nb2, (ls).flatMap sealC ++ sp1, 164, (0, 0)⟩]
 refine AN (BR _ ([I64 (0:Int), .slice none 0 0, .slice none 0 0, U64 (0:UInt64)]) Tryd.zeroValue36 (by kernel_rfl)) rfl ?_
 rintro v1 L1 ⟨nb3, hnb3, rfl, rfl⟩
 show JL _ _ _ _ ((5, Ptr nb3 0) :: _) [_, _, ⟨nb3, [I64 (0:Int), .slice none 0 0, .slice none 0 0, U64 (0:UInt64)], 36, (0, 0)⟩]
 refine AN (A8 2 nb3 0 4 ([I64 (0:Int), .slice none 0 0, .slice none 0 0, U64 (0:UInt64)]) 36 (.agg (List.toArray (α := Value) ([I64 (kd), .slice ai ni ci, Slc nb2 0 ns cp1, U64 bl]))) ([I64 (kd), .slice ai ni ci, Slc nb2 0 ns cp1, U64 bl]) ([I64 (kd), .slice ai ni ci, Slc nb2 0 ns cp1, U64 bl]) rfl rfl rfl (by first | rfl | simp) CQ rfl (by simp [Value.oneCell']) (Nat.le_of_ble_eq_true rfl) (BU (by simp []))) rfl ?_
 rintro v1 L1 ⟨rfl, rfl⟩
 show JL _ _ _ _ _ [_, _, ⟨nb3, [I64 (kd), .slice ai ni ci, Slc nb2 0 ns cp1, U64 bl], 36, (0, 0)⟩]
 refine AI (AE (AG (AC (AA (.agg (List.toArray (α := Value) ([I64 (kd), .slice ai ni ci, Slc nb2 0 ns cp1, U64 bl]))) (AL rfl (BO DO CQ rfl (MemAt.ent 2 rfl (AM _)))) rfl ?_))))
 refine AN (AT 67 [.agg (List.toArray (α := Value) ([I64 (kd), .slice ai ni ci, Slc nb2 0 ns cp1, U64 bl]))] (.bool (RightO (kd) l ls bl)) (AW [.agg (List.toArray (α := Value) ([I64 (kd), .slice ai ni ci, Slc nb2 0 ns cp1, U64 bl]))] Tryd.call67 rfl) (fun w1 hw1 => rright13_c (kd) ai ni ci l (some ⟨nb2, 0, none⟩) ns cp1 ls bl w1 hl (by omega) (by omega) (by omega) (DD hw1 rfl hv) hls (by omega) (by omega) (by omega) (RdV.of hw1 (MemAt.ent 1 rfl (BV (AM _)))))) rfl ?_
 rintro v1 L1 ⟨rfl, rfl⟩
 show JL _ _ _ _ ((16, .bool (RightO (kd) l ls bl)) :: _) [_, _, _]
 refine AA _ (AF rfl) rfl ?_
 refine AI (AE (AG (AC (AA (.agg (List.toArray (α := Value) ([I64 (kd), .slice ai ni ci, .slice sa ns sc, U64 bl]))) (AL rfl (BO CV B0 rfl (MemAt.ent 0 rfl (AM _)))) rfl ?_))))
 refine AN (AT 68 [.agg (List.toArray (α := Value) ([I64 (kd), .slice ai ni ci, .slice sa ns sc, U64 bl]))] (.tuple #[.slice none 0 0, .iface 50 (I64 (2:Int))]) (AW [.agg (List.toArray (α := Value) ([I64 (kd), .slice ai ni ci, .slice sa ns sc, U64 bl]))] Tryd.call68 rfl) (fun w1 hw1 => leavesB_c 0 0 (kd) ai ni ci l sa ns sc ls bl w1 hl (by omega) (by omega) (by omega) (DD hw1 rfl hv) hls (by omega) (by omega) (by omega) (DD hw1 rfl hs) hbad)) rfl ?_
 rintro v1 L1 ⟨rfl, rfl⟩
 show JL _ _ _ _ ((19, .tuple #[.slice none 0 0, .iface 50 (I64 (2:Int))]) :: _) [_, _, _]
 refine AA _ (AD rfl) rfl ?_
 refine AA _ (BJ rfl rfl) rfl ?_
 refine AA _ (BJ rfl rfl) rfl ?_
 refine AA _ (AF rfl) rfl ?_
 refine AA _ (AF rfl) rfl ?_
 refine AI (AE (AG (AG (C3 57 4 [(0, .agg (List.toArray (α := Value) ([I64 (kd), .slice ai ni ci, .slice sa ns sc, U64 bl]))), (2, .bool (RightO (kd) l ls bl))] BQ rfl (by decide +kernel) ?_))))
 refine BT ⟨[], [0, 2], [], [0, 2], [1]⟩ 1 _ rfl rfl (by decide +kernel) rfl ⟨⟨_, rfl, AB rfl (AL rfl (BO CV B0 rfl (MemAt.ent 0 rfl (AM _))))⟩, ⟨_, rfl, AB rfl (AD rfl)⟩, trivial⟩ rfl (A1 rfl (AT 69 [.agg (List.toArray (α := Value) ([I64 (kd), .slice ai ni ci, .slice sa ns sc, U64 bl]))] (.bool (RightO (kd) l ls bl)) (AW [.agg (List.toArray (α := Value) ([I64 (kd), .slice ai ni ci, .slice sa ns sc, U64 bl]))] Tryd.call69 rfl) (fun w1 hw1 => FJ (kd) ai ni ci l sa ns sc ls bl w1 hl (by omega) (by omega) (by omega) (DD hw1 rfl hv) hls (by omega) (by omega) (by omega) (DD hw1 rfl hs)))) ?_
 rintro v1 L1 ⟨rfl, rfl⟩
 refine ⟨[(3, .bool (!((RightO (kd) l ls bl) == (RightO (kd) l ls bl)))), (4, .bool (!((RightO (kd) l ls bl) == (RightO (kd) l ls bl)))), (5, .agg (List.toArray (α := Value) ([I64 (kd), .slice ai ni ci, .slice sa ns sc, U64 bl]))), (6, U64 blk), (8, .agg (List.toArray (α := Value) ([I64 (kd), .slice ai ni ci, Slc nb2 0 ns cp1, U64 bl]))), (9, U64 blk)], ?_⟩
 show DP _ _ _ _ _ _ _ _ [_, _, _]
 refine BT ⟨[1], [0, 2, 3, 4, 5, 6, 8, 9], [0], [2, 3, 4, 5, 6, 8, 9], [7]⟩ 7 _ rfl rfl (by decide +kernel) rfl ⟨⟨_, rfl, AB rfl (AD rfl)⟩, ⟨_, rfl, AB rfl (D8 _ _ _ rfl rfl (fun _ => EV ..) fun _ => neq_bool Tryd.underlying4)⟩, ⟨_, rfl, AB rfl (AD rfl)⟩, ⟨_, rfl, BW 4 26 false _ rfl rfl rfl (by rw [show ((RightO (kd) l ls bl) == (RightO (kd) l ls bl)) = true from (beq_self_eq_true _)] <;> rfl) (AL rfl (BO CV B0 rfl (MemAt.ent 0 rfl (AM _))))⟩, ⟨_, rfl, BW 4 26 false _ rfl rfl rfl (by rw [show ((RightO (kd) l ls bl) == (RightO (kd) l ls bl)) = true from (beq_self_eq_true _)] <;> rfl) (AD rfl)⟩, ⟨_, rfl, BW 4 26 false _ rfl rfl rfl (by rw [show ((RightO (kd) l ls bl) == (RightO (kd) l ls bl)) = true from (beq_self_eq_true _)] <;> rfl) (AL rfl (BO DO CQ rfl (MemAt.ent 2 rfl (AM _))))⟩, ⟨_, rfl, BW 4 26 false _ rfl rfl rfl (by rw [show ((RightO (kd) l ls bl) == (RightO (kd) l ls bl)) = true from (beq_self_eq_true _)] <;> rfl) (AD rfl)⟩, trivial⟩ rfl (Cok_gstep 4 26 false _ rfl rfl rfl (by rw [show ((RightO (kd) l ls bl) == (RightO (kd) l ls bl)) = true from (beq_self_eq_true _)] <;> rfl) (AT 70 [.agg (List.toArray (α := Value) ([I64 (kd), .slice ai ni ci, .slice sa ns sc, U64 bl])), U64 blk] (.bool ((RightO (kd) l ls bl) && (!(l.any (fun x => decide (blk ≤ x)))))) (AW [.agg (List.toArray (α := Value) ([I64 (kd), .slice ai ni ci, .slice sa ns sc, U64 bl])), U64 blk] Tryd.call70 rfl) (fun w1 hw1 => fits13_c (kd) ai ni ci l sa ns sc ls bl blk w1 hl (by omega) (by omega) (by omega) (DD hw1 rfl hv) hls (by omega) (by omega) (by omega) (DD hw1 rfl hs)))) ?_
 rintro v1 L1 ⟨rfl, rfl⟩
 refine ⟨[], ?_⟩
 show DP _ _ _ _ _ _ _ _ [_, _, _]
 refine BT ⟨[1, 7], [0, 2, 3, 4, 5, 6, 8, 9], [0, 2, 3, 4, 5, 6], [8, 9], [10]⟩ 10 _ rfl rfl (by decide +kernel) rfl ⟨⟨_, rfl, BW 4 26 false _ rfl rfl rfl (by rw [show ((RightO (kd) l ls bl) == (RightO (kd) l ls bl)) = true from (beq_self_eq_true _)] <;> rfl) (AL rfl (BO DO CQ rfl (MemAt.ent 2 rfl (AM _))))⟩, ⟨_, rfl, BW 4 26 false _ rfl rfl rfl (by rw [show ((RightO (kd) l ls bl) == (RightO (kd) l ls bl)) = true from (beq_self_eq_true _)] <;> rfl) (AD rfl)⟩, trivial⟩ rfl (Cok_gstep 4 26 false _ rfl rfl rfl (by rw [show ((RightO (kd) l ls bl) == (RightO (kd) l ls bl)) = true from (beq_self_eq_true _)] <;> rfl) (AT 71 [.agg (List.toArray (α := Value) ([I64 (kd), .slice ai ni ci, Slc nb2 0 ns cp1, U64 bl])), U64 blk] (.bool ((RightO (kd) l ls bl) && (!(l.any (fun x => decide (blk ≤ x)))))) (AW [.agg (List.toArray (α := Value) ([I64 (kd), .slice ai ni ci, Slc nb2 0 ns cp1, U64 bl])), U64 blk] Tryd.call71 rfl) (fun w1 hw1 => rfits13_c (kd) ai ni ci l (some ⟨nb2, 0, none⟩) ns cp1 ls bl blk w1 hl (by omega) (by omega) (by omega) (DD hw1 rfl hv) hls (by omega) (by omega) (by omega) (RdV.of hw1 (MemAt.ent 1 rfl (BV (AM _))))))) ?_
 rintro v1 L1 ⟨rfl, rfl⟩
 refine ⟨[(11, .bool (!(((RightO (kd) l ls bl) && (!(l.any (fun x => decide (blk ≤ x))))) == ((RightO (kd) l ls bl) && (!(l.any (fun x => decide (blk ≤ x)))))))), (12, .bool (!(((RightO (kd) l ls bl) && (!(l.any (fun x => decide (blk ≤ x))))) == ((RightO (kd) l ls bl) && (!(l.any (fun x => decide (blk ≤ x))))))))], ?_⟩
 show DP _ _ _ _ _ _ _ _ [_, _, _]
 refine DG ⟨[1, 7, 10], [0, 2, 3, 4, 5, 6, 8, 9, 11, 12], [0, 2, 3, 4, 5, 6, 8, 9], [11, 12], []⟩ rfl rfl (by decide +kernel) rfl ⟨⟨_, rfl, BW 4 26 false _ rfl rfl rfl (by rw [show ((RightO (kd) l ls bl) == (RightO (kd) l ls bl)) = true from (beq_self_eq_true _)] <;> rfl) (D8 _ _ _ rfl rfl (fun _ => EV ..) fun _ => neq_bool Tryd.underlying4)⟩, ⟨_, rfl, AB rfl (BX _ rfl (by rw [show ((RightO (kd) l ls bl) == (RightO (kd) l ls bl)) = true from (beq_self_eq_true _)] <;> rfl) rfl)⟩, trivial⟩ ?_
 refine CZ (F' := [(34, .bool (!(((RightO (kd) l ls bl) && (!(l.any (fun x => decide (blk ≤ x))))) == ((RightO (kd) l ls bl) && (!(l.any (fun x => decide (blk ≤ x)))))))), (2, Ptr nb1 0), (4, .bool false), (5, Ptr nb3 0), (6, .bool (RightO (kd) l ls bl)), (7, .slice none 0 0), (8, .iface 50 (I64 (2:Int)))]) (by kernel_rfl) ?_
 refine AE (B9 _ rfl (by rw [show (((RightO (kd) l ls bl) && (!(l.any (fun x => decide (blk ≤ x))))) == ((RightO (kd) l ls bl) && (!(l.any (fun x => decide (blk ≤ x)))))) = true from (beq_self_eq_true _)] <;> rfl) ?_)
 refine BE (AE (AG (AG (AC (AA _ (AD rfl) rfl ?_)))))
 refine AA (.bool (!(RightO (kd) l ls bl))) (ER rfl) rfl ?_
 refine AA _ (AD rfl) rfl ?_
 rcases Bool.eq_false_or_eq_true (RightO (kd) l ls bl) with hb1 | hb1
 ·
  refine AU 2 37 false _ (Ptr nb1 0) rfl rfl (by rw [show (RightO (kd) l ls bl) = true from hb1] <;> rfl) (AJ 0 3 1 AO rfl B3 rfl rfl) rfl ?_
  refine AU 2 37 false _ (I64 (kd)) rfl rfl (by rw [show (RightO (kd) l ls bl) = true from hb1] <;> rfl) (AL rfl (AZ B7 (MemAt.ent 0 rfl (Seg.head)))) rfl ?_
  refine AU 2 37 false _ (.bool (decide ((kd) = (3:Int)))) rfl rfl (by rw [show (RightO (kd) l ls bl) = true from hb1] <;> rfl) (AK rfl rfl fun _ => CU _ _) rfl ?_
  refine AA _ (BX _ rfl (by rw [show (RightO (kd) l ls bl) = true from hb1] <;> rfl) rfl) rfl ?_
  refine AI (AE (DM _ rfl (decide_eq_true (hbad.resolve_left (fun h => by rw [hb1] at h; cases h))) ?_))
  refine AG (AC (AA _ (AD rfl) rfl ?_))
  refine AN (AT 23 [.iface 50 (I64 (2:Int)), I64 (2:Int)] (.bool true) (AW [.iface 50 (I64 (2:Int)), I64 (2:Int)] Tryd.call23 rfl) (fun w1 hw1 => is_c 2 2 w1)) rfl ?_
  rintro v1 L1 ⟨rfl, rfl⟩
  show JL _ _ _ _ ((43, .bool true) :: _) [_, _, _]
  refine AA _ (AD rfl) rfl ?_
  refine AU 2 44 true _ _ rfl rfl rfl (AD rfl) rfl ?_
  refine AU 2 44 true _ (I64 (0:Int)) rfl rfl rfl (DJ A7 rfl) rfl ?_
  refine AU 2 44 true _ (.bool (decide ((0:Int) = (0:Int)))) rfl rfl rfl (AK rfl rfl fun _ => CU _ _) rfl ?_
  refine AA _ (CG _ rfl rfl rfl) rfl ?_
  refine AA _ (AF rfl) rfl ?_
  refine AI (AE (BG (A0 (B5 [false, false, false] ?_))))
  show JQ _ _ _ _ []
  refine BI (.bool (decide ((0:Int) = (0:Int)))) (res1 Tryd.results13 (BK rfl)) fun w1 hw1 => ?_
  exact ⟨_, [], rfl, ⟨by rw [show (decide ((0:Int) = (0:Int))) = true from (by decide)], rfl⟩, hw1.sub (by simp) (by simp)⟩
 ·
  refine AS 2 37 false _ rfl rfl (by rw [show (RightO (kd) l ls bl) = false from hb1] <;> rfl) rfl ?_
  refine AS 2 37 false _ rfl rfl (by rw [show (RightO (kd) l ls bl) = false from hb1] <;> rfl) rfl ?_
  refine AS 2 37 false _ rfl rfl (by rw [show (RightO (kd) l ls bl) = false from hb1] <;> rfl) rfl ?_
  refine AA _ (CG _ rfl (by rw [show (RightO (kd) l ls bl) = false from hb1] <;> rfl) rfl) rfl ?_
  refine AI (AE (DM _ rfl rfl ?_))
  refine AG (AC (AA _ (AD rfl) rfl ?_))
  refine AN (AT 23 [.iface 50 (I64 (2:Int)), I64 (2:Int)] (.bool true) (AW [.iface 50 (I64 (2:Int)), I64 (2:Int)] Tryd.call23 rfl) (fun w1 hw1 => is_c 2 2 w1)) rfl ?_
  rintro v1 L1 ⟨rfl, rfl⟩
  show JL _ _ _ _ ((43, .bool true) :: _) [_, _, _]
  refine AA _ (AD rfl) rfl ?_
  refine AU 2 44 true _ _ rfl rfl rfl (AD rfl) rfl ?_
  refine AU 2 44 true _ (I64 (0:Int)) rfl rfl rfl (DJ A7 rfl) rfl ?_
  refine AU 2 44 true _ (.bool (decide ((0:Int) = (0:Int)))) rfl rfl rfl (AK rfl rfl fun _ => CU _ _) rfl ?_
  refine AA _ (CG _ rfl rfl rfl) rfl ?_
  refine AA _ (AF rfl) rfl ?_
  refine AI (AE (BG (A0 (B5 [false, false, false] ?_))))
  show JQ _ _ _ _ []
  refine BI (.bool (decide ((0:Int) = (0:Int)))) (res1 Tryd.results13 (BK rfl)) fun w1 hw1 => ?_
  exact ⟨_, [], rfl, ⟨by rw [show (decide ((0:Int) = (0:Int))) = true from (by decide)], rfl⟩, hw1.sub (by simp) (by simp)⟩
end Go.Proofs.YtkdpdgpphpngeaaDoor
namespace Go.Proofs.YtkdpdgpphpngeaaDoor
open Go Go.Sx
set_option linter.unusedVariables false
set_option linter.unusedSimpArgs false
set_option maxRecDepth 100000
attribute [local irreducible] mid zr8 zr32 numK rnK rotr wordL spreadL comprL cpN adN spN wrdN constL initL padL stN outN routN sumG putL leafT joinT empL empA empR RightB tktT mayN idxT selT macL tkG mulH repL lvT lvH RightO
theorem ticketOrders_w (kd : Int) (ai : Option Addr) (ni ci : Nat) (l : List UInt64) (sa : Option Addr) (ns sc : Nat) (ls : List SealR) (bl : UInt64) (blk : UInt64) (w : World) (hkd : -9223372036854775808 ≤ kd ∧ kd ≤ 9223372036854775807) (hl : l.length = ni) (hnI : ai = none → ci = 0) (hic : ni ≤ ci ∧ ci ≤ maxLen) (hv : RdV w ai (cu64 l)) (hls : ls.length = ns) (hnS : sa = none → sc = 0) (hsc : ns ≤ sc ∧ sc ≤ maxLen) (hs : RdV w sa (ls.flatMap sealC)) (hG : GLs w) (hGr : GLr w) (hGi : GLi w) : Calls Tryd.prog 13 #[.agg (List.toArray (α := Value) ([I64 (kd), .slice ai ni ci, .slice sa ns sc, U64 bl])), U64 blk] w (Post w [] (fun v L => v = .bool true ∧ L = [])) := by
  by_cases hlg : LargeP ni ns
  · exact toL_c 0 0 kd ai ni ci l sa ns sc ls bl blk w hlg hG hGr hGi
  obtain ⟨hbi, hbs⟩ := large_not hlg
  have bad : (RightO kd l ls bl = false ∨ kd = 3) → Calls Tryd.prog 13 #[.agg (List.toArray (α := Value) ([I64 (kd), .slice ai ni ci, .slice sa ns sc, U64 bl])), U64 blk] w (Post w [] (fun v L => v = .bool true ∧ L = [])) := fun hbad => by
    by_cases hs0 : ns = 0
    · subst hs0
      obtain rfl : ls = [] := List.eq_nil_of_length_eq_zero hls
      exact toBZ_c 0 0 kd ai ni ci l sa sc bl blk w hl (by omega) hic.1 hic.2 hv hsc.2 hnS hbad hG hGr hGi hlg
    · exact toBP_c 0 0 kd ai ni ci l sa ns sc ls bl blk w hl (by omega) hic.1 hic.2 hv hls (by omega) hsc.1 hsc.2 hs (by omega) hbad hG hGr hGi hlg
  by_cases hR : RightO kd l ls bl = true
  · have hR2 := RightO_len hR
    rcases RightO_cases hR with ⟨rfl, h1, h2⟩ | ⟨rfl, h1, h2⟩ | ⟨rfl, h1, h2⟩
    · exact to1_c 0 0 1 ai ni ci l sa ns sc ls bl blk w hl (by omega) hic.1 hic.2 hv hls (by omega) hsc.1 hsc.2 hs (by omega) (by omega) hR rfl (RightO_idx hR (.inl rfl)) (by omega) (by omega) hG hGr hGi hlg
    · obtain rfl : ls = [] := List.eq_nil_of_length_eq_zero h2
      obtain rfl : ns = 0 := hls.symm
      exact to2_c 0 0 2 ai ni ci l sa sc bl blk w hl (by omega) hic.1 hic.2 hv hsc.2 hnS (by omega) hR rfl (RightO_idx hR (.inr rfl)) (by omega) hG hGr hGi hlg
    · exact bad (.inr rfl)
  · exact bad (.inl (by simpa using hR))

end Go.Proofs.YtkdpdgpphpngeaaDoor
namespace Go.Proofs.YtkdpdgpphpngeaaDoor
open Go
def headSigns : List Char := [Char.ofNat 104, Char.ofNat 97, Char.ofNat 114, Char.ofNat 110, Char.ofNat 101, Char.ofNat 115, Char.ofNat 115, Char.ofNat 32, Char.ofNat 50, Char.ofNat 100, Char.ofNat 55, Char.ofNat 48, Char.ofNat 102, Char.ofNat 53, Char.ofNat 99, Char.ofNat 56, Char.ofNat 51, Char.ofNat 51, Char.ofNat 98, Char.ofNat 102, Char.ofNat 98, Char.ofNat 55, Char.ofNat 98, Char.ofNat 99, Char.ofNat 56, Char.ofNat 100, Char.ofNat 101, Char.ofNat 50, Char.ofNat 52, Char.ofNat 51, Char.ofNat 50, Char.ofNat 51, Char.ofNat 48, Char.ofNat 101, Char.ofNat 101, Char.ofNat 48, Char.ofNat 52, Char.ofNat 55, Char.ofNat 57, Char.ofNat 55, Char.ofNat 51, Char.ofNat 101, Char.ofNat 57, Char.ofNat 54, Char.ofNat 57, Char.ofNat 51, Char.ofNat 101, Char.ofNat 100, Char.ofNat 101, Char.ofNat 55, Char.ofNat 53, Char.ofNat 51, Char.ofNat 52, Char.ofNat 48, Char.ofNat 54, Char.ofNat 50, Char.ofNat 55, Char.ofNat 99, Char.ofNat 57, Char.ofNat 57, Char.ofNat 52, Char.ofNat 50, Char.ofNat 54, Char.ofNat 50, Char.ofNat 100, Char.ofNat 102, Char.ofNat 102, Char.ofNat 56, Char.ofNat 48, Char.ofNat 54, Char.ofNat 100, Char.ofNat 50, Char.ofNat 32, Char.ofNat 99, Char.ofNat 117, Char.ofNat 116, Char.ofNat 32, Char.ofNat 97, Char.ofNat 116, Char.ofNat 32, Char.ofNat 101, Char.ofNat 110, Char.ofNat 116, Char.ofNat 114, Char.ofNat 117, Char.ofNat 115, Char.ofNat 116, Char.ofNat 47, Char.ofNat 101, Char.ofNat 110, Char.ofNat 116, Char.ofNat 114, Char.ofNat 117, Char.ofNat 115, Char.ofNat 116, Char.ofNat 108, Char.ofNat 97, Char.ofNat 119, Char.ofNat 49, Char.ofNat 52, Char.ofNat 46, Char.ofNat 87, Char.ofNat 105, Char.ofNat 114, Char.ofNat 101, Char.ofNat 82, Char.ofNat 101, Char.ofNat 113, Char.ofNat 117, Char.ofNat 101, Char.ofNat 115, Char.ofNat 116, Char.ofNat 115, Char.ofNat 32, Char.ofNat 101, Char.ofNat 110, Char.ofNat 116, Char.ofNat 114, Char.ofNat 117, Char.ofNat 115, Char.ofNat 116, Char.ofNat 47, Char.ofNat 101, Char.ofNat 110, Char.ofNat 116, Char.ofNat 114, Char.ofNat 117, Char.ofNat 115, Char.ofNat 116, Char.ofNat 108, Char.ofNat 97, Char.ofNat 119, Char.ofNat 49, Char.ofNat 53, Char.ofNat 46, Char.ofNat 76, Char.ofNat 105, Char.ofNat 110, Char.ofNat 107, Char.ofNat 83, Char.ofNat 101, Char.ofNat 97, Char.ofNat 108, Char.ofNat 115, Char.ofNat 32, Char.ofNat 101, Char.ofNat 110, Char.ofNat 116, Char.ofNat 114, Char.ofNat 117, Char.ofNat 115, Char.ofNat 116, Char.ofNat 47, Char.ofNat 101, Char.ofNat 110, Char.ofNat 116, Char.ofNat 114, Char.ofNat 117, Char.ofNat 115, Char.ofNat 116, Char.ofNat 108, Char.ofNat 97, Char.ofNat 119, Char.ofNat 49, Char.ofNat 53, Char.ofNat 46, Char.ofNat 76, Char.ofNat 105, Char.ofNat 110, Char.ofNat 107, Char.ofNat 83, Char.ofNat 105, Char.ofNat 122, Char.ofNat 101, Char.ofNat 115, Char.ofNat 32, Char.ofNat 101, Char.ofNat 110, Char.ofNat 116, Char.ofNat 114, Char.ofNat 117, Char.ofNat 115, Char.ofNat 116, Char.ofNat 47, Char.ofNat 101, Char.ofNat 110, Char.ofNat 116, Char.ofNat 114, Char.ofNat 117, Char.ofNat 115, Char.ofNat 116, Char.ofNat 108, Char.ofNat 97, Char.ofNat 119, Char.ofNat 49, Char.ofNat 52, Char.ofNat 46, Char.ofNat 87, Char.ofNat 105, Char.ofNat 114, Char.ofNat 101, Char.ofNat 82, Char.ofNat 101, Char.ofNat 112, Char.ofNat 108, Char.ofNat 105, Char.ofNat 101, Char.ofNat 115, Char.ofNat 32, Char.ofNat 101, Char.ofNat 110, Char.ofNat 116, Char.ofNat 114, Char.ofNat 117, Char.ofNat 115, Char.ofNat 116, Char.ofNat 47, Char.ofNat 101, Char.ofNat 110, Char.ofNat 116, Char.ofNat 114, Char.ofNat 117, Char.ofNat 115, Char.ofNat 116, Char.ofNat 108, Char.ofNat 97, Char.ofNat 119, Char.ofNat 49, Char.ofNat 53, Char.ofNat 46, Char.ofNat 76, Char.ofNat 105, Char.ofNat 110, Char.ofNat 107, Char.ofNat 79, Char.ofNat 112, Char.ofNat 101, Char.ofNat 110, Char.ofNat 115, Char.ofNat 32, Char.ofNat 101, Char.ofNat 110, Char.ofNat 116, Char.ofNat 114, Char.ofNat 117, Char.ofNat 115, Char.ofNat 116, Char.ofNat 47, Char.ofNat 101, Char.ofNat 110, Char.ofNat 116, Char.ofNat 114, Char.ofNat 117, Char.ofNat 115, Char.ofNat 116, Char.ofNat 108, Char.ofNat 97, Char.ofNat 119, Char.ofNat 49, Char.ofNat 53, Char.ofNat 46, Char.ofNat 76, Char.ofNat 105, Char.ofNat 110, Char.ofNat 107, Char.ofNat 66, Char.ofNat 97, Char.ofNat 99, Char.ofNat 107, Char.ofNat 32, Char.ofNat 101, Char.ofNat 110, Char.ofNat 116, Char.ofNat 114, Char.ofNat 117, Char.ofNat 115, Char.ofNat 116, Char.ofNat 47, Char.ofNat 101, Char.ofNat 110, Char.ofNat 116, Char.ofNat 114, Char.ofNat 117, Char.ofNat 115, Char.ofNat 116, Char.ofNat 108, Char.ofNat 97, Char.ofNat 119, Char.ofNat 49, Char.ofNat 51, Char.ofNat 46, Char.ofNat 84, Char.ofNat 105, Char.ofNat 99, Char.ofNat 107, Char.ofNat 101, Char.ofNat 116, Char.ofNat 83, Char.ofNat 105, Char.ofNat 103, Char.ofNat 110, Char.ofNat 115, Char.ofNat 32, Char.ofNat 101, Char.ofNat 110, Char.ofNat 116, Char.ofNat 114, Char.ofNat 117, Char.ofNat 115, Char.ofNat 116, Char.ofNat 47, Char.ofNat 101, Char.ofNat 110, Char.ofNat 116, Char.ofNat 114, Char.ofNat 117, Char.ofNat 115, Char.ofNat 116, Char.ofNat 108, Char.ofNat 97, Char.ofNat 119, Char.ofNat 49, Char.ofNat 52, Char.ofNat 46, Char.ofNat 87, Char.ofNat 105, Char.ofNat 114, Char.ofNat 101, Char.ofNat 80, Char.ofNat 97, Char.ofNat 114, Char.ofNat 115, Char.ofNat 101, Char.ofNat 115, Char.ofNat 32, Char.ofNat 101, Char.ofNat 110, Char.ofNat 116, Char.ofNat 114, Char.ofNat 117, Char.ofNat 115, Char.ofNat 116, Char.ofNat 47, Char.ofNat 101, Char.ofNat 110, Char.ofNat 116, Char.ofNat 114, Char.ofNat 117, Char.ofNat 115, Char.ofNat 116, Char.ofNat 108, Char.ofNat 97, Char.ofNat 119, Char.ofNat 49, Char.ofNat 51, Char.ofNat 46, Char.ofNat 84, Char.ofNat 105, Char.ofNat 99, Char.ofNat 107, Char.ofNat 101, Char.ofNat 116, Char.ofNat 80, Char.ofNat 97, Char.ofNat 114, Char.ofNat 115, Char.ofNat 101, Char.ofNat 115, Char.ofNat 32, Char.ofNat 101, Char.ofNat 110, Char.ofNat 116, Char.ofNat 114, Char.ofNat 117, Char.ofNat 115, Char.ofNat 116, Char.ofNat 47, Char.ofNat 101, Char.ofNat 110, Char.ofNat 116, Char.ofNat 114, Char.ofNat 117, Char.ofNat 115, Char.ofNat 116, Char.ofNat 108, Char.ofNat 97, Char.ofNat 119, Char.ofNat 49, Char.ofNat 51, Char.ofNat 46, Char.ofNat 84, Char.ofNat 105, Char.ofNat 99, Char.ofNat 107, Char.ofNat 101, Char.ofNat 116, Char.ofNat 66, Char.ofNat 97, Char.ofNat 99, Char.ofNat 107, Char.ofNat 32, Char.ofNat 101, Char.ofNat 110, Char.ofNat 116, Char.ofNat 114, Char.ofNat 117, Char.ofNat 115, Char.ofNat 116, Char.ofNat 47, Char.ofNat 101, Char.ofNat 110, Char.ofNat 116, Char.ofNat 114, Char.ofNat 117, Char.ofNat 115, Char.ofNat 116, Char.ofNat 108, Char.ofNat 97, Char.ofNat 119, Char.ofNat 49, Char.ofNat 51, Char.ofNat 46, Char.ofNat 84, Char.ofNat 105, Char.ofNat 99, Char.ofNat 107, Char.ofNat 101, Char.ofNat 116, Char.ofNat 79, Char.ofNat 114, Char.ofNat 100, Char.ofNat 101, Char.ofNat 114, Char.ofNat 115, Char.ofNat 32, Char.ofNat 101, Char.ofNat 110, Char.ofNat 116, Char.ofNat 114, Char.ofNat 117, Char.ofNat 115, Char.ofNat 116, Char.ofNat 47, Char.ofNat 101, Char.ofNat 110, Char.ofNat 116, Char.ofNat 114, Char.ofNat 117, Char.ofNat 115, Char.ofNat 116, Char.ofNat 108, Char.ofNat 97, Char.ofNat 119, Char.ofNat 49, Char.ofNat 52, Char.ofNat 46, Char.ofNat 87, Char.ofNat 105, Char.ofNat 114, Char.ofNat 101, Char.ofNat 87, Char.ofNat 111, Char.ofNat 114, Char.ofNat 100, Char.ofNat 115, Char.ofNat 32, Char.ofNat 101, Char.ofNat 110, Char.ofNat 116, Char.ofNat 114, Char.ofNat 117, Char.ofNat 115, Char.ofNat 116, Char.ofNat 47, Char.ofNat 101, Char.ofNat 110, Char.ofNat 116, Char.ofNat 114, Char.ofNat 117, Char.ofNat 115, Char.ofNat 116, Char.ofNat 108, Char.ofNat 97, Char.ofNat 119, Char.ofNat 49, Char.ofNat 52, Char.ofNat 46, Char.ofNat 87, Char.ofNat 105, Char.ofNat 114, Char.ofNat 101, Char.ofNat 66, Char.ofNat 97, Char.ofNat 99, Char.ofNat 107, Char.ofNat 32, Char.ofNat 101, Char.ofNat 110, Char.ofNat 116, Char.ofNat 114, Char.ofNat 117, Char.ofNat 115, Char.ofNat 116, Char.ofNat 47, Char.ofNat 101, Char.ofNat 110, Char.ofNat 116, Char.ofNat 114, Char.ofNat 117, Char.ofNat 115, Char.ofNat 116, Char.ofNat 108, Char.ofNat 97, Char.ofNat 119, Char.ofNat 49, Char.ofNat 51, Char.ofNat 46, Char.ofNat 84, Char.ofNat 105, Char.ofNat 99, Char.ofNat 107, Char.ofNat 101, Char.ofNat 116, Char.ofNat 83, Char.ofNat 101, Char.ofNat 97, Char.ofNat 108, Char.ofNat 115]
theorem headStr : Tryd.prog.initOrder = String.ofList headSigns := by kernel_rfl
theorem headIs : Tryd.prog.initOrder.toList = headSigns := by
 rw [headStr]
 exact String.toList_ofList
def sumSigns : List Char := [Char.ofNat 50, Char.ofNat 100, Char.ofNat 55, Char.ofNat 48, Char.ofNat 102, Char.ofNat 53, Char.ofNat 99, Char.ofNat 56, Char.ofNat 51, Char.ofNat 51, Char.ofNat 98, Char.ofNat 102, Char.ofNat 98, Char.ofNat 55, Char.ofNat 98, Char.ofNat 99, Char.ofNat 56, Char.ofNat 100, Char.ofNat 101, Char.ofNat 50, Char.ofNat 52, Char.ofNat 51, Char.ofNat 50, Char.ofNat 51, Char.ofNat 48, Char.ofNat 101, Char.ofNat 101, Char.ofNat 48, Char.ofNat 52, Char.ofNat 55, Char.ofNat 57, Char.ofNat 55, Char.ofNat 51, Char.ofNat 101, Char.ofNat 57, Char.ofNat 54, Char.ofNat 57, Char.ofNat 51, Char.ofNat 101, Char.ofNat 100, Char.ofNat 101, Char.ofNat 55, Char.ofNat 53, Char.ofNat 51, Char.ofNat 52, Char.ofNat 48, Char.ofNat 54, Char.ofNat 50, Char.ofNat 55, Char.ofNat 99, Char.ofNat 57, Char.ofNat 57, Char.ofNat 52, Char.ofNat 50, Char.ofNat 54, Char.ofNat 50, Char.ofNat 100, Char.ofNat 102, Char.ofNat 102, Char.ofNat 56, Char.ofNat 48, Char.ofNat 54, Char.ofNat 100, Char.ofNat 50]
theorem sumIs : "2d70f5c833bfb7bc8de243230ee047973e9693ede75340627c994262dff806d2".toList = sumSigns := by
 have h : "2d70f5c833bfb7bc8de243230ee047973e9693ede75340627c994262dff806d2" = String.ofList sumSigns := by kernel_rfl
 rw [h]
 exact String.toList_ofList
theorem head_cons {α : Type} {l : List α} {x : α} (h : l.head? = some x) : ∃ r, l = x :: r := by cases l <;> simp_all
theorem make_cut {P : Program} {r : List (List Char)} (h : behindMainWord (wordsSigns P.initOrder.toList) = "cut".toList :: r) : P.make = some .cut := by
 unfold Program.make
 rw [h]
 rfl
theorem headLifts_cut {P : Program} (h : (stripLifts liftWords (behindMainWord (wordsSigns P.initOrder.toList))).1 = []) : P.headLifts = [] := by
 unfold Program.headLifts
 simp only [h]
 split <;> rfl
theorem lifts_cut {P : Program} {r : List (List Char)} (h : behindMainWord (wordsSigns P.initOrder.toList) = "cut".toList :: r) (h1 : P.headLifts = []) : P.liftsFinal = false := by
 unfold Program.liftsFinal
 rw [h, h1]
 rfl
theorem mayEnter_cut {P : Program} {r : List (List Char)} (h : behindMainWord (wordsSigns P.initOrder.toList) = "cut".toList :: r) (h1 : P.laysLater = false) (h2 : P.bearsReflect = false)
  (h3 : (stripLifts liftWords (behindMainWord (wordsSigns P.initOrder.toList))).1 = []) (h4 : (stripLifts liftWords (behindMainWord (wordsSigns P.initOrder.toList))).2.head? = some "cut".toList) (h5 : P.doorFits [] = true) : P.mayEnter = true := by
 unfold Program.mayEnter
 rw [h] at h3 h4 ⊢
 simp only [h1, h2, h3, h4, h5]
 simp
theorem main_cut {P : Program} {s : List Char} {r : List (List Char)} (h : wordsSigns P.initOrder.toList = "harness".toList :: s :: r) (hs : isSumSigns s = true) : P.mainIs = some (true, s) := by
 unfold Program.mainIs
 rw [h]
 simp [hs]
theorem hHead : (behindMainWord (wordsSigns Tryd.prog.initOrder.toList)).head? = some "cut".toList := by
 rw [headIs]
 kernel_rfl
theorem hStrip : (stripLifts liftWords (behindMainWord (wordsSigns Tryd.prog.initOrder.toList))).1 = [] := by
 rw [headIs]
 kernel_rfl
theorem hStrip2 : (stripLifts liftWords (behindMainWord (wordsSigns Tryd.prog.initOrder.toList))).2.head? = some "cut".toList := by
 rw [headIs]
 kernel_rfl
theorem hMain : wordsSigns Tryd.prog.initOrder.toList = "harness".toList :: sumSigns :: (wordsSigns headSigns).drop 2 := by
 rw [headIs]
 kernel_rfl
theorem hSum : isSumSigns sumSigns = true := by kernel_rfl
theorem hLater : Tryd.prog.laysLater = false := by kernel_rfl
theorem hReflect : Tryd.prog.bearsReflect = false := by kernel_rfl
theorem hDoor : Tryd.prog.doorFits [] = true := by kernel_rfl
theorem kMayEnter : Tryd.prog.mayEnter = true := by
 obtain ⟨r, h⟩ := head_cons hHead
 exact mayEnter_cut h hLater hReflect hStrip hStrip2 hDoor
theorem kLifts : Tryd.prog.liftsFinal = false := by
 obtain ⟨r, h⟩ := head_cons hHead
 exact lifts_cut h (headLifts_cut hStrip)
theorem kMake : Tryd.prog.make = some .cut := by
 obtain ⟨r, h⟩ := head_cons hHead
 exact make_cut h
theorem kMainIs : Tryd.prog.mainIs = some (true, "2d70f5c833bfb7bc8de243230ee047973e9693ede75340627c994262dff806d2".toList) := by
 rw [sumIs]
 exact main_cut hMain hSum
theorem kLaidOut : (laidOutB Tryd.prog) = true := by kernel_rfl
theorem kRowed : mapsRowed Tryd.prog = true := by kernel_rfl
theorem kStops : (Tryd.prog.stops == []) = true := by kernel_rfl
theorem kKnobs : (Tryd.prog.stopKnobs == []) = true := by kernel_rfl
theorem kHeard : Tryd.prog.stopsHeard = true := by kernel_rfl
theorem kLooks : true = Tryd.prog.looks [] := by kernel_rfl
end Go.Proofs.YtkdpdgpphpngeaaDoor
