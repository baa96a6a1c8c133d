import Derived.Test.YtkdpdgpphpngeaaDoorPkTB3
set_option linter.unusedVariables false
set_option linter.unusedSimpArgs false
set_option maxRecDepth 100000
namespace Go.Proofs.YtkdpdgpphpngeaaDoor
open Go Go.Sx
attribute [local irreducible] mid zr8 zr32 rotr wordL spreadL comprL cpN adN spN wrdN constL initL padL stN outN routN hashL sumG blkL xbN raN macL orN
theorem block_c (ao : Option Addr) (n cb : Nat) (b : List UInt8) (w : World) (hb : b.length = n) (hcb : ao = none → cb = 0) (hn : n ≤ 17592186044416) (hr : RdB w [] ao b) (hG : GLs w) : Calls Tryd.prog 171 #[.slice ao n cb] w (Post w [] (fun v L => v = .agg (cu8 (blkL b)).toArray ∧ L = [])) := by
 refine enter w [] 15 [] [.slice ao n cb] Tryd.func171 rfl rfl (by simp) (BZ (by simp) (by simp) (by simp)) ?_
 show JC _ _ _ [(0, .slice ao n cb)] _
 refine AI (AD (A1 (BG _ (cu8 (zr8 64)) Tryd.zeroValue262 (by kernel_rfl)) rfl ?_))
 rintro v1 L1 ⟨nb1, hnb1, rfl, rfl⟩
 show JL _ _ _ _ ((2, Ptr nb1 0) :: _) [⟨nb1, cu8 (zr8 64), 262, (0, 0)⟩]
 refine AN (AE (AI (AD (A1 (BG _ (cu8 (zr8 64)) Tryd.zeroValue262 (by kernel_rfl)) rfl ?_))))
 rintro v1 L1 ⟨nb2, hnb2, rfl, rfl⟩
 show JL _ _ _ _ ((3, Ptr nb2 0) :: _) [_, ⟨nb2, cu8 (zr8 64), 262, (0, 0)⟩]
 refine AN (AE (AI (AI (AD (AA _ (AH rfl) rfl ?_)))))
 refine AA (I64 n) (EL AM rfl) rfl ?_
 refine AA (.bool (decide ((64:Int) < ((n:Int))))) (AR rfl rfl fun _ => FL _ _) rfl ?_
 refine AN (AE (CY (decide ((64:Int) < ((n:Int)))) rfl (fun hb1 => ?_) (fun hb1 => ?_)))
 ·
  have hp1 : (64:Int) < ((n:Int)) := of_decide_eq_true hb1
  refine AI (AD (AA _ (AH rfl) rfl ?_))
  refine A7 (A3 177 [.slice ao n cb] (.agg (cu8 (sumG constL initL b)).toArray) (AY _ Tryd.call177 rfl) (fun w1 hw1 => sum_c ao n cb b w1 hb hcb (by omega) (hr.at (M' := []) hw1 (by simp)) (hG.at hw1))) rfl ?_
  show JL _ _ _ _ ((9, .agg (cu8 (sumG constL initL b)).toArray) :: _) [_, _]
  refine A1 (BG _ (cu8 (zr8 32)) DQ (by kernel_rfl)) rfl ?_
  rintro v1 L1 ⟨nb3, hnb3, rfl, rfl⟩
  show JL _ _ _ _ ((4, Ptr nb3 0) :: _) [_, _, ⟨nb3, cu8 (zr8 32), 54, (0, 0)⟩]
  refine A7 (A5 2 nb3 32 (cu8 (zr8 32)) 54 (cu8 (sumG constL initL b)) rfl rfl rfl B1 (CM (DY _ _ _)) (by first | exact CD | exact D3 | exact D1 | (simp [cu8, cu32, cu64, Value.oneCell']; done)) (by simp [(AP 32)]) (BC (by simp [(AP 32), (DY _ _ _)]))) rfl ?_
  show JL _ _ _ _ _ [_, _, ⟨nb3, cu8 (sumG constL initL b), 54, (0, 0)⟩]
  refine AN (AE (AD (AA (Slc nb3 0 32 32) (B3 32 5 1 0 32 0 32 B9 AW rfl rfl rfl (by omega) (by omega) (by omega) (by omega) (by omega) 32 (by omega)) rfl ?_)))
  refine AA _ (AG rfl) rfl ?_
  refine AN (AE (AI (AD (AA (Slc nb2 0 64 64) (B3 64 5 1 0 64 0 64 Tryd.underlying262 AW rfl rfl rfl (by omega) (by omega) (by omega) (by omega) (by omega) 64 (by omega)) rfl ?_))))
  refine AA _ (AH rfl) rfl ?_
  have hl1 : (spl (zr8 64) 0 (sumG constL initL b)).length = 64 := by rw [spl_len (by simp [(AP 64), (DY _ _ _)])]; simp [(AP 64), (DY _ _ _)]
  refine A7 (EW 43 43 5 1 nb2 0 64 64 (cu8 (zr8 64)) 262 (some ⟨nb3, 0, none⟩) 32 32 32 (cu8 (sumG constL initL b)) (cu8 (spl (zr8 64) 0 (sumG constL initL b))) AM DZ rfl rfl rfl (Nat.min_eq_left (by omega)) (by simp [(DY _ _ _)]; try omega) (SrcAt.mem (AS 2 rfl (AL _))) (by simp [(AP 64)]; try omega) (by first | exact CD | exact D3 | exact D1 | (simp [cu8, cu32, cu64, Value.oneCell']; done)) (laySpl8 _ _ _ (by simp [(AP 64), (DY _ _ _)]))) rfl ?_
  show JL _ _ _ _ ((13, I64 32) :: _) [_, ⟨nb2, cu8 (spl (zr8 64) 0 (sumG constL initL b)), 262, (0, 0)⟩, _]
  refine AN (AE (AI (AD (AA (.agg (cu8 (spl (zr8 64) 0 (sumG constL initL b))).toArray) (AK rfl (BH Tryd.isAgg262 ET (CM hl1) (AS 1 rfl (AL _)))) rfl ?_))))
  refine A7 (A5 0 nb1 64 (cu8 (zr8 64)) 262 (cu8 (spl (zr8 64) 0 (sumG constL initL b))) rfl rfl rfl ET (CM hl1) (by first | exact CD | exact D3 | exact D1 | (simp [cu8, cu32, cu64, Value.oneCell']; done)) (by simp [(AP 64)]) (BC (by simp [(AP 64), hl1]))) rfl ?_
  show JL _ _ _ _ _ [⟨nb1, cu8 (spl (zr8 64) 0 (sumG constL initL b)), 262, (0, 0)⟩, _, _]
  refine AN (AE (BP (BQ (.agg (cu8 (spl (zr8 64) 0 (sumG constL initL b))).toArray) (res1 Tryd.results171 (DU rfl (BH Tryd.isAgg262 ET (CM hl1) (AS 0 rfl (AL _))))) fun w1 hw1 => ?_)))
  refine ⟨_, [], rfl, ⟨?_, rfl⟩, hw1.sub (by simp) (by simp)⟩
  first | (rw [blkL, if_pos (by omega)]; done) | (rw [blkL, if_neg (by omega)]; done)
 ·
  have hp1 : ¬ ((64:Int) < ((n:Int))) := of_decide_eq_false hb1
  refine BT (AE (AI (AD (AA (Slc nb2 0 64 64) (B3 64 5 1 0 64 0 64 Tryd.underlying262 AW rfl rfl rfl (by omega) (by omega) (by omega) (by omega) (by omega) 64 (by omega)) rfl ?_))))
  refine AA _ (AH rfl) rfl ?_
  have hl2 : (spl (zr8 64) 0 b).length = 64 := (spl_len (by rw [hb, (AP 64)]; omega)).trans (AP 64)
  refine A7 (EW 43 43 5 1 nb2 0 64 64 (cu8 (zr8 64)) 262 ao n cb n (cu8 b) (cu8 (spl (zr8 64) 0 b)) AM DZ rfl rfl rfl (Nat.min_eq_left (by omega)) (by simp [hb]; try omega) (hr.src) (by simp [(AP 64)]; try omega) (by first | exact CD | exact D3 | exact D1 | (simp [cu8, cu32, cu64, Value.oneCell']; done)) (laySpl8 _ _ _ (by rw [hb, (AP 64)]; omega))) rfl ?_
  show JL _ _ _ _ ((13, I64 n) :: _) [_, ⟨nb2, cu8 (spl (zr8 64) 0 b), 262, (0, 0)⟩]
  refine AN (AE (AI (AD (AA (.agg (cu8 (spl (zr8 64) 0 b)).toArray) (AK rfl (BH Tryd.isAgg262 ET (CM hl2) (AS 1 rfl (AL _)))) rfl ?_))))
  refine A7 (A5 0 nb1 64 (cu8 (zr8 64)) 262 (cu8 (spl (zr8 64) 0 b)) rfl rfl rfl ET (CM hl2) (by first | exact CD | exact D3 | exact D1 | (simp [cu8, cu32, cu64, Value.oneCell']; done)) (by simp [(AP 64)]) (BC (by simp [(AP 64), hl2]))) rfl ?_
  show JL _ _ _ _ _ [⟨nb1, cu8 (spl (zr8 64) 0 b), 262, (0, 0)⟩, _]
  refine AN (AE (BP (BQ (.agg (cu8 (spl (zr8 64) 0 b)).toArray) (res1 Tryd.results171 (DU rfl (BH Tryd.isAgg262 ET (CM hl2) (AS 0 rfl (AL _))))) fun w1 hw1 => ?_)))
  refine ⟨_, [], rfl, ⟨?_, rfl⟩, hw1.sub (by simp) (by simp)⟩
  first | (rw [blkL, if_pos (by omega)]; done) | (rw [blkL, if_neg (by omega)]; done)
theorem with_c (b : List UInt8) (x : UInt8) (w : World) (hb : b.length = 64) : Calls Tryd.prog 173 #[.agg (cu8 b).toArray, U8 x] w (Post w [] (fun v L => ∃ g T, v = Slc g 0 64 64 ∧ L = [⟨g, cu8 (xbN b x 64), T, (0, 0)⟩])) := by
 refine enter w [] 17 [] [.agg (cu8 b).toArray, U8 x] Tryd.func173 rfl rfl (by simp) (BZ (by simp) (by simp) (by simp)) ?_
 show JC _ _ _ [(0, .agg (cu8 b).toArray), (1, U8 x)] _
 refine AI (AD (A1 (CW (.agg (cu8 b).toArray) (cu8 b) rfl (by first | rfl | simp)) rfl ?_))
 rintro v1 L1 ⟨nb1, hnb1, rfl, rfl⟩
 show JL _ _ _ _ ((2, Ptr nb1 0) :: _) [⟨nb1, cu8 b, 262, (0, 0)⟩]
 refine AA _ (AG rfl) rfl ?_
 refine AN (AE (AI (AI (AD (AA _ (AH rfl) rfl ?_)))))
 refine AN (AE (BY (EE (ι := Nat × List UInt8) (fun ⟨k, o⟩ => [(1, U8 x), (2, Ptr nb1 0), (4, .slice none 0 0), (6, I64 k)]) (fun ⟨k, o⟩ => [⟨nb1, cu8 o, 262, (0, 0)⟩]) (fun ⟨k, o⟩ => k ≤ 64 ∧ o = xbN b x k ∧ o.length = 64) (fun ⟨k, o⟩ => 64 - k) (0, b) ⟨by omega, by rw [xbN], hb⟩ (Sub.all rfl) rfl ?_)))
 rintro ⟨k, o⟩ ⟨hx1, hx2, ho⟩
 show JC _ _ _ [(1, U8 x), (2, Ptr nb1 0), (4, .slice none 0 0), (6, I64 k)] [⟨nb1, cu8 o, 262, (0, 0)⟩]
 refine AI (AD (AA (.bool (decide (((k:Int)) < (64:Int)))) (AR rfl rfl fun _ => CS _ _) rfl ?_))
 refine AN (AE (AI (CY (decide (((k:Int)) < (64:Int))) rfl (fun hb1 => ?_) (fun hb1 => ?_))))
 ·
  have hp1 : ((k:Int)) < (64:Int) := of_decide_eq_true hb1
  refine BT (AE (AI (BY (AI (AD (AA _ (AH rfl) rfl ?_))))))
  refine AA _ (AG rfl) rfl ?_
  refine AN (AE (AD (AA _ (AH rfl) rfl ?_)))
  refine AA (Ptr nb1 k) (BR 64 5 1 k Tryd.underlying262 AW rfl rfl (by omega) (by omega) (by omega)) rfl ?_
  refine AA (U8 (g8 o k)) (AK rfl (AV D4 (AS 0 rfl (Seg.get (GE (i := k) (by rw [ho]; omega)))))) rfl ?_
  refine AA _ (AH rfl) rfl ?_
  refine AA (U8 ((g8 o k) ^^^ x)) (AR rfl rfl fun _ => FZ (g8 o k) x) rfl ?_
  refine AA (Ptr nb1 k) (BR 64 5 1 k Tryd.underlying262 AW rfl rfl (by omega) (by omega) (by omega)) rfl ?_
  have hl1 : (o.set k ((g8 o k) ^^^ x)).length = 64 := by first | (rw [List.length_set]; exact ho) | simp [ho]
  refine A7 (DT 0 nb1 k 1 (cu8 o) 262 (U8 ((g8 o k) ^^^ x)) ([U8 ((g8 o k) ^^^ x)]) (cu8 (o.set k ((g8 o k) ^^^ x))) rfl rfl rfl rfl AW rfl (by simp [Value.oneCell']) (by simp [ho]; try omega) (lay8 _ _ _ (by rw [ho]; omega))) rfl ?_
  show JL _ _ _ _ _ [⟨nb1, cu8 (o.set k ((g8 o k) ^^^ x)), 262, (0, 0)⟩]
  refine AN (BO (AE (AD (AA (I64 ((k:Int) + 1)) (AR rfl rfl fun _ => DF _ _ ((k:Int) + 1) (by omega) (by omega)) rfl ?_))))
  refine AA _ (AH rfl) rfl ?_
  refine AN (DH (EP (k + 1, o.set k ((g8 o k) ^^^ x)) ⟨by omega, by rw [xbN, ← hx2], hl1⟩ (by first | (simp; omega) | simp | (dsimp only; omega) | omega) (Sub.all rfl) rfl))
 ·
  have hp1 : ¬ (((k:Int)) < (64:Int)) := of_decide_eq_false hb1
  refine D8 (BB (BB (CV (AE (AI (AD (AA (Slc nb1 0 64 64) (B3 64 5 1 0 64 0 64 Tryd.underlying262 AW rfl rfl rfl (by omega) (by omega) (by omega) (by omega) (by omega) 64 (by omega)) rfl ?_)))))))
  refine AA _ (AG rfl) rfl ?_
  refine AN (AE (BP (BQ (Slc nb1 0 64 64) (res1 Tryd.results173 (B2 rfl)) fun w1 hw1 => ?_)))
  have e1 : k = 64 := by omega
  subst e1
  rw [hx2] at hw1
  exact ⟨_, _, rfl, ⟨nb1, 262, rfl, rfl⟩, hw1.sub (by simp) (by simp)⟩
theorem mac_c (ao : Option Addr) (n cb : Nat) (key : List UInt8) (b c : Nat) (vs : List Value) (ls : List (List UInt8)) (w : World) (hb : key.length = n) (hcb : ao = none → cb = 0) (hn : n ≤ 17592186044416) (hr : RdB w [] ao key) (hk : 1 ≤ ls.length) (hc : ls.length ≤ c) (hk2 : ls.length ≤ 1000) (hp : Parts w b vs ls) (hs : ls.flatten.length ≤ 100000000) (hG : GLs w) : Calls Tryd.prog 145 #[.slice ao n cb, .slice (some ⟨b, 0, none⟩) ls.length c] w (Post w [] (fun v L => v = .agg (cu8 (macL key ls.flatten)).toArray ∧ L = [])) := by
 refine enter w [] 20 [] [.slice ao n cb, .slice (some ⟨b, 0, none⟩) ls.length c] Tryd.func145 rfl rfl (by simp) (BZ (by simp) (by simp) (by simp)) ?_
 show JC _ _ _ [(0, .slice ao n cb), (1, .slice (some ⟨b, 0, none⟩) ls.length c)] _
 refine AI (AD (A1 (BG _ (cu8 (zr8 32)) DQ (by kernel_rfl)) rfl ?_))
 rintro v1 L1 ⟨nb1, hnb1, rfl, rfl⟩
 show JL _ _ _ _ ((4, Ptr nb1 0) :: _) [⟨nb1, cu8 (zr8 32), 54, (0, 0)⟩]
 refine AN (AE (AI (AD (AA _ (AH rfl) rfl ?_))))
 refine A7 (A3 171 [.slice ao n cb] (.agg (cu8 (blkL key)).toArray) (AY _ Tryd.call171 rfl) (fun w1 hw1 => block_c ao n cb key w1 hb hcb (by omega) (hr.at (M' := []) hw1 (by simp)) (hG.at hw1))) rfl ?_
 show JL _ _ _ _ ((8, .agg (cu8 (blkL key)).toArray) :: _) [_]
 refine A1 (BG _ (cu8 (zr8 64)) Tryd.zeroValue262 (by kernel_rfl)) rfl ?_
 rintro v1 L1 ⟨nb2, hnb2, rfl, rfl⟩
 show JL _ _ _ _ ((5, Ptr nb2 0) :: _) [_, ⟨nb2, cu8 (zr8 64), 262, (0, 0)⟩]
 refine A7 (A5 1 nb2 64 (cu8 (zr8 64)) 262 (cu8 (blkL key)) rfl rfl rfl ET (CM (E4 _)) (by first | exact CD | exact D3 | exact D1 | (simp [cu8, cu32, cu64, Value.oneCell']; done)) (by simp [(AP 64)]) (BC (by simp [(AP 64), (E4 _)]))) rfl ?_
 show JL _ _ _ _ _ [_, ⟨nb2, cu8 (blkL key), 262, (0, 0)⟩]
 refine AN (AE (AI (AD (AA (.agg (cu8 (blkL key)).toArray) (AK rfl (BH Tryd.isAgg262 ET (CM (E4 _)) (AS 1 rfl (AL _)))) rfl ?_))))
 refine A1 (BI 173 [.agg (cu8 (blkL key)).toArray, U8 54] _ (AY _ Tryd.call173 rfl) (fun w1 hw1 => with_c (blkL key) (54:UInt8) w1 (E4 _))) rfl ?_
 rintro v1 L1 ⟨_, ⟨nb3, tw1, rfl, rfl⟩, rfl⟩
 show JL _ _ _ _ ((10, Slc nb3 0 64 64) :: _) [_, _, ⟨nb3, cu8 (xbN (blkL key) (54:UInt8) 64), tw1, (0, 0)⟩]
 refine AA _ (AH rfl) rfl ?_
 refine A1 (BI 174 [.slice (some ⟨b, 0, none⟩) ls.length c, .slice none 0 0] _ (AY _ Tryd.call174 rfl) (fun w1 hw1 => join_c b c vs ls w1 hk hc hk2 (hp.at hw1 rfl (by omega)) (by omega))) rfl ?_
 rintro v1 L1 ⟨_, (⟨he1, ao1, ca1, rfl, rfl, hn1⟩ | ⟨hp1, nb4, sp1, cp1, tj1, fj1, rfl, rfl, hl1, hm1⟩), rfl⟩
 ·
  show JL _ _ _ _ ((12, .slice ao1 0 ca1) :: _) [_, _, _]
  refine A1 (B0 43 1 _ [(0, Slc nb3 0 64 64), (1, .slice ao1 0 ca1)] ([Slc nb3 0 64 64, .slice ao1 0 ca1]) ER B7 Tryd.zeroValue43 rfl rfl rfl (by kernel_rfl)) rfl ?_
  rintro v1 L1 ⟨nb5, hnb5, rfl, rfl⟩
  show JL _ _ _ _ ((13, Slc nb5 0 2 2) :: _) [_, _, _, ⟨nb5, [Slc nb3 0 64 64, .slice ao1 0 ca1], 43, (0, 0)⟩]
  refine A7 (A3 172 [Slc nb5 0 2 2] (.agg (cu8 (sumG constL initL ([xbN (blkL key) (54:UInt8) 64, ([] : List UInt8)].flatten))).toArray) (AY _ Tryd.call172 rfl) (fun w1 hw1 => of_c nb5 2 [Slc nb3 0 64 64, .slice ao1 0 ca1] [xbN (blkL key) (54:UInt8) 64, ([] : List UInt8)] w1 (by simp) (by simp) (by simp) ⟨RdA.of hw1 (AS 3 rfl (AL _)) (by simp), ⟨⟨(some ⟨nb3, 0, none⟩), 64, congrArg (fun n => Value.slice (some ⟨nb3, 0, none⟩) n 64) ((xbN_len64 _ 64 (E4 _))).symm, (RdB.of hw1 (AS 2 rfl (AL _)) (by simp))⟩, ⟨⟨ao1, ca1, congrArg (fun n => Value.slice ao1 n ca1) (rfl).symm, RdB.nil⟩, trivial⟩⟩⟩ (by simp only [List.flatten_cons, List.flatten_nil, List.length_append, List.length_nil, (xbN_len64 _ 64 (E4 _))]; omega) (hG.at hw1))) rfl ?_
  show JL _ _ _ _ ((14, .agg (cu8 (sumG constL initL ([xbN (blkL key) (54:UInt8) 64, ([] : List UInt8)].flatten))).toArray) :: _) [_, _, _, _]
  refine A1 (BG _ (cu8 (zr8 32)) DQ (by kernel_rfl)) rfl ?_
  rintro v1 L1 ⟨nb6, hnb6, rfl, rfl⟩
  show JL _ _ _ _ ((6, Ptr nb6 0) :: _) [_, _, _, _, ⟨nb6, cu8 (zr8 32), 54, (0, 0)⟩]
  refine A7 (A5 4 nb6 32 (cu8 (zr8 32)) 54 (cu8 (sumG constL initL ([xbN (blkL key) (54:UInt8) 64, ([] : List UInt8)].flatten))) rfl rfl rfl B1 (CM (DY _ _ _)) (by first | exact CD | exact D3 | exact D1 | (simp [cu8, cu32, cu64, Value.oneCell']; done)) (by simp [(AP 32)]) (BC (by simp [(AP 32), (DY _ _ _)]))) rfl ?_
  show JL _ _ _ _ _ [_, _, _, _, ⟨nb6, cu8 (sumG constL initL ([xbN (blkL key) (54:UInt8) 64, ([] : List UInt8)].flatten)), 54, (0, 0)⟩]
  refine AN (AE (AI (C1 20 5 [(0, .agg (cu8 (blkL key)).toArray), (2, Slc nb6 0 32 32)] BV rfl (by decide +kernel) ?_)))
  refine CR ⟨[], [0, 2], [], [0, 2], [1]⟩ 1 _ rfl rfl (by decide +kernel) rfl ⟨⟨_, rfl, AC rfl (AK rfl (BH Tryd.isAgg262 ET (CM (E4 _)) (AS 1 rfl (AL _))))⟩, ⟨_, rfl, AC rfl (B3 32 5 1 0 32 0 32 B9 AW rfl rfl rfl (by omega) (by omega) (by omega) (by omega) (by omega) 32 (by omega))⟩, trivial⟩ rfl (AZ rfl (BI 173 [.agg (cu8 (blkL key)).toArray, U8 92] _ (AY _ Tryd.call173 rfl) (fun w1 hw1 => with_c (blkL key) (92:UInt8) w1 (E4 _)))) ?_
  rintro v1 L1 ⟨_, ⟨nb7, tw2, rfl, rfl⟩, rfl⟩
  refine ⟨[], ?_⟩
  show DP _ _ _ _ _ _ _ _ [_, _, _, _, _, ⟨nb7, cu8 (xbN (blkL key) (92:UInt8) 64), tw2, (0, 0)⟩]
  refine CR ⟨[1], [0, 2], [0], [2], [3]⟩ 3 _ rfl rfl (by decide +kernel) rfl ⟨⟨_, rfl, AC rfl (B3 32 5 1 0 32 0 32 B9 AW rfl rfl rfl (by omega) (by omega) (by omega) (by omega) (by omega) 32 (by omega))⟩, trivial⟩ rfl (AZ rfl (B0 43 1 _ [(0, Slc nb7 0 64 64), (1, Slc nb6 0 32 32)] ([Slc nb7 0 64 64, Slc nb6 0 32 32]) ER B7 Tryd.zeroValue43 rfl rfl rfl (by kernel_rfl))) ?_
  rintro v1 L1 ⟨nb8, hnb8, rfl, rfl⟩
  refine ⟨[], ?_⟩
  show DP _ _ _ _ _ _ _ _ [_, _, _, _, _, _, ⟨nb8, [Slc nb7 0 64 64, Slc nb6 0 32 32], 43, (0, 0)⟩]
  refine CQ ⟨[1, 3], [0, 2], [0, 2], [], [4]⟩ 4 rfl rfl (by decide +kernel) rfl trivial rfl (AZ rfl (A3 172 [Slc nb8 0 2 2] (.agg (cu8 (sumG constL initL ([xbN (blkL key) (92:UInt8) 64, sumG constL initL ([xbN (blkL key) (54:UInt8) 64, ([] : List UInt8)].flatten)].flatten))).toArray) (AY _ Tryd.call172 rfl) (fun w1 hw1 => of_c nb8 2 [Slc nb7 0 64 64, Slc nb6 0 32 32] [xbN (blkL key) (92:UInt8) 64, sumG constL initL ([xbN (blkL key) (54:UInt8) 64, ([] : List UInt8)].flatten)] w1 (by simp) (by simp) (by simp) ⟨RdA.of hw1 (AS 6 rfl (AL _)) (by simp), ⟨⟨(some ⟨nb7, 0, none⟩), 64, congrArg (fun n => Value.slice (some ⟨nb7, 0, none⟩) n 64) ((xbN_len64 _ 64 (E4 _))).symm, (RdB.of hw1 (AS 5 rfl (AL _)) (by simp))⟩, ⟨⟨(some ⟨nb6, 0, none⟩), 32, congrArg (fun n => Value.slice (some ⟨nb6, 0, none⟩) n 32) ((DY _ _ _)).symm, (RdB.of hw1 (AS 4 rfl (AL _)) (by simp))⟩, trivial⟩⟩⟩ (by simp only [List.flatten_cons, List.flatten_nil, List.length_append, List.length_nil, (xbN_len64 _ 64 (E4 _)), (DY _ _ _)]; omega) (hG.at hw1)))) ?_
  show DP _ _ _ _ _ _ _ _ [_, _, _, _, _, _, _]
  refine CQ ⟨[1, 3, 4], [0, 2], [0, 2], [], [5]⟩ 5 rfl rfl (by decide +kernel) rfl trivial rfl (AZ rfl (A5 0 nb1 32 (cu8 (zr8 32)) 54 (cu8 (sumG constL initL ([xbN (blkL key) (92:UInt8) 64, sumG constL initL ([xbN (blkL key) (54:UInt8) 64, ([] : List UInt8)].flatten)].flatten))) rfl rfl rfl B1 (CM (DY _ _ _)) (by first | exact CD | exact D3 | exact D1 | (simp [cu8, cu32, cu64, Value.oneCell']; done)) (by simp [(AP 32)]) (BC (by simp [(AP 32), (DY _ _ _)])))) ?_
  show DP _ _ _ _ _ _ _ _ [⟨nb1, cu8 (sumG constL initL ([xbN (blkL key) (92:UInt8) 64, sumG constL initL ([xbN (blkL key) (54:UInt8) 64, ([] : List UInt8)].flatten)].flatten)), 54, (0, 0)⟩, _, _, _, _, _, _]
  refine C4 ⟨[1, 3, 4, 5], [0, 2], [0, 2], [], []⟩ rfl rfl (by decide +kernel) rfl trivial ?_
  refine CI (F' := [(4, Ptr nb1 0)]) (by kernel_rfl) ?_
  refine AE (BP (BQ (.agg (cu8 (sumG constL initL ([xbN (blkL key) (92:UInt8) 64, sumG constL initL ([xbN (blkL key) (54:UInt8) 64, ([] : List UInt8)].flatten)].flatten))).toArray) (res1 Tryd.results145 (DU rfl (BH DE B1 (CM (DY _ _ _)) (AS 0 rfl (AL _))))) fun w1 hw1 => ?_))
  refine ⟨_, [], rfl, ⟨?_, rfl⟩, hw1.sub (by simp) (by simp)⟩
  rw [macL]
  first | (simp; done) | (rw [he1]; simp; done)
 ·
  show JL _ _ _ _ ((12, Slc nb4 0 ls.flatten.length cp1) :: _) [_, _, _, ⟨nb4, cu8 ls.flatten ++ sp1, tj1, fj1⟩]
  refine A1 (B0 43 1 _ [(0, Slc nb3 0 64 64), (1, Slc nb4 0 ls.flatten.length cp1)] ([Slc nb3 0 64 64, Slc nb4 0 ls.flatten.length cp1]) ER B7 Tryd.zeroValue43 rfl rfl rfl (by kernel_rfl)) rfl ?_
  rintro v1 L1 ⟨nb9, hnb9, rfl, rfl⟩
  show JL _ _ _ _ ((13, Slc nb9 0 2 2) :: _) [_, _, _, _, ⟨nb9, [Slc nb3 0 64 64, Slc nb4 0 ls.flatten.length cp1], 43, (0, 0)⟩]
  refine A7 (A3 172 [Slc nb9 0 2 2] (.agg (cu8 (sumG constL initL ([xbN (blkL key) (54:UInt8) 64, ls.flatten].flatten))).toArray) (AY _ Tryd.call172 rfl) (fun w1 hw1 => of_c nb9 2 [Slc nb3 0 64 64, Slc nb4 0 ls.flatten.length cp1] [xbN (blkL key) (54:UInt8) 64, ls.flatten] w1 (by simp) (by simp) (by simp) ⟨RdA.of hw1 (AS 4 rfl (AL _)) (by simp), ⟨⟨(some ⟨nb3, 0, none⟩), 64, congrArg (fun n => Value.slice (some ⟨nb3, 0, none⟩) n 64) ((xbN_len64 _ 64 (E4 _))).symm, (RdB.of hw1 (AS 2 rfl (AL _)) (by simp))⟩, ⟨⟨(some ⟨nb4, 0, none⟩), cp1, congrArg (fun n => Value.slice (some ⟨nb4, 0, none⟩) n cp1) ((rfl : ls.flatten.length = _)).symm, (RdB.of hw1 (AS 3 rfl (A4 (AL _))) (by simp))⟩, trivial⟩⟩⟩ (by simp only [List.flatten_cons, List.flatten_nil, List.length_append, List.length_nil, (xbN_len64 _ 64 (E4 _))]; omega) (hG.at hw1))) rfl ?_
  show JL _ _ _ _ ((14, .agg (cu8 (sumG constL initL ([xbN (blkL key) (54:UInt8) 64, ls.flatten].flatten))).toArray) :: _) [_, _, _, _, _]
  refine A1 (BG _ (cu8 (zr8 32)) DQ (by kernel_rfl)) rfl ?_
  rintro v1 L1 ⟨nb10, hnb10, rfl, rfl⟩
  show JL _ _ _ _ ((6, Ptr nb10 0) :: _) [_, _, _, _, _, ⟨nb10, cu8 (zr8 32), 54, (0, 0)⟩]
  refine A7 (A5 5 nb10 32 (cu8 (zr8 32)) 54 (cu8 (sumG constL initL ([xbN (blkL key) (54:UInt8) 64, ls.flatten].flatten))) rfl rfl rfl B1 (CM (DY _ _ _)) (by first | exact CD | exact D3 | exact D1 | (simp [cu8, cu32, cu64, Value.oneCell']; done)) (by simp [(AP 32)]) (BC (by simp [(AP 32), (DY _ _ _)]))) rfl ?_
  show JL _ _ _ _ _ [_, _, _, _, _, ⟨nb10, cu8 (sumG constL initL ([xbN (blkL key) (54:UInt8) 64, ls.flatten].flatten)), 54, (0, 0)⟩]
  refine AN (AE (AI (C1 20 5 [(0, .agg (cu8 (blkL key)).toArray), (2, Slc nb10 0 32 32)] BV rfl (by decide +kernel) ?_)))
  refine CR ⟨[], [0, 2], [], [0, 2], [1]⟩ 1 _ rfl rfl (by decide +kernel) rfl ⟨⟨_, rfl, AC rfl (AK rfl (BH Tryd.isAgg262 ET (CM (E4 _)) (AS 1 rfl (AL _))))⟩, ⟨_, rfl, AC rfl (B3 32 5 1 0 32 0 32 B9 AW rfl rfl rfl (by omega) (by omega) (by omega) (by omega) (by omega) 32 (by omega))⟩, trivial⟩ rfl (AZ rfl (BI 173 [.agg (cu8 (blkL key)).toArray, U8 92] _ (AY _ Tryd.call173 rfl) (fun w1 hw1 => with_c (blkL key) (92:UInt8) w1 (E4 _)))) ?_
  rintro v1 L1 ⟨_, ⟨nb11, tw3, rfl, rfl⟩, rfl⟩
  refine ⟨[], ?_⟩
  show DP _ _ _ _ _ _ _ _ [_, _, _, _, _, _, ⟨nb11, cu8 (xbN (blkL key) (92:UInt8) 64), tw3, (0, 0)⟩]
  refine CR ⟨[1], [0, 2], [0], [2], [3]⟩ 3 _ rfl rfl (by decide +kernel) rfl ⟨⟨_, rfl, AC rfl (B3 32 5 1 0 32 0 32 B9 AW rfl rfl rfl (by omega) (by omega) (by omega) (by omega) (by omega) 32 (by omega))⟩, trivial⟩ rfl (AZ rfl (B0 43 1 _ [(0, Slc nb11 0 64 64), (1, Slc nb10 0 32 32)] ([Slc nb11 0 64 64, Slc nb10 0 32 32]) ER B7 Tryd.zeroValue43 rfl rfl rfl (by kernel_rfl))) ?_
  rintro v1 L1 ⟨nb12, hnb12, rfl, rfl⟩
  refine ⟨[], ?_⟩
  show DP _ _ _ _ _ _ _ _ [_, _, _, _, _, _, _, ⟨nb12, [Slc nb11 0 64 64, Slc nb10 0 32 32], 43, (0, 0)⟩]
  refine CQ ⟨[1, 3], [0, 2], [0, 2], [], [4]⟩ 4 rfl rfl (by decide +kernel) rfl trivial rfl (AZ rfl (A3 172 [Slc nb12 0 2 2] (.agg (cu8 (sumG constL initL ([xbN (blkL key) (92:UInt8) 64, sumG constL initL ([xbN (blkL key) (54:UInt8) 64, ls.flatten].flatten)].flatten))).toArray) (AY _ Tryd.call172 rfl) (fun w1 hw1 => of_c nb12 2 [Slc nb11 0 64 64, Slc nb10 0 32 32] [xbN (blkL key) (92:UInt8) 64, sumG constL initL ([xbN (blkL key) (54:UInt8) 64, ls.flatten].flatten)] w1 (by simp) (by simp) (by simp) ⟨RdA.of hw1 (AS 7 rfl (AL _)) (by simp), ⟨⟨(some ⟨nb11, 0, none⟩), 64, congrArg (fun n => Value.slice (some ⟨nb11, 0, none⟩) n 64) ((xbN_len64 _ 64 (E4 _))).symm, (RdB.of hw1 (AS 6 rfl (AL _)) (by simp))⟩, ⟨⟨(some ⟨nb10, 0, none⟩), 32, congrArg (fun n => Value.slice (some ⟨nb10, 0, none⟩) n 32) ((DY _ _ _)).symm, (RdB.of hw1 (AS 5 rfl (AL _)) (by simp))⟩, trivial⟩⟩⟩ (by simp only [List.flatten_cons, List.flatten_nil, List.length_append, List.length_nil, (xbN_len64 _ 64 (E4 _)), (DY _ _ _)]; omega) (hG.at hw1)))) ?_
  show DP _ _ _ _ _ _ _ _ [_, _, _, _, _, _, _, _]
  refine CQ ⟨[1, 3, 4], [0, 2], [0, 2], [], [5]⟩ 5 rfl rfl (by decide +kernel) rfl trivial rfl (AZ rfl (A5 0 nb1 32 (cu8 (zr8 32)) 54 (cu8 (sumG constL initL ([xbN (blkL key) (92:UInt8) 64, sumG constL initL ([xbN (blkL key) (54:UInt8) 64, ls.flatten].flatten)].flatten))) rfl rfl rfl B1 (CM (DY _ _ _)) (by first | exact CD | exact D3 | exact D1 | (simp [cu8, cu32, cu64, Value.oneCell']; done)) (by simp [(AP 32)]) (BC (by simp [(AP 32), (DY _ _ _)])))) ?_
  show DP _ _ _ _ _ _ _ _ [⟨nb1, cu8 (sumG constL initL ([xbN (blkL key) (92:UInt8) 64, sumG constL initL ([xbN (blkL key) (54:UInt8) 64, ls.flatten].flatten)].flatten)), 54, (0, 0)⟩, _, _, _, _, _, _, _]
  refine C4 ⟨[1, 3, 4, 5], [0, 2], [0, 2], [], []⟩ rfl rfl (by decide +kernel) rfl trivial ?_
  refine CI (F' := [(4, Ptr nb1 0)]) (by kernel_rfl) ?_
  refine AE (BP (BQ (.agg (cu8 (sumG constL initL ([xbN (blkL key) (92:UInt8) 64, sumG constL initL ([xbN (blkL key) (54:UInt8) 64, ls.flatten].flatten)].flatten))).toArray) (res1 Tryd.results145 (DU rfl (BH DE B1 (CM (DY _ _ _)) (AS 0 rfl (AL _))))) fun w1 hw1 => ?_))
  refine ⟨_, [], rfl, ⟨?_, rfl⟩, hw1.sub (by simp) (by simp)⟩
  rw [macL]
  first | (simp; done) | (rw [he1]; simp; done)
theorem short_c (ao : Option Addr) (n cb : Nat) (key : List UInt8) (b c : Nat) (vs : List Value) (ls : List (List UInt8)) (w : World) (hb : key.length = n) (hcb : ao = none → cb = 0) (hn : n ≤ 17592186044416) (hr : RdB w [] ao key) (hk : 1 ≤ ls.length) (hc : ls.length ≤ c) (hk2 : ls.length ≤ 1000) (hp : Parts w b vs ls) (hs : ls.flatten.length ≤ 100000000) (hG : GLs w) : Calls Tryd.prog 90 #[.slice ao n cb, .slice (some ⟨b, 0, none⟩) ls.length c] w (Post w [] (fun v L => ∃ g sp cap, v = Slc g 0 16 cap ∧ L = [⟨g, cu8 (mid (macL key ls.flatten) 0 16) ++ sp, 5, (0, 0)⟩] ∧ sp.length = cap - 16 ∧ 16 ≤ cap ∧ cap ≤ maxLen)) := by
 refine enter w [] 11 [] [.slice ao n cb, .slice (some ⟨b, 0, none⟩) ls.length c] Tryd.func90 rfl rfl (by simp) (BZ (by simp) (by simp) (by simp)) ?_
 show JC _ _ _ [(0, .slice ao n cb), (1, .slice (some ⟨b, 0, none⟩) ls.length c)] _
 refine AI (AD (AA _ (AG rfl) rfl ?_))
 refine AN (AE (AI (AD (AA _ (AH rfl) rfl ?_))))
 refine AA _ (AH rfl) rfl ?_
 refine A7 (A3 145 [.slice ao n cb, .slice (some ⟨b, 0, none⟩) ls.length c] (.agg (cu8 (macL key ls.flatten)).toArray) (AY _ Tryd.call145 rfl) (fun w1 hw1 => mac_c ao n cb key b c vs ls w1 hb hcb (by omega) (hr.at (M' := []) hw1 (by simp)) hk hc hk2 (hp.at hw1 rfl (by omega)) hs (hG.at hw1))) rfl ?_
 show JL _ _ _ _ ((8, .agg (cu8 (macL key ls.flatten)).toArray) :: _) []
 refine A1 (BG _ (cu8 (zr8 32)) DQ (by kernel_rfl)) rfl ?_
 rintro v1 L1 ⟨nb1, hnb1, rfl, rfl⟩
 show JL _ _ _ _ ((5, Ptr nb1 0) :: _) [⟨nb1, cu8 (zr8 32), 54, (0, 0)⟩]
 refine A7 (A5 0 nb1 32 (cu8 (zr8 32)) 54 (cu8 (macL key ls.flatten)) rfl rfl rfl B1 (CM (EB _ _)) (by first | exact CD | exact D3 | exact D1 | (simp [cu8, cu32, cu64, Value.oneCell']; done)) (by simp [(AP 32)]) (BC (by simp [(AP 32), (EB _ _)]))) rfl ?_
 show JL _ _ _ _ _ [⟨nb1, cu8 (macL key ls.flatten), 54, (0, 0)⟩]
 refine AN (AE (AI (AD (AA (Slc nb1 0 16 32) (B3 32 5 1 0 16 0 32 B9 AW rfl rfl rfl (by omega) (by omega) (by omega) (by omega) (by omega) 16 (by omega)) rfl ?_))))
 have hl1 : (mid (macL key ls.flatten) 0 16).length = 16 := E3 (by rw [(EB _ _)]; omega)
 refine A1 (BI 146 [Slc nb1 0 16 32] _ (AY _ Tryd.call146 rfl) (fun w1 hw1 => bclone_c (some ⟨nb1, 0, none⟩) 16 32 (mid (macL key ls.flatten) 0 16) w1 rfl hl1 (by omega) (RdB.of hw1 (AS 0 rfl (segm_u8 0 16 (by rw [(EB _ _)]; omega))) (by simp)))) rfl ?_
 rintro v1 L1 ⟨_, ⟨nb2, sp1, cp1, rfl, rfl, hc1, hc2, hc3⟩, rfl⟩
 show JL _ _ _ _ ((10, Slc nb2 0 16 cp1) :: _) [_, ⟨nb2, cu8 (mid (macL key ls.flatten) 0 16) ++ sp1, 5, (0, 0)⟩]
 refine AA _ (AG rfl) rfl ?_
 refine AN (AE (BP (BQ (Slc nb2 0 16 cp1) (res1 Tryd.results90 (B2 rfl)) fun w1 hw1 => ?_)))
 exact ⟨_, _, rfl, ⟨nb2, sp1, cp1, rfl, rfl, hc1, hc2, hc3⟩, hw1.sub (by simp) (by simp)⟩
theorem rblockS_c (ao : Option Addr) (n cb : Nat) (b : List UInt8) (w : World) (hb : b.length = n) (hcb : ao = none → cb = 0) (hr : RdB w [] ao b) (hGr : GLr w) (hGi : GLi w) (hn : n ≤ 64) : Calls Tryd.prog 147 #[.slice ao n cb] w (Post w [] (fun v L => ∃ g sp cap, v = Slc g 0 64 cap ∧ L = [⟨g, cu8 (blkL b) ++ sp, 5, (0, 0)⟩] ∧ sp.length = cap - 64 ∧ 64 ≤ cap ∧ cap ≤ maxLen)) := by
 have hmx : maxLen = 9223372036854775807 := rfl
 refine enter w [] 21 [] [.slice ao n cb] Tryd.func147 rfl rfl (by simp) (BZ (by simp) (by simp) (by simp)) ?_
 show JC _ _ _ [(0, .slice ao n cb)] _
 refine AI (AD (AA _ (AG rfl) rfl ?_))
 refine AN (AE (AI (AD (A1 (FE 5 1 AM AW) rfl ?_))))
 rintro v1 L1 ⟨nb1, hnb1, rfl, rfl⟩
 show JL _ _ _ _ ((5, Slc nb1 0 0 0) :: _) [⟨nb1, [], 5, (0, 0)⟩]
 refine AA _ (AH rfl) rfl ?_
 refine A1 (C5 43 5 [true] (Slc nb1 0 0 0) 0 ([] : List UInt8) b ao n cb n AM C0 rfl (.inr ⟨nb1, [], 0, rfl, (by simp [take?, cu8, cu32, cu64]), rfl, (by simp), (by omega), (by unfold maxLen; omega)⟩) rfl (by first | exact hb | simp [hb]; try omega) (hr.src) (by omega) (by unfold maxLen; omega) (by omega)) rfl ?_
 rintro v1 L1 ⟨nb2, sp1, cp1, hg1, rfl, rfl, ha1, ha2, ha3, ha4⟩
 show JL _ _ _ _ ((7, Slc nb2 0 n cp1) :: _) [⟨nb2, cu8 (([] : List UInt8) ++ b) ++ sp1, 5, (0, 0)⟩]
 refine AA _ (AG rfl) rfl ?_
 refine AN (AE (AI (AI (AD (AA _ (AH rfl) rfl ?_)))))
 refine AA (I64 n) (EL AM rfl) rfl ?_
 refine AA (.bool (decide ((64:Int) < ((n:Int))))) (AR rfl rfl fun _ => FL _ _) rfl ?_
 refine AN (AE (CK _ rfl (decide_eq_false (by omega)) ?_))
 refine BT (AE (AI (BY (EE (ι := Nat × List UInt8 × Nat × List Value × Nat) (fun ⟨j, o, g1, sp1, cp1⟩ => [(2, .slice none 0 0), (3, Slc g1 0 (j + n) cp1)]) (fun ⟨j, o, g1, sp1, cp1⟩ => [⟨g1, cu8 o ++ sp1, 5, (0, 0)⟩]) (fun ⟨j, o, g1, sp1, cp1⟩ => j + n ≤ 64 ∧ o = b ++ zr8 j ∧ o.length = j + n ∧ sp1.length = cp1 - (j + n) ∧ j + n ≤ cp1 ∧ cp1 ≤ maxLen) (fun ⟨j, o, g1, sp1, cp1⟩ => 64 - (j + n)) (0, ([] : List UInt8) ++ b, nb2, sp1, cp1) ⟨by omega, by simp [zr8], by simp [hb], by omega, by omega, ha4⟩ (Sub.cons rfl (Sub.cons (FA (by omega)) (Sub.nil))) rfl ?_))))
 rintro ⟨j, o, g1, sp1, cp1⟩ ⟨hx1, hx2, ho, hx4, hx5, hx6⟩
 show JC _ _ _ [(2, .slice none 0 0), (3, Slc g1 0 (j + n) cp1)] [⟨g1, cu8 o ++ sp1, 5, (0, 0)⟩]
 refine AI (AI (AD (AA _ (AH rfl) rfl ?_)))
 refine AA (I64 ((j:Int) + (n:Int))) (FX AM rfl (by omega)) rfl ?_
 refine AA (.bool (decide (((j:Int) + (n:Int)) < (64:Int)))) (AR rfl rfl fun _ => CS _ _) rfl ?_
 refine AN (AE (CY (decide (((j:Int) + (n:Int)) < (64:Int))) rfl (fun hb1 => ?_) (fun hb1 => ?_)))
 ·
  have hp1 : ((j:Int) + (n:Int)) < (64:Int) := of_decide_eq_true hb1
  refine BT (AE (BY (AD (AA _ (AH rfl) rfl ?_))))
  refine A1 (B0 5 1 _ [(0, U8 0)] (cu8 ([(0:UInt8)])) AM AW CX rfl rfl rfl (by kernel_rfl)) rfl ?_
  rintro v1 L1 ⟨nb3, hnb3, rfl, rfl⟩
  show JL _ _ _ _ ((18, Slc nb3 0 1 1) :: _) [_, ⟨nb3, cu8 ([(0:UInt8)]), 5, (0, 0)⟩]
  refine A1 (C5 43 5 [true, false] (Slc g1 0 (j + n) cp1) (j + n) o ([(0:UInt8)]) (some ⟨nb3, 0, none⟩) 1 1 (j + n + 1) AM C0 rfl (.inr ⟨g1, sp1, cp1, rfl, rfl, (by first | exact ho | simp [ho]), hx4, (by omega), (by omega)⟩) rfl (by simp) (SrcAt.mem (AS 1 rfl (AL _))) (by omega) (by unfold maxLen; omega) (by omega)) rfl ?_
  rintro v1 L1 ⟨nb4, sp2, cp2, hg2, rfl, rfl, ha5, ha6, ha7, ha8⟩
  show JL _ _ _ _ ((19, Slc nb4 0 (j + n + 1) cp2) :: _) [_, ⟨nb4, cu8 (o ++ ([(0:UInt8)])) ++ sp2, 5, (0, 0)⟩]
  refine AA _ (AG rfl) rfl ?_
  refine AN (BO (DH (CH [false, true] ?_)))
  show K _ _ [_] _
  refine EP (j + 1, o ++ ([(0:UInt8)]), nb4, sp2, cp2) ⟨by omega, by rw [hx2, zr8_succ, List.append_assoc], (ha5).trans (by first | rfl | simp +arith), (ha6).trans (by first | rfl | simp +arith), by omega, ha8⟩ (by first | (simp; omega) | simp | (dsimp only; omega) | omega) (Sub.cons rfl (Sub.cons (FA (by omega)) (Sub.nil))) rfl
 ·
  have hp1 : ¬ (((j:Int) + (n:Int)) < (64:Int)) := of_decide_eq_false hb1
  refine D8 (BB (BB (CV (AE (AI (AD (AA _ (AH rfl) rfl ?_)))))))
  refine AA _ (AG rfl) rfl ?_
  refine AN (AE (BP (BQ (Slc g1 0 (j + n) cp1) (res1 Tryd.results147 (B2 rfl)) fun w1 hw1 => ?_)))
  have e1 : n + j = 64 := by omega
  have ex : o = blkL b := by rw [blkL_small (by omega), hx2]; congr 2; omega
  rw [ex] at hw1
  exact ⟨_, _, rfl, ⟨g1, sp1, cp1, slc_len (by omega), rfl, by omega, by omega, hx6⟩, hw1.sub (by simp) (by simp)⟩
theorem rblockB_c (ao : Option Addr) (n cb : Nat) (b : List UInt8) (w : World) (hb : b.length = n) (hcb : ao = none → cb = 0) (hr : RdB w [] ao b) (hGr : GLr w) (hGi : GLi w) (hn : 64 < n) (hn2 : n ≤ 17592186044416) : Calls Tryd.prog 147 #[.slice ao n cb] w (Post w [] (fun v L => ∃ g sp cap, v = Slc g 0 64 cap ∧ L = [⟨g, cu8 (blkL b) ++ sp, 5, (0, 0)⟩] ∧ sp.length = cap - 64 ∧ 64 ≤ cap ∧ cap ≤ maxLen)) := by
 have hmx : maxLen = 9223372036854775807 := rfl
 refine enter w [] 21 [] [.slice ao n cb] Tryd.func147 rfl rfl (by simp) (BZ (by simp) (by simp) (by simp)) ?_
 show JC _ _ _ [(0, .slice ao n cb)] _
 refine AI (AD (AA _ (AG rfl) rfl ?_))
 refine AN (AE (AI (AD (A1 (FE 5 1 AM AW) rfl ?_))))
 rintro v1 L1 ⟨nb1, hnb1, rfl, rfl⟩
 show JL _ _ _ _ ((5, Slc nb1 0 0 0) :: _) [⟨nb1, [], 5, (0, 0)⟩]
 refine AA _ (AH rfl) rfl ?_
 refine A1 (C5 43 5 [true] (Slc nb1 0 0 0) 0 ([] : List UInt8) b ao n cb n AM C0 rfl (.inr ⟨nb1, [], 0, rfl, (by simp [take?, cu8, cu32, cu64]), rfl, (by simp), (by omega), (by unfold maxLen; omega)⟩) rfl (by first | exact hb | simp [hb]; try omega) (hr.src) (by omega) (by unfold maxLen; omega) (by omega)) rfl ?_
 rintro v1 L1 ⟨nb2, sp1, cp1, hg1, rfl, rfl, ha1, ha2, ha3, ha4⟩
 show JL _ _ _ _ ((7, Slc nb2 0 n cp1) :: _) [⟨nb2, cu8 (([] : List UInt8) ++ b) ++ sp1, 5, (0, 0)⟩]
 refine AA _ (AG rfl) rfl ?_
 refine AN (AE (AI (AI (AD (AA _ (AH rfl) rfl ?_)))))
 refine AA (I64 n) (EL AM rfl) rfl ?_
 refine AA (.bool (decide ((64:Int) < ((n:Int))))) (AR rfl rfl fun _ => FL _ _) rfl ?_
 refine AN (AE (DJ _ rfl (decide_eq_true (by omega)) ?_))
 refine AI (AD (AA _ (AH rfl) rfl ?_))
 refine A7 (A3 148 [.slice ao n cb] (.agg (cu8 (sumG constL initL b)).toArray) (AY _ Tryd.call148 rfl) (fun w1 hw1 => rsum_c ao n cb b w1 hb (by omega) (hr.at (M' := []) hw1 (by simp)) (GLr.at hw1 hGr) (GLi.at hw1 hGi))) rfl ?_
 show JL _ _ _ _ ((12, .agg (cu8 (sumG constL initL b)).toArray) :: _) [_]
 refine A1 (BG _ (cu8 (zr8 32)) DQ (by kernel_rfl)) rfl ?_
 rintro v1 L1 ⟨nb3, hnb3, rfl, rfl⟩
 show JL _ _ _ _ ((4, Ptr nb3 0) :: _) [_, ⟨nb3, cu8 (zr8 32), 54, (0, 0)⟩]
 refine A7 (A5 1 nb3 32 (cu8 (zr8 32)) 54 (cu8 (sumG constL initL b)) rfl rfl rfl B1 (CM (DY _ _ _)) (by first | exact CD | exact D3 | exact D1 | (simp [cu8, cu32, cu64, Value.oneCell']; done)) (by simp [(AP 32)]) (BC (by simp [(AP 32), (DY _ _ _)]))) rfl ?_
 show JL _ _ _ _ _ [_, ⟨nb3, cu8 (sumG constL initL b), 54, (0, 0)⟩]
 refine AN (AE (AD (AA (Slc nb3 0 32 32) (B3 32 5 1 0 32 0 32 B9 AW rfl rfl rfl (by omega) (by omega) (by omega) (by omega) (by omega) 32 (by omega)) rfl ?_)))
 refine AA _ (AG rfl) rfl ?_
 refine AN (AE (AI (BY (CH [false, true] ?_))))
 show JC _ _ _ _ [_]
 refine EE (ι := (Unit) ⊕ (Nat × List UInt8 × Nat × List Value × Nat)) (fun x => match x with | .inl _ => [(2, .slice none 0 0), (3, Slc nb3 0 32 32)] | .inr ⟨j, o, g1, sp1, cp1⟩ => [(2, .slice none 0 0), (3, Slc g1 0 (j + 32) cp1)]) (fun x => match x with | .inl _ => [⟨nb3, cu8 (sumG constL initL b), 54, (0, 0)⟩] | .inr ⟨j, o, g1, sp1, cp1⟩ => [⟨g1, cu8 o ++ sp1, 5, (0, 0)⟩]) (fun x => match x with | .inl _ => True | .inr ⟨j, o, g1, sp1, cp1⟩ => 1 ≤ j ∧ j ≤ 32 ∧ o = sumG constL initL b ++ zr8 j ∧ o.length = j + 32 ∧ sp1.length = cp1 - (j + 32) ∧ j + 32 ≤ cp1 ∧ cp1 ≤ maxLen) (fun x => match x with | .inl _ => 33 | .inr ⟨j, o, g1, sp1, cp1⟩ => 32 - j) (.inl ()) trivial (Sub.all rfl) rfl ?_
 rintro (_ | ⟨j, o, g1, sp1, cp1⟩) hx
 ·
  obtain _ := hx
  show JC _ _ _ [(2, .slice none 0 0), (3, Slc nb3 0 32 32)] [⟨nb3, cu8 (sumG constL initL b), 54, (0, 0)⟩]
  refine AI (AI (AD (AA _ (AH rfl) rfl ?_)))
  refine AA (I64 32) (EL AM rfl) rfl ?_
  refine AA (.bool (decide ((32:Int) < (64:Int)))) (AR rfl rfl fun _ => CS _ _) rfl ?_
  refine AN (AE (DJ _ rfl (by decide) ?_))
  refine BT (AE (BY (AD (AA _ (AH rfl) rfl ?_))))
  refine A1 (B0 5 1 _ [(0, U8 0)] (cu8 ([(0:UInt8)])) AM AW CX rfl rfl rfl (by kernel_rfl)) rfl ?_
  rintro v1 L1 ⟨nb4, hnb4, rfl, rfl⟩
  show JL _ _ _ _ ((18, Slc nb4 0 1 1) :: _) [_, ⟨nb4, cu8 ([(0:UInt8)]), 5, (0, 0)⟩]
  refine A1 (Step_appG8 43 5 ⟨nb3, 0, none⟩ 32 32 (sumG constL initL b) ([(0:UInt8)]) (some ⟨nb4, 0, none⟩) 1 1 33 AM C0 rfl (DY _ _ _) (SrcAt.mem (AS 0 rfl (AL _))) rfl (by simp) (SrcAt.mem (AS 1 rfl (AL _))) (by omega) (by omega) (by omega) (by unfold maxLen; omega) (by omega)) rfl ?_
  rintro v1 L1 ⟨nb5, sp2, cp2, hg2, rfl, rfl, ha5, ha6, ha7, ha8⟩
  show JL _ _ _ _ ((19, Slc nb5 0 33 cp2) :: _) [_, _, ⟨nb5, cu8 ((sumG constL initL b) ++ ([(0:UInt8)])) ++ sp2, 5, (0, 0)⟩]
  refine AA _ (AG rfl) rfl ?_
  refine AN (BO (DH (CH [false, false, true] ?_)))
  show K _ _ [_] _
  refine EP (.inr (1, (sumG constL initL b) ++ ([(0:UInt8)]), nb5, sp2, cp2)) ⟨by omega, by omega, by simp [zr8], (ha5).trans (by first | rfl | simp +arith), (ha6).trans (by first | rfl | simp +arith), by omega, ha8⟩ (by first | (simp; omega) | simp | (dsimp only; omega) | omega) (Sub.cons rfl (Sub.cons (FA (by omega)) (Sub.nil))) rfl
 ·
  obtain ⟨hx0, hx1, hx2, ho, hx4, hx5, hx6⟩ := hx
  show JC _ _ _ [(2, .slice none 0 0), (3, Slc g1 0 (j + 32) cp1)] [⟨g1, cu8 o ++ sp1, 5, (0, 0)⟩]
  refine AI (AI (AD (AA _ (AH rfl) rfl ?_)))
  refine AA (I64 ((j:Int) + 32)) (FX AM rfl (by omega)) rfl ?_
  refine AA (.bool (decide (((j:Int) + 32) < (64:Int)))) (AR rfl rfl fun _ => CS _ _) rfl ?_
  refine AN (AE (CY (decide (((j:Int) + 32) < (64:Int))) rfl (fun hb1 => ?_) (fun hb1 => ?_)))
  ·
   have hp1 : ((j:Int) + 32) < (64:Int) := of_decide_eq_true hb1
   refine BT (AE (BY (AD (AA _ (AH rfl) rfl ?_))))
   refine A1 (B0 5 1 _ [(0, U8 0)] (cu8 ([(0:UInt8)])) AM AW CX rfl rfl rfl (by kernel_rfl)) rfl ?_
   rintro v1 L1 ⟨nb6, hnb6, rfl, rfl⟩
   show JL _ _ _ _ ((18, Slc nb6 0 1 1) :: _) [_, ⟨nb6, cu8 ([(0:UInt8)]), 5, (0, 0)⟩]
   refine A1 (C5 43 5 [true, false] (Slc g1 0 (j + 32) cp1) (j + 32) o ([(0:UInt8)]) (some ⟨nb6, 0, none⟩) 1 1 (j + 33) AM C0 rfl (.inr ⟨g1, sp1, cp1, rfl, rfl, (by first | exact ho | simp [ho]), hx4, (by omega), (by omega)⟩) rfl (by simp) (SrcAt.mem (AS 1 rfl (AL _))) (by omega) (by unfold maxLen; omega) (by omega)) rfl ?_
   rintro v1 L1 ⟨nb7, sp3, cp3, hg3, rfl, rfl, ha9, ha10, ha11, ha12⟩
   show JL _ _ _ _ ((19, Slc nb7 0 (j + 33) cp3) :: _) [_, ⟨nb7, cu8 (o ++ ([(0:UInt8)])) ++ sp3, 5, (0, 0)⟩]
   refine AA _ (AG rfl) rfl ?_
   refine AN (BO (DH (CH [false, true] ?_)))
   show K _ _ [_] _
   refine EP (.inr (j + 1, o ++ ([(0:UInt8)]), nb7, sp3, cp3)) ⟨by omega, by omega, by rw [hx2, zr8_succ, List.append_assoc], (ha9).trans (by first | rfl | simp +arith), (ha10).trans (by first | rfl | simp +arith), by omega, ha12⟩ (by first | (simp; omega) | simp | (dsimp only; omega) | omega) (Sub.cons rfl (Sub.cons (FA (by omega)) (Sub.nil))) rfl
  ·
   have hp1 : ¬ (((j:Int) + 32) < (64:Int)) := of_decide_eq_false hb1
   refine D8 (BB (BB (CV (AE (AI (AD (AA _ (AH rfl) rfl ?_)))))))
   refine AA _ (AG rfl) rfl ?_
   refine AN (AE (BP (BQ (Slc g1 0 (j + 32) cp1) (res1 Tryd.results147 (B2 rfl)) fun w1 hw1 => ?_)))
   have e1 : j = 32 := by omega
   have ex : o = blkL b := by rw [blkL_big (by omega), hx2, e1]
   rw [ex] at hw1
   exact ⟨_, _, rfl, ⟨g1, sp1, cp1, slc_len (by omega), rfl, by omega, by omega, hx6⟩, hw1.sub (by simp) (by simp)⟩
theorem rblock_w (ao : Option Addr) (n cb : Nat) (b : List UInt8) (w : World) (hb : b.length = n) (hcb : ao = none → cb = 0) (hr : RdB w [] ao b) (hGr : GLr w) (hGi : GLi w) (hn : n ≤ 17592186044416) : Calls Tryd.prog 147 #[.slice ao n cb] w (Post w [] (fun v L => ∃ g sp cap, v = Slc g 0 64 cap ∧ L = [⟨g, cu8 (blkL b) ++ sp, 5, (0, 0)⟩] ∧ sp.length = cap - 64 ∧ 64 ≤ cap ∧ cap ≤ maxLen)) := by
  by_cases h : n ≤ 64
  · exact rblockS_c ao n cb b w hb hcb hr hGr hGi h
  · exact rblockB_c ao n cb b w hb hcb hr hGr hGi (by omega) hn
theorem rmac_c (ao : Option Addr) (n cb : Nat) (key : List UInt8) (ax : Option Addr) (m ct : Nat) (t : List UInt8) (w : World) (hb : key.length = n) (hcb : ao = none → cb = 0) (hn : n ≤ 17592186044416) (hr : RdB w [] ao key) (ht : t.length = m) (hm : m ≤ 1000000000) (hrt : RdB w [] ax t) (hGr : GLr w) (hGi : GLi w) : Calls Tryd.prog 92 #[.slice ao n cb, .slice ax m ct] w (Post w [] (fun v L => v = .agg (cu8 (macL key t)).toArray ∧ L = [])) := by
 have hmx : maxLen = 9223372036854775807 := rfl
 refine enter w [] 40 [] [.slice ao n cb, .slice ax m ct] Tryd.func92 rfl rfl (by simp) (BZ (by simp) (by simp) (by simp)) ?_
 show JC _ _ _ [(0, .slice ao n cb), (1, .slice ax m ct)] _
 refine AI (AD (A1 (BG _ (cu8 (zr8 32)) DQ (by kernel_rfl)) rfl ?_))
 rintro v1 L1 ⟨nb1, hnb1, rfl, rfl⟩
 show JL _ _ _ _ ((4, Ptr nb1 0) :: _) [⟨nb1, cu8 (zr8 32), 54, (0, 0)⟩]
 refine AN (AE (AI (AD (AA _ (AH rfl) rfl ?_))))
 refine A1 (BI 147 [.slice ao n cb] _ (AY _ Tryd.call147 rfl) (fun w1 hw1 => rblock_w ao n cb key w1 hb hcb (hr.at (M' := []) hw1 (by simp)) (GLr.at hw1 hGr) (GLi.at hw1 hGi) (by omega))) rfl ?_
 rintro v1 L1 ⟨_, ⟨nb2, sp1, cp1, rfl, rfl, hc1, hc2, hc3⟩, rfl⟩
 show JL _ _ _ _ ((11, Slc nb2 0 64 cp1) :: _) [_, ⟨nb2, cu8 (blkL key) ++ sp1, 5, (0, 0)⟩]
 refine AA _ (AG rfl) rfl ?_
 refine AN (AE (AI (AD (AA _ (AG rfl) rfl ?_))))
 refine AA _ (AG rfl) rfl ?_
 refine AN (AE (AI (AI (AD (AA _ (AG rfl) rfl ?_)))))
 refine AN (AE (BY (EE (ι := (Unit) ⊕ (Nat × List UInt8 × Nat × List Value × Nat × List UInt8 × Nat × List Value × Nat)) (fun x => match x with | .inl _ => [(1, .slice ax m ct), (4, Ptr nb1 0), (5, Slc nb2 0 64 cp1), (6, .slice none 0 0), (7, .slice none 0 0), (8, I64 0)] | .inr ⟨k, o6, g6, sp6, cp6, o7, g7, sp7, cp7⟩ => [(1, .slice ax m ct), (4, Ptr nb1 0), (5, Slc nb2 0 64 cp1), (6, Slc g6 0 k cp6), (7, Slc g7 0 k cp7), (8, I64 k)]) (fun x => match x with | .inl _ => [⟨nb1, cu8 (zr8 32), 54, (0, 0)⟩, ⟨nb2, cu8 (blkL key) ++ sp1, 5, (0, 0)⟩] | .inr ⟨k, o6, g6, sp6, cp6, o7, g7, sp7, cp7⟩ => [⟨nb1, cu8 (zr8 32), 54, (0, 0)⟩, ⟨nb2, cu8 (blkL key) ++ sp1, 5, (0, 0)⟩, ⟨g6, cu8 o6 ++ sp6, 5, (0, 0)⟩, ⟨g7, cu8 o7 ++ sp7, 5, (0, 0)⟩]) (fun x => match x with | .inl _ => True | .inr ⟨k, o6, g6, sp6, cp6, o7, g7, sp7, cp7⟩ => 1 ≤ k ∧ k ≤ 64 ∧ o6 = raN (blkL key) 54 k ∧ o6.length = k ∧ sp6.length = cp6 - k ∧ k ≤ cp6 ∧ cp6 ≤ maxLen ∧ o7 = raN (blkL key) 92 k ∧ o7.length = k ∧ sp7.length = cp7 - k ∧ k ≤ cp7 ∧ cp7 ≤ maxLen) (fun x => match x with | .inl _ => 65 | .inr ⟨k, o6, g6, sp6, cp6, o7, g7, sp7, cp7⟩ => 64 - k) (.inl ()) trivial (Sub.all rfl) rfl ?_)))
 rintro (_ | ⟨k, o6, g6, sp6, cp6, o7, g7, sp7, cp7⟩) hx
 ·
  obtain _ := hx
  show JC _ _ _ [(1, .slice ax m ct), (4, Ptr nb1 0), (5, Slc nb2 0 64 cp1), (6, .slice none 0 0), (7, .slice none 0 0), (8, I64 0)] [⟨nb1, cu8 (zr8 32), 54, (0, 0)⟩, ⟨nb2, cu8 (blkL key) ++ sp1, 5, (0, 0)⟩]
  refine AI (AI (AD (AA _ (AH rfl) rfl ?_)))
  refine AA (.bool (decide ((0:Int) < (64:Int)))) (AR rfl rfl fun _ => CS _ _) rfl ?_
  refine AN (AE (DJ _ rfl (by decide) ?_))
  refine BT (AE (AI (BY (AI (AD (AA _ (AH rfl) rfl ?_))))))
  refine AA _ (AH rfl) rfl ?_
  refine AA _ (AH rfl) rfl ?_
  refine AA (Ptr nb2 0) (FC 5 1 0 AM AW rfl rfl (by omega) (by omega) (by omega)) rfl ?_
  refine AA (U8 (g8 (blkL key) 0)) (AK rfl (AV D4 (AS 1 rfl (A4 (Seg.get (GE (i := 0) (by rw [(E4 _)]; omega))))))) rfl ?_
  refine AA (U8 ((g8 (blkL key) 0) ^^^ (54:UInt8))) (AR rfl rfl fun _ => FZ (g8 (blkL key) 0) (54:UInt8)) rfl ?_
  refine A1 (B0 5 1 _ [(0, U8 ((g8 (blkL key) 0) ^^^ (54:UInt8)))] (cu8 ([(g8 (blkL key) 0) ^^^ (54:UInt8)])) AM AW CX rfl rfl rfl (by kernel_rfl)) rfl ?_
  rintro v1 L1 ⟨nb3, hnb3, rfl, rfl⟩
  show JL _ _ _ _ ((22, Slc nb3 0 1 1) :: _) [_, _, ⟨nb3, cu8 ([(g8 (blkL key) 0) ^^^ (54:UInt8)]), 5, (0, 0)⟩]
  refine A1 (C5 43 5 [false, false, false] (.slice none 0 0) 0 ([] : List UInt8) ([(g8 (blkL key) 0) ^^^ (54:UInt8)]) (some ⟨nb3, 0, none⟩) 1 1 1 AM C0 rfl (.inl ⟨rfl, rfl, rfl, rfl, by omega⟩) rfl (by simp) (SrcAt.mem (AS 2 rfl (AL _))) (by omega) (by unfold maxLen; omega) (by omega)) rfl ?_
  rintro v1 L1 ⟨nb4, sp2, cp2, hg1, rfl, rfl, ha1, ha2, ha3, ha4⟩
  show JL _ _ _ _ ((23, Slc nb4 0 1 cp2) :: _) [_, _, _, ⟨nb4, cu8 (([] : List UInt8) ++ ([(g8 (blkL key) 0) ^^^ (54:UInt8)])) ++ sp2, 5, (0, 0)⟩]
  refine AA _ (AG rfl) rfl ?_
  refine AN (AE (AD (AA _ (AH rfl) rfl ?_)))
  refine AA _ (AH rfl) rfl ?_
  refine AA _ (AH rfl) rfl ?_
  refine AA (Ptr nb2 0) (FC 5 1 0 AM AW rfl rfl (by omega) (by omega) (by omega)) rfl ?_
  refine AA (U8 (g8 (blkL key) 0)) (AK rfl (AV D4 (AS 1 rfl (A4 (Seg.get (GE (i := 0) (by rw [(E4 _)]; omega))))))) rfl ?_
  refine AA (U8 ((g8 (blkL key) 0) ^^^ (92:UInt8))) (AR rfl rfl fun _ => FZ (g8 (blkL key) 0) (92:UInt8)) rfl ?_
  refine A1 (B0 5 1 _ [(0, U8 ((g8 (blkL key) 0) ^^^ (92:UInt8)))] (cu8 ([(g8 (blkL key) 0) ^^^ (92:UInt8)])) AM AW CX rfl rfl rfl (by kernel_rfl)) rfl ?_
  rintro v1 L1 ⟨nb5, hnb5, rfl, rfl⟩
  show JL _ _ _ _ ((30, Slc nb5 0 1 1) :: _) [_, _, _, _, ⟨nb5, cu8 ([(g8 (blkL key) 0) ^^^ (92:UInt8)]), 5, (0, 0)⟩]
  refine A1 (C5 43 5 [false, false, false, false, false] (.slice none 0 0) 0 ([] : List UInt8) ([(g8 (blkL key) 0) ^^^ (92:UInt8)]) (some ⟨nb5, 0, none⟩) 1 1 1 AM C0 rfl (.inl ⟨rfl, rfl, rfl, rfl, by omega⟩) rfl (by simp) (SrcAt.mem (AS 4 rfl (AL _))) (by omega) (by unfold maxLen; omega) (by omega)) rfl ?_
  rintro v1 L1 ⟨nb6, sp3, cp3, hg2, rfl, rfl, ha5, ha6, ha7, ha8⟩
  show JL _ _ _ _ ((31, Slc nb6 0 1 cp3) :: _) [_, _, _, _, _, ⟨nb6, cu8 (([] : List UInt8) ++ ([(g8 (blkL key) 0) ^^^ (92:UInt8)])) ++ sp3, 5, (0, 0)⟩]
  refine AA _ (AG rfl) rfl ?_
  refine AN (BO (AE (AD (AA _ (AH rfl) rfl ?_))))
  refine AA (I64 1) (AR rfl rfl fun _ => DF _ _ (1:Int) (by omega) (by omega)) rfl ?_
  refine AA _ (AG rfl) rfl ?_
  refine AN (DH (CH [true, true, false, true, false, true] ?_))
  show K _ _ [_, _, _, _] _
  refine EP (.inr (1, ([] : List UInt8) ++ ([(g8 (blkL key) 0) ^^^ (54:UInt8)]), nb4, sp2, cp2, ([] : List UInt8) ++ ([(g8 (blkL key) 0) ^^^ (92:UInt8)]), nb6, sp3, cp3)) ⟨by omega, by omega, by rw [raN, raN], (ha1).trans (by first | rfl | simp +arith), (ha2).trans (by first | rfl | simp +arith), by omega, ha4, by rw [raN, raN], (ha5).trans (by first | rfl | simp +arith), (ha6).trans (by first | rfl | simp +arith), by omega, ha8⟩ (by first | (simp; omega) | simp | (dsimp only; omega) | omega) (Sub.all rfl) rfl
 ·
  obtain ⟨hx0, hx1, hx2, ho6, hs6, hy6, hz6, hx3, ho7, hs7, hy7, hz7⟩ := hx
  show JC _ _ _ [(1, .slice ax m ct), (4, Ptr nb1 0), (5, Slc nb2 0 64 cp1), (6, Slc g6 0 k cp6), (7, Slc g7 0 k cp7), (8, I64 k)] [⟨nb1, cu8 (zr8 32), 54, (0, 0)⟩, ⟨nb2, cu8 (blkL key) ++ sp1, 5, (0, 0)⟩, ⟨g6, cu8 o6 ++ sp6, 5, (0, 0)⟩, ⟨g7, cu8 o7 ++ sp7, 5, (0, 0)⟩]
  refine AI (AI (AD (AA _ (AH rfl) rfl ?_)))
  refine AA (.bool (decide (((k:Int)) < (64:Int)))) (AR rfl rfl fun _ => CS _ _) rfl ?_
  refine AN (AE (CY (decide (((k:Int)) < (64:Int))) rfl (fun hb1 => ?_) (fun hb1 => ?_)))
  ·
   have hp1 : ((k:Int)) < (64:Int) := of_decide_eq_true hb1
   refine BT (AE (AI (BY (AI (AD (AA _ (AH rfl) rfl ?_))))))
   refine AA _ (AH rfl) rfl ?_
   refine AA _ (AH rfl) rfl ?_
   refine AA (Ptr nb2 k) (FC 5 1 k AM AW rfl rfl (by omega) (by omega) (by omega)) rfl ?_
   refine AA (U8 (g8 (blkL key) k)) (AK rfl (AV D4 (AS 1 rfl (A4 (Seg.get (GE (i := k) (by rw [(E4 _)]; omega))))))) rfl ?_
   refine AA (U8 ((g8 (blkL key) k) ^^^ (54:UInt8))) (AR rfl rfl fun _ => FZ (g8 (blkL key) k) (54:UInt8)) rfl ?_
   refine A1 (B0 5 1 _ [(0, U8 ((g8 (blkL key) k) ^^^ (54:UInt8)))] (cu8 ([(g8 (blkL key) k) ^^^ (54:UInt8)])) AM AW CX rfl rfl rfl (by kernel_rfl)) rfl ?_
   rintro v1 L1 ⟨nb7, hnb7, rfl, rfl⟩
   show JL _ _ _ _ ((22, Slc nb7 0 1 1) :: _) [_, _, _, _, ⟨nb7, cu8 ([(g8 (blkL key) k) ^^^ (54:UInt8)]), 5, (0, 0)⟩]
   refine A1 (C5 43 5 [false, false, true, false, false] (Slc g6 0 k cp6) k o6 ([(g8 (blkL key) k) ^^^ (54:UInt8)]) (some ⟨nb7, 0, none⟩) 1 1 (k + 1) AM C0 rfl (.inr ⟨g6, sp6, cp6, rfl, rfl, (by first | exact ho6 | simp [ho6]), hs6, (by omega), (by omega)⟩) rfl (by simp) (SrcAt.mem (AS 4 rfl (AL _))) (by omega) (by unfold maxLen; omega) (by omega)) rfl ?_
   rintro v1 L1 ⟨nb8, sp4, cp4, hg3, rfl, rfl, ha9, ha10, ha11, ha12⟩
   show JL _ _ _ _ ((23, Slc nb8 0 (k + 1) cp4) :: _) [_, _, _, _, ⟨nb8, cu8 (o6 ++ ([(g8 (blkL key) k) ^^^ (54:UInt8)])) ++ sp4, 5, (0, 0)⟩]
   refine AA _ (AG rfl) rfl ?_
   refine AN (AE (AD (AA _ (AH rfl) rfl ?_)))
   refine AA _ (AH rfl) rfl ?_
   refine AA _ (AH rfl) rfl ?_
   refine AA (Ptr nb2 k) (FC 5 1 k AM AW rfl rfl (by omega) (by omega) (by omega)) rfl ?_
   refine AA (U8 (g8 (blkL key) k)) (AK rfl (AV D4 (AS 1 rfl (A4 (Seg.get (GE (i := k) (by rw [(E4 _)]; omega))))))) rfl ?_
   refine AA (U8 ((g8 (blkL key) k) ^^^ (92:UInt8))) (AR rfl rfl fun _ => FZ (g8 (blkL key) k) (92:UInt8)) rfl ?_
   refine A1 (B0 5 1 _ [(0, U8 ((g8 (blkL key) k) ^^^ (92:UInt8)))] (cu8 ([(g8 (blkL key) k) ^^^ (92:UInt8)])) AM AW CX rfl rfl rfl (by kernel_rfl)) rfl ?_
   rintro v1 L1 ⟨nb9, hnb9, rfl, rfl⟩
   show JL _ _ _ _ ((30, Slc nb9 0 1 1) :: _) [_, _, _, _, _, ⟨nb9, cu8 ([(g8 (blkL key) k) ^^^ (92:UInt8)]), 5, (0, 0)⟩]
   refine A1 (C5 43 5 [false, false, true, false, false, false] (Slc g7 0 k cp7) k o7 ([(g8 (blkL key) k) ^^^ (92:UInt8)]) (some ⟨nb9, 0, none⟩) 1 1 (k + 1) AM C0 rfl (.inr ⟨g7, sp7, cp7, rfl, rfl, (by first | exact ho7 | simp [ho7]), hs7, (by omega), (by omega)⟩) rfl (by simp) (SrcAt.mem (AS 5 rfl (AL _))) (by omega) (by unfold maxLen; omega) (by omega)) rfl ?_
   rintro v1 L1 ⟨nb10, sp5, cp5, hg4, rfl, rfl, ha13, ha14, ha15, ha16⟩
   show JL _ _ _ _ ((31, Slc nb10 0 (k + 1) cp5) :: _) [_, _, _, _, _, ⟨nb10, cu8 (o7 ++ ([(g8 (blkL key) k) ^^^ (92:UInt8)])) ++ sp5, 5, (0, 0)⟩]
   refine AA _ (AG rfl) rfl ?_
   refine AN (BO (AE (AD (AA _ (AH rfl) rfl ?_))))
   refine AA (I64 ((k:Int) + 1)) (AR rfl rfl fun _ => DF _ _ ((k:Int) + 1) (by omega) (by omega)) rfl ?_
   refine AA _ (AG rfl) rfl ?_
   refine AN (DH (CH [true, true, false, true, false, true] ?_))
   show K _ _ [_, _, _, _] _
   refine EP (.inr (k + 1, o6 ++ ([(g8 (blkL key) k) ^^^ (54:UInt8)]), nb8, sp4, cp4, o7 ++ ([(g8 (blkL key) k) ^^^ (92:UInt8)]), nb10, sp5, cp5)) ⟨by omega, by omega, by rw [raN, ← hx2], (ha9).trans (by first | rfl | simp +arith), (ha10).trans (by first | rfl | simp +arith), by omega, ha12, by rw [raN, ← hx3], (ha13).trans (by first | rfl | simp +arith), (ha14).trans (by first | rfl | simp +arith), by omega, ha16⟩ (by first | (simp; omega) | simp | (dsimp only; omega) | omega) (Sub.all rfl) rfl
  ·
   have hp1 : ¬ (((k:Int)) < (64:Int)) := of_decide_eq_false hb1
   refine D8 (BB (BB (CV (AE (AI (AD (AA _ (AH rfl) rfl ?_)))))))
   refine AA _ (AH rfl) rfl ?_
   refine A1 (C5 43 5 [false, false, true, false] (Slc g6 0 k cp6) k o6 t ax m ct (k + m) AM C0 rfl (.inr ⟨g6, sp6, cp6, rfl, rfl, (by first | exact ho6 | simp [ho6]), hs6, (by omega), (by omega)⟩) rfl (by first | exact ht | simp [ht]; try omega) (hrt.src) (by omega) (by unfold maxLen; omega) (by omega)) rfl ?_
   rintro v1 L1 ⟨nb11, sp6, cp6, hg5, rfl, rfl, ha17, ha18, ha19, ha20⟩
   show JL _ _ _ _ ((34, Slc nb11 0 (k + m) cp6) :: _) [_, _, _, ⟨nb11, cu8 (o6 ++ t) ++ sp6, 5, (0, 0)⟩]
   refine A7 (A3 148 [Slc nb11 0 (k + m) cp6] (.agg (cu8 (sumG constL initL (o6 ++ t))).toArray) (AY _ Tryd.call148 rfl) (fun w1 hw1 => rsum_c (some ⟨nb11, 0, none⟩) (k + m) cp6 (o6 ++ t) w1 ha17 (by omega) (RdB.of hw1 (AS 3 rfl (A4 (AL _))) (by simp)) (GLr.at hw1 hGr) (GLi.at hw1 hGi))) rfl ?_
   show JL _ _ _ _ ((35, .agg (cu8 (sumG constL initL (o6 ++ t))).toArray) :: _) [_, _, _, _]
   refine A1 (BG _ (cu8 (zr8 32)) DQ (by kernel_rfl)) rfl ?_
   rintro v1 L1 ⟨nb12, hnb12, rfl, rfl⟩
   show JL _ _ _ _ ((9, Ptr nb12 0) :: _) [_, _, _, _, ⟨nb12, cu8 (zr8 32), 54, (0, 0)⟩]
   refine A7 (A5 4 nb12 32 (cu8 (zr8 32)) 54 (cu8 (sumG constL initL (o6 ++ t))) rfl rfl rfl B1 (CM (DY _ _ _)) (by first | exact CD | exact D3 | exact D1 | (simp [cu8, cu32, cu64, Value.oneCell']; done)) (by simp [(AP 32)]) (BC (by simp [(AP 32), (DY _ _ _)]))) rfl ?_
   show JL _ _ _ _ _ [_, _, _, _, ⟨nb12, cu8 (sumG constL initL (o6 ++ t)), 54, (0, 0)⟩]
   refine AN (AE (AI (AD (AA _ (AH rfl) rfl ?_))))
   refine AA (Slc nb12 0 32 32) (B3 32 5 1 0 32 0 32 B9 AW rfl rfl rfl (by omega) (by omega) (by omega) (by omega) (by omega) 32 (by omega)) rfl ?_
   refine A1 (C5 43 5 [false, false, true, false, false] (Slc g7 0 k cp7) k o7 (sumG constL initL (o6 ++ t)) (some ⟨nb12, 0, none⟩) 32 32 (k + 32) AM C0 rfl (.inr ⟨g7, sp7, cp7, rfl, rfl, (by first | exact ho7 | simp [ho7]), hs7, (by omega), (by omega)⟩) rfl (by first | exact (DY _ _ _) | simp [(DY _ _ _)]; try omega) (SrcAt.mem (AS 4 rfl (AL _))) (by omega) (by unfold maxLen; omega) (by omega)) rfl ?_
   rintro v1 L1 ⟨nb13, sp7, cp7, hg6, rfl, rfl, ha21, ha22, ha23, ha24⟩
   show JL _ _ _ _ ((38, Slc nb13 0 (k + 32) cp7) :: _) [_, _, _, _, ⟨nb13, cu8 (o7 ++ (sumG constL initL (o6 ++ t))) ++ sp7, 5, (0, 0)⟩]
   refine A7 (A3 148 [Slc nb13 0 (k + 32) cp7] (.agg (cu8 (sumG constL initL (o7 ++ (sumG constL initL (o6 ++ t))))).toArray) (AY _ Tryd.call148 rfl) (fun w1 hw1 => rsum_c (some ⟨nb13, 0, none⟩) (k + 32) cp7 (o7 ++ (sumG constL initL (o6 ++ t))) w1 ha21 (by omega) (RdB.of hw1 (AS 4 rfl (A4 (AL _))) (by simp)) (GLr.at hw1 hGr) (GLi.at hw1 hGi))) rfl ?_
   show JL _ _ _ _ ((39, .agg (cu8 (sumG constL initL (o7 ++ (sumG constL initL (o6 ++ t))))).toArray) :: _) [_, _, _, _, _]
   refine A7 (A5 0 nb1 32 (cu8 (zr8 32)) 54 (cu8 (sumG constL initL (o7 ++ (sumG constL initL (o6 ++ t))))) rfl rfl rfl B1 (CM (DY _ _ _)) (by first | exact CD | exact D3 | exact D1 | (simp [cu8, cu32, cu64, Value.oneCell']; done)) (by simp [(AP 32)]) (BC (by simp [(AP 32), (DY _ _ _)]))) rfl ?_
   show JL _ _ _ _ _ [⟨nb1, cu8 (sumG constL initL (o7 ++ (sumG constL initL (o6 ++ t)))), 54, (0, 0)⟩, _, _, _, _]
   refine AN (AE (BP (BQ (.agg (cu8 (sumG constL initL (o7 ++ (sumG constL initL (o6 ++ t))))).toArray) (res1 Tryd.results92 (DU rfl (BH DE B1 (CM (DY _ _ _)) (AS 0 rfl (AL _))))) fun w1 hw1 => ?_)))
   have e1 : k = 64 := by omega
   subst e1
   refine ⟨_, [], rfl, ⟨?_, rfl⟩, hw1.sub (by simp) (by simp)⟩
   rw [macL, hx2, hx3, raN_xbN _ (E4 _), raN_xbN _ (E4 _)]
theorem same_c (a1 a2 : Option Addr) (n1 n2 c1 c2 : Nat) (x y : List UInt8) (w : World) (hx : x.length = n1) (hy : y.length = n2) (h1 : RdB w [] a1 x) (h2 : RdB w [] a2 y) (hi1 : n1 ≤ 9223372036854775807) (hi2 : n2 ≤ 9223372036854775807) : Calls Tryd.prog 151 #[.slice a1 n1 c1, .slice a2 n2 c2] w (Post w [] (fun v L => v = .bool (decide (x = y)) ∧ L = [])) := by
 refine enter w [] 31 [] [.slice a1 n1 c1, .slice a2 n2 c2] Tryd.func151 rfl rfl (by simp) (BZ (by simp) (by simp) (by simp)) ?_
 show JC _ _ _ [(0, .slice a1 n1 c1), (1, .slice a2 n2 c2)] _
 refine AI (AD (AA _ (AG rfl) rfl ?_))
 refine AN (AE (AI (AI (AD (AA _ (AH rfl) rfl ?_)))))
 refine AA (I64 n1) (EL AM rfl) rfl ?_
 refine AA _ (AH rfl) rfl ?_
 refine AA (I64 n2) (EL AM rfl) rfl ?_
 refine AA (.bool (decide (((n1:Int)) ≠ ((n2:Int))))) (AR rfl rfl fun _ => bin_neq_i _ _) rfl ?_
 refine AN (AE (CY (decide (((n1:Int)) ≠ ((n2:Int)))) rfl (fun hb1 => ?_) (fun hb1 => ?_)))
 ·
  have hp1 : ((n1:Int)) ≠ ((n2:Int)) := of_decide_eq_true hb1
  refine AI (AD (AA _ (AG rfl) rfl ?_))
  refine AN (AE (BP (BN (BQ (.bool false) (res1 Tryd.results151 (B2 rfl)) fun w1 hw1 => ?_))))
  refine ⟨_, [], rfl, ⟨?_, rfl⟩, hw1.sub (by simp) (by simp)⟩
  have hne : x ≠ y := fun h => by subst h; omega
  rw [decide_eq_false hne]
 ·
  have hp1 : ¬ (((n1:Int)) ≠ ((n2:Int))) := of_decide_eq_false hb1
  refine BT (AE (AI (AD (AA _ (AG rfl) rfl ?_))))
  refine AN (AE (AI (AI (AD (AA _ (AH rfl) rfl ?_)))))
  refine AA (I64 n1) (EL AM rfl) rfl ?_
  refine AA _ (AH rfl) rfl ?_
  refine AN (AE (BY (EE (ι := Nat × UInt8) (fun ⟨i, a⟩ => [(0, .slice a1 n1 c1), (1, .slice a2 n2 c2), (4, .bool false), (13, I64 n1), (14, I64 i), (5, U8 a)]) (fun ⟨i, a⟩ => []) (fun ⟨i, a⟩ => i ≤ n1 ∧ a = orN x y i) (fun ⟨i, a⟩ => n1 - i) (0, 0) ⟨by omega, by rw [orN]⟩ (Sub.all rfl) rfl ?_)))
  rintro ⟨i, a⟩ ⟨hx1, hx2⟩
  show JC _ _ _ [(0, .slice a1 n1 c1), (1, .slice a2 n2 c2), (4, .bool false), (13, I64 n1), (14, I64 i), (5, U8 a)] []
  refine AI (AD (AA (.bool (decide (((i:Int)) < ((n1:Int))))) (AR rfl rfl fun _ => CS _ _) rfl ?_))
  refine AN (AE (AI (CY (decide (((i:Int)) < ((n1:Int)))) rfl (fun hb2 => ?_) (fun hb2 => ?_))))
  ·
   have hp2 : ((i:Int)) < ((n1:Int)) := of_decide_eq_true hb2
   refine BT (AE (AI (BY (AI (AD (AA _ (AH rfl) rfl ?_))))))
   refine AA _ (AG rfl) rfl ?_
   refine AN (AE ?_)
   obtain ⟨bz1, oz1, hz1, hm1⟩ := h1.pos (by rw [hx]; omega)
   obtain ⟨bz2, oz2, hz2, hm2⟩ := h2.pos (by rw [hy]; omega)
   refine C1 31 1 [(0, U8 a), (1, .slice a1 n1 c1), (2, I64 i), (3, Ptr bz1 (i + oz1)), (4, U8 (g8 x i)), (5, .slice a2 n2 c2), (6, I64 i), (7, Ptr bz2 (i + oz2)), (8, U8 (g8 y i)), (9, U8 ((g8 x i) ^^^ (g8 y i))), (10, U8 (a ||| ((g8 x i) ^^^ (g8 y i)))), (11, U8 (a ||| ((g8 x i) ^^^ (g8 y i))))] BV rfl (by decide +kernel) ?_
   refine C4 ⟨[], [0, 1, 2, 3, 4, 5, 6, 7, 8, 9, 10, 11], [], [0, 1, 2, 3, 4, 5, 6, 7, 8, 9, 10, 11], []⟩ rfl rfl (by decide +kernel) rfl ⟨A2 rfl rfl rfl, A2 rfl rfl rfl, A2 rfl rfl rfl, ⟨_, rfl, AC rfl (D9 5 1 (i + oz1) AM AW rfl hz1 rfl (by omega) (by omega) (by omega))⟩, ⟨_, rfl, AC rfl (AK rfl (AV D4 (C8 (MemAt.base hm1.1 hm1.2.1 hm1.2.2) (Seg.get (GE (i := i) (by rw [hx]; omega))) (by omega))))⟩, A2 rfl rfl rfl, A2 rfl rfl rfl, ⟨_, rfl, AC rfl (D9 5 1 (i + oz2) AM AW rfl hz2 rfl (by omega) (by omega) (by omega))⟩, ⟨_, rfl, AC rfl (AK rfl (AV D4 (C8 (MemAt.base hm2.1 hm2.2.1 hm2.2.2) (Seg.get (GE (i := i) (by rw [hy]; omega))) (by omega))))⟩, ⟨_, rfl, AC rfl (AR rfl rfl fun _ => FZ (g8 x i) (g8 y i))⟩, ⟨_, rfl, AC rfl (AR rfl rfl fun _ => bin_or_u8 a ((g8 x i) ^^^ (g8 y i)))⟩, ⟨_, rfl, AC rfl (AG rfl)⟩, trivial⟩ ?_
   refine CI (F' := [(17, U8 a), (18, .slice a1 n1 c1), (19, I64 i), (20, Ptr bz1 (i + oz1)), (21, U8 (g8 x i)), (22, .slice a2 n2 c2), (23, I64 i), (24, Ptr bz2 (i + oz2)), (25, U8 (g8 y i)), (26, U8 ((g8 x i) ^^^ (g8 y i))), (27, U8 (a ||| ((g8 x i) ^^^ (g8 y i)))), (5, U8 (a ||| ((g8 x i) ^^^ (g8 y i)))), (0, .slice a1 n1 c1), (1, .slice a2 n2 c2), (4, .bool false), (13, I64 n1), (14, I64 i), (15, .bool (decide (((i:Int)) < ((n1:Int))))), (16, I64 i), (6, I64 i)]) (by kernel_rfl) ?_
   refine BO (AE (AD (AA (I64 ((i:Int) + 1)) (AR rfl rfl fun _ => DF _ _ ((i:Int) + 1) (by omega) (by omega)) rfl ?_)))
   refine AA _ (AH rfl) rfl ?_
   refine AN (DH (EP (i + 1, a ||| ((g8 x i) ^^^ (g8 y i))) ⟨by omega, by rw [orN, ← hx2]⟩ (by first | (simp; omega) | simp | (dsimp only; omega) | omega) (Sub.all rfl) rfl))
  ·
   have hp2 : ¬ (((i:Int)) < ((n1:Int))) := of_decide_eq_false hb2
   refine D8 (BB (BB (CV (AE (AI (AD (AA _ (AH rfl) rfl ?_)))))))
   refine AA (.bool (decide (a = (0:UInt8)))) (AR rfl rfl fun _ => bin_eql_u8 a (0:UInt8)) rfl ?_
   refine AA _ (AG rfl) rfl ?_
   refine AN (AE (BP (BQ (.bool (decide (a = (0:UInt8)))) (res1 Tryd.results151 (B2 rfl)) fun w1 hw1 => ?_)))
   refine ⟨_, [], rfl, ⟨?_, rfl⟩, hw1.sub (by simp) (by simp)⟩
   have e1 : i = n1 := by omega
   rw [hx2, e1, orN_same hx (by omega)]
theorem check_c (am : Option Addr) (m cm : Nat) (mm : List UInt8) (ao : Option Addr) (n cb : Nat) (key : List UInt8) (b c : Nat) (vs : List Value) (ls : List (List UInt8)) (w : World) (hm : mm.length = m) (hmi : m ≤ 9223372036854775807) (hrm : RdB w [] am mm) (hb : key.length = n) (hcb : ao = none → cb = 0) (hn : n ≤ 17592186044416) (hr : RdB w [] ao key) (hk : 1 ≤ ls.length) (hc : ls.length ≤ c) (hk2 : ls.length ≤ 1000) (hp : Parts w b vs ls) (hs : ls.flatten.length ≤ 100000000) (hG : GLs w) : Calls Tryd.prog 107 #[.slice am m cm, .slice ao n cb, .slice (some ⟨b, 0, none⟩) ls.length c] w (Post w [] (fun v L => v = .bool (decide (mm = macL key ls.flatten) || decide (mm = mid (macL key ls.flatten) 0 16)) ∧ L = [])) := by
  refine enter w [] 23 [] [.slice am m cm, .slice ao n cb, .slice (some ⟨b, 0, none⟩) ls.length c] Tryd.func107 rfl rfl (by simp) (BZ (by simp) (by simp) (by simp)) ?_
  show JC _ _ _ [(0, .slice am m cm), (1, .slice ao n cb), (2, .slice (some ⟨b, 0, none⟩) ls.length c)] _
  refine AI (AD (AA _ (AG rfl) rfl ?_))
  refine AN (AE (AI (AD (AA _ (AH rfl) rfl ?_))))
  refine AA _ (AH rfl) rfl ?_
  refine A7 (A3 145 [.slice ao n cb, .slice (some ⟨b, 0, none⟩) ls.length c] (.agg (cu8 (macL key ls.flatten)).toArray) (AY _ Tryd.call145 rfl) (fun w1 hw1 => mac_c ao n cb key b c vs ls w1 hb hcb (by omega) (hr.at (M' := []) hw1 (by simp)) hk hc hk2 (hp.at hw1 rfl (by omega)) hs (hG.at hw1))) rfl ?_
  show JL _ _ _ _ ((10, .agg (cu8 (macL key ls.flatten)).toArray) :: _) []
  refine A1 (BG _ (cu8 (zr8 32)) DQ (by kernel_rfl)) rfl ?_
  rintro v1 L1 ⟨nb1, hnb1, rfl, rfl⟩
  show JL _ _ _ _ ((7, Ptr nb1 0) :: _) [⟨nb1, cu8 (zr8 32), 54, (0, 0)⟩]
  refine A7 (A5 0 nb1 32 (cu8 (zr8 32)) 54 (cu8 (macL key ls.flatten)) rfl rfl rfl B1 (CM (EB _ _)) (by first | exact CD | exact D3 | exact D1 | (simp [cu8, cu32, cu64, Value.oneCell']; done)) (by simp [(AP 32)]) (BC (by simp [(AP 32), (EB _ _)]))) rfl ?_
  show JL _ _ _ _ _ [⟨nb1, cu8 (macL key ls.flatten), 54, (0, 0)⟩]
  refine AN (AE (AI (AI (AD (AA _ (AH rfl) rfl ?_)))))
  refine AA (I64 m) (EL AM rfl) rfl ?_
  refine AN (AE (BY (AI (AD (AA (.bool (decide (((m:Int)) = (16:Int)))) (AR rfl rfl fun _ => C9 _ _) rfl ?_)))))
  refine AA _ (AG rfl) rfl ?_
  refine AN (AE (CY (decide (((m:Int)) = (16:Int))) rfl (fun hb1 => ?_) (fun hb1 => ?_)))
  ·
    have hp1 : ((m:Int)) = (16:Int) := of_decide_eq_true hb1
    refine AI (AD (AA _ (AH rfl) rfl ?_))
    refine AA (Slc nb1 0 16 32) (B3 32 5 1 0 16 0 32 B9 AW rfl rfl rfl (by omega) (by omega) (by omega) (by omega) (by omega) 16 (by omega)) rfl ?_
    have hl1 : (mid (macL key ls.flatten) 0 16).length = 16 := E3 (by rw [(EB _ _)]; omega)
    refine A7 (A3 151 [.slice am m cm, Slc nb1 0 16 32] (.bool (decide (mm = (mid (macL key ls.flatten) 0 16)))) (AY _ Tryd.call151 rfl) (fun w1 hw1 => same_c am (some ⟨nb1, 0, none⟩) m 16 cm 32 mm (mid (macL key ls.flatten) 0 16) w1 hm hl1 (hrm.at (M' := []) hw1 (by simp)) (RdB.of hw1 (AS 0 rfl (segm_u8 0 16 (by rw [(EB _ _)]; omega))) (by simp)) (by omega) (by omega))) rfl ?_
    show JL _ _ _ _ ((17, .bool (decide (mm = (mid (macL key ls.flatten) 0 16)))) :: _) [_]
    refine AA _ (AG rfl) rfl ?_
    refine AN (AE (BP (DV (BN (BQ (.bool (decide (mm = (mid (macL key ls.flatten) 0 16)))) (res1 Tryd.results107 (B2 rfl)) fun w1 hw1 => ?_)))))
    refine ⟨_, [], rfl, ⟨?_, rfl⟩, hw1.sub (by simp) (by simp)⟩
    have hl1 : (macL key ls.flatten).length = 32 := EB _ _
    have hl2 : (mid (macL key ls.flatten) 0 16).length = 16 := E3 (by rw [hl1]; omega)
    first
    | (have hne : ¬ mm = macL key ls.flatten := fun h => by rw [← h] at hl1; omega
       rw [decide_eq_false hne, Bool.false_or]; done)
    | (have hne : ¬ mm = mid (macL key ls.flatten) 0 16 := fun h => by rw [← h] at hl2; omega
       rw [decide_eq_false hne, Bool.or_false]; done)
    | (have hne : ¬ mm = macL key ls.flatten := fun h => by rw [← h] at hl1; omega
       have hne2 : ¬ mm = mid (macL key ls.flatten) 0 16 := fun h => by rw [← h] at hl2; omega
       rw [decide_eq_false hne, decide_eq_false hne2]; rfl)
  ·
    have hp1 : ¬ (((m:Int)) = (16:Int)) := of_decide_eq_false hb1
    refine AI (AD (AA (.bool (decide (((m:Int)) = (32:Int)))) (AR rfl rfl fun _ => C9 _ _) rfl ?_))
    refine AA _ (AG rfl) rfl ?_
    refine AN (AE (CY (decide (((m:Int)) = (32:Int))) rfl (fun hb2 => ?_) (fun hb2 => ?_)))
    ·
      have hp2 : ((m:Int)) = (32:Int) := of_decide_eq_true hb2
      refine AI (AD (AA _ (AH rfl) rfl ?_))
      refine AA (Slc nb1 0 32 32) (B3 32 5 1 0 32 0 32 B9 AW rfl rfl rfl (by omega) (by omega) (by omega) (by omega) (by omega) 32 (by omega)) rfl ?_
      refine A7 (A3 151 [.slice am m cm, Slc nb1 0 32 32] (.bool (decide (mm = (macL key ls.flatten)))) (AY _ Tryd.call151 rfl) (fun w1 hw1 => same_c am (some ⟨nb1, 0, none⟩) m 32 cm 32 mm (macL key ls.flatten) w1 hm (EB _ _) (hrm.at (M' := []) hw1 (by simp)) (RdB.of hw1 (AS 0 rfl (AL _)) (by simp)) (by omega) (by omega))) rfl ?_
      show JL _ _ _ _ ((22, .bool (decide (mm = (macL key ls.flatten)))) :: _) [_]
      refine AA _ (AG rfl) rfl ?_
      refine AN (AE (BP (DV (BN (BQ (.bool (decide (mm = (macL key ls.flatten)))) (res1 Tryd.results107 (B2 rfl)) fun w1 hw1 => ?_)))))
      refine ⟨_, [], rfl, ⟨?_, rfl⟩, hw1.sub (by simp) (by simp)⟩
      have hl1 : (macL key ls.flatten).length = 32 := EB _ _
      have hl2 : (mid (macL key ls.flatten) 0 16).length = 16 := E3 (by rw [hl1]; omega)
      first
      | (have hne : ¬ mm = macL key ls.flatten := fun h => by rw [← h] at hl1; omega
         rw [decide_eq_false hne, Bool.false_or]; done)
      | (have hne : ¬ mm = mid (macL key ls.flatten) 0 16 := fun h => by rw [← h] at hl2; omega
         rw [decide_eq_false hne, Bool.or_false]; done)
      | (have hne : ¬ mm = macL key ls.flatten := fun h => by rw [← h] at hl1; omega
         have hne2 : ¬ mm = mid (macL key ls.flatten) 0 16 := fun h => by rw [← h] at hl2; omega
         rw [decide_eq_false hne, decide_eq_false hne2]; rfl)
    ·
      have hp2 : ¬ (((m:Int)) = (32:Int)) := of_decide_eq_false hb2
      refine BT (BO (AE (AI (AD (AA _ (AG rfl) rfl ?_)))))
      refine AN (AE (BP (BQ (.bool false) (res1 Tryd.results107 (B2 rfl)) fun w1 hw1 => ?_)))
      refine ⟨_, [], rfl, ⟨?_, rfl⟩, hw1.sub (by simp) (by simp)⟩
      have hl1 : (macL key ls.flatten).length = 32 := EB _ _
      have hl2 : (mid (macL key ls.flatten) 0 16).length = 16 := E3 (by rw [hl1]; omega)
      first
      | (have hne : ¬ mm = macL key ls.flatten := fun h => by rw [← h] at hl1; omega
         rw [decide_eq_false hne, Bool.false_or]; done)
      | (have hne : ¬ mm = mid (macL key ls.flatten) 0 16 := fun h => by rw [← h] at hl2; omega
         rw [decide_eq_false hne, Bool.or_false]; done)
      | (have hne : ¬ mm = macL key ls.flatten := fun h => by rw [← h] at hl1; omega
         have hne2 : ¬ mm = mid (macL key ls.flatten) 0 16 := fun h => by rw [← h] at hl2; omega
         rw [decide_eq_false hne, decide_eq_false hne2]; rfl)
end Go.Proofs.YtkdpdgpphpngeaaDoor
namespace Go.Proofs.YtkdpdgpphpngeaaDoor
open Go Go.Sx
attribute [local irreducible] mid zr8 zr32 numK rnK valK rotr wordL spreadL comprL cpN adN spN wrdN constL initL padL stN outN routN sumG putL RightB tktT mayN idxT selT macL
theorem cloneSN_c  (w : World) : Calls Tryd.prog 113 #[.slice none 0 0] w (Post w [] (fun v L => v = .slice none 0 0 ∧ L = [])) := by
 refine enter w [] 8 [] [.slice none 0 0] Tryd.func113 rfl rfl (by simp) (BZ (by simp) (by simp) (by simp)) ?_
 show JC _ _ _ [(0, .slice none 0 0)] _
 refine AI (AD (AA _ (AG rfl) rfl ?_))
 refine AN (AE (AI (AI (AD (AA _ (AH rfl) rfl ?_)))))
 refine AA (.bool true) (C2 _ _ _ rfl rfl (fun _ => eqGuard_sl ..) fun _ => eql_sl_nil_nil CC) rfl ?_
 refine AN (AE (DJ _ rfl rfl ?_))
 refine AI (AD (AA _ (AG rfl) rfl ?_))
 refine AN (AE (BP (BN (BQ (.slice none 0 0) (res1 Tryd.results113 (B2 rfl)) fun w1 hw1 => ?_))))
 exact ⟨_, [], rfl, ⟨rfl, rfl⟩, hw1.sub (by simp) (by simp)⟩
theorem cloneS_c (sa : Option Addr) (ns sc : Nat) (ls : List SealR)  (w : World) (hls : ls.length = ns) (hnn : ns ≤ 2000000) (hnd : ns ≤ sc) (hcn : sc ≤ maxLen) (hs : RdV w sa (ls.flatMap sealC)) (ha : sa.isNone = false)  : Calls Tryd.prog 113 #[.slice sa ns sc] w (Post w [] (fun v L => ∃ g sp cap, v = Slc g 0 ns cap ∧ L = [⟨g, ls.flatMap sealC ++ sp, 161, (0, 0)⟩] ∧ sp.length = cap * 49 - ns * 49 ∧ ns ≤ cap ∧ cap ≤ maxLen)) := by
 have hmx : maxLen = 9223372036854775807 := rfl
 refine enter w [] 8 [] [.slice sa ns sc] Tryd.func113 rfl rfl (by simp) (BZ (by simp) (by simp) (by simp)) ?_
 show JC _ _ _ [(0, .slice sa ns sc)] _
 refine AI (AD (AA _ (AG rfl) rfl ?_))
 refine AN (AE (AI (AI (AD (AA _ (AH rfl) rfl ?_)))))
 refine AA (.bool sa.isNone) (C2 _ _ _ rfl rfl (fun _ => eqGuard_sl ..) fun _ => eql_sl_any CC) rfl ?_
 refine AN (AE (CK _ rfl ha ?_))
 refine BT (AE (AI (AD (A1 (FE 161 49 CC CE) rfl ?_))))
 rintro v1 L1 ⟨nb1, hnb1, rfl, rfl⟩
 show JL _ _ _ _ ((5, Slc nb1 0 0 0) :: _) [⟨nb1, [], 161, (0, 0)⟩]
 refine AA _ (AH rfl) rfl ?_
 refine A1 (Step_cloneS 24 161 56 (.agg ([U64 0] ++ cu8 (zr8 32) ++ cu8 (zr8 16)).toArray) [true] nb1 ls sa ns sc CC (by kernel_rfl) (by kernel_rfl) rfl rfl rfl hls (RdV.src hs rfl) (by omega) (by unfold maxLen; omega)) rfl ?_
 rintro v1 L1 ⟨nb2, sp1, cp1, hg1, rfl, rfl, ha1, ha2, ha3⟩
 show JL _ _ _ _ ((7, Slc nb2 0 ns cp1) :: _) [⟨nb2, ls.flatMap sealC ++ sp1, 161, (0, 0)⟩]
 refine AA _ (AG rfl) rfl ?_
 refine AN (AE (BP (BQ (Slc nb2 0 ns cp1) (res1 Tryd.results113 (B2 rfl)) fun w1 hw1 => ?_)))
 exact ⟨_, _, rfl, ⟨nb2, sp1, cp1, rfl, rfl, ha1, ha2, ha3⟩, hw1.sub (by simp) (by simp)⟩
theorem clone64Z_w (ai : Option Addr) (ci : Nat) (w : World) (hc : ci ≤ maxLen) (hn : ai = none → ci = 0) : Calls Tryd.prog 112 #[.slice ai 0 ci] w (Post w [] (fun v L => ∃ ao c, v = .slice ao 0 c ∧ L = [] ∧ c ≤ maxLen ∧ (ao = none → c = 0))) := by
  by_cases ha : ai = none
  · subst ha
    rw [hn rfl]
    refine (clone64N_c w).mono ?_
    rintro E W ⟨v, L, rfl, ⟨rfl, rfl⟩, hw⟩
    exact ⟨_, _, rfl, ⟨none, 0, rfl, rfl, Nat.zero_le _, fun _ => rfl⟩, hw⟩
  · have ha' : ai.isNone = false := by cases ai with
      | none => exact absurd rfl ha
      | some x => rfl
    refine (clone64_c ai 0 ci ([] : List UInt64) w rfl (by omega) (by omega) hc RdV.nil ha').mono ?_
    rintro E W ⟨v, L, rfl, ⟨g, sp, cap, rfl, rfl, h1, h2, h3⟩, hw⟩
    exact ⟨_, [], rfl, ⟨_, _, rfl, rfl, h3, fun h => by cases h⟩, hw.sub (by simp) (by simp)⟩
theorem GB (ai : Option Addr) (ni ci : Nat) (l : List UInt64) (w : World) (hl : l.length = ni) (hnm : ni ≤ 2000000) (hnc : ni ≤ ci) (hcm : ci ≤ maxLen) (hv : RdV w ai (cu64 l)) (hp : 0 < ni) : Calls Tryd.prog 112 #[.slice ai ni ci] w (Post w [] (fun v L => ∃ g sp cap, v = Slc g 0 ni cap ∧ L = [⟨g, cu64 l ++ sp, 22, (0, 0)⟩] ∧ sp.length = cap - ni ∧ ni ≤ cap ∧ cap ≤ maxLen)) := by
 have ha : ai.isNone = false := by
  obtain ⟨b, off, h, _⟩ := RdV.pos hv (by first | (rw [F4]; omega) | (rw [rows_len]; omega))
  rw [h]; rfl
 exact clone64_c ai ni ci l w hl hnm hnc hcm hv ha
theorem FS (sa : Option Addr) (sc : Nat) (w : World) (hc : sc ≤ maxLen) (hn : sa = none → sc = 0) : Calls Tryd.prog 113 #[.slice sa 0 sc] w (Post w [] (fun v L => ∃ ao c, v = .slice ao 0 c ∧ L = [] ∧ c ≤ maxLen ∧ (ao = none → c = 0))) := by
  by_cases ha : sa = none
  · subst ha
    rw [hn rfl]
    refine (cloneSN_c w).mono ?_
    rintro E W ⟨v, L, rfl, ⟨rfl, rfl⟩, hw⟩
    exact ⟨_, _, rfl, ⟨none, 0, rfl, rfl, Nat.zero_le _, fun _ => rfl⟩, hw⟩
  · have ha' : sa.isNone = false := by cases sa with
      | none => exact absurd rfl ha
      | some x => rfl
    refine (cloneS_c sa 0 sc ([] : List SealR) w rfl (by omega) (by omega) hc RdV.nil ha').mono ?_
    rintro E W ⟨v, L, rfl, ⟨g, sp, cap, rfl, rfl, h1, h2, h3⟩, hw⟩
    exact ⟨_, [], rfl, ⟨_, _, rfl, rfl, h3, fun h => by cases h⟩, hw.sub (by simp) (by simp)⟩
theorem GF (sa : Option Addr) (ns sc : Nat) (ls : List SealR) (w : World) (hls : ls.length = ns) (hnn : ns ≤ 2000000) (hnd : ns ≤ sc) (hcn : sc ≤ maxLen) (hs : RdV w sa (ls.flatMap sealC)) (hp : 0 < ns) : Calls Tryd.prog 113 #[.slice sa ns sc] w (Post w [] (fun v L => ∃ g sp cap, v = Slc g 0 ns cap ∧ L = [⟨g, ls.flatMap sealC ++ sp, 161, (0, 0)⟩] ∧ sp.length = cap * 49 - ns * 49 ∧ ns ≤ cap ∧ cap ≤ maxLen)) := by
 have ha : sa.isNone = false := by
  obtain ⟨b, off, h, _⟩ := RdV.pos hs (by first | (rw [F4]; omega) | (rw [rows_len]; omega))
  rw [h]; rfl
 exact cloneS_c sa ns sc ls w hls hnn hnd hcn hs ha
end Go.Proofs.YtkdpdgpphpngeaaDoor
