import Derived.Test.YtkdpdgpphpngeaaDoorPkB4
set_option linter.unusedVariables false
set_option linter.unusedSimpArgs false
set_option maxRecDepth 100000
namespace Go.Proofs.YtkdpdgpphpngeaaDoor
open Go Go.Sx
open Go.Value renaming slice → SL
attribute [local irreducible] mid zr8 numK valK constL initL putL RightB tktT mayN idxT selT blankB spanB reqR plainV itB chB bB aB c1B c2B c3B c4B repR repT LargeQ eQ vQ bQ sQ ixQ seQ fQ fN hQ
theorem ordG_c (kd : Int) (ai : Option Addr) (ni ci : Nat) (l : List UInt64) (sa : Option Addr) (ns sc : Nat) (ls : List SealR) (bl : UInt64)  (w : World) (hl : l.length = ni) (hnm : ni ≤ 2000000) (hnc : ni ≤ ci) (hcm : ci ≤ maxLen) (hv : RdV w ai (cu64 l)) (hls : ls.length = ns) (hnn : ns ≤ 2000000) (hnd : ns ≤ sc) (hcn : sc ≤ maxLen) (hs : RdV w sa (ls.flatMap sealC))  : Calls Tryd.prog 66 #[.agg #[I64 (kd), SL ai ni ci, SL sa ns sc, U64 bl]] w (Post w [] (fun v L => ∃ g cs T a c, v = .agg #[I64 kd, SL ai ni ci, SL a ns c, U64 bl] ∧ L = [(Ez g cs T)] ∧ Gh (ls.flatMap sealC) g cs a ∧ ns ≤ c ∧ c ≤ maxLen)) := by
 have hmx : maxLen = 9223372036854775807 := rfl
 refine enter (P := Tryd.prog) (f := 66) (fn := Tryd.f66) w [] 29 [] [.agg #[I64 (kd), SL ai ni ci, SL sa ns sc, U64 bl]] Tryd.func66 rfl rfl (by simp) (BZ (by simp) (by simp) (by simp)) ?_
 show JC _ _ _ [(0, .agg #[I64 (kd), SL ai ni ci, SL sa ns sc, U64 bl])] _
 refine AF (AC (A2 (CN (.agg #[I64 (kd), SL ai ni ci, SL sa ns sc, U64 bl]) (V4 (kd) ai ni ci sa ns sc bl) rfl (by first | rfl | simp)) rfl ?_))
 rintro v1 L1 ⟨nb1, hnb1, rfl, rfl⟩
 show JL _ _ _ _ (_ :: _) [_]
 refine A2 (C4 _ (V8) Tryd.zeroValue36 (by kernel_rfl)) rfl ?_
 rintro v1 L1 ⟨nb2, hnb2, rfl, rfl⟩
 show JL _ _ _ _ (_ :: _) [_, _]
 refine AJ (AD (AF (AC (AA (Ptr nb1 0) (AB 0 3 1 AY rfl AW rfl rfl) rfl ?_))))
 refine AA _ (AL rfl (AX A0 (AR 0 rfl (Seg.head)))) rfl ?_
 refine AA (Ptr nb1 1) (AB 1 23 1 AY rfl BV rfl rfl) rfl (AA _ (AL rfl (AX B4 (AR 0 rfl (AH (Seg.head))))) rfl ?_)
 refine AA (Ptr nb1 3) (AB 3 22 1 AY rfl A1 rfl rfl) rfl (AA _ (AL rfl (AX A8 (AR 0 rfl (AH (AH (AH (Seg.head))))))) rfl ?_)
 refine AA (.agg #[I64 (kd), SL ai ni ci, SL none 0 0, U64 bl]) (CY [(0, I64 (kd)), (1, SL ai ni ci), (3, U64 bl)] _ rfl (fun _ => bld36_013 rfl rfl rfl)) rfl ?_
 refine A2 (C4 _ (V8) Tryd.zeroValue36 (by kernel_rfl)) rfl ?_
 rintro v1 L1 ⟨nb3, hnb3, rfl, rfl⟩
 show JL _ _ _ _ (_ :: _) [_, _, _]
 refine A7 (BS 2 nb3 4 _ 36 (V4 (kd) ai ni ci none 0 0 bl) rfl rfl rfl DT rfl (by simp [Value.oneCell']) (Nat.le_of_ble_eq_true rfl) (BW (by simp []))) rfl ?_
 show JL _ _ _ _ _ [_, _, _]
 refine AJ (AD (AF (AF (AC (AA (Ptr nb1 2) (AB 2 24 1 AY rfl DG rfl rfl) rfl ?_)))))
 refine AA _ (AL rfl (AX D6 (AR 0 rfl (AH (AH (Seg.head)))))) rfl ?_
 refine AA (I64 ns) (DA CK rfl) rfl (AA _ (AG rfl) rfl ?_)
 refine AJ (AD (B5 (EO (ι := (Unit) ⊕ (Nat × List SealR × Nat × List Value × Nat)) (fun x => match x with | .inl _ => [(2, Ptr nb2 0), (3, Ptr nb3 0), (14, SL sa ns sc), (15, I64 ns), (16, I64 0)] | .inr ⟨i, rr, gb, sp, cp⟩ => [(2, Ptr nb2 0), (3, Ptr nb3 0), (14, SL sa ns sc), (15, I64 ns), (16, I64 i)]) (fun x => match x with | .inl _ => [(Ez nb1 (V4 (kd) ai ni ci sa ns sc bl) 26), (Ez nb2 (V8) 36), (Ez nb3 (V4 (kd) ai ni ci none 0 0 bl) 36)] | .inr ⟨i, rr, gb, sp, cp⟩ => [(Ez nb1 (V4 (kd) ai ni ci sa ns sc bl) 26), (Ez nb2 (V8) 36), (Ez nb3 [I64 (kd), SL ai ni ci, Slc gb 0 i cp, U64 bl] 36), (Ez gb ((rr).flatMap sealC ++ sp) 164)]) (fun x => match x with | .inl _ => True | .inr ⟨i, rr, gb, sp, cp⟩ => 0 < i ∧ i ≤ ns ∧ rr = ls.take i ∧ rr.length = i ∧ sp.length = cp * 49 - i * 49 ∧ i ≤ cp ∧ cp ≤ maxLen) (fun x => match x with | .inl _ => ns + 2 | .inr ⟨i, rr, gb, sp, cp⟩ => ns + 1 - i) (.inl ()) trivial (Sub.all rfl) rfl ?_)))
 rintro (_ | ⟨i, rr, gb, sp, cp⟩) hx
 ·
  obtain _ := hx
  show JC _ _ _ [_, _, _, _, _] [_, _, _]
  refine AF (AC (AA (.bool (decide ((0:Int) < ((ns:Int))))) (AT rfl rfl fun _ => CL _ _) rfl ?_))
  refine AJ (AD (AF (CC (decide ((0:Int) < ((ns:Int)))) rfl (fun hb1 => ?_) (fun hb1 => ?_))))
  ·
   have hp1 : (0:Int) < ((ns:Int)) := of_decide_eq_true hb1
   refine BH (AD (AF (B5 (AF (AC ?_)))))
   obtain ⟨x1, hx1⟩ : ∃ x, ls[0]? = some x := ⟨_, List.getElem?_eq_getElem (by rw [hls]; omega)⟩
   obtain ⟨bz1, oz1, hz1, hm1⟩ := F6 FH (by decide) hs hx1
   refine AA (Ptr bz1 oz1) (DI 161 49 oz1 CK BY rfl hz1 rfl (by omega) (by omega) (by omega)) rfl ?_
   refine AA (.agg ([U64 x1.e] ++ cu8 x1.d ++ cu8 x1.t).toArray) (AL rfl (BR DN BY (by simp [x1.hd, x1.ht]) (C9 (hm1.mem (by simp)) (AN _) (by first | omega | (simp; done) | (simp; omega))))) rfl ?_
   refine A2 (C4 _ ([U64 0] ++ cu8 (zr8 32) ++ cu8 (zr8 16)) Tryd.zeroValue161 (by kernel_rfl)) rfl ?_
   rintro v1 L1 ⟨nb4, hnb4, rfl, rfl⟩
   show JL _ _ _ _ (_ :: _) [_, _, _, _]
   refine A7 (BS 3 nb4 49 _ 161 ([U64 x1.e] ++ cu8 x1.d ++ cu8 x1.t) rfl rfl rfl BY (by simp [x1.hd, x1.ht]) (B0 (B0 (by simp [Value.oneCell']) CZ) CZ) (by simp [(AO 32), (AO 16)]) (BW (by simp [(AO 32), (AO 16), x1.hd, x1.ht]))) rfl ?_
   show JL _ _ _ _ _ [_, _, _, _]
   refine AJ (AD (DB 29 5 [(0, Ptr nb3 2), (1, SL none 0 0), (2, .agg ([U64 x1.e] ++ cu8 x1.d ++ cu8 x1.t).toArray)] B6 rfl (by decide +kernel) ?_))
   refine EI ⟨[], [0, 1, 2], [], [0, 1, 2], [3]⟩ 3 rfl rfl (by decide +kernel) rfl ⟨AP rfl rfl (AB 2 34 1 CT rfl EN rfl rfl), AP rfl rfl (AL rfl (AX Tryd.isAgg34 (AR 2 rfl (AH (AH (Seg.head)))))), AP rfl rfl (AL rfl (BR DN BY (by simp [x1.hd, x1.ht]) (AR 3 rfl (AN _)))), trivial⟩ rfl (BO rfl (A3 93 _ (.agg ([U64 x1.e] ++ cu8 x1.d ++ cu8 x1.t).toArray) (AV _ Tryd.call93 rfl) (fun w1 hw1 => doc7_c x1.e x1.d x1.t w1 x1.hd x1.ht))) ?_
   show DP _ _ _ _ _ _ _ _ [_, _, _, _]
   refine C2 ⟨[3], [0, 1, 2], [2], [0, 1], [4]⟩ 4 _ rfl rfl (by decide +kernel) rfl ⟨AP rfl rfl (AB 2 34 1 CT rfl EN rfl rfl), AP rfl rfl (AL rfl (AX Tryd.isAgg34 (AR 2 rfl (AH (AH (Seg.head)))))), trivial⟩ rfl (BO rfl (DF 164 49 _ [(0, .agg ([U64 x1.e] ++ cu8 x1.d ++ cu8 x1.t).toArray)] ([U64 x1.e] ++ cu8 x1.d ++ cu8 x1.t) EY Tryd.sizeOf164 Tryd.zeroValue164 rfl rfl rfl (fill_one (Z := [U64 0] ++ cu8 (zr8 32) ++ cu8 (zr8 16)) (by simp [x1.hd, x1.ht]) (by kernel_rfl) (by simp [zr8])))) ?_
   rintro v1 L1 ⟨nb5, hnb5, rfl, rfl⟩
   refine ⟨[], ?_⟩
   show DP _ _ _ _ _ _ _ _ [_, _, _, _, (Ez nb5 ([U64 x1.e] ++ cu8 x1.d ++ cu8 x1.t) 164)]
   refine C2 ⟨[3, 4], [0, 1, 2], [2], [0, 1], [5]⟩ 5 _ rfl rfl (by decide +kernel) rfl ⟨AP rfl rfl (AB 2 34 1 CT rfl EN rfl rfl), AP rfl rfl (AL rfl (AX Tryd.isAgg34 (AR 2 rfl (AH (AH (Seg.head)))))), trivial⟩ rfl (BO rfl (Step_appS 34 164 56 (.agg ([U64 0] ++ cu8 (zr8 32) ++ cu8 (zr8 16)).toArray) [false, false, false, false, false] (SL none 0 0) 0 ([] : List SealR) x1 (some ⟨nb5, 0, none⟩) 1 1 EY (by kernel_rfl) (by kernel_rfl) rfl (.inl ⟨rfl, rfl, rfl, rfl⟩) rfl (SrcAt.mem (AR 4 rfl (AN _))) (by omega) (by unfold maxLen; omega) (by omega))) ?_
   rintro v1 L1 ⟨nb6, sp1, cp1, hg1, rfl, rfl, ha1, ha2, ha3, ha4⟩
   refine ⟨[(6, Ptr nb3 2)], ?_⟩
   show DP _ _ _ _ _ _ _ _ [_, _, _, _, _, (Ez nb6 ((([] : List SealR) ++ [x1]).flatMap sealC ++ sp1) 164)]
   refine EI ⟨[3, 4, 5], [0, 1, 2, 6], [0, 1, 2], [6], [7]⟩ 7 rfl rfl (by decide +kernel) rfl ⟨AP rfl rfl (AB 2 34 1 CT rfl EN rfl rfl), trivial⟩ rfl (BO rfl (C0 2 nb3 2 1 _ 36 (Slc nb6 0 1 cp1) ([Slc nb6 0 1 cp1]) ([I64 (kd), SL ai ni ci, Slc nb6 0 1 cp1, U64 bl]) rfl rfl rfl rfl EN rfl (by simp [Value.oneCell']) (Nat.le_of_ble_eq_true rfl) (rfl))) ?_
   show DP _ _ _ _ _ _ _ _ [_, _, (Ez nb3 [I64 (kd), SL ai ni ci, Slc nb6 0 1 cp1, U64 bl] 36), _, _, _]
   refine DR ⟨[3, 4, 5, 7], [0, 1, 2, 6], [0, 1, 2, 6], [], []⟩ rfl rfl (by decide +kernel) rfl trivial ?_
   refine C5 (F' := [(20, Ptr nb3 2), (21, SL none 0 0), (22, .agg ([U64 x1.e] ++ cu8 x1.d ++ cu8 x1.t).toArray), (23, .agg ([U64 x1.e] ++ cu8 x1.d ++ cu8 x1.t).toArray), (24, Slc nb5 0 1 1), (25, Slc nb6 0 1 cp1), (26, Ptr nb3 2), (2, Ptr nb2 0), (3, Ptr nb3 0), (14, SL sa ns sc), (15, I64 ns), (16, I64 0), (17, .bool (decide ((0:Int) < ((ns:Int))))), (18, Ptr bz1 oz1), (19, .agg ([U64 x1.e] ++ cu8 x1.d ++ cu8 x1.t).toArray), (5, Ptr nb4 0)]) (by kernel_rfl) ?_
   refine BU (AD (AC (AA (I64 1) (AT rfl rfl fun _ => DK _ _ (1:Int) (by omega) (by omega)) rfl ?_)))
   refine AA _ (AG rfl) rfl ?_
   refine AJ (DU (CD [true, true, true, false, false, true] ?_))
   show K _ _ [_, _, _, _] _
   refine EZ (.inr (1, ([] : List SealR) ++ [x1], nb6, sp1, cp1)) ⟨by omega, by omega, take_step (i := 0) hx1, (ha1).trans (by first | rfl | simp +arith), (ha2).trans (by first | rfl | simp +arith), by omega, by omega⟩ (by first | (simp; omega) | simp | (dsimp only; omega) | omega) (Sub.all rfl) rfl
  ·
   have hp1 : ¬ ((0:Int) < ((ns:Int))) := of_decide_eq_false hb1
   refine EF (BC (BC (CX (AD (AF (AC (AA _ (AL rfl (BR Tryd.isAgg36 DT rfl (AR 2 rfl (AN _)))) rfl ?_)))))))
   refine A7 (BS 1 nb2 4 _ 36 (V4 (kd) ai ni ci none 0 0 bl) rfl rfl rfl DT rfl (by simp [Value.oneCell']) (Nat.le_of_ble_eq_true rfl) (BW (by simp []))) rfl ?_
   show JL _ _ _ _ _ [_, _, _]
   refine AJ (AD (BK (BJ (.agg #[I64 (kd), SL ai ni ci, SL none 0 0, U64 bl]) (res1 Tryd.results66 (DQ rfl (BR Tryd.isAgg36 DT rfl (AR 1 rfl (AN _))))) fun w1 hw1 => ?_)))
   obtain rfl : ns = 0 := by omega
   obtain rfl : ls = [] := List.eq_nil_of_length_eq_zero hls
   exact ⟨_, _, rfl, ⟨_, _, _, none, 0, rfl, rfl, .inl rfl, by omega, by first | omega | (unfold maxLen; omega)⟩, Hp.one hw1 0 rfl⟩
 ·
  obtain ⟨hi1, hi2, hi3, hi4, hi5, hi6, hi7⟩ := hx
  show JC _ _ _ [_, _, _, _, _] [_, _, _, _]
  refine AF (AC (AA (.bool (decide (((i:Int)) < ((ns:Int))))) (AT rfl rfl fun _ => CL _ _) rfl ?_))
  refine AJ (AD (AF (CC (decide (((i:Int)) < ((ns:Int)))) rfl (fun hb2 => ?_) (fun hb2 => ?_))))
  ·
   have hp2 : ((i:Int)) < ((ns:Int)) := of_decide_eq_true hb2
   refine BH (AD (AF (B5 (AF (AC ?_)))))
   obtain ⟨x2, hx2⟩ : ∃ x, ls[i]? = some x := ⟨_, List.getElem?_eq_getElem (by rw [hls]; omega)⟩
   obtain ⟨bz2, oz2, hz2, hm2⟩ := F6 FH (by decide) hs hx2
   refine AA (Ptr bz2 (49*i + oz2)) (DI 161 49 (49*i + oz2) CK BY rfl hz2 rfl (by omega) (by omega) (by omega)) rfl ?_
   refine AA (.agg ([U64 x2.e] ++ cu8 x2.d ++ cu8 x2.t).toArray) (AL rfl (BR DN BY (by simp [x2.hd, x2.ht]) (C9 (hm2.mem (by simp)) (AN _) (by first | omega | (simp; done) | (simp; omega))))) rfl ?_
   refine A2 (C4 _ ([U64 0] ++ cu8 (zr8 32) ++ cu8 (zr8 16)) Tryd.zeroValue161 (by kernel_rfl)) rfl ?_
   rintro v1 L1 ⟨nb7, hnb7, rfl, rfl⟩
   show JL _ _ _ _ (_ :: _) [_, _, _, _, _]
   refine A7 (BS 4 nb7 49 _ 161 ([U64 x2.e] ++ cu8 x2.d ++ cu8 x2.t) rfl rfl rfl BY (by simp [x2.hd, x2.ht]) (B0 (B0 (by simp [Value.oneCell']) CZ) CZ) (by simp [(AO 32), (AO 16)]) (BW (by simp [(AO 32), (AO 16), x2.hd, x2.ht]))) rfl ?_
   show JL _ _ _ _ _ [_, _, _, _, _]
   refine AJ (AD (DB 29 5 [(0, Ptr nb3 2), (1, Slc gb 0 i cp), (2, .agg ([U64 x2.e] ++ cu8 x2.d ++ cu8 x2.t).toArray)] B6 rfl (by decide +kernel) ?_))
   refine EI ⟨[], [0, 1, 2], [], [0, 1, 2], [3]⟩ 3 rfl rfl (by decide +kernel) rfl ⟨AP rfl rfl (AB 2 34 1 CT rfl EN rfl rfl), AP rfl rfl (AL rfl (AX Tryd.isAgg34 (AR 2 rfl (AH (AH (Seg.head)))))), AP rfl rfl (AL rfl (BR DN BY (by simp [x2.hd, x2.ht]) (AR 4 rfl (AN _)))), trivial⟩ rfl (BO rfl (A3 93 _ (.agg ([U64 x2.e] ++ cu8 x2.d ++ cu8 x2.t).toArray) (AV _ Tryd.call93 rfl) (fun w1 hw1 => doc7_c x2.e x2.d x2.t w1 x2.hd x2.ht))) ?_
   show DP _ _ _ _ _ _ _ _ [_, _, _, _, _]
   refine C2 ⟨[3], [0, 1, 2], [2], [0, 1], [4]⟩ 4 _ rfl rfl (by decide +kernel) rfl ⟨AP rfl rfl (AB 2 34 1 CT rfl EN rfl rfl), AP rfl rfl (AL rfl (AX Tryd.isAgg34 (AR 2 rfl (AH (AH (Seg.head)))))), trivial⟩ rfl (BO rfl (DF 164 49 _ [(0, .agg ([U64 x2.e] ++ cu8 x2.d ++ cu8 x2.t).toArray)] ([U64 x2.e] ++ cu8 x2.d ++ cu8 x2.t) EY Tryd.sizeOf164 Tryd.zeroValue164 rfl rfl rfl (fill_one (Z := [U64 0] ++ cu8 (zr8 32) ++ cu8 (zr8 16)) (by simp [x2.hd, x2.ht]) (by kernel_rfl) (by simp [zr8])))) ?_
   rintro v1 L1 ⟨nb8, hnb8, rfl, rfl⟩
   refine ⟨[], ?_⟩
   show DP _ _ _ _ _ _ _ _ [_, _, _, _, _, (Ez nb8 ([U64 x2.e] ++ cu8 x2.d ++ cu8 x2.t) 164)]
   refine C2 ⟨[3, 4], [0, 1, 2], [2], [0, 1], [5]⟩ 5 _ rfl rfl (by decide +kernel) rfl ⟨AP rfl rfl (AB 2 34 1 CT rfl EN rfl rfl), AP rfl rfl (AL rfl (AX Tryd.isAgg34 (AR 2 rfl (AH (AH (Seg.head)))))), trivial⟩ rfl (BO rfl (Step_appS 34 164 56 (.agg ([U64 0] ++ cu8 (zr8 32) ++ cu8 (zr8 16)).toArray) [false, false, false, true, false, false] (Slc gb 0 i cp) i rr x2 (some ⟨nb8, 0, none⟩) 1 (i + 1) EY (by kernel_rfl) (by kernel_rfl) rfl (.inr ⟨gb, sp, cp, rfl, rfl, (by have h : (rr).length = i := hi4; omega), (by first | exact hi5 | omega), (by omega), (by omega)⟩) rfl (SrcAt.mem (AR 5 rfl (AN _))) (by omega) (by unfold maxLen; omega) (by omega))) ?_
   rintro v1 L1 ⟨nb9, sp2, cp2, hg2, rfl, rfl, ha5, ha6, ha7, ha8⟩
   refine ⟨[(6, Ptr nb3 2)], ?_⟩
   show DP _ _ _ _ _ _ _ _ [_, _, _, _, _, (Ez nb9 ((rr ++ [x2]).flatMap sealC ++ sp2) 164)]
   refine EI ⟨[3, 4, 5], [0, 1, 2, 6], [0, 1, 2], [6], [7]⟩ 7 rfl rfl (by decide +kernel) rfl ⟨AP rfl rfl (AB 2 34 1 CT rfl EN rfl rfl), trivial⟩ rfl (BO rfl (C0 2 nb3 2 1 _ 36 (Slc nb9 0 (i + 1) cp2) ([Slc nb9 0 (i + 1) cp2]) ([I64 (kd), SL ai ni ci, Slc nb9 0 (i + 1) cp2, U64 bl]) rfl rfl rfl rfl EN rfl (by simp [Value.oneCell']) (Nat.le_of_ble_eq_true rfl) (rfl))) ?_
   show DP _ _ _ _ _ _ _ _ [_, _, (Ez nb3 [I64 (kd), SL ai ni ci, Slc nb9 0 (i + 1) cp2, U64 bl] 36), _, _, _]
   refine DR ⟨[3, 4, 5, 7], [0, 1, 2, 6], [0, 1, 2, 6], [], []⟩ rfl rfl (by decide +kernel) rfl trivial ?_
   refine C5 (F' := [(20, Ptr nb3 2), (21, Slc gb 0 i cp), (22, .agg ([U64 x2.e] ++ cu8 x2.d ++ cu8 x2.t).toArray), (23, .agg ([U64 x2.e] ++ cu8 x2.d ++ cu8 x2.t).toArray), (24, Slc nb8 0 1 1), (25, Slc nb9 0 (i + 1) cp2), (26, Ptr nb3 2), (2, Ptr nb2 0), (3, Ptr nb3 0), (14, SL sa ns sc), (15, I64 ns), (16, I64 i), (17, .bool (decide (((i:Int)) < ((ns:Int))))), (18, Ptr bz2 (49*i + oz2)), (19, .agg ([U64 x2.e] ++ cu8 x2.d ++ cu8 x2.t).toArray), (5, Ptr nb7 0)]) (by kernel_rfl) ?_
   refine BU (AD (AC (AA (I64 ((i:Int) + 1)) (AT rfl rfl fun _ => DK _ _ ((i:Int) + 1) (by omega) (by omega)) rfl ?_)))
   refine AA _ (AG rfl) rfl ?_
   refine AJ (DU (CD [true, true, true, false, false, true] ?_))
   show K _ _ [_, _, _, _] _
   refine EZ (.inr (i + 1, rr ++ [x2], nb9, sp2, cp2)) ⟨by omega, by omega, (by rw [hi3]; exact take_step hx2), (ha5).trans (by first | rfl | simp +arith), (ha6).trans (by first | rfl | simp +arith), by omega, by omega⟩ (by first | (simp; omega) | simp | (dsimp only; omega) | omega) (Sub.all rfl) rfl
  ·
   have hp2 : ¬ (((i:Int)) < ((ns:Int))) := of_decide_eq_false hb2
   refine EF (BC (BC (CX (AD (AF (AC (AA _ (AL rfl (BR Tryd.isAgg36 DT rfl (AR 2 rfl (AN _)))) rfl ?_)))))))
   refine A7 (BS 1 nb2 4 _ 36 ([I64 (kd), SL ai ni ci, Slc gb 0 i cp, U64 bl]) rfl rfl rfl DT rfl (by simp [Value.oneCell']) (Nat.le_of_ble_eq_true rfl) (BW (by simp []))) rfl ?_
   show JL _ _ _ _ _ [_, _, _, _]
   refine AJ (AD (BK (BJ (.agg #[I64 (kd), SL ai ni ci, Slc gb 0 i cp, U64 bl]) (res1 Tryd.results66 (DQ rfl (BR Tryd.isAgg36 DT rfl (AR 1 rfl (AN _))))) fun w1 hw1 => ?_)))
   obtain rfl : i = ns := by omega
   have hr : rr = ls := by rw [hi3]; exact List.take_of_length_le (by omega)
   exact ⟨_, _, rfl, ⟨gb, _, _, (some ⟨gb, 0, none⟩), cp, rfl, rfl, .inr ⟨rfl, _, by rw [hr]⟩, by omega, hi7⟩, Hp.one hw1 3 rfl⟩
theorem docH_c (pv ep : UInt64) (kd : Int) (ai : Option Addr) (ni ci : Nat) (l : List UInt64) (sa : Option Addr) (ns sc : Nat) (ls : List SealR) (bl : UInt64) (tg : List UInt8)  (w : World) (hl : l.length = ni) (hnm : ni ≤ 2000000) (hnc : ni ≤ ci) (hcm : ci ≤ maxLen) (hv : RdV w ai (cu64 l)) (hls : ls.length = ns) (hnn : ns ≤ 2000000) (hnd : ns ≤ sc) (hcn : sc ≤ maxLen) (hs : RdV w sa (ls.flatMap sealC)) (htg : tg.length = 16)  : Calls Tryd.prog 44 #[.agg (V2 pv ep (kd) ai ni ci sa ns sc bl tg).toArray] w (Post w [] (fun v L => ∃ g cs T a c, v = .agg (V2 pv ep kd ai ni ci a ns c bl tg).toArray ∧ L = [(Ez g cs T)] ∧ Gh (ls.flatMap sealC) g cs a ∧ ns ≤ c ∧ c ≤ maxLen)) := by
 have hmx : maxLen = 9223372036854775807 := rfl
 refine enter (P := Tryd.prog) (f := 44) (fn := Tryd.f44) w [] 13 [] [.agg (V2 pv ep (kd) ai ni ci sa ns sc bl tg).toArray] Tryd.func44 rfl rfl (by simp) (BZ (by simp) (by simp) (by simp)) ?_
 show JC _ _ _ [(0, .agg (V2 pv ep (kd) ai ni ci sa ns sc bl tg).toArray)] _
 refine AF (AC (A2 (CN (.agg (V2 pv ep (kd) ai ni ci sa ns sc bl tg).toArray) (V2 pv ep (kd) ai ni ci sa ns sc bl tg) rfl (by first | rfl | simp)) rfl ?_))
 rintro v1 L1 ⟨nb1, hnb1, rfl, rfl⟩
 show JL _ _ _ _ (_ :: _) [_]
 refine A2 (C4 _ (V5) Tryd.zeroValue38 (by kernel_rfl)) rfl ?_
 rintro v1 L1 ⟨nb2, hnb2, rfl, rfl⟩
 show JL _ _ _ _ (_ :: _) [_, _]
 refine AJ (AD (AF (DB 13 3 [(0, Ptr nb1 0), (1, U64 pv), (2, Ptr nb1 1), (3, U64 ep), (4, Ptr nb1 2), (5, .agg #[I64 (kd), SL ai ni ci, SL sa ns sc, U64 bl]), (7, Ptr nb1 6), (8, .agg (cu8 tg).toArray)] B6 rfl (by decide +kernel) ?_)))
 refine C2 ⟨[], [0, 1, 2, 3, 4, 5, 7, 8], [], [0, 1, 2, 3, 4, 5, 7, 8], [6]⟩ 6 _ rfl rfl (by decide +kernel) rfl ⟨AP rfl rfl (AB 0 22 1 AQ rfl A1 rfl rfl), AP rfl rfl (AL rfl (AX A8 (AR 0 rfl (AI (Seg.head))))), AP rfl rfl (AB 1 22 1 AQ rfl A1 rfl rfl), AP rfl rfl (AL rfl (AX A8 (AR 0 rfl (AI (AH (Seg.head)))))), AP rfl rfl (AB 2 26 4 AQ rfl BE rfl rfl), AP rfl rfl (AL rfl (BR D5 BE rfl (AR 0 rfl (DL (p := [U64 pv, U64 ep]) (q := cu8 tg) (vs := (V4 (kd) ai ni ci sa ns sc bl)) (by first | rfl | (simp only [List.append_assoc, List.nil_append, List.append_nil, List.cons_append]; done)) rfl)))), AP rfl rfl (AB 6 27 16 AQ rfl B3 rfl rfl), AP rfl rfl (AL rfl (BR EQ B3 (EJ htg) (AR 0 rfl (Seg.right 6 0 rfl rfl (AN _))))), trivial⟩ rfl (BO rfl (C6 66 _ _ (AV _ Tryd.call66 rfl) (fun w1 hw1 => ordG_c (kd) ai ni ci l sa ns sc ls bl w1 hl (by omega) (by omega) (by omega) (CF hw1 rfl hv) hls (by omega) (by omega) (by omega) (CF hw1 rfl hs)))) ?_
 rintro v1 L1 ⟨_, ⟨ng1, cs1, nT1, na1, nc1, rfl, rfl, hc1, hc2, hc3⟩, rfl⟩
 refine ⟨[(9, .agg (V2 pv ep (kd) ai ni ci na1 ns nc1 bl tg).toArray)], ?_⟩
 show DP _ _ _ _ _ _ _ _ [_, _, (Ez ng1 cs1 nT1)]
 refine EI ⟨[6], [0, 1, 2, 3, 4, 5, 7, 8, 9], [4, 5], [0, 1, 2, 3, 7, 8, 9], [10]⟩ 10 rfl rfl (by decide +kernel) rfl ⟨AP rfl rfl (AB 0 22 1 AQ rfl A1 rfl rfl), AP rfl rfl (AL rfl (AX A8 (AR 0 rfl (AI (Seg.head))))), AP rfl rfl (AB 1 22 1 AQ rfl A1 rfl rfl), AP rfl rfl (AL rfl (AX A8 (AR 0 rfl (AI (AH (Seg.head)))))), AP rfl rfl (AB 6 27 16 AQ rfl B3 rfl rfl), AP rfl rfl (AL rfl (BR EQ B3 (EJ htg) (AR 0 rfl (Seg.right 6 0 rfl rfl (AN _))))), AP rfl rfl (CY [(0, U64 pv), (1, U64 ep), (2, .agg #[I64 (kd), SL ai ni ci, SL na1 ns nc1, U64 bl]), (3, .agg (cu8 tg).toArray)] _ rfl (fun _ => bld38_0123 rfl rfl (by simp [AO]) (by simp [AO, htg]))), trivial⟩ rfl (BO rfl (BS 1 nb2 22 _ 38 (V2 pv ep (kd) ai ni ci na1 ns nc1 bl tg) rfl rfl rfl Tryd.sizeOf38 (by simp [htg]) (B0 (by simp [Value.oneCell']) CZ) (by simp [(AO 16)]) (BW (by simp [(AO 16), htg])))) ?_
 show DP _ _ _ _ _ _ _ _ [_, (Ez nb2 (V2 pv ep (kd) ai ni ci na1 ns nc1 bl tg) 38), _]
 refine DR ⟨[6, 10], [0, 1, 2, 3, 4, 5, 7, 8, 9], [0, 1, 2, 3, 4, 5, 7, 8, 9], [], []⟩ rfl rfl (by decide +kernel) rfl trivial ?_
 refine C5 (F' := [(2, Ptr nb2 0)]) (by kernel_rfl) ?_
 refine AD (BK (BJ (.agg (V2 pv ep (kd) ai ni ci na1 ns nc1 bl tg).toArray) (res1 Tryd.results44 (DQ rfl (BR Tryd.isAgg38 Tryd.sizeOf38 (by simp [htg]) (AR 1 rfl (AN _))))) fun w1 hw1 => ?_))
 exact ⟨_, _, rfl, ⟨_, _, _, _, _, rfl, rfl, hc1, by omega, by omega⟩, Hp.one hw1 2 rfl⟩
theorem reqH_c (sq : UInt64) (qk : Int) (aiq : Option Addr) (niq ciq : Nat) (lq : List UInt64) (fs : UInt64) (mn : Int) (pv ep : UInt64) (kd : Int) (ai : Option Addr) (ni ci : Nat) (l : List UInt64) (sa : Option Addr) (ns sc : Nat) (ls : List SealR) (bl : UInt64) (tg : List UInt8) (eq : UInt64)  (w : World) (hlq : lq.length = niq) (hnmq : niq ≤ 2000000) (hncq : niq ≤ ciq) (hcmq : ciq ≤ maxLen) (hvq : RdV w aiq (cu64 lq)) (hl : l.length = ni) (hnm : ni ≤ 2000000) (hnc : ni ≤ ci) (hcm : ci ≤ maxLen) (hv : RdV w ai (cu64 l)) (hls : ls.length = ns) (hnn : ns ≤ 2000000) (hnd : ns ≤ sc) (hcn : sc ≤ maxLen) (hs : RdV w sa (ls.flatMap sealC)) (htg : tg.length = 16)  : Calls Tryd.prog 19 #[.agg (V1 sq (qk) aiq niq ciq fs (mn) pv ep (kd) ai ni ci sa ns sc bl tg eq).toArray] w (Post w [] (fun v L => ∃ g cs T a c, v = .agg (V1 sq qk aiq niq ciq fs mn pv ep kd ai ni ci a ns c bl tg eq).toArray ∧ L = [(Ez g cs T)] ∧ Gh (ls.flatMap sealC) g cs a ∧ ns ≤ c ∧ c ≤ maxLen)) := by
 have hmx : maxLen = 9223372036854775807 := rfl
 refine enter (P := Tryd.prog) (f := 19) (fn := Tryd.f19) w [] 19 [] [.agg (V1 sq (qk) aiq niq ciq fs (mn) pv ep (kd) ai ni ci sa ns sc bl tg eq).toArray] Tryd.func19 rfl rfl (by simp) (BZ (by simp) (by simp) (by simp)) ?_
 show JC _ _ _ [(0, .agg (V1 sq (qk) aiq niq ciq fs (mn) pv ep (kd) ai ni ci sa ns sc bl tg eq).toArray)] _
 refine AF (AC (A2 (CN (.agg (V1 sq (qk) aiq niq ciq fs (mn) pv ep (kd) ai ni ci sa ns sc bl tg eq).toArray) (V1 sq (qk) aiq niq ciq fs (mn) pv ep (kd) ai ni ci sa ns sc bl tg eq) rfl (by first | rfl | simp)) rfl ?_))
 rintro v1 L1 ⟨nb1, hnb1, rfl, rfl⟩
 show JL _ _ _ _ (_ :: _) [_]
 refine A2 (C4 _ (V6) Tryd.zeroValue40 (by kernel_rfl)) rfl ?_
 rintro v1 L1 ⟨nb2, hnb2, rfl, rfl⟩
 show JL _ _ _ _ (_ :: _) [_, _]
 refine AJ (AD (AF (DB 19 3 [(0, Ptr nb1 0), (1, U64 sq), (2, Ptr nb1 1), (3, I64 (qk)), (4, Ptr nb1 2), (5, SL aiq niq ciq), (6, Ptr nb1 3), (7, U64 fs), (8, Ptr nb1 4), (9, I64 (mn)), (10, Ptr nb1 5), (11, .agg (V2 pv ep (kd) ai ni ci sa ns sc bl tg).toArray), (13, Ptr nb1 27), (14, U64 eq)] B6 rfl (by decide +kernel) ?_)))
 refine C2 ⟨[], [0, 1, 2, 3, 4, 5, 6, 7, 8, 9, 10, 11, 13, 14], [], [0, 1, 2, 3, 4, 5, 6, 7, 8, 9, 10, 11, 13, 14], [12]⟩ 12 _ rfl rfl (by decide +kernel) rfl ⟨AP rfl rfl (AB 0 22 1 AS rfl A1 rfl rfl), AP rfl rfl (AL rfl (AX A8 (AR 0 rfl (AI (AI (Seg.head)))))), AP rfl rfl (AB 1 3 1 AS rfl AW rfl rfl), AP rfl rfl (AL rfl (AX A0 (AR 0 rfl (AI (AI (AH (Seg.head))))))), AP rfl rfl (AB 2 23 1 AS rfl BV rfl rfl), AP rfl rfl (AL rfl (AX B4 (AR 0 rfl (AI (AI (AH (AH (Seg.head)))))))), AP rfl rfl (AB 3 22 1 AS rfl A1 rfl rfl), AP rfl rfl (AL rfl (AX A8 (AR 0 rfl (AI (AI (AH (AH (AH (Seg.head))))))))), AP rfl rfl (AB 4 3 1 AS rfl AW rfl rfl), AP rfl rfl (AL rfl (AX A0 (AR 0 rfl (AI (AI (AH (AH (AH (AH (Seg.head)))))))))), AP rfl rfl (AB 5 29 22 AS rfl BB rfl rfl), AP rfl rfl (AL rfl (BR CA BB (by simp [htg]) (AR 0 rfl (DL (p := [U64 sq, I64 (qk), SL aiq niq ciq, U64 fs, I64 (mn)]) (q := [U64 eq]) (vs := (V2 pv ep (kd) ai ni ci sa ns sc bl tg)) (by first | rfl | (simp only [List.append_assoc, List.nil_append, List.append_nil, List.cons_append]; done)) rfl)))), AP rfl rfl (AB 27 22 1 AS rfl A1 rfl rfl), AP rfl rfl (AL rfl (AX A8 (AR 0 rfl (Seg.right 27 0 (by simp [htg]) rfl (Seg.head))))), trivial⟩ rfl (BO rfl (C6 44 _ _ (AV _ Tryd.call44 rfl) (fun w1 hw1 => docH_c pv ep (kd) ai ni ci l sa ns sc ls bl tg w1 hl (by omega) (by omega) (by omega) (CF hw1 rfl hv) hls (by omega) (by omega) (by omega) (CF hw1 rfl hs) htg))) ?_
 rintro v1 L1 ⟨_, ⟨ng1, cs1, nT1, na1, nc1, rfl, rfl, hc1, hc2, hc3⟩, rfl⟩
 refine ⟨[(15, .agg (V1 sq (qk) aiq niq ciq fs (mn) pv ep (kd) ai ni ci na1 ns nc1 bl tg eq).toArray)], ?_⟩
 show DP _ _ _ _ _ _ _ _ [_, _, (Ez ng1 cs1 nT1)]
 refine EI ⟨[12], [0, 1, 2, 3, 4, 5, 6, 7, 8, 9, 10, 11, 13, 14, 15], [10, 11], [0, 1, 2, 3, 4, 5, 6, 7, 8, 9, 13, 14, 15], [16]⟩ 16 rfl rfl (by decide +kernel) rfl ⟨AP rfl rfl (AB 0 22 1 AS rfl A1 rfl rfl), AP rfl rfl (AL rfl (AX A8 (AR 0 rfl (AI (AI (Seg.head)))))), AP rfl rfl (AB 1 3 1 AS rfl AW rfl rfl), AP rfl rfl (AL rfl (AX A0 (AR 0 rfl (AI (AI (AH (Seg.head))))))), AP rfl rfl (AB 2 23 1 AS rfl BV rfl rfl), AP rfl rfl (AL rfl (AX B4 (AR 0 rfl (AI (AI (AH (AH (Seg.head)))))))), AP rfl rfl (AB 3 22 1 AS rfl A1 rfl rfl), AP rfl rfl (AL rfl (AX A8 (AR 0 rfl (AI (AI (AH (AH (AH (Seg.head))))))))), AP rfl rfl (AB 4 3 1 AS rfl AW rfl rfl), AP rfl rfl (AL rfl (AX A0 (AR 0 rfl (AI (AI (AH (AH (AH (AH (Seg.head)))))))))), AP rfl rfl (AB 27 22 1 AS rfl A1 rfl rfl), AP rfl rfl (AL rfl (AX A8 (AR 0 rfl (Seg.right 27 0 (by simp [htg]) rfl (Seg.head))))), AP rfl rfl (CY [(0, U64 sq), (1, I64 (qk)), (2, SL aiq niq ciq), (3, U64 fs), (4, I64 (mn)), (5, .agg (V2 pv ep (kd) ai ni ci na1 ns nc1 bl tg).toArray), (6, U64 eq)] _ rfl (fun _ => bld40_0123456 rfl rfl rfl rfl rfl (by simp [AO, htg]) rfl)), trivial⟩ rfl (BO rfl (BS 1 nb2 28 _ 40 (V1 sq (qk) aiq niq ciq fs (mn) pv ep (kd) ai ni ci na1 ns nc1 bl tg eq) rfl rfl rfl Tryd.sizeOf40 (by simp [htg]) (B0 (B0 (by simp [Value.oneCell']) CZ) (by simp [Value.oneCell'])) (by simp [(AO 16)]) (BW (by simp [(AO 16), htg])))) ?_
 show DP _ _ _ _ _ _ _ _ [_, (Ez nb2 (V1 sq (qk) aiq niq ciq fs (mn) pv ep (kd) ai ni ci na1 ns nc1 bl tg eq) 40), _]
 refine DR ⟨[12, 16], [0, 1, 2, 3, 4, 5, 6, 7, 8, 9, 10, 11, 13, 14, 15], [0, 1, 2, 3, 4, 5, 6, 7, 8, 9, 10, 11, 13, 14, 15], [], []⟩ rfl rfl (by decide +kernel) rfl trivial ?_
 refine C5 (F' := [(2, Ptr nb2 0)]) (by kernel_rfl) ?_
 refine AD (BK (BJ (.agg (V1 sq (qk) aiq niq ciq fs (mn) pv ep (kd) ai ni ci na1 ns nc1 bl tg eq).toArray) (res1 Tryd.results19 (DQ rfl (BR Tryd.isAgg40 Tryd.sizeOf40 (by simp [htg]) (AR 1 rfl (AN _))))) fun w1 hw1 => ?_))
 exact ⟨_, _, rfl, ⟨_, _, _, _, _, rfl, rfl, hc1, by omega, by omega⟩, Hp.one hw1 2 rfl⟩
theorem rsameT13_c (pv ep : UInt64) (kd : Int) (ai : Option Addr) (ni ci : Nat) (l : List UInt64) (sa : Option Addr) (ns sc : Nat) (ls : List SealR) (bl : UInt64) (tg : List UInt8) (ai2 : Option Addr) (ci2 : Nat) (sa2 : Option Addr) (sc2 : Nat)  (w : World) (hl : l.length = ni) (hnm : ni ≤ 2000000) (hnc : ni ≤ ci) (hcm : ci ≤ maxLen) (hv : RdV w ai (cu64 l)) (hls : ls.length = ns) (hnn : ns ≤ 2000000) (hnd : ns ≤ sc) (hcn : sc ≤ maxLen) (hs : RdV w sa (ls.flatMap sealC)) (htg : tg.length = 16) (hnc2 : ni ≤ ci2) (hcm2 : ci2 ≤ maxLen) (hv2 : RdV w ai2 (cu64 l)) (hnd2 : ns ≤ sc2) (hcn2 : sc2 ≤ maxLen) (hs2 : RdV w sa2 (ls.flatMap sealC))  : Calls Tryd.prog 51 #[.agg (V2 pv ep (kd) ai ni ci sa ns sc bl tg).toArray, .agg (V2 pv ep (kd) ai2 ni ci2 sa2 ns sc2 bl tg).toArray] w (Post w [] (fun v L => v = .bool true ∧ L = [])) := by
 have hmx : maxLen = 9223372036854775807 := rfl
 refine enter (P := Tryd.prog) (f := 51) (fn := Tryd.f51) w [] 108 [] [.agg (V2 pv ep (kd) ai ni ci sa ns sc bl tg).toArray, .agg (V2 pv ep (kd) ai2 ni ci2 sa2 ns sc2 bl tg).toArray] Tryd.func51 rfl rfl (by simp) (BZ (by simp) (by simp) (by simp)) ?_
 show JC _ _ _ [(0, .agg (V2 pv ep (kd) ai ni ci sa ns sc bl tg).toArray), (1, .agg (V2 pv ep (kd) ai2 ni ci2 sa2 ns sc2 bl tg).toArray)] _
 refine AF (AC (A2 (CN (.agg (V2 pv ep (kd) ai ni ci sa ns sc bl tg).toArray) (V2 pv ep (kd) ai ni ci sa ns sc bl tg) rfl (by first | rfl | simp)) rfl ?_))
 rintro v1 L1 ⟨nb1, hnb1, rfl, rfl⟩
 show JL _ _ _ _ (_ :: _) [_]
 refine A2 (CN (.agg (V2 pv ep (kd) ai2 ni ci2 sa2 ns sc2 bl tg).toArray) (V2 pv ep (kd) ai2 ni ci2 sa2 ns sc2 bl tg) rfl (by first | rfl | simp)) rfl ?_
 rintro v1 L1 ⟨nb2, hnb2, rfl, rfl⟩
 show JL _ _ _ _ (_ :: _) [_, _]
 refine AA _ (AE rfl) rfl ?_
 refine AJ (AD (AF (AF (AC (AA (Ptr nb1 0) (AB 0 22 1 C3 rfl A1 rfl rfl) rfl ?_)))))
 refine AA _ (AL rfl (AX A8 (AR 0 rfl (AI (Seg.head))))) rfl ?_
 refine AA (Ptr nb2 0) (AB 0 22 1 C3 rfl A1 rfl rfl) rfl (AA _ (AL rfl (AX A8 (AR 1 rfl (AI (Seg.head))))) rfl ?_)
 refine AA (.bool (decide (pv ≠ pv))) (AT rfl rfl fun _ => E3 pv pv) rfl ?_
 refine AA _ (AG rfl) rfl ?_
 refine AM 5 12 false _ (Ptr nb1 1) rfl rfl (decide_eq_false (fun h => h rfl)) (AB 1 22 1 C3 rfl A1 rfl rfl) rfl ?_
 refine AM 5 12 false _ (U64 ep) rfl rfl (decide_eq_false (fun h => h rfl)) (AL rfl (AX A8 (AR 0 rfl (AI (AH (Seg.head)))))) rfl ?_
 refine AM 5 12 false _ (Ptr nb2 1) rfl rfl (decide_eq_false (fun h => h rfl)) (AB 1 22 1 C3 rfl A1 rfl rfl) rfl ?_
 refine AM 5 12 false _ (U64 ep) rfl rfl (decide_eq_false (fun h => h rfl)) (AL rfl (AX A8 (AR 1 rfl (AI (AH (Seg.head)))))) rfl ?_
 refine AM 5 12 false _ (.bool (decide (ep ≠ ep))) rfl rfl (decide_eq_false (fun h => h rfl)) (AT rfl rfl fun _ => E3 ep ep) rfl ?_
 refine AA _ (A5 _ rfl (decide_eq_false (fun h => h rfl)) rfl) rfl ?_
 refine AA _ (AG rfl) rfl ?_
 refine AM 12 19 false _ (Ptr nb1 6) rfl rfl (decide_eq_false (fun h => h rfl)) (AB 6 27 16 C3 rfl B3 rfl rfl) rfl ?_
 refine AM 12 19 false _ (.agg (cu8 tg).toArray) rfl rfl (decide_eq_false (fun h => h rfl)) (AL rfl (BR EQ B3 (EJ htg) (AR 0 rfl (Seg.right 6 0 rfl rfl (AN _))))) rfl ?_
 refine AM 12 19 false _ (Ptr nb2 6) rfl rfl (decide_eq_false (fun h => h rfl)) (AB 6 27 16 C3 rfl B3 rfl rfl) rfl ?_
 refine AM 12 19 false _ (.agg (cu8 tg).toArray) rfl rfl (decide_eq_false (fun h => h rfl)) (AL rfl (BR EQ B3 (EJ htg) (AR 1 rfl (Seg.right 6 0 rfl rfl (AN _))))) rfl ?_
 refine AM 12 19 false _ (.bool (!(decide (tg = tg)))) rfl rfl (decide_eq_false (fun h => h rfl)) (DM _ _ _ rfl rfl (fun _ => FY _ _ _ _ _ _ (by kernel_rfl)) fun _ => neq_arr8 B1 CO EP FA FU (by simp [htg]) (by simp [htg])) rfl ?_
 refine AA _ (A5 _ rfl (decide_eq_false (fun h => h rfl)) rfl) rfl ?_
 refine AA _ (AG rfl) rfl ?_
 refine AM 19 26 false _ (Ptr nb1 2) rfl rfl (bnotT (decide_eq_true (by simp))) (AB 2 36 4 C3 rfl DT rfl rfl) rfl ?_
 refine AM 19 26 false _ (Ptr nb1 2) rfl rfl (bnotT (decide_eq_true (by simp))) (AB 0 3 1 CT rfl AW rfl rfl) rfl ?_
 refine AM 19 26 false _ (I64 (kd)) rfl rfl (bnotT (decide_eq_true (by simp))) (AL rfl (AX A0 (AR 0 rfl (AI (AH (AH (Seg.head))))))) rfl ?_
 refine AM 19 26 false _ (Ptr nb2 2) rfl rfl (bnotT (decide_eq_true (by simp))) (AB 2 36 4 C3 rfl DT rfl rfl) rfl ?_
 refine AM 19 26 false _ (Ptr nb2 2) rfl rfl (bnotT (decide_eq_true (by simp))) (AB 0 3 1 CT rfl AW rfl rfl) rfl ?_
 refine AM 19 26 false _ (I64 (kd)) rfl rfl (bnotT (decide_eq_true (by simp))) (AL rfl (AX A0 (AR 1 rfl (AI (AH (AH (Seg.head))))))) rfl ?_
 refine AM 19 26 false _ (.bool (decide ((kd) ≠ (kd)))) rfl rfl (bnotT (decide_eq_true (by simp))) (AT rfl rfl fun _ => E8 _ _) rfl ?_
 refine AA _ (A5 _ rfl (bnotT (decide_eq_true (by simp))) rfl) rfl (AA _ (AG rfl) rfl ?_)
 refine AM 28 35 false _ (Ptr nb1 2) rfl rfl (by simp) (AB 2 36 4 C3 rfl DT rfl rfl) rfl ?_
 refine AM 28 35 false _ (Ptr nb1 5) rfl rfl (by simp) (AB 3 22 1 CT rfl A1 rfl rfl) rfl ?_
 refine AM 28 35 false _ _ rfl rfl (by simp) (AL rfl (AX A8 (AR 0 rfl (AI (AH (AH (AH (AH (AH (Seg.head)))))))))) rfl ?_
 refine AM 28 35 false _ (Ptr nb2 2) rfl rfl (by simp) (AB 2 36 4 C3 rfl DT rfl rfl) rfl ?_
 refine AM 28 35 false _ (Ptr nb2 5) rfl rfl (by simp) (AB 3 22 1 CT rfl A1 rfl rfl) rfl ?_
 refine AM 28 35 false _ _ rfl rfl (by simp) (AL rfl (AX A8 (AR 1 rfl (AI (AH (AH (AH (AH (AH (Seg.head)))))))))) rfl ?_
 refine AM 28 35 false _ (.bool (decide (bl ≠ bl))) rfl rfl (by simp) (AT rfl rfl fun _ => E3 bl bl) rfl ?_
 refine AA _ (A5 _ rfl (by simp) rfl) rfl (AA _ (AG rfl) rfl ?_)
 refine AM 37 44 false _ (Ptr nb1 2) rfl rfl (decide_eq_false (fun h => h rfl)) (AB 2 36 4 C3 rfl DT rfl rfl) rfl ?_
 refine AM 37 44 false _ (Ptr nb1 3) rfl rfl (decide_eq_false (fun h => h rfl)) (AB 1 23 1 CT rfl BV rfl rfl) rfl ?_
 refine AM 37 44 false _ (SL ai ni ci) rfl rfl (decide_eq_false (fun h => h rfl)) (AL rfl (AX B4 (AR 0 rfl (AI (AH (AH (AH (Seg.head)))))))) rfl ?_
 refine AM 37 44 false _ (I64 ni) rfl rfl (decide_eq_false (fun h => h rfl)) (DA BL rfl) rfl ?_
 refine AM 37 44 false _ (Ptr nb2 2) rfl rfl (decide_eq_false (fun h => h rfl)) (AB 2 36 4 C3 rfl DT rfl rfl) rfl ?_
 refine AM 37 44 false _ (Ptr nb2 3) rfl rfl (decide_eq_false (fun h => h rfl)) (AB 1 23 1 CT rfl BV rfl rfl) rfl ?_
 refine AM 37 44 false _ (SL ai2 ni ci2) rfl rfl (decide_eq_false (fun h => h rfl)) (AL rfl (AX B4 (AR 1 rfl (AI (AH (AH (AH (Seg.head)))))))) rfl ?_
 refine AM 37 44 false _ (I64 ni) rfl rfl (decide_eq_false (fun h => h rfl)) (DA BL rfl) rfl ?_
 refine AM 37 44 false _ (.bool (decide (((ni:Int)) ≠ ((ni:Int))))) rfl rfl (decide_eq_false (fun h => h rfl)) (AT rfl rfl fun _ => E8 _ _) rfl ?_
 refine AA _ (A5 _ rfl (decide_eq_false (fun h => h rfl)) rfl) rfl ?_
 refine AA _ (AG rfl) rfl ?_
 refine AM 48 55 false _ (Ptr nb1 2) rfl rfl (by simp) (AB 2 36 4 C3 rfl DT rfl rfl) rfl ?_
 refine AM 48 55 false _ (Ptr nb1 4) rfl rfl (by simp) (AB 2 34 1 CT rfl EN rfl rfl) rfl ?_
 refine AM 48 55 false _ _ rfl rfl (by simp) (AL rfl (AX Tryd.isAgg34 (AR 0 rfl (AI (AH (AH (AH (AH (Seg.head))))))))) rfl ?_
 refine AM 48 55 false _ (I64 ns) rfl rfl (by simp) (DA EY rfl) rfl ?_
 refine AM 48 55 false _ (Ptr nb2 2) rfl rfl (by simp) (AB 2 36 4 C3 rfl DT rfl rfl) rfl ?_
 refine AM 48 55 false _ (Ptr nb2 4) rfl rfl (by simp) (AB 2 34 1 CT rfl EN rfl rfl) rfl ?_
 refine AM 48 55 false _ _ rfl rfl (by simp) (AL rfl (AX Tryd.isAgg34 (AR 1 rfl (AI (AH (AH (AH (AH (Seg.head))))))))) rfl ?_
 refine AM 48 55 false _ (I64 ns) rfl rfl (by simp) (DA EY rfl) rfl ?_
 refine AM 48 55 false _ (.bool (decide (((ns:Int)) ≠ ((ns:Int))))) rfl rfl (by simp) (AT rfl rfl fun _ => E8 _ _) rfl ?_
 refine AA _ (A5 _ rfl (by simp) rfl) rfl ?_
 refine AJ (AD (BT _ rfl (by simp) ?_))
 refine BH (AD (AF (AF (AC (AA _ (AE rfl) rfl ?_)))))
 refine AJ (AD (B5 (EO (ι := Nat) (fun i => [(2, Ptr nb1 0), (3, Ptr nb2 0), (5, I64 i)]) (fun i => [(Ez nb1 (V2 pv ep (kd) ai ni ci sa ns sc bl tg) 38), (Ez nb2 (V2 pv ep (kd) ai2 ni ci2 sa2 ns sc2 bl tg) 38)]) (fun i => i ≤ ni) (fun i => ni - i) 0 (by omega) (Sub.all rfl) rfl ?_)))
 rintro i hxi
 show JC _ _ _ [_, _, _] [_, _]
 refine AF (AF (AC (AA _ (AG rfl) rfl ?_)))
 refine AA (Ptr nb1 2) (AB 2 36 4 C3 rfl DT rfl rfl) rfl ?_
 refine AA (Ptr nb1 3) (AB 1 23 1 CT rfl BV rfl rfl) rfl (AA _ (AL rfl (AX B4 (AR 0 rfl (AI (AH (AH (AH (Seg.head)))))))) rfl ?_)
 refine AA (I64 ni) (DA BL rfl) rfl ?_
 refine AA (.bool (decide (((i:Int)) < ((ni:Int))))) (AT rfl rfl fun _ => CL _ _) rfl ?_
 refine AJ (AD (CC (decide (((i:Int)) < ((ni:Int)))) rfl (fun hb1 => ?_) (fun hb1 => ?_)))
 ·
  have hp1 : ((i:Int)) < ((ni:Int)) := of_decide_eq_true hb1
  refine BH (AD (AF (B5 (AF ?_))))
  obtain ⟨bz1, oz1, hz1, hm1⟩ := RdV.pos hv (by rw [FS, hl]; omega)
  obtain ⟨bz2, oz2, hz2, hm2⟩ := RdV.pos hv2 (by rw [FS, hl]; omega)
  refine DB 108 1 [(0, Ptr nb1 2), (1, Ptr nb1 3), (2, SL ai ni ci), (3, I64 i), (4, Ptr bz1 (i + oz1)), (5, U64 (g64 l i)), (6, Ptr nb2 2), (7, Ptr nb2 3), (8, SL ai2 ni ci2), (9, I64 i), (10, Ptr bz2 (i + oz2)), (11, U64 (g64 l i)), (12, .bool (decide ((g64 l i) ≠ (g64 l i))))] B6 rfl (by decide +kernel) ?_
  refine DR ⟨[], [0, 1, 2, 3, 4, 5, 6, 7, 8, 9, 10, 11, 12], [], [0, 1, 2, 3, 4, 5, 6, 7, 8, 9, 10, 11, 12], []⟩ rfl rfl (by decide +kernel) rfl ⟨AP rfl rfl (AB 2 36 4 C3 rfl DT rfl rfl), AP rfl rfl (AB 1 23 1 CT rfl BV rfl rfl), AP rfl rfl (AL rfl (AX B4 (AR 0 rfl (AI (AH (AH (AH (Seg.head)))))))), CB rfl rfl rfl, AP rfl rfl (DI 22 1 (i + oz1) BL A1 rfl hz1 rfl (by omega) (by omega) (by omega)), AP rfl rfl (AL rfl (AX A8 (C9 (hm1.mem (by simp)) (Seg.get (g64_get (i := i) (by rw [hl]; omega))) (by first | omega | (simp; done) | (simp; omega))))), AP rfl rfl (AB 2 36 4 C3 rfl DT rfl rfl), AP rfl rfl (AB 1 23 1 CT rfl BV rfl rfl), AP rfl rfl (AL rfl (AX B4 (AR 1 rfl (AI (AH (AH (AH (Seg.head)))))))), CB rfl rfl rfl, AP rfl rfl (DI 22 1 (i + oz2) BL A1 rfl hz2 rfl (by omega) (by omega) (by omega)), AP rfl rfl (AL rfl (AX A8 (C9 (hm2.mem (by simp)) (Seg.get (g64_get (i := i) (by rw [hl]; omega))) (by first | omega | (simp; done) | (simp; omega))))), AP rfl rfl (AT rfl rfl fun _ => E3 (g64 l i) (g64 l i)), trivial⟩ ?_
  refine C5 (F' := [(74, Ptr nb1 2), (75, Ptr nb1 3), (76, SL ai ni ci), (77, I64 i), (78, Ptr bz1 (i + oz1)), (79, U64 (g64 l i)), (80, Ptr nb2 2), (81, Ptr nb2 3), (82, SL ai2 ni ci2), (83, I64 i), (84, Ptr bz2 (i + oz2)), (85, U64 (g64 l i)), (86, .bool (decide ((g64 l i) ≠ (g64 l i)))), (2, Ptr nb1 0), (3, Ptr nb2 0), (5, I64 i), (66, I64 i), (67, Ptr nb1 2), (68, Ptr nb1 3), (69, SL ai ni ci), (70, I64 ni), (71, .bool (decide (((i:Int)) < ((ni:Int)))))]) (by kernel_rfl) ?_
  refine AD (BT _ rfl (decide_eq_false (fun h => h rfl)) ?_)
  refine BH (BU (AD (AC (AA _ (AG rfl) rfl ?_))))
  refine AA (I64 ((i:Int) + 1)) (AT rfl rfl fun _ => DK _ _ ((i:Int) + 1) (by omega) (by omega)) rfl ?_
  refine AA _ (AE rfl) rfl ?_
  refine AJ (DU (EZ (i + 1) (by omega) (by omega) (Sub.all rfl) rfl))
 ·
  have hp1 : ¬ (((i:Int)) < ((ni:Int))) := of_decide_eq_false hb1
  refine EF (BC (BC (CX (AD (AF (AF (AC (AA _ (AE rfl) rfl ?_))))))))
  refine AJ (AD (B5 (EO (ι := Nat) (fun j => [(2, Ptr nb1 0), (3, Ptr nb2 0), (6, I64 j)]) (fun j => [(Ez nb1 (V2 pv ep (kd) ai ni ci sa ns sc bl tg) 38), (Ez nb2 (V2 pv ep (kd) ai2 ni ci2 sa2 ns sc2 bl tg) 38)]) (fun j => j ≤ ns) (fun j => ns - j) 0 (by omega) (Sub.all rfl) rfl ?_)))
  rintro j hxj
  show JC _ _ _ [_, _, _] [_, _]
  refine AF (AF (AC (AA _ (AG rfl) rfl ?_)))
  refine AA (Ptr nb1 2) (AB 2 36 4 C3 rfl DT rfl rfl) rfl ?_
  refine AA (Ptr nb1 4) (AB 2 34 1 CT rfl EN rfl rfl) rfl (AA _ (AL rfl (AX Tryd.isAgg34 (AR 0 rfl (AI (AH (AH (AH (AH (Seg.head))))))))) rfl ?_)
  refine AA (I64 ns) (DA EY rfl) rfl ?_
  refine AA (.bool (decide (((j:Int)) < ((ns:Int))))) (AT rfl rfl fun _ => CL _ _) rfl ?_
  refine AJ (AD (CC (decide (((j:Int)) < ((ns:Int)))) rfl (fun hb2 => ?_) (fun hb2 => ?_)))
  ·
   have hp2 : ((j:Int)) < ((ns:Int)) := of_decide_eq_true hb2
   refine BH (AD (AF (B5 (AF ?_))))
   obtain ⟨x1, hx1⟩ : ∃ x, ls[j]? = some x := ⟨_, List.getElem?_eq_getElem (by rw [hls]; omega)⟩
   obtain ⟨bz3, oz3, hz3, hm3⟩ := F6 FH (by decide) hs hx1
   obtain ⟨bz4, oz4, hz4, hm4⟩ := F6 FH (by decide) hs2 hx1
   refine DB 108 1 [(0, Ptr nb1 2), (1, Ptr nb1 4), (2, SL sa ns sc), (3, I64 j), (4, Ptr bz3 (49*j + oz3)), (5, .agg ([U64 x1.e] ++ cu8 x1.d ++ cu8 x1.t).toArray), (6, Ptr nb2 2), (7, Ptr nb2 4), (8, SL sa2 ns sc2), (9, I64 j), (10, Ptr bz4 (49*j + oz4)), (11, .agg ([U64 x1.e] ++ cu8 x1.d ++ cu8 x1.t).toArray), (12, .bool (!(decide (x1.e = x1.e ∧ x1.d = x1.d ∧ x1.t = x1.t))))] B6 rfl (by decide +kernel) ?_
   refine DR ⟨[], [0, 1, 2, 3, 4, 5, 6, 7, 8, 9, 10, 11, 12], [], [0, 1, 2, 3, 4, 5, 6, 7, 8, 9, 10, 11, 12], []⟩ rfl rfl (by decide +kernel) rfl ⟨AP rfl rfl (AB 2 36 4 C3 rfl DT rfl rfl), AP rfl rfl (AB 2 34 1 CT rfl EN rfl rfl), AP rfl rfl (AL rfl (AX Tryd.isAgg34 (AR 0 rfl (AI (AH (AH (AH (AH (Seg.head))))))))), CB rfl rfl rfl, AP rfl rfl (DI 164 49 (49*j + oz3) EY Tryd.sizeOf164 rfl hz3 rfl (by omega) (by omega) (by omega)), AP rfl rfl (AL rfl (BR Tryd.isAgg164 Tryd.sizeOf164 (by simp [x1.hd, x1.ht]) (C9 (hm3.mem (by simp)) (AN _) (by first | omega | (simp; done) | (simp; omega))))), AP rfl rfl (AB 2 36 4 C3 rfl DT rfl rfl), AP rfl rfl (AB 2 34 1 CT rfl EN rfl rfl), AP rfl rfl (AL rfl (AX Tryd.isAgg34 (AR 1 rfl (AI (AH (AH (AH (AH (Seg.head))))))))), CB rfl rfl rfl, AP rfl rfl (DI 164 49 (49*j + oz4) EY Tryd.sizeOf164 rfl hz4 rfl (by omega) (by omega) (by omega)), AP rfl rfl (AL rfl (BR Tryd.isAgg164 Tryd.sizeOf164 (by simp [x1.hd, x1.ht]) (C9 (hm4.mem (by simp)) (AN _) (by first | omega | (simp; done) | (simp; omega))))), AP rfl rfl (DM _ _ _ rfl rfl (fun _ => FY _ _ _ _ _ _ (by kernel_rfl)) (neq_struct (x1.e = x1.e ∧ x1.d = x1.d ∧ x1.t = x1.t) (EqV.struct (d := 9999) (by kernel_rfl) (by kernel_rfl) (by kernel_rfl) (EqRs.cons 22 0 (U64 x1.e) (U64 x1.e) _ _ _ (PartV.one A8 (AI (AI (Seg.head)))) (PartV.one A8 (AI (AI (Seg.head)))) (EqV.u64 (d := 9998) AU x1.e x1.e) (EqRs.cons 159 1 (.agg (cu8 x1.d).toArray) (.agg (cu8 x1.d).toArray) _ _ _ (PartV.agg Tryd.isAgg159 ER (FX (AI (Seg.right 1 0 rfl rfl (AN _))) (EJ x1.hd) (by omega))) (PartV.agg Tryd.isAgg159 ER (FX (AI (Seg.right 1 0 rfl rfl (AN _))) (EJ x1.hd) (by omega))) (EqV.arr8 (d := 9997) EC CO EP FA FU (by simp [x1.hd]) (by simp [x1.hd])) (EqRs.last 27 33 (.agg (cu8 x1.t).toArray) (.agg (cu8 x1.t).toArray) _ (PartV.agg EQ B3 (FX (Seg.right 33 0 (by simp [x1.hd]) rfl (AN _)) (EJ x1.ht) (by omega))) (PartV.agg EQ B3 (FX (Seg.right 33 0 (by simp [x1.hd]) rfl (AN _)) (EJ x1.ht) (by omega))) (EqV.arr8 (d := 9997) B1 CO EP FA FU (by simp [x1.ht]) (by simp [x1.ht])))))) (by first | rfl | (simp only [Bool.decide_and, Bool.and_assoc]; done) | (simp only [Bool.beq_eq_decide_eq, Bool.decide_and, Bool.and_assoc]; done) | (simp [Bool.and_assoc]; done)))), trivial⟩ ?_
   refine C5 (F' := [(95, Ptr nb1 2), (96, Ptr nb1 4), (97, SL sa ns sc), (98, I64 j), (99, Ptr bz3 (49*j + oz3)), (100, .agg ([U64 x1.e] ++ cu8 x1.d ++ cu8 x1.t).toArray), (101, Ptr nb2 2), (102, Ptr nb2 4), (103, SL sa2 ns sc2), (104, I64 j), (105, Ptr bz4 (49*j + oz4)), (106, .agg ([U64 x1.e] ++ cu8 x1.d ++ cu8 x1.t).toArray), (107, .bool (!(decide (x1.e = x1.e ∧ x1.d = x1.d ∧ x1.t = x1.t)))), (2, Ptr nb1 0), (3, Ptr nb2 0), (6, I64 j), (87, I64 j), (88, Ptr nb1 2), (89, Ptr nb1 4), (90, SL sa ns sc), (91, I64 ns), (92, .bool (decide (((j:Int)) < ((ns:Int)))))]) (by kernel_rfl) ?_
   refine AD (BT _ rfl (bnotT (decide_eq_true (by simp))) ?_)
   refine BH (BU (AD (AC (AA _ (AG rfl) rfl ?_))))
   refine AA (I64 ((j:Int) + 1)) (AT rfl rfl fun _ => DK _ _ ((j:Int) + 1) (by omega) (by omega)) rfl ?_
   refine AA _ (AE rfl) rfl ?_
   refine AJ (DU (EZ (j + 1) (by omega) (by omega) (Sub.all rfl) rfl))
  ·
   have hp2 : ¬ (((j:Int)) < ((ns:Int))) := of_decide_eq_false hb2
   refine EF (BC (BC (CX (AD (AF (AC (AA _ (AE rfl) rfl ?_)))))))
   refine AJ (AD (BK (CD [false, false] ?_)))
   show JQ _ _ _ _ []
   refine BJ (.bool true) (res1 Tryd.results51 (BF rfl)) fun w1 hw1 => ?_
   exact ⟨_, [], rfl, ⟨rfl, rfl⟩, hw1.no⟩
theorem rsameReqT_c (sq : UInt64) (qk : Int) (aiq : Option Addr) (niq ciq : Nat) (lq : List UInt64) (fs : UInt64) (mn : Int) (pv ep : UInt64) (kd : Int) (ai : Option Addr) (ni ci : Nat) (l : List UInt64) (sa : Option Addr) (ns sc : Nat) (ls : List SealR) (bl : UInt64) (tg : List UInt8) (eq : UInt64) (aiq2 : Option Addr) (ciq2 : Nat) (ai2 : Option Addr) (ci2 : Nat) (sa2 : Option Addr) (sc2 : Nat)  (w : World) (hlq : lq.length = niq) (hnmq : niq ≤ 2000000) (hncq : niq ≤ ciq) (hcmq : ciq ≤ maxLen) (hvq : RdV w aiq (cu64 lq)) (hl : l.length = ni) (hnm : ni ≤ 2000000) (hnc : ni ≤ ci) (hcm : ci ≤ maxLen) (hv : RdV w ai (cu64 l)) (hls : ls.length = ns) (hnn : ns ≤ 2000000) (hnd : ns ≤ sc) (hcn : sc ≤ maxLen) (hs : RdV w sa (ls.flatMap sealC)) (htg : tg.length = 16) (hncq2 : niq ≤ ciq2) (hcmq2 : ciq2 ≤ maxLen) (hvq2 : RdV w aiq2 (cu64 lq)) (hnc2 : ni ≤ ci2) (hcm2 : ci2 ≤ maxLen) (hv2 : RdV w ai2 (cu64 l)) (hnd2 : ns ≤ sc2) (hcn2 : sc2 ≤ maxLen) (hs2 : RdV w sa2 (ls.flatMap sealC))  : Calls Tryd.prog 57 #[.agg (V1 sq (qk) aiq niq ciq fs (mn) pv ep (kd) ai ni ci sa ns sc bl tg eq).toArray, .agg (V1 sq (qk) aiq2 niq ciq2 fs (mn) pv ep (kd) ai2 ni ci2 sa2 ns sc2 bl tg eq).toArray] w (Post w [] (fun v L => v = .bool true ∧ L = [])) := by
 have hmx : maxLen = 9223372036854775807 := rfl
 refine enter (P := Tryd.prog) (f := 57) (fn := Tryd.f57) w [] 74 [] [.agg (V1 sq (qk) aiq niq ciq fs (mn) pv ep (kd) ai ni ci sa ns sc bl tg eq).toArray, .agg (V1 sq (qk) aiq2 niq ciq2 fs (mn) pv ep (kd) ai2 ni ci2 sa2 ns sc2 bl tg eq).toArray] Tryd.func57 rfl rfl (by simp) (BZ (by simp) (by simp) (by simp)) ?_
 show JC _ _ _ [(0, .agg (V1 sq (qk) aiq niq ciq fs (mn) pv ep (kd) ai ni ci sa ns sc bl tg eq).toArray), (1, .agg (V1 sq (qk) aiq2 niq ciq2 fs (mn) pv ep (kd) ai2 ni ci2 sa2 ns sc2 bl tg eq).toArray)] _
 refine AF (AC (A2 (CN (.agg (V1 sq (qk) aiq niq ciq fs (mn) pv ep (kd) ai ni ci sa ns sc bl tg eq).toArray) (V1 sq (qk) aiq niq ciq fs (mn) pv ep (kd) ai ni ci sa ns sc bl tg eq) rfl (by first | rfl | simp)) rfl ?_))
 rintro v1 L1 ⟨nb1, hnb1, rfl, rfl⟩
 show JL _ _ _ _ (_ :: _) [_]
 refine A2 (CN (.agg (V1 sq (qk) aiq2 niq ciq2 fs (mn) pv ep (kd) ai2 ni ci2 sa2 ns sc2 bl tg eq).toArray) (V1 sq (qk) aiq2 niq ciq2 fs (mn) pv ep (kd) ai2 ni ci2 sa2 ns sc2 bl tg eq) rfl (by first | rfl | simp)) rfl ?_
 rintro v1 L1 ⟨nb2, hnb2, rfl, rfl⟩
 show JL _ _ _ _ (_ :: _) [_, _]
 refine AA _ (AE rfl) rfl ?_
 refine AJ (AD (AF (AF (AC (AA (Ptr nb1 0) (AB 0 22 1 DE rfl A1 rfl rfl) rfl ?_)))))
 refine AA _ (AL rfl (AX A8 (AR 0 rfl (AI (AI (Seg.head)))))) rfl ?_
 refine AA (Ptr nb2 0) (AB 0 22 1 DE rfl A1 rfl rfl) rfl (AA _ (AL rfl (AX A8 (AR 1 rfl (AI (AI (Seg.head)))))) rfl ?_)
 refine AA (.bool (decide (sq ≠ sq))) (AT rfl rfl fun _ => E3 sq sq) rfl ?_
 refine AA _ (AG rfl) rfl ?_
 refine AM 5 11 false _ (Ptr nb1 1) rfl rfl (decide_eq_false (fun h => h rfl)) (AB 1 3 1 DE rfl AW rfl rfl) rfl ?_
 refine AM 5 11 false _ (I64 (qk)) rfl rfl (decide_eq_false (fun h => h rfl)) (AL rfl (AX A0 (AR 0 rfl (AI (AI (AH (Seg.head))))))) rfl ?_
 refine AM 5 11 false _ (Ptr nb2 1) rfl rfl (decide_eq_false (fun h => h rfl)) (AB 1 3 1 DE rfl AW rfl rfl) rfl ?_
 refine AM 5 11 false _ (I64 (qk)) rfl rfl (decide_eq_false (fun h => h rfl)) (AL rfl (AX A0 (AR 1 rfl (AI (AI (AH (Seg.head))))))) rfl ?_
 refine AM 5 11 false _ (.bool (decide ((qk) ≠ (qk)))) rfl rfl (decide_eq_false (fun h => h rfl)) (AT rfl rfl fun _ => E8 _ _) rfl ?_
 refine AA _ (A5 _ rfl (decide_eq_false (fun h => h rfl)) rfl) rfl ?_
 refine AA _ (AG rfl) rfl ?_
 refine AM 12 18 false _ (Ptr nb1 3) rfl rfl (by simp) (AB 3 22 1 DE rfl A1 rfl rfl) rfl ?_
 refine AM 12 18 false _ _ rfl rfl (by simp) (AL rfl (AX A8 (AR 0 rfl (AI (AI (AH (AH (AH (Seg.head))))))))) rfl ?_
 refine AM 12 18 false _ (Ptr nb2 3) rfl rfl (by simp) (AB 3 22 1 DE rfl A1 rfl rfl) rfl ?_
 refine AM 12 18 false _ _ rfl rfl (by simp) (AL rfl (AX A8 (AR 1 rfl (AI (AI (AH (AH (AH (Seg.head))))))))) rfl ?_
 refine AM 12 18 false _ (.bool (decide (fs ≠ fs))) rfl rfl (by simp) (AT rfl rfl fun _ => E3 fs fs) rfl ?_
 refine AA _ (A5 _ rfl (by simp) rfl) rfl (AA _ (AG rfl) rfl ?_)
 refine AM 19 25 false _ (Ptr nb1 4) rfl rfl (decide_eq_false (fun h => h rfl)) (AB 4 3 1 DE rfl AW rfl rfl) rfl ?_
 refine AM 19 25 false _ (I64 (mn)) rfl rfl (decide_eq_false (fun h => h rfl)) (AL rfl (AX A0 (AR 0 rfl (AI (AI (AH (AH (AH (AH (Seg.head)))))))))) rfl ?_
 refine AM 19 25 false _ (Ptr nb2 4) rfl rfl (decide_eq_false (fun h => h rfl)) (AB 4 3 1 DE rfl AW rfl rfl) rfl ?_
 refine AM 19 25 false _ (I64 (mn)) rfl rfl (decide_eq_false (fun h => h rfl)) (AL rfl (AX A0 (AR 1 rfl (AI (AI (AH (AH (AH (AH (Seg.head)))))))))) rfl ?_
 refine AM 19 25 false _ (.bool (decide ((mn) ≠ (mn)))) rfl rfl (decide_eq_false (fun h => h rfl)) (AT rfl rfl fun _ => E8 _ _) rfl ?_
 refine AA _ (A5 _ rfl (decide_eq_false (fun h => h rfl)) rfl) rfl ?_
 refine AA _ (AG rfl) rfl ?_
 refine AM 26 32 false _ (Ptr nb1 27) rfl rfl (by simp) (AB 27 22 1 DE rfl A1 rfl rfl) rfl ?_
 refine AM 26 32 false _ _ rfl rfl (by simp) (AL rfl (AX A8 (AR 0 rfl (Seg.right 27 0 (by simp [htg]) rfl (Seg.head))))) rfl ?_
 refine AM 26 32 false _ (Ptr nb2 27) rfl rfl (by simp) (AB 27 22 1 DE rfl A1 rfl rfl) rfl ?_
 refine AM 26 32 false _ _ rfl rfl (by simp) (AL rfl (AX A8 (AR 1 rfl (Seg.right 27 0 (by simp [htg]) rfl (Seg.head))))) rfl ?_
 refine AM 26 32 false _ (.bool (decide (eq ≠ eq))) rfl rfl (by simp) (AT rfl rfl fun _ => E3 eq eq) rfl ?_
 refine AA _ (A5 _ rfl (by simp) rfl) rfl (AA _ (AG rfl) rfl ?_)
 refine AM 33 39 false _ (Ptr nb1 5) rfl rfl (decide_eq_false (fun h => h rfl)) (AB 5 38 22 DE rfl Tryd.sizeOf38 rfl rfl) rfl ?_
 refine AM 33 39 false _ (.agg (V2 pv ep (kd) ai ni ci sa ns sc bl tg).toArray) rfl rfl (decide_eq_false (fun h => h rfl)) (AL rfl (BR Tryd.isAgg38 Tryd.sizeOf38 (by simp [htg]) (AR 0 rfl (DL (p := [U64 sq, I64 (qk), SL aiq niq ciq, U64 fs, I64 (mn)]) (q := [U64 eq]) (vs := (V2 pv ep (kd) ai ni ci sa ns sc bl tg)) (by first | rfl | (simp only [List.append_assoc, List.nil_append, List.append_nil, List.cons_append]; done)) rfl)))) rfl ?_
 refine AM 33 39 false _ (Ptr nb2 5) rfl rfl (decide_eq_false (fun h => h rfl)) (AB 5 38 22 DE rfl Tryd.sizeOf38 rfl rfl) rfl ?_
 refine AM 33 39 false _ (.agg (V2 pv ep (kd) ai2 ni ci2 sa2 ns sc2 bl tg).toArray) rfl rfl (decide_eq_false (fun h => h rfl)) (AL rfl (BR Tryd.isAgg38 Tryd.sizeOf38 (by simp [htg]) (AR 1 rfl (DL (p := [U64 sq, I64 (qk), SL aiq2 niq ciq2, U64 fs, I64 (mn)]) (q := [U64 eq]) (vs := (V2 pv ep (kd) ai2 ni ci2 sa2 ns sc2 bl tg)) (by first | rfl | (simp only [List.append_assoc, List.nil_append, List.append_nil, List.cons_append]; done)) rfl)))) rfl ?_
 refine DC 33 39 false _ rfl rfl (decide_eq_false (fun h => h rfl)) (A3 51 _ (.bool true) (AV _ Tryd.call51 rfl) (fun w1 hw1 => rsameT13_c pv ep (kd) ai ni ci l sa ns sc ls bl tg ai2 ci2 sa2 sc2 w1 hl (by omega) (by omega) (by omega) (CF hw1 rfl hv) hls (by omega) (by omega) (by omega) (CF hw1 rfl hs) htg (by omega) (by omega) (CF hw1 rfl hv2) (by omega) (by omega) (CF hw1 rfl hs2))) rfl ?_
 rintro v1 L1 ⟨rfl, rfl⟩
 show JL _ _ _ _ ((44, .bool true) :: _) [_, _]
 refine AM 33 39 false _ (.bool (!true)) rfl rfl (decide_eq_false (fun h => h rfl)) (D1 rfl) rfl ?_
 refine AA _ (A5 _ rfl (decide_eq_false (fun h => h rfl)) rfl) rfl ?_
 refine AA _ (AG rfl) rfl ?_
 refine AM 41 47 false _ (Ptr nb1 2) rfl rfl rfl (AB 2 23 1 DE rfl BV rfl rfl) rfl ?_
 refine AM 41 47 false _ _ rfl rfl rfl (AL rfl (AX B4 (AR 0 rfl (AI (AI (AH (AH (Seg.head)))))))) rfl ?_
 refine AM 41 47 false _ (I64 niq) rfl rfl rfl (DA BL rfl) rfl ?_
 refine AM 41 47 false _ (Ptr nb2 2) rfl rfl rfl (AB 2 23 1 DE rfl BV rfl rfl) rfl ?_
 refine AM 41 47 false _ _ rfl rfl rfl (AL rfl (AX B4 (AR 1 rfl (AI (AI (AH (AH (Seg.head)))))))) rfl ?_
 refine AM 41 47 false _ (I64 niq) rfl rfl rfl (DA BL rfl) rfl ?_
 refine AM 41 47 false _ (.bool (decide (((niq:Int)) ≠ ((niq:Int))))) rfl rfl rfl (AT rfl rfl fun _ => E8 _ _) rfl ?_
 refine AA _ (A5 _ rfl rfl rfl) rfl ?_
 refine AJ (AD (BT _ rfl (by simp) ?_))
 refine BH (AD (AF (AF (AC (AA _ (AE rfl) rfl ?_)))))
 refine AJ (AD (B5 (EO (ι := Nat) (fun i => [(2, Ptr nb1 0), (3, Ptr nb2 0), (5, I64 i)]) (fun i => [(Ez nb1 (V1 sq (qk) aiq niq ciq fs (mn) pv ep (kd) ai ni ci sa ns sc bl tg eq) 40), (Ez nb2 (V1 sq (qk) aiq2 niq ciq2 fs (mn) pv ep (kd) ai2 ni ci2 sa2 ns sc2 bl tg eq) 40)]) (fun i => i ≤ niq) (fun i => niq - i) 0 (by omega) (Sub.all rfl) rfl ?_)))
 rintro i hxi
 show JC _ _ _ [_, _, _] [_, _]
 refine AF (AF (AC (AA _ (AG rfl) rfl ?_)))
 refine AA (Ptr nb1 2) (AB 2 23 1 DE rfl BV rfl rfl) rfl (AA _ (AL rfl (AX B4 (AR 0 rfl (AI (AI (AH (AH (Seg.head)))))))) rfl ?_)
 refine AA (I64 niq) (DA BL rfl) rfl ?_
 refine AA (.bool (decide (((i:Int)) < ((niq:Int))))) (AT rfl rfl fun _ => CL _ _) rfl ?_
 refine AJ (AD (CC (decide (((i:Int)) < ((niq:Int)))) rfl (fun hb1 => ?_) (fun hb1 => ?_)))
 ·
  have hp1 : ((i:Int)) < ((niq:Int)) := of_decide_eq_true hb1
  refine BH (AD (AF (B5 (AF ?_))))
  obtain ⟨bz1, oz1, hz1, hm1⟩ := RdV.pos hvq (by rw [FS, hlq]; omega)
  obtain ⟨bz2, oz2, hz2, hm2⟩ := RdV.pos hvq2 (by rw [FS, hlq]; omega)
  refine DB 74 1 [(0, Ptr nb1 2), (1, SL aiq niq ciq), (2, I64 i), (3, Ptr bz1 (i + oz1)), (4, U64 (g64 lq i)), (5, Ptr nb2 2), (6, SL aiq2 niq ciq2), (7, I64 i), (8, Ptr bz2 (i + oz2)), (9, U64 (g64 lq i)), (10, .bool (decide ((g64 lq i) ≠ (g64 lq i))))] B6 rfl (by decide +kernel) ?_
  refine DR ⟨[], [0, 1, 2, 3, 4, 5, 6, 7, 8, 9, 10], [], [0, 1, 2, 3, 4, 5, 6, 7, 8, 9, 10], []⟩ rfl rfl (by decide +kernel) rfl ⟨AP rfl rfl (AB 2 23 1 DE rfl BV rfl rfl), AP rfl rfl (AL rfl (AX B4 (AR 0 rfl (AI (AI (AH (AH (Seg.head)))))))), CB rfl rfl rfl, AP rfl rfl (DI 22 1 (i + oz1) BL A1 rfl hz1 rfl (by omega) (by omega) (by omega)), AP rfl rfl (AL rfl (AX A8 (C9 (hm1.mem (by simp)) (Seg.get (g64_get (i := i) (by rw [hlq]; omega))) (by first | omega | (simp; done) | (simp; omega))))), AP rfl rfl (AB 2 23 1 DE rfl BV rfl rfl), AP rfl rfl (AL rfl (AX B4 (AR 1 rfl (AI (AI (AH (AH (Seg.head)))))))), CB rfl rfl rfl, AP rfl rfl (DI 22 1 (i + oz2) BL A1 rfl hz2 rfl (by omega) (by omega) (by omega)), AP rfl rfl (AL rfl (AX A8 (C9 (hm2.mem (by simp)) (Seg.get (g64_get (i := i) (by rw [hlq]; omega))) (by first | omega | (simp; done) | (simp; omega))))), AP rfl rfl (AT rfl rfl fun _ => E3 (g64 lq i) (g64 lq i)), trivial⟩ ?_
  refine C5 (F' := [(63, Ptr nb1 2), (64, SL aiq niq ciq), (65, I64 i), (66, Ptr bz1 (i + oz1)), (67, U64 (g64 lq i)), (68, Ptr nb2 2), (69, SL aiq2 niq ciq2), (70, I64 i), (71, Ptr bz2 (i + oz2)), (72, U64 (g64 lq i)), (73, .bool (decide ((g64 lq i) ≠ (g64 lq i)))), (2, Ptr nb1 0), (3, Ptr nb2 0), (5, I64 i), (56, I64 i), (57, Ptr nb1 2), (58, SL aiq niq ciq), (59, I64 niq), (60, .bool (decide (((i:Int)) < ((niq:Int)))))]) (by kernel_rfl) ?_
  refine AD (BT _ rfl (decide_eq_false (fun h => h rfl)) ?_)
  refine BH (BU (AD (AC (AA _ (AG rfl) rfl ?_))))
  refine AA (I64 ((i:Int) + 1)) (AT rfl rfl fun _ => DK _ _ ((i:Int) + 1) (by omega) (by omega)) rfl ?_
  refine AA _ (AE rfl) rfl ?_
  refine AJ (DU (EZ (i + 1) (by omega) (by omega) (Sub.all rfl) rfl))
 ·
  have hp1 : ¬ (((i:Int)) < ((niq:Int))) := of_decide_eq_false hb1
  refine EF (BC (BC (CX (AD (AF (AC (AA _ (AE rfl) rfl ?_)))))))
  refine AJ (AD (BK (CD [false, false] ?_)))
  show JQ _ _ _ _ []
  refine BJ (.bool true) (res1 Tryd.results57 (BF rfl)) fun w1 hw1 => ?_
  exact ⟨_, [], rfl, ⟨rfl, rfl⟩, hw1.no⟩
end Go.Proofs.YtkdpdgpphpngeaaDoor
namespace Go.Proofs.YtkdpdgpphpngeaaDoor
open Go Go.Sx
open Go.Value renaming slice → SL
attribute [local irreducible] mid zr8 numK valK constL initL putL RightB tktT mayN idxT selT blankB spanB reqR plainV itB chB bB aB c1B c2B c3B c4B repR
theorem sameRepT_c (rq : UInt64) (rk er : Int) (aj : Option Addr) (nj cj : Nat) (lj : List ItemR) (th : Bool) (pv ep : UInt64) (kd : Int) (ai : Option Addr) (ni ci : Nat) (l : List UInt64) (sa : Option Addr) (ns sc : Nat) (ls : List SealR) (bl : UInt64) (tg : List UInt8) (aha : Option Addr) (nha cha : Nat) (xha : List UInt8) (ahb : Option Addr) (nhb chb : Nat) (xhb : List UInt8) (aj2 : Option Addr) (cj2 : Nat) (ai2 : Option Addr) (ci2 : Nat) (sa2 : Option Addr) (sc2 : Nat) (aha2 : Option Addr) (cha2 : Nat) (ahb2 : Option Addr) (chb2 : Nat)  (w : World) (hlj : lj.length = nj) (hnj : nj ≤ 2000000) (hdj : nj ≤ cj) (hcj : cj ≤ maxLen) (hj : RdV w aj (lj.flatMap itemC)) (hl : l.length = ni) (hnm : ni ≤ 2000000) (hnc : ni ≤ ci) (hcm : ci ≤ maxLen) (hv : RdV w ai (cu64 l)) (hls : ls.length = ns) (hnn : ns ≤ 2000000) (hnd : ns ≤ sc) (hcn : sc ≤ maxLen) (hs : RdV w sa (ls.flatMap sealC)) (htg : tg.length = 16) (hlha : xha.length = nha * 32) (hnha : nha ≤ 9000) (hdha : nha ≤ cha) (hcha : cha ≤ maxLen) (hrha : RdB w [] aha xha) (hlhb : xhb.length = nhb * 32) (hnhb : nhb ≤ 9000) (hdhb : nhb ≤ chb) (hchb : chb ≤ maxLen) (hrhb : RdB w [] ahb xhb) (hdj2 : nj ≤ cj2) (hcj2 : cj2 ≤ maxLen) (hj2 : RdV w aj2 (lj.flatMap itemC)) (hnc2 : ni ≤ ci2) (hcm2 : ci2 ≤ maxLen) (hv2 : RdV w ai2 (cu64 l)) (hnd2 : ns ≤ sc2) (hcn2 : sc2 ≤ maxLen) (hs2 : RdV w sa2 (ls.flatMap sealC)) (hdha2 : nha ≤ cha2) (hcha2 : cha2 ≤ maxLen) (hrha2 : RdB w [] aha2 xha) (hdhb2 : nhb ≤ chb2) (hchb2 : chb2 ≤ maxLen) (hrhb2 : RdB w [] ahb2 xhb)  : Calls Tryd.prog 36 #[.agg (V0 rq (rk) (er) aj nj cj th pv ep (kd) ai ni ci sa ns sc bl tg aha nha cha ahb nhb chb).toArray, .agg (V0 rq (rk) (er) aj2 nj cj2 th pv ep (kd) ai2 ni ci2 sa2 ns sc2 bl tg aha2 nha cha2 ahb2 nhb chb2).toArray] w (Post w [] (fun v L => v = .bool true ∧ L = [])) := by
 have hmx : maxLen = 9223372036854775807 := rfl
 refine enter (P := Tryd.prog) (f := 36) (fn := Tryd.f36) w [] 59 [] [.agg (V0 rq (rk) (er) aj nj cj th pv ep (kd) ai ni ci sa ns sc bl tg aha nha cha ahb nhb chb).toArray, .agg (V0 rq (rk) (er) aj2 nj cj2 th pv ep (kd) ai2 ni ci2 sa2 ns sc2 bl tg aha2 nha cha2 ahb2 nhb chb2).toArray] Tryd.func36 rfl rfl (by simp) (BZ (by simp) (by simp) (by simp)) ?_
 show JC _ _ _ [(0, .agg (V0 rq (rk) (er) aj nj cj th pv ep (kd) ai ni ci sa ns sc bl tg aha nha cha ahb nhb chb).toArray), (1, .agg (V0 rq (rk) (er) aj2 nj cj2 th pv ep (kd) ai2 ni ci2 sa2 ns sc2 bl tg aha2 nha cha2 ahb2 nhb chb2).toArray)] _
 refine AF (AC (A2 (CN (.agg (V0 rq (rk) (er) aj nj cj th pv ep (kd) ai ni ci sa ns sc bl tg aha nha cha ahb nhb chb).toArray) (V0 rq (rk) (er) aj nj cj th pv ep (kd) ai ni ci sa ns sc bl tg aha nha cha ahb nhb chb) rfl (by first | rfl | simp)) rfl ?_))
 rintro v1 L1 ⟨nb1, hnb1, rfl, rfl⟩
 show JL _ _ _ _ (_ :: _) [_]
 refine A2 (CN (.agg (V0 rq (rk) (er) aj2 nj cj2 th pv ep (kd) ai2 ni ci2 sa2 ns sc2 bl tg aha2 nha cha2 ahb2 nhb chb2).toArray) (V0 rq (rk) (er) aj2 nj cj2 th pv ep (kd) ai2 ni ci2 sa2 ns sc2 bl tg aha2 nha cha2 ahb2 nhb chb2) rfl (by first | rfl | simp)) rfl ?_
 rintro v1 L1 ⟨nb2, hnb2, rfl, rfl⟩
 show JL _ _ _ _ (_ :: _) [_, _]
 refine AA _ (AE rfl) rfl ?_
 refine AJ (AD (AF (AC (AA (Ptr nb1 0) (AB 0 22 1 AK rfl A1 rfl rfl) rfl ?_))))
 refine AA _ (AL rfl (AX A8 (AR 0 rfl (AI (AI (Seg.head)))))) rfl ?_
 refine AA (Ptr nb2 0) (AB 0 22 1 AK rfl A1 rfl rfl) rfl (AA _ (AL rfl (AX A8 (AR 1 rfl (AI (AI (Seg.head)))))) rfl ?_)
 refine AA (.bool (decide (rq = rq))) (AT rfl rfl fun _ => FL rq rq) rfl ?_
 refine AA _ (AG rfl) rfl ?_
 refine AM 5 10 true _ (Ptr nb1 1) rfl rfl (decide_eq_true (by simp)) (AB 1 3 1 AK rfl AW rfl rfl) rfl ?_
 refine AM 5 10 true _ (I64 (rk)) rfl rfl (decide_eq_true (by simp)) (AL rfl (AX A0 (AR 0 rfl (AI (AI (AH (Seg.head))))))) rfl ?_
 refine AM 5 10 true _ (Ptr nb2 1) rfl rfl (decide_eq_true (by simp)) (AB 1 3 1 AK rfl AW rfl rfl) rfl ?_
 refine AM 5 10 true _ (I64 (rk)) rfl rfl (decide_eq_true (by simp)) (AL rfl (AX A0 (AR 1 rfl (AI (AI (AH (Seg.head))))))) rfl ?_
 refine AM 5 10 true _ (.bool (decide ((rk) = (rk)))) rfl rfl (decide_eq_true (by simp)) (AT rfl rfl fun _ => BP _ _) rfl ?_
 refine AA _ (BA _ rfl (decide_eq_true (by simp)) rfl) rfl (AA _ (AG rfl) rfl ?_)
 refine AM 12 17 true _ (Ptr nb1 2) rfl rfl (by simp) (AB 2 3 1 AK rfl AW rfl rfl) rfl ?_
 refine AM 12 17 true _ _ rfl rfl (by simp) (AL rfl (AX A0 (AR 0 rfl (AI (AI (AH (AH (Seg.head)))))))) rfl ?_
 refine AM 12 17 true _ (Ptr nb2 2) rfl rfl (by simp) (AB 2 3 1 AK rfl AW rfl rfl) rfl ?_
 refine AM 12 17 true _ _ rfl rfl (by simp) (AL rfl (AX A0 (AR 1 rfl (AI (AI (AH (AH (Seg.head)))))))) rfl ?_
 refine AM 12 17 true _ (.bool (decide ((er) = (er)))) rfl rfl (by simp) (AT rfl rfl fun _ => BP _ _) rfl ?_
 refine AA _ (BA _ rfl (by simp) rfl) rfl (AA _ (AG rfl) rfl ?_)
 refine AM 19 24 true _ (Ptr nb1 4) rfl rfl (by simp) (AB 4 4 1 AK rfl Tryd.sizeOf4 rfl rfl) rfl ?_
 refine AM 19 24 true _ _ rfl rfl (by simp) (AL rfl (AX Tryd.isAgg4 (AR 0 rfl (AI (AI (AH (AH (AH (AH (Seg.head)))))))))) rfl ?_
 refine AM 19 24 true _ (Ptr nb2 4) rfl rfl (by simp) (AB 4 4 1 AK rfl Tryd.sizeOf4 rfl rfl) rfl ?_
 refine AM 19 24 true _ _ rfl rfl (by simp) (AL rfl (AX Tryd.isAgg4 (AR 1 rfl (AI (AI (AH (AH (AH (AH (Seg.head)))))))))) rfl ?_
 refine AM 19 24 true _ (.bool (th == th)) rfl rfl (by simp) (DM _ _ _ rfl rfl (fun _ => eqGuard_bool ..) fun _ => eql_bool Tryd.underlying4) rfl ?_
 refine AA _ (BA _ rfl (by simp) rfl) rfl (AA _ (AG rfl) rfl ?_)
 refine AM 26 31 true _ (Ptr nb1 5) rfl rfl (beq_self_eq_true _) (AB 5 29 22 AK rfl BB rfl rfl) rfl ?_
 refine AM 26 31 true _ _ rfl rfl (beq_self_eq_true _) (AL rfl (BR CA BB (by simp [htg]) (AR 0 rfl (DL (p := [U64 rq, I64 (rk), I64 (er), SL aj nj cj, .bool th]) (q := [SL aha nha cha, SL ahb nhb chb]) (vs := (V2 pv ep (kd) ai ni ci sa ns sc bl tg)) (by first | rfl | (simp only [List.append_assoc, List.nil_append, List.append_nil, List.cons_append]; done)) rfl)))) rfl ?_
 refine AM 26 31 true _ (Ptr nb2 5) rfl rfl (beq_self_eq_true _) (AB 5 29 22 AK rfl BB rfl rfl) rfl ?_
 refine AM 26 31 true _ _ rfl rfl (beq_self_eq_true _) (AL rfl (BR CA BB (by simp [htg]) (AR 1 rfl (DL (p := [U64 rq, I64 (rk), I64 (er), SL aj2 nj cj2, .bool th]) (q := [SL aha2 nha cha2, SL ahb2 nhb chb2]) (vs := (V2 pv ep (kd) ai2 ni ci2 sa2 ns sc2 bl tg)) (by first | rfl | (simp only [List.append_assoc, List.nil_append, List.append_nil, List.cons_append]; done)) rfl)))) rfl ?_
 refine DC 26 31 true _ rfl rfl (beq_self_eq_true _) (A3 49 _ (.bool (decide (pv = pv ∧ ep = ep ∧ tg = tg ∧ (kd) = (kd) ∧ bl = bl ∧ l = l ∧ ls = ls))) (AV _ Tryd.call49 rfl) (fun w1 hw1 => same13_c pv ep (kd) ai ni ci l sa ns sc ls bl tg pv ep (kd) ai2 ni ci2 l sa2 ns sc2 ls bl tg w1 hl (by omega) (by omega) (by omega) (CF hw1 rfl hv) hls (by omega) (by omega) (by omega) (CF hw1 rfl hs) htg hl (by omega) (by omega) (by omega) (CF hw1 rfl hv2) hls (by omega) (by omega) (by omega) (CF hw1 rfl hs2) htg)) rfl ?_
 rintro v1 L1 ⟨rfl, rfl⟩
 show JL _ _ _ _ ((36, .bool (decide (pv = pv ∧ ep = ep ∧ tg = tg ∧ (kd) = (kd) ∧ bl = bl ∧ l = l ∧ ls = ls))) :: _) [_, _]
 refine AA _ (BA _ rfl (beq_self_eq_true _) rfl) rfl (AA _ (AG rfl) rfl ?_)
 refine AM 33 38 true _ (Ptr nb1 3) rfl rfl (decide_eq_true (by simp)) (AB 3 64 1 AK rfl C1 rfl rfl) rfl ?_
 refine AM 33 38 true _ (SL aj nj cj) rfl rfl (decide_eq_true (by simp)) (AL rfl (AX DZ (AR 0 rfl (AI (AI (AH (AH (AH (Seg.head))))))))) rfl ?_
 refine AM 33 38 true _ (Ptr nb2 3) rfl rfl (decide_eq_true (by simp)) (AB 3 64 1 AK rfl C1 rfl rfl) rfl ?_
 refine AM 33 38 true _ (SL aj2 nj cj2) rfl rfl (decide_eq_true (by simp)) (AL rfl (AX DZ (AR 1 rfl (AI (AI (AH (AH (AH (Seg.head))))))))) rfl ?_
 refine DC 33 38 true _ rfl rfl (decide_eq_true (by simp)) (A3 102 _ (.bool (decide (lj = lj))) (AV _ Tryd.call102 rfl) (fun w1 hw1 => eqI_c aj nj cj lj aj2 nj cj2 lj w1 hlj (by omega) (by omega) (by omega) (CF hw1 rfl hj) hlj (by omega) (by omega) (by omega) (CF hw1 rfl hj2))) rfl ?_
 rintro v1 L1 ⟨rfl, rfl⟩
 show JL _ _ _ _ ((43, .bool (decide (lj = lj))) :: _) [_, _]
 refine AA _ (BA _ rfl (decide_eq_true (by simp)) rfl) rfl (AA _ (AG rfl) rfl ?_)
 refine AM 40 45 true _ (Ptr nb1 27) rfl rfl (decide_eq_true (by simp)) (AB 27 65 1 AK rfl CI rfl rfl) rfl ?_
 refine AM 40 45 true _ (SL aha nha cha) rfl rfl (decide_eq_true (by simp)) (AL rfl (AX D3 (AR 0 rfl (Seg.right 27 0 (by simp [htg]) rfl (Seg.head))))) rfl ?_
 refine AM 40 45 true _ (Ptr nb2 27) rfl rfl (decide_eq_true (by simp)) (AB 27 65 1 AK rfl CI rfl rfl) rfl ?_
 refine AM 40 45 true _ (SL aha2 nha cha2) rfl rfl (decide_eq_true (by simp)) (AL rfl (AX D3 (AR 1 rfl (Seg.right 27 0 (by simp [htg]) rfl (Seg.head))))) rfl ?_
 refine DC 40 45 true _ rfl rfl (decide_eq_true (by simp)) (A3 103 _ (.bool (decide (xha = xha))) (AV _ Tryd.call103 rfl) (fun w1 hw1 => eqH_c aha nha cha xha aha2 nha cha2 xha w1 hlha (by omega) (by omega) (by omega) (hrha.at (M' := []) hw1 (by simp)) hlha (by omega) (by omega) (by omega) (hrha2.at (M' := []) hw1 (by simp)))) rfl ?_
 rintro v1 L1 ⟨rfl, rfl⟩
 show JL _ _ _ _ ((50, .bool (decide (xha = xha))) :: _) [_, _]
 refine AA _ (BA _ rfl (decide_eq_true (by simp)) rfl) rfl (AA _ (AG rfl) rfl ?_)
 refine AM 47 52 true _ (Ptr nb1 28) rfl rfl (decide_eq_true (by simp)) (AB 28 65 1 AK rfl CI rfl rfl) rfl ?_
 refine AM 47 52 true _ (SL ahb nhb chb) rfl rfl (decide_eq_true (by simp)) (AL rfl (AX D3 (AR 0 rfl (Seg.right 27 1 (by simp [htg]) rfl (AH (Seg.head)))))) rfl ?_
 refine AM 47 52 true _ (Ptr nb2 28) rfl rfl (decide_eq_true (by simp)) (AB 28 65 1 AK rfl CI rfl rfl) rfl ?_
 refine AM 47 52 true _ (SL ahb2 nhb chb2) rfl rfl (decide_eq_true (by simp)) (AL rfl (AX D3 (AR 1 rfl (Seg.right 27 1 (by simp [htg]) rfl (AH (Seg.head)))))) rfl ?_
 refine DC 47 52 true _ rfl rfl (decide_eq_true (by simp)) (A3 103 _ (.bool (decide (xhb = xhb))) (AV _ Tryd.call103 rfl) (fun w1 hw1 => eqH_c ahb nhb chb xhb ahb2 nhb chb2 xhb w1 hlhb (by omega) (by omega) (by omega) (hrhb.at (M' := []) hw1 (by simp)) hlhb (by omega) (by omega) (by omega) (hrhb2.at (M' := []) hw1 (by simp)))) rfl ?_
 rintro v1 L1 ⟨rfl, rfl⟩
 show JL _ _ _ _ ((57, .bool (decide (xhb = xhb))) :: _) [_, _]
 refine AA _ (BA _ rfl (decide_eq_true (by simp)) rfl) rfl (AA _ (AE rfl) rfl ?_)
 refine AJ (AD (BK (CD [false, false] ?_)))
 show JQ _ _ _ _ []
 refine BJ (.bool (decide (xhb = xhb))) (res1 Tryd.results36 (BF rfl)) fun w1 hw1 => ?_
 exact ⟨_, [], rfl, ⟨congrArg Value.bool (decide_eq_true (by simp)), rfl⟩, hw1.no⟩
attribute [local irreducible] repT LargeQ eQ vQ bQ sQ ixQ seQ fQ fN hQ reqT GRq GRp
theorem putReqG_w (sq : UInt64) (qk : Int) (aiq : Option Addr) (niq ciq : Nat) (lq : List UInt64) (fs : UInt64) (mn : Int) (pv ep : UInt64) (kd : Int) (ai : Option Addr) (ni ci : Nat) (l : List UInt64) (sa : Option Addr) (ns sc : Nat) (ls : List SealR) (bl : UInt64) (tg : List UInt8) (eq : UInt64) (z0 : List UInt8) (w : World) (hlq : lq.length = niq) (hnmq : niq ≤ 2000000) (hncq : niq ≤ ciq) (hcmq : ciq ≤ maxLen) (hvq : RdV w aiq (cu64 lq)) (hl : l.length = ni) (hnm : ni ≤ 2000000) (hnc : ni ≤ ci) (hcm : ci ≤ maxLen) (hv : RdV w ai (cu64 l)) (hls : ls.length = ns) (hnn : ns ≤ 2000000) (hnd : ns ≤ sc) (hcn : sc ≤ maxLen) (hs : RdV w sa (ls.flatMap sealC)) (htg : tg.length = 16) (hbi : ni ≤ 300) (hbs : ns ≤ 300) (hG : GRq z0 sq qk lq fs mn pv ep kd l ls bl tg eq) : Calls Tryd.prog 21 #[.agg (V1 sq (qk) aiq niq ciq fs (mn) pv ep (kd) ai ni ci sa ns sc bl tg eq).toArray] w (Post w [] (fun v L => ∃ g sp cap, v = .tuple #[Slc g 0 z0.length cap, .nilIface] ∧ L = [(Ez g (cu8 z0 ++ sp) 5)] ∧ sp.length = cap - z0.length ∧ z0.length ≤ cap ∧ cap ≤ maxLen)) := by
  have ht := hG.text hlq
  have hR := hG.right
  clear hG
  by_cases h3 : qk = 3
  · subst h3
    have hmay := of_decide_eq_true (reqR_three hR)
    rcases RightO_cases (FZ hmay) with ⟨rfl, _⟩ | ⟨rfl, _⟩ | ⟨rfl, _⟩
    · have e : reqT sq 3 niq lq fs mn pv ep 1 l ls bl tg eq = (numK 8 sq 8 ++ numK 1 (3:UInt64) 1) ++ ((tktT pv ep 1 l ls bl) ++ tg) := by unfold reqT; rw [if_neg (by decide), if_neg (by decide), if_pos rfl]; rfl
      have hz : z0 = (numK 8 sq 8 ++ numK 1 (3:UInt64) 1) ++ ((tktT pv ep 1 l ls bl) ++ tg) := ht.symm.trans e
      have hn : z0.length = tktN 1 ni ns + 25 := by rw [hz]; simp [AZ, FQ, htg, FM hl hls]; try omega
      rw [hn, hz]
      exact putReq3_c sq aiq niq ciq lq fs mn pv ep 1 ai ni ci l sa ns sc ls bl tg eq (tktN 1 ni ns) w hlq hnmq hncq hcmq hvq hl hnm hnc hcm hv hls hnn hnd hcn hs htg hbi hbs hR hmay (.inl rfl) hbs rfl (tktN_le hbi hbs)
    · have e : reqT sq 3 niq lq fs mn pv ep 2 l ls bl tg eq = (numK 8 sq 8 ++ numK 1 (3:UInt64) 1) ++ ((tktT pv ep 2 l ls bl) ++ tg) := by unfold reqT; rw [if_neg (by decide), if_neg (by decide), if_pos rfl]; rfl
      have hz : z0 = (numK 8 sq 8 ++ numK 1 (3:UInt64) 1) ++ ((tktT pv ep 2 l ls bl) ++ tg) := ht.symm.trans e
      have hn : z0.length = tktN 2 ni ns + 25 := by rw [hz]; simp [AZ, FQ, htg, FM hl hls]; try omega
      rw [hn, hz]
      exact putReq3_c sq aiq niq ciq lq fs mn pv ep 2 ai ni ci l sa ns sc ls bl tg eq (tktN 2 ni ns) w hlq hnmq hncq hcmq hvq hl hnm hnc hcm hv hls hnn hnd hcn hs htg hbi hbs hR hmay (.inr (.inl rfl)) hbs rfl (tktN_le hbi hbs)
    · have e : reqT sq 3 niq lq fs mn pv ep 3 l ls bl tg eq = (numK 8 sq 8 ++ numK 1 (3:UInt64) 1) ++ ((tktT pv ep 3 l ls bl) ++ tg) := by unfold reqT; rw [if_neg (by decide), if_neg (by decide), if_pos rfl]; rfl
      have hz : z0 = (numK 8 sq 8 ++ numK 1 (3:UInt64) 1) ++ ((tktT pv ep 3 l ls bl) ++ tg) := ht.symm.trans e
      have hn : z0.length = tktN 3 ni ns + 25 := by rw [hz]; simp [AZ, FQ, htg, FM hl hls]; try omega
      rw [hn, hz]
      exact putReq3_c sq aiq niq ciq lq fs mn pv ep 3 ai ni ci l sa ns sc ls bl tg eq (tktN 3 ni ns) w hlq hnmq hncq hcmq hvq hl hnm hnc hcm hv hls hnn hnd hcn hs htg hbi hbs hR hmay (.inr (.inr rfl)) hbs rfl (tktN_le hbi hbs)
  · obtain ⟨hb, hk⟩ := reqR_blank hR h3
    rcases hk with rfl | rfl | rfl | rfl
    · have e : reqT sq 1 niq lq fs mn pv ep kd l ls bl tg eq = (((numK 8 sq 8 ++ numK 1 (1:UInt64) 1) ++ numK 8 eq 8) ++ numK 1 (UInt64.ofNat (niq - 1)) 1) ++ idxT lq niq := by unfold reqT; rw [if_pos rfl]
      have hz : z0 = (((numK 8 sq 8 ++ numK 1 (1:UInt64) 1) ++ numK 8 eq 8) ++ numK 1 (UInt64.ofNat (niq - 1)) 1) ++ idxT lq niq := ht.symm.trans e
      have hn : z0.length = 4*niq + 18 := by rw [hz]; simp [AZ, FQ]; try omega
      rw [hn, hz]
      exact putReq1_c sq aiq niq ciq lq fs mn pv ep kd ai ni ci l sa ns sc ls bl tg eq w hlq hnmq hncq hcmq hvq hl hnm hnc hcm hv hls hnn hnd hcn hs htg hbi hbs hR
    · have hsp := span_nn (reqR_two hR)
      obtain ⟨mm, rfl⟩ : ∃ mm : Nat, mn = mm := ⟨mn.toNat, by omega⟩
      have e : reqT sq 2 niq lq fs (mm:Int) pv ep kd l ls bl tg eq = (((numK 8 sq 8 ++ numK 1 (2:UInt64) 1) ++ numK 8 eq 8) ++ numK 4 fs 4) ++ numK 1 (UInt64.ofNat (mm - 1)) 1 := by unfold reqT; rw [if_neg (by decide), if_pos rfl]; rfl
      have hz : z0 = (((numK 8 sq 8 ++ numK 1 (2:UInt64) 1) ++ numK 8 eq 8) ++ numK 4 fs 4) ++ numK 1 (UInt64.ofNat (mm - 1)) 1 := ht.symm.trans e
      have hn : z0.length = 22 := by rw [hz]; simp [AZ, FQ]; try omega
      rw [hn, hz]
      exact putReq2_c sq aiq niq ciq lq fs mm pv ep kd ai ni ci l sa ns sc ls bl tg eq w hlq hnmq hncq hcmq hvq hl hnm hnc hcm hv hls hnn hnd hcn hs htg hbi hbs hR
    · have e : reqT sq 4 niq lq fs mn pv ep kd l ls bl tg eq = (numK 8 sq 8 ++ numK 1 (4:UInt64) 1) ++ numK 8 eq 8 := by unfold reqT; rw [if_neg (by decide), if_neg (by decide), if_neg (by decide), if_pos rfl]
      have hz : z0 = (numK 8 sq 8 ++ numK 1 (4:UInt64) 1) ++ numK 8 eq 8 := ht.symm.trans e
      have hn : z0.length = 17 := by rw [hz]; simp [AZ, FQ]; try omega
      rw [hn, hz]
      exact putReq4_c sq aiq niq ciq lq fs mn pv ep kd ai ni ci l sa ns sc ls bl tg eq w hlq hnmq hncq hcmq hvq hl hnm hnc hcm hv hls hnn hnd hcn hs htg hbi hbs hR
    · have e : reqT sq 5 niq lq fs mn pv ep kd l ls bl tg eq = (numK 8 sq 8 ++ numK 1 (5:UInt64) 1) ++ numK 8 eq 8 := by unfold reqT; rw [if_neg (by decide), if_neg (by decide), if_neg (by decide), if_neg (by decide)]
      have hz : z0 = (numK 8 sq 8 ++ numK 1 (5:UInt64) 1) ++ numK 8 eq 8 := ht.symm.trans e
      have hn : z0.length = 17 := by rw [hz]; simp [AZ, FQ]; try omega
      rw [hn, hz]
      exact putReq5_c sq aiq niq ciq lq fs mn pv ep kd ai ni ci l sa ns sc ls bl tg eq w hlq hnmq hncq hcmq hvq hl hnm hnc hcm hv hls hnn hnd hcn hs htg hbi hbs hR
theorem putRepG_w (rq : UInt64) (rk er : Int) (aj : Option Addr) (nj cj : Nat) (lj : List ItemR) (th : Bool) (pv ep : UInt64) (kd : Int) (ai : Option Addr) (ni ci : Nat) (l : List UInt64) (sa : Option Addr) (ns sc : Nat) (ls : List SealR) (bl : UInt64) (tg : List UInt8) (aha : Option Addr) (nha cha : Nat) (xha : List UInt8) (ahb : Option Addr) (nhb chb : Nat) (xhb : List UInt8) (z0 : List UInt8) (w : World) (hlj : lj.length = nj) (hnj : nj ≤ 2000000) (hdj : nj ≤ cj) (hcj : cj ≤ maxLen) (hj : RdV w aj (lj.flatMap itemC)) (hl : l.length = ni) (hnm : ni ≤ 2000000) (hnc : ni ≤ ci) (hcm : ci ≤ maxLen) (hv : RdV w ai (cu64 l)) (hls : ls.length = ns) (hnn : ns ≤ 2000000) (hnd : ns ≤ sc) (hcn : sc ≤ maxLen) (hs : RdV w sa (ls.flatMap sealC)) (htg : tg.length = 16) (hlha : xha.length = nha * 32) (hnha : nha ≤ 9000) (hdha : nha ≤ cha) (hcha : cha ≤ maxLen) (hrha : RdB w [] aha xha) (hlhb : xhb.length = nhb * 32) (hnhb : nhb ≤ 9000) (hdhb : nhb ≤ chb) (hchb : chb ≤ maxLen) (hrhb : RdB w [] ahb xhb) (hbi : ni ≤ 300) (hbs : ns ≤ 300) (hG : GRp z0 rq rk er lj th pv ep kd l ls bl tg nha xha nhb xhb) : Calls Tryd.prog 34 #[.agg (V0 rq (rk) (er) aj nj cj th pv ep (kd) ai ni ci sa ns sc bl tg aha nha cha ahb nhb chb).toArray] w (Post w [] (fun v L => ∃ g sp cap, v = .tuple #[Slc g 0 z0.length cap, .nilIface] ∧ L = [(Ez g (cu8 z0 ++ sp) 5)] ∧ sp.length = cap - z0.length ∧ z0.length ≤ cap ∧ cap ≤ maxLen)) := by
 have h4 := repR_4 hG.right
 have h := putRep_w rq rk er aj nj cj lj th pv ep kd ai ni ci l sa ns sc ls bl tg aha nha cha xha ahb nhb chb xhb z0.length w hlj hnj hdj hcj hj hl hnm hnc hcm hv hls hnn hnd hcn hs htg hlha hnha hdha hcha hrha hlhb hnhb hdhb hchb hrhb hbi hbs (by omega) h4.2 hG.right (by rw [hG.text hlj])
 rw [hG.text hlj] at h
 exact h
end Go.Proofs.YtkdpdgpphpngeaaDoor
namespace Go.Proofs.YtkdpdgpphpngeaaDoor
open Go Go.Sx
open Go.Value renaming slice → SL
attribute [local irreducible] mid zr8 numK valK
theorem stEq {rb T R e1 e2 n1 n2 c c2 : Nat} {a : Option Addr} {f : Nat × Nat} (h : e1 = e2) (h' : n1 = n2) (h2 : c = c2) : [(⟨rb, [errV T e1, .slice a n1 c], R, f⟩ : Ent)] = [⟨rb, [errV T e2, .slice a n2 c2], R, f⟩] := by rw [h, h', h2]
theorem okE_ok {e : Nat} {p : Prop} [Decidable p] (he : e = 0) (hp : p) : e = okE e (decide p) := by subst he; rw [decide_eq_true hp]; rfl
theorem okE_bad {e : Nat} {p : Prop} [Decidable p] (hp : ¬ p) : erN e 2 = okE e (decide p) := by rw [decide_eq_false hp]; rfl
theorem numR_w (rb e : Nat) (ao : Option Addr) (n c : Nat) (z : List UInt8) (s : Int) (w : World) (h0 : w.heap[rb]? = some (.cells [errV 50 e, SL ao n c].toArray 204 (0, 0))) (hz : z.length = n) (hn : n ≤ 2000000000) (hc : n ≤ c) (hcm : c ≤ maxLen) (hr : RdB w [rb] ao z) : Calls Tryd.prog 109 #[Ptr rb 0, I64 s] w (Post w [rb] (fun v L => v = U64 (nuV z e s) ∧ ∃ ao' c', Adv ao z c ao' (nuZ z e s) c' ∧ L = [(Ez rb [errV 50 (okE e (decide (NuOk z e s))), .slice ao' (nuZ z e s).length c'] 204)])) := by
  by_cases hok : NuOk z e s
  · obtain ⟨he, hs, hl⟩ := id hok
    obtain ⟨k, rfl⟩ : ∃ k : Nat, s = k := ⟨s.toNat, by unfold Szd at hs; omega⟩
    have hk : k ≤ n := by omega
    refine (numROk_c rb e ao n c z k (n - k) (c - k) w h0 hz hn hc hcm hr he hs hk (by omega) (by omega)).mono ?_
    rintro E W ⟨v, L, rfl, ⟨rfl, rfl⟩, hw⟩
    refine ⟨_, _, rfl, ⟨by rw [nuV, if_pos hok]; rfl, advA ao c k, c - k, by rw [nuZ, if_pos hok]; exact Adv.drop k (by omega) (by omega) hcm, ?_⟩, hw⟩
    rw [nuZ, if_pos hok]
    exact stEq (okE_ok he hok) (by simp [hz]) rfl
  · by_cases hs : Szd s
    · by_cases he : e = 0
      · have hl : (n:Int) < s := by
          rcases Int.lt_or_le (n:Int) s with h | h
          · exact h
          · exact absurd ⟨he, hs, by rw [hz]; exact h⟩ hok
        refine (numRS_c rb e ao n c s w h0 he hs hl).mono ?_
        rintro E W ⟨v, L, rfl, ⟨rfl, rfl⟩, hw⟩
        exact ⟨_, _, rfl, ⟨(by rw [nuV, if_neg hok]), ao, c, by rw [nuZ, if_neg hok]; exact Adv.same (by omega) hcm, by rw [nuZ, if_neg hok]; exact stEq (okE_bad hok) hz.symm rfl⟩, hw⟩
      · refine (numRE_c rb e _ s w h0 he hs).mono ?_
        rintro E W ⟨v, L, rfl, ⟨rfl, rfl⟩, hw⟩
        exact ⟨_, _, rfl, ⟨(by rw [nuV, if_neg hok]), ao, c, by rw [nuZ, if_neg hok]; exact Adv.same (by omega) hcm, by rw [nuZ, if_neg hok]; exact stEq (okE_bad hok) hz.symm rfl⟩, hw⟩
    · refine (numRF_c rb e _ s w h0 hs).mono ?_
      rintro E W ⟨v, L, rfl, ⟨rfl, rfl⟩, hw⟩
      exact ⟨_, _, rfl, ⟨(by rw [nuV, if_neg hok]), ao, c, by rw [nuZ, if_neg hok]; exact Adv.same (by omega) hcm, by rw [nuZ, if_neg hok]; exact stEq (okE_bad hok) hz.symm rfl⟩, hw⟩
theorem hasR_w (rb e : Nat) (ao : Option Addr) (n c : Nat) (z : List UInt8) (w : World) (h0 : w.heap[rb]? = some (.cells [errV 50 e, SL ao n c].toArray 204 (0, 0))) (hz : z.length = n) (hn : n ≤ 2000000000) (hc : n ≤ c) (hcm : c ≤ maxLen) (hr : RdB w [rb] ao z) : Calls Tryd.prog 152 #[Ptr rb 0] w (Post w [rb] (fun v L => v = .agg (cu8 (hsV z e)).toArray ∧ ∃ ao' c', Adv ao z c ao' (hsZ z e) c' ∧ L = [(Ez rb [errV 50 (okE e (decide (HsOk z e))), .slice ao' (hsZ z e).length c'] 204)])) := by
  by_cases hok : HsOk z e
  · obtain ⟨he, hl⟩ := id hok
    refine (hasROk_c rb e ao n c z w h0 hz hn hc hcm hr he (by omega)).mono ?_
    rintro E W ⟨v, L, rfl, ⟨rfl, rfl⟩, hw⟩
    refine ⟨_, _, rfl, ⟨by rw [hsV, if_pos hok], advA ao c 32, c - 32, by rw [hsZ, if_pos hok]; exact Adv.drop 32 hl (by omega) hcm, ?_⟩, hw⟩
    rw [hsZ, if_pos hok]
    exact stEq (okE_ok he hok) (by simp [hz]) rfl
  · by_cases he : e = 0
    · have hl : n < 32 := by
        rcases Nat.lt_or_ge n 32 with h | h
        · exact h
        · exact absurd ⟨he, by omega⟩ hok
      refine (hasRS_c rb e ao n c w h0 he hl).mono ?_
      rintro E W ⟨v, L, rfl, ⟨rfl, rfl⟩, hw⟩
      exact ⟨_, _, rfl, ⟨(by rw [hsV, if_neg hok]), ao, c, by rw [hsZ, if_neg hok]; exact Adv.same (by omega) hcm, by rw [hsZ, if_neg hok]; exact stEq (okE_bad hok) hz.symm rfl⟩, hw⟩
    · refine (hasRE_c rb e _ w h0 he).mono ?_
      rintro E W ⟨v, L, rfl, ⟨rfl, rfl⟩, hw⟩
      exact ⟨_, _, rfl, ⟨(by rw [hsV, if_neg hok]), ao, c, by rw [hsZ, if_neg hok]; exact Adv.same (by omega) hcm, by rw [hsZ, if_neg hok]; exact stEq (okE_bad hok) hz.symm rfl⟩, hw⟩
theorem flgR_w (rb e : Nat) (ao : Option Addr) (n c : Nat) (z : List UInt8) (w : World) (h0 : w.heap[rb]? = some (.cells [errV 50 e, SL ao n c].toArray 204 (0, 0))) (hz : z.length = n) (hn : n ≤ 2000000000) (hc : n ≤ c) (hcm : c ≤ maxLen) (hr : RdB w [rb] ao z) : Calls Tryd.prog 119 #[Ptr rb 0] w (Post w [rb] (fun v L => v = .bool (fgV z e) ∧ ∃ ao' c', Adv ao z c ao' (fgZ z e) c' ∧ L = [(Ez rb [errV 50 (okE e (decide (FgOk z e))), .slice ao' (fgZ z e).length c'] 204)])) := by
  by_cases hok : FgOk z e
  · obtain ⟨he, hl, hb⟩ := id hok
    refine (flgROk_c rb e ao n c z w h0 hz hn hc hcm hr he (by omega) (UInt8.not_lt.2 hb)).mono ?_
    rintro E W ⟨v, L, rfl, ⟨rfl, rfl⟩, hw⟩
    refine ⟨_, _, rfl, ⟨congrArg Value.bool (decide_eq_decide.2 ⟨fun h => ⟨hok, h⟩, fun h => h.2⟩), advA ao c 1, c - 1, by rw [fgZ, if_pos hok]; exact Adv.drop 1 hl (by omega) hcm, ?_⟩, hw⟩
    rw [fgZ, if_pos hok]
    exact stEq (okE_ok he hok) (by simp [hz]) rfl
  · by_cases he : e = 0
    · by_cases hl : 1 ≤ n
      · have hb : (1:UInt8) < g8 z 0 := by
          by_cases h : g8 z 0 ≤ 1
          · exact absurd ⟨he, by omega, h⟩ hok
          · exact UInt8.not_le.1 h
        refine (flgRB_c rb e ao n c z w h0 hz hn hc hcm hr he hl hb).mono ?_
        rintro E W ⟨v, L, rfl, ⟨rfl, rfl⟩, hw⟩
        exact ⟨_, _, rfl, ⟨(by rw [fgV, decide_eq_false (fun h => hok h.1)]), ao, c, by rw [fgZ, if_neg hok]; exact Adv.same (by omega) hcm, by rw [fgZ, if_neg hok]; exact stEq (okE_bad hok) hz.symm rfl⟩, hw⟩
      · refine (flgRS_c rb e ao n c w h0 he (by omega)).mono ?_
        rintro E W ⟨v, L, rfl, ⟨rfl, rfl⟩, hw⟩
        exact ⟨_, _, rfl, ⟨(by rw [fgV, decide_eq_false (fun h => hok h.1)]), ao, c, by rw [fgZ, if_neg hok]; exact Adv.same (by omega) hcm, by rw [fgZ, if_neg hok]; exact stEq (okE_bad hok) hz.symm rfl⟩, hw⟩
    · refine (flgRE_c rb e _ w h0 he).mono ?_
      rintro E W ⟨v, L, rfl, ⟨rfl, rfl⟩, hw⟩
      exact ⟨_, _, rfl, ⟨(by rw [fgV, decide_eq_false (fun h => hok h.1)]), ao, c, by rw [fgZ, if_neg hok]; exact Adv.same (by omega) hcm, by rw [fgZ, if_neg hok]; exact stEq (okE_bad hok) hz.symm rfl⟩, hw⟩
attribute [local irreducible] constL initL putL RightB tktT mayN idxT selT eQ vQ bQ sQ ixQ seQ
theorem FD (rb p s : Nat) (ao : Option Addr) (n c : Nat) (z0 z : List UInt8) (w : World) (h0 : w.heap[rb]? = some (.cells [errV 50 (eQ z0 p), SL ao n c].toArray 204 (0, 0))) (hz : z.length = n) (hn : n ≤ 2000000000) (hc : n ≤ c) (hcm : c ≤ maxLen) (hr : RdB w [rb] ao z) (hq : Lq z0 z p) (hs : Szd (s : Int)) : Calls Tryd.prog 109 #[Ptr rb 0, I64 (s : Int)] w (Post w [rb] (fun v L => v = U64 (vQ z0 p s) ∧ ∃ ao' z' c', Lq z0 z' (p + s) ∧ Adv ao z c ao' z' c' ∧ L = [(Ez rb [errV 50 (eQ z0 (p + s)), SL ao' z'.length c'] 204)])) := by
 refine (numR_w rb (eQ z0 p) ao n c z s w h0 hz hn hc hcm hr).mono ?_
 rintro E W ⟨v, L, rfl, ⟨hv, ao', c', hA, hL⟩, hw⟩
 exact ⟨v, L, rfl, ⟨by rw [hv, nuV_q hq hs], ao', _, c', nuZ_q hq hs, hA, by rw [hL, okE_q (NuOk_q hq hs)]⟩, hw⟩
theorem rawA_w (rb p s : Nat) (ao : Option Addr) (n c : Nat) (z0 z : List UInt8) (w : World) (h0 : w.heap[rb]? = some (.cells [errV 50 (eQ z0 p), SL ao n c].toArray 204 (0, 0))) (hz : z.length = n) (hn : n ≤ 2000000000) (hc : n ≤ c) (hcm : c ≤ maxLen) (hr : RdB w [rb] ao z) (hq : Lq z0 z p) (hs0 : 0 < s) : Calls Tryd.prog 127 #[Ptr rb 0, I64 (s : Int)] w (Post w [rb] (fun v L => ∃ ao' z' c', Lq z0 z' (p + s) ∧ Adv ao z c ao' z' c' ∧ ((p + s ≤ z0.length ∧ ∃ g sp cap, v = Slc g 0 s cap ∧ L = [(Ez rb [errV 50 (eQ z0 (p + s)), SL ao' z'.length c'] 204), (Ez g (cu8 (bQ z0 p s) ++ sp) 5)] ∧ sp.length = cap - s ∧ s ≤ cap ∧ cap ≤ maxLen) ∨ (¬ p + s ≤ z0.length ∧ v = SL none 0 0 ∧ L = [(Ez rb [errV 50 (eQ z0 (p + s)), SL ao' z'.length c'] 204)])))) := by
  by_cases hg : p + s ≤ z0.length
  · have hp : p ≤ z0.length := by omega
    have hl := hq.len hp
    refine (rawROk_c rb (eQ z0 p) ao n c z s (n - s) (c - s) w h0 hz hn hc hcm hr (eQ_ok hp) hs0 (by omega) (by omega) (by omega)).mono ?_
    rintro E W ⟨v, L, rfl, ⟨g, sp, cap, rfl, rfl, h1, h2, h3⟩, hw⟩
    have e1 : mid z 0 s = bQ z0 p s := by rw [bQ, if_pos hg, hq hp]
    have e2 : (z.drop s).length = n - s := by rw [List.length_drop, hz]
    have e3 : eQ z0 p = eQ z0 (p + s) := by rw [eQ_ok hp, eQ_ok hg]
    refine ⟨_, _, rfl, ⟨advA ao c s, z.drop s, c - s, (fun _ => by rw [hq hp, List.drop_drop]), Adv.drop s (by omega) (by omega) hcm, .inl ⟨hg, g, sp, cap, rfl, ?_, h1, h2, h3⟩⟩, hw⟩
    rw [e1, e2, e3]
  · have e3 : erN (eQ z0 p) 2 = eQ z0 (p + s) := by
      rw [FF hg]; unfold eQ
      by_cases hp : p ≤ z0.length
      · rw [if_pos hp]; rfl
      · rw [if_neg hp]; rfl
    by_cases hp : p ≤ z0.length
    · have hl := hq.len hp
      refine (rawRB0_c rb (eQ z0 p) ao n c s w h0 (eQ_ok hp) (.inr (by omega))).mono ?_
      rintro E W ⟨v, L, rfl, ⟨rfl, rfl⟩, hw⟩
      exact ⟨_, _, rfl, ⟨ao, z, c, (fun h => absurd h hg), Adv.same (by omega) hcm, .inr ⟨hg, rfl, by rw [e3, hz]⟩⟩, hw⟩
    · refine (rawRB1_c rb (eQ z0 p) (SL ao n c) s w h0 (by rw [FF hp]; decide) (by omega)).mono ?_
      rintro E W ⟨v, L, rfl, ⟨rfl, rfl⟩, hw⟩
      exact ⟨_, _, rfl, ⟨ao, z, c, (fun h => absurd h hg), Adv.same (by omega) hcm, .inr ⟨hg, rfl, by rw [e3, hz]⟩⟩, hw⟩
theorem bld161_0 {w : World} {v0 : Value} (h0 : v0.cells = [v0].toArray) : (Instr.build 161 ([(0, v0)] : List (Nat × Value)).toArray).run Tryd.prog w = .ok (.agg ((([v0] : List Value) ++ (cu8 (zr8 32) : List Value)) ++ (cu8 (zr8 16) : List Value)).toArray) w :=
 ET (places := #[(0, 1), (1, 32), (33, 16)]) (Z := (([U64 0] : List Value) ++ ((cu8 (zr8 32) : List Value) ++ ((cu8 (zr8 16) : List Value) ++ [])))) (fun _ => by kernel_rfl) CM (fun _ => by kernel_rfl) ((FV ([U64 0] : List Value) ((cu8 (zr8 32) : List Value) ++ ((cu8 (zr8 16) : List Value) ++ [])) ([v0] : List Value) h0 (by simp [AO]) rfl).trans ((EW ([v0] : List Value) (cu8 (zr8 32) : List Value) ((cu8 (zr8 16) : List Value) ++ [])).trans ((EW (([v0] : List Value) ++ (cu8 (zr8 32) : List Value)) (cu8 (zr8 16) : List Value) []).trans (by simp [Instr.fill]))))
theorem sreadQ_c (rb p : Nat) (ao : Option Addr) (n c : Nat) (z0 z : List UInt8)  (w : World) (h0 : w.heap[rb]? = some (.cells [errV 50 (eQ z0 p), SL ao n c].toArray 204 (0, 0))) (hz : z.length = n) (hn : n ≤ 2000000000) (hc : n ≤ c) (hcm : c ≤ maxLen) (hr : RdB w [rb] ao z) (hq : Lq z0 z p)  : Calls Tryd.prog 120 #[Ptr rb 0] w (Post w [rb] (fun v L => v = .agg ([U64 (vQ z0 p 8)] ++ cu8 (bQ z0 (p + 8) 32) ++ cu8 (bQ z0 (p + 40) 16)).toArray ∧ ∃ ao' z' c', Lq z0 z' (p + 56) ∧ Adv ao z c ao' z' c' ∧ L = [(Ez rb [errV 50 (eQ z0 (p + 56)), SL ao' z'.length c'] 204)])) := by
 have hmx : maxLen = 9223372036854775807 := rfl
 refine enter w [rb] 18 [(Ez rb [errV 50 (eQ z0 p), SL ao n c] 204)] [Ptr rb 0] Tryd.func120 rfl rfl (by simp) (BZ (by simpa using h0) (by simp) (by simp)) ?_
 show JC _ _ _ [(0, Ptr rb 0)] _
 refine AF (AC (A2 (C4 _ ([U64 0] ++ cu8 (zr8 32) ++ cu8 (zr8 16)) Tryd.zeroValue161 (by kernel_rfl)) rfl ?_))
 rintro v1 L1 ⟨nb1, hnb1, rfl, rfl⟩
 show JL _ _ _ _ (_ :: _) [_, _]
 refine AJ (AD (AF (AC (AA _ (AG rfl) rfl ?_))))
 have hz1 : (z).length = n := hz
 refine A2 (BD 109 _ [true, false] [rb] _ (AV _ C7 rfl) rfl (fun w1 hw1 => FD rb p 8 ao n c z0 z w1 (hw1.en 0 rfl) hz (by omega) (by omega) (by omega) ((fun _ _ h => h) _ _ (hr.at (M' := [rb]) hw1 (hw1.apart [0] _ rfl))) hq (by unfold Szd; omega))) rfl ?_
 rintro v1 L1 ⟨_, ⟨rfl, ao1, zz1, ca1, hq1, ⟨hA1, hb1, hb2, hb3⟩, rfl⟩, rfl⟩
 show JL _ _ _ _ ((5, U64 (vQ z0 p 8)) :: _) [_, (Ez rb [errV 50 (eQ z0 (p + 8)), SL ao1 zz1.length ca1] 204)]
 refine AA (.agg ([U64 (vQ z0 p 8)] ++ cu8 (zr8 32) ++ cu8 (zr8 16)).toArray) (CY [(0, U64 (vQ z0 p 8))] _ rfl (fun _ => bld161_0 rfl)) rfl ?_
 refine A2 (C4 _ ([U64 0] ++ cu8 (zr8 32) ++ cu8 (zr8 16)) Tryd.zeroValue161 (by kernel_rfl)) rfl ?_
 rintro v1 L1 ⟨nb2, hnb2, rfl, rfl⟩
 show JL _ _ _ _ (_ :: _) [_, _, _]
 refine A7 (BS 2 nb2 49 _ 161 ([U64 (vQ z0 p 8)] ++ cu8 (zr8 32) ++ cu8 (zr8 16)) rfl rfl rfl BY (by simp [(AO 32), (AO 16)]) (B0 (B0 (by simp [Value.oneCell']) CZ) CZ) (by simp [(AO 32), (AO 16)]) (BW (by simp [(AO 32), (AO 16), (AO 32), (AO 16)]))) rfl ?_
 show JL _ _ _ _ _ [_, _, _]
 refine AJ (AD (AF (DB 18 3 [(0, Ptr nb2 1), (1, Slc nb2 1 32 32), (2, Ptr rb 0)] B6 rfl (by decide +kernel) ?_)))
 refine C2 ⟨[], [0, 1, 2], [], [0, 1, 2], [3]⟩ 3 _ rfl rfl (by decide +kernel) rfl ⟨AP rfl rfl (AB 1 159 32 CM rfl ER rfl rfl), AP rfl rfl (DV 32 5 1 0 32 1 32 EC B7 rfl rfl rfl (by omega) (by omega) (by omega) (by omega) (by omega) 32 (by omega)), CB rfl rfl rfl, trivial⟩ rfl (BO rfl (BD 127 _ [false, true, false] [rb] _ (AV _ Tryd.call127 rfl) rfl (fun w1 hw1 => rawA_w rb (p + 8) 32 ao1 zz1.length ca1 z0 zz1 w1 (hw1.en 1 rfl) rfl (by omega) (by omega) (by omega) (hA1 _ _ (hr.at (M' := [rb]) hw1 (hw1.apart [1] _ rfl))) hq1 (by omega)))) ?_
 rintro v1 L1 ⟨_, ⟨ao2, zz2, ca2, hq2, ⟨hA2, hb4, hb5, hb6⟩, (⟨hg1, nb3, sp1, cp1, rfl, rfl, hc1, hc2, hc3⟩ | ⟨hg1, rfl, rfl⟩)⟩, rfl⟩
 ·
  refine ⟨[], ?_⟩
  show DP _ _ _ _ _ _ _ _ [_, _, (Ez rb [errV 50 (eQ z0 (p + 40)), SL ao2 zz2.length ca2] 204), (Ez nb3 (cu8 (bQ z0 (p + 8) 32) ++ sp1) 5)]
  refine EI ⟨[3], [0, 1, 2], [2], [0, 1], [4]⟩ 4 rfl rfl (by decide +kernel) rfl ⟨AP rfl rfl (AB 1 159 32 CM rfl ER rfl rfl), AP rfl rfl (DV 32 5 1 0 32 1 32 EC B7 rfl rfl rfl (by omega) (by omega) (by omega) (by omega) (by omega) 32 (by omega)), trivial⟩ rfl (BO rfl (E9 43 43 5 1 nb2 1 32 32 ([U64 (vQ z0 p 8)] ++ cu8 (zr8 32) ++ cu8 (zr8 16)) 161 (some ⟨nb3, 0, none⟩) 32 cp1 32 (cu8 (bQ z0 (p + 8) 32)) ([U64 (vQ z0 p 8)] ++ cu8 (bQ z0 (p + 8) 32) ++ cu8 (zr8 16)) BM EH rfl rfl rfl rfl (by simp [(show (bQ z0 (p + 8) 32).length = 32 from (CG _ _ _))]; try omega) (SrcAt.mem (AR 3 rfl (AI (AN _)))) (by simp [(AO 32), (AO 16)]; try omega) (by first | exact CZ | exact one_u32 | exact one_u64 | (simp [cu8, cu32, cu64, Value.oneCell']; done)) (lay_left (p := [U64 (vQ z0 p 8)] ++ cu8 (zr8 32)) (vs := cu8 (bQ z0 (p + 8) 32)) (o := 1) (by simp [(AO 32), (show (bQ z0 (p + 8) 32).length = 32 from (CG _ _ _))]) (E6 1 0 rfl rfl (BW (by simp [(AO 32), (show (bQ z0 (p + 8) 32).length = 32 from (CG _ _ _))])))))) ?_
  show DP _ _ _ _ _ _ _ _ [_, (Ez nb2 ([U64 (vQ z0 p 8)] ++ cu8 (bQ z0 (p + 8) 32) ++ cu8 (zr8 16)) 161), _, _]
  refine DR ⟨[3, 4], [0, 1, 2], [0, 1, 2], [], []⟩ rfl rfl (by decide +kernel) rfl trivial ?_
  refine C5 (F' := [(0, Ptr rb 0), (2, Ptr nb1 0), (3, Ptr nb2 0)]) (by kernel_rfl) ?_
  refine AD (AF (DB 18 3 [(0, Ptr nb2 33), (1, Slc nb2 33 16 16), (2, Ptr rb 0)] B6 rfl (by decide +kernel) ?_))
  refine C2 ⟨[], [0, 1, 2], [], [0, 1, 2], [3]⟩ 3 _ rfl rfl (by decide +kernel) rfl ⟨AP rfl rfl (AB 33 27 16 CM rfl B3 rfl rfl), AP rfl rfl (DV 16 5 1 0 16 33 16 B1 B7 rfl rfl rfl (by omega) (by omega) (by omega) (by omega) (by omega) 16 (by omega)), CB rfl rfl rfl, trivial⟩ rfl (BO rfl (BD 127 _ [false, false, true, false] [rb] _ (AV _ Tryd.call127 rfl) rfl (fun w1 hw1 => rawA_w rb (p + 40) 16 ao2 zz2.length ca2 z0 zz2 w1 (hw1.en 2 rfl) rfl (by omega) (by omega) (by omega) ((fun w M h => hA2 w M (hA1 w M h)) _ _ (hr.at (M' := [rb]) hw1 (hw1.apart [2] _ rfl))) hq2 (by omega)))) ?_
  rintro v1 L1 ⟨_, ⟨ao3, zz3, ca3, hq3, ⟨hA3, hb7, hb8, hb9⟩, (⟨hg2, nb4, sp2, cp2, rfl, rfl, hc4, hc5, hc6⟩ | ⟨hg2, rfl, rfl⟩)⟩, rfl⟩
  ·
   refine ⟨[], ?_⟩
   show DP _ _ _ _ _ _ _ _ [_, _, _, (Ez rb [errV 50 (eQ z0 (p + 56)), SL ao3 zz3.length ca3] 204), (Ez nb4 (cu8 (bQ z0 (p + 40) 16) ++ sp2) 5)]
   refine EI ⟨[3], [0, 1, 2], [2], [0, 1], [4]⟩ 4 rfl rfl (by decide +kernel) rfl ⟨AP rfl rfl (AB 33 27 16 CM rfl B3 rfl rfl), AP rfl rfl (DV 16 5 1 0 16 33 16 B1 B7 rfl rfl rfl (by omega) (by omega) (by omega) (by omega) (by omega) 16 (by omega)), trivial⟩ rfl (BO rfl (E9 43 43 5 1 nb2 33 16 16 ([U64 (vQ z0 p 8)] ++ cu8 (bQ z0 (p + 8) 32) ++ cu8 (zr8 16)) 161 (some ⟨nb4, 0, none⟩) 16 cp2 16 (cu8 (bQ z0 (p + 40) 16)) ([U64 (vQ z0 p 8)] ++ cu8 (bQ z0 (p + 8) 32) ++ cu8 (bQ z0 (p + 40) 16)) BM EH rfl rfl rfl rfl (by simp [(show (bQ z0 (p + 40) 16).length = 16 from (CG _ _ _))]; try omega) (SrcAt.mem (AR 4 rfl (AI (AN _)))) (by simp [(show (bQ z0 (p + 8) 32).length = 32 from (CG _ _ _)), (AO 16)]; try omega) (by first | exact CZ | exact one_u32 | exact one_u64 | (simp [cu8, cu32, cu64, Value.oneCell']; done)) (E6 33 0 (by simp [(show (bQ z0 (p + 8) 32).length = 32 from (CG _ _ _))]) rfl (BW (by simp [(AO 16), (show (bQ z0 (p + 40) 16).length = 16 from (CG _ _ _))]))))) ?_
   show DP _ _ _ _ _ _ _ _ [_, (Ez nb2 ([U64 (vQ z0 p 8)] ++ cu8 (bQ z0 (p + 8) 32) ++ cu8 (bQ z0 (p + 40) 16)) 161), _, _, _]
   refine DR ⟨[3, 4], [0, 1, 2], [0, 1, 2], [], []⟩ rfl rfl (by decide +kernel) rfl trivial ?_
   refine C5 (F' := [(2, Ptr nb1 0), (3, Ptr nb2 0)]) (by kernel_rfl) ?_
   refine AD (AF (AC (AA _ (AL rfl (BR DN BY (by simp [(show (bQ z0 (p + 8) 32).length = 32 from (CG _ _ _)), (show (bQ z0 (p + 40) 16).length = 16 from (CG _ _ _))]) (AR 1 rfl (AN _)))) rfl ?_)))
   refine A7 (BS 0 nb1 49 _ 161 ([U64 (vQ z0 p 8)] ++ cu8 (bQ z0 (p + 8) 32) ++ cu8 (bQ z0 (p + 40) 16)) rfl rfl rfl BY (by simp [(show (bQ z0 (p + 8) 32).length = 32 from (CG _ _ _)), (show (bQ z0 (p + 40) 16).length = 16 from (CG _ _ _))]) (B0 (B0 (by simp [Value.oneCell']) CZ) CZ) (by simp [(AO 32), (AO 16)]) (BW (by simp [(AO 32), (AO 16), (show (bQ z0 (p + 8) 32).length = 32 from (CG _ _ _)), (show (bQ z0 (p + 40) 16).length = 16 from (CG _ _ _))]))) rfl ?_
   show JL _ _ _ _ _ [_, _, _, _, _]
   refine AJ (AD (BK (CD [true, false, false, true, false] ?_)))
   show JQ _ _ _ _ [_, _]
   refine BJ (.agg ([U64 (vQ z0 p 8)] ++ cu8 (bQ z0 (p + 8) 32) ++ cu8 (bQ z0 (p + 40) 16)).toArray) (res1 Tryd.results120 (DQ rfl (BR DN BY (by simp [(show (bQ z0 (p + 8) 32).length = 32 from (CG _ _ _)), (show (bQ z0 (p + 40) 16).length = 16 from (CG _ _ _))]) (AR 0 rfl (AN _))))) fun w1 hw1 => ?_
   first | (exfalso; omega) | exact ⟨_, _, rfl, ⟨rfl, ao3, zz3, ca3, hq3, ⟨(fun w M h => hA3 w M (hA2 w M (hA1 w M h))), by omega, by omega, by omega⟩, rfl⟩, hw1.sub (by simp) (by simp)⟩
  ·
   refine ⟨[], ?_⟩
   show DP _ _ _ _ _ _ _ _ [_, _, _, (Ez rb [errV 50 (eQ z0 (p + 56)), SL ao3 zz3.length ca3] 204)]
   refine EI ⟨[3], [0, 1, 2], [2], [0, 1], [4]⟩ 4 rfl rfl (by decide +kernel) rfl ⟨AP rfl rfl (AB 33 27 16 CM rfl B3 rfl rfl), AP rfl rfl (DV 16 5 1 0 16 33 16 B1 B7 rfl rfl rfl (by omega) (by omega) (by omega) (by omega) (by omega) 16 (by omega)), trivial⟩ rfl (BO rfl (E9 43 43 5 1 nb2 33 16 16 ([U64 (vQ z0 p 8)] ++ cu8 (bQ z0 (p + 8) 32) ++ cu8 (zr8 16)) 161 none 0 0 0 [] ([U64 (vQ z0 p 8)] ++ cu8 (bQ z0 (p + 8) 32) ++ cu8 (zr8 16)) BM EH rfl rfl rfl rfl rfl SrcAt.nil (by simp [(show (bQ z0 (p + 8) 32).length = 32 from (CG _ _ _)), (AO 16)]) one_nil (lay_nil _ _))) ?_
   show DP _ _ _ _ _ _ _ _ [_, _, _, _]
   refine DR ⟨[3, 4], [0, 1, 2], [0, 1, 2], [], []⟩ rfl rfl (by decide +kernel) rfl trivial ?_
   refine C5 (F' := [(2, Ptr nb1 0), (3, Ptr nb2 0)]) (by kernel_rfl) ?_
   refine AD (AF (AC (AA _ (AL rfl (BR DN BY (by simp [(show (bQ z0 (p + 8) 32).length = 32 from (CG _ _ _)), (AO 16)]) (AR 1 rfl (AN _)))) rfl ?_)))
   refine A7 (BS 0 nb1 49 _ 161 ([U64 (vQ z0 p 8)] ++ cu8 (bQ z0 (p + 8) 32) ++ cu8 (zr8 16)) rfl rfl rfl BY (by simp [(show (bQ z0 (p + 8) 32).length = 32 from (CG _ _ _)), (AO 16)]) (B0 (B0 (by simp [Value.oneCell']) CZ) CZ) (by simp [(AO 32), (AO 16)]) (BW (by simp [(AO 32), (AO 16), (show (bQ z0 (p + 8) 32).length = 32 from (CG _ _ _)), (AO 16)]))) rfl ?_
   show JL _ _ _ _ _ [_, _, _, _]
   refine AJ (AD (BK (CD [true, false, false, true] ?_)))
   show JQ _ _ _ _ [_, _]
   refine BJ (.agg ([U64 (vQ z0 p 8)] ++ cu8 (bQ z0 (p + 8) 32) ++ cu8 (zr8 16)).toArray) (res1 Tryd.results120 (DQ rfl (BR DN BY (by simp [(show (bQ z0 (p + 8) 32).length = 32 from (CG _ _ _)), (AO 16)]) (AR 0 rfl (AN _))))) fun w1 hw1 => ?_
   first | (exfalso; omega) | exact ⟨_, _, rfl, ⟨by rw [show bQ z0 (p + 40) 16 = zr8 16 from bQ_neg (by omega)], ao3, zz3, ca3, hq3, ⟨(fun w M h => hA3 w M (hA2 w M (hA1 w M h))), by omega, by omega, by omega⟩, rfl⟩, hw1.sub (by simp) (by simp)⟩
 ·
  refine ⟨[], ?_⟩
  show DP _ _ _ _ _ _ _ _ [_, _, (Ez rb [errV 50 (eQ z0 (p + 40)), SL ao2 zz2.length ca2] 204)]
  refine EI ⟨[3], [0, 1, 2], [2], [0, 1], [4]⟩ 4 rfl rfl (by decide +kernel) rfl ⟨AP rfl rfl (AB 1 159 32 CM rfl ER rfl rfl), AP rfl rfl (DV 32 5 1 0 32 1 32 EC B7 rfl rfl rfl (by omega) (by omega) (by omega) (by omega) (by omega) 32 (by omega)), trivial⟩ rfl (BO rfl (E9 43 43 5 1 nb2 1 32 32 ([U64 (vQ z0 p 8)] ++ cu8 (zr8 32) ++ cu8 (zr8 16)) 161 none 0 0 0 [] ([U64 (vQ z0 p 8)] ++ cu8 (zr8 32) ++ cu8 (zr8 16)) BM EH rfl rfl rfl rfl rfl SrcAt.nil (by simp [(AO 32), (AO 16)]) one_nil (lay_nil _ _))) ?_
  show DP _ _ _ _ _ _ _ _ [_, _, _]
  refine DR ⟨[3, 4], [0, 1, 2], [0, 1, 2], [], []⟩ rfl rfl (by decide +kernel) rfl trivial ?_
  refine C5 (F' := [(0, Ptr rb 0), (2, Ptr nb1 0), (3, Ptr nb2 0)]) (by kernel_rfl) ?_
  refine AD (AF (DB 18 3 [(0, Ptr nb2 33), (1, Slc nb2 33 16 16), (2, Ptr rb 0)] B6 rfl (by decide +kernel) ?_))
  refine C2 ⟨[], [0, 1, 2], [], [0, 1, 2], [3]⟩ 3 _ rfl rfl (by decide +kernel) rfl ⟨AP rfl rfl (AB 33 27 16 CM rfl B3 rfl rfl), AP rfl rfl (DV 16 5 1 0 16 33 16 B1 B7 rfl rfl rfl (by omega) (by omega) (by omega) (by omega) (by omega) 16 (by omega)), CB rfl rfl rfl, trivial⟩ rfl (BO rfl (BD 127 _ [false, false, true] [rb] _ (AV _ Tryd.call127 rfl) rfl (fun w1 hw1 => rawA_w rb (p + 40) 16 ao2 zz2.length ca2 z0 zz2 w1 (hw1.en 2 rfl) rfl (by omega) (by omega) (by omega) ((fun w M h => hA2 w M (hA1 w M h)) _ _ (hr.at (M' := [rb]) hw1 (hw1.apart [2] _ rfl))) hq2 (by omega)))) ?_
  rintro v1 L1 ⟨_, ⟨ao4, zz4, ca4, hq4, ⟨hA4, hb10, hb11, hb12⟩, (⟨hg3, nb5, sp3, cp3, rfl, rfl, hc7, hc8, hc9⟩ | ⟨hg3, rfl, rfl⟩)⟩, rfl⟩
  ·
   refine ⟨[], ?_⟩
   show DP _ _ _ _ _ _ _ _ [_, _, (Ez rb [errV 50 (eQ z0 (p + 56)), SL ao4 zz4.length ca4] 204), (Ez nb5 (cu8 (bQ z0 (p + 40) 16) ++ sp3) 5)]
   refine EI ⟨[3], [0, 1, 2], [2], [0, 1], [4]⟩ 4 rfl rfl (by decide +kernel) rfl ⟨AP rfl rfl (AB 33 27 16 CM rfl B3 rfl rfl), AP rfl rfl (DV 16 5 1 0 16 33 16 B1 B7 rfl rfl rfl (by omega) (by omega) (by omega) (by omega) (by omega) 16 (by omega)), trivial⟩ rfl (BO rfl (E9 43 43 5 1 nb2 33 16 16 ([U64 (vQ z0 p 8)] ++ cu8 (zr8 32) ++ cu8 (zr8 16)) 161 (some ⟨nb5, 0, none⟩) 16 cp3 16 (cu8 (bQ z0 (p + 40) 16)) ([U64 (vQ z0 p 8)] ++ cu8 (zr8 32) ++ cu8 (bQ z0 (p + 40) 16)) BM EH rfl rfl rfl rfl (by simp [(show (bQ z0 (p + 40) 16).length = 16 from (CG _ _ _))]; try omega) (SrcAt.mem (AR 3 rfl (AI (AN _)))) (by simp [(AO 32), (AO 16)]; try omega) (by first | exact CZ | exact one_u32 | exact one_u64 | (simp [cu8, cu32, cu64, Value.oneCell']; done)) (E6 33 0 (by simp [(AO 32)]) rfl (BW (by simp [(AO 16), (show (bQ z0 (p + 40) 16).length = 16 from (CG _ _ _))]))))) ?_
   show DP _ _ _ _ _ _ _ _ [_, (Ez nb2 ([U64 (vQ z0 p 8)] ++ cu8 (zr8 32) ++ cu8 (bQ z0 (p + 40) 16)) 161), _, _]
   refine DR ⟨[3, 4], [0, 1, 2], [0, 1, 2], [], []⟩ rfl rfl (by decide +kernel) rfl trivial ?_
   refine C5 (F' := [(2, Ptr nb1 0), (3, Ptr nb2 0)]) (by kernel_rfl) ?_
   refine AD (AF (AC (AA _ (AL rfl (BR DN BY (by simp [(AO 32), (show (bQ z0 (p + 40) 16).length = 16 from (CG _ _ _))]) (AR 1 rfl (AN _)))) rfl ?_)))
   refine A7 (BS 0 nb1 49 _ 161 ([U64 (vQ z0 p 8)] ++ cu8 (zr8 32) ++ cu8 (bQ z0 (p + 40) 16)) rfl rfl rfl BY (by simp [(AO 32), (show (bQ z0 (p + 40) 16).length = 16 from (CG _ _ _))]) (B0 (B0 (by simp [Value.oneCell']) CZ) CZ) (by simp [(AO 32), (AO 16)]) (BW (by simp [(AO 32), (AO 16), (AO 32), (show (bQ z0 (p + 40) 16).length = 16 from (CG _ _ _))]))) rfl ?_
   show JL _ _ _ _ _ [_, _, _, _]
   refine AJ (AD (BK (CD [true, false, true, false] ?_)))
   show JQ _ _ _ _ [_, _]
   refine BJ (.agg ([U64 (vQ z0 p 8)] ++ cu8 (zr8 32) ++ cu8 (bQ z0 (p + 40) 16)).toArray) (res1 Tryd.results120 (DQ rfl (BR DN BY (by simp [(AO 32), (show (bQ z0 (p + 40) 16).length = 16 from (CG _ _ _))]) (AR 0 rfl (AN _))))) fun w1 hw1 => ?_
   first | (exfalso; omega) | exact ⟨_, _, rfl, ⟨by rw [show bQ z0 (p + 8) 32 = zr8 32 from bQ_neg (by omega)], ao4, zz4, ca4, hq4, ⟨(fun w M h => hA4 w M (hA2 w M (hA1 w M h))), by omega, by omega, by omega⟩, rfl⟩, hw1.sub (by simp) (by simp)⟩
  ·
   refine ⟨[], ?_⟩
   show DP _ _ _ _ _ _ _ _ [_, _, (Ez rb [errV 50 (eQ z0 (p + 56)), SL ao4 zz4.length ca4] 204)]
   refine EI ⟨[3], [0, 1, 2], [2], [0, 1], [4]⟩ 4 rfl rfl (by decide +kernel) rfl ⟨AP rfl rfl (AB 33 27 16 CM rfl B3 rfl rfl), AP rfl rfl (DV 16 5 1 0 16 33 16 B1 B7 rfl rfl rfl (by omega) (by omega) (by omega) (by omega) (by omega) 16 (by omega)), trivial⟩ rfl (BO rfl (E9 43 43 5 1 nb2 33 16 16 ([U64 (vQ z0 p 8)] ++ cu8 (zr8 32) ++ cu8 (zr8 16)) 161 none 0 0 0 [] ([U64 (vQ z0 p 8)] ++ cu8 (zr8 32) ++ cu8 (zr8 16)) BM EH rfl rfl rfl rfl rfl SrcAt.nil (by simp [(AO 32), (AO 16)]) one_nil (lay_nil _ _))) ?_
   show DP _ _ _ _ _ _ _ _ [_, _, _]
   refine DR ⟨[3, 4], [0, 1, 2], [0, 1, 2], [], []⟩ rfl rfl (by decide +kernel) rfl trivial ?_
   refine C5 (F' := [(2, Ptr nb1 0), (3, Ptr nb2 0)]) (by kernel_rfl) ?_
   refine AD (AF (AC (AA _ (AL rfl (BR DN BY (by simp [(AO 32), (AO 16)]) (AR 1 rfl (AN _)))) rfl ?_)))
   refine A7 (BS 0 nb1 49 _ 161 ([U64 (vQ z0 p 8)] ++ cu8 (zr8 32) ++ cu8 (zr8 16)) rfl rfl rfl BY (by simp [(AO 32), (AO 16)]) (B0 (B0 (by simp [Value.oneCell']) CZ) CZ) (by simp [(AO 32), (AO 16)]) (BW (by simp [(AO 32), (AO 16), (AO 32), (AO 16)]))) rfl ?_
   show JL _ _ _ _ _ [_, _, _]
   refine AJ (AD (BK (CD [true, false, true] ?_)))
   show JQ _ _ _ _ [_, _]
   refine BJ (.agg ([U64 (vQ z0 p 8)] ++ cu8 (zr8 32) ++ cu8 (zr8 16)).toArray) (res1 Tryd.results120 (DQ rfl (BR DN BY (by simp [(AO 32), (AO 16)]) (AR 0 rfl (AN _))))) fun w1 hw1 => ?_
   first | (exfalso; omega) | exact ⟨_, _, rfl, ⟨by rw [show bQ z0 (p + 8) 32 = zr8 32 from bQ_neg (by omega), show bQ z0 (p + 40) 16 = zr8 16 from bQ_neg (by omega)], ao4, zz4, ca4, hq4, ⟨(fun w M h => hA4 w M (hA2 w M (hA1 w M h))), by omega, by omega, by omega⟩, rfl⟩, hw1.sub (by simp) (by simp)⟩
attribute [local irreducible] blankB spanB reqR plainV itB chB bB aB c1B c2B c3B c4B repR repT LargeQ fQ fN
theorem flgQ_w (rb p : Nat) (ao : Option Addr) (n c : Nat) (z0 z : List UInt8) (w : World) (h0 : w.heap[rb]? = some (.cells [errV 50 (eQ z0 p), SL ao n c].toArray 204 (0, 0))) (hz : z.length = n) (hn : n ≤ 2000000000) (hc : n ≤ c) (hcm : c ≤ maxLen) (hr : RdB w [rb] ao z) (hq : Lq z0 z p) : Calls Tryd.prog 119 #[Ptr rb 0] w (Post w [rb] (fun v L => v = .bool (fQ z0 p) ∧ ∃ q ao' z' c', q = p + fN z0 p ∧ Lq z0 z' q ∧ Adv ao z c ao' z' c' ∧ L = [(Ez rb [errV 50 (eQ z0 q), SL ao' z'.length c'] 204)])) := by
 refine (flgR_w rb (eQ z0 p) ao n c z w h0 hz hn hc hcm hr).mono ?_
 rintro E W ⟨v, L, rfl, ⟨hv, ao', c', hA, hL⟩, hw⟩
 exact ⟨v, L, rfl, ⟨by rw [hv, fgV_q hq], _, ao', _, c', rfl, fgZ_q hq, hA, by rw [hL, okE_q (FgOk_q hq)]⟩, hw⟩
theorem hasQ_w (rb p : Nat) (ao : Option Addr) (n c : Nat) (z0 z : List UInt8) (w : World) (h0 : w.heap[rb]? = some (.cells [errV 50 (eQ z0 p), SL ao n c].toArray 204 (0, 0))) (hz : z.length = n) (hn : n ≤ 2000000000) (hc : n ≤ c) (hcm : c ≤ maxLen) (hr : RdB w [rb] ao z) (hq : Lq z0 z p) : Calls Tryd.prog 152 #[Ptr rb 0] w (Post w [rb] (fun v L => v = .agg (cu8 (bQ z0 p 32)).toArray ∧ ∃ ao' z' c', Lq z0 z' (p + 32) ∧ Adv ao z c ao' z' c' ∧ L = [(Ez rb [errV 50 (eQ z0 (p + 32)), SL ao' z'.length c'] 204)])) := by
 refine (hasR_w rb (eQ z0 p) ao n c z w h0 hz hn hc hcm hr).mono ?_
 rintro E W ⟨v, L, rfl, ⟨hv, ao', c', hA, hL⟩, hw⟩
 exact ⟨v, L, rfl, ⟨by rw [hv, hsV_q hq], ao', _, c', hsZ_q hq, hA, by rw [hL, okE_q (HsOk_q hq)]⟩, hw⟩
theorem fromQ_w (ax : Option Addr) (p cx : Nat) (z : List UInt8) (w : World) (ha : ax.isNone = false) (hz : z.length = p) (hn : p ≤ 2000000000) (hr : RdB w [] ax z) : Calls Tryd.prog 59 #[SL ax p cx] w (Post w [] (fun v L => ∃ rb g sp cap, v = Ptr rb 0 ∧ L = [(Ez rb [errV 50 (eQ z 0), Slc g 0 p cap] 204), (Ez g (cu8 z ++ sp) 5)] ∧ sp.length = cap - p ∧ p ≤ cap ∧ cap ≤ maxLen)) := by
 rw [show errV 50 (eQ z 0) = .nilIface from by rw [eQ_ok (Nat.zero_le _)]; rfl]
 exact from_c ax p cx z w ha hz hn hr
theorem bld29_01 {w : World} {v0 : Value} {v1 : Value} (h0 : v0.cells = [v0].toArray) (h1 : v1.cells = [v1].toArray) : (Instr.build 29 ([(0, v0), (1, v1)] : List (Nat × Value)).toArray).run Tryd.prog w = .ok (.agg (((([v0] : List Value) ++ ([v1] : List Value)) ++ ([I64 0, .slice none 0 0, .slice none 0 0, U64 0] : List Value)) ++ (cu8 (zr8 16) : List Value)).toArray) w :=
 ET (places := #[(0, 1), (1, 1), (2, 4), (6, 16)]) (Z := (([U64 0] : List Value) ++ (([U64 0] : List Value) ++ (([I64 0, .slice none 0 0, .slice none 0 0, U64 0] : List Value) ++ ((cu8 (zr8 16) : List Value) ++ []))))) (fun _ => by kernel_rfl) AQ (fun _ => by kernel_rfl) ((FV ([U64 0] : List Value) (([U64 0] : List Value) ++ (([I64 0, .slice none 0 0, .slice none 0 0, U64 0] : List Value) ++ ((cu8 (zr8 16) : List Value) ++ []))) ([v0] : List Value) h0 (by simp [AO]) rfl).trans ((E2 ([v0] : List Value) ([U64 0] : List Value) (([I64 0, .slice none 0 0, .slice none 0 0, U64 0] : List Value) ++ ((cu8 (zr8 16) : List Value) ++ [])) ([v1] : List Value) h1 (by simp [AO]) rfl).trans ((EW (([v0] : List Value) ++ ([v1] : List Value)) ([I64 0, .slice none 0 0, .slice none 0 0, U64 0] : List Value) ((cu8 (zr8 16) : List Value) ++ [])).trans ((EW ((([v0] : List Value) ++ ([v1] : List Value)) ++ ([I64 0, .slice none 0 0, .slice none 0 0, U64 0] : List Value)) (cu8 (zr8 16) : List Value) []).trans (by simp [Instr.fill])))))
set_option maxHeartbeats 8000000 in
theorem treadG_c (rb : Nat) (ao : Option Addr) (n c : Nat) (z0 z : List UInt8)  (w : World) (h0 : w.heap[rb]? = some (.cells [errV 50 (eQ z0 0), SL ao n c].toArray 204 (0, 0))) (hz : z.length = n) (hn : n ≤ 2000000000) (hc : n ≤ c) (hcm : c ≤ maxLen) (hr : RdB w [rb] ao z) (hq : Lq z0 z 0)  : Calls Tryd.prog 60 #[Ptr rb 0] w (Post w [rb] (fun v L => ∃ pv ep kd ni l ns ls bl tg tot ao' z' c' g1 cs1 T1 a1 c1 g2 cs2 T2 a2 c2, TkR z0 pv ep kd l ls bl tg tot ∧ l.length = ni ∧ ls.length = ns ∧ tg.length = 16 ∧ ni ≤ 256 ∧ ns ≤ 256 ∧ Lq z0 z' tot ∧ Adv ao z c ao' z' c' ∧ v = .agg (V2 pv ep kd a1 ni c1 a2 ns c2 bl tg).toArray ∧ L = [(Ez rb [errV 50 (eQ z0 tot), SL ao' z'.length c'] 204), (Ez g1 cs1 T1), (Ez g2 cs2 T2)] ∧ Gh (cu64 l) g1 cs1 a1 ∧ ni ≤ c1 ∧ c1 ≤ maxLen ∧ Gh (ls.flatMap sealC) g2 cs2 a2 ∧ ns ≤ c2 ∧ c2 ≤ maxLen)) := by
  have hmx : maxLen = 9223372036854775807 := rfl
  have hk8 := vQ_lt1 z0 16
  have hk9 := vQ_lt1 z0 17
  have hmQ : mQ z0 = (vQ z0 17 1).toNat + 1 := rfl
  refine enter w [rb] 90 [(Ez rb [errV 50 (eQ z0 0), SL ao n c] 204)] [Ptr rb 0] Tryd.func60 rfl rfl (by simp) (BZ (by simpa using h0) (by simp) (by simp)) ?_
  show JC _ _ _ [(0, Ptr rb 0)] _
  refine AF (AC (A2 (C4 _ (V5) Tryd.zeroValue29 (by kernel_rfl)) rfl ?_))
  rintro v1 L1 ⟨nb1, hnb1, rfl, rfl⟩
  show JL _ _ _ _ (_ :: _) [_, _]
  refine AJ (AD (AF (AC (AA _ (AG rfl) rfl ?_))))
  have hz1 : (z).length = n := hz
  refine A2 (BD 109 _ [true, false] [rb] _ (AV _ C7 rfl) rfl (fun w1 hw1 => FD rb 0 8 ao n c z0 z w1 (hw1.en 0 rfl) hz (by omega) (by omega) (by omega) ((fun _ _ h => h) _ _ (hr.at (M' := [rb]) hw1 (hw1.apart [0] _ rfl))) hq (by unfold Szd; omega))) rfl ?_
  rintro v1 L1 ⟨_, ⟨rfl, ao1, zz1, ca1, hq1, ⟨hA1, hb1, hb2, hb3⟩, rfl⟩, rfl⟩
  show JL _ _ _ _ ((7, U64 (vQ z0 0 8)) :: _) [_, (Ez rb [errV 50 (eQ z0 8), SL ao1 zz1.length ca1] 204)]
  refine AA _ (AG rfl) rfl ?_
  refine A2 (BD 109 _ [false, true] [rb] _ (AV _ C7 rfl) rfl (fun w1 hw1 => FD rb 8 8 ao1 zz1.length ca1 z0 zz1 w1 (hw1.en 1 rfl) rfl (by omega) (by omega) (by omega) (hA1 _ _ (hr.at (M' := [rb]) hw1 (hw1.apart [1] _ rfl))) hq1 (by unfold Szd; omega))) rfl ?_
  rintro v1 L1 ⟨_, ⟨rfl, ao2, zz2, ca2, hq2, ⟨hA2, hb4, hb5, hb6⟩, rfl⟩, rfl⟩
  show JL _ _ _ _ ((9, U64 (vQ z0 8 8)) :: _) [_, (Ez rb [errV 50 (eQ z0 16), SL ao2 zz2.length ca2] 204)]
  refine AA (.agg (V2 (vQ z0 0 8) (vQ z0 8 8) 0 none 0 0 none 0 0 0 (zr8 16)).toArray) (CY [(0, U64 (vQ z0 0 8)), (1, U64 (vQ z0 8 8))] _ rfl (fun _ => bld29_01 rfl rfl)) rfl ?_
  refine A2 (C4 _ (V5) Tryd.zeroValue29 (by kernel_rfl)) rfl ?_
  rintro v1 L1 ⟨nb2, hnb2, rfl, rfl⟩
  show JL _ _ _ _ (_ :: _) [_, _, _]
  refine A7 (BS 2 nb2 22 _ 29 (V2 (vQ z0 0 8) (vQ z0 8 8) 0 none 0 0 none 0 0 0 (zr8 16)) rfl rfl rfl BB (by simp [(AO 16)]) (B0 (by simp [Value.oneCell']) CZ) (by simp [(AO 16)]) (BW (by simp [(AO 16), (AO 16)]))) rfl ?_
  show JL _ _ _ _ _ [_, _, _]
  refine AJ (AD (AF (AC (AA _ (AG rfl) rfl ?_))))
  refine A2 (BD 109 _ [false, true, false] [rb] _ (AV _ C7 rfl) rfl (fun w1 hw1 => FD rb 16 1 ao2 zz2.length ca2 z0 zz2 w1 (hw1.en 1 rfl) rfl (by omega) (by omega) (by omega) ((fun w M h => hA2 w M (hA1 w M h)) _ _ (hr.at (M' := [rb]) hw1 (hw1.apart [1] _ rfl))) hq2 (by unfold Szd; omega))) rfl ?_
  rintro v1 L1 ⟨_, ⟨rfl, ao3, zz3, ca3, hq3, ⟨hA3, hb7, hb8, hb9⟩, rfl⟩, rfl⟩
  show JL _ _ _ _ ((12, U64 (vQ z0 16 1)) :: _) [_, _, (Ez rb [errV 50 (eQ z0 17), SL ao3 zz3.length ca3] 204)]
  refine AA (I64 (((vQ z0 16 1).toNat:Int))) (CV _ _ rfl fun _ => E5 (by rw [AU]; rfl) A4 (vQ z0 16 1) _ rfl (by omega)) rfl ?_
  refine AA (Ptr nb2 2) (AB 2 26 4 AQ rfl BE rfl rfl) rfl ?_
  refine AA (Ptr nb2 2) (AB 0 3 1 AY rfl AW rfl rfl) rfl ?_
  refine A7 (C0 1 nb2 2 1 _ 29 (I64 (((vQ z0 16 1).toNat:Int))) ([I64 (((vQ z0 16 1).toNat:Int))]) (V2 (vQ z0 0 8) (vQ z0 8 8) (((vQ z0 16 1).toNat:Int)) none 0 0 none 0 0 0 (zr8 16)) rfl rfl rfl rfl AW rfl (by simp [Value.oneCell']) (by simp [(AO 16)]) (rfl)) rfl ?_
  show JL _ _ _ _ _ [_, _, _]
  refine AJ (AD (AF (AF (AC (AA (Ptr nb2 2) (AB 2 26 4 AQ rfl BE rfl rfl) rfl ?_)))))
  refine AA (Ptr nb2 2) (AB 0 3 1 AY rfl AW rfl rfl) rfl (AA _ (AL rfl (AX A0 (AR 1 rfl (AI (AH (AH (Seg.head))))))) rfl ?_)
  refine AJ (AD (F9 (ι := (UInt64 × Nat × Option Addr × List UInt8 × Nat) ⊕ (Nat × Nat × Nat × List Value × Nat × Option Addr × List UInt8 × Nat) ⊕ (Nat × Nat × Nat × List Value × Nat × Nat × List Value × Nat × Option Addr × List UInt8 × Nat)) (fun x => match x with | .inl ⟨bl, pp, aa, zz, cc⟩ => [(0, Ptr rb 0), (2, Ptr nb1 0), (3, Ptr nb2 0)] | .inr (.inl ⟨m, pp, gb, sp, cp, aa, zz, cc⟩) => [(0, Ptr rb 0), (2, Ptr nb1 0), (3, Ptr nb2 0)] | .inr (.inr ⟨m, pp, gs, sp2, cp2, gb, sp, cp, aa, zz, cc⟩) => [(0, Ptr rb 0), (2, Ptr nb1 0), (3, Ptr nb2 0)]) (fun x => match x with | .inl ⟨bl, pp, aa, zz, cc⟩ => [(Ez rb [errV 50 (eQ z0 pp), SL aa zz.length cc] 204), (Ez nb1 (V5) 29), (Ez nb2 (V2 (vQ z0 0 8) (vQ z0 8 8) (((vQ z0 16 1).toNat:Int)) none 0 0 none 0 0 bl (zr8 16)) 29)] | .inr (.inl ⟨m, pp, gb, sp, cp, aa, zz, cc⟩) => [(Ez rb [errV 50 (eQ z0 pp), SL aa zz.length cc] 204), (Ez nb1 (V5) 29), (Ez nb2 ([U64 (vQ z0 0 8), U64 (vQ z0 8 8), I64 (((vQ z0 16 1).toNat:Int)), Slc gb 0 m cp, SL none 0 0, U64 0] ++ cu8 (zr8 16)) 29), (Ez gb (cu64 (ixQ z0 18 m) ++ sp) 22)] | .inr (.inr ⟨m, pp, gs, sp2, cp2, gb, sp, cp, aa, zz, cc⟩) => [(Ez rb [errV 50 (eQ z0 pp), SL aa zz.length cc] 204), (Ez nb1 (V5) 29), (Ez nb2 ([U64 (vQ z0 0 8), U64 (vQ z0 8 8), I64 (((vQ z0 16 1).toNat:Int)), Slc gb 0 m cp, Slc gs 0 m cp2, U64 0] ++ cu8 (zr8 16)) 29), (Ez gb (cu64 (ixQ z0 18 m) ++ sp) 22), (Ez gs ((seQ z0 (4*m + 18) m).flatMap sealC ++ sp2) 161)]) (fun x => match x with | .inl ⟨bl, pp, aa, zz, cc⟩ => ((vQ z0 16 1 = 3 ∧ bl = vQ z0 17 8 ∧ pp = 25) ∨ (BadQ z0 ∧ mayN (vQ z0 0 8) (vQ z0 8 8) (((vQ z0 16 1).toNat:Int)) ([] : List UInt64) ([] : List SealR) bl ≠ 0)) ∧ Lq z0 zz pp ∧ (∀ w M, RdB w M ao z → RdB w M aa zz) ∧ zz.length ≤ cc ∧ cc ≤ maxLen ∧ zz.length ≤ n | .inr (.inl ⟨m, pp, gb, sp, cp, aa, zz, cc⟩) => vQ z0 16 1 = 2 ∧ pp = 4*m + 18 ∧ m ≤ 256 ∧ (m = mQ z0 ∨ (m < mQ z0 ∧ z0.length ≤ m + 18)) ∧ sp.length = cp - m ∧ m ≤ cp ∧ cp ≤ maxLen ∧ Lq z0 zz pp ∧ (∀ w M, RdB w M ao z → RdB w M aa zz) ∧ zz.length ≤ cc ∧ cc ≤ maxLen ∧ zz.length ≤ n | .inr (.inr ⟨m, pp, gs, sp2, cp2, gb, sp, cp, aa, zz, cc⟩) => vQ z0 16 1 = 1 ∧ pp = 60*m + 18 ∧ m ≤ 256 ∧ (m = mQ z0 ∨ (m < mQ z0 ∧ z0.length ≤ m + 18)) ∧ sp2.length = cp2 * 49 - m * 49 ∧ m ≤ cp2 ∧ cp2 ≤ maxLen ∧ sp.length = cp - m ∧ m ≤ cp ∧ cp ≤ maxLen ∧ Lq z0 zz pp ∧ (∀ w M, RdB w M ao z → RdB w M aa zz) ∧ zz.length ≤ cc ∧ cc ≤ maxLen ∧ zz.length ≤ n) ?_ ?_))
  ·
    refine B5 (AF (AC (AA (.bool (decide ((((vQ z0 16 1).toNat:Int)) = (3:Int)))) (AT rfl rfl fun _ => BP _ _) rfl ?_)))
    refine AA _ (AE rfl) rfl ?_
    refine AJ (AD (CC (decide ((((vQ z0 16 1).toNat:Int)) = (3:Int))) rfl (fun hb10 => ?_) (fun hb10 => ?_)))
    ·
      have hp10 : (((vQ z0 16 1).toNat:Int)) = (3:Int) := of_decide_eq_true hb10
      refine AC (AA _ (AG rfl) rfl ?_)
      refine A2 (BD 109 _ [false, false, true] [rb] _ (AV _ C7 rfl) rfl (fun w1 hw1 => FD rb 17 8 ao3 zz3.length ca3 z0 zz3 w1 (hw1.en 2 rfl) rfl (by omega) (by omega) (by omega) ((fun w M h => hA3 w M (hA2 w M (hA1 w M h))) _ _ (hr.at (M' := [rb]) hw1 (hw1.apart [2] _ rfl))) hq3 (by unfold Szd; omega))) rfl ?_
      rintro v1 L1 ⟨_, ⟨rfl, ao4, zz4, ca4, hq4, ⟨hA4, hb11, hb12, hb13⟩, rfl⟩, rfl⟩
      show JL _ _ _ _ ((22, U64 (vQ z0 17 8)) :: _) [_, _, (Ez rb [errV 50 (eQ z0 25), SL ao4 zz4.length ca4] 204)]
      refine AA (Ptr nb2 2) (AB 2 26 4 AQ rfl BE rfl rfl) rfl ?_
      refine AA (Ptr nb2 5) (AB 3 22 1 AY rfl A1 rfl rfl) rfl ?_
      refine A7 (C0 1 nb2 5 1 _ 29 (U64 (vQ z0 17 8)) ([U64 (vQ z0 17 8)]) (V2 (vQ z0 0 8) (vQ z0 8 8) (((vQ z0 16 1).toNat:Int)) none 0 0 none 0 0 (vQ z0 17 8) (zr8 16)) rfl rfl rfl rfl A1 rfl (by simp [Value.oneCell']) (by simp [(AO 16)]) (rfl)) rfl ?_
      show JL _ _ _ _ _ [_, _, _]
      refine AJ (BU (FG [2, 0, 1] (by decide) ?_))
      show JQ _ _ _ _ [_, _, _]
      refine D9 (.inl (vQ z0 17 8, 25, ao4, zz4, ca4)) ⟨.inl ⟨kd3 hb10, rfl, rfl⟩, hq4, (fun w M h => hA4 w M (hA3 w M (hA2 w M (hA1 w M h)))), by omega, by omega, by omega⟩ (Sub.all rfl) rfl
    ·
      have hp10 : ¬ ((((vQ z0 16 1).toNat:Int)) = (3:Int)) := of_decide_eq_false hb10
      refine AF (AF (AC (AA (.bool (decide ((((vQ z0 16 1).toNat:Int)) = (1:Int)))) (AT rfl rfl fun _ => BP _ _) rfl ?_)))
      refine AA _ (AE rfl) rfl ?_
      refine AJ (AD (F9 (ι := Unit) (fun _ => [(0, Ptr rb 0), (2, Ptr nb1 0), (3, Ptr nb2 0), (25, .bool (decide ((((vQ z0 16 1).toNat:Int)) = (1:Int)) || decide ((((vQ z0 16 1).toNat:Int)) = (2:Int))))]) (fun _ => [(Ez nb1 (V5) 29), (Ez nb2 (V2 (vQ z0 0 8) (vQ z0 8 8) (((vQ z0 16 1).toNat:Int)) none 0 0 none 0 0 0 (zr8 16)) 29), (Ez rb [errV 50 (eQ z0 17), SL ao3 zz3.length ca3] 204)]) (fun _ => True) ?_ ?_))
      ·
        refine CC (decide ((((vQ z0 16 1).toNat:Int)) = (1:Int))) rfl (fun hb14 => ?_) (fun hb14 => ?_)
        ·
          have hp14 : (((vQ z0 16 1).toNat:Int)) = (1:Int) := of_decide_eq_true hb14
          refine BH (D9 (()) trivial (Sub.cons rfl (Sub.cons rfl (Sub.cons rfl (Sub.cons (congrArg (fun b => some (Value.bool b)) (by rw [hb14]; rfl : decide ((((vQ z0 16 1).toNat:Int)) = (1:Int)) = (decide ((((vQ z0 16 1).toNat:Int)) = (1:Int)) || decide ((((vQ z0 16 1).toNat:Int)) = (2:Int))))) (Sub.nil))))) rfl)
        ·
          have hp14 : ¬ ((((vQ z0 16 1).toNat:Int)) = (1:Int)) := of_decide_eq_false hb14
          refine AC (AA (.bool (decide ((((vQ z0 16 1).toNat:Int)) = (2:Int)))) (AT rfl rfl fun _ => BP _ _) rfl ?_)
          refine AA _ (AE rfl) rfl ?_
          refine AJ (D9 (()) trivial (Sub.cons rfl (Sub.cons rfl (Sub.cons rfl (Sub.cons (congrArg (fun b => some (Value.bool b)) (by rw [hb14]; rfl : decide ((((vQ z0 16 1).toNat:Int)) = (2:Int)) = (decide ((((vQ z0 16 1).toNat:Int)) = (1:Int)) || decide ((((vQ z0 16 1).toNat:Int)) = (2:Int))))) (Sub.nil))))) rfl)
      ·
        rintro _ hx
        obtain _ := hx
        show JQ _ _ _ [_, _, _, _] [_, _, _]
        refine AD (CC ((decide ((((vQ z0 16 1).toNat:Int)) = (1:Int)) || decide ((((vQ z0 16 1).toNat:Int)) = (2:Int)))) rfl (fun hb15 => ?_) (fun hb15 => ?_))
        ·
          refine AF ?_
          have hk12 : vQ z0 16 1 = 1 ∨ vQ z0 16 1 = 2 := kd12 hb15
          refine AC (AA _ (AG rfl) rfl ?_)
          refine A2 (BD 109 _ [false, false, true] [rb] _ (AV _ C7 rfl) rfl (fun w1 hw1 => FD rb 17 1 ao3 zz3.length ca3 z0 zz3 w1 (hw1.en 2 rfl) rfl (by omega) (by omega) (by omega) ((fun w M h => hA3 w M (hA2 w M (hA1 w M h))) _ _ (hr.at (M' := [rb]) hw1 (hw1.apart [2] _ rfl))) hq3 (by unfold Szd; omega))) rfl ?_
          rintro v1 L1 ⟨_, ⟨rfl, ao5, zz5, ca5, hq5, ⟨hA5, hb16, hb17, hb18⟩, rfl⟩, rfl⟩
          show JL _ _ _ _ ((29, U64 (vQ z0 17 1)) :: _) [_, _, (Ez rb [errV 50 (eQ z0 18), SL ao5 zz5.length ca5] 204)]
          refine AA (I64 (((vQ z0 17 1).toNat:Int))) (CV _ _ rfl fun _ => E5 (by rw [AU]; rfl) A4 (vQ z0 17 1) _ rfl (by omega)) rfl ?_
          refine AA (I64 (((vQ z0 17 1).toNat:Int) + 1)) (AT rfl rfl fun _ => DK _ _ (((vQ z0 17 1).toNat:Int) + 1) (by omega) (by omega)) rfl ?_
          refine AA _ (AE rfl) rfl ?_
          refine AJ (AD (AF (AF ?_)))
          obtain ⟨m, hm1, hm2, hm3⟩ := minQ hq5
          refine AC (AA _ (AG rfl) rfl ?_)
          refine AA _ (AG rfl) rfl ?_
          refine A7 (A3 61 _ (I64 ((leftN (eQ z0 18) zz5.length:Int))) (AV _ EA rfl) (fun w1 hw1 => left_w rb (eQ z0 18) ao5 zz5.length ca5 w1 (RdA.of hw1 (AR 2 rfl (AN _)) (by simp)))) rfl ?_
          show JL _ _ _ _ ((34, I64 ((leftN (eQ z0 18) zz5.length:Int))) :: _) [_, _, _]
          refine AA (I64 m) (Ev_min rfl rfl hm1) rfl (AA _ (AG rfl) rfl ?_)
          refine AJ (AD (F9 (ι := (Unit) ⊕ (Nat × List Value × Nat × Option Addr × List UInt8 × Nat)) (fun x => match x with | .inl _ => [(0, Ptr rb 0), (2, Ptr nb1 0), (3, Ptr nb2 0)] | .inr ⟨gb, sp, cp, aa, zz, cc⟩ => [(0, Ptr rb 0), (2, Ptr nb1 0), (3, Ptr nb2 0)]) (fun x => match x with | .inl _ => [(Ez rb [errV 50 (eQ z0 18), SL ao5 zz5.length ca5] 204), (Ez nb1 (V5) 29), (Ez nb2 (V2 (vQ z0 0 8) (vQ z0 8 8) (((vQ z0 16 1).toNat:Int)) none 0 0 none 0 0 0 (zr8 16)) 29)] | .inr ⟨gb, sp, cp, aa, zz, cc⟩ => [(Ez rb [errV 50 (eQ z0 (4*m + 18)), SL aa zz.length cc] 204), (Ez nb1 (V5) 29), (Ez nb2 ([U64 (vQ z0 0 8), U64 (vQ z0 8 8), I64 (((vQ z0 16 1).toNat:Int)), Slc gb 0 m cp, SL none 0 0, U64 0] ++ cu8 (zr8 16)) 29), (Ez gb (cu64 (ixQ z0 18 m) ++ sp) 22)]) (fun x => match x with | .inl _ => m = 0 | .inr ⟨gb, sp, cp, aa, zz, cc⟩ => 0 < m ∧ sp.length = cp - m ∧ m ≤ cp ∧ cp ≤ maxLen ∧ Lq z0 zz (4*m + 18) ∧ (∀ w M, RdB w M ao z → RdB w M aa zz) ∧ zz.length ≤ cc ∧ cc ≤ maxLen ∧ zz.length ≤ n) ?_ ?_))
          ·
            refine B5 (FG [2, 0, 1] (by decide) ?_)
            show JC _ _ _ _ [_, _, _]
            refine EO (ι := (Unit) ⊕ (Nat × List UInt64 × Nat × List Value × Nat × Option Addr × List UInt8 × Nat)) (fun x => match x with | .inl _ => [(0, Ptr rb 0), (2, Ptr nb1 0), (3, Ptr nb2 0), (35, I64 m), (36, I64 0)] | .inr ⟨i, ll, gb, sp, cp, aa, zz, cc⟩ => [(0, Ptr rb 0), (2, Ptr nb1 0), (3, Ptr nb2 0), (35, I64 m), (36, I64 i)]) (fun x => match x with | .inl _ => [(Ez rb [errV 50 (eQ z0 18), SL ao5 zz5.length ca5] 204), (Ez nb1 (V5) 29), (Ez nb2 (V2 (vQ z0 0 8) (vQ z0 8 8) (((vQ z0 16 1).toNat:Int)) none 0 0 none 0 0 0 (zr8 16)) 29)] | .inr ⟨i, ll, gb, sp, cp, aa, zz, cc⟩ => [(Ez rb [errV 50 (eQ z0 (4*i + 18)), SL aa zz.length cc] 204), (Ez nb1 (V5) 29), (Ez nb2 ([U64 (vQ z0 0 8), U64 (vQ z0 8 8), I64 (((vQ z0 16 1).toNat:Int)), Slc gb 0 i cp, SL none 0 0, U64 0] ++ cu8 (zr8 16)) 29), (Ez gb (cu64 ll ++ sp) 22)]) (fun x => match x with | .inl _ => True | .inr ⟨i, ll, gb, sp, cp, aa, zz, cc⟩ => 0 < i ∧ i ≤ m ∧ ll = ixQ z0 18 i ∧ ll.length = i ∧ sp.length = cp - i ∧ i ≤ cp ∧ cp ≤ maxLen ∧ Lq z0 zz (4*i + 18) ∧ (∀ w M, RdB w M ao z → RdB w M aa zz) ∧ zz.length ≤ cc ∧ cc ≤ maxLen ∧ zz.length ≤ n) (fun x => match x with | .inl _ => m + 2 | .inr ⟨i, ll, gb, sp, cp, aa, zz, cc⟩ => m + 1 - i) (.inl ()) trivial (Sub.all rfl) rfl ?_
            rintro (_ | ⟨i, ll, gb, sp, cp, aa, zz, cc⟩) hx
            ·
              obtain _ := hx
              show JC _ _ _ [_, _, _, _, _] [_, _, _]
              refine AF (AC (AA (.bool (decide ((0:Int) < ((m:Int))))) (AT rfl rfl fun _ => CL _ _) rfl ?_))
              refine AJ (AD (AF (CC (decide ((0:Int) < ((m:Int)))) rfl (fun hb19 => ?_) (fun hb19 => ?_))))
              ·
                have hp19 : (0:Int) < ((m:Int)) := of_decide_eq_true hb19
                refine BH (AD (AF (B5 (DB 90 5 [(0, Ptr nb2 2), (1, Ptr nb2 3), (2, SL none 0 0), (3, Ptr rb 0)] B6 rfl (by decide +kernel) ?_))))
                refine C2 ⟨[], [0, 1, 2, 3], [], [0, 1, 2, 3], [4]⟩ 4 _ rfl rfl (by decide +kernel) rfl ⟨AP rfl rfl (AB 2 26 4 AQ rfl BE rfl rfl), AP rfl rfl (AB 1 23 1 AY rfl BV rfl rfl), AP rfl rfl (AL rfl (AX B4 (AR 2 rfl (AI (AH (AH (AH (Seg.head)))))))), CB rfl rfl rfl, trivial⟩ rfl (BO rfl (BD 109 _ [true, false, false] [rb] _ (AV _ C7 rfl) rfl (fun w1 hw1 => FD rb 18 4 ao5 zz5.length ca5 z0 zz5 w1 (hw1.en 0 rfl) rfl (by omega) (by omega) (by omega) ((fun w M h => hA5 w M (hA3 w M (hA2 w M (hA1 w M h)))) _ _ (hr.at (M' := [rb]) hw1 (hw1.apart [0] _ rfl))) hq5 (by unfold Szd; omega)))) ?_
                rintro v1 L1 ⟨_, ⟨rfl, ao6, zz6, ca6, hq6, ⟨hA6, hb20, hb21, hb22⟩, rfl⟩, rfl⟩
                refine ⟨[], ?_⟩
                show DP _ _ _ _ _ _ _ _ [_, _, (Ez rb [errV 50 (eQ z0 22), SL ao6 zz6.length ca6] 204)]
                refine C2 ⟨[4], [0, 1, 2, 3], [3], [0, 1, 2], [5]⟩ 5 _ rfl rfl (by decide +kernel) rfl ⟨AP rfl rfl (AB 2 26 4 AQ rfl BE rfl rfl), AP rfl rfl (AB 1 23 1 AY rfl BV rfl rfl), AP rfl rfl (AL rfl (AX B4 (AR 1 rfl (AI (AH (AH (AH (Seg.head)))))))), trivial⟩ rfl (BO rfl (DF 22 1 _ [(0, U64 (vQ z0 18 4))] ([U64 (vQ z0 18 4)]) BL A1 Tryd.zeroValue22 rfl rfl rfl (by kernel_rfl))) ?_
                rintro v1 L1 ⟨nb3, hnb3, rfl, rfl⟩
                refine ⟨[], ?_⟩
                show DP _ _ _ _ _ _ _ _ [_, _, _, (Ez nb3 [U64 (vQ z0 18 4)] 22)]
                refine C2 ⟨[4, 5], [0, 1, 2, 3], [3], [0, 1, 2], [6]⟩ 6 _ rfl rfl (by decide +kernel) rfl ⟨AP rfl rfl (AB 2 26 4 AQ rfl BE rfl rfl), AP rfl rfl (AB 1 23 1 AY rfl BV rfl rfl), AP rfl rfl (AL rfl (AX B4 (AR 1 rfl (AI (AH (AH (AH (Seg.head)))))))), trivial⟩ rfl (BO rfl (Step_appM64 23 22 [false, false, false, false] (SL none 0 0) 0 ([] : List UInt64) ([vQ z0 18 4]) (some ⟨nb3, 0, none⟩) 1 1 1 BL Tryd.info22 rfl (.inl ⟨rfl, rfl, rfl, rfl, by omega⟩) rfl (by simp) (SrcAt.mem (AR 3 rfl (Seg.head))) (by omega) (by unfold maxLen; omega) (by omega))) ?_
                rintro v1 L1 ⟨nb4, sp1, cp1, hg1, rfl, rfl, ha1, ha2, ha3, ha4⟩
                refine ⟨[(7, Ptr nb2 2), (8, Ptr nb2 3)], ?_⟩
                show DP _ _ _ _ _ _ _ _ [_, _, _, _, (Ez nb4 (cu64 (([] : List UInt64) ++ ([vQ z0 18 4])) ++ sp1) 22)]
                refine EI ⟨[4, 5, 6], [0, 1, 2, 3, 7, 8], [0, 1, 2, 3], [7, 8], [9]⟩ 9 rfl rfl (by decide +kernel) rfl ⟨AP rfl rfl (AB 2 26 4 AQ rfl BE rfl rfl), AP rfl rfl (AB 1 23 1 AY rfl BV rfl rfl), trivial⟩ rfl (BO rfl (C0 1 nb2 3 1 _ 29 (Slc nb4 0 1 cp1) ([Slc nb4 0 1 cp1]) ([U64 (vQ z0 0 8), U64 (vQ z0 8 8), I64 (((vQ z0 16 1).toNat:Int)), Slc nb4 0 1 cp1, SL none 0 0, U64 0] ++ cu8 (zr8 16)) rfl rfl rfl rfl BV rfl (by simp [Value.oneCell']) (by simp [(AO 16)]) (rfl))) ?_
                show DP _ _ _ _ _ _ _ _ [_, (Ez nb2 ([U64 (vQ z0 0 8), U64 (vQ z0 8 8), I64 (((vQ z0 16 1).toNat:Int)), Slc nb4 0 1 cp1, SL none 0 0, U64 0] ++ cu8 (zr8 16)) 29), _, _, _]
                refine DR ⟨[4, 5, 6, 9], [0, 1, 2, 3, 7, 8], [0, 1, 2, 3, 7, 8], [], []⟩ rfl rfl (by decide +kernel) rfl trivial ?_
                refine C5 (F' := [(38, Ptr nb2 2), (39, Ptr nb2 3), (40, SL none 0 0), (41, Ptr rb 0), (42, U64 (vQ z0 18 4)), (43, Slc nb3 0 1 1), (44, Slc nb4 0 1 cp1), (45, Ptr nb2 2), (46, Ptr nb2 3), (0, Ptr rb 0), (2, Ptr nb1 0), (3, Ptr nb2 0), (35, I64 m), (36, I64 0), (37, .bool (decide ((0:Int) < ((m:Int)))))]) (by kernel_rfl) ?_
                refine BU (AD (AC (AA (I64 1) (AT rfl rfl fun _ => DK _ _ (1:Int) (by omega) (by omega)) rfl ?_)))
                refine AA _ (AG rfl) rfl ?_
                refine AJ (DU (CD [true, true, true, false, true] ?_))
                show K _ _ [_, _, _, _] _
                refine FG [2, 0, 1, 3] (by decide) ?_
                show K _ _ [_, _, _, _] _
                refine EZ (.inr (1, ([] : List UInt64) ++ ([vQ z0 18 4]), nb4, sp1, cp1, ao6, zz6, ca6)) ⟨by omega, by omega, by rw [ixQ_one]; rfl, (ha1).trans (by first | rfl | simp +arith), (ha2).trans (by first | rfl | omega), by omega, by omega, hq6, (fun w M h => hA6 w M (hA5 w M (hA3 w M (hA2 w M (hA1 w M h))))), by omega, by omega, by omega⟩ (by dsimp only; omega) (Sub.all rfl) rfl
              ·
                have hp19 : ¬ ((0:Int) < ((m:Int))) := of_decide_eq_false hb19
                refine EF (BC (BC (CX (D9 (.inl ()) (by omega) (Sub.all rfl) rfl))))
            ·
              obtain ⟨hi1, hi2, hi3, hi4, hi5, hi6, hi7, hi8, hi9, hi10, hi11, hi12⟩ := hx
              show JC _ _ _ [_, _, _, _, _] [_, _, _, _]
              refine AF (AC (AA (.bool (decide (((i:Int)) < ((m:Int))))) (AT rfl rfl fun _ => CL _ _) rfl ?_))
              refine AJ (AD (AF (CC (decide (((i:Int)) < ((m:Int)))) rfl (fun hb23 => ?_) (fun hb23 => ?_))))
              ·
                have hp23 : ((i:Int)) < ((m:Int)) := of_decide_eq_true hb23
                refine BH (AD (AF (B5 (DB 90 5 [(0, Ptr nb2 2), (1, Ptr nb2 3), (2, Slc gb 0 i cp), (3, Ptr rb 0)] B6 rfl (by decide +kernel) ?_))))
                refine C2 ⟨[], [0, 1, 2, 3], [], [0, 1, 2, 3], [4]⟩ 4 _ rfl rfl (by decide +kernel) rfl ⟨AP rfl rfl (AB 2 26 4 AQ rfl BE rfl rfl), AP rfl rfl (AB 1 23 1 AY rfl BV rfl rfl), AP rfl rfl (AL rfl (AX B4 (AR 2 rfl (AI (AH (AH (AH (Seg.head)))))))), CB rfl rfl rfl, trivial⟩ rfl (BO rfl (BD 109 _ [true, false, false, false] [rb] _ (AV _ C7 rfl) rfl (fun w1 hw1 => FD rb (4*i + 18) 4 aa zz.length cc z0 zz w1 (hw1.en 0 rfl) rfl (by omega) (by omega) (by omega) (hi9 _ _ (hr.at (M' := [rb]) hw1 (hw1.apart [0] _ rfl))) hi8 (by unfold Szd; omega)))) ?_
                rintro v1 L1 ⟨_, ⟨rfl, ao7, zz7, ca7, hq7, ⟨hA7, hb24, hb25, hb26⟩, rfl⟩, rfl⟩
                refine ⟨[], ?_⟩
                show DP _ _ _ _ _ _ _ _ [_, _, _, (Ez rb [errV 50 (eQ z0 (4*i + 22)), SL ao7 zz7.length ca7] 204)]
                refine C2 ⟨[4], [0, 1, 2, 3], [3], [0, 1, 2], [5]⟩ 5 _ rfl rfl (by decide +kernel) rfl ⟨AP rfl rfl (AB 2 26 4 AQ rfl BE rfl rfl), AP rfl rfl (AB 1 23 1 AY rfl BV rfl rfl), AP rfl rfl (AL rfl (AX B4 (AR 1 rfl (AI (AH (AH (AH (Seg.head)))))))), trivial⟩ rfl (BO rfl (DF 22 1 _ [(0, U64 (vQ z0 (4*i + 18) 4))] ([U64 (vQ z0 (4*i + 18) 4)]) BL A1 Tryd.zeroValue22 rfl rfl rfl (by kernel_rfl))) ?_
                rintro v1 L1 ⟨nb5, hnb5, rfl, rfl⟩
                refine ⟨[], ?_⟩
                show DP _ _ _ _ _ _ _ _ [_, _, _, _, (Ez nb5 [U64 (vQ z0 (4*i + 18) 4)] 22)]
                refine C2 ⟨[4, 5], [0, 1, 2, 3], [3], [0, 1, 2], [6]⟩ 6 _ rfl rfl (by decide +kernel) rfl ⟨AP rfl rfl (AB 2 26 4 AQ rfl BE rfl rfl), AP rfl rfl (AB 1 23 1 AY rfl BV rfl rfl), AP rfl rfl (AL rfl (AX B4 (AR 1 rfl (AI (AH (AH (AH (Seg.head)))))))), trivial⟩ rfl (BO rfl (Step_appM64 23 22 [false, false, true, false, false] (Slc gb 0 i cp) i ll ([vQ z0 (4*i + 18) 4]) (some ⟨nb5, 0, none⟩) 1 1 (i + 1) BL Tryd.info22 rfl (.inr ⟨gb, sp, cp, rfl, rfl, (by first | exact hi4 | simp [hi4]), hi5, (by omega), (by omega)⟩) rfl (by simp) (SrcAt.mem (AR 4 rfl (Seg.head))) (by omega) (by unfold maxLen; omega) (by omega))) ?_
                rintro v1 L1 ⟨nb6, sp2, cp2, hg2, rfl, rfl, ha5, ha6, ha7, ha8⟩
                refine ⟨[(7, Ptr nb2 2), (8, Ptr nb2 3)], ?_⟩
                show DP _ _ _ _ _ _ _ _ [_, _, _, _, (Ez nb6 (cu64 (ll ++ ([vQ z0 (4*i + 18) 4])) ++ sp2) 22)]
                refine EI ⟨[4, 5, 6], [0, 1, 2, 3, 7, 8], [0, 1, 2, 3], [7, 8], [9]⟩ 9 rfl rfl (by decide +kernel) rfl ⟨AP rfl rfl (AB 2 26 4 AQ rfl BE rfl rfl), AP rfl rfl (AB 1 23 1 AY rfl BV rfl rfl), trivial⟩ rfl (BO rfl (C0 1 nb2 3 1 _ 29 (Slc nb6 0 (i + 1) cp2) ([Slc nb6 0 (i + 1) cp2]) ([U64 (vQ z0 0 8), U64 (vQ z0 8 8), I64 (((vQ z0 16 1).toNat:Int)), Slc nb6 0 (i + 1) cp2, SL none 0 0, U64 0] ++ cu8 (zr8 16)) rfl rfl rfl rfl BV rfl (by simp [Value.oneCell']) (by simp [(AO 16)]) (rfl))) ?_
                show DP _ _ _ _ _ _ _ _ [_, (Ez nb2 ([U64 (vQ z0 0 8), U64 (vQ z0 8 8), I64 (((vQ z0 16 1).toNat:Int)), Slc nb6 0 (i + 1) cp2, SL none 0 0, U64 0] ++ cu8 (zr8 16)) 29), _, _, _]
                refine DR ⟨[4, 5, 6, 9], [0, 1, 2, 3, 7, 8], [0, 1, 2, 3, 7, 8], [], []⟩ rfl rfl (by decide +kernel) rfl trivial ?_
                refine C5 (F' := [(38, Ptr nb2 2), (39, Ptr nb2 3), (40, Slc gb 0 i cp), (41, Ptr rb 0), (42, U64 (vQ z0 (4*i + 18) 4)), (43, Slc nb5 0 1 1), (44, Slc nb6 0 (i + 1) cp2), (45, Ptr nb2 2), (46, Ptr nb2 3), (0, Ptr rb 0), (2, Ptr nb1 0), (3, Ptr nb2 0), (35, I64 m), (36, I64 i), (37, .bool (decide (((i:Int)) < ((m:Int)))))]) (by kernel_rfl) ?_
                refine BU (AD (AC (AA (I64 ((i:Int) + 1)) (AT rfl rfl fun _ => DK _ _ ((i:Int) + 1) (by omega) (by omega)) rfl ?_)))
                refine AA _ (AG rfl) rfl ?_
                refine AJ (DU (CD [true, true, true, false, true] ?_))
                show K _ _ [_, _, _, _] _
                refine FG [2, 0, 1, 3] (by decide) ?_
                show K _ _ [_, _, _, _] _
                refine EZ (.inr (i + 1, ll ++ ([vQ z0 (4*i + 18) 4]), nb6, sp2, cp2, ao7, zz7, ca7)) ⟨by omega, by omega, by rw [ixQ_succ, ← hi3, Nat.add_comm 18 (4*i)], (ha5).trans (by first | rfl | simp +arith), (ha6).trans (by first | rfl | omega), by omega, by omega, hq7, (fun w M h => hA7 w M (hi9 w M h)), by omega, by omega, by omega⟩ (by dsimp only; omega) (Sub.all rfl) rfl
              ·
                have hp23 : ¬ (((i:Int)) < ((m:Int))) := of_decide_eq_false hb23
                refine EF (BC (BC (CX ?_)))
                have ei : m = i := by omega
                subst ei
                subst hi3
                refine D9 (.inr (gb, sp, cp, aa, zz, cc)) ⟨hi1, hi5, hi6, hi7, hi8, hi9, hi10, hi11, hi12⟩ (Sub.all rfl) rfl
          ·
            rintro (_ | ⟨gb, sp, cp, aa, zz, cc⟩) hx
            ·
              obtain hm0 := hx
              show JQ _ _ _ [_, _, _] [_, _, _]
              refine AD (AF (AC (AA (Ptr nb2 2) (AB 2 26 4 AQ rfl BE rfl rfl) rfl ?_)))
              refine AA (Ptr nb2 3) (AB 1 23 1 AY rfl BV rfl rfl) rfl (AA _ (AL rfl (AX B4 (AR 2 rfl (AI (AH (AH (AH (Seg.head)))))))) rfl ?_)
              refine AA (I64 0) (DA BL rfl) rfl (AA _ (AG rfl) rfl ?_)
              refine AJ (AD (B5 (EO (ι := Unit) (fun _ => [(0, Ptr rb 0), (2, Ptr nb1 0), (3, Ptr nb2 0), (51, I64 0), (52, I64 0)]) (fun _ => [(Ez rb [errV 50 (eQ z0 18), SL ao5 zz5.length ca5] 204), (Ez nb1 (V5) 29), (Ez nb2 (V2 (vQ z0 0 8) (vQ z0 8 8) (((vQ z0 16 1).toNat:Int)) none 0 0 none 0 0 0 (zr8 16)) 29)]) (fun _ => True) (fun _ => 1) () trivial (Sub.all rfl) rfl ?_)))
              rintro _ _
              show JC _ _ _ [_, _, _, _, _] [_, _, _]
              refine AF (AC (AA (.bool (decide ((0:Int) < (0:Int)))) (AT rfl rfl fun _ => CL _ _) rfl ?_))
              refine AJ (AD (AF (BT _ rfl (by decide) ?_)))
              refine EF (BC (BC (CX (BU (D9 (.inl (0, 18, ao5, zz5, ca5)) ⟨.inr (bad12 hk12 (by omega)), hq5, (fun w M h => hA5 w M (hA3 w M (hA2 w M (hA1 w M h)))), by omega, by omega, by omega⟩ (Sub.all rfl) rfl)))))
            ·
              obtain ⟨hy1, hy2, hy3, hy4, hy5, hy6, hy7, hy8, hy9⟩ := hx
              show JQ _ _ _ [_, _, _] [_, _, _, _]
              refine AD (AF ?_)
              by_cases hk1 : vQ z0 16 1 = 1
              ·
                refine AC (AA (Ptr nb2 2) (AB 2 26 4 AQ rfl BE rfl rfl) rfl ?_)
                refine AA (Ptr nb2 3) (AB 1 23 1 AY rfl BV rfl rfl) rfl (AA _ (AL rfl (AX B4 (AR 2 rfl (AI (AH (AH (AH (Seg.head)))))))) rfl ?_)
                refine AA (I64 m) (DA BL rfl) rfl (AA _ (AG rfl) rfl ?_)
                refine AJ (AD (B5 ?_))
                obtain ⟨aq, haq⟩ : ∃ aq, aq = 4*m + 18 := ⟨_, rfl⟩
                rw [← haq]
                show JC _ _ _ _ [(Ez rb [errV 50 (eQ z0 aq), SL aa zz.length cc] 204), (Ez nb1 (V5) 29), (Ez nb2 ([U64 (vQ z0 0 8), U64 (vQ z0 8 8), I64 (((vQ z0 16 1).toNat:Int)), Slc gb 0 m cp, SL none 0 0, U64 0] ++ cu8 (zr8 16)) 29), (Ez gb (cu64 (ixQ z0 18 m) ++ sp) 22)]
                refine EO (ι := (Unit) ⊕ (Nat × List SealR × Nat × List Value × Nat × Option Addr × List UInt8 × Nat)) (fun x => match x with | .inl _ => [(0, Ptr rb 0), (2, Ptr nb1 0), (3, Ptr nb2 0), (51, I64 m), (52, I64 0)] | .inr ⟨j, rr, gs, sp2, cp2, aa2, zz2, cc2⟩ => [(0, Ptr rb 0), (2, Ptr nb1 0), (3, Ptr nb2 0), (51, I64 m), (52, I64 j)]) (fun x => match x with | .inl _ => [(Ez rb [errV 50 (eQ z0 aq), SL aa zz.length cc] 204), (Ez nb1 (V5) 29), (Ez nb2 ([U64 (vQ z0 0 8), U64 (vQ z0 8 8), I64 (((vQ z0 16 1).toNat:Int)), Slc gb 0 m cp, SL none 0 0, U64 0] ++ cu8 (zr8 16)) 29), (Ez gb (cu64 (ixQ z0 18 m) ++ sp) 22)] | .inr ⟨j, rr, gs, sp2, cp2, aa2, zz2, cc2⟩ => [(Ez rb [errV 50 (eQ z0 (aq + 56*j)), SL aa2 zz2.length cc2] 204), (Ez nb1 (V5) 29), (Ez nb2 ([U64 (vQ z0 0 8), U64 (vQ z0 8 8), I64 (((vQ z0 16 1).toNat:Int)), Slc gb 0 m cp, Slc gs 0 j cp2, U64 0] ++ cu8 (zr8 16)) 29), (Ez gb (cu64 (ixQ z0 18 m) ++ sp) 22), (Ez gs ((rr).flatMap sealC ++ sp2) 161)]) (fun x => match x with | .inl _ => True | .inr ⟨j, rr, gs, sp2, cp2, aa2, zz2, cc2⟩ => 0 < j ∧ j ≤ m ∧ rr = seQ z0 aq j ∧ rr.length = j ∧ sp2.length = cp2 * 49 - j * 49 ∧ j ≤ cp2 ∧ cp2 ≤ maxLen ∧ Lq z0 zz2 (aq + 56*j) ∧ (∀ w M, RdB w M ao z → RdB w M aa2 zz2) ∧ zz2.length ≤ cc2 ∧ cc2 ≤ maxLen ∧ zz2.length ≤ n) (fun x => match x with | .inl _ => m + 2 | .inr ⟨j, rr, gs, sp2, cp2, aa2, zz2, cc2⟩ => m + 1 - j) (.inl ()) trivial (Sub.all rfl) rfl ?_
                rintro (_ | ⟨j, rr, gs, sp2, cp2, aa2, zz2, cc2⟩) hx
                ·
                  obtain _ := hx
                  show JC _ _ _ [_, _, _, _, _] [_, _, _, _]
                  refine AF (AC (AA (.bool (decide ((0:Int) < ((m:Int))))) (AT rfl rfl fun _ => CL _ _) rfl ?_))
                  refine AJ (AD (AF (CH _ rfl (decide_eq_true (by omega)) ?_)))
                  refine BH (AD (AF (B5 (AF (AC (AA (Ptr nb2 2) (AB 2 26 4 AQ rfl BE rfl rfl) rfl ?_))))))
                  refine AA (Ptr nb2 2) (AB 0 3 1 AY rfl AW rfl rfl) rfl (AA _ (AL rfl (AX A0 (AR 2 rfl (AI (AH (AH (Seg.head))))))) rfl ?_)
                  refine AA (.bool (decide ((((vQ z0 16 1).toNat:Int)) = (1:Int)))) (AT rfl rfl fun _ => BP _ _) rfl ?_
                  refine AJ (AD (CH _ rfl (decide_eq_true (by rw [hk1]; rfl)) ?_))
                  refine DB 90 5 [(0, Ptr nb2 2), (1, Ptr nb2 4), (2, SL none 0 0), (3, Ptr rb 0)] B6 rfl (by decide +kernel) ?_
                  refine C2 ⟨[], [0, 1, 2, 3], [], [0, 1, 2, 3], [4]⟩ 4 _ rfl rfl (by decide +kernel) rfl ⟨AP rfl rfl (AB 2 26 4 AQ rfl BE rfl rfl), AP rfl rfl (AB 2 24 1 AY rfl DG rfl rfl), AP rfl rfl (AL rfl (AX D6 (AR 2 rfl (AI (AH (AH (AH (AH (Seg.head))))))))), CB rfl rfl rfl, trivial⟩ rfl (BO rfl (BD 120 _ [true, false, false, false] [rb] _ (AV _ Tryd.call120 rfl) rfl (fun w1 hw1 => sreadQ_c rb aq aa zz.length cc z0 zz w1 (hw1.en 0 rfl) rfl (by omega) (by omega) (by omega) (hy6 _ _ (hr.at (M' := [rb]) hw1 (hw1.apart [0] _ rfl))) (haq ▸ hy5)))) ?_
                  rintro v1 L1 ⟨_, ⟨rfl, ao8, zz8, ca8, hq8, ⟨hA8, hb27, hb28, hb29⟩, rfl⟩, rfl⟩
                  refine ⟨[], ?_⟩
                  show DP _ _ _ _ _ _ _ _ [_, _, _, (Ez rb [errV 50 (eQ z0 (aq + 56)), SL ao8 zz8.length ca8] 204)]
                  refine C2 ⟨[4], [0, 1, 2, 3], [3], [0, 1, 2], [5]⟩ 5 _ rfl rfl (by decide +kernel) rfl ⟨AP rfl rfl (AB 2 26 4 AQ rfl BE rfl rfl), AP rfl rfl (AB 2 24 1 AY rfl DG rfl rfl), AP rfl rfl (AL rfl (AX D6 (AR 1 rfl (AI (AH (AH (AH (AH (Seg.head))))))))), trivial⟩ rfl (BO rfl (DF 161 49 _ [(0, .agg ([U64 (vQ z0 aq 8)] ++ cu8 (bQ z0 (aq + 8) 32) ++ cu8 (bQ z0 (aq + 40) 16)).toArray)] ([U64 (vQ z0 aq 8)] ++ cu8 (bQ z0 (aq + 8) 32) ++ cu8 (bQ z0 (aq + 40) 16)) CK BY Tryd.zeroValue161 rfl rfl rfl (fill_one (Z := [U64 0] ++ cu8 (zr8 32) ++ cu8 (zr8 16)) (by simp [(CG _ _ _), (CG _ _ _)]) (by kernel_rfl) (by simp [zr8])))) ?_
                  rintro v1 L1 ⟨nb7, hnb7, rfl, rfl⟩
                  refine ⟨[], ?_⟩
                  show DP _ _ _ _ _ _ _ _ [_, _, _, _, (Ez nb7 ([U64 (vQ z0 aq 8)] ++ cu8 (bQ z0 (aq + 8) 32) ++ cu8 (bQ z0 (aq + 40) 16)) 161)]
                  refine C2 ⟨[4, 5], [0, 1, 2, 3], [3], [0, 1, 2], [6]⟩ 6 _ rfl rfl (by decide +kernel) rfl ⟨AP rfl rfl (AB 2 26 4 AQ rfl BE rfl rfl), AP rfl rfl (AB 2 24 1 AY rfl DG rfl rfl), AP rfl rfl (AL rfl (AX D6 (AR 1 rfl (AI (AH (AH (AH (AH (Seg.head))))))))), trivial⟩ rfl (BO rfl (Step_appS 24 161 56 (.agg ([U64 0] ++ cu8 (zr8 32) ++ cu8 (zr8 16)).toArray) [false, false, false, false, false] (SL none 0 0) 0 ([] : List SealR) (SealR.mk (vQ z0 aq 8) (bQ z0 (aq + 8) 32) (bQ z0 (aq + 40) 16) (CG _ _ _) (CG _ _ _)) (some ⟨nb7, 0, none⟩) 1 1 CK (by kernel_rfl) (by kernel_rfl) rfl (.inl ⟨rfl, rfl, rfl, rfl⟩) rfl (SrcAt.mem (AR 4 rfl (AN _))) (by omega) (by unfold maxLen; omega) (by omega))) ?_
                  rintro v1 L1 ⟨nb8, sp3, cp3, hg3, rfl, rfl, ha9, ha10, ha11, ha12⟩
                  refine ⟨[(7, Ptr nb2 2), (8, Ptr nb2 4)], ?_⟩
                  show DP _ _ _ _ _ _ _ _ [_, _, _, _, _, (Ez nb8 ((([] : List SealR) ++ [(SealR.mk (vQ z0 aq 8) (bQ z0 (aq + 8) 32) (bQ z0 (aq + 40) 16) (CG _ _ _) (CG _ _ _))]).flatMap sealC ++ sp3) 161)]
                  refine EI ⟨[4, 5, 6], [0, 1, 2, 3, 7, 8], [0, 1, 2, 3], [7, 8], [9]⟩ 9 rfl rfl (by decide +kernel) rfl ⟨AP rfl rfl (AB 2 26 4 AQ rfl BE rfl rfl), AP rfl rfl (AB 2 24 1 AY rfl DG rfl rfl), trivial⟩ rfl (BO rfl (C0 1 nb2 4 1 _ 29 (Slc nb8 0 1 cp3) ([Slc nb8 0 1 cp3]) ([U64 (vQ z0 0 8), U64 (vQ z0 8 8), I64 (((vQ z0 16 1).toNat:Int)), Slc gb 0 m cp, Slc nb8 0 1 cp3, U64 0] ++ cu8 (zr8 16)) rfl rfl rfl rfl DG rfl (by simp [Value.oneCell']) (by simp [(AO 16)]) (rfl))) ?_
                  show DP _ _ _ _ _ _ _ _ [_, (Ez nb2 ([U64 (vQ z0 0 8), U64 (vQ z0 8 8), I64 (((vQ z0 16 1).toNat:Int)), Slc gb 0 m cp, Slc nb8 0 1 cp3, U64 0] ++ cu8 (zr8 16)) 29), _, _, _, _]
                  refine DR ⟨[4, 5, 6, 9], [0, 1, 2, 3, 7, 8], [0, 1, 2, 3, 7, 8], [], []⟩ rfl rfl (by decide +kernel) rfl trivial ?_
                  refine C5 (F' := [(58, Ptr nb2 2), (59, Ptr nb2 4), (60, SL none 0 0), (61, Ptr rb 0), (62, .agg ([U64 (vQ z0 aq 8)] ++ cu8 (bQ z0 (aq + 8) 32) ++ cu8 (bQ z0 (aq + 40) 16)).toArray), (63, Slc nb7 0 1 1), (64, Slc nb8 0 1 cp3), (65, Ptr nb2 2), (66, Ptr nb2 4), (0, Ptr rb 0), (2, Ptr nb1 0), (3, Ptr nb2 0), (51, I64 m), (52, I64 0), (53, .bool (decide ((0:Int) < ((m:Int))))), (54, Ptr nb2 2), (55, Ptr nb2 2), (56, I64 (((vQ z0 16 1).toNat:Int))), (57, .bool (decide ((((vQ z0 16 1).toNat:Int)) = (1:Int))))]) (by kernel_rfl) ?_
                  refine BU (AD (AC (AA (I64 1) (AT rfl rfl fun _ => DK _ _ (1:Int) (by omega) (by omega)) rfl ?_)))
                  refine AA _ (AG rfl) rfl ?_
                  refine AJ (DU (CD [true, true, true, true, false, true] ?_))
                  show K _ _ [_, _, _, _, _] _
                  refine FG [3, 0, 1, 2, 4] (by decide) ?_
                  show K _ _ [_, _, _, _, _] _
                  refine EZ (.inr (1, ([] : List SealR) ++ [(SealR.mk (vQ z0 aq 8) (bQ z0 (aq + 8) 32) (bQ z0 (aq + 40) 16) (CG _ _ _) (CG _ _ _))], nb8, sp3, cp3, ao8, zz8, ca8)) ⟨by omega, by omega, by rw [seQ_one]; exact congrArg (fun x => [x]) (sQ_eq _ _ _ _), (ha9).trans (by first | rfl | simp +arith), (ha10).trans (by first | rfl | omega), by omega, by omega, (fun h8 => (hq8 (by omega)).trans (by congr 1 <;> omega)), (fun w M h => hA8 w M (hy6 w M h)), by omega, by omega, by omega⟩ (by dsimp only; omega) (Sub.all rfl) rfl
                ·
                  obtain ⟨hj1, hj2, hj3, hj4, hj5, hj6, hj7, hj8, hj9, hj10, hj11, hj12⟩ := hx
                  show JC _ _ _ [_, _, _, _, _] [_, _, _, _, _]
                  refine AF (AC (AA (.bool (decide (((j:Int)) < ((m:Int))))) (AT rfl rfl fun _ => CL _ _) rfl ?_))
                  refine AJ (AD (AF (CC (decide (((j:Int)) < ((m:Int)))) rfl (fun hb30 => ?_) (fun hb30 => ?_))))
                  ·
                    have hp30 : ((j:Int)) < ((m:Int)) := of_decide_eq_true hb30
                    refine BH (AD (AF (B5 (AF (AC (AA (Ptr nb2 2) (AB 2 26 4 AQ rfl BE rfl rfl) rfl ?_))))))
                    refine AA (Ptr nb2 2) (AB 0 3 1 AY rfl AW rfl rfl) rfl (AA _ (AL rfl (AX A0 (AR 2 rfl (AI (AH (AH (Seg.head))))))) rfl ?_)
                    refine AA (.bool (decide ((((vQ z0 16 1).toNat:Int)) = (1:Int)))) (AT rfl rfl fun _ => BP _ _) rfl ?_
                    refine AJ (AD (CH _ rfl (decide_eq_true (by rw [hk1]; rfl)) ?_))
                    refine DB 90 5 [(0, Ptr nb2 2), (1, Ptr nb2 4), (2, Slc gs 0 j cp2), (3, Ptr rb 0)] B6 rfl (by decide +kernel) ?_
                    refine C2 ⟨[], [0, 1, 2, 3], [], [0, 1, 2, 3], [4]⟩ 4 _ rfl rfl (by decide +kernel) rfl ⟨AP rfl rfl (AB 2 26 4 AQ rfl BE rfl rfl), AP rfl rfl (AB 2 24 1 AY rfl DG rfl rfl), AP rfl rfl (AL rfl (AX D6 (AR 2 rfl (AI (AH (AH (AH (AH (Seg.head))))))))), CB rfl rfl rfl, trivial⟩ rfl (BO rfl (BD 120 _ [true, false, false, false, false] [rb] _ (AV _ Tryd.call120 rfl) rfl (fun w1 hw1 => sreadQ_c rb (aq + 56*j) aa2 zz2.length cc2 z0 zz2 w1 (hw1.en 0 rfl) rfl (by omega) (by omega) (by omega) (hj9 _ _ (hr.at (M' := [rb]) hw1 (hw1.apart [0] _ rfl))) hj8))) ?_
                    rintro v1 L1 ⟨_, ⟨rfl, ao9, zz9, ca9, hq9, ⟨hA9, hb31, hb32, hb33⟩, rfl⟩, rfl⟩
                    refine ⟨[], ?_⟩
                    show DP _ _ _ _ _ _ _ _ [_, _, _, _, (Ez rb [errV 50 (eQ z0 (aq + 56*j + 56)), SL ao9 zz9.length ca9] 204)]
                    refine C2 ⟨[4], [0, 1, 2, 3], [3], [0, 1, 2], [5]⟩ 5 _ rfl rfl (by decide +kernel) rfl ⟨AP rfl rfl (AB 2 26 4 AQ rfl BE rfl rfl), AP rfl rfl (AB 2 24 1 AY rfl DG rfl rfl), AP rfl rfl (AL rfl (AX D6 (AR 1 rfl (AI (AH (AH (AH (AH (Seg.head))))))))), trivial⟩ rfl (BO rfl (DF 161 49 _ [(0, .agg ([U64 (vQ z0 (aq + 56*j) 8)] ++ cu8 (bQ z0 (aq + 56*j + 8) 32) ++ cu8 (bQ z0 (aq + 56*j + 40) 16)).toArray)] ([U64 (vQ z0 (aq + 56*j) 8)] ++ cu8 (bQ z0 (aq + 56*j + 8) 32) ++ cu8 (bQ z0 (aq + 56*j + 40) 16)) CK BY Tryd.zeroValue161 rfl rfl rfl (fill_one (Z := [U64 0] ++ cu8 (zr8 32) ++ cu8 (zr8 16)) (by simp [(CG _ _ _), (CG _ _ _)]) (by kernel_rfl) (by simp [zr8])))) ?_
                    rintro v1 L1 ⟨nb9, hnb9, rfl, rfl⟩
                    refine ⟨[], ?_⟩
                    show DP _ _ _ _ _ _ _ _ [_, _, _, _, _, (Ez nb9 ([U64 (vQ z0 (aq + 56*j) 8)] ++ cu8 (bQ z0 (aq + 56*j + 8) 32) ++ cu8 (bQ z0 (aq + 56*j + 40) 16)) 161)]
                    refine C2 ⟨[4, 5], [0, 1, 2, 3], [3], [0, 1, 2], [6]⟩ 6 _ rfl rfl (by decide +kernel) rfl ⟨AP rfl rfl (AB 2 26 4 AQ rfl BE rfl rfl), AP rfl rfl (AB 2 24 1 AY rfl DG rfl rfl), AP rfl rfl (AL rfl (AX D6 (AR 1 rfl (AI (AH (AH (AH (AH (Seg.head))))))))), trivial⟩ rfl (BO rfl (Step_appS 24 161 56 (.agg ([U64 0] ++ cu8 (zr8 32) ++ cu8 (zr8 16)).toArray) [false, false, false, true, false, false] (Slc gs 0 j cp2) j rr (SealR.mk (vQ z0 (aq + 56*j) 8) (bQ z0 (aq + 56*j + 8) 32) (bQ z0 (aq + 56*j + 40) 16) (CG _ _ _) (CG _ _ _)) (some ⟨nb9, 0, none⟩) 1 (j + 1) CK (by kernel_rfl) (by kernel_rfl) rfl (.inr ⟨gs, sp2, cp2, rfl, rfl, (by have h : (rr).length = j := hj4; omega), (by first | exact hj5 | omega), (by omega), (by omega)⟩) rfl (SrcAt.mem (AR 5 rfl (AN _))) (by omega) (by unfold maxLen; omega) (by omega))) ?_
                    rintro v1 L1 ⟨nb10, sp4, cp4, hg4, rfl, rfl, ha13, ha14, ha15, ha16⟩
                    refine ⟨[(7, Ptr nb2 2), (8, Ptr nb2 4)], ?_⟩
                    show DP _ _ _ _ _ _ _ _ [_, _, _, _, _, (Ez nb10 ((rr ++ [(SealR.mk (vQ z0 (aq + 56*j) 8) (bQ z0 (aq + 56*j + 8) 32) (bQ z0 (aq + 56*j + 40) 16) (CG _ _ _) (CG _ _ _))]).flatMap sealC ++ sp4) 161)]
                    refine EI ⟨[4, 5, 6], [0, 1, 2, 3, 7, 8], [0, 1, 2, 3], [7, 8], [9]⟩ 9 rfl rfl (by decide +kernel) rfl ⟨AP rfl rfl (AB 2 26 4 AQ rfl BE rfl rfl), AP rfl rfl (AB 2 24 1 AY rfl DG rfl rfl), trivial⟩ rfl (BO rfl (C0 1 nb2 4 1 _ 29 (Slc nb10 0 (j + 1) cp4) ([Slc nb10 0 (j + 1) cp4]) ([U64 (vQ z0 0 8), U64 (vQ z0 8 8), I64 (((vQ z0 16 1).toNat:Int)), Slc gb 0 m cp, Slc nb10 0 (j + 1) cp4, U64 0] ++ cu8 (zr8 16)) rfl rfl rfl rfl DG rfl (by simp [Value.oneCell']) (by simp [(AO 16)]) (rfl))) ?_
                    show DP _ _ _ _ _ _ _ _ [_, (Ez nb2 ([U64 (vQ z0 0 8), U64 (vQ z0 8 8), I64 (((vQ z0 16 1).toNat:Int)), Slc gb 0 m cp, Slc nb10 0 (j + 1) cp4, U64 0] ++ cu8 (zr8 16)) 29), _, _, _, _]
                    refine DR ⟨[4, 5, 6, 9], [0, 1, 2, 3, 7, 8], [0, 1, 2, 3, 7, 8], [], []⟩ rfl rfl (by decide +kernel) rfl trivial ?_
                    refine C5 (F' := [(58, Ptr nb2 2), (59, Ptr nb2 4), (60, Slc gs 0 j cp2), (61, Ptr rb 0), (62, .agg ([U64 (vQ z0 (aq + 56*j) 8)] ++ cu8 (bQ z0 (aq + 56*j + 8) 32) ++ cu8 (bQ z0 (aq + 56*j + 40) 16)).toArray), (63, Slc nb9 0 1 1), (64, Slc nb10 0 (j + 1) cp4), (65, Ptr nb2 2), (66, Ptr nb2 4), (0, Ptr rb 0), (2, Ptr nb1 0), (3, Ptr nb2 0), (51, I64 m), (52, I64 j), (53, .bool (decide (((j:Int)) < ((m:Int))))), (54, Ptr nb2 2), (55, Ptr nb2 2), (56, I64 (((vQ z0 16 1).toNat:Int))), (57, .bool (decide ((((vQ z0 16 1).toNat:Int)) = (1:Int))))]) (by kernel_rfl) ?_
                    refine BU (AD (AC (AA (I64 ((j:Int) + 1)) (AT rfl rfl fun _ => DK _ _ ((j:Int) + 1) (by omega) (by omega)) rfl ?_)))
                    refine AA _ (AG rfl) rfl ?_
                    refine AJ (DU (CD [true, true, true, true, false, true] ?_))
                    show K _ _ [_, _, _, _, _] _
                    refine FG [3, 0, 1, 2, 4] (by decide) ?_
                    show K _ _ [_, _, _, _, _] _
                    refine EZ (.inr (j + 1, rr ++ [(SealR.mk (vQ z0 (aq + 56*j) 8) (bQ z0 (aq + 56*j + 8) 32) (bQ z0 (aq + 56*j + 40) 16) (CG _ _ _) (CG _ _ _))], nb10, sp4, cp4, ao9, zz9, ca9)) ⟨by omega, by omega, by rw [seQ_succ, ← hj3]; exact congrArg (fun x => rr ++ [x]) (sQ_eq _ _ _ _), (ha13).trans (by first | rfl | simp +arith), (ha14).trans (by first | rfl | omega), by omega, by omega, (fun h8 => (hq9 (by omega)).trans (by congr 1 <;> omega)), (fun w M h => hA9 w M (hj9 w M h)), by omega, by omega, by omega⟩ (by dsimp only; omega) (Sub.all rfl) rfl
                  ·
                    have hp30 : ¬ (((j:Int)) < ((m:Int))) := of_decide_eq_false hb30
                    refine EF (BC (BC (CX (BU ?_))))
                    have ei : m = j := by omega
                    subst ei
                    subst hj3
                    subst haq
                    refine D9 (.inr (.inr (m, 4*m + 18 + 56*m, gs, sp2, cp2, gb, sp, cp, aa2, zz2, cc2))) ⟨hk1, by omega, hm2, by omega, hj5, hj6, hj7, hy2, hy3, hy4, hj8, hj9, hj10, hj11, hj12⟩ (Sub.all rfl) rfl
              ·
                refine AC (AA (Ptr nb2 2) (AB 2 26 4 AQ rfl BE rfl rfl) rfl ?_)
                refine AA (Ptr nb2 3) (AB 1 23 1 AY rfl BV rfl rfl) rfl (AA _ (AL rfl (AX B4 (AR 2 rfl (AI (AH (AH (AH (Seg.head)))))))) rfl ?_)
                refine AA (I64 m) (DA BL rfl) rfl (AA _ (AG rfl) rfl ?_)
                refine AJ (AD (B5 (EO (ι := Nat) (fun j => [(0, Ptr rb 0), (2, Ptr nb1 0), (3, Ptr nb2 0), (51, I64 m), (52, I64 j)]) (fun j => [(Ez rb [errV 50 (eQ z0 (4*m + 18)), SL aa zz.length cc] 204), (Ez nb1 (V5) 29), (Ez nb2 ([U64 (vQ z0 0 8), U64 (vQ z0 8 8), I64 (((vQ z0 16 1).toNat:Int)), Slc gb 0 m cp, SL none 0 0, U64 0] ++ cu8 (zr8 16)) 29), (Ez gb (cu64 (ixQ z0 18 m) ++ sp) 22)]) (fun j => j ≤ m) (fun j => m - j) 0 (by omega) (Sub.all rfl) rfl ?_)))
                rintro j hj1
                show JC _ _ _ [_, _, _, _, _] [_, _, _, _]
                refine AF (AC (AA (.bool (decide (((j:Int)) < ((m:Int))))) (AT rfl rfl fun _ => CL _ _) rfl ?_))
                refine AJ (AD (AF (CC (decide (((j:Int)) < ((m:Int)))) rfl (fun hb34 => ?_) (fun hb34 => ?_))))
                ·
                  have hp34 : ((j:Int)) < ((m:Int)) := of_decide_eq_true hb34
                  refine BH (AD (AF (B5 (AF (AC (AA (Ptr nb2 2) (AB 2 26 4 AQ rfl BE rfl rfl) rfl ?_))))))
                  refine AA (Ptr nb2 2) (AB 0 3 1 AY rfl AW rfl rfl) rfl (AA _ (AL rfl (AX A0 (AR 2 rfl (AI (AH (AH (Seg.head))))))) rfl ?_)
                  refine AA (.bool (decide ((((vQ z0 16 1).toNat:Int)) = (1:Int)))) (AT rfl rfl fun _ => BP _ _) rfl ?_
                  refine AJ (AD (BT _ rfl (decide_eq_false (fun h => hk1 (kdn (k := 1) (by decide) h))) ?_))
                  refine BH (BU (AD (AC (AA (I64 ((j:Int) + 1)) (AT rfl rfl fun _ => DK _ _ ((j:Int) + 1) (by omega) (by omega)) rfl ?_))))
                  refine AA _ (AG rfl) rfl ?_
                  refine AJ (DU (EZ (j + 1) (by omega) (by omega) (Sub.all rfl) rfl))
                ·
                  have hp34 : ¬ (((j:Int)) < ((m:Int))) := of_decide_eq_false hb34
                  refine EF (BC (BC (CX (BU (D9 (.inr (.inl (m, 4*m + 18, gb, sp, cp, aa, zz, cc))) ⟨hk12.resolve_left hk1, rfl, hm2, by omega, hy2, hy3, hy4, hy5, hy6, hy7, hy8, hy9⟩ (Sub.all rfl) rfl)))))
        ·
          refine BH (BU (FG [2, 0, 1] (by decide) ?_))
          show JQ _ _ _ _ [_, _, _]
          refine D9 (.inl (0, 17, ao3, zz3, ca3)) ⟨.inr (bad0 hb10 hb15), hq3, (fun w M h => hA3 w M (hA2 w M (hA1 w M h))), by omega, by omega, by omega⟩ (Sub.all rfl) rfl
  ·
    rintro (⟨bl, pp, aa, zz, cc⟩ | ⟨m, pp, gb, sp, cp, aa, zz, cc⟩ | ⟨m, pp, gs, sp2, cp2, gb, sp, cp, aa, zz, cc⟩) hx
    ·
      obtain ⟨hu1, hu5, hu6, hu10, hu11, hu12⟩ := hx
      show JQ _ _ _ [_, _, _] [_, _, _]
      refine AD (AF (DB 90 3 [(0, Ptr nb2 6), (1, Slc nb2 6 16 16), (2, Ptr rb 0)] B6 rfl (by decide +kernel) ?_))
      refine C2 ⟨[], [0, 1, 2], [], [0, 1, 2], [3]⟩ 3 _ rfl rfl (by decide +kernel) rfl ⟨AP rfl rfl (AB 6 27 16 AQ rfl B3 rfl rfl), AP rfl rfl (DV 16 5 1 0 16 6 16 B1 B7 rfl rfl rfl (by omega) (by omega) (by omega) (by omega) (by omega) 16 (by omega)), CB rfl rfl rfl, trivial⟩ rfl (BO rfl (BD 127 _ [true, false, false] [rb] _ (AV _ Tryd.call127 rfl) rfl (fun w1 hw1 => rawA_w rb pp 16 aa zz.length cc z0 zz w1 (hw1.en 0 rfl) rfl (by omega) (by omega) (by omega) (hu6 _ _ (hr.at (M' := [rb]) hw1 (hw1.apart [0] _ rfl))) hu5 (by omega)))) ?_
      rintro v1 L1 ⟨_, ⟨ao10, zz10, ca10, hq10, ⟨hA10, hb35, hb36, hb37⟩, (⟨hg5, nb11, sp5, cp5, rfl, rfl, hc1, hc2, hc3⟩ | ⟨hg5, rfl, rfl⟩)⟩, rfl⟩
      ·
        refine ⟨[], ?_⟩
        show DP _ _ _ _ _ _ _ _ [_, _, (Ez rb [errV 50 (eQ z0 (pp + 16)), SL ao10 zz10.length ca10] 204), (Ez nb11 (cu8 (bQ z0 pp 16) ++ sp5) 5)]
        refine EI ⟨[3], [0, 1, 2], [2], [0, 1], [4]⟩ 4 rfl rfl (by decide +kernel) rfl ⟨AP rfl rfl (AB 6 27 16 AQ rfl B3 rfl rfl), AP rfl rfl (DV 16 5 1 0 16 6 16 B1 B7 rfl rfl rfl (by omega) (by omega) (by omega) (by omega) (by omega) 16 (by omega)), trivial⟩ rfl (BO rfl (E9 43 43 5 1 nb2 6 16 16 (V2 (vQ z0 0 8) (vQ z0 8 8) (((vQ z0 16 1).toNat:Int)) none 0 0 none 0 0 bl (zr8 16)) 29 (some ⟨nb11, 0, none⟩) 16 cp5 16 (cu8 (bQ z0 pp 16)) (V2 (vQ z0 0 8) (vQ z0 8 8) (((vQ z0 16 1).toNat:Int)) none 0 0 none 0 0 bl (bQ z0 pp 16)) BM EH rfl rfl rfl rfl (by simp [(show (bQ z0 pp 16).length = 16 from (CG _ _ _))]; try omega) (SrcAt.mem (AR 3 rfl (AI (AN _)))) (by simp [(AO 16)]; try omega) (by first | exact CZ | exact one_u32 | exact one_u64 | (simp [cu8, cu32, cu64, Value.oneCell']; done)) (E6 6 0 rfl rfl (BW (by simp [(AO 16), (show (bQ z0 pp 16).length = 16 from (CG _ _ _))]))))) ?_
        show DP _ _ _ _ _ _ _ _ [_, (Ez nb2 (V2 (vQ z0 0 8) (vQ z0 8 8) (((vQ z0 16 1).toNat:Int)) none 0 0 none 0 0 bl (bQ z0 pp 16)) 29), _, _]
        refine DR ⟨[3, 4], [0, 1, 2], [0, 1, 2], [], []⟩ rfl rfl (by decide +kernel) rfl trivial ?_
        refine C5 (F' := [(0, Ptr rb 0), (2, Ptr nb1 0), (3, Ptr nb2 0)]) (by kernel_rfl) ?_
        refine AD (AF (AF (AC (AA _ (AL rfl (BR CA BB (by simp [(show (bQ z0 pp 16).length = 16 from (CG _ _ _))]) (AR 1 rfl (AN _)))) rfl ?_))))
        refine A7 (A3 128 _ (errV 50 (mayN (vQ z0 0 8) (vQ z0 8 8) (((vQ z0 16 1).toNat:Int)) ([] : List UInt64) ([] : List SealR) bl)) (AV _ Tryd.call128 rfl) (fun w1 hw1 => may13_c (vQ z0 0 8) (vQ z0 8 8) (((vQ z0 16 1).toNat:Int)) none 0 0 ([] : List UInt64) none 0 0 ([] : List SealR) bl (bQ z0 pp 16) w1 rfl (by omega) (by omega) (by omega) RdV.nil rfl (by omega) (by omega) (by omega) RdV.nil (show (bQ z0 pp 16).length = 16 from (CG _ _ _)))) rfl ?_
        show JL _ _ _ _ ((74, errV 50 (mayN (vQ z0 0 8) (vQ z0 8 8) (((vQ z0 16 1).toNat:Int)) ([] : List UInt64) ([] : List SealR) bl)) :: _) [_, _, _, _]
        refine AA _ (AE rfl) rfl ?_
        refine AJ (AD (AF (AC (AA _ (AG rfl) rfl ?_))))
        refine AA (.bool (!(decide (mayN (vQ z0 0 8) (vQ z0 8 8) (((vQ z0 16 1).toNat:Int)) ([] : List UInt64) ([] : List SealR) bl = 0)))) (DM _ _ _ rfl rfl (fun _ => CE ..) fun _ => DW BG _ _) rfl ?_
        refine AJ (AD (CC (!(decide (mayN (vQ z0 0 8) (vQ z0 8 8) (((vQ z0 16 1).toNat:Int)) ([] : List UInt64) ([] : List SealR) bl = 0))) rfl (fun hb38 => ?_) (fun hb38 => ?_)))
        ·
          have hb39 : (decide (mayN (vQ z0 0 8) (vQ z0 8 8) (((vQ z0 16 1).toNat:Int)) ([] : List UInt64) ([] : List SealR) bl = 0)) = false := by simpa using hb38
          have hp39 : ¬ (mayN (vQ z0 0 8) (vQ z0 8 8) (((vQ z0 16 1).toNat:Int)) ([] : List UInt64) ([] : List SealR) bl = 0) := of_decide_eq_false hb39
          refine AC (AA _ (AG rfl) rfl ?_)
          refine AA (.iface 50 (I64 2)) (DH BN rfl rfl) rfl ?_
          refine A2 (D7 121 [Ptr rb 0, .iface 50 (I64 2)] 2 (Ez rb [errV 50 (eQ z0 (pp + 16)), SL ao10 zz10.length ca10] 204) _ (fun v e' l' => v = .tuple #[] ∧ e' = (Ez rb [errV 50 (erN (eQ z0 (pp + 16)) 2), SL ao10 zz10.length ca10] 204) ∧ l' = []) (AV _ ED rfl) rfl (by rintro v l ⟨rfl, rfl⟩; exact ⟨_, _, rfl, rfl, rfl, rfl, rfl⟩) (fun w1 hw1 => EX rb (eQ z0 (pp + 16)) 2 (SL ao10 zz10.length ca10) w1 (by decide) (hw1.en 2 rfl))) rfl ?_
          rintro v1 L1 ⟨_, _, ⟨rfl, rfl, rfl⟩, rfl⟩
          show JL _ _ _ _ ((79, .tuple #[]) :: _) [_, _, (Ez rb [errV 50 (erN (eQ z0 (pp + 16)) 2), SL ao10 zz10.length ca10] 204), _]
          refine AJ (AD (AF (AF (AC (AA _ (AG rfl) rfl ?_)))))
          refine A7 (A3 61 _ (I64 ((leftN (erN (eQ z0 (pp + 16)) 2) zz10.length:Int))) (AV _ EA rfl) (fun w1 hw1 => left_w rb (erN (eQ z0 (pp + 16)) 2) ao10 zz10.length ca10 w1 (RdA.of hw1 (AR 2 rfl (AN _)) (by simp)))) rfl ?_
          show JL _ _ _ _ ((81, I64 ((leftN (erN (eQ z0 (pp + 16)) 2) zz10.length:Int))) :: _) [_, _, _, _]
          refine AA (.bool (decide (((leftN (erN (eQ z0 (pp + 16)) 2) zz10.length:Int)) = (0:Int)))) (AT rfl rfl fun _ => BP _ _) rfl ?_
          refine AA _ (AG rfl) rfl ?_
          refine AM 3 83 true _ _ rfl rfl (decide_eq_true (by rw [leftN, if_neg (FE (by decide))]; rfl)) (AG rfl) rfl ?_
          refine DC 3 83 true _ rfl rfl (decide_eq_true (by rw [leftN, if_neg (FE (by decide))]; rfl)) (A3 63 _ (errV 50 (endN (erN (eQ z0 (pp + 16)) 2) zz10.length)) (AV _ EE rfl) (fun w1 hw1 => end_w rb (erN (eQ z0 (pp + 16)) 2) ao10 zz10.length ca10 w1 (RdA.of hw1 (AR 2 rfl (AN _)) (by simp)))) rfl ?_
          rintro v1 L1 ⟨rfl, rfl⟩
          show JL _ _ _ _ ((85, errV 50 (endN (erN (eQ z0 (pp + 16)) 2) zz10.length)) :: _) [_, _, _, _]
          refine AM 3 83 true _ (.bool (!(decide (endN (erN (eQ z0 (pp + 16)) 2) zz10.length = 0)))) rfl rfl (decide_eq_true (by rw [leftN, if_neg (FE (by decide))]; rfl)) (DM _ _ _ rfl rfl (fun _ => CE ..) fun _ => DW BG _ _) rfl ?_
          refine AA _ (BA _ rfl (decide_eq_true (by rw [leftN, if_neg (FE (by decide))]; rfl)) rfl) rfl ?_
          refine AJ (AD (CH _ rfl (bnotF (decide_eq_false (by rw [endN, if_neg (FE (by decide))]; exact (FE (by decide))))) ?_))
          refine AF (AC (AA (.agg (V5).toArray) (CY [] _ rfl (fun _ => by kernel_rfl)) rfl ?_))
          refine A7 (BS 0 nb1 22 _ 29 (V5) rfl rfl rfl BB (by simp [(AO 16)]) (B0 (by simp [Value.oneCell']) CZ) (by simp [(AO 16)]) (BW (by simp [(AO 16), (AO 16)]))) rfl ?_
          show JL _ _ _ _ _ [_, _, _, _]
          refine AJ (AD (BK (A6 (BJ (.agg (V5).toArray) (res1 EL (DQ rfl (BR CA BB (by simp [(AO 16)]) (AR 0 rfl (AN _))))) fun w1 hw1 => ?_))))
          rw [show erN (eQ z0 (pp + 16)) 2 = 2 by rw [eQ_ok ‹pp + 16 ≤ z0.length›]; rfl] at hw1
          have hbq : BadQ z0 := by
            rcases hu1 with ⟨h3, rfl, rfl⟩ | ⟨hb, _⟩
            · exact bad3 h3 (fun e => by exact (of_decide_eq_false hb39) e.2)
            · exact hb
          rw [show errV 50 2 = errV 50 (eQ z0 (z0.length + 1)) by rw [FF (by omega)]] at hw1
          exact ⟨_, _, rfl, ⟨_, _, _, 0, _, 0, _, _, _, _, ao10, zz10, ca10, _, _, _, none, 0, _, _, _, none, 0, TkR.bad z0 hbq, rfl, rfl, (AO 16), (by omega), (by omega), (fun h => absurd h (by omega)), ⟨(fun w M h => hA10 w M (hu6 w M h)), by omega, by omega, by omega⟩, rfl, rfl, .inl rfl, by omega, (by unfold maxLen; omega), .inl rfl, by omega, (by unfold maxLen; omega)⟩, FC hw1 2 0 1 rfl rfl rfl (by decide) (by decide) (by decide)⟩
        ·
          have hb40 : (decide (mayN (vQ z0 0 8) (vQ z0 8 8) (((vQ z0 16 1).toNat:Int)) ([] : List UInt64) ([] : List SealR) bl = 0)) = true := by simpa using hb38
          have hp40 : mayN (vQ z0 0 8) (vQ z0 8 8) (((vQ z0 16 1).toNat:Int)) ([] : List UInt64) ([] : List SealR) bl = 0 := of_decide_eq_true hb40
          refine BH (AD (AF (AF (AC (AA _ (AG rfl) rfl ?_)))))
          refine A7 (A3 61 _ (I64 ((leftN (eQ z0 (pp + 16)) zz10.length:Int))) (AV _ EA rfl) (fun w1 hw1 => left_w rb (eQ z0 (pp + 16)) ao10 zz10.length ca10 w1 (RdA.of hw1 (AR 2 rfl (AN _)) (by simp)))) rfl ?_
          show JL _ _ _ _ ((81, I64 ((leftN (eQ z0 (pp + 16)) zz10.length:Int))) :: _) [_, _, _, _]
          refine AA (.bool (decide (((leftN (eQ z0 (pp + 16)) zz10.length:Int)) = (0:Int)))) (AT rfl rfl fun _ => BP _ _) rfl ?_
          refine AA _ (AG rfl) rfl ?_
          rcases Bool.eq_false_or_eq_true (decide (((leftN (eQ z0 (pp + 16)) zz10.length:Int)) = (0:Int))) with hb41 | hb41
          ·
            have hp41 : ((leftN (eQ z0 (pp + 16)) zz10.length:Int)) = (0:Int) := of_decide_eq_true hb41
            refine AM 3 83 true _ _ rfl rfl hb41 (AG rfl) rfl ?_
            refine DC 3 83 true _ rfl rfl hb41 (A3 63 _ (errV 50 (endN (eQ z0 (pp + 16)) zz10.length)) (AV _ EE rfl) (fun w1 hw1 => end_w rb (eQ z0 (pp + 16)) ao10 zz10.length ca10 w1 (RdA.of hw1 (AR 2 rfl (AN _)) (by simp)))) rfl ?_
            rintro v1 L1 ⟨rfl, rfl⟩
            show JL _ _ _ _ ((85, errV 50 (endN (eQ z0 (pp + 16)) zz10.length)) :: _) [_, _, _, _]
            refine AM 3 83 true _ (.bool (!(decide (endN (eQ z0 (pp + 16)) zz10.length = 0)))) rfl rfl hb41 (DM _ _ _ rfl rfl (fun _ => CE ..) fun _ => DW BG _ _) rfl ?_
            refine AA _ (BA _ rfl hb41 rfl) rfl ?_
            refine AJ (AD (BT _ rfl (bnotT (decide_eq_true (by have h9 := of_decide_eq_true hb41; rw [eQ_ok ‹pp + 16 ≤ z0.length›, leftN, if_pos rfl] at h9; rw [eQ_ok ‹pp + 16 ≤ z0.length›, endN, if_pos rfl, if_pos (by omega)]))) ?_))
            refine BH (AD (AF (AC (AA _ (AL rfl (BR CA BB (by simp [(show (bQ z0 pp 16).length = 16 from (CG _ _ _))]) (AR 1 rfl (AN _)))) rfl ?_))))
            refine A7 (BS 0 nb1 22 _ 29 (V2 (vQ z0 0 8) (vQ z0 8 8) (((vQ z0 16 1).toNat:Int)) none 0 0 none 0 0 bl (bQ z0 pp 16)) rfl rfl rfl BB (by simp [(show (bQ z0 pp 16).length = 16 from (CG _ _ _))]) (B0 (by simp [Value.oneCell']) CZ) (by simp [(AO 16)]) (BW (by simp [(AO 16), (show (bQ z0 pp 16).length = 16 from (CG _ _ _))]))) rfl ?_
            show JL _ _ _ _ _ [_, _, _, _]
            refine AJ (AD (BK (BJ (.agg (V2 (vQ z0 0 8) (vQ z0 8 8) (((vQ z0 16 1).toNat:Int)) none 0 0 none 0 0 bl (bQ z0 pp 16)).toArray) (res1 EL (DQ rfl (BR CA BB (by simp [(show (bQ z0 pp 16).length = 16 from (CG _ _ _))]) (AR 0 rfl (AN _))))) fun w1 hw1 => ?_)))
            rcases hu1 with ⟨h3, rfl, rfl⟩ | ⟨_, hm⟩
            · rw [show 25 + 16 = 41 from rfl] at hw1
              exact ⟨_, _, rfl, ⟨_, _, _, 0, _, 0, _, _, _, _, ao10, zz10, ca10, _, _, _, none, 0, _, _, _, none, 0, .inl ⟨⟨h3, by omega, of_decide_eq_true hb40⟩, rfl, rfl, rfl, rfl, rfl, rfl, rfl, rfl⟩, rfl, rfl, (CG _ _ _), (by omega), (by omega), (fun h8 => (hq10 (by omega)).trans (by congr 1 <;> omega)), ⟨(fun w M h => hA10 w M (hu6 w M h)), by omega, by omega, by omega⟩, rfl, rfl, .inl rfl, by omega, (by unfold maxLen; omega), .inl rfl, by omega, (by unfold maxLen; omega)⟩, FC hw1 2 0 1 rfl rfl rfl (by decide) (by decide) (by decide)⟩
            · exact absurd (of_decide_eq_true hb40) hm
          ·
            have hp41 : ¬ (((leftN (eQ z0 (pp + 16)) zz10.length:Int)) = (0:Int)) := of_decide_eq_false hb41
            refine A9 3 3 83 true _ rfl rfl hb41 rfl (AA _ (A5 _ rfl hb41 rfl) rfl ?_)
            refine AJ (AD (BT _ rfl rfl ?_))
            refine BH (AD (AF (AC (AA _ (AL rfl (BR CA BB (by simp [(show (bQ z0 pp 16).length = 16 from (CG _ _ _))]) (AR 1 rfl (AN _)))) rfl ?_))))
            refine A7 (BS 0 nb1 22 _ 29 (V2 (vQ z0 0 8) (vQ z0 8 8) (((vQ z0 16 1).toNat:Int)) none 0 0 none 0 0 bl (bQ z0 pp 16)) rfl rfl rfl BB (by simp [(show (bQ z0 pp 16).length = 16 from (CG _ _ _))]) (B0 (by simp [Value.oneCell']) CZ) (by simp [(AO 16)]) (BW (by simp [(AO 16), (show (bQ z0 pp 16).length = 16 from (CG _ _ _))]))) rfl ?_
            show JL _ _ _ _ _ [_, _, _, _]
            refine AJ (AD (BK (BJ (.agg (V2 (vQ z0 0 8) (vQ z0 8 8) (((vQ z0 16 1).toNat:Int)) none 0 0 none 0 0 bl (bQ z0 pp 16)).toArray) (res1 EL (DQ rfl (BR CA BB (by simp [(show (bQ z0 pp 16).length = 16 from (CG _ _ _))]) (AR 0 rfl (AN _))))) fun w1 hw1 => ?_)))
            rcases hu1 with ⟨h3, rfl, rfl⟩ | ⟨_, hm⟩
            · rw [show 25 + 16 = 41 from rfl] at hw1
              exact ⟨_, _, rfl, ⟨_, _, _, 0, _, 0, _, _, _, _, ao10, zz10, ca10, _, _, _, none, 0, _, _, _, none, 0, .inl ⟨⟨h3, by omega, of_decide_eq_true hb40⟩, rfl, rfl, rfl, rfl, rfl, rfl, rfl, rfl⟩, rfl, rfl, (CG _ _ _), (by omega), (by omega), (fun h8 => (hq10 (by omega)).trans (by congr 1 <;> omega)), ⟨(fun w M h => hA10 w M (hu6 w M h)), by omega, by omega, by omega⟩, rfl, rfl, .inl rfl, by omega, (by unfold maxLen; omega), .inl rfl, by omega, (by unfold maxLen; omega)⟩, FC hw1 2 0 1 rfl rfl rfl (by decide) (by decide) (by decide)⟩
            · exact absurd (of_decide_eq_true hb40) hm
      ·
        refine ⟨[], ?_⟩
        show DP _ _ _ _ _ _ _ _ [_, _, (Ez rb [errV 50 (eQ z0 (pp + 16)), SL ao10 zz10.length ca10] 204)]
        refine EI ⟨[3], [0, 1, 2], [2], [0, 1], [4]⟩ 4 rfl rfl (by decide +kernel) rfl ⟨AP rfl rfl (AB 6 27 16 AQ rfl B3 rfl rfl), AP rfl rfl (DV 16 5 1 0 16 6 16 B1 B7 rfl rfl rfl (by omega) (by omega) (by omega) (by omega) (by omega) 16 (by omega)), trivial⟩ rfl (BO rfl (E9 43 43 5 1 nb2 6 16 16 (V2 (vQ z0 0 8) (vQ z0 8 8) (((vQ z0 16 1).toNat:Int)) none 0 0 none 0 0 bl (zr8 16)) 29 none 0 0 0 [] (V2 (vQ z0 0 8) (vQ z0 8 8) (((vQ z0 16 1).toNat:Int)) none 0 0 none 0 0 bl (zr8 16)) BM EH rfl rfl rfl rfl rfl SrcAt.nil (by simp [(AO 16)]) one_nil (lay_nil _ _))) ?_
        show DP _ _ _ _ _ _ _ _ [_, _, _]
        refine DR ⟨[3, 4], [0, 1, 2], [0, 1, 2], [], []⟩ rfl rfl (by decide +kernel) rfl trivial ?_
        refine C5 (F' := [(0, Ptr rb 0), (2, Ptr nb1 0), (3, Ptr nb2 0)]) (by kernel_rfl) ?_
        refine AD (AF (AF (AC (AA _ (AL rfl (BR CA BB (by simp [(AO 16)]) (AR 1 rfl (AN _)))) rfl ?_))))
        refine A7 (A3 128 _ (errV 50 (mayN (vQ z0 0 8) (vQ z0 8 8) (((vQ z0 16 1).toNat:Int)) ([] : List UInt64) ([] : List SealR) bl)) (AV _ Tryd.call128 rfl) (fun w1 hw1 => may13_c (vQ z0 0 8) (vQ z0 8 8) (((vQ z0 16 1).toNat:Int)) none 0 0 ([] : List UInt64) none 0 0 ([] : List SealR) bl (zr8 16) w1 rfl (by omega) (by omega) (by omega) RdV.nil rfl (by omega) (by omega) (by omega) RdV.nil (AO 16))) rfl ?_
        show JL _ _ _ _ ((74, errV 50 (mayN (vQ z0 0 8) (vQ z0 8 8) (((vQ z0 16 1).toNat:Int)) ([] : List UInt64) ([] : List SealR) bl)) :: _) [_, _, _]
        refine AA _ (AE rfl) rfl ?_
        refine AJ (AD (AF (AC (AA _ (AG rfl) rfl ?_))))
        refine AA (.bool (!(decide (mayN (vQ z0 0 8) (vQ z0 8 8) (((vQ z0 16 1).toNat:Int)) ([] : List UInt64) ([] : List SealR) bl = 0)))) (DM _ _ _ rfl rfl (fun _ => CE ..) fun _ => DW BG _ _) rfl ?_
        refine AJ (AD (F9 (ι := Option Addr × List UInt8 × Nat) (fun ⟨ab, zb, cb⟩ => [(0, Ptr rb 0), (2, Ptr nb1 0), (3, Ptr nb2 0)]) (fun ⟨ab, zb, cb⟩ => [(Ez rb [errV 50 2, SL ab zb.length cb] 204), (Ez nb1 (V5) 29), (Ez nb2 (V2 (vQ z0 0 8) (vQ z0 8 8) (((vQ z0 16 1).toNat:Int)) none 0 0 none 0 0 bl (zr8 16)) 29)]) (fun ⟨ab, zb, cb⟩ => (∀ w M, RdB w M ao z → RdB w M ab zb) ∧ zb.length ≤ cb ∧ cb ≤ maxLen ∧ zb.length ≤ n) ?_ ?_))
        ·
          refine CC (!(decide (mayN (vQ z0 0 8) (vQ z0 8 8) (((vQ z0 16 1).toNat:Int)) ([] : List UInt64) ([] : List SealR) bl = 0))) rfl (fun hb42 => ?_) (fun hb42 => ?_)
          ·
            have hb43 : (decide (mayN (vQ z0 0 8) (vQ z0 8 8) (((vQ z0 16 1).toNat:Int)) ([] : List UInt64) ([] : List SealR) bl = 0)) = false := by simpa using hb42
            have hp43 : ¬ (mayN (vQ z0 0 8) (vQ z0 8 8) (((vQ z0 16 1).toNat:Int)) ([] : List UInt64) ([] : List SealR) bl = 0) := of_decide_eq_false hb43
            refine AC (AA _ (AG rfl) rfl ?_)
            refine AA (.iface 50 (I64 2)) (DH BN rfl rfl) rfl ?_
            refine A2 (D7 121 [Ptr rb 0, .iface 50 (I64 2)] 2 (Ez rb [errV 50 (eQ z0 (pp + 16)), SL ao10 zz10.length ca10] 204) _ (fun v e' l' => v = .tuple #[] ∧ e' = (Ez rb [errV 50 (erN (eQ z0 (pp + 16)) 2), SL ao10 zz10.length ca10] 204) ∧ l' = []) (AV _ ED rfl) rfl (by rintro v l ⟨rfl, rfl⟩; exact ⟨_, _, rfl, rfl, rfl, rfl, rfl⟩) (fun w1 hw1 => EX rb (eQ z0 (pp + 16)) 2 (SL ao10 zz10.length ca10) w1 (by decide) (hw1.en 2 rfl))) rfl ?_
            rintro v1 L1 ⟨_, _, ⟨rfl, rfl, rfl⟩, rfl⟩
            show JL _ _ _ _ ((79, .tuple #[]) :: _) [_, _, (Ez rb [errV 50 (erN (eQ z0 (pp + 16)) 2), SL ao10 zz10.length ca10] 204)]
            refine AJ ?_
            rw [show erN (eQ z0 (pp + 16)) 2 = 2 by rw [FF ‹¬ pp + 16 ≤ z0.length›]; rfl]
            refine FG [2, 0, 1] (by decide) ?_
            show JQ _ _ _ _ [_, _, _]
            refine D9 ((ao10, zz10, ca10)) ⟨(fun w M h => hA10 w M (hu6 w M h)), by omega, by omega, by omega⟩ (Sub.all rfl) rfl
          ·
            have hb44 : (decide (mayN (vQ z0 0 8) (vQ z0 8 8) (((vQ z0 16 1).toNat:Int)) ([] : List UInt64) ([] : List SealR) bl = 0)) = true := by simpa using hb42
            have hp44 : mayN (vQ z0 0 8) (vQ z0 8 8) (((vQ z0 16 1).toNat:Int)) ([] : List UInt64) ([] : List SealR) bl = 0 := of_decide_eq_true hb44
            refine BH ?_
            rw [show eQ z0 (pp + 16) = 2 by rw [FF ‹¬ pp + 16 ≤ z0.length›]]
            refine FG [2, 0, 1] (by decide) ?_
            show JQ _ _ _ _ [_, _, _]
            refine D9 ((ao10, zz10, ca10)) ⟨(fun w M h => hA10 w M (hu6 w M h)), by omega, by omega, by omega⟩ (Sub.all rfl) rfl
        ·
          rintro ⟨ab, zb, cb⟩ hx
          obtain ⟨hbA, hbb1, hbb2, hbb3⟩ := hx
          show JQ _ _ _ [_, _, _] [_, _, _]
          refine AD (AF (AF (AC (AA _ (AG rfl) rfl ?_))))
          refine A7 (A3 61 _ (I64 ((leftN 2 zb.length:Int))) (AV _ EA rfl) (fun w1 hw1 => left_w rb 2 ab zb.length cb w1 (RdA.of hw1 (AR 0 rfl (AN _)) (by simp)))) rfl ?_
          show JL _ _ _ _ ((81, I64 ((leftN 2 zb.length:Int))) :: _) [_, _, _]
          refine AA (.bool (decide (((leftN 2 zb.length:Int)) = (0:Int)))) (AT rfl rfl fun _ => BP _ _) rfl ?_
          refine AA _ (AG rfl) rfl ?_
          refine AM 3 83 true _ _ rfl rfl (decide_eq_true (by rw [leftN, if_neg (by decide)]; rfl)) (AG rfl) rfl ?_
          refine DC 3 83 true _ rfl rfl (decide_eq_true (by rw [leftN, if_neg (by decide)]; rfl)) (A3 63 _ (errV 50 (endN 2 zb.length)) (AV _ EE rfl) (fun w1 hw1 => end_w rb 2 ab zb.length cb w1 (RdA.of hw1 (AR 0 rfl (AN _)) (by simp)))) rfl ?_
          rintro v1 L1 ⟨rfl, rfl⟩
          show JL _ _ _ _ ((85, errV 50 (endN 2 zb.length)) :: _) [_, _, _]
          refine AM 3 83 true _ (.bool (!(decide (endN 2 zb.length = 0)))) rfl rfl (decide_eq_true (by rw [leftN, if_neg (by decide)]; rfl)) (DM _ _ _ rfl rfl (fun _ => CE ..) fun _ => DW BG _ _) rfl ?_
          refine AA _ (BA _ rfl (decide_eq_true (by rw [leftN, if_neg (by decide)]; rfl)) rfl) rfl ?_
          refine AJ (AD (CH _ rfl (bnotF (decide_eq_false (by rw [endN, if_neg (by decide)]; exact (by decide)))) ?_))
          refine AF (AC (AA (.agg (V5).toArray) (CY [] _ rfl (fun _ => by kernel_rfl)) rfl ?_))
          refine A7 (BS 1 nb1 22 _ 29 (V5) rfl rfl rfl BB (by simp [(AO 16)]) (B0 (by simp [Value.oneCell']) CZ) (by simp [(AO 16)]) (BW (by simp [(AO 16), (AO 16)]))) rfl ?_
          show JL _ _ _ _ _ [_, _, _]
          refine AJ (AD (BK (A6 (BJ (.agg (V5).toArray) (res1 EL (DQ rfl (BR CA BB (by simp [(AO 16)]) (AR 1 rfl (AN _))))) fun w1 hw1 => ?_))))
          have hbq : BadQ z0 := by
            rcases hu1 with ⟨h3, rfl, rfl⟩ | ⟨hb, _⟩
            · exact bad3 h3 (fun e => by have := e.1; omega)
            · exact hb
          rw [show errV 50 2 = errV 50 (eQ z0 (z0.length + 1)) by rw [FF (by omega)]] at hw1
          exact ⟨_, _, rfl, ⟨_, _, _, 0, _, 0, _, _, _, _, ab, zb, cb, _, _, _, none, 0, _, _, _, none, 0, TkR.bad z0 hbq, rfl, rfl, (AO 16), (by omega), (by omega), (fun h => absurd h (by omega)), ⟨hbA, by omega, by omega, by omega⟩, rfl, rfl, .inl rfl, by omega, (by unfold maxLen; omega), .inl rfl, by omega, (by unfold maxLen; omega)⟩, FC hw1 0 1 2 rfl rfl rfl (by decide) (by decide) (by decide)⟩
    ·
      obtain ⟨hk, hpp, hm2, hm3, hu2, hu3, hu4, hu5, hu6, hu10, hu11, hu12⟩ := hx
      show JQ _ _ _ [_, _, _] [_, _, _, _]
      refine AD (AF (DB 90 3 [(0, Ptr nb2 6), (1, Slc nb2 6 16 16), (2, Ptr rb 0)] B6 rfl (by decide +kernel) ?_))
      refine C2 ⟨[], [0, 1, 2], [], [0, 1, 2], [3]⟩ 3 _ rfl rfl (by decide +kernel) rfl ⟨AP rfl rfl (AB 6 27 16 AQ rfl B3 rfl rfl), AP rfl rfl (DV 16 5 1 0 16 6 16 B1 B7 rfl rfl rfl (by omega) (by omega) (by omega) (by omega) (by omega) 16 (by omega)), CB rfl rfl rfl, trivial⟩ rfl (BO rfl (BD 127 _ [true, false, false, false] [rb] _ (AV _ Tryd.call127 rfl) rfl (fun w1 hw1 => rawA_w rb pp 16 aa zz.length cc z0 zz w1 (hw1.en 0 rfl) rfl (by omega) (by omega) (by omega) (hu6 _ _ (hr.at (M' := [rb]) hw1 (hw1.apart [0] _ rfl))) hu5 (by omega)))) ?_
      rintro v1 L1 ⟨_, ⟨ao11, zz11, ca11, hq11, ⟨hA11, hb45, hb46, hb47⟩, (⟨hg6, nb12, sp6, cp6, rfl, rfl, hc4, hc5, hc6⟩ | ⟨hg6, rfl, rfl⟩)⟩, rfl⟩
      ·
        refine ⟨[], ?_⟩
        show DP _ _ _ _ _ _ _ _ [_, _, _, (Ez rb [errV 50 (eQ z0 (pp + 16)), SL ao11 zz11.length ca11] 204), (Ez nb12 (cu8 (bQ z0 pp 16) ++ sp6) 5)]
        refine EI ⟨[3], [0, 1, 2], [2], [0, 1], [4]⟩ 4 rfl rfl (by decide +kernel) rfl ⟨AP rfl rfl (AB 6 27 16 AQ rfl B3 rfl rfl), AP rfl rfl (DV 16 5 1 0 16 6 16 B1 B7 rfl rfl rfl (by omega) (by omega) (by omega) (by omega) (by omega) 16 (by omega)), trivial⟩ rfl (BO rfl (E9 43 43 5 1 nb2 6 16 16 ([U64 (vQ z0 0 8), U64 (vQ z0 8 8), I64 (((vQ z0 16 1).toNat:Int)), Slc gb 0 m cp, SL none 0 0, U64 0] ++ cu8 (zr8 16)) 29 (some ⟨nb12, 0, none⟩) 16 cp6 16 (cu8 (bQ z0 pp 16)) ([U64 (vQ z0 0 8), U64 (vQ z0 8 8), I64 (((vQ z0 16 1).toNat:Int)), Slc gb 0 m cp, SL none 0 0, U64 0] ++ cu8 (bQ z0 pp 16)) BM EH rfl rfl rfl rfl (by simp [(show (bQ z0 pp 16).length = 16 from (CG _ _ _))]; try omega) (SrcAt.mem (AR 4 rfl (AI (AN _)))) (by simp [(AO 16)]; try omega) (by first | exact CZ | exact one_u32 | exact one_u64 | (simp [cu8, cu32, cu64, Value.oneCell']; done)) (E6 6 0 rfl rfl (BW (by simp [(AO 16), (show (bQ z0 pp 16).length = 16 from (CG _ _ _))]))))) ?_
        show DP _ _ _ _ _ _ _ _ [_, (Ez nb2 ([U64 (vQ z0 0 8), U64 (vQ z0 8 8), I64 (((vQ z0 16 1).toNat:Int)), Slc gb 0 m cp, SL none 0 0, U64 0] ++ cu8 (bQ z0 pp 16)) 29), _, _, _]
        refine DR ⟨[3, 4], [0, 1, 2], [0, 1, 2], [], []⟩ rfl rfl (by decide +kernel) rfl trivial ?_
        refine C5 (F' := [(0, Ptr rb 0), (2, Ptr nb1 0), (3, Ptr nb2 0)]) (by kernel_rfl) ?_
        refine AD (AF (AF (AC (AA _ (AL rfl (BR CA BB (by simp [(show (bQ z0 pp 16).length = 16 from (CG _ _ _))]) (AR 1 rfl (AN _)))) rfl ?_))))
        refine A7 (A3 128 _ (errV 50 (mayN (vQ z0 0 8) (vQ z0 8 8) (((vQ z0 16 1).toNat:Int)) (ixQ z0 18 m) ([] : List SealR) (0:UInt64))) (AV _ Tryd.call128 rfl) (fun w1 hw1 => may13_c (vQ z0 0 8) (vQ z0 8 8) (((vQ z0 16 1).toNat:Int)) (some ⟨gb, 0, none⟩) m cp (ixQ z0 18 m) none 0 0 ([] : List SealR) (0:UInt64) (bQ z0 pp 16) w1 (F7 _ _ _) (by omega) (by omega) (by omega) (RdV.of hw1 (AR 2 rfl (AI (AN _)))) rfl (by omega) (by omega) (by omega) RdV.nil (show (bQ z0 pp 16).length = 16 from (CG _ _ _)))) rfl ?_
        show JL _ _ _ _ ((74, errV 50 (mayN (vQ z0 0 8) (vQ z0 8 8) (((vQ z0 16 1).toNat:Int)) (ixQ z0 18 m) ([] : List SealR) (0:UInt64))) :: _) [_, _, _, _, _]
        refine AA _ (AE rfl) rfl ?_
        refine AJ (AD (AF (AC (AA _ (AG rfl) rfl ?_))))
        refine AA (.bool (!(decide (mayN (vQ z0 0 8) (vQ z0 8 8) (((vQ z0 16 1).toNat:Int)) (ixQ z0 18 m) ([] : List SealR) (0:UInt64) = 0)))) (DM _ _ _ rfl rfl (fun _ => CE ..) fun _ => DW BG _ _) rfl ?_
        refine AJ (AD (CC (!(decide (mayN (vQ z0 0 8) (vQ z0 8 8) (((vQ z0 16 1).toNat:Int)) (ixQ z0 18 m) ([] : List SealR) (0:UInt64) = 0))) rfl (fun hb48 => ?_) (fun hb48 => ?_)))
        ·
          have hb49 : (decide (mayN (vQ z0 0 8) (vQ z0 8 8) (((vQ z0 16 1).toNat:Int)) (ixQ z0 18 m) ([] : List SealR) (0:UInt64) = 0)) = false := by simpa using hb48
          have hp49 : ¬ (mayN (vQ z0 0 8) (vQ z0 8 8) (((vQ z0 16 1).toNat:Int)) (ixQ z0 18 m) ([] : List SealR) (0:UInt64) = 0) := of_decide_eq_false hb49
          refine AC (AA _ (AG rfl) rfl ?_)
          refine AA (.iface 50 (I64 2)) (DH BN rfl rfl) rfl ?_
          refine A2 (D7 121 [Ptr rb 0, .iface 50 (I64 2)] 3 (Ez rb [errV 50 (eQ z0 (pp + 16)), SL ao11 zz11.length ca11] 204) _ (fun v e' l' => v = .tuple #[] ∧ e' = (Ez rb [errV 50 (erN (eQ z0 (pp + 16)) 2), SL ao11 zz11.length ca11] 204) ∧ l' = []) (AV _ ED rfl) rfl (by rintro v l ⟨rfl, rfl⟩; exact ⟨_, _, rfl, rfl, rfl, rfl, rfl⟩) (fun w1 hw1 => EX rb (eQ z0 (pp + 16)) 2 (SL ao11 zz11.length ca11) w1 (by decide) (hw1.en 3 rfl))) rfl ?_
          rintro v1 L1 ⟨_, _, ⟨rfl, rfl, rfl⟩, rfl⟩
          show JL _ _ _ _ ((79, .tuple #[]) :: _) [_, _, _, (Ez rb [errV 50 (erN (eQ z0 (pp + 16)) 2), SL ao11 zz11.length ca11] 204), _]
          refine AJ (AD (AF (AF (AC (AA _ (AG rfl) rfl ?_)))))
          refine A7 (A3 61 _ (I64 ((leftN (erN (eQ z0 (pp + 16)) 2) zz11.length:Int))) (AV _ EA rfl) (fun w1 hw1 => left_w rb (erN (eQ z0 (pp + 16)) 2) ao11 zz11.length ca11 w1 (RdA.of hw1 (AR 3 rfl (AN _)) (by simp)))) rfl ?_
          show JL _ _ _ _ ((81, I64 ((leftN (erN (eQ z0 (pp + 16)) 2) zz11.length:Int))) :: _) [_, _, _, _, _]
          refine AA (.bool (decide (((leftN (erN (eQ z0 (pp + 16)) 2) zz11.length:Int)) = (0:Int)))) (AT rfl rfl fun _ => BP _ _) rfl ?_
          refine AA _ (AG rfl) rfl ?_
          refine AM 3 83 true _ _ rfl rfl (decide_eq_true (by rw [leftN, if_neg (FE (by decide))]; rfl)) (AG rfl) rfl ?_
          refine DC 3 83 true _ rfl rfl (decide_eq_true (by rw [leftN, if_neg (FE (by decide))]; rfl)) (A3 63 _ (errV 50 (endN (erN (eQ z0 (pp + 16)) 2) zz11.length)) (AV _ EE rfl) (fun w1 hw1 => end_w rb (erN (eQ z0 (pp + 16)) 2) ao11 zz11.length ca11 w1 (RdA.of hw1 (AR 3 rfl (AN _)) (by simp)))) rfl ?_
          rintro v1 L1 ⟨rfl, rfl⟩
          show JL _ _ _ _ ((85, errV 50 (endN (erN (eQ z0 (pp + 16)) 2) zz11.length)) :: _) [_, _, _, _, _]
          refine AM 3 83 true _ (.bool (!(decide (endN (erN (eQ z0 (pp + 16)) 2) zz11.length = 0)))) rfl rfl (decide_eq_true (by rw [leftN, if_neg (FE (by decide))]; rfl)) (DM _ _ _ rfl rfl (fun _ => CE ..) fun _ => DW BG _ _) rfl ?_
          refine AA _ (BA _ rfl (decide_eq_true (by rw [leftN, if_neg (FE (by decide))]; rfl)) rfl) rfl ?_
          refine AJ (AD (CH _ rfl (bnotF (decide_eq_false (by rw [endN, if_neg (FE (by decide))]; exact (FE (by decide))))) ?_))
          refine AF (AC (AA (.agg (V5).toArray) (CY [] _ rfl (fun _ => by kernel_rfl)) rfl ?_))
          refine A7 (BS 0 nb1 22 _ 29 (V5) rfl rfl rfl BB (by simp [(AO 16)]) (B0 (by simp [Value.oneCell']) CZ) (by simp [(AO 16)]) (BW (by simp [(AO 16), (AO 16)]))) rfl ?_
          show JL _ _ _ _ _ [_, _, _, _, _]
          refine AJ (AD (BK (A6 (BJ (.agg (V5).toArray) (res1 EL (DQ rfl (BR CA BB (by simp [(AO 16)]) (AR 0 rfl (AN _))))) fun w1 hw1 => ?_))))
          rw [show erN (eQ z0 (pp + 16)) 2 = 2 by rw [eQ_ok ‹pp + 16 ≤ z0.length›]; rfl] at hw1
          have hbq : BadQ z0 := by
            rcases hm3 with hm | hm
            · subst hm
              exact bad2 hk (fun e => by exact (of_decide_eq_false hb49) e.2)
            · exact bad2 hk (fun e => by have := e.1; omega)
          rw [show errV 50 2 = errV 50 (eQ z0 (z0.length + 1)) by rw [FF (by omega)]] at hw1
          exact ⟨_, _, rfl, ⟨_, _, _, 0, _, 0, _, _, _, _, ao11, zz11, ca11, _, _, _, none, 0, _, _, _, none, 0, TkR.bad z0 hbq, rfl, rfl, (AO 16), (by omega), (by omega), (fun h => absurd h (by omega)), ⟨(fun w M h => hA11 w M (hu6 w M h)), by omega, by omega, by omega⟩, rfl, rfl, .inl rfl, by omega, (by unfold maxLen; omega), .inl rfl, by omega, (by unfold maxLen; omega)⟩, FC hw1 3 0 1 rfl rfl rfl (by decide) (by decide) (by decide)⟩
        ·
          have hb50 : (decide (mayN (vQ z0 0 8) (vQ z0 8 8) (((vQ z0 16 1).toNat:Int)) (ixQ z0 18 m) ([] : List SealR) (0:UInt64) = 0)) = true := by simpa using hb48
          have hp50 : mayN (vQ z0 0 8) (vQ z0 8 8) (((vQ z0 16 1).toNat:Int)) (ixQ z0 18 m) ([] : List SealR) (0:UInt64) = 0 := of_decide_eq_true hb50
          refine BH (AD (AF (AF (AC (AA _ (AG rfl) rfl ?_)))))
          refine A7 (A3 61 _ (I64 ((leftN (eQ z0 (pp + 16)) zz11.length:Int))) (AV _ EA rfl) (fun w1 hw1 => left_w rb (eQ z0 (pp + 16)) ao11 zz11.length ca11 w1 (RdA.of hw1 (AR 3 rfl (AN _)) (by simp)))) rfl ?_
          show JL _ _ _ _ ((81, I64 ((leftN (eQ z0 (pp + 16)) zz11.length:Int))) :: _) [_, _, _, _, _]
          refine AA (.bool (decide (((leftN (eQ z0 (pp + 16)) zz11.length:Int)) = (0:Int)))) (AT rfl rfl fun _ => BP _ _) rfl ?_
          refine AA _ (AG rfl) rfl ?_
          rcases Bool.eq_false_or_eq_true (decide (((leftN (eQ z0 (pp + 16)) zz11.length:Int)) = (0:Int))) with hb51 | hb51
          ·
            have hp51 : ((leftN (eQ z0 (pp + 16)) zz11.length:Int)) = (0:Int) := of_decide_eq_true hb51
            refine AM 3 83 true _ _ rfl rfl hb51 (AG rfl) rfl ?_
            refine DC 3 83 true _ rfl rfl hb51 (A3 63 _ (errV 50 (endN (eQ z0 (pp + 16)) zz11.length)) (AV _ EE rfl) (fun w1 hw1 => end_w rb (eQ z0 (pp + 16)) ao11 zz11.length ca11 w1 (RdA.of hw1 (AR 3 rfl (AN _)) (by simp)))) rfl ?_
            rintro v1 L1 ⟨rfl, rfl⟩
            show JL _ _ _ _ ((85, errV 50 (endN (eQ z0 (pp + 16)) zz11.length)) :: _) [_, _, _, _, _]
            refine AM 3 83 true _ (.bool (!(decide (endN (eQ z0 (pp + 16)) zz11.length = 0)))) rfl rfl hb51 (DM _ _ _ rfl rfl (fun _ => CE ..) fun _ => DW BG _ _) rfl ?_
            refine AA _ (BA _ rfl hb51 rfl) rfl ?_
            refine AJ (AD (BT _ rfl (bnotT (decide_eq_true (by have h9 := of_decide_eq_true hb51; rw [eQ_ok ‹pp + 16 ≤ z0.length›, leftN, if_pos rfl] at h9; rw [eQ_ok ‹pp + 16 ≤ z0.length›, endN, if_pos rfl, if_pos (by omega)]))) ?_))
            refine BH (AD (AF (AC (AA _ (AL rfl (BR CA BB (by simp [(show (bQ z0 pp 16).length = 16 from (CG _ _ _))]) (AR 1 rfl (AN _)))) rfl ?_))))
            refine A7 (BS 0 nb1 22 _ 29 ([U64 (vQ z0 0 8), U64 (vQ z0 8 8), I64 (((vQ z0 16 1).toNat:Int)), Slc gb 0 m cp, SL none 0 0, U64 0] ++ cu8 (bQ z0 pp 16)) rfl rfl rfl BB (by simp [(show (bQ z0 pp 16).length = 16 from (CG _ _ _))]) (B0 (by simp [Value.oneCell']) CZ) (by simp [(AO 16)]) (BW (by simp [(AO 16), (show (bQ z0 pp 16).length = 16 from (CG _ _ _))]))) rfl ?_
            show JL _ _ _ _ _ [_, _, _, _, _]
            refine AJ (AD (BK (BJ (.agg ([U64 (vQ z0 0 8), U64 (vQ z0 8 8), I64 (((vQ z0 16 1).toNat:Int)), Slc gb 0 m cp, SL none 0 0, U64 0] ++ cu8 (bQ z0 pp 16)).toArray) (res1 EL (DQ rfl (BR CA BB (by simp [(show (bQ z0 pp 16).length = 16 from (CG _ _ _))]) (AR 0 rfl (AN _))))) fun w1 hw1 => ?_)))
            obtain rfl : m = mQ z0 := by omega
            subst hpp
            rw [show 4*mQ z0 + 18 + 16 = 4*mQ z0 + 34 from rfl] at hw1
            exact ⟨_, _, rfl, ⟨_, _, _, (mQ z0), _, 0, _, _, _, _, ao11, zz11, ca11, _, _, _, (some ⟨gb, 0, none⟩), cp, _, _, _, none, 0, .inr (.inl ⟨⟨hk, by omega, of_decide_eq_true hb50⟩, rfl, rfl, rfl, rfl, rfl, rfl, rfl, rfl⟩), F7 _ _ _, rfl, (CG _ _ _), (by omega), (by omega), (fun h8 => (hq11 (by omega)).trans (by congr 1 <;> omega)), ⟨(fun w M h => hA11 w M (hu6 w M h)), by omega, by omega, by omega⟩, rfl, rfl, .inr ⟨rfl, _, rfl⟩, hu3, hu4, .inl rfl, by omega, (by unfold maxLen; omega)⟩, FC hw1 3 2 0 rfl rfl rfl (by decide) (by decide) (by decide)⟩
          ·
            have hp51 : ¬ (((leftN (eQ z0 (pp + 16)) zz11.length:Int)) = (0:Int)) := of_decide_eq_false hb51
            refine A9 3 3 83 true _ rfl rfl hb51 rfl (AA _ (A5 _ rfl hb51 rfl) rfl ?_)
            refine AJ (AD (BT _ rfl rfl ?_))
            refine BH (AD (AF (AC (AA _ (AL rfl (BR CA BB (by simp [(show (bQ z0 pp 16).length = 16 from (CG _ _ _))]) (AR 1 rfl (AN _)))) rfl ?_))))
            refine A7 (BS 0 nb1 22 _ 29 ([U64 (vQ z0 0 8), U64 (vQ z0 8 8), I64 (((vQ z0 16 1).toNat:Int)), Slc gb 0 m cp, SL none 0 0, U64 0] ++ cu8 (bQ z0 pp 16)) rfl rfl rfl BB (by simp [(show (bQ z0 pp 16).length = 16 from (CG _ _ _))]) (B0 (by simp [Value.oneCell']) CZ) (by simp [(AO 16)]) (BW (by simp [(AO 16), (show (bQ z0 pp 16).length = 16 from (CG _ _ _))]))) rfl ?_
            show JL _ _ _ _ _ [_, _, _, _, _]
            refine AJ (AD (BK (BJ (.agg ([U64 (vQ z0 0 8), U64 (vQ z0 8 8), I64 (((vQ z0 16 1).toNat:Int)), Slc gb 0 m cp, SL none 0 0, U64 0] ++ cu8 (bQ z0 pp 16)).toArray) (res1 EL (DQ rfl (BR CA BB (by simp [(show (bQ z0 pp 16).length = 16 from (CG _ _ _))]) (AR 0 rfl (AN _))))) fun w1 hw1 => ?_)))
            obtain rfl : m = mQ z0 := by omega
            subst hpp
            rw [show 4*mQ z0 + 18 + 16 = 4*mQ z0 + 34 from rfl] at hw1
            exact ⟨_, _, rfl, ⟨_, _, _, (mQ z0), _, 0, _, _, _, _, ao11, zz11, ca11, _, _, _, (some ⟨gb, 0, none⟩), cp, _, _, _, none, 0, .inr (.inl ⟨⟨hk, by omega, of_decide_eq_true hb50⟩, rfl, rfl, rfl, rfl, rfl, rfl, rfl, rfl⟩), F7 _ _ _, rfl, (CG _ _ _), (by omega), (by omega), (fun h8 => (hq11 (by omega)).trans (by congr 1 <;> omega)), ⟨(fun w M h => hA11 w M (hu6 w M h)), by omega, by omega, by omega⟩, rfl, rfl, .inr ⟨rfl, _, rfl⟩, hu3, hu4, .inl rfl, by omega, (by unfold maxLen; omega)⟩, FC hw1 3 2 0 rfl rfl rfl (by decide) (by decide) (by decide)⟩
      ·
        refine ⟨[], ?_⟩
        show DP _ _ _ _ _ _ _ _ [_, _, _, (Ez rb [errV 50 (eQ z0 (pp + 16)), SL ao11 zz11.length ca11] 204)]
        refine EI ⟨[3], [0, 1, 2], [2], [0, 1], [4]⟩ 4 rfl rfl (by decide +kernel) rfl ⟨AP rfl rfl (AB 6 27 16 AQ rfl B3 rfl rfl), AP rfl rfl (DV 16 5 1 0 16 6 16 B1 B7 rfl rfl rfl (by omega) (by omega) (by omega) (by omega) (by omega) 16 (by omega)), trivial⟩ rfl (BO rfl (E9 43 43 5 1 nb2 6 16 16 ([U64 (vQ z0 0 8), U64 (vQ z0 8 8), I64 (((vQ z0 16 1).toNat:Int)), Slc gb 0 m cp, SL none 0 0, U64 0] ++ cu8 (zr8 16)) 29 none 0 0 0 [] ([U64 (vQ z0 0 8), U64 (vQ z0 8 8), I64 (((vQ z0 16 1).toNat:Int)), Slc gb 0 m cp, SL none 0 0, U64 0] ++ cu8 (zr8 16)) BM EH rfl rfl rfl rfl rfl SrcAt.nil (by simp [(AO 16)]) one_nil (lay_nil _ _))) ?_
        show DP _ _ _ _ _ _ _ _ [_, _, _, _]
        refine DR ⟨[3, 4], [0, 1, 2], [0, 1, 2], [], []⟩ rfl rfl (by decide +kernel) rfl trivial ?_
        refine C5 (F' := [(0, Ptr rb 0), (2, Ptr nb1 0), (3, Ptr nb2 0)]) (by kernel_rfl) ?_
        refine AD (AF (AF (AC (AA _ (AL rfl (BR CA BB (by simp [(AO 16)]) (AR 1 rfl (AN _)))) rfl ?_))))
        refine A7 (A3 128 _ (errV 50 (mayN (vQ z0 0 8) (vQ z0 8 8) (((vQ z0 16 1).toNat:Int)) (ixQ z0 18 m) ([] : List SealR) (0:UInt64))) (AV _ Tryd.call128 rfl) (fun w1 hw1 => may13_c (vQ z0 0 8) (vQ z0 8 8) (((vQ z0 16 1).toNat:Int)) (some ⟨gb, 0, none⟩) m cp (ixQ z0 18 m) none 0 0 ([] : List SealR) (0:UInt64) (zr8 16) w1 (F7 _ _ _) (by omega) (by omega) (by omega) (RdV.of hw1 (AR 2 rfl (AI (AN _)))) rfl (by omega) (by omega) (by omega) RdV.nil (AO 16))) rfl ?_
        show JL _ _ _ _ ((74, errV 50 (mayN (vQ z0 0 8) (vQ z0 8 8) (((vQ z0 16 1).toNat:Int)) (ixQ z0 18 m) ([] : List SealR) (0:UInt64))) :: _) [_, _, _, _]
        refine AA _ (AE rfl) rfl ?_
        refine AJ (AD (AF (AC (AA _ (AG rfl) rfl ?_))))
        refine AA (.bool (!(decide (mayN (vQ z0 0 8) (vQ z0 8 8) (((vQ z0 16 1).toNat:Int)) (ixQ z0 18 m) ([] : List SealR) (0:UInt64) = 0)))) (DM _ _ _ rfl rfl (fun _ => CE ..) fun _ => DW BG _ _) rfl ?_
        refine AJ (AD (F9 (ι := Option Addr × List UInt8 × Nat) (fun ⟨ab, zb, cb⟩ => [(0, Ptr rb 0), (2, Ptr nb1 0), (3, Ptr nb2 0)]) (fun ⟨ab, zb, cb⟩ => [(Ez rb [errV 50 2, SL ab zb.length cb] 204), (Ez nb1 (V5) 29), (Ez nb2 ([U64 (vQ z0 0 8), U64 (vQ z0 8 8), I64 (((vQ z0 16 1).toNat:Int)), Slc gb 0 m cp, SL none 0 0, U64 0] ++ cu8 (zr8 16)) 29)]) (fun ⟨ab, zb, cb⟩ => (∀ w M, RdB w M ao z → RdB w M ab zb) ∧ zb.length ≤ cb ∧ cb ≤ maxLen ∧ zb.length ≤ n) ?_ ?_))
        ·
          refine CC (!(decide (mayN (vQ z0 0 8) (vQ z0 8 8) (((vQ z0 16 1).toNat:Int)) (ixQ z0 18 m) ([] : List SealR) (0:UInt64) = 0))) rfl (fun hb52 => ?_) (fun hb52 => ?_)
          ·
            have hb53 : (decide (mayN (vQ z0 0 8) (vQ z0 8 8) (((vQ z0 16 1).toNat:Int)) (ixQ z0 18 m) ([] : List SealR) (0:UInt64) = 0)) = false := by simpa using hb52
            have hp53 : ¬ (mayN (vQ z0 0 8) (vQ z0 8 8) (((vQ z0 16 1).toNat:Int)) (ixQ z0 18 m) ([] : List SealR) (0:UInt64) = 0) := of_decide_eq_false hb53
            refine AC (AA _ (AG rfl) rfl ?_)
            refine AA (.iface 50 (I64 2)) (DH BN rfl rfl) rfl ?_
            refine A2 (D7 121 [Ptr rb 0, .iface 50 (I64 2)] 3 (Ez rb [errV 50 (eQ z0 (pp + 16)), SL ao11 zz11.length ca11] 204) _ (fun v e' l' => v = .tuple #[] ∧ e' = (Ez rb [errV 50 (erN (eQ z0 (pp + 16)) 2), SL ao11 zz11.length ca11] 204) ∧ l' = []) (AV _ ED rfl) rfl (by rintro v l ⟨rfl, rfl⟩; exact ⟨_, _, rfl, rfl, rfl, rfl, rfl⟩) (fun w1 hw1 => EX rb (eQ z0 (pp + 16)) 2 (SL ao11 zz11.length ca11) w1 (by decide) (hw1.en 3 rfl))) rfl ?_
            rintro v1 L1 ⟨_, _, ⟨rfl, rfl, rfl⟩, rfl⟩
            show JL _ _ _ _ ((79, .tuple #[]) :: _) [_, _, _, (Ez rb [errV 50 (erN (eQ z0 (pp + 16)) 2), SL ao11 zz11.length ca11] 204)]
            refine AJ ?_
            rw [show erN (eQ z0 (pp + 16)) 2 = 2 by rw [FF ‹¬ pp + 16 ≤ z0.length›]; rfl]
            refine FG [3, 0, 1] (by decide) ?_
            show JQ _ _ _ _ [_, _, _]
            refine D9 ((ao11, zz11, ca11)) ⟨(fun w M h => hA11 w M (hu6 w M h)), by omega, by omega, by omega⟩ (Sub.all rfl) rfl
          ·
            have hb54 : (decide (mayN (vQ z0 0 8) (vQ z0 8 8) (((vQ z0 16 1).toNat:Int)) (ixQ z0 18 m) ([] : List SealR) (0:UInt64) = 0)) = true := by simpa using hb52
            have hp54 : mayN (vQ z0 0 8) (vQ z0 8 8) (((vQ z0 16 1).toNat:Int)) (ixQ z0 18 m) ([] : List SealR) (0:UInt64) = 0 := of_decide_eq_true hb54
            refine BH ?_
            rw [show eQ z0 (pp + 16) = 2 by rw [FF ‹¬ pp + 16 ≤ z0.length›]]
            refine FG [3, 0, 1] (by decide) ?_
            show JQ _ _ _ _ [_, _, _]
            refine D9 ((ao11, zz11, ca11)) ⟨(fun w M h => hA11 w M (hu6 w M h)), by omega, by omega, by omega⟩ (Sub.all rfl) rfl
        ·
          rintro ⟨ab, zb, cb⟩ hx
          obtain ⟨hbA, hbb1, hbb2, hbb3⟩ := hx
          show JQ _ _ _ [_, _, _] [_, _, _]
          refine AD (AF (AF (AC (AA _ (AG rfl) rfl ?_))))
          refine A7 (A3 61 _ (I64 ((leftN 2 zb.length:Int))) (AV _ EA rfl) (fun w1 hw1 => left_w rb 2 ab zb.length cb w1 (RdA.of hw1 (AR 0 rfl (AN _)) (by simp)))) rfl ?_
          show JL _ _ _ _ ((81, I64 ((leftN 2 zb.length:Int))) :: _) [_, _, _]
          refine AA (.bool (decide (((leftN 2 zb.length:Int)) = (0:Int)))) (AT rfl rfl fun _ => BP _ _) rfl ?_
          refine AA _ (AG rfl) rfl ?_
          refine AM 3 83 true _ _ rfl rfl (decide_eq_true (by rw [leftN, if_neg (by decide)]; rfl)) (AG rfl) rfl ?_
          refine DC 3 83 true _ rfl rfl (decide_eq_true (by rw [leftN, if_neg (by decide)]; rfl)) (A3 63 _ (errV 50 (endN 2 zb.length)) (AV _ EE rfl) (fun w1 hw1 => end_w rb 2 ab zb.length cb w1 (RdA.of hw1 (AR 0 rfl (AN _)) (by simp)))) rfl ?_
          rintro v1 L1 ⟨rfl, rfl⟩
          show JL _ _ _ _ ((85, errV 50 (endN 2 zb.length)) :: _) [_, _, _]
          refine AM 3 83 true _ (.bool (!(decide (endN 2 zb.length = 0)))) rfl rfl (decide_eq_true (by rw [leftN, if_neg (by decide)]; rfl)) (DM _ _ _ rfl rfl (fun _ => CE ..) fun _ => DW BG _ _) rfl ?_
          refine AA _ (BA _ rfl (decide_eq_true (by rw [leftN, if_neg (by decide)]; rfl)) rfl) rfl ?_
          refine AJ (AD (CH _ rfl (bnotF (decide_eq_false (by rw [endN, if_neg (by decide)]; exact (by decide)))) ?_))
          refine AF (AC (AA (.agg (V5).toArray) (CY [] _ rfl (fun _ => by kernel_rfl)) rfl ?_))
          refine A7 (BS 1 nb1 22 _ 29 (V5) rfl rfl rfl BB (by simp [(AO 16)]) (B0 (by simp [Value.oneCell']) CZ) (by simp [(AO 16)]) (BW (by simp [(AO 16), (AO 16)]))) rfl ?_
          show JL _ _ _ _ _ [_, _, _]
          refine AJ (AD (BK (A6 (BJ (.agg (V5).toArray) (res1 EL (DQ rfl (BR CA BB (by simp [(AO 16)]) (AR 1 rfl (AN _))))) fun w1 hw1 => ?_))))
          have hbq : BadQ z0 := by
            rcases hm3 with hm | hm
            · subst hm
              exact bad2 hk (fun e => by have := e.1; omega)
            · exact bad2 hk (fun e => by have := e.1; omega)
          rw [show errV 50 2 = errV 50 (eQ z0 (z0.length + 1)) by rw [FF (by omega)]] at hw1
          exact ⟨_, _, rfl, ⟨_, _, _, 0, _, 0, _, _, _, _, ab, zb, cb, _, _, _, none, 0, _, _, _, none, 0, TkR.bad z0 hbq, rfl, rfl, (AO 16), (by omega), (by omega), (fun h => absurd h (by omega)), ⟨hbA, by omega, by omega, by omega⟩, rfl, rfl, .inl rfl, by omega, (by unfold maxLen; omega), .inl rfl, by omega, (by unfold maxLen; omega)⟩, FC hw1 0 1 2 rfl rfl rfl (by decide) (by decide) (by decide)⟩
    ·
      obtain ⟨hk, hpp, hm2, hm3, hu7, hu8, hu9, hu2, hu3, hu4, hu5, hu6, hu10, hu11, hu12⟩ := hx
      show JQ _ _ _ [_, _, _] [_, _, _, _, _]
      refine AD (AF (DB 90 3 [(0, Ptr nb2 6), (1, Slc nb2 6 16 16), (2, Ptr rb 0)] B6 rfl (by decide +kernel) ?_))
      refine C2 ⟨[], [0, 1, 2], [], [0, 1, 2], [3]⟩ 3 _ rfl rfl (by decide +kernel) rfl ⟨AP rfl rfl (AB 6 27 16 AQ rfl B3 rfl rfl), AP rfl rfl (DV 16 5 1 0 16 6 16 B1 B7 rfl rfl rfl (by omega) (by omega) (by omega) (by omega) (by omega) 16 (by omega)), CB rfl rfl rfl, trivial⟩ rfl (BO rfl (BD 127 _ [true, false, false, false, false] [rb] _ (AV _ Tryd.call127 rfl) rfl (fun w1 hw1 => rawA_w rb pp 16 aa zz.length cc z0 zz w1 (hw1.en 0 rfl) rfl (by omega) (by omega) (by omega) (hu6 _ _ (hr.at (M' := [rb]) hw1 (hw1.apart [0] _ rfl))) hu5 (by omega)))) ?_
      rintro v1 L1 ⟨_, ⟨ao12, zz12, ca12, hq12, ⟨hA12, hb55, hb56, hb57⟩, (⟨hg7, nb13, sp7, cp7, rfl, rfl, hc7, hc8, hc9⟩ | ⟨hg7, rfl, rfl⟩)⟩, rfl⟩
      ·
        refine ⟨[], ?_⟩
        show DP _ _ _ _ _ _ _ _ [_, _, _, _, (Ez rb [errV 50 (eQ z0 (pp + 16)), SL ao12 zz12.length ca12] 204), (Ez nb13 (cu8 (bQ z0 pp 16) ++ sp7) 5)]
        refine EI ⟨[3], [0, 1, 2], [2], [0, 1], [4]⟩ 4 rfl rfl (by decide +kernel) rfl ⟨AP rfl rfl (AB 6 27 16 AQ rfl B3 rfl rfl), AP rfl rfl (DV 16 5 1 0 16 6 16 B1 B7 rfl rfl rfl (by omega) (by omega) (by omega) (by omega) (by omega) 16 (by omega)), trivial⟩ rfl (BO rfl (E9 43 43 5 1 nb2 6 16 16 ([U64 (vQ z0 0 8), U64 (vQ z0 8 8), I64 (((vQ z0 16 1).toNat:Int)), Slc gb 0 m cp, Slc gs 0 m cp2, U64 0] ++ cu8 (zr8 16)) 29 (some ⟨nb13, 0, none⟩) 16 cp7 16 (cu8 (bQ z0 pp 16)) ([U64 (vQ z0 0 8), U64 (vQ z0 8 8), I64 (((vQ z0 16 1).toNat:Int)), Slc gb 0 m cp, Slc gs 0 m cp2, U64 0] ++ cu8 (bQ z0 pp 16)) BM EH rfl rfl rfl rfl (by simp [(show (bQ z0 pp 16).length = 16 from (CG _ _ _))]; try omega) (SrcAt.mem (AR 5 rfl (AI (AN _)))) (by simp [(AO 16)]; try omega) (by first | exact CZ | exact one_u32 | exact one_u64 | (simp [cu8, cu32, cu64, Value.oneCell']; done)) (E6 6 0 rfl rfl (BW (by simp [(AO 16), (show (bQ z0 pp 16).length = 16 from (CG _ _ _))]))))) ?_
        show DP _ _ _ _ _ _ _ _ [_, (Ez nb2 ([U64 (vQ z0 0 8), U64 (vQ z0 8 8), I64 (((vQ z0 16 1).toNat:Int)), Slc gb 0 m cp, Slc gs 0 m cp2, U64 0] ++ cu8 (bQ z0 pp 16)) 29), _, _, _, _]
        refine DR ⟨[3, 4], [0, 1, 2], [0, 1, 2], [], []⟩ rfl rfl (by decide +kernel) rfl trivial ?_
        refine C5 (F' := [(0, Ptr rb 0), (2, Ptr nb1 0), (3, Ptr nb2 0)]) (by kernel_rfl) ?_
        refine AD (AF (AF (AC (AA _ (AL rfl (BR CA BB (by simp [(show (bQ z0 pp 16).length = 16 from (CG _ _ _))]) (AR 1 rfl (AN _)))) rfl ?_))))
        refine A7 (A3 128 _ (errV 50 (mayN (vQ z0 0 8) (vQ z0 8 8) (((vQ z0 16 1).toNat:Int)) (ixQ z0 18 m) (seQ z0 (4*m + 18) m) (0:UInt64))) (AV _ Tryd.call128 rfl) (fun w1 hw1 => may13_c (vQ z0 0 8) (vQ z0 8 8) (((vQ z0 16 1).toNat:Int)) (some ⟨gb, 0, none⟩) m cp (ixQ z0 18 m) (some ⟨gs, 0, none⟩) m cp2 (seQ z0 (4*m + 18) m) (0:UInt64) (bQ z0 pp 16) w1 (F7 _ _ _) (by omega) (by omega) (by omega) (RdV.of hw1 (AR 2 rfl (AI (AN _)))) (seQ_len _ _ _) (by omega) (by omega) (by omega) (RdV.of hw1 (AR 3 rfl (AI (AN _)))) (show (bQ z0 pp 16).length = 16 from (CG _ _ _)))) rfl ?_
        show JL _ _ _ _ ((74, errV 50 (mayN (vQ z0 0 8) (vQ z0 8 8) (((vQ z0 16 1).toNat:Int)) (ixQ z0 18 m) (seQ z0 (4*m + 18) m) (0:UInt64))) :: _) [_, _, _, _, _, _]
        refine AA _ (AE rfl) rfl ?_
        refine AJ (AD (AF (AC (AA _ (AG rfl) rfl ?_))))
        refine AA (.bool (!(decide (mayN (vQ z0 0 8) (vQ z0 8 8) (((vQ z0 16 1).toNat:Int)) (ixQ z0 18 m) (seQ z0 (4*m + 18) m) (0:UInt64) = 0)))) (DM _ _ _ rfl rfl (fun _ => CE ..) fun _ => DW BG _ _) rfl ?_
        refine AJ (AD (CC (!(decide (mayN (vQ z0 0 8) (vQ z0 8 8) (((vQ z0 16 1).toNat:Int)) (ixQ z0 18 m) (seQ z0 (4*m + 18) m) (0:UInt64) = 0))) rfl (fun hb58 => ?_) (fun hb58 => ?_)))
        ·
          have hb59 : (decide (mayN (vQ z0 0 8) (vQ z0 8 8) (((vQ z0 16 1).toNat:Int)) (ixQ z0 18 m) (seQ z0 (4*m + 18) m) (0:UInt64) = 0)) = false := by simpa using hb58
          have hp59 : ¬ (mayN (vQ z0 0 8) (vQ z0 8 8) (((vQ z0 16 1).toNat:Int)) (ixQ z0 18 m) (seQ z0 (4*m + 18) m) (0:UInt64) = 0) := of_decide_eq_false hb59
          refine AC (AA _ (AG rfl) rfl ?_)
          refine AA (.iface 50 (I64 2)) (DH BN rfl rfl) rfl ?_
          refine A2 (D7 121 [Ptr rb 0, .iface 50 (I64 2)] 4 (Ez rb [errV 50 (eQ z0 (pp + 16)), SL ao12 zz12.length ca12] 204) _ (fun v e' l' => v = .tuple #[] ∧ e' = (Ez rb [errV 50 (erN (eQ z0 (pp + 16)) 2), SL ao12 zz12.length ca12] 204) ∧ l' = []) (AV _ ED rfl) rfl (by rintro v l ⟨rfl, rfl⟩; exact ⟨_, _, rfl, rfl, rfl, rfl, rfl⟩) (fun w1 hw1 => EX rb (eQ z0 (pp + 16)) 2 (SL ao12 zz12.length ca12) w1 (by decide) (hw1.en 4 rfl))) rfl ?_
          rintro v1 L1 ⟨_, _, ⟨rfl, rfl, rfl⟩, rfl⟩
          show JL _ _ _ _ ((79, .tuple #[]) :: _) [_, _, _, _, (Ez rb [errV 50 (erN (eQ z0 (pp + 16)) 2), SL ao12 zz12.length ca12] 204), _]
          refine AJ (AD (AF (AF (AC (AA _ (AG rfl) rfl ?_)))))
          refine A7 (A3 61 _ (I64 ((leftN (erN (eQ z0 (pp + 16)) 2) zz12.length:Int))) (AV _ EA rfl) (fun w1 hw1 => left_w rb (erN (eQ z0 (pp + 16)) 2) ao12 zz12.length ca12 w1 (RdA.of hw1 (AR 4 rfl (AN _)) (by simp)))) rfl ?_
          show JL _ _ _ _ ((81, I64 ((leftN (erN (eQ z0 (pp + 16)) 2) zz12.length:Int))) :: _) [_, _, _, _, _, _]
          refine AA (.bool (decide (((leftN (erN (eQ z0 (pp + 16)) 2) zz12.length:Int)) = (0:Int)))) (AT rfl rfl fun _ => BP _ _) rfl ?_
          refine AA _ (AG rfl) rfl ?_
          refine AM 3 83 true _ _ rfl rfl (decide_eq_true (by rw [leftN, if_neg (FE (by decide))]; rfl)) (AG rfl) rfl ?_
          refine DC 3 83 true _ rfl rfl (decide_eq_true (by rw [leftN, if_neg (FE (by decide))]; rfl)) (A3 63 _ (errV 50 (endN (erN (eQ z0 (pp + 16)) 2) zz12.length)) (AV _ EE rfl) (fun w1 hw1 => end_w rb (erN (eQ z0 (pp + 16)) 2) ao12 zz12.length ca12 w1 (RdA.of hw1 (AR 4 rfl (AN _)) (by simp)))) rfl ?_
          rintro v1 L1 ⟨rfl, rfl⟩
          show JL _ _ _ _ ((85, errV 50 (endN (erN (eQ z0 (pp + 16)) 2) zz12.length)) :: _) [_, _, _, _, _, _]
          refine AM 3 83 true _ (.bool (!(decide (endN (erN (eQ z0 (pp + 16)) 2) zz12.length = 0)))) rfl rfl (decide_eq_true (by rw [leftN, if_neg (FE (by decide))]; rfl)) (DM _ _ _ rfl rfl (fun _ => CE ..) fun _ => DW BG _ _) rfl ?_
          refine AA _ (BA _ rfl (decide_eq_true (by rw [leftN, if_neg (FE (by decide))]; rfl)) rfl) rfl ?_
          refine AJ (AD (CH _ rfl (bnotF (decide_eq_false (by rw [endN, if_neg (FE (by decide))]; exact (FE (by decide))))) ?_))
          refine AF (AC (AA (.agg (V5).toArray) (CY [] _ rfl (fun _ => by kernel_rfl)) rfl ?_))
          refine A7 (BS 0 nb1 22 _ 29 (V5) rfl rfl rfl BB (by simp [(AO 16)]) (B0 (by simp [Value.oneCell']) CZ) (by simp [(AO 16)]) (BW (by simp [(AO 16), (AO 16)]))) rfl ?_
          show JL _ _ _ _ _ [_, _, _, _, _, _]
          refine AJ (AD (BK (A6 (BJ (.agg (V5).toArray) (res1 EL (DQ rfl (BR CA BB (by simp [(AO 16)]) (AR 0 rfl (AN _))))) fun w1 hw1 => ?_))))
          rw [show erN (eQ z0 (pp + 16)) 2 = 2 by rw [eQ_ok ‹pp + 16 ≤ z0.length›]; rfl] at hw1
          have hbq : BadQ z0 := by
            rcases hm3 with hm | hm
            · subst hm
              exact bad1 hk (fun e => by exact (of_decide_eq_false hb59) e.2)
            · exact bad1 hk (fun e => by have := e.1; omega)
          rw [show errV 50 2 = errV 50 (eQ z0 (z0.length + 1)) by rw [FF (by omega)]] at hw1
          exact ⟨_, _, rfl, ⟨_, _, _, 0, _, 0, _, _, _, _, ao12, zz12, ca12, _, _, _, none, 0, _, _, _, none, 0, TkR.bad z0 hbq, rfl, rfl, (AO 16), (by omega), (by omega), (fun h => absurd h (by omega)), ⟨(fun w M h => hA12 w M (hu6 w M h)), by omega, by omega, by omega⟩, rfl, rfl, .inl rfl, by omega, (by unfold maxLen; omega), .inl rfl, by omega, (by unfold maxLen; omega)⟩, FC hw1 4 0 1 rfl rfl rfl (by decide) (by decide) (by decide)⟩
        ·
          have hb60 : (decide (mayN (vQ z0 0 8) (vQ z0 8 8) (((vQ z0 16 1).toNat:Int)) (ixQ z0 18 m) (seQ z0 (4*m + 18) m) (0:UInt64) = 0)) = true := by simpa using hb58
          have hp60 : mayN (vQ z0 0 8) (vQ z0 8 8) (((vQ z0 16 1).toNat:Int)) (ixQ z0 18 m) (seQ z0 (4*m + 18) m) (0:UInt64) = 0 := of_decide_eq_true hb60
          refine BH (AD (AF (AF (AC (AA _ (AG rfl) rfl ?_)))))
          refine A7 (A3 61 _ (I64 ((leftN (eQ z0 (pp + 16)) zz12.length:Int))) (AV _ EA rfl) (fun w1 hw1 => left_w rb (eQ z0 (pp + 16)) ao12 zz12.length ca12 w1 (RdA.of hw1 (AR 4 rfl (AN _)) (by simp)))) rfl ?_
          show JL _ _ _ _ ((81, I64 ((leftN (eQ z0 (pp + 16)) zz12.length:Int))) :: _) [_, _, _, _, _, _]
          refine AA (.bool (decide (((leftN (eQ z0 (pp + 16)) zz12.length:Int)) = (0:Int)))) (AT rfl rfl fun _ => BP _ _) rfl ?_
          refine AA _ (AG rfl) rfl ?_
          rcases Bool.eq_false_or_eq_true (decide (((leftN (eQ z0 (pp + 16)) zz12.length:Int)) = (0:Int))) with hb61 | hb61
          ·
            have hp61 : ((leftN (eQ z0 (pp + 16)) zz12.length:Int)) = (0:Int) := of_decide_eq_true hb61
            refine AM 3 83 true _ _ rfl rfl hb61 (AG rfl) rfl ?_
            refine DC 3 83 true _ rfl rfl hb61 (A3 63 _ (errV 50 (endN (eQ z0 (pp + 16)) zz12.length)) (AV _ EE rfl) (fun w1 hw1 => end_w rb (eQ z0 (pp + 16)) ao12 zz12.length ca12 w1 (RdA.of hw1 (AR 4 rfl (AN _)) (by simp)))) rfl ?_
            rintro v1 L1 ⟨rfl, rfl⟩
            show JL _ _ _ _ ((85, errV 50 (endN (eQ z0 (pp + 16)) zz12.length)) :: _) [_, _, _, _, _, _]
            refine AM 3 83 true _ (.bool (!(decide (endN (eQ z0 (pp + 16)) zz12.length = 0)))) rfl rfl hb61 (DM _ _ _ rfl rfl (fun _ => CE ..) fun _ => DW BG _ _) rfl ?_
            refine AA _ (BA _ rfl hb61 rfl) rfl ?_
            refine AJ (AD (BT _ rfl (bnotT (decide_eq_true (by have h9 := of_decide_eq_true hb61; rw [eQ_ok ‹pp + 16 ≤ z0.length›, leftN, if_pos rfl] at h9; rw [eQ_ok ‹pp + 16 ≤ z0.length›, endN, if_pos rfl, if_pos (by omega)]))) ?_))
            refine BH (AD (AF (AC (AA _ (AL rfl (BR CA BB (by simp [(show (bQ z0 pp 16).length = 16 from (CG _ _ _))]) (AR 1 rfl (AN _)))) rfl ?_))))
            refine A7 (BS 0 nb1 22 _ 29 ([U64 (vQ z0 0 8), U64 (vQ z0 8 8), I64 (((vQ z0 16 1).toNat:Int)), Slc gb 0 m cp, Slc gs 0 m cp2, U64 0] ++ cu8 (bQ z0 pp 16)) rfl rfl rfl BB (by simp [(show (bQ z0 pp 16).length = 16 from (CG _ _ _))]) (B0 (by simp [Value.oneCell']) CZ) (by simp [(AO 16)]) (BW (by simp [(AO 16), (show (bQ z0 pp 16).length = 16 from (CG _ _ _))]))) rfl ?_
            show JL _ _ _ _ _ [_, _, _, _, _, _]
            refine AJ (AD (BK (BJ (.agg ([U64 (vQ z0 0 8), U64 (vQ z0 8 8), I64 (((vQ z0 16 1).toNat:Int)), Slc gb 0 m cp, Slc gs 0 m cp2, U64 0] ++ cu8 (bQ z0 pp 16)).toArray) (res1 EL (DQ rfl (BR CA BB (by simp [(show (bQ z0 pp 16).length = 16 from (CG _ _ _))]) (AR 0 rfl (AN _))))) fun w1 hw1 => ?_)))
            obtain rfl : m = mQ z0 := by omega
            subst hpp
            rw [show 60*mQ z0 + 18 + 16 = 60*mQ z0 + 34 from rfl] at hw1
            exact ⟨_, _, rfl, ⟨_, _, _, (mQ z0), _, (mQ z0), _, _, _, _, ao12, zz12, ca12, _, _, _, (some ⟨gb, 0, none⟩), cp, _, _, _, (some ⟨gs, 0, none⟩), cp2, .inr (.inr (.inl ⟨⟨hk, by omega, of_decide_eq_true hb60⟩, rfl, rfl, rfl, rfl, rfl, rfl, rfl, rfl⟩)), F7 _ _ _, seQ_len _ _ _, (CG _ _ _), (by omega), (by omega), (fun h8 => (hq12 (by omega)).trans (by congr 1 <;> omega)), ⟨(fun w M h => hA12 w M (hu6 w M h)), by omega, by omega, by omega⟩, rfl, rfl, .inr ⟨rfl, _, rfl⟩, hu3, hu4, .inr ⟨rfl, _, rfl⟩, hu8, hu9⟩, FC hw1 4 2 3 rfl rfl rfl (by decide) (by decide) (by decide)⟩
          ·
            have hp61 : ¬ (((leftN (eQ z0 (pp + 16)) zz12.length:Int)) = (0:Int)) := of_decide_eq_false hb61
            refine A9 3 3 83 true _ rfl rfl hb61 rfl (AA _ (A5 _ rfl hb61 rfl) rfl ?_)
            refine AJ (AD (BT _ rfl rfl ?_))
            refine BH (AD (AF (AC (AA _ (AL rfl (BR CA BB (by simp [(show (bQ z0 pp 16).length = 16 from (CG _ _ _))]) (AR 1 rfl (AN _)))) rfl ?_))))
            refine A7 (BS 0 nb1 22 _ 29 ([U64 (vQ z0 0 8), U64 (vQ z0 8 8), I64 (((vQ z0 16 1).toNat:Int)), Slc gb 0 m cp, Slc gs 0 m cp2, U64 0] ++ cu8 (bQ z0 pp 16)) rfl rfl rfl BB (by simp [(show (bQ z0 pp 16).length = 16 from (CG _ _ _))]) (B0 (by simp [Value.oneCell']) CZ) (by simp [(AO 16)]) (BW (by simp [(AO 16), (show (bQ z0 pp 16).length = 16 from (CG _ _ _))]))) rfl ?_
            show JL _ _ _ _ _ [_, _, _, _, _, _]
            refine AJ (AD (BK (BJ (.agg ([U64 (vQ z0 0 8), U64 (vQ z0 8 8), I64 (((vQ z0 16 1).toNat:Int)), Slc gb 0 m cp, Slc gs 0 m cp2, U64 0] ++ cu8 (bQ z0 pp 16)).toArray) (res1 EL (DQ rfl (BR CA BB (by simp [(show (bQ z0 pp 16).length = 16 from (CG _ _ _))]) (AR 0 rfl (AN _))))) fun w1 hw1 => ?_)))
            obtain rfl : m = mQ z0 := by omega
            subst hpp
            rw [show 60*mQ z0 + 18 + 16 = 60*mQ z0 + 34 from rfl] at hw1
            exact ⟨_, _, rfl, ⟨_, _, _, (mQ z0), _, (mQ z0), _, _, _, _, ao12, zz12, ca12, _, _, _, (some ⟨gb, 0, none⟩), cp, _, _, _, (some ⟨gs, 0, none⟩), cp2, .inr (.inr (.inl ⟨⟨hk, by omega, of_decide_eq_true hb60⟩, rfl, rfl, rfl, rfl, rfl, rfl, rfl, rfl⟩)), F7 _ _ _, seQ_len _ _ _, (CG _ _ _), (by omega), (by omega), (fun h8 => (hq12 (by omega)).trans (by congr 1 <;> omega)), ⟨(fun w M h => hA12 w M (hu6 w M h)), by omega, by omega, by omega⟩, rfl, rfl, .inr ⟨rfl, _, rfl⟩, hu3, hu4, .inr ⟨rfl, _, rfl⟩, hu8, hu9⟩, FC hw1 4 2 3 rfl rfl rfl (by decide) (by decide) (by decide)⟩
      ·
        refine ⟨[], ?_⟩
        show DP _ _ _ _ _ _ _ _ [_, _, _, _, (Ez rb [errV 50 (eQ z0 (pp + 16)), SL ao12 zz12.length ca12] 204)]
        refine EI ⟨[3], [0, 1, 2], [2], [0, 1], [4]⟩ 4 rfl rfl (by decide +kernel) rfl ⟨AP rfl rfl (AB 6 27 16 AQ rfl B3 rfl rfl), AP rfl rfl (DV 16 5 1 0 16 6 16 B1 B7 rfl rfl rfl (by omega) (by omega) (by omega) (by omega) (by omega) 16 (by omega)), trivial⟩ rfl (BO rfl (E9 43 43 5 1 nb2 6 16 16 ([U64 (vQ z0 0 8), U64 (vQ z0 8 8), I64 (((vQ z0 16 1).toNat:Int)), Slc gb 0 m cp, Slc gs 0 m cp2, U64 0] ++ cu8 (zr8 16)) 29 none 0 0 0 [] ([U64 (vQ z0 0 8), U64 (vQ z0 8 8), I64 (((vQ z0 16 1).toNat:Int)), Slc gb 0 m cp, Slc gs 0 m cp2, U64 0] ++ cu8 (zr8 16)) BM EH rfl rfl rfl rfl rfl SrcAt.nil (by simp [(AO 16)]) one_nil (lay_nil _ _))) ?_
        show DP _ _ _ _ _ _ _ _ [_, _, _, _, _]
        refine DR ⟨[3, 4], [0, 1, 2], [0, 1, 2], [], []⟩ rfl rfl (by decide +kernel) rfl trivial ?_
        refine C5 (F' := [(0, Ptr rb 0), (2, Ptr nb1 0), (3, Ptr nb2 0)]) (by kernel_rfl) ?_
        refine AD (AF (AF (AC (AA _ (AL rfl (BR CA BB (by simp [(AO 16)]) (AR 1 rfl (AN _)))) rfl ?_))))
        refine A7 (A3 128 _ (errV 50 (mayN (vQ z0 0 8) (vQ z0 8 8) (((vQ z0 16 1).toNat:Int)) (ixQ z0 18 m) (seQ z0 (4*m + 18) m) (0:UInt64))) (AV _ Tryd.call128 rfl) (fun w1 hw1 => may13_c (vQ z0 0 8) (vQ z0 8 8) (((vQ z0 16 1).toNat:Int)) (some ⟨gb, 0, none⟩) m cp (ixQ z0 18 m) (some ⟨gs, 0, none⟩) m cp2 (seQ z0 (4*m + 18) m) (0:UInt64) (zr8 16) w1 (F7 _ _ _) (by omega) (by omega) (by omega) (RdV.of hw1 (AR 2 rfl (AI (AN _)))) (seQ_len _ _ _) (by omega) (by omega) (by omega) (RdV.of hw1 (AR 3 rfl (AI (AN _)))) (AO 16))) rfl ?_
        show JL _ _ _ _ ((74, errV 50 (mayN (vQ z0 0 8) (vQ z0 8 8) (((vQ z0 16 1).toNat:Int)) (ixQ z0 18 m) (seQ z0 (4*m + 18) m) (0:UInt64))) :: _) [_, _, _, _, _]
        refine AA _ (AE rfl) rfl ?_
        refine AJ (AD (AF (AC (AA _ (AG rfl) rfl ?_))))
        refine AA (.bool (!(decide (mayN (vQ z0 0 8) (vQ z0 8 8) (((vQ z0 16 1).toNat:Int)) (ixQ z0 18 m) (seQ z0 (4*m + 18) m) (0:UInt64) = 0)))) (DM _ _ _ rfl rfl (fun _ => CE ..) fun _ => DW BG _ _) rfl ?_
        refine AJ (AD (F9 (ι := Option Addr × List UInt8 × Nat) (fun ⟨ab, zb, cb⟩ => [(0, Ptr rb 0), (2, Ptr nb1 0), (3, Ptr nb2 0)]) (fun ⟨ab, zb, cb⟩ => [(Ez rb [errV 50 2, SL ab zb.length cb] 204), (Ez nb1 (V5) 29), (Ez nb2 ([U64 (vQ z0 0 8), U64 (vQ z0 8 8), I64 (((vQ z0 16 1).toNat:Int)), Slc gb 0 m cp, Slc gs 0 m cp2, U64 0] ++ cu8 (zr8 16)) 29)]) (fun ⟨ab, zb, cb⟩ => (∀ w M, RdB w M ao z → RdB w M ab zb) ∧ zb.length ≤ cb ∧ cb ≤ maxLen ∧ zb.length ≤ n) ?_ ?_))
        ·
          refine CC (!(decide (mayN (vQ z0 0 8) (vQ z0 8 8) (((vQ z0 16 1).toNat:Int)) (ixQ z0 18 m) (seQ z0 (4*m + 18) m) (0:UInt64) = 0))) rfl (fun hb62 => ?_) (fun hb62 => ?_)
          ·
            have hb63 : (decide (mayN (vQ z0 0 8) (vQ z0 8 8) (((vQ z0 16 1).toNat:Int)) (ixQ z0 18 m) (seQ z0 (4*m + 18) m) (0:UInt64) = 0)) = false := by simpa using hb62
            have hp63 : ¬ (mayN (vQ z0 0 8) (vQ z0 8 8) (((vQ z0 16 1).toNat:Int)) (ixQ z0 18 m) (seQ z0 (4*m + 18) m) (0:UInt64) = 0) := of_decide_eq_false hb63
            refine AC (AA _ (AG rfl) rfl ?_)
            refine AA (.iface 50 (I64 2)) (DH BN rfl rfl) rfl ?_
            refine A2 (D7 121 [Ptr rb 0, .iface 50 (I64 2)] 4 (Ez rb [errV 50 (eQ z0 (pp + 16)), SL ao12 zz12.length ca12] 204) _ (fun v e' l' => v = .tuple #[] ∧ e' = (Ez rb [errV 50 (erN (eQ z0 (pp + 16)) 2), SL ao12 zz12.length ca12] 204) ∧ l' = []) (AV _ ED rfl) rfl (by rintro v l ⟨rfl, rfl⟩; exact ⟨_, _, rfl, rfl, rfl, rfl, rfl⟩) (fun w1 hw1 => EX rb (eQ z0 (pp + 16)) 2 (SL ao12 zz12.length ca12) w1 (by decide) (hw1.en 4 rfl))) rfl ?_
            rintro v1 L1 ⟨_, _, ⟨rfl, rfl, rfl⟩, rfl⟩
            show JL _ _ _ _ ((79, .tuple #[]) :: _) [_, _, _, _, (Ez rb [errV 50 (erN (eQ z0 (pp + 16)) 2), SL ao12 zz12.length ca12] 204)]
            refine AJ ?_
            rw [show erN (eQ z0 (pp + 16)) 2 = 2 by rw [FF ‹¬ pp + 16 ≤ z0.length›]; rfl]
            refine FG [4, 0, 1] (by decide) ?_
            show JQ _ _ _ _ [_, _, _]
            refine D9 ((ao12, zz12, ca12)) ⟨(fun w M h => hA12 w M (hu6 w M h)), by omega, by omega, by omega⟩ (Sub.all rfl) rfl
          ·
            have hb64 : (decide (mayN (vQ z0 0 8) (vQ z0 8 8) (((vQ z0 16 1).toNat:Int)) (ixQ z0 18 m) (seQ z0 (4*m + 18) m) (0:UInt64) = 0)) = true := by simpa using hb62
            have hp64 : mayN (vQ z0 0 8) (vQ z0 8 8) (((vQ z0 16 1).toNat:Int)) (ixQ z0 18 m) (seQ z0 (4*m + 18) m) (0:UInt64) = 0 := of_decide_eq_true hb64
            refine BH ?_
            rw [show eQ z0 (pp + 16) = 2 by rw [FF ‹¬ pp + 16 ≤ z0.length›]]
            refine FG [4, 0, 1] (by decide) ?_
            show JQ _ _ _ _ [_, _, _]
            refine D9 ((ao12, zz12, ca12)) ⟨(fun w M h => hA12 w M (hu6 w M h)), by omega, by omega, by omega⟩ (Sub.all rfl) rfl
        ·
          rintro ⟨ab, zb, cb⟩ hx
          obtain ⟨hbA, hbb1, hbb2, hbb3⟩ := hx
          show JQ _ _ _ [_, _, _] [_, _, _]
          refine AD (AF (AF (AC (AA _ (AG rfl) rfl ?_))))
          refine A7 (A3 61 _ (I64 ((leftN 2 zb.length:Int))) (AV _ EA rfl) (fun w1 hw1 => left_w rb 2 ab zb.length cb w1 (RdA.of hw1 (AR 0 rfl (AN _)) (by simp)))) rfl ?_
          show JL _ _ _ _ ((81, I64 ((leftN 2 zb.length:Int))) :: _) [_, _, _]
          refine AA (.bool (decide (((leftN 2 zb.length:Int)) = (0:Int)))) (AT rfl rfl fun _ => BP _ _) rfl ?_
          refine AA _ (AG rfl) rfl ?_
          refine AM 3 83 true _ _ rfl rfl (decide_eq_true (by rw [leftN, if_neg (by decide)]; rfl)) (AG rfl) rfl ?_
          refine DC 3 83 true _ rfl rfl (decide_eq_true (by rw [leftN, if_neg (by decide)]; rfl)) (A3 63 _ (errV 50 (endN 2 zb.length)) (AV _ EE rfl) (fun w1 hw1 => end_w rb 2 ab zb.length cb w1 (RdA.of hw1 (AR 0 rfl (AN _)) (by simp)))) rfl ?_
          rintro v1 L1 ⟨rfl, rfl⟩
          show JL _ _ _ _ ((85, errV 50 (endN 2 zb.length)) :: _) [_, _, _]
          refine AM 3 83 true _ (.bool (!(decide (endN 2 zb.length = 0)))) rfl rfl (decide_eq_true (by rw [leftN, if_neg (by decide)]; rfl)) (DM _ _ _ rfl rfl (fun _ => CE ..) fun _ => DW BG _ _) rfl ?_
          refine AA _ (BA _ rfl (decide_eq_true (by rw [leftN, if_neg (by decide)]; rfl)) rfl) rfl ?_
          refine AJ (AD (CH _ rfl (bnotF (decide_eq_false (by rw [endN, if_neg (by decide)]; exact (by decide)))) ?_))
          refine AF (AC (AA (.agg (V5).toArray) (CY [] _ rfl (fun _ => by kernel_rfl)) rfl ?_))
          refine A7 (BS 1 nb1 22 _ 29 (V5) rfl rfl rfl BB (by simp [(AO 16)]) (B0 (by simp [Value.oneCell']) CZ) (by simp [(AO 16)]) (BW (by simp [(AO 16), (AO 16)]))) rfl ?_
          show JL _ _ _ _ _ [_, _, _]
          refine AJ (AD (BK (A6 (BJ (.agg (V5).toArray) (res1 EL (DQ rfl (BR CA BB (by simp [(AO 16)]) (AR 1 rfl (AN _))))) fun w1 hw1 => ?_))))
          have hbq : BadQ z0 := by
            rcases hm3 with hm | hm
            · subst hm
              exact bad1 hk (fun e => by have := e.1; omega)
            · exact bad1 hk (fun e => by have := e.1; omega)
          rw [show errV 50 2 = errV 50 (eQ z0 (z0.length + 1)) by rw [FF (by omega)]] at hw1
          exact ⟨_, _, rfl, ⟨_, _, _, 0, _, 0, _, _, _, _, ab, zb, cb, _, _, _, none, 0, _, _, _, none, 0, TkR.bad z0 hbq, rfl, rfl, (AO 16), (by omega), (by omega), (fun h => absurd h (by omega)), ⟨hbA, by omega, by omega, by omega⟩, rfl, rfl, .inl rfl, by omega, (by unfold maxLen; omega), .inl rfl, by omega, (by unfold maxLen; omega)⟩, FC hw1 0 1 2 rfl rfl rfl (by decide) (by decide) (by decide)⟩
set_option maxHeartbeats 2000000 in
theorem treadE_c (rb p : Nat) (ao : Option Addr) (n c : Nat) (z0 z : List UInt8)  (w : World) (h0 : w.heap[rb]? = some (.cells [errV 50 (eQ z0 p), SL ao n c].toArray 204 (0, 0))) (hz : z.length = n) (hn : n ≤ 2000000000) (hc : n ≤ c) (hcm : c ≤ maxLen) (hr : RdB w [rb] ao z) (hq : Lq z0 z p) (hp : ¬ p ≤ z0.length)  : Calls Tryd.prog 60 #[Ptr rb 0] w (Post w [rb] (fun v L => ∃ ao' z' c' g1 cs1 T1 g2 cs2 T2, Adv ao z c ao' z' c' ∧ v = .agg (V5).toArray ∧ L = [(Ez rb [errV 50 2, SL ao' z'.length c'] 204), (Ez g1 cs1 T1), (Ez g2 cs2 T2)])) := by
 have hmx : maxLen = 9223372036854775807 := rfl
 have hk0 : ((vQ z0 (p + 16) 1).toNat:Int) = 0 := by rw [vQ_neg (by omega)]; rfl
 refine enter w [rb] 90 [(Ez rb [errV 50 (eQ z0 p), SL ao n c] 204)] [Ptr rb 0] Tryd.func60 rfl rfl (by simp) (BZ (by simpa using h0) (by simp) (by simp)) ?_
 show JC _ _ _ [(0, Ptr rb 0)] _
 refine AF (AC (A2 (C4 _ (V5) Tryd.zeroValue29 (by kernel_rfl)) rfl ?_))
 rintro v1 L1 ⟨nb1, hnb1, rfl, rfl⟩
 show JL _ _ _ _ (_ :: _) [_, _]
 refine AJ (AD (AF (AC (AA _ (AG rfl) rfl ?_))))
 have hz1 : (z).length = n := hz
 refine A2 (BD 109 _ [true, false] [rb] _ (AV _ C7 rfl) rfl (fun w1 hw1 => FD rb p 8 ao n c z0 z w1 (hw1.en 0 rfl) hz (by omega) (by omega) (by omega) ((fun _ _ h => h) _ _ (hr.at (M' := [rb]) hw1 (hw1.apart [0] _ rfl))) hq (by unfold Szd; omega))) rfl ?_
 rintro v1 L1 ⟨_, ⟨rfl, ao1, zz1, ca1, hq1, ⟨hA1, hb1, hb2, hb3⟩, rfl⟩, rfl⟩
 show JL _ _ _ _ ((7, U64 (vQ z0 p 8)) :: _) [_, (Ez rb [errV 50 (eQ z0 (p + 8)), SL ao1 zz1.length ca1] 204)]
 refine AA _ (AG rfl) rfl ?_
 refine A2 (BD 109 _ [false, true] [rb] _ (AV _ C7 rfl) rfl (fun w1 hw1 => FD rb (p + 8) 8 ao1 zz1.length ca1 z0 zz1 w1 (hw1.en 1 rfl) rfl (by omega) (by omega) (by omega) (hA1 _ _ (hr.at (M' := [rb]) hw1 (hw1.apart [1] _ rfl))) hq1 (by unfold Szd; omega))) rfl ?_
 rintro v1 L1 ⟨_, ⟨rfl, ao2, zz2, ca2, hq2, ⟨hA2, hb4, hb5, hb6⟩, rfl⟩, rfl⟩
 show JL _ _ _ _ ((9, U64 (vQ z0 (p + 8) 8)) :: _) [_, (Ez rb [errV 50 (eQ z0 (p + 16)), SL ao2 zz2.length ca2] 204)]
 refine AA (.agg (V2 (vQ z0 p 8) (vQ z0 (p + 8) 8) 0 none 0 0 none 0 0 0 (zr8 16)).toArray) (CY [(0, U64 (vQ z0 p 8)), (1, U64 (vQ z0 (p + 8) 8))] _ rfl (fun _ => bld29_01 rfl rfl)) rfl ?_
 refine A2 (C4 _ (V5) Tryd.zeroValue29 (by kernel_rfl)) rfl ?_
 rintro v1 L1 ⟨nb2, hnb2, rfl, rfl⟩
 show JL _ _ _ _ (_ :: _) [_, _, _]
 refine A7 (BS 2 nb2 22 _ 29 (V2 (vQ z0 p 8) (vQ z0 (p + 8) 8) 0 none 0 0 none 0 0 0 (zr8 16)) rfl rfl rfl BB (by simp [(AO 16)]) (B0 (by simp [Value.oneCell']) CZ) (by simp [(AO 16)]) (BW (by simp [(AO 16), (AO 16)]))) rfl ?_
 show JL _ _ _ _ _ [_, _, _]
 refine AJ (AD (AF (AC (AA _ (AG rfl) rfl ?_))))
 refine A2 (BD 109 _ [false, true, false] [rb] _ (AV _ C7 rfl) rfl (fun w1 hw1 => FD rb (p + 16) 1 ao2 zz2.length ca2 z0 zz2 w1 (hw1.en 1 rfl) rfl (by omega) (by omega) (by omega) ((fun w M h => hA2 w M (hA1 w M h)) _ _ (hr.at (M' := [rb]) hw1 (hw1.apart [1] _ rfl))) hq2 (by unfold Szd; omega))) rfl ?_
 rintro v1 L1 ⟨_, ⟨rfl, ao3, zz3, ca3, hq3, ⟨hA3, hb7, hb8, hb9⟩, rfl⟩, rfl⟩
 show JL _ _ _ _ ((12, U64 (vQ z0 (p + 16) 1)) :: _) [_, _, (Ez rb [errV 50 (eQ z0 (p + 17)), SL ao3 zz3.length ca3] 204)]
 refine AA (I64 (((vQ z0 (p + 16) 1).toNat:Int))) (CV _ _ rfl fun _ => E5 (by rw [AU]; rfl) A4 (vQ z0 (p + 16) 1) _ rfl (by omega)) rfl ?_
 refine AA (Ptr nb2 2) (AB 2 26 4 AQ rfl BE rfl rfl) rfl ?_
 refine AA (Ptr nb2 2) (AB 0 3 1 AY rfl AW rfl rfl) rfl ?_
 refine A7 (C0 1 nb2 2 1 _ 29 (I64 (((vQ z0 (p + 16) 1).toNat:Int))) ([I64 (((vQ z0 (p + 16) 1).toNat:Int))]) (V2 (vQ z0 p 8) (vQ z0 (p + 8) 8) (((vQ z0 (p + 16) 1).toNat:Int)) none 0 0 none 0 0 0 (zr8 16)) rfl rfl rfl rfl AW rfl (by simp [Value.oneCell']) (by simp [(AO 16)]) (rfl)) rfl ?_
 show JL _ _ _ _ _ [_, _, _]
 refine AJ (AD (AF (AF (AC (AA (Ptr nb2 2) (AB 2 26 4 AQ rfl BE rfl rfl) rfl ?_)))))
 refine AA (Ptr nb2 2) (AB 0 3 1 AY rfl AW rfl rfl) rfl (AA _ (AL rfl (AX A0 (AR 1 rfl (AI (AH (AH (Seg.head))))))) rfl ?_)
 refine AJ (AD (B5 (AF (AC (AA (.bool (decide ((((vQ z0 (p + 16) 1).toNat:Int)) = (3:Int)))) (AT rfl rfl fun _ => BP _ _) rfl ?_)))))
 refine AA _ (AE rfl) rfl ?_
 refine AJ (AD (BT _ rfl (decide_eq_false (by rw [hk0]; decide)) ?_))
 refine AF (AF (AC (AA (.bool (decide ((((vQ z0 (p + 16) 1).toNat:Int)) = (1:Int)))) (AT rfl rfl fun _ => BP _ _) rfl ?_)))
 refine AA _ (AE rfl) rfl ?_
 refine AJ (AD (BT _ rfl (decide_eq_false (by rw [hk0]; decide)) ?_))
 refine AC (AA (.bool (decide ((((vQ z0 (p + 16) 1).toNat:Int)) = (2:Int)))) (AT rfl rfl fun _ => BP _ _) rfl ?_)
 refine AA _ (AE rfl) rfl ?_
 refine AJ (AD (BT _ rfl (decide_eq_false (by rw [hk0]; decide)) ?_))
 refine BH (BU (AD (AF (DB 90 3 [(0, Ptr nb2 6), (1, Slc nb2 6 16 16), (2, Ptr rb 0)] B6 rfl (by decide +kernel) ?_))))
 refine C2 ⟨[], [0, 1, 2], [], [0, 1, 2], [3]⟩ 3 _ rfl rfl (by decide +kernel) rfl ⟨AP rfl rfl (AB 6 27 16 AQ rfl B3 rfl rfl), AP rfl rfl (DV 16 5 1 0 16 6 16 B1 B7 rfl rfl rfl (by omega) (by omega) (by omega) (by omega) (by omega) 16 (by omega)), CB rfl rfl rfl, trivial⟩ rfl (BO rfl (BD 127 _ [false, false, true] [rb] _ (AV _ Tryd.call127 rfl) rfl (fun w1 hw1 => rawA_w rb (p + 17) 16 ao3 zz3.length ca3 z0 zz3 w1 (hw1.en 2 rfl) rfl (by omega) (by omega) (by omega) ((fun w M h => hA3 w M (hA2 w M (hA1 w M h))) _ _ (hr.at (M' := [rb]) hw1 (hw1.apart [2] _ rfl))) hq3 (by omega)))) ?_
 rintro v1 L1 ⟨_, ⟨ao4, zz4, ca4, hq4, ⟨hA4, hb10, hb11, hb12⟩, (⟨hg1, nb3, sp1, cp1, rfl, rfl, hc1, hc2, hc3⟩ | ⟨hg1, rfl, rfl⟩)⟩, rfl⟩
 ·
  refine ⟨[], ?_⟩
  show DP _ _ _ _ _ _ _ _ [_, _, (Ez rb [errV 50 (eQ z0 (p + 33)), SL ao4 zz4.length ca4] 204), (Ez nb3 (cu8 (bQ z0 (p + 17) 16) ++ sp1) 5)]
  refine EI ⟨[3], [0, 1, 2], [2], [0, 1], [4]⟩ 4 rfl rfl (by decide +kernel) rfl ⟨AP rfl rfl (AB 6 27 16 AQ rfl B3 rfl rfl), AP rfl rfl (DV 16 5 1 0 16 6 16 B1 B7 rfl rfl rfl (by omega) (by omega) (by omega) (by omega) (by omega) 16 (by omega)), trivial⟩ rfl (BO rfl (E9 43 43 5 1 nb2 6 16 16 (V2 (vQ z0 p 8) (vQ z0 (p + 8) 8) (((vQ z0 (p + 16) 1).toNat:Int)) none 0 0 none 0 0 0 (zr8 16)) 29 (some ⟨nb3, 0, none⟩) 16 cp1 16 (cu8 (bQ z0 (p + 17) 16)) (V2 (vQ z0 p 8) (vQ z0 (p + 8) 8) (((vQ z0 (p + 16) 1).toNat:Int)) none 0 0 none 0 0 0 (bQ z0 (p + 17) 16)) BM EH rfl rfl rfl rfl (by simp [(show (bQ z0 (p + 17) 16).length = 16 from (CG _ _ _))]; try omega) (SrcAt.mem (AR 3 rfl (AI (AN _)))) (by simp [(AO 16)]; try omega) (by first | exact CZ | exact one_u32 | exact one_u64 | (simp [cu8, cu32, cu64, Value.oneCell']; done)) (E6 6 0 rfl rfl (BW (by simp [(AO 16), (show (bQ z0 (p + 17) 16).length = 16 from (CG _ _ _))]))))) ?_
  show DP _ _ _ _ _ _ _ _ [_, (Ez nb2 (V2 (vQ z0 p 8) (vQ z0 (p + 8) 8) (((vQ z0 (p + 16) 1).toNat:Int)) none 0 0 none 0 0 0 (bQ z0 (p + 17) 16)) 29), _, _]
  refine DR ⟨[3, 4], [0, 1, 2], [0, 1, 2], [], []⟩ rfl rfl (by decide +kernel) rfl trivial ?_
  refine C5 (F' := [(0, Ptr rb 0), (2, Ptr nb1 0), (3, Ptr nb2 0)]) (by kernel_rfl) ?_
  refine AD (AF (AF (AC (AA _ (AL rfl (BR CA BB (by simp [(show (bQ z0 (p + 17) 16).length = 16 from (CG _ _ _))]) (AR 1 rfl (AN _)))) rfl ?_))))
  refine A7 (A3 128 _ (errV 50 (mayN (vQ z0 p 8) (vQ z0 (p + 8) 8) (((vQ z0 (p + 16) 1).toNat:Int)) ([] : List UInt64) ([] : List SealR) (0:UInt64))) (AV _ Tryd.call128 rfl) (fun w1 hw1 => may13_c (vQ z0 p 8) (vQ z0 (p + 8) 8) (((vQ z0 (p + 16) 1).toNat:Int)) none 0 0 ([] : List UInt64) none 0 0 ([] : List SealR) (0:UInt64) (bQ z0 (p + 17) 16) w1 rfl (by omega) (by omega) (by omega) RdV.nil rfl (by omega) (by omega) (by omega) RdV.nil (show (bQ z0 (p + 17) 16).length = 16 from (CG _ _ _)))) rfl ?_
  show JL _ _ _ _ ((74, errV 50 (mayN (vQ z0 p 8) (vQ z0 (p + 8) 8) (((vQ z0 (p + 16) 1).toNat:Int)) ([] : List UInt64) ([] : List SealR) (0:UInt64))) :: _) [_, _, _, _]
  refine AA _ (AE rfl) rfl ?_
  refine AJ (AD (AF (AC (AA _ (AG rfl) rfl ?_))))
  refine AA (.bool (!(decide (mayN (vQ z0 p 8) (vQ z0 (p + 8) 8) (((vQ z0 (p + 16) 1).toNat:Int)) ([] : List UInt64) ([] : List SealR) (0:UInt64) = 0)))) (DM _ _ _ rfl rfl (fun _ => CE ..) fun _ => DW BG _ _) rfl ?_
  refine AJ (AD (CH _ rfl (bnotF (decide_eq_false (by have h9 := may_nil (pv := vQ z0 p 8) (ep := vQ z0 (p + 8) 8) (kd := ((vQ z0 (p + 16) 1).toNat:Int)) (bl := 0) (by rw [hk0]; decide); omega))) ?_))
  refine AC (AA _ (AG rfl) rfl ?_)
  refine AA (.iface 50 (I64 2)) (DH BN rfl rfl) rfl ?_
  refine A2 (D7 121 [Ptr rb 0, .iface 50 (I64 2)] 2 (Ez rb [errV 50 (eQ z0 (p + 33)), SL ao4 zz4.length ca4] 204) _ (fun v e' l' => v = .tuple #[] ∧ e' = (Ez rb [errV 50 (erN (eQ z0 (p + 33)) 2), SL ao4 zz4.length ca4] 204) ∧ l' = []) (AV _ ED rfl) rfl (by rintro v l ⟨rfl, rfl⟩; exact ⟨_, _, rfl, rfl, rfl, rfl, rfl⟩) (fun w1 hw1 => EX rb (eQ z0 (p + 33)) 2 (SL ao4 zz4.length ca4) w1 (by decide) (hw1.en 2 rfl))) rfl ?_
  rintro v1 L1 ⟨_, _, ⟨rfl, rfl, rfl⟩, rfl⟩
  show JL _ _ _ _ ((79, .tuple #[]) :: _) [_, _, (Ez rb [errV 50 (erN (eQ z0 (p + 33)) 2), SL ao4 zz4.length ca4] 204), _]
  refine AJ (AD (AF (AF (AC (AA _ (AG rfl) rfl ?_)))))
  refine A7 (A3 61 _ (I64 ((leftN (erN (eQ z0 (p + 33)) 2) zz4.length:Int))) (AV _ EA rfl) (fun w1 hw1 => left_w rb (erN (eQ z0 (p + 33)) 2) ao4 zz4.length ca4 w1 (RdA.of hw1 (AR 2 rfl (AN _)) (by simp)))) rfl ?_
  show JL _ _ _ _ ((81, I64 ((leftN (erN (eQ z0 (p + 33)) 2) zz4.length:Int))) :: _) [_, _, _, _]
  refine AA (.bool (decide (((leftN (erN (eQ z0 (p + 33)) 2) zz4.length:Int)) = (0:Int)))) (AT rfl rfl fun _ => BP _ _) rfl ?_
  refine AA _ (AG rfl) rfl ?_
  refine AM 3 83 true _ _ rfl rfl (decide_eq_true (by rw [leftN, if_neg (by first | exact FE (by decide) | decide)]; rfl)) (AG rfl) rfl ?_
  refine DC 3 83 true _ rfl rfl (decide_eq_true (by rw [leftN, if_neg (by first | exact FE (by decide) | decide)]; rfl)) (A3 63 _ (errV 50 (endN (erN (eQ z0 (p + 33)) 2) zz4.length)) (AV _ EE rfl) (fun w1 hw1 => end_w rb (erN (eQ z0 (p + 33)) 2) ao4 zz4.length ca4 w1 (RdA.of hw1 (AR 2 rfl (AN _)) (by simp)))) rfl ?_
  rintro v1 L1 ⟨rfl, rfl⟩
  show JL _ _ _ _ ((85, errV 50 (endN (erN (eQ z0 (p + 33)) 2) zz4.length)) :: _) [_, _, _, _]
  refine AM 3 83 true _ (.bool (!(decide (endN (erN (eQ z0 (p + 33)) 2) zz4.length = 0)))) rfl rfl (decide_eq_true (by rw [leftN, if_neg (by first | exact FE (by decide) | decide)]; rfl)) (DM _ _ _ rfl rfl (fun _ => CE ..) fun _ => DW BG _ _) rfl ?_
  refine AA _ (BA _ rfl (decide_eq_true (by rw [leftN, if_neg (by first | exact FE (by decide) | decide)]; rfl)) rfl) rfl ?_
  refine AJ (AD (CH _ rfl (bnotF (decide_eq_false (by rw [endN, if_neg (by first | exact FE (by decide) | decide)]; first | exact FE (by decide) | decide))) ?_))
  refine AF (AC (AA (.agg (V5).toArray) (CY [] _ rfl (fun _ => by kernel_rfl)) rfl ?_))
  refine A7 (BS 0 nb1 22 _ 29 (V5) rfl rfl rfl BB (by simp [(AO 16)]) (B0 (by simp [Value.oneCell']) CZ) (by simp [(AO 16)]) (BW (by simp [(AO 16), (AO 16)]))) rfl ?_
  show JL _ _ _ _ _ [_, _, _, _]
  refine AJ (AD (BK (A6 (BJ (.agg (V5).toArray) (res1 EL (DQ rfl (BR CA BB (by simp [(AO 16)]) (AR 0 rfl (AN _))))) fun w1 hw1 => ?_))))
  rw [show erN (eQ z0 (p + 33)) 2 = 2 by rw [FF (by omega)]; rfl] at hw1
  exact ⟨_, _, rfl, ⟨ao4, zz4, ca4, _, _, _, _, _, _, ⟨(fun w M h => hA4 w M (hA3 w M (hA2 w M (hA1 w M h)))), by omega, by omega, by omega⟩, rfl, rfl⟩, FC hw1 2 0 1 rfl rfl rfl (by decide) (by decide) (by decide)⟩
 ·
  refine ⟨[], ?_⟩
  show DP _ _ _ _ _ _ _ _ [_, _, (Ez rb [errV 50 (eQ z0 (p + 33)), SL ao4 zz4.length ca4] 204)]
  refine EI ⟨[3], [0, 1, 2], [2], [0, 1], [4]⟩ 4 rfl rfl (by decide +kernel) rfl ⟨AP rfl rfl (AB 6 27 16 AQ rfl B3 rfl rfl), AP rfl rfl (DV 16 5 1 0 16 6 16 B1 B7 rfl rfl rfl (by omega) (by omega) (by omega) (by omega) (by omega) 16 (by omega)), trivial⟩ rfl (BO rfl (E9 43 43 5 1 nb2 6 16 16 (V2 (vQ z0 p 8) (vQ z0 (p + 8) 8) (((vQ z0 (p + 16) 1).toNat:Int)) none 0 0 none 0 0 0 (zr8 16)) 29 none 0 0 0 [] (V2 (vQ z0 p 8) (vQ z0 (p + 8) 8) (((vQ z0 (p + 16) 1).toNat:Int)) none 0 0 none 0 0 0 (zr8 16)) BM EH rfl rfl rfl rfl rfl SrcAt.nil (by simp [(AO 16)]) one_nil (lay_nil _ _))) ?_
  show DP _ _ _ _ _ _ _ _ [_, _, _]
  refine DR ⟨[3, 4], [0, 1, 2], [0, 1, 2], [], []⟩ rfl rfl (by decide +kernel) rfl trivial ?_
  refine C5 (F' := [(0, Ptr rb 0), (2, Ptr nb1 0), (3, Ptr nb2 0)]) (by kernel_rfl) ?_
  refine AD (AF (AF (AC (AA _ (AL rfl (BR CA BB (by simp [(AO 16)]) (AR 1 rfl (AN _)))) rfl ?_))))
  refine A7 (A3 128 _ (errV 50 (mayN (vQ z0 p 8) (vQ z0 (p + 8) 8) (((vQ z0 (p + 16) 1).toNat:Int)) ([] : List UInt64) ([] : List SealR) (0:UInt64))) (AV _ Tryd.call128 rfl) (fun w1 hw1 => may13_c (vQ z0 p 8) (vQ z0 (p + 8) 8) (((vQ z0 (p + 16) 1).toNat:Int)) none 0 0 ([] : List UInt64) none 0 0 ([] : List SealR) (0:UInt64) (zr8 16) w1 rfl (by omega) (by omega) (by omega) RdV.nil rfl (by omega) (by omega) (by omega) RdV.nil (AO 16))) rfl ?_
  show JL _ _ _ _ ((74, errV 50 (mayN (vQ z0 p 8) (vQ z0 (p + 8) 8) (((vQ z0 (p + 16) 1).toNat:Int)) ([] : List UInt64) ([] : List SealR) (0:UInt64))) :: _) [_, _, _]
  refine AA _ (AE rfl) rfl ?_
  refine AJ (AD (AF (AC (AA _ (AG rfl) rfl ?_))))
  refine AA (.bool (!(decide (mayN (vQ z0 p 8) (vQ z0 (p + 8) 8) (((vQ z0 (p + 16) 1).toNat:Int)) ([] : List UInt64) ([] : List SealR) (0:UInt64) = 0)))) (DM _ _ _ rfl rfl (fun _ => CE ..) fun _ => DW BG _ _) rfl ?_
  refine AJ (AD (CH _ rfl (bnotF (decide_eq_false (by have h9 := may_nil (pv := vQ z0 p 8) (ep := vQ z0 (p + 8) 8) (kd := ((vQ z0 (p + 16) 1).toNat:Int)) (bl := 0) (by rw [hk0]; decide); omega))) ?_))
  refine AC (AA _ (AG rfl) rfl ?_)
  refine AA (.iface 50 (I64 2)) (DH BN rfl rfl) rfl ?_
  refine A2 (D7 121 [Ptr rb 0, .iface 50 (I64 2)] 2 (Ez rb [errV 50 (eQ z0 (p + 33)), SL ao4 zz4.length ca4] 204) _ (fun v e' l' => v = .tuple #[] ∧ e' = (Ez rb [errV 50 (erN (eQ z0 (p + 33)) 2), SL ao4 zz4.length ca4] 204) ∧ l' = []) (AV _ ED rfl) rfl (by rintro v l ⟨rfl, rfl⟩; exact ⟨_, _, rfl, rfl, rfl, rfl, rfl⟩) (fun w1 hw1 => EX rb (eQ z0 (p + 33)) 2 (SL ao4 zz4.length ca4) w1 (by decide) (hw1.en 2 rfl))) rfl ?_
  rintro v1 L1 ⟨_, _, ⟨rfl, rfl, rfl⟩, rfl⟩
  show JL _ _ _ _ ((79, .tuple #[]) :: _) [_, _, (Ez rb [errV 50 (erN (eQ z0 (p + 33)) 2), SL ao4 zz4.length ca4] 204)]
  refine AJ (AD (AF (AF (AC (AA _ (AG rfl) rfl ?_)))))
  refine A7 (A3 61 _ (I64 ((leftN (erN (eQ z0 (p + 33)) 2) zz4.length:Int))) (AV _ EA rfl) (fun w1 hw1 => left_w rb (erN (eQ z0 (p + 33)) 2) ao4 zz4.length ca4 w1 (RdA.of hw1 (AR 2 rfl (AN _)) (by simp)))) rfl ?_
  show JL _ _ _ _ ((81, I64 ((leftN (erN (eQ z0 (p + 33)) 2) zz4.length:Int))) :: _) [_, _, _]
  refine AA (.bool (decide (((leftN (erN (eQ z0 (p + 33)) 2) zz4.length:Int)) = (0:Int)))) (AT rfl rfl fun _ => BP _ _) rfl ?_
  refine AA _ (AG rfl) rfl ?_
  refine AM 3 83 true _ _ rfl rfl (decide_eq_true (by rw [leftN, if_neg (by first | exact FE (by decide) | decide)]; rfl)) (AG rfl) rfl ?_
  refine DC 3 83 true _ rfl rfl (decide_eq_true (by rw [leftN, if_neg (by first | exact FE (by decide) | decide)]; rfl)) (A3 63 _ (errV 50 (endN (erN (eQ z0 (p + 33)) 2) zz4.length)) (AV _ EE rfl) (fun w1 hw1 => end_w rb (erN (eQ z0 (p + 33)) 2) ao4 zz4.length ca4 w1 (RdA.of hw1 (AR 2 rfl (AN _)) (by simp)))) rfl ?_
  rintro v1 L1 ⟨rfl, rfl⟩
  show JL _ _ _ _ ((85, errV 50 (endN (erN (eQ z0 (p + 33)) 2) zz4.length)) :: _) [_, _, _]
  refine AM 3 83 true _ (.bool (!(decide (endN (erN (eQ z0 (p + 33)) 2) zz4.length = 0)))) rfl rfl (decide_eq_true (by rw [leftN, if_neg (by first | exact FE (by decide) | decide)]; rfl)) (DM _ _ _ rfl rfl (fun _ => CE ..) fun _ => DW BG _ _) rfl ?_
  refine AA _ (BA _ rfl (decide_eq_true (by rw [leftN, if_neg (by first | exact FE (by decide) | decide)]; rfl)) rfl) rfl ?_
  refine AJ (AD (CH _ rfl (bnotF (decide_eq_false (by rw [endN, if_neg (by first | exact FE (by decide) | decide)]; first | exact FE (by decide) | decide))) ?_))
  refine AF (AC (AA (.agg (V5).toArray) (CY [] _ rfl (fun _ => by kernel_rfl)) rfl ?_))
  refine A7 (BS 0 nb1 22 _ 29 (V5) rfl rfl rfl BB (by simp [(AO 16)]) (B0 (by simp [Value.oneCell']) CZ) (by simp [(AO 16)]) (BW (by simp [(AO 16), (AO 16)]))) rfl ?_
  show JL _ _ _ _ _ [_, _, _]
  refine AJ (AD (BK (A6 (BJ (.agg (V5).toArray) (res1 EL (DQ rfl (BR CA BB (by simp [(AO 16)]) (AR 0 rfl (AN _))))) fun w1 hw1 => ?_))))
  rw [show erN (eQ z0 (p + 33)) 2 = 2 by rw [FF (by omega)]; rfl] at hw1
  exact ⟨_, _, rfl, ⟨ao4, zz4, ca4, _, _, _, _, _, _, ⟨(fun w M h => hA4 w M (hA3 w M (hA2 w M (hA1 w M h)))), by omega, by omega, by omega⟩, rfl, rfl⟩, FC hw1 2 0 1 rfl rfl rfl (by decide) (by decide) (by decide)⟩
theorem treadU_w (rb p : Nat) (ao : Option Addr) (n c : Nat) (z0 z : List UInt8) (w : World) (h0 : w.heap[rb]? = some (.cells [errV 50 (eQ z0 p), SL ao n c].toArray 204 (0, 0))) (hz : z.length = n) (hn : n ≤ 2000000000) (hc : n ≤ c) (hcm : c ≤ maxLen) (hr : RdB w [rb] ao z) (hq : Lq z0 z p) : Calls Tryd.prog 60 #[Ptr rb 0] w (Post w [rb] (fun v L => ∃ pv ep kd ni l ns ls bl tg tot q ao' z' c' g1 cs1 T1 a1 c1 g2 cs2 T2 a2 c2, TkR (z0.drop p) pv ep kd l ls bl tg tot ∧ q = p + tot ∧ l.length = ni ∧ ls.length = ns ∧ tg.length = 16 ∧ ni ≤ 256 ∧ ns ≤ 256 ∧ Lq z0 z' q ∧ Adv ao z c ao' z' c' ∧ v = .agg (V2 pv ep kd a1 ni c1 a2 ns c2 bl tg).toArray ∧ L = [(Ez rb [errV 50 (eQ z0 q), SL ao' z'.length c'] 204), (Ez g1 cs1 T1), (Ez g2 cs2 T2)] ∧ Gh (cu64 l) g1 cs1 a1 ∧ ni ≤ c1 ∧ c1 ≤ maxLen ∧ Gh (ls.flatMap sealC) g2 cs2 a2 ∧ ns ≤ c2 ∧ c2 ≤ maxLen)) := by
  by_cases hp : p ≤ z0.length
  · refine (treadG_c rb ao n c (z0.drop p) z w (by rw [show eQ (z0.drop p) 0 = eQ z0 p from eQ_drop hp]; exact h0) hz hn hc hcm hr (fun _ => by rw [hq hp]; rfl)).mono ?_
    rintro E W ⟨v, L, rfl, ⟨pv, ep, kd, ni, l, ns, ls, bl, tg, tot, ao', z', c', g1, cs1, T1, a1, c1, g2, cs2, T2, a2, c2, hT, h1, h2, h3, h4, h5, h6, h7, rfl, rfl, h8⟩, hw⟩
    exact ⟨_, _, rfl, ⟨pv, ep, kd, ni, l, ns, ls, bl, tg, tot, p + tot, ao', z', c', g1, cs1, T1, a1, c1, g2, cs2, T2, a2, c2, hT, rfl, h1, h2, h3, h4, h5, Lq.drop hp h6, h7, rfl, by rw [eQ_drop hp], h8⟩, hw⟩
  · refine (treadE_c rb p ao n c z0 z w h0 hz hn hc hcm hr hq hp).mono ?_
    rintro E W ⟨v, L, rfl, ⟨ao', z', c', g1, cs1, T1, g2, cs2, T2, hA, rfl, rfl⟩, hw⟩
    have hd : z0.drop p = [] := List.drop_eq_nil_of_le (by omega)
    refine ⟨_, _, rfl, ⟨0, 0, 0, 0, [], 0, [], 0, zr8 16, 1, p + 1, ao', z', c', g1, cs1, T1, none, 0, g2, cs2, T2, none, 0, by rw [hd]; exact TkR.bad [] bad_nil, rfl, rfl, rfl, AO 16, by omega, by omega, fun h => absurd h (by omega), hA, rfl, by rw [FF (by omega)], .inl rfl, by omega, by unfold maxLen; omega, .inl rfl, by omega, by unfold maxLen; omega⟩, hw⟩
end Go.Proofs.YtkdpdgpphpngeaaDoor
