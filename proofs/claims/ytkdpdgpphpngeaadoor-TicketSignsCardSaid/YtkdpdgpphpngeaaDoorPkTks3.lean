import Derived.Test.YtkdpdgpphpngeaaDoorPkTks2
namespace Go.Proofs.YtkdpdgpphpngeaaDoor
open Go Go.Sx
set_option linter.unusedVariables false
set_option linter.unusedSimpArgs false
set_option maxRecDepth 100000
attribute [local irreducible] mid zr8 zr32 numK rnK rotr wordL spreadL comprL cpN adN spN wrdN constL initL padL stN outN routN sumG putL RightB
theorem right_c (i e : UInt64) (w : World) : Calls Tryd.prog 133 #[U64 i, U64 e] w (Post w [] (fun v L => v = .bool (RightB i e) ∧ L = [])) := by
 refine enter w [] 15 [] [U64 i, U64 e] Tryd.func133 rfl rfl (by simp) (B7 (by simp) (by simp) (by simp)) ?_
 show JC _ _ _ [(0, U64 i), (1, U64 e)] _
 refine AL (AE (AA _ (AH rfl) rfl ?_))
 refine AN (AF (AL (AE (AA _ (AD rfl) rfl ?_))))
 refine AA (.bool (decide (i < (4294967296:UInt64)))) (AQ rfl rfl fun _ => bin_lss_u64 i (4294967296:UInt64)) rfl ?_
 refine AA _ (AD rfl) rfl ?_
 rcases Bool.eq_false_or_eq_true (decide (i < (4294967296:UInt64))) with hb1 | hb1
 ·
  have hp1 : i < (4294967296:UInt64) := of_decide_eq_true hb1
  refine AY 2 7 true _ _ rfl rfl hb1 (AD rfl) rfl ?_
  refine AY 2 7 true _ (.bool (decide ((1:UInt64) ≤ e))) rfl rfl hb1 (AQ rfl rfl fun _ => FJ e (1:UInt64)) rfl ?_
  refine AA _ (B0 _ rfl hb1 rfl) rfl ?_
  refine AA _ (AD rfl) rfl ?_
  rcases Bool.eq_false_or_eq_true (decide ((1:UInt64) ≤ e)) with hb2 | hb2
  ·
   have hp2 : (1:UInt64) ≤ e := of_decide_eq_true hb2
   refine AY 6 11 true _ _ rfl rfl hb2 (AD rfl) rfl ?_
   refine AY 6 11 true _ (.bool (decide (e < (18446744073709551615:UInt64)))) rfl rfl hb2 (AQ rfl rfl fun _ => bin_lss_u64 e (18446744073709551615:UInt64)) rfl ?_
   refine AA _ (B0 _ rfl hb2 rfl) rfl ?_
   refine AA _ (AH rfl) rfl ?_
   refine AN (AF (BO (BP (.bool (decide (e < (18446744073709551615:UInt64)))) (res1 Tryd.results133 (BT rfl)) fun w1 hw1 => ?_)))
   refine ⟨_, [], rfl, ⟨congrArg Value.bool ?_, rfl⟩, hw1.sub (by simp) (by simp)⟩
   unfold RightB
   simp [*]
  ·
   have hp2 : ¬ ((1:UInt64) ≤ e) := of_decide_eq_false hb2
   refine AI 6 11 true _ rfl rfl hb2 rfl ?_
   refine AI 6 11 true _ rfl rfl hb2 rfl ?_
   refine AA _ (BM _ rfl hb2 rfl) rfl ?_
   refine AA _ (AH rfl) rfl ?_
   refine AN (AF (BO (BP (.bool false) (res1 Tryd.results133 (BT rfl)) fun w1 hw1 => ?_)))
   refine ⟨_, [], rfl, ⟨congrArg Value.bool ?_, rfl⟩, hw1.sub (by simp) (by simp)⟩
   unfold RightB
   simp [*]
 ·
  have hp1 : ¬ (i < (4294967296:UInt64)) := of_decide_eq_false hb1
  refine AI 2 7 true _ rfl rfl hb1 rfl ?_
  refine AI 2 7 true _ rfl rfl hb1 rfl ?_
  refine AA _ (BM _ rfl hb1 rfl) rfl ?_
  refine AA _ (AD rfl) rfl ?_
  refine AI 6 11 true _ rfl rfl rfl rfl ?_
  refine AI 6 11 true _ rfl rfl rfl rfl ?_
  refine AA _ (BM _ rfl rfl rfl) rfl ?_
  refine AA _ (AH rfl) rfl ?_
  refine AN (AF (BO (BP (.bool false) (res1 Tryd.results133 (BT rfl)) fun w1 hw1 => ?_)))
  refine ⟨_, [], rfl, ⟨congrArg Value.bool ?_, rfl⟩, hw1.sub (by simp) (by simp)⟩
  unfold RightB
  simp [*]
theorem rright_c (i e : UInt64) (w : World) : Calls Tryd.prog 111 #[U64 i, U64 e] w (Post w [] (fun v L => v = .bool (RightB i e) ∧ L = [])) := by
 refine enter w [] 15 [] [U64 i, U64 e] Tryd.func111 rfl rfl (by simp) (B7 (by simp) (by simp) (by simp)) ?_
 show JC _ _ _ [(0, U64 i), (1, U64 e)] _
 refine AL (AE (AA _ (AH rfl) rfl ?_))
 refine AN (AF (AL (AE (AA _ (AD rfl) rfl ?_))))
 refine AA (.bool (decide (i ≤ (4294967295:UInt64)))) (AQ rfl rfl fun _ => bin_leq_u64 i (4294967295:UInt64)) rfl ?_
 refine AA _ (AD rfl) rfl ?_
 rcases Bool.eq_false_or_eq_true (decide (i ≤ (4294967295:UInt64))) with hb1 | hb1
 ·
  have hp1 : i ≤ (4294967295:UInt64) := of_decide_eq_true hb1
  refine AY 2 7 true _ _ rfl rfl hb1 (AD rfl) rfl ?_
  refine AY 2 7 true _ (.bool (decide (e ≠ (0:UInt64)))) rfl rfl hb1 (AQ rfl rfl fun _ => EP e (0:UInt64)) rfl ?_
  refine AA _ (B0 _ rfl hb1 rfl) rfl ?_
  refine AA _ (AD rfl) rfl ?_
  rcases Bool.eq_false_or_eq_true (decide (e ≠ (0:UInt64))) with hb2 | hb2
  ·
   have hp2 : e ≠ (0:UInt64) := of_decide_eq_true hb2
   refine AY 6 11 true _ _ rfl rfl hb2 (AD rfl) rfl ?_
   refine AY 6 11 true _ (.bool (decide (e ≠ (18446744073709551615:UInt64)))) rfl rfl hb2 (AQ rfl rfl fun _ => EP e (18446744073709551615:UInt64)) rfl ?_
   refine AA _ (B0 _ rfl hb2 rfl) rfl ?_
   refine AA _ (AH rfl) rfl ?_
   refine AN (AF (BO (BP (.bool (decide (e ≠ (18446744073709551615:UInt64)))) (res1 Tryd.results111 (BT rfl)) fun w1 hw1 => ?_)))
   refine ⟨_, [], rfl, ⟨congrArg Value.bool ?_, rfl⟩, hw1.sub (by simp) (by simp)⟩
   rw [RightB_ref]
   simp [*]
  ·
   have hp2 : ¬ (e ≠ (0:UInt64)) := of_decide_eq_false hb2
   refine AI 6 11 true _ rfl rfl hb2 rfl ?_
   refine AI 6 11 true _ rfl rfl hb2 rfl ?_
   refine AA _ (BM _ rfl hb2 rfl) rfl ?_
   refine AA _ (AH rfl) rfl ?_
   refine AN (AF (BO (BP (.bool false) (res1 Tryd.results111 (BT rfl)) fun w1 hw1 => ?_)))
   refine ⟨_, [], rfl, ⟨congrArg Value.bool ?_, rfl⟩, hw1.sub (by simp) (by simp)⟩
   rw [RightB_ref]
   simp [*]
 ·
  have hp1 : ¬ (i ≤ (4294967295:UInt64)) := of_decide_eq_false hb1
  refine AI 2 7 true _ rfl rfl hb1 rfl ?_
  refine AI 2 7 true _ rfl rfl hb1 rfl ?_
  refine AA _ (BM _ rfl hb1 rfl) rfl ?_
  refine AA _ (AD rfl) rfl ?_
  refine AI 6 11 true _ rfl rfl rfl rfl ?_
  refine AI 6 11 true _ rfl rfl rfl rfl ?_
  refine AA _ (BM _ rfl rfl rfl) rfl ?_
  refine AA _ (AH rfl) rfl ?_
  refine AN (AF (BO (BP (.bool false) (res1 Tryd.results111 (BT rfl)) fun w1 hw1 => ?_)))
  refine ⟨_, [], rfl, ⟨congrArg Value.bool ?_, rfl⟩, hw1.sub (by simp) (by simp)⟩
  rw [RightB_ref]
  simp [*]
theorem odd_c (ob : Nat) (kd : Int) (ai : Option Addr) (ni ci : Nat) (l : List UInt64) (sa : Option Addr) (ns sc : Nat) (ls : List SealR) (bl : UInt64) (e : UInt64) (d t : List UInt8)  (w : World) (hd : d.length = 32) (ht : t.length = 16) (hpos : 0 < ns) (hls : ls.length = ns) (hnn : ns ≤ 2000000) (hnd : ns ≤ sc) (hcn : sc ≤ maxLen) (hs : RdV w sa (ls.flatMap sealC)) (hO : RdA w ob 0 [I64 (kd), .slice ai ni ci, .slice sa ns sc, U64 bl])  : Calls Tryd.prog 132 #[.agg (List.toArray (α := Value) ([U64 e] ++ cu8 d ++ cu8 t)), Ptr ob 0] w (Post w [] (fun v L => v = .bool (oddB (headE ls) e) ∧ L = [])) := by
 have hmx : maxLen = 9223372036854775807 := rfl
 refine enter (P := Tryd.prog) (f := 132) (fn := Tryd.f132) w [] 18 [] [.agg (List.toArray (α := Value) ([U64 e] ++ cu8 d ++ cu8 t)), Ptr ob 0] Tryd.func132 rfl rfl (by simp) (B7 (by simp) (by simp) (by simp)) ?_
 show JC _ _ _ [(0, .agg (List.toArray (α := Value) ([U64 e] ++ cu8 d ++ cu8 t))), (1, Ptr ob 0)] _
 refine AL (AE (AR (CN (.agg (List.toArray (α := Value) ([U64 e] ++ cu8 d ++ cu8 t))) ([U64 e] ++ cu8 d ++ cu8 t) rfl (by first | rfl | simp)) rfl ?_))
 rintro v1 L1 ⟨nb1, hnb1, rfl, rfl⟩
 show JL _ _ _ _ ((2, Ptr nb1 0) :: _) [⟨nb1, [U64 e] ++ cu8 d ++ cu8 t, 161, (0, 0)⟩]
 refine AA _ (AH rfl) rfl ?_
 refine AN (AF (AL ?_))
 rcases Bool.eq_false_or_eq_true (RightB (0:UInt64) e) with hb1 | hb1
 ·
  refine CQ 18 2 [(0, Ptr nb1 0), (1, U64 e)] BQ rfl (by decide +kernel) ?_
  refine BR ⟨[], [0, 1], [], [0, 1], [2]⟩ 2 _ rfl rfl (by decide +kernel) rfl ⟨⟨_, rfl, AB rfl (AC 0 22 1 D8 rfl AT rfl rfl)⟩, ⟨_, rfl, AB rfl (AK rfl (AV AU (MemAt.ent 0 rfl (A2 (A2 (Seg.head))))))⟩, trivial⟩ rfl (AZ rfl (A3 133 [U64 (0:UInt64), U64 e] (.bool (RightB (0:UInt64) e)) (A0 [U64 (0:UInt64), U64 e] Tryd.call133 rfl) (fun w1 hw1 => right_c (0:UInt64) e w1 ))) ?_
  rintro v1 L1 ⟨rfl, rfl⟩
  obtain ⟨x1, hx1⟩ : ∃ x, ls[0]? = some x := ⟨_, List.getElem?_eq_getElem (by rw [hls]; omega)⟩
  obtain ⟨bz1, oz1, hz1, hm1⟩ := F6 E2 (by decide) hs hx1
  refine ⟨[(3, .bool (!(RightB (0:UInt64) e))), (4, .bool (!(RightB (0:UInt64) e))), (5, Ptr nb1 0), (6, U64 e), (7, Ptr ob 2), (8, .slice sa ns sc), (9, Ptr bz1 oz1), (10, Ptr bz1 oz1), (11, U64 x1.e), (12, .bool (decide (e ≠ x1.e))), (13, .bool (decide (e ≠ x1.e))), (14, .bool (decide (e ≠ x1.e)))], ?_⟩
  show DP _ _ _ _ _ _ _ _ [_]
  refine CZ ⟨[2], [0, 1, 3, 4, 5, 6, 7, 8, 9, 10, 11, 12, 13, 14], [0, 1], [3, 4, 5, 6, 7, 8, 9, 10, 11, 12, 13, 14], []⟩ rfl rfl (by decide +kernel) rfl ⟨⟨_, rfl, AB rfl (FK rfl)⟩, ⟨_, rfl, AB rfl (AD rfl)⟩, ⟨_, rfl, BS 4 8 false _ rfl rfl rfl (by rw [show (RightB (0:UInt64) e) = true from hb1] <;> rfl) (AC 0 22 1 D8 rfl AT rfl rfl)⟩, ⟨_, rfl, BS 4 8 false _ rfl rfl rfl (by rw [show (RightB (0:UInt64) e) = true from hb1] <;> rfl) (AK rfl (AV AU (MemAt.ent 0 rfl (A2 (A2 (Seg.head))))))⟩, ⟨_, rfl, BS 4 8 false _ rfl rfl rfl (by rw [show (RightB (0:UInt64) e) = true from hb1] <;> rfl) (AC 2 24 1 AG rfl B3 rfl rfl)⟩, ⟨_, rfl, BS 4 8 false _ rfl rfl rfl (by rw [show (RightB (0:UInt64) e) = true from hb1] <;> rfl) (AK rfl (AV B6 (CU (hO.mem (by simp)) (AJ (AJ (Seg.head))) (by omega))))⟩, ⟨_, rfl, BS 4 8 false _ rfl rfl rfl (by rw [show (RightB (0:UInt64) e) = true from hb1] <;> rfl) (CW 161 49 oz1 CJ DJ rfl hz1 rfl (by omega) (by omega) (by omega))⟩, ⟨_, rfl, BS 4 8 false _ rfl rfl rfl (by rw [show (RightB (0:UInt64) e) = true from hb1] <;> rfl) (AC 0 22 1 D8 rfl AT rfl rfl)⟩, ⟨_, rfl, BS 4 8 false _ rfl rfl rfl (by rw [show (RightB (0:UInt64) e) = true from hb1] <;> rfl) (AK rfl (AV AU (CU (hm1.mem (by simp)) (A2 (A2 (Seg.head))) (by omega))))⟩, ⟨_, rfl, BS 4 8 false _ rfl rfl rfl (by rw [show (RightB (0:UInt64) e) = true from hb1] <;> rfl) (AQ rfl rfl fun _ => EP e x1.e)⟩, ⟨_, rfl, AB rfl (BM _ rfl (by rw [show (RightB (0:UInt64) e) = true from hb1] <;> rfl) rfl)⟩, ⟨_, rfl, AB rfl (AH rfl)⟩, trivial⟩ ?_
  refine CC (F' := [(3, .bool (decide (e ≠ x1.e)))]) (by kernel_rfl) ?_
  refine AF (BO (BP (.bool (decide (e ≠ x1.e))) (res1 Tryd.results132 (BT rfl)) fun w1 hw1 => ?_))
  refine ⟨_, [], rfl, ⟨congrArg Value.bool ?_, rfl⟩, hw1.sub (by simp) (by simp)⟩
  first | (simp [oddB, *]; done) | (rw [FY hx1]; simp [oddB, *]; done)
 ·
  refine CQ 18 2 [(0, Ptr nb1 0), (1, U64 e)] BQ rfl (by decide +kernel) ?_
  refine BR ⟨[], [0, 1], [], [0, 1], [2]⟩ 2 _ rfl rfl (by decide +kernel) rfl ⟨⟨_, rfl, AB rfl (AC 0 22 1 D8 rfl AT rfl rfl)⟩, ⟨_, rfl, AB rfl (AK rfl (AV AU (MemAt.ent 0 rfl (A2 (A2 (Seg.head))))))⟩, trivial⟩ rfl (AZ rfl (A3 133 [U64 (0:UInt64), U64 e] (.bool (RightB (0:UInt64) e)) (A0 [U64 (0:UInt64), U64 e] Tryd.call133 rfl) (fun w1 hw1 => right_c (0:UInt64) e w1 ))) ?_
  rintro v1 L1 ⟨rfl, rfl⟩
  refine ⟨[(3, .bool (!(RightB (0:UInt64) e))), (4, .bool (!(RightB (0:UInt64) e))), (5, undef), (6, undef), (7, undef), (8, undef), (9, undef), (10, undef), (11, undef), (12, undef), (13, .bool true), (14, .bool true)], ?_⟩
  show DP _ _ _ _ _ _ _ _ [_]
  refine CZ ⟨[2], [0, 1, 3, 4, 5, 6, 7, 8, 9, 10, 11, 12, 13, 14], [0, 1], [3, 4, 5, 6, 7, 8, 9, 10, 11, 12, 13, 14], []⟩ rfl rfl (by decide +kernel) rfl ⟨⟨_, rfl, AB rfl (FK rfl)⟩, ⟨_, rfl, AB rfl (AD rfl)⟩, ⟨_, rfl, CH 4 8 false _ rfl rfl rfl (by rw [show (RightB (0:UInt64) e) = false from hb1] <;> rfl)⟩, ⟨_, rfl, CH 4 8 false _ rfl rfl rfl (by rw [show (RightB (0:UInt64) e) = false from hb1] <;> rfl)⟩, ⟨_, rfl, CH 4 8 false _ rfl rfl rfl (by rw [show (RightB (0:UInt64) e) = false from hb1] <;> rfl)⟩, ⟨_, rfl, CH 4 8 false _ rfl rfl rfl (by rw [show (RightB (0:UInt64) e) = false from hb1] <;> rfl)⟩, ⟨_, rfl, CH 4 8 false _ rfl rfl rfl (by rw [show (RightB (0:UInt64) e) = false from hb1] <;> rfl)⟩, ⟨_, rfl, CH 4 8 false _ rfl rfl rfl (by rw [show (RightB (0:UInt64) e) = false from hb1] <;> rfl)⟩, ⟨_, rfl, CH 4 8 false _ rfl rfl rfl (by rw [show (RightB (0:UInt64) e) = false from hb1] <;> rfl)⟩, ⟨_, rfl, CH 4 8 false _ rfl rfl rfl (by rw [show (RightB (0:UInt64) e) = false from hb1] <;> rfl)⟩, ⟨_, rfl, AB rfl (B0 _ rfl (by rw [show (RightB (0:UInt64) e) = false from hb1] <;> rfl) rfl)⟩, ⟨_, rfl, AB rfl (AH rfl)⟩, trivial⟩ ?_
  refine CC (F' := [(3, .bool true)]) (by kernel_rfl) ?_
  refine AF (BO (BP (.bool true) (res1 Tryd.results132 (BT rfl)) fun w1 hw1 => ?_))
  refine ⟨_, [], rfl, ⟨congrArg Value.bool ?_, rfl⟩, hw1.sub (by simp) (by simp)⟩
  first | (simp [oddB, *]; done) | (rw [FY hx1]; simp [oddB, *]; done)
theorem ixOdd_c (ob : Nat) (kd : Int) (ai : Option Addr) (ni ci : Nat) (l : List UInt64) (sa : Option Addr) (ns sc : Nat) (ls : List SealR) (bl : UInt64)  (w : World) (hls : ls.length = ns) (hnn : ns ≤ 2000000) (hnd : ns ≤ sc) (hcn : sc ≤ maxLen) (hs : RdV w sa (ls.flatMap sealC)) (hO : RdA w ob 0 [I64 (kd), .slice ai ni ci, .slice sa ns sc, U64 bl])  : Calls Tryd.prog 158 #[.slice sa ns sc, .func (.func 132) #[] #[Ptr ob 0]] w (Post w [] (fun v L => v = I64 (findIx (fun x => oddB (headE ls) (SealR.e x)) ls) ∧ L = [])) := by
 have hmx : maxLen = 9223372036854775807 := rfl
 refine enter w [] 19 [] [.slice sa ns sc, .func (.func 132) #[] #[Ptr ob 0]] Tryd.func158 rfl rfl (by simp) (B7 (by simp) (by simp) (by simp)) ?_
 show JC _ _ _ [(0, .slice sa ns sc), (1, .func (.func 132) #[] #[Ptr ob 0])] _
 refine AL (AE (AA _ (AH rfl) rfl ?_))
 refine AN (AF (AL (AL (AE (AA _ (AD rfl) rfl ?_)))))
 refine AA (I64 ((ns:Int))) (D4 CJ rfl) rfl ?_
 refine AA _ (AD rfl) rfl ?_
 refine AN (AF (B5 (EE (ι := Nat) (fun i => [(0, .slice sa ns sc), (1, .func (.func 132) #[] #[Ptr ob 0]), (7, I64 ((ns:Int))), (8, I64 ((i:Int)))]) (fun i => []) (fun i => i ≤ ns ∧ ∀ k, k < i → ∀ y, ls[k]? = some y → (fun x => oddB (headE ls) (SealR.e x)) y = false) (fun i => ns - i) 0 ⟨by omega, fun k hk => absurd hk (by omega)⟩ (Sub.cons rfl (Sub.cons rfl (Sub.cons rfl (Sub.cons rfl (Sub.nil))))) rfl ?_)))
 rintro i ⟨hi1, hi2⟩
 show JC _ _ _ [(0, .slice sa ns sc), (1, .func (.func 132) #[] #[Ptr ob 0]), (7, I64 ((ns:Int))), (8, I64 ((i:Int)))] []
 refine AL (AE (AA (.bool (decide (((i:Int)) < ((ns:Int))))) (AQ rfl rfl fun _ => DB _ _) rfl ?_))
 refine AN (AF (AL (CT (decide (((i:Int)) < ((ns:Int)))) rfl (fun hb1 => ?_) (fun hb1 => ?_))))
 ·
  have hp1 : ((i:Int)) < ((ns:Int)) := of_decide_eq_true hb1
  refine B4 (AF (AL (B5 (AL (AE (AA _ (AD rfl) rfl ?_))))))
  refine AA _ (AH rfl) rfl ?_
  refine AN (AF (AL (AE (AA _ (AD rfl) rfl ?_))))
  refine AA _ (AD rfl) rfl ?_
  refine AA _ (AD rfl) rfl ?_
  obtain ⟨x1, hx1⟩ : ∃ x, ls[i]? = some x := ⟨_, List.getElem?_eq_getElem (by rw [hls]; omega)⟩
  obtain ⟨bz1, oz1, hz1, hm1⟩ := F6 E2 (by decide) hs hx1
  refine AA (Ptr bz1 (49*i + oz1)) (CW 161 49 (49*i + oz1) CJ DJ rfl hz1 rfl (by omega) (by omega) (by omega)) rfl ?_
  refine AA (.agg (List.toArray (α := Value) ([U64 x1.e] ++ cu8 x1.d ++ cu8 x1.t))) (AK rfl (BH Tryd.isAgg161 DJ (by simp [x1.hd, x1.ht]) (CU (hm1.mem (by simp)) (AM _) (by omega)))) rfl ?_
  refine AR (A3 132 [.agg (List.toArray (α := Value) ([U64 x1.e] ++ cu8 x1.d ++ cu8 x1.t)), Ptr ob 0] (.bool (oddB (headE ls) x1.e)) (Cl_clo [.agg (List.toArray (α := Value) ([U64 x1.e] ++ cu8 x1.d ++ cu8 x1.t))] [Ptr ob 0] Tryd.call132 rfl rfl) (fun w1 hw1 => odd_c ob kd ai ni ci l sa ns sc ls bl x1.e x1.d x1.t w1 x1.hd x1.ht (by omega) hls hnn hnd hcn (C1 hw1 rfl hs) (RdA_at hw1 hO (by simp) (by simp)))) rfl ?_
  rintro v1 L1 ⟨rfl, rfl⟩
  show JL _ _ _ _ ((16, .bool (oddB (headE ls) x1.e)) :: _) []
  refine AN (AF (CT (oddB (headE ls) x1.e) rfl (fun hb2 => ?_) (fun hb2 => ?_)))
  ·
   refine AL (AE (AA _ (AD rfl) rfl ?_))
   refine AA _ (AH rfl) rfl ?_
   refine AN (AF (BO (C8 (A5 (A5 (C8 (A5 (BP (I64 ((i:Int))) (res1 Tryd.results158 (BT rfl)) fun w1 hw1 => ?_))))))))
   have e1 : findIx (fun x => oddB (headE ls) (SealR.e x)) ls = i := findIx_at hx1 (by assumption) hi2
   exact ⟨_, [], rfl, ⟨by rw [e1], rfl⟩, hw1.sub (by simp) (by simp)⟩
  ·
   refine B4 (B1 (AF (AE (AA (I64 ((i:Int) + 1)) (AQ rfl rfl fun _ => DI _ _ ((i:Int) + 1) (by omega) (by omega)) rfl ?_))))
   refine AA _ (AD rfl) rfl ?_
   refine AN (DF (EN (i + 1) ⟨by omega, find_step hx1 (by assumption) hi2⟩ (by first | (simp; omega) | simp | (dsimp only; omega) | omega) (Sub.cons rfl (Sub.cons rfl (Sub.cons rfl (Sub.cons rfl (Sub.nil))))) rfl))
 ·
  have hp1 : ¬ (((i:Int)) < ((ns:Int))) := of_decide_eq_false hb1
  refine EB (BD (BD (CV (AF (AL (AE (AA _ (AH rfl) rfl ?_)))))))
  refine AN (AF (BO (BP (I64 (-1:Int)) (res1 Tryd.results158 (BT rfl)) fun w1 hw1 => ?_)))
  have e1 : findIx (fun x => oddB (headE ls) (SealR.e x)) ls = -1 := findIx_no (by rw [hls]; intro k hk; exact hi2 k (by omega))
  exact ⟨_, [], rfl, ⟨by rw [e1], rfl⟩, hw1.sub (by simp) (by simp)⟩
theorem cfOdd_c (ob : Nat) (kd : Int) (ai : Option Addr) (ni ci : Nat) (l : List UInt64) (sa : Option Addr) (ns sc : Nat) (ls : List SealR) (bl : UInt64)  (w : World) (hls : ls.length = ns) (hnn : ns ≤ 2000000) (hnd : ns ≤ sc) (hcn : sc ≤ maxLen) (hs : RdV w sa (ls.flatMap sealC)) (hO : RdA w ob 0 [I64 (kd), .slice ai ni ci, .slice sa ns sc, U64 bl])  : Calls Tryd.prog 134 #[.slice sa ns sc, .func (.func 132) #[] #[Ptr ob 0]] w (Post w [] (fun v L => v = .bool (ls.any (fun x => oddB (headE ls) (SealR.e x))) ∧ L = [])) := by
 refine enter w [] 9 [] [.slice sa ns sc, .func (.func 132) #[] #[Ptr ob 0]] Tryd.func134 rfl rfl (by simp) (B7 (by simp) (by simp) (by simp)) ?_
 show JC _ _ _ [(0, .slice sa ns sc), (1, .func (.func 132) #[] #[Ptr ob 0])] _
 refine AL (AE (AA _ (AH rfl) rfl ?_))
 refine AN (AF (AL (AE (AA _ (AD rfl) rfl ?_))))
 refine AA _ (AD rfl) rfl ?_
 refine AR (A3 158 [.slice sa ns sc, .func (.func 132) #[] #[Ptr ob 0]] (I64 ((findIx (fun x => oddB (headE ls) (SealR.e x)) ls))) (A0 [.slice sa ns sc, .func (.func 132) #[] #[Ptr ob 0]] Tryd.call158 rfl) (fun w1 hw1 => ixOdd_c ob kd ai ni ci l sa ns sc ls bl w1 hls hnn hnd hcn (C1 hw1 rfl hs) (RdA_at hw1 hO (by simp) (by simp)))) rfl ?_
 rintro v1 L1 ⟨rfl, rfl⟩
 show JL _ _ _ _ ((7, I64 ((findIx (fun x => oddB (headE ls) (SealR.e x)) ls))) :: _) []
 refine AA (.bool (decide ((0:Int) ≤ ((findIx (fun x => oddB (headE ls) (SealR.e x)) ls))))) (AQ rfl rfl fun _ => FW _ _) rfl ?_
 refine AA _ (AH rfl) rfl ?_
 refine AN (AF (BO (BP (.bool (decide ((0:Int) ≤ ((findIx (fun x => oddB (headE ls) (SealR.e x)) ls))))) (res1 Tryd.results134 (BT rfl)) fun w1 hw1 => ?_)))
 exact ⟨_, [], rfl, ⟨congrArg Value.bool (findIx_ge _ _), rfl⟩, hw1.sub (by simp) (by simp)⟩
end Go.Proofs.YtkdpdgpphpngeaaDoor
namespace Go.Proofs.YtkdpdgpphpngeaaDoor
open Go Go.Sx
set_option linter.unusedVariables false
set_option linter.unusedSimpArgs false
set_option maxRecDepth 100000
attribute [local irreducible] mid zr8 zr32 numK rnK rotr wordL spreadL comprL cpN adN spN wrdN constL initL padL stN outN routN sumG putL RightB oddB
theorem right13_c (kd : Int) (ai : Option Addr) (ni ci : Nat) (l : List UInt64) (sa : Option Addr) (ns sc : Nat) (ls : List SealR) (bl : UInt64)  (w : World) (hl : l.length = ni) (hnm : ni ≤ 2000000) (hnc : ni ≤ ci) (hcm : ci ≤ maxLen) (hv : RdV w ai (cu64 l)) (hls : ls.length = ns) (hnn : ns ≤ 2000000) (hnd : ns ≤ sc) (hcn : sc ≤ maxLen) (hs : RdV w sa (ls.flatMap sealC))  : Calls Tryd.prog 69 #[.agg (List.toArray (α := Value) ([I64 (kd), .slice ai ni ci, .slice sa ns sc, U64 bl]))] w (Post w [] (fun v L => v = .bool (RightO kd l ls bl) ∧ L = [])) := by
 have hmx : maxLen = 9223372036854775807 := rfl
 refine enter (P := Tryd.prog) (f := 69) (fn := Tryd.f69) w [] 69 [] [.agg (List.toArray (α := Value) ([I64 (kd), .slice ai ni ci, .slice sa ns sc, U64 bl]))] Tryd.func69 rfl rfl (by simp) (B7 (by simp) (by simp) (by simp)) ?_
 show JC _ _ _ [(0, .agg (List.toArray (α := Value) ([I64 (kd), .slice ai ni ci, .slice sa ns sc, U64 bl])))] _
 refine AL (AE (AR (CN (.agg (List.toArray (α := Value) ([I64 (kd), .slice ai ni ci, .slice sa ns sc, U64 bl]))) ([I64 (kd), .slice ai ni ci, .slice sa ns sc, U64 bl]) rfl (by first | rfl | simp)) rfl ?_))
 rintro v1 L1 ⟨nb1, hnb1, rfl, rfl⟩
 show JL _ _ _ _ ((1, Ptr nb1 0) :: _) [⟨nb1, [I64 (kd), .slice ai ni ci, .slice sa ns sc, U64 bl], 26, (0, 0)⟩]
 refine AA _ (AH rfl) rfl ?_
 refine AN (AF (AL (AE (AA (.func (.func 132) #[] #[Ptr nb1 0]) (Ev_makeFunc (vs := [Ptr nb1 0]) rfl (fun _ _ => rfl)) rfl ?_))))
 refine AA _ (AH rfl) rfl ?_
 refine AN (AF (AL (AL (AE (AA (Ptr nb1 0) (AC 0 3 1 AG rfl A7 rfl rfl) rfl ?_)))))
 refine AA (I64 (kd)) (AK rfl (AV BA (MemAt.ent 0 rfl (Seg.head)))) rfl ?_
 refine AN (AF (B5 (AL (AE (AA (.bool (decide ((kd) = (1:Int)))) (AQ rfl rfl fun _ => DD _ _) rfl ?_)))))
 refine AA _ (AH rfl) rfl ?_
 refine AN (AF (CT (decide ((kd) = (1:Int))) rfl (fun hb1 => ?_) (fun hb1 => ?_)))
 ·
  have hp1 : (kd) = (1:Int) := of_decide_eq_true hb1
  refine AL (AE (AA (Ptr nb1 3) (AC 3 22 1 AG rfl AT rfl rfl) rfl ?_))
  refine AA (U64 bl) (AK rfl (AV AU (MemAt.ent 0 rfl (AJ (AJ (AJ (Seg.head))))))) rfl ?_
  refine AA (.bool (decide (bl = (0:UInt64)))) (AQ rfl rfl fun _ => FX bl (0:UInt64)) rfl ?_
  refine AA _ (AD rfl) rfl ?_
  rcases Bool.eq_false_or_eq_true (decide (bl = (0:UInt64))) with hb2 | hb2
  ·
   have hp2 : bl = (0:UInt64) := of_decide_eq_true hb2
   refine AY 3 12 true _ (Ptr nb1 1) rfl rfl hb2 (AC 1 23 1 AG rfl CE rfl rfl) rfl ?_
   refine AY 3 12 true _ (.slice ai ni ci) rfl rfl hb2 (AK rfl (AV CL (MemAt.ent 0 rfl (AJ (Seg.head))))) rfl ?_
   refine FL 3 12 true _ rfl rfl hb2 (A3 85 [I64 (32:Int), .slice ai ni ci] (.bool (decide (RightI l))) (A0 [I64 (32:Int), .slice ai ni ci] Tryd.call85 rfl) (fun w1 hw1 => pright_c ai ni ci l w1 hl (by omega) (by omega) (by omega) (C1 hw1 rfl hv))) rfl ?_
   rintro v1 L1 ⟨rfl, rfl⟩
   show JL _ _ _ _ ((15, .bool (decide (RightI l))) :: _) [_]
   refine AA _ (B0 _ rfl hb2 rfl) rfl ?_
   refine AA _ (AD rfl) rfl ?_
   rcases Bool.eq_false_or_eq_true (decide (RightI l)) with hb3 | hb3
   ·
    have hp3 : RightI l := of_decide_eq_true hb3
    refine AY 8 17 true _ (Ptr nb1 2) rfl rfl hb3 (AC 2 24 1 AG rfl B3 rfl rfl) rfl ?_
    refine AY 8 17 true _ (.slice sa ns sc) rfl rfl hb3 (AK rfl (AV B6 (MemAt.ent 0 rfl (AJ (AJ (Seg.head)))))) rfl ?_
    refine AY 8 17 true _ (I64 ((ns:Int))) rfl rfl hb3 (D4 CJ rfl) rfl ?_
    refine AY 8 17 true _ (Ptr nb1 1) rfl rfl hb3 (AC 1 23 1 AG rfl CE rfl rfl) rfl ?_
    refine AY 8 17 true _ (.slice ai ni ci) rfl rfl hb3 (AK rfl (AV CL (MemAt.ent 0 rfl (AJ (Seg.head))))) rfl ?_
    refine AY 8 17 true _ (I64 ((ni:Int))) rfl rfl hb3 (D4 BU rfl) rfl ?_
    refine AY 8 17 true _ (.bool (decide (((ns:Int)) = ((ni:Int))))) rfl rfl hb3 (AQ rfl rfl fun _ => DD _ _) rfl ?_
    refine AA _ (B0 _ rfl hb3 rfl) rfl ?_
    refine AA _ (AD rfl) rfl ?_
    rcases Bool.eq_false_or_eq_true (decide (((ns:Int)) = ((ni:Int)))) with hb4 | hb4
    ·
     have hp4 : ((ns:Int)) = ((ni:Int)) := of_decide_eq_true hb4
     refine AY 17 26 true _ (Ptr nb1 2) rfl rfl hb4 (AC 2 24 1 AG rfl B3 rfl rfl) rfl ?_
     refine AY 17 26 true _ (.slice sa ns sc) rfl rfl hb4 (AK rfl (AV B6 (MemAt.ent 0 rfl (AJ (AJ (Seg.head)))))) rfl ?_
     refine AY 17 26 true _ _ rfl rfl hb4 (AD rfl) rfl ?_
     refine FL 17 26 true _ rfl rfl hb4 (A3 134 [.slice sa ns sc, .func (.func 132) #[] #[Ptr nb1 0]] (.bool (ls.any (fun x => oddB (headE ls) (SealR.e x)))) (A0 [.slice sa ns sc, .func (.func 132) #[] #[Ptr nb1 0]] Tryd.call134 rfl) (fun w1 hw1 => cfOdd_c nb1 (kd) ai ni ci l sa ns sc ls bl w1 hls (by omega) (by omega) (by omega) (C1 hw1 rfl hs) (RdA.of hw1 (MemAt.ent 0 rfl (AM _)) (by simp)))) rfl ?_
     rintro v1 L1 ⟨rfl, rfl⟩
     show JL _ _ _ _ ((30, .bool (ls.any (fun x => oddB (headE ls) (SealR.e x)))) :: _) [_]
     refine AY 17 26 true _ (.bool (!(ls.any (fun x => oddB (headE ls) (SealR.e x))))) rfl rfl hb4 (FK rfl) rfl ?_
     refine AA _ (B0 _ rfl hb4 rfl) rfl ?_
     refine AA _ (AH rfl) rfl ?_
     refine AN (AF (BO (C8 (A5 (B8 [false] ?_)))))
     show JQ _ _ _ _ []
     refine BP (.bool (!(ls.any (fun x => oddB (headE ls) (SealR.e x))))) (res1 EX (BT rfl)) fun w1 hw1 => ?_
     refine ⟨_, [], rfl, ⟨congrArg Value.bool ?_, rfl⟩, hw1.sub (by simp) (by simp)⟩
     unfold RightO
     rw [hl, hls]
     first | (simp [*]; done) | (simp [*]; omega)
    ·
     have hp4 : ¬ (((ns:Int)) = ((ni:Int))) := of_decide_eq_false hb4
     refine AI 17 26 true _ rfl rfl hb4 rfl ?_
     refine AI 17 26 true _ rfl rfl hb4 rfl ?_
     refine AI 17 26 true _ rfl rfl hb4 rfl ?_
     refine AI 17 26 true _ rfl rfl hb4 rfl ?_
     refine AI 17 26 true _ rfl rfl hb4 rfl ?_
     refine AA _ (BM _ rfl hb4 rfl) rfl ?_
     refine AA _ (AH rfl) rfl ?_
     refine AN (AF (BO (C8 (A5 (B8 [false] ?_)))))
     show JQ _ _ _ _ []
     refine BP (.bool false) (res1 EX (BT rfl)) fun w1 hw1 => ?_
     refine ⟨_, [], rfl, ⟨congrArg Value.bool ?_, rfl⟩, hw1.sub (by simp) (by simp)⟩
     unfold RightO
     rw [hl, hls]
     first | (simp [*]; done) | (simp [*]; omega)
   ·
    have hp3 : ¬ (RightI l) := of_decide_eq_false hb3
    refine AI 8 17 true _ rfl rfl hb3 rfl ?_
    refine AI 8 17 true _ rfl rfl hb3 rfl ?_
    refine AI 8 17 true _ rfl rfl hb3 rfl ?_
    refine AI 8 17 true _ rfl rfl hb3 rfl ?_
    refine AI 8 17 true _ rfl rfl hb3 rfl ?_
    refine AI 8 17 true _ rfl rfl hb3 rfl ?_
    refine AI 8 17 true _ rfl rfl hb3 rfl ?_
    refine AA _ (BM _ rfl hb3 rfl) rfl ?_
    refine AA _ (AD rfl) rfl ?_
    refine AI 17 26 true _ rfl rfl rfl rfl ?_
    refine AI 17 26 true _ rfl rfl rfl rfl ?_
    refine AI 17 26 true _ rfl rfl rfl rfl ?_
    refine AI 17 26 true _ rfl rfl rfl rfl ?_
    refine AI 17 26 true _ rfl rfl rfl rfl ?_
    refine AA _ (BM _ rfl rfl rfl) rfl ?_
    refine AA _ (AH rfl) rfl ?_
    refine AN (AF (BO (C8 (A5 (B8 [false] ?_)))))
    show JQ _ _ _ _ []
    refine BP (.bool false) (res1 EX (BT rfl)) fun w1 hw1 => ?_
    refine ⟨_, [], rfl, ⟨congrArg Value.bool ?_, rfl⟩, hw1.sub (by simp) (by simp)⟩
    unfold RightO
    rw [hl, hls]
    first | (simp [*]; done) | (simp [*]; omega)
  ·
   have hp2 : ¬ (bl = (0:UInt64)) := of_decide_eq_false hb2
   refine AI 3 12 true _ rfl rfl hb2 rfl ?_
   refine AI 3 12 true _ rfl rfl hb2 rfl ?_
   refine AI 3 12 true _ rfl rfl hb2 rfl ?_
   refine AA _ (BM _ rfl hb2 rfl) rfl ?_
   refine AA _ (AD rfl) rfl ?_
   refine AI 8 17 true _ rfl rfl rfl rfl ?_
   refine AI 8 17 true _ rfl rfl rfl rfl ?_
   refine AI 8 17 true _ rfl rfl rfl rfl ?_
   refine AI 8 17 true _ rfl rfl rfl rfl ?_
   refine AI 8 17 true _ rfl rfl rfl rfl ?_
   refine AI 8 17 true _ rfl rfl rfl rfl ?_
   refine AI 8 17 true _ rfl rfl rfl rfl ?_
   refine AA _ (BM _ rfl rfl rfl) rfl ?_
   refine AA _ (AD rfl) rfl ?_
   refine AI 17 26 true _ rfl rfl rfl rfl ?_
   refine AI 17 26 true _ rfl rfl rfl rfl ?_
   refine AI 17 26 true _ rfl rfl rfl rfl ?_
   refine AI 17 26 true _ rfl rfl rfl rfl ?_
   refine AI 17 26 true _ rfl rfl rfl rfl ?_
   refine AA _ (BM _ rfl rfl rfl) rfl ?_
   refine AA _ (AH rfl) rfl ?_
   refine AN (AF (BO (C8 (A5 (B8 [false] ?_)))))
   show JQ _ _ _ _ []
   refine BP (.bool false) (res1 EX (BT rfl)) fun w1 hw1 => ?_
   refine ⟨_, [], rfl, ⟨congrArg Value.bool ?_, rfl⟩, hw1.sub (by simp) (by simp)⟩
   unfold RightO
   rw [hl, hls]
   first | (simp [*]; done) | (simp [*]; omega)
 ·
  have hp1 : ¬ ((kd) = (1:Int)) := of_decide_eq_false hb1
  refine AL (AE (AA (.bool (decide ((kd) = (2:Int)))) (AQ rfl rfl fun _ => DD _ _) rfl ?_))
  refine AA _ (AH rfl) rfl ?_
  refine AN (AF (CT (decide ((kd) = (2:Int))) rfl (fun hb5 => ?_) (fun hb5 => ?_)))
  ·
   have hp5 : (kd) = (2:Int) := of_decide_eq_true hb5
   refine AL (AE (AA (Ptr nb1 3) (AC 3 22 1 AG rfl AT rfl rfl) rfl ?_))
   refine AA (U64 bl) (AK rfl (AV AU (MemAt.ent 0 rfl (AJ (AJ (AJ (Seg.head))))))) rfl ?_
   refine AA (.bool (decide (bl = (0:UInt64)))) (AQ rfl rfl fun _ => FX bl (0:UInt64)) rfl ?_
   refine AA _ (AD rfl) rfl ?_
   rcases Bool.eq_false_or_eq_true (decide (bl = (0:UInt64))) with hb6 | hb6
   ·
    have hp6 : bl = (0:UInt64) := of_decide_eq_true hb6
    refine AY 3 38 true _ (Ptr nb1 1) rfl rfl hb6 (AC 1 23 1 AG rfl CE rfl rfl) rfl ?_
    refine AY 3 38 true _ (.slice ai ni ci) rfl rfl hb6 (AK rfl (AV CL (MemAt.ent 0 rfl (AJ (Seg.head))))) rfl ?_
    refine FL 3 38 true _ rfl rfl hb6 (A3 85 [I64 (32:Int), .slice ai ni ci] (.bool (decide (RightI l))) (A0 [I64 (32:Int), .slice ai ni ci] Tryd.call85 rfl) (fun w1 hw1 => pright_c ai ni ci l w1 hl (by omega) (by omega) (by omega) (C1 hw1 rfl hv))) rfl ?_
    rintro v1 L1 ⟨rfl, rfl⟩
    show JL _ _ _ _ ((41, .bool (decide (RightI l))) :: _) [_]
    refine AA _ (B0 _ rfl hb6 rfl) rfl ?_
    refine AA _ (AD rfl) rfl ?_
    rcases Bool.eq_false_or_eq_true (decide (RightI l)) with hb7 | hb7
    ·
     have hp7 : RightI l := of_decide_eq_true hb7
     refine AY 8 43 true _ (Ptr nb1 2) rfl rfl hb7 (AC 2 24 1 AG rfl B3 rfl rfl) rfl ?_
     refine AY 8 43 true _ (.slice sa ns sc) rfl rfl hb7 (AK rfl (AV B6 (MemAt.ent 0 rfl (AJ (AJ (Seg.head)))))) rfl ?_
     refine AY 8 43 true _ (I64 ((ns:Int))) rfl rfl hb7 (D4 CJ rfl) rfl ?_
     refine AY 8 43 true _ (.bool (decide (((ns:Int)) = (0:Int)))) rfl rfl hb7 (AQ rfl rfl fun _ => DD _ _) rfl ?_
     refine AA _ (B0 _ rfl hb7 rfl) rfl ?_
     refine AA _ (AH rfl) rfl ?_
     refine AN (AF (BO (C8 (A5 (B8 [false] ?_)))))
     show JQ _ _ _ _ []
     refine BP (.bool (decide (((ns:Int)) = (0:Int)))) (res1 EX (BT rfl)) fun w1 hw1 => ?_
     refine ⟨_, [], rfl, ⟨congrArg Value.bool ?_, rfl⟩, hw1.sub (by simp) (by simp)⟩
     unfold RightO
     rw [hl, hls]
     first | (simp [*]; done) | (simp [*]; omega)
    ·
     have hp7 : ¬ (RightI l) := of_decide_eq_false hb7
     refine AI 8 43 true _ rfl rfl hb7 rfl ?_
     refine AI 8 43 true _ rfl rfl hb7 rfl ?_
     refine AI 8 43 true _ rfl rfl hb7 rfl ?_
     refine AI 8 43 true _ rfl rfl hb7 rfl ?_
     refine AA _ (BM _ rfl hb7 rfl) rfl ?_
     refine AA _ (AH rfl) rfl ?_
     refine AN (AF (BO (C8 (A5 (B8 [false] ?_)))))
     show JQ _ _ _ _ []
     refine BP (.bool false) (res1 EX (BT rfl)) fun w1 hw1 => ?_
     refine ⟨_, [], rfl, ⟨congrArg Value.bool ?_, rfl⟩, hw1.sub (by simp) (by simp)⟩
     unfold RightO
     rw [hl, hls]
     first | (simp [*]; done) | (simp [*]; omega)
   ·
    have hp6 : ¬ (bl = (0:UInt64)) := of_decide_eq_false hb6
    refine AI 3 38 true _ rfl rfl hb6 rfl ?_
    refine AI 3 38 true _ rfl rfl hb6 rfl ?_
    refine AI 3 38 true _ rfl rfl hb6 rfl ?_
    refine AA _ (BM _ rfl hb6 rfl) rfl ?_
    refine AA _ (AD rfl) rfl ?_
    refine AI 8 43 true _ rfl rfl rfl rfl ?_
    refine AI 8 43 true _ rfl rfl rfl rfl ?_
    refine AI 8 43 true _ rfl rfl rfl rfl ?_
    refine AI 8 43 true _ rfl rfl rfl rfl ?_
    refine AA _ (BM _ rfl rfl rfl) rfl ?_
    refine AA _ (AH rfl) rfl ?_
    refine AN (AF (BO (C8 (A5 (B8 [false] ?_)))))
    show JQ _ _ _ _ []
    refine BP (.bool false) (res1 EX (BT rfl)) fun w1 hw1 => ?_
    refine ⟨_, [], rfl, ⟨congrArg Value.bool ?_, rfl⟩, hw1.sub (by simp) (by simp)⟩
    unfold RightO
    rw [hl, hls]
    first | (simp [*]; done) | (simp [*]; omega)
  ·
   have hp5 : ¬ ((kd) = (2:Int)) := of_decide_eq_false hb5
   refine AL (AE (AA (.bool (decide ((kd) = (3:Int)))) (AQ rfl rfl fun _ => DD _ _) rfl ?_))
   refine AA _ (AH rfl) rfl ?_
   refine AN (AF (CT (decide ((kd) = (3:Int))) rfl (fun hb8 => ?_) (fun hb8 => ?_)))
   ·
    have hp8 : (kd) = (3:Int) := of_decide_eq_true hb8
    refine AL (AE (AA (Ptr nb1 1) (AC 1 23 1 AG rfl CE rfl rfl) rfl ?_))
    refine AA (.slice ai ni ci) (AK rfl (AV CL (MemAt.ent 0 rfl (AJ (Seg.head))))) rfl ?_
    refine AA (I64 ((ni:Int))) (D4 BU rfl) rfl ?_
    refine AA (Ptr nb1 2) (AC 2 24 1 AG rfl B3 rfl rfl) rfl ?_
    refine AA (.slice sa ns sc) (AK rfl (AV B6 (MemAt.ent 0 rfl (AJ (AJ (Seg.head)))))) rfl ?_
    refine AA (I64 ((ns:Int))) (D4 CJ rfl) rfl ?_
    refine AA (I64 ((ni:Int) + (ns:Int))) (AQ rfl rfl fun _ => DI _ _ ((ni:Int) + (ns:Int)) (by omega) (by omega)) rfl ?_
    refine AA (.bool (decide (((ni:Int) + (ns:Int)) = (0:Int)))) (AQ rfl rfl fun _ => DD _ _) rfl ?_
    refine AA _ (AD rfl) rfl ?_
    rcases Bool.eq_false_or_eq_true (decide (((ni:Int) + (ns:Int)) = (0:Int))) with hb9 | hb9
    ·
     have hp9 : ((ni:Int) + (ns:Int)) = (0:Int) := of_decide_eq_true hb9
     refine AY 8 59 true _ (Ptr nb1 3) rfl rfl hb9 (AC 3 22 1 AG rfl AT rfl rfl) rfl ?_
     refine AY 8 59 true _ (U64 bl) rfl rfl hb9 (AK rfl (AV AU (MemAt.ent 0 rfl (AJ (AJ (AJ (Seg.head))))))) rfl ?_
     refine AY 8 59 true _ (.bool (decide ((1:UInt64) ≤ bl))) rfl rfl hb9 (AQ rfl rfl fun _ => FJ bl (1:UInt64)) rfl ?_
     refine AA _ (B0 _ rfl hb9 rfl) rfl ?_
     refine AA _ (AD rfl) rfl ?_
     rcases Bool.eq_false_or_eq_true (decide ((1:UInt64) ≤ bl)) with hb10 | hb10
     ·
      have hp10 : (1:UInt64) ≤ bl := of_decide_eq_true hb10
      refine AY 13 64 true _ (Ptr nb1 3) rfl rfl hb10 (AC 3 22 1 AG rfl AT rfl rfl) rfl ?_
      refine AY 13 64 true _ (U64 bl) rfl rfl hb10 (AK rfl (AV AU (MemAt.ent 0 rfl (AJ (AJ (AJ (Seg.head))))))) rfl ?_
      refine AY 13 64 true _ (.bool (decide (bl ≤ (4294967296:UInt64)))) rfl rfl hb10 (AQ rfl rfl fun _ => bin_leq_u64 bl (4294967296:UInt64)) rfl ?_
      refine AA _ (B0 _ rfl hb10 rfl) rfl ?_
      refine AA _ (AH rfl) rfl ?_
      refine AN (AF (BO (C8 (A5 (B8 [false] ?_)))))
      show JQ _ _ _ _ []
      refine BP (.bool (decide (bl ≤ (4294967296:UInt64)))) (res1 EX (BT rfl)) fun w1 hw1 => ?_
      refine ⟨_, [], rfl, ⟨congrArg Value.bool ?_, rfl⟩, hw1.sub (by simp) (by simp)⟩
      unfold RightO
      rw [hl, hls]
      first | (simp [*]; done) | (simp [*]; omega)
     ·
      have hp10 : ¬ ((1:UInt64) ≤ bl) := of_decide_eq_false hb10
      refine AI 13 64 true _ rfl rfl hb10 rfl ?_
      refine AI 13 64 true _ rfl rfl hb10 rfl ?_
      refine AI 13 64 true _ rfl rfl hb10 rfl ?_
      refine AA _ (BM _ rfl hb10 rfl) rfl ?_
      refine AA _ (AH rfl) rfl ?_
      refine AN (AF (BO (C8 (A5 (B8 [false] ?_)))))
      show JQ _ _ _ _ []
      refine BP (.bool false) (res1 EX (BT rfl)) fun w1 hw1 => ?_
      refine ⟨_, [], rfl, ⟨congrArg Value.bool ?_, rfl⟩, hw1.sub (by simp) (by simp)⟩
      unfold RightO
      rw [hl, hls]
      first | (simp [*]; done) | (simp [*]; omega)
    ·
     have hp9 : ¬ (((ni:Int) + (ns:Int)) = (0:Int)) := of_decide_eq_false hb9
     refine AI 8 59 true _ rfl rfl hb9 rfl ?_
     refine AI 8 59 true _ rfl rfl hb9 rfl ?_
     refine AI 8 59 true _ rfl rfl hb9 rfl ?_
     refine AA _ (BM _ rfl hb9 rfl) rfl ?_
     refine AA _ (AD rfl) rfl ?_
     refine AI 13 64 true _ rfl rfl rfl rfl ?_
     refine AI 13 64 true _ rfl rfl rfl rfl ?_
     refine AI 13 64 true _ rfl rfl rfl rfl ?_
     refine AA _ (BM _ rfl rfl rfl) rfl ?_
     refine AA _ (AH rfl) rfl ?_
     refine AN (AF (BO (C8 (A5 (B8 [false] ?_)))))
     show JQ _ _ _ _ []
     refine BP (.bool false) (res1 EX (BT rfl)) fun w1 hw1 => ?_
     refine ⟨_, [], rfl, ⟨congrArg Value.bool ?_, rfl⟩, hw1.sub (by simp) (by simp)⟩
     unfold RightO
     rw [hl, hls]
     first | (simp [*]; done) | (simp [*]; omega)
   ·
    have hp8 : ¬ ((kd) = (3:Int)) := of_decide_eq_false hb8
    refine B4 (B1 (AF (AL (AE (AA _ (AH rfl) rfl ?_)))))
    refine AN (AF (BO (B8 [false] ?_)))
    show JQ _ _ _ _ []
    refine BP (.bool false) (res1 EX (BT rfl)) fun w1 hw1 => ?_
    refine ⟨_, [], rfl, ⟨congrArg Value.bool ?_, rfl⟩, hw1.sub (by simp) (by simp)⟩
    unfold RightO
    rw [hl, hls]
    first | (simp [*]; done) | (simp [*]; omega)
end Go.Proofs.YtkdpdgpphpngeaaDoor
namespace Go.Proofs.YtkdpdgpphpngeaaDoor
open Go Go.Sx
set_option linter.unusedVariables false
set_option linter.unusedSimpArgs false
set_option maxRecDepth 100000
attribute [local irreducible] mid zr8 zr32 numK rnK rotr wordL spreadL comprL cpN adN spN wrdN constL initL padL stN outN routN sumG putL RightB oddB
theorem doc7_c (e : UInt64) (d t : List UInt8)  (w : World) (hd : d.length = 32) (ht : t.length = 16)  : Calls Tryd.prog 93 #[.agg (List.toArray (α := Value) ([U64 e] ++ cu8 d ++ cu8 t))] w (Post w [] (fun v L => v = .agg (List.toArray (α := Value) ([U64 e] ++ cu8 d ++ cu8 t)) ∧ L = [])) := by
 refine enter (P := Tryd.prog) (f := 93) (fn := Tryd.f93) w [] 4 [] [.agg (List.toArray (α := Value) ([U64 e] ++ cu8 d ++ cu8 t))] Tryd.func93 rfl rfl (by simp) (B7 (by simp) (by simp) (by simp)) ?_
 show JC _ _ _ [(0, .agg (List.toArray (α := Value) ([U64 e] ++ cu8 d ++ cu8 t)))] _
 refine AL (AE (AR (CN (.agg (List.toArray (α := Value) ([U64 e] ++ cu8 d ++ cu8 t))) ([U64 e] ++ cu8 d ++ cu8 t) rfl (by first | rfl | simp)) rfl ?_))
 rintro v1 L1 ⟨nb1, hnb1, rfl, rfl⟩
 show JL _ _ _ _ ((1, Ptr nb1 0) :: _) [⟨nb1, [U64 e] ++ cu8 d ++ cu8 t, 161, (0, 0)⟩]
 refine AR (BJ _ ([U64 (0:UInt64)] ++ cu8 (zr8 32) ++ cu8 (zr8 16)) Tryd.zeroValue164 (by kernel_rfl)) rfl ?_
 rintro v1 L1 ⟨nb2, hnb2, rfl, rfl⟩
 show JL _ _ _ _ ((2, Ptr nb2 0) :: _) [_, ⟨nb2, [U64 (0:UInt64)] ++ cu8 (zr8 32) ++ cu8 (zr8 16), 164, (0, 0)⟩]
 refine AN (AF (AL (AE (AA (.agg (List.toArray (α := Value) ([U64 e] ++ cu8 d ++ cu8 t))) (AK rfl (BH Tryd.isAgg161 DJ (by simp [hd, ht]) (MemAt.ent 0 rfl (AM _)))) rfl ?_))))
 refine AR (A6 1 nb2 0 49 ([U64 (0:UInt64)] ++ cu8 (zr8 32) ++ cu8 (zr8 16)) 164 (.agg (List.toArray (α := Value) ([U64 e] ++ cu8 d ++ cu8 t))) ([U64 e] ++ cu8 d ++ cu8 t) ([U64 e] ++ cu8 d ++ cu8 t) rfl rfl rfl (by first | rfl | simp) EG (by simp [hd, ht]) (DA (DA (by simp [Value.oneCell']) CK) CK) (by simp [(AP 32), (AP 16)]) (BF (by simp [(AP 32), (AP 16), hd, ht]))) rfl ?_
 rintro v1 L1 ⟨rfl, rfl⟩
 show JL _ _ _ _ _ [_, ⟨nb2, [U64 e] ++ cu8 d ++ cu8 t, 164, (0, 0)⟩]
 refine AN (AF (BO (BP (.agg (List.toArray (α := Value) ([U64 e] ++ cu8 d ++ cu8 t))) (res1 Tryd.results93 (ED rfl (BH Tryd.isAgg164 EG (by simp [hd, ht]) (MemAt.ent 1 rfl (AM _))))) fun w1 hw1 => ?_)))
 exact ⟨_, [], rfl, ⟨rfl, rfl⟩, hw1.sub (by simp) (by simp)⟩
theorem bld36_013 {w : World} {v0 : Value} {v1 : Value} {v3 : Value} (h0 : v0.cells = [v0].toArray) (h1 : v1.cells = [v1].toArray) (h3 : v3.cells = [v3].toArray) : (Instr.build 36 ([(0, v0), (1, v1), (3, v3)] : List (Nat × Value)).toArray).run Tryd.prog w = .ok (.agg (((([v0] : List Value) ++ ([v1] : List Value)) ++ ([.slice none 0 0] : List Value)) ++ ([v3] : List Value)).toArray) w :=
 FM (places := #[(0, 1), (1, 1), (2, 1), (3, 1)]) (Z := (([I64 (0:Int)] : List Value) ++ (([.slice none 0 0] : List Value) ++ (([.slice none 0 0] : List Value) ++ (([U64 (0:UInt64)] : List Value) ++ []))))) (fun _ => by kernel_rfl) A8 (fun _ => by kernel_rfl) ((fill_start ([I64 (0:Int)] : List Value) (([.slice none 0 0] : List Value) ++ (([.slice none 0 0] : List Value) ++ (([U64 (0:UInt64)] : List Value) ++ []))) ([v0] : List Value) h0 (by simp [AP]) rfl).trans ((FR ([v0] : List Value) ([.slice none 0 0] : List Value) (([.slice none 0 0] : List Value) ++ (([U64 (0:UInt64)] : List Value) ++ [])) ([v1] : List Value) h1 (by simp [AP]) rfl).trans ((fill_skip (([v0] : List Value) ++ ([v1] : List Value)) ([.slice none 0 0] : List Value) (([U64 (0:UInt64)] : List Value) ++ [])).trans ((FR ((([v0] : List Value) ++ ([v1] : List Value)) ++ ([.slice none 0 0] : List Value)) ([U64 (0:UInt64)] : List Value) [] ([v3] : List Value) h3 (by simp [AP]) rfl).trans (by simp [Instr.fill])))))
theorem order0_c (kd : Int) (ai : Option Addr) (ni ci : Nat) (l : List UInt64) (sa : Option Addr) (ns sc : Nat) (ls : List SealR) (bl : UInt64)  (w : World) (hl : l.length = ni) (hnm : ni ≤ 2000000) (hnc : ni ≤ ci) (hcm : ci ≤ maxLen) (hv : RdV w ai (cu64 l)) (hls : ls.length = ns) (hnn : ns ≤ 2000000) (hnd : ns ≤ sc) (hcn : sc ≤ maxLen) (hs : RdV w sa (ls.flatMap sealC)) (h0 : ns = 0) : Calls Tryd.prog 66 #[.agg (List.toArray (α := Value) ([I64 (kd), .slice ai ni ci, .slice sa ns sc, U64 bl]))] w (Post w [] (fun v L => v = .agg (List.toArray (α := Value) [I64 kd, .slice ai ni ci, .slice none 0 0, U64 bl]) ∧ L = [])) := by
 have hmx : maxLen = 9223372036854775807 := rfl
 refine enter (P := Tryd.prog) (f := 66) (fn := Tryd.f66) w [] 29 [] [.agg (List.toArray (α := Value) ([I64 (kd), .slice ai ni ci, .slice sa ns sc, U64 bl]))] Tryd.func66 rfl rfl (by simp) (B7 (by simp) (by simp) (by simp)) ?_
 show JC _ _ _ [(0, .agg (List.toArray (α := Value) ([I64 (kd), .slice ai ni ci, .slice sa ns sc, U64 bl])))] _
 refine AL (AE (AR (CN (.agg (List.toArray (α := Value) ([I64 (kd), .slice ai ni ci, .slice sa ns sc, U64 bl]))) ([I64 (kd), .slice ai ni ci, .slice sa ns sc, U64 bl]) rfl (by first | rfl | simp)) rfl ?_))
 rintro v1 L1 ⟨nb1, hnb1, rfl, rfl⟩
 show JL _ _ _ _ ((1, Ptr nb1 0) :: _) [⟨nb1, [I64 (kd), .slice ai ni ci, .slice sa ns sc, U64 bl], 26, (0, 0)⟩]
 refine AR (BJ _ ([I64 (0:Int), .slice none 0 0, .slice none 0 0, U64 (0:UInt64)]) Tryd.zeroValue36 (by kernel_rfl)) rfl ?_
 rintro v1 L1 ⟨nb2, hnb2, rfl, rfl⟩
 show JL _ _ _ _ ((2, Ptr nb2 0) :: _) [_, ⟨nb2, [I64 (0:Int), .slice none 0 0, .slice none 0 0, U64 (0:UInt64)], 36, (0, 0)⟩]
 refine AN (AF (AL (AE (AA (Ptr nb1 0) (AC 0 3 1 AG rfl A7 rfl rfl) rfl ?_))))
 refine AA (I64 (kd)) (AK rfl (AV BA (MemAt.ent 0 rfl (Seg.head)))) rfl ?_
 refine AA (Ptr nb1 1) (AC 1 23 1 AG rfl CE rfl rfl) rfl ?_
 refine AA (.slice ai ni ci) (AK rfl (AV CL (MemAt.ent 0 rfl (AJ (Seg.head))))) rfl ?_
 refine AA (Ptr nb1 3) (AC 3 22 1 AG rfl AT rfl rfl) rfl ?_
 refine AA (U64 bl) (AK rfl (AV AU (MemAt.ent 0 rfl (AJ (AJ (AJ (Seg.head))))))) rfl ?_
 refine AA (.agg (List.toArray (α := Value) ([I64 (kd), .slice ai ni ci, .slice none 0 0, U64 bl]))) (CB [(0, I64 (kd)), (1, .slice ai ni ci), (3, U64 bl)] _ rfl (fun _ => bld36_013 rfl rfl rfl)) rfl ?_
 refine AR (BJ _ ([I64 (0:Int), .slice none 0 0, .slice none 0 0, U64 (0:UInt64)]) Tryd.zeroValue36 (by kernel_rfl)) rfl ?_
 rintro v1 L1 ⟨nb3, hnb3, rfl, rfl⟩
 show JL _ _ _ _ ((3, Ptr nb3 0) :: _) [_, _, ⟨nb3, [I64 (0:Int), .slice none 0 0, .slice none 0 0, U64 (0:UInt64)], 36, (0, 0)⟩]
 refine AR (A6 2 nb3 0 4 ([I64 (0:Int), .slice none 0 0, .slice none 0 0, U64 (0:UInt64)]) 36 (.agg (List.toArray (α := Value) ([I64 (kd), .slice ai ni ci, .slice none 0 0, U64 bl]))) ([I64 (kd), .slice ai ni ci, .slice none 0 0, U64 bl]) ([I64 (kd), .slice ai ni ci, .slice none 0 0, U64 bl]) rfl rfl rfl (by first | rfl | simp) CI rfl (by simp [Value.oneCell']) (Nat.le_of_ble_eq_true rfl) (BF (by simp []))) rfl ?_
 rintro v1 L1 ⟨rfl, rfl⟩
 show JL _ _ _ _ _ [_, _, ⟨nb3, [I64 (kd), .slice ai ni ci, .slice none 0 0, U64 bl], 36, (0, 0)⟩]
 refine AN (AF (AL (AL (AE (AA (Ptr nb1 2) (AC 2 24 1 AG rfl B3 rfl rfl) rfl ?_)))))
 refine AA (.slice sa ns sc) (AK rfl (AV B6 (MemAt.ent 0 rfl (AJ (AJ (Seg.head)))))) rfl ?_
 refine AA (I64 ((ns:Int))) (D4 CJ rfl) rfl ?_
 refine AA _ (AD rfl) rfl ?_
 refine AN (AF (B5 (B8 [false, true, true] ?_)))
 show JC _ _ _ _ [_, _]
 refine EE (ι := Unit) (fun _ => [(2, Ptr nb2 0), (3, Ptr nb3 0), (14, .slice sa ns sc), (15, I64 ((ns:Int))), (16, I64 (0:Int))]) (fun _ => [⟨nb2, [I64 (0:Int), .slice none 0 0, .slice none 0 0, U64 (0:UInt64)], 36, (0, 0)⟩, ⟨nb3, [I64 (kd), .slice ai ni ci, .slice none 0 0, U64 bl], 36, (0, 0)⟩]) (fun _ => True) (fun _ => 1) () trivial (Sub.cons rfl (Sub.cons rfl (Sub.cons rfl (Sub.cons rfl (Sub.cons rfl (Sub.nil)))))) rfl ?_
 rintro _ _
 show JC _ _ _ [(2, Ptr nb2 0), (3, Ptr nb3 0), (14, .slice sa ns sc), (15, I64 ((ns:Int))), (16, I64 (0:Int))] [⟨nb2, [I64 (0:Int), .slice none 0 0, .slice none 0 0, U64 (0:UInt64)], 36, (0, 0)⟩, ⟨nb3, [I64 (kd), .slice ai ni ci, .slice none 0 0, U64 bl], 36, (0, 0)⟩]
 refine AL (AE (AA (.bool (decide ((0:Int) < ((ns:Int))))) (AQ rfl rfl fun _ => DB _ _) rfl ?_))
 refine AN (AF (AL (C0 _ rfl (decide_eq_false (by omega)) ?_)))
 refine EB (BD (BD (CV (AF (AL (AE (AA (.agg (List.toArray (α := Value) ([I64 (kd), .slice ai ni ci, .slice none 0 0, U64 bl]))) (AK rfl (BH Tryd.isAgg36 CI rfl (MemAt.ent 1 rfl (AM _)))) rfl ?_)))))))
 refine AR (A6 0 nb2 0 4 ([I64 (0:Int), .slice none 0 0, .slice none 0 0, U64 (0:UInt64)]) 36 (.agg (List.toArray (α := Value) ([I64 (kd), .slice ai ni ci, .slice none 0 0, U64 bl]))) ([I64 (kd), .slice ai ni ci, .slice none 0 0, U64 bl]) ([I64 (kd), .slice ai ni ci, .slice none 0 0, U64 bl]) rfl rfl rfl (by first | rfl | simp) CI rfl (by simp [Value.oneCell']) (Nat.le_of_ble_eq_true rfl) (BF (by simp []))) rfl ?_
 rintro v1 L1 ⟨rfl, rfl⟩
 show JL _ _ _ _ _ [⟨nb2, [I64 (kd), .slice ai ni ci, .slice none 0 0, U64 bl], 36, (0, 0)⟩, _]
 refine AN (AF (BO (BP (.agg (List.toArray (α := Value) ([I64 (kd), .slice ai ni ci, .slice none 0 0, U64 bl]))) (res1 Tryd.results66 (ED rfl (BH Tryd.isAgg36 CI rfl (MemAt.ent 0 rfl (AM _))))) fun w1 hw1 => ?_)))
 exact ⟨_, [], rfl, ⟨rfl, rfl⟩, hw1.sub (by simp) (by simp)⟩
theorem orderP_c (kd : Int) (ai : Option Addr) (ni ci : Nat) (l : List UInt64) (sa : Option Addr) (ns sc : Nat) (ls : List SealR) (bl : UInt64)  (w : World) (hl : l.length = ni) (hnm : ni ≤ 2000000) (hnc : ni ≤ ci) (hcm : ci ≤ maxLen) (hv : RdV w ai (cu64 l)) (hls : ls.length = ns) (hnn : ns ≤ 2000000) (hnd : ns ≤ sc) (hcn : sc ≤ maxLen) (hs : RdV w sa (ls.flatMap sealC)) (h0 : 0 < ns) : Calls Tryd.prog 66 #[.agg (List.toArray (α := Value) ([I64 (kd), .slice ai ni ci, .slice sa ns sc, U64 bl]))] w (Post w [] (fun v L => ∃ g sp cap, v = .agg (List.toArray (α := Value) [I64 kd, .slice ai ni ci, Slc g 0 ns cap, U64 bl]) ∧ L = [⟨g, ls.flatMap sealC ++ sp, 164, (0, 0)⟩] ∧ sp.length = cap * 49 - ns * 49 ∧ ns ≤ cap ∧ cap ≤ maxLen)) := by
 have hmx : maxLen = 9223372036854775807 := rfl
 refine enter (P := Tryd.prog) (f := 66) (fn := Tryd.f66) w [] 29 [] [.agg (List.toArray (α := Value) ([I64 (kd), .slice ai ni ci, .slice sa ns sc, U64 bl]))] Tryd.func66 rfl rfl (by simp) (B7 (by simp) (by simp) (by simp)) ?_
 show JC _ _ _ [(0, .agg (List.toArray (α := Value) ([I64 (kd), .slice ai ni ci, .slice sa ns sc, U64 bl])))] _
 refine AL (AE (AR (CN (.agg (List.toArray (α := Value) ([I64 (kd), .slice ai ni ci, .slice sa ns sc, U64 bl]))) ([I64 (kd), .slice ai ni ci, .slice sa ns sc, U64 bl]) rfl (by first | rfl | simp)) rfl ?_))
 rintro v1 L1 ⟨nb1, hnb1, rfl, rfl⟩
 show JL _ _ _ _ ((1, Ptr nb1 0) :: _) [⟨nb1, [I64 (kd), .slice ai ni ci, .slice sa ns sc, U64 bl], 26, (0, 0)⟩]
 refine AR (BJ _ ([I64 (0:Int), .slice none 0 0, .slice none 0 0, U64 (0:UInt64)]) Tryd.zeroValue36 (by kernel_rfl)) rfl ?_
 rintro v1 L1 ⟨nb2, hnb2, rfl, rfl⟩
 show JL _ _ _ _ ((2, Ptr nb2 0) :: _) [_, ⟨nb2, [I64 (0:Int), .slice none 0 0, .slice none 0 0, U64 (0:UInt64)], 36, (0, 0)⟩]
 refine AN (AF (AL (AE (AA (Ptr nb1 0) (AC 0 3 1 AG rfl A7 rfl rfl) rfl ?_))))
 refine AA (I64 (kd)) (AK rfl (AV BA (MemAt.ent 0 rfl (Seg.head)))) rfl ?_
 refine AA (Ptr nb1 1) (AC 1 23 1 AG rfl CE rfl rfl) rfl ?_
 refine AA (.slice ai ni ci) (AK rfl (AV CL (MemAt.ent 0 rfl (AJ (Seg.head))))) rfl ?_
 refine AA (Ptr nb1 3) (AC 3 22 1 AG rfl AT rfl rfl) rfl ?_
 refine AA (U64 bl) (AK rfl (AV AU (MemAt.ent 0 rfl (AJ (AJ (AJ (Seg.head))))))) rfl ?_
 refine AA (.agg (List.toArray (α := Value) ([I64 (kd), .slice ai ni ci, .slice none 0 0, U64 bl]))) (CB [(0, I64 (kd)), (1, .slice ai ni ci), (3, U64 bl)] _ rfl (fun _ => bld36_013 rfl rfl rfl)) rfl ?_
 refine AR (BJ _ ([I64 (0:Int), .slice none 0 0, .slice none 0 0, U64 (0:UInt64)]) Tryd.zeroValue36 (by kernel_rfl)) rfl ?_
 rintro v1 L1 ⟨nb3, hnb3, rfl, rfl⟩
 show JL _ _ _ _ ((3, Ptr nb3 0) :: _) [_, _, ⟨nb3, [I64 (0:Int), .slice none 0 0, .slice none 0 0, U64 (0:UInt64)], 36, (0, 0)⟩]
 refine AR (A6 2 nb3 0 4 ([I64 (0:Int), .slice none 0 0, .slice none 0 0, U64 (0:UInt64)]) 36 (.agg (List.toArray (α := Value) ([I64 (kd), .slice ai ni ci, .slice none 0 0, U64 bl]))) ([I64 (kd), .slice ai ni ci, .slice none 0 0, U64 bl]) ([I64 (kd), .slice ai ni ci, .slice none 0 0, U64 bl]) rfl rfl rfl (by first | rfl | simp) CI rfl (by simp [Value.oneCell']) (Nat.le_of_ble_eq_true rfl) (BF (by simp []))) rfl ?_
 rintro v1 L1 ⟨rfl, rfl⟩
 show JL _ _ _ _ _ [_, _, ⟨nb3, [I64 (kd), .slice ai ni ci, .slice none 0 0, U64 bl], 36, (0, 0)⟩]
 refine AN (AF (AL (AL (AE (AA (Ptr nb1 2) (AC 2 24 1 AG rfl B3 rfl rfl) rfl ?_)))))
 refine AA (.slice sa ns sc) (AK rfl (AV B6 (MemAt.ent 0 rfl (AJ (AJ (Seg.head)))))) rfl ?_
 refine AA (I64 ((ns:Int))) (D4 CJ rfl) rfl ?_
 refine AA _ (AD rfl) rfl ?_
 refine AN (AF (B5 (B8 [false, true, true] ?_)))
 show JC _ _ _ _ [_, _]
 refine EE (ι := (Unit) ⊕ (Nat × List SealR × Nat × List Value × Nat)) (fun x => match x with | .inl _ => [(2, Ptr nb2 0), (3, Ptr nb3 0), (14, .slice sa ns sc), (15, I64 ((ns:Int))), (16, I64 (0:Int))] | .inr ⟨i, rr, gb, sp, cp⟩ => [(2, Ptr nb2 0), (3, Ptr nb3 0), (14, .slice sa ns sc), (15, I64 ((ns:Int))), (16, I64 ((i:Int)))]) (fun x => match x with | .inl _ => [⟨nb2, [I64 (0:Int), .slice none 0 0, .slice none 0 0, U64 (0:UInt64)], 36, (0, 0)⟩, ⟨nb3, [I64 (kd), .slice ai ni ci, .slice none 0 0, U64 bl], 36, (0, 0)⟩] | .inr ⟨i, rr, gb, sp, cp⟩ => [⟨nb2, [I64 (0:Int), .slice none 0 0, .slice none 0 0, U64 (0:UInt64)], 36, (0, 0)⟩, ⟨nb3, [I64 (kd), .slice ai ni ci, Slc gb 0 i cp, U64 bl], 36, (0, 0)⟩, ⟨gb, (rr).flatMap sealC ++ sp, 164, (0, 0)⟩]) (fun x => match x with | .inl _ => True | .inr ⟨i, rr, gb, sp, cp⟩ => 0 < i ∧ i ≤ ns ∧ rr = ls.take i ∧ rr.length = i ∧ sp.length = cp * 49 - i * 49 ∧ i ≤ cp ∧ cp ≤ maxLen) (fun x => match x with | .inl _ => ns + 2 | .inr ⟨i, rr, gb, sp, cp⟩ => ns + 1 - i) (.inl ()) trivial (Sub.cons rfl (Sub.cons rfl (Sub.cons rfl (Sub.cons rfl (Sub.cons rfl (Sub.nil)))))) rfl ?_
 rintro (_ | ⟨i, rr, gb, sp, cp⟩) hx
 ·
  obtain _ := hx
  show JC _ _ _ [(2, Ptr nb2 0), (3, Ptr nb3 0), (14, .slice sa ns sc), (15, I64 ((ns:Int))), (16, I64 (0:Int))] [⟨nb2, [I64 (0:Int), .slice none 0 0, .slice none 0 0, U64 (0:UInt64)], 36, (0, 0)⟩, ⟨nb3, [I64 (kd), .slice ai ni ci, .slice none 0 0, U64 bl], 36, (0, 0)⟩]
  refine AL (AE (AA (.bool (decide ((0:Int) < ((ns:Int))))) (AQ rfl rfl fun _ => DB _ _) rfl ?_))
  refine AN (AF (AL (C9 _ rfl (decide_eq_true (by omega)) ?_)))
  refine B4 (AF (AL (B5 (AL (AE ?_)))))
  obtain ⟨x1, hx1⟩ : ∃ x, ls[0]? = some x := ⟨_, List.getElem?_eq_getElem (by rw [hls]; omega)⟩
  obtain ⟨bz1, oz1, hz1, hm1⟩ := F6 E2 (by decide) hs hx1
  refine AA (Ptr bz1 oz1) (CW 161 49 oz1 CJ DJ rfl hz1 rfl (by omega) (by omega) (by omega)) rfl ?_
  refine AA (.agg (List.toArray (α := Value) ([U64 x1.e] ++ cu8 x1.d ++ cu8 x1.t))) (AK rfl (BH Tryd.isAgg161 DJ (by simp [x1.hd, x1.ht]) (CU (hm1.mem (by simp)) (AM _) (by omega)))) rfl ?_
  refine AR (BJ _ ([U64 (0:UInt64)] ++ cu8 (zr8 32) ++ cu8 (zr8 16)) Tryd.zeroValue161 (by kernel_rfl)) rfl ?_
  rintro v1 L1 ⟨nb4, hnb4, rfl, rfl⟩
  show JL _ _ _ _ ((5, Ptr nb4 0) :: _) [_, _, ⟨nb4, [U64 (0:UInt64)] ++ cu8 (zr8 32) ++ cu8 (zr8 16), 161, (0, 0)⟩]
  refine AR (A6 2 nb4 0 49 ([U64 (0:UInt64)] ++ cu8 (zr8 32) ++ cu8 (zr8 16)) 161 (.agg (List.toArray (α := Value) ([U64 x1.e] ++ cu8 x1.d ++ cu8 x1.t))) ([U64 x1.e] ++ cu8 x1.d ++ cu8 x1.t) ([U64 x1.e] ++ cu8 x1.d ++ cu8 x1.t) rfl rfl rfl (by first | rfl | simp) DJ (by simp [x1.hd, x1.ht]) (DA (DA (by simp [Value.oneCell']) CK) CK) (by simp [(AP 32), (AP 16)]) (BF (by simp [(AP 32), (AP 16), x1.hd, x1.ht]))) rfl ?_
  rintro v1 L1 ⟨rfl, rfl⟩
  show JL _ _ _ _ _ [_, _, ⟨nb4, [U64 x1.e] ++ cu8 x1.d ++ cu8 x1.t, 161, (0, 0)⟩]
  refine AN (AF (CQ 29 5 [(0, Ptr nb3 2), (1, .slice none 0 0), (2, .agg (List.toArray (α := Value) ([U64 x1.e] ++ cu8 x1.d ++ cu8 x1.t)))] BQ rfl (by decide +kernel) ?_))
  refine BR ⟨[], [0, 1, 2], [], [0, 1, 2], [3]⟩ 3 _ rfl rfl (by decide +kernel) rfl ⟨⟨_, rfl, AB rfl (AC 2 34 1 A8 rfl C7 rfl rfl)⟩, ⟨_, rfl, AB rfl (AK rfl (AV DV (MemAt.ent 1 rfl (AJ (AJ (Seg.head))))))⟩, ⟨_, rfl, AB rfl (AK rfl (BH Tryd.isAgg161 DJ (by simp [x1.hd, x1.ht]) (MemAt.ent 2 rfl (AM _))))⟩, trivial⟩ rfl (AZ rfl (A3 93 [.agg (List.toArray (α := Value) ([U64 x1.e] ++ cu8 x1.d ++ cu8 x1.t))] (.agg (List.toArray (α := Value) ([U64 x1.e] ++ cu8 x1.d ++ cu8 x1.t))) (A0 [.agg (List.toArray (α := Value) ([U64 x1.e] ++ cu8 x1.d ++ cu8 x1.t))] Tryd.call93 rfl) (fun w1 hw1 => doc7_c x1.e x1.d x1.t w1 x1.hd x1.ht))) ?_
  rintro v1 L1 ⟨rfl, rfl⟩
  refine ⟨[], ?_⟩
  show DP _ _ _ _ _ _ _ _ [_, _, _]
  refine BR ⟨[3], [0, 1, 2], [2], [0, 1], [4]⟩ 4 _ rfl rfl (by decide +kernel) rfl ⟨⟨_, rfl, AB rfl (AC 2 34 1 A8 rfl C7 rfl rfl)⟩, ⟨_, rfl, AB rfl (AK rfl (AV DV (MemAt.ent 1 rfl (AJ (AJ (Seg.head))))))⟩, trivial⟩ rfl (AZ rfl (BZ 164 49 _ [(0, .agg (List.toArray (α := Value) ([U64 x1.e] ++ cu8 x1.d ++ cu8 x1.t)))] ([U64 x1.e] ++ cu8 x1.d ++ cu8 x1.t) CX EG Tryd.zeroValue164 rfl rfl rfl (fill_one (Z := [U64 (0:UInt64)] ++ cu8 (zr8 32) ++ cu8 (zr8 16)) (by simp [x1.hd, x1.ht]) (by kernel_rfl) (by simp [zr8])))) ?_
  rintro v1 L1 ⟨nb5, hnb5, rfl, rfl⟩
  refine ⟨[], ?_⟩
  show DP _ _ _ _ _ _ _ _ [_, _, _, ⟨nb5, [U64 x1.e] ++ cu8 x1.d ++ cu8 x1.t, 164, (0, 0)⟩]
  refine BR ⟨[3, 4], [0, 1, 2], [2], [0, 1], [5]⟩ 5 _ rfl rfl (by decide +kernel) rfl ⟨⟨_, rfl, AB rfl (AC 2 34 1 A8 rfl C7 rfl rfl)⟩, ⟨_, rfl, AB rfl (AK rfl (AV DV (MemAt.ent 1 rfl (AJ (AJ (Seg.head))))))⟩, trivial⟩ rfl (AZ rfl (Step_appS 34 164 56 (.agg (List.toArray (α := Value) ([U64 (0:UInt64)] ++ cu8 (zr8 32) ++ cu8 (zr8 16)))) [false, false, false, false] (.slice none 0 0) 0 ([] : List SealR) x1 (some ⟨nb5, 0, none⟩) 1 1 CX (by kernel_rfl) (by kernel_rfl) rfl (.inl ⟨rfl, rfl, rfl, rfl⟩) rfl (SrcAt.mem (MemAt.ent 3 rfl (AM _))) (by omega) (by unfold maxLen; omega) (by omega))) ?_
  rintro v1 L1 ⟨nb6, sp1, cp1, hg1, rfl, rfl, ha1, ha2, ha3, ha4⟩
  refine ⟨[(6, Ptr nb3 2)], ?_⟩
  show DP _ _ _ _ _ _ _ _ [_, _, _, _, ⟨nb6, (([] : List SealR) ++ [x1]).flatMap sealC ++ sp1, 164, (0, 0)⟩]
  refine BR ⟨[3, 4, 5], [0, 1, 2, 6], [0, 1, 2], [6], [7]⟩ 7 _ rfl rfl (by decide +kernel) rfl ⟨⟨_, rfl, AB rfl (AC 2 34 1 A8 rfl C7 rfl rfl)⟩, trivial⟩ rfl (AZ rfl (A6 1 nb3 2 1 ([I64 (kd), .slice ai ni ci, .slice none 0 0, U64 bl]) 36 (Slc nb6 0 1 cp1) ([Slc nb6 0 1 cp1]) ([I64 (kd), .slice ai ni ci, Slc nb6 0 1 cp1, U64 bl]) rfl rfl rfl rfl C7 rfl (by simp [Value.oneCell']) (Nat.le_of_ble_eq_true rfl) (rfl))) ?_
  rintro v1 L1 ⟨rfl, rfl⟩
  refine ⟨[], ?_⟩
  show DP _ _ _ _ _ _ _ _ [_, ⟨nb3, [I64 (kd), .slice ai ni ci, Slc nb6 0 1 cp1, U64 bl], 36, (0, 0)⟩, _, _, _]
  refine CZ ⟨[3, 4, 5, 7], [0, 1, 2, 6], [0, 1, 2, 6], [], []⟩ rfl rfl (by decide +kernel) rfl trivial ?_
  refine CC (F' := [(20, Ptr nb3 2), (21, .slice none 0 0), (22, .agg (List.toArray (α := Value) ([U64 x1.e] ++ cu8 x1.d ++ cu8 x1.t))), (23, .agg (List.toArray (α := Value) ([U64 x1.e] ++ cu8 x1.d ++ cu8 x1.t))), (24, Slc nb5 0 1 1), (25, Slc nb6 0 1 cp1), (26, Ptr nb3 2), (2, Ptr nb2 0), (3, Ptr nb3 0), (14, .slice sa ns sc), (15, I64 ((ns:Int))), (16, I64 (0:Int)), (17, .bool (decide ((0:Int) < ((ns:Int))))), (18, Ptr bz1 oz1), (19, .agg (List.toArray (α := Value) ([U64 x1.e] ++ cu8 x1.d ++ cu8 x1.t))), (5, Ptr nb4 0)]) (by kernel_rfl) ?_
  refine B1 (AF (AE (AA (I64 (1:Int)) (AQ rfl rfl fun _ => DI _ _ (1:Int) (by omega) (by omega)) rfl ?_)))
  refine AA _ (AD rfl) rfl ?_
  refine AN (DF (B8 [true, true, false, false, true] ?_))
  show K _ _ [_, _, _] _
  refine EN (.inr (1, ([] : List SealR) ++ [x1], nb6, sp1, cp1)) ⟨by omega, by omega, take_step (i := 0) hx1, (ha1).trans (by first | rfl | simp +arith), (ha2).trans (by first | rfl | simp +arith), by omega, by omega⟩ (by first | (simp; omega) | simp | (dsimp only; omega) | omega) (Sub.cons rfl (Sub.cons rfl (Sub.cons rfl (Sub.cons rfl (Sub.cons rfl (Sub.nil)))))) rfl
 ·
  obtain ⟨hi1, hi2, hi3, hi4, hi5, hi6, hi7⟩ := hx
  show JC _ _ _ [(2, Ptr nb2 0), (3, Ptr nb3 0), (14, .slice sa ns sc), (15, I64 ((ns:Int))), (16, I64 ((i:Int)))] [⟨nb2, [I64 (0:Int), .slice none 0 0, .slice none 0 0, U64 (0:UInt64)], 36, (0, 0)⟩, ⟨nb3, [I64 (kd), .slice ai ni ci, Slc gb 0 i cp, U64 bl], 36, (0, 0)⟩, ⟨gb, (rr).flatMap sealC ++ sp, 164, (0, 0)⟩]
  refine AL (AE (AA (.bool (decide (((i:Int)) < ((ns:Int))))) (AQ rfl rfl fun _ => DB _ _) rfl ?_))
  refine AN (AF (AL (CT (decide (((i:Int)) < ((ns:Int)))) rfl (fun hb1 => ?_) (fun hb1 => ?_))))
  ·
   have hp1 : ((i:Int)) < ((ns:Int)) := of_decide_eq_true hb1
   refine B4 (AF (AL (B5 (AL (AE ?_)))))
   obtain ⟨x2, hx2⟩ : ∃ x, ls[i]? = some x := ⟨_, List.getElem?_eq_getElem (by rw [hls]; omega)⟩
   obtain ⟨bz2, oz2, hz2, hm2⟩ := F6 E2 (by decide) hs hx2
   refine AA (Ptr bz2 (49*i + oz2)) (CW 161 49 (49*i + oz2) CJ DJ rfl hz2 rfl (by omega) (by omega) (by omega)) rfl ?_
   refine AA (.agg (List.toArray (α := Value) ([U64 x2.e] ++ cu8 x2.d ++ cu8 x2.t))) (AK rfl (BH Tryd.isAgg161 DJ (by simp [x2.hd, x2.ht]) (CU (hm2.mem (by simp)) (AM _) (by omega)))) rfl ?_
   refine AR (BJ _ ([U64 (0:UInt64)] ++ cu8 (zr8 32) ++ cu8 (zr8 16)) Tryd.zeroValue161 (by kernel_rfl)) rfl ?_
   rintro v1 L1 ⟨nb7, hnb7, rfl, rfl⟩
   show JL _ _ _ _ ((5, Ptr nb7 0) :: _) [_, _, _, ⟨nb7, [U64 (0:UInt64)] ++ cu8 (zr8 32) ++ cu8 (zr8 16), 161, (0, 0)⟩]
   refine AR (A6 3 nb7 0 49 ([U64 (0:UInt64)] ++ cu8 (zr8 32) ++ cu8 (zr8 16)) 161 (.agg (List.toArray (α := Value) ([U64 x2.e] ++ cu8 x2.d ++ cu8 x2.t))) ([U64 x2.e] ++ cu8 x2.d ++ cu8 x2.t) ([U64 x2.e] ++ cu8 x2.d ++ cu8 x2.t) rfl rfl rfl (by first | rfl | simp) DJ (by simp [x2.hd, x2.ht]) (DA (DA (by simp [Value.oneCell']) CK) CK) (by simp [(AP 32), (AP 16)]) (BF (by simp [(AP 32), (AP 16), x2.hd, x2.ht]))) rfl ?_
   rintro v1 L1 ⟨rfl, rfl⟩
   show JL _ _ _ _ _ [_, _, _, ⟨nb7, [U64 x2.e] ++ cu8 x2.d ++ cu8 x2.t, 161, (0, 0)⟩]
   refine AN (AF (CQ 29 5 [(0, Ptr nb3 2), (1, Slc gb 0 i cp), (2, .agg (List.toArray (α := Value) ([U64 x2.e] ++ cu8 x2.d ++ cu8 x2.t)))] BQ rfl (by decide +kernel) ?_))
   refine BR ⟨[], [0, 1, 2], [], [0, 1, 2], [3]⟩ 3 _ rfl rfl (by decide +kernel) rfl ⟨⟨_, rfl, AB rfl (AC 2 34 1 A8 rfl C7 rfl rfl)⟩, ⟨_, rfl, AB rfl (AK rfl (AV DV (MemAt.ent 1 rfl (AJ (AJ (Seg.head))))))⟩, ⟨_, rfl, AB rfl (AK rfl (BH Tryd.isAgg161 DJ (by simp [x2.hd, x2.ht]) (MemAt.ent 3 rfl (AM _))))⟩, trivial⟩ rfl (AZ rfl (A3 93 [.agg (List.toArray (α := Value) ([U64 x2.e] ++ cu8 x2.d ++ cu8 x2.t))] (.agg (List.toArray (α := Value) ([U64 x2.e] ++ cu8 x2.d ++ cu8 x2.t))) (A0 [.agg (List.toArray (α := Value) ([U64 x2.e] ++ cu8 x2.d ++ cu8 x2.t))] Tryd.call93 rfl) (fun w1 hw1 => doc7_c x2.e x2.d x2.t w1 x2.hd x2.ht))) ?_
   rintro v1 L1 ⟨rfl, rfl⟩
   refine ⟨[], ?_⟩
   show DP _ _ _ _ _ _ _ _ [_, _, _, _]
   refine BR ⟨[3], [0, 1, 2], [2], [0, 1], [4]⟩ 4 _ rfl rfl (by decide +kernel) rfl ⟨⟨_, rfl, AB rfl (AC 2 34 1 A8 rfl C7 rfl rfl)⟩, ⟨_, rfl, AB rfl (AK rfl (AV DV (MemAt.ent 1 rfl (AJ (AJ (Seg.head))))))⟩, trivial⟩ rfl (AZ rfl (BZ 164 49 _ [(0, .agg (List.toArray (α := Value) ([U64 x2.e] ++ cu8 x2.d ++ cu8 x2.t)))] ([U64 x2.e] ++ cu8 x2.d ++ cu8 x2.t) CX EG Tryd.zeroValue164 rfl rfl rfl (fill_one (Z := [U64 (0:UInt64)] ++ cu8 (zr8 32) ++ cu8 (zr8 16)) (by simp [x2.hd, x2.ht]) (by kernel_rfl) (by simp [zr8])))) ?_
   rintro v1 L1 ⟨nb8, hnb8, rfl, rfl⟩
   refine ⟨[], ?_⟩
   show DP _ _ _ _ _ _ _ _ [_, _, _, _, ⟨nb8, [U64 x2.e] ++ cu8 x2.d ++ cu8 x2.t, 164, (0, 0)⟩]
   refine BR ⟨[3, 4], [0, 1, 2], [2], [0, 1], [5]⟩ 5 _ rfl rfl (by decide +kernel) rfl ⟨⟨_, rfl, AB rfl (AC 2 34 1 A8 rfl C7 rfl rfl)⟩, ⟨_, rfl, AB rfl (AK rfl (AV DV (MemAt.ent 1 rfl (AJ (AJ (Seg.head))))))⟩, trivial⟩ rfl (AZ rfl (Step_appS 34 164 56 (.agg (List.toArray (α := Value) ([U64 (0:UInt64)] ++ cu8 (zr8 32) ++ cu8 (zr8 16)))) [false, false, true, false, false] (Slc gb 0 i cp) i rr x2 (some ⟨nb8, 0, none⟩) 1 (i + 1) CX (by kernel_rfl) (by kernel_rfl) rfl (.inr ⟨gb, sp, cp, rfl, rfl, (by have h : (rr).length = i := hi4; omega), (by first | exact hi5 | omega), (by omega), (by omega)⟩) rfl (SrcAt.mem (MemAt.ent 4 rfl (AM _))) (by omega) (by unfold maxLen; omega) (by omega))) ?_
   rintro v1 L1 ⟨nb9, sp2, cp2, hg2, rfl, rfl, ha5, ha6, ha7, ha8⟩
   refine ⟨[(6, Ptr nb3 2)], ?_⟩
   show DP _ _ _ _ _ _ _ _ [_, _, _, _, ⟨nb9, (rr ++ [x2]).flatMap sealC ++ sp2, 164, (0, 0)⟩]
   refine BR ⟨[3, 4, 5], [0, 1, 2, 6], [0, 1, 2], [6], [7]⟩ 7 _ rfl rfl (by decide +kernel) rfl ⟨⟨_, rfl, AB rfl (AC 2 34 1 A8 rfl C7 rfl rfl)⟩, trivial⟩ rfl (AZ rfl (A6 1 nb3 2 1 ([I64 (kd), .slice ai ni ci, Slc gb 0 i cp, U64 bl]) 36 (Slc nb9 0 (i + 1) cp2) ([Slc nb9 0 (i + 1) cp2]) ([I64 (kd), .slice ai ni ci, Slc nb9 0 (i + 1) cp2, U64 bl]) rfl rfl rfl rfl C7 rfl (by simp [Value.oneCell']) (Nat.le_of_ble_eq_true rfl) (rfl))) ?_
   rintro v1 L1 ⟨rfl, rfl⟩
   refine ⟨[], ?_⟩
   show DP _ _ _ _ _ _ _ _ [_, ⟨nb3, [I64 (kd), .slice ai ni ci, Slc nb9 0 (i + 1) cp2, U64 bl], 36, (0, 0)⟩, _, _, _]
   refine CZ ⟨[3, 4, 5, 7], [0, 1, 2, 6], [0, 1, 2, 6], [], []⟩ rfl rfl (by decide +kernel) rfl trivial ?_
   refine CC (F' := [(20, Ptr nb3 2), (21, Slc gb 0 i cp), (22, .agg (List.toArray (α := Value) ([U64 x2.e] ++ cu8 x2.d ++ cu8 x2.t))), (23, .agg (List.toArray (α := Value) ([U64 x2.e] ++ cu8 x2.d ++ cu8 x2.t))), (24, Slc nb8 0 1 1), (25, Slc nb9 0 (i + 1) cp2), (26, Ptr nb3 2), (2, Ptr nb2 0), (3, Ptr nb3 0), (14, .slice sa ns sc), (15, I64 ((ns:Int))), (16, I64 ((i:Int))), (17, .bool (decide (((i:Int)) < ((ns:Int))))), (18, Ptr bz2 (49*i + oz2)), (19, .agg (List.toArray (α := Value) ([U64 x2.e] ++ cu8 x2.d ++ cu8 x2.t))), (5, Ptr nb7 0)]) (by kernel_rfl) ?_
   refine B1 (AF (AE (AA (I64 ((i:Int) + 1)) (AQ rfl rfl fun _ => DI _ _ ((i:Int) + 1) (by omega) (by omega)) rfl ?_)))
   refine AA _ (AD rfl) rfl ?_
   refine AN (DF (B8 [true, true, false, false, true] ?_))
   show K _ _ [_, _, _] _
   refine EN (.inr (i + 1, rr ++ [x2], nb9, sp2, cp2)) ⟨by omega, by omega, (by rw [hi3]; exact take_step hx2), (ha5).trans (by first | rfl | simp +arith), (ha6).trans (by first | rfl | simp +arith), by omega, by omega⟩ (by first | (simp; omega) | simp | (dsimp only; omega) | omega) (Sub.cons rfl (Sub.cons rfl (Sub.cons rfl (Sub.cons rfl (Sub.cons rfl (Sub.nil)))))) rfl
  ·
   have hp1 : ¬ (((i:Int)) < ((ns:Int))) := of_decide_eq_false hb1
   refine EB (BD (BD (CV (AF (AL (AE (AA (.agg (List.toArray (α := Value) ([I64 (kd), .slice ai ni ci, Slc gb 0 i cp, U64 bl]))) (AK rfl (BH Tryd.isAgg36 CI rfl (MemAt.ent 1 rfl (AM _)))) rfl ?_)))))))
   refine AR (A6 0 nb2 0 4 ([I64 (0:Int), .slice none 0 0, .slice none 0 0, U64 (0:UInt64)]) 36 (.agg (List.toArray (α := Value) ([I64 (kd), .slice ai ni ci, Slc gb 0 i cp, U64 bl]))) ([I64 (kd), .slice ai ni ci, Slc gb 0 i cp, U64 bl]) ([I64 (kd), .slice ai ni ci, Slc gb 0 i cp, U64 bl]) rfl rfl rfl (by first | rfl | simp) CI rfl (by simp [Value.oneCell']) (Nat.le_of_ble_eq_true rfl) (BF (by simp []))) rfl ?_
   rintro v1 L1 ⟨rfl, rfl⟩
   show JL _ _ _ _ _ [⟨nb2, [I64 (kd), .slice ai ni ci, Slc gb 0 i cp, U64 bl], 36, (0, 0)⟩, _, _]
   refine AN (AF (BO (B8 [true, false, true] ?_)))
   show JQ _ _ _ _ [_, _]
   refine BP (.agg (List.toArray (α := Value) ([I64 (kd), .slice ai ni ci, Slc gb 0 i cp, U64 bl]))) (res1 Tryd.results66 (ED rfl (BH Tryd.isAgg36 CI rfl (MemAt.ent 0 rfl (AM _))))) fun w1 hw1 => ?_
   obtain rfl : i = ns := by omega
   have hr : rr = ls := by rw [hi3]; exact List.take_of_length_le (by omega)
   rw [hr] at hw1
   exact ⟨_, _, rfl, ⟨gb, sp, cp, rfl, rfl, by omega, by omega, hi7⟩, hw1.sub (by simp) (by simp)⟩
end Go.Proofs.YtkdpdgpphpngeaaDoor
namespace Go.Proofs.YtkdpdgpphpngeaaDoor
open Go Go.Sx
set_option linter.unusedVariables false
set_option linter.unusedSimpArgs false
set_option maxRecDepth 100000
attribute [local irreducible] mid zr8 zr32 numK rnK rotr wordL spreadL comprL cpN adN spN wrdN constL initL padL stN outN routN sumG putL RightB
theorem rright13_c (kd : Int) (ai : Option Addr) (ni ci : Nat) (l : List UInt64) (sa : Option Addr) (ns sc : Nat) (ls : List SealR) (bl : UInt64)  (w : World) (hl : l.length = ni) (hnm : ni ≤ 2000000) (hnc : ni ≤ ci) (hcm : ci ≤ maxLen) (hv : RdV w ai (cu64 l)) (hls : ls.length = ns) (hnn : ns ≤ 2000000) (hnd : ns ≤ sc) (hcn : sc ≤ maxLen) (hs : RdV w sa (ls.flatMap sealC))  : Calls Tryd.prog 67 #[.agg (List.toArray (α := Value) ([I64 (kd), .slice ai ni ci, .slice sa ns sc, U64 bl]))] w (Post w [] (fun v L => v = .bool (RightO kd l ls bl) ∧ L = [])) := by
 have hmx : maxLen = 9223372036854775807 := rfl
 refine enter (P := Tryd.prog) (f := 67) (fn := Tryd.f67) w [] 89 [] [.agg (List.toArray (α := Value) ([I64 (kd), .slice ai ni ci, .slice sa ns sc, U64 bl]))] Tryd.func67 rfl rfl (by simp) (B7 (by simp) (by simp) (by simp)) ?_
 show JC _ _ _ [(0, .agg (List.toArray (α := Value) ([I64 (kd), .slice ai ni ci, .slice sa ns sc, U64 bl])))] _
 refine AL (AE (AR (CN (.agg (List.toArray (α := Value) ([I64 (kd), .slice ai ni ci, .slice sa ns sc, U64 bl]))) ([I64 (kd), .slice ai ni ci, .slice sa ns sc, U64 bl]) rfl (by first | rfl | simp)) rfl ?_))
 rintro v1 L1 ⟨nb1, hnb1, rfl, rfl⟩
 show JL _ _ _ _ ((1, Ptr nb1 0) :: _) [⟨nb1, [I64 (kd), .slice ai ni ci, .slice sa ns sc, U64 bl], 36, (0, 0)⟩]
 refine AA _ (AH rfl) rfl ?_
 refine AN (AF (AL (AL (AE (AA (Ptr nb1 0) (AC 0 3 1 A8 rfl A7 rfl rfl) rfl ?_)))))
 refine AA (I64 (kd)) (AK rfl (AV BA (MemAt.ent 0 rfl (Seg.head)))) rfl ?_
 refine AA (.bool (decide ((kd) = (3:Int)))) (AQ rfl rfl fun _ => DD _ _) rfl ?_
 refine AN (AF (CT (decide ((kd) = (3:Int))) rfl (fun hb1 => ?_) (fun hb1 => ?_)))
 ·
  have hp1 : (kd) = (3:Int) := of_decide_eq_true hb1
  refine AL (AE (AA (Ptr nb1 1) (AC 1 23 1 A8 rfl CE rfl rfl) rfl ?_))
  refine AA (.slice ai ni ci) (AK rfl (AV CL (MemAt.ent 0 rfl (AJ (Seg.head))))) rfl ?_
  refine AA (I64 ((ni:Int))) (D4 BU rfl) rfl ?_
  refine AA (.bool (decide (((ni:Int)) = (0:Int)))) (AQ rfl rfl fun _ => DD _ _) rfl ?_
  refine AA _ (AD rfl) rfl ?_
  rcases Bool.eq_false_or_eq_true (decide (((ni:Int)) = (0:Int))) with hb2 | hb2
  ·
   have hp2 : ((ni:Int)) = (0:Int) := of_decide_eq_true hb2
   refine AY 4 11 true _ (Ptr nb1 2) rfl rfl hb2 (AC 2 34 1 A8 rfl C7 rfl rfl) rfl ?_
   refine AY 4 11 true _ (.slice sa ns sc) rfl rfl hb2 (AK rfl (AV DV (MemAt.ent 0 rfl (AJ (AJ (Seg.head)))))) rfl ?_
   refine AY 4 11 true _ (I64 ((ns:Int))) rfl rfl hb2 (D4 CX rfl) rfl ?_
   refine AY 4 11 true _ (.bool (decide (((ns:Int)) = (0:Int)))) rfl rfl hb2 (AQ rfl rfl fun _ => DD _ _) rfl ?_
   refine AA _ (B0 _ rfl hb2 rfl) rfl ?_
   refine AA _ (AD rfl) rfl ?_
   rcases Bool.eq_false_or_eq_true (decide (((ns:Int)) = (0:Int))) with hb3 | hb3
   ·
    have hp3 : ((ns:Int)) = (0:Int) := of_decide_eq_true hb3
    refine AY 10 17 true _ (Ptr nb1 3) rfl rfl hb3 (AC 3 22 1 A8 rfl AT rfl rfl) rfl ?_
    refine AY 10 17 true _ (U64 bl) rfl rfl hb3 (AK rfl (AV AU (MemAt.ent 0 rfl (AJ (AJ (AJ (Seg.head))))))) rfl ?_
    refine AY 10 17 true _ (.bool (decide ((0:UInt64) < bl))) rfl rfl hb3 (AQ rfl rfl fun _ => bin_gtr_u64 bl (0:UInt64)) rfl ?_
    refine AA _ (B0 _ rfl hb3 rfl) rfl ?_
    refine AA _ (AD rfl) rfl ?_
    rcases Bool.eq_false_or_eq_true (decide ((0:UInt64) < bl)) with hb4 | hb4
    ·
     have hp4 : (0:UInt64) < bl := of_decide_eq_true hb4
     refine AY 15 22 true _ (Ptr nb1 3) rfl rfl hb4 (AC 3 22 1 A8 rfl AT rfl rfl) rfl ?_
     refine AY 15 22 true _ (U64 bl) rfl rfl hb4 (AK rfl (AV AU (MemAt.ent 0 rfl (AJ (AJ (AJ (Seg.head))))))) rfl ?_
     refine AY 15 22 true _ (.bool (decide (bl ≤ (4294967296:UInt64)))) rfl rfl hb4 (AQ rfl rfl fun _ => bin_leq_u64 bl (4294967296:UInt64)) rfl ?_
     refine AA _ (B0 _ rfl hb4 rfl) rfl ?_
     refine AA _ (AH rfl) rfl ?_
     refine AN (AF (BO (A5 (B8 [false] ?_))))
     show JQ _ _ _ _ []
     refine BP (.bool (decide (bl ≤ (4294967296:UInt64)))) (res1 EJ (BT rfl)) fun w1 hw1 => ?_
     refine ⟨_, [], rfl, ⟨congrArg Value.bool ?_, rfl⟩, hw1.sub (by simp) (by simp)⟩
     unfold RightO
     rw [hl, hls]
     first | rw [if_pos (show kd = 1 by omega)] | rw [if_neg (show ¬ kd = 1 by omega), if_pos (show kd = 2 by omega)] | rw [if_neg (show ¬ kd = 1 by omega), if_neg (show ¬ kd = 2 by omega), if_pos (show kd = 3 by omega)] | rw [if_neg (show ¬ kd = 1 by omega), if_neg (show ¬ kd = 2 by omega), if_neg (show ¬ kd = 3 by omega)]
     rw [show decide ((1:UInt64) ≤ bl) = decide ((0:UInt64) < bl) from decide_eq_decide.2 (bl_pos bl).symm]
     first | rw [decide_eq_true (show ni + ns = 0 by omega), Bool.true_and] | rw [decide_eq_false (show ¬ ni + ns = 0 by omega), Bool.false_and]
     all_goals (first | rfl | (simp only [*, Bool.true_and, Bool.false_and, Bool.and_true, Bool.and_false, Bool.not_true, Bool.not_false]; done) | (simp [*]; done))
    ·
     have hp4 : ¬ ((0:UInt64) < bl) := of_decide_eq_false hb4
     refine AI 15 22 true _ rfl rfl hb4 rfl ?_
     refine AI 15 22 true _ rfl rfl hb4 rfl ?_
     refine AI 15 22 true _ rfl rfl hb4 rfl ?_
     refine AA _ (BM _ rfl hb4 rfl) rfl ?_
     refine AA _ (AH rfl) rfl ?_
     refine AN (AF (BO (A5 (B8 [false] ?_))))
     show JQ _ _ _ _ []
     refine BP (.bool false) (res1 EJ (BT rfl)) fun w1 hw1 => ?_
     refine ⟨_, [], rfl, ⟨congrArg Value.bool ?_, rfl⟩, hw1.sub (by simp) (by simp)⟩
     unfold RightO
     rw [hl, hls]
     first | rw [if_pos (show kd = 1 by omega)] | rw [if_neg (show ¬ kd = 1 by omega), if_pos (show kd = 2 by omega)] | rw [if_neg (show ¬ kd = 1 by omega), if_neg (show ¬ kd = 2 by omega), if_pos (show kd = 3 by omega)] | rw [if_neg (show ¬ kd = 1 by omega), if_neg (show ¬ kd = 2 by omega), if_neg (show ¬ kd = 3 by omega)]
     rw [show decide ((1:UInt64) ≤ bl) = decide ((0:UInt64) < bl) from decide_eq_decide.2 (bl_pos bl).symm]
     first | rw [decide_eq_true (show ni + ns = 0 by omega), Bool.true_and] | rw [decide_eq_false (show ¬ ni + ns = 0 by omega), Bool.false_and]
     all_goals (first | rfl | (simp only [*, Bool.true_and, Bool.false_and, Bool.and_true, Bool.and_false, Bool.not_true, Bool.not_false]; done) | (simp [*]; done))
   ·
    have hp3 : ¬ (((ns:Int)) = (0:Int)) := of_decide_eq_false hb3
    refine AI 10 17 true _ rfl rfl hb3 rfl ?_
    refine AI 10 17 true _ rfl rfl hb3 rfl ?_
    refine AI 10 17 true _ rfl rfl hb3 rfl ?_
    refine AA _ (BM _ rfl hb3 rfl) rfl ?_
    refine AA _ (AD rfl) rfl ?_
    refine AI 15 22 true _ rfl rfl rfl rfl ?_
    refine AI 15 22 true _ rfl rfl rfl rfl ?_
    refine AI 15 22 true _ rfl rfl rfl rfl ?_
    refine AA _ (BM _ rfl rfl rfl) rfl ?_
    refine AA _ (AH rfl) rfl ?_
    refine AN (AF (BO (A5 (B8 [false] ?_))))
    show JQ _ _ _ _ []
    refine BP (.bool false) (res1 EJ (BT rfl)) fun w1 hw1 => ?_
    refine ⟨_, [], rfl, ⟨congrArg Value.bool ?_, rfl⟩, hw1.sub (by simp) (by simp)⟩
    unfold RightO
    rw [hl, hls]
    first | rw [if_pos (show kd = 1 by omega)] | rw [if_neg (show ¬ kd = 1 by omega), if_pos (show kd = 2 by omega)] | rw [if_neg (show ¬ kd = 1 by omega), if_neg (show ¬ kd = 2 by omega), if_pos (show kd = 3 by omega)] | rw [if_neg (show ¬ kd = 1 by omega), if_neg (show ¬ kd = 2 by omega), if_neg (show ¬ kd = 3 by omega)]
    rw [show decide ((1:UInt64) ≤ bl) = decide ((0:UInt64) < bl) from decide_eq_decide.2 (bl_pos bl).symm]
    first | rw [decide_eq_true (show ni + ns = 0 by omega), Bool.true_and] | rw [decide_eq_false (show ¬ ni + ns = 0 by omega), Bool.false_and]
    all_goals (first | rfl | (simp only [*, Bool.true_and, Bool.false_and, Bool.and_true, Bool.and_false, Bool.not_true, Bool.not_false]; done) | (simp [*]; done))
  ·
   have hp2 : ¬ (((ni:Int)) = (0:Int)) := of_decide_eq_false hb2
   refine AI 4 11 true _ rfl rfl hb2 rfl ?_
   refine AI 4 11 true _ rfl rfl hb2 rfl ?_
   refine AI 4 11 true _ rfl rfl hb2 rfl ?_
   refine AI 4 11 true _ rfl rfl hb2 rfl ?_
   refine AA _ (BM _ rfl hb2 rfl) rfl ?_
   refine AA _ (AD rfl) rfl ?_
   refine AI 10 17 true _ rfl rfl rfl rfl ?_
   refine AI 10 17 true _ rfl rfl rfl rfl ?_
   refine AI 10 17 true _ rfl rfl rfl rfl ?_
   refine AA _ (BM _ rfl rfl rfl) rfl ?_
   refine AA _ (AD rfl) rfl ?_
   refine AI 15 22 true _ rfl rfl rfl rfl ?_
   refine AI 15 22 true _ rfl rfl rfl rfl ?_
   refine AI 15 22 true _ rfl rfl rfl rfl ?_
   refine AA _ (BM _ rfl rfl rfl) rfl ?_
   refine AA _ (AH rfl) rfl ?_
   refine AN (AF (BO (A5 (B8 [false] ?_))))
   show JQ _ _ _ _ []
   refine BP (.bool false) (res1 EJ (BT rfl)) fun w1 hw1 => ?_
   refine ⟨_, [], rfl, ⟨congrArg Value.bool ?_, rfl⟩, hw1.sub (by simp) (by simp)⟩
   unfold RightO
   rw [hl, hls]
   first | rw [if_pos (show kd = 1 by omega)] | rw [if_neg (show ¬ kd = 1 by omega), if_pos (show kd = 2 by omega)] | rw [if_neg (show ¬ kd = 1 by omega), if_neg (show ¬ kd = 2 by omega), if_pos (show kd = 3 by omega)] | rw [if_neg (show ¬ kd = 1 by omega), if_neg (show ¬ kd = 2 by omega), if_neg (show ¬ kd = 3 by omega)]
   rw [show decide ((1:UInt64) ≤ bl) = decide ((0:UInt64) < bl) from decide_eq_decide.2 (bl_pos bl).symm]
   first | rw [decide_eq_true (show ni + ns = 0 by omega), Bool.true_and] | rw [decide_eq_false (show ¬ ni + ns = 0 by omega), Bool.false_and]
   all_goals (first | rfl | (simp only [*, Bool.true_and, Bool.false_and, Bool.and_true, Bool.and_false, Bool.not_true, Bool.not_false]; done) | (simp [*]; done))
 ·
  have hp1 : ¬ ((kd) = (3:Int)) := of_decide_eq_false hb1
  refine B4 (AF (AL (AL (AE (AA (Ptr nb1 0) (AC 0 3 1 A8 rfl A7 rfl rfl) rfl ?_)))))
  refine AA (I64 (kd)) (AK rfl (AV BA (MemAt.ent 0 rfl (Seg.head)))) rfl ?_
  refine AA (.bool (decide ((kd) ≠ (1:Int)))) (AQ rfl rfl fun _ => E8 _ _) rfl ?_
  refine AA _ (AD rfl) rfl ?_
  rcases Bool.eq_false_or_eq_true (decide ((kd) ≠ (1:Int))) with hb5 | hb5
  ·
   have hp5 : (kd) ≠ (1:Int) := of_decide_eq_true hb5
   refine AY 3 30 true _ (Ptr nb1 0) rfl rfl hb5 (AC 0 3 1 A8 rfl A7 rfl rfl) rfl ?_
   refine AY 3 30 true _ (I64 (kd)) rfl rfl hb5 (AK rfl (AV BA (MemAt.ent 0 rfl (Seg.head)))) rfl ?_
   refine AY 3 30 true _ (.bool (decide ((kd) ≠ (2:Int)))) rfl rfl hb5 (AQ rfl rfl fun _ => E8 _ _) rfl ?_
   refine AA _ (B0 _ rfl hb5 rfl) rfl ?_
   refine AA _ (AD rfl) rfl ?_
   rcases Bool.eq_false_or_eq_true (decide ((kd) ≠ (2:Int))) with hb6 | hb6
   ·
    have hp6 : (kd) ≠ (2:Int) := of_decide_eq_true hb6
    refine AI 8 35 false _ rfl rfl hb6 rfl ?_
    refine AI 8 35 false _ rfl rfl hb6 rfl ?_
    refine AI 8 35 false _ rfl rfl hb6 rfl ?_
    refine AA _ (B0 _ rfl hb6 rfl) rfl ?_
    refine AA _ (AD rfl) rfl ?_
    refine AI 13 40 false _ rfl rfl rfl rfl ?_
    refine AI 13 40 false _ rfl rfl rfl rfl ?_
    refine AI 13 40 false _ rfl rfl rfl rfl ?_
    refine AI 13 40 false _ rfl rfl rfl rfl ?_
    refine AA _ (B0 _ rfl rfl rfl) rfl ?_
    refine AN (AF (C9 _ rfl rfl ?_))
    refine AL (AE (AA _ (AH rfl) rfl ?_))
    refine AN (AF (BO (A5 (B8 [false] ?_))))
    show JQ _ _ _ _ []
    refine BP (.bool false) (res1 EJ (BT rfl)) fun w1 hw1 => ?_
    refine ⟨_, [], rfl, ⟨congrArg Value.bool ?_, rfl⟩, hw1.sub (by simp) (by simp)⟩
    unfold RightO
    rw [hl, hls]
    first | rw [if_pos (show kd = 1 by omega)] | rw [if_neg (show ¬ kd = 1 by omega), if_pos (show kd = 2 by omega)] | rw [if_neg (show ¬ kd = 1 by omega), if_neg (show ¬ kd = 2 by omega), if_pos (show kd = 3 by omega)] | rw [if_neg (show ¬ kd = 1 by omega), if_neg (show ¬ kd = 2 by omega), if_neg (show ¬ kd = 3 by omega)]
    all_goals (first | rfl | (simp [*]; done) | (simp_all; done) | (simp_all; omega))
   ·
    have hp6 : ¬ ((kd) ≠ (2:Int)) := of_decide_eq_false hb6
    refine AY 8 35 false _ (Ptr nb1 3) rfl rfl hb6 (AC 3 22 1 A8 rfl AT rfl rfl) rfl ?_
    refine AY 8 35 false _ (U64 bl) rfl rfl hb6 (AK rfl (AV AU (MemAt.ent 0 rfl (AJ (AJ (AJ (Seg.head))))))) rfl ?_
    refine AY 8 35 false _ (.bool (decide (bl ≠ (0:UInt64)))) rfl rfl hb6 (AQ rfl rfl fun _ => EP bl (0:UInt64)) rfl ?_
    refine AA _ (BM _ rfl hb6 rfl) rfl ?_
    refine AA _ (AD rfl) rfl ?_
    rcases Bool.eq_false_or_eq_true (decide (bl ≠ (0:UInt64))) with hb7 | hb7
    ·
     have hp7 : bl ≠ (0:UInt64) := of_decide_eq_true hb7
     refine AI 13 40 false _ rfl rfl hb7 rfl ?_
     refine AI 13 40 false _ rfl rfl hb7 rfl ?_
     refine AI 13 40 false _ rfl rfl hb7 rfl ?_
     refine AI 13 40 false _ rfl rfl hb7 rfl ?_
     refine AA _ (B0 _ rfl hb7 rfl) rfl ?_
     refine AN (AF (C9 _ rfl rfl ?_))
     refine AL (AE (AA _ (AH rfl) rfl ?_))
     refine AN (AF (BO (A5 (B8 [false] ?_))))
     show JQ _ _ _ _ []
     refine BP (.bool false) (res1 EJ (BT rfl)) fun w1 hw1 => ?_
     refine ⟨_, [], rfl, ⟨congrArg Value.bool ?_, rfl⟩, hw1.sub (by simp) (by simp)⟩
     unfold RightO
     rw [hl, hls]
     first | rw [if_pos (show kd = 1 by omega)] | rw [if_neg (show ¬ kd = 1 by omega), if_pos (show kd = 2 by omega)] | rw [if_neg (show ¬ kd = 1 by omega), if_neg (show ¬ kd = 2 by omega), if_pos (show kd = 3 by omega)] | rw [if_neg (show ¬ kd = 1 by omega), if_neg (show ¬ kd = 2 by omega), if_neg (show ¬ kd = 3 by omega)]
     all_goals (first | rfl | (simp [*]; done) | (simp_all; done) | (simp_all; omega))
    ·
     have hp7 : ¬ (bl ≠ (0:UInt64)) := of_decide_eq_false hb7
     refine AY 13 40 false _ (Ptr nb1 1) rfl rfl hb7 (AC 1 23 1 A8 rfl CE rfl rfl) rfl ?_
     refine AY 13 40 false _ (.slice ai ni ci) rfl rfl hb7 (AK rfl (AV CL (MemAt.ent 0 rfl (AJ (Seg.head))))) rfl ?_
     refine FL 13 40 false _ rfl rfl hb7 (A3 79 [I64 (32:Int), .slice ai ni ci] (.bool (decide (RightI l))) (A0 [I64 (32:Int), .slice ai ni ci] Tryd.call79 rfl) (fun w1 hw1 => rpright_c ai ni ci l w1 hl (by omega) (by omega) (by omega) (C1 hw1 rfl hv))) rfl ?_
     rintro v1 L1 ⟨rfl, rfl⟩
     show JL _ _ _ _ ((43, .bool (decide (RightI l))) :: _) [_]
     refine AY 13 40 false _ (.bool (!(decide (RightI l)))) rfl rfl hb7 (FK rfl) rfl ?_
     refine AA _ (BM _ rfl hb7 rfl) rfl ?_
     refine AN (AF (CT (!(decide (RightI l))) rfl (fun hb8 => ?_) (fun hb8 => ?_)))
     ·
      have hb9 : (decide (RightI l)) = false := by simpa using hb8
      have hp9 : ¬ (RightI l) := of_decide_eq_false hb9
      refine AL (AE (AA _ (AH rfl) rfl ?_))
      refine AN (AF (BO (A5 (B8 [false] ?_))))
      show JQ _ _ _ _ []
      refine BP (.bool false) (res1 EJ (BT rfl)) fun w1 hw1 => ?_
      refine ⟨_, [], rfl, ⟨congrArg Value.bool ?_, rfl⟩, hw1.sub (by simp) (by simp)⟩
      unfold RightO
      rw [hl, hls]
      first | rw [if_pos (show kd = 1 by omega)] | rw [if_neg (show ¬ kd = 1 by omega), if_pos (show kd = 2 by omega)] | rw [if_neg (show ¬ kd = 1 by omega), if_neg (show ¬ kd = 2 by omega), if_pos (show kd = 3 by omega)] | rw [if_neg (show ¬ kd = 1 by omega), if_neg (show ¬ kd = 2 by omega), if_neg (show ¬ kd = 3 by omega)]
      all_goals (first | rfl | (simp [*]; done) | (simp_all; done) | (simp_all; omega))
     ·
      have hb10 : (decide (RightI l)) = true := by simpa using hb8
      have hp10 : RightI l := of_decide_eq_true hb10
      refine B4 (AF (AL (AL (AE (AA (Ptr nb1 0) (AC 0 3 1 A8 rfl A7 rfl rfl) rfl ?_)))))
      refine AA (I64 (kd)) (AK rfl (AV BA (MemAt.ent 0 rfl (Seg.head)))) rfl ?_
      refine AA (.bool (decide ((kd) = (2:Int)))) (AQ rfl rfl fun _ => DD _ _) rfl ?_
      refine AN (AF (C9 _ rfl (decide_eq_true (by have := of_decide_eq_false hb6; omega)) ?_))
      refine AL (AE (AA (Ptr nb1 2) (AC 2 34 1 A8 rfl C7 rfl rfl) rfl ?_))
      refine AA (.slice sa ns sc) (AK rfl (AV DV (MemAt.ent 0 rfl (AJ (AJ (Seg.head)))))) rfl ?_
      refine AA (I64 ((ns:Int))) (D4 CX rfl) rfl ?_
      refine AA (.bool (decide (((ns:Int)) = (0:Int)))) (AQ rfl rfl fun _ => DD _ _) rfl ?_
      refine AA _ (AH rfl) rfl ?_
      refine AN (AF (BO (A5 (B8 [false] ?_))))
      show JQ _ _ _ _ []
      refine BP (.bool (decide (((ns:Int)) = (0:Int)))) (res1 EJ (BT rfl)) fun w1 hw1 => ?_
      refine ⟨_, [], rfl, ⟨congrArg Value.bool ?_, rfl⟩, hw1.sub (by simp) (by simp)⟩
      unfold RightO
      rw [hl, hls]
      first | rw [if_pos (show kd = 1 by omega)] | rw [if_neg (show ¬ kd = 1 by omega), if_pos (show kd = 2 by omega)] | rw [if_neg (show ¬ kd = 1 by omega), if_neg (show ¬ kd = 2 by omega), if_pos (show kd = 3 by omega)] | rw [if_neg (show ¬ kd = 1 by omega), if_neg (show ¬ kd = 2 by omega), if_neg (show ¬ kd = 3 by omega)]
      all_goals (first | rfl | (simp [*]; done) | (simp_all; done) | (simp_all; omega))
  ·
   have hp5 : ¬ ((kd) ≠ (1:Int)) := of_decide_eq_false hb5
   refine AI 3 30 true _ rfl rfl hb5 rfl ?_
   refine AI 3 30 true _ rfl rfl hb5 rfl ?_
   refine AI 3 30 true _ rfl rfl hb5 rfl ?_
   refine AA _ (BM _ rfl hb5 rfl) rfl ?_
   refine AA _ (AD rfl) rfl ?_
   refine AY 8 35 false _ (Ptr nb1 3) rfl rfl rfl (AC 3 22 1 A8 rfl AT rfl rfl) rfl ?_
   refine AY 8 35 false _ (U64 bl) rfl rfl rfl (AK rfl (AV AU (MemAt.ent 0 rfl (AJ (AJ (AJ (Seg.head))))))) rfl ?_
   refine AY 8 35 false _ (.bool (decide (bl ≠ (0:UInt64)))) rfl rfl rfl (AQ rfl rfl fun _ => EP bl (0:UInt64)) rfl ?_
   refine AA _ (BM _ rfl rfl rfl) rfl ?_
   refine AA _ (AD rfl) rfl ?_
   rcases Bool.eq_false_or_eq_true (decide (bl ≠ (0:UInt64))) with hb11 | hb11
   ·
    have hp11 : bl ≠ (0:UInt64) := of_decide_eq_true hb11
    refine AI 13 40 false _ rfl rfl hb11 rfl ?_
    refine AI 13 40 false _ rfl rfl hb11 rfl ?_
    refine AI 13 40 false _ rfl rfl hb11 rfl ?_
    refine AI 13 40 false _ rfl rfl hb11 rfl ?_
    refine AA _ (B0 _ rfl hb11 rfl) rfl ?_
    refine AN (AF (C9 _ rfl rfl ?_))
    refine AL (AE (AA _ (AH rfl) rfl ?_))
    refine AN (AF (BO (A5 (B8 [false] ?_))))
    show JQ _ _ _ _ []
    refine BP (.bool false) (res1 EJ (BT rfl)) fun w1 hw1 => ?_
    refine ⟨_, [], rfl, ⟨congrArg Value.bool ?_, rfl⟩, hw1.sub (by simp) (by simp)⟩
    unfold RightO
    rw [hl, hls]
    first | rw [if_pos (show kd = 1 by omega)] | rw [if_neg (show ¬ kd = 1 by omega), if_pos (show kd = 2 by omega)] | rw [if_neg (show ¬ kd = 1 by omega), if_neg (show ¬ kd = 2 by omega), if_pos (show kd = 3 by omega)] | rw [if_neg (show ¬ kd = 1 by omega), if_neg (show ¬ kd = 2 by omega), if_neg (show ¬ kd = 3 by omega)]
    all_goals (first | rfl | (simp [*]; done) | (simp_all; done) | (simp_all; omega))
   ·
    have hp11 : ¬ (bl ≠ (0:UInt64)) := of_decide_eq_false hb11
    refine AY 13 40 false _ (Ptr nb1 1) rfl rfl hb11 (AC 1 23 1 A8 rfl CE rfl rfl) rfl ?_
    refine AY 13 40 false _ (.slice ai ni ci) rfl rfl hb11 (AK rfl (AV CL (MemAt.ent 0 rfl (AJ (Seg.head))))) rfl ?_
    refine FL 13 40 false _ rfl rfl hb11 (A3 79 [I64 (32:Int), .slice ai ni ci] (.bool (decide (RightI l))) (A0 [I64 (32:Int), .slice ai ni ci] Tryd.call79 rfl) (fun w1 hw1 => rpright_c ai ni ci l w1 hl (by omega) (by omega) (by omega) (C1 hw1 rfl hv))) rfl ?_
    rintro v1 L1 ⟨rfl, rfl⟩
    show JL _ _ _ _ ((43, .bool (decide (RightI l))) :: _) [_]
    refine AY 13 40 false _ (.bool (!(decide (RightI l)))) rfl rfl hb11 (FK rfl) rfl ?_
    refine AA _ (BM _ rfl hb11 rfl) rfl ?_
    refine AN (AF (CT (!(decide (RightI l))) rfl (fun hb12 => ?_) (fun hb12 => ?_)))
    ·
     have hb13 : (decide (RightI l)) = false := by simpa using hb12
     have hp13 : ¬ (RightI l) := of_decide_eq_false hb13
     refine AL (AE (AA _ (AH rfl) rfl ?_))
     refine AN (AF (BO (A5 (B8 [false] ?_))))
     show JQ _ _ _ _ []
     refine BP (.bool false) (res1 EJ (BT rfl)) fun w1 hw1 => ?_
     refine ⟨_, [], rfl, ⟨congrArg Value.bool ?_, rfl⟩, hw1.sub (by simp) (by simp)⟩
     unfold RightO
     rw [hl, hls]
     first | rw [if_pos (show kd = 1 by omega)] | rw [if_neg (show ¬ kd = 1 by omega), if_pos (show kd = 2 by omega)] | rw [if_neg (show ¬ kd = 1 by omega), if_neg (show ¬ kd = 2 by omega), if_pos (show kd = 3 by omega)] | rw [if_neg (show ¬ kd = 1 by omega), if_neg (show ¬ kd = 2 by omega), if_neg (show ¬ kd = 3 by omega)]
     all_goals (first | rfl | (simp [*]; done) | (simp_all; done) | (simp_all; omega))
    ·
     have hb14 : (decide (RightI l)) = true := by simpa using hb12
     have hp14 : RightI l := of_decide_eq_true hb14
     refine B4 (AF (AL (AL (AE (AA (Ptr nb1 0) (AC 0 3 1 A8 rfl A7 rfl rfl) rfl ?_)))))
     refine AA (I64 (kd)) (AK rfl (AV BA (MemAt.ent 0 rfl (Seg.head)))) rfl ?_
     refine AA (.bool (decide ((kd) = (2:Int)))) (AQ rfl rfl fun _ => DD _ _) rfl ?_
     refine AN (AF (CT (decide ((kd) = (2:Int))) rfl (fun hb15 => ?_) (fun hb15 => ?_)))
     ·
      have hp15 : (kd) = (2:Int) := of_decide_eq_true hb15
      refine AL (AE (AA (Ptr nb1 2) (AC 2 34 1 A8 rfl C7 rfl rfl) rfl ?_))
      refine AA (.slice sa ns sc) (AK rfl (AV DV (MemAt.ent 0 rfl (AJ (AJ (Seg.head)))))) rfl ?_
      refine AA (I64 ((ns:Int))) (D4 CX rfl) rfl ?_
      refine AA (.bool (decide (((ns:Int)) = (0:Int)))) (AQ rfl rfl fun _ => DD _ _) rfl ?_
      refine AA _ (AH rfl) rfl ?_
      refine AN (AF (BO (A5 (B8 [false] ?_))))
      show JQ _ _ _ _ []
      refine BP (.bool (decide (((ns:Int)) = (0:Int)))) (res1 EJ (BT rfl)) fun w1 hw1 => ?_
      refine ⟨_, [], rfl, ⟨congrArg Value.bool ?_, rfl⟩, hw1.sub (by simp) (by simp)⟩
      unfold RightO
      rw [hl, hls]
      first | rw [if_pos (show kd = 1 by omega)] | rw [if_neg (show ¬ kd = 1 by omega), if_pos (show kd = 2 by omega)] | rw [if_neg (show ¬ kd = 1 by omega), if_neg (show ¬ kd = 2 by omega), if_pos (show kd = 3 by omega)] | rw [if_neg (show ¬ kd = 1 by omega), if_neg (show ¬ kd = 2 by omega), if_neg (show ¬ kd = 3 by omega)]
      all_goals (first | rfl | (simp [*]; done) | (simp_all; done) | (simp_all; omega))
     ·
      have hp15 : ¬ ((kd) = (2:Int)) := of_decide_eq_false hb15
      refine B4 (AF (AL (AL (AE (AA _ (AH rfl) rfl ?_)))))
      refine AN (AF (B5 (EE (ι := Nat) (fun i => [(1, Ptr nb1 0), (3, I64 ((i:Int)))]) (fun i => [⟨nb1, [I64 (kd), .slice ai ni ci, .slice sa ns sc, U64 bl], 36, (0, 0)⟩]) (fun i => i ≤ ns ∧ ∀ k, k < i → ∀ y, ls[k]? = some y → (fun x => oddB (headE ls) (SealR.e x)) y = false) (fun i => ns - i) 0 ⟨by omega, fun k hk => absurd hk (by omega)⟩ (Sub.cons rfl (Sub.cons rfl (Sub.nil))) rfl ?_)))
      rintro i ⟨hi1, hi2⟩
      show JC _ _ _ [(1, Ptr nb1 0), (3, I64 ((i:Int)))] [⟨nb1, [I64 (kd), .slice ai ni ci, .slice sa ns sc, U64 bl], 36, (0, 0)⟩]
      refine AL (AL (AE (AA _ (AD rfl) rfl ?_)))
      refine AA (Ptr nb1 2) (AC 2 34 1 A8 rfl C7 rfl rfl) rfl ?_
      refine AA (.slice sa ns sc) (AK rfl (AV DV (MemAt.ent 0 rfl (AJ (AJ (Seg.head)))))) rfl ?_
      refine AA (I64 ((ns:Int))) (D4 CX rfl) rfl ?_
      refine AA (.bool (decide (((i:Int)) < ((ns:Int))))) (AQ rfl rfl fun _ => DB _ _) rfl ?_
      refine AN (AF (CT (decide (((i:Int)) < ((ns:Int)))) rfl (fun hb16 => ?_) (fun hb16 => ?_)))
      ·
       have hp16 : ((i:Int)) < ((ns:Int)) := of_decide_eq_true hb16
       refine B4 (AF (AL (B5 (AL ?_))))
       obtain ⟨x1, hx1⟩ : ∃ x, ls[i]? = some x := ⟨_, List.getElem?_eq_getElem (by rw [hls]; omega)⟩
       obtain ⟨bz1, oz1, hz1, hm1⟩ := F6 E2 (by decide) hs hx1
       obtain ⟨x2, hx2⟩ : ∃ x, ls[0]? = some x := ⟨_, List.getElem?_eq_getElem (by rw [hls]; omega)⟩
       obtain ⟨bz2, oz2, hz2, hm2⟩ := F6 E2 (by decide) hs hx2
       rcases Bool.eq_false_or_eq_true (RightB (0:UInt64) x1.e) with hb17 | hb17
       ·
        refine CQ 89 2 [(0, Ptr nb1 2), (1, .slice sa ns sc), (2, I64 ((i:Int))), (3, Ptr bz1 (49*i + oz1)), (4, Ptr bz1 (49*i + oz1)), (5, U64 x1.e)] BQ rfl (by decide +kernel) ?_
        refine BR ⟨[], [0, 1, 2, 3, 4, 5], [], [0, 1, 2, 3, 4, 5], [6]⟩ 6 _ rfl rfl (by decide +kernel) rfl ⟨⟨_, rfl, AB rfl (AC 2 34 1 A8 rfl C7 rfl rfl)⟩, ⟨_, rfl, AB rfl (AK rfl (AV DV (MemAt.ent 0 rfl (AJ (AJ (Seg.head))))))⟩, ⟨_, rfl, AB rfl (AD rfl)⟩, ⟨_, rfl, AB rfl (CW 164 49 (49*i + oz1) CX EG rfl hz1 rfl (by omega) (by omega) (by omega))⟩, ⟨_, rfl, AB rfl (AC 0 22 1 EY rfl AT rfl rfl)⟩, ⟨_, rfl, AB rfl (AK rfl (AV AU (CU (hm1.mem (by simp)) (A2 (A2 (Seg.head))) (by omega))))⟩, trivial⟩ rfl (AZ rfl (A3 111 [U64 (0:UInt64), U64 x1.e] (.bool (RightB (0:UInt64) x1.e)) (A0 [U64 (0:UInt64), U64 x1.e] Tryd.call111 rfl) (fun w1 hw1 => rright_c (0:UInt64) x1.e w1 ))) ?_
        rintro v1 L1 ⟨rfl, rfl⟩
        refine ⟨[(7, .bool (!(RightB (0:UInt64) x1.e))), (8, .bool (!(RightB (0:UInt64) x1.e))), (9, Ptr nb1 2), (10, .slice sa ns sc), (11, I64 ((i:Int))), (12, Ptr bz1 (49*i + oz1)), (13, Ptr bz1 (49*i + oz1)), (14, U64 x1.e), (15, Ptr nb1 2), (16, .slice sa ns sc), (17, Ptr bz2 oz2), (18, Ptr bz2 oz2), (19, U64 x2.e), (20, .bool (decide (x1.e ≠ x2.e))), (21, .bool (decide (x1.e ≠ x2.e)))], ?_⟩
        show DP _ _ _ _ _ _ _ _ [_]
        refine CZ ⟨[6], [0, 1, 2, 3, 4, 5, 7, 8, 9, 10, 11, 12, 13, 14, 15, 16, 17, 18, 19, 20, 21], [0, 1, 2, 3, 4, 5], [7, 8, 9, 10, 11, 12, 13, 14, 15, 16, 17, 18, 19, 20, 21], []⟩ rfl rfl (by decide +kernel) rfl ⟨⟨_, rfl, AB rfl (FK rfl)⟩, ⟨_, rfl, AB rfl (AD rfl)⟩, ⟨_, rfl, BS 8 68 false _ rfl rfl rfl (by rw [show (RightB (0:UInt64) x1.e) = true from hb17] <;> rfl) (AC 2 34 1 A8 rfl C7 rfl rfl)⟩, ⟨_, rfl, BS 8 68 false _ rfl rfl rfl (by rw [show (RightB (0:UInt64) x1.e) = true from hb17] <;> rfl) (AK rfl (AV DV (MemAt.ent 0 rfl (AJ (AJ (Seg.head))))))⟩, ⟨_, rfl, BS 8 68 false _ rfl rfl rfl (by rw [show (RightB (0:UInt64) x1.e) = true from hb17] <;> rfl) (AD rfl)⟩, ⟨_, rfl, BS 8 68 false _ rfl rfl rfl (by rw [show (RightB (0:UInt64) x1.e) = true from hb17] <;> rfl) (CW 164 49 (49*i + oz1) CX EG rfl hz1 rfl (by omega) (by omega) (by omega))⟩, ⟨_, rfl, BS 8 68 false _ rfl rfl rfl (by rw [show (RightB (0:UInt64) x1.e) = true from hb17] <;> rfl) (AC 0 22 1 EY rfl AT rfl rfl)⟩, ⟨_, rfl, BS 8 68 false _ rfl rfl rfl (by rw [show (RightB (0:UInt64) x1.e) = true from hb17] <;> rfl) (AK rfl (AV AU (CU (hm1.mem (by simp)) (A2 (A2 (Seg.head))) (by omega))))⟩, ⟨_, rfl, BS 8 68 false _ rfl rfl rfl (by rw [show (RightB (0:UInt64) x1.e) = true from hb17] <;> rfl) (AC 2 34 1 A8 rfl C7 rfl rfl)⟩, ⟨_, rfl, BS 8 68 false _ rfl rfl rfl (by rw [show (RightB (0:UInt64) x1.e) = true from hb17] <;> rfl) (AK rfl (AV DV (MemAt.ent 0 rfl (AJ (AJ (Seg.head))))))⟩, ⟨_, rfl, BS 8 68 false _ rfl rfl rfl (by rw [show (RightB (0:UInt64) x1.e) = true from hb17] <;> rfl) (CW 164 49 oz2 CX EG rfl hz2 rfl (by omega) (by omega) (by omega))⟩, ⟨_, rfl, BS 8 68 false _ rfl rfl rfl (by rw [show (RightB (0:UInt64) x1.e) = true from hb17] <;> rfl) (AC 0 22 1 EY rfl AT rfl rfl)⟩, ⟨_, rfl, BS 8 68 false _ rfl rfl rfl (by rw [show (RightB (0:UInt64) x1.e) = true from hb17] <;> rfl) (AK rfl (AV AU (CU (hm2.mem (by simp)) (A2 (A2 (Seg.head))) (by omega))))⟩, ⟨_, rfl, BS 8 68 false _ rfl rfl rfl (by rw [show (RightB (0:UInt64) x1.e) = true from hb17] <;> rfl) (AQ rfl rfl fun _ => EP x1.e x2.e)⟩, ⟨_, rfl, AB rfl (BM _ rfl (by rw [show (RightB (0:UInt64) x1.e) = true from hb17] <;> rfl) rfl)⟩, trivial⟩ ?_
        refine CC (F' := [(60, Ptr nb1 2), (61, .slice sa ns sc), (62, I64 ((i:Int))), (63, Ptr bz1 (49*i + oz1)), (64, Ptr bz1 (49*i + oz1)), (65, U64 x1.e), (66, .bool (RightB (0:UInt64) x1.e)), (67, .bool (!(RightB (0:UInt64) x1.e))), (68, .bool (!(RightB (0:UInt64) x1.e))), (69, Ptr nb1 2), (70, .slice sa ns sc), (71, I64 ((i:Int))), (72, Ptr bz1 (49*i + oz1)), (73, Ptr bz1 (49*i + oz1)), (74, U64 x1.e), (75, Ptr nb1 2), (76, .slice sa ns sc), (77, Ptr bz2 oz2), (78, Ptr bz2 oz2), (79, U64 x2.e), (80, .bool (decide (x1.e ≠ x2.e))), (81, .bool (decide (x1.e ≠ x2.e))), (1, Ptr nb1 0), (3, I64 ((i:Int))), (53, I64 ((i:Int))), (54, Ptr nb1 2), (55, .slice sa ns sc), (56, I64 ((ns:Int))), (57, .bool (decide (((i:Int)) < ((ns:Int)))))]) (by kernel_rfl) ?_
        refine AF (CT (decide (x1.e ≠ x2.e)) rfl (fun hb18 => ?_) (fun hb18 => ?_))
        ·
         have hp18 : x1.e ≠ x2.e := of_decide_eq_true hb18
         refine AL (AE (AA _ (AH rfl) rfl ?_))
         refine AN (AF (BO (C8 (A5 (A5 (C8 (A5 (B8 [false] ?_))))))))
         show JQ _ _ _ _ []
         refine BP (.bool false) (res1 EJ (BT rfl)) fun w1 hw1 => ?_
         refine ⟨_, [], rfl, ⟨congrArg Value.bool ?_, rfl⟩, hw1.sub (by simp) (by simp)⟩
         unfold RightO
         rw [hl, hls]
         first | rw [if_pos (show kd = 1 by omega)] | rw [if_neg (show ¬ kd = 1 by omega), if_pos (show kd = 2 by omega)] | rw [if_neg (show ¬ kd = 1 by omega), if_neg (show ¬ kd = 2 by omega), if_pos (show kd = 3 by omega)] | rw [if_neg (show ¬ kd = 1 by omega), if_neg (show ¬ kd = 2 by omega), if_neg (show ¬ kd = 3 by omega)]
         have ha : ls.any (fun x => oddB (headE ls) (SealR.e x)) = true := any_odd hx1 (by first | (simp [oddB, *]; done) | (rw [FY hx2]; simp [oddB, *]; done))
         simp [*]
        ·
         have hp18 : ¬ (x1.e ≠ x2.e) := of_decide_eq_false hb18
         refine B4 (B1 (AF (AE (AA _ (AD rfl) rfl ?_))))
         refine AA (I64 ((i:Int) + 1)) (AQ rfl rfl fun _ => DI _ _ ((i:Int) + 1) (by omega) (by omega)) rfl ?_
         refine AA _ (AH rfl) rfl ?_
         refine AN (DF (EN (i + 1) ⟨by omega, find_step hx1 (by show oddB (headE ls) x1.e = false; rw [FY hx2]; simp [oddB, *]) hi2⟩ (by first | (simp; omega) | simp | (dsimp only; omega) | omega) (Sub.cons rfl (Sub.cons rfl (Sub.nil))) rfl))
       ·
        refine CQ 89 2 [(0, Ptr nb1 2), (1, .slice sa ns sc), (2, I64 ((i:Int))), (3, Ptr bz1 (49*i + oz1)), (4, Ptr bz1 (49*i + oz1)), (5, U64 x1.e)] BQ rfl (by decide +kernel) ?_
        refine BR ⟨[], [0, 1, 2, 3, 4, 5], [], [0, 1, 2, 3, 4, 5], [6]⟩ 6 _ rfl rfl (by decide +kernel) rfl ⟨⟨_, rfl, AB rfl (AC 2 34 1 A8 rfl C7 rfl rfl)⟩, ⟨_, rfl, AB rfl (AK rfl (AV DV (MemAt.ent 0 rfl (AJ (AJ (Seg.head))))))⟩, ⟨_, rfl, AB rfl (AD rfl)⟩, ⟨_, rfl, AB rfl (CW 164 49 (49*i + oz1) CX EG rfl hz1 rfl (by omega) (by omega) (by omega))⟩, ⟨_, rfl, AB rfl (AC 0 22 1 EY rfl AT rfl rfl)⟩, ⟨_, rfl, AB rfl (AK rfl (AV AU (CU (hm1.mem (by simp)) (A2 (A2 (Seg.head))) (by omega))))⟩, trivial⟩ rfl (AZ rfl (A3 111 [U64 (0:UInt64), U64 x1.e] (.bool (RightB (0:UInt64) x1.e)) (A0 [U64 (0:UInt64), U64 x1.e] Tryd.call111 rfl) (fun w1 hw1 => rright_c (0:UInt64) x1.e w1 ))) ?_
        rintro v1 L1 ⟨rfl, rfl⟩
        refine ⟨[(7, .bool (!(RightB (0:UInt64) x1.e))), (8, .bool (!(RightB (0:UInt64) x1.e))), (9, undef), (10, undef), (11, undef), (12, undef), (13, undef), (14, undef), (15, undef), (16, undef), (17, undef), (18, undef), (19, undef), (20, undef), (21, .bool true)], ?_⟩
        show DP _ _ _ _ _ _ _ _ [_]
        refine CZ ⟨[6], [0, 1, 2, 3, 4, 5, 7, 8, 9, 10, 11, 12, 13, 14, 15, 16, 17, 18, 19, 20, 21], [0, 1, 2, 3, 4, 5], [7, 8, 9, 10, 11, 12, 13, 14, 15, 16, 17, 18, 19, 20, 21], []⟩ rfl rfl (by decide +kernel) rfl ⟨⟨_, rfl, AB rfl (FK rfl)⟩, ⟨_, rfl, AB rfl (AD rfl)⟩, ⟨_, rfl, CH 8 68 false _ rfl rfl rfl (by rw [show (RightB (0:UInt64) x1.e) = false from hb17] <;> rfl)⟩, ⟨_, rfl, CH 8 68 false _ rfl rfl rfl (by rw [show (RightB (0:UInt64) x1.e) = false from hb17] <;> rfl)⟩, ⟨_, rfl, CH 8 68 false _ rfl rfl rfl (by rw [show (RightB (0:UInt64) x1.e) = false from hb17] <;> rfl)⟩, ⟨_, rfl, CH 8 68 false _ rfl rfl rfl (by rw [show (RightB (0:UInt64) x1.e) = false from hb17] <;> rfl)⟩, ⟨_, rfl, CH 8 68 false _ rfl rfl rfl (by rw [show (RightB (0:UInt64) x1.e) = false from hb17] <;> rfl)⟩, ⟨_, rfl, CH 8 68 false _ rfl rfl rfl (by rw [show (RightB (0:UInt64) x1.e) = false from hb17] <;> rfl)⟩, ⟨_, rfl, CH 8 68 false _ rfl rfl rfl (by rw [show (RightB (0:UInt64) x1.e) = false from hb17] <;> rfl)⟩, ⟨_, rfl, CH 8 68 false _ rfl rfl rfl (by rw [show (RightB (0:UInt64) x1.e) = false from hb17] <;> rfl)⟩, ⟨_, rfl, CH 8 68 false _ rfl rfl rfl (by rw [show (RightB (0:UInt64) x1.e) = false from hb17] <;> rfl)⟩, ⟨_, rfl, CH 8 68 false _ rfl rfl rfl (by rw [show (RightB (0:UInt64) x1.e) = false from hb17] <;> rfl)⟩, ⟨_, rfl, CH 8 68 false _ rfl rfl rfl (by rw [show (RightB (0:UInt64) x1.e) = false from hb17] <;> rfl)⟩, ⟨_, rfl, CH 8 68 false _ rfl rfl rfl (by rw [show (RightB (0:UInt64) x1.e) = false from hb17] <;> rfl)⟩, ⟨_, rfl, AB rfl (B0 _ rfl (by rw [show (RightB (0:UInt64) x1.e) = false from hb17] <;> rfl) rfl)⟩, trivial⟩ ?_
        refine CC (F' := [(60, Ptr nb1 2), (61, .slice sa ns sc), (62, I64 ((i:Int))), (63, Ptr bz1 (49*i + oz1)), (64, Ptr bz1 (49*i + oz1)), (65, U64 x1.e), (66, .bool (RightB (0:UInt64) x1.e)), (67, .bool (!(RightB (0:UInt64) x1.e))), (68, .bool (!(RightB (0:UInt64) x1.e))), (69, undef), (70, undef), (71, undef), (72, undef), (73, undef), (74, undef), (75, undef), (76, undef), (77, undef), (78, undef), (79, undef), (80, undef), (81, .bool true), (1, Ptr nb1 0), (3, I64 ((i:Int))), (53, I64 ((i:Int))), (54, Ptr nb1 2), (55, .slice sa ns sc), (56, I64 ((ns:Int))), (57, .bool (decide (((i:Int)) < ((ns:Int)))))]) (by kernel_rfl) ?_
        refine AF (C9 _ rfl rfl ?_)
        refine AL (AE (AA _ (AH rfl) rfl ?_))
        refine AN (AF (BO (C8 (A5 (A5 (C8 (A5 (B8 [false] ?_))))))))
        show JQ _ _ _ _ []
        refine BP (.bool false) (res1 EJ (BT rfl)) fun w1 hw1 => ?_
        refine ⟨_, [], rfl, ⟨congrArg Value.bool ?_, rfl⟩, hw1.sub (by simp) (by simp)⟩
        unfold RightO
        rw [hl, hls]
        first | rw [if_pos (show kd = 1 by omega)] | rw [if_neg (show ¬ kd = 1 by omega), if_pos (show kd = 2 by omega)] | rw [if_neg (show ¬ kd = 1 by omega), if_neg (show ¬ kd = 2 by omega), if_pos (show kd = 3 by omega)] | rw [if_neg (show ¬ kd = 1 by omega), if_neg (show ¬ kd = 2 by omega), if_neg (show ¬ kd = 3 by omega)]
        have ha : ls.any (fun x => oddB (headE ls) (SealR.e x)) = true := any_odd hx1 (by first | (simp [oddB, *]; done) | (rw [FY hx2]; simp [oddB, *]; done))
        simp [*]
      ·
       have hp16 : ¬ (((i:Int)) < ((ns:Int))) := of_decide_eq_false hb16
       refine EB (BD (BD (CV (AF (AL (AE (AA (Ptr nb1 2) (AC 2 34 1 A8 rfl C7 rfl rfl) rfl ?_)))))))
       refine AA (.slice sa ns sc) (AK rfl (AV DV (MemAt.ent 0 rfl (AJ (AJ (Seg.head)))))) rfl ?_
       refine AA (I64 ((ns:Int))) (D4 CX rfl) rfl ?_
       refine AA (Ptr nb1 1) (AC 1 23 1 A8 rfl CE rfl rfl) rfl ?_
       refine AA (.slice ai ni ci) (AK rfl (AV CL (MemAt.ent 0 rfl (AJ (Seg.head))))) rfl ?_
       refine AA (I64 ((ni:Int))) (D4 BU rfl) rfl ?_
       refine AA (.bool (decide (((ns:Int)) = ((ni:Int))))) (AQ rfl rfl fun _ => DD _ _) rfl ?_
       refine AA _ (AH rfl) rfl ?_
       refine AN (AF (BO (B8 [false] ?_)))
       show JQ _ _ _ _ []
       refine BP (.bool (decide (((ns:Int)) = ((ni:Int))))) (res1 EJ (BT rfl)) fun w1 hw1 => ?_
       refine ⟨_, [], rfl, ⟨congrArg Value.bool ?_, rfl⟩, hw1.sub (by simp) (by simp)⟩
       unfold RightO
       rw [hl, hls]
       first | rw [if_pos (show kd = 1 by omega)] | rw [if_neg (show ¬ kd = 1 by omega), if_pos (show kd = 2 by omega)] | rw [if_neg (show ¬ kd = 1 by omega), if_neg (show ¬ kd = 2 by omega), if_pos (show kd = 3 by omega)] | rw [if_neg (show ¬ kd = 1 by omega), if_neg (show ¬ kd = 2 by omega), if_neg (show ¬ kd = 3 by omega)]
       have ha : ls.any (fun x => oddB (headE ls) (SealR.e x)) = false := any_no (by rw [hls]; intro k hk; exact hi2 k (by omega))
       rw [ha, decide_eq_true (Classical.not_not.1 ‹¬ bl ≠ 0›), decide_eq_true ‹RightI l›]
       simp only [Bool.true_and, Bool.not_false, Bool.and_true]
       exact decide_eq_decide.2 (by omega)
end Go.Proofs.YtkdpdgpphpngeaaDoor
namespace Go.Proofs.YtkdpdgpphpngeaaDoor
open Go Go.Sx
set_option linter.unusedVariables false
set_option linter.unusedSimpArgs false
set_option maxRecDepth 100000
attribute [local irreducible] mid zr8 zr32 numK rnK rotr wordL spreadL comprL cpN adN spN wrdN constL initL padL stN outN routN sumG putL RightB
theorem large_c (kd : Int) (ai : Option Addr) (ni ci : Nat) (l : List UInt64) (sa : Option Addr) (ns sc : Nat) (ls : List SealR) (bl : UInt64)  (w : World) : Calls Tryd.prog 18 #[.agg (List.toArray (α := Value) ([I64 (kd), .slice ai ni ci, .slice sa ns sc, U64 bl]))] w (Post w [] (fun v L => v = .bool (decide (LargeP ni ns)) ∧ L = [])) := by
 refine enter (P := Tryd.prog) (f := 18) (fn := Tryd.f18) w [] 25 [] [.agg (List.toArray (α := Value) ([I64 (kd), .slice ai ni ci, .slice sa ns sc, U64 bl]))] Tryd.func18 rfl rfl (by simp) (B7 (by simp) (by simp) (by simp)) ?_
 show JC _ _ _ [(0, .agg (List.toArray (α := Value) ([I64 (kd), .slice ai ni ci, .slice sa ns sc, U64 bl])))] _
 refine AL (AE (AR (CN (.agg (List.toArray (α := Value) ([I64 (kd), .slice ai ni ci, .slice sa ns sc, U64 bl]))) ([I64 (kd), .slice ai ni ci, .slice sa ns sc, U64 bl]) rfl (by first | rfl | simp)) rfl ?_))
 rintro v1 L1 ⟨nb1, hnb1, rfl, rfl⟩
 show JL _ _ _ _ ((1, Ptr nb1 0) :: _) [⟨nb1, [I64 (kd), .slice ai ni ci, .slice sa ns sc, U64 bl], 26, (0, 0)⟩]
 refine AA _ (AH rfl) rfl ?_
 refine AN (AF (AL (AE (AA (Ptr nb1 1) (AC 1 23 1 AG rfl CE rfl rfl) rfl ?_))))
 refine AA (.slice ai ni ci) (AK rfl (AV CL (MemAt.ent 0 rfl (AJ (Seg.head))))) rfl ?_
 refine AA (I64 ((ni:Int))) (D4 BU rfl) rfl ?_
 refine AA (.bool (decide ((300:Int) < ((ni:Int))))) (AQ rfl rfl fun _ => FN _ _) rfl ?_
 refine AA _ (AD rfl) rfl ?_
 rcases Bool.eq_false_or_eq_true (decide ((300:Int) < ((ni:Int)))) with hb1 | hb1
 ·
  have hp1 : (300:Int) < ((ni:Int)) := of_decide_eq_true hb1
  refine AI 4 7 false _ rfl rfl hb1 rfl ?_
  refine AI 4 7 false _ rfl rfl hb1 rfl ?_
  refine AI 4 7 false _ rfl rfl hb1 rfl ?_
  refine AI 4 7 false _ rfl rfl hb1 rfl ?_
  refine AA _ (B0 _ rfl hb1 rfl) rfl ?_
  refine AA _ (AD rfl) rfl ?_
  refine AI 10 13 false _ rfl rfl rfl rfl ?_
  refine AI 10 13 false _ rfl rfl rfl rfl ?_
  refine AI 10 13 false _ rfl rfl rfl rfl ?_
  refine AI 10 13 false _ rfl rfl rfl rfl ?_
  refine AI 10 13 false _ rfl rfl rfl rfl ?_
  refine FC 15 18 true rfl rfl rfl ?_
  refine FC 15 18 true rfl rfl rfl ?_
  refine FC 15 18 true rfl rfl rfl ?_
  refine FC 15 18 true rfl rfl rfl ?_
  refine AI 10 13 false _ rfl rfl rfl rfl ?_
  refine AA _ (B0 _ rfl rfl rfl) rfl ?_
  refine AA _ (AH rfl) rfl ?_
  refine AN (AF (BO (BP (.bool true) (res1 Tryd.results18 (BT rfl)) fun w1 hw1 => ?_)))
  refine ⟨_, [], rfl, ⟨congrArg Value.bool ?_, rfl⟩, hw1.sub (by simp) (by simp)⟩
  first | exact (decide_eq_true (by unfold LargeP; omega)).symm | exact (decide_eq_false (by unfold LargeP; omega)).symm | exact decide_eq_decide.2 (by unfold LargeP; omega)
 ·
  have hp1 : ¬ ((300:Int) < ((ni:Int))) := of_decide_eq_false hb1
  refine AY 4 7 false _ (Ptr nb1 2) rfl rfl hb1 (AC 2 24 1 AG rfl B3 rfl rfl) rfl ?_
  refine AY 4 7 false _ (.slice sa ns sc) rfl rfl hb1 (AK rfl (AV B6 (MemAt.ent 0 rfl (AJ (AJ (Seg.head)))))) rfl ?_
  refine AY 4 7 false _ (I64 ((ns:Int))) rfl rfl hb1 (D4 CJ rfl) rfl ?_
  refine AY 4 7 false _ (.bool (decide ((300:Int) < ((ns:Int))))) rfl rfl hb1 (AQ rfl rfl fun _ => FN _ _) rfl ?_
  refine AA _ (BM _ rfl hb1 rfl) rfl ?_
  refine AA _ (AD rfl) rfl ?_
  rcases Bool.eq_false_or_eq_true (decide ((300:Int) < ((ns:Int)))) with hb2 | hb2
  ·
   have hp2 : (300:Int) < ((ns:Int)) := of_decide_eq_true hb2
   refine AI 10 13 false _ rfl rfl hb2 rfl ?_
   refine AI 10 13 false _ rfl rfl hb2 rfl ?_
   refine AI 10 13 false _ rfl rfl hb2 rfl ?_
   refine AI 10 13 false _ rfl rfl hb2 rfl ?_
   refine AI 10 13 false _ rfl rfl hb2 rfl ?_
   refine FC 15 18 true rfl rfl rfl ?_
   refine FC 15 18 true rfl rfl rfl ?_
   refine FC 15 18 true rfl rfl rfl ?_
   refine FC 15 18 true rfl rfl rfl ?_
   refine AI 10 13 false _ rfl rfl hb2 rfl ?_
   refine AA _ (B0 _ rfl hb2 rfl) rfl ?_
   refine AA _ (AH rfl) rfl ?_
   refine AN (AF (BO (BP (.bool true) (res1 Tryd.results18 (BT rfl)) fun w1 hw1 => ?_)))
   refine ⟨_, [], rfl, ⟨congrArg Value.bool ?_, rfl⟩, hw1.sub (by simp) (by simp)⟩
   first | exact (decide_eq_true (by unfold LargeP; omega)).symm | exact (decide_eq_false (by unfold LargeP; omega)).symm | exact decide_eq_decide.2 (by unfold LargeP; omega)
  ·
   have hp2 : ¬ ((300:Int) < ((ns:Int))) := of_decide_eq_false hb2
   refine AY 10 13 false _ (Ptr nb1 2) rfl rfl hb2 (AC 2 24 1 AG rfl B3 rfl rfl) rfl ?_
   refine AY 10 13 false _ (.slice sa ns sc) rfl rfl hb2 (AK rfl (AV B6 (MemAt.ent 0 rfl (AJ (AJ (Seg.head)))))) rfl ?_
   refine AY 10 13 false _ (I64 ((ns:Int))) rfl rfl hb2 (D4 CJ rfl) rfl ?_
   refine AY 10 13 false _ (.bool (decide ((20:Int) < ((ns:Int))))) rfl rfl hb2 (AQ rfl rfl fun _ => FN _ _) rfl ?_
   refine AY 10 13 false _ _ rfl rfl hb2 (AD rfl) rfl ?_
   rcases Bool.eq_false_or_eq_true (decide ((20:Int) < ((ns:Int)))) with hb3 | hb3
   ·
    have hp3 : (20:Int) < ((ns:Int)) := of_decide_eq_true hb3
    refine AY 15 18 true _ (Ptr nb1 2) rfl rfl hb3 (AC 2 24 1 AG rfl B3 rfl rfl) rfl ?_
    refine AY 15 18 true _ (.slice sa ns sc) rfl rfl hb3 (AK rfl (AV B6 (MemAt.ent 0 rfl (AJ (AJ (Seg.head)))))) rfl ?_
    refine AY 15 18 true _ (I64 ((ns:Int))) rfl rfl hb3 (D4 CJ rfl) rfl ?_
    refine AY 15 18 true _ (.bool (decide (((ns:Int)) ≤ (256:Int)))) rfl rfl hb3 (AQ rfl rfl fun _ => bin_leq_i _ _) rfl ?_
    refine AY 10 13 false _ _ rfl rfl hb2 (B0 _ rfl hb3 rfl) rfl ?_
    refine AA _ (BM _ rfl hb2 rfl) rfl ?_
    refine AA _ (AH rfl) rfl ?_
    refine AN (AF (BO (BP (.bool (decide (((ns:Int)) ≤ (256:Int)))) (res1 Tryd.results18 (BT rfl)) fun w1 hw1 => ?_)))
    refine ⟨_, [], rfl, ⟨congrArg Value.bool ?_, rfl⟩, hw1.sub (by simp) (by simp)⟩
    first | exact (decide_eq_true (by unfold LargeP; omega)).symm | exact (decide_eq_false (by unfold LargeP; omega)).symm | exact decide_eq_decide.2 (by unfold LargeP; omega)
   ·
    have hp3 : ¬ ((20:Int) < ((ns:Int))) := of_decide_eq_false hb3
    refine AI 15 18 true _ rfl rfl hb3 rfl ?_
    refine AI 15 18 true _ rfl rfl hb3 rfl ?_
    refine AI 15 18 true _ rfl rfl hb3 rfl ?_
    refine AI 15 18 true _ rfl rfl hb3 rfl ?_
    refine AY 10 13 false _ _ rfl rfl hb2 (BM _ rfl hb3 rfl) rfl ?_
    refine AA _ (BM _ rfl hb2 rfl) rfl ?_
    refine AA _ (AH rfl) rfl ?_
    refine AN (AF (BO (BP (.bool false) (res1 Tryd.results18 (BT rfl)) fun w1 hw1 => ?_)))
    refine ⟨_, [], rfl, ⟨congrArg Value.bool ?_, rfl⟩, hw1.sub (by simp) (by simp)⟩
    first | exact (decide_eq_true (by unfold LargeP; omega)).symm | exact (decide_eq_false (by unfold LargeP; omega)).symm | exact decide_eq_decide.2 (by unfold LargeP; omega)
theorem eq64_c (ai : Option Addr) (ni ci : Nat) (l : List UInt64) (ai2 : Option Addr) (ni2 ci2 : Nat) (l2 : List UInt64)  (w : World) (hl : l.length = ni) (hnm : ni ≤ 2000000) (hnc : ni ≤ ci) (hcm : ci ≤ maxLen) (hv : RdV w ai (cu64 l)) (hl2 : l2.length = ni2) (hnm2 : ni2 ≤ 2000000) (hnc2 : ni2 ≤ ci2) (hcm2 : ci2 ≤ maxLen) (hv2 : RdV w ai2 (cu64 l2))  : Calls Tryd.prog 115 #[.slice ai ni ci, .slice ai2 ni2 ci2] w (Post w [] (fun v L => v = .bool (decide (l = l2)) ∧ L = [])) := by
 have hmx : maxLen = 9223372036854775807 := rfl
 refine enter w [] 26 [] [.slice ai ni ci, .slice ai2 ni2 ci2] Tryd.func115 rfl rfl (by simp) (B7 (by simp) (by simp) (by simp)) ?_
 show JC _ _ _ [(0, .slice ai ni ci), (1, .slice ai2 ni2 ci2)] _
 refine AL (AE (AA _ (AH rfl) rfl ?_))
 refine AN (AF (AL (AL (AE (AA _ (AD rfl) rfl ?_)))))
 refine AA (I64 ((ni:Int))) (D4 BU rfl) rfl ?_
 refine AA _ (AD rfl) rfl ?_
 refine AA (I64 ((ni2:Int))) (D4 BU rfl) rfl ?_
 refine AA (.bool (decide (((ni:Int)) ≠ ((ni2:Int))))) (AQ rfl rfl fun _ => E8 _ _) rfl ?_
 refine AN (AF (CT (decide (((ni:Int)) ≠ ((ni2:Int)))) rfl (fun hb1 => ?_) (fun hb1 => ?_)))
 ·
  have hp1 : ((ni:Int)) ≠ ((ni2:Int)) := of_decide_eq_true hb1
  refine AL (AE (AA _ (AH rfl) rfl ?_))
  refine AN (AF (BO (A5 (BP (.bool false) (res1 Tryd.results115 (BT rfl)) fun w1 hw1 => ?_))))
  refine ⟨_, [], rfl, ⟨congrArg Value.bool ?_, rfl⟩, hw1.sub (by simp) (by simp)⟩
  refine (decide_eq_false (fun h => ?_)).symm
  first | (have := congrArg List.length h; omega) | exact list_ne (FV (i := i) (by omega)) (FV (i := i) (by omega)) (by assumption) h
 ·
  have hp1 : ¬ (((ni:Int)) ≠ ((ni2:Int))) := of_decide_eq_false hb1
  refine B4 (AF (AL (AL (AE (AA _ (AD rfl) rfl ?_)))))
  refine AA (I64 ((ni:Int))) (D4 BU rfl) rfl ?_
  refine AA _ (AD rfl) rfl ?_
  refine AN (AF (B5 (EE (ι := Nat) (fun i => [(0, .slice ai ni ci), (1, .slice ai2 ni2 ci2), (12, I64 ((ni:Int))), (13, I64 ((i:Int)))]) (fun i => []) (fun i => i ≤ ni ∧ ∀ k, k < i → ∀ x y, l[k]? = some x → l2[k]? = some y → x = y) (fun i => ni - i) 0 ⟨by omega, fun k hk => absurd hk (by omega)⟩ (Sub.cons rfl (Sub.cons rfl (Sub.cons rfl (Sub.cons rfl (Sub.nil))))) rfl ?_)))
  rintro i ⟨hi1, hi2⟩
  show JC _ _ _ [(0, .slice ai ni ci), (1, .slice ai2 ni2 ci2), (12, I64 ((ni:Int))), (13, I64 ((i:Int)))] []
  refine AL (AE (AA (.bool (decide (((i:Int)) < ((ni:Int))))) (AQ rfl rfl fun _ => DB _ _) rfl ?_))
  refine AN (AF (AL (CT (decide (((i:Int)) < ((ni:Int)))) rfl (fun hb2 => ?_) (fun hb2 => ?_))))
  ·
   have hp2 : ((i:Int)) < ((ni:Int)) := of_decide_eq_true hb2
   refine B4 (AF (AL (B5 (AL (AE (AA _ (AD rfl) rfl ?_))))))
   refine AA _ (AH rfl) rfl ?_
   refine AN (AF (AL ?_))
   obtain ⟨bz1, oz1, hz1, hm1⟩ := RdV.pos hv (by rw [E5, hl]; omega)
   obtain ⟨bz2, oz2, hz2, hm2⟩ := RdV.pos hv2 (by rw [E5, hl2]; omega)
   refine CQ 26 1 [(0, .slice ai ni ci), (1, I64 ((i:Int))), (2, Ptr bz1 (i + oz1)), (3, U64 (g64 l i)), (4, .slice ai2 ni2 ci2), (5, I64 ((i:Int))), (6, Ptr bz2 (i + oz2)), (7, U64 (g64 l2 i)), (8, .bool (decide ((g64 l i) ≠ (g64 l2 i))))] BQ rfl (by decide +kernel) ?_
   refine CZ ⟨[], [0, 1, 2, 3, 4, 5, 6, 7, 8], [], [0, 1, 2, 3, 4, 5, 6, 7, 8], []⟩ rfl rfl (by decide +kernel) rfl ⟨⟨_, rfl, AB rfl (AD rfl)⟩, ⟨_, rfl, AB rfl (AD rfl)⟩, ⟨_, rfl, AB rfl (CW 22 1 (i + oz1) BU AT rfl hz1 rfl (by omega) (by omega) (by omega))⟩, ⟨_, rfl, AB rfl (AK rfl (AV AU (CU (hm1.mem (by simp)) (Seg.get (g64_get (i := i) (by rw [hl]; omega))) (by omega))))⟩, ⟨_, rfl, AB rfl (AD rfl)⟩, ⟨_, rfl, AB rfl (AD rfl)⟩, ⟨_, rfl, AB rfl (CW 22 1 (i + oz2) BU AT rfl hz2 rfl (by omega) (by omega) (by omega))⟩, ⟨_, rfl, AB rfl (AK rfl (AV AU (CU (hm2.mem (by simp)) (Seg.get (g64_get (i := i) (by rw [hl2]; omega))) (by omega))))⟩, ⟨_, rfl, AB rfl (AQ rfl rfl fun _ => EP (g64 l i) (g64 l2 i))⟩, trivial⟩ ?_
   refine CC (F' := [(16, .slice ai ni ci), (17, I64 ((i:Int))), (18, Ptr bz1 (i + oz1)), (19, U64 (g64 l i)), (20, .slice ai2 ni2 ci2), (21, I64 ((i:Int))), (22, Ptr bz2 (i + oz2)), (23, U64 (g64 l2 i)), (24, .bool (decide ((g64 l i) ≠ (g64 l2 i)))), (0, .slice ai ni ci), (1, .slice ai2 ni2 ci2), (12, I64 ((ni:Int))), (13, I64 ((i:Int))), (14, .bool (decide (((i:Int)) < ((ni:Int))))), (15, I64 ((i:Int))), (5, I64 ((i:Int)))]) (by kernel_rfl) ?_
   refine AF (CT (decide ((g64 l i) ≠ (g64 l2 i))) rfl (fun hb3 => ?_) (fun hb3 => ?_))
   ·
    have hp3 : (g64 l i) ≠ (g64 l2 i) := of_decide_eq_true hb3
    refine AL (AE (AA _ (AH rfl) rfl ?_))
    refine AN (AF (BO (C8 (A5 (A5 (C8 (A5 (BP (.bool false) (res1 Tryd.results115 (BT rfl)) fun w1 hw1 => ?_))))))))
    refine ⟨_, [], rfl, ⟨congrArg Value.bool ?_, rfl⟩, hw1.sub (by simp) (by simp)⟩
    refine (decide_eq_false (fun h => ?_)).symm
    first | (have := congrArg List.length h; omega) | exact list_ne (FV (i := i) (by omega)) (FV (i := i) (by omega)) (by assumption) h
   ·
    have hp3 : ¬ ((g64 l i) ≠ (g64 l2 i)) := of_decide_eq_false hb3
    refine B4 (B1 (AF (AE (AA (I64 ((i:Int) + 1)) (AQ rfl rfl fun _ => DI _ _ ((i:Int) + 1) (by omega) (by omega)) rfl ?_))))
    refine AA _ (AD rfl) rfl ?_
    refine AN (DF (EN (i + 1) ⟨by omega, eq_step (FV (i := i) (by omega)) (FV (i := i) (by omega)) (Classical.not_not.1 (by assumption)) hi2⟩ (by first | (simp; omega) | simp | (dsimp only; omega) | omega) (Sub.cons rfl (Sub.cons rfl (Sub.cons rfl (Sub.cons rfl (Sub.nil))))) rfl))
  ·
   have hp2 : ¬ (((i:Int)) < ((ni:Int))) := of_decide_eq_false hb2
   refine EB (BD (BD (CV (AF (AL (AE (AA _ (AH rfl) rfl ?_)))))))
   refine AN (AF (BO (BP (.bool true) (res1 Tryd.results115 (BT rfl)) fun w1 hw1 => ?_)))
   refine ⟨_, [], rfl, ⟨congrArg Value.bool ?_, rfl⟩, hw1.sub (by simp) (by simp)⟩
   exact (decide_eq_true (list_eq (by omega) (by rw [hl]; intro k hk; exact hi2 k (by omega)))).symm
theorem eqS_c (sa : Option Addr) (ns sc : Nat) (ls : List SealR) (sa2 : Option Addr) (ns2 sc2 : Nat) (ls2 : List SealR)  (w : World) (hls : ls.length = ns) (hnn : ns ≤ 2000000) (hnd : ns ≤ sc) (hcn : sc ≤ maxLen) (hs : RdV w sa (ls.flatMap sealC)) (hls2 : ls2.length = ns2) (hnn2 : ns2 ≤ 2000000) (hnd2 : ns2 ≤ sc2) (hcn2 : sc2 ≤ maxLen) (hs2 : RdV w sa2 (ls2.flatMap sealC))  : Calls Tryd.prog 116 #[.slice sa ns sc, .slice sa2 ns2 sc2] w (Post w [] (fun v L => v = .bool (decide (ls = ls2)) ∧ L = [])) := by
 have hmx : maxLen = 9223372036854775807 := rfl
 refine enter w [] 26 [] [.slice sa ns sc, .slice sa2 ns2 sc2] Tryd.func116 rfl rfl (by simp) (B7 (by simp) (by simp) (by simp)) ?_
 show JC _ _ _ [(0, .slice sa ns sc), (1, .slice sa2 ns2 sc2)] _
 refine AL (AE (AA _ (AH rfl) rfl ?_))
 refine AN (AF (AL (AL (AE (AA _ (AD rfl) rfl ?_)))))
 refine AA (I64 ((ns:Int))) (D4 CJ rfl) rfl ?_
 refine AA _ (AD rfl) rfl ?_
 refine AA (I64 ((ns2:Int))) (D4 CJ rfl) rfl ?_
 refine AA (.bool (decide (((ns:Int)) ≠ ((ns2:Int))))) (AQ rfl rfl fun _ => E8 _ _) rfl ?_
 refine AN (AF (CT (decide (((ns:Int)) ≠ ((ns2:Int)))) rfl (fun hb1 => ?_) (fun hb1 => ?_)))
 ·
  have hp1 : ((ns:Int)) ≠ ((ns2:Int)) := of_decide_eq_true hb1
  refine AL (AE (AA _ (AH rfl) rfl ?_))
  refine AN (AF (BO (A5 (BP (.bool false) (res1 Tryd.results116 (BT rfl)) fun w1 hw1 => ?_))))
  refine ⟨_, [], rfl, ⟨congrArg Value.bool ?_, rfl⟩, hw1.sub (by simp) (by simp)⟩
  refine (decide_eq_false (fun h => ?_)).symm
  first | (have := congrArg List.length h; omega) | exact absurd h h
 ·
  have hp1 : ¬ (((ns:Int)) ≠ ((ns2:Int))) := of_decide_eq_false hb1
  refine B4 (AF (AL (AL (AE (AA _ (AD rfl) rfl ?_)))))
  refine AA (I64 ((ns:Int))) (D4 CJ rfl) rfl ?_
  refine AA _ (AD rfl) rfl ?_
  refine AN (AF (B5 (EE (ι := Nat) (fun i => [(0, .slice sa ns sc), (1, .slice sa2 ns2 sc2), (12, I64 ((ns:Int))), (13, I64 ((i:Int)))]) (fun i => []) (fun i => i ≤ ns ∧ ∀ k, k < i → ∀ x y, ls[k]? = some x → ls2[k]? = some y → x = y) (fun i => ns - i) 0 ⟨by omega, fun k hk => absurd hk (by omega)⟩ (Sub.cons rfl (Sub.cons rfl (Sub.cons rfl (Sub.cons rfl (Sub.nil))))) rfl ?_)))
  rintro i ⟨hi1, hi2⟩
  show JC _ _ _ [(0, .slice sa ns sc), (1, .slice sa2 ns2 sc2), (12, I64 ((ns:Int))), (13, I64 ((i:Int)))] []
  refine AL (AE (AA (.bool (decide (((i:Int)) < ((ns:Int))))) (AQ rfl rfl fun _ => DB _ _) rfl ?_))
  refine AN (AF (AL (CT (decide (((i:Int)) < ((ns:Int)))) rfl (fun hb2 => ?_) (fun hb2 => ?_))))
  ·
   have hp2 : ((i:Int)) < ((ns:Int)) := of_decide_eq_true hb2
   refine B4 (AF (AL (B5 (AL (AE (AA _ (AD rfl) rfl ?_))))))
   refine AA _ (AH rfl) rfl ?_
   refine AN (AF (AL ?_))
   obtain ⟨x1, hx1⟩ : ∃ x, ls[i]? = some x := ⟨_, List.getElem?_eq_getElem (by rw [hls]; omega)⟩
   obtain ⟨bz1, oz1, hz1, hm1⟩ := F6 E2 (by decide) hs hx1
   obtain ⟨x2, hx2⟩ : ∃ x, ls2[i]? = some x := ⟨_, List.getElem?_eq_getElem (by rw [hls2]; omega)⟩
   obtain ⟨bz2, oz2, hz2, hm2⟩ := F6 E2 (by decide) hs2 hx2
   refine CQ 26 1 [(0, .slice sa ns sc), (1, I64 ((i:Int))), (2, Ptr bz1 (49*i + oz1)), (3, .agg (List.toArray (α := Value) ([U64 x1.e] ++ cu8 x1.d ++ cu8 x1.t))), (4, .slice sa2 ns2 sc2), (5, I64 ((i:Int))), (6, Ptr bz2 (49*i + oz2)), (7, .agg (List.toArray (α := Value) ([U64 x2.e] ++ cu8 x2.d ++ cu8 x2.t))), (8, .bool (!(decide (x1.e = x2.e ∧ x1.d = x2.d ∧ x1.t = x2.t))))] BQ rfl (by decide +kernel) ?_
   refine CZ ⟨[], [0, 1, 2, 3, 4, 5, 6, 7, 8], [], [0, 1, 2, 3, 4, 5, 6, 7, 8], []⟩ rfl rfl (by decide +kernel) rfl ⟨⟨_, rfl, AB rfl (AD rfl)⟩, ⟨_, rfl, AB rfl (AD rfl)⟩, ⟨_, rfl, AB rfl (CW 161 49 (49*i + oz1) CJ DJ rfl hz1 rfl (by omega) (by omega) (by omega))⟩, ⟨_, rfl, AB rfl (AK rfl (BH Tryd.isAgg161 DJ (by simp [x1.hd, x1.ht]) (CU (hm1.mem (by simp)) (AM _) (by omega))))⟩, ⟨_, rfl, AB rfl (AD rfl)⟩, ⟨_, rfl, AB rfl (AD rfl)⟩, ⟨_, rfl, AB rfl (CW 161 49 (49*i + oz2) CJ DJ rfl hz2 rfl (by omega) (by omega) (by omega))⟩, ⟨_, rfl, AB rfl (AK rfl (BH Tryd.isAgg161 DJ (by simp [x2.hd, x2.ht]) (CU (hm2.mem (by simp)) (AM _) (by omega))))⟩, ⟨_, rfl, AB rfl (DC _ _ _ rfl rfl (fun _ => E9 _ _ _ _ _ _ (by kernel_rfl)) (neq_struct (x1.e = x2.e ∧ x1.d = x2.d ∧ x1.t = x2.t) (EqV.struct (d := 9999) (by kernel_rfl) (by kernel_rfl) (by kernel_rfl) (EqRs.cons 22 0 (U64 x1.e) (U64 x2.e) _ _ _ (PartV.one AU (A2 (A2 (Seg.head)))) (PartV.one AU (A2 (A2 (Seg.head)))) (EqV.u64 (d := 9998) CF x1.e x2.e) (EqRs.cons 159 1 (.agg (cu8 x1.d).toArray) (.agg (cu8 x2.d).toArray) _ _ _ (PartV.agg Tryd.isAgg159 Tryd.sizeOf159 (Seg.cut (A2 (Seg.right 1 0 rfl rfl (AM _))) (CG x1.hd) (by omega))) (PartV.agg Tryd.isAgg159 Tryd.sizeOf159 (Seg.cut (A2 (Seg.right 1 0 rfl rfl (AM _))) (CG x2.hd) (by omega))) (EqV.arr8 (d := 9997) Tryd.underlying159 BY DU E1 FO (by simp [x1.hd]) (by simp [x2.hd])) (EqRs.last 27 33 (.agg (cu8 x1.t).toArray) (.agg (cu8 x2.t).toArray) _ (PartV.agg C2 A1 (Seg.cut (Seg.right 33 0 (by simp [x1.hd]) rfl (AM _)) (CG x1.ht) (by omega))) (PartV.agg C2 A1 (Seg.cut (Seg.right 33 0 (by simp [x2.hd]) rfl (AM _)) (CG x2.ht) (by omega))) (EqV.arr8 (d := 9997) BC BY DU E1 FO (by simp [x1.ht]) (by simp [x2.ht])))))) (by first | rfl | (simp only [Bool.decide_and, Bool.and_assoc]; done) | (simp [Bool.and_assoc]; done))))⟩, trivial⟩ ?_
   refine CC (F' := [(16, .slice sa ns sc), (17, I64 ((i:Int))), (18, Ptr bz1 (49*i + oz1)), (19, .agg (List.toArray (α := Value) ([U64 x1.e] ++ cu8 x1.d ++ cu8 x1.t))), (20, .slice sa2 ns2 sc2), (21, I64 ((i:Int))), (22, Ptr bz2 (49*i + oz2)), (23, .agg (List.toArray (α := Value) ([U64 x2.e] ++ cu8 x2.d ++ cu8 x2.t))), (24, .bool (!(decide (x1.e = x2.e ∧ x1.d = x2.d ∧ x1.t = x2.t)))), (0, .slice sa ns sc), (1, .slice sa2 ns2 sc2), (12, I64 ((ns:Int))), (13, I64 ((i:Int))), (14, .bool (decide (((i:Int)) < ((ns:Int))))), (15, I64 ((i:Int))), (5, I64 ((i:Int)))]) (by kernel_rfl) ?_
   refine AF (CT (!(decide (x1.e = x2.e ∧ x1.d = x2.d ∧ x1.t = x2.t))) rfl (fun hb3 => ?_) (fun hb3 => ?_))
   ·
    have hb4 : (decide (x1.e = x2.e ∧ x1.d = x2.d ∧ x1.t = x2.t)) = false := by first | simpa using hb3 | exact Eq.mp (Bool.not_eq_true' _) hb3
    have hp4 : ¬ (x1.e = x2.e ∧ x1.d = x2.d ∧ x1.t = x2.t) := of_decide_eq_false hb4
    refine AL (AE (AA _ (AH rfl) rfl ?_))
    refine AN (AF (BO (C8 (A5 (A5 (C8 (A5 (BP (.bool false) (res1 Tryd.results116 (BT rfl)) fun w1 hw1 => ?_))))))))
    refine ⟨_, [], rfl, ⟨congrArg Value.bool ?_, rfl⟩, hw1.sub (by simp) (by simp)⟩
    refine (decide_eq_false (fun h => ?_)).symm
    first | (have := congrArg List.length h; omega) | exact list_ne hx1 hx2 (fun e => (by assumption : ¬ _) ((SealR.eq_iff _ _).1 e)) h
   ·
    have hb5 : (decide (x1.e = x2.e ∧ x1.d = x2.d ∧ x1.t = x2.t)) = true := by first | simpa using hb3 | exact Eq.mp (Bool.not_eq_false' _) hb3
    have hp5 : x1.e = x2.e ∧ x1.d = x2.d ∧ x1.t = x2.t := of_decide_eq_true hb5
    refine B4 (B1 (AF (AE (AA (I64 ((i:Int) + 1)) (AQ rfl rfl fun _ => DI _ _ ((i:Int) + 1) (by omega) (by omega)) rfl ?_))))
    refine AA _ (AD rfl) rfl ?_
    refine AN (DF (EN (i + 1) ⟨by omega, eq_step hx1 hx2 ((SealR.eq_iff _ _).2 (by first | assumption | exact Classical.not_not.1 (by assumption))) hi2⟩ (by first | (simp; omega) | simp | (dsimp only; omega) | omega) (Sub.cons rfl (Sub.cons rfl (Sub.cons rfl (Sub.cons rfl (Sub.nil))))) rfl))
  ·
   have hp2 : ¬ (((i:Int)) < ((ns:Int))) := of_decide_eq_false hb2
   refine EB (BD (BD (CV (AF (AL (AE (AA _ (AH rfl) rfl ?_)))))))
   refine AN (AF (BO (BP (.bool true) (res1 Tryd.results116 (BT rfl)) fun w1 hw1 => ?_)))
   refine ⟨_, [], rfl, ⟨congrArg Value.bool ?_, rfl⟩, hw1.sub (by simp) (by simp)⟩
   exact (decide_eq_true (list_eq (by omega) (by rw [hls]; intro k hk; exact hi2 k (by omega)))).symm
end Go.Proofs.YtkdpdgpphpngeaaDoor
namespace Go.Proofs.YtkdpdgpphpngeaaDoor
open Go Go.Sx
set_option linter.unusedVariables false
set_option linter.unusedSimpArgs false
set_option maxRecDepth 100000
attribute [local irreducible] mid zr8 zr32 numK rnK rotr wordL spreadL comprL cpN adN spN wrdN constL initL padL stN outN routN sumG putL RightB
theorem same13_c (pv ep : UInt64) (kd : Int) (ai : Option Addr) (ni ci : Nat) (l : List UInt64) (sa : Option Addr) (ns sc : Nat) (ls : List SealR) (bl : UInt64) (tg : List UInt8) (pv2 ep2 : UInt64) (kd2 : Int) (ai2 : Option Addr) (ni2 ci2 : Nat) (l2 : List UInt64) (sa2 : Option Addr) (ns2 sc2 : Nat) (ls2 : List SealR) (bl2 : UInt64) (tg2 : List UInt8)  (w : World) (hl : l.length = ni) (hnm : ni ≤ 2000000) (hnc : ni ≤ ci) (hcm : ci ≤ maxLen) (hv : RdV w ai (cu64 l)) (hls : ls.length = ns) (hnn : ns ≤ 2000000) (hnd : ns ≤ sc) (hcn : sc ≤ maxLen) (hs : RdV w sa (ls.flatMap sealC)) (htg : tg.length = 16) (hl2 : l2.length = ni2) (hnm2 : ni2 ≤ 2000000) (hnc2 : ni2 ≤ ci2) (hcm2 : ci2 ≤ maxLen) (hv2 : RdV w ai2 (cu64 l2)) (hls2 : ls2.length = ns2) (hnn2 : ns2 ≤ 2000000) (hnd2 : ns2 ≤ sc2) (hcn2 : sc2 ≤ maxLen) (hs2 : RdV w sa2 (ls2.flatMap sealC)) (htg2 : tg2.length = 16)  : Calls Tryd.prog 49 #[.agg (List.toArray (α := Value) ([U64 pv, U64 ep, I64 (kd), .slice ai ni ci, .slice sa ns sc, U64 bl] ++ cu8 tg)), .agg (List.toArray (α := Value) ([U64 pv2, U64 ep2, I64 (kd2), .slice ai2 ni2 ci2, .slice sa2 ns2 sc2, U64 bl2] ++ cu8 tg2))] w (Post w [] (fun v L => v = .bool (decide (pv = pv2 ∧ ep = ep2 ∧ tg = tg2 ∧ kd = kd2 ∧ bl = bl2 ∧ l = l2 ∧ ls = ls2)) ∧ L = [])) := by
 have hmx : maxLen = 9223372036854775807 := rfl
 refine enter (P := Tryd.prog) (f := 49) (fn := Tryd.f49) w [] 58 [] [.agg (List.toArray (α := Value) ([U64 pv, U64 ep, I64 (kd), .slice ai ni ci, .slice sa ns sc, U64 bl] ++ cu8 tg)), .agg (List.toArray (α := Value) ([U64 pv2, U64 ep2, I64 (kd2), .slice ai2 ni2 ci2, .slice sa2 ns2 sc2, U64 bl2] ++ cu8 tg2))] Tryd.func49 rfl rfl (by simp) (B7 (by simp) (by simp) (by simp)) ?_
 show JC _ _ _ [(0, .agg (List.toArray (α := Value) ([U64 pv, U64 ep, I64 (kd), .slice ai ni ci, .slice sa ns sc, U64 bl] ++ cu8 tg))), (1, .agg (List.toArray (α := Value) ([U64 pv2, U64 ep2, I64 (kd2), .slice ai2 ni2 ci2, .slice sa2 ns2 sc2, U64 bl2] ++ cu8 tg2)))] _
 refine AL (AE (AR (CN (.agg (List.toArray (α := Value) ([U64 pv, U64 ep, I64 (kd), .slice ai ni ci, .slice sa ns sc, U64 bl] ++ cu8 tg))) ([U64 pv, U64 ep, I64 (kd), .slice ai ni ci, .slice sa ns sc, U64 bl] ++ cu8 tg) rfl (by first | rfl | simp)) rfl ?_))
 rintro v1 L1 ⟨nb1, hnb1, rfl, rfl⟩
 show JL _ _ _ _ ((2, Ptr nb1 0) :: _) [⟨nb1, [U64 pv, U64 ep, I64 (kd), .slice ai ni ci, .slice sa ns sc, U64 bl] ++ cu8 tg, 29, (0, 0)⟩]
 refine AR (CN (.agg (List.toArray (α := Value) ([U64 pv2, U64 ep2, I64 (kd2), .slice ai2 ni2 ci2, .slice sa2 ns2 sc2, U64 bl2] ++ cu8 tg2))) ([U64 pv2, U64 ep2, I64 (kd2), .slice ai2 ni2 ci2, .slice sa2 ns2 sc2, U64 bl2] ++ cu8 tg2) rfl (by first | rfl | simp)) rfl ?_
 rintro v1 L1 ⟨nb2, hnb2, rfl, rfl⟩
 show JL _ _ _ _ ((3, Ptr nb2 0) :: _) [_, ⟨nb2, [U64 pv2, U64 ep2, I64 (kd2), .slice ai2 ni2 ci2, .slice sa2 ns2 sc2, U64 bl2] ++ cu8 tg2, 29, (0, 0)⟩]
 refine AA _ (AH rfl) rfl ?_
 refine AN (AF (AL (CQ 58 5 [(0, Ptr nb1 2), (1, .agg (List.toArray (α := Value) ([I64 (kd), .slice ai ni ci, .slice sa ns sc, U64 bl]))), (2, Ptr nb2 2), (3, .agg (List.toArray (α := Value) ([I64 (kd2), .slice ai2 ni2 ci2, .slice sa2 ns2 sc2, U64 bl2])))] BQ rfl (by decide +kernel) ?_)))
 refine DP_two ⟨[], [0, 1, 2, 3], [], [0, 1, 2, 3], [4, 5]⟩ 4 5 _ _ rfl rfl (by decide +kernel) rfl ⟨⟨_, rfl, AB rfl (AC 2 26 4 AS rfl BI rfl rfl)⟩, ⟨_, rfl, AB rfl (AK rfl (BH DE BI rfl (MemAt.ent 0 rfl (D9 (p := [U64 pv, U64 ep]) (q := cu8 tg) (vs := [I64 (kd), .slice ai ni ci, .slice sa ns sc, U64 bl]) (by first | rfl | (simp only [List.append_assoc, List.nil_append, List.append_nil, List.cons_append]; done)) rfl))))⟩, ⟨_, rfl, AB rfl (AC 2 26 4 AS rfl BI rfl rfl)⟩, ⟨_, rfl, AB rfl (AK rfl (BH DE BI rfl (MemAt.ent 1 rfl (D9 (p := [U64 pv2, U64 ep2]) (q := cu8 tg2) (vs := [I64 (kd2), .slice ai2 ni2 ci2, .slice sa2 ns2 sc2, U64 bl2]) (by first | rfl | (simp only [List.append_assoc, List.nil_append, List.append_nil, List.cons_append]; done)) rfl))))⟩, trivial⟩ rfl rfl (AZ rfl (BJ _ ([I64 (0:Int), .slice none 0 0, .slice none 0 0, U64 (0:UInt64)]) Tryd.zeroValue26 (by kernel_rfl))) (AZ rfl (BJ _ ([I64 (0:Int), .slice none 0 0, .slice none 0 0, U64 (0:UInt64)]) Tryd.zeroValue26 (by kernel_rfl))) ?_ ?_
 ·
  rintro v1 L1 ⟨nb3, hnb3, rfl, rfl⟩
  refine ⟨[], ?_⟩
  show DP _ _ _ _ _ _ _ _ [_, _, ⟨nb3, [I64 (0:Int), .slice none 0 0, .slice none 0 0, U64 (0:UInt64)], 26, (0, 0)⟩]
  refine BR ⟨[4], [0, 1, 2, 3], [], [0, 1, 2, 3], [5]⟩ 5 _ rfl rfl (by decide +kernel) rfl ⟨⟨_, rfl, AB rfl (AC 2 26 4 AS rfl BI rfl rfl)⟩, ⟨_, rfl, AB rfl (AK rfl (BH DE BI rfl (MemAt.ent 0 rfl (D9 (p := [U64 pv, U64 ep]) (q := cu8 tg) (vs := [I64 (kd), .slice ai ni ci, .slice sa ns sc, U64 bl]) (by first | rfl | (simp only [List.append_assoc, List.nil_append, List.append_nil, List.cons_append]; done)) rfl))))⟩, ⟨_, rfl, AB rfl (AC 2 26 4 AS rfl BI rfl rfl)⟩, ⟨_, rfl, AB rfl (AK rfl (BH DE BI rfl (MemAt.ent 1 rfl (D9 (p := [U64 pv2, U64 ep2]) (q := cu8 tg2) (vs := [I64 (kd2), .slice ai2 ni2 ci2, .slice sa2 ns2 sc2, U64 bl2]) (by first | rfl | (simp only [List.append_assoc, List.nil_append, List.append_nil, List.cons_append]; done)) rfl))))⟩, trivial⟩ rfl (AZ rfl (BJ _ ([I64 (0:Int), .slice none 0 0, .slice none 0 0, U64 (0:UInt64)]) Tryd.zeroValue26 (by kernel_rfl))) ?_
  rintro v1 L1 ⟨nb5, hnb5, rfl, rfl⟩
  refine ⟨[], ?_⟩
  show DP _ _ _ _ _ _ _ _ [_, _, _, ⟨nb5, [I64 (0:Int), .slice none 0 0, .slice none 0 0, U64 (0:UInt64)], 26, (0, 0)⟩]
  refine BR ⟨[4, 5], [0, 1, 2, 3], [], [0, 1, 2, 3], [6]⟩ 6 _ rfl rfl (by decide +kernel) rfl ⟨⟨_, rfl, AB rfl (AC 2 26 4 AS rfl BI rfl rfl)⟩, ⟨_, rfl, AB rfl (AK rfl (BH DE BI rfl (MemAt.ent 0 rfl (D9 (p := [U64 pv, U64 ep]) (q := cu8 tg) (vs := [I64 (kd), .slice ai ni ci, .slice sa ns sc, U64 bl]) (by first | rfl | (simp only [List.append_assoc, List.nil_append, List.append_nil, List.cons_append]; done)) rfl))))⟩, ⟨_, rfl, AB rfl (AC 2 26 4 AS rfl BI rfl rfl)⟩, ⟨_, rfl, AB rfl (AK rfl (BH DE BI rfl (MemAt.ent 1 rfl (D9 (p := [U64 pv2, U64 ep2]) (q := cu8 tg2) (vs := [I64 (kd2), .slice ai2 ni2 ci2, .slice sa2 ns2 sc2, U64 bl2]) (by first | rfl | (simp only [List.append_assoc, List.nil_append, List.append_nil, List.cons_append]; done)) rfl))))⟩, trivial⟩ rfl (AZ rfl (A6 2 nb3 0 4 ([I64 (0:Int), .slice none 0 0, .slice none 0 0, U64 (0:UInt64)]) 26 (.agg (List.toArray (α := Value) ([I64 (kd), .slice ai ni ci, .slice sa ns sc, U64 bl]))) ([I64 (kd), .slice ai ni ci, .slice sa ns sc, U64 bl]) ([I64 (kd), .slice ai ni ci, .slice sa ns sc, U64 bl]) rfl rfl rfl (by first | rfl | simp) BI rfl (by simp [Value.oneCell']) (Nat.le_of_ble_eq_true rfl) (BF (by simp [])))) ?_
  rintro v1 L1 ⟨rfl, rfl⟩
  refine ⟨[], ?_⟩
  show DP _ _ _ _ _ _ _ _ [_, _, ⟨nb3, [I64 (kd), .slice ai ni ci, .slice sa ns sc, U64 bl], 26, (0, 0)⟩, _]
  refine BR ⟨[4, 5, 6], [0, 1, 2, 3], [0, 1], [2, 3], [7]⟩ 7 _ rfl rfl (by decide +kernel) rfl ⟨⟨_, rfl, AB rfl (AC 2 26 4 AS rfl BI rfl rfl)⟩, ⟨_, rfl, AB rfl (AK rfl (BH DE BI rfl (MemAt.ent 1 rfl (D9 (p := [U64 pv2, U64 ep2]) (q := cu8 tg2) (vs := [I64 (kd2), .slice ai2 ni2 ci2, .slice sa2 ns2 sc2, U64 bl2]) (by first | rfl | (simp only [List.append_assoc, List.nil_append, List.append_nil, List.cons_append]; done)) rfl))))⟩, trivial⟩ rfl (AZ rfl (A6 3 nb5 0 4 ([I64 (0:Int), .slice none 0 0, .slice none 0 0, U64 (0:UInt64)]) 26 (.agg (List.toArray (α := Value) ([I64 (kd2), .slice ai2 ni2 ci2, .slice sa2 ns2 sc2, U64 bl2]))) ([I64 (kd2), .slice ai2 ni2 ci2, .slice sa2 ns2 sc2, U64 bl2]) ([I64 (kd2), .slice ai2 ni2 ci2, .slice sa2 ns2 sc2, U64 bl2]) rfl rfl rfl (by first | rfl | simp) BI rfl (by simp [Value.oneCell']) (Nat.le_of_ble_eq_true rfl) (BF (by simp [])))) ?_
  rintro v1 L1 ⟨rfl, rfl⟩
  refine ⟨[], ?_⟩
  show DP _ _ _ _ _ _ _ _ [_, _, _, ⟨nb5, [I64 (kd2), .slice ai2 ni2 ci2, .slice sa2 ns2 sc2, U64 bl2], 26, (0, 0)⟩]
  refine CZ ⟨[4, 5, 6, 7], [0, 1, 2, 3], [0, 1, 2, 3], [], []⟩ rfl rfl (by decide +kernel) rfl trivial ?_
  refine CC (F' := [(5, Ptr nb3 0), (6, Ptr nb5 0), (2, Ptr nb1 0), (3, Ptr nb2 0), (4, .bool false)]) (by kernel_rfl) ?_
  refine AF (AL (AE (AA (Ptr nb1 0) (AC 0 22 1 AS rfl AT rfl rfl) rfl ?_)))
  refine AA (U64 pv) (AK rfl (AV AU (MemAt.ent 0 rfl (A2 (Seg.head))))) rfl ?_
  refine AA (Ptr nb2 0) (AC 0 22 1 AS rfl AT rfl rfl) rfl ?_
  refine AA (U64 pv2) (AK rfl (AV AU (MemAt.ent 1 rfl (A2 (Seg.head))))) rfl ?_
  refine AA (.bool (decide (pv = pv2))) (AQ rfl rfl fun _ => FX pv pv2) rfl ?_
  refine AA _ (AD rfl) rfl ?_
  rcases Bool.eq_false_or_eq_true (decide (pv = pv2)) with hb1 | hb1
  ·
   have hp1 : pv = pv2 := of_decide_eq_true hb1
   refine AY 5 16 true _ (Ptr nb1 1) rfl rfl hb1 (AC 1 22 1 AS rfl AT rfl rfl) rfl ?_
   refine AY 5 16 true _ (U64 ep) rfl rfl hb1 (AK rfl (AV AU (MemAt.ent 0 rfl (A2 (AJ (Seg.head)))))) rfl ?_
   refine AY 5 16 true _ (Ptr nb2 1) rfl rfl hb1 (AC 1 22 1 AS rfl AT rfl rfl) rfl ?_
   refine AY 5 16 true _ (U64 ep2) rfl rfl hb1 (AK rfl (AV AU (MemAt.ent 1 rfl (A2 (AJ (Seg.head)))))) rfl ?_
   refine AY 5 16 true _ (.bool (decide (ep = ep2))) rfl rfl hb1 (AQ rfl rfl fun _ => FX ep ep2) rfl ?_
   refine AA _ (B0 _ rfl hb1 rfl) rfl ?_
   refine AA _ (AD rfl) rfl ?_
   rcases Bool.eq_false_or_eq_true (decide (ep = ep2)) with hb2 | hb2
   ·
    have hp2 : ep = ep2 := of_decide_eq_true hb2
    refine AY 12 23 true _ (Ptr nb1 6) rfl rfl hb2 (AC 6 27 16 AS rfl A1 rfl rfl) rfl ?_
    refine AY 12 23 true _ (.agg (cu8 tg).toArray) rfl rfl hb2 (AK rfl (BH C2 A1 (CG htg) (MemAt.ent 0 rfl (Seg.right 6 0 rfl rfl (AM _))))) rfl ?_
    refine AY 12 23 true _ (Ptr nb2 6) rfl rfl hb2 (AC 6 27 16 AS rfl A1 rfl rfl) rfl ?_
    refine AY 12 23 true _ (.agg (cu8 tg2).toArray) rfl rfl hb2 (AK rfl (BH C2 A1 (CG htg2) (MemAt.ent 1 rfl (Seg.right 6 0 rfl rfl (AM _))))) rfl ?_
    refine AY 12 23 true _ (.bool (decide (tg = tg2))) rfl rfl hb2 (DC _ _ _ rfl rfl (fun _ => E9 _ _ _ _ _ _ (by kernel_rfl)) fun _ => eql_arr8 BC BY DU E1 FO (by simp [htg]) (by simp [htg2])) rfl ?_
    refine AA _ (B0 _ rfl hb2 rfl) rfl ?_
    refine AA _ (AD rfl) rfl ?_
    rcases Bool.eq_false_or_eq_true (decide (tg = tg2)) with hb3 | hb3
    ·
     have hp3 : tg = tg2 := of_decide_eq_true hb3
     refine AY 19 30 true _ (Ptr nb3 0) rfl rfl hb3 (AC 0 3 1 AG rfl A7 rfl rfl) rfl ?_
     refine AY 19 30 true _ (I64 (kd)) rfl rfl hb3 (AK rfl (AV BA (MemAt.ent 2 rfl (Seg.head)))) rfl ?_
     refine AY 19 30 true _ (Ptr nb5 0) rfl rfl hb3 (AC 0 3 1 AG rfl A7 rfl rfl) rfl ?_
     refine AY 19 30 true _ (I64 (kd2)) rfl rfl hb3 (AK rfl (AV BA (MemAt.ent 3 rfl (Seg.head)))) rfl ?_
     refine AY 19 30 true _ (.bool (decide ((kd) = (kd2)))) rfl rfl hb3 (AQ rfl rfl fun _ => DD _ _) rfl ?_
     refine AA _ (B0 _ rfl hb3 rfl) rfl ?_
     refine AA _ (AD rfl) rfl ?_
     rcases Bool.eq_false_or_eq_true (decide ((kd) = (kd2))) with hb4 | hb4
     ·
      have hp4 : (kd) = (kd2) := of_decide_eq_true hb4
      refine AY 26 37 true _ (Ptr nb3 3) rfl rfl hb4 (AC 3 22 1 AG rfl AT rfl rfl) rfl ?_
      refine AY 26 37 true _ (U64 bl) rfl rfl hb4 (AK rfl (AV AU (MemAt.ent 2 rfl (AJ (AJ (AJ (Seg.head))))))) rfl ?_
      refine AY 26 37 true _ (Ptr nb5 3) rfl rfl hb4 (AC 3 22 1 AG rfl AT rfl rfl) rfl ?_
      refine AY 26 37 true _ (U64 bl2) rfl rfl hb4 (AK rfl (AV AU (MemAt.ent 3 rfl (AJ (AJ (AJ (Seg.head))))))) rfl ?_
      refine AY 26 37 true _ (.bool (decide (bl = bl2))) rfl rfl hb4 (AQ rfl rfl fun _ => FX bl bl2) rfl ?_
      refine AA _ (B0 _ rfl hb4 rfl) rfl ?_
      refine AA _ (AD rfl) rfl ?_
      rcases Bool.eq_false_or_eq_true (decide (bl = bl2)) with hb5 | hb5
      ·
       have hp5 : bl = bl2 := of_decide_eq_true hb5
       refine AY 33 44 true _ (Ptr nb3 1) rfl rfl hb5 (AC 1 23 1 AG rfl CE rfl rfl) rfl ?_
       refine AY 33 44 true _ (.slice ai ni ci) rfl rfl hb5 (AK rfl (AV CL (MemAt.ent 2 rfl (AJ (Seg.head))))) rfl ?_
       refine AY 33 44 true _ (Ptr nb5 1) rfl rfl hb5 (AC 1 23 1 AG rfl CE rfl rfl) rfl ?_
       refine AY 33 44 true _ (.slice ai2 ni2 ci2) rfl rfl hb5 (AK rfl (AV CL (MemAt.ent 3 rfl (AJ (Seg.head))))) rfl ?_
       refine FL 33 44 true _ rfl rfl hb5 (A3 115 [.slice ai ni ci, .slice ai2 ni2 ci2] (.bool (decide (l = l2))) (A0 [.slice ai ni ci, .slice ai2 ni2 ci2] Tryd.call115 rfl) (fun w1 hw1 => eq64_c ai ni ci l ai2 ni2 ci2 l2 w1 hl (by omega) (by omega) (by omega) (C1 hw1 rfl hv) hl2 (by omega) (by omega) (by omega) (C1 hw1 rfl hv2))) rfl ?_
       rintro v1 L1 ⟨rfl, rfl⟩
       show JL _ _ _ _ ((49, .bool (decide (l = l2))) :: _) [_, _, _, _]
       refine AA _ (B0 _ rfl hb5 rfl) rfl ?_
       refine AA _ (AD rfl) rfl ?_
       rcases Bool.eq_false_or_eq_true (decide (l = l2)) with hb6 | hb6
       ·
        have hp6 : l = l2 := of_decide_eq_true hb6
        refine AY 40 51 true _ (Ptr nb3 2) rfl rfl hb6 (AC 2 24 1 AG rfl B3 rfl rfl) rfl ?_
        refine AY 40 51 true _ (.slice sa ns sc) rfl rfl hb6 (AK rfl (AV B6 (MemAt.ent 2 rfl (AJ (AJ (Seg.head)))))) rfl ?_
        refine AY 40 51 true _ (Ptr nb5 2) rfl rfl hb6 (AC 2 24 1 AG rfl B3 rfl rfl) rfl ?_
        refine AY 40 51 true _ (.slice sa2 ns2 sc2) rfl rfl hb6 (AK rfl (AV B6 (MemAt.ent 3 rfl (AJ (AJ (Seg.head)))))) rfl ?_
        refine FL 40 51 true _ rfl rfl hb6 (A3 116 [.slice sa ns sc, .slice sa2 ns2 sc2] (.bool (decide (ls = ls2))) (A0 [.slice sa ns sc, .slice sa2 ns2 sc2] Tryd.call116 rfl) (fun w1 hw1 => eqS_c sa ns sc ls sa2 ns2 sc2 ls2 w1 hls (by omega) (by omega) (by omega) (C1 hw1 rfl hs) hls2 (by omega) (by omega) (by omega) (C1 hw1 rfl hs2))) rfl ?_
        rintro v1 L1 ⟨rfl, rfl⟩
        show JL _ _ _ _ ((56, .bool (decide (ls = ls2))) :: _) [_, _, _, _]
        refine AA _ (B0 _ rfl hb6 rfl) rfl ?_
        refine AA _ (AH rfl) rfl ?_
        refine AN (AF (BO (B8 [false, false, false, false] ?_)))
        show JQ _ _ _ _ []
        refine BP (.bool (decide (ls = ls2))) (res1 EK (BT rfl)) fun w1 hw1 => ?_
        refine ⟨_, [], rfl, ⟨congrArg Value.bool ?_, rfl⟩, hw1.sub (by simp) (by simp)⟩
        first | (simp [*]; done) | (simp_all; done)
       ·
        have hp6 : ¬ (l = l2) := of_decide_eq_false hb6
        refine AI 40 51 true _ rfl rfl hb6 rfl ?_
        refine AI 40 51 true _ rfl rfl hb6 rfl ?_
        refine AI 40 51 true _ rfl rfl hb6 rfl ?_
        refine AI 40 51 true _ rfl rfl hb6 rfl ?_
        refine AI 40 51 true _ rfl rfl hb6 rfl ?_
        refine AA _ (BM _ rfl hb6 rfl) rfl ?_
        refine AA _ (AH rfl) rfl ?_
        refine AN (AF (BO (B8 [false, false, false, false] ?_)))
        show JQ _ _ _ _ []
        refine BP (.bool false) (res1 EK (BT rfl)) fun w1 hw1 => ?_
        refine ⟨_, [], rfl, ⟨congrArg Value.bool ?_, rfl⟩, hw1.sub (by simp) (by simp)⟩
        first | (simp [*]; done) | (simp_all; done)
      ·
       have hp5 : ¬ (bl = bl2) := of_decide_eq_false hb5
       refine AI 33 44 true _ rfl rfl hb5 rfl ?_
       refine AI 33 44 true _ rfl rfl hb5 rfl ?_
       refine AI 33 44 true _ rfl rfl hb5 rfl ?_
       refine AI 33 44 true _ rfl rfl hb5 rfl ?_
       refine AI 33 44 true _ rfl rfl hb5 rfl ?_
       refine AA _ (BM _ rfl hb5 rfl) rfl ?_
       refine AA _ (AD rfl) rfl ?_
       refine AI 40 51 true _ rfl rfl rfl rfl ?_
       refine AI 40 51 true _ rfl rfl rfl rfl ?_
       refine AI 40 51 true _ rfl rfl rfl rfl ?_
       refine AI 40 51 true _ rfl rfl rfl rfl ?_
       refine AI 40 51 true _ rfl rfl rfl rfl ?_
       refine AA _ (BM _ rfl rfl rfl) rfl ?_
       refine AA _ (AH rfl) rfl ?_
       refine AN (AF (BO (B8 [false, false, false, false] ?_)))
       show JQ _ _ _ _ []
       refine BP (.bool false) (res1 EK (BT rfl)) fun w1 hw1 => ?_
       refine ⟨_, [], rfl, ⟨congrArg Value.bool ?_, rfl⟩, hw1.sub (by simp) (by simp)⟩
       first | (simp [*]; done) | (simp_all; done)
     ·
      have hp4 : ¬ ((kd) = (kd2)) := of_decide_eq_false hb4
      refine AI 26 37 true _ rfl rfl hb4 rfl ?_
      refine AI 26 37 true _ rfl rfl hb4 rfl ?_
      refine AI 26 37 true _ rfl rfl hb4 rfl ?_
      refine AI 26 37 true _ rfl rfl hb4 rfl ?_
      refine AI 26 37 true _ rfl rfl hb4 rfl ?_
      refine AA _ (BM _ rfl hb4 rfl) rfl ?_
      refine AA _ (AD rfl) rfl ?_
      refine AI 33 44 true _ rfl rfl rfl rfl ?_
      refine AI 33 44 true _ rfl rfl rfl rfl ?_
      refine AI 33 44 true _ rfl rfl rfl rfl ?_
      refine AI 33 44 true _ rfl rfl rfl rfl ?_
      refine AI 33 44 true _ rfl rfl rfl rfl ?_
      refine AA _ (BM _ rfl rfl rfl) rfl ?_
      refine AA _ (AD rfl) rfl ?_
      refine AI 40 51 true _ rfl rfl rfl rfl ?_
      refine AI 40 51 true _ rfl rfl rfl rfl ?_
      refine AI 40 51 true _ rfl rfl rfl rfl ?_
      refine AI 40 51 true _ rfl rfl rfl rfl ?_
      refine AI 40 51 true _ rfl rfl rfl rfl ?_
      refine AA _ (BM _ rfl rfl rfl) rfl ?_
      refine AA _ (AH rfl) rfl ?_
      refine AN (AF (BO (B8 [false, false, false, false] ?_)))
      show JQ _ _ _ _ []
      refine BP (.bool false) (res1 EK (BT rfl)) fun w1 hw1 => ?_
      refine ⟨_, [], rfl, ⟨congrArg Value.bool ?_, rfl⟩, hw1.sub (by simp) (by simp)⟩
      first | (simp [*]; done) | (simp_all; done)
    ·
     have hp3 : ¬ (tg = tg2) := of_decide_eq_false hb3
     refine AI 19 30 true _ rfl rfl hb3 rfl ?_
     refine AI 19 30 true _ rfl rfl hb3 rfl ?_
     refine AI 19 30 true _ rfl rfl hb3 rfl ?_
     refine AI 19 30 true _ rfl rfl hb3 rfl ?_
     refine AI 19 30 true _ rfl rfl hb3 rfl ?_
     refine AA _ (BM _ rfl hb3 rfl) rfl ?_
     refine AA _ (AD rfl) rfl ?_
     refine AI 26 37 true _ rfl rfl rfl rfl ?_
     refine AI 26 37 true _ rfl rfl rfl rfl ?_
     refine AI 26 37 true _ rfl rfl rfl rfl ?_
     refine AI 26 37 true _ rfl rfl rfl rfl ?_
     refine AI 26 37 true _ rfl rfl rfl rfl ?_
     refine AA _ (BM _ rfl rfl rfl) rfl ?_
     refine AA _ (AD rfl) rfl ?_
     refine AI 33 44 true _ rfl rfl rfl rfl ?_
     refine AI 33 44 true _ rfl rfl rfl rfl ?_
     refine AI 33 44 true _ rfl rfl rfl rfl ?_
     refine AI 33 44 true _ rfl rfl rfl rfl ?_
     refine AI 33 44 true _ rfl rfl rfl rfl ?_
     refine AA _ (BM _ rfl rfl rfl) rfl ?_
     refine AA _ (AD rfl) rfl ?_
     refine AI 40 51 true _ rfl rfl rfl rfl ?_
     refine AI 40 51 true _ rfl rfl rfl rfl ?_
     refine AI 40 51 true _ rfl rfl rfl rfl ?_
     refine AI 40 51 true _ rfl rfl rfl rfl ?_
     refine AI 40 51 true _ rfl rfl rfl rfl ?_
     refine AA _ (BM _ rfl rfl rfl) rfl ?_
     refine AA _ (AH rfl) rfl ?_
     refine AN (AF (BO (B8 [false, false, false, false] ?_)))
     show JQ _ _ _ _ []
     refine BP (.bool false) (res1 EK (BT rfl)) fun w1 hw1 => ?_
     refine ⟨_, [], rfl, ⟨congrArg Value.bool ?_, rfl⟩, hw1.sub (by simp) (by simp)⟩
     first | (simp [*]; done) | (simp_all; done)
   ·
    have hp2 : ¬ (ep = ep2) := of_decide_eq_false hb2
    refine AI 12 23 true _ rfl rfl hb2 rfl ?_
    refine AI 12 23 true _ rfl rfl hb2 rfl ?_
    refine AI 12 23 true _ rfl rfl hb2 rfl ?_
    refine AI 12 23 true _ rfl rfl hb2 rfl ?_
    refine AI 12 23 true _ rfl rfl hb2 rfl ?_
    refine AA _ (BM _ rfl hb2 rfl) rfl ?_
    refine AA _ (AD rfl) rfl ?_
    refine AI 19 30 true _ rfl rfl rfl rfl ?_
    refine AI 19 30 true _ rfl rfl rfl rfl ?_
    refine AI 19 30 true _ rfl rfl rfl rfl ?_
    refine AI 19 30 true _ rfl rfl rfl rfl ?_
    refine AI 19 30 true _ rfl rfl rfl rfl ?_
    refine AA _ (BM _ rfl rfl rfl) rfl ?_
    refine AA _ (AD rfl) rfl ?_
    refine AI 26 37 true _ rfl rfl rfl rfl ?_
    refine AI 26 37 true _ rfl rfl rfl rfl ?_
    refine AI 26 37 true _ rfl rfl rfl rfl ?_
    refine AI 26 37 true _ rfl rfl rfl rfl ?_
    refine AI 26 37 true _ rfl rfl rfl rfl ?_
    refine AA _ (BM _ rfl rfl rfl) rfl ?_
    refine AA _ (AD rfl) rfl ?_
    refine AI 33 44 true _ rfl rfl rfl rfl ?_
    refine AI 33 44 true _ rfl rfl rfl rfl ?_
    refine AI 33 44 true _ rfl rfl rfl rfl ?_
    refine AI 33 44 true _ rfl rfl rfl rfl ?_
    refine AI 33 44 true _ rfl rfl rfl rfl ?_
    refine AA _ (BM _ rfl rfl rfl) rfl ?_
    refine AA _ (AD rfl) rfl ?_
    refine AI 40 51 true _ rfl rfl rfl rfl ?_
    refine AI 40 51 true _ rfl rfl rfl rfl ?_
    refine AI 40 51 true _ rfl rfl rfl rfl ?_
    refine AI 40 51 true _ rfl rfl rfl rfl ?_
    refine AI 40 51 true _ rfl rfl rfl rfl ?_
    refine AA _ (BM _ rfl rfl rfl) rfl ?_
    refine AA _ (AH rfl) rfl ?_
    refine AN (AF (BO (B8 [false, false, false, false] ?_)))
    show JQ _ _ _ _ []
    refine BP (.bool false) (res1 EK (BT rfl)) fun w1 hw1 => ?_
    refine ⟨_, [], rfl, ⟨congrArg Value.bool ?_, rfl⟩, hw1.sub (by simp) (by simp)⟩
    first | (simp [*]; done) | (simp_all; done)
  ·
   have hp1 : ¬ (pv = pv2) := of_decide_eq_false hb1
   refine AI 5 16 true _ rfl rfl hb1 rfl ?_
   refine AI 5 16 true _ rfl rfl hb1 rfl ?_
   refine AI 5 16 true _ rfl rfl hb1 rfl ?_
   refine AI 5 16 true _ rfl rfl hb1 rfl ?_
   refine AI 5 16 true _ rfl rfl hb1 rfl ?_
   refine AA _ (BM _ rfl hb1 rfl) rfl ?_
   refine AA _ (AD rfl) rfl ?_
   refine AI 12 23 true _ rfl rfl rfl rfl ?_
   refine AI 12 23 true _ rfl rfl rfl rfl ?_
   refine AI 12 23 true _ rfl rfl rfl rfl ?_
   refine AI 12 23 true _ rfl rfl rfl rfl ?_
   refine AI 12 23 true _ rfl rfl rfl rfl ?_
   refine AA _ (BM _ rfl rfl rfl) rfl ?_
   refine AA _ (AD rfl) rfl ?_
   refine AI 19 30 true _ rfl rfl rfl rfl ?_
   refine AI 19 30 true _ rfl rfl rfl rfl ?_
   refine AI 19 30 true _ rfl rfl rfl rfl ?_
   refine AI 19 30 true _ rfl rfl rfl rfl ?_
   refine AI 19 30 true _ rfl rfl rfl rfl ?_
   refine AA _ (BM _ rfl rfl rfl) rfl ?_
   refine AA _ (AD rfl) rfl ?_
   refine AI 26 37 true _ rfl rfl rfl rfl ?_
   refine AI 26 37 true _ rfl rfl rfl rfl ?_
   refine AI 26 37 true _ rfl rfl rfl rfl ?_
   refine AI 26 37 true _ rfl rfl rfl rfl ?_
   refine AI 26 37 true _ rfl rfl rfl rfl ?_
   refine AA _ (BM _ rfl rfl rfl) rfl ?_
   refine AA _ (AD rfl) rfl ?_
   refine AI 33 44 true _ rfl rfl rfl rfl ?_
   refine AI 33 44 true _ rfl rfl rfl rfl ?_
   refine AI 33 44 true _ rfl rfl rfl rfl ?_
   refine AI 33 44 true _ rfl rfl rfl rfl ?_
   refine AI 33 44 true _ rfl rfl rfl rfl ?_
   refine AA _ (BM _ rfl rfl rfl) rfl ?_
   refine AA _ (AD rfl) rfl ?_
   refine AI 40 51 true _ rfl rfl rfl rfl ?_
   refine AI 40 51 true _ rfl rfl rfl rfl ?_
   refine AI 40 51 true _ rfl rfl rfl rfl ?_
   refine AI 40 51 true _ rfl rfl rfl rfl ?_
   refine AI 40 51 true _ rfl rfl rfl rfl ?_
   refine AA _ (BM _ rfl rfl rfl) rfl ?_
   refine AA _ (AH rfl) rfl ?_
   refine AN (AF (BO (B8 [false, false, false, false] ?_)))
   show JQ _ _ _ _ []
   refine BP (.bool false) (res1 EK (BT rfl)) fun w1 hw1 => ?_
   refine ⟨_, [], rfl, ⟨congrArg Value.bool ?_, rfl⟩, hw1.sub (by simp) (by simp)⟩
   first | (simp [*]; done) | (simp_all; done)
 ·
  rintro v1 L1 ⟨nb4, hnb4, rfl, rfl⟩
  refine ⟨[], ?_⟩
  show DP _ _ _ _ _ _ _ _ [_, _, ⟨nb4, [I64 (0:Int), .slice none 0 0, .slice none 0 0, U64 (0:UInt64)], 26, (0, 0)⟩]
  refine BR ⟨[5], [0, 1, 2, 3], [], [0, 1, 2, 3], [4]⟩ 4 _ rfl rfl (by decide +kernel) rfl ⟨⟨_, rfl, AB rfl (AC 2 26 4 AS rfl BI rfl rfl)⟩, ⟨_, rfl, AB rfl (AK rfl (BH DE BI rfl (MemAt.ent 0 rfl (D9 (p := [U64 pv, U64 ep]) (q := cu8 tg) (vs := [I64 (kd), .slice ai ni ci, .slice sa ns sc, U64 bl]) (by first | rfl | (simp only [List.append_assoc, List.nil_append, List.append_nil, List.cons_append]; done)) rfl))))⟩, ⟨_, rfl, AB rfl (AC 2 26 4 AS rfl BI rfl rfl)⟩, ⟨_, rfl, AB rfl (AK rfl (BH DE BI rfl (MemAt.ent 1 rfl (D9 (p := [U64 pv2, U64 ep2]) (q := cu8 tg2) (vs := [I64 (kd2), .slice ai2 ni2 ci2, .slice sa2 ns2 sc2, U64 bl2]) (by first | rfl | (simp only [List.append_assoc, List.nil_append, List.append_nil, List.cons_append]; done)) rfl))))⟩, trivial⟩ rfl (AZ rfl (BJ _ ([I64 (0:Int), .slice none 0 0, .slice none 0 0, U64 (0:UInt64)]) Tryd.zeroValue26 (by kernel_rfl))) ?_
  rintro v1 L1 ⟨nb6, hnb6, rfl, rfl⟩
  refine ⟨[], ?_⟩
  show DP _ _ _ _ _ _ _ _ [_, _, _, ⟨nb6, [I64 (0:Int), .slice none 0 0, .slice none 0 0, U64 (0:UInt64)], 26, (0, 0)⟩]
  refine BR ⟨[5, 4], [0, 1, 2, 3], [], [0, 1, 2, 3], [6]⟩ 6 _ rfl rfl (by decide +kernel) rfl ⟨⟨_, rfl, AB rfl (AC 2 26 4 AS rfl BI rfl rfl)⟩, ⟨_, rfl, AB rfl (AK rfl (BH DE BI rfl (MemAt.ent 0 rfl (D9 (p := [U64 pv, U64 ep]) (q := cu8 tg) (vs := [I64 (kd), .slice ai ni ci, .slice sa ns sc, U64 bl]) (by first | rfl | (simp only [List.append_assoc, List.nil_append, List.append_nil, List.cons_append]; done)) rfl))))⟩, ⟨_, rfl, AB rfl (AC 2 26 4 AS rfl BI rfl rfl)⟩, ⟨_, rfl, AB rfl (AK rfl (BH DE BI rfl (MemAt.ent 1 rfl (D9 (p := [U64 pv2, U64 ep2]) (q := cu8 tg2) (vs := [I64 (kd2), .slice ai2 ni2 ci2, .slice sa2 ns2 sc2, U64 bl2]) (by first | rfl | (simp only [List.append_assoc, List.nil_append, List.append_nil, List.cons_append]; done)) rfl))))⟩, trivial⟩ rfl (AZ rfl (A6 3 nb6 0 4 ([I64 (0:Int), .slice none 0 0, .slice none 0 0, U64 (0:UInt64)]) 26 (.agg (List.toArray (α := Value) ([I64 (kd), .slice ai ni ci, .slice sa ns sc, U64 bl]))) ([I64 (kd), .slice ai ni ci, .slice sa ns sc, U64 bl]) ([I64 (kd), .slice ai ni ci, .slice sa ns sc, U64 bl]) rfl rfl rfl (by first | rfl | simp) BI rfl (by simp [Value.oneCell']) (Nat.le_of_ble_eq_true rfl) (BF (by simp [])))) ?_
  rintro v1 L1 ⟨rfl, rfl⟩
  refine ⟨[], ?_⟩
  show DP _ _ _ _ _ _ _ _ [_, _, _, ⟨nb6, [I64 (kd), .slice ai ni ci, .slice sa ns sc, U64 bl], 26, (0, 0)⟩]
  refine BR ⟨[5, 4, 6], [0, 1, 2, 3], [0, 1], [2, 3], [7]⟩ 7 _ rfl rfl (by decide +kernel) rfl ⟨⟨_, rfl, AB rfl (AC 2 26 4 AS rfl BI rfl rfl)⟩, ⟨_, rfl, AB rfl (AK rfl (BH DE BI rfl (MemAt.ent 1 rfl (D9 (p := [U64 pv2, U64 ep2]) (q := cu8 tg2) (vs := [I64 (kd2), .slice ai2 ni2 ci2, .slice sa2 ns2 sc2, U64 bl2]) (by first | rfl | (simp only [List.append_assoc, List.nil_append, List.append_nil, List.cons_append]; done)) rfl))))⟩, trivial⟩ rfl (AZ rfl (A6 2 nb4 0 4 ([I64 (0:Int), .slice none 0 0, .slice none 0 0, U64 (0:UInt64)]) 26 (.agg (List.toArray (α := Value) ([I64 (kd2), .slice ai2 ni2 ci2, .slice sa2 ns2 sc2, U64 bl2]))) ([I64 (kd2), .slice ai2 ni2 ci2, .slice sa2 ns2 sc2, U64 bl2]) ([I64 (kd2), .slice ai2 ni2 ci2, .slice sa2 ns2 sc2, U64 bl2]) rfl rfl rfl (by first | rfl | simp) BI rfl (by simp [Value.oneCell']) (Nat.le_of_ble_eq_true rfl) (BF (by simp [])))) ?_
  rintro v1 L1 ⟨rfl, rfl⟩
  refine ⟨[], ?_⟩
  show DP _ _ _ _ _ _ _ _ [_, _, ⟨nb4, [I64 (kd2), .slice ai2 ni2 ci2, .slice sa2 ns2 sc2, U64 bl2], 26, (0, 0)⟩, _]
  refine CZ ⟨[5, 4, 6, 7], [0, 1, 2, 3], [0, 1, 2, 3], [], []⟩ rfl rfl (by decide +kernel) rfl trivial ?_
  refine CC (F' := [(5, Ptr nb6 0), (6, Ptr nb4 0), (2, Ptr nb1 0), (3, Ptr nb2 0), (4, .bool false)]) (by kernel_rfl) ?_
  refine AF (AL (AE (AA (Ptr nb1 0) (AC 0 22 1 AS rfl AT rfl rfl) rfl ?_)))
  refine AA (U64 pv) (AK rfl (AV AU (MemAt.ent 0 rfl (A2 (Seg.head))))) rfl ?_
  refine AA (Ptr nb2 0) (AC 0 22 1 AS rfl AT rfl rfl) rfl ?_
  refine AA (U64 pv2) (AK rfl (AV AU (MemAt.ent 1 rfl (A2 (Seg.head))))) rfl ?_
  refine AA (.bool (decide (pv = pv2))) (AQ rfl rfl fun _ => FX pv pv2) rfl ?_
  refine AA _ (AD rfl) rfl ?_
  rcases Bool.eq_false_or_eq_true (decide (pv = pv2)) with hb7 | hb7
  ·
   have hp7 : pv = pv2 := of_decide_eq_true hb7
   refine AY 5 16 true _ (Ptr nb1 1) rfl rfl hb7 (AC 1 22 1 AS rfl AT rfl rfl) rfl ?_
   refine AY 5 16 true _ (U64 ep) rfl rfl hb7 (AK rfl (AV AU (MemAt.ent 0 rfl (A2 (AJ (Seg.head)))))) rfl ?_
   refine AY 5 16 true _ (Ptr nb2 1) rfl rfl hb7 (AC 1 22 1 AS rfl AT rfl rfl) rfl ?_
   refine AY 5 16 true _ (U64 ep2) rfl rfl hb7 (AK rfl (AV AU (MemAt.ent 1 rfl (A2 (AJ (Seg.head)))))) rfl ?_
   refine AY 5 16 true _ (.bool (decide (ep = ep2))) rfl rfl hb7 (AQ rfl rfl fun _ => FX ep ep2) rfl ?_
   refine AA _ (B0 _ rfl hb7 rfl) rfl ?_
   refine AA _ (AD rfl) rfl ?_
   rcases Bool.eq_false_or_eq_true (decide (ep = ep2)) with hb8 | hb8
   ·
    have hp8 : ep = ep2 := of_decide_eq_true hb8
    refine AY 12 23 true _ (Ptr nb1 6) rfl rfl hb8 (AC 6 27 16 AS rfl A1 rfl rfl) rfl ?_
    refine AY 12 23 true _ (.agg (cu8 tg).toArray) rfl rfl hb8 (AK rfl (BH C2 A1 (CG htg) (MemAt.ent 0 rfl (Seg.right 6 0 rfl rfl (AM _))))) rfl ?_
    refine AY 12 23 true _ (Ptr nb2 6) rfl rfl hb8 (AC 6 27 16 AS rfl A1 rfl rfl) rfl ?_
    refine AY 12 23 true _ (.agg (cu8 tg2).toArray) rfl rfl hb8 (AK rfl (BH C2 A1 (CG htg2) (MemAt.ent 1 rfl (Seg.right 6 0 rfl rfl (AM _))))) rfl ?_
    refine AY 12 23 true _ (.bool (decide (tg = tg2))) rfl rfl hb8 (DC _ _ _ rfl rfl (fun _ => E9 _ _ _ _ _ _ (by kernel_rfl)) fun _ => eql_arr8 BC BY DU E1 FO (by simp [htg]) (by simp [htg2])) rfl ?_
    refine AA _ (B0 _ rfl hb8 rfl) rfl ?_
    refine AA _ (AD rfl) rfl ?_
    rcases Bool.eq_false_or_eq_true (decide (tg = tg2)) with hb9 | hb9
    ·
     have hp9 : tg = tg2 := of_decide_eq_true hb9
     refine AY 19 30 true _ (Ptr nb6 0) rfl rfl hb9 (AC 0 3 1 AG rfl A7 rfl rfl) rfl ?_
     refine AY 19 30 true _ (I64 (kd)) rfl rfl hb9 (AK rfl (AV BA (MemAt.ent 3 rfl (Seg.head)))) rfl ?_
     refine AY 19 30 true _ (Ptr nb4 0) rfl rfl hb9 (AC 0 3 1 AG rfl A7 rfl rfl) rfl ?_
     refine AY 19 30 true _ (I64 (kd2)) rfl rfl hb9 (AK rfl (AV BA (MemAt.ent 2 rfl (Seg.head)))) rfl ?_
     refine AY 19 30 true _ (.bool (decide ((kd) = (kd2)))) rfl rfl hb9 (AQ rfl rfl fun _ => DD _ _) rfl ?_
     refine AA _ (B0 _ rfl hb9 rfl) rfl ?_
     refine AA _ (AD rfl) rfl ?_
     rcases Bool.eq_false_or_eq_true (decide ((kd) = (kd2))) with hb10 | hb10
     ·
      have hp10 : (kd) = (kd2) := of_decide_eq_true hb10
      refine AY 26 37 true _ (Ptr nb6 3) rfl rfl hb10 (AC 3 22 1 AG rfl AT rfl rfl) rfl ?_
      refine AY 26 37 true _ (U64 bl) rfl rfl hb10 (AK rfl (AV AU (MemAt.ent 3 rfl (AJ (AJ (AJ (Seg.head))))))) rfl ?_
      refine AY 26 37 true _ (Ptr nb4 3) rfl rfl hb10 (AC 3 22 1 AG rfl AT rfl rfl) rfl ?_
      refine AY 26 37 true _ (U64 bl2) rfl rfl hb10 (AK rfl (AV AU (MemAt.ent 2 rfl (AJ (AJ (AJ (Seg.head))))))) rfl ?_
      refine AY 26 37 true _ (.bool (decide (bl = bl2))) rfl rfl hb10 (AQ rfl rfl fun _ => FX bl bl2) rfl ?_
      refine AA _ (B0 _ rfl hb10 rfl) rfl ?_
      refine AA _ (AD rfl) rfl ?_
      rcases Bool.eq_false_or_eq_true (decide (bl = bl2)) with hb11 | hb11
      ·
       have hp11 : bl = bl2 := of_decide_eq_true hb11
       refine AY 33 44 true _ (Ptr nb6 1) rfl rfl hb11 (AC 1 23 1 AG rfl CE rfl rfl) rfl ?_
       refine AY 33 44 true _ (.slice ai ni ci) rfl rfl hb11 (AK rfl (AV CL (MemAt.ent 3 rfl (AJ (Seg.head))))) rfl ?_
       refine AY 33 44 true _ (Ptr nb4 1) rfl rfl hb11 (AC 1 23 1 AG rfl CE rfl rfl) rfl ?_
       refine AY 33 44 true _ (.slice ai2 ni2 ci2) rfl rfl hb11 (AK rfl (AV CL (MemAt.ent 2 rfl (AJ (Seg.head))))) rfl ?_
       refine FL 33 44 true _ rfl rfl hb11 (A3 115 [.slice ai ni ci, .slice ai2 ni2 ci2] (.bool (decide (l = l2))) (A0 [.slice ai ni ci, .slice ai2 ni2 ci2] Tryd.call115 rfl) (fun w1 hw1 => eq64_c ai ni ci l ai2 ni2 ci2 l2 w1 hl (by omega) (by omega) (by omega) (C1 hw1 rfl hv) hl2 (by omega) (by omega) (by omega) (C1 hw1 rfl hv2))) rfl ?_
       rintro v1 L1 ⟨rfl, rfl⟩
       show JL _ _ _ _ ((49, .bool (decide (l = l2))) :: _) [_, _, _, _]
       refine AA _ (B0 _ rfl hb11 rfl) rfl ?_
       refine AA _ (AD rfl) rfl ?_
       rcases Bool.eq_false_or_eq_true (decide (l = l2)) with hb12 | hb12
       ·
        have hp12 : l = l2 := of_decide_eq_true hb12
        refine AY 40 51 true _ (Ptr nb6 2) rfl rfl hb12 (AC 2 24 1 AG rfl B3 rfl rfl) rfl ?_
        refine AY 40 51 true _ (.slice sa ns sc) rfl rfl hb12 (AK rfl (AV B6 (MemAt.ent 3 rfl (AJ (AJ (Seg.head)))))) rfl ?_
        refine AY 40 51 true _ (Ptr nb4 2) rfl rfl hb12 (AC 2 24 1 AG rfl B3 rfl rfl) rfl ?_
        refine AY 40 51 true _ (.slice sa2 ns2 sc2) rfl rfl hb12 (AK rfl (AV B6 (MemAt.ent 2 rfl (AJ (AJ (Seg.head)))))) rfl ?_
        refine FL 40 51 true _ rfl rfl hb12 (A3 116 [.slice sa ns sc, .slice sa2 ns2 sc2] (.bool (decide (ls = ls2))) (A0 [.slice sa ns sc, .slice sa2 ns2 sc2] Tryd.call116 rfl) (fun w1 hw1 => eqS_c sa ns sc ls sa2 ns2 sc2 ls2 w1 hls (by omega) (by omega) (by omega) (C1 hw1 rfl hs) hls2 (by omega) (by omega) (by omega) (C1 hw1 rfl hs2))) rfl ?_
        rintro v1 L1 ⟨rfl, rfl⟩
        show JL _ _ _ _ ((56, .bool (decide (ls = ls2))) :: _) [_, _, _, _]
        refine AA _ (B0 _ rfl hb12 rfl) rfl ?_
        refine AA _ (AH rfl) rfl ?_
        refine AN (AF (BO (B8 [false, false, false, false] ?_)))
        show JQ _ _ _ _ []
        refine BP (.bool (decide (ls = ls2))) (res1 EK (BT rfl)) fun w1 hw1 => ?_
        refine ⟨_, [], rfl, ⟨congrArg Value.bool ?_, rfl⟩, hw1.sub (by simp) (by simp)⟩
        first | (simp [*]; done) | (simp_all; done)
       ·
        have hp12 : ¬ (l = l2) := of_decide_eq_false hb12
        refine AI 40 51 true _ rfl rfl hb12 rfl ?_
        refine AI 40 51 true _ rfl rfl hb12 rfl ?_
        refine AI 40 51 true _ rfl rfl hb12 rfl ?_
        refine AI 40 51 true _ rfl rfl hb12 rfl ?_
        refine AI 40 51 true _ rfl rfl hb12 rfl ?_
        refine AA _ (BM _ rfl hb12 rfl) rfl ?_
        refine AA _ (AH rfl) rfl ?_
        refine AN (AF (BO (B8 [false, false, false, false] ?_)))
        show JQ _ _ _ _ []
        refine BP (.bool false) (res1 EK (BT rfl)) fun w1 hw1 => ?_
        refine ⟨_, [], rfl, ⟨congrArg Value.bool ?_, rfl⟩, hw1.sub (by simp) (by simp)⟩
        first | (simp [*]; done) | (simp_all; done)
      ·
       have hp11 : ¬ (bl = bl2) := of_decide_eq_false hb11
       refine AI 33 44 true _ rfl rfl hb11 rfl ?_
       refine AI 33 44 true _ rfl rfl hb11 rfl ?_
       refine AI 33 44 true _ rfl rfl hb11 rfl ?_
       refine AI 33 44 true _ rfl rfl hb11 rfl ?_
       refine AI 33 44 true _ rfl rfl hb11 rfl ?_
       refine AA _ (BM _ rfl hb11 rfl) rfl ?_
       refine AA _ (AD rfl) rfl ?_
       refine AI 40 51 true _ rfl rfl rfl rfl ?_
       refine AI 40 51 true _ rfl rfl rfl rfl ?_
       refine AI 40 51 true _ rfl rfl rfl rfl ?_
       refine AI 40 51 true _ rfl rfl rfl rfl ?_
       refine AI 40 51 true _ rfl rfl rfl rfl ?_
       refine AA _ (BM _ rfl rfl rfl) rfl ?_
       refine AA _ (AH rfl) rfl ?_
       refine AN (AF (BO (B8 [false, false, false, false] ?_)))
       show JQ _ _ _ _ []
       refine BP (.bool false) (res1 EK (BT rfl)) fun w1 hw1 => ?_
       refine ⟨_, [], rfl, ⟨congrArg Value.bool ?_, rfl⟩, hw1.sub (by simp) (by simp)⟩
       first | (simp [*]; done) | (simp_all; done)
     ·
      have hp10 : ¬ ((kd) = (kd2)) := of_decide_eq_false hb10
      refine AI 26 37 true _ rfl rfl hb10 rfl ?_
      refine AI 26 37 true _ rfl rfl hb10 rfl ?_
      refine AI 26 37 true _ rfl rfl hb10 rfl ?_
      refine AI 26 37 true _ rfl rfl hb10 rfl ?_
      refine AI 26 37 true _ rfl rfl hb10 rfl ?_
      refine AA _ (BM _ rfl hb10 rfl) rfl ?_
      refine AA _ (AD rfl) rfl ?_
      refine AI 33 44 true _ rfl rfl rfl rfl ?_
      refine AI 33 44 true _ rfl rfl rfl rfl ?_
      refine AI 33 44 true _ rfl rfl rfl rfl ?_
      refine AI 33 44 true _ rfl rfl rfl rfl ?_
      refine AI 33 44 true _ rfl rfl rfl rfl ?_
      refine AA _ (BM _ rfl rfl rfl) rfl ?_
      refine AA _ (AD rfl) rfl ?_
      refine AI 40 51 true _ rfl rfl rfl rfl ?_
      refine AI 40 51 true _ rfl rfl rfl rfl ?_
      refine AI 40 51 true _ rfl rfl rfl rfl ?_
      refine AI 40 51 true _ rfl rfl rfl rfl ?_
      refine AI 40 51 true _ rfl rfl rfl rfl ?_
      refine AA _ (BM _ rfl rfl rfl) rfl ?_
      refine AA _ (AH rfl) rfl ?_
      refine AN (AF (BO (B8 [false, false, false, false] ?_)))
      show JQ _ _ _ _ []
      refine BP (.bool false) (res1 EK (BT rfl)) fun w1 hw1 => ?_
      refine ⟨_, [], rfl, ⟨congrArg Value.bool ?_, rfl⟩, hw1.sub (by simp) (by simp)⟩
      first | (simp [*]; done) | (simp_all; done)
    ·
     have hp9 : ¬ (tg = tg2) := of_decide_eq_false hb9
     refine AI 19 30 true _ rfl rfl hb9 rfl ?_
     refine AI 19 30 true _ rfl rfl hb9 rfl ?_
     refine AI 19 30 true _ rfl rfl hb9 rfl ?_
     refine AI 19 30 true _ rfl rfl hb9 rfl ?_
     refine AI 19 30 true _ rfl rfl hb9 rfl ?_
     refine AA _ (BM _ rfl hb9 rfl) rfl ?_
     refine AA _ (AD rfl) rfl ?_
     refine AI 26 37 true _ rfl rfl rfl rfl ?_
     refine AI 26 37 true _ rfl rfl rfl rfl ?_
     refine AI 26 37 true _ rfl rfl rfl rfl ?_
     refine AI 26 37 true _ rfl rfl rfl rfl ?_
     refine AI 26 37 true _ rfl rfl rfl rfl ?_
     refine AA _ (BM _ rfl rfl rfl) rfl ?_
     refine AA _ (AD rfl) rfl ?_
     refine AI 33 44 true _ rfl rfl rfl rfl ?_
     refine AI 33 44 true _ rfl rfl rfl rfl ?_
     refine AI 33 44 true _ rfl rfl rfl rfl ?_
     refine AI 33 44 true _ rfl rfl rfl rfl ?_
     refine AI 33 44 true _ rfl rfl rfl rfl ?_
     refine AA _ (BM _ rfl rfl rfl) rfl ?_
     refine AA _ (AD rfl) rfl ?_
     refine AI 40 51 true _ rfl rfl rfl rfl ?_
     refine AI 40 51 true _ rfl rfl rfl rfl ?_
     refine AI 40 51 true _ rfl rfl rfl rfl ?_
     refine AI 40 51 true _ rfl rfl rfl rfl ?_
     refine AI 40 51 true _ rfl rfl rfl rfl ?_
     refine AA _ (BM _ rfl rfl rfl) rfl ?_
     refine AA _ (AH rfl) rfl ?_
     refine AN (AF (BO (B8 [false, false, false, false] ?_)))
     show JQ _ _ _ _ []
     refine BP (.bool false) (res1 EK (BT rfl)) fun w1 hw1 => ?_
     refine ⟨_, [], rfl, ⟨congrArg Value.bool ?_, rfl⟩, hw1.sub (by simp) (by simp)⟩
     first | (simp [*]; done) | (simp_all; done)
   ·
    have hp8 : ¬ (ep = ep2) := of_decide_eq_false hb8
    refine AI 12 23 true _ rfl rfl hb8 rfl ?_
    refine AI 12 23 true _ rfl rfl hb8 rfl ?_
    refine AI 12 23 true _ rfl rfl hb8 rfl ?_
    refine AI 12 23 true _ rfl rfl hb8 rfl ?_
    refine AI 12 23 true _ rfl rfl hb8 rfl ?_
    refine AA _ (BM _ rfl hb8 rfl) rfl ?_
    refine AA _ (AD rfl) rfl ?_
    refine AI 19 30 true _ rfl rfl rfl rfl ?_
    refine AI 19 30 true _ rfl rfl rfl rfl ?_
    refine AI 19 30 true _ rfl rfl rfl rfl ?_
    refine AI 19 30 true _ rfl rfl rfl rfl ?_
    refine AI 19 30 true _ rfl rfl rfl rfl ?_
    refine AA _ (BM _ rfl rfl rfl) rfl ?_
    refine AA _ (AD rfl) rfl ?_
    refine AI 26 37 true _ rfl rfl rfl rfl ?_
    refine AI 26 37 true _ rfl rfl rfl rfl ?_
    refine AI 26 37 true _ rfl rfl rfl rfl ?_
    refine AI 26 37 true _ rfl rfl rfl rfl ?_
    refine AI 26 37 true _ rfl rfl rfl rfl ?_
    refine AA _ (BM _ rfl rfl rfl) rfl ?_
    refine AA _ (AD rfl) rfl ?_
    refine AI 33 44 true _ rfl rfl rfl rfl ?_
    refine AI 33 44 true _ rfl rfl rfl rfl ?_
    refine AI 33 44 true _ rfl rfl rfl rfl ?_
    refine AI 33 44 true _ rfl rfl rfl rfl ?_
    refine AI 33 44 true _ rfl rfl rfl rfl ?_
    refine AA _ (BM _ rfl rfl rfl) rfl ?_
    refine AA _ (AD rfl) rfl ?_
    refine AI 40 51 true _ rfl rfl rfl rfl ?_
    refine AI 40 51 true _ rfl rfl rfl rfl ?_
    refine AI 40 51 true _ rfl rfl rfl rfl ?_
    refine AI 40 51 true _ rfl rfl rfl rfl ?_
    refine AI 40 51 true _ rfl rfl rfl rfl ?_
    refine AA _ (BM _ rfl rfl rfl) rfl ?_
    refine AA _ (AH rfl) rfl ?_
    refine AN (AF (BO (B8 [false, false, false, false] ?_)))
    show JQ _ _ _ _ []
    refine BP (.bool false) (res1 EK (BT rfl)) fun w1 hw1 => ?_
    refine ⟨_, [], rfl, ⟨congrArg Value.bool ?_, rfl⟩, hw1.sub (by simp) (by simp)⟩
    first | (simp [*]; done) | (simp_all; done)
  ·
   have hp7 : ¬ (pv = pv2) := of_decide_eq_false hb7
   refine AI 5 16 true _ rfl rfl hb7 rfl ?_
   refine AI 5 16 true _ rfl rfl hb7 rfl ?_
   refine AI 5 16 true _ rfl rfl hb7 rfl ?_
   refine AI 5 16 true _ rfl rfl hb7 rfl ?_
   refine AI 5 16 true _ rfl rfl hb7 rfl ?_
   refine AA _ (BM _ rfl hb7 rfl) rfl ?_
   refine AA _ (AD rfl) rfl ?_
   refine AI 12 23 true _ rfl rfl rfl rfl ?_
   refine AI 12 23 true _ rfl rfl rfl rfl ?_
   refine AI 12 23 true _ rfl rfl rfl rfl ?_
   refine AI 12 23 true _ rfl rfl rfl rfl ?_
   refine AI 12 23 true _ rfl rfl rfl rfl ?_
   refine AA _ (BM _ rfl rfl rfl) rfl ?_
   refine AA _ (AD rfl) rfl ?_
   refine AI 19 30 true _ rfl rfl rfl rfl ?_
   refine AI 19 30 true _ rfl rfl rfl rfl ?_
   refine AI 19 30 true _ rfl rfl rfl rfl ?_
   refine AI 19 30 true _ rfl rfl rfl rfl ?_
   refine AI 19 30 true _ rfl rfl rfl rfl ?_
   refine AA _ (BM _ rfl rfl rfl) rfl ?_
   refine AA _ (AD rfl) rfl ?_
   refine AI 26 37 true _ rfl rfl rfl rfl ?_
   refine AI 26 37 true _ rfl rfl rfl rfl ?_
   refine AI 26 37 true _ rfl rfl rfl rfl ?_
   refine AI 26 37 true _ rfl rfl rfl rfl ?_
   refine AI 26 37 true _ rfl rfl rfl rfl ?_
   refine AA _ (BM _ rfl rfl rfl) rfl ?_
   refine AA _ (AD rfl) rfl ?_
   refine AI 33 44 true _ rfl rfl rfl rfl ?_
   refine AI 33 44 true _ rfl rfl rfl rfl ?_
   refine AI 33 44 true _ rfl rfl rfl rfl ?_
   refine AI 33 44 true _ rfl rfl rfl rfl ?_
   refine AI 33 44 true _ rfl rfl rfl rfl ?_
   refine AA _ (BM _ rfl rfl rfl) rfl ?_
   refine AA _ (AD rfl) rfl ?_
   refine AI 40 51 true _ rfl rfl rfl rfl ?_
   refine AI 40 51 true _ rfl rfl rfl rfl ?_
   refine AI 40 51 true _ rfl rfl rfl rfl ?_
   refine AI 40 51 true _ rfl rfl rfl rfl ?_
   refine AI 40 51 true _ rfl rfl rfl rfl ?_
   refine AA _ (BM _ rfl rfl rfl) rfl ?_
   refine AA _ (AH rfl) rfl ?_
   refine AN (AF (BO (B8 [false, false, false, false] ?_)))
   show JQ _ _ _ _ []
   refine BP (.bool false) (res1 EK (BT rfl)) fun w1 hw1 => ?_
   refine ⟨_, [], rfl, ⟨congrArg Value.bool ?_, rfl⟩, hw1.sub (by simp) (by simp)⟩
   first | (simp [*]; done) | (simp_all; done)
theorem rsame13_c (pv ep : UInt64) (kd : Int) (ai : Option Addr) (ni ci : Nat) (l : List UInt64) (sa : Option Addr) (ns sc : Nat) (ls : List SealR) (bl : UInt64) (tg : List UInt8) (pv2 ep2 : UInt64) (kd2 : Int) (ai2 : Option Addr) (ni2 ci2 : Nat) (l2 : List UInt64) (sa2 : Option Addr) (ns2 sc2 : Nat) (ls2 : List SealR) (bl2 : UInt64) (tg2 : List UInt8)  (w : World) (hl : l.length = ni) (hnm : ni ≤ 2000000) (hnc : ni ≤ ci) (hcm : ci ≤ maxLen) (hv : RdV w ai (cu64 l)) (hls : ls.length = ns) (hnn : ns ≤ 2000000) (hnd : ns ≤ sc) (hcn : sc ≤ maxLen) (hs : RdV w sa (ls.flatMap sealC)) (htg : tg.length = 16) (hl2 : l2.length = ni2) (hnm2 : ni2 ≤ 2000000) (hnc2 : ni2 ≤ ci2) (hcm2 : ci2 ≤ maxLen) (hv2 : RdV w ai2 (cu64 l2)) (hls2 : ls2.length = ns2) (hnn2 : ns2 ≤ 2000000) (hnd2 : ns2 ≤ sc2) (hcn2 : sc2 ≤ maxLen) (hs2 : RdV w sa2 (ls2.flatMap sealC)) (htg2 : tg2.length = 16)  : Calls Tryd.prog 51 #[.agg (List.toArray (α := Value) ([U64 pv, U64 ep, I64 (kd), .slice ai ni ci, .slice sa ns sc, U64 bl] ++ cu8 tg)), .agg (List.toArray (α := Value) ([U64 pv2, U64 ep2, I64 (kd2), .slice ai2 ni2 ci2, .slice sa2 ns2 sc2, U64 bl2] ++ cu8 tg2))] w (Post w [] (fun v L => v = .bool (decide (pv = pv2 ∧ ep = ep2 ∧ tg = tg2 ∧ kd = kd2 ∧ bl = bl2 ∧ l = l2 ∧ ls = ls2)) ∧ L = [])) := by
 have hmx : maxLen = 9223372036854775807 := rfl
 refine enter (P := Tryd.prog) (f := 51) (fn := Tryd.f51) w [] 108 [] [.agg (List.toArray (α := Value) ([U64 pv, U64 ep, I64 (kd), .slice ai ni ci, .slice sa ns sc, U64 bl] ++ cu8 tg)), .agg (List.toArray (α := Value) ([U64 pv2, U64 ep2, I64 (kd2), .slice ai2 ni2 ci2, .slice sa2 ns2 sc2, U64 bl2] ++ cu8 tg2))] Tryd.func51 rfl rfl (by simp) (B7 (by simp) (by simp) (by simp)) ?_
 show JC _ _ _ [(0, .agg (List.toArray (α := Value) ([U64 pv, U64 ep, I64 (kd), .slice ai ni ci, .slice sa ns sc, U64 bl] ++ cu8 tg))), (1, .agg (List.toArray (α := Value) ([U64 pv2, U64 ep2, I64 (kd2), .slice ai2 ni2 ci2, .slice sa2 ns2 sc2, U64 bl2] ++ cu8 tg2)))] _
 refine AL (AE (AR (CN (.agg (List.toArray (α := Value) ([U64 pv, U64 ep, I64 (kd), .slice ai ni ci, .slice sa ns sc, U64 bl] ++ cu8 tg))) ([U64 pv, U64 ep, I64 (kd), .slice ai ni ci, .slice sa ns sc, U64 bl] ++ cu8 tg) rfl (by first | rfl | simp)) rfl ?_))
 rintro v1 L1 ⟨nb1, hnb1, rfl, rfl⟩
 show JL _ _ _ _ ((2, Ptr nb1 0) :: _) [⟨nb1, [U64 pv, U64 ep, I64 (kd), .slice ai ni ci, .slice sa ns sc, U64 bl] ++ cu8 tg, 38, (0, 0)⟩]
 refine AR (CN (.agg (List.toArray (α := Value) ([U64 pv2, U64 ep2, I64 (kd2), .slice ai2 ni2 ci2, .slice sa2 ns2 sc2, U64 bl2] ++ cu8 tg2))) ([U64 pv2, U64 ep2, I64 (kd2), .slice ai2 ni2 ci2, .slice sa2 ns2 sc2, U64 bl2] ++ cu8 tg2) rfl (by first | rfl | simp)) rfl ?_
 rintro v1 L1 ⟨nb2, hnb2, rfl, rfl⟩
 show JL _ _ _ _ ((3, Ptr nb2 0) :: _) [_, ⟨nb2, [U64 pv2, U64 ep2, I64 (kd2), .slice ai2 ni2 ci2, .slice sa2 ns2 sc2, U64 bl2] ++ cu8 tg2, 38, (0, 0)⟩]
 refine AA _ (AH rfl) rfl ?_
 refine AN (AF (AL (AL (AE (AA (Ptr nb1 0) (AC 0 22 1 A4 rfl AT rfl rfl) rfl ?_)))))
 refine AA (U64 pv) (AK rfl (AV AU (MemAt.ent 0 rfl (A2 (Seg.head))))) rfl ?_
 refine AA (Ptr nb2 0) (AC 0 22 1 A4 rfl AT rfl rfl) rfl ?_
 refine AA (U64 pv2) (AK rfl (AV AU (MemAt.ent 1 rfl (A2 (Seg.head))))) rfl ?_
 refine AA (.bool (decide (pv ≠ pv2))) (AQ rfl rfl fun _ => EP pv pv2) rfl ?_
 refine AA _ (AD rfl) rfl ?_
 rcases Bool.eq_false_or_eq_true (decide (pv ≠ pv2)) with hb1 | hb1
 ·
  have hp1 : pv ≠ pv2 := of_decide_eq_true hb1
  refine AI 5 12 false _ rfl rfl hb1 rfl ?_
  refine AI 5 12 false _ rfl rfl hb1 rfl ?_
  refine AI 5 12 false _ rfl rfl hb1 rfl ?_
  refine AI 5 12 false _ rfl rfl hb1 rfl ?_
  refine AI 5 12 false _ rfl rfl hb1 rfl ?_
  refine AA _ (B0 _ rfl hb1 rfl) rfl ?_
  refine AA _ (AD rfl) rfl ?_
  refine AI 12 19 false _ rfl rfl rfl rfl ?_
  refine AI 12 19 false _ rfl rfl rfl rfl ?_
  refine AI 12 19 false _ rfl rfl rfl rfl ?_
  refine AI 12 19 false _ rfl rfl rfl rfl ?_
  refine AI 12 19 false _ rfl rfl rfl rfl ?_
  refine AA _ (B0 _ rfl rfl rfl) rfl ?_
  refine AA _ (AD rfl) rfl ?_
  refine AI 19 26 false _ rfl rfl rfl rfl ?_
  refine AI 19 26 false _ rfl rfl rfl rfl ?_
  refine AI 19 26 false _ rfl rfl rfl rfl ?_
  refine AI 19 26 false _ rfl rfl rfl rfl ?_
  refine AI 19 26 false _ rfl rfl rfl rfl ?_
  refine AI 19 26 false _ rfl rfl rfl rfl ?_
  refine AI 19 26 false _ rfl rfl rfl rfl ?_
  refine AA _ (B0 _ rfl rfl rfl) rfl ?_
  refine AA _ (AD rfl) rfl ?_
  refine AI 28 35 false _ rfl rfl rfl rfl ?_
  refine AI 28 35 false _ rfl rfl rfl rfl ?_
  refine AI 28 35 false _ rfl rfl rfl rfl ?_
  refine AI 28 35 false _ rfl rfl rfl rfl ?_
  refine AI 28 35 false _ rfl rfl rfl rfl ?_
  refine AI 28 35 false _ rfl rfl rfl rfl ?_
  refine AI 28 35 false _ rfl rfl rfl rfl ?_
  refine AA _ (B0 _ rfl rfl rfl) rfl ?_
  refine AA _ (AD rfl) rfl ?_
  refine AI 37 44 false _ rfl rfl rfl rfl ?_
  refine AI 37 44 false _ rfl rfl rfl rfl ?_
  refine AI 37 44 false _ rfl rfl rfl rfl ?_
  refine AI 37 44 false _ rfl rfl rfl rfl ?_
  refine AI 37 44 false _ rfl rfl rfl rfl ?_
  refine AI 37 44 false _ rfl rfl rfl rfl ?_
  refine AI 37 44 false _ rfl rfl rfl rfl ?_
  refine AI 37 44 false _ rfl rfl rfl rfl ?_
  refine AI 37 44 false _ rfl rfl rfl rfl ?_
  refine AA _ (B0 _ rfl rfl rfl) rfl ?_
  refine AA _ (AD rfl) rfl ?_
  refine AI 48 55 false _ rfl rfl rfl rfl ?_
  refine AI 48 55 false _ rfl rfl rfl rfl ?_
  refine AI 48 55 false _ rfl rfl rfl rfl ?_
  refine AI 48 55 false _ rfl rfl rfl rfl ?_
  refine AI 48 55 false _ rfl rfl rfl rfl ?_
  refine AI 48 55 false _ rfl rfl rfl rfl ?_
  refine AI 48 55 false _ rfl rfl rfl rfl ?_
  refine AI 48 55 false _ rfl rfl rfl rfl ?_
  refine AI 48 55 false _ rfl rfl rfl rfl ?_
  refine AA _ (B0 _ rfl rfl rfl) rfl ?_
  refine AN (AF (C9 _ rfl rfl ?_))
  refine AL (AE (AA _ (AH rfl) rfl ?_))
  refine AN (AF (BO (A5 (B8 [false, false] ?_))))
  show JQ _ _ _ _ []
  refine BP (.bool false) (res1 Tryd.results51 (BT rfl)) fun w1 hw1 => ?_
  refine ⟨_, [], rfl, ⟨congrArg Value.bool ?_, rfl⟩, hw1.sub (by simp) (by simp)⟩
  refine (decide_eq_false (fun h => ?_)).symm
  obtain ⟨h1, h2, h3, h4, h5, h6, h7⟩ := h
  have h8 := congrArg List.length h6
  have h9 := congrArg List.length h7
  first | omega | contradiction | exact list_ne (FV (i := i) (by omega)) (FV (i := i) (by omega)) (by assumption) h6 | (simp_all; done)
 ·
  have hp1 : ¬ (pv ≠ pv2) := of_decide_eq_false hb1
  refine AY 5 12 false _ (Ptr nb1 1) rfl rfl hb1 (AC 1 22 1 A4 rfl AT rfl rfl) rfl ?_
  refine AY 5 12 false _ (U64 ep) rfl rfl hb1 (AK rfl (AV AU (MemAt.ent 0 rfl (A2 (AJ (Seg.head)))))) rfl ?_
  refine AY 5 12 false _ (Ptr nb2 1) rfl rfl hb1 (AC 1 22 1 A4 rfl AT rfl rfl) rfl ?_
  refine AY 5 12 false _ (U64 ep2) rfl rfl hb1 (AK rfl (AV AU (MemAt.ent 1 rfl (A2 (AJ (Seg.head)))))) rfl ?_
  refine AY 5 12 false _ (.bool (decide (ep ≠ ep2))) rfl rfl hb1 (AQ rfl rfl fun _ => EP ep ep2) rfl ?_
  refine AA _ (BM _ rfl hb1 rfl) rfl ?_
  refine AA _ (AD rfl) rfl ?_
  rcases Bool.eq_false_or_eq_true (decide (ep ≠ ep2)) with hb2 | hb2
  ·
   have hp2 : ep ≠ ep2 := of_decide_eq_true hb2
   refine AI 12 19 false _ rfl rfl hb2 rfl ?_
   refine AI 12 19 false _ rfl rfl hb2 rfl ?_
   refine AI 12 19 false _ rfl rfl hb2 rfl ?_
   refine AI 12 19 false _ rfl rfl hb2 rfl ?_
   refine AI 12 19 false _ rfl rfl hb2 rfl ?_
   refine AA _ (B0 _ rfl hb2 rfl) rfl ?_
   refine AA _ (AD rfl) rfl ?_
   refine AI 19 26 false _ rfl rfl rfl rfl ?_
   refine AI 19 26 false _ rfl rfl rfl rfl ?_
   refine AI 19 26 false _ rfl rfl rfl rfl ?_
   refine AI 19 26 false _ rfl rfl rfl rfl ?_
   refine AI 19 26 false _ rfl rfl rfl rfl ?_
   refine AI 19 26 false _ rfl rfl rfl rfl ?_
   refine AI 19 26 false _ rfl rfl rfl rfl ?_
   refine AA _ (B0 _ rfl rfl rfl) rfl ?_
   refine AA _ (AD rfl) rfl ?_
   refine AI 28 35 false _ rfl rfl rfl rfl ?_
   refine AI 28 35 false _ rfl rfl rfl rfl ?_
   refine AI 28 35 false _ rfl rfl rfl rfl ?_
   refine AI 28 35 false _ rfl rfl rfl rfl ?_
   refine AI 28 35 false _ rfl rfl rfl rfl ?_
   refine AI 28 35 false _ rfl rfl rfl rfl ?_
   refine AI 28 35 false _ rfl rfl rfl rfl ?_
   refine AA _ (B0 _ rfl rfl rfl) rfl ?_
   refine AA _ (AD rfl) rfl ?_
   refine AI 37 44 false _ rfl rfl rfl rfl ?_
   refine AI 37 44 false _ rfl rfl rfl rfl ?_
   refine AI 37 44 false _ rfl rfl rfl rfl ?_
   refine AI 37 44 false _ rfl rfl rfl rfl ?_
   refine AI 37 44 false _ rfl rfl rfl rfl ?_
   refine AI 37 44 false _ rfl rfl rfl rfl ?_
   refine AI 37 44 false _ rfl rfl rfl rfl ?_
   refine AI 37 44 false _ rfl rfl rfl rfl ?_
   refine AI 37 44 false _ rfl rfl rfl rfl ?_
   refine AA _ (B0 _ rfl rfl rfl) rfl ?_
   refine AA _ (AD rfl) rfl ?_
   refine AI 48 55 false _ rfl rfl rfl rfl ?_
   refine AI 48 55 false _ rfl rfl rfl rfl ?_
   refine AI 48 55 false _ rfl rfl rfl rfl ?_
   refine AI 48 55 false _ rfl rfl rfl rfl ?_
   refine AI 48 55 false _ rfl rfl rfl rfl ?_
   refine AI 48 55 false _ rfl rfl rfl rfl ?_
   refine AI 48 55 false _ rfl rfl rfl rfl ?_
   refine AI 48 55 false _ rfl rfl rfl rfl ?_
   refine AI 48 55 false _ rfl rfl rfl rfl ?_
   refine AA _ (B0 _ rfl rfl rfl) rfl ?_
   refine AN (AF (C9 _ rfl rfl ?_))
   refine AL (AE (AA _ (AH rfl) rfl ?_))
   refine AN (AF (BO (A5 (B8 [false, false] ?_))))
   show JQ _ _ _ _ []
   refine BP (.bool false) (res1 Tryd.results51 (BT rfl)) fun w1 hw1 => ?_
   refine ⟨_, [], rfl, ⟨congrArg Value.bool ?_, rfl⟩, hw1.sub (by simp) (by simp)⟩
   refine (decide_eq_false (fun h => ?_)).symm
   obtain ⟨h1, h2, h3, h4, h5, h6, h7⟩ := h
   have h8 := congrArg List.length h6
   have h9 := congrArg List.length h7
   first | omega | contradiction | exact list_ne (FV (i := i) (by omega)) (FV (i := i) (by omega)) (by assumption) h6 | (simp_all; done)
  ·
   have hp2 : ¬ (ep ≠ ep2) := of_decide_eq_false hb2
   refine AY 12 19 false _ (Ptr nb1 6) rfl rfl hb2 (AC 6 27 16 A4 rfl A1 rfl rfl) rfl ?_
   refine AY 12 19 false _ (.agg (cu8 tg).toArray) rfl rfl hb2 (AK rfl (BH C2 A1 (CG htg) (MemAt.ent 0 rfl (Seg.right 6 0 rfl rfl (AM _))))) rfl ?_
   refine AY 12 19 false _ (Ptr nb2 6) rfl rfl hb2 (AC 6 27 16 A4 rfl A1 rfl rfl) rfl ?_
   refine AY 12 19 false _ (.agg (cu8 tg2).toArray) rfl rfl hb2 (AK rfl (BH C2 A1 (CG htg2) (MemAt.ent 1 rfl (Seg.right 6 0 rfl rfl (AM _))))) rfl ?_
   refine AY 12 19 false _ (.bool (!(decide (tg = tg2)))) rfl rfl hb2 (DC _ _ _ rfl rfl (fun _ => E9 _ _ _ _ _ _ (by kernel_rfl)) fun _ => neq_arr8 BC BY DU E1 FO (by simp [htg]) (by simp [htg2])) rfl ?_
   refine AA _ (BM _ rfl hb2 rfl) rfl ?_
   refine AA _ (AD rfl) rfl ?_
   rcases Bool.eq_false_or_eq_true (decide (tg = tg2)) with hb3 | hb3
   ·
    have hp3 : tg = tg2 := of_decide_eq_true hb3
    refine AY 19 26 false _ (Ptr nb1 2) rfl rfl (by rw [show (decide (tg = tg2)) = true from hb3] <;> rfl) (AC 2 36 4 A4 rfl CI rfl rfl) rfl ?_
    refine AY 19 26 false _ (Ptr nb1 2) rfl rfl (by rw [show (decide (tg = tg2)) = true from hb3] <;> rfl) (AC 0 3 1 A8 rfl A7 rfl rfl) rfl ?_
    refine AY 19 26 false _ (I64 (kd)) rfl rfl (by rw [show (decide (tg = tg2)) = true from hb3] <;> rfl) (AK rfl (AV BA (MemAt.ent 0 rfl (A2 (AJ (AJ (Seg.head))))))) rfl ?_
    refine AY 19 26 false _ (Ptr nb2 2) rfl rfl (by rw [show (decide (tg = tg2)) = true from hb3] <;> rfl) (AC 2 36 4 A4 rfl CI rfl rfl) rfl ?_
    refine AY 19 26 false _ (Ptr nb2 2) rfl rfl (by rw [show (decide (tg = tg2)) = true from hb3] <;> rfl) (AC 0 3 1 A8 rfl A7 rfl rfl) rfl ?_
    refine AY 19 26 false _ (I64 (kd2)) rfl rfl (by rw [show (decide (tg = tg2)) = true from hb3] <;> rfl) (AK rfl (AV BA (MemAt.ent 1 rfl (A2 (AJ (AJ (Seg.head))))))) rfl ?_
    refine AY 19 26 false _ (.bool (decide ((kd) ≠ (kd2)))) rfl rfl (by rw [show (decide (tg = tg2)) = true from hb3] <;> rfl) (AQ rfl rfl fun _ => E8 _ _) rfl ?_
    refine AA _ (BM _ rfl (by rw [show (decide (tg = tg2)) = true from hb3] <;> rfl) rfl) rfl ?_
    refine AA _ (AD rfl) rfl ?_
    rcases Bool.eq_false_or_eq_true (decide ((kd) ≠ (kd2))) with hb4 | hb4
    ·
     have hp4 : (kd) ≠ (kd2) := of_decide_eq_true hb4
     refine AI 28 35 false _ rfl rfl hb4 rfl ?_
     refine AI 28 35 false _ rfl rfl hb4 rfl ?_
     refine AI 28 35 false _ rfl rfl hb4 rfl ?_
     refine AI 28 35 false _ rfl rfl hb4 rfl ?_
     refine AI 28 35 false _ rfl rfl hb4 rfl ?_
     refine AI 28 35 false _ rfl rfl hb4 rfl ?_
     refine AI 28 35 false _ rfl rfl hb4 rfl ?_
     refine AA _ (B0 _ rfl hb4 rfl) rfl ?_
     refine AA _ (AD rfl) rfl ?_
     refine AI 37 44 false _ rfl rfl rfl rfl ?_
     refine AI 37 44 false _ rfl rfl rfl rfl ?_
     refine AI 37 44 false _ rfl rfl rfl rfl ?_
     refine AI 37 44 false _ rfl rfl rfl rfl ?_
     refine AI 37 44 false _ rfl rfl rfl rfl ?_
     refine AI 37 44 false _ rfl rfl rfl rfl ?_
     refine AI 37 44 false _ rfl rfl rfl rfl ?_
     refine AI 37 44 false _ rfl rfl rfl rfl ?_
     refine AI 37 44 false _ rfl rfl rfl rfl ?_
     refine AA _ (B0 _ rfl rfl rfl) rfl ?_
     refine AA _ (AD rfl) rfl ?_
     refine AI 48 55 false _ rfl rfl rfl rfl ?_
     refine AI 48 55 false _ rfl rfl rfl rfl ?_
     refine AI 48 55 false _ rfl rfl rfl rfl ?_
     refine AI 48 55 false _ rfl rfl rfl rfl ?_
     refine AI 48 55 false _ rfl rfl rfl rfl ?_
     refine AI 48 55 false _ rfl rfl rfl rfl ?_
     refine AI 48 55 false _ rfl rfl rfl rfl ?_
     refine AI 48 55 false _ rfl rfl rfl rfl ?_
     refine AI 48 55 false _ rfl rfl rfl rfl ?_
     refine AA _ (B0 _ rfl rfl rfl) rfl ?_
     refine AN (AF (C9 _ rfl rfl ?_))
     refine AL (AE (AA _ (AH rfl) rfl ?_))
     refine AN (AF (BO (A5 (B8 [false, false] ?_))))
     show JQ _ _ _ _ []
     refine BP (.bool false) (res1 Tryd.results51 (BT rfl)) fun w1 hw1 => ?_
     refine ⟨_, [], rfl, ⟨congrArg Value.bool ?_, rfl⟩, hw1.sub (by simp) (by simp)⟩
     refine (decide_eq_false (fun h => ?_)).symm
     obtain ⟨h1, h2, h3, h4, h5, h6, h7⟩ := h
     have h8 := congrArg List.length h6
     have h9 := congrArg List.length h7
     first | omega | contradiction | exact list_ne (FV (i := i) (by omega)) (FV (i := i) (by omega)) (by assumption) h6 | (simp_all; done)
    ·
     have hp4 : ¬ ((kd) ≠ (kd2)) := of_decide_eq_false hb4
     refine AY 28 35 false _ (Ptr nb1 2) rfl rfl hb4 (AC 2 36 4 A4 rfl CI rfl rfl) rfl ?_
     refine AY 28 35 false _ (Ptr nb1 5) rfl rfl hb4 (AC 3 22 1 A8 rfl AT rfl rfl) rfl ?_
     refine AY 28 35 false _ (U64 bl) rfl rfl hb4 (AK rfl (AV AU (MemAt.ent 0 rfl (A2 (AJ (AJ (AJ (AJ (AJ (Seg.head)))))))))) rfl ?_
     refine AY 28 35 false _ (Ptr nb2 2) rfl rfl hb4 (AC 2 36 4 A4 rfl CI rfl rfl) rfl ?_
     refine AY 28 35 false _ (Ptr nb2 5) rfl rfl hb4 (AC 3 22 1 A8 rfl AT rfl rfl) rfl ?_
     refine AY 28 35 false _ (U64 bl2) rfl rfl hb4 (AK rfl (AV AU (MemAt.ent 1 rfl (A2 (AJ (AJ (AJ (AJ (AJ (Seg.head)))))))))) rfl ?_
     refine AY 28 35 false _ (.bool (decide (bl ≠ bl2))) rfl rfl hb4 (AQ rfl rfl fun _ => EP bl bl2) rfl ?_
     refine AA _ (BM _ rfl hb4 rfl) rfl ?_
     refine AA _ (AD rfl) rfl ?_
     rcases Bool.eq_false_or_eq_true (decide (bl ≠ bl2)) with hb5 | hb5
     ·
      have hp5 : bl ≠ bl2 := of_decide_eq_true hb5
      refine AI 37 44 false _ rfl rfl hb5 rfl ?_
      refine AI 37 44 false _ rfl rfl hb5 rfl ?_
      refine AI 37 44 false _ rfl rfl hb5 rfl ?_
      refine AI 37 44 false _ rfl rfl hb5 rfl ?_
      refine AI 37 44 false _ rfl rfl hb5 rfl ?_
      refine AI 37 44 false _ rfl rfl hb5 rfl ?_
      refine AI 37 44 false _ rfl rfl hb5 rfl ?_
      refine AI 37 44 false _ rfl rfl hb5 rfl ?_
      refine AI 37 44 false _ rfl rfl hb5 rfl ?_
      refine AA _ (B0 _ rfl hb5 rfl) rfl ?_
      refine AA _ (AD rfl) rfl ?_
      refine AI 48 55 false _ rfl rfl rfl rfl ?_
      refine AI 48 55 false _ rfl rfl rfl rfl ?_
      refine AI 48 55 false _ rfl rfl rfl rfl ?_
      refine AI 48 55 false _ rfl rfl rfl rfl ?_
      refine AI 48 55 false _ rfl rfl rfl rfl ?_
      refine AI 48 55 false _ rfl rfl rfl rfl ?_
      refine AI 48 55 false _ rfl rfl rfl rfl ?_
      refine AI 48 55 false _ rfl rfl rfl rfl ?_
      refine AI 48 55 false _ rfl rfl rfl rfl ?_
      refine AA _ (B0 _ rfl rfl rfl) rfl ?_
      refine AN (AF (C9 _ rfl rfl ?_))
      refine AL (AE (AA _ (AH rfl) rfl ?_))
      refine AN (AF (BO (A5 (B8 [false, false] ?_))))
      show JQ _ _ _ _ []
      refine BP (.bool false) (res1 Tryd.results51 (BT rfl)) fun w1 hw1 => ?_
      refine ⟨_, [], rfl, ⟨congrArg Value.bool ?_, rfl⟩, hw1.sub (by simp) (by simp)⟩
      refine (decide_eq_false (fun h => ?_)).symm
      obtain ⟨h1, h2, h3, h4, h5, h6, h7⟩ := h
      have h8 := congrArg List.length h6
      have h9 := congrArg List.length h7
      first | omega | contradiction | exact list_ne (FV (i := i) (by omega)) (FV (i := i) (by omega)) (by assumption) h6 | (simp_all; done)
     ·
      have hp5 : ¬ (bl ≠ bl2) := of_decide_eq_false hb5
      refine AY 37 44 false _ (Ptr nb1 2) rfl rfl hb5 (AC 2 36 4 A4 rfl CI rfl rfl) rfl ?_
      refine AY 37 44 false _ (Ptr nb1 3) rfl rfl hb5 (AC 1 23 1 A8 rfl CE rfl rfl) rfl ?_
      refine AY 37 44 false _ (.slice ai ni ci) rfl rfl hb5 (AK rfl (AV CL (MemAt.ent 0 rfl (A2 (AJ (AJ (AJ (Seg.head)))))))) rfl ?_
      refine AY 37 44 false _ (I64 ((ni:Int))) rfl rfl hb5 (D4 BU rfl) rfl ?_
      refine AY 37 44 false _ (Ptr nb2 2) rfl rfl hb5 (AC 2 36 4 A4 rfl CI rfl rfl) rfl ?_
      refine AY 37 44 false _ (Ptr nb2 3) rfl rfl hb5 (AC 1 23 1 A8 rfl CE rfl rfl) rfl ?_
      refine AY 37 44 false _ (.slice ai2 ni2 ci2) rfl rfl hb5 (AK rfl (AV CL (MemAt.ent 1 rfl (A2 (AJ (AJ (AJ (Seg.head)))))))) rfl ?_
      refine AY 37 44 false _ (I64 ((ni2:Int))) rfl rfl hb5 (D4 BU rfl) rfl ?_
      refine AY 37 44 false _ (.bool (decide (((ni:Int)) ≠ ((ni2:Int))))) rfl rfl hb5 (AQ rfl rfl fun _ => E8 _ _) rfl ?_
      refine AA _ (BM _ rfl hb5 rfl) rfl ?_
      refine AA _ (AD rfl) rfl ?_
      rcases Bool.eq_false_or_eq_true (decide (((ni:Int)) ≠ ((ni2:Int)))) with hb6 | hb6
      ·
       have hp6 : ((ni:Int)) ≠ ((ni2:Int)) := of_decide_eq_true hb6
       refine AI 48 55 false _ rfl rfl hb6 rfl ?_
       refine AI 48 55 false _ rfl rfl hb6 rfl ?_
       refine AI 48 55 false _ rfl rfl hb6 rfl ?_
       refine AI 48 55 false _ rfl rfl hb6 rfl ?_
       refine AI 48 55 false _ rfl rfl hb6 rfl ?_
       refine AI 48 55 false _ rfl rfl hb6 rfl ?_
       refine AI 48 55 false _ rfl rfl hb6 rfl ?_
       refine AI 48 55 false _ rfl rfl hb6 rfl ?_
       refine AI 48 55 false _ rfl rfl hb6 rfl ?_
       refine AA _ (B0 _ rfl hb6 rfl) rfl ?_
       refine AN (AF (C9 _ rfl rfl ?_))
       refine AL (AE (AA _ (AH rfl) rfl ?_))
       refine AN (AF (BO (A5 (B8 [false, false] ?_))))
       show JQ _ _ _ _ []
       refine BP (.bool false) (res1 Tryd.results51 (BT rfl)) fun w1 hw1 => ?_
       refine ⟨_, [], rfl, ⟨congrArg Value.bool ?_, rfl⟩, hw1.sub (by simp) (by simp)⟩
       refine (decide_eq_false (fun h => ?_)).symm
       obtain ⟨h1, h2, h3, h4, h5, h6, h7⟩ := h
       have h8 := congrArg List.length h6
       have h9 := congrArg List.length h7
       first | omega | contradiction | exact list_ne (FV (i := i) (by omega)) (FV (i := i) (by omega)) (by assumption) h6 | (simp_all; done)
      ·
       have hp6 : ¬ (((ni:Int)) ≠ ((ni2:Int))) := of_decide_eq_false hb6
       refine AY 48 55 false _ (Ptr nb1 2) rfl rfl hb6 (AC 2 36 4 A4 rfl CI rfl rfl) rfl ?_
       refine AY 48 55 false _ (Ptr nb1 4) rfl rfl hb6 (AC 2 34 1 A8 rfl C7 rfl rfl) rfl ?_
       refine AY 48 55 false _ (.slice sa ns sc) rfl rfl hb6 (AK rfl (AV DV (MemAt.ent 0 rfl (A2 (AJ (AJ (AJ (AJ (Seg.head))))))))) rfl ?_
       refine AY 48 55 false _ (I64 ((ns:Int))) rfl rfl hb6 (D4 CX rfl) rfl ?_
       refine AY 48 55 false _ (Ptr nb2 2) rfl rfl hb6 (AC 2 36 4 A4 rfl CI rfl rfl) rfl ?_
       refine AY 48 55 false _ (Ptr nb2 4) rfl rfl hb6 (AC 2 34 1 A8 rfl C7 rfl rfl) rfl ?_
       refine AY 48 55 false _ (.slice sa2 ns2 sc2) rfl rfl hb6 (AK rfl (AV DV (MemAt.ent 1 rfl (A2 (AJ (AJ (AJ (AJ (Seg.head))))))))) rfl ?_
       refine AY 48 55 false _ (I64 ((ns2:Int))) rfl rfl hb6 (D4 CX rfl) rfl ?_
       refine AY 48 55 false _ (.bool (decide (((ns:Int)) ≠ ((ns2:Int))))) rfl rfl hb6 (AQ rfl rfl fun _ => E8 _ _) rfl ?_
       refine AA _ (BM _ rfl hb6 rfl) rfl ?_
       refine AN (AF (CT (decide (((ns:Int)) ≠ ((ns2:Int)))) rfl (fun hb7 => ?_) (fun hb7 => ?_)))
       ·
        have hp7 : ((ns:Int)) ≠ ((ns2:Int)) := of_decide_eq_true hb7
        refine AL (AE (AA _ (AH rfl) rfl ?_))
        refine AN (AF (BO (A5 (B8 [false, false] ?_))))
        show JQ _ _ _ _ []
        refine BP (.bool false) (res1 Tryd.results51 (BT rfl)) fun w1 hw1 => ?_
        refine ⟨_, [], rfl, ⟨congrArg Value.bool ?_, rfl⟩, hw1.sub (by simp) (by simp)⟩
        refine (decide_eq_false (fun h => ?_)).symm
        obtain ⟨h1, h2, h3, h4, h5, h6, h7⟩ := h
        have h8 := congrArg List.length h6
        have h9 := congrArg List.length h7
        first | omega | contradiction | exact list_ne (FV (i := i) (by omega)) (FV (i := i) (by omega)) (by assumption) h6 | (simp_all; done)
       ·
        have hp7 : ¬ (((ns:Int)) ≠ ((ns2:Int))) := of_decide_eq_false hb7
        refine B4 (AF (AL (AL (AE (AA _ (AH rfl) rfl ?_)))))
        refine AN (AF (B5 (EE (ι := Nat) (fun i => [(2, Ptr nb1 0), (3, Ptr nb2 0), (5, I64 ((i:Int)))]) (fun i => [⟨nb1, [U64 pv, U64 ep, I64 (kd), .slice ai ni ci, .slice sa ns sc, U64 bl] ++ cu8 tg, 38, (0, 0)⟩, ⟨nb2, [U64 pv2, U64 ep2, I64 (kd2), .slice ai2 ni2 ci2, .slice sa2 ns2 sc2, U64 bl2] ++ cu8 tg2, 38, (0, 0)⟩]) (fun i => i ≤ ni ∧ ∀ k, k < i → ∀ x y, l[k]? = some x → l2[k]? = some y → x = y) (fun i => ni - i) 0 ⟨by omega, fun k hk => absurd hk (by omega)⟩ (Sub.cons rfl (Sub.cons rfl (Sub.cons rfl (Sub.nil)))) rfl ?_)))
        rintro i ⟨hi1, hi2⟩
        show JC _ _ _ [(2, Ptr nb1 0), (3, Ptr nb2 0), (5, I64 ((i:Int)))] [⟨nb1, [U64 pv, U64 ep, I64 (kd), .slice ai ni ci, .slice sa ns sc, U64 bl] ++ cu8 tg, 38, (0, 0)⟩, ⟨nb2, [U64 pv2, U64 ep2, I64 (kd2), .slice ai2 ni2 ci2, .slice sa2 ns2 sc2, U64 bl2] ++ cu8 tg2, 38, (0, 0)⟩]
        refine AL (AL (AE (AA _ (AD rfl) rfl ?_)))
        refine AA (Ptr nb1 2) (AC 2 36 4 A4 rfl CI rfl rfl) rfl ?_
        refine AA (Ptr nb1 3) (AC 1 23 1 A8 rfl CE rfl rfl) rfl ?_
        refine AA (.slice ai ni ci) (AK rfl (AV CL (MemAt.ent 0 rfl (A2 (AJ (AJ (AJ (Seg.head)))))))) rfl ?_
        refine AA (I64 ((ni:Int))) (D4 BU rfl) rfl ?_
        refine AA (.bool (decide (((i:Int)) < ((ni:Int))))) (AQ rfl rfl fun _ => DB _ _) rfl ?_
        refine AN (AF (CT (decide (((i:Int)) < ((ni:Int)))) rfl (fun hb8 => ?_) (fun hb8 => ?_)))
        ·
         have hp8 : ((i:Int)) < ((ni:Int)) := of_decide_eq_true hb8
         refine B4 (AF (AL (B5 (AL ?_))))
         obtain ⟨bz1, oz1, hz1, hm1⟩ := RdV.pos hv (by rw [E5, hl]; omega)
         obtain ⟨bz2, oz2, hz2, hm2⟩ := RdV.pos hv2 (by rw [E5, hl2]; omega)
         refine CQ 108 1 [(0, Ptr nb1 2), (1, Ptr nb1 3), (2, .slice ai ni ci), (3, I64 ((i:Int))), (4, Ptr bz1 (i + oz1)), (5, U64 (g64 l i)), (6, Ptr nb2 2), (7, Ptr nb2 3), (8, .slice ai2 ni2 ci2), (9, I64 ((i:Int))), (10, Ptr bz2 (i + oz2)), (11, U64 (g64 l2 i)), (12, .bool (decide ((g64 l i) ≠ (g64 l2 i))))] BQ rfl (by decide +kernel) ?_
         refine CZ ⟨[], [0, 1, 2, 3, 4, 5, 6, 7, 8, 9, 10, 11, 12], [], [0, 1, 2, 3, 4, 5, 6, 7, 8, 9, 10, 11, 12], []⟩ rfl rfl (by decide +kernel) rfl ⟨⟨_, rfl, AB rfl (AC 2 36 4 A4 rfl CI rfl rfl)⟩, ⟨_, rfl, AB rfl (AC 1 23 1 A8 rfl CE rfl rfl)⟩, ⟨_, rfl, AB rfl (AK rfl (AV CL (MemAt.ent 0 rfl (A2 (AJ (AJ (AJ (Seg.head))))))))⟩, ⟨_, rfl, AB rfl (AD rfl)⟩, ⟨_, rfl, AB rfl (CW 22 1 (i + oz1) BU AT rfl hz1 rfl (by omega) (by omega) (by omega))⟩, ⟨_, rfl, AB rfl (AK rfl (AV AU (CU (hm1.mem (by simp)) (Seg.get (g64_get (i := i) (by rw [hl]; omega))) (by omega))))⟩, ⟨_, rfl, AB rfl (AC 2 36 4 A4 rfl CI rfl rfl)⟩, ⟨_, rfl, AB rfl (AC 1 23 1 A8 rfl CE rfl rfl)⟩, ⟨_, rfl, AB rfl (AK rfl (AV CL (MemAt.ent 1 rfl (A2 (AJ (AJ (AJ (Seg.head))))))))⟩, ⟨_, rfl, AB rfl (AD rfl)⟩, ⟨_, rfl, AB rfl (CW 22 1 (i + oz2) BU AT rfl hz2 rfl (by omega) (by omega) (by omega))⟩, ⟨_, rfl, AB rfl (AK rfl (AV AU (CU (hm2.mem (by simp)) (Seg.get (g64_get (i := i) (by rw [hl2]; omega))) (by omega))))⟩, ⟨_, rfl, AB rfl (AQ rfl rfl fun _ => EP (g64 l i) (g64 l2 i))⟩, trivial⟩ ?_
         refine CC (F' := [(74, Ptr nb1 2), (75, Ptr nb1 3), (76, .slice ai ni ci), (77, I64 ((i:Int))), (78, Ptr bz1 (i + oz1)), (79, U64 (g64 l i)), (80, Ptr nb2 2), (81, Ptr nb2 3), (82, .slice ai2 ni2 ci2), (83, I64 ((i:Int))), (84, Ptr bz2 (i + oz2)), (85, U64 (g64 l2 i)), (86, .bool (decide ((g64 l i) ≠ (g64 l2 i)))), (2, Ptr nb1 0), (3, Ptr nb2 0), (5, I64 ((i:Int))), (66, I64 ((i:Int))), (67, Ptr nb1 2), (68, Ptr nb1 3), (69, .slice ai ni ci), (70, I64 ((ni:Int))), (71, .bool (decide (((i:Int)) < ((ni:Int)))))]) (by kernel_rfl) ?_
         refine AF (CT (decide ((g64 l i) ≠ (g64 l2 i))) rfl (fun hb9 => ?_) (fun hb9 => ?_))
         ·
          have hp9 : (g64 l i) ≠ (g64 l2 i) := of_decide_eq_true hb9
          refine AL (AE (AA _ (AH rfl) rfl ?_))
          refine AN (AF (BO (C8 (A5 (A5 (C8 (A5 (B8 [false, false] ?_))))))))
          show JQ _ _ _ _ []
          refine BP (.bool false) (res1 Tryd.results51 (BT rfl)) fun w1 hw1 => ?_
          refine ⟨_, [], rfl, ⟨congrArg Value.bool ?_, rfl⟩, hw1.sub (by simp) (by simp)⟩
          refine (decide_eq_false (fun h => ?_)).symm
          obtain ⟨h1, h2, h3, h4, h5, h6, h7⟩ := h
          have h8 := congrArg List.length h6
          have h9 := congrArg List.length h7
          first | omega | contradiction | exact list_ne (FV (i := i) (by omega)) (FV (i := i) (by omega)) (by assumption) h6 | (simp_all; done)
         ·
          have hp9 : ¬ ((g64 l i) ≠ (g64 l2 i)) := of_decide_eq_false hb9
          refine B4 (B1 (AF (AE (AA _ (AD rfl) rfl ?_))))
          refine AA (I64 ((i:Int) + 1)) (AQ rfl rfl fun _ => DI _ _ ((i:Int) + 1) (by omega) (by omega)) rfl ?_
          refine AA _ (AH rfl) rfl ?_
          refine AN (DF (EN (i + 1) ⟨by omega, eq_step (FV (i := i) (by omega)) (FV (i := i) (by omega)) (Classical.not_not.1 (by assumption)) hi2⟩ (by first | (simp; omega) | simp | (dsimp only; omega) | omega) (Sub.cons rfl (Sub.cons rfl (Sub.cons rfl (Sub.nil)))) rfl))
        ·
         have hp8 : ¬ (((i:Int)) < ((ni:Int))) := of_decide_eq_false hb8
         refine EB (BD (BD (CV (AF (AL (AL (AE (AA _ (AH rfl) rfl ?_))))))))
         refine AN (AF (B5 (EE (ι := Nat) (fun j => [(2, Ptr nb1 0), (3, Ptr nb2 0), (6, I64 ((j:Int)))]) (fun j => [⟨nb1, [U64 pv, U64 ep, I64 (kd), .slice ai ni ci, .slice sa ns sc, U64 bl] ++ cu8 tg, 38, (0, 0)⟩, ⟨nb2, [U64 pv2, U64 ep2, I64 (kd2), .slice ai2 ni2 ci2, .slice sa2 ns2 sc2, U64 bl2] ++ cu8 tg2, 38, (0, 0)⟩]) (fun j => j ≤ ns ∧ ∀ k, k < j → ∀ x y, ls[k]? = some x → ls2[k]? = some y → x = y) (fun j => ns - j) 0 ⟨by omega, fun k hk => absurd hk (by omega)⟩ (Sub.cons rfl (Sub.cons rfl (Sub.cons rfl (Sub.nil)))) rfl ?_)))
         rintro j ⟨hj1, hj2⟩
         show JC _ _ _ [(2, Ptr nb1 0), (3, Ptr nb2 0), (6, I64 ((j:Int)))] [⟨nb1, [U64 pv, U64 ep, I64 (kd), .slice ai ni ci, .slice sa ns sc, U64 bl] ++ cu8 tg, 38, (0, 0)⟩, ⟨nb2, [U64 pv2, U64 ep2, I64 (kd2), .slice ai2 ni2 ci2, .slice sa2 ns2 sc2, U64 bl2] ++ cu8 tg2, 38, (0, 0)⟩]
         refine AL (AL (AE (AA _ (AD rfl) rfl ?_)))
         refine AA (Ptr nb1 2) (AC 2 36 4 A4 rfl CI rfl rfl) rfl ?_
         refine AA (Ptr nb1 4) (AC 2 34 1 A8 rfl C7 rfl rfl) rfl ?_
         refine AA (.slice sa ns sc) (AK rfl (AV DV (MemAt.ent 0 rfl (A2 (AJ (AJ (AJ (AJ (Seg.head))))))))) rfl ?_
         refine AA (I64 ((ns:Int))) (D4 CX rfl) rfl ?_
         refine AA (.bool (decide (((j:Int)) < ((ns:Int))))) (AQ rfl rfl fun _ => DB _ _) rfl ?_
         refine AN (AF (CT (decide (((j:Int)) < ((ns:Int)))) rfl (fun hb10 => ?_) (fun hb10 => ?_)))
         ·
          have hp10 : ((j:Int)) < ((ns:Int)) := of_decide_eq_true hb10
          refine B4 (AF (AL (B5 (AL ?_))))
          obtain ⟨x1, hx1⟩ : ∃ x, ls[j]? = some x := ⟨_, List.getElem?_eq_getElem (by rw [hls]; omega)⟩
          obtain ⟨bz3, oz3, hz3, hm3⟩ := F6 E2 (by decide) hs hx1
          obtain ⟨x2, hx2⟩ : ∃ x, ls2[j]? = some x := ⟨_, List.getElem?_eq_getElem (by rw [hls2]; omega)⟩
          obtain ⟨bz4, oz4, hz4, hm4⟩ := F6 E2 (by decide) hs2 hx2
          refine CQ 108 1 [(0, Ptr nb1 2), (1, Ptr nb1 4), (2, .slice sa ns sc), (3, I64 ((j:Int))), (4, Ptr bz3 (49*j + oz3)), (5, .agg (List.toArray (α := Value) ([U64 x1.e] ++ cu8 x1.d ++ cu8 x1.t))), (6, Ptr nb2 2), (7, Ptr nb2 4), (8, .slice sa2 ns2 sc2), (9, I64 ((j:Int))), (10, Ptr bz4 (49*j + oz4)), (11, .agg (List.toArray (α := Value) ([U64 x2.e] ++ cu8 x2.d ++ cu8 x2.t))), (12, .bool (!(decide (x1.e = x2.e ∧ x1.d = x2.d ∧ x1.t = x2.t))))] BQ rfl (by decide +kernel) ?_
          refine CZ ⟨[], [0, 1, 2, 3, 4, 5, 6, 7, 8, 9, 10, 11, 12], [], [0, 1, 2, 3, 4, 5, 6, 7, 8, 9, 10, 11, 12], []⟩ rfl rfl (by decide +kernel) rfl ⟨⟨_, rfl, AB rfl (AC 2 36 4 A4 rfl CI rfl rfl)⟩, ⟨_, rfl, AB rfl (AC 2 34 1 A8 rfl C7 rfl rfl)⟩, ⟨_, rfl, AB rfl (AK rfl (AV DV (MemAt.ent 0 rfl (A2 (AJ (AJ (AJ (AJ (Seg.head)))))))))⟩, ⟨_, rfl, AB rfl (AD rfl)⟩, ⟨_, rfl, AB rfl (CW 164 49 (49*j + oz3) CX EG rfl hz3 rfl (by omega) (by omega) (by omega))⟩, ⟨_, rfl, AB rfl (AK rfl (BH Tryd.isAgg164 EG (by simp [x1.hd, x1.ht]) (CU (hm3.mem (by simp)) (AM _) (by omega))))⟩, ⟨_, rfl, AB rfl (AC 2 36 4 A4 rfl CI rfl rfl)⟩, ⟨_, rfl, AB rfl (AC 2 34 1 A8 rfl C7 rfl rfl)⟩, ⟨_, rfl, AB rfl (AK rfl (AV DV (MemAt.ent 1 rfl (A2 (AJ (AJ (AJ (AJ (Seg.head)))))))))⟩, ⟨_, rfl, AB rfl (AD rfl)⟩, ⟨_, rfl, AB rfl (CW 164 49 (49*j + oz4) CX EG rfl hz4 rfl (by omega) (by omega) (by omega))⟩, ⟨_, rfl, AB rfl (AK rfl (BH Tryd.isAgg164 EG (by simp [x2.hd, x2.ht]) (CU (hm4.mem (by simp)) (AM _) (by omega))))⟩, ⟨_, rfl, AB rfl (DC _ _ _ rfl rfl (fun _ => E9 _ _ _ _ _ _ (by kernel_rfl)) (neq_struct (x1.e = x2.e ∧ x1.d = x2.d ∧ x1.t = x2.t) (EqV.struct (d := 9999) (by kernel_rfl) (by kernel_rfl) (by kernel_rfl) (EqRs.cons 22 0 (U64 x1.e) (U64 x2.e) _ _ _ (PartV.one AU (A2 (A2 (Seg.head)))) (PartV.one AU (A2 (A2 (Seg.head)))) (EqV.u64 (d := 9998) CF x1.e x2.e) (EqRs.cons 159 1 (.agg (cu8 x1.d).toArray) (.agg (cu8 x2.d).toArray) _ _ _ (PartV.agg Tryd.isAgg159 Tryd.sizeOf159 (Seg.cut (A2 (Seg.right 1 0 rfl rfl (AM _))) (CG x1.hd) (by omega))) (PartV.agg Tryd.isAgg159 Tryd.sizeOf159 (Seg.cut (A2 (Seg.right 1 0 rfl rfl (AM _))) (CG x2.hd) (by omega))) (EqV.arr8 (d := 9997) Tryd.underlying159 BY DU E1 FO (by simp [x1.hd]) (by simp [x2.hd])) (EqRs.last 27 33 (.agg (cu8 x1.t).toArray) (.agg (cu8 x2.t).toArray) _ (PartV.agg C2 A1 (Seg.cut (Seg.right 33 0 (by simp [x1.hd]) rfl (AM _)) (CG x1.ht) (by omega))) (PartV.agg C2 A1 (Seg.cut (Seg.right 33 0 (by simp [x2.hd]) rfl (AM _)) (CG x2.ht) (by omega))) (EqV.arr8 (d := 9997) BC BY DU E1 FO (by simp [x1.ht]) (by simp [x2.ht])))))) (by first | rfl | (simp only [Bool.decide_and, Bool.and_assoc]; done) | (simp [Bool.and_assoc]; done))))⟩, trivial⟩ ?_
          refine CC (F' := [(95, Ptr nb1 2), (96, Ptr nb1 4), (97, .slice sa ns sc), (98, I64 ((j:Int))), (99, Ptr bz3 (49*j + oz3)), (100, .agg (List.toArray (α := Value) ([U64 x1.e] ++ cu8 x1.d ++ cu8 x1.t))), (101, Ptr nb2 2), (102, Ptr nb2 4), (103, .slice sa2 ns2 sc2), (104, I64 ((j:Int))), (105, Ptr bz4 (49*j + oz4)), (106, .agg (List.toArray (α := Value) ([U64 x2.e] ++ cu8 x2.d ++ cu8 x2.t))), (107, .bool (!(decide (x1.e = x2.e ∧ x1.d = x2.d ∧ x1.t = x2.t)))), (2, Ptr nb1 0), (3, Ptr nb2 0), (6, I64 ((j:Int))), (87, I64 ((j:Int))), (88, Ptr nb1 2), (89, Ptr nb1 4), (90, .slice sa ns sc), (91, I64 ((ns:Int))), (92, .bool (decide (((j:Int)) < ((ns:Int)))))]) (by kernel_rfl) ?_
          refine AF (CT (!(decide (x1.e = x2.e ∧ x1.d = x2.d ∧ x1.t = x2.t))) rfl (fun hb11 => ?_) (fun hb11 => ?_))
          ·
           have hb12 : (decide (x1.e = x2.e ∧ x1.d = x2.d ∧ x1.t = x2.t)) = false := by first | simpa using hb11 | exact Eq.mp (Bool.not_eq_true' _) hb11
           have hp12 : ¬ (x1.e = x2.e ∧ x1.d = x2.d ∧ x1.t = x2.t) := of_decide_eq_false hb12
           refine AL (AE (AA _ (AH rfl) rfl ?_))
           refine AN (AF (BO (C8 (A5 (A5 (C8 (A5 (B8 [false, false] ?_))))))))
           show JQ _ _ _ _ []
           refine BP (.bool false) (res1 Tryd.results51 (BT rfl)) fun w1 hw1 => ?_
           refine ⟨_, [], rfl, ⟨congrArg Value.bool ?_, rfl⟩, hw1.sub (by simp) (by simp)⟩
           refine (decide_eq_false (fun h => ?_)).symm
           obtain ⟨h1, h2, h3, h4, h5, h6, h7⟩ := h
           exact list_ne hx1 hx2 (fun e => (by assumption : ¬ _) ((SealR.eq_iff _ _).1 e)) h7
          ·
           have hb13 : (decide (x1.e = x2.e ∧ x1.d = x2.d ∧ x1.t = x2.t)) = true := by first | simpa using hb11 | exact Eq.mp (Bool.not_eq_false' _) hb11
           have hp13 : x1.e = x2.e ∧ x1.d = x2.d ∧ x1.t = x2.t := of_decide_eq_true hb13
           refine B4 (B1 (AF (AE (AA _ (AD rfl) rfl ?_))))
           refine AA (I64 ((j:Int) + 1)) (AQ rfl rfl fun _ => DI _ _ ((j:Int) + 1) (by omega) (by omega)) rfl ?_
           refine AA _ (AH rfl) rfl ?_
           refine AN (DF (EN (j + 1) ⟨by omega, eq_step hx1 hx2 ((SealR.eq_iff _ _).2 (by first | assumption | exact Classical.not_not.1 (by assumption))) hj2⟩ (by first | (simp; omega) | simp | (dsimp only; omega) | omega) (Sub.cons rfl (Sub.cons rfl (Sub.cons rfl (Sub.nil)))) rfl))
         ·
          have hp10 : ¬ (((j:Int)) < ((ns:Int))) := of_decide_eq_false hb10
          refine EB (BD (BD (CV (AF (AL (AE (AA _ (AH rfl) rfl ?_)))))))
          refine AN (AF (BO (B8 [false, false] ?_)))
          show JQ _ _ _ _ []
          refine BP (.bool true) (res1 Tryd.results51 (BT rfl)) fun w1 hw1 => ?_
          refine ⟨_, [], rfl, ⟨congrArg Value.bool ?_, rfl⟩, hw1.sub (by simp) (by simp)⟩
          have e1 : l = l2 := list_eq (by omega) (by rw [hl]; intro k hk; exact hi2 k (by omega))
          have e2 : ls = ls2 := list_eq (by omega) (by rw [hls]; intro k hk; exact hj2 k (by omega))
          exact (decide_eq_true (by simp_all)).symm
   ·
    have hp3 : ¬ (tg = tg2) := of_decide_eq_false hb3
    refine AI 19 26 false _ rfl rfl (by rw [show (decide (tg = tg2)) = false from hb3] <;> rfl) rfl ?_
    refine AI 19 26 false _ rfl rfl (by rw [show (decide (tg = tg2)) = false from hb3] <;> rfl) rfl ?_
    refine AI 19 26 false _ rfl rfl (by rw [show (decide (tg = tg2)) = false from hb3] <;> rfl) rfl ?_
    refine AI 19 26 false _ rfl rfl (by rw [show (decide (tg = tg2)) = false from hb3] <;> rfl) rfl ?_
    refine AI 19 26 false _ rfl rfl (by rw [show (decide (tg = tg2)) = false from hb3] <;> rfl) rfl ?_
    refine AI 19 26 false _ rfl rfl (by rw [show (decide (tg = tg2)) = false from hb3] <;> rfl) rfl ?_
    refine AI 19 26 false _ rfl rfl (by rw [show (decide (tg = tg2)) = false from hb3] <;> rfl) rfl ?_
    refine AA _ (B0 _ rfl (by rw [show (decide (tg = tg2)) = false from hb3] <;> rfl) rfl) rfl ?_
    refine AA _ (AD rfl) rfl ?_
    refine AI 28 35 false _ rfl rfl rfl rfl ?_
    refine AI 28 35 false _ rfl rfl rfl rfl ?_
    refine AI 28 35 false _ rfl rfl rfl rfl ?_
    refine AI 28 35 false _ rfl rfl rfl rfl ?_
    refine AI 28 35 false _ rfl rfl rfl rfl ?_
    refine AI 28 35 false _ rfl rfl rfl rfl ?_
    refine AI 28 35 false _ rfl rfl rfl rfl ?_
    refine AA _ (B0 _ rfl rfl rfl) rfl ?_
    refine AA _ (AD rfl) rfl ?_
    refine AI 37 44 false _ rfl rfl rfl rfl ?_
    refine AI 37 44 false _ rfl rfl rfl rfl ?_
    refine AI 37 44 false _ rfl rfl rfl rfl ?_
    refine AI 37 44 false _ rfl rfl rfl rfl ?_
    refine AI 37 44 false _ rfl rfl rfl rfl ?_
    refine AI 37 44 false _ rfl rfl rfl rfl ?_
    refine AI 37 44 false _ rfl rfl rfl rfl ?_
    refine AI 37 44 false _ rfl rfl rfl rfl ?_
    refine AI 37 44 false _ rfl rfl rfl rfl ?_
    refine AA _ (B0 _ rfl rfl rfl) rfl ?_
    refine AA _ (AD rfl) rfl ?_
    refine AI 48 55 false _ rfl rfl rfl rfl ?_
    refine AI 48 55 false _ rfl rfl rfl rfl ?_
    refine AI 48 55 false _ rfl rfl rfl rfl ?_
    refine AI 48 55 false _ rfl rfl rfl rfl ?_
    refine AI 48 55 false _ rfl rfl rfl rfl ?_
    refine AI 48 55 false _ rfl rfl rfl rfl ?_
    refine AI 48 55 false _ rfl rfl rfl rfl ?_
    refine AI 48 55 false _ rfl rfl rfl rfl ?_
    refine AI 48 55 false _ rfl rfl rfl rfl ?_
    refine AA _ (B0 _ rfl rfl rfl) rfl ?_
    refine AN (AF (C9 _ rfl rfl ?_))
    refine AL (AE (AA _ (AH rfl) rfl ?_))
    refine AN (AF (BO (A5 (B8 [false, false] ?_))))
    show JQ _ _ _ _ []
    refine BP (.bool false) (res1 Tryd.results51 (BT rfl)) fun w1 hw1 => ?_
    refine ⟨_, [], rfl, ⟨congrArg Value.bool ?_, rfl⟩, hw1.sub (by simp) (by simp)⟩
    refine (decide_eq_false (fun h => ?_)).symm
    obtain ⟨h1, h2, h3, h4, h5, h6, h7⟩ := h
    have h8 := congrArg List.length h6
    have h9 := congrArg List.length h7
    first | omega | contradiction | exact list_ne (FV (i := i) (by omega)) (FV (i := i) (by omega)) (by assumption) h6 | (simp_all; done)
end Go.Proofs.YtkdpdgpphpngeaaDoor
namespace Go.Proofs.YtkdpdgpphpngeaaDoor
open Go Go.Sx
set_option linter.unusedVariables false
set_option linter.unusedSimpArgs false
set_option maxRecDepth 100000
attribute [local irreducible] mid zr8 zr32 numK rnK rotr wordL spreadL comprL cpN adN spN wrdN constL initL padL stN outN routN sumG putL RightB
theorem rmay13_c (pv ep : UInt64) (kd : Int) (ai : Option Addr) (ni ci : Nat) (l : List UInt64) (sa : Option Addr) (ns sc : Nat) (ls : List SealR) (bl : UInt64) (tg : List UInt8)  (w : World) (hl : l.length = ni) (hnm : ni ≤ 2000000) (hnc : ni ≤ ci) (hcm : ci ≤ maxLen) (hv : RdV w ai (cu64 l)) (hls : ls.length = ns) (hnn : ns ≤ 2000000) (hnd : ns ≤ sc) (hcn : sc ≤ maxLen) (hs : RdV w sa (ls.flatMap sealC)) (htg : tg.length = 16)  : Calls Tryd.prog 45 #[.agg (List.toArray (α := Value) ([U64 pv, U64 ep, I64 (kd), .slice ai ni ci, .slice sa ns sc, U64 bl] ++ cu8 tg))] w (Post w [] (fun v L => v = I64 ((mayN pv ep kd l ls bl : Nat) : Int) ∧ L = [])) := by
 have hmx : maxLen = 9223372036854775807 := rfl
 refine enter (P := Tryd.prog) (f := 45) (fn := Tryd.f45) w [] 33 [] [.agg (List.toArray (α := Value) ([U64 pv, U64 ep, I64 (kd), .slice ai ni ci, .slice sa ns sc, U64 bl] ++ cu8 tg))] Tryd.func45 rfl rfl (by simp) (B7 (by simp) (by simp) (by simp)) ?_
 show JC _ _ _ [(0, .agg (List.toArray (α := Value) ([U64 pv, U64 ep, I64 (kd), .slice ai ni ci, .slice sa ns sc, U64 bl] ++ cu8 tg)))] _
 refine AL (AE (AR (CN (.agg (List.toArray (α := Value) ([U64 pv, U64 ep, I64 (kd), .slice ai ni ci, .slice sa ns sc, U64 bl] ++ cu8 tg))) ([U64 pv, U64 ep, I64 (kd), .slice ai ni ci, .slice sa ns sc, U64 bl] ++ cu8 tg) rfl (by first | rfl | simp)) rfl ?_))
 rintro v1 L1 ⟨nb1, hnb1, rfl, rfl⟩
 show JL _ _ _ _ ((1, Ptr nb1 0) :: _) [⟨nb1, [U64 pv, U64 ep, I64 (kd), .slice ai ni ci, .slice sa ns sc, U64 bl] ++ cu8 tg, 38, (0, 0)⟩]
 refine AA _ (AH rfl) rfl ?_
 refine AN (AF (AL (AL (AE (AA (Ptr nb1 2) (AC 2 36 4 A4 rfl CI rfl rfl) rfl ?_)))))
 refine AA (.agg (List.toArray (α := Value) ([I64 (kd), .slice ai ni ci, .slice sa ns sc, U64 bl]))) (AK rfl (BH Tryd.isAgg36 CI rfl (MemAt.ent 0 rfl (D9 (p := [U64 pv, U64 ep]) (q := cu8 tg) (vs := [I64 (kd), .slice ai ni ci, .slice sa ns sc, U64 bl]) (by first | rfl | (simp only [List.append_assoc, List.nil_append, List.append_nil, List.cons_append]; done)) rfl)))) rfl ?_
 refine AR (A3 67 [.agg (List.toArray (α := Value) ([I64 (kd), .slice ai ni ci, .slice sa ns sc, U64 bl]))] (.bool (RightO (kd) l ls bl)) (A0 [.agg (List.toArray (α := Value) ([I64 (kd), .slice ai ni ci, .slice sa ns sc, U64 bl]))] Tryd.call67 rfl) (fun w1 hw1 => rright13_c (kd) ai ni ci l sa ns sc ls bl w1 hl (by omega) (by omega) (by omega) (C1 hw1 rfl hv) hls (by omega) (by omega) (by omega) (C1 hw1 rfl hs))) rfl ?_
 rintro v1 L1 ⟨rfl, rfl⟩
 show JL _ _ _ _ ((5, .bool (RightO (kd) l ls bl)) :: _) [_]
 refine AA (.bool (!(RightO (kd) l ls bl))) (FK rfl) rfl ?_
 refine AN (AF (CT (!(RightO (kd) l ls bl)) rfl (fun hb1 => ?_) (fun hb1 => ?_)))
 ·
  have hb2 : (RightO (kd) l ls bl) = false := by simpa using hb1
  refine AL (AE (AA _ (AH rfl) rfl ?_))
  refine AN (AF (BO (A5 (B8 [false] ?_))))
  show JQ _ _ _ _ []
  refine BP (I64 (2:Int)) (res1 Tryd.results45 (BT rfl)) fun w1 hw1 => ?_
  have e1 : mayN pv ep kd l ls bl = 2 := by
   unfold mayN
   first | rw [if_pos ‹RightO kd l ls bl = true›] | rw [if_neg (by simp [*])]
   all_goals simp [*]
  rw [e1]
  exact ⟨_, [], rfl, ⟨rfl, rfl⟩, hw1.sub (by simp) (by simp)⟩
 ·
  have hb3 : (RightO (kd) l ls bl) = true := by simpa using hb1
  refine B4 (AF (AL (AL ?_)))
  by_cases hk1 : kd = 1
  ·
   have hpos := RightO_pos hb3 hk1
   rw [hls, hl] at hpos
   obtain ⟨x1, hx1⟩ : ∃ x, ls[0]? = some x := ⟨_, List.getElem?_eq_getElem (by rw [hls]; omega)⟩
   obtain ⟨bz1, oz1, hz1, hm1⟩ := F6 E2 (by decide) hs hx1
   refine CQ 33 1 [(0, Ptr nb1 2), (1, Ptr nb1 2), (2, I64 (kd)), (3, .bool (decide ((kd) = (1:Int)))), (4, .bool (decide ((kd) = (1:Int)))), (5, Ptr nb1 2), (6, Ptr nb1 4), (7, .slice sa ns sc), (8, Ptr bz1 oz1), (9, Ptr bz1 oz1), (10, U64 x1.e), (11, Ptr nb1 1), (12, U64 ep), (13, .bool (decide (x1.e ≠ ep))), (14, .bool (decide (x1.e ≠ ep)))] BQ rfl (by decide +kernel) ?_
   refine CZ ⟨[], [0, 1, 2, 3, 4, 5, 6, 7, 8, 9, 10, 11, 12, 13, 14], [], [0, 1, 2, 3, 4, 5, 6, 7, 8, 9, 10, 11, 12, 13, 14], []⟩ rfl rfl (by decide +kernel) rfl ⟨⟨_, rfl, AB rfl (AC 2 36 4 A4 rfl CI rfl rfl)⟩, ⟨_, rfl, AB rfl (AC 0 3 1 A8 rfl A7 rfl rfl)⟩, ⟨_, rfl, AB rfl (AK rfl (AV BA (MemAt.ent 0 rfl (A2 (AJ (AJ (Seg.head)))))))⟩, ⟨_, rfl, AB rfl (AQ rfl rfl fun _ => DD _ _)⟩, ⟨_, rfl, AB rfl (AD rfl)⟩, ⟨_, rfl, BS 4 11 true _ rfl rfl rfl (decide_eq_true hk1) (AC 2 36 4 A4 rfl CI rfl rfl)⟩, ⟨_, rfl, BS 4 11 true _ rfl rfl rfl (decide_eq_true hk1) (AC 2 34 1 A8 rfl C7 rfl rfl)⟩, ⟨_, rfl, BS 4 11 true _ rfl rfl rfl (decide_eq_true hk1) (AK rfl (AV DV (MemAt.ent 0 rfl (A2 (AJ (AJ (AJ (AJ (Seg.head)))))))))⟩, ⟨_, rfl, BS 4 11 true _ rfl rfl rfl (decide_eq_true hk1) (CW 164 49 oz1 CX EG rfl hz1 rfl (by omega) (by omega) (by omega))⟩, ⟨_, rfl, BS 4 11 true _ rfl rfl rfl (decide_eq_true hk1) (AC 0 22 1 EY rfl AT rfl rfl)⟩, ⟨_, rfl, BS 4 11 true _ rfl rfl rfl (decide_eq_true hk1) (AK rfl (AV AU (CU (hm1.mem (by simp)) (A2 (A2 (Seg.head))) (by omega))))⟩, ⟨_, rfl, BS 4 11 true _ rfl rfl rfl (decide_eq_true hk1) (AC 1 22 1 A4 rfl AT rfl rfl)⟩, ⟨_, rfl, BS 4 11 true _ rfl rfl rfl (decide_eq_true hk1) (AK rfl (AV AU (MemAt.ent 0 rfl (A2 (AJ (Seg.head))))))⟩, ⟨_, rfl, BS 4 11 true _ rfl rfl rfl (decide_eq_true hk1) (AQ rfl rfl fun _ => EP x1.e ep)⟩, ⟨_, rfl, AB rfl (B0 _ rfl (decide_eq_true hk1) rfl)⟩, trivial⟩ ?_
   refine CC (F' := [(21, .bool (decide (x1.e ≠ ep))), (1, Ptr nb1 0), (2, I64 (0:Int))]) (by kernel_rfl) ?_
   refine AF (CT (decide (x1.e ≠ ep)) rfl (fun hb4 => ?_) (fun hb4 => ?_))
   ·
    have hp4 : x1.e ≠ ep := of_decide_eq_true hb4
    refine AL (AE (AA _ (AH rfl) rfl ?_))
    refine AN (AF (BO (A5 (B8 [false] ?_))))
    show JQ _ _ _ _ []
    refine BP (I64 (2:Int)) (res1 Tryd.results45 (BT rfl)) fun w1 hw1 => ?_
    have e1 : mayN pv ep kd l ls bl = 2 := by
     unfold mayN
     first | rw [if_pos ‹RightO kd l ls bl = true›] | rw [if_neg (by simp [*])]
     rw [FY hx1]
     all_goals simp [*]
    rw [e1]
    exact ⟨_, [], rfl, ⟨rfl, rfl⟩, hw1.sub (by simp) (by simp)⟩
   ·
    have hp4 : ¬ (x1.e ≠ ep) := of_decide_eq_false hb4
    refine B4 (AF (AL (AL (AE (AA (Ptr nb1 1) (AC 1 22 1 A4 rfl AT rfl rfl) rfl ?_)))))
    refine AA (U64 ep) (AK rfl (AV AU (MemAt.ent 0 rfl (A2 (AJ (Seg.head)))))) rfl ?_
    refine AR (A3 111 [U64 (0:UInt64), U64 ep] (.bool (RightB (0:UInt64) ep)) (A0 [U64 (0:UInt64), U64 ep] Tryd.call111 rfl) (fun w1 hw1 => rright_c (0:UInt64) ep w1 )) rfl ?_
    rintro v1 L1 ⟨rfl, rfl⟩
    show JL _ _ _ _ ((24, .bool (RightB (0:UInt64) ep)) :: _) [_]
    refine AA (.bool (!(RightB (0:UInt64) ep))) (FK rfl) rfl ?_
    refine AA _ (AD rfl) rfl ?_
    rcases Bool.eq_false_or_eq_true (RightB (0:UInt64) ep) with hb5 | hb5
    ·
     refine AY 4 26 false _ (Ptr nb1 0) rfl rfl (by rw [show (RightB (0:UInt64) ep) = true from hb5] <;> rfl) (AC 0 22 1 A4 rfl AT rfl rfl) rfl ?_
     refine AY 4 26 false _ (U64 pv) rfl rfl (by rw [show (RightB (0:UInt64) ep) = true from hb5] <;> rfl) (AK rfl (AV AU (MemAt.ent 0 rfl (A2 (Seg.head))))) rfl ?_
     refine AY 4 26 false _ (Ptr nb1 1) rfl rfl (by rw [show (RightB (0:UInt64) ep) = true from hb5] <;> rfl) (AC 1 22 1 A4 rfl AT rfl rfl) rfl ?_
     refine AY 4 26 false _ (U64 ep) rfl rfl (by rw [show (RightB (0:UInt64) ep) = true from hb5] <;> rfl) (AK rfl (AV AU (MemAt.ent 0 rfl (A2 (AJ (Seg.head)))))) rfl ?_
     refine AY 4 26 false _ (.bool (decide (ep ≤ pv))) rfl rfl (by rw [show (RightB (0:UInt64) ep) = true from hb5] <;> rfl) (AQ rfl rfl fun _ => FJ pv ep) rfl ?_
     refine AA _ (BM _ rfl (by rw [show (RightB (0:UInt64) ep) = true from hb5] <;> rfl) rfl) rfl ?_
     refine AN (AF (CT (decide (ep ≤ pv)) rfl (fun hb6 => ?_) (fun hb6 => ?_)))
     ·
      have hp6 : ep ≤ pv := of_decide_eq_true hb6
      refine AL (AE (AA _ (AH rfl) rfl ?_))
      refine AN (AF (BO (A5 (B8 [false] ?_))))
      show JQ _ _ _ _ []
      refine BP (I64 (1:Int)) (res1 Tryd.results45 (BT rfl)) fun w1 hw1 => ?_
      have e1 : mayN pv ep kd l ls bl = 1 := by
       unfold mayN
       first | rw [if_pos ‹RightO kd l ls bl = true›] | rw [if_neg (by simp [*])]
       rw [FY hx1]
       all_goals simp [*]
      rw [e1]
      exact ⟨_, [], rfl, ⟨rfl, rfl⟩, hw1.sub (by simp) (by simp)⟩
     ·
      have hp6 : ¬ (ep ≤ pv) := of_decide_eq_false hb6
      refine B4 (AF (AL (AE (AA _ (AH rfl) rfl ?_))))
      refine AN (AF (BO (B8 [false] ?_)))
      show JQ _ _ _ _ []
      refine BP (I64 (0:Int)) (res1 Tryd.results45 (BT rfl)) fun w1 hw1 => ?_
      have e1 : mayN pv ep kd l ls bl = 0 := by
       unfold mayN
       first | rw [if_pos ‹RightO kd l ls bl = true›] | rw [if_neg (by simp [*])]
       rw [FY hx1]
       all_goals simp [*]
      rw [e1]
      exact ⟨_, [], rfl, ⟨rfl, rfl⟩, hw1.sub (by simp) (by simp)⟩
    ·
     refine AI 4 26 false _ rfl rfl (by rw [show (RightB (0:UInt64) ep) = false from hb5] <;> rfl) rfl ?_
     refine AI 4 26 false _ rfl rfl (by rw [show (RightB (0:UInt64) ep) = false from hb5] <;> rfl) rfl ?_
     refine AI 4 26 false _ rfl rfl (by rw [show (RightB (0:UInt64) ep) = false from hb5] <;> rfl) rfl ?_
     refine AI 4 26 false _ rfl rfl (by rw [show (RightB (0:UInt64) ep) = false from hb5] <;> rfl) rfl ?_
     refine AI 4 26 false _ rfl rfl (by rw [show (RightB (0:UInt64) ep) = false from hb5] <;> rfl) rfl ?_
     refine AA _ (B0 _ rfl (by rw [show (RightB (0:UInt64) ep) = false from hb5] <;> rfl) rfl) rfl ?_
     refine AN (AF (C9 _ rfl rfl ?_))
     refine AL (AE (AA _ (AH rfl) rfl ?_))
     refine AN (AF (BO (A5 (B8 [false] ?_))))
     show JQ _ _ _ _ []
     refine BP (I64 (1:Int)) (res1 Tryd.results45 (BT rfl)) fun w1 hw1 => ?_
     have e1 : mayN pv ep kd l ls bl = 1 := by
      unfold mayN
      first | rw [if_pos ‹RightO kd l ls bl = true›] | rw [if_neg (by simp [*])]
      rw [FY hx1]
      all_goals simp [*]
     rw [e1]
     exact ⟨_, [], rfl, ⟨rfl, rfl⟩, hw1.sub (by simp) (by simp)⟩
  ·
   refine CQ 33 1 [(0, Ptr nb1 2), (1, Ptr nb1 2), (2, I64 (kd)), (3, .bool (decide ((kd) = (1:Int)))), (4, .bool (decide ((kd) = (1:Int)))), (5, undef), (6, undef), (7, undef), (8, undef), (9, undef), (10, undef), (11, undef), (12, undef), (13, undef), (14, .bool false)] BQ rfl (by decide +kernel) ?_
   refine CZ ⟨[], [0, 1, 2, 3, 4, 5, 6, 7, 8, 9, 10, 11, 12, 13, 14], [], [0, 1, 2, 3, 4, 5, 6, 7, 8, 9, 10, 11, 12, 13, 14], []⟩ rfl rfl (by decide +kernel) rfl ⟨⟨_, rfl, AB rfl (AC 2 36 4 A4 rfl CI rfl rfl)⟩, ⟨_, rfl, AB rfl (AC 0 3 1 A8 rfl A7 rfl rfl)⟩, ⟨_, rfl, AB rfl (AK rfl (AV BA (MemAt.ent 0 rfl (A2 (AJ (AJ (Seg.head)))))))⟩, ⟨_, rfl, AB rfl (AQ rfl rfl fun _ => DD _ _)⟩, ⟨_, rfl, AB rfl (AD rfl)⟩, ⟨_, rfl, CH 4 11 true _ rfl rfl rfl (decide_eq_false hk1)⟩, ⟨_, rfl, CH 4 11 true _ rfl rfl rfl (decide_eq_false hk1)⟩, ⟨_, rfl, CH 4 11 true _ rfl rfl rfl (decide_eq_false hk1)⟩, ⟨_, rfl, CH 4 11 true _ rfl rfl rfl (decide_eq_false hk1)⟩, ⟨_, rfl, CH 4 11 true _ rfl rfl rfl (decide_eq_false hk1)⟩, ⟨_, rfl, CH 4 11 true _ rfl rfl rfl (decide_eq_false hk1)⟩, ⟨_, rfl, CH 4 11 true _ rfl rfl rfl (decide_eq_false hk1)⟩, ⟨_, rfl, CH 4 11 true _ rfl rfl rfl (decide_eq_false hk1)⟩, ⟨_, rfl, CH 4 11 true _ rfl rfl rfl (decide_eq_false hk1)⟩, ⟨_, rfl, AB rfl (BM _ rfl (decide_eq_false hk1) rfl)⟩, trivial⟩ ?_
   refine CC (F' := [(21, .bool false), (1, Ptr nb1 0), (2, I64 (0:Int))]) (by kernel_rfl) ?_
   refine AF (C0 _ rfl rfl ?_)
   refine B4 (AF (AL (AL (AE (AA (Ptr nb1 1) (AC 1 22 1 A4 rfl AT rfl rfl) rfl ?_)))))
   refine AA (U64 ep) (AK rfl (AV AU (MemAt.ent 0 rfl (A2 (AJ (Seg.head)))))) rfl ?_
   refine AR (A3 111 [U64 (0:UInt64), U64 ep] (.bool (RightB (0:UInt64) ep)) (A0 [U64 (0:UInt64), U64 ep] Tryd.call111 rfl) (fun w1 hw1 => rright_c (0:UInt64) ep w1 )) rfl ?_
   rintro v1 L1 ⟨rfl, rfl⟩
   show JL _ _ _ _ ((24, .bool (RightB (0:UInt64) ep)) :: _) [_]
   refine AA (.bool (!(RightB (0:UInt64) ep))) (FK rfl) rfl ?_
   refine AA _ (AD rfl) rfl ?_
   rcases Bool.eq_false_or_eq_true (RightB (0:UInt64) ep) with hb7 | hb7
   ·
    refine AY 4 26 false _ (Ptr nb1 0) rfl rfl (by rw [show (RightB (0:UInt64) ep) = true from hb7] <;> rfl) (AC 0 22 1 A4 rfl AT rfl rfl) rfl ?_
    refine AY 4 26 false _ (U64 pv) rfl rfl (by rw [show (RightB (0:UInt64) ep) = true from hb7] <;> rfl) (AK rfl (AV AU (MemAt.ent 0 rfl (A2 (Seg.head))))) rfl ?_
    refine AY 4 26 false _ (Ptr nb1 1) rfl rfl (by rw [show (RightB (0:UInt64) ep) = true from hb7] <;> rfl) (AC 1 22 1 A4 rfl AT rfl rfl) rfl ?_
    refine AY 4 26 false _ (U64 ep) rfl rfl (by rw [show (RightB (0:UInt64) ep) = true from hb7] <;> rfl) (AK rfl (AV AU (MemAt.ent 0 rfl (A2 (AJ (Seg.head)))))) rfl ?_
    refine AY 4 26 false _ (.bool (decide (ep ≤ pv))) rfl rfl (by rw [show (RightB (0:UInt64) ep) = true from hb7] <;> rfl) (AQ rfl rfl fun _ => FJ pv ep) rfl ?_
    refine AA _ (BM _ rfl (by rw [show (RightB (0:UInt64) ep) = true from hb7] <;> rfl) rfl) rfl ?_
    refine AN (AF (CT (decide (ep ≤ pv)) rfl (fun hb8 => ?_) (fun hb8 => ?_)))
    ·
     have hp8 : ep ≤ pv := of_decide_eq_true hb8
     refine AL (AE (AA _ (AH rfl) rfl ?_))
     refine AN (AF (BO (A5 (B8 [false] ?_))))
     show JQ _ _ _ _ []
     refine BP (I64 (1:Int)) (res1 Tryd.results45 (BT rfl)) fun w1 hw1 => ?_
     have e1 : mayN pv ep kd l ls bl = 1 := by
      unfold mayN
      first | rw [if_pos ‹RightO kd l ls bl = true›] | rw [if_neg (by simp [*])]
      all_goals simp [*]
     rw [e1]
     exact ⟨_, [], rfl, ⟨rfl, rfl⟩, hw1.sub (by simp) (by simp)⟩
    ·
     have hp8 : ¬ (ep ≤ pv) := of_decide_eq_false hb8
     refine B4 (AF (AL (AE (AA _ (AH rfl) rfl ?_))))
     refine AN (AF (BO (B8 [false] ?_)))
     show JQ _ _ _ _ []
     refine BP (I64 (0:Int)) (res1 Tryd.results45 (BT rfl)) fun w1 hw1 => ?_
     have e1 : mayN pv ep kd l ls bl = 0 := by
      unfold mayN
      first | rw [if_pos ‹RightO kd l ls bl = true›] | rw [if_neg (by simp [*])]
      all_goals simp [*]
     rw [e1]
     exact ⟨_, [], rfl, ⟨rfl, rfl⟩, hw1.sub (by simp) (by simp)⟩
   ·
    refine AI 4 26 false _ rfl rfl (by rw [show (RightB (0:UInt64) ep) = false from hb7] <;> rfl) rfl ?_
    refine AI 4 26 false _ rfl rfl (by rw [show (RightB (0:UInt64) ep) = false from hb7] <;> rfl) rfl ?_
    refine AI 4 26 false _ rfl rfl (by rw [show (RightB (0:UInt64) ep) = false from hb7] <;> rfl) rfl ?_
    refine AI 4 26 false _ rfl rfl (by rw [show (RightB (0:UInt64) ep) = false from hb7] <;> rfl) rfl ?_
    refine AI 4 26 false _ rfl rfl (by rw [show (RightB (0:UInt64) ep) = false from hb7] <;> rfl) rfl ?_
    refine AA _ (B0 _ rfl (by rw [show (RightB (0:UInt64) ep) = false from hb7] <;> rfl) rfl) rfl ?_
    refine AN (AF (C9 _ rfl rfl ?_))
    refine AL (AE (AA _ (AH rfl) rfl ?_))
    refine AN (AF (BO (A5 (B8 [false] ?_))))
    show JQ _ _ _ _ []
    refine BP (I64 (1:Int)) (res1 Tryd.results45 (BT rfl)) fun w1 hw1 => ?_
    have e1 : mayN pv ep kd l ls bl = 1 := by
     unfold mayN
     first | rw [if_pos ‹RightO kd l ls bl = true›] | rw [if_neg (by simp [*])]
     all_goals simp [*]
    rw [e1]
    exact ⟨_, [], rfl, ⟨rfl, rfl⟩, hw1.sub (by simp) (by simp)⟩
theorem may13_c (pv ep : UInt64) (kd : Int) (ai : Option Addr) (ni ci : Nat) (l : List UInt64) (sa : Option Addr) (ns sc : Nat) (ls : List SealR) (bl : UInt64) (tg : List UInt8)  (w : World) (hl : l.length = ni) (hnm : ni ≤ 2000000) (hnc : ni ≤ ci) (hcm : ci ≤ maxLen) (hv : RdV w ai (cu64 l)) (hls : ls.length = ns) (hnn : ns ≤ 2000000) (hnd : ns ≤ sc) (hcn : sc ≤ maxLen) (hs : RdV w sa (ls.flatMap sealC)) (htg : tg.length = 16)  : Calls Tryd.prog 128 #[.agg (List.toArray (α := Value) ([U64 pv, U64 ep, I64 (kd), .slice ai ni ci, .slice sa ns sc, U64 bl] ++ cu8 tg))] w (Post w [] (fun v L => v = errV 50 (mayN pv ep kd l ls bl) ∧ L = [])) := by
 have hmx : maxLen = 9223372036854775807 := rfl
 refine enter (P := Tryd.prog) (f := 128) (fn := Tryd.f128) w [] 37 [] [.agg (List.toArray (α := Value) ([U64 pv, U64 ep, I64 (kd), .slice ai ni ci, .slice sa ns sc, U64 bl] ++ cu8 tg))] Tryd.func128 rfl rfl (by simp) (B7 (by simp) (by simp) (by simp)) ?_
 show JC _ _ _ [(0, .agg (List.toArray (α := Value) ([U64 pv, U64 ep, I64 (kd), .slice ai ni ci, .slice sa ns sc, U64 bl] ++ cu8 tg)))] _
 refine AL (AE (AR (CN (.agg (List.toArray (α := Value) ([U64 pv, U64 ep, I64 (kd), .slice ai ni ci, .slice sa ns sc, U64 bl] ++ cu8 tg))) ([U64 pv, U64 ep, I64 (kd), .slice ai ni ci, .slice sa ns sc, U64 bl] ++ cu8 tg) rfl (by first | rfl | simp)) rfl ?_))
 rintro v1 L1 ⟨nb1, hnb1, rfl, rfl⟩
 show JL _ _ _ _ ((1, Ptr nb1 0) :: _) [⟨nb1, [U64 pv, U64 ep, I64 (kd), .slice ai ni ci, .slice sa ns sc, U64 bl] ++ cu8 tg, 29, (0, 0)⟩]
 refine AA _ (AH rfl) rfl ?_
 refine AN (AF (AL (B5 (AL (AL (AE (AA (Ptr nb1 2) (AC 2 26 4 AS rfl BI rfl rfl) rfl ?_)))))))
 refine AA (.agg (List.toArray (α := Value) ([I64 (kd), .slice ai ni ci, .slice sa ns sc, U64 bl]))) (AK rfl (BH DE BI rfl (MemAt.ent 0 rfl (D9 (p := [U64 pv, U64 ep]) (q := cu8 tg) (vs := [I64 (kd), .slice ai ni ci, .slice sa ns sc, U64 bl]) (by first | rfl | (simp only [List.append_assoc, List.nil_append, List.append_nil, List.cons_append]; done)) rfl)))) rfl ?_
 refine AR (A3 69 [.agg (List.toArray (α := Value) ([I64 (kd), .slice ai ni ci, .slice sa ns sc, U64 bl]))] (.bool (RightO (kd) l ls bl)) (A0 [.agg (List.toArray (α := Value) ([I64 (kd), .slice ai ni ci, .slice sa ns sc, U64 bl]))] Tryd.call69 rfl) (fun w1 hw1 => right13_c (kd) ai ni ci l sa ns sc ls bl w1 hl (by omega) (by omega) (by omega) (C1 hw1 rfl hv) hls (by omega) (by omega) (by omega) (C1 hw1 rfl hs))) rfl ?_
 rintro v1 L1 ⟨rfl, rfl⟩
 show JL _ _ _ _ ((6, .bool (RightO (kd) l ls bl)) :: _) [_]
 refine AA (.bool (!(RightO (kd) l ls bl))) (FK rfl) rfl ?_
 refine AA _ (AH rfl) rfl ?_
 refine AN (AF (CT (!(RightO (kd) l ls bl)) rfl (fun hb1 => ?_) (fun hb1 => ?_)))
 ·
  have hb2 : (RightO (kd) l ls bl) = false := by simpa using hb1
  refine B4 (AF (C9 _ rfl hb1 ?_))
  refine AL (AE (AA (.iface 50 (I64 (2:Int))) (Ev_iface Tryd.underlying50 rfl rfl) rfl ?_))
  refine AA _ (AH rfl) rfl ?_
  refine AN (AF (BO (C8 (A5 (B8 [false] ?_)))))
  show JQ _ _ _ _ []
  refine BP (.iface 50 (I64 (2:Int))) (res1 Tryd.results128 (BT rfl)) fun w1 hw1 => ?_
  have e1 : mayN pv ep kd l ls bl = 2 := by
   unfold mayN
   first | rw [if_pos ‹RightO kd l ls bl = true›] | rw [if_neg (by simp [*])]
   all_goals simp [*]
  rw [e1]
  exact ⟨_, [], rfl, ⟨rfl, rfl⟩, hw1.sub (by simp) (by simp)⟩
 ·
  have hb3 : (RightO (kd) l ls bl) = true := by simpa using hb1
  by_cases hk1 : kd = 1
  ·
   have hpos := RightO_pos hb3 hk1
   rw [hls, hl] at hpos
   obtain ⟨x1, hx1⟩ : ∃ x, ls[0]? = some x := ⟨_, List.getElem?_eq_getElem (by rw [hls]; omega)⟩
   obtain ⟨bz1, oz1, hz1, hm1⟩ := F6 E2 (by decide) hs hx1
   refine CQ 37 1 [(0, Ptr nb1 2), (1, Ptr nb1 2), (2, I64 (kd)), (3, .bool (decide ((kd) = (1:Int)))), (4, .bool (decide ((kd) = (1:Int)))), (5, Ptr nb1 2), (6, Ptr nb1 4), (7, .slice sa ns sc), (8, Ptr bz1 oz1), (9, Ptr bz1 oz1), (10, U64 x1.e), (11, Ptr nb1 1), (12, U64 ep), (13, .bool (decide (x1.e ≠ ep))), (14, .bool (decide (x1.e ≠ ep))), (15, .bool (decide (x1.e ≠ ep)))] BQ rfl (by decide +kernel) ?_
   refine CZ ⟨[], [0, 1, 2, 3, 4, 5, 6, 7, 8, 9, 10, 11, 12, 13, 14, 15], [], [0, 1, 2, 3, 4, 5, 6, 7, 8, 9, 10, 11, 12, 13, 14, 15], []⟩ rfl rfl (by decide +kernel) rfl ⟨⟨_, rfl, AB rfl (AC 2 26 4 AS rfl BI rfl rfl)⟩, ⟨_, rfl, AB rfl (AC 0 3 1 AG rfl A7 rfl rfl)⟩, ⟨_, rfl, AB rfl (AK rfl (AV BA (MemAt.ent 0 rfl (A2 (AJ (AJ (Seg.head)))))))⟩, ⟨_, rfl, AB rfl (AQ rfl rfl fun _ => DD _ _)⟩, ⟨_, rfl, AB rfl (AD rfl)⟩, ⟨_, rfl, BS 4 12 true _ rfl rfl rfl (decide_eq_true hk1) (AC 2 26 4 AS rfl BI rfl rfl)⟩, ⟨_, rfl, BS 4 12 true _ rfl rfl rfl (decide_eq_true hk1) (AC 2 24 1 AG rfl B3 rfl rfl)⟩, ⟨_, rfl, BS 4 12 true _ rfl rfl rfl (decide_eq_true hk1) (AK rfl (AV B6 (MemAt.ent 0 rfl (A2 (AJ (AJ (AJ (AJ (Seg.head)))))))))⟩, ⟨_, rfl, BS 4 12 true _ rfl rfl rfl (decide_eq_true hk1) (CW 161 49 oz1 CJ DJ rfl hz1 rfl (by omega) (by omega) (by omega))⟩, ⟨_, rfl, BS 4 12 true _ rfl rfl rfl (decide_eq_true hk1) (AC 0 22 1 D8 rfl AT rfl rfl)⟩, ⟨_, rfl, BS 4 12 true _ rfl rfl rfl (decide_eq_true hk1) (AK rfl (AV AU (CU (hm1.mem (by simp)) (A2 (A2 (Seg.head))) (by omega))))⟩, ⟨_, rfl, BS 4 12 true _ rfl rfl rfl (decide_eq_true hk1) (AC 1 22 1 AS rfl AT rfl rfl)⟩, ⟨_, rfl, BS 4 12 true _ rfl rfl rfl (decide_eq_true hk1) (AK rfl (AV AU (MemAt.ent 0 rfl (A2 (AJ (Seg.head))))))⟩, ⟨_, rfl, BS 4 12 true _ rfl rfl rfl (decide_eq_true hk1) (AQ rfl rfl fun _ => EP x1.e ep)⟩, ⟨_, rfl, AB rfl (B0 _ rfl (decide_eq_true hk1) rfl)⟩, ⟨_, rfl, AB rfl (AH rfl)⟩, trivial⟩ ?_
   refine CC (F' := [(3, .bool (decide (x1.e ≠ ep))), (1, Ptr nb1 0), (2, .nilIface)]) (by kernel_rfl) ?_
   refine AF (CT (decide (x1.e ≠ ep)) rfl (fun hb4 => ?_) (fun hb4 => ?_))
   ·
    have hp4 : x1.e ≠ ep := of_decide_eq_true hb4
    refine AL (AE (AA (.iface 50 (I64 (2:Int))) (Ev_iface Tryd.underlying50 rfl rfl) rfl ?_))
    refine AA _ (AH rfl) rfl ?_
    refine AN (AF (BO (C8 (A5 (B8 [false] ?_)))))
    show JQ _ _ _ _ []
    refine BP (.iface 50 (I64 (2:Int))) (res1 Tryd.results128 (BT rfl)) fun w1 hw1 => ?_
    have e1 : mayN pv ep kd l ls bl = 2 := by
     unfold mayN
     first | rw [if_pos ‹RightO kd l ls bl = true›] | rw [if_neg (by simp [*])]
     rw [FY hx1]
     all_goals simp [*]
    rw [e1]
    exact ⟨_, [], rfl, ⟨rfl, rfl⟩, hw1.sub (by simp) (by simp)⟩
   ·
    have hp4 : ¬ (x1.e ≠ ep) := of_decide_eq_false hb4
    refine AL (AE (AA (Ptr nb1 1) (AC 1 22 1 AS rfl AT rfl rfl) rfl ?_))
    refine AA (U64 ep) (AK rfl (AV AU (MemAt.ent 0 rfl (A2 (AJ (Seg.head)))))) rfl ?_
    refine AR (A3 133 [U64 (0:UInt64), U64 ep] (.bool (RightB (0:UInt64) ep)) (A0 [U64 (0:UInt64), U64 ep] Tryd.call133 rfl) (fun w1 hw1 => right_c (0:UInt64) ep w1 )) rfl ?_
    rintro v1 L1 ⟨rfl, rfl⟩
    show JL _ _ _ _ ((27, .bool (RightB (0:UInt64) ep)) :: _) [_]
    refine AA (.bool (!(RightB (0:UInt64) ep))) (FK rfl) rfl ?_
    refine AA _ (AD rfl) rfl ?_
    rcases Bool.eq_false_or_eq_true (RightB (0:UInt64) ep) with hb5 | hb5
    ·
     refine AY 4 29 false _ (Ptr nb1 0) rfl rfl (by rw [show (RightB (0:UInt64) ep) = true from hb5] <;> rfl) (AC 0 22 1 AS rfl AT rfl rfl) rfl ?_
     refine AY 4 29 false _ (U64 pv) rfl rfl (by rw [show (RightB (0:UInt64) ep) = true from hb5] <;> rfl) (AK rfl (AV AU (MemAt.ent 0 rfl (A2 (Seg.head))))) rfl ?_
     refine AY 4 29 false _ (Ptr nb1 1) rfl rfl (by rw [show (RightB (0:UInt64) ep) = true from hb5] <;> rfl) (AC 1 22 1 AS rfl AT rfl rfl) rfl ?_
     refine AY 4 29 false _ (U64 ep) rfl rfl (by rw [show (RightB (0:UInt64) ep) = true from hb5] <;> rfl) (AK rfl (AV AU (MemAt.ent 0 rfl (A2 (AJ (Seg.head)))))) rfl ?_
     refine AY 4 29 false _ (.bool (decide (ep ≤ pv))) rfl rfl (by rw [show (RightB (0:UInt64) ep) = true from hb5] <;> rfl) (AQ rfl rfl fun _ => FJ pv ep) rfl ?_
     refine AA _ (BM _ rfl (by rw [show (RightB (0:UInt64) ep) = true from hb5] <;> rfl) rfl) rfl ?_
     refine AA _ (AH rfl) rfl ?_
     refine AN (AF (CT (decide (ep ≤ pv)) rfl (fun hb6 => ?_) (fun hb6 => ?_)))
     ·
      have hp6 : ep ≤ pv := of_decide_eq_true hb6
      refine AL (AE (AA (.iface 50 (I64 (1:Int))) (Ev_iface Tryd.underlying50 rfl rfl) rfl ?_))
      refine AA _ (AH rfl) rfl ?_
      refine AN (AF (BO (C8 (A5 (B8 [false] ?_)))))
      show JQ _ _ _ _ []
      refine BP (.iface 50 (I64 (1:Int))) (res1 Tryd.results128 (BT rfl)) fun w1 hw1 => ?_
      have e1 : mayN pv ep kd l ls bl = 1 := by
       unfold mayN
       first | rw [if_pos ‹RightO kd l ls bl = true›] | rw [if_neg (by simp [*])]
       rw [FY hx1]
       all_goals simp [*]
      rw [e1]
      exact ⟨_, [], rfl, ⟨rfl, rfl⟩, hw1.sub (by simp) (by simp)⟩
     ·
      have hp6 : ¬ (ep ≤ pv) := of_decide_eq_false hb6
      refine B4 (B1 (AF (AL (AE (AA _ (AH rfl) rfl ?_)))))
      refine AN (AF (BO (B8 [false] ?_)))
      show JQ _ _ _ _ []
      refine BP (.nilIface) (res1 Tryd.results128 (BT rfl)) fun w1 hw1 => ?_
      have e1 : mayN pv ep kd l ls bl = 0 := by
       unfold mayN
       first | rw [if_pos ‹RightO kd l ls bl = true›] | rw [if_neg (by simp [*])]
       rw [FY hx1]
       all_goals simp [*]
      rw [e1]
      exact ⟨_, [], rfl, ⟨rfl, rfl⟩, hw1.sub (by simp) (by simp)⟩
    ·
     refine AI 4 29 false _ rfl rfl (by rw [show (RightB (0:UInt64) ep) = false from hb5] <;> rfl) rfl ?_
     refine AI 4 29 false _ rfl rfl (by rw [show (RightB (0:UInt64) ep) = false from hb5] <;> rfl) rfl ?_
     refine AI 4 29 false _ rfl rfl (by rw [show (RightB (0:UInt64) ep) = false from hb5] <;> rfl) rfl ?_
     refine AI 4 29 false _ rfl rfl (by rw [show (RightB (0:UInt64) ep) = false from hb5] <;> rfl) rfl ?_
     refine AI 4 29 false _ rfl rfl (by rw [show (RightB (0:UInt64) ep) = false from hb5] <;> rfl) rfl ?_
     refine AA _ (B0 _ rfl (by rw [show (RightB (0:UInt64) ep) = false from hb5] <;> rfl) rfl) rfl ?_
     refine AA _ (AH rfl) rfl ?_
     refine AN (AF (C9 _ rfl rfl ?_))
     refine AL (AE (AA (.iface 50 (I64 (1:Int))) (Ev_iface Tryd.underlying50 rfl rfl) rfl ?_))
     refine AA _ (AH rfl) rfl ?_
     refine AN (AF (BO (C8 (A5 (B8 [false] ?_)))))
     show JQ _ _ _ _ []
     refine BP (.iface 50 (I64 (1:Int))) (res1 Tryd.results128 (BT rfl)) fun w1 hw1 => ?_
     have e1 : mayN pv ep kd l ls bl = 1 := by
      unfold mayN
      first | rw [if_pos ‹RightO kd l ls bl = true›] | rw [if_neg (by simp [*])]
      rw [FY hx1]
      all_goals simp [*]
     rw [e1]
     exact ⟨_, [], rfl, ⟨rfl, rfl⟩, hw1.sub (by simp) (by simp)⟩
  ·
   refine CQ 37 1 [(0, Ptr nb1 2), (1, Ptr nb1 2), (2, I64 (kd)), (3, .bool (decide ((kd) = (1:Int)))), (4, .bool (decide ((kd) = (1:Int)))), (5, undef), (6, undef), (7, undef), (8, undef), (9, undef), (10, undef), (11, undef), (12, undef), (13, undef), (14, .bool false), (15, .bool false)] BQ rfl (by decide +kernel) ?_
   refine CZ ⟨[], [0, 1, 2, 3, 4, 5, 6, 7, 8, 9, 10, 11, 12, 13, 14, 15], [], [0, 1, 2, 3, 4, 5, 6, 7, 8, 9, 10, 11, 12, 13, 14, 15], []⟩ rfl rfl (by decide +kernel) rfl ⟨⟨_, rfl, AB rfl (AC 2 26 4 AS rfl BI rfl rfl)⟩, ⟨_, rfl, AB rfl (AC 0 3 1 AG rfl A7 rfl rfl)⟩, ⟨_, rfl, AB rfl (AK rfl (AV BA (MemAt.ent 0 rfl (A2 (AJ (AJ (Seg.head)))))))⟩, ⟨_, rfl, AB rfl (AQ rfl rfl fun _ => DD _ _)⟩, ⟨_, rfl, AB rfl (AD rfl)⟩, ⟨_, rfl, CH 4 12 true _ rfl rfl rfl (decide_eq_false hk1)⟩, ⟨_, rfl, CH 4 12 true _ rfl rfl rfl (decide_eq_false hk1)⟩, ⟨_, rfl, CH 4 12 true _ rfl rfl rfl (decide_eq_false hk1)⟩, ⟨_, rfl, CH 4 12 true _ rfl rfl rfl (decide_eq_false hk1)⟩, ⟨_, rfl, CH 4 12 true _ rfl rfl rfl (decide_eq_false hk1)⟩, ⟨_, rfl, CH 4 12 true _ rfl rfl rfl (decide_eq_false hk1)⟩, ⟨_, rfl, CH 4 12 true _ rfl rfl rfl (decide_eq_false hk1)⟩, ⟨_, rfl, CH 4 12 true _ rfl rfl rfl (decide_eq_false hk1)⟩, ⟨_, rfl, CH 4 12 true _ rfl rfl rfl (decide_eq_false hk1)⟩, ⟨_, rfl, AB rfl (BM _ rfl (decide_eq_false hk1) rfl)⟩, ⟨_, rfl, AB rfl (AH rfl)⟩, trivial⟩ ?_
   refine CC (F' := [(3, .bool false), (1, Ptr nb1 0), (2, .nilIface)]) (by kernel_rfl) ?_
   refine AF (C0 _ rfl rfl ?_)
   refine AL (AE (AA (Ptr nb1 1) (AC 1 22 1 AS rfl AT rfl rfl) rfl ?_))
   refine AA (U64 ep) (AK rfl (AV AU (MemAt.ent 0 rfl (A2 (AJ (Seg.head)))))) rfl ?_
   refine AR (A3 133 [U64 (0:UInt64), U64 ep] (.bool (RightB (0:UInt64) ep)) (A0 [U64 (0:UInt64), U64 ep] Tryd.call133 rfl) (fun w1 hw1 => right_c (0:UInt64) ep w1 )) rfl ?_
   rintro v1 L1 ⟨rfl, rfl⟩
   show JL _ _ _ _ ((27, .bool (RightB (0:UInt64) ep)) :: _) [_]
   refine AA (.bool (!(RightB (0:UInt64) ep))) (FK rfl) rfl ?_
   refine AA _ (AD rfl) rfl ?_
   rcases Bool.eq_false_or_eq_true (RightB (0:UInt64) ep) with hb7 | hb7
   ·
    refine AY 4 29 false _ (Ptr nb1 0) rfl rfl (by rw [show (RightB (0:UInt64) ep) = true from hb7] <;> rfl) (AC 0 22 1 AS rfl AT rfl rfl) rfl ?_
    refine AY 4 29 false _ (U64 pv) rfl rfl (by rw [show (RightB (0:UInt64) ep) = true from hb7] <;> rfl) (AK rfl (AV AU (MemAt.ent 0 rfl (A2 (Seg.head))))) rfl ?_
    refine AY 4 29 false _ (Ptr nb1 1) rfl rfl (by rw [show (RightB (0:UInt64) ep) = true from hb7] <;> rfl) (AC 1 22 1 AS rfl AT rfl rfl) rfl ?_
    refine AY 4 29 false _ (U64 ep) rfl rfl (by rw [show (RightB (0:UInt64) ep) = true from hb7] <;> rfl) (AK rfl (AV AU (MemAt.ent 0 rfl (A2 (AJ (Seg.head)))))) rfl ?_
    refine AY 4 29 false _ (.bool (decide (ep ≤ pv))) rfl rfl (by rw [show (RightB (0:UInt64) ep) = true from hb7] <;> rfl) (AQ rfl rfl fun _ => FJ pv ep) rfl ?_
    refine AA _ (BM _ rfl (by rw [show (RightB (0:UInt64) ep) = true from hb7] <;> rfl) rfl) rfl ?_
    refine AA _ (AH rfl) rfl ?_
    refine AN (AF (CT (decide (ep ≤ pv)) rfl (fun hb8 => ?_) (fun hb8 => ?_)))
    ·
     have hp8 : ep ≤ pv := of_decide_eq_true hb8
     refine AL (AE (AA (.iface 50 (I64 (1:Int))) (Ev_iface Tryd.underlying50 rfl rfl) rfl ?_))
     refine AA _ (AH rfl) rfl ?_
     refine AN (AF (BO (C8 (A5 (B8 [false] ?_)))))
     show JQ _ _ _ _ []
     refine BP (.iface 50 (I64 (1:Int))) (res1 Tryd.results128 (BT rfl)) fun w1 hw1 => ?_
     have e1 : mayN pv ep kd l ls bl = 1 := by
      unfold mayN
      first | rw [if_pos ‹RightO kd l ls bl = true›] | rw [if_neg (by simp [*])]
      all_goals simp [*]
     rw [e1]
     exact ⟨_, [], rfl, ⟨rfl, rfl⟩, hw1.sub (by simp) (by simp)⟩
    ·
     have hp8 : ¬ (ep ≤ pv) := of_decide_eq_false hb8
     refine B4 (B1 (AF (AL (AE (AA _ (AH rfl) rfl ?_)))))
     refine AN (AF (BO (B8 [false] ?_)))
     show JQ _ _ _ _ []
     refine BP (.nilIface) (res1 Tryd.results128 (BT rfl)) fun w1 hw1 => ?_
     have e1 : mayN pv ep kd l ls bl = 0 := by
      unfold mayN
      first | rw [if_pos ‹RightO kd l ls bl = true›] | rw [if_neg (by simp [*])]
      all_goals simp [*]
     rw [e1]
     exact ⟨_, [], rfl, ⟨rfl, rfl⟩, hw1.sub (by simp) (by simp)⟩
   ·
    refine AI 4 29 false _ rfl rfl (by rw [show (RightB (0:UInt64) ep) = false from hb7] <;> rfl) rfl ?_
    refine AI 4 29 false _ rfl rfl (by rw [show (RightB (0:UInt64) ep) = false from hb7] <;> rfl) rfl ?_
    refine AI 4 29 false _ rfl rfl (by rw [show (RightB (0:UInt64) ep) = false from hb7] <;> rfl) rfl ?_
    refine AI 4 29 false _ rfl rfl (by rw [show (RightB (0:UInt64) ep) = false from hb7] <;> rfl) rfl ?_
    refine AI 4 29 false _ rfl rfl (by rw [show (RightB (0:UInt64) ep) = false from hb7] <;> rfl) rfl ?_
    refine AA _ (B0 _ rfl (by rw [show (RightB (0:UInt64) ep) = false from hb7] <;> rfl) rfl) rfl ?_
    refine AA _ (AH rfl) rfl ?_
    refine AN (AF (C9 _ rfl rfl ?_))
    refine AL (AE (AA (.iface 50 (I64 (1:Int))) (Ev_iface Tryd.underlying50 rfl rfl) rfl ?_))
    refine AA _ (AH rfl) rfl ?_
    refine AN (AF (BO (C8 (A5 (B8 [false] ?_)))))
    show JQ _ _ _ _ []
    refine BP (.iface 50 (I64 (1:Int))) (res1 Tryd.results128 (BT rfl)) fun w1 hw1 => ?_
    have e1 : mayN pv ep kd l ls bl = 1 := by
     unfold mayN
     first | rw [if_pos ‹RightO kd l ls bl = true›] | rw [if_neg (by simp [*])]
     all_goals simp [*]
    rw [e1]
    exact ⟨_, [], rfl, ⟨rfl, rfl⟩, hw1.sub (by simp) (by simp)⟩
end Go.Proofs.YtkdpdgpphpngeaaDoor
namespace Go.Proofs.YtkdpdgpphpngeaaDoor
open Go Go.Sx
set_option linter.unusedVariables false
set_option linter.unusedSimpArgs false
set_option maxRecDepth 100000
attribute [local irreducible] mid zr8 zr32 numK rnK rotr wordL spreadL comprL cpN adN spN wrdN constL initL padL stN outN routN sumG putL RightB
theorem clone64N_c  (w : World) : Calls Tryd.prog 112 #[.slice none 0 0] w (Post w [] (fun v L => v = .slice none 0 0 ∧ L = [])) := by
 refine enter w [] 8 [] [.slice none 0 0] Tryd.func112 rfl rfl (by simp) (B7 (by simp) (by simp) (by simp)) ?_
 show JC _ _ _ [(0, .slice none 0 0)] _
 refine AL (AE (AA _ (AH rfl) rfl ?_))
 refine AN (AF (AL (AL (AE (AA _ (AD rfl) rfl ?_)))))
 refine AA (.bool true) (DC _ _ _ rfl rfl (fun _ => eqGuard_sl ..) fun _ => eql_sl_nil_nil BU) rfl ?_
 refine AN (AF (C9 _ rfl rfl ?_))
 refine AL (AE (AA _ (AH rfl) rfl ?_))
 refine AN (AF (BO (A5 (BP (.slice none 0 0) (res1 Tryd.results112 (BT rfl)) fun w1 hw1 => ?_))))
 exact ⟨_, [], rfl, ⟨rfl, rfl⟩, hw1.sub (by simp) (by simp)⟩
theorem clone64_c (ai : Option Addr) (ni ci : Nat) (l : List UInt64)  (w : World) (hl : l.length = ni) (hnm : ni ≤ 2000000) (hnc : ni ≤ ci) (hcm : ci ≤ maxLen) (hv : RdV w ai (cu64 l)) (ha : ai.isNone = false)  : Calls Tryd.prog 112 #[.slice ai ni ci] w (Post w [] (fun v L => ∃ g sp cap, v = Slc g 0 ni cap ∧ L = [⟨g, cu64 l ++ sp, 22, (0, 0)⟩] ∧ sp.length = cap - ni ∧ ni ≤ cap ∧ cap ≤ maxLen)) := by
 have hmx : maxLen = 9223372036854775807 := rfl
 refine enter w [] 8 [] [.slice ai ni ci] Tryd.func112 rfl rfl (by simp) (B7 (by simp) (by simp) (by simp)) ?_
 show JC _ _ _ [(0, .slice ai ni ci)] _
 refine AL (AE (AA _ (AH rfl) rfl ?_))
 refine AN (AF (AL (AL (AE (AA _ (AD rfl) rfl ?_)))))
 refine AA (.bool ai.isNone) (DC _ _ _ rfl rfl (fun _ => eqGuard_sl ..) fun _ => eql_sl_any BU) rfl ?_
 refine AN (AF (C0 _ rfl ha ?_))
 refine B4 (AF (AL (AE (AR (E7 22 1 BU AT) rfl ?_))))
 rintro v1 L1 ⟨nb1, hnb1, rfl, rfl⟩
 show JL _ _ _ _ ((5, Slc nb1 0 0 0) :: _) [⟨nb1, [], 22, (0, 0)⟩]
 refine AA _ (AD rfl) rfl ?_
 refine AR (Step_appM64 23 22 [true] (Slc nb1 0 0 0) 0 ([] : List UInt64) l ai ni ci ni BU Tryd.info22 rfl (.inr ⟨nb1, [], 0, rfl, (by simp [take?, cu8, cu32, cu64]), rfl, (by simp), (by omega), (by unfold maxLen; omega)⟩) rfl (by first | exact hl | simp [hl]; try omega) (RdV.src hv rfl) (by omega) (by unfold maxLen; omega) (by omega)) rfl ?_
 rintro v1 L1 ⟨nb2, sp1, cp1, hg1, rfl, rfl, ha1, ha2, ha3, ha4⟩
 show JL _ _ _ _ ((7, Slc nb2 0 ni cp1) :: _) [⟨nb2, cu64 (([] : List UInt64) ++ l) ++ sp1, 22, (0, 0)⟩]
 refine AA _ (AH rfl) rfl ?_
 refine AN (AF (BO (BP (Slc nb2 0 ni cp1) (res1 Tryd.results112 (BT rfl)) fun w1 hw1 => ?_)))
 exact ⟨_, _, rfl, ⟨nb2, sp1, cp1, rfl, rfl, ha2, ha3, ha4⟩, hw1.sub (by simp) (by simp)⟩
end Go.Proofs.YtkdpdgpphpngeaaDoor
