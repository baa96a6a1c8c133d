import Derived.Test.YtkdpdgpphpngeaaDoorPkTB5
set_option linter.unusedVariables false
set_option linter.unusedSimpArgs false
set_option maxRecDepth 100000
namespace Go.Proofs.YtkdpdgpphpngeaaDoor
open Go Go.Sx
attribute [local irreducible] mid zr8 zr32 numK rnK valK rotr wordL spreadL comprL cpN adN spN wrdN constL initL padL stN outN routN sumG putL RightB tktT mayN idxT selT macL eQ vQ bQ sQ ixQ seQ
theorem bld29_01 {w : World} {v0 : Value} {v1 : Value} (h0 : v0.cells = [v0].toArray) (h1 : v1.cells = [v1].toArray) : (Instr.build 29 ([(0, v0), (1, v1)] : List (Nat × Value)).toArray).run Tryd.prog w = .ok (.agg (((([v0] : List Value) ++ ([v1] : List Value)) ++ ([I64 0, .slice none 0 0, .slice none 0 0, U64 0] : List Value)) ++ (cu8 (zr8 16) : List Value)).toArray) w :=
 E5 (places := #[(0, 1), (1, 1), (2, 4), (6, 16)]) (Z := (([U64 0] : List Value) ++ (([U64 0] : List Value) ++ (([I64 0, .slice none 0 0, .slice none 0 0, U64 0] : List Value) ++ ((cu8 (zr8 16) : List Value) ++ []))))) (fun _ => by kernel_rfl) AO (fun _ => by kernel_rfl) ((F8 ([U64 0] : List Value) (([U64 0] : List Value) ++ (([I64 0, .slice none 0 0, .slice none 0 0, U64 0] : List Value) ++ ((cu8 (zr8 16) : List Value) ++ []))) ([v0] : List Value) h0 (by simp [AP]) rfl).trans ((FO ([v0] : List Value) ([U64 0] : List Value) (([I64 0, .slice none 0 0, .slice none 0 0, U64 0] : List Value) ++ ((cu8 (zr8 16) : List Value) ++ [])) ([v1] : List Value) h1 (by simp [AP]) rfl).trans ((fill_skip (([v0] : List Value) ++ ([v1] : List Value)) ([I64 0, .slice none 0 0, .slice none 0 0, U64 0] : List Value) ((cu8 (zr8 16) : List Value) ++ [])).trans ((fill_skip ((([v0] : List Value) ++ ([v1] : List Value)) ++ ([I64 0, .slice none 0 0, .slice none 0 0, U64 0] : List Value)) (cu8 (zr8 16) : List Value) []).trans (by simp [Instr.fill])))))
set_option maxHeartbeats 8000000 in
theorem tread_c (rb : Nat) (ao : Option Addr) (n c : Nat) (z0 z : List UInt8)  (w : World) (h0 : w.heap[rb]? = some (.cells [errV 50 (eQ z0 0), .slice ao n c].toArray 204 (0, 0))) (hz : z.length = n) (hn : n ≤ 2000000000) (hc : n ≤ c) (hcm : c ≤ maxLen) (hr : RdB w [rb] ao z) (hq : Lq z0 z 0)  : Calls Tryd.prog 60 #[Ptr rb 0] w (Post w [rb] (fun v L => (Ok3 z0 ∧ ∃ ao' z' c', Lq z0 z' (41) ∧ Adv ao z c ao' z' c' ∧ v = .agg ([U64 (vQ z0 0 8), U64 (vQ z0 8 8), I64 (((vQ z0 16 1).toNat:Int)), .slice none 0 0, .slice none 0 0, U64 (vQ z0 17 8)] ++ cu8 (bQ z0 25 16)).toArray ∧ L = [⟨rb, [.nilIface, .slice ao' z'.length c'], 204, (0, 0)⟩]) ∨ (Ok2 z0 ∧ ∃ ao' z' c' g sp cap, Lq z0 z' (4*mQ z0 + 34) ∧ Adv ao z c ao' z' c' ∧ v = .agg ([U64 (vQ z0 0 8), U64 (vQ z0 8 8), I64 (((vQ z0 16 1).toNat:Int)), Slc g 0 (mQ z0) cap, .slice none 0 0, U64 0] ++ cu8 (bQ z0 (4*mQ z0 + 18) 16)).toArray ∧ L = [⟨rb, [.nilIface, .slice ao' z'.length c'], 204, (0, 0)⟩, ⟨g, cu64 (ixQ z0 18 (mQ z0)) ++ sp, 22, (0, 0)⟩] ∧ sp.length = cap - mQ z0 ∧ mQ z0 ≤ cap ∧ cap ≤ maxLen) ∨ (Ok1 z0 ∧ ∃ ao' z' c' g sp cap g2 sp2 cap2, Lq z0 z' (60*mQ z0 + 34) ∧ Adv ao z c ao' z' c' ∧ v = .agg ([U64 (vQ z0 0 8), U64 (vQ z0 8 8), I64 (((vQ z0 16 1).toNat:Int)), Slc g 0 (mQ z0) cap, Slc g2 0 (mQ z0) cap2, U64 0] ++ cu8 (bQ z0 (60*mQ z0 + 18) 16)).toArray ∧ L = [⟨rb, [.nilIface, .slice ao' z'.length c'], 204, (0, 0)⟩, ⟨g, cu64 (ixQ z0 18 (mQ z0)) ++ sp, 22, (0, 0)⟩, ⟨g2, (seQ z0 (4*mQ z0 + 18) (mQ z0)).flatMap sealC ++ sp2, 161, (0, 0)⟩] ∧ sp.length = cap - mQ z0 ∧ mQ z0 ≤ cap ∧ cap ≤ maxLen ∧ sp2.length = cap2 * 49 - mQ z0 * 49 ∧ mQ z0 ≤ cap2 ∧ cap2 ≤ maxLen) ∨ (BadQ z0 ∧ v = .agg ([U64 0, U64 0, I64 0, .slice none 0 0, .slice none 0 0, U64 0] ++ cu8 (zr8 16)).toArray ∧ ∃ a1 n1 c1, L = [⟨rb, [errV 50 2, .slice a1 n1 c1], 204, (0, 0)⟩]))) := by
  have hmx : maxLen = 9223372036854775807 := rfl
  have hk8 := vQ_lt1 z0 16
  have hk9 := vQ_lt1 z0 17
  have hmQ : mQ z0 = (vQ z0 17 1).toNat + 1 := rfl
  refine enter w [rb] 90 [⟨rb, [errV 50 (eQ z0 0), .slice ao n c], 204, (0, 0)⟩] [Ptr rb 0] Tryd.func60 rfl rfl (by simp) (BZ (by simpa using h0) (by simp) (by simp)) ?_
  show JC _ _ _ [(0, Ptr rb 0)] _
  refine AI (AD (A1 (BG _ ([U64 0, U64 0, I64 0, .slice none 0 0, .slice none 0 0, U64 0] ++ cu8 (zr8 16)) BK (by kernel_rfl)) rfl ?_))
  rintro v1 L1 ⟨nb1, hnb1, rfl, rfl⟩
  show JL _ _ _ _ ((2, Ptr nb1 0) :: _) [_, ⟨nb1, [U64 0, U64 0, I64 0, .slice none 0 0, .slice none 0 0, U64 0] ++ cu8 (zr8 16), 29, (0, 0)⟩]
  refine AN (AE (AI (AD (AA _ (AH rfl) rfl ?_))))
  have hz1 : (z).length = n := hz
  refine A1 (DN 109 _ [true, false] [rb] _ (AY [Ptr rb 0, I64 8] Tryd.call109 rfl) rfl (fun w1 hw1 => numQ_w rb 0 8 ao n c z0 z w1 (hw1.ent _ (List.mem_of_getElem? (i := 0) rfl)) hz (by omega) (by omega) (by omega) ((fun _ _ h => h) _ _ (hr.at (M' := [rb]) hw1 (hw1.apart [0] _ rfl))) hq (by unfold Szd; omega))) rfl ?_
  rintro v1 L1 ⟨_, ⟨rfl, ao1, zz1, ca1, hq1, ⟨hA1, hb1, hb2, hb3⟩, rfl⟩, rfl⟩
  show JL _ _ _ _ ((7, U64 (vQ z0 0 8)) :: _) [_, ⟨rb, [errV 50 (eQ z0 8), .slice ao1 zz1.length ca1], 204, (0, 0)⟩]
  refine AA _ (AH rfl) rfl ?_
  have hz2 : (zz1).length = zz1.length := rfl
  refine A1 (DN 109 _ [false, true] [rb] _ (AY _ Tryd.call109 rfl) rfl (fun w1 hw1 => numQ_w rb 8 8 ao1 zz1.length ca1 z0 zz1 w1 (hw1.ent _ (List.mem_of_getElem? (i := 1) rfl)) rfl (by omega) (by omega) (by omega) ((fun w M h => hA1 w M ((fun _ _ h => h) w M h)) _ _ (hr.at (M' := [rb]) hw1 (hw1.apart [1] _ rfl))) hq1 (by unfold Szd; omega))) rfl ?_
  rintro v1 L1 ⟨_, ⟨rfl, ao2, zz2, ca2, hq2, ⟨hA2, hb4, hb5, hb6⟩, rfl⟩, rfl⟩
  show JL _ _ _ _ ((9, U64 (vQ z0 8 8)) :: _) [_, ⟨rb, [errV 50 (eQ z0 16), .slice ao2 zz2.length ca2], 204, (0, 0)⟩]
  refine AA (.agg ([U64 (vQ z0 0 8), U64 (vQ z0 8 8), I64 0, .slice none 0 0, .slice none 0 0, U64 0] ++ cu8 (zr8 16)).toArray) (B8 [(0, U64 (vQ z0 0 8)), (1, U64 (vQ z0 8 8))] _ rfl (fun _ => bld29_01 rfl rfl)) rfl ?_
  refine A1 (BG _ ([U64 0, U64 0, I64 0, .slice none 0 0, .slice none 0 0, U64 0] ++ cu8 (zr8 16)) BK (by kernel_rfl)) rfl ?_
  rintro v1 L1 ⟨nb2, hnb2, rfl, rfl⟩
  show JL _ _ _ _ ((3, Ptr nb2 0) :: _) [_, _, ⟨nb2, [U64 0, U64 0, I64 0, .slice none 0 0, .slice none 0 0, U64 0] ++ cu8 (zr8 16), 29, (0, 0)⟩]
  refine A7 (A5 2 nb2 22 ([U64 0, U64 0, I64 0, .slice none 0 0, .slice none 0 0, U64 0] ++ cu8 (zr8 16)) 29 ([U64 (vQ z0 0 8), U64 (vQ z0 8 8), I64 0, .slice none 0 0, .slice none 0 0, U64 0] ++ cu8 (zr8 16)) rfl rfl rfl AT (by simp [(AP 16)]) (CO (by simp [Value.oneCell']) CD) (by simp [(AP 16)]) (BC (by simp [(AP 16), (AP 16)]))) rfl ?_
  show JL _ _ _ _ _ [_, _, ⟨nb2, [U64 (vQ z0 0 8), U64 (vQ z0 8 8), I64 0, .slice none 0 0, .slice none 0 0, U64 0] ++ cu8 (zr8 16), 29, (0, 0)⟩]
  refine AN (AE (AI (AD (AA _ (AH rfl) rfl ?_))))
  have hz3 : (zz2).length = zz2.length := rfl
  refine A1 (DN 109 _ [false, true, false] [rb] _ (AY [Ptr rb 0, I64 1] Tryd.call109 rfl) rfl (fun w1 hw1 => numQ_w rb 16 1 ao2 zz2.length ca2 z0 zz2 w1 (hw1.ent _ (List.mem_of_getElem? (i := 1) rfl)) rfl (by omega) (by omega) (by omega) ((fun w M h => hA2 w M ((fun w M h => hA1 w M ((fun _ _ h => h) w M h)) w M h)) _ _ (hr.at (M' := [rb]) hw1 (hw1.apart [1] _ rfl))) hq2 (by unfold Szd; omega))) rfl ?_
  rintro v1 L1 ⟨_, ⟨rfl, ao3, zz3, ca3, hq3, ⟨hA3, hb7, hb8, hb9⟩, rfl⟩, rfl⟩
  show JL _ _ _ _ ((12, U64 (vQ z0 16 1)) :: _) [_, _, ⟨rb, [errV 50 (eQ z0 17), .slice ao3 zz3.length ca3], 204, (0, 0)⟩]
  refine AA (I64 (((vQ z0 16 1).toNat:Int))) (DW _ _ rfl fun _ => conv_u64_i64 (by rw [CF]; rfl) CG (vQ z0 16 1) _ rfl (by omega)) rfl ?_
  refine AA (Ptr nb2 2) (AB 2 26 4 AO rfl A8 rfl rfl) rfl ?_
  refine AA (Ptr nb2 2) (AB 0 3 1 AF rfl BA rfl rfl) rfl ?_
  refine A7 (DT 1 nb2 2 1 ([U64 (vQ z0 0 8), U64 (vQ z0 8 8), I64 0, .slice none 0 0, .slice none 0 0, U64 0] ++ cu8 (zr8 16)) 29 (I64 (((vQ z0 16 1).toNat:Int))) ([I64 (((vQ z0 16 1).toNat:Int))]) ([U64 (vQ z0 0 8), U64 (vQ z0 8 8), I64 (((vQ z0 16 1).toNat:Int)), .slice none 0 0, .slice none 0 0, U64 0] ++ cu8 (zr8 16)) rfl rfl rfl rfl BA rfl (by simp [Value.oneCell']) (by simp [(AP 16)]) (lay_left (p := [U64 (vQ z0 0 8), U64 (vQ z0 8 8), I64 0, .slice none 0 0, .slice none 0 0, U64 0]) (vs := [I64 (((vQ z0 16 1).toNat:Int))]) (o := 2) (by simp []) (rfl))) rfl ?_
  show JL _ _ _ _ _ [_, ⟨nb2, [U64 (vQ z0 0 8), U64 (vQ z0 8 8), I64 (((vQ z0 16 1).toNat:Int)), .slice none 0 0, .slice none 0 0, U64 0] ++ cu8 (zr8 16), 29, (0, 0)⟩, _]
  refine AN (AE (AI (AI (AD (AA (Ptr nb2 2) (AB 2 26 4 AO rfl A8 rfl rfl) rfl ?_)))))
  refine AA (Ptr nb2 2) (AB 0 3 1 AF rfl BA rfl rfl) rfl ?_
  refine AA (I64 (((vQ z0 16 1).toNat:Int))) (AK rfl (AV BF (AS 1 rfl (A4 (AJ (AJ (Seg.head))))))) rfl ?_
  refine AN (AE (JC_cut (ι := (UInt64 × Nat × Option Addr × List UInt8 × Nat) ⊕ (Nat × Nat × Nat × List Value × Nat × Option Addr × List UInt8 × Nat) ⊕ (Nat × Nat × Nat × List Value × Nat × Nat × List Value × Nat × Option Addr × List UInt8 × Nat)) (fun x => match x with | .inl ⟨bl, pp, aa, zz, cc⟩ => [(0, Ptr rb 0), (2, Ptr nb1 0), (3, Ptr nb2 0)] | .inr (.inl ⟨m, pp, gb, sp, cp, aa, zz, cc⟩) => [(0, Ptr rb 0), (2, Ptr nb1 0), (3, Ptr nb2 0)] | .inr (.inr ⟨m, pp, gs, sp2, cp2, gb, sp, cp, aa, zz, cc⟩) => [(0, Ptr rb 0), (2, Ptr nb1 0), (3, Ptr nb2 0)]) (fun x => match x with | .inl ⟨bl, pp, aa, zz, cc⟩ => [⟨rb, [errV 50 (eQ z0 pp), .slice aa zz.length cc], 204, (0, 0)⟩, ⟨nb1, [U64 0, U64 0, I64 0, .slice none 0 0, .slice none 0 0, U64 0] ++ cu8 (zr8 16), 29, (0, 0)⟩, ⟨nb2, [U64 (vQ z0 0 8), U64 (vQ z0 8 8), I64 (((vQ z0 16 1).toNat:Int)), .slice none 0 0, .slice none 0 0, U64 bl] ++ cu8 (zr8 16), 29, (0, 0)⟩] | .inr (.inl ⟨m, pp, gb, sp, cp, aa, zz, cc⟩) => [⟨rb, [errV 50 (eQ z0 pp), .slice aa zz.length cc], 204, (0, 0)⟩, ⟨nb1, [U64 0, U64 0, I64 0, .slice none 0 0, .slice none 0 0, U64 0] ++ cu8 (zr8 16), 29, (0, 0)⟩, ⟨nb2, [U64 (vQ z0 0 8), U64 (vQ z0 8 8), I64 (((vQ z0 16 1).toNat:Int)), Slc gb 0 m cp, .slice none 0 0, U64 0] ++ cu8 (zr8 16), 29, (0, 0)⟩, ⟨gb, cu64 (ixQ z0 18 m) ++ sp, 22, (0, 0)⟩] | .inr (.inr ⟨m, pp, gs, sp2, cp2, gb, sp, cp, aa, zz, cc⟩) => [⟨rb, [errV 50 (eQ z0 pp), .slice aa zz.length cc], 204, (0, 0)⟩, ⟨nb1, [U64 0, U64 0, I64 0, .slice none 0 0, .slice none 0 0, U64 0] ++ cu8 (zr8 16), 29, (0, 0)⟩, ⟨nb2, [U64 (vQ z0 0 8), U64 (vQ z0 8 8), I64 (((vQ z0 16 1).toNat:Int)), Slc gb 0 m cp, Slc gs 0 m cp2, U64 0] ++ cu8 (zr8 16), 29, (0, 0)⟩, ⟨gb, cu64 (ixQ z0 18 m) ++ sp, 22, (0, 0)⟩, ⟨gs, (seQ z0 (4*m + 18) m).flatMap sealC ++ sp2, 161, (0, 0)⟩]) (fun x => match x with | .inl ⟨bl, pp, aa, zz, cc⟩ => ((vQ z0 16 1 = 3 ∧ bl = vQ z0 17 8 ∧ pp = 25) ∨ (BadQ z0 ∧ mayN (vQ z0 0 8) (vQ z0 8 8) (((vQ z0 16 1).toNat:Int)) ([] : List UInt64) ([] : List SealR) bl ≠ 0)) ∧ Lq z0 zz pp ∧ (∀ w M, RdB w M ao z → RdB w M aa zz) ∧ zz.length ≤ cc ∧ cc ≤ maxLen ∧ zz.length ≤ n | .inr (.inl ⟨m, pp, gb, sp, cp, aa, zz, cc⟩) => vQ z0 16 1 = 2 ∧ pp = 4*m + 18 ∧ m ≤ 256 ∧ (m = mQ z0 ∨ (m < mQ z0 ∧ z0.length ≤ m + 18)) ∧ sp.length = cp - m ∧ m ≤ cp ∧ cp ≤ maxLen ∧ Lq z0 zz pp ∧ (∀ w M, RdB w M ao z → RdB w M aa zz) ∧ zz.length ≤ cc ∧ cc ≤ maxLen ∧ zz.length ≤ n | .inr (.inr ⟨m, pp, gs, sp2, cp2, gb, sp, cp, aa, zz, cc⟩) => vQ z0 16 1 = 1 ∧ pp = 60*m + 18 ∧ m ≤ 256 ∧ (m = mQ z0 ∨ (m < mQ z0 ∧ z0.length ≤ m + 18)) ∧ sp2.length = cp2 * 49 - m * 49 ∧ m ≤ cp2 ∧ cp2 ≤ maxLen ∧ sp.length = cp - m ∧ m ≤ cp ∧ cp ≤ maxLen ∧ Lq z0 zz pp ∧ (∀ w M, RdB w M ao z → RdB w M aa zz) ∧ zz.length ≤ cc ∧ cc ≤ maxLen ∧ zz.length ≤ n) ?_ ?_))
  ·
    refine BY (AI (AD (AA (.bool (decide ((((vQ z0 16 1).toNat:Int)) = (3:Int)))) (AR rfl rfl fun _ => C9 _ _) rfl ?_)))
    refine AA _ (AG rfl) rfl ?_
    refine AN (AE (CY (decide ((((vQ z0 16 1).toNat:Int)) = (3:Int))) rfl (fun hb10 => ?_) (fun hb10 => ?_)))
    ·
      have hp10 : (((vQ z0 16 1).toNat:Int)) = (3:Int) := of_decide_eq_true hb10
      refine AD (AA _ (AH rfl) rfl ?_)
      have hz4 : (zz3).length = zz3.length := rfl
      refine A1 (DN 109 _ [false, false, true] [rb] _ (AY [Ptr rb 0, I64 8] Tryd.call109 rfl) rfl (fun w1 hw1 => numQ_w rb 17 8 ao3 zz3.length ca3 z0 zz3 w1 (hw1.ent _ (List.mem_of_getElem? (i := 2) rfl)) rfl (by omega) (by omega) (by omega) ((fun w M h => hA3 w M ((fun w M h => hA2 w M ((fun w M h => hA1 w M ((fun _ _ h => h) w M h)) w M h)) w M h)) _ _ (hr.at (M' := [rb]) hw1 (hw1.apart [2] _ rfl))) hq3 (by unfold Szd; omega))) rfl ?_
      rintro v1 L1 ⟨_, ⟨rfl, ao4, zz4, ca4, hq4, ⟨hA4, hb11, hb12, hb13⟩, rfl⟩, rfl⟩
      show JL _ _ _ _ ((22, U64 (vQ z0 17 8)) :: _) [_, _, ⟨rb, [errV 50 (eQ z0 25), .slice ao4 zz4.length ca4], 204, (0, 0)⟩]
      refine AA (Ptr nb2 2) (AB 2 26 4 AO rfl A8 rfl rfl) rfl ?_
      refine AA (Ptr nb2 5) (AB 3 22 1 AF rfl AU rfl rfl) rfl ?_
      refine A7 (DT 1 nb2 5 1 ([U64 (vQ z0 0 8), U64 (vQ z0 8 8), I64 (((vQ z0 16 1).toNat:Int)), .slice none 0 0, .slice none 0 0, U64 0] ++ cu8 (zr8 16)) 29 (U64 (vQ z0 17 8)) ([U64 (vQ z0 17 8)]) ([U64 (vQ z0 0 8), U64 (vQ z0 8 8), I64 (((vQ z0 16 1).toNat:Int)), .slice none 0 0, .slice none 0 0, U64 (vQ z0 17 8)] ++ cu8 (zr8 16)) rfl rfl rfl rfl AU rfl (by simp [Value.oneCell']) (by simp [(AP 16)]) (lay_left (p := [U64 (vQ z0 0 8), U64 (vQ z0 8 8), I64 (((vQ z0 16 1).toNat:Int)), .slice none 0 0, .slice none 0 0, U64 0]) (vs := [U64 (vQ z0 17 8)]) (o := 5) (by simp []) (rfl))) rfl ?_
      show JL _ _ _ _ _ [_, ⟨nb2, [U64 (vQ z0 0 8), U64 (vQ z0 8 8), I64 (((vQ z0 16 1).toNat:Int)), .slice none 0 0, .slice none 0 0, U64 (vQ z0 17 8)] ++ cu8 (zr8 16), 29, (0, 0)⟩, _]
      refine AN (BO (E9 [2, 0, 1] (by decide) ?_))
      show JQ _ _ _ _ [_, _, _]
      refine E6 (.inl (vQ z0 17 8, 25, ao4, zz4, ca4)) ⟨.inl ⟨kd3 hb10, rfl, rfl⟩, hq4, (fun w M h => hA4 w M ((fun w M h => hA3 w M ((fun w M h => hA2 w M ((fun w M h => hA1 w M ((fun _ _ h => h) w M h)) w M h)) w M h)) w M h)), by omega, by omega, by omega⟩ (Sub.all rfl) rfl
    ·
      have hp10 : ¬ ((((vQ z0 16 1).toNat:Int)) = (3:Int)) := of_decide_eq_false hb10
      refine AI (AI (AD (AA (.bool (decide ((((vQ z0 16 1).toNat:Int)) = (1:Int)))) (AR rfl rfl fun _ => C9 _ _) rfl ?_)))
      refine AA _ (AG rfl) rfl ?_
      refine AN (AE (JC_cut (ι := Unit) (fun _ => [(0, Ptr rb 0), (2, Ptr nb1 0), (3, Ptr nb2 0), (25, .bool (decide ((((vQ z0 16 1).toNat:Int)) = (1:Int)) || decide ((((vQ z0 16 1).toNat:Int)) = (2:Int))))]) (fun _ => [⟨nb1, [U64 0, U64 0, I64 0, .slice none 0 0, .slice none 0 0, U64 0] ++ cu8 (zr8 16), 29, (0, 0)⟩, ⟨nb2, [U64 (vQ z0 0 8), U64 (vQ z0 8 8), I64 (((vQ z0 16 1).toNat:Int)), .slice none 0 0, .slice none 0 0, U64 0] ++ cu8 (zr8 16), 29, (0, 0)⟩, ⟨rb, [errV 50 (eQ z0 17), .slice ao3 zz3.length ca3], 204, (0, 0)⟩]) (fun _ => True) ?_ ?_))
      ·
        refine CY (decide ((((vQ z0 16 1).toNat:Int)) = (1:Int))) rfl (fun hb14 => ?_) (fun hb14 => ?_)
        ·
          have hp14 : (((vQ z0 16 1).toNat:Int)) = (1:Int) := of_decide_eq_true hb14
          refine BT (E6 (()) trivial (Sub.cons rfl (Sub.cons rfl (Sub.cons rfl (Sub.cons (congrArg (fun b => some (Value.bool b)) (by rw [hb14]; rfl : decide ((((vQ z0 16 1).toNat:Int)) = (1:Int)) = (decide ((((vQ z0 16 1).toNat:Int)) = (1:Int)) || decide ((((vQ z0 16 1).toNat:Int)) = (2:Int))))) (Sub.nil))))) rfl)
        ·
          have hp14 : ¬ ((((vQ z0 16 1).toNat:Int)) = (1:Int)) := of_decide_eq_false hb14
          refine AD (AA (.bool (decide ((((vQ z0 16 1).toNat:Int)) = (2:Int)))) (AR rfl rfl fun _ => C9 _ _) rfl ?_)
          refine AA _ (AG rfl) rfl ?_
          refine AN (E6 (()) trivial (Sub.cons rfl (Sub.cons rfl (Sub.cons rfl (Sub.cons (congrArg (fun b => some (Value.bool b)) (by rw [hb14]; rfl : decide ((((vQ z0 16 1).toNat:Int)) = (2:Int)) = (decide ((((vQ z0 16 1).toNat:Int)) = (1:Int)) || decide ((((vQ z0 16 1).toNat:Int)) = (2:Int))))) (Sub.nil))))) rfl)
      ·
        rintro _ hx
        obtain _ := hx
        show JQ _ _ _ [(0, Ptr rb 0), (2, Ptr nb1 0), (3, Ptr nb2 0), (25, .bool (decide ((((vQ z0 16 1).toNat:Int)) = (1:Int)) || decide ((((vQ z0 16 1).toNat:Int)) = (2:Int))))] [⟨nb1, [U64 0, U64 0, I64 0, .slice none 0 0, .slice none 0 0, U64 0] ++ cu8 (zr8 16), 29, (0, 0)⟩, ⟨nb2, [U64 (vQ z0 0 8), U64 (vQ z0 8 8), I64 (((vQ z0 16 1).toNat:Int)), .slice none 0 0, .slice none 0 0, U64 0] ++ cu8 (zr8 16), 29, (0, 0)⟩, ⟨rb, [errV 50 (eQ z0 17), .slice ao3 zz3.length ca3], 204, (0, 0)⟩]
        refine AE (CY ((decide ((((vQ z0 16 1).toNat:Int)) = (1:Int)) || decide ((((vQ z0 16 1).toNat:Int)) = (2:Int)))) rfl (fun hb15 => ?_) (fun hb15 => ?_))
        ·
          refine AI ?_
          have hk12 : vQ z0 16 1 = 1 ∨ vQ z0 16 1 = 2 := kd12 hb15
          refine AD (AA _ (AH rfl) rfl ?_)
          have hz5 : (zz3).length = zz3.length := rfl
          refine A1 (DN 109 _ [false, false, true] [rb] _ (AY [Ptr rb 0, I64 1] Tryd.call109 rfl) rfl (fun w1 hw1 => numQ_w rb 17 1 ao3 zz3.length ca3 z0 zz3 w1 (hw1.ent _ (List.mem_of_getElem? (i := 2) rfl)) rfl (by omega) (by omega) (by omega) ((fun w M h => hA3 w M ((fun w M h => hA2 w M ((fun w M h => hA1 w M ((fun _ _ h => h) w M h)) w M h)) w M h)) _ _ (hr.at (M' := [rb]) hw1 (hw1.apart [2] _ rfl))) hq3 (by unfold Szd; omega))) rfl ?_
          rintro v1 L1 ⟨_, ⟨rfl, ao5, zz5, ca5, hq5, ⟨hA5, hb16, hb17, hb18⟩, rfl⟩, rfl⟩
          show JL _ _ _ _ ((29, U64 (vQ z0 17 1)) :: _) [_, _, ⟨rb, [errV 50 (eQ z0 18), .slice ao5 zz5.length ca5], 204, (0, 0)⟩]
          refine AA (I64 (((vQ z0 17 1).toNat:Int))) (DW _ _ rfl fun _ => conv_u64_i64 (by rw [CF]; rfl) CG (vQ z0 17 1) _ rfl (by omega)) rfl ?_
          refine AA (I64 (((vQ z0 17 1).toNat:Int) + 1)) (AR rfl rfl fun _ => DF _ _ (((vQ z0 17 1).toNat:Int) + 1) (by omega) (by omega)) rfl ?_
          refine AA _ (AG rfl) rfl ?_
          refine AN (AE (AI (AI ?_)))
          obtain ⟨m, hm1, hm2, hm3⟩ := minQ hq5
          refine AD (AA _ (AH rfl) rfl ?_)
          refine AA _ (AH rfl) rfl ?_
          refine A7 (A3 61 [Ptr rb 0] (I64 ((leftN (eQ z0 18) zz5.length:Int))) (AY _ Tryd.call61 rfl) (fun w1 hw1 => left_w rb (eQ z0 18) ao5 zz5.length ca5 w1 (RdA.of hw1 (AS 2 rfl (AL _)) (by simp)))) rfl ?_
          show JL _ _ _ _ ((34, I64 ((leftN (eQ z0 18) zz5.length:Int))) :: _) [_, _, _]
          refine AA (I64 m) (Ev_min rfl rfl hm1) rfl ?_
          refine AA _ (AH rfl) rfl ?_
          refine AN (AE (JC_cut (ι := (Unit) ⊕ (Nat × List Value × Nat × Option Addr × List UInt8 × Nat)) (fun x => match x with | .inl _ => [(0, Ptr rb 0), (2, Ptr nb1 0), (3, Ptr nb2 0)] | .inr ⟨gb, sp, cp, aa, zz, cc⟩ => [(0, Ptr rb 0), (2, Ptr nb1 0), (3, Ptr nb2 0)]) (fun x => match x with | .inl _ => [⟨rb, [errV 50 (eQ z0 18), .slice ao5 zz5.length ca5], 204, (0, 0)⟩, ⟨nb1, [U64 0, U64 0, I64 0, .slice none 0 0, .slice none 0 0, U64 0] ++ cu8 (zr8 16), 29, (0, 0)⟩, ⟨nb2, [U64 (vQ z0 0 8), U64 (vQ z0 8 8), I64 (((vQ z0 16 1).toNat:Int)), .slice none 0 0, .slice none 0 0, U64 0] ++ cu8 (zr8 16), 29, (0, 0)⟩] | .inr ⟨gb, sp, cp, aa, zz, cc⟩ => [⟨rb, [errV 50 (eQ z0 (4*m + 18)), .slice aa zz.length cc], 204, (0, 0)⟩, ⟨nb1, [U64 0, U64 0, I64 0, .slice none 0 0, .slice none 0 0, U64 0] ++ cu8 (zr8 16), 29, (0, 0)⟩, ⟨nb2, [U64 (vQ z0 0 8), U64 (vQ z0 8 8), I64 (((vQ z0 16 1).toNat:Int)), Slc gb 0 m cp, .slice none 0 0, U64 0] ++ cu8 (zr8 16), 29, (0, 0)⟩, ⟨gb, cu64 (ixQ z0 18 m) ++ sp, 22, (0, 0)⟩]) (fun x => match x with | .inl _ => m = 0 | .inr ⟨gb, sp, cp, aa, zz, cc⟩ => 0 < m ∧ sp.length = cp - m ∧ m ≤ cp ∧ cp ≤ maxLen ∧ Lq z0 zz (4*m + 18) ∧ (∀ w M, RdB w M ao z → RdB w M aa zz) ∧ zz.length ≤ cc ∧ cc ≤ maxLen ∧ zz.length ≤ n) ?_ ?_))
          ·
            refine BY (E9 [2, 0, 1] (by decide) ?_)
            show JC _ _ _ _ [_, _, _]
            refine EE (ι := (Unit) ⊕ (Nat × List UInt64 × Nat × List Value × Nat × Option Addr × List UInt8 × Nat)) (fun x => match x with | .inl _ => [(0, Ptr rb 0), (2, Ptr nb1 0), (3, Ptr nb2 0), (35, I64 m), (36, I64 0)] | .inr ⟨i, ll, gb, sp, cp, aa, zz, cc⟩ => [(0, Ptr rb 0), (2, Ptr nb1 0), (3, Ptr nb2 0), (35, I64 m), (36, I64 i)]) (fun x => match x with | .inl _ => [⟨rb, [errV 50 (eQ z0 18), .slice ao5 zz5.length ca5], 204, (0, 0)⟩, ⟨nb1, [U64 0, U64 0, I64 0, .slice none 0 0, .slice none 0 0, U64 0] ++ cu8 (zr8 16), 29, (0, 0)⟩, ⟨nb2, [U64 (vQ z0 0 8), U64 (vQ z0 8 8), I64 (((vQ z0 16 1).toNat:Int)), .slice none 0 0, .slice none 0 0, U64 0] ++ cu8 (zr8 16), 29, (0, 0)⟩] | .inr ⟨i, ll, gb, sp, cp, aa, zz, cc⟩ => [⟨rb, [errV 50 (eQ z0 (4*i + 18)), .slice aa zz.length cc], 204, (0, 0)⟩, ⟨nb1, [U64 0, U64 0, I64 0, .slice none 0 0, .slice none 0 0, U64 0] ++ cu8 (zr8 16), 29, (0, 0)⟩, ⟨nb2, [U64 (vQ z0 0 8), U64 (vQ z0 8 8), I64 (((vQ z0 16 1).toNat:Int)), Slc gb 0 i cp, .slice none 0 0, U64 0] ++ cu8 (zr8 16), 29, (0, 0)⟩, ⟨gb, cu64 ll ++ sp, 22, (0, 0)⟩]) (fun x => match x with | .inl _ => True | .inr ⟨i, ll, gb, sp, cp, aa, zz, cc⟩ => 0 < i ∧ i ≤ m ∧ ll = ixQ z0 18 i ∧ ll.length = i ∧ sp.length = cp - i ∧ i ≤ cp ∧ cp ≤ maxLen ∧ Lq z0 zz (4*i + 18) ∧ (∀ w M, RdB w M ao z → RdB w M aa zz) ∧ zz.length ≤ cc ∧ cc ≤ maxLen ∧ zz.length ≤ n) (fun x => match x with | .inl _ => m + 2 | .inr ⟨i, ll, gb, sp, cp, aa, zz, cc⟩ => m + 1 - i) (.inl ()) trivial (Sub.all rfl) rfl ?_
            rintro (_ | ⟨i, ll, gb, sp, cp, aa, zz, cc⟩) hx
            ·
              obtain _ := hx
              show JC _ _ _ [(0, Ptr rb 0), (2, Ptr nb1 0), (3, Ptr nb2 0), (35, I64 m), (36, I64 0)] [⟨rb, [errV 50 (eQ z0 18), .slice ao5 zz5.length ca5], 204, (0, 0)⟩, ⟨nb1, [U64 0, U64 0, I64 0, .slice none 0 0, .slice none 0 0, U64 0] ++ cu8 (zr8 16), 29, (0, 0)⟩, ⟨nb2, [U64 (vQ z0 0 8), U64 (vQ z0 8 8), I64 (((vQ z0 16 1).toNat:Int)), .slice none 0 0, .slice none 0 0, U64 0] ++ cu8 (zr8 16), 29, (0, 0)⟩]
              refine AI (AD (AA (.bool (decide ((0:Int) < ((m:Int))))) (AR rfl rfl fun _ => CS _ _) rfl ?_))
              refine AN (AE (AI (CY (decide ((0:Int) < ((m:Int)))) rfl (fun hb19 => ?_) (fun hb19 => ?_))))
              ·
                have hp19 : (0:Int) < ((m:Int)) := of_decide_eq_true hb19
                refine BT (AE (AI (BY (C1 90 5 [(0, Ptr nb2 2), (1, Ptr nb2 3), (2, .slice none 0 0), (3, Ptr rb 0)] BV rfl (by decide +kernel) ?_))))
                have hz6 : (zz5).length = zz5.length := rfl
                refine CR ⟨[], [0, 1, 2, 3], [], [0, 1, 2, 3], [4]⟩ 4 _ rfl rfl (by decide +kernel) rfl ⟨⟨_, rfl, AC rfl (AB 2 26 4 AO rfl A8 rfl rfl)⟩, ⟨_, rfl, AC rfl (AB 1 23 1 AF rfl CB rfl rfl)⟩, ⟨_, rfl, AC rfl (AK rfl (AV CP (AS 2 rfl (A4 (AJ (AJ (AJ (Seg.head))))))))⟩, A2 rfl rfl rfl, trivial⟩ rfl (AZ rfl (DN 109 _ [true, false, false] [rb] _ (AY [Ptr rb 0, I64 4] Tryd.call109 rfl) rfl (fun w1 hw1 => numQ_w rb 18 4 ao5 zz5.length ca5 z0 zz5 w1 (hw1.ent _ (List.mem_of_getElem? (i := 0) rfl)) rfl (by omega) (by omega) (by omega) ((fun w M h => hA5 w M ((fun w M h => hA3 w M ((fun w M h => hA2 w M ((fun w M h => hA1 w M ((fun _ _ h => h) w M h)) w M h)) w M h)) w M h)) _ _ (hr.at (M' := [rb]) hw1 (hw1.apart [0] _ rfl))) hq5 (by unfold Szd; omega)))) ?_
                rintro v1 L1 ⟨_, ⟨rfl, ao6, zz6, ca6, hq6, ⟨hA6, hb20, hb21, hb22⟩, rfl⟩, rfl⟩
                refine ⟨[], ?_⟩
                show DP _ _ _ _ _ _ _ _ [_, _, ⟨rb, [errV 50 (eQ z0 22), .slice ao6 zz6.length ca6], 204, (0, 0)⟩]
                refine CR ⟨[4], [0, 1, 2, 3], [3], [0, 1, 2], [5]⟩ 5 _ rfl rfl (by decide +kernel) rfl ⟨⟨_, rfl, AC rfl (AB 2 26 4 AO rfl A8 rfl rfl)⟩, ⟨_, rfl, AC rfl (AB 1 23 1 AF rfl CB rfl rfl)⟩, ⟨_, rfl, AC rfl (AK rfl (AV CP (AS 1 rfl (A4 (AJ (AJ (AJ (Seg.head))))))))⟩, trivial⟩ rfl (AZ rfl (B0 22 1 _ [(0, U64 (vQ z0 18 4))] ([U64 (vQ z0 18 4)]) CA AU Tryd.zeroValue22 rfl rfl rfl (by kernel_rfl))) ?_
                rintro v1 L1 ⟨nb3, hnb3, rfl, rfl⟩
                refine ⟨[], ?_⟩
                show DP _ _ _ _ _ _ _ _ [_, _, _, ⟨nb3, [U64 (vQ z0 18 4)], 22, (0, 0)⟩]
                refine CR ⟨[4, 5], [0, 1, 2, 3], [3], [0, 1, 2], [6]⟩ 6 _ rfl rfl (by decide +kernel) rfl ⟨⟨_, rfl, AC rfl (AB 2 26 4 AO rfl A8 rfl rfl)⟩, ⟨_, rfl, AC rfl (AB 1 23 1 AF rfl CB rfl rfl)⟩, ⟨_, rfl, AC rfl (AK rfl (AV CP (AS 1 rfl (A4 (AJ (AJ (AJ (Seg.head))))))))⟩, trivial⟩ rfl (AZ rfl (Step_appM64 23 22 [false, false, false, false] (.slice none 0 0) 0 ([] : List UInt64) ([vQ z0 18 4]) (some ⟨nb3, 0, none⟩) 1 1 1 CA Tryd.info22 rfl (.inl ⟨rfl, rfl, rfl, rfl, by omega⟩) rfl (by simp) (SrcAt.mem (AS 3 rfl (Seg.head))) (by omega) (by unfold maxLen; omega) (by omega))) ?_
                rintro v1 L1 ⟨nb4, sp1, cp1, hg1, rfl, rfl, ha1, ha2, ha3, ha4⟩
                refine ⟨[(7, Ptr nb2 2), (8, Ptr nb2 3)], ?_⟩
                show DP _ _ _ _ _ _ _ _ [_, _, _, _, ⟨nb4, cu64 (([] : List UInt64) ++ ([vQ z0 18 4])) ++ sp1, 22, (0, 0)⟩]
                refine CQ ⟨[4, 5, 6], [0, 1, 2, 3, 7, 8], [0, 1, 2, 3], [7, 8], [9]⟩ 9 rfl rfl (by decide +kernel) rfl ⟨⟨_, rfl, AC rfl (AB 2 26 4 AO rfl A8 rfl rfl)⟩, ⟨_, rfl, AC rfl (AB 1 23 1 AF rfl CB rfl rfl)⟩, trivial⟩ rfl (AZ rfl (DT 1 nb2 3 1 ([U64 (vQ z0 0 8), U64 (vQ z0 8 8), I64 (((vQ z0 16 1).toNat:Int)), .slice none 0 0, .slice none 0 0, U64 0] ++ cu8 (zr8 16)) 29 (Slc nb4 0 1 cp1) ([Slc nb4 0 1 cp1]) ([U64 (vQ z0 0 8), U64 (vQ z0 8 8), I64 (((vQ z0 16 1).toNat:Int)), Slc nb4 0 1 cp1, .slice none 0 0, U64 0] ++ cu8 (zr8 16)) rfl rfl rfl rfl CB rfl (by simp [Value.oneCell']) (by simp [(AP 16)]) (lay_left (p := [U64 (vQ z0 0 8), U64 (vQ z0 8 8), I64 (((vQ z0 16 1).toNat:Int)), .slice none 0 0, .slice none 0 0, U64 0]) (vs := [Slc nb4 0 1 cp1]) (o := 3) (by simp []) (rfl)))) ?_
                show DP _ _ _ _ _ _ _ _ [_, ⟨nb2, [U64 (vQ z0 0 8), U64 (vQ z0 8 8), I64 (((vQ z0 16 1).toNat:Int)), Slc nb4 0 1 cp1, .slice none 0 0, U64 0] ++ cu8 (zr8 16), 29, (0, 0)⟩, _, _, _]
                refine C4 ⟨[4, 5, 6, 9], [0, 1, 2, 3, 7, 8], [0, 1, 2, 3, 7, 8], [], []⟩ rfl rfl (by decide +kernel) rfl trivial ?_
                refine CI (F' := [(38, Ptr nb2 2), (39, Ptr nb2 3), (40, .slice none 0 0), (41, Ptr rb 0), (42, U64 (vQ z0 18 4)), (43, Slc nb3 0 1 1), (44, Slc nb4 0 1 cp1), (45, Ptr nb2 2), (46, Ptr nb2 3), (0, Ptr rb 0), (2, Ptr nb1 0), (3, Ptr nb2 0), (35, I64 m), (36, I64 0), (37, .bool (decide ((0:Int) < ((m:Int)))))]) (by kernel_rfl) ?_
                refine BO (AE (AD (AA (I64 1) (AR rfl rfl fun _ => DF _ _ (1:Int) (by omega) (by omega)) rfl ?_)))
                refine AA _ (AH rfl) rfl ?_
                refine AN (DH (CH [true, true, true, false, true] ?_))
                show K _ _ [_, _, _, _] _
                refine E9 [2, 0, 1, 3] (by decide) ?_
                show K _ _ [_, _, _, _] _
                refine EP (.inr (1, ([] : List UInt64) ++ ([vQ z0 18 4]), nb4, sp1, cp1, ao6, zz6, ca6)) ⟨by omega, by omega, by rw [ixQ_one]; rfl, (ha1).trans (by first | rfl | simp +arith), (ha2).trans (by first | rfl | omega), by omega, by omega, hq6, (fun w M h => hA6 w M ((fun w M h => hA5 w M ((fun w M h => hA3 w M ((fun w M h => hA2 w M ((fun w M h => hA1 w M ((fun _ _ h => h) w M h)) w M h)) w M h)) w M h)) w M h)), by omega, by omega, by omega⟩ (by dsimp only; omega) (Sub.all rfl) rfl
              ·
                have hp19 : ¬ ((0:Int) < ((m:Int))) := of_decide_eq_false hb19
                refine D8 (BB (BB (CV (E6 (.inl ()) (by omega) (Sub.all rfl) rfl))))
            ·
              obtain ⟨hi1, hi2, hi3, hi4, hi5, hi6, hi7, hi8, hi9, hi10, hi11, hi12⟩ := hx
              show JC _ _ _ [(0, Ptr rb 0), (2, Ptr nb1 0), (3, Ptr nb2 0), (35, I64 m), (36, I64 i)] [⟨rb, [errV 50 (eQ z0 (4*i + 18)), .slice aa zz.length cc], 204, (0, 0)⟩, ⟨nb1, [U64 0, U64 0, I64 0, .slice none 0 0, .slice none 0 0, U64 0] ++ cu8 (zr8 16), 29, (0, 0)⟩, ⟨nb2, [U64 (vQ z0 0 8), U64 (vQ z0 8 8), I64 (((vQ z0 16 1).toNat:Int)), Slc gb 0 i cp, .slice none 0 0, U64 0] ++ cu8 (zr8 16), 29, (0, 0)⟩, ⟨gb, cu64 ll ++ sp, 22, (0, 0)⟩]
              refine AI (AD (AA (.bool (decide (((i:Int)) < ((m:Int))))) (AR rfl rfl fun _ => CS _ _) rfl ?_))
              refine AN (AE (AI (CY (decide (((i:Int)) < ((m:Int)))) rfl (fun hb23 => ?_) (fun hb23 => ?_))))
              ·
                have hp23 : ((i:Int)) < ((m:Int)) := of_decide_eq_true hb23
                refine BT (AE (AI (BY (C1 90 5 [(0, Ptr nb2 2), (1, Ptr nb2 3), (2, Slc gb 0 i cp), (3, Ptr rb 0)] BV rfl (by decide +kernel) ?_))))
                have hz7 : (zz).length = zz.length := rfl
                refine CR ⟨[], [0, 1, 2, 3], [], [0, 1, 2, 3], [4]⟩ 4 _ rfl rfl (by decide +kernel) rfl ⟨⟨_, rfl, AC rfl (AB 2 26 4 AO rfl A8 rfl rfl)⟩, ⟨_, rfl, AC rfl (AB 1 23 1 AF rfl CB rfl rfl)⟩, ⟨_, rfl, AC rfl (AK rfl (AV CP (AS 2 rfl (A4 (AJ (AJ (AJ (Seg.head))))))))⟩, A2 rfl rfl rfl, trivial⟩ rfl (AZ rfl (DN 109 _ [true, false, false, false] [rb] _ (AY [Ptr rb 0, I64 4] Tryd.call109 rfl) rfl (fun w1 hw1 => numQ_w rb (4*i + 18) 4 aa zz.length cc z0 zz w1 (hw1.ent _ (List.mem_of_getElem? (i := 0) rfl)) rfl (by omega) (by omega) (by omega) (hi9 _ _ (hr.at (M' := [rb]) hw1 (hw1.apart [0] _ rfl))) hi8 (by unfold Szd; omega)))) ?_
                rintro v1 L1 ⟨_, ⟨rfl, ao7, zz7, ca7, hq7, ⟨hA7, hb24, hb25, hb26⟩, rfl⟩, rfl⟩
                refine ⟨[], ?_⟩
                show DP _ _ _ _ _ _ _ _ [_, _, _, ⟨rb, [errV 50 (eQ z0 (4*i + 22)), .slice ao7 zz7.length ca7], 204, (0, 0)⟩]
                refine CR ⟨[4], [0, 1, 2, 3], [3], [0, 1, 2], [5]⟩ 5 _ rfl rfl (by decide +kernel) rfl ⟨⟨_, rfl, AC rfl (AB 2 26 4 AO rfl A8 rfl rfl)⟩, ⟨_, rfl, AC rfl (AB 1 23 1 AF rfl CB rfl rfl)⟩, ⟨_, rfl, AC rfl (AK rfl (AV CP (AS 1 rfl (A4 (AJ (AJ (AJ (Seg.head))))))))⟩, trivial⟩ rfl (AZ rfl (B0 22 1 _ [(0, U64 (vQ z0 (4*i + 18) 4))] ([U64 (vQ z0 (4*i + 18) 4)]) CA AU Tryd.zeroValue22 rfl rfl rfl (by kernel_rfl))) ?_
                rintro v1 L1 ⟨nb5, hnb5, rfl, rfl⟩
                refine ⟨[], ?_⟩
                show DP _ _ _ _ _ _ _ _ [_, _, _, _, ⟨nb5, [U64 (vQ z0 (4*i + 18) 4)], 22, (0, 0)⟩]
                refine CR ⟨[4, 5], [0, 1, 2, 3], [3], [0, 1, 2], [6]⟩ 6 _ rfl rfl (by decide +kernel) rfl ⟨⟨_, rfl, AC rfl (AB 2 26 4 AO rfl A8 rfl rfl)⟩, ⟨_, rfl, AC rfl (AB 1 23 1 AF rfl CB rfl rfl)⟩, ⟨_, rfl, AC rfl (AK rfl (AV CP (AS 1 rfl (A4 (AJ (AJ (AJ (Seg.head))))))))⟩, trivial⟩ rfl (AZ rfl (Step_appM64 23 22 [false, false, true, false, false] (Slc gb 0 i cp) i ll ([vQ z0 (4*i + 18) 4]) (some ⟨nb5, 0, none⟩) 1 1 (i + 1) CA Tryd.info22 rfl (.inr ⟨gb, sp, cp, rfl, rfl, (by first | exact hi4 | simp [hi4]), hi5, (by omega), (by omega)⟩) rfl (by simp) (SrcAt.mem (AS 4 rfl (Seg.head))) (by omega) (by unfold maxLen; omega) (by omega))) ?_
                rintro v1 L1 ⟨nb6, sp2, cp2, hg2, rfl, rfl, ha5, ha6, ha7, ha8⟩
                refine ⟨[(7, Ptr nb2 2), (8, Ptr nb2 3)], ?_⟩
                show DP _ _ _ _ _ _ _ _ [_, _, _, _, ⟨nb6, cu64 (ll ++ ([vQ z0 (4*i + 18) 4])) ++ sp2, 22, (0, 0)⟩]
                refine CQ ⟨[4, 5, 6], [0, 1, 2, 3, 7, 8], [0, 1, 2, 3], [7, 8], [9]⟩ 9 rfl rfl (by decide +kernel) rfl ⟨⟨_, rfl, AC rfl (AB 2 26 4 AO rfl A8 rfl rfl)⟩, ⟨_, rfl, AC rfl (AB 1 23 1 AF rfl CB rfl rfl)⟩, trivial⟩ rfl (AZ rfl (DT 1 nb2 3 1 ([U64 (vQ z0 0 8), U64 (vQ z0 8 8), I64 (((vQ z0 16 1).toNat:Int)), Slc gb 0 i cp, .slice none 0 0, U64 0] ++ cu8 (zr8 16)) 29 (Slc nb6 0 (i + 1) cp2) ([Slc nb6 0 (i + 1) cp2]) ([U64 (vQ z0 0 8), U64 (vQ z0 8 8), I64 (((vQ z0 16 1).toNat:Int)), Slc nb6 0 (i + 1) cp2, .slice none 0 0, U64 0] ++ cu8 (zr8 16)) rfl rfl rfl rfl CB rfl (by simp [Value.oneCell']) (by simp [(AP 16)]) (lay_left (p := [U64 (vQ z0 0 8), U64 (vQ z0 8 8), I64 (((vQ z0 16 1).toNat:Int)), Slc gb 0 i cp, .slice none 0 0, U64 0]) (vs := [Slc nb6 0 (i + 1) cp2]) (o := 3) (by simp []) (rfl)))) ?_
                show DP _ _ _ _ _ _ _ _ [_, ⟨nb2, [U64 (vQ z0 0 8), U64 (vQ z0 8 8), I64 (((vQ z0 16 1).toNat:Int)), Slc nb6 0 (i + 1) cp2, .slice none 0 0, U64 0] ++ cu8 (zr8 16), 29, (0, 0)⟩, _, _, _]
                refine C4 ⟨[4, 5, 6, 9], [0, 1, 2, 3, 7, 8], [0, 1, 2, 3, 7, 8], [], []⟩ rfl rfl (by decide +kernel) rfl trivial ?_
                refine CI (F' := [(38, Ptr nb2 2), (39, Ptr nb2 3), (40, Slc gb 0 i cp), (41, Ptr rb 0), (42, U64 (vQ z0 (4*i + 18) 4)), (43, Slc nb5 0 1 1), (44, Slc nb6 0 (i + 1) cp2), (45, Ptr nb2 2), (46, Ptr nb2 3), (0, Ptr rb 0), (2, Ptr nb1 0), (3, Ptr nb2 0), (35, I64 m), (36, I64 i), (37, .bool (decide (((i:Int)) < ((m:Int)))))]) (by kernel_rfl) ?_
                refine BO (AE (AD (AA (I64 ((i:Int) + 1)) (AR rfl rfl fun _ => DF _ _ ((i:Int) + 1) (by omega) (by omega)) rfl ?_)))
                refine AA _ (AH rfl) rfl ?_
                refine AN (DH (CH [true, true, true, false, true] ?_))
                show K _ _ [_, _, _, _] _
                refine E9 [2, 0, 1, 3] (by decide) ?_
                show K _ _ [_, _, _, _] _
                refine EP (.inr (i + 1, ll ++ ([vQ z0 (4*i + 18) 4]), nb6, sp2, cp2, ao7, zz7, ca7)) ⟨by omega, by omega, by rw [ixQ_succ, ← hi3, Nat.add_comm 18 (4*i)], (ha5).trans (by first | rfl | simp +arith), (ha6).trans (by first | rfl | omega), by omega, by omega, hq7, (fun w M h => hA7 w M (hi9 w M h)), by omega, by omega, by omega⟩ (by dsimp only; omega) (Sub.all rfl) rfl
              ·
                have hp23 : ¬ (((i:Int)) < ((m:Int))) := of_decide_eq_false hb23
                refine D8 (BB (BB (CV ?_)))
                have ei : m = i := by omega
                subst ei
                subst hi3
                refine E6 (.inr (gb, sp, cp, aa, zz, cc)) ⟨hi1, hi5, hi6, hi7, hi8, hi9, hi10, hi11, hi12⟩ (Sub.all rfl) rfl
          ·
            rintro (_ | ⟨gb, sp, cp, aa, zz, cc⟩) hx
            ·
              obtain hm0 := hx
              show JQ _ _ _ [(0, Ptr rb 0), (2, Ptr nb1 0), (3, Ptr nb2 0)] [⟨rb, [errV 50 (eQ z0 18), .slice ao5 zz5.length ca5], 204, (0, 0)⟩, ⟨nb1, [U64 0, U64 0, I64 0, .slice none 0 0, .slice none 0 0, U64 0] ++ cu8 (zr8 16), 29, (0, 0)⟩, ⟨nb2, [U64 (vQ z0 0 8), U64 (vQ z0 8 8), I64 (((vQ z0 16 1).toNat:Int)), .slice none 0 0, .slice none 0 0, U64 0] ++ cu8 (zr8 16), 29, (0, 0)⟩]
              refine AE (AI (AD (AA (Ptr nb2 2) (AB 2 26 4 AO rfl A8 rfl rfl) rfl ?_)))
              refine AA (Ptr nb2 3) (AB 1 23 1 AF rfl CB rfl rfl) rfl ?_
              refine AA (.slice none 0 0) (AK rfl (AV CP (AS 2 rfl (A4 (AJ (AJ (AJ (Seg.head)))))))) rfl ?_
              refine AA (I64 0) (EL CA rfl) rfl ?_
              refine AA _ (AH rfl) rfl ?_
              refine AN (AE (BY (EE (ι := Unit) (fun _ => [(0, Ptr rb 0), (2, Ptr nb1 0), (3, Ptr nb2 0), (51, I64 0), (52, I64 0)]) (fun _ => [⟨rb, [errV 50 (eQ z0 18), .slice ao5 zz5.length ca5], 204, (0, 0)⟩, ⟨nb1, [U64 0, U64 0, I64 0, .slice none 0 0, .slice none 0 0, U64 0] ++ cu8 (zr8 16), 29, (0, 0)⟩, ⟨nb2, [U64 (vQ z0 0 8), U64 (vQ z0 8 8), I64 (((vQ z0 16 1).toNat:Int)), .slice none 0 0, .slice none 0 0, U64 0] ++ cu8 (zr8 16), 29, (0, 0)⟩]) (fun _ => True) (fun _ => 1) () trivial (Sub.all rfl) rfl ?_)))
              rintro _ _
              show JC _ _ _ [(0, Ptr rb 0), (2, Ptr nb1 0), (3, Ptr nb2 0), (51, I64 0), (52, I64 0)] [⟨rb, [errV 50 (eQ z0 18), .slice ao5 zz5.length ca5], 204, (0, 0)⟩, ⟨nb1, [U64 0, U64 0, I64 0, .slice none 0 0, .slice none 0 0, U64 0] ++ cu8 (zr8 16), 29, (0, 0)⟩, ⟨nb2, [U64 (vQ z0 0 8), U64 (vQ z0 8 8), I64 (((vQ z0 16 1).toNat:Int)), .slice none 0 0, .slice none 0 0, U64 0] ++ cu8 (zr8 16), 29, (0, 0)⟩]
              refine AI (AD (AA (.bool (decide ((0:Int) < (0:Int)))) (AR rfl rfl fun _ => CS _ _) rfl ?_))
              refine AN (AE (AI (CK _ rfl (by decide) ?_)))
              refine D8 (BB (BB (CV (BO (E6 (.inl (0, 18, ao5, zz5, ca5)) ⟨.inr (bad12 hk12 (by omega)), hq5, (fun w M h => hA5 w M ((fun w M h => hA3 w M ((fun w M h => hA2 w M ((fun w M h => hA1 w M ((fun _ _ h => h) w M h)) w M h)) w M h)) w M h)), by omega, by omega, by omega⟩ (Sub.all rfl) rfl)))))
            ·
              obtain ⟨hy1, hy2, hy3, hy4, hy5, hy6, hy7, hy8, hy9⟩ := hx
              show JQ _ _ _ [(0, Ptr rb 0), (2, Ptr nb1 0), (3, Ptr nb2 0)] [⟨rb, [errV 50 (eQ z0 (4*m + 18)), .slice aa zz.length cc], 204, (0, 0)⟩, ⟨nb1, [U64 0, U64 0, I64 0, .slice none 0 0, .slice none 0 0, U64 0] ++ cu8 (zr8 16), 29, (0, 0)⟩, ⟨nb2, [U64 (vQ z0 0 8), U64 (vQ z0 8 8), I64 (((vQ z0 16 1).toNat:Int)), Slc gb 0 m cp, .slice none 0 0, U64 0] ++ cu8 (zr8 16), 29, (0, 0)⟩, ⟨gb, cu64 (ixQ z0 18 m) ++ sp, 22, (0, 0)⟩]
              refine AE (AI ?_)
              by_cases hk1 : vQ z0 16 1 = 1
              ·
                refine AD (AA (Ptr nb2 2) (AB 2 26 4 AO rfl A8 rfl rfl) rfl ?_)
                refine AA (Ptr nb2 3) (AB 1 23 1 AF rfl CB rfl rfl) rfl ?_
                refine AA (Slc gb 0 m cp) (AK rfl (AV CP (AS 2 rfl (A4 (AJ (AJ (AJ (Seg.head)))))))) rfl ?_
                refine AA (I64 m) (EL CA rfl) rfl ?_
                refine AA _ (AH rfl) rfl ?_
                refine AN (AE (BY ?_))
                obtain ⟨aq, haq⟩ : ∃ aq, aq = 4*m + 18 := ⟨_, rfl⟩
                rw [← haq]
                show JC _ _ _ _ [⟨rb, [errV 50 (eQ z0 aq), .slice aa zz.length cc], 204, (0, 0)⟩, ⟨nb1, [U64 0, U64 0, I64 0, .slice none 0 0, .slice none 0 0, U64 0] ++ cu8 (zr8 16), 29, (0, 0)⟩, ⟨nb2, [U64 (vQ z0 0 8), U64 (vQ z0 8 8), I64 (((vQ z0 16 1).toNat:Int)), Slc gb 0 m cp, .slice none 0 0, U64 0] ++ cu8 (zr8 16), 29, (0, 0)⟩, ⟨gb, cu64 (ixQ z0 18 m) ++ sp, 22, (0, 0)⟩]
                refine EE (ι := (Unit) ⊕ (Nat × List SealR × Nat × List Value × Nat × Option Addr × List UInt8 × Nat)) (fun x => match x with | .inl _ => [(0, Ptr rb 0), (2, Ptr nb1 0), (3, Ptr nb2 0), (51, I64 m), (52, I64 0)] | .inr ⟨j, rr, gs, sp2, cp2, aa2, zz2, cc2⟩ => [(0, Ptr rb 0), (2, Ptr nb1 0), (3, Ptr nb2 0), (51, I64 m), (52, I64 j)]) (fun x => match x with | .inl _ => [⟨rb, [errV 50 (eQ z0 aq), .slice aa zz.length cc], 204, (0, 0)⟩, ⟨nb1, [U64 0, U64 0, I64 0, .slice none 0 0, .slice none 0 0, U64 0] ++ cu8 (zr8 16), 29, (0, 0)⟩, ⟨nb2, [U64 (vQ z0 0 8), U64 (vQ z0 8 8), I64 (((vQ z0 16 1).toNat:Int)), Slc gb 0 m cp, .slice none 0 0, U64 0] ++ cu8 (zr8 16), 29, (0, 0)⟩, ⟨gb, cu64 (ixQ z0 18 m) ++ sp, 22, (0, 0)⟩] | .inr ⟨j, rr, gs, sp2, cp2, aa2, zz2, cc2⟩ => [⟨rb, [errV 50 (eQ z0 (aq + 56*j)), .slice aa2 zz2.length cc2], 204, (0, 0)⟩, ⟨nb1, [U64 0, U64 0, I64 0, .slice none 0 0, .slice none 0 0, U64 0] ++ cu8 (zr8 16), 29, (0, 0)⟩, ⟨nb2, [U64 (vQ z0 0 8), U64 (vQ z0 8 8), I64 (((vQ z0 16 1).toNat:Int)), Slc gb 0 m cp, Slc gs 0 j cp2, U64 0] ++ cu8 (zr8 16), 29, (0, 0)⟩, ⟨gb, cu64 (ixQ z0 18 m) ++ sp, 22, (0, 0)⟩, ⟨gs, (rr).flatMap sealC ++ sp2, 161, (0, 0)⟩]) (fun x => match x with | .inl _ => True | .inr ⟨j, rr, gs, sp2, cp2, aa2, zz2, cc2⟩ => 0 < j ∧ j ≤ m ∧ rr = seQ z0 aq j ∧ rr.length = j ∧ sp2.length = cp2 * 49 - j * 49 ∧ j ≤ cp2 ∧ cp2 ≤ maxLen ∧ Lq z0 zz2 (aq + 56*j) ∧ (∀ w M, RdB w M ao z → RdB w M aa2 zz2) ∧ zz2.length ≤ cc2 ∧ cc2 ≤ maxLen ∧ zz2.length ≤ n) (fun x => match x with | .inl _ => m + 2 | .inr ⟨j, rr, gs, sp2, cp2, aa2, zz2, cc2⟩ => m + 1 - j) (.inl ()) trivial (Sub.all rfl) rfl ?_
                rintro (_ | ⟨j, rr, gs, sp2, cp2, aa2, zz2, cc2⟩) hx
                ·
                  obtain _ := hx
                  show JC _ _ _ [(0, Ptr rb 0), (2, Ptr nb1 0), (3, Ptr nb2 0), (51, I64 m), (52, I64 0)] [⟨rb, [errV 50 (eQ z0 aq), .slice aa zz.length cc], 204, (0, 0)⟩, ⟨nb1, [U64 0, U64 0, I64 0, .slice none 0 0, .slice none 0 0, U64 0] ++ cu8 (zr8 16), 29, (0, 0)⟩, ⟨nb2, [U64 (vQ z0 0 8), U64 (vQ z0 8 8), I64 (((vQ z0 16 1).toNat:Int)), Slc gb 0 m cp, .slice none 0 0, U64 0] ++ cu8 (zr8 16), 29, (0, 0)⟩, ⟨gb, cu64 (ixQ z0 18 m) ++ sp, 22, (0, 0)⟩]
                  refine AI (AD (AA (.bool (decide ((0:Int) < ((m:Int))))) (AR rfl rfl fun _ => CS _ _) rfl ?_))
                  refine AN (AE (AI (DJ _ rfl (decide_eq_true (by omega)) ?_)))
                  refine BT (AE (AI (BY (AI (AD (AA (Ptr nb2 2) (AB 2 26 4 AO rfl A8 rfl rfl) rfl ?_))))))
                  refine AA (Ptr nb2 2) (AB 0 3 1 AF rfl BA rfl rfl) rfl ?_
                  refine AA (I64 (((vQ z0 16 1).toNat:Int))) (AK rfl (AV BF (AS 2 rfl (A4 (AJ (AJ (Seg.head))))))) rfl ?_
                  refine AA (.bool (decide ((((vQ z0 16 1).toNat:Int)) = (1:Int)))) (AR rfl rfl fun _ => C9 _ _) rfl ?_
                  refine AN (AE (DJ _ rfl (decide_eq_true (by rw [hk1]; rfl)) ?_))
                  refine C1 90 5 [(0, Ptr nb2 2), (1, Ptr nb2 4), (2, .slice none 0 0), (3, Ptr rb 0)] BV rfl (by decide +kernel) ?_
                  have hz8 : (zz).length = zz.length := rfl
                  refine CR ⟨[], [0, 1, 2, 3], [], [0, 1, 2, 3], [4]⟩ 4 _ rfl rfl (by decide +kernel) rfl ⟨⟨_, rfl, AC rfl (AB 2 26 4 AO rfl A8 rfl rfl)⟩, ⟨_, rfl, AC rfl (AB 2 24 1 AF rfl BL rfl rfl)⟩, ⟨_, rfl, AC rfl (AK rfl (AV BW (AS 2 rfl (A4 (AJ (AJ (AJ (AJ (Seg.head)))))))))⟩, A2 rfl rfl rfl, trivial⟩ rfl (AZ rfl (DN 120 _ [true, false, false, false] [rb] _ (AY [Ptr rb 0] Tryd.call120 rfl) rfl (fun w1 hw1 => sreadQ_c rb aq aa zz.length cc z0 zz w1 (hw1.ent _ (List.mem_of_getElem? (i := 0) rfl)) rfl (by omega) (by omega) (by omega) (hy6 _ _ (hr.at (M' := [rb]) hw1 (hw1.apart [0] _ rfl))) (haq ▸ hy5)))) ?_
                  rintro v1 L1 ⟨_, ⟨rfl, ao8, zz8, ca8, hq8, ⟨hA8, hb27, hb28, hb29⟩, rfl⟩, rfl⟩
                  refine ⟨[], ?_⟩
                  show DP _ _ _ _ _ _ _ _ [_, _, _, ⟨rb, [errV 50 (eQ z0 (aq + 56)), .slice ao8 zz8.length ca8], 204, (0, 0)⟩]
                  refine CR ⟨[4], [0, 1, 2, 3], [3], [0, 1, 2], [5]⟩ 5 _ rfl rfl (by decide +kernel) rfl ⟨⟨_, rfl, AC rfl (AB 2 26 4 AO rfl A8 rfl rfl)⟩, ⟨_, rfl, AC rfl (AB 2 24 1 AF rfl BL rfl rfl)⟩, ⟨_, rfl, AC rfl (AK rfl (AV BW (AS 1 rfl (A4 (AJ (AJ (AJ (AJ (Seg.head)))))))))⟩, trivial⟩ rfl (AZ rfl (B0 161 49 _ [(0, .agg ([U64 (vQ z0 aq 8)] ++ cu8 (bQ z0 (aq + 8) 32) ++ cu8 (bQ z0 (aq + 40) 16)).toArray)] ([U64 (vQ z0 aq 8)] ++ cu8 (bQ z0 (aq + 8) 32) ++ cu8 (bQ z0 (aq + 40) 16)) CC CE Tryd.zeroValue161 rfl rfl rfl (fill_one (Z := [U64 0] ++ cu8 (zr8 32) ++ cu8 (zr8 16)) (by simp [(B5 _ _ _), (B5 _ _ _)]) (by kernel_rfl) (by simp [zr8])))) ?_
                  rintro v1 L1 ⟨nb7, hnb7, rfl, rfl⟩
                  refine ⟨[], ?_⟩
                  show DP _ _ _ _ _ _ _ _ [_, _, _, _, ⟨nb7, [U64 (vQ z0 aq 8)] ++ cu8 (bQ z0 (aq + 8) 32) ++ cu8 (bQ z0 (aq + 40) 16), 161, (0, 0)⟩]
                  refine CR ⟨[4, 5], [0, 1, 2, 3], [3], [0, 1, 2], [6]⟩ 6 _ rfl rfl (by decide +kernel) rfl ⟨⟨_, rfl, AC rfl (AB 2 26 4 AO rfl A8 rfl rfl)⟩, ⟨_, rfl, AC rfl (AB 2 24 1 AF rfl BL rfl rfl)⟩, ⟨_, rfl, AC rfl (AK rfl (AV BW (AS 1 rfl (A4 (AJ (AJ (AJ (AJ (Seg.head)))))))))⟩, trivial⟩ rfl (AZ rfl (Step_appS 24 161 56 (.agg ([U64 0] ++ cu8 (zr8 32) ++ cu8 (zr8 16)).toArray) [false, false, false, false, false] (.slice none 0 0) 0 ([] : List SealR) (SealR.mk (vQ z0 aq 8) (bQ z0 (aq + 8) 32) (bQ z0 (aq + 40) 16) (B5 _ _ _) (B5 _ _ _)) (some ⟨nb7, 0, none⟩) 1 1 CC (by kernel_rfl) (by kernel_rfl) rfl (.inl ⟨rfl, rfl, rfl, rfl⟩) rfl (SrcAt.mem (AS 4 rfl (AL _))) (by omega) (by unfold maxLen; omega) (by omega))) ?_
                  rintro v1 L1 ⟨nb8, sp3, cp3, hg3, rfl, rfl, ha9, ha10, ha11, ha12⟩
                  refine ⟨[(7, Ptr nb2 2), (8, Ptr nb2 4)], ?_⟩
                  show DP _ _ _ _ _ _ _ _ [_, _, _, _, _, ⟨nb8, (([] : List SealR) ++ [(SealR.mk (vQ z0 aq 8) (bQ z0 (aq + 8) 32) (bQ z0 (aq + 40) 16) (B5 _ _ _) (B5 _ _ _))]).flatMap sealC ++ sp3, 161, (0, 0)⟩]
                  refine CQ ⟨[4, 5, 6], [0, 1, 2, 3, 7, 8], [0, 1, 2, 3], [7, 8], [9]⟩ 9 rfl rfl (by decide +kernel) rfl ⟨⟨_, rfl, AC rfl (AB 2 26 4 AO rfl A8 rfl rfl)⟩, ⟨_, rfl, AC rfl (AB 2 24 1 AF rfl BL rfl rfl)⟩, trivial⟩ rfl (AZ rfl (DT 1 nb2 4 1 ([U64 (vQ z0 0 8), U64 (vQ z0 8 8), I64 (((vQ z0 16 1).toNat:Int)), Slc gb 0 m cp, .slice none 0 0, U64 0] ++ cu8 (zr8 16)) 29 (Slc nb8 0 1 cp3) ([Slc nb8 0 1 cp3]) ([U64 (vQ z0 0 8), U64 (vQ z0 8 8), I64 (((vQ z0 16 1).toNat:Int)), Slc gb 0 m cp, Slc nb8 0 1 cp3, U64 0] ++ cu8 (zr8 16)) rfl rfl rfl rfl BL rfl (by simp [Value.oneCell']) (by simp [(AP 16)]) (lay_left (p := [U64 (vQ z0 0 8), U64 (vQ z0 8 8), I64 (((vQ z0 16 1).toNat:Int)), Slc gb 0 m cp, .slice none 0 0, U64 0]) (vs := [Slc nb8 0 1 cp3]) (o := 4) (by simp []) (rfl)))) ?_
                  show DP _ _ _ _ _ _ _ _ [_, ⟨nb2, [U64 (vQ z0 0 8), U64 (vQ z0 8 8), I64 (((vQ z0 16 1).toNat:Int)), Slc gb 0 m cp, Slc nb8 0 1 cp3, U64 0] ++ cu8 (zr8 16), 29, (0, 0)⟩, _, _, _, _]
                  refine C4 ⟨[4, 5, 6, 9], [0, 1, 2, 3, 7, 8], [0, 1, 2, 3, 7, 8], [], []⟩ rfl rfl (by decide +kernel) rfl trivial ?_
                  refine CI (F' := [(58, Ptr nb2 2), (59, Ptr nb2 4), (60, .slice none 0 0), (61, Ptr rb 0), (62, .agg ([U64 (vQ z0 aq 8)] ++ cu8 (bQ z0 (aq + 8) 32) ++ cu8 (bQ z0 (aq + 40) 16)).toArray), (63, Slc nb7 0 1 1), (64, Slc nb8 0 1 cp3), (65, Ptr nb2 2), (66, Ptr nb2 4), (0, Ptr rb 0), (2, Ptr nb1 0), (3, Ptr nb2 0), (51, I64 m), (52, I64 0), (53, .bool (decide ((0:Int) < ((m:Int))))), (54, Ptr nb2 2), (55, Ptr nb2 2), (56, I64 (((vQ z0 16 1).toNat:Int))), (57, .bool (decide ((((vQ z0 16 1).toNat:Int)) = (1:Int))))]) (by kernel_rfl) ?_
                  refine BO (AE (AD (AA (I64 1) (AR rfl rfl fun _ => DF _ _ (1:Int) (by omega) (by omega)) rfl ?_)))
                  refine AA _ (AH rfl) rfl ?_
                  refine AN (DH (CH [true, true, true, true, false, true] ?_))
                  show K _ _ [_, _, _, _, _] _
                  refine E9 [3, 0, 1, 2, 4] (by decide) ?_
                  show K _ _ [_, _, _, _, _] _
                  refine EP (.inr (1, ([] : List SealR) ++ [(SealR.mk (vQ z0 aq 8) (bQ z0 (aq + 8) 32) (bQ z0 (aq + 40) 16) (B5 _ _ _) (B5 _ _ _))], nb8, sp3, cp3, ao8, zz8, ca8)) ⟨by omega, by omega, by rw [seQ_one]; exact congrArg (fun x => [x]) (sQ_eq _ _ _ _), (ha9).trans (by first | rfl | simp +arith), (ha10).trans (by first | rfl | omega), by omega, by omega, (fun h8 => (hq8 (by omega)).trans (by congr 1 <;> omega)), (fun w M h => hA8 w M (hy6 w M h)), by omega, by omega, by omega⟩ (by dsimp only; omega) (Sub.all rfl) rfl
                ·
                  obtain ⟨hj1, hj2, hj3, hj4, hj5, hj6, hj7, hj8, hj9, hj10, hj11, hj12⟩ := hx
                  show JC _ _ _ [(0, Ptr rb 0), (2, Ptr nb1 0), (3, Ptr nb2 0), (51, I64 m), (52, I64 j)] [⟨rb, [errV 50 (eQ z0 (aq + 56*j)), .slice aa2 zz2.length cc2], 204, (0, 0)⟩, ⟨nb1, [U64 0, U64 0, I64 0, .slice none 0 0, .slice none 0 0, U64 0] ++ cu8 (zr8 16), 29, (0, 0)⟩, ⟨nb2, [U64 (vQ z0 0 8), U64 (vQ z0 8 8), I64 (((vQ z0 16 1).toNat:Int)), Slc gb 0 m cp, Slc gs 0 j cp2, U64 0] ++ cu8 (zr8 16), 29, (0, 0)⟩, ⟨gb, cu64 (ixQ z0 18 m) ++ sp, 22, (0, 0)⟩, ⟨gs, (rr).flatMap sealC ++ sp2, 161, (0, 0)⟩]
                  refine AI (AD (AA (.bool (decide (((j:Int)) < ((m:Int))))) (AR rfl rfl fun _ => CS _ _) rfl ?_))
                  refine AN (AE (AI (CY (decide (((j:Int)) < ((m:Int)))) rfl (fun hb30 => ?_) (fun hb30 => ?_))))
                  ·
                    have hp30 : ((j:Int)) < ((m:Int)) := of_decide_eq_true hb30
                    refine BT (AE (AI (BY (AI (AD (AA (Ptr nb2 2) (AB 2 26 4 AO rfl A8 rfl rfl) rfl ?_))))))
                    refine AA (Ptr nb2 2) (AB 0 3 1 AF rfl BA rfl rfl) rfl ?_
                    refine AA (I64 (((vQ z0 16 1).toNat:Int))) (AK rfl (AV BF (AS 2 rfl (A4 (AJ (AJ (Seg.head))))))) rfl ?_
                    refine AA (.bool (decide ((((vQ z0 16 1).toNat:Int)) = (1:Int)))) (AR rfl rfl fun _ => C9 _ _) rfl ?_
                    refine AN (AE (DJ _ rfl (decide_eq_true (by rw [hk1]; rfl)) ?_))
                    refine C1 90 5 [(0, Ptr nb2 2), (1, Ptr nb2 4), (2, Slc gs 0 j cp2), (3, Ptr rb 0)] BV rfl (by decide +kernel) ?_
                    have hz9 : (zz2).length = zz2.length := rfl
                    refine CR ⟨[], [0, 1, 2, 3], [], [0, 1, 2, 3], [4]⟩ 4 _ rfl rfl (by decide +kernel) rfl ⟨⟨_, rfl, AC rfl (AB 2 26 4 AO rfl A8 rfl rfl)⟩, ⟨_, rfl, AC rfl (AB 2 24 1 AF rfl BL rfl rfl)⟩, ⟨_, rfl, AC rfl (AK rfl (AV BW (AS 2 rfl (A4 (AJ (AJ (AJ (AJ (Seg.head)))))))))⟩, A2 rfl rfl rfl, trivial⟩ rfl (AZ rfl (DN 120 _ [true, false, false, false, false] [rb] _ (AY [Ptr rb 0] Tryd.call120 rfl) rfl (fun w1 hw1 => sreadQ_c rb (aq + 56*j) aa2 zz2.length cc2 z0 zz2 w1 (hw1.ent _ (List.mem_of_getElem? (i := 0) rfl)) rfl (by omega) (by omega) (by omega) (hj9 _ _ (hr.at (M' := [rb]) hw1 (hw1.apart [0] _ rfl))) hj8))) ?_
                    rintro v1 L1 ⟨_, ⟨rfl, ao9, zz9, ca9, hq9, ⟨hA9, hb31, hb32, hb33⟩, rfl⟩, rfl⟩
                    refine ⟨[], ?_⟩
                    show DP _ _ _ _ _ _ _ _ [_, _, _, _, ⟨rb, [errV 50 (eQ z0 (aq + 56*j + 56)), .slice ao9 zz9.length ca9], 204, (0, 0)⟩]
                    refine CR ⟨[4], [0, 1, 2, 3], [3], [0, 1, 2], [5]⟩ 5 _ rfl rfl (by decide +kernel) rfl ⟨⟨_, rfl, AC rfl (AB 2 26 4 AO rfl A8 rfl rfl)⟩, ⟨_, rfl, AC rfl (AB 2 24 1 AF rfl BL rfl rfl)⟩, ⟨_, rfl, AC rfl (AK rfl (AV BW (AS 1 rfl (A4 (AJ (AJ (AJ (AJ (Seg.head)))))))))⟩, trivial⟩ rfl (AZ rfl (B0 161 49 _ [(0, .agg ([U64 (vQ z0 (aq + 56*j) 8)] ++ cu8 (bQ z0 (aq + 56*j + 8) 32) ++ cu8 (bQ z0 (aq + 56*j + 40) 16)).toArray)] ([U64 (vQ z0 (aq + 56*j) 8)] ++ cu8 (bQ z0 (aq + 56*j + 8) 32) ++ cu8 (bQ z0 (aq + 56*j + 40) 16)) CC CE Tryd.zeroValue161 rfl rfl rfl (fill_one (Z := [U64 0] ++ cu8 (zr8 32) ++ cu8 (zr8 16)) (by simp [(B5 _ _ _), (B5 _ _ _)]) (by kernel_rfl) (by simp [zr8])))) ?_
                    rintro v1 L1 ⟨nb9, hnb9, rfl, rfl⟩
                    refine ⟨[], ?_⟩
                    show DP _ _ _ _ _ _ _ _ [_, _, _, _, _, ⟨nb9, [U64 (vQ z0 (aq + 56*j) 8)] ++ cu8 (bQ z0 (aq + 56*j + 8) 32) ++ cu8 (bQ z0 (aq + 56*j + 40) 16), 161, (0, 0)⟩]
                    refine CR ⟨[4, 5], [0, 1, 2, 3], [3], [0, 1, 2], [6]⟩ 6 _ rfl rfl (by decide +kernel) rfl ⟨⟨_, rfl, AC rfl (AB 2 26 4 AO rfl A8 rfl rfl)⟩, ⟨_, rfl, AC rfl (AB 2 24 1 AF rfl BL rfl rfl)⟩, ⟨_, rfl, AC rfl (AK rfl (AV BW (AS 1 rfl (A4 (AJ (AJ (AJ (AJ (Seg.head)))))))))⟩, trivial⟩ rfl (AZ rfl (Step_appS 24 161 56 (.agg ([U64 0] ++ cu8 (zr8 32) ++ cu8 (zr8 16)).toArray) [false, false, false, true, false, false] (Slc gs 0 j cp2) j rr (SealR.mk (vQ z0 (aq + 56*j) 8) (bQ z0 (aq + 56*j + 8) 32) (bQ z0 (aq + 56*j + 40) 16) (B5 _ _ _) (B5 _ _ _)) (some ⟨nb9, 0, none⟩) 1 (j + 1) CC (by kernel_rfl) (by kernel_rfl) rfl (.inr ⟨gs, sp2, cp2, rfl, rfl, (by have h : (rr).length = j := hj4; omega), (by first | exact hj5 | omega), (by omega), (by omega)⟩) rfl (SrcAt.mem (AS 5 rfl (AL _))) (by omega) (by unfold maxLen; omega) (by omega))) ?_
                    rintro v1 L1 ⟨nb10, sp4, cp4, hg4, rfl, rfl, ha13, ha14, ha15, ha16⟩
                    refine ⟨[(7, Ptr nb2 2), (8, Ptr nb2 4)], ?_⟩
                    show DP _ _ _ _ _ _ _ _ [_, _, _, _, _, ⟨nb10, (rr ++ [(SealR.mk (vQ z0 (aq + 56*j) 8) (bQ z0 (aq + 56*j + 8) 32) (bQ z0 (aq + 56*j + 40) 16) (B5 _ _ _) (B5 _ _ _))]).flatMap sealC ++ sp4, 161, (0, 0)⟩]
                    refine CQ ⟨[4, 5, 6], [0, 1, 2, 3, 7, 8], [0, 1, 2, 3], [7, 8], [9]⟩ 9 rfl rfl (by decide +kernel) rfl ⟨⟨_, rfl, AC rfl (AB 2 26 4 AO rfl A8 rfl rfl)⟩, ⟨_, rfl, AC rfl (AB 2 24 1 AF rfl BL rfl rfl)⟩, trivial⟩ rfl (AZ rfl (DT 1 nb2 4 1 ([U64 (vQ z0 0 8), U64 (vQ z0 8 8), I64 (((vQ z0 16 1).toNat:Int)), Slc gb 0 m cp, Slc gs 0 j cp2, U64 0] ++ cu8 (zr8 16)) 29 (Slc nb10 0 (j + 1) cp4) ([Slc nb10 0 (j + 1) cp4]) ([U64 (vQ z0 0 8), U64 (vQ z0 8 8), I64 (((vQ z0 16 1).toNat:Int)), Slc gb 0 m cp, Slc nb10 0 (j + 1) cp4, U64 0] ++ cu8 (zr8 16)) rfl rfl rfl rfl BL rfl (by simp [Value.oneCell']) (by simp [(AP 16)]) (lay_left (p := [U64 (vQ z0 0 8), U64 (vQ z0 8 8), I64 (((vQ z0 16 1).toNat:Int)), Slc gb 0 m cp, Slc gs 0 j cp2, U64 0]) (vs := [Slc nb10 0 (j + 1) cp4]) (o := 4) (by simp []) (rfl)))) ?_
                    show DP _ _ _ _ _ _ _ _ [_, ⟨nb2, [U64 (vQ z0 0 8), U64 (vQ z0 8 8), I64 (((vQ z0 16 1).toNat:Int)), Slc gb 0 m cp, Slc nb10 0 (j + 1) cp4, U64 0] ++ cu8 (zr8 16), 29, (0, 0)⟩, _, _, _, _]
                    refine C4 ⟨[4, 5, 6, 9], [0, 1, 2, 3, 7, 8], [0, 1, 2, 3, 7, 8], [], []⟩ rfl rfl (by decide +kernel) rfl trivial ?_
                    refine CI (F' := [(58, Ptr nb2 2), (59, Ptr nb2 4), (60, Slc gs 0 j cp2), (61, Ptr rb 0), (62, .agg ([U64 (vQ z0 (aq + 56*j) 8)] ++ cu8 (bQ z0 (aq + 56*j + 8) 32) ++ cu8 (bQ z0 (aq + 56*j + 40) 16)).toArray), (63, Slc nb9 0 1 1), (64, Slc nb10 0 (j + 1) cp4), (65, Ptr nb2 2), (66, Ptr nb2 4), (0, Ptr rb 0), (2, Ptr nb1 0), (3, Ptr nb2 0), (51, I64 m), (52, I64 j), (53, .bool (decide (((j:Int)) < ((m:Int))))), (54, Ptr nb2 2), (55, Ptr nb2 2), (56, I64 (((vQ z0 16 1).toNat:Int))), (57, .bool (decide ((((vQ z0 16 1).toNat:Int)) = (1:Int))))]) (by kernel_rfl) ?_
                    refine BO (AE (AD (AA (I64 ((j:Int) + 1)) (AR rfl rfl fun _ => DF _ _ ((j:Int) + 1) (by omega) (by omega)) rfl ?_)))
                    refine AA _ (AH rfl) rfl ?_
                    refine AN (DH (CH [true, true, true, true, false, true] ?_))
                    show K _ _ [_, _, _, _, _] _
                    refine E9 [3, 0, 1, 2, 4] (by decide) ?_
                    show K _ _ [_, _, _, _, _] _
                    refine EP (.inr (j + 1, rr ++ [(SealR.mk (vQ z0 (aq + 56*j) 8) (bQ z0 (aq + 56*j + 8) 32) (bQ z0 (aq + 56*j + 40) 16) (B5 _ _ _) (B5 _ _ _))], nb10, sp4, cp4, ao9, zz9, ca9)) ⟨by omega, by omega, by rw [seQ_succ, ← hj3]; exact congrArg (fun x => rr ++ [x]) (sQ_eq _ _ _ _), (ha13).trans (by first | rfl | simp +arith), (ha14).trans (by first | rfl | omega), by omega, by omega, (fun h8 => (hq9 (by omega)).trans (by congr 1 <;> omega)), (fun w M h => hA9 w M (hj9 w M h)), by omega, by omega, by omega⟩ (by dsimp only; omega) (Sub.all rfl) rfl
                  ·
                    have hp30 : ¬ (((j:Int)) < ((m:Int))) := of_decide_eq_false hb30
                    refine D8 (BB (BB (CV (BO ?_))))
                    have ei : m = j := by omega
                    subst ei
                    subst hj3
                    subst haq
                    refine E6 (.inr (.inr (m, 4*m + 18 + 56*m, gs, sp2, cp2, gb, sp, cp, aa2, zz2, cc2))) ⟨hk1, by omega, hm2, by omega, hj5, hj6, hj7, hy2, hy3, hy4, hj8, hj9, hj10, hj11, hj12⟩ (Sub.all rfl) rfl
              ·
                refine AD (AA (Ptr nb2 2) (AB 2 26 4 AO rfl A8 rfl rfl) rfl ?_)
                refine AA (Ptr nb2 3) (AB 1 23 1 AF rfl CB rfl rfl) rfl ?_
                refine AA (Slc gb 0 m cp) (AK rfl (AV CP (AS 2 rfl (A4 (AJ (AJ (AJ (Seg.head)))))))) rfl ?_
                refine AA (I64 m) (EL CA rfl) rfl ?_
                refine AA _ (AH rfl) rfl ?_
                refine AN (AE (BY (EE (ι := Nat) (fun j => [(0, Ptr rb 0), (2, Ptr nb1 0), (3, Ptr nb2 0), (51, I64 m), (52, I64 j)]) (fun j => [⟨rb, [errV 50 (eQ z0 (4*m + 18)), .slice aa zz.length cc], 204, (0, 0)⟩, ⟨nb1, [U64 0, U64 0, I64 0, .slice none 0 0, .slice none 0 0, U64 0] ++ cu8 (zr8 16), 29, (0, 0)⟩, ⟨nb2, [U64 (vQ z0 0 8), U64 (vQ z0 8 8), I64 (((vQ z0 16 1).toNat:Int)), Slc gb 0 m cp, .slice none 0 0, U64 0] ++ cu8 (zr8 16), 29, (0, 0)⟩, ⟨gb, cu64 (ixQ z0 18 m) ++ sp, 22, (0, 0)⟩]) (fun j => j ≤ m) (fun j => m - j) 0 (by omega) (Sub.all rfl) rfl ?_)))
                rintro j hj1
                show JC _ _ _ [(0, Ptr rb 0), (2, Ptr nb1 0), (3, Ptr nb2 0), (51, I64 m), (52, I64 j)] [⟨rb, [errV 50 (eQ z0 (4*m + 18)), .slice aa zz.length cc], 204, (0, 0)⟩, ⟨nb1, [U64 0, U64 0, I64 0, .slice none 0 0, .slice none 0 0, U64 0] ++ cu8 (zr8 16), 29, (0, 0)⟩, ⟨nb2, [U64 (vQ z0 0 8), U64 (vQ z0 8 8), I64 (((vQ z0 16 1).toNat:Int)), Slc gb 0 m cp, .slice none 0 0, U64 0] ++ cu8 (zr8 16), 29, (0, 0)⟩, ⟨gb, cu64 (ixQ z0 18 m) ++ sp, 22, (0, 0)⟩]
                refine AI (AD (AA (.bool (decide (((j:Int)) < ((m:Int))))) (AR rfl rfl fun _ => CS _ _) rfl ?_))
                refine AN (AE (AI (CY (decide (((j:Int)) < ((m:Int)))) rfl (fun hb34 => ?_) (fun hb34 => ?_))))
                ·
                  have hp34 : ((j:Int)) < ((m:Int)) := of_decide_eq_true hb34
                  refine BT (AE (AI (BY (AI (AD (AA (Ptr nb2 2) (AB 2 26 4 AO rfl A8 rfl rfl) rfl ?_))))))
                  refine AA (Ptr nb2 2) (AB 0 3 1 AF rfl BA rfl rfl) rfl ?_
                  refine AA (I64 (((vQ z0 16 1).toNat:Int))) (AK rfl (AV BF (AS 2 rfl (A4 (AJ (AJ (Seg.head))))))) rfl ?_
                  refine AA (.bool (decide ((((vQ z0 16 1).toNat:Int)) = (1:Int)))) (AR rfl rfl fun _ => C9 _ _) rfl ?_
                  refine AN (AE (CK _ rfl (decide_eq_false (fun h => hk1 (kdn (k := 1) (by decide) h))) ?_))
                  refine BT (BO (AE (AD (AA (I64 ((j:Int) + 1)) (AR rfl rfl fun _ => DF _ _ ((j:Int) + 1) (by omega) (by omega)) rfl ?_))))
                  refine AA _ (AH rfl) rfl ?_
                  refine AN (DH (EP (j + 1) (by omega) (by omega) (Sub.all rfl) rfl))
                ·
                  have hp34 : ¬ (((j:Int)) < ((m:Int))) := of_decide_eq_false hb34
                  refine D8 (BB (BB (CV (BO (E6 (.inr (.inl (m, 4*m + 18, gb, sp, cp, aa, zz, cc))) ⟨hk12.resolve_left hk1, rfl, hm2, by omega, hy2, hy3, hy4, hy5, hy6, hy7, hy8, hy9⟩ (Sub.all rfl) rfl)))))
        ·
          refine BT (BO (E9 [2, 0, 1] (by decide) ?_))
          show JQ _ _ _ _ [_, _, _]
          refine E6 (.inl (0, 17, ao3, zz3, ca3)) ⟨.inr (bad0 hb10 hb15), hq3, (fun w M h => hA3 w M ((fun w M h => hA2 w M ((fun w M h => hA1 w M ((fun _ _ h => h) w M h)) w M h)) w M h)), by omega, by omega, by omega⟩ (Sub.all rfl) rfl
  ·
    rintro (⟨bl, pp, aa, zz, cc⟩ | ⟨m, pp, gb, sp, cp, aa, zz, cc⟩ | ⟨m, pp, gs, sp2, cp2, gb, sp, cp, aa, zz, cc⟩) hx
    ·
      obtain ⟨hu1, hu5, hu6, hu10, hu11, hu12⟩ := hx
      show JQ _ _ _ [(0, Ptr rb 0), (2, Ptr nb1 0), (3, Ptr nb2 0)] [⟨rb, [errV 50 (eQ z0 pp), .slice aa zz.length cc], 204, (0, 0)⟩, ⟨nb1, [U64 0, U64 0, I64 0, .slice none 0 0, .slice none 0 0, U64 0] ++ cu8 (zr8 16), 29, (0, 0)⟩, ⟨nb2, [U64 (vQ z0 0 8), U64 (vQ z0 8 8), I64 (((vQ z0 16 1).toNat:Int)), .slice none 0 0, .slice none 0 0, U64 bl] ++ cu8 (zr8 16), 29, (0, 0)⟩]
      refine AE (AI (C1 90 3 [(0, Ptr nb2 6), (1, Slc nb2 6 16 16), (2, Ptr rb 0)] BV rfl (by decide +kernel) ?_))
      have hz10 : (zz).length = zz.length := rfl
      refine CR ⟨[], [0, 1, 2], [], [0, 1, 2], [3]⟩ 3 _ rfl rfl (by decide +kernel) rfl ⟨⟨_, rfl, AC rfl (AB 6 27 16 AO rfl BE rfl rfl)⟩, ⟨_, rfl, AC rfl (B3 16 5 1 0 16 6 16 BJ AW rfl rfl rfl (by omega) (by omega) (by omega) (by omega) (by omega) 16 (by omega))⟩, A2 rfl rfl rfl, trivial⟩ rfl (AZ rfl (DN 127 _ [true, false, false] [rb] _ (AY [Ptr rb 0, I64 16] Tryd.call127 rfl) rfl (fun w1 hw1 => rawA_w rb pp 16 aa zz.length cc z0 zz w1 (hw1.ent _ (List.mem_of_getElem? (i := 0) rfl)) rfl (by omega) (by omega) (by omega) (hu6 _ _ (hr.at (M' := [rb]) hw1 (hw1.apart [0] _ rfl))) hu5 (by omega)))) ?_
      rintro v1 L1 ⟨_, ⟨ao10, zz10, ca10, hq10, ⟨hA10, hb35, hb36, hb37⟩, (⟨hg5, nb11, sp5, cp5, rfl, rfl, hc1, hc2, hc3⟩ | ⟨hg5, rfl, rfl⟩)⟩, rfl⟩
      ·
        refine ⟨[], ?_⟩
        show DP _ _ _ _ _ _ _ _ [_, _, ⟨rb, [errV 50 (eQ z0 (pp + 16)), .slice ao10 zz10.length ca10], 204, (0, 0)⟩, ⟨nb11, cu8 (bQ z0 pp 16) ++ sp5, 5, (0, 0)⟩]
        refine CQ ⟨[3], [0, 1, 2], [2], [0, 1], [4]⟩ 4 rfl rfl (by decide +kernel) rfl ⟨⟨_, rfl, AC rfl (AB 6 27 16 AO rfl BE rfl rfl)⟩, ⟨_, rfl, AC rfl (B3 16 5 1 0 16 6 16 BJ AW rfl rfl rfl (by omega) (by omega) (by omega) (by omega) (by omega) 16 (by omega))⟩, trivial⟩ rfl (AZ rfl (EW 43 43 5 1 nb2 6 16 16 ([U64 (vQ z0 0 8), U64 (vQ z0 8 8), I64 (((vQ z0 16 1).toNat:Int)), .slice none 0 0, .slice none 0 0, U64 bl] ++ cu8 (zr8 16)) 29 (some ⟨nb11, 0, none⟩) 16 cp5 16 (cu8 (bQ z0 pp 16)) ([U64 (vQ z0 0 8), U64 (vQ z0 8 8), I64 (((vQ z0 16 1).toNat:Int)), .slice none 0 0, .slice none 0 0, U64 bl] ++ cu8 (bQ z0 pp 16)) AM DZ rfl rfl rfl rfl (by simp [(show (bQ z0 pp 16).length = 16 from (B5 _ _ _))]; try omega) (SrcAt.mem (AS 3 rfl (A4 (AL _)))) (by simp [(AP 16)]; try omega) (by first | exact CD | exact D3 | exact D1 | (simp [cu8, cu32, cu64, Value.oneCell']; done)) (GD 6 0 rfl rfl (BC (by simp [(AP 16), (show (bQ z0 pp 16).length = 16 from (B5 _ _ _))]))))) ?_
        show DP _ _ _ _ _ _ _ _ [_, ⟨nb2, [U64 (vQ z0 0 8), U64 (vQ z0 8 8), I64 (((vQ z0 16 1).toNat:Int)), .slice none 0 0, .slice none 0 0, U64 bl] ++ cu8 (bQ z0 pp 16), 29, (0, 0)⟩, _, _]
        refine C4 ⟨[3, 4], [0, 1, 2], [0, 1, 2], [], []⟩ rfl rfl (by decide +kernel) rfl trivial ?_
        refine CI (F' := [(0, Ptr rb 0), (2, Ptr nb1 0), (3, Ptr nb2 0)]) (by kernel_rfl) ?_
        refine AE (AI (AI (AD (AA (.agg ([U64 (vQ z0 0 8), U64 (vQ z0 8 8), I64 (((vQ z0 16 1).toNat:Int)), .slice none 0 0, .slice none 0 0, U64 bl] ++ cu8 (bQ z0 pp 16)).toArray) (AK rfl (BH A9 AT (by simp [(show (bQ z0 pp 16).length = 16 from (B5 _ _ _))]) (AS 1 rfl (AL _)))) rfl ?_))))
        refine A7 (A3 128 [.agg ([U64 (vQ z0 0 8), U64 (vQ z0 8 8), I64 (((vQ z0 16 1).toNat:Int)), .slice none 0 0, .slice none 0 0, U64 bl] ++ cu8 (bQ z0 pp 16)).toArray] (errV 50 (mayN (vQ z0 0 8) (vQ z0 8 8) (((vQ z0 16 1).toNat:Int)) ([] : List UInt64) ([] : List SealR) bl)) (AY _ Tryd.call128 rfl) (fun w1 hw1 => may13_c (vQ z0 0 8) (vQ z0 8 8) (((vQ z0 16 1).toNat:Int)) none 0 0 ([] : List UInt64) none 0 0 ([] : List SealR) bl (bQ z0 pp 16) w1 rfl (by omega) (by omega) (by omega) RdV.nil rfl (by omega) (by omega) (by omega) RdV.nil (show (bQ z0 pp 16).length = 16 from (B5 _ _ _)))) rfl ?_
        show JL _ _ _ _ ((74, errV 50 (mayN (vQ z0 0 8) (vQ z0 8 8) (((vQ z0 16 1).toNat:Int)) ([] : List UInt64) ([] : List SealR) bl)) :: _) [_, _, _, _]
        refine AA _ (AG rfl) rfl ?_
        refine AN (AE (AI (AD (AA _ (AH rfl) rfl ?_))))
        refine AA (.bool (!(decide (mayN (vQ z0 0 8) (vQ z0 8 8) (((vQ z0 16 1).toNat:Int)) ([] : List UInt64) ([] : List SealR) bl = 0)))) (C2 _ _ _ rfl rfl (fun _ => CJ ..) fun _ => EF A6 _ _) rfl ?_
        refine AN (AE (CY (!(decide (mayN (vQ z0 0 8) (vQ z0 8 8) (((vQ z0 16 1).toNat:Int)) ([] : List UInt64) ([] : List SealR) bl = 0))) rfl (fun hb38 => ?_) (fun hb38 => ?_)))
        ·
          have hb39 : (decide (mayN (vQ z0 0 8) (vQ z0 8 8) (((vQ z0 16 1).toNat:Int)) ([] : List UInt64) ([] : List SealR) bl = 0)) = false := by simpa using hb38
          have hp39 : ¬ (mayN (vQ z0 0 8) (vQ z0 8 8) (((vQ z0 16 1).toNat:Int)) ([] : List UInt64) ([] : List SealR) bl = 0) := of_decide_eq_false hb39
          refine AD (AA _ (AH rfl) rfl ?_)
          refine AA (.iface 50 (I64 2)) (FF DA rfl rfl) rfl ?_
          refine A1 (FB 121 [Ptr rb 0, .iface 50 (I64 2)] 2 ⟨rb, [errV 50 (eQ z0 (pp + 16)), .slice ao10 zz10.length ca10], 204, (0, 0)⟩ _ (fun v e' l' => v = .tuple #[] ∧ e' = ⟨rb, [errV 50 (erN (eQ z0 (pp + 16)) 2), .slice ao10 zz10.length ca10], 204, (0, 0)⟩ ∧ l' = []) (AY _ Tryd.call121 rfl) rfl (by rintro v l ⟨rfl, rfl⟩; exact ⟨_, _, rfl, rfl, rfl, rfl, rfl⟩) (fun w1 hw1 => FU rb (eQ z0 (pp + 16)) 2 (.slice ao10 zz10.length ca10) w1 (by decide) (hw1.ent _ (List.mem_of_getElem? (i := 2) rfl)))) rfl ?_
          rintro v1 L1 ⟨_, _, ⟨rfl, rfl, rfl⟩, rfl⟩
          show JL _ _ _ _ ((79, .tuple #[]) :: _) [_, _, ⟨rb, [errV 50 (erN (eQ z0 (pp + 16)) 2), .slice ao10 zz10.length ca10], 204, (0, 0)⟩, _]
          refine AN (AE (AI (AI (AD (AA _ (AH rfl) rfl ?_)))))
          refine A7 (A3 61 [Ptr rb 0] (I64 ((leftN (erN (eQ z0 (pp + 16)) 2) zz10.length:Int))) (AY _ Tryd.call61 rfl) (fun w1 hw1 => left_w rb (erN (eQ z0 (pp + 16)) 2) ao10 zz10.length ca10 w1 (RdA.of hw1 (AS 2 rfl (AL _)) (by simp)))) rfl ?_
          show JL _ _ _ _ ((81, I64 ((leftN (erN (eQ z0 (pp + 16)) 2) zz10.length:Int))) :: _) [_, _, _, _]
          refine AA (.bool (decide (((leftN (erN (eQ z0 (pp + 16)) 2) zz10.length:Int)) = (0:Int)))) (AR rfl rfl fun _ => C9 _ _) rfl ?_
          refine AA _ (AH rfl) rfl ?_
          refine A0 3 83 true _ _ rfl rfl (decide_eq_true (by rw [leftN, if_neg (erQ_ne (by decide))]; rfl)) (AH rfl) rfl ?_
          refine EK 3 83 true _ rfl rfl (decide_eq_true (by rw [leftN, if_neg (erQ_ne (by decide))]; rfl)) (A3 63 [Ptr rb 0] (errV 50 (endN (erN (eQ z0 (pp + 16)) 2) zz10.length)) (AY _ Tryd.call63 rfl) (fun w1 hw1 => end_w rb (erN (eQ z0 (pp + 16)) 2) ao10 zz10.length ca10 w1 (RdA.of hw1 (AS 2 rfl (AL _)) (by simp)))) rfl ?_
          rintro v1 L1 ⟨rfl, rfl⟩
          show JL _ _ _ _ ((85, errV 50 (endN (erN (eQ z0 (pp + 16)) 2) zz10.length)) :: _) [_, _, _, _]
          refine A0 3 83 true _ (.bool (!(decide (endN (erN (eQ z0 (pp + 16)) 2) zz10.length = 0)))) rfl rfl (decide_eq_true (by rw [leftN, if_neg (erQ_ne (by decide))]; rfl)) (C2 _ _ _ rfl rfl (fun _ => CJ ..) fun _ => EF A6 _ _) rfl ?_
          refine AA _ (CN _ rfl (decide_eq_true (by rw [leftN, if_neg (erQ_ne (by decide))]; rfl)) rfl) rfl ?_
          refine AN (AE (DJ _ rfl (bnotF (decide_eq_false (by rw [endN, if_neg (erQ_ne (by decide))]; exact (erQ_ne (by decide))))) ?_))
          refine AI (AD (AA (.agg ([U64 0, U64 0, I64 0, .slice none 0 0, .slice none 0 0, U64 0] ++ cu8 (zr8 16)).toArray) (B8 [] _ rfl (fun _ => by kernel_rfl)) rfl ?_))
          refine A7 (A5 0 nb1 22 ([U64 0, U64 0, I64 0, .slice none 0 0, .slice none 0 0, U64 0] ++ cu8 (zr8 16)) 29 ([U64 0, U64 0, I64 0, .slice none 0 0, .slice none 0 0, U64 0] ++ cu8 (zr8 16)) rfl rfl rfl AT (by simp [(AP 16)]) (CO (by simp [Value.oneCell']) CD) (by simp [(AP 16)]) (BC (by simp [(AP 16), (AP 16)]))) rfl ?_
          show JL _ _ _ _ _ [⟨nb1, [U64 0, U64 0, I64 0, .slice none 0 0, .slice none 0 0, U64 0] ++ cu8 (zr8 16), 29, (0, 0)⟩, _, _, _]
          refine AN (AE (BP (BN (CH [true, false, true, false] ?_))))
          show JQ _ _ _ _ [_, _]
          refine BQ (.agg ([U64 0, U64 0, I64 0, .slice none 0 0, .slice none 0 0, U64 0] ++ cu8 (zr8 16)).toArray) (res1 EU (DU rfl (BH A9 AT (by simp [(AP 16)]) (AS 0 rfl (AL _))))) fun w1 hw1 => ?_
          rw [show erN (eQ z0 (pp + 16)) 2 = 2 by rw [eQ_ok ‹pp + 16 ≤ z0.length›]; rfl] at hw1
          refine ⟨_, _, rfl, .inr (.inr (.inr ⟨?_, rfl, ao10, zz10.length, ca10, rfl⟩)), hw1.sub (by simp) (by simp)⟩
          rcases hu1 with ⟨h3, rfl, rfl⟩ | ⟨hb, _⟩
          · exact bad3 h3 (fun e => by exact (of_decide_eq_false hb39) e.2)
          · exact hb
        ·
          have hb40 : (decide (mayN (vQ z0 0 8) (vQ z0 8 8) (((vQ z0 16 1).toNat:Int)) ([] : List UInt64) ([] : List SealR) bl = 0)) = true := by simpa using hb38
          have hp40 : mayN (vQ z0 0 8) (vQ z0 8 8) (((vQ z0 16 1).toNat:Int)) ([] : List UInt64) ([] : List SealR) bl = 0 := of_decide_eq_true hb40
          refine BT (AE (AI (AI (AD (AA _ (AH rfl) rfl ?_)))))
          refine A7 (A3 61 [Ptr rb 0] (I64 ((leftN (eQ z0 (pp + 16)) zz10.length:Int))) (AY _ Tryd.call61 rfl) (fun w1 hw1 => left_w rb (eQ z0 (pp + 16)) ao10 zz10.length ca10 w1 (RdA.of hw1 (AS 2 rfl (AL _)) (by simp)))) rfl ?_
          show JL _ _ _ _ ((81, I64 ((leftN (eQ z0 (pp + 16)) zz10.length:Int))) :: _) [_, _, _, _]
          refine AA (.bool (decide (((leftN (eQ z0 (pp + 16)) zz10.length:Int)) = (0:Int)))) (AR rfl rfl fun _ => C9 _ _) rfl ?_
          refine AA _ (AH rfl) rfl ?_
          rcases Bool.eq_false_or_eq_true (decide (((leftN (eQ z0 (pp + 16)) zz10.length:Int)) = (0:Int))) with hb41 | hb41
          ·
            have hp41 : ((leftN (eQ z0 (pp + 16)) zz10.length:Int)) = (0:Int) := of_decide_eq_true hb41
            refine A0 3 83 true _ _ rfl rfl hb41 (AH rfl) rfl ?_
            refine EK 3 83 true _ rfl rfl hb41 (A3 63 [Ptr rb 0] (errV 50 (endN (eQ z0 (pp + 16)) zz10.length)) (AY _ Tryd.call63 rfl) (fun w1 hw1 => end_w rb (eQ z0 (pp + 16)) ao10 zz10.length ca10 w1 (RdA.of hw1 (AS 2 rfl (AL _)) (by simp)))) rfl ?_
            rintro v1 L1 ⟨rfl, rfl⟩
            show JL _ _ _ _ ((85, errV 50 (endN (eQ z0 (pp + 16)) zz10.length)) :: _) [_, _, _, _]
            refine A0 3 83 true _ (.bool (!(decide (endN (eQ z0 (pp + 16)) zz10.length = 0)))) rfl rfl hb41 (C2 _ _ _ rfl rfl (fun _ => CJ ..) fun _ => EF A6 _ _) rfl ?_
            refine AA _ (CN _ rfl hb41 rfl) rfl ?_
            refine AN (AE (CK _ rfl (bnotT (decide_eq_true (by have h9 := of_decide_eq_true hb41; rw [eQ_ok ‹pp + 16 ≤ z0.length›, leftN, if_pos rfl] at h9; rw [eQ_ok ‹pp + 16 ≤ z0.length›, endN, if_pos rfl, if_pos (by omega)]))) ?_))
            refine BT (AE (AI (AD (AA (.agg ([U64 (vQ z0 0 8), U64 (vQ z0 8 8), I64 (((vQ z0 16 1).toNat:Int)), .slice none 0 0, .slice none 0 0, U64 bl] ++ cu8 (bQ z0 pp 16)).toArray) (AK rfl (BH A9 AT (by simp [(show (bQ z0 pp 16).length = 16 from (B5 _ _ _))]) (AS 1 rfl (AL _)))) rfl ?_))))
            refine A7 (A5 0 nb1 22 ([U64 0, U64 0, I64 0, .slice none 0 0, .slice none 0 0, U64 0] ++ cu8 (zr8 16)) 29 ([U64 (vQ z0 0 8), U64 (vQ z0 8 8), I64 (((vQ z0 16 1).toNat:Int)), .slice none 0 0, .slice none 0 0, U64 bl] ++ cu8 (bQ z0 pp 16)) rfl rfl rfl AT (by simp [(show (bQ z0 pp 16).length = 16 from (B5 _ _ _))]) (CO (by simp [Value.oneCell']) CD) (by simp [(AP 16)]) (BC (by simp [(AP 16), (show (bQ z0 pp 16).length = 16 from (B5 _ _ _))]))) rfl ?_
            show JL _ _ _ _ _ [⟨nb1, [U64 (vQ z0 0 8), U64 (vQ z0 8 8), I64 (((vQ z0 16 1).toNat:Int)), .slice none 0 0, .slice none 0 0, U64 bl] ++ cu8 (bQ z0 pp 16), 29, (0, 0)⟩, _, _, _]
            refine AN (AE (BP (CH [true, false, true, false] ?_)))
            show JQ _ _ _ _ [_, _]
            refine BQ (.agg ([U64 (vQ z0 0 8), U64 (vQ z0 8 8), I64 (((vQ z0 16 1).toNat:Int)), .slice none 0 0, .slice none 0 0, U64 bl] ++ cu8 (bQ z0 pp 16)).toArray) (res1 EU (DU rfl (BH A9 AT (by simp [(show (bQ z0 pp 16).length = 16 from (B5 _ _ _))]) (AS 0 rfl (AL _))))) fun w1 hw1 => ?_
            rw [show errV 50 (eQ z0 (pp + 16)) = .nilIface by rw [eQ_ok ‹pp + 16 ≤ z0.length›]; rfl] at hw1
            rcases hu1 with ⟨h3, rfl, rfl⟩ | ⟨_, hm⟩
            · exact ⟨_, _, rfl, .inl ⟨⟨h3, by omega, of_decide_eq_true hb40⟩, ao10, zz10, ca10, (fun h8 => (hq10 (by omega)).trans (by congr 1 <;> omega)), ⟨(fun w M h => hA10 w M (hu6 w M h)), by omega, by omega, by omega⟩, rfl, rfl⟩, hw1.sub (by simp) (by simp)⟩
            · exact absurd (of_decide_eq_true hb40) hm
          ·
            have hp41 : ¬ (((leftN (eQ z0 (pp + 16)) zz10.length:Int)) = (0:Int)) := of_decide_eq_false hb41
            refine AQ 3 83 true _ rfl rfl hb41 rfl ?_
            refine AQ 3 83 true _ rfl rfl hb41 rfl ?_
            refine AQ 3 83 true _ rfl rfl hb41 rfl ?_
            refine AA _ (BU _ rfl hb41 rfl) rfl ?_
            refine AN (AE (CK _ rfl rfl ?_))
            refine BT (AE (AI (AD (AA (.agg ([U64 (vQ z0 0 8), U64 (vQ z0 8 8), I64 (((vQ z0 16 1).toNat:Int)), .slice none 0 0, .slice none 0 0, U64 bl] ++ cu8 (bQ z0 pp 16)).toArray) (AK rfl (BH A9 AT (by simp [(show (bQ z0 pp 16).length = 16 from (B5 _ _ _))]) (AS 1 rfl (AL _)))) rfl ?_))))
            refine A7 (A5 0 nb1 22 ([U64 0, U64 0, I64 0, .slice none 0 0, .slice none 0 0, U64 0] ++ cu8 (zr8 16)) 29 ([U64 (vQ z0 0 8), U64 (vQ z0 8 8), I64 (((vQ z0 16 1).toNat:Int)), .slice none 0 0, .slice none 0 0, U64 bl] ++ cu8 (bQ z0 pp 16)) rfl rfl rfl AT (by simp [(show (bQ z0 pp 16).length = 16 from (B5 _ _ _))]) (CO (by simp [Value.oneCell']) CD) (by simp [(AP 16)]) (BC (by simp [(AP 16), (show (bQ z0 pp 16).length = 16 from (B5 _ _ _))]))) rfl ?_
            show JL _ _ _ _ _ [⟨nb1, [U64 (vQ z0 0 8), U64 (vQ z0 8 8), I64 (((vQ z0 16 1).toNat:Int)), .slice none 0 0, .slice none 0 0, U64 bl] ++ cu8 (bQ z0 pp 16), 29, (0, 0)⟩, _, _, _]
            refine AN (AE (BP (CH [true, false, true, false] ?_)))
            show JQ _ _ _ _ [_, _]
            refine BQ (.agg ([U64 (vQ z0 0 8), U64 (vQ z0 8 8), I64 (((vQ z0 16 1).toNat:Int)), .slice none 0 0, .slice none 0 0, U64 bl] ++ cu8 (bQ z0 pp 16)).toArray) (res1 EU (DU rfl (BH A9 AT (by simp [(show (bQ z0 pp 16).length = 16 from (B5 _ _ _))]) (AS 0 rfl (AL _))))) fun w1 hw1 => ?_
            rw [show errV 50 (eQ z0 (pp + 16)) = .nilIface by rw [eQ_ok ‹pp + 16 ≤ z0.length›]; rfl] at hw1
            rcases hu1 with ⟨h3, rfl, rfl⟩ | ⟨_, hm⟩
            · exact ⟨_, _, rfl, .inl ⟨⟨h3, by omega, of_decide_eq_true hb40⟩, ao10, zz10, ca10, (fun h8 => (hq10 (by omega)).trans (by congr 1 <;> omega)), ⟨(fun w M h => hA10 w M (hu6 w M h)), by omega, by omega, by omega⟩, rfl, rfl⟩, hw1.sub (by simp) (by simp)⟩
            · exact absurd (of_decide_eq_true hb40) hm
      ·
        refine ⟨[], ?_⟩
        show DP _ _ _ _ _ _ _ _ [_, _, ⟨rb, [errV 50 (eQ z0 (pp + 16)), .slice ao10 zz10.length ca10], 204, (0, 0)⟩]
        refine CQ ⟨[3], [0, 1, 2], [2], [0, 1], [4]⟩ 4 rfl rfl (by decide +kernel) rfl ⟨⟨_, rfl, AC rfl (AB 6 27 16 AO rfl BE rfl rfl)⟩, ⟨_, rfl, AC rfl (B3 16 5 1 0 16 6 16 BJ AW rfl rfl rfl (by omega) (by omega) (by omega) (by omega) (by omega) 16 (by omega))⟩, trivial⟩ rfl (AZ rfl (EW 43 43 5 1 nb2 6 16 16 ([U64 (vQ z0 0 8), U64 (vQ z0 8 8), I64 (((vQ z0 16 1).toNat:Int)), .slice none 0 0, .slice none 0 0, U64 bl] ++ cu8 (zr8 16)) 29 none 0 0 0 [] ([U64 (vQ z0 0 8), U64 (vQ z0 8 8), I64 (((vQ z0 16 1).toNat:Int)), .slice none 0 0, .slice none 0 0, U64 bl] ++ cu8 (zr8 16)) AM DZ rfl rfl rfl rfl rfl SrcAt.nil (by simp [(AP 16)]) one_nil (lay_nil _ _))) ?_
        show DP _ _ _ _ _ _ _ _ [_, _, _]
        refine C4 ⟨[3, 4], [0, 1, 2], [0, 1, 2], [], []⟩ rfl rfl (by decide +kernel) rfl trivial ?_
        refine CI (F' := [(0, Ptr rb 0), (2, Ptr nb1 0), (3, Ptr nb2 0)]) (by kernel_rfl) ?_
        refine AE (AI (AI (AD (AA (.agg ([U64 (vQ z0 0 8), U64 (vQ z0 8 8), I64 (((vQ z0 16 1).toNat:Int)), .slice none 0 0, .slice none 0 0, U64 bl] ++ cu8 (zr8 16)).toArray) (AK rfl (BH A9 AT (by simp [(AP 16)]) (AS 1 rfl (AL _)))) rfl ?_))))
        refine A7 (A3 128 [.agg ([U64 (vQ z0 0 8), U64 (vQ z0 8 8), I64 (((vQ z0 16 1).toNat:Int)), .slice none 0 0, .slice none 0 0, U64 bl] ++ cu8 (zr8 16)).toArray] (errV 50 (mayN (vQ z0 0 8) (vQ z0 8 8) (((vQ z0 16 1).toNat:Int)) ([] : List UInt64) ([] : List SealR) bl)) (AY _ Tryd.call128 rfl) (fun w1 hw1 => may13_c (vQ z0 0 8) (vQ z0 8 8) (((vQ z0 16 1).toNat:Int)) none 0 0 ([] : List UInt64) none 0 0 ([] : List SealR) bl (zr8 16) w1 rfl (by omega) (by omega) (by omega) RdV.nil rfl (by omega) (by omega) (by omega) RdV.nil (AP 16))) rfl ?_
        show JL _ _ _ _ ((74, errV 50 (mayN (vQ z0 0 8) (vQ z0 8 8) (((vQ z0 16 1).toNat:Int)) ([] : List UInt64) ([] : List SealR) bl)) :: _) [_, _, _]
        refine AA _ (AG rfl) rfl ?_
        refine AN (AE (AI (AD (AA _ (AH rfl) rfl ?_))))
        refine AA (.bool (!(decide (mayN (vQ z0 0 8) (vQ z0 8 8) (((vQ z0 16 1).toNat:Int)) ([] : List UInt64) ([] : List SealR) bl = 0)))) (C2 _ _ _ rfl rfl (fun _ => CJ ..) fun _ => EF A6 _ _) rfl ?_
        refine AN (AE (JC_cut (ι := Option Addr × Nat × Nat) (fun ⟨ab, nv, cb⟩ => [(0, Ptr rb 0), (2, Ptr nb1 0), (3, Ptr nb2 0)]) (fun ⟨ab, nv, cb⟩ => [⟨rb, [errV 50 2, .slice ab nv cb], 204, (0, 0)⟩, ⟨nb1, [U64 0, U64 0, I64 0, .slice none 0 0, .slice none 0 0, U64 0] ++ cu8 (zr8 16), 29, (0, 0)⟩, ⟨nb2, [U64 (vQ z0 0 8), U64 (vQ z0 8 8), I64 (((vQ z0 16 1).toNat:Int)), .slice none 0 0, .slice none 0 0, U64 bl] ++ cu8 (zr8 16), 29, (0, 0)⟩]) (fun ⟨ab, nv, cb⟩ => True) ?_ ?_))
        ·
          refine CY (!(decide (mayN (vQ z0 0 8) (vQ z0 8 8) (((vQ z0 16 1).toNat:Int)) ([] : List UInt64) ([] : List SealR) bl = 0))) rfl (fun hb42 => ?_) (fun hb42 => ?_)
          ·
            have hb43 : (decide (mayN (vQ z0 0 8) (vQ z0 8 8) (((vQ z0 16 1).toNat:Int)) ([] : List UInt64) ([] : List SealR) bl = 0)) = false := by simpa using hb42
            have hp43 : ¬ (mayN (vQ z0 0 8) (vQ z0 8 8) (((vQ z0 16 1).toNat:Int)) ([] : List UInt64) ([] : List SealR) bl = 0) := of_decide_eq_false hb43
            refine AD (AA _ (AH rfl) rfl ?_)
            refine AA (.iface 50 (I64 2)) (FF DA rfl rfl) rfl ?_
            refine A1 (FB 121 [Ptr rb 0, .iface 50 (I64 2)] 2 ⟨rb, [errV 50 (eQ z0 (pp + 16)), .slice ao10 zz10.length ca10], 204, (0, 0)⟩ _ (fun v e' l' => v = .tuple #[] ∧ e' = ⟨rb, [errV 50 (erN (eQ z0 (pp + 16)) 2), .slice ao10 zz10.length ca10], 204, (0, 0)⟩ ∧ l' = []) (AY _ Tryd.call121 rfl) rfl (by rintro v l ⟨rfl, rfl⟩; exact ⟨_, _, rfl, rfl, rfl, rfl, rfl⟩) (fun w1 hw1 => FU rb (eQ z0 (pp + 16)) 2 (.slice ao10 zz10.length ca10) w1 (by decide) (hw1.ent _ (List.mem_of_getElem? (i := 2) rfl)))) rfl ?_
            rintro v1 L1 ⟨_, _, ⟨rfl, rfl, rfl⟩, rfl⟩
            show JL _ _ _ _ ((79, .tuple #[]) :: _) [_, _, ⟨rb, [errV 50 (erN (eQ z0 (pp + 16)) 2), .slice ao10 zz10.length ca10], 204, (0, 0)⟩]
            refine AN ?_
            rw [show erN (eQ z0 (pp + 16)) 2 = 2 by rw [eQ_bad ‹¬ pp + 16 ≤ z0.length›]; rfl]
            refine E9 [2, 0, 1] (by decide) ?_
            show JQ _ _ _ _ [_, _, _]
            refine E6 ((ao10, zz10.length, ca10)) trivial (Sub.all rfl) rfl
          ·
            have hb44 : (decide (mayN (vQ z0 0 8) (vQ z0 8 8) (((vQ z0 16 1).toNat:Int)) ([] : List UInt64) ([] : List SealR) bl = 0)) = true := by simpa using hb42
            have hp44 : mayN (vQ z0 0 8) (vQ z0 8 8) (((vQ z0 16 1).toNat:Int)) ([] : List UInt64) ([] : List SealR) bl = 0 := of_decide_eq_true hb44
            refine BT ?_
            rw [show eQ z0 (pp + 16) = 2 by rw [eQ_bad ‹¬ pp + 16 ≤ z0.length›]]
            refine E9 [2, 0, 1] (by decide) ?_
            show JQ _ _ _ _ [_, _, _]
            refine E6 ((ao10, zz10.length, ca10)) trivial (Sub.all rfl) rfl
        ·
          rintro ⟨ab, nv, cb⟩ hx
          obtain _ := hx
          show JQ _ _ _ [(0, Ptr rb 0), (2, Ptr nb1 0), (3, Ptr nb2 0)] [⟨rb, [errV 50 2, .slice ab nv cb], 204, (0, 0)⟩, ⟨nb1, [U64 0, U64 0, I64 0, .slice none 0 0, .slice none 0 0, U64 0] ++ cu8 (zr8 16), 29, (0, 0)⟩, ⟨nb2, [U64 (vQ z0 0 8), U64 (vQ z0 8 8), I64 (((vQ z0 16 1).toNat:Int)), .slice none 0 0, .slice none 0 0, U64 bl] ++ cu8 (zr8 16), 29, (0, 0)⟩]
          refine AE (AI (AI (AD (AA _ (AH rfl) rfl ?_))))
          refine A7 (A3 61 [Ptr rb 0] (I64 ((leftN 2 nv:Int))) (AY _ Tryd.call61 rfl) (fun w1 hw1 => left_w rb 2 ab nv cb w1 (RdA.of hw1 (AS 0 rfl (AL _)) (by simp)))) rfl ?_
          show JL _ _ _ _ ((81, I64 ((leftN 2 nv:Int))) :: _) [_, _, _]
          refine AA (.bool (decide (((leftN 2 nv:Int)) = (0:Int)))) (AR rfl rfl fun _ => C9 _ _) rfl ?_
          refine AA _ (AH rfl) rfl ?_
          refine A0 3 83 true _ _ rfl rfl (decide_eq_true (by rw [leftN, if_neg (by decide)]; rfl)) (AH rfl) rfl ?_
          refine EK 3 83 true _ rfl rfl (decide_eq_true (by rw [leftN, if_neg (by decide)]; rfl)) (A3 63 [Ptr rb 0] (errV 50 (endN 2 nv)) (AY _ Tryd.call63 rfl) (fun w1 hw1 => end_w rb 2 ab nv cb w1 (RdA.of hw1 (AS 0 rfl (AL _)) (by simp)))) rfl ?_
          rintro v1 L1 ⟨rfl, rfl⟩
          show JL _ _ _ _ ((85, errV 50 (endN 2 nv)) :: _) [_, _, _]
          refine A0 3 83 true _ (.bool (!(decide (endN 2 nv = 0)))) rfl rfl (decide_eq_true (by rw [leftN, if_neg (by decide)]; rfl)) (C2 _ _ _ rfl rfl (fun _ => CJ ..) fun _ => EF A6 _ _) rfl ?_
          refine AA _ (CN _ rfl (decide_eq_true (by rw [leftN, if_neg (by decide)]; rfl)) rfl) rfl ?_
          refine AN (AE (DJ _ rfl (bnotF (decide_eq_false (by rw [endN, if_neg (by decide)]; exact (by decide)))) ?_))
          refine AI (AD (AA (.agg ([U64 0, U64 0, I64 0, .slice none 0 0, .slice none 0 0, U64 0] ++ cu8 (zr8 16)).toArray) (B8 [] _ rfl (fun _ => by kernel_rfl)) rfl ?_))
          refine A7 (A5 1 nb1 22 ([U64 0, U64 0, I64 0, .slice none 0 0, .slice none 0 0, U64 0] ++ cu8 (zr8 16)) 29 ([U64 0, U64 0, I64 0, .slice none 0 0, .slice none 0 0, U64 0] ++ cu8 (zr8 16)) rfl rfl rfl AT (by simp [(AP 16)]) (CO (by simp [Value.oneCell']) CD) (by simp [(AP 16)]) (BC (by simp [(AP 16), (AP 16)]))) rfl ?_
          show JL _ _ _ _ _ [_, ⟨nb1, [U64 0, U64 0, I64 0, .slice none 0 0, .slice none 0 0, U64 0] ++ cu8 (zr8 16), 29, (0, 0)⟩, _]
          refine AN (AE (BP (BN (CH [true, true, false] ?_))))
          show JQ _ _ _ _ [_, _]
          refine BQ (.agg ([U64 0, U64 0, I64 0, .slice none 0 0, .slice none 0 0, U64 0] ++ cu8 (zr8 16)).toArray) (res1 EU (DU rfl (BH A9 AT (by simp [(AP 16)]) (AS 1 rfl (AL _))))) fun w1 hw1 => ?_
          refine ⟨_, _, rfl, .inr (.inr (.inr ⟨?_, rfl, ab, nv, cb, rfl⟩)), hw1.sub (by simp) (by simp)⟩
          rcases hu1 with ⟨h3, rfl, rfl⟩ | ⟨hb, _⟩
          · exact bad3 h3 (fun e => by have := e.1; omega)
          · exact hb
    ·
      obtain ⟨hk, hpp, hm2, hm3, hu2, hu3, hu4, hu5, hu6, hu10, hu11, hu12⟩ := hx
      show JQ _ _ _ [(0, Ptr rb 0), (2, Ptr nb1 0), (3, Ptr nb2 0)] [⟨rb, [errV 50 (eQ z0 pp), .slice aa zz.length cc], 204, (0, 0)⟩, ⟨nb1, [U64 0, U64 0, I64 0, .slice none 0 0, .slice none 0 0, U64 0] ++ cu8 (zr8 16), 29, (0, 0)⟩, ⟨nb2, [U64 (vQ z0 0 8), U64 (vQ z0 8 8), I64 (((vQ z0 16 1).toNat:Int)), Slc gb 0 m cp, .slice none 0 0, U64 0] ++ cu8 (zr8 16), 29, (0, 0)⟩, ⟨gb, cu64 (ixQ z0 18 m) ++ sp, 22, (0, 0)⟩]
      refine AE (AI (C1 90 3 [(0, Ptr nb2 6), (1, Slc nb2 6 16 16), (2, Ptr rb 0)] BV rfl (by decide +kernel) ?_))
      have hz11 : (zz).length = zz.length := rfl
      refine CR ⟨[], [0, 1, 2], [], [0, 1, 2], [3]⟩ 3 _ rfl rfl (by decide +kernel) rfl ⟨⟨_, rfl, AC rfl (AB 6 27 16 AO rfl BE rfl rfl)⟩, ⟨_, rfl, AC rfl (B3 16 5 1 0 16 6 16 BJ AW rfl rfl rfl (by omega) (by omega) (by omega) (by omega) (by omega) 16 (by omega))⟩, A2 rfl rfl rfl, trivial⟩ rfl (AZ rfl (DN 127 _ [true, false, false, false] [rb] _ (AY [Ptr rb 0, I64 16] Tryd.call127 rfl) rfl (fun w1 hw1 => rawA_w rb pp 16 aa zz.length cc z0 zz w1 (hw1.ent _ (List.mem_of_getElem? (i := 0) rfl)) rfl (by omega) (by omega) (by omega) (hu6 _ _ (hr.at (M' := [rb]) hw1 (hw1.apart [0] _ rfl))) hu5 (by omega)))) ?_
      rintro v1 L1 ⟨_, ⟨ao11, zz11, ca11, hq11, ⟨hA11, hb45, hb46, hb47⟩, (⟨hg6, nb12, sp6, cp6, rfl, rfl, hc4, hc5, hc6⟩ | ⟨hg6, rfl, rfl⟩)⟩, rfl⟩
      ·
        refine ⟨[], ?_⟩
        show DP _ _ _ _ _ _ _ _ [_, _, _, ⟨rb, [errV 50 (eQ z0 (pp + 16)), .slice ao11 zz11.length ca11], 204, (0, 0)⟩, ⟨nb12, cu8 (bQ z0 pp 16) ++ sp6, 5, (0, 0)⟩]
        refine CQ ⟨[3], [0, 1, 2], [2], [0, 1], [4]⟩ 4 rfl rfl (by decide +kernel) rfl ⟨⟨_, rfl, AC rfl (AB 6 27 16 AO rfl BE rfl rfl)⟩, ⟨_, rfl, AC rfl (B3 16 5 1 0 16 6 16 BJ AW rfl rfl rfl (by omega) (by omega) (by omega) (by omega) (by omega) 16 (by omega))⟩, trivial⟩ rfl (AZ rfl (EW 43 43 5 1 nb2 6 16 16 ([U64 (vQ z0 0 8), U64 (vQ z0 8 8), I64 (((vQ z0 16 1).toNat:Int)), Slc gb 0 m cp, .slice none 0 0, U64 0] ++ cu8 (zr8 16)) 29 (some ⟨nb12, 0, none⟩) 16 cp6 16 (cu8 (bQ z0 pp 16)) ([U64 (vQ z0 0 8), U64 (vQ z0 8 8), I64 (((vQ z0 16 1).toNat:Int)), Slc gb 0 m cp, .slice none 0 0, U64 0] ++ cu8 (bQ z0 pp 16)) AM DZ rfl rfl rfl rfl (by simp [(show (bQ z0 pp 16).length = 16 from (B5 _ _ _))]; try omega) (SrcAt.mem (AS 4 rfl (A4 (AL _)))) (by simp [(AP 16)]; try omega) (by first | exact CD | exact D3 | exact D1 | (simp [cu8, cu32, cu64, Value.oneCell']; done)) (GD 6 0 rfl rfl (BC (by simp [(AP 16), (show (bQ z0 pp 16).length = 16 from (B5 _ _ _))]))))) ?_
        show DP _ _ _ _ _ _ _ _ [_, ⟨nb2, [U64 (vQ z0 0 8), U64 (vQ z0 8 8), I64 (((vQ z0 16 1).toNat:Int)), Slc gb 0 m cp, .slice none 0 0, U64 0] ++ cu8 (bQ z0 pp 16), 29, (0, 0)⟩, _, _, _]
        refine C4 ⟨[3, 4], [0, 1, 2], [0, 1, 2], [], []⟩ rfl rfl (by decide +kernel) rfl trivial ?_
        refine CI (F' := [(0, Ptr rb 0), (2, Ptr nb1 0), (3, Ptr nb2 0)]) (by kernel_rfl) ?_
        refine AE (AI (AI (AD (AA (.agg ([U64 (vQ z0 0 8), U64 (vQ z0 8 8), I64 (((vQ z0 16 1).toNat:Int)), Slc gb 0 m cp, .slice none 0 0, U64 0] ++ cu8 (bQ z0 pp 16)).toArray) (AK rfl (BH A9 AT (by simp [(show (bQ z0 pp 16).length = 16 from (B5 _ _ _))]) (AS 1 rfl (AL _)))) rfl ?_))))
        refine A7 (A3 128 [.agg ([U64 (vQ z0 0 8), U64 (vQ z0 8 8), I64 (((vQ z0 16 1).toNat:Int)), Slc gb 0 m cp, .slice none 0 0, U64 0] ++ cu8 (bQ z0 pp 16)).toArray] (errV 50 (mayN (vQ z0 0 8) (vQ z0 8 8) (((vQ z0 16 1).toNat:Int)) (ixQ z0 18 m) ([] : List SealR) (0:UInt64))) (AY _ Tryd.call128 rfl) (fun w1 hw1 => may13_c (vQ z0 0 8) (vQ z0 8 8) (((vQ z0 16 1).toNat:Int)) (some ⟨gb, 0, none⟩) m cp (ixQ z0 18 m) none 0 0 ([] : List SealR) (0:UInt64) (bQ z0 pp 16) w1 (FJ _ _ _) (by omega) (by omega) (by omega) (RdV.of hw1 (AS 2 rfl (A4 (AL _)))) rfl (by omega) (by omega) (by omega) RdV.nil (show (bQ z0 pp 16).length = 16 from (B5 _ _ _)))) rfl ?_
        show JL _ _ _ _ ((74, errV 50 (mayN (vQ z0 0 8) (vQ z0 8 8) (((vQ z0 16 1).toNat:Int)) (ixQ z0 18 m) ([] : List SealR) (0:UInt64))) :: _) [_, _, _, _, _]
        refine AA _ (AG rfl) rfl ?_
        refine AN (AE (AI (AD (AA _ (AH rfl) rfl ?_))))
        refine AA (.bool (!(decide (mayN (vQ z0 0 8) (vQ z0 8 8) (((vQ z0 16 1).toNat:Int)) (ixQ z0 18 m) ([] : List SealR) (0:UInt64) = 0)))) (C2 _ _ _ rfl rfl (fun _ => CJ ..) fun _ => EF A6 _ _) rfl ?_
        refine AN (AE (CY (!(decide (mayN (vQ z0 0 8) (vQ z0 8 8) (((vQ z0 16 1).toNat:Int)) (ixQ z0 18 m) ([] : List SealR) (0:UInt64) = 0))) rfl (fun hb48 => ?_) (fun hb48 => ?_)))
        ·
          have hb49 : (decide (mayN (vQ z0 0 8) (vQ z0 8 8) (((vQ z0 16 1).toNat:Int)) (ixQ z0 18 m) ([] : List SealR) (0:UInt64) = 0)) = false := by simpa using hb48
          have hp49 : ¬ (mayN (vQ z0 0 8) (vQ z0 8 8) (((vQ z0 16 1).toNat:Int)) (ixQ z0 18 m) ([] : List SealR) (0:UInt64) = 0) := of_decide_eq_false hb49
          refine AD (AA _ (AH rfl) rfl ?_)
          refine AA (.iface 50 (I64 2)) (FF DA rfl rfl) rfl ?_
          refine A1 (FB 121 [Ptr rb 0, .iface 50 (I64 2)] 3 ⟨rb, [errV 50 (eQ z0 (pp + 16)), .slice ao11 zz11.length ca11], 204, (0, 0)⟩ _ (fun v e' l' => v = .tuple #[] ∧ e' = ⟨rb, [errV 50 (erN (eQ z0 (pp + 16)) 2), .slice ao11 zz11.length ca11], 204, (0, 0)⟩ ∧ l' = []) (AY _ Tryd.call121 rfl) rfl (by rintro v l ⟨rfl, rfl⟩; exact ⟨_, _, rfl, rfl, rfl, rfl, rfl⟩) (fun w1 hw1 => FU rb (eQ z0 (pp + 16)) 2 (.slice ao11 zz11.length ca11) w1 (by decide) (hw1.ent _ (List.mem_of_getElem? (i := 3) rfl)))) rfl ?_
          rintro v1 L1 ⟨_, _, ⟨rfl, rfl, rfl⟩, rfl⟩
          show JL _ _ _ _ ((79, .tuple #[]) :: _) [_, _, _, ⟨rb, [errV 50 (erN (eQ z0 (pp + 16)) 2), .slice ao11 zz11.length ca11], 204, (0, 0)⟩, _]
          refine AN (AE (AI (AI (AD (AA _ (AH rfl) rfl ?_)))))
          refine A7 (A3 61 [Ptr rb 0] (I64 ((leftN (erN (eQ z0 (pp + 16)) 2) zz11.length:Int))) (AY _ Tryd.call61 rfl) (fun w1 hw1 => left_w rb (erN (eQ z0 (pp + 16)) 2) ao11 zz11.length ca11 w1 (RdA.of hw1 (AS 3 rfl (AL _)) (by simp)))) rfl ?_
          show JL _ _ _ _ ((81, I64 ((leftN (erN (eQ z0 (pp + 16)) 2) zz11.length:Int))) :: _) [_, _, _, _, _]
          refine AA (.bool (decide (((leftN (erN (eQ z0 (pp + 16)) 2) zz11.length:Int)) = (0:Int)))) (AR rfl rfl fun _ => C9 _ _) rfl ?_
          refine AA _ (AH rfl) rfl ?_
          refine A0 3 83 true _ _ rfl rfl (decide_eq_true (by rw [leftN, if_neg (erQ_ne (by decide))]; rfl)) (AH rfl) rfl ?_
          refine EK 3 83 true _ rfl rfl (decide_eq_true (by rw [leftN, if_neg (erQ_ne (by decide))]; rfl)) (A3 63 [Ptr rb 0] (errV 50 (endN (erN (eQ z0 (pp + 16)) 2) zz11.length)) (AY _ Tryd.call63 rfl) (fun w1 hw1 => end_w rb (erN (eQ z0 (pp + 16)) 2) ao11 zz11.length ca11 w1 (RdA.of hw1 (AS 3 rfl (AL _)) (by simp)))) rfl ?_
          rintro v1 L1 ⟨rfl, rfl⟩
          show JL _ _ _ _ ((85, errV 50 (endN (erN (eQ z0 (pp + 16)) 2) zz11.length)) :: _) [_, _, _, _, _]
          refine A0 3 83 true _ (.bool (!(decide (endN (erN (eQ z0 (pp + 16)) 2) zz11.length = 0)))) rfl rfl (decide_eq_true (by rw [leftN, if_neg (erQ_ne (by decide))]; rfl)) (C2 _ _ _ rfl rfl (fun _ => CJ ..) fun _ => EF A6 _ _) rfl ?_
          refine AA _ (CN _ rfl (decide_eq_true (by rw [leftN, if_neg (erQ_ne (by decide))]; rfl)) rfl) rfl ?_
          refine AN (AE (DJ _ rfl (bnotF (decide_eq_false (by rw [endN, if_neg (erQ_ne (by decide))]; exact (erQ_ne (by decide))))) ?_))
          refine AI (AD (AA (.agg ([U64 0, U64 0, I64 0, .slice none 0 0, .slice none 0 0, U64 0] ++ cu8 (zr8 16)).toArray) (B8 [] _ rfl (fun _ => by kernel_rfl)) rfl ?_))
          refine A7 (A5 0 nb1 22 ([U64 0, U64 0, I64 0, .slice none 0 0, .slice none 0 0, U64 0] ++ cu8 (zr8 16)) 29 ([U64 0, U64 0, I64 0, .slice none 0 0, .slice none 0 0, U64 0] ++ cu8 (zr8 16)) rfl rfl rfl AT (by simp [(AP 16)]) (CO (by simp [Value.oneCell']) CD) (by simp [(AP 16)]) (BC (by simp [(AP 16), (AP 16)]))) rfl ?_
          show JL _ _ _ _ _ [⟨nb1, [U64 0, U64 0, I64 0, .slice none 0 0, .slice none 0 0, U64 0] ++ cu8 (zr8 16), 29, (0, 0)⟩, _, _, _, _]
          refine AN (AE (BP (BN (CH [true, false, false, true, false] ?_))))
          show JQ _ _ _ _ [_, _]
          refine BQ (.agg ([U64 0, U64 0, I64 0, .slice none 0 0, .slice none 0 0, U64 0] ++ cu8 (zr8 16)).toArray) (res1 EU (DU rfl (BH A9 AT (by simp [(AP 16)]) (AS 0 rfl (AL _))))) fun w1 hw1 => ?_
          rw [show erN (eQ z0 (pp + 16)) 2 = 2 by rw [eQ_ok ‹pp + 16 ≤ z0.length›]; rfl] at hw1
          refine ⟨_, _, rfl, .inr (.inr (.inr ⟨?_, rfl, ao11, zz11.length, ca11, rfl⟩)), hw1.sub (by simp) (by simp)⟩
          rcases hm3 with hm | hm
          · subst hm
            exact bad2 hk (fun e => by exact (of_decide_eq_false hb49) e.2)
          · exact bad2 hk (fun e => by have := e.1; omega)
        ·
          have hb50 : (decide (mayN (vQ z0 0 8) (vQ z0 8 8) (((vQ z0 16 1).toNat:Int)) (ixQ z0 18 m) ([] : List SealR) (0:UInt64) = 0)) = true := by simpa using hb48
          have hp50 : mayN (vQ z0 0 8) (vQ z0 8 8) (((vQ z0 16 1).toNat:Int)) (ixQ z0 18 m) ([] : List SealR) (0:UInt64) = 0 := of_decide_eq_true hb50
          refine BT (AE (AI (AI (AD (AA _ (AH rfl) rfl ?_)))))
          refine A7 (A3 61 [Ptr rb 0] (I64 ((leftN (eQ z0 (pp + 16)) zz11.length:Int))) (AY _ Tryd.call61 rfl) (fun w1 hw1 => left_w rb (eQ z0 (pp + 16)) ao11 zz11.length ca11 w1 (RdA.of hw1 (AS 3 rfl (AL _)) (by simp)))) rfl ?_
          show JL _ _ _ _ ((81, I64 ((leftN (eQ z0 (pp + 16)) zz11.length:Int))) :: _) [_, _, _, _, _]
          refine AA (.bool (decide (((leftN (eQ z0 (pp + 16)) zz11.length:Int)) = (0:Int)))) (AR rfl rfl fun _ => C9 _ _) rfl ?_
          refine AA _ (AH rfl) rfl ?_
          rcases Bool.eq_false_or_eq_true (decide (((leftN (eQ z0 (pp + 16)) zz11.length:Int)) = (0:Int))) with hb51 | hb51
          ·
            have hp51 : ((leftN (eQ z0 (pp + 16)) zz11.length:Int)) = (0:Int) := of_decide_eq_true hb51
            refine A0 3 83 true _ _ rfl rfl hb51 (AH rfl) rfl ?_
            refine EK 3 83 true _ rfl rfl hb51 (A3 63 [Ptr rb 0] (errV 50 (endN (eQ z0 (pp + 16)) zz11.length)) (AY _ Tryd.call63 rfl) (fun w1 hw1 => end_w rb (eQ z0 (pp + 16)) ao11 zz11.length ca11 w1 (RdA.of hw1 (AS 3 rfl (AL _)) (by simp)))) rfl ?_
            rintro v1 L1 ⟨rfl, rfl⟩
            show JL _ _ _ _ ((85, errV 50 (endN (eQ z0 (pp + 16)) zz11.length)) :: _) [_, _, _, _, _]
            refine A0 3 83 true _ (.bool (!(decide (endN (eQ z0 (pp + 16)) zz11.length = 0)))) rfl rfl hb51 (C2 _ _ _ rfl rfl (fun _ => CJ ..) fun _ => EF A6 _ _) rfl ?_
            refine AA _ (CN _ rfl hb51 rfl) rfl ?_
            refine AN (AE (CK _ rfl (bnotT (decide_eq_true (by have h9 := of_decide_eq_true hb51; rw [eQ_ok ‹pp + 16 ≤ z0.length›, leftN, if_pos rfl] at h9; rw [eQ_ok ‹pp + 16 ≤ z0.length›, endN, if_pos rfl, if_pos (by omega)]))) ?_))
            refine BT (AE (AI (AD (AA (.agg ([U64 (vQ z0 0 8), U64 (vQ z0 8 8), I64 (((vQ z0 16 1).toNat:Int)), Slc gb 0 m cp, .slice none 0 0, U64 0] ++ cu8 (bQ z0 pp 16)).toArray) (AK rfl (BH A9 AT (by simp [(show (bQ z0 pp 16).length = 16 from (B5 _ _ _))]) (AS 1 rfl (AL _)))) rfl ?_))))
            refine A7 (A5 0 nb1 22 ([U64 0, U64 0, I64 0, .slice none 0 0, .slice none 0 0, U64 0] ++ cu8 (zr8 16)) 29 ([U64 (vQ z0 0 8), U64 (vQ z0 8 8), I64 (((vQ z0 16 1).toNat:Int)), Slc gb 0 m cp, .slice none 0 0, U64 0] ++ cu8 (bQ z0 pp 16)) rfl rfl rfl AT (by simp [(show (bQ z0 pp 16).length = 16 from (B5 _ _ _))]) (CO (by simp [Value.oneCell']) CD) (by simp [(AP 16)]) (BC (by simp [(AP 16), (show (bQ z0 pp 16).length = 16 from (B5 _ _ _))]))) rfl ?_
            show JL _ _ _ _ _ [⟨nb1, [U64 (vQ z0 0 8), U64 (vQ z0 8 8), I64 (((vQ z0 16 1).toNat:Int)), Slc gb 0 m cp, .slice none 0 0, U64 0] ++ cu8 (bQ z0 pp 16), 29, (0, 0)⟩, _, _, _, _]
            refine AN (AE (BP (CH [true, false, true, true, false] ?_)))
            show JQ _ _ _ _ [_, _, _]
            refine BQ (.agg ([U64 (vQ z0 0 8), U64 (vQ z0 8 8), I64 (((vQ z0 16 1).toNat:Int)), Slc gb 0 m cp, .slice none 0 0, U64 0] ++ cu8 (bQ z0 pp 16)).toArray) (res1 EU (DU rfl (BH A9 AT (by simp [(show (bQ z0 pp 16).length = 16 from (B5 _ _ _))]) (AS 0 rfl (AL _))))) fun w1 hw1 => ?_
            rw [show errV 50 (eQ z0 (pp + 16)) = .nilIface by rw [eQ_ok ‹pp + 16 ≤ z0.length›]; rfl] at hw1
            obtain rfl : m = mQ z0 := by omega
            subst hpp
            exact ⟨_, _, rfl, .inr (.inl ⟨⟨hk, by omega, of_decide_eq_true hb50⟩, ao11, zz11, ca11, gb, sp, cp, (fun h8 => (hq11 (by omega)).trans (by congr 1 <;> omega)), ⟨(fun w M h => hA11 w M (hu6 w M h)), by omega, by omega, by omega⟩, rfl, rfl, hu2, hu3, hu4⟩), hw1.sub (by simp) (by have hd0 : rb ≠ gb := hw1.ne (i := 2) (j := 1) rfl rfl (by decide); simp [hd0])⟩
          ·
            have hp51 : ¬ (((leftN (eQ z0 (pp + 16)) zz11.length:Int)) = (0:Int)) := of_decide_eq_false hb51
            refine AQ 3 83 true _ rfl rfl hb51 rfl ?_
            refine AQ 3 83 true _ rfl rfl hb51 rfl ?_
            refine AQ 3 83 true _ rfl rfl hb51 rfl ?_
            refine AA _ (BU _ rfl hb51 rfl) rfl ?_
            refine AN (AE (CK _ rfl rfl ?_))
            refine BT (AE (AI (AD (AA (.agg ([U64 (vQ z0 0 8), U64 (vQ z0 8 8), I64 (((vQ z0 16 1).toNat:Int)), Slc gb 0 m cp, .slice none 0 0, U64 0] ++ cu8 (bQ z0 pp 16)).toArray) (AK rfl (BH A9 AT (by simp [(show (bQ z0 pp 16).length = 16 from (B5 _ _ _))]) (AS 1 rfl (AL _)))) rfl ?_))))
            refine A7 (A5 0 nb1 22 ([U64 0, U64 0, I64 0, .slice none 0 0, .slice none 0 0, U64 0] ++ cu8 (zr8 16)) 29 ([U64 (vQ z0 0 8), U64 (vQ z0 8 8), I64 (((vQ z0 16 1).toNat:Int)), Slc gb 0 m cp, .slice none 0 0, U64 0] ++ cu8 (bQ z0 pp 16)) rfl rfl rfl AT (by simp [(show (bQ z0 pp 16).length = 16 from (B5 _ _ _))]) (CO (by simp [Value.oneCell']) CD) (by simp [(AP 16)]) (BC (by simp [(AP 16), (show (bQ z0 pp 16).length = 16 from (B5 _ _ _))]))) rfl ?_
            show JL _ _ _ _ _ [⟨nb1, [U64 (vQ z0 0 8), U64 (vQ z0 8 8), I64 (((vQ z0 16 1).toNat:Int)), Slc gb 0 m cp, .slice none 0 0, U64 0] ++ cu8 (bQ z0 pp 16), 29, (0, 0)⟩, _, _, _, _]
            refine AN (AE (BP (CH [true, false, true, true, false] ?_)))
            show JQ _ _ _ _ [_, _, _]
            refine BQ (.agg ([U64 (vQ z0 0 8), U64 (vQ z0 8 8), I64 (((vQ z0 16 1).toNat:Int)), Slc gb 0 m cp, .slice none 0 0, U64 0] ++ cu8 (bQ z0 pp 16)).toArray) (res1 EU (DU rfl (BH A9 AT (by simp [(show (bQ z0 pp 16).length = 16 from (B5 _ _ _))]) (AS 0 rfl (AL _))))) fun w1 hw1 => ?_
            rw [show errV 50 (eQ z0 (pp + 16)) = .nilIface by rw [eQ_ok ‹pp + 16 ≤ z0.length›]; rfl] at hw1
            obtain rfl : m = mQ z0 := by omega
            subst hpp
            exact ⟨_, _, rfl, .inr (.inl ⟨⟨hk, by omega, of_decide_eq_true hb50⟩, ao11, zz11, ca11, gb, sp, cp, (fun h8 => (hq11 (by omega)).trans (by congr 1 <;> omega)), ⟨(fun w M h => hA11 w M (hu6 w M h)), by omega, by omega, by omega⟩, rfl, rfl, hu2, hu3, hu4⟩), hw1.sub (by simp) (by have hd0 : rb ≠ gb := hw1.ne (i := 2) (j := 1) rfl rfl (by decide); simp [hd0])⟩
      ·
        refine ⟨[], ?_⟩
        show DP _ _ _ _ _ _ _ _ [_, _, _, ⟨rb, [errV 50 (eQ z0 (pp + 16)), .slice ao11 zz11.length ca11], 204, (0, 0)⟩]
        refine CQ ⟨[3], [0, 1, 2], [2], [0, 1], [4]⟩ 4 rfl rfl (by decide +kernel) rfl ⟨⟨_, rfl, AC rfl (AB 6 27 16 AO rfl BE rfl rfl)⟩, ⟨_, rfl, AC rfl (B3 16 5 1 0 16 6 16 BJ AW rfl rfl rfl (by omega) (by omega) (by omega) (by omega) (by omega) 16 (by omega))⟩, trivial⟩ rfl (AZ rfl (EW 43 43 5 1 nb2 6 16 16 ([U64 (vQ z0 0 8), U64 (vQ z0 8 8), I64 (((vQ z0 16 1).toNat:Int)), Slc gb 0 m cp, .slice none 0 0, U64 0] ++ cu8 (zr8 16)) 29 none 0 0 0 [] ([U64 (vQ z0 0 8), U64 (vQ z0 8 8), I64 (((vQ z0 16 1).toNat:Int)), Slc gb 0 m cp, .slice none 0 0, U64 0] ++ cu8 (zr8 16)) AM DZ rfl rfl rfl rfl rfl SrcAt.nil (by simp [(AP 16)]) one_nil (lay_nil _ _))) ?_
        show DP _ _ _ _ _ _ _ _ [_, _, _, _]
        refine C4 ⟨[3, 4], [0, 1, 2], [0, 1, 2], [], []⟩ rfl rfl (by decide +kernel) rfl trivial ?_
        refine CI (F' := [(0, Ptr rb 0), (2, Ptr nb1 0), (3, Ptr nb2 0)]) (by kernel_rfl) ?_
        refine AE (AI (AI (AD (AA (.agg ([U64 (vQ z0 0 8), U64 (vQ z0 8 8), I64 (((vQ z0 16 1).toNat:Int)), Slc gb 0 m cp, .slice none 0 0, U64 0] ++ cu8 (zr8 16)).toArray) (AK rfl (BH A9 AT (by simp [(AP 16)]) (AS 1 rfl (AL _)))) rfl ?_))))
        refine A7 (A3 128 [.agg ([U64 (vQ z0 0 8), U64 (vQ z0 8 8), I64 (((vQ z0 16 1).toNat:Int)), Slc gb 0 m cp, .slice none 0 0, U64 0] ++ cu8 (zr8 16)).toArray] (errV 50 (mayN (vQ z0 0 8) (vQ z0 8 8) (((vQ z0 16 1).toNat:Int)) (ixQ z0 18 m) ([] : List SealR) (0:UInt64))) (AY _ Tryd.call128 rfl) (fun w1 hw1 => may13_c (vQ z0 0 8) (vQ z0 8 8) (((vQ z0 16 1).toNat:Int)) (some ⟨gb, 0, none⟩) m cp (ixQ z0 18 m) none 0 0 ([] : List SealR) (0:UInt64) (zr8 16) w1 (FJ _ _ _) (by omega) (by omega) (by omega) (RdV.of hw1 (AS 2 rfl (A4 (AL _)))) rfl (by omega) (by omega) (by omega) RdV.nil (AP 16))) rfl ?_
        show JL _ _ _ _ ((74, errV 50 (mayN (vQ z0 0 8) (vQ z0 8 8) (((vQ z0 16 1).toNat:Int)) (ixQ z0 18 m) ([] : List SealR) (0:UInt64))) :: _) [_, _, _, _]
        refine AA _ (AG rfl) rfl ?_
        refine AN (AE (AI (AD (AA _ (AH rfl) rfl ?_))))
        refine AA (.bool (!(decide (mayN (vQ z0 0 8) (vQ z0 8 8) (((vQ z0 16 1).toNat:Int)) (ixQ z0 18 m) ([] : List SealR) (0:UInt64) = 0)))) (C2 _ _ _ rfl rfl (fun _ => CJ ..) fun _ => EF A6 _ _) rfl ?_
        refine AN (AE (JC_cut (ι := Option Addr × Nat × Nat) (fun ⟨ab, nv, cb⟩ => [(0, Ptr rb 0), (2, Ptr nb1 0), (3, Ptr nb2 0)]) (fun ⟨ab, nv, cb⟩ => [⟨rb, [errV 50 2, .slice ab nv cb], 204, (0, 0)⟩, ⟨nb1, [U64 0, U64 0, I64 0, .slice none 0 0, .slice none 0 0, U64 0] ++ cu8 (zr8 16), 29, (0, 0)⟩, ⟨nb2, [U64 (vQ z0 0 8), U64 (vQ z0 8 8), I64 (((vQ z0 16 1).toNat:Int)), Slc gb 0 m cp, .slice none 0 0, U64 0] ++ cu8 (zr8 16), 29, (0, 0)⟩]) (fun ⟨ab, nv, cb⟩ => True) ?_ ?_))
        ·
          refine CY (!(decide (mayN (vQ z0 0 8) (vQ z0 8 8) (((vQ z0 16 1).toNat:Int)) (ixQ z0 18 m) ([] : List SealR) (0:UInt64) = 0))) rfl (fun hb52 => ?_) (fun hb52 => ?_)
          ·
            have hb53 : (decide (mayN (vQ z0 0 8) (vQ z0 8 8) (((vQ z0 16 1).toNat:Int)) (ixQ z0 18 m) ([] : List SealR) (0:UInt64) = 0)) = false := by simpa using hb52
            have hp53 : ¬ (mayN (vQ z0 0 8) (vQ z0 8 8) (((vQ z0 16 1).toNat:Int)) (ixQ z0 18 m) ([] : List SealR) (0:UInt64) = 0) := of_decide_eq_false hb53
            refine AD (AA _ (AH rfl) rfl ?_)
            refine AA (.iface 50 (I64 2)) (FF DA rfl rfl) rfl ?_
            refine A1 (FB 121 [Ptr rb 0, .iface 50 (I64 2)] 3 ⟨rb, [errV 50 (eQ z0 (pp + 16)), .slice ao11 zz11.length ca11], 204, (0, 0)⟩ _ (fun v e' l' => v = .tuple #[] ∧ e' = ⟨rb, [errV 50 (erN (eQ z0 (pp + 16)) 2), .slice ao11 zz11.length ca11], 204, (0, 0)⟩ ∧ l' = []) (AY _ Tryd.call121 rfl) rfl (by rintro v l ⟨rfl, rfl⟩; exact ⟨_, _, rfl, rfl, rfl, rfl, rfl⟩) (fun w1 hw1 => FU rb (eQ z0 (pp + 16)) 2 (.slice ao11 zz11.length ca11) w1 (by decide) (hw1.ent _ (List.mem_of_getElem? (i := 3) rfl)))) rfl ?_
            rintro v1 L1 ⟨_, _, ⟨rfl, rfl, rfl⟩, rfl⟩
            show JL _ _ _ _ ((79, .tuple #[]) :: _) [_, _, _, ⟨rb, [errV 50 (erN (eQ z0 (pp + 16)) 2), .slice ao11 zz11.length ca11], 204, (0, 0)⟩]
            refine AN ?_
            rw [show erN (eQ z0 (pp + 16)) 2 = 2 by rw [eQ_bad ‹¬ pp + 16 ≤ z0.length›]; rfl]
            refine E9 [3, 0, 1] (by decide) ?_
            show JQ _ _ _ _ [_, _, _]
            refine E6 ((ao11, zz11.length, ca11)) trivial (Sub.all rfl) rfl
          ·
            have hb54 : (decide (mayN (vQ z0 0 8) (vQ z0 8 8) (((vQ z0 16 1).toNat:Int)) (ixQ z0 18 m) ([] : List SealR) (0:UInt64) = 0)) = true := by simpa using hb52
            have hp54 : mayN (vQ z0 0 8) (vQ z0 8 8) (((vQ z0 16 1).toNat:Int)) (ixQ z0 18 m) ([] : List SealR) (0:UInt64) = 0 := of_decide_eq_true hb54
            refine BT ?_
            rw [show eQ z0 (pp + 16) = 2 by rw [eQ_bad ‹¬ pp + 16 ≤ z0.length›]]
            refine E9 [3, 0, 1] (by decide) ?_
            show JQ _ _ _ _ [_, _, _]
            refine E6 ((ao11, zz11.length, ca11)) trivial (Sub.all rfl) rfl
        ·
          rintro ⟨ab, nv, cb⟩ hx
          obtain _ := hx
          show JQ _ _ _ [(0, Ptr rb 0), (2, Ptr nb1 0), (3, Ptr nb2 0)] [⟨rb, [errV 50 2, .slice ab nv cb], 204, (0, 0)⟩, ⟨nb1, [U64 0, U64 0, I64 0, .slice none 0 0, .slice none 0 0, U64 0] ++ cu8 (zr8 16), 29, (0, 0)⟩, ⟨nb2, [U64 (vQ z0 0 8), U64 (vQ z0 8 8), I64 (((vQ z0 16 1).toNat:Int)), Slc gb 0 m cp, .slice none 0 0, U64 0] ++ cu8 (zr8 16), 29, (0, 0)⟩]
          refine AE (AI (AI (AD (AA _ (AH rfl) rfl ?_))))
          refine A7 (A3 61 [Ptr rb 0] (I64 ((leftN 2 nv:Int))) (AY _ Tryd.call61 rfl) (fun w1 hw1 => left_w rb 2 ab nv cb w1 (RdA.of hw1 (AS 0 rfl (AL _)) (by simp)))) rfl ?_
          show JL _ _ _ _ ((81, I64 ((leftN 2 nv:Int))) :: _) [_, _, _]
          refine AA (.bool (decide (((leftN 2 nv:Int)) = (0:Int)))) (AR rfl rfl fun _ => C9 _ _) rfl ?_
          refine AA _ (AH rfl) rfl ?_
          refine A0 3 83 true _ _ rfl rfl (decide_eq_true (by rw [leftN, if_neg (by decide)]; rfl)) (AH rfl) rfl ?_
          refine EK 3 83 true _ rfl rfl (decide_eq_true (by rw [leftN, if_neg (by decide)]; rfl)) (A3 63 [Ptr rb 0] (errV 50 (endN 2 nv)) (AY _ Tryd.call63 rfl) (fun w1 hw1 => end_w rb 2 ab nv cb w1 (RdA.of hw1 (AS 0 rfl (AL _)) (by simp)))) rfl ?_
          rintro v1 L1 ⟨rfl, rfl⟩
          show JL _ _ _ _ ((85, errV 50 (endN 2 nv)) :: _) [_, _, _]
          refine A0 3 83 true _ (.bool (!(decide (endN 2 nv = 0)))) rfl rfl (decide_eq_true (by rw [leftN, if_neg (by decide)]; rfl)) (C2 _ _ _ rfl rfl (fun _ => CJ ..) fun _ => EF A6 _ _) rfl ?_
          refine AA _ (CN _ rfl (decide_eq_true (by rw [leftN, if_neg (by decide)]; rfl)) rfl) rfl ?_
          refine AN (AE (DJ _ rfl (bnotF (decide_eq_false (by rw [endN, if_neg (by decide)]; exact (by decide)))) ?_))
          refine AI (AD (AA (.agg ([U64 0, U64 0, I64 0, .slice none 0 0, .slice none 0 0, U64 0] ++ cu8 (zr8 16)).toArray) (B8 [] _ rfl (fun _ => by kernel_rfl)) rfl ?_))
          refine A7 (A5 1 nb1 22 ([U64 0, U64 0, I64 0, .slice none 0 0, .slice none 0 0, U64 0] ++ cu8 (zr8 16)) 29 ([U64 0, U64 0, I64 0, .slice none 0 0, .slice none 0 0, U64 0] ++ cu8 (zr8 16)) rfl rfl rfl AT (by simp [(AP 16)]) (CO (by simp [Value.oneCell']) CD) (by simp [(AP 16)]) (BC (by simp [(AP 16), (AP 16)]))) rfl ?_
          show JL _ _ _ _ _ [_, ⟨nb1, [U64 0, U64 0, I64 0, .slice none 0 0, .slice none 0 0, U64 0] ++ cu8 (zr8 16), 29, (0, 0)⟩, _]
          refine AN (AE (BP (BN (CH [true, true, false] ?_))))
          show JQ _ _ _ _ [_, _]
          refine BQ (.agg ([U64 0, U64 0, I64 0, .slice none 0 0, .slice none 0 0, U64 0] ++ cu8 (zr8 16)).toArray) (res1 EU (DU rfl (BH A9 AT (by simp [(AP 16)]) (AS 1 rfl (AL _))))) fun w1 hw1 => ?_
          refine ⟨_, _, rfl, .inr (.inr (.inr ⟨?_, rfl, ab, nv, cb, rfl⟩)), hw1.sub (by simp) (by simp)⟩
          rcases hm3 with hm | hm
          · subst hm
            exact bad2 hk (fun e => by have := e.1; omega)
          · exact bad2 hk (fun e => by have := e.1; omega)
    ·
      obtain ⟨hk, hpp, hm2, hm3, hu7, hu8, hu9, hu2, hu3, hu4, hu5, hu6, hu10, hu11, hu12⟩ := hx
      show JQ _ _ _ [(0, Ptr rb 0), (2, Ptr nb1 0), (3, Ptr nb2 0)] [⟨rb, [errV 50 (eQ z0 pp), .slice aa zz.length cc], 204, (0, 0)⟩, ⟨nb1, [U64 0, U64 0, I64 0, .slice none 0 0, .slice none 0 0, U64 0] ++ cu8 (zr8 16), 29, (0, 0)⟩, ⟨nb2, [U64 (vQ z0 0 8), U64 (vQ z0 8 8), I64 (((vQ z0 16 1).toNat:Int)), Slc gb 0 m cp, Slc gs 0 m cp2, U64 0] ++ cu8 (zr8 16), 29, (0, 0)⟩, ⟨gb, cu64 (ixQ z0 18 m) ++ sp, 22, (0, 0)⟩, ⟨gs, (seQ z0 (4*m + 18) m).flatMap sealC ++ sp2, 161, (0, 0)⟩]
      refine AE (AI (C1 90 3 [(0, Ptr nb2 6), (1, Slc nb2 6 16 16), (2, Ptr rb 0)] BV rfl (by decide +kernel) ?_))
      have hz12 : (zz).length = zz.length := rfl
      refine CR ⟨[], [0, 1, 2], [], [0, 1, 2], [3]⟩ 3 _ rfl rfl (by decide +kernel) rfl ⟨⟨_, rfl, AC rfl (AB 6 27 16 AO rfl BE rfl rfl)⟩, ⟨_, rfl, AC rfl (B3 16 5 1 0 16 6 16 BJ AW rfl rfl rfl (by omega) (by omega) (by omega) (by omega) (by omega) 16 (by omega))⟩, A2 rfl rfl rfl, trivial⟩ rfl (AZ rfl (DN 127 _ [true, false, false, false, false] [rb] _ (AY [Ptr rb 0, I64 16] Tryd.call127 rfl) rfl (fun w1 hw1 => rawA_w rb pp 16 aa zz.length cc z0 zz w1 (hw1.ent _ (List.mem_of_getElem? (i := 0) rfl)) rfl (by omega) (by omega) (by omega) (hu6 _ _ (hr.at (M' := [rb]) hw1 (hw1.apart [0] _ rfl))) hu5 (by omega)))) ?_
      rintro v1 L1 ⟨_, ⟨ao12, zz12, ca12, hq12, ⟨hA12, hb55, hb56, hb57⟩, (⟨hg7, nb13, sp7, cp7, rfl, rfl, hc7, hc8, hc9⟩ | ⟨hg7, rfl, rfl⟩)⟩, rfl⟩
      ·
        refine ⟨[], ?_⟩
        show DP _ _ _ _ _ _ _ _ [_, _, _, _, ⟨rb, [errV 50 (eQ z0 (pp + 16)), .slice ao12 zz12.length ca12], 204, (0, 0)⟩, ⟨nb13, cu8 (bQ z0 pp 16) ++ sp7, 5, (0, 0)⟩]
        refine CQ ⟨[3], [0, 1, 2], [2], [0, 1], [4]⟩ 4 rfl rfl (by decide +kernel) rfl ⟨⟨_, rfl, AC rfl (AB 6 27 16 AO rfl BE rfl rfl)⟩, ⟨_, rfl, AC rfl (B3 16 5 1 0 16 6 16 BJ AW rfl rfl rfl (by omega) (by omega) (by omega) (by omega) (by omega) 16 (by omega))⟩, trivial⟩ rfl (AZ rfl (EW 43 43 5 1 nb2 6 16 16 ([U64 (vQ z0 0 8), U64 (vQ z0 8 8), I64 (((vQ z0 16 1).toNat:Int)), Slc gb 0 m cp, Slc gs 0 m cp2, U64 0] ++ cu8 (zr8 16)) 29 (some ⟨nb13, 0, none⟩) 16 cp7 16 (cu8 (bQ z0 pp 16)) ([U64 (vQ z0 0 8), U64 (vQ z0 8 8), I64 (((vQ z0 16 1).toNat:Int)), Slc gb 0 m cp, Slc gs 0 m cp2, U64 0] ++ cu8 (bQ z0 pp 16)) AM DZ rfl rfl rfl rfl (by simp [(show (bQ z0 pp 16).length = 16 from (B5 _ _ _))]; try omega) (SrcAt.mem (AS 5 rfl (A4 (AL _)))) (by simp [(AP 16)]; try omega) (by first | exact CD | exact D3 | exact D1 | (simp [cu8, cu32, cu64, Value.oneCell']; done)) (GD 6 0 rfl rfl (BC (by simp [(AP 16), (show (bQ z0 pp 16).length = 16 from (B5 _ _ _))]))))) ?_
        show DP _ _ _ _ _ _ _ _ [_, ⟨nb2, [U64 (vQ z0 0 8), U64 (vQ z0 8 8), I64 (((vQ z0 16 1).toNat:Int)), Slc gb 0 m cp, Slc gs 0 m cp2, U64 0] ++ cu8 (bQ z0 pp 16), 29, (0, 0)⟩, _, _, _, _]
        refine C4 ⟨[3, 4], [0, 1, 2], [0, 1, 2], [], []⟩ rfl rfl (by decide +kernel) rfl trivial ?_
        refine CI (F' := [(0, Ptr rb 0), (2, Ptr nb1 0), (3, Ptr nb2 0)]) (by kernel_rfl) ?_
        refine AE (AI (AI (AD (AA (.agg ([U64 (vQ z0 0 8), U64 (vQ z0 8 8), I64 (((vQ z0 16 1).toNat:Int)), Slc gb 0 m cp, Slc gs 0 m cp2, U64 0] ++ cu8 (bQ z0 pp 16)).toArray) (AK rfl (BH A9 AT (by simp [(show (bQ z0 pp 16).length = 16 from (B5 _ _ _))]) (AS 1 rfl (AL _)))) rfl ?_))))
        refine A7 (A3 128 [.agg ([U64 (vQ z0 0 8), U64 (vQ z0 8 8), I64 (((vQ z0 16 1).toNat:Int)), Slc gb 0 m cp, Slc gs 0 m cp2, U64 0] ++ cu8 (bQ z0 pp 16)).toArray] (errV 50 (mayN (vQ z0 0 8) (vQ z0 8 8) (((vQ z0 16 1).toNat:Int)) (ixQ z0 18 m) (seQ z0 (4*m + 18) m) (0:UInt64))) (AY _ Tryd.call128 rfl) (fun w1 hw1 => may13_c (vQ z0 0 8) (vQ z0 8 8) (((vQ z0 16 1).toNat:Int)) (some ⟨gb, 0, none⟩) m cp (ixQ z0 18 m) (some ⟨gs, 0, none⟩) m cp2 (seQ z0 (4*m + 18) m) (0:UInt64) (bQ z0 pp 16) w1 (FJ _ _ _) (by omega) (by omega) (by omega) (RdV.of hw1 (AS 2 rfl (A4 (AL _)))) (seQ_len _ _ _) (by omega) (by omega) (by omega) (RdV.of hw1 (AS 3 rfl (A4 (AL _)))) (show (bQ z0 pp 16).length = 16 from (B5 _ _ _)))) rfl ?_
        show JL _ _ _ _ ((74, errV 50 (mayN (vQ z0 0 8) (vQ z0 8 8) (((vQ z0 16 1).toNat:Int)) (ixQ z0 18 m) (seQ z0 (4*m + 18) m) (0:UInt64))) :: _) [_, _, _, _, _, _]
        refine AA _ (AG rfl) rfl ?_
        refine AN (AE (AI (AD (AA _ (AH rfl) rfl ?_))))
        refine AA (.bool (!(decide (mayN (vQ z0 0 8) (vQ z0 8 8) (((vQ z0 16 1).toNat:Int)) (ixQ z0 18 m) (seQ z0 (4*m + 18) m) (0:UInt64) = 0)))) (C2 _ _ _ rfl rfl (fun _ => CJ ..) fun _ => EF A6 _ _) rfl ?_
        refine AN (AE (CY (!(decide (mayN (vQ z0 0 8) (vQ z0 8 8) (((vQ z0 16 1).toNat:Int)) (ixQ z0 18 m) (seQ z0 (4*m + 18) m) (0:UInt64) = 0))) rfl (fun hb58 => ?_) (fun hb58 => ?_)))
        ·
          have hb59 : (decide (mayN (vQ z0 0 8) (vQ z0 8 8) (((vQ z0 16 1).toNat:Int)) (ixQ z0 18 m) (seQ z0 (4*m + 18) m) (0:UInt64) = 0)) = false := by simpa using hb58
          have hp59 : ¬ (mayN (vQ z0 0 8) (vQ z0 8 8) (((vQ z0 16 1).toNat:Int)) (ixQ z0 18 m) (seQ z0 (4*m + 18) m) (0:UInt64) = 0) := of_decide_eq_false hb59
          refine AD (AA _ (AH rfl) rfl ?_)
          refine AA (.iface 50 (I64 2)) (FF DA rfl rfl) rfl ?_
          refine A1 (FB 121 [Ptr rb 0, .iface 50 (I64 2)] 4 ⟨rb, [errV 50 (eQ z0 (pp + 16)), .slice ao12 zz12.length ca12], 204, (0, 0)⟩ _ (fun v e' l' => v = .tuple #[] ∧ e' = ⟨rb, [errV 50 (erN (eQ z0 (pp + 16)) 2), .slice ao12 zz12.length ca12], 204, (0, 0)⟩ ∧ l' = []) (AY _ Tryd.call121 rfl) rfl (by rintro v l ⟨rfl, rfl⟩; exact ⟨_, _, rfl, rfl, rfl, rfl, rfl⟩) (fun w1 hw1 => FU rb (eQ z0 (pp + 16)) 2 (.slice ao12 zz12.length ca12) w1 (by decide) (hw1.ent _ (List.mem_of_getElem? (i := 4) rfl)))) rfl ?_
          rintro v1 L1 ⟨_, _, ⟨rfl, rfl, rfl⟩, rfl⟩
          show JL _ _ _ _ ((79, .tuple #[]) :: _) [_, _, _, _, ⟨rb, [errV 50 (erN (eQ z0 (pp + 16)) 2), .slice ao12 zz12.length ca12], 204, (0, 0)⟩, _]
          refine AN (AE (AI (AI (AD (AA _ (AH rfl) rfl ?_)))))
          refine A7 (A3 61 [Ptr rb 0] (I64 ((leftN (erN (eQ z0 (pp + 16)) 2) zz12.length:Int))) (AY _ Tryd.call61 rfl) (fun w1 hw1 => left_w rb (erN (eQ z0 (pp + 16)) 2) ao12 zz12.length ca12 w1 (RdA.of hw1 (AS 4 rfl (AL _)) (by simp)))) rfl ?_
          show JL _ _ _ _ ((81, I64 ((leftN (erN (eQ z0 (pp + 16)) 2) zz12.length:Int))) :: _) [_, _, _, _, _, _]
          refine AA (.bool (decide (((leftN (erN (eQ z0 (pp + 16)) 2) zz12.length:Int)) = (0:Int)))) (AR rfl rfl fun _ => C9 _ _) rfl ?_
          refine AA _ (AH rfl) rfl ?_
          refine A0 3 83 true _ _ rfl rfl (decide_eq_true (by rw [leftN, if_neg (erQ_ne (by decide))]; rfl)) (AH rfl) rfl ?_
          refine EK 3 83 true _ rfl rfl (decide_eq_true (by rw [leftN, if_neg (erQ_ne (by decide))]; rfl)) (A3 63 [Ptr rb 0] (errV 50 (endN (erN (eQ z0 (pp + 16)) 2) zz12.length)) (AY _ Tryd.call63 rfl) (fun w1 hw1 => end_w rb (erN (eQ z0 (pp + 16)) 2) ao12 zz12.length ca12 w1 (RdA.of hw1 (AS 4 rfl (AL _)) (by simp)))) rfl ?_
          rintro v1 L1 ⟨rfl, rfl⟩
          show JL _ _ _ _ ((85, errV 50 (endN (erN (eQ z0 (pp + 16)) 2) zz12.length)) :: _) [_, _, _, _, _, _]
          refine A0 3 83 true _ (.bool (!(decide (endN (erN (eQ z0 (pp + 16)) 2) zz12.length = 0)))) rfl rfl (decide_eq_true (by rw [leftN, if_neg (erQ_ne (by decide))]; rfl)) (C2 _ _ _ rfl rfl (fun _ => CJ ..) fun _ => EF A6 _ _) rfl ?_
          refine AA _ (CN _ rfl (decide_eq_true (by rw [leftN, if_neg (erQ_ne (by decide))]; rfl)) rfl) rfl ?_
          refine AN (AE (DJ _ rfl (bnotF (decide_eq_false (by rw [endN, if_neg (erQ_ne (by decide))]; exact (erQ_ne (by decide))))) ?_))
          refine AI (AD (AA (.agg ([U64 0, U64 0, I64 0, .slice none 0 0, .slice none 0 0, U64 0] ++ cu8 (zr8 16)).toArray) (B8 [] _ rfl (fun _ => by kernel_rfl)) rfl ?_))
          refine A7 (A5 0 nb1 22 ([U64 0, U64 0, I64 0, .slice none 0 0, .slice none 0 0, U64 0] ++ cu8 (zr8 16)) 29 ([U64 0, U64 0, I64 0, .slice none 0 0, .slice none 0 0, U64 0] ++ cu8 (zr8 16)) rfl rfl rfl AT (by simp [(AP 16)]) (CO (by simp [Value.oneCell']) CD) (by simp [(AP 16)]) (BC (by simp [(AP 16), (AP 16)]))) rfl ?_
          show JL _ _ _ _ _ [⟨nb1, [U64 0, U64 0, I64 0, .slice none 0 0, .slice none 0 0, U64 0] ++ cu8 (zr8 16), 29, (0, 0)⟩, _, _, _, _, _]
          refine AN (AE (BP (BN (CH [true, false, false, false, true, false] ?_))))
          show JQ _ _ _ _ [_, _]
          refine BQ (.agg ([U64 0, U64 0, I64 0, .slice none 0 0, .slice none 0 0, U64 0] ++ cu8 (zr8 16)).toArray) (res1 EU (DU rfl (BH A9 AT (by simp [(AP 16)]) (AS 0 rfl (AL _))))) fun w1 hw1 => ?_
          rw [show erN (eQ z0 (pp + 16)) 2 = 2 by rw [eQ_ok ‹pp + 16 ≤ z0.length›]; rfl] at hw1
          refine ⟨_, _, rfl, .inr (.inr (.inr ⟨?_, rfl, ao12, zz12.length, ca12, rfl⟩)), hw1.sub (by simp) (by simp)⟩
          rcases hm3 with hm | hm
          · subst hm
            exact bad1 hk (fun e => by exact (of_decide_eq_false hb59) e.2)
          · exact bad1 hk (fun e => by have := e.1; omega)
        ·
          have hb60 : (decide (mayN (vQ z0 0 8) (vQ z0 8 8) (((vQ z0 16 1).toNat:Int)) (ixQ z0 18 m) (seQ z0 (4*m + 18) m) (0:UInt64) = 0)) = true := by simpa using hb58
          have hp60 : mayN (vQ z0 0 8) (vQ z0 8 8) (((vQ z0 16 1).toNat:Int)) (ixQ z0 18 m) (seQ z0 (4*m + 18) m) (0:UInt64) = 0 := of_decide_eq_true hb60
          refine BT (AE (AI (AI (AD (AA _ (AH rfl) rfl ?_)))))
          refine A7 (A3 61 [Ptr rb 0] (I64 ((leftN (eQ z0 (pp + 16)) zz12.length:Int))) (AY _ Tryd.call61 rfl) (fun w1 hw1 => left_w rb (eQ z0 (pp + 16)) ao12 zz12.length ca12 w1 (RdA.of hw1 (AS 4 rfl (AL _)) (by simp)))) rfl ?_
          show JL _ _ _ _ ((81, I64 ((leftN (eQ z0 (pp + 16)) zz12.length:Int))) :: _) [_, _, _, _, _, _]
          refine AA (.bool (decide (((leftN (eQ z0 (pp + 16)) zz12.length:Int)) = (0:Int)))) (AR rfl rfl fun _ => C9 _ _) rfl ?_
          refine AA _ (AH rfl) rfl ?_
          rcases Bool.eq_false_or_eq_true (decide (((leftN (eQ z0 (pp + 16)) zz12.length:Int)) = (0:Int))) with hb61 | hb61
          ·
            have hp61 : ((leftN (eQ z0 (pp + 16)) zz12.length:Int)) = (0:Int) := of_decide_eq_true hb61
            refine A0 3 83 true _ _ rfl rfl hb61 (AH rfl) rfl ?_
            refine EK 3 83 true _ rfl rfl hb61 (A3 63 [Ptr rb 0] (errV 50 (endN (eQ z0 (pp + 16)) zz12.length)) (AY _ Tryd.call63 rfl) (fun w1 hw1 => end_w rb (eQ z0 (pp + 16)) ao12 zz12.length ca12 w1 (RdA.of hw1 (AS 4 rfl (AL _)) (by simp)))) rfl ?_
            rintro v1 L1 ⟨rfl, rfl⟩
            show JL _ _ _ _ ((85, errV 50 (endN (eQ z0 (pp + 16)) zz12.length)) :: _) [_, _, _, _, _, _]
            refine A0 3 83 true _ (.bool (!(decide (endN (eQ z0 (pp + 16)) zz12.length = 0)))) rfl rfl hb61 (C2 _ _ _ rfl rfl (fun _ => CJ ..) fun _ => EF A6 _ _) rfl ?_
            refine AA _ (CN _ rfl hb61 rfl) rfl ?_
            refine AN (AE (CK _ rfl (bnotT (decide_eq_true (by have h9 := of_decide_eq_true hb61; rw [eQ_ok ‹pp + 16 ≤ z0.length›, leftN, if_pos rfl] at h9; rw [eQ_ok ‹pp + 16 ≤ z0.length›, endN, if_pos rfl, if_pos (by omega)]))) ?_))
            refine BT (AE (AI (AD (AA (.agg ([U64 (vQ z0 0 8), U64 (vQ z0 8 8), I64 (((vQ z0 16 1).toNat:Int)), Slc gb 0 m cp, Slc gs 0 m cp2, U64 0] ++ cu8 (bQ z0 pp 16)).toArray) (AK rfl (BH A9 AT (by simp [(show (bQ z0 pp 16).length = 16 from (B5 _ _ _))]) (AS 1 rfl (AL _)))) rfl ?_))))
            refine A7 (A5 0 nb1 22 ([U64 0, U64 0, I64 0, .slice none 0 0, .slice none 0 0, U64 0] ++ cu8 (zr8 16)) 29 ([U64 (vQ z0 0 8), U64 (vQ z0 8 8), I64 (((vQ z0 16 1).toNat:Int)), Slc gb 0 m cp, Slc gs 0 m cp2, U64 0] ++ cu8 (bQ z0 pp 16)) rfl rfl rfl AT (by simp [(show (bQ z0 pp 16).length = 16 from (B5 _ _ _))]) (CO (by simp [Value.oneCell']) CD) (by simp [(AP 16)]) (BC (by simp [(AP 16), (show (bQ z0 pp 16).length = 16 from (B5 _ _ _))]))) rfl ?_
            show JL _ _ _ _ _ [⟨nb1, [U64 (vQ z0 0 8), U64 (vQ z0 8 8), I64 (((vQ z0 16 1).toNat:Int)), Slc gb 0 m cp, Slc gs 0 m cp2, U64 0] ++ cu8 (bQ z0 pp 16), 29, (0, 0)⟩, _, _, _, _, _]
            refine AN (AE (BP (CH [true, false, true, true, true, false] ?_)))
            show JQ _ _ _ _ [_, _, _, _]
            refine BQ (.agg ([U64 (vQ z0 0 8), U64 (vQ z0 8 8), I64 (((vQ z0 16 1).toNat:Int)), Slc gb 0 m cp, Slc gs 0 m cp2, U64 0] ++ cu8 (bQ z0 pp 16)).toArray) (res1 EU (DU rfl (BH A9 AT (by simp [(show (bQ z0 pp 16).length = 16 from (B5 _ _ _))]) (AS 0 rfl (AL _))))) fun w1 hw1 => ?_
            rw [show errV 50 (eQ z0 (pp + 16)) = .nilIface by rw [eQ_ok ‹pp + 16 ≤ z0.length›]; rfl] at hw1
            obtain rfl : m = mQ z0 := by omega
            subst hpp
            exact ⟨_, _, rfl, .inr (.inr (.inl ⟨⟨hk, by omega, of_decide_eq_true hb60⟩, ao12, zz12, ca12, gb, sp, cp, gs, sp2, cp2, (fun h8 => (hq12 (by omega)).trans (by congr 1 <;> omega)), ⟨(fun w M h => hA12 w M (hu6 w M h)), by omega, by omega, by omega⟩, rfl, rfl, hu2, hu3, hu4, hu7, hu8, hu9⟩)), hw1.sub (by simp) (by have hd0 : rb ≠ gb := hw1.ne (i := 3) (j := 1) rfl rfl (by decide); have hd1 : rb ≠ gs := hw1.ne (i := 3) (j := 2) rfl rfl (by decide); have hd2 : gb ≠ gs := hw1.ne (i := 1) (j := 2) rfl rfl (by decide); simp [hd0, hd1, hd2])⟩
          ·
            have hp61 : ¬ (((leftN (eQ z0 (pp + 16)) zz12.length:Int)) = (0:Int)) := of_decide_eq_false hb61
            refine AQ 3 83 true _ rfl rfl hb61 rfl ?_
            refine AQ 3 83 true _ rfl rfl hb61 rfl ?_
            refine AQ 3 83 true _ rfl rfl hb61 rfl ?_
            refine AA _ (BU _ rfl hb61 rfl) rfl ?_
            refine AN (AE (CK _ rfl rfl ?_))
            refine BT (AE (AI (AD (AA (.agg ([U64 (vQ z0 0 8), U64 (vQ z0 8 8), I64 (((vQ z0 16 1).toNat:Int)), Slc gb 0 m cp, Slc gs 0 m cp2, U64 0] ++ cu8 (bQ z0 pp 16)).toArray) (AK rfl (BH A9 AT (by simp [(show (bQ z0 pp 16).length = 16 from (B5 _ _ _))]) (AS 1 rfl (AL _)))) rfl ?_))))
            refine A7 (A5 0 nb1 22 ([U64 0, U64 0, I64 0, .slice none 0 0, .slice none 0 0, U64 0] ++ cu8 (zr8 16)) 29 ([U64 (vQ z0 0 8), U64 (vQ z0 8 8), I64 (((vQ z0 16 1).toNat:Int)), Slc gb 0 m cp, Slc gs 0 m cp2, U64 0] ++ cu8 (bQ z0 pp 16)) rfl rfl rfl AT (by simp [(show (bQ z0 pp 16).length = 16 from (B5 _ _ _))]) (CO (by simp [Value.oneCell']) CD) (by simp [(AP 16)]) (BC (by simp [(AP 16), (show (bQ z0 pp 16).length = 16 from (B5 _ _ _))]))) rfl ?_
            show JL _ _ _ _ _ [⟨nb1, [U64 (vQ z0 0 8), U64 (vQ z0 8 8), I64 (((vQ z0 16 1).toNat:Int)), Slc gb 0 m cp, Slc gs 0 m cp2, U64 0] ++ cu8 (bQ z0 pp 16), 29, (0, 0)⟩, _, _, _, _, _]
            refine AN (AE (BP (CH [true, false, true, true, true, false] ?_)))
            show JQ _ _ _ _ [_, _, _, _]
            refine BQ (.agg ([U64 (vQ z0 0 8), U64 (vQ z0 8 8), I64 (((vQ z0 16 1).toNat:Int)), Slc gb 0 m cp, Slc gs 0 m cp2, U64 0] ++ cu8 (bQ z0 pp 16)).toArray) (res1 EU (DU rfl (BH A9 AT (by simp [(show (bQ z0 pp 16).length = 16 from (B5 _ _ _))]) (AS 0 rfl (AL _))))) fun w1 hw1 => ?_
            rw [show errV 50 (eQ z0 (pp + 16)) = .nilIface by rw [eQ_ok ‹pp + 16 ≤ z0.length›]; rfl] at hw1
            obtain rfl : m = mQ z0 := by omega
            subst hpp
            exact ⟨_, _, rfl, .inr (.inr (.inl ⟨⟨hk, by omega, of_decide_eq_true hb60⟩, ao12, zz12, ca12, gb, sp, cp, gs, sp2, cp2, (fun h8 => (hq12 (by omega)).trans (by congr 1 <;> omega)), ⟨(fun w M h => hA12 w M (hu6 w M h)), by omega, by omega, by omega⟩, rfl, rfl, hu2, hu3, hu4, hu7, hu8, hu9⟩)), hw1.sub (by simp) (by have hd0 : rb ≠ gb := hw1.ne (i := 3) (j := 1) rfl rfl (by decide); have hd1 : rb ≠ gs := hw1.ne (i := 3) (j := 2) rfl rfl (by decide); have hd2 : gb ≠ gs := hw1.ne (i := 1) (j := 2) rfl rfl (by decide); simp [hd0, hd1, hd2])⟩
      ·
        refine ⟨[], ?_⟩
        show DP _ _ _ _ _ _ _ _ [_, _, _, _, ⟨rb, [errV 50 (eQ z0 (pp + 16)), .slice ao12 zz12.length ca12], 204, (0, 0)⟩]
        refine CQ ⟨[3], [0, 1, 2], [2], [0, 1], [4]⟩ 4 rfl rfl (by decide +kernel) rfl ⟨⟨_, rfl, AC rfl (AB 6 27 16 AO rfl BE rfl rfl)⟩, ⟨_, rfl, AC rfl (B3 16 5 1 0 16 6 16 BJ AW rfl rfl rfl (by omega) (by omega) (by omega) (by omega) (by omega) 16 (by omega))⟩, trivial⟩ rfl (AZ rfl (EW 43 43 5 1 nb2 6 16 16 ([U64 (vQ z0 0 8), U64 (vQ z0 8 8), I64 (((vQ z0 16 1).toNat:Int)), Slc gb 0 m cp, Slc gs 0 m cp2, U64 0] ++ cu8 (zr8 16)) 29 none 0 0 0 [] ([U64 (vQ z0 0 8), U64 (vQ z0 8 8), I64 (((vQ z0 16 1).toNat:Int)), Slc gb 0 m cp, Slc gs 0 m cp2, U64 0] ++ cu8 (zr8 16)) AM DZ rfl rfl rfl rfl rfl SrcAt.nil (by simp [(AP 16)]) one_nil (lay_nil _ _))) ?_
        show DP _ _ _ _ _ _ _ _ [_, _, _, _, _]
        refine C4 ⟨[3, 4], [0, 1, 2], [0, 1, 2], [], []⟩ rfl rfl (by decide +kernel) rfl trivial ?_
        refine CI (F' := [(0, Ptr rb 0), (2, Ptr nb1 0), (3, Ptr nb2 0)]) (by kernel_rfl) ?_
        refine AE (AI (AI (AD (AA (.agg ([U64 (vQ z0 0 8), U64 (vQ z0 8 8), I64 (((vQ z0 16 1).toNat:Int)), Slc gb 0 m cp, Slc gs 0 m cp2, U64 0] ++ cu8 (zr8 16)).toArray) (AK rfl (BH A9 AT (by simp [(AP 16)]) (AS 1 rfl (AL _)))) rfl ?_))))
        refine A7 (A3 128 [.agg ([U64 (vQ z0 0 8), U64 (vQ z0 8 8), I64 (((vQ z0 16 1).toNat:Int)), Slc gb 0 m cp, Slc gs 0 m cp2, U64 0] ++ cu8 (zr8 16)).toArray] (errV 50 (mayN (vQ z0 0 8) (vQ z0 8 8) (((vQ z0 16 1).toNat:Int)) (ixQ z0 18 m) (seQ z0 (4*m + 18) m) (0:UInt64))) (AY _ Tryd.call128 rfl) (fun w1 hw1 => may13_c (vQ z0 0 8) (vQ z0 8 8) (((vQ z0 16 1).toNat:Int)) (some ⟨gb, 0, none⟩) m cp (ixQ z0 18 m) (some ⟨gs, 0, none⟩) m cp2 (seQ z0 (4*m + 18) m) (0:UInt64) (zr8 16) w1 (FJ _ _ _) (by omega) (by omega) (by omega) (RdV.of hw1 (AS 2 rfl (A4 (AL _)))) (seQ_len _ _ _) (by omega) (by omega) (by omega) (RdV.of hw1 (AS 3 rfl (A4 (AL _)))) (AP 16))) rfl ?_
        show JL _ _ _ _ ((74, errV 50 (mayN (vQ z0 0 8) (vQ z0 8 8) (((vQ z0 16 1).toNat:Int)) (ixQ z0 18 m) (seQ z0 (4*m + 18) m) (0:UInt64))) :: _) [_, _, _, _, _]
        refine AA _ (AG rfl) rfl ?_
        refine AN (AE (AI (AD (AA _ (AH rfl) rfl ?_))))
        refine AA (.bool (!(decide (mayN (vQ z0 0 8) (vQ z0 8 8) (((vQ z0 16 1).toNat:Int)) (ixQ z0 18 m) (seQ z0 (4*m + 18) m) (0:UInt64) = 0)))) (C2 _ _ _ rfl rfl (fun _ => CJ ..) fun _ => EF A6 _ _) rfl ?_
        refine AN (AE (JC_cut (ι := Option Addr × Nat × Nat) (fun ⟨ab, nv, cb⟩ => [(0, Ptr rb 0), (2, Ptr nb1 0), (3, Ptr nb2 0)]) (fun ⟨ab, nv, cb⟩ => [⟨rb, [errV 50 2, .slice ab nv cb], 204, (0, 0)⟩, ⟨nb1, [U64 0, U64 0, I64 0, .slice none 0 0, .slice none 0 0, U64 0] ++ cu8 (zr8 16), 29, (0, 0)⟩, ⟨nb2, [U64 (vQ z0 0 8), U64 (vQ z0 8 8), I64 (((vQ z0 16 1).toNat:Int)), Slc gb 0 m cp, Slc gs 0 m cp2, U64 0] ++ cu8 (zr8 16), 29, (0, 0)⟩]) (fun ⟨ab, nv, cb⟩ => True) ?_ ?_))
        ·
          refine CY (!(decide (mayN (vQ z0 0 8) (vQ z0 8 8) (((vQ z0 16 1).toNat:Int)) (ixQ z0 18 m) (seQ z0 (4*m + 18) m) (0:UInt64) = 0))) rfl (fun hb62 => ?_) (fun hb62 => ?_)
          ·
            have hb63 : (decide (mayN (vQ z0 0 8) (vQ z0 8 8) (((vQ z0 16 1).toNat:Int)) (ixQ z0 18 m) (seQ z0 (4*m + 18) m) (0:UInt64) = 0)) = false := by simpa using hb62
            have hp63 : ¬ (mayN (vQ z0 0 8) (vQ z0 8 8) (((vQ z0 16 1).toNat:Int)) (ixQ z0 18 m) (seQ z0 (4*m + 18) m) (0:UInt64) = 0) := of_decide_eq_false hb63
            refine AD (AA _ (AH rfl) rfl ?_)
            refine AA (.iface 50 (I64 2)) (FF DA rfl rfl) rfl ?_
            refine A1 (FB 121 [Ptr rb 0, .iface 50 (I64 2)] 4 ⟨rb, [errV 50 (eQ z0 (pp + 16)), .slice ao12 zz12.length ca12], 204, (0, 0)⟩ _ (fun v e' l' => v = .tuple #[] ∧ e' = ⟨rb, [errV 50 (erN (eQ z0 (pp + 16)) 2), .slice ao12 zz12.length ca12], 204, (0, 0)⟩ ∧ l' = []) (AY _ Tryd.call121 rfl) rfl (by rintro v l ⟨rfl, rfl⟩; exact ⟨_, _, rfl, rfl, rfl, rfl, rfl⟩) (fun w1 hw1 => FU rb (eQ z0 (pp + 16)) 2 (.slice ao12 zz12.length ca12) w1 (by decide) (hw1.ent _ (List.mem_of_getElem? (i := 4) rfl)))) rfl ?_
            rintro v1 L1 ⟨_, _, ⟨rfl, rfl, rfl⟩, rfl⟩
            show JL _ _ _ _ ((79, .tuple #[]) :: _) [_, _, _, _, ⟨rb, [errV 50 (erN (eQ z0 (pp + 16)) 2), .slice ao12 zz12.length ca12], 204, (0, 0)⟩]
            refine AN ?_
            rw [show erN (eQ z0 (pp + 16)) 2 = 2 by rw [eQ_bad ‹¬ pp + 16 ≤ z0.length›]; rfl]
            refine E9 [4, 0, 1] (by decide) ?_
            show JQ _ _ _ _ [_, _, _]
            refine E6 ((ao12, zz12.length, ca12)) trivial (Sub.all rfl) rfl
          ·
            have hb64 : (decide (mayN (vQ z0 0 8) (vQ z0 8 8) (((vQ z0 16 1).toNat:Int)) (ixQ z0 18 m) (seQ z0 (4*m + 18) m) (0:UInt64) = 0)) = true := by simpa using hb62
            have hp64 : mayN (vQ z0 0 8) (vQ z0 8 8) (((vQ z0 16 1).toNat:Int)) (ixQ z0 18 m) (seQ z0 (4*m + 18) m) (0:UInt64) = 0 := of_decide_eq_true hb64
            refine BT ?_
            rw [show eQ z0 (pp + 16) = 2 by rw [eQ_bad ‹¬ pp + 16 ≤ z0.length›]]
            refine E9 [4, 0, 1] (by decide) ?_
            show JQ _ _ _ _ [_, _, _]
            refine E6 ((ao12, zz12.length, ca12)) trivial (Sub.all rfl) rfl
        ·
          rintro ⟨ab, nv, cb⟩ hx
          obtain _ := hx
          show JQ _ _ _ [(0, Ptr rb 0), (2, Ptr nb1 0), (3, Ptr nb2 0)] [⟨rb, [errV 50 2, .slice ab nv cb], 204, (0, 0)⟩, ⟨nb1, [U64 0, U64 0, I64 0, .slice none 0 0, .slice none 0 0, U64 0] ++ cu8 (zr8 16), 29, (0, 0)⟩, ⟨nb2, [U64 (vQ z0 0 8), U64 (vQ z0 8 8), I64 (((vQ z0 16 1).toNat:Int)), Slc gb 0 m cp, Slc gs 0 m cp2, U64 0] ++ cu8 (zr8 16), 29, (0, 0)⟩]
          refine AE (AI (AI (AD (AA _ (AH rfl) rfl ?_))))
          refine A7 (A3 61 [Ptr rb 0] (I64 ((leftN 2 nv:Int))) (AY _ Tryd.call61 rfl) (fun w1 hw1 => left_w rb 2 ab nv cb w1 (RdA.of hw1 (AS 0 rfl (AL _)) (by simp)))) rfl ?_
          show JL _ _ _ _ ((81, I64 ((leftN 2 nv:Int))) :: _) [_, _, _]
          refine AA (.bool (decide (((leftN 2 nv:Int)) = (0:Int)))) (AR rfl rfl fun _ => C9 _ _) rfl ?_
          refine AA _ (AH rfl) rfl ?_
          refine A0 3 83 true _ _ rfl rfl (decide_eq_true (by rw [leftN, if_neg (by decide)]; rfl)) (AH rfl) rfl ?_
          refine EK 3 83 true _ rfl rfl (decide_eq_true (by rw [leftN, if_neg (by decide)]; rfl)) (A3 63 [Ptr rb 0] (errV 50 (endN 2 nv)) (AY _ Tryd.call63 rfl) (fun w1 hw1 => end_w rb 2 ab nv cb w1 (RdA.of hw1 (AS 0 rfl (AL _)) (by simp)))) rfl ?_
          rintro v1 L1 ⟨rfl, rfl⟩
          show JL _ _ _ _ ((85, errV 50 (endN 2 nv)) :: _) [_, _, _]
          refine A0 3 83 true _ (.bool (!(decide (endN 2 nv = 0)))) rfl rfl (decide_eq_true (by rw [leftN, if_neg (by decide)]; rfl)) (C2 _ _ _ rfl rfl (fun _ => CJ ..) fun _ => EF A6 _ _) rfl ?_
          refine AA _ (CN _ rfl (decide_eq_true (by rw [leftN, if_neg (by decide)]; rfl)) rfl) rfl ?_
          refine AN (AE (DJ _ rfl (bnotF (decide_eq_false (by rw [endN, if_neg (by decide)]; exact (by decide)))) ?_))
          refine AI (AD (AA (.agg ([U64 0, U64 0, I64 0, .slice none 0 0, .slice none 0 0, U64 0] ++ cu8 (zr8 16)).toArray) (B8 [] _ rfl (fun _ => by kernel_rfl)) rfl ?_))
          refine A7 (A5 1 nb1 22 ([U64 0, U64 0, I64 0, .slice none 0 0, .slice none 0 0, U64 0] ++ cu8 (zr8 16)) 29 ([U64 0, U64 0, I64 0, .slice none 0 0, .slice none 0 0, U64 0] ++ cu8 (zr8 16)) rfl rfl rfl AT (by simp [(AP 16)]) (CO (by simp [Value.oneCell']) CD) (by simp [(AP 16)]) (BC (by simp [(AP 16), (AP 16)]))) rfl ?_
          show JL _ _ _ _ _ [_, ⟨nb1, [U64 0, U64 0, I64 0, .slice none 0 0, .slice none 0 0, U64 0] ++ cu8 (zr8 16), 29, (0, 0)⟩, _]
          refine AN (AE (BP (BN (CH [true, true, false] ?_))))
          show JQ _ _ _ _ [_, _]
          refine BQ (.agg ([U64 0, U64 0, I64 0, .slice none 0 0, .slice none 0 0, U64 0] ++ cu8 (zr8 16)).toArray) (res1 EU (DU rfl (BH A9 AT (by simp [(AP 16)]) (AS 1 rfl (AL _))))) fun w1 hw1 => ?_
          refine ⟨_, _, rfl, .inr (.inr (.inr ⟨?_, rfl, ab, nv, cb, rfl⟩)), hw1.sub (by simp) (by simp)⟩
          rcases hm3 with hm | hm
          · subst hm
            exact bad1 hk (fun e => by have := e.1; omega)
          · exact bad1 hk (fun e => by have := e.1; omega)
theorem tread3_w (rb : Nat) (ao : Option Addr) (n c : Nat) (z : List UInt8) (w : World) (h0 : w.heap[rb]? = some (.cells [.nilIface, .slice ao n c].toArray 204 (0, 0))) (hz : z.length = n) (hn : n ≤ 2000000000) (hc : n ≤ c) (hcm : c ≤ maxLen) (hr : RdB w [rb] ao z) (k : Nat) (hok : Ok3 z) (hk : 41 + k = n) : Calls Tryd.prog 60 #[Ptr rb 0] w (Post w [rb] (fun v L => ∃ ao' c', v = .agg ([U64 (vQ z 0 8), U64 (vQ z 8 8), I64 (((vQ z 16 1).toNat:Int)), .slice none 0 0, .slice none 0 0, U64 (vQ z 17 8)] ++ cu8 (bQ z 25 16)).toArray ∧ L = [⟨rb, [.nilIface, .slice ao' k c'], 204, (0, 0)⟩] ∧ k ≤ c' ∧ c' ≤ maxLen)) := by
  refine (tread_c rb ao n c z z w (by rw [(show errV 50 (eQ z 0) = .nilIface by rw [eQ_ok (Nat.zero_le _)]; rfl)]; exact h0) hz hn hc hcm hr (Lq.zero z)).mono ?_
  rintro E W ⟨v, L, rfl, (⟨o1, ao', z', c', hq, hA, rfl, rfl⟩ | ⟨o1, _⟩ | ⟨o1, _⟩ | ⟨hb, _⟩), hw⟩
  · obtain rfl := hq (by omega)
    have hl : (z.drop (41)).length = k := by rw [List.length_drop]; omega
    exact ⟨_, _, rfl, ⟨ao', c', rfl, by rw [hl], (by have := hA.2.1; omega), hA.2.2.1⟩, hw⟩
  · exact absurd (hok.1.symm.trans o1.1) (by decide)
  · exact absurd (hok.1.symm.trans o1.1) (by decide)
  · exact absurd hok hb.2.2
theorem tread2_w (rb : Nat) (ao : Option Addr) (n c : Nat) (z : List UInt8) (w : World) (h0 : w.heap[rb]? = some (.cells [.nilIface, .slice ao n c].toArray 204 (0, 0))) (hz : z.length = n) (hn : n ≤ 2000000000) (hc : n ≤ c) (hcm : c ≤ maxLen) (hr : RdB w [rb] ao z) (k : Nat) (hok : Ok2 z) (hk : 4*mQ z + 34 + k = n) : Calls Tryd.prog 60 #[Ptr rb 0] w (Post w [rb] (fun v L => ∃ ao' c' g sp cap, v = .agg ([U64 (vQ z 0 8), U64 (vQ z 8 8), I64 (((vQ z 16 1).toNat:Int)), Slc g 0 (mQ z) cap, .slice none 0 0, U64 0] ++ cu8 (bQ z (4*mQ z + 18) 16)).toArray ∧ L = [⟨rb, [.nilIface, .slice ao' k c'], 204, (0, 0)⟩, ⟨g, cu64 (ixQ z 18 (mQ z)) ++ sp, 22, (0, 0)⟩] ∧ k ≤ c' ∧ c' ≤ maxLen ∧ sp.length = cap - mQ z ∧ mQ z ≤ cap ∧ cap ≤ maxLen)) := by
  refine (tread_c rb ao n c z z w (by rw [(show errV 50 (eQ z 0) = .nilIface by rw [eQ_ok (Nat.zero_le _)]; rfl)]; exact h0) hz hn hc hcm hr (Lq.zero z)).mono ?_
  rintro E W ⟨v, L, rfl, (⟨o1, _⟩ | ⟨o1, ao', z', c', g, sp, cap, hq, hA, rfl, rfl, f1, f2, f3⟩ | ⟨o1, _⟩ | ⟨hb, _⟩), hw⟩
  · exact absurd (hok.1.symm.trans o1.1) (by decide)
  · obtain rfl := hq (by omega)
    have hl : (z.drop (4*mQ z + 34)).length = k := by rw [List.length_drop]; omega
    exact ⟨_, _, rfl, ⟨ao', c', g, sp, cap, rfl, by rw [hl], (by have := hA.2.1; omega), hA.2.2.1, f1, f2, f3⟩, hw⟩
  · exact absurd (hok.1.symm.trans o1.1) (by decide)
  · exact absurd hok hb.2.1
theorem tread1_w (rb : Nat) (ao : Option Addr) (n c : Nat) (z : List UInt8) (w : World) (h0 : w.heap[rb]? = some (.cells [.nilIface, .slice ao n c].toArray 204 (0, 0))) (hz : z.length = n) (hn : n ≤ 2000000000) (hc : n ≤ c) (hcm : c ≤ maxLen) (hr : RdB w [rb] ao z) (k : Nat) (hok : Ok1 z) (hk : 60*mQ z + 34 + k = n) : Calls Tryd.prog 60 #[Ptr rb 0] w (Post w [rb] (fun v L => ∃ ao' c' g sp cap g2 sp2 cap2, v = .agg ([U64 (vQ z 0 8), U64 (vQ z 8 8), I64 (((vQ z 16 1).toNat:Int)), Slc g 0 (mQ z) cap, Slc g2 0 (mQ z) cap2, U64 0] ++ cu8 (bQ z (60*mQ z + 18) 16)).toArray ∧ L = [⟨rb, [.nilIface, .slice ao' k c'], 204, (0, 0)⟩, ⟨g, cu64 (ixQ z 18 (mQ z)) ++ sp, 22, (0, 0)⟩, ⟨g2, (seQ z (4*mQ z + 18) (mQ z)).flatMap sealC ++ sp2, 161, (0, 0)⟩] ∧ k ≤ c' ∧ c' ≤ maxLen ∧ sp.length = cap - mQ z ∧ mQ z ≤ cap ∧ cap ≤ maxLen ∧ sp2.length = cap2 * 49 - mQ z * 49 ∧ mQ z ≤ cap2 ∧ cap2 ≤ maxLen)) := by
  refine (tread_c rb ao n c z z w (by rw [(show errV 50 (eQ z 0) = .nilIface by rw [eQ_ok (Nat.zero_le _)]; rfl)]; exact h0) hz hn hc hcm hr (Lq.zero z)).mono ?_
  rintro E W ⟨v, L, rfl, (⟨o1, _⟩ | ⟨o1, _⟩ | ⟨o1, ao', z', c', g, sp, cap, g2, sp2, cap2, hq, hA, rfl, rfl, f1, f2, f3, f4, f5, f6⟩ | ⟨hb, _⟩), hw⟩
  · exact absurd (hok.1.symm.trans o1.1) (by decide)
  · exact absurd (hok.1.symm.trans o1.1) (by decide)
  · obtain rfl := hq (by omega)
    have hl : (z.drop (60*mQ z + 34)).length = k := by rw [List.length_drop]; omega
    exact ⟨_, _, rfl, ⟨ao', c', g, sp, cap, g2, sp2, cap2, rfl, by rw [hl], (by have := hA.2.1; omega), hA.2.2.1, f1, f2, f3, f4, f5, f6⟩, hw⟩
  · exact absurd hok hb.1
theorem treadB_w (rb : Nat) (ao : Option Addr) (n c : Nat) (z : List UInt8) (w : World) (h0 : w.heap[rb]? = some (.cells [.nilIface, .slice ao n c].toArray 204 (0, 0))) (hz : z.length = n) (hn : n ≤ 2000000000) (hc : n ≤ c) (hcm : c ≤ maxLen) (hr : RdB w [rb] ao z) (hbad : BadQ z) : Calls Tryd.prog 60 #[Ptr rb 0] w (Post w [rb] (fun v L => ∃ a1 n1 c1, v = .agg ([U64 0, U64 0, I64 0, .slice none 0 0, .slice none 0 0, U64 0] ++ cu8 (zr8 16)).toArray ∧ L = [⟨rb, [errV 50 2, .slice a1 n1 c1], 204, (0, 0)⟩])) := by
  refine (tread_c rb ao n c z z w (by rw [(show errV 50 (eQ z 0) = .nilIface by rw [eQ_ok (Nat.zero_le _)]; rfl)]; exact h0) hz hn hc hcm hr (Lq.zero z)).mono ?_
  rintro E W ⟨v, L, rfl, (⟨o1, _⟩ | ⟨o1, _⟩ | ⟨o1, _⟩ | ⟨hb, rfl, a1, n1, c1, rfl⟩), hw⟩
  · exact absurd o1 hbad.2.2
  · exact absurd o1 hbad.2.1
  · exact absurd o1 hbad.1
  · exact ⟨_, _, rfl, ⟨a1, n1, c1, rfl, rfl⟩, hw⟩
theorem parse3_c (ax : Option Addr) (n cx : Nat) (z : List UInt8) (k : Nat)  (w : World) (ha : ax.isNone = false) (hz : z.length = n) (hn : n ≤ 2000000000) (hc : n ≤ cx) (hcm : cx ≤ maxLen) (hr : RdB w [] ax z) (hok : Ok3 z) (hk : 41 + k = n)  : Calls Tryd.prog 65 #[.slice ax n cx] w (Post w [] (fun v L => (k = 0 ∧ v = .tuple #[.agg ([U64 (vQ z 0 8), U64 (vQ z 8 8), I64 (((vQ z 16 1).toNat:Int)), .slice none 0 0, .slice none 0 0, U64 (vQ z 17 8)] ++ cu8 (bQ z 25 16)).toArray, .nilIface] ∧ L = []) ∨ (k ≠ 0 ∧ v = .tuple #[.agg ([U64 0, U64 0, I64 0, .slice none 0 0, .slice none 0 0, U64 0] ++ cu8 (zr8 16)).toArray, errV 50 2] ∧ L = []))) := by
 have hmx : maxLen = 9223372036854775807 := rfl
 refine enter w [] 18 [] [.slice ax n cx] Tryd.func65 rfl rfl (by simp) (BZ (by simp) (by simp) (by simp)) ?_
 show JC _ _ _ [(0, .slice ax n cx)] _
 refine AI (AD (A1 (BG _ ([U64 0, U64 0, I64 0, .slice none 0 0, .slice none 0 0, U64 0] ++ cu8 (zr8 16)) BK (by kernel_rfl)) rfl ?_))
 rintro v1 L1 ⟨nb1, hnb1, rfl, rfl⟩
 show JL _ _ _ _ ((2, Ptr nb1 0) :: _) [⟨nb1, [U64 0, U64 0, I64 0, .slice none 0 0, .slice none 0 0, U64 0] ++ cu8 (zr8 16), 29, (0, 0)⟩]
 refine AA _ (AG rfl) rfl ?_
 refine AN (AE (AI (AD (AA _ (AH rfl) rfl ?_))))
 refine A1 (BI 59 [.slice ax n cx] _ (AY _ Tryd.call59 rfl) (fun w1 hw1 => from_c ax n cx z w1 ha hz (by omega) (hr.at (M' := []) hw1 (by simp)))) rfl ?_
 rintro v1 L1 ⟨_, ⟨nb2, nb3, sp1, cp1, rfl, rfl, hc1, hc2, hc3⟩, rfl⟩
 show JL _ _ _ _ ((8, Ptr nb2 0) :: _) [_, ⟨nb2, [.nilIface, Slc nb3 0 n cp1], 204, (0, 0)⟩, ⟨nb3, cu8 z ++ sp1, 5, (0, 0)⟩]
 refine AA _ (AG rfl) rfl ?_
 refine AN (AE (AI (AD (AA _ (AH rfl) rfl ?_))))
 have hz1 : (z).length = n := hz
 refine A1 (DN 60 _ [false, true, false] [nb2] _ (AY [Ptr nb2 0] Tryd.call60 rfl) rfl (fun w1 hw1 => tread3_w nb2 (some ⟨nb3, 0, none⟩) n cp1 z w1 (hw1.ent _ (List.mem_of_getElem? (i := 1) rfl)) hz (by omega) (by omega) (by omega) (RdB.of hw1 (AS 2 rfl (A4 (AL _))) (by intro _; simp only [List.mem_cons, List.not_mem_nil, or_false, not_or]; exact hw1.ne (i := 2) (j := 1) rfl rfl (by decide))) k hok hk)) rfl ?_
 rintro v1 L1 ⟨_, ⟨ao1, ca1, rfl, rfl, hb1, hb2⟩, rfl⟩
 show JL _ _ _ _ ((10, .agg ([U64 (vQ z 0 8), U64 (vQ z 8 8), I64 (((vQ z 16 1).toNat:Int)), .slice none 0 0, .slice none 0 0, U64 (vQ z 17 8)] ++ cu8 (bQ z 25 16)).toArray) :: _) [_, _, ⟨nb2, [.nilIface, .slice ao1 k ca1], 204, (0, 0)⟩]
 refine A1 (BG _ ([U64 0, U64 0, I64 0, .slice none 0 0, .slice none 0 0, U64 0] ++ cu8 (zr8 16)) BK (by kernel_rfl)) rfl ?_
 rintro v1 L1 ⟨nb4, hnb4, rfl, rfl⟩
 show JL _ _ _ _ ((5, Ptr nb4 0) :: _) [_, _, _, ⟨nb4, [U64 0, U64 0, I64 0, .slice none 0 0, .slice none 0 0, U64 0] ++ cu8 (zr8 16), 29, (0, 0)⟩]
 refine A7 (A5 3 nb4 22 ([U64 0, U64 0, I64 0, .slice none 0 0, .slice none 0 0, U64 0] ++ cu8 (zr8 16)) 29 ([U64 (vQ z 0 8), U64 (vQ z 8 8), I64 (((vQ z 16 1).toNat:Int)), .slice none 0 0, .slice none 0 0, U64 (vQ z 17 8)] ++ cu8 (bQ z 25 16)) rfl rfl rfl AT (by simp [(B5 _ _ _)]) (CO (by simp [Value.oneCell']) CD) (by simp [(AP 16)]) (BC (by simp [(AP 16), (B5 _ _ _)]))) rfl ?_
 show JL _ _ _ _ _ [_, _, _, ⟨nb4, [U64 (vQ z 0 8), U64 (vQ z 8 8), I64 (((vQ z 16 1).toNat:Int)), .slice none 0 0, .slice none 0 0, U64 (vQ z 17 8)] ++ cu8 (bQ z 25 16), 29, (0, 0)⟩]
 refine AN (AE (AI (AI (AD (AA _ (AH rfl) rfl ?_)))))
 refine A7 (A3 63 [Ptr nb2 0] (errV 50 (endN 0 k)) (AY _ Tryd.call63 rfl) (fun w1 hw1 => end_w nb2 0 ao1 k ca1 w1 (RdA.of hw1 (AS 2 rfl (AL _)) (by simp)))) rfl ?_
 show JL _ _ _ _ ((12, errV 50 (endN 0 k)) :: _) [_, _, _, _]
 refine AA _ (AG rfl) rfl ?_
 refine AN (AE (AI (AD (AA _ (AH rfl) rfl ?_))))
 refine AA (.bool (!(decide (endN 0 k = 0)))) (C2 _ _ _ rfl rfl (fun _ => CJ ..) fun _ => EF A6 _ _) rfl ?_
 refine AN (AE (CY (!(decide (endN 0 k = 0))) rfl (fun hb3 => ?_) (fun hb3 => ?_)))
 ·
  have hb4 : (decide (endN 0 k = 0)) = false := by simpa using hb3
  have hp4 : ¬ (endN 0 k = 0) := of_decide_eq_false hb4
  refine AI (AD (AA (.agg ([U64 0, U64 0, I64 0, .slice none 0 0, .slice none 0 0, U64 0] ++ cu8 (zr8 16)).toArray) (B8 [] _ rfl (fun _ => by kernel_rfl)) rfl ?_))
  refine AA _ (AH rfl) rfl ?_
  refine A7 (A5 0 nb1 22 ([U64 0, U64 0, I64 0, .slice none 0 0, .slice none 0 0, U64 0] ++ cu8 (zr8 16)) 29 ([U64 0, U64 0, I64 0, .slice none 0 0, .slice none 0 0, U64 0] ++ cu8 (zr8 16)) rfl rfl rfl AT (by simp [(AP 16)]) (CO (by simp [Value.oneCell']) CD) (by simp [(AP 16)]) (BC (by simp [(AP 16), (AP 16)]))) rfl ?_
  show JL _ _ _ _ _ [⟨nb1, [U64 0, U64 0, I64 0, .slice none 0 0, .slice none 0 0, U64 0] ++ cu8 (zr8 16), 29, (0, 0)⟩, _, _, _]
  refine AA _ (AG rfl) rfl ?_
  refine AN (AE (BP (BN (CH [true, false, false, false] ?_))))
  show JQ _ _ _ _ [_]
  refine BQ (.tuple #[.agg ([U64 0, U64 0, I64 0, .slice none 0 0, .slice none 0 0, U64 0] ++ cu8 (zr8 16)).toArray, errV 50 (endN 0 k)]) (res2 Tryd.results65 (DU rfl (BH A9 AT (by simp [(AP 16)]) (AS 0 rfl (AL _)))) (B2 rfl)) fun w1 hw1 => ?_
  refine ⟨_, _, rfl, .inr ⟨fun h => (of_decide_eq_false hb4) (by rw [h]; rfl), ?_, rfl⟩, hw1.sub (by simp) (by simp)⟩
  rw [show endN 0 k = 2 from endN_b (of_decide_eq_false hb4)]
 ·
  have hb5 : (decide (endN 0 k = 0)) = true := by simpa using hb3
  have hp5 : endN 0 k = 0 := of_decide_eq_true hb5
  refine BT (AE (AI (AD (AA (.agg ([U64 (vQ z 0 8), U64 (vQ z 8 8), I64 (((vQ z 16 1).toNat:Int)), .slice none 0 0, .slice none 0 0, U64 (vQ z 17 8)] ++ cu8 (bQ z 25 16)).toArray) (AK rfl (BH A9 AT (by simp [(B5 _ _ _)]) (AS 3 rfl (AL _)))) rfl ?_))))
  refine A7 (A5 0 nb1 22 ([U64 0, U64 0, I64 0, .slice none 0 0, .slice none 0 0, U64 0] ++ cu8 (zr8 16)) 29 ([U64 (vQ z 0 8), U64 (vQ z 8 8), I64 (((vQ z 16 1).toNat:Int)), .slice none 0 0, .slice none 0 0, U64 (vQ z 17 8)] ++ cu8 (bQ z 25 16)) rfl rfl rfl AT (by simp [(B5 _ _ _)]) (CO (by simp [Value.oneCell']) CD) (by simp [(AP 16)]) (BC (by simp [(AP 16), (B5 _ _ _)]))) rfl ?_
  show JL _ _ _ _ _ [⟨nb1, [U64 (vQ z 0 8), U64 (vQ z 8 8), I64 (((vQ z 16 1).toNat:Int)), .slice none 0 0, .slice none 0 0, U64 (vQ z 17 8)] ++ cu8 (bQ z 25 16), 29, (0, 0)⟩, _, _, _]
  refine AA _ (AG rfl) rfl ?_
  refine AN (AE (BP (CH [true, false, false, false] ?_)))
  show JQ _ _ _ _ [_]
  refine BQ (.tuple #[.agg ([U64 (vQ z 0 8), U64 (vQ z 8 8), I64 (((vQ z 16 1).toNat:Int)), .slice none 0 0, .slice none 0 0, U64 (vQ z 17 8)] ++ cu8 (bQ z 25 16)).toArray, .nilIface]) (res2 Tryd.results65 (DU rfl (BH A9 AT (by simp [(B5 _ _ _)]) (AS 0 rfl (AL _)))) (B2 rfl)) fun w1 hw1 => ?_
  exact ⟨_, _, rfl, .inl ⟨endN_z (of_decide_eq_true hb5), rfl, rfl⟩, hw1.sub (by simp) (by simp)⟩
theorem parse2_c (ax : Option Addr) (n cx : Nat) (z : List UInt8) (k : Nat)  (w : World) (ha : ax.isNone = false) (hz : z.length = n) (hn : n ≤ 2000000000) (hc : n ≤ cx) (hcm : cx ≤ maxLen) (hr : RdB w [] ax z) (hok : Ok2 z) (hk : 4*mQ z + 34 + k = n)  : Calls Tryd.prog 65 #[.slice ax n cx] w (Post w [] (fun v L => (k = 0 ∧ ∃ g sp cap, v = .tuple #[.agg ([U64 (vQ z 0 8), U64 (vQ z 8 8), I64 (((vQ z 16 1).toNat:Int)), Slc g 0 (mQ z) cap, .slice none 0 0, U64 0] ++ cu8 (bQ z (4*mQ z + 18) 16)).toArray, .nilIface] ∧ L = [⟨g, cu64 (ixQ z 18 (mQ z)) ++ sp, 22, (0, 0)⟩] ∧ sp.length = cap - mQ z ∧ mQ z ≤ cap ∧ cap ≤ maxLen) ∨ (k ≠ 0 ∧ v = .tuple #[.agg ([U64 0, U64 0, I64 0, .slice none 0 0, .slice none 0 0, U64 0] ++ cu8 (zr8 16)).toArray, errV 50 2] ∧ L = []))) := by
 have hmx : maxLen = 9223372036854775807 := rfl
 refine enter w [] 18 [] [.slice ax n cx] Tryd.func65 rfl rfl (by simp) (BZ (by simp) (by simp) (by simp)) ?_
 show JC _ _ _ [(0, .slice ax n cx)] _
 refine AI (AD (A1 (BG _ ([U64 0, U64 0, I64 0, .slice none 0 0, .slice none 0 0, U64 0] ++ cu8 (zr8 16)) BK (by kernel_rfl)) rfl ?_))
 rintro v1 L1 ⟨nb1, hnb1, rfl, rfl⟩
 show JL _ _ _ _ ((2, Ptr nb1 0) :: _) [⟨nb1, [U64 0, U64 0, I64 0, .slice none 0 0, .slice none 0 0, U64 0] ++ cu8 (zr8 16), 29, (0, 0)⟩]
 refine AA _ (AG rfl) rfl ?_
 refine AN (AE (AI (AD (AA _ (AH rfl) rfl ?_))))
 refine A1 (BI 59 [.slice ax n cx] _ (AY _ Tryd.call59 rfl) (fun w1 hw1 => from_c ax n cx z w1 ha hz (by omega) (hr.at (M' := []) hw1 (by simp)))) rfl ?_
 rintro v1 L1 ⟨_, ⟨nb2, nb3, sp1, cp1, rfl, rfl, hc1, hc2, hc3⟩, rfl⟩
 show JL _ _ _ _ ((8, Ptr nb2 0) :: _) [_, ⟨nb2, [.nilIface, Slc nb3 0 n cp1], 204, (0, 0)⟩, ⟨nb3, cu8 z ++ sp1, 5, (0, 0)⟩]
 refine AA _ (AG rfl) rfl ?_
 refine AN (AE (AI (AD (AA _ (AH rfl) rfl ?_))))
 have hz1 : (z).length = n := hz
 refine A1 (DN 60 _ [false, true, false] [nb2] _ (AY [Ptr nb2 0] Tryd.call60 rfl) rfl (fun w1 hw1 => tread2_w nb2 (some ⟨nb3, 0, none⟩) n cp1 z w1 (hw1.ent _ (List.mem_of_getElem? (i := 1) rfl)) hz (by omega) (by omega) (by omega) (RdB.of hw1 (AS 2 rfl (A4 (AL _))) (by intro _; simp only [List.mem_cons, List.not_mem_nil, or_false, not_or]; exact hw1.ne (i := 2) (j := 1) rfl rfl (by decide))) k hok hk)) rfl ?_
 rintro v1 L1 ⟨_, ⟨ao1, ca1, nb4, sp2, cp2, rfl, rfl, hb1, hb2, hc4, hc5, hc6⟩, rfl⟩
 show JL _ _ _ _ ((10, .agg ([U64 (vQ z 0 8), U64 (vQ z 8 8), I64 (((vQ z 16 1).toNat:Int)), Slc nb4 0 (mQ z) cp2, .slice none 0 0, U64 0] ++ cu8 (bQ z (4*mQ z + 18) 16)).toArray) :: _) [_, _, ⟨nb2, [.nilIface, .slice ao1 k ca1], 204, (0, 0)⟩, ⟨nb4, cu64 (ixQ z 18 (mQ z)) ++ sp2, 22, (0, 0)⟩]
 refine A1 (BG _ ([U64 0, U64 0, I64 0, .slice none 0 0, .slice none 0 0, U64 0] ++ cu8 (zr8 16)) BK (by kernel_rfl)) rfl ?_
 rintro v1 L1 ⟨nb5, hnb5, rfl, rfl⟩
 show JL _ _ _ _ ((5, Ptr nb5 0) :: _) [_, _, _, _, ⟨nb5, [U64 0, U64 0, I64 0, .slice none 0 0, .slice none 0 0, U64 0] ++ cu8 (zr8 16), 29, (0, 0)⟩]
 refine A7 (A5 4 nb5 22 ([U64 0, U64 0, I64 0, .slice none 0 0, .slice none 0 0, U64 0] ++ cu8 (zr8 16)) 29 ([U64 (vQ z 0 8), U64 (vQ z 8 8), I64 (((vQ z 16 1).toNat:Int)), Slc nb4 0 (mQ z) cp2, .slice none 0 0, U64 0] ++ cu8 (bQ z (4*mQ z + 18) 16)) rfl rfl rfl AT (by simp [(B5 _ _ _)]) (CO (by simp [Value.oneCell']) CD) (by simp [(AP 16)]) (BC (by simp [(AP 16), (B5 _ _ _)]))) rfl ?_
 show JL _ _ _ _ _ [_, _, _, _, ⟨nb5, [U64 (vQ z 0 8), U64 (vQ z 8 8), I64 (((vQ z 16 1).toNat:Int)), Slc nb4 0 (mQ z) cp2, .slice none 0 0, U64 0] ++ cu8 (bQ z (4*mQ z + 18) 16), 29, (0, 0)⟩]
 refine AN (AE (AI (AI (AD (AA _ (AH rfl) rfl ?_)))))
 refine A7 (A3 63 [Ptr nb2 0] (errV 50 (endN 0 k)) (AY _ Tryd.call63 rfl) (fun w1 hw1 => end_w nb2 0 ao1 k ca1 w1 (RdA.of hw1 (AS 2 rfl (AL _)) (by simp)))) rfl ?_
 show JL _ _ _ _ ((12, errV 50 (endN 0 k)) :: _) [_, _, _, _, _]
 refine AA _ (AG rfl) rfl ?_
 refine AN (AE (AI (AD (AA _ (AH rfl) rfl ?_))))
 refine AA (.bool (!(decide (endN 0 k = 0)))) (C2 _ _ _ rfl rfl (fun _ => CJ ..) fun _ => EF A6 _ _) rfl ?_
 refine AN (AE (CY (!(decide (endN 0 k = 0))) rfl (fun hb3 => ?_) (fun hb3 => ?_)))
 ·
  have hb4 : (decide (endN 0 k = 0)) = false := by simpa using hb3
  have hp4 : ¬ (endN 0 k = 0) := of_decide_eq_false hb4
  refine AI (AD (AA (.agg ([U64 0, U64 0, I64 0, .slice none 0 0, .slice none 0 0, U64 0] ++ cu8 (zr8 16)).toArray) (B8 [] _ rfl (fun _ => by kernel_rfl)) rfl ?_))
  refine AA _ (AH rfl) rfl ?_
  refine A7 (A5 0 nb1 22 ([U64 0, U64 0, I64 0, .slice none 0 0, .slice none 0 0, U64 0] ++ cu8 (zr8 16)) 29 ([U64 0, U64 0, I64 0, .slice none 0 0, .slice none 0 0, U64 0] ++ cu8 (zr8 16)) rfl rfl rfl AT (by simp [(AP 16)]) (CO (by simp [Value.oneCell']) CD) (by simp [(AP 16)]) (BC (by simp [(AP 16), (AP 16)]))) rfl ?_
  show JL _ _ _ _ _ [⟨nb1, [U64 0, U64 0, I64 0, .slice none 0 0, .slice none 0 0, U64 0] ++ cu8 (zr8 16), 29, (0, 0)⟩, _, _, _, _]
  refine AA _ (AG rfl) rfl ?_
  refine AN (AE (BP (BN (CH [true, false, false, false, false] ?_))))
  show JQ _ _ _ _ [_]
  refine BQ (.tuple #[.agg ([U64 0, U64 0, I64 0, .slice none 0 0, .slice none 0 0, U64 0] ++ cu8 (zr8 16)).toArray, errV 50 (endN 0 k)]) (res2 Tryd.results65 (DU rfl (BH A9 AT (by simp [(AP 16)]) (AS 0 rfl (AL _)))) (B2 rfl)) fun w1 hw1 => ?_
  refine ⟨_, _, rfl, .inr ⟨fun h => (of_decide_eq_false hb4) (by rw [h]; rfl), ?_, rfl⟩, hw1.sub (by simp) (by simp)⟩
  rw [show endN 0 k = 2 from endN_b (of_decide_eq_false hb4)]
 ·
  have hb5 : (decide (endN 0 k = 0)) = true := by simpa using hb3
  have hp5 : endN 0 k = 0 := of_decide_eq_true hb5
  refine BT (AE (AI (AD (AA (.agg ([U64 (vQ z 0 8), U64 (vQ z 8 8), I64 (((vQ z 16 1).toNat:Int)), Slc nb4 0 (mQ z) cp2, .slice none 0 0, U64 0] ++ cu8 (bQ z (4*mQ z + 18) 16)).toArray) (AK rfl (BH A9 AT (by simp [(B5 _ _ _)]) (AS 4 rfl (AL _)))) rfl ?_))))
  refine A7 (A5 0 nb1 22 ([U64 0, U64 0, I64 0, .slice none 0 0, .slice none 0 0, U64 0] ++ cu8 (zr8 16)) 29 ([U64 (vQ z 0 8), U64 (vQ z 8 8), I64 (((vQ z 16 1).toNat:Int)), Slc nb4 0 (mQ z) cp2, .slice none 0 0, U64 0] ++ cu8 (bQ z (4*mQ z + 18) 16)) rfl rfl rfl AT (by simp [(B5 _ _ _)]) (CO (by simp [Value.oneCell']) CD) (by simp [(AP 16)]) (BC (by simp [(AP 16), (B5 _ _ _)]))) rfl ?_
  show JL _ _ _ _ _ [⟨nb1, [U64 (vQ z 0 8), U64 (vQ z 8 8), I64 (((vQ z 16 1).toNat:Int)), Slc nb4 0 (mQ z) cp2, .slice none 0 0, U64 0] ++ cu8 (bQ z (4*mQ z + 18) 16), 29, (0, 0)⟩, _, _, _, _]
  refine AA _ (AG rfl) rfl ?_
  refine AN (AE (BP (CH [true, false, false, true, false] ?_)))
  show JQ _ _ _ _ [_, _]
  refine BQ (.tuple #[.agg ([U64 (vQ z 0 8), U64 (vQ z 8 8), I64 (((vQ z 16 1).toNat:Int)), Slc nb4 0 (mQ z) cp2, .slice none 0 0, U64 0] ++ cu8 (bQ z (4*mQ z + 18) 16)).toArray, .nilIface]) (res2 Tryd.results65 (DU rfl (BH A9 AT (by simp [(B5 _ _ _)]) (AS 0 rfl (AL _)))) (B2 rfl)) fun w1 hw1 => ?_
  exact ⟨_, _, rfl, .inl ⟨endN_z (of_decide_eq_true hb5), nb4, sp2, cp2, rfl, rfl, hc4, hc5, hc6⟩, hw1.sub (by simp) (by simp)⟩
theorem parse1_c (ax : Option Addr) (n cx : Nat) (z : List UInt8) (k : Nat)  (w : World) (ha : ax.isNone = false) (hz : z.length = n) (hn : n ≤ 2000000000) (hc : n ≤ cx) (hcm : cx ≤ maxLen) (hr : RdB w [] ax z) (hok : Ok1 z) (hk : 60*mQ z + 34 + k = n)  : Calls Tryd.prog 65 #[.slice ax n cx] w (Post w [] (fun v L => (k = 0 ∧ ∃ g sp cap g2 sp2 cap2, v = .tuple #[.agg ([U64 (vQ z 0 8), U64 (vQ z 8 8), I64 (((vQ z 16 1).toNat:Int)), Slc g 0 (mQ z) cap, Slc g2 0 (mQ z) cap2, U64 0] ++ cu8 (bQ z (60*mQ z + 18) 16)).toArray, .nilIface] ∧ L = [⟨g, cu64 (ixQ z 18 (mQ z)) ++ sp, 22, (0, 0)⟩, ⟨g2, (seQ z (4*mQ z + 18) (mQ z)).flatMap sealC ++ sp2, 161, (0, 0)⟩] ∧ sp.length = cap - mQ z ∧ mQ z ≤ cap ∧ cap ≤ maxLen ∧ sp2.length = cap2 * 49 - mQ z * 49 ∧ mQ z ≤ cap2 ∧ cap2 ≤ maxLen) ∨ (k ≠ 0 ∧ v = .tuple #[.agg ([U64 0, U64 0, I64 0, .slice none 0 0, .slice none 0 0, U64 0] ++ cu8 (zr8 16)).toArray, errV 50 2] ∧ L = []))) := by
 have hmx : maxLen = 9223372036854775807 := rfl
 refine enter w [] 18 [] [.slice ax n cx] Tryd.func65 rfl rfl (by simp) (BZ (by simp) (by simp) (by simp)) ?_
 show JC _ _ _ [(0, .slice ax n cx)] _
 refine AI (AD (A1 (BG _ ([U64 0, U64 0, I64 0, .slice none 0 0, .slice none 0 0, U64 0] ++ cu8 (zr8 16)) BK (by kernel_rfl)) rfl ?_))
 rintro v1 L1 ⟨nb1, hnb1, rfl, rfl⟩
 show JL _ _ _ _ ((2, Ptr nb1 0) :: _) [⟨nb1, [U64 0, U64 0, I64 0, .slice none 0 0, .slice none 0 0, U64 0] ++ cu8 (zr8 16), 29, (0, 0)⟩]
 refine AA _ (AG rfl) rfl ?_
 refine AN (AE (AI (AD (AA _ (AH rfl) rfl ?_))))
 refine A1 (BI 59 [.slice ax n cx] _ (AY _ Tryd.call59 rfl) (fun w1 hw1 => from_c ax n cx z w1 ha hz (by omega) (hr.at (M' := []) hw1 (by simp)))) rfl ?_
 rintro v1 L1 ⟨_, ⟨nb2, nb3, sp1, cp1, rfl, rfl, hc1, hc2, hc3⟩, rfl⟩
 show JL _ _ _ _ ((8, Ptr nb2 0) :: _) [_, ⟨nb2, [.nilIface, Slc nb3 0 n cp1], 204, (0, 0)⟩, ⟨nb3, cu8 z ++ sp1, 5, (0, 0)⟩]
 refine AA _ (AG rfl) rfl ?_
 refine AN (AE (AI (AD (AA _ (AH rfl) rfl ?_))))
 have hz1 : (z).length = n := hz
 refine A1 (DN 60 _ [false, true, false] [nb2] _ (AY [Ptr nb2 0] Tryd.call60 rfl) rfl (fun w1 hw1 => tread1_w nb2 (some ⟨nb3, 0, none⟩) n cp1 z w1 (hw1.ent _ (List.mem_of_getElem? (i := 1) rfl)) hz (by omega) (by omega) (by omega) (RdB.of hw1 (AS 2 rfl (A4 (AL _))) (by intro _; simp only [List.mem_cons, List.not_mem_nil, or_false, not_or]; exact hw1.ne (i := 2) (j := 1) rfl rfl (by decide))) k hok hk)) rfl ?_
 rintro v1 L1 ⟨_, ⟨ao1, ca1, nb4, sp2, cp2, nb5, sp3, cp3, rfl, rfl, hb1, hb2, hc4, hc5, hc6, hc7, hc8, hc9⟩, rfl⟩
 show JL _ _ _ _ ((10, .agg ([U64 (vQ z 0 8), U64 (vQ z 8 8), I64 (((vQ z 16 1).toNat:Int)), Slc nb4 0 (mQ z) cp2, Slc nb5 0 (mQ z) cp3, U64 0] ++ cu8 (bQ z (60*mQ z + 18) 16)).toArray) :: _) [_, _, ⟨nb2, [.nilIface, .slice ao1 k ca1], 204, (0, 0)⟩, ⟨nb4, cu64 (ixQ z 18 (mQ z)) ++ sp2, 22, (0, 0)⟩, ⟨nb5, (seQ z (4*mQ z + 18) (mQ z)).flatMap sealC ++ sp3, 161, (0, 0)⟩]
 refine A1 (BG _ ([U64 0, U64 0, I64 0, .slice none 0 0, .slice none 0 0, U64 0] ++ cu8 (zr8 16)) BK (by kernel_rfl)) rfl ?_
 rintro v1 L1 ⟨nb6, hnb6, rfl, rfl⟩
 show JL _ _ _ _ ((5, Ptr nb6 0) :: _) [_, _, _, _, _, ⟨nb6, [U64 0, U64 0, I64 0, .slice none 0 0, .slice none 0 0, U64 0] ++ cu8 (zr8 16), 29, (0, 0)⟩]
 refine A7 (A5 5 nb6 22 ([U64 0, U64 0, I64 0, .slice none 0 0, .slice none 0 0, U64 0] ++ cu8 (zr8 16)) 29 ([U64 (vQ z 0 8), U64 (vQ z 8 8), I64 (((vQ z 16 1).toNat:Int)), Slc nb4 0 (mQ z) cp2, Slc nb5 0 (mQ z) cp3, U64 0] ++ cu8 (bQ z (60*mQ z + 18) 16)) rfl rfl rfl AT (by simp [(B5 _ _ _)]) (CO (by simp [Value.oneCell']) CD) (by simp [(AP 16)]) (BC (by simp [(AP 16), (B5 _ _ _)]))) rfl ?_
 show JL _ _ _ _ _ [_, _, _, _, _, ⟨nb6, [U64 (vQ z 0 8), U64 (vQ z 8 8), I64 (((vQ z 16 1).toNat:Int)), Slc nb4 0 (mQ z) cp2, Slc nb5 0 (mQ z) cp3, U64 0] ++ cu8 (bQ z (60*mQ z + 18) 16), 29, (0, 0)⟩]
 refine AN (AE (AI (AI (AD (AA _ (AH rfl) rfl ?_)))))
 refine A7 (A3 63 [Ptr nb2 0] (errV 50 (endN 0 k)) (AY _ Tryd.call63 rfl) (fun w1 hw1 => end_w nb2 0 ao1 k ca1 w1 (RdA.of hw1 (AS 2 rfl (AL _)) (by simp)))) rfl ?_
 show JL _ _ _ _ ((12, errV 50 (endN 0 k)) :: _) [_, _, _, _, _, _]
 refine AA _ (AG rfl) rfl ?_
 refine AN (AE (AI (AD (AA _ (AH rfl) rfl ?_))))
 refine AA (.bool (!(decide (endN 0 k = 0)))) (C2 _ _ _ rfl rfl (fun _ => CJ ..) fun _ => EF A6 _ _) rfl ?_
 refine AN (AE (CY (!(decide (endN 0 k = 0))) rfl (fun hb3 => ?_) (fun hb3 => ?_)))
 ·
  have hb4 : (decide (endN 0 k = 0)) = false := by simpa using hb3
  have hp4 : ¬ (endN 0 k = 0) := of_decide_eq_false hb4
  refine AI (AD (AA (.agg ([U64 0, U64 0, I64 0, .slice none 0 0, .slice none 0 0, U64 0] ++ cu8 (zr8 16)).toArray) (B8 [] _ rfl (fun _ => by kernel_rfl)) rfl ?_))
  refine AA _ (AH rfl) rfl ?_
  refine A7 (A5 0 nb1 22 ([U64 0, U64 0, I64 0, .slice none 0 0, .slice none 0 0, U64 0] ++ cu8 (zr8 16)) 29 ([U64 0, U64 0, I64 0, .slice none 0 0, .slice none 0 0, U64 0] ++ cu8 (zr8 16)) rfl rfl rfl AT (by simp [(AP 16)]) (CO (by simp [Value.oneCell']) CD) (by simp [(AP 16)]) (BC (by simp [(AP 16), (AP 16)]))) rfl ?_
  show JL _ _ _ _ _ [⟨nb1, [U64 0, U64 0, I64 0, .slice none 0 0, .slice none 0 0, U64 0] ++ cu8 (zr8 16), 29, (0, 0)⟩, _, _, _, _, _]
  refine AA _ (AG rfl) rfl ?_
  refine AN (AE (BP (BN (CH [true, false, false, false, false, false] ?_))))
  show JQ _ _ _ _ [_]
  refine BQ (.tuple #[.agg ([U64 0, U64 0, I64 0, .slice none 0 0, .slice none 0 0, U64 0] ++ cu8 (zr8 16)).toArray, errV 50 (endN 0 k)]) (res2 Tryd.results65 (DU rfl (BH A9 AT (by simp [(AP 16)]) (AS 0 rfl (AL _)))) (B2 rfl)) fun w1 hw1 => ?_
  refine ⟨_, _, rfl, .inr ⟨fun h => (of_decide_eq_false hb4) (by rw [h]; rfl), ?_, rfl⟩, hw1.sub (by simp) (by simp)⟩
  rw [show endN 0 k = 2 from endN_b (of_decide_eq_false hb4)]
 ·
  have hb5 : (decide (endN 0 k = 0)) = true := by simpa using hb3
  have hp5 : endN 0 k = 0 := of_decide_eq_true hb5
  refine BT (AE (AI (AD (AA (.agg ([U64 (vQ z 0 8), U64 (vQ z 8 8), I64 (((vQ z 16 1).toNat:Int)), Slc nb4 0 (mQ z) cp2, Slc nb5 0 (mQ z) cp3, U64 0] ++ cu8 (bQ z (60*mQ z + 18) 16)).toArray) (AK rfl (BH A9 AT (by simp [(B5 _ _ _)]) (AS 5 rfl (AL _)))) rfl ?_))))
  refine A7 (A5 0 nb1 22 ([U64 0, U64 0, I64 0, .slice none 0 0, .slice none 0 0, U64 0] ++ cu8 (zr8 16)) 29 ([U64 (vQ z 0 8), U64 (vQ z 8 8), I64 (((vQ z 16 1).toNat:Int)), Slc nb4 0 (mQ z) cp2, Slc nb5 0 (mQ z) cp3, U64 0] ++ cu8 (bQ z (60*mQ z + 18) 16)) rfl rfl rfl AT (by simp [(B5 _ _ _)]) (CO (by simp [Value.oneCell']) CD) (by simp [(AP 16)]) (BC (by simp [(AP 16), (B5 _ _ _)]))) rfl ?_
  show JL _ _ _ _ _ [⟨nb1, [U64 (vQ z 0 8), U64 (vQ z 8 8), I64 (((vQ z 16 1).toNat:Int)), Slc nb4 0 (mQ z) cp2, Slc nb5 0 (mQ z) cp3, U64 0] ++ cu8 (bQ z (60*mQ z + 18) 16), 29, (0, 0)⟩, _, _, _, _, _]
  refine AA _ (AG rfl) rfl ?_
  refine AN (AE (BP (CH [true, false, false, true, true, false] ?_)))
  show JQ _ _ _ _ [_, _, _]
  refine BQ (.tuple #[.agg ([U64 (vQ z 0 8), U64 (vQ z 8 8), I64 (((vQ z 16 1).toNat:Int)), Slc nb4 0 (mQ z) cp2, Slc nb5 0 (mQ z) cp3, U64 0] ++ cu8 (bQ z (60*mQ z + 18) 16)).toArray, .nilIface]) (res2 Tryd.results65 (DU rfl (BH A9 AT (by simp [(B5 _ _ _)]) (AS 0 rfl (AL _)))) (B2 rfl)) fun w1 hw1 => ?_
  exact ⟨_, _, rfl, .inl ⟨endN_z (of_decide_eq_true hb5), nb4, sp2, cp2, nb5, sp3, cp3, rfl, rfl, hc4, hc5, hc6, hc7, hc8, hc9⟩, hw1.sub (by simp) (by have hd0 : nb4 ≠ nb5 := hw1.ne (i := 1) (j := 2) rfl rfl (by decide); simp [hd0])⟩
theorem parseB_c (ax : Option Addr) (n cx : Nat) (z : List UInt8)  (w : World) (ha : ax.isNone = false) (hz : z.length = n) (hn : n ≤ 2000000000) (hc : n ≤ cx) (hcm : cx ≤ maxLen) (hr : RdB w [] ax z) (hbad : BadQ z)  : Calls Tryd.prog 65 #[.slice ax n cx] w (Post w [] (fun v L => v = .tuple #[.agg ([U64 0, U64 0, I64 0, .slice none 0 0, .slice none 0 0, U64 0] ++ cu8 (zr8 16)).toArray, errV 50 2] ∧ L = [])) := by
 have hmx : maxLen = 9223372036854775807 := rfl
 refine enter w [] 18 [] [.slice ax n cx] Tryd.func65 rfl rfl (by simp) (BZ (by simp) (by simp) (by simp)) ?_
 show JC _ _ _ [(0, .slice ax n cx)] _
 refine AI (AD (A1 (BG _ ([U64 0, U64 0, I64 0, .slice none 0 0, .slice none 0 0, U64 0] ++ cu8 (zr8 16)) BK (by kernel_rfl)) rfl ?_))
 rintro v1 L1 ⟨nb1, hnb1, rfl, rfl⟩
 show JL _ _ _ _ ((2, Ptr nb1 0) :: _) [⟨nb1, [U64 0, U64 0, I64 0, .slice none 0 0, .slice none 0 0, U64 0] ++ cu8 (zr8 16), 29, (0, 0)⟩]
 refine AA _ (AG rfl) rfl ?_
 refine AN (AE (AI (AD (AA _ (AH rfl) rfl ?_))))
 refine A1 (BI 59 [.slice ax n cx] _ (AY _ Tryd.call59 rfl) (fun w1 hw1 => from_c ax n cx z w1 ha hz (by omega) (hr.at (M' := []) hw1 (by simp)))) rfl ?_
 rintro v1 L1 ⟨_, ⟨nb2, nb3, sp1, cp1, rfl, rfl, hc1, hc2, hc3⟩, rfl⟩
 show JL _ _ _ _ ((8, Ptr nb2 0) :: _) [_, ⟨nb2, [.nilIface, Slc nb3 0 n cp1], 204, (0, 0)⟩, ⟨nb3, cu8 z ++ sp1, 5, (0, 0)⟩]
 refine AA _ (AG rfl) rfl ?_
 refine AN (AE (AI (AD (AA _ (AH rfl) rfl ?_))))
 have hz1 : (z).length = n := hz
 refine A1 (DN 60 _ [false, true, false] [nb2] _ (AY [Ptr nb2 0] Tryd.call60 rfl) rfl (fun w1 hw1 => treadB_w nb2 (some ⟨nb3, 0, none⟩) n cp1 z w1 (hw1.ent _ (List.mem_of_getElem? (i := 1) rfl)) hz (by omega) (by omega) (by omega) (RdB.of hw1 (AS 2 rfl (A4 (AL _))) (by intro _; simp only [List.mem_cons, List.not_mem_nil, or_false, not_or]; exact hw1.ne (i := 2) (j := 1) rfl rfl (by decide))) hbad)) rfl ?_
 rintro v1 L1 ⟨_, ⟨ao1, ca2, ca1, rfl, rfl⟩, rfl⟩
 show JL _ _ _ _ ((10, .agg ([U64 0, U64 0, I64 0, .slice none 0 0, .slice none 0 0, U64 0] ++ cu8 (zr8 16)).toArray) :: _) [_, _, ⟨nb2, [errV 50 2, .slice ao1 ca2 ca1], 204, (0, 0)⟩]
 refine A1 (BG _ ([U64 0, U64 0, I64 0, .slice none 0 0, .slice none 0 0, U64 0] ++ cu8 (zr8 16)) BK (by kernel_rfl)) rfl ?_
 rintro v1 L1 ⟨nb4, hnb4, rfl, rfl⟩
 show JL _ _ _ _ ((5, Ptr nb4 0) :: _) [_, _, _, ⟨nb4, [U64 0, U64 0, I64 0, .slice none 0 0, .slice none 0 0, U64 0] ++ cu8 (zr8 16), 29, (0, 0)⟩]
 refine A7 (A5 3 nb4 22 ([U64 0, U64 0, I64 0, .slice none 0 0, .slice none 0 0, U64 0] ++ cu8 (zr8 16)) 29 ([U64 0, U64 0, I64 0, .slice none 0 0, .slice none 0 0, U64 0] ++ cu8 (zr8 16)) rfl rfl rfl AT (by simp [(AP 16)]) (CO (by simp [Value.oneCell']) CD) (by simp [(AP 16)]) (BC (by simp [(AP 16), (AP 16)]))) rfl ?_
 show JL _ _ _ _ _ [_, _, _, ⟨nb4, [U64 0, U64 0, I64 0, .slice none 0 0, .slice none 0 0, U64 0] ++ cu8 (zr8 16), 29, (0, 0)⟩]
 refine AN (AE (AI (AI (AD (AA _ (AH rfl) rfl ?_)))))
 refine A7 (A3 63 [Ptr nb2 0] (errV 50 (endN 2 ca2)) (AY _ Tryd.call63 rfl) (fun w1 hw1 => end_w nb2 2 ao1 ca2 ca1 w1 (RdA.of hw1 (AS 2 rfl (AL _)) (by simp)))) rfl ?_
 show JL _ _ _ _ ((12, errV 50 (endN 2 ca2)) :: _) [_, _, _, _]
 refine AA _ (AG rfl) rfl ?_
 refine AN (AE (AI (AD (AA _ (AH rfl) rfl ?_))))
 refine AA (.bool (!(decide (endN 2 ca2 = 0)))) (C2 _ _ _ rfl rfl (fun _ => CJ ..) fun _ => EF A6 _ _) rfl ?_
 refine AN (AE (DJ _ rfl (bnotF (decide_eq_false (by rw [endN, if_neg (by decide)]; decide))) ?_))
 refine AI (AD (AA (.agg ([U64 0, U64 0, I64 0, .slice none 0 0, .slice none 0 0, U64 0] ++ cu8 (zr8 16)).toArray) (B8 [] _ rfl (fun _ => by kernel_rfl)) rfl ?_))
 refine AA _ (AH rfl) rfl ?_
 refine A7 (A5 0 nb1 22 ([U64 0, U64 0, I64 0, .slice none 0 0, .slice none 0 0, U64 0] ++ cu8 (zr8 16)) 29 ([U64 0, U64 0, I64 0, .slice none 0 0, .slice none 0 0, U64 0] ++ cu8 (zr8 16)) rfl rfl rfl AT (by simp [(AP 16)]) (CO (by simp [Value.oneCell']) CD) (by simp [(AP 16)]) (BC (by simp [(AP 16), (AP 16)]))) rfl ?_
 show JL _ _ _ _ _ [⟨nb1, [U64 0, U64 0, I64 0, .slice none 0 0, .slice none 0 0, U64 0] ++ cu8 (zr8 16), 29, (0, 0)⟩, _, _, _]
 refine AA _ (AG rfl) rfl ?_
 refine AN (AE (BP (BN (CH [true, false, false, false] ?_))))
 show JQ _ _ _ _ [_]
 refine BQ (.tuple #[.agg ([U64 0, U64 0, I64 0, .slice none 0 0, .slice none 0 0, U64 0] ++ cu8 (zr8 16)).toArray, errV 50 (endN 2 ca2)]) (res2 Tryd.results65 (DU rfl (BH A9 AT (by simp [(AP 16)]) (AS 0 rfl (AL _)))) (B2 rfl)) fun w1 hw1 => ?_
 exact ⟨_, _, rfl, ⟨rfl, rfl⟩, hw1.sub (by simp) (by simp)⟩
theorem parse3Z_w (ax : Option Addr) (n cx : Nat) (z : List UInt8) (w : World) (ha : ax.isNone = false) (hz : z.length = n) (hn : n ≤ 2000000000) (hc : n ≤ cx) (hcm : cx ≤ maxLen) (hr : RdB w [] ax z) (hok : Ok3 z) (hk : 41 = n) : Calls Tryd.prog 65 #[.slice ax n cx] w (Post w [] (fun v L => v = .tuple #[.agg ([U64 (vQ z 0 8), U64 (vQ z 8 8), I64 (((vQ z 16 1).toNat:Int)), .slice none 0 0, .slice none 0 0, U64 (vQ z 17 8)] ++ cu8 (bQ z 25 16)).toArray, .nilIface] ∧ L = [])) := by
  refine (parse3_c ax n cx z 0 w ha hz hn hc hcm hr hok hk).mono ?_
  rintro E W ⟨v, L, rfl, (⟨_, h⟩ | ⟨h, _⟩), hw⟩
  · exact ⟨v, L, rfl, h, hw⟩
  · exact absurd rfl h
theorem parse2Z_w (ax : Option Addr) (n cx : Nat) (z : List UInt8) (w : World) (ha : ax.isNone = false) (hz : z.length = n) (hn : n ≤ 2000000000) (hc : n ≤ cx) (hcm : cx ≤ maxLen) (hr : RdB w [] ax z) (hok : Ok2 z) (hk : 4*mQ z + 34 = n) : Calls Tryd.prog 65 #[.slice ax n cx] w (Post w [] (fun v L => ∃ g sp cap, v = .tuple #[.agg ([U64 (vQ z 0 8), U64 (vQ z 8 8), I64 (((vQ z 16 1).toNat:Int)), Slc g 0 (mQ z) cap, .slice none 0 0, U64 0] ++ cu8 (bQ z (4*mQ z + 18) 16)).toArray, .nilIface] ∧ L = [⟨g, cu64 (ixQ z 18 (mQ z)) ++ sp, 22, (0, 0)⟩] ∧ sp.length = cap - mQ z ∧ mQ z ≤ cap ∧ cap ≤ maxLen)) := by
  refine (parse2_c ax n cx z 0 w ha hz hn hc hcm hr hok hk).mono ?_
  rintro E W ⟨v, L, rfl, (⟨_, h⟩ | ⟨h, _⟩), hw⟩
  · exact ⟨v, L, rfl, h, hw⟩
  · exact absurd rfl h
theorem parse1Z_w (ax : Option Addr) (n cx : Nat) (z : List UInt8) (w : World) (ha : ax.isNone = false) (hz : z.length = n) (hn : n ≤ 2000000000) (hc : n ≤ cx) (hcm : cx ≤ maxLen) (hr : RdB w [] ax z) (hok : Ok1 z) (hk : 60*mQ z + 34 = n) : Calls Tryd.prog 65 #[.slice ax n cx] w (Post w [] (fun v L => ∃ g sp cap g2 sp2 cap2, v = .tuple #[.agg ([U64 (vQ z 0 8), U64 (vQ z 8 8), I64 (((vQ z 16 1).toNat:Int)), Slc g 0 (mQ z) cap, Slc g2 0 (mQ z) cap2, U64 0] ++ cu8 (bQ z (60*mQ z + 18) 16)).toArray, .nilIface] ∧ L = [⟨g, cu64 (ixQ z 18 (mQ z)) ++ sp, 22, (0, 0)⟩, ⟨g2, (seQ z (4*mQ z + 18) (mQ z)).flatMap sealC ++ sp2, 161, (0, 0)⟩] ∧ sp.length = cap - mQ z ∧ mQ z ≤ cap ∧ cap ≤ maxLen ∧ sp2.length = cap2 * 49 - mQ z * 49 ∧ mQ z ≤ cap2 ∧ cap2 ≤ maxLen)) := by
  refine (parse1_c ax n cx z 0 w ha hz hn hc hcm hr hok hk).mono ?_
  rintro E W ⟨v, L, rfl, (⟨_, h⟩ | ⟨h, _⟩), hw⟩
  · exact ⟨v, L, rfl, h, hw⟩
  · exact absurd rfl h
theorem parseN_w (ax : Option Addr) (n cx : Nat) (z : List UInt8) (k : Nat) (w : World) (ha : ax.isNone = false) (hz : z.length = n) (hn : n ≤ 2000000000) (hc : n ≤ cx) (hcm : cx ≤ maxLen) (hr : RdB w [] ax z) (h : (Ok1 z ∧ 60*mQ z + 34 + k = n ∧ k ≠ 0) ∨ (Ok2 z ∧ 4*mQ z + 34 + k = n ∧ k ≠ 0) ∨ (Ok3 z ∧ 41 + k = n ∧ k ≠ 0)) : Calls Tryd.prog 65 #[.slice ax n cx] w (Post w [] (fun v L => v = .tuple #[.agg ([U64 0, U64 0, I64 0, .slice none 0 0, .slice none 0 0, U64 0] ++ cu8 (zr8 16)).toArray, errV 50 2] ∧ L = [])) := by
  rcases h with ⟨hok, hk, hk0⟩ | ⟨hok, hk, hk0⟩ | ⟨hok, hk, hk0⟩
  ·
    refine (parse1_c ax n cx z k w ha hz hn hc hcm hr hok hk).mono ?_
    rintro E W ⟨v, L, rfl, (⟨h, _⟩ | ⟨_, h⟩), hw⟩
    · exact absurd h hk0
    · exact ⟨v, L, rfl, h, hw⟩
  ·
    refine (parse2_c ax n cx z k w ha hz hn hc hcm hr hok hk).mono ?_
    rintro E W ⟨v, L, rfl, (⟨h, _⟩ | ⟨_, h⟩), hw⟩
    · exact absurd h hk0
    · exact ⟨v, L, rfl, h, hw⟩
  ·
    refine (parse3_c ax n cx z k w ha hz hn hc hcm hr hok hk).mono ?_
    rintro E W ⟨v, L, rfl, (⟨h, _⟩ | ⟨_, h⟩), hw⟩
    · exact absurd h hk0
    · exact ⟨v, L, rfl, h, hw⟩
end Go.Proofs.YtkdpdgpphpngeaaDoor
namespace Go.Proofs.YtkdpdgpphpngeaaDoor
open Go Go.Sx
theorem one_shl {r : Nat} (h : r < 8) : (1:UInt8) <<< UInt8.ofNat r ≠ 0 := by
 have : r = 0 ∨ r = 1 ∨ r = 2 ∨ r = 3 ∨ r = 4 ∨ r = 5 ∨ r = 6 ∨ r = 7 := by omega
 rcases this with rfl | rfl | rfl | rfl | rfl | rfl | rfl | rfl <;> decide
theorem xor_ne {b c : UInt8} (h : c ≠ 0) : b ^^^ c ≠ b := fun e => h (by
 have h2 : b ^^^ (b ^^^ c) = b ^^^ b := by rw [e]
 rwa [← UInt8.xor_assoc, UInt8.xor_self, UInt8.zero_xor] at h2)
theorem idx_split (l : List UInt64) {i : Nat} : ∀ n, i < n → ∃ r, idxT l n = idxT l i ++ (numK 4 (g64 l i) 4 ++ r)
  | n + 1, h => by
    by_cases hi : i < n
    · obtain ⟨r, hr⟩ := idx_split l n hi
      exact ⟨r ++ numK 4 (g64 l n) 4, by rw [idxT_succ, hr, List.append_assoc, List.append_assoc]⟩
    · obtain rfl : i = n := by omega
      exact ⟨[], by rw [idxT_succ, List.append_nil]⟩
theorem shr_fit {x : UInt64} {s : Nat} (hs : s ≤ 7) (h : x >>> UInt64.ofNat (8*s) = 0) : x.toNat / 256 ^ s = 0 := by
 rw [← shr_divK x s hs, h]; rfl
theorem fit8 (x : UInt64) : x.toNat / 256 ^ 8 = 0 := Nat.div_eq_of_lt (UInt64.toNat_lt x)
theorem fit1 {n : Nat} (h : n < 256) : (UInt64.ofNat n).toNat / 256 ^ 1 = 0 := by
 rw [UInt64.toNat_ofNat', Nat.mod_eq_of_lt (by omega)]
 exact Nat.div_eq_of_lt h
theorem ixQ_back {z0 : List UInt8} {l : List UInt64} {A B : List UInt8} (hz : z0 = A ++ (idxT l l.length ++ B)) {p : Nat} (hA : A.length = p) (hR : RightI l) : ∀ i, i ≤ l.length → ixQ z0 p i = l.take i
 | 0, _ => by simp [ixQ]
 | i + 1, h => by
  obtain ⟨r, hr⟩ := idx_split l l.length (i := i) (by omega)
  have e : vQ z0 (p + 4*i) 4 = g64 l i := by
   refine vQ_at (a := A ++ idxT l i) (b := r ++ B) ?_ (by rw [List.length_append, idxT_len, hA]) (by omega) (shr_fit (by omega) (idx_fit hR (by omega)))
   rw [hz, hr]; simp [List.append_assoc]
  rw [ixQ_succ, ixQ_back hz hA hR i (by omega), e]
  exact take_step (g64_at (by omega))
theorem seQ_back {z0 : List UInt8} {ls : List SealR} {A B : List UInt8} (hz : z0 = A ++ (selT ls ++ B)) {p : Nat} (hA : A.length = p) : ∀ j, j ≤ ls.length → seQ z0 p j = ls.take j
 | 0, _ => by simp [seQ]
 | j + 1, h => by
  obtain ⟨x, hx⟩ : ∃ x, ls[j]? = some x := ⟨_, List.getElem?_eq_getElem (by omega)⟩
  have hs : selT ls = selT (ls.take j) ++ ((numK 8 x.e 8 ++ (x.d ++ x.t)) ++ selT (ls.drop (j + 1))) := by
   have h0 : ls.drop j = x :: ls.drop (j + 1) := by
    obtain ⟨hj, he⟩ := List.getElem?_eq_some_iff.1 hx
    rw [List.drop_eq_getElem_cons hj, he]
   have h1 : ls = ls.take j ++ x :: ls.drop (j + 1) := by
    rw [← h0]; exact (List.take_append_drop j ls).symm
   have h2 : selT (ls.take j ++ x :: ls.drop (j + 1)) = selT (ls.take j) ++ (putL x.e x.d x.t ++ selT (ls.drop (j + 1))) := by
    unfold selT; rw [List.flatMap_append, List.flatMap_cons]
   rw [← h1] at h2
   rw [h2]; unfold putL; simp [List.append_assoc]
  have hl : (A ++ selT (ls.take j)).length = p + 56*j := by
   rw [List.length_append, selT_len, hA, List.length_take]; omega
  have e1 : vQ z0 (p + 56*j) 8 = x.e := by
   refine vQ_at (a := A ++ selT (ls.take j)) (b := x.d ++ (x.t ++ (selT (ls.drop (j + 1)) ++ B))) ?_ hl (by omega) (fit8 _)
   rw [hz, hs]; simp [List.append_assoc]
  have e2 : bQ z0 (p + 56*j + 8) 32 = x.d := by
   refine bQ_at (a := (A ++ selT (ls.take j)) ++ numK 8 x.e 8) (b := x.t ++ (selT (ls.drop (j + 1)) ++ B)) ?_ (by rw [List.length_append, hl, C3]) x.hd
   rw [hz, hs]; simp [List.append_assoc]
  have e3 : bQ z0 (p + 56*j + 40) 16 = x.t := by
   refine bQ_at (a := ((A ++ selT (ls.take j)) ++ numK 8 x.e 8) ++ x.d) (b := selT (ls.drop (j + 1)) ++ B) ?_ (by rw [List.length_append, List.length_append, hl, C3, x.hd]) x.ht
   rw [hz, hs]; simp [List.append_assoc]
  have e : sQ z0 (p + 56*j) = x := (SealR.eq_iff _ _).2 ⟨e1, e2, e3⟩
  rw [seQ_succ, seQ_back hz hA j (by omega), e]
  exact take_step hx
theorem back3 {z0 tg : List UInt8} {pv ep bl : UInt64} (hz : z0 = tktT pv ep 3 [] [] bl ++ tg) (ht : tg.length = 16) (hm : mayN pv ep 3 [] [] bl = 0) :
  Ok3 z0 ∧ vQ z0 0 8 = pv ∧ vQ z0 8 8 = ep ∧ (vQ z0 16 1).toNat = 3 ∧ vQ z0 17 8 = bl ∧ bQ z0 25 16 = tg ∧ z0.length = 41 := by
 have hT : tktT pv ep 3 [] [] bl = ((numK 8 pv 8 ++ numK 8 ep 8) ++ numK 1 (UInt64.ofNat 3) 1) ++ numK 8 bl 8 := if_pos rfl
 rw [hT] at hz
 have e0 : vQ z0 0 8 = pv := vQ_at (a := []) (b := numK 8 ep 8 ++ (numK 1 (UInt64.ofNat 3) 1 ++ (numK 8 bl 8 ++ tg))) (by rw [hz]; simp [List.append_assoc]) rfl (by omega) (fit8 _)
 have e1 : vQ z0 8 8 = ep := vQ_at (a := numK 8 pv 8) (b := numK 1 (UInt64.ofNat 3) 1 ++ (numK 8 bl 8 ++ tg)) (by rw [hz]; simp [List.append_assoc]) (by rw [C3]) (by omega) (fit8 _)
 have e2 : vQ z0 16 1 = UInt64.ofNat 3 := vQ_at (a := numK 8 pv 8 ++ numK 8 ep 8) (b := numK 8 bl 8 ++ tg) (by rw [hz]; simp [List.append_assoc]) (by simp [C3]) (by omega) (fit1 (by omega))
 have e3 : vQ z0 17 8 = bl := vQ_at (a := (numK 8 pv 8 ++ numK 8 ep 8) ++ numK 1 (UInt64.ofNat 3) 1) (b := tg) (by rw [hz]; simp [List.append_assoc]) (by simp [C3]) (by omega) (fit8 _)
 have e4 : bQ z0 25 16 = tg := bQ_at (a := ((numK 8 pv 8 ++ numK 8 ep 8) ++ numK 1 (UInt64.ofNat 3) 1) ++ numK 8 bl 8) (b := []) (by rw [hz, List.append_nil]) (by simp [C3]) ht
 have hl : z0.length = 41 := by rw [hz]; simp [C3, ht]
 exact ⟨⟨by rw [e2]; rfl, by omega, by rw [e0, e1, e2, e3]; exact hm⟩, e0, e1, by rw [e2]; rfl, e3, e4, hl⟩
theorem back12 {z0 tg : List UInt8} {pv ep bl : UInt64} {k : Nat} {l : List UInt64} {ls : List SealR} (hz : z0 = tktT pv ep k l ls bl ++ tg) (ht : tg.length = 16) (hk : k = 1 ∨ k = 2) (hm : mayN pv ep (k:Int) l ls bl = 0) {ni ns : Nat} (hl : l.length = ni) (hls : ls.length = ns) :
  vQ z0 0 8 = pv ∧ vQ z0 8 8 = ep ∧ vQ z0 16 1 = UInt64.ofNat k ∧ mQ z0 = ni ∧ ixQ z0 18 ni = l ∧ seQ z0 (4*ni + 18) ns = ls ∧ bQ z0 (56*ns + 4*ni + 18) 16 = tg ∧ z0.length = 56*ns + 4*ni + 34 := by
 have hR := RightO_idx (F7 hm) (by omega)
 have hp := RightI_pos hR
 have hT : tktT pv ep k l ls bl = ((((numK 8 pv 8 ++ numK 8 ep 8) ++ numK 1 (UInt64.ofNat k) 1) ++ numK 1 (UInt64.ofNat (l.length - 1)) 1) ++ idxT l l.length) ++ selT ls := if_neg (by omega)
 rw [hT] at hz
 have hA : ((((numK 8 pv 8 ++ numK 8 ep 8) ++ numK 1 (UInt64.ofNat k) 1) ++ numK 1 (UInt64.ofNat (l.length - 1)) 1)).length = 18 := by simp [C3]
 have e0 : vQ z0 0 8 = pv := vQ_at (a := []) (b := numK 8 ep 8 ++ (numK 1 (UInt64.ofNat k) 1 ++ (numK 1 (UInt64.ofNat (l.length - 1)) 1 ++ (idxT l l.length ++ (selT ls ++ tg))))) (by rw [hz]; simp [List.append_assoc]) rfl (by omega) (fit8 _)
 have e1 : vQ z0 8 8 = ep := vQ_at (a := numK 8 pv 8) (b := numK 1 (UInt64.ofNat k) 1 ++ (numK 1 (UInt64.ofNat (l.length - 1)) 1 ++ (idxT l l.length ++ (selT ls ++ tg)))) (by rw [hz]; simp [List.append_assoc]) (by rw [C3]) (by omega) (fit8 _)
 have e2 : vQ z0 16 1 = UInt64.ofNat k := vQ_at (a := numK 8 pv 8 ++ numK 8 ep 8) (b := numK 1 (UInt64.ofNat (l.length - 1)) 1 ++ (idxT l l.length ++ (selT ls ++ tg))) (by rw [hz]; simp [List.append_assoc]) (by simp [C3]) (by omega) (fit1 (by omega))
 have e3 : vQ z0 17 1 = UInt64.ofNat (l.length - 1) := vQ_at (a := (numK 8 pv 8 ++ numK 8 ep 8) ++ numK 1 (UInt64.ofNat k) 1) (b := idxT l l.length ++ (selT ls ++ tg)) (by rw [hz]; simp [List.append_assoc]) (by simp [C3]) (by omega) (fit1 (by omega))
 have e4 : mQ z0 = ni := by
  rw [mQ_eq, e3, UInt64.toNat_ofNat', Nat.mod_eq_of_lt (by omega)]; omega
 have e5 : ixQ z0 18 ni = l := by
  have := ixQ_back (z0 := z0) (l := l) (B := selT ls ++ tg) (by rw [hz, List.append_assoc, List.append_assoc]) hA hR ni (by omega)
  rw [this, List.take_of_length_le (by omega)]
 have e6 : seQ z0 (4*ni + 18) ns = ls := by
  have := seQ_back (z0 := z0) (ls := ls) (A := (((((numK 8 pv 8 ++ numK 8 ep 8) ++ numK 1 (UInt64.ofNat k) 1) ++ numK 1 (UInt64.ofNat (l.length - 1)) 1)) ++ idxT l l.length)) (B := tg) (p := 4*ni + 18) (by rw [hz, List.append_assoc]) (by rw [List.length_append, hA, idxT_len]; omega) ns (by omega)
  rw [this, List.take_of_length_le (by omega)]
 have e7 : bQ z0 (56*ns + 4*ni + 18) 16 = tg := bQ_at (a := _) (b := []) (by rw [hz, List.append_nil]) (by rw [List.length_append, List.length_append, hA, idxT_len, selT_len]; omega) ht
 have hl2 : z0.length = 56*ns + 4*ni + 34 := by rw [hz, List.length_append, List.length_append, List.length_append, hA, idxT_len, selT_len, ht]; omega
 exact ⟨e0, e1, e2, e4, e5, e6, e7, hl2⟩
theorem RightO_bl {kd : Int} {l : List UInt64} {ls : List SealR} {bl : UInt64} (h : RightO kd l ls bl = true) (hk : kd = 1 ∨ kd = 2) : bl = 0 := by
  unfold RightO at h
  rcases hk with rfl | rfl
  · rw [if_pos rfl] at h
    simp only [Bool.and_eq_true, decide_eq_true_eq] at h
    exact h.1
  · rw [if_neg (by decide), if_pos rfl] at h
    simp only [Bool.and_eq_true, decide_eq_true_eq] at h
    exact h.1
theorem back2 {z0 tg : List UInt8} {pv ep bl : UInt64} {l : List UInt64} {ni : Nat} (hz : z0 = tktT pv ep 2 l [] bl ++ tg) (ht : tg.length = 16) (hm : mayN pv ep 2 l [] bl = 0) (hl : l.length = ni) :
  Ok2 z0 ∧ vQ z0 0 8 = pv ∧ vQ z0 8 8 = ep ∧ (vQ z0 16 1).toNat = 2 ∧ mQ z0 = ni ∧ ixQ z0 18 ni = l ∧ bQ z0 (4*ni + 18) 16 = tg ∧ z0.length = 4*ni + 34 ∧ bl = 0 := by
 obtain ⟨e0, e1, e2, e3, e4, _, e6, e7⟩ := back12 hz ht (.inr rfl) hm hl (ls := []) (ns := 0) rfl
 have hb : bl = 0 := RightO_bl (F7 hm) (.inr rfl)
 rw [show 56*0 + 4*ni + 18 = 4*ni + 18 by omega] at e6
 exact ⟨⟨by rw [e2]; rfl, by omega, by rw [e0, e1, e2, e3, e4, ← hb]; exact hm⟩, e0, e1, by rw [e2]; rfl, e3, e4, e6, by omega, hb⟩
theorem back1 {z0 tg : List UInt8} {pv ep bl : UInt64} {l : List UInt64} {ls : List SealR} {ni : Nat} (hz : z0 = tktT pv ep 1 l ls bl ++ tg) (ht : tg.length = 16) (hm : mayN pv ep 1 l ls bl = 0) (hl : l.length = ni) (hls : ls.length = ni) :
  Ok1 z0 ∧ vQ z0 0 8 = pv ∧ vQ z0 8 8 = ep ∧ (vQ z0 16 1).toNat = 1 ∧ mQ z0 = ni ∧ ixQ z0 18 ni = l ∧ seQ z0 (4*ni + 18) ni = ls ∧ bQ z0 (60*ni + 18) 16 = tg ∧ z0.length = 60*ni + 34 ∧ bl = 0 := by
 obtain ⟨e0, e1, e2, e3, e4, e5, e6, e7⟩ := back12 hz ht (.inl rfl) hm hl hls
 have hb : bl = 0 := RightO_bl (F7 hm) (.inl rfl)
 rw [show 56*ni + 4*ni + 18 = 60*ni + 18 by omega] at e6
 exact ⟨⟨by rw [e2]; rfl, by omega, by rw [e0, e1, e2, e3, e4, e5, ← hb]; exact hm⟩, e0, e1, by rw [e2]; rfl, e3, e4, e5, e6, by omega, hb⟩
def flipB (f : List UInt8) (q r : Nat) : List UInt8 := f.set q (g8 f q ^^^ ((1:UInt8) <<< UInt8.ofNat r))
theorem flipB_def (f : List UInt8) (q r : Nat) : flipB f q r = f.set q (g8 f q ^^^ ((1:UInt8) <<< UInt8.ofNat r)) := rfl
theorem ofN_ne {m : Nat} (h0 : 0 < m) (h : m < 18446744073709551616) : UInt64.ofNat m ≠ 0 := fun q => by
 have := congrArg UInt64.toNat q
 rw [UInt64.toNat_ofNat', Nat.mod_eq_of_lt h] at this
 have h2 : (0:UInt64).toNat = 0 := rfl
 omega
theorem rem_lt {m : Nat} (x : UInt64) (h0 : 0 < m) (h : m < 18446744073709551616) : (x % UInt64.ofNat m).toNat < m := by
 rw [UInt64.toNat_mod, UInt64.toNat_ofNat', Nat.mod_eq_of_lt h]
 exact Nat.mod_lt _ h0
theorem F2 (f : List UInt8) (q r : Nat) : (flipB f q r).length = f.length := by unfold flipB; simp
theorem flipB_ne {f : List UInt8} {q r : Nat} (hq : q < f.length) (hr : r < 8) : g8 (flipB f q r) q ≠ g8 f q := by
 unfold flipB
 rw [g8_set f q q _ hq, if_pos rfl]
 exact xor_ne (one_shl hr)
theorem flipB_at {f : List UInt8} {q r i : Nat} (hq : q < f.length) (h : i ≠ q) : g8 (flipB f q r) i = g8 f i := by
 unfold flipB
 rw [g8_set f q i _ hq, if_neg (by omega)]
def WholeT (z : List UInt8) : Prop := (Ok1 z ∧ z.length = 60*mQ z + 34) ∨ (Ok2 z ∧ z.length = 4*mQ z + 34) ∨ (Ok3 z ∧ z.length = 41)
theorem vQ_kind {z : List UInt8} (h : 17 ≤ z.length) : vQ z 16 1 = (g8 z 16).toUInt64 := by
 rw [vQ, if_pos h, valK_one]
 congr 1
 simp [g8, List.getD_eq_getElem?_getD]
theorem bit1 {r : Nat} (h : r < 8) : (1:UInt8) ^^^ ((1:UInt8) <<< UInt8.ofNat r) ≠ 2 ∧ (2:UInt8) ^^^ ((1:UInt8) <<< UInt8.ofNat r) ≠ 1 := by
 have : ∀ r : Fin 8, (1:UInt8) ^^^ ((1:UInt8) <<< UInt8.ofNat r.1) ≠ 2 ∧ (2:UInt8) ^^^ ((1:UInt8) <<< UInt8.ofNat r.1) ≠ 1 := by decide
 exact this ⟨r, h⟩
theorem u8_64 {x y : UInt8} (h : x.toUInt64 = y.toUInt64) : x = y := by
 apply UInt8.toNat_inj.1
 have := congrArg UInt64.toNat h
 rwa [UInt8.toNat_toUInt64, UInt8.toNat_toUInt64] at this
theorem kind_flip {P : List UInt8} {q r : Nat} (hl : 17 ≤ P.length) (hq : q < P.length) (hr : r < 8) : (vQ P 16 1 = 1 → vQ (flipB P q r) 16 1 ≠ 2) ∧ (vQ P 16 1 = 2 → vQ (flipB P q r) 16 1 ≠ 1) := by
  rw [vQ_kind hl, vQ_kind (by rw [F2]; exact hl)]
  by_cases e : 16 = q
  · subst e
    have h : g8 (flipB P 16 r) 16 = g8 P 16 ^^^ ((1:UInt8) <<< UInt8.ofNat r) := by
      unfold flipB; rw [g8_set P 16 16 _ hq, if_pos rfl]
    rw [h]
    refine ⟨fun h1 h2 => ?_, fun h1 h2 => ?_⟩
    · have a : g8 P 16 = 1 := u8_64 (y := 1) h1
      have b := u8_64 (y := 2) h2
      rw [a] at b
      exact (bit1 hr).1 b
    · have a : g8 P 16 = 2 := u8_64 (y := 2) h1
      have b := u8_64 (y := 1) h2
      rw [a] at b
      exact (bit1 hr).2 b
  · rw [flipB_at hq e]
    exact ⟨fun h1 h2 => absurd (h1.symm.trans h2) (by decide), fun h1 h2 => absurd (h1.symm.trans h2) (by decide)⟩
theorem flip_neP {P : List UInt8} {q r : Nat} (hq : q < P.length) (hr : r < 8) : flipB P q r ≠ P := fun e => flipB_ne hq hr (by rw [e])
theorem flip_take {P : List UInt8} {q r n : Nat} (hq : q < P.length) (h : n ≤ q) : (flipB P q r).take n = P.take n := by
 refine ext8n (by rw [List.length_take, List.length_take, F2]) (fun i hi => ?_)
 rw [List.length_take, F2] at hi
 have hi2 : i < n := by have := Nat.min_le_left n P.length; omega
 have e : ∀ z : List UInt8, g8 (z.take n) i = g8 z i := fun z => by simp [g8, List.getD_eq_getElem?_getD, List.getElem?_take, hi2]
 rw [e, e, flipB_at hq (by omega)]
theorem beqF {b : Bool} (h : b = false) : (b == false) = true := by rw [h]; rfl
theorem EJ {P F tg tg' : List UInt8} {pv ep bl pv' ep' bl' : UInt64} {k k' : Nat} {l l' : List UInt64} {ls ls' : List SealR} (hP : P = tktT pv ep k l ls bl ++ tg) (hF : F = tktT pv' ep' k' l' ls' bl' ++ tg') (hne : F ≠ P) :
  ¬ (pv' = pv ∧ ep' = ep ∧ tg' = tg ∧ ((k':Int)) = (k:Int) ∧ bl' = bl ∧ l' = l ∧ ls' = ls) := fun ⟨h1, h2, h3, h4, h5, h6, h7⟩ => hne (by
 have h4 : k' = k := by omega
 rw [hF, hP, h1, h2, h3, h4, h5, h6, h7])
theorem chk_flip {key P F tg' : List UInt8} {pv ep bl pv' ep' bl' : UInt64} {k k' : Nat} {l l' : List UInt64} {ls ls' : List SealR} {B : Nat} (hP : P = tktT pv ep k l ls bl ++ tkG key pv ep k l ls bl) (hF : F = tktT pv' ep' k' l' ls' bl' ++ tg') (hB : (tktT pv ep k l ls bl).length = B) (ht : F.take B = P.take B) (hne : F ≠ P) (hB' : (tktT pv' ep' k' l' ls' bl').length = B) :
    ¬ chkG key pv' ep' k' l' ls' bl' tg' = 0 := fun h => hne (by
  have e1 : F.take B = tktT pv' ep' k' l' ls' bl' := by rw [hF, ← hB', List.take_left]
  have e2 : P.take B = tktT pv ep k l ls bl := by rw [hP, ← hB, List.take_left]
  have e3 : tktT pv' ep' k' l' ls' bl' = tktT pv ep k l ls bl := by rw [← e1, ht, e2]
  have e4 : tg' = tkG key pv' ep' k' l' ls' bl' := by
    unfold chkG at h
    split at h
    · assumption
    · omega
  rw [hF, hP, e4]
  unfold tkG
  rw [e3])
theorem noWhole1 {P : List UInt8} {q r n : Nat} (hk : vQ P 16 1 = 1) (hl : P.length = 60*n + 34) (hq : q < P.length) (hr : r < 8) (h : ¬ (Ok1 (flipB P q r) ∧ (flipB P q r).length = 60*mQ (flipB P q r) + 34)) : ¬ WholeT (flipB P q r) := fun hw => by
  rcases hw with hw | hw | hw
  · exact h hw
  · exact (kind_flip (by omega) hq hr).1 hk hw.1.1
  · have := hw.2; rw [F2] at this; omega
theorem noWhole2 {P : List UInt8} {q r n : Nat} (hk : vQ P 16 1 = 2) (hl : P.length = 4*n + 34) (hq : q < P.length) (hr : r < 8) (h : ¬ (Ok2 (flipB P q r) ∧ (flipB P q r).length = 4*mQ (flipB P q r) + 34)) : ¬ WholeT (flipB P q r) := fun hw => by
  rcases hw with hw | hw | hw
  · exact (kind_flip (by omega) hq hr).2 hk hw.1.1
  · exact h hw
  · have := hw.2; rw [F2] at this; omega
theorem noWhole3 {P : List UInt8} {q r : Nat} (hl : P.length = 41) (h : ¬ (Ok3 (flipB P q r) ∧ (flipB P q r).length = 41)) : ¬ WholeT (flipB P q r) := fun hw => by
  rcases hw with hw | hw | hw
  · have := hw.2; rw [F2] at this; omega
  · have := hw.2; rw [F2] at this; omega
  · exact h hw
attribute [local irreducible] mid zr8 zr32 numK rnK valK rotr wordL spreadL comprL cpN adN spN wrdN constL initL padL stN outN routN sumG putL RightB tktT mayN idxT selT macL eQ vQ bQ sQ ixQ seQ
theorem parseX_w (ax : Option Addr) (n cx : Nat) (z : List UInt8) (w : World) (ha : ax.isNone = false) (hz : z.length = n) (hn : n ≤ 2000000000) (hc : n ≤ cx) (hcm : cx ≤ maxLen) (hr : RdB w [] ax z) (h : ¬ WholeT z) : Calls Tryd.prog 65 #[.slice ax n cx] w (Post w [] (fun v L => v = .tuple #[.agg ([U64 0, U64 0, I64 0, .slice none 0 0, .slice none 0 0, U64 0] ++ cu8 (zr8 16)).toArray, .iface 50 (I64 2)] ∧ L = [])) := by
  by_cases o1 : Ok1 z
  · have h1 := o1.2.1
    exact parseN_w ax n cx z (n - (60*mQ z + 34)) w ha hz hn hc hcm hr (.inl ⟨o1, by omega, fun e => h (.inl ⟨o1, by omega⟩)⟩)
  by_cases o2 : Ok2 z
  · have h1 := o2.2.1
    exact parseN_w ax n cx z (n - (4*mQ z + 34)) w ha hz hn hc hcm hr (.inr (.inl ⟨o2, by omega, fun e => h (.inr (.inl ⟨o2, by omega⟩))⟩))
  by_cases o3 : Ok3 z
  · have h1 := o3.2.1
    exact parseN_w ax n cx z (n - 41) w ha hz hn hc hcm hr (.inr (.inr ⟨o3, by omega, fun e => h (.inr (.inr ⟨o3, by omega⟩))⟩))
  · exact parseB_c ax n cx z w ha hz hn hc hcm hr ⟨o1, o2, o3⟩
theorem parsePut1_w (ax : Option Addr) (n cx : Nat) (z : List UInt8) (pv ep : UInt64) (k : Nat) (l : List UInt64) (ni : Nat) (ls : List SealR) (bl : UInt64) (tg : List UInt8) (w : World) (ha : ax.isNone = false) (hz : z.length = n) (hn : n ≤ 2000000000) (hc : n ≤ cx) (hcm : cx ≤ maxLen) (hr : RdB w [] ax z) (hk : k = 1) (hP : z = tktT pv ep k l ls bl ++ tg) (ht : tg.length = 16) (hm : mayN pv ep (k:Int) l ls bl = 0) (hl : l.length = ni) (hls : ls.length = ni) : Calls Tryd.prog 65 #[.slice ax n cx] w (Post w [] (fun v L => ∃ g sp cap g2 sp2 cap2, v = .tuple #[.agg ([U64 pv, U64 ep, I64 k, Slc g 0 ni cap, Slc g2 0 ni cap2, U64 bl] ++ cu8 tg).toArray, .nilIface] ∧ L = [⟨g, cu64 l ++ sp, 22, (0, 0)⟩, ⟨g2, ls.flatMap sealC ++ sp2, 161, (0, 0)⟩] ∧ sp.length = cap - ni ∧ ni ≤ cap ∧ cap ≤ maxLen ∧ sp2.length = cap2 * 49 - ni * 49 ∧ ni ≤ cap2 ∧ cap2 ≤ maxLen)) := by
 subst hk
 obtain ⟨hok, e0, e1, e2, e3, e4, e5, e6, e7, e8⟩ := back1 hP ht hm hl hls
 refine (parse1Z_w ax n cx z w ha hz hn hc hcm hr hok (by rw [e3]; omega)).mono ?_
 rintro E W ⟨v, L, rfl, ⟨g, sp, cap, g2, sp2, cap2, rfl, rfl, f1, f2, f3, f4, f5, f6⟩, hw⟩
 exact ⟨_, _, rfl, ⟨g, sp, cap, g2, sp2, cap2, by rw [e0, e1, e2, e3, e6, e8], by rw [e3, e4, e5], by rw [← e3]; exact f1, by rw [← e3]; exact f2, f3, by rw [← e3]; exact f4, by rw [← e3]; exact f5, f6⟩, hw⟩
theorem parsePut2_w (ax : Option Addr) (n cx : Nat) (z : List UInt8) (pv ep : UInt64) (k : Nat) (l : List UInt64) (ni : Nat) (bl : UInt64) (tg : List UInt8) (w : World) (ha : ax.isNone = false) (hz : z.length = n) (hn : n ≤ 2000000000) (hc : n ≤ cx) (hcm : cx ≤ maxLen) (hr : RdB w [] ax z) (hk : k = 2) (hP : z = tktT pv ep k l [] bl ++ tg) (ht : tg.length = 16) (hm : mayN pv ep (k:Int) l [] bl = 0) (hl : l.length = ni) : Calls Tryd.prog 65 #[.slice ax n cx] w (Post w [] (fun v L => ∃ g sp cap, v = .tuple #[.agg ([U64 pv, U64 ep, I64 k, Slc g 0 ni cap, .slice none 0 0, U64 bl] ++ cu8 tg).toArray, .nilIface] ∧ L = [⟨g, cu64 l ++ sp, 22, (0, 0)⟩] ∧ sp.length = cap - ni ∧ ni ≤ cap ∧ cap ≤ maxLen)) := by
 subst hk
 obtain ⟨hok, e0, e1, e2, e3, e4, e5, e6, e7⟩ := back2 hP ht hm hl
 refine (parse2Z_w ax n cx z w ha hz hn hc hcm hr hok (by rw [e3]; omega)).mono ?_
 rintro E W ⟨v, L, rfl, ⟨g, sp, cap, rfl, rfl, f1, f2, f3⟩, hw⟩
 exact ⟨_, _, rfl, ⟨g, sp, cap, by rw [e0, e1, e2, e3, e5, e7], by rw [e3, e4], by rw [← e3]; exact f1, by rw [← e3]; exact f2, f3⟩, hw⟩
theorem parsePut3_w (ax : Option Addr) (n cx : Nat) (z : List UInt8) (pv ep : UInt64) (k : Nat) (bl : UInt64) (tg : List UInt8) (w : World) (ha : ax.isNone = false) (hz : z.length = n) (hn : n ≤ 2000000000) (hc : n ≤ cx) (hcm : cx ≤ maxLen) (hr : RdB w [] ax z) (hk : k = 3) (hP : z = tktT pv ep k [] [] bl ++ tg) (ht : tg.length = 16) (hm : mayN pv ep (k:Int) [] [] bl = 0) : Calls Tryd.prog 65 #[.slice ax n cx] w (Post w [] (fun v L => v = .tuple #[.agg ([U64 pv, U64 ep, I64 k, .slice none 0 0, .slice none 0 0, U64 bl] ++ cu8 tg).toArray, .nilIface] ∧ L = [])) := by
 subst hk
 obtain ⟨hok, e0, e1, e2, e3, e4, e5⟩ := back3 hP ht hm
 refine (parse3Z_w ax n cx z w ha hz hn hc hcm hr hok (by omega)).mono ?_
 rintro E W ⟨v, L, rfl, ⟨rfl, rfl⟩, hw⟩
 exact ⟨_, _, rfl, ⟨by rw [e0, e1, e2, e3, e4], rfl⟩, hw⟩
end Go.Proofs.YtkdpdgpphpngeaaDoor
