import Derived.Test.YtkdpdgpphpngeaaDoorPkW4
set_option linter.unusedVariables false
set_option linter.unusedSimpArgs false
set_option maxRecDepth 100000
namespace Go.Proofs.YtkdpdgpphpngeaaDoor
open Go Go.Sx
open Go.Value renaming slice → SL
attribute [local irreducible] mid zr8 numK valK constL initL putL RightB tktT mayN idxT selT blankB spanB reqR plainV itB chB bB aB c1B c2B c3B c4B repR repT LargeQ eQ vQ bQ sQ ixQ seQ fQ fN
theorem bld29_01 {w : World} {v0 : Value} {v1 : Value} (h0 : v0.cells = [v0].toArray) (h1 : v1.cells = [v1].toArray) : (Instr.build 29 ([(0, v0), (1, v1)] : List (Nat × Value)).toArray).run Tryd.prog w = .ok (.agg (((([v0] : List Value) ++ ([v1] : List Value)) ++ ([I64 0, .slice none 0 0, .slice none 0 0, U64 0] : List Value)) ++ (cu8 (zr8 16) : List Value)).toArray) w :=
 EY (places := #[(0, 1), (1, 1), (2, 4), (6, 16)]) (Z := (([U64 0] : List Value) ++ (([U64 0] : List Value) ++ (([I64 0, .slice none 0 0, .slice none 0 0, U64 0] : List Value) ++ ((cu8 (zr8 16) : List Value) ++ []))))) (fun _ => by kernel_rfl) AV (fun _ => by kernel_rfl) ((fill_start ([U64 0] : List Value) (([U64 0] : List Value) ++ (([I64 0, .slice none 0 0, .slice none 0 0, U64 0] : List Value) ++ ((cu8 (zr8 16) : List Value) ++ []))) ([v0] : List Value) h0 (by simp [AN]) rfl).trans ((fill_step ([v0] : List Value) ([U64 0] : List Value) (([I64 0, .slice none 0 0, .slice none 0 0, U64 0] : List Value) ++ ((cu8 (zr8 16) : List Value) ++ [])) ([v1] : List Value) h1 (by simp [AN]) rfl).trans ((EP (([v0] : List Value) ++ ([v1] : List Value)) ([I64 0, .slice none 0 0, .slice none 0 0, U64 0] : List Value) ((cu8 (zr8 16) : List Value) ++ [])).trans ((EP ((([v0] : List Value) ++ ([v1] : List Value)) ++ ([I64 0, .slice none 0 0, .slice none 0 0, U64 0] : List Value)) (cu8 (zr8 16) : List Value) []).trans (by simp [Instr.fill])))))
set_option maxHeartbeats 8000000 in
theorem treadG_c (rb : Nat) (ao : Option Addr) (n c : Nat) (z0 z : List UInt8)  (w : World) (h0 : w.heap[rb]? = some (.cells [errV 50 (eQ z0 0), SL ao n c].toArray 204 (0, 0))) (hz : z.length = n) (hn : n ≤ 2000000000) (hc : n ≤ c) (hcm : c ≤ maxLen) (hr : RdB w [rb] ao z) (hq : Lq z0 z 0)  : Calls Tryd.prog 60 #[Ptr rb 0] w (Post w [rb] (fun v L => ∃ pv ep kd ni l ns ls bl tg tot ao' z' c' g1 cs1 T1 a1 c1 g2 cs2 T2 a2 c2, TkR z0 pv ep kd l ls bl tg tot ∧ l.length = ni ∧ ls.length = ns ∧ tg.length = 16 ∧ ni ≤ 256 ∧ ns ≤ 256 ∧ Lq z0 z' tot ∧ Adv ao z c ao' z' c' ∧ v = .agg ([U64 pv, U64 ep, I64 kd, SL a1 ni c1, SL a2 ns c2, U64 bl] ++ cu8 tg).toArray ∧ L = [⟨rb, [errV 50 (eQ z0 tot), SL ao' z'.length c'], 204, (0, 0)⟩, ⟨g1, cs1, T1, (0, 0)⟩, ⟨g2, cs2, T2, (0, 0)⟩] ∧ Gh (cu64 l) g1 cs1 a1 ∧ ni ≤ c1 ∧ c1 ≤ maxLen ∧ Gh (ls.flatMap sealC) g2 cs2 a2 ∧ ns ≤ c2 ∧ c2 ≤ maxLen)) := by
  have hmx : maxLen = 9223372036854775807 := rfl
  have hk8 := vQ_lt1 z0 16
  have hk9 := vQ_lt1 z0 17
  have hmQ : mQ z0 = (vQ z0 17 1).toNat + 1 := rfl
  refine enter w [rb] 90 [⟨rb, [errV 50 (eQ z0 0), SL ao n c], 204, (0, 0)⟩] [Ptr rb 0] Tryd.func60 rfl rfl (by simp) (BW (by simpa using h0) (by simp) (by simp)) ?_
  show JC _ _ _ [(0, Ptr rb 0)] _
  refine AH (AB (A4 (C0 _ ([U64 0, U64 0, I64 0, SL none 0 0, SL none 0 0, U64 0] ++ cu8 (zr8 16)) Tryd.zeroValue29 (by kernel_rfl)) rfl ?_))
  rintro v1 L1 ⟨nb1, hnb1, rfl, rfl⟩
  show JL _ _ _ _ ((2, Ptr nb1 0) :: _) [_, ⟨nb1, [U64 0, U64 0, I64 0, SL none 0 0, SL none 0 0, U64 0] ++ cu8 (zr8 16), 29, (0, 0)⟩]
  refine AI (AC (AH (AB (AA _ (AF rfl) rfl ?_))))
  have hz1 : (z).length = n := hz
  refine A4 (A8 109 _ [true, false] [rb] _ (AS [Ptr rb 0, I64 8] CV rfl) rfl (fun w1 hw1 => E1 rb 0 8 ao n c z0 z w1 (hw1.ent _ (List.mem_of_getElem? (i := 0) rfl)) hz (by omega) (by omega) (by omega) ((fun _ _ h => h) _ _ (hr.at (M' := [rb]) hw1 (hw1.apart [0] _ rfl))) hq (by unfold Szd; omega))) rfl ?_
  rintro v1 L1 ⟨_, ⟨rfl, ao1, zz1, ca1, hq1, ⟨hA1, hb1, hb2, hb3⟩, rfl⟩, rfl⟩
  show JL _ _ _ _ ((7, U64 (vQ z0 0 8)) :: _) [_, ⟨rb, [errV 50 (eQ z0 8), SL ao1 zz1.length ca1], 204, (0, 0)⟩]
  refine AA _ (AF rfl) rfl ?_
  have hz2 : (zz1).length = zz1.length := rfl
  refine A4 (A8 109 _ [false, true] [rb] _ (AS _ CV rfl) rfl (fun w1 hw1 => E1 rb 8 8 ao1 zz1.length ca1 z0 zz1 w1 (hw1.ent _ (List.mem_of_getElem? (i := 1) rfl)) rfl (by omega) (by omega) (by omega) ((fun w M h => hA1 w M ((fun _ _ h => h) w M h)) _ _ (hr.at (M' := [rb]) hw1 (hw1.apart [1] _ rfl))) hq1 (by unfold Szd; omega))) rfl ?_
  rintro v1 L1 ⟨_, ⟨rfl, ao2, zz2, ca2, hq2, ⟨hA2, hb4, hb5, hb6⟩, rfl⟩, rfl⟩
  show JL _ _ _ _ ((9, U64 (vQ z0 8 8)) :: _) [_, ⟨rb, [errV 50 (eQ z0 16), SL ao2 zz2.length ca2], 204, (0, 0)⟩]
  refine AA (.agg ([U64 (vQ z0 0 8), U64 (vQ z0 8 8), I64 0, SL none 0 0, SL none 0 0, U64 0] ++ cu8 (zr8 16)).toArray) (CP [(0, U64 (vQ z0 0 8)), (1, U64 (vQ z0 8 8))] _ rfl (fun _ => bld29_01 rfl rfl)) rfl ?_
  refine A4 (C0 _ ([U64 0, U64 0, I64 0, SL none 0 0, SL none 0 0, U64 0] ++ cu8 (zr8 16)) Tryd.zeroValue29 (by kernel_rfl)) rfl ?_
  rintro v1 L1 ⟨nb2, hnb2, rfl, rfl⟩
  show JL _ _ _ _ ((3, Ptr nb2 0) :: _) [_, _, ⟨nb2, [U64 0, U64 0, I64 0, SL none 0 0, SL none 0 0, U64 0] ++ cu8 (zr8 16), 29, (0, 0)⟩]
  refine A7 (BQ 2 nb2 22 ([U64 0, U64 0, I64 0, SL none 0 0, SL none 0 0, U64 0] ++ cu8 (zr8 16)) 29 ([U64 (vQ z0 0 8), U64 (vQ z0 8 8), I64 0, SL none 0 0, SL none 0 0, U64 0] ++ cu8 (zr8 16)) rfl rfl rfl BG (by simp [(AN 16)]) (BY (by simp [Value.oneCell']) CT) (by simp [(AN 16)]) (BT (by simp [(AN 16), (AN 16)]))) rfl ?_
  show JL _ _ _ _ _ [_, _, ⟨nb2, [U64 (vQ z0 0 8), U64 (vQ z0 8 8), I64 0, SL none 0 0, SL none 0 0, U64 0] ++ cu8 (zr8 16), 29, (0, 0)⟩]
  refine AI (AC (AH (AB (AA _ (AF rfl) rfl ?_))))
  have hz3 : (zz2).length = zz2.length := rfl
  refine A4 (A8 109 _ [false, true, false] [rb] _ (AS [Ptr rb 0, I64 1] CV rfl) rfl (fun w1 hw1 => E1 rb 16 1 ao2 zz2.length ca2 z0 zz2 w1 (hw1.ent _ (List.mem_of_getElem? (i := 1) rfl)) rfl (by omega) (by omega) (by omega) ((fun w M h => hA2 w M ((fun w M h => hA1 w M ((fun _ _ h => h) w M h)) w M h)) _ _ (hr.at (M' := [rb]) hw1 (hw1.apart [1] _ rfl))) hq2 (by unfold Szd; omega))) rfl ?_
  rintro v1 L1 ⟨_, ⟨rfl, ao3, zz3, ca3, hq3, ⟨hA3, hb7, hb8, hb9⟩, rfl⟩, rfl⟩
  show JL _ _ _ _ ((12, U64 (vQ z0 16 1)) :: _) [_, _, ⟨rb, [errV 50 (eQ z0 17), SL ao3 zz3.length ca3], 204, (0, 0)⟩]
  refine AA (I64 (((vQ z0 16 1).toNat:Int))) (CM _ _ rfl fun _ => ER (by rw [AW]; rfl) A6 (vQ z0 16 1) _ rfl (by omega)) rfl ?_
  refine AA (Ptr nb2 2) (AD 2 26 4 AV rfl BL rfl rfl) rfl ?_
  refine AA (Ptr nb2 2) (AD 0 3 1 AZ rfl AT rfl rfl) rfl ?_
  refine A7 (CS 1 nb2 2 1 ([U64 (vQ z0 0 8), U64 (vQ z0 8 8), I64 0, SL none 0 0, SL none 0 0, U64 0] ++ cu8 (zr8 16)) 29 (I64 (((vQ z0 16 1).toNat:Int))) ([I64 (((vQ z0 16 1).toNat:Int))]) ([U64 (vQ z0 0 8), U64 (vQ z0 8 8), I64 (((vQ z0 16 1).toNat:Int)), SL none 0 0, SL none 0 0, U64 0] ++ cu8 (zr8 16)) rfl rfl rfl rfl AT rfl (by simp [Value.oneCell']) (by simp [(AN 16)]) (EF (p := [U64 (vQ z0 0 8), U64 (vQ z0 8 8), I64 0, SL none 0 0, SL none 0 0, U64 0]) (vs := [I64 (((vQ z0 16 1).toNat:Int))]) (o := 2) (by simp []) (rfl))) rfl ?_
  show JL _ _ _ _ _ [_, ⟨nb2, [U64 (vQ z0 0 8), U64 (vQ z0 8 8), I64 (((vQ z0 16 1).toNat:Int)), SL none 0 0, SL none 0 0, U64 0] ++ cu8 (zr8 16), 29, (0, 0)⟩, _]
  refine AI (AC (AH (AH (AB (AA (Ptr nb2 2) (AD 2 26 4 AV rfl BL rfl rfl) rfl ?_)))))
  refine AA (Ptr nb2 2) (AD 0 3 1 AZ rfl AT rfl rfl) rfl ?_
  refine AA (I64 (((vQ z0 16 1).toNat:Int))) (AO rfl (A0 AY (AU 1 rfl (AJ (AK (AK (Seg.head))))))) rfl ?_
  refine AI (AC (FK (ι := (UInt64 × Nat × Option Addr × List UInt8 × Nat) ⊕ (Nat × Nat × Nat × List Value × Nat × Option Addr × List UInt8 × Nat) ⊕ (Nat × Nat × Nat × List Value × Nat × Nat × List Value × Nat × Option Addr × List UInt8 × Nat)) (fun x => match x with | .inl ⟨bl, pp, aa, zz, cc⟩ => [(0, Ptr rb 0), (2, Ptr nb1 0), (3, Ptr nb2 0)] | .inr (.inl ⟨m, pp, gb, sp, cp, aa, zz, cc⟩) => [(0, Ptr rb 0), (2, Ptr nb1 0), (3, Ptr nb2 0)] | .inr (.inr ⟨m, pp, gs, sp2, cp2, gb, sp, cp, aa, zz, cc⟩) => [(0, Ptr rb 0), (2, Ptr nb1 0), (3, Ptr nb2 0)]) (fun x => match x with | .inl ⟨bl, pp, aa, zz, cc⟩ => [⟨rb, [errV 50 (eQ z0 pp), SL aa zz.length cc], 204, (0, 0)⟩, ⟨nb1, [U64 0, U64 0, I64 0, SL none 0 0, SL none 0 0, U64 0] ++ cu8 (zr8 16), 29, (0, 0)⟩, ⟨nb2, [U64 (vQ z0 0 8), U64 (vQ z0 8 8), I64 (((vQ z0 16 1).toNat:Int)), SL none 0 0, SL none 0 0, U64 bl] ++ cu8 (zr8 16), 29, (0, 0)⟩] | .inr (.inl ⟨m, pp, gb, sp, cp, aa, zz, cc⟩) => [⟨rb, [errV 50 (eQ z0 pp), SL aa zz.length cc], 204, (0, 0)⟩, ⟨nb1, [U64 0, U64 0, I64 0, SL none 0 0, SL none 0 0, U64 0] ++ cu8 (zr8 16), 29, (0, 0)⟩, ⟨nb2, [U64 (vQ z0 0 8), U64 (vQ z0 8 8), I64 (((vQ z0 16 1).toNat:Int)), Slc gb 0 m cp, SL none 0 0, U64 0] ++ cu8 (zr8 16), 29, (0, 0)⟩, ⟨gb, cu64 (ixQ z0 18 m) ++ sp, 22, (0, 0)⟩] | .inr (.inr ⟨m, pp, gs, sp2, cp2, gb, sp, cp, aa, zz, cc⟩) => [⟨rb, [errV 50 (eQ z0 pp), SL aa zz.length cc], 204, (0, 0)⟩, ⟨nb1, [U64 0, U64 0, I64 0, SL none 0 0, SL none 0 0, U64 0] ++ cu8 (zr8 16), 29, (0, 0)⟩, ⟨nb2, [U64 (vQ z0 0 8), U64 (vQ z0 8 8), I64 (((vQ z0 16 1).toNat:Int)), Slc gb 0 m cp, Slc gs 0 m cp2, U64 0] ++ cu8 (zr8 16), 29, (0, 0)⟩, ⟨gb, cu64 (ixQ z0 18 m) ++ sp, 22, (0, 0)⟩, ⟨gs, (seQ z0 (4*m + 18) m).flatMap sealC ++ sp2, 161, (0, 0)⟩]) (fun x => match x with | .inl ⟨bl, pp, aa, zz, cc⟩ => ((vQ z0 16 1 = 3 ∧ bl = vQ z0 17 8 ∧ pp = 25) ∨ (BadQ z0 ∧ mayN (vQ z0 0 8) (vQ z0 8 8) (((vQ z0 16 1).toNat:Int)) ([] : List UInt64) ([] : List SealR) bl ≠ 0)) ∧ Lq z0 zz pp ∧ (∀ w M, RdB w M ao z → RdB w M aa zz) ∧ zz.length ≤ cc ∧ cc ≤ maxLen ∧ zz.length ≤ n | .inr (.inl ⟨m, pp, gb, sp, cp, aa, zz, cc⟩) => vQ z0 16 1 = 2 ∧ pp = 4*m + 18 ∧ m ≤ 256 ∧ (m = mQ z0 ∨ (m < mQ z0 ∧ z0.length ≤ m + 18)) ∧ sp.length = cp - m ∧ m ≤ cp ∧ cp ≤ maxLen ∧ Lq z0 zz pp ∧ (∀ w M, RdB w M ao z → RdB w M aa zz) ∧ zz.length ≤ cc ∧ cc ≤ maxLen ∧ zz.length ≤ n | .inr (.inr ⟨m, pp, gs, sp2, cp2, gb, sp, cp, aa, zz, cc⟩) => vQ z0 16 1 = 1 ∧ pp = 60*m + 18 ∧ m ≤ 256 ∧ (m = mQ z0 ∨ (m < mQ z0 ∧ z0.length ≤ m + 18)) ∧ sp2.length = cp2 * 49 - m * 49 ∧ m ≤ cp2 ∧ cp2 ≤ maxLen ∧ sp.length = cp - m ∧ m ≤ cp ∧ cp ≤ maxLen ∧ Lq z0 zz pp ∧ (∀ w M, RdB w M ao z → RdB w M aa zz) ∧ zz.length ≤ cc ∧ cc ≤ maxLen ∧ zz.length ≤ n) ?_ ?_))
  ·
    refine B5 (AH (AB (AA (.bool (decide ((((vQ z0 16 1).toNat:Int)) = (3:Int)))) (AR rfl rfl fun _ => BK _ _) rfl ?_)))
    refine AA _ (AE rfl) rfl ?_
    refine AI (AC (B9 (decide ((((vQ z0 16 1).toNat:Int)) = (3:Int))) rfl (fun hb10 => ?_) (fun hb10 => ?_)))
    ·
      have hp10 : (((vQ z0 16 1).toNat:Int)) = (3:Int) := of_decide_eq_true hb10
      refine AB (AA _ (AF rfl) rfl ?_)
      have hz4 : (zz3).length = zz3.length := rfl
      refine A4 (A8 109 _ [false, false, true] [rb] _ (AS [Ptr rb 0, I64 8] CV rfl) rfl (fun w1 hw1 => E1 rb 17 8 ao3 zz3.length ca3 z0 zz3 w1 (hw1.ent _ (List.mem_of_getElem? (i := 2) rfl)) rfl (by omega) (by omega) (by omega) ((fun w M h => hA3 w M ((fun w M h => hA2 w M ((fun w M h => hA1 w M ((fun _ _ h => h) w M h)) w M h)) w M h)) _ _ (hr.at (M' := [rb]) hw1 (hw1.apart [2] _ rfl))) hq3 (by unfold Szd; omega))) rfl ?_
      rintro v1 L1 ⟨_, ⟨rfl, ao4, zz4, ca4, hq4, ⟨hA4, hb11, hb12, hb13⟩, rfl⟩, rfl⟩
      show JL _ _ _ _ ((22, U64 (vQ z0 17 8)) :: _) [_, _, ⟨rb, [errV 50 (eQ z0 25), SL ao4 zz4.length ca4], 204, (0, 0)⟩]
      refine AA (Ptr nb2 2) (AD 2 26 4 AV rfl BL rfl rfl) rfl ?_
      refine AA (Ptr nb2 5) (AD 3 22 1 AZ rfl A9 rfl rfl) rfl ?_
      refine A7 (CS 1 nb2 5 1 ([U64 (vQ z0 0 8), U64 (vQ z0 8 8), I64 (((vQ z0 16 1).toNat:Int)), SL none 0 0, SL none 0 0, U64 0] ++ cu8 (zr8 16)) 29 (U64 (vQ z0 17 8)) ([U64 (vQ z0 17 8)]) ([U64 (vQ z0 0 8), U64 (vQ z0 8 8), I64 (((vQ z0 16 1).toNat:Int)), SL none 0 0, SL none 0 0, U64 (vQ z0 17 8)] ++ cu8 (zr8 16)) rfl rfl rfl rfl A9 rfl (by simp [Value.oneCell']) (by simp [(AN 16)]) (EF (p := [U64 (vQ z0 0 8), U64 (vQ z0 8 8), I64 (((vQ z0 16 1).toNat:Int)), SL none 0 0, SL none 0 0, U64 0]) (vs := [U64 (vQ z0 17 8)]) (o := 5) (by simp []) (rfl))) rfl ?_
      show JL _ _ _ _ _ [_, ⟨nb2, [U64 (vQ z0 0 8), U64 (vQ z0 8 8), I64 (((vQ z0 16 1).toNat:Int)), SL none 0 0, SL none 0 0, U64 (vQ z0 17 8)] ++ cu8 (zr8 16), 29, (0, 0)⟩, _]
      refine AI (BS (EX [2, 0, 1] (by decide) ?_))
      show JQ _ _ _ _ [_, _, _]
      refine DT (.inl (vQ z0 17 8, 25, ao4, zz4, ca4)) ⟨.inl ⟨kd3 hb10, rfl, rfl⟩, hq4, (fun w M h => hA4 w M ((fun w M h => hA3 w M ((fun w M h => hA2 w M ((fun w M h => hA1 w M ((fun _ _ h => h) w M h)) w M h)) w M h)) w M h)), by omega, by omega, by omega⟩ (Sub.all rfl) rfl
    ·
      have hp10 : ¬ ((((vQ z0 16 1).toNat:Int)) = (3:Int)) := of_decide_eq_false hb10
      refine AH (AH (AB (AA (.bool (decide ((((vQ z0 16 1).toNat:Int)) = (1:Int)))) (AR rfl rfl fun _ => BK _ _) rfl ?_)))
      refine AA _ (AE rfl) rfl ?_
      refine AI (AC (FK (ι := Unit) (fun _ => [(0, Ptr rb 0), (2, Ptr nb1 0), (3, Ptr nb2 0), (25, .bool (decide ((((vQ z0 16 1).toNat:Int)) = (1:Int)) || decide ((((vQ z0 16 1).toNat:Int)) = (2:Int))))]) (fun _ => [⟨nb1, [U64 0, U64 0, I64 0, SL none 0 0, SL none 0 0, U64 0] ++ cu8 (zr8 16), 29, (0, 0)⟩, ⟨nb2, [U64 (vQ z0 0 8), U64 (vQ z0 8 8), I64 (((vQ z0 16 1).toNat:Int)), SL none 0 0, SL none 0 0, U64 0] ++ cu8 (zr8 16), 29, (0, 0)⟩, ⟨rb, [errV 50 (eQ z0 17), SL ao3 zz3.length ca3], 204, (0, 0)⟩]) (fun _ => True) ?_ ?_))
      ·
        refine B9 (decide ((((vQ z0 16 1).toNat:Int)) = (1:Int))) rfl (fun hb14 => ?_) (fun hb14 => ?_)
        ·
          have hp14 : (((vQ z0 16 1).toNat:Int)) = (1:Int) := of_decide_eq_true hb14
          refine BF (DT (()) trivial (Sub.cons rfl (Sub.cons rfl (Sub.cons rfl (Sub.cons (congrArg (fun b => some (Value.bool b)) (by rw [hb14]; rfl : decide ((((vQ z0 16 1).toNat:Int)) = (1:Int)) = (decide ((((vQ z0 16 1).toNat:Int)) = (1:Int)) || decide ((((vQ z0 16 1).toNat:Int)) = (2:Int))))) (Sub.nil))))) rfl)
        ·
          have hp14 : ¬ ((((vQ z0 16 1).toNat:Int)) = (1:Int)) := of_decide_eq_false hb14
          refine AB (AA (.bool (decide ((((vQ z0 16 1).toNat:Int)) = (2:Int)))) (AR rfl rfl fun _ => BK _ _) rfl ?_)
          refine AA _ (AE rfl) rfl ?_
          refine AI (DT (()) trivial (Sub.cons rfl (Sub.cons rfl (Sub.cons rfl (Sub.cons (congrArg (fun b => some (Value.bool b)) (by rw [hb14]; rfl : decide ((((vQ z0 16 1).toNat:Int)) = (2:Int)) = (decide ((((vQ z0 16 1).toNat:Int)) = (1:Int)) || decide ((((vQ z0 16 1).toNat:Int)) = (2:Int))))) (Sub.nil))))) rfl)
      ·
        rintro _ hx
        obtain _ := hx
        show JQ _ _ _ [(0, Ptr rb 0), (2, Ptr nb1 0), (3, Ptr nb2 0), (25, .bool (decide ((((vQ z0 16 1).toNat:Int)) = (1:Int)) || decide ((((vQ z0 16 1).toNat:Int)) = (2:Int))))] [⟨nb1, [U64 0, U64 0, I64 0, SL none 0 0, SL none 0 0, U64 0] ++ cu8 (zr8 16), 29, (0, 0)⟩, ⟨nb2, [U64 (vQ z0 0 8), U64 (vQ z0 8 8), I64 (((vQ z0 16 1).toNat:Int)), SL none 0 0, SL none 0 0, U64 0] ++ cu8 (zr8 16), 29, (0, 0)⟩, ⟨rb, [errV 50 (eQ z0 17), SL ao3 zz3.length ca3], 204, (0, 0)⟩]
        refine AC (B9 ((decide ((((vQ z0 16 1).toNat:Int)) = (1:Int)) || decide ((((vQ z0 16 1).toNat:Int)) = (2:Int)))) rfl (fun hb15 => ?_) (fun hb15 => ?_))
        ·
          refine AH ?_
          have hk12 : vQ z0 16 1 = 1 ∨ vQ z0 16 1 = 2 := kd12 hb15
          refine AB (AA _ (AF rfl) rfl ?_)
          have hz5 : (zz3).length = zz3.length := rfl
          refine A4 (A8 109 _ [false, false, true] [rb] _ (AS [Ptr rb 0, I64 1] CV rfl) rfl (fun w1 hw1 => E1 rb 17 1 ao3 zz3.length ca3 z0 zz3 w1 (hw1.ent _ (List.mem_of_getElem? (i := 2) rfl)) rfl (by omega) (by omega) (by omega) ((fun w M h => hA3 w M ((fun w M h => hA2 w M ((fun w M h => hA1 w M ((fun _ _ h => h) w M h)) w M h)) w M h)) _ _ (hr.at (M' := [rb]) hw1 (hw1.apart [2] _ rfl))) hq3 (by unfold Szd; omega))) rfl ?_
          rintro v1 L1 ⟨_, ⟨rfl, ao5, zz5, ca5, hq5, ⟨hA5, hb16, hb17, hb18⟩, rfl⟩, rfl⟩
          show JL _ _ _ _ ((29, U64 (vQ z0 17 1)) :: _) [_, _, ⟨rb, [errV 50 (eQ z0 18), SL ao5 zz5.length ca5], 204, (0, 0)⟩]
          refine AA (I64 (((vQ z0 17 1).toNat:Int))) (CM _ _ rfl fun _ => ER (by rw [AW]; rfl) A6 (vQ z0 17 1) _ rfl (by omega)) rfl ?_
          refine AA (I64 (((vQ z0 17 1).toNat:Int) + 1)) (AR rfl rfl fun _ => DQ _ _ (((vQ z0 17 1).toNat:Int) + 1) (by omega) (by omega)) rfl ?_
          refine AA _ (AE rfl) rfl ?_
          refine AI (AC (AH (AH ?_)))
          obtain ⟨m, hm1, hm2, hm3⟩ := minQ hq5
          refine AB (AA _ (AF rfl) rfl ?_)
          refine AA _ (AF rfl) rfl ?_
          refine A7 (A2 61 [Ptr rb 0] (I64 ((leftN (eQ z0 18) zz5.length:Int))) (AS _ DV rfl) (fun w1 hw1 => left_w rb (eQ z0 18) ao5 zz5.length ca5 w1 (RdA.of hw1 (AU 2 rfl (AQ _)) (by simp)))) rfl ?_
          show JL _ _ _ _ ((34, I64 ((leftN (eQ z0 18) zz5.length:Int))) :: _) [_, _, _]
          refine AA (I64 m) (Ev_min rfl rfl hm1) rfl ?_
          refine AA _ (AF rfl) rfl ?_
          refine AI (AC (FK (ι := (Unit) ⊕ (Nat × List Value × Nat × Option Addr × List UInt8 × Nat)) (fun x => match x with | .inl _ => [(0, Ptr rb 0), (2, Ptr nb1 0), (3, Ptr nb2 0)] | .inr ⟨gb, sp, cp, aa, zz, cc⟩ => [(0, Ptr rb 0), (2, Ptr nb1 0), (3, Ptr nb2 0)]) (fun x => match x with | .inl _ => [⟨rb, [errV 50 (eQ z0 18), SL ao5 zz5.length ca5], 204, (0, 0)⟩, ⟨nb1, [U64 0, U64 0, I64 0, SL none 0 0, SL none 0 0, U64 0] ++ cu8 (zr8 16), 29, (0, 0)⟩, ⟨nb2, [U64 (vQ z0 0 8), U64 (vQ z0 8 8), I64 (((vQ z0 16 1).toNat:Int)), SL none 0 0, SL none 0 0, U64 0] ++ cu8 (zr8 16), 29, (0, 0)⟩] | .inr ⟨gb, sp, cp, aa, zz, cc⟩ => [⟨rb, [errV 50 (eQ z0 (4*m + 18)), SL aa zz.length cc], 204, (0, 0)⟩, ⟨nb1, [U64 0, U64 0, I64 0, SL none 0 0, SL none 0 0, U64 0] ++ cu8 (zr8 16), 29, (0, 0)⟩, ⟨nb2, [U64 (vQ z0 0 8), U64 (vQ z0 8 8), I64 (((vQ z0 16 1).toNat:Int)), Slc gb 0 m cp, SL none 0 0, U64 0] ++ cu8 (zr8 16), 29, (0, 0)⟩, ⟨gb, cu64 (ixQ z0 18 m) ++ sp, 22, (0, 0)⟩]) (fun x => match x with | .inl _ => m = 0 | .inr ⟨gb, sp, cp, aa, zz, cc⟩ => 0 < m ∧ sp.length = cp - m ∧ m ≤ cp ∧ cp ≤ maxLen ∧ Lq z0 zz (4*m + 18) ∧ (∀ w M, RdB w M ao z → RdB w M aa zz) ∧ zz.length ≤ cc ∧ cc ≤ maxLen ∧ zz.length ≤ n) ?_ ?_))
          ·
            refine B5 (EX [2, 0, 1] (by decide) ?_)
            show JC _ _ _ _ [_, _, _]
            refine EM (ι := (Unit) ⊕ (Nat × List UInt64 × Nat × List Value × Nat × Option Addr × List UInt8 × Nat)) (fun x => match x with | .inl _ => [(0, Ptr rb 0), (2, Ptr nb1 0), (3, Ptr nb2 0), (35, I64 m), (36, I64 0)] | .inr ⟨i, ll, gb, sp, cp, aa, zz, cc⟩ => [(0, Ptr rb 0), (2, Ptr nb1 0), (3, Ptr nb2 0), (35, I64 m), (36, I64 i)]) (fun x => match x with | .inl _ => [⟨rb, [errV 50 (eQ z0 18), SL ao5 zz5.length ca5], 204, (0, 0)⟩, ⟨nb1, [U64 0, U64 0, I64 0, SL none 0 0, SL none 0 0, U64 0] ++ cu8 (zr8 16), 29, (0, 0)⟩, ⟨nb2, [U64 (vQ z0 0 8), U64 (vQ z0 8 8), I64 (((vQ z0 16 1).toNat:Int)), SL none 0 0, SL none 0 0, U64 0] ++ cu8 (zr8 16), 29, (0, 0)⟩] | .inr ⟨i, ll, gb, sp, cp, aa, zz, cc⟩ => [⟨rb, [errV 50 (eQ z0 (4*i + 18)), SL aa zz.length cc], 204, (0, 0)⟩, ⟨nb1, [U64 0, U64 0, I64 0, SL none 0 0, SL none 0 0, U64 0] ++ cu8 (zr8 16), 29, (0, 0)⟩, ⟨nb2, [U64 (vQ z0 0 8), U64 (vQ z0 8 8), I64 (((vQ z0 16 1).toNat:Int)), Slc gb 0 i cp, SL none 0 0, U64 0] ++ cu8 (zr8 16), 29, (0, 0)⟩, ⟨gb, cu64 ll ++ sp, 22, (0, 0)⟩]) (fun x => match x with | .inl _ => True | .inr ⟨i, ll, gb, sp, cp, aa, zz, cc⟩ => 0 < i ∧ i ≤ m ∧ ll = ixQ z0 18 i ∧ ll.length = i ∧ sp.length = cp - i ∧ i ≤ cp ∧ cp ≤ maxLen ∧ Lq z0 zz (4*i + 18) ∧ (∀ w M, RdB w M ao z → RdB w M aa zz) ∧ zz.length ≤ cc ∧ cc ≤ maxLen ∧ zz.length ≤ n) (fun x => match x with | .inl _ => m + 2 | .inr ⟨i, ll, gb, sp, cp, aa, zz, cc⟩ => m + 1 - i) (.inl ()) trivial (Sub.all rfl) rfl ?_
            rintro (_ | ⟨i, ll, gb, sp, cp, aa, zz, cc⟩) hx
            ·
              obtain _ := hx
              show JC _ _ _ [(0, Ptr rb 0), (2, Ptr nb1 0), (3, Ptr nb2 0), (35, I64 m), (36, I64 0)] [⟨rb, [errV 50 (eQ z0 18), SL ao5 zz5.length ca5], 204, (0, 0)⟩, ⟨nb1, [U64 0, U64 0, I64 0, SL none 0 0, SL none 0 0, U64 0] ++ cu8 (zr8 16), 29, (0, 0)⟩, ⟨nb2, [U64 (vQ z0 0 8), U64 (vQ z0 8 8), I64 (((vQ z0 16 1).toNat:Int)), SL none 0 0, SL none 0 0, U64 0] ++ cu8 (zr8 16), 29, (0, 0)⟩]
              refine AH (AB (AA (.bool (decide ((0:Int) < ((m:Int))))) (AR rfl rfl fun _ => CH _ _) rfl ?_))
              refine AI (AC (AH (B9 (decide ((0:Int) < ((m:Int)))) rfl (fun hb19 => ?_) (fun hb19 => ?_))))
              ·
                have hp19 : (0:Int) < ((m:Int)) := of_decide_eq_true hb19
                refine BF (AC (AH (B5 (DC 90 5 [(0, Ptr nb2 2), (1, Ptr nb2 3), (2, SL none 0 0), (3, Ptr rb 0)] CA rfl (by decide +kernel) ?_))))
                have hz6 : (zz5).length = zz5.length := rfl
                refine CW ⟨[], [0, 1, 2, 3], [], [0, 1, 2, 3], [4]⟩ 4 _ rfl rfl (by decide +kernel) rfl ⟨⟨_, rfl, AL rfl (AD 2 26 4 AV rfl BL rfl rfl)⟩, ⟨_, rfl, AL rfl (AD 1 23 1 AZ rfl B2 rfl rfl)⟩, ⟨_, rfl, AL rfl (AO rfl (A0 CQ (AU 2 rfl (AJ (AK (AK (AK (Seg.head))))))))⟩, CG rfl rfl rfl, trivial⟩ rfl (BO rfl (A8 109 _ [true, false, false] [rb] _ (AS [Ptr rb 0, I64 4] CV rfl) rfl (fun w1 hw1 => E1 rb 18 4 ao5 zz5.length ca5 z0 zz5 w1 (hw1.ent _ (List.mem_of_getElem? (i := 0) rfl)) rfl (by omega) (by omega) (by omega) ((fun w M h => hA5 w M ((fun w M h => hA3 w M ((fun w M h => hA2 w M ((fun w M h => hA1 w M ((fun _ _ h => h) w M h)) w M h)) w M h)) w M h)) _ _ (hr.at (M' := [rb]) hw1 (hw1.apart [0] _ rfl))) hq5 (by unfold Szd; omega)))) ?_
                rintro v1 L1 ⟨_, ⟨rfl, ao6, zz6, ca6, hq6, ⟨hA6, hb20, hb21, hb22⟩, rfl⟩, rfl⟩
                refine ⟨[], ?_⟩
                show DP _ _ _ _ _ _ _ _ [_, _, ⟨rb, [errV 50 (eQ z0 22), SL ao6 zz6.length ca6], 204, (0, 0)⟩]
                refine CW ⟨[4], [0, 1, 2, 3], [3], [0, 1, 2], [5]⟩ 5 _ rfl rfl (by decide +kernel) rfl ⟨⟨_, rfl, AL rfl (AD 2 26 4 AV rfl BL rfl rfl)⟩, ⟨_, rfl, AL rfl (AD 1 23 1 AZ rfl B2 rfl rfl)⟩, ⟨_, rfl, AL rfl (AO rfl (A0 CQ (AU 1 rfl (AJ (AK (AK (AK (Seg.head))))))))⟩, trivial⟩ rfl (BO rfl (CR 22 1 _ [(0, U64 (vQ z0 18 4))] ([U64 (vQ z0 18 4)]) BX A9 Tryd.zeroValue22 rfl rfl rfl (by kernel_rfl))) ?_
                rintro v1 L1 ⟨nb3, hnb3, rfl, rfl⟩
                refine ⟨[], ?_⟩
                show DP _ _ _ _ _ _ _ _ [_, _, _, ⟨nb3, [U64 (vQ z0 18 4)], 22, (0, 0)⟩]
                refine CW ⟨[4, 5], [0, 1, 2, 3], [3], [0, 1, 2], [6]⟩ 6 _ rfl rfl (by decide +kernel) rfl ⟨⟨_, rfl, AL rfl (AD 2 26 4 AV rfl BL rfl rfl)⟩, ⟨_, rfl, AL rfl (AD 1 23 1 AZ rfl B2 rfl rfl)⟩, ⟨_, rfl, AL rfl (AO rfl (A0 CQ (AU 1 rfl (AJ (AK (AK (AK (Seg.head))))))))⟩, trivial⟩ rfl (BO rfl (Step_appM64 23 22 [false, false, false, false] (SL none 0 0) 0 ([] : List UInt64) ([vQ z0 18 4]) (some ⟨nb3, 0, none⟩) 1 1 1 BX Tryd.info22 rfl (.inl ⟨rfl, rfl, rfl, rfl, by omega⟩) rfl (by simp) (SrcAt.mem (AU 3 rfl (Seg.head))) (by omega) (by unfold maxLen; omega) (by omega))) ?_
                rintro v1 L1 ⟨nb4, sp1, cp1, hg1, rfl, rfl, ha1, ha2, ha3, ha4⟩
                refine ⟨[(7, Ptr nb2 2), (8, Ptr nb2 3)], ?_⟩
                show DP _ _ _ _ _ _ _ _ [_, _, _, _, ⟨nb4, cu64 (([] : List UInt64) ++ ([vQ z0 18 4])) ++ sp1, 22, (0, 0)⟩]
                refine EH ⟨[4, 5, 6], [0, 1, 2, 3, 7, 8], [0, 1, 2, 3], [7, 8], [9]⟩ 9 rfl rfl (by decide +kernel) rfl ⟨⟨_, rfl, AL rfl (AD 2 26 4 AV rfl BL rfl rfl)⟩, ⟨_, rfl, AL rfl (AD 1 23 1 AZ rfl B2 rfl rfl)⟩, trivial⟩ rfl (BO rfl (CS 1 nb2 3 1 ([U64 (vQ z0 0 8), U64 (vQ z0 8 8), I64 (((vQ z0 16 1).toNat:Int)), SL none 0 0, SL none 0 0, U64 0] ++ cu8 (zr8 16)) 29 (Slc nb4 0 1 cp1) ([Slc nb4 0 1 cp1]) ([U64 (vQ z0 0 8), U64 (vQ z0 8 8), I64 (((vQ z0 16 1).toNat:Int)), Slc nb4 0 1 cp1, SL none 0 0, U64 0] ++ cu8 (zr8 16)) rfl rfl rfl rfl B2 rfl (by simp [Value.oneCell']) (by simp [(AN 16)]) (EF (p := [U64 (vQ z0 0 8), U64 (vQ z0 8 8), I64 (((vQ z0 16 1).toNat:Int)), SL none 0 0, SL none 0 0, U64 0]) (vs := [Slc nb4 0 1 cp1]) (o := 3) (by simp []) (rfl)))) ?_
                show DP _ _ _ _ _ _ _ _ [_, ⟨nb2, [U64 (vQ z0 0 8), U64 (vQ z0 8 8), I64 (((vQ z0 16 1).toNat:Int)), Slc nb4 0 1 cp1, SL none 0 0, U64 0] ++ cu8 (zr8 16), 29, (0, 0)⟩, _, _, _]
                refine DU ⟨[4, 5, 6, 9], [0, 1, 2, 3, 7, 8], [0, 1, 2, 3, 7, 8], [], []⟩ rfl rfl (by decide +kernel) rfl trivial ?_
                refine C6 (F' := [(38, Ptr nb2 2), (39, Ptr nb2 3), (40, SL none 0 0), (41, Ptr rb 0), (42, U64 (vQ z0 18 4)), (43, Slc nb3 0 1 1), (44, Slc nb4 0 1 cp1), (45, Ptr nb2 2), (46, Ptr nb2 3), (0, Ptr rb 0), (2, Ptr nb1 0), (3, Ptr nb2 0), (35, I64 m), (36, I64 0), (37, .bool (decide ((0:Int) < ((m:Int)))))]) (by kernel_rfl) ?_
                refine BS (AC (AB (AA (I64 1) (AR rfl rfl fun _ => DQ _ _ (1:Int) (by omega) (by omega)) rfl ?_)))
                refine AA _ (AF rfl) rfl ?_
                refine AI (D0 (B4 [true, true, true, false, true] ?_))
                show K _ _ [_, _, _, _] _
                refine EX [2, 0, 1, 3] (by decide) ?_
                show K _ _ [_, _, _, _] _
                refine EV (.inr (1, ([] : List UInt64) ++ ([vQ z0 18 4]), nb4, sp1, cp1, ao6, zz6, ca6)) ⟨by omega, by omega, by rw [ixQ_one]; rfl, (ha1).trans (by first | rfl | simp +arith), (ha2).trans (by first | rfl | omega), by omega, by omega, hq6, (fun w M h => hA6 w M ((fun w M h => hA5 w M ((fun w M h => hA3 w M ((fun w M h => hA2 w M ((fun w M h => hA1 w M ((fun _ _ h => h) w M h)) w M h)) w M h)) w M h)) w M h)), by omega, by omega, by omega⟩ (by dsimp only; omega) (Sub.all rfl) rfl
              ·
                have hp19 : ¬ ((0:Int) < ((m:Int))) := of_decide_eq_false hb19
                refine ED (BJ (BJ (C1 (DT (.inl ()) (by omega) (Sub.all rfl) rfl))))
            ·
              obtain ⟨hi1, hi2, hi3, hi4, hi5, hi6, hi7, hi8, hi9, hi10, hi11, hi12⟩ := hx
              show JC _ _ _ [(0, Ptr rb 0), (2, Ptr nb1 0), (3, Ptr nb2 0), (35, I64 m), (36, I64 i)] [⟨rb, [errV 50 (eQ z0 (4*i + 18)), SL aa zz.length cc], 204, (0, 0)⟩, ⟨nb1, [U64 0, U64 0, I64 0, SL none 0 0, SL none 0 0, U64 0] ++ cu8 (zr8 16), 29, (0, 0)⟩, ⟨nb2, [U64 (vQ z0 0 8), U64 (vQ z0 8 8), I64 (((vQ z0 16 1).toNat:Int)), Slc gb 0 i cp, SL none 0 0, U64 0] ++ cu8 (zr8 16), 29, (0, 0)⟩, ⟨gb, cu64 ll ++ sp, 22, (0, 0)⟩]
              refine AH (AB (AA (.bool (decide (((i:Int)) < ((m:Int))))) (AR rfl rfl fun _ => CH _ _) rfl ?_))
              refine AI (AC (AH (B9 (decide (((i:Int)) < ((m:Int)))) rfl (fun hb23 => ?_) (fun hb23 => ?_))))
              ·
                have hp23 : ((i:Int)) < ((m:Int)) := of_decide_eq_true hb23
                refine BF (AC (AH (B5 (DC 90 5 [(0, Ptr nb2 2), (1, Ptr nb2 3), (2, Slc gb 0 i cp), (3, Ptr rb 0)] CA rfl (by decide +kernel) ?_))))
                have hz7 : (zz).length = zz.length := rfl
                refine CW ⟨[], [0, 1, 2, 3], [], [0, 1, 2, 3], [4]⟩ 4 _ rfl rfl (by decide +kernel) rfl ⟨⟨_, rfl, AL rfl (AD 2 26 4 AV rfl BL rfl rfl)⟩, ⟨_, rfl, AL rfl (AD 1 23 1 AZ rfl B2 rfl rfl)⟩, ⟨_, rfl, AL rfl (AO rfl (A0 CQ (AU 2 rfl (AJ (AK (AK (AK (Seg.head))))))))⟩, CG rfl rfl rfl, trivial⟩ rfl (BO rfl (A8 109 _ [true, false, false, false] [rb] _ (AS [Ptr rb 0, I64 4] CV rfl) rfl (fun w1 hw1 => E1 rb (4*i + 18) 4 aa zz.length cc z0 zz w1 (hw1.ent _ (List.mem_of_getElem? (i := 0) rfl)) rfl (by omega) (by omega) (by omega) (hi9 _ _ (hr.at (M' := [rb]) hw1 (hw1.apart [0] _ rfl))) hi8 (by unfold Szd; omega)))) ?_
                rintro v1 L1 ⟨_, ⟨rfl, ao7, zz7, ca7, hq7, ⟨hA7, hb24, hb25, hb26⟩, rfl⟩, rfl⟩
                refine ⟨[], ?_⟩
                show DP _ _ _ _ _ _ _ _ [_, _, _, ⟨rb, [errV 50 (eQ z0 (4*i + 22)), SL ao7 zz7.length ca7], 204, (0, 0)⟩]
                refine CW ⟨[4], [0, 1, 2, 3], [3], [0, 1, 2], [5]⟩ 5 _ rfl rfl (by decide +kernel) rfl ⟨⟨_, rfl, AL rfl (AD 2 26 4 AV rfl BL rfl rfl)⟩, ⟨_, rfl, AL rfl (AD 1 23 1 AZ rfl B2 rfl rfl)⟩, ⟨_, rfl, AL rfl (AO rfl (A0 CQ (AU 1 rfl (AJ (AK (AK (AK (Seg.head))))))))⟩, trivial⟩ rfl (BO rfl (CR 22 1 _ [(0, U64 (vQ z0 (4*i + 18) 4))] ([U64 (vQ z0 (4*i + 18) 4)]) BX A9 Tryd.zeroValue22 rfl rfl rfl (by kernel_rfl))) ?_
                rintro v1 L1 ⟨nb5, hnb5, rfl, rfl⟩
                refine ⟨[], ?_⟩
                show DP _ _ _ _ _ _ _ _ [_, _, _, _, ⟨nb5, [U64 (vQ z0 (4*i + 18) 4)], 22, (0, 0)⟩]
                refine CW ⟨[4, 5], [0, 1, 2, 3], [3], [0, 1, 2], [6]⟩ 6 _ rfl rfl (by decide +kernel) rfl ⟨⟨_, rfl, AL rfl (AD 2 26 4 AV rfl BL rfl rfl)⟩, ⟨_, rfl, AL rfl (AD 1 23 1 AZ rfl B2 rfl rfl)⟩, ⟨_, rfl, AL rfl (AO rfl (A0 CQ (AU 1 rfl (AJ (AK (AK (AK (Seg.head))))))))⟩, trivial⟩ rfl (BO rfl (Step_appM64 23 22 [false, false, true, false, false] (Slc gb 0 i cp) i ll ([vQ z0 (4*i + 18) 4]) (some ⟨nb5, 0, none⟩) 1 1 (i + 1) BX Tryd.info22 rfl (.inr ⟨gb, sp, cp, rfl, rfl, (by first | exact hi4 | simp [hi4]), hi5, (by omega), (by omega)⟩) rfl (by simp) (SrcAt.mem (AU 4 rfl (Seg.head))) (by omega) (by unfold maxLen; omega) (by omega))) ?_
                rintro v1 L1 ⟨nb6, sp2, cp2, hg2, rfl, rfl, ha5, ha6, ha7, ha8⟩
                refine ⟨[(7, Ptr nb2 2), (8, Ptr nb2 3)], ?_⟩
                show DP _ _ _ _ _ _ _ _ [_, _, _, _, ⟨nb6, cu64 (ll ++ ([vQ z0 (4*i + 18) 4])) ++ sp2, 22, (0, 0)⟩]
                refine EH ⟨[4, 5, 6], [0, 1, 2, 3, 7, 8], [0, 1, 2, 3], [7, 8], [9]⟩ 9 rfl rfl (by decide +kernel) rfl ⟨⟨_, rfl, AL rfl (AD 2 26 4 AV rfl BL rfl rfl)⟩, ⟨_, rfl, AL rfl (AD 1 23 1 AZ rfl B2 rfl rfl)⟩, trivial⟩ rfl (BO rfl (CS 1 nb2 3 1 ([U64 (vQ z0 0 8), U64 (vQ z0 8 8), I64 (((vQ z0 16 1).toNat:Int)), Slc gb 0 i cp, SL none 0 0, U64 0] ++ cu8 (zr8 16)) 29 (Slc nb6 0 (i + 1) cp2) ([Slc nb6 0 (i + 1) cp2]) ([U64 (vQ z0 0 8), U64 (vQ z0 8 8), I64 (((vQ z0 16 1).toNat:Int)), Slc nb6 0 (i + 1) cp2, SL none 0 0, U64 0] ++ cu8 (zr8 16)) rfl rfl rfl rfl B2 rfl (by simp [Value.oneCell']) (by simp [(AN 16)]) (EF (p := [U64 (vQ z0 0 8), U64 (vQ z0 8 8), I64 (((vQ z0 16 1).toNat:Int)), Slc gb 0 i cp, SL none 0 0, U64 0]) (vs := [Slc nb6 0 (i + 1) cp2]) (o := 3) (by simp []) (rfl)))) ?_
                show DP _ _ _ _ _ _ _ _ [_, ⟨nb2, [U64 (vQ z0 0 8), U64 (vQ z0 8 8), I64 (((vQ z0 16 1).toNat:Int)), Slc nb6 0 (i + 1) cp2, SL none 0 0, U64 0] ++ cu8 (zr8 16), 29, (0, 0)⟩, _, _, _]
                refine DU ⟨[4, 5, 6, 9], [0, 1, 2, 3, 7, 8], [0, 1, 2, 3, 7, 8], [], []⟩ rfl rfl (by decide +kernel) rfl trivial ?_
                refine C6 (F' := [(38, Ptr nb2 2), (39, Ptr nb2 3), (40, Slc gb 0 i cp), (41, Ptr rb 0), (42, U64 (vQ z0 (4*i + 18) 4)), (43, Slc nb5 0 1 1), (44, Slc nb6 0 (i + 1) cp2), (45, Ptr nb2 2), (46, Ptr nb2 3), (0, Ptr rb 0), (2, Ptr nb1 0), (3, Ptr nb2 0), (35, I64 m), (36, I64 i), (37, .bool (decide (((i:Int)) < ((m:Int)))))]) (by kernel_rfl) ?_
                refine BS (AC (AB (AA (I64 ((i:Int) + 1)) (AR rfl rfl fun _ => DQ _ _ ((i:Int) + 1) (by omega) (by omega)) rfl ?_)))
                refine AA _ (AF rfl) rfl ?_
                refine AI (D0 (B4 [true, true, true, false, true] ?_))
                show K _ _ [_, _, _, _] _
                refine EX [2, 0, 1, 3] (by decide) ?_
                show K _ _ [_, _, _, _] _
                refine EV (.inr (i + 1, ll ++ ([vQ z0 (4*i + 18) 4]), nb6, sp2, cp2, ao7, zz7, ca7)) ⟨by omega, by omega, by rw [ixQ_succ, ← hi3, Nat.add_comm 18 (4*i)], (ha5).trans (by first | rfl | simp +arith), (ha6).trans (by first | rfl | omega), by omega, by omega, hq7, (fun w M h => hA7 w M (hi9 w M h)), by omega, by omega, by omega⟩ (by dsimp only; omega) (Sub.all rfl) rfl
              ·
                have hp23 : ¬ (((i:Int)) < ((m:Int))) := of_decide_eq_false hb23
                refine ED (BJ (BJ (C1 ?_)))
                have ei : m = i := by omega
                subst ei
                subst hi3
                refine DT (.inr (gb, sp, cp, aa, zz, cc)) ⟨hi1, hi5, hi6, hi7, hi8, hi9, hi10, hi11, hi12⟩ (Sub.all rfl) rfl
          ·
            rintro (_ | ⟨gb, sp, cp, aa, zz, cc⟩) hx
            ·
              obtain hm0 := hx
              show JQ _ _ _ [(0, Ptr rb 0), (2, Ptr nb1 0), (3, Ptr nb2 0)] [⟨rb, [errV 50 (eQ z0 18), SL ao5 zz5.length ca5], 204, (0, 0)⟩, ⟨nb1, [U64 0, U64 0, I64 0, SL none 0 0, SL none 0 0, U64 0] ++ cu8 (zr8 16), 29, (0, 0)⟩, ⟨nb2, [U64 (vQ z0 0 8), U64 (vQ z0 8 8), I64 (((vQ z0 16 1).toNat:Int)), SL none 0 0, SL none 0 0, U64 0] ++ cu8 (zr8 16), 29, (0, 0)⟩]
              refine AC (AH (AB (AA (Ptr nb2 2) (AD 2 26 4 AV rfl BL rfl rfl) rfl ?_)))
              refine AA (Ptr nb2 3) (AD 1 23 1 AZ rfl B2 rfl rfl) rfl ?_
              refine AA (SL none 0 0) (AO rfl (A0 CQ (AU 2 rfl (AJ (AK (AK (AK (Seg.head)))))))) rfl ?_
              refine AA (I64 0) (DY BX rfl) rfl ?_
              refine AA _ (AF rfl) rfl ?_
              refine AI (AC (B5 (EM (ι := Unit) (fun _ => [(0, Ptr rb 0), (2, Ptr nb1 0), (3, Ptr nb2 0), (51, I64 0), (52, I64 0)]) (fun _ => [⟨rb, [errV 50 (eQ z0 18), SL ao5 zz5.length ca5], 204, (0, 0)⟩, ⟨nb1, [U64 0, U64 0, I64 0, SL none 0 0, SL none 0 0, U64 0] ++ cu8 (zr8 16), 29, (0, 0)⟩, ⟨nb2, [U64 (vQ z0 0 8), U64 (vQ z0 8 8), I64 (((vQ z0 16 1).toNat:Int)), SL none 0 0, SL none 0 0, U64 0] ++ cu8 (zr8 16), 29, (0, 0)⟩]) (fun _ => True) (fun _ => 1) () trivial (Sub.all rfl) rfl ?_)))
              rintro _ _
              show JC _ _ _ [(0, Ptr rb 0), (2, Ptr nb1 0), (3, Ptr nb2 0), (51, I64 0), (52, I64 0)] [⟨rb, [errV 50 (eQ z0 18), SL ao5 zz5.length ca5], 204, (0, 0)⟩, ⟨nb1, [U64 0, U64 0, I64 0, SL none 0 0, SL none 0 0, U64 0] ++ cu8 (zr8 16), 29, (0, 0)⟩, ⟨nb2, [U64 (vQ z0 0 8), U64 (vQ z0 8 8), I64 (((vQ z0 16 1).toNat:Int)), SL none 0 0, SL none 0 0, U64 0] ++ cu8 (zr8 16), 29, (0, 0)⟩]
              refine AH (AB (AA (.bool (decide ((0:Int) < (0:Int)))) (AR rfl rfl fun _ => CH _ _) rfl ?_))
              refine AI (AC (AH (BP _ rfl (by decide) ?_)))
              refine ED (BJ (BJ (C1 (BS (DT (.inl (0, 18, ao5, zz5, ca5)) ⟨.inr (bad12 hk12 (by omega)), hq5, (fun w M h => hA5 w M ((fun w M h => hA3 w M ((fun w M h => hA2 w M ((fun w M h => hA1 w M ((fun _ _ h => h) w M h)) w M h)) w M h)) w M h)), by omega, by omega, by omega⟩ (Sub.all rfl) rfl)))))
            ·
              obtain ⟨hy1, hy2, hy3, hy4, hy5, hy6, hy7, hy8, hy9⟩ := hx
              show JQ _ _ _ [(0, Ptr rb 0), (2, Ptr nb1 0), (3, Ptr nb2 0)] [⟨rb, [errV 50 (eQ z0 (4*m + 18)), SL aa zz.length cc], 204, (0, 0)⟩, ⟨nb1, [U64 0, U64 0, I64 0, SL none 0 0, SL none 0 0, U64 0] ++ cu8 (zr8 16), 29, (0, 0)⟩, ⟨nb2, [U64 (vQ z0 0 8), U64 (vQ z0 8 8), I64 (((vQ z0 16 1).toNat:Int)), Slc gb 0 m cp, SL none 0 0, U64 0] ++ cu8 (zr8 16), 29, (0, 0)⟩, ⟨gb, cu64 (ixQ z0 18 m) ++ sp, 22, (0, 0)⟩]
              refine AC (AH ?_)
              by_cases hk1 : vQ z0 16 1 = 1
              ·
                refine AB (AA (Ptr nb2 2) (AD 2 26 4 AV rfl BL rfl rfl) rfl ?_)
                refine AA (Ptr nb2 3) (AD 1 23 1 AZ rfl B2 rfl rfl) rfl ?_
                refine AA (Slc gb 0 m cp) (AO rfl (A0 CQ (AU 2 rfl (AJ (AK (AK (AK (Seg.head)))))))) rfl ?_
                refine AA (I64 m) (DY BX rfl) rfl ?_
                refine AA _ (AF rfl) rfl ?_
                refine AI (AC (B5 ?_))
                obtain ⟨aq, haq⟩ : ∃ aq, aq = 4*m + 18 := ⟨_, rfl⟩
                rw [← haq]
                show JC _ _ _ _ [⟨rb, [errV 50 (eQ z0 aq), SL aa zz.length cc], 204, (0, 0)⟩, ⟨nb1, [U64 0, U64 0, I64 0, SL none 0 0, SL none 0 0, U64 0] ++ cu8 (zr8 16), 29, (0, 0)⟩, ⟨nb2, [U64 (vQ z0 0 8), U64 (vQ z0 8 8), I64 (((vQ z0 16 1).toNat:Int)), Slc gb 0 m cp, SL none 0 0, U64 0] ++ cu8 (zr8 16), 29, (0, 0)⟩, ⟨gb, cu64 (ixQ z0 18 m) ++ sp, 22, (0, 0)⟩]
                refine EM (ι := (Unit) ⊕ (Nat × List SealR × Nat × List Value × Nat × Option Addr × List UInt8 × Nat)) (fun x => match x with | .inl _ => [(0, Ptr rb 0), (2, Ptr nb1 0), (3, Ptr nb2 0), (51, I64 m), (52, I64 0)] | .inr ⟨j, rr, gs, sp2, cp2, aa2, zz2, cc2⟩ => [(0, Ptr rb 0), (2, Ptr nb1 0), (3, Ptr nb2 0), (51, I64 m), (52, I64 j)]) (fun x => match x with | .inl _ => [⟨rb, [errV 50 (eQ z0 aq), SL aa zz.length cc], 204, (0, 0)⟩, ⟨nb1, [U64 0, U64 0, I64 0, SL none 0 0, SL none 0 0, U64 0] ++ cu8 (zr8 16), 29, (0, 0)⟩, ⟨nb2, [U64 (vQ z0 0 8), U64 (vQ z0 8 8), I64 (((vQ z0 16 1).toNat:Int)), Slc gb 0 m cp, SL none 0 0, U64 0] ++ cu8 (zr8 16), 29, (0, 0)⟩, ⟨gb, cu64 (ixQ z0 18 m) ++ sp, 22, (0, 0)⟩] | .inr ⟨j, rr, gs, sp2, cp2, aa2, zz2, cc2⟩ => [⟨rb, [errV 50 (eQ z0 (aq + 56*j)), SL aa2 zz2.length cc2], 204, (0, 0)⟩, ⟨nb1, [U64 0, U64 0, I64 0, SL none 0 0, SL none 0 0, U64 0] ++ cu8 (zr8 16), 29, (0, 0)⟩, ⟨nb2, [U64 (vQ z0 0 8), U64 (vQ z0 8 8), I64 (((vQ z0 16 1).toNat:Int)), Slc gb 0 m cp, Slc gs 0 j cp2, U64 0] ++ cu8 (zr8 16), 29, (0, 0)⟩, ⟨gb, cu64 (ixQ z0 18 m) ++ sp, 22, (0, 0)⟩, ⟨gs, (rr).flatMap sealC ++ sp2, 161, (0, 0)⟩]) (fun x => match x with | .inl _ => True | .inr ⟨j, rr, gs, sp2, cp2, aa2, zz2, cc2⟩ => 0 < j ∧ j ≤ m ∧ rr = seQ z0 aq j ∧ rr.length = j ∧ sp2.length = cp2 * 49 - j * 49 ∧ j ≤ cp2 ∧ cp2 ≤ maxLen ∧ Lq z0 zz2 (aq + 56*j) ∧ (∀ w M, RdB w M ao z → RdB w M aa2 zz2) ∧ zz2.length ≤ cc2 ∧ cc2 ≤ maxLen ∧ zz2.length ≤ n) (fun x => match x with | .inl _ => m + 2 | .inr ⟨j, rr, gs, sp2, cp2, aa2, zz2, cc2⟩ => m + 1 - j) (.inl ()) trivial (Sub.all rfl) rfl ?_
                rintro (_ | ⟨j, rr, gs, sp2, cp2, aa2, zz2, cc2⟩) hx
                ·
                  obtain _ := hx
                  show JC _ _ _ [(0, Ptr rb 0), (2, Ptr nb1 0), (3, Ptr nb2 0), (51, I64 m), (52, I64 0)] [⟨rb, [errV 50 (eQ z0 aq), SL aa zz.length cc], 204, (0, 0)⟩, ⟨nb1, [U64 0, U64 0, I64 0, SL none 0 0, SL none 0 0, U64 0] ++ cu8 (zr8 16), 29, (0, 0)⟩, ⟨nb2, [U64 (vQ z0 0 8), U64 (vQ z0 8 8), I64 (((vQ z0 16 1).toNat:Int)), Slc gb 0 m cp, SL none 0 0, U64 0] ++ cu8 (zr8 16), 29, (0, 0)⟩, ⟨gb, cu64 (ixQ z0 18 m) ++ sp, 22, (0, 0)⟩]
                  refine AH (AB (AA (.bool (decide ((0:Int) < ((m:Int))))) (AR rfl rfl fun _ => CH _ _) rfl ?_))
                  refine AI (AC (AH (B3 _ rfl (decide_eq_true (by omega)) ?_)))
                  refine BF (AC (AH (B5 (AH (AB (AA (Ptr nb2 2) (AD 2 26 4 AV rfl BL rfl rfl) rfl ?_))))))
                  refine AA (Ptr nb2 2) (AD 0 3 1 AZ rfl AT rfl rfl) rfl ?_
                  refine AA (I64 (((vQ z0 16 1).toNat:Int))) (AO rfl (A0 AY (AU 2 rfl (AJ (AK (AK (Seg.head))))))) rfl ?_
                  refine AA (.bool (decide ((((vQ z0 16 1).toNat:Int)) = (1:Int)))) (AR rfl rfl fun _ => BK _ _) rfl ?_
                  refine AI (AC (B3 _ rfl (decide_eq_true (by rw [hk1]; rfl)) ?_))
                  refine DC 90 5 [(0, Ptr nb2 2), (1, Ptr nb2 4), (2, SL none 0 0), (3, Ptr rb 0)] CA rfl (by decide +kernel) ?_
                  have hz8 : (zz).length = zz.length := rfl
                  refine CW ⟨[], [0, 1, 2, 3], [], [0, 1, 2, 3], [4]⟩ 4 _ rfl rfl (by decide +kernel) rfl ⟨⟨_, rfl, AL rfl (AD 2 26 4 AV rfl BL rfl rfl)⟩, ⟨_, rfl, AL rfl (AD 2 24 1 AZ rfl DE rfl rfl)⟩, ⟨_, rfl, AL rfl (AO rfl (A0 D9 (AU 2 rfl (AJ (AK (AK (AK (AK (Seg.head)))))))))⟩, CG rfl rfl rfl, trivial⟩ rfl (BO rfl (A8 120 _ [true, false, false, false] [rb] _ (AS [Ptr rb 0] Tryd.call120 rfl) rfl (fun w1 hw1 => sreadQ_c rb aq aa zz.length cc z0 zz w1 (hw1.ent _ (List.mem_of_getElem? (i := 0) rfl)) rfl (by omega) (by omega) (by omega) (hy6 _ _ (hr.at (M' := [rb]) hw1 (hw1.apart [0] _ rfl))) (haq ▸ hy5)))) ?_
                  rintro v1 L1 ⟨_, ⟨rfl, ao8, zz8, ca8, hq8, ⟨hA8, hb27, hb28, hb29⟩, rfl⟩, rfl⟩
                  refine ⟨[], ?_⟩
                  show DP _ _ _ _ _ _ _ _ [_, _, _, ⟨rb, [errV 50 (eQ z0 (aq + 56)), SL ao8 zz8.length ca8], 204, (0, 0)⟩]
                  refine CW ⟨[4], [0, 1, 2, 3], [3], [0, 1, 2], [5]⟩ 5 _ rfl rfl (by decide +kernel) rfl ⟨⟨_, rfl, AL rfl (AD 2 26 4 AV rfl BL rfl rfl)⟩, ⟨_, rfl, AL rfl (AD 2 24 1 AZ rfl DE rfl rfl)⟩, ⟨_, rfl, AL rfl (AO rfl (A0 D9 (AU 1 rfl (AJ (AK (AK (AK (AK (Seg.head)))))))))⟩, trivial⟩ rfl (BO rfl (CR 161 49 _ [(0, .agg ([U64 (vQ z0 aq 8)] ++ cu8 (bQ z0 (aq + 8) 32) ++ cu8 (bQ z0 (aq + 40) 16)).toArray)] ([U64 (vQ z0 aq 8)] ++ cu8 (bQ z0 (aq + 8) 32) ++ cu8 (bQ z0 (aq + 40) 16)) C4 B1 Tryd.zeroValue161 rfl rfl rfl (fill_one (Z := [U64 0] ++ cu8 (zr8 32) ++ cu8 (zr8 16)) (by simp [(B8 _ _ _), (B8 _ _ _)]) (by kernel_rfl) (by simp [zr8])))) ?_
                  rintro v1 L1 ⟨nb7, hnb7, rfl, rfl⟩
                  refine ⟨[], ?_⟩
                  show DP _ _ _ _ _ _ _ _ [_, _, _, _, ⟨nb7, [U64 (vQ z0 aq 8)] ++ cu8 (bQ z0 (aq + 8) 32) ++ cu8 (bQ z0 (aq + 40) 16), 161, (0, 0)⟩]
                  refine CW ⟨[4, 5], [0, 1, 2, 3], [3], [0, 1, 2], [6]⟩ 6 _ rfl rfl (by decide +kernel) rfl ⟨⟨_, rfl, AL rfl (AD 2 26 4 AV rfl BL rfl rfl)⟩, ⟨_, rfl, AL rfl (AD 2 24 1 AZ rfl DE rfl rfl)⟩, ⟨_, rfl, AL rfl (AO rfl (A0 D9 (AU 1 rfl (AJ (AK (AK (AK (AK (Seg.head)))))))))⟩, trivial⟩ rfl (BO rfl (Step_appS 24 161 56 (.agg ([U64 0] ++ cu8 (zr8 32) ++ cu8 (zr8 16)).toArray) [false, false, false, false, false] (SL none 0 0) 0 ([] : List SealR) (SealR.mk (vQ z0 aq 8) (bQ z0 (aq + 8) 32) (bQ z0 (aq + 40) 16) (B8 _ _ _) (B8 _ _ _)) (some ⟨nb7, 0, none⟩) 1 1 C4 (by kernel_rfl) (by kernel_rfl) rfl (.inl ⟨rfl, rfl, rfl, rfl⟩) rfl (SrcAt.mem (AU 4 rfl (AQ _))) (by omega) (by unfold maxLen; omega) (by omega))) ?_
                  rintro v1 L1 ⟨nb8, sp3, cp3, hg3, rfl, rfl, ha9, ha10, ha11, ha12⟩
                  refine ⟨[(7, Ptr nb2 2), (8, Ptr nb2 4)], ?_⟩
                  show DP _ _ _ _ _ _ _ _ [_, _, _, _, _, ⟨nb8, (([] : List SealR) ++ [(SealR.mk (vQ z0 aq 8) (bQ z0 (aq + 8) 32) (bQ z0 (aq + 40) 16) (B8 _ _ _) (B8 _ _ _))]).flatMap sealC ++ sp3, 161, (0, 0)⟩]
                  refine EH ⟨[4, 5, 6], [0, 1, 2, 3, 7, 8], [0, 1, 2, 3], [7, 8], [9]⟩ 9 rfl rfl (by decide +kernel) rfl ⟨⟨_, rfl, AL rfl (AD 2 26 4 AV rfl BL rfl rfl)⟩, ⟨_, rfl, AL rfl (AD 2 24 1 AZ rfl DE rfl rfl)⟩, trivial⟩ rfl (BO rfl (CS 1 nb2 4 1 ([U64 (vQ z0 0 8), U64 (vQ z0 8 8), I64 (((vQ z0 16 1).toNat:Int)), Slc gb 0 m cp, SL none 0 0, U64 0] ++ cu8 (zr8 16)) 29 (Slc nb8 0 1 cp3) ([Slc nb8 0 1 cp3]) ([U64 (vQ z0 0 8), U64 (vQ z0 8 8), I64 (((vQ z0 16 1).toNat:Int)), Slc gb 0 m cp, Slc nb8 0 1 cp3, U64 0] ++ cu8 (zr8 16)) rfl rfl rfl rfl DE rfl (by simp [Value.oneCell']) (by simp [(AN 16)]) (EF (p := [U64 (vQ z0 0 8), U64 (vQ z0 8 8), I64 (((vQ z0 16 1).toNat:Int)), Slc gb 0 m cp, SL none 0 0, U64 0]) (vs := [Slc nb8 0 1 cp3]) (o := 4) (by simp []) (rfl)))) ?_
                  show DP _ _ _ _ _ _ _ _ [_, ⟨nb2, [U64 (vQ z0 0 8), U64 (vQ z0 8 8), I64 (((vQ z0 16 1).toNat:Int)), Slc gb 0 m cp, Slc nb8 0 1 cp3, U64 0] ++ cu8 (zr8 16), 29, (0, 0)⟩, _, _, _, _]
                  refine DU ⟨[4, 5, 6, 9], [0, 1, 2, 3, 7, 8], [0, 1, 2, 3, 7, 8], [], []⟩ rfl rfl (by decide +kernel) rfl trivial ?_
                  refine C6 (F' := [(58, Ptr nb2 2), (59, Ptr nb2 4), (60, SL none 0 0), (61, Ptr rb 0), (62, .agg ([U64 (vQ z0 aq 8)] ++ cu8 (bQ z0 (aq + 8) 32) ++ cu8 (bQ z0 (aq + 40) 16)).toArray), (63, Slc nb7 0 1 1), (64, Slc nb8 0 1 cp3), (65, Ptr nb2 2), (66, Ptr nb2 4), (0, Ptr rb 0), (2, Ptr nb1 0), (3, Ptr nb2 0), (51, I64 m), (52, I64 0), (53, .bool (decide ((0:Int) < ((m:Int))))), (54, Ptr nb2 2), (55, Ptr nb2 2), (56, I64 (((vQ z0 16 1).toNat:Int))), (57, .bool (decide ((((vQ z0 16 1).toNat:Int)) = (1:Int))))]) (by kernel_rfl) ?_
                  refine BS (AC (AB (AA (I64 1) (AR rfl rfl fun _ => DQ _ _ (1:Int) (by omega) (by omega)) rfl ?_)))
                  refine AA _ (AF rfl) rfl ?_
                  refine AI (D0 (B4 [true, true, true, true, false, true] ?_))
                  show K _ _ [_, _, _, _, _] _
                  refine EX [3, 0, 1, 2, 4] (by decide) ?_
                  show K _ _ [_, _, _, _, _] _
                  refine EV (.inr (1, ([] : List SealR) ++ [(SealR.mk (vQ z0 aq 8) (bQ z0 (aq + 8) 32) (bQ z0 (aq + 40) 16) (B8 _ _ _) (B8 _ _ _))], nb8, sp3, cp3, ao8, zz8, ca8)) ⟨by omega, by omega, by rw [seQ_one]; exact congrArg (fun x => [x]) (sQ_eq _ _ _ _), (ha9).trans (by first | rfl | simp +arith), (ha10).trans (by first | rfl | omega), by omega, by omega, (fun h8 => (hq8 (by omega)).trans (by congr 1 <;> omega)), (fun w M h => hA8 w M (hy6 w M h)), by omega, by omega, by omega⟩ (by dsimp only; omega) (Sub.all rfl) rfl
                ·
                  obtain ⟨hj1, hj2, hj3, hj4, hj5, hj6, hj7, hj8, hj9, hj10, hj11, hj12⟩ := hx
                  show JC _ _ _ [(0, Ptr rb 0), (2, Ptr nb1 0), (3, Ptr nb2 0), (51, I64 m), (52, I64 j)] [⟨rb, [errV 50 (eQ z0 (aq + 56*j)), SL aa2 zz2.length cc2], 204, (0, 0)⟩, ⟨nb1, [U64 0, U64 0, I64 0, SL none 0 0, SL none 0 0, U64 0] ++ cu8 (zr8 16), 29, (0, 0)⟩, ⟨nb2, [U64 (vQ z0 0 8), U64 (vQ z0 8 8), I64 (((vQ z0 16 1).toNat:Int)), Slc gb 0 m cp, Slc gs 0 j cp2, U64 0] ++ cu8 (zr8 16), 29, (0, 0)⟩, ⟨gb, cu64 (ixQ z0 18 m) ++ sp, 22, (0, 0)⟩, ⟨gs, (rr).flatMap sealC ++ sp2, 161, (0, 0)⟩]
                  refine AH (AB (AA (.bool (decide (((j:Int)) < ((m:Int))))) (AR rfl rfl fun _ => CH _ _) rfl ?_))
                  refine AI (AC (AH (B9 (decide (((j:Int)) < ((m:Int)))) rfl (fun hb30 => ?_) (fun hb30 => ?_))))
                  ·
                    have hp30 : ((j:Int)) < ((m:Int)) := of_decide_eq_true hb30
                    refine BF (AC (AH (B5 (AH (AB (AA (Ptr nb2 2) (AD 2 26 4 AV rfl BL rfl rfl) rfl ?_))))))
                    refine AA (Ptr nb2 2) (AD 0 3 1 AZ rfl AT rfl rfl) rfl ?_
                    refine AA (I64 (((vQ z0 16 1).toNat:Int))) (AO rfl (A0 AY (AU 2 rfl (AJ (AK (AK (Seg.head))))))) rfl ?_
                    refine AA (.bool (decide ((((vQ z0 16 1).toNat:Int)) = (1:Int)))) (AR rfl rfl fun _ => BK _ _) rfl ?_
                    refine AI (AC (B3 _ rfl (decide_eq_true (by rw [hk1]; rfl)) ?_))
                    refine DC 90 5 [(0, Ptr nb2 2), (1, Ptr nb2 4), (2, Slc gs 0 j cp2), (3, Ptr rb 0)] CA rfl (by decide +kernel) ?_
                    have hz9 : (zz2).length = zz2.length := rfl
                    refine CW ⟨[], [0, 1, 2, 3], [], [0, 1, 2, 3], [4]⟩ 4 _ rfl rfl (by decide +kernel) rfl ⟨⟨_, rfl, AL rfl (AD 2 26 4 AV rfl BL rfl rfl)⟩, ⟨_, rfl, AL rfl (AD 2 24 1 AZ rfl DE rfl rfl)⟩, ⟨_, rfl, AL rfl (AO rfl (A0 D9 (AU 2 rfl (AJ (AK (AK (AK (AK (Seg.head)))))))))⟩, CG rfl rfl rfl, trivial⟩ rfl (BO rfl (A8 120 _ [true, false, false, false, false] [rb] _ (AS [Ptr rb 0] Tryd.call120 rfl) rfl (fun w1 hw1 => sreadQ_c rb (aq + 56*j) aa2 zz2.length cc2 z0 zz2 w1 (hw1.ent _ (List.mem_of_getElem? (i := 0) rfl)) rfl (by omega) (by omega) (by omega) (hj9 _ _ (hr.at (M' := [rb]) hw1 (hw1.apart [0] _ rfl))) hj8))) ?_
                    rintro v1 L1 ⟨_, ⟨rfl, ao9, zz9, ca9, hq9, ⟨hA9, hb31, hb32, hb33⟩, rfl⟩, rfl⟩
                    refine ⟨[], ?_⟩
                    show DP _ _ _ _ _ _ _ _ [_, _, _, _, ⟨rb, [errV 50 (eQ z0 (aq + 56*j + 56)), SL ao9 zz9.length ca9], 204, (0, 0)⟩]
                    refine CW ⟨[4], [0, 1, 2, 3], [3], [0, 1, 2], [5]⟩ 5 _ rfl rfl (by decide +kernel) rfl ⟨⟨_, rfl, AL rfl (AD 2 26 4 AV rfl BL rfl rfl)⟩, ⟨_, rfl, AL rfl (AD 2 24 1 AZ rfl DE rfl rfl)⟩, ⟨_, rfl, AL rfl (AO rfl (A0 D9 (AU 1 rfl (AJ (AK (AK (AK (AK (Seg.head)))))))))⟩, trivial⟩ rfl (BO rfl (CR 161 49 _ [(0, .agg ([U64 (vQ z0 (aq + 56*j) 8)] ++ cu8 (bQ z0 (aq + 56*j + 8) 32) ++ cu8 (bQ z0 (aq + 56*j + 40) 16)).toArray)] ([U64 (vQ z0 (aq + 56*j) 8)] ++ cu8 (bQ z0 (aq + 56*j + 8) 32) ++ cu8 (bQ z0 (aq + 56*j + 40) 16)) C4 B1 Tryd.zeroValue161 rfl rfl rfl (fill_one (Z := [U64 0] ++ cu8 (zr8 32) ++ cu8 (zr8 16)) (by simp [(B8 _ _ _), (B8 _ _ _)]) (by kernel_rfl) (by simp [zr8])))) ?_
                    rintro v1 L1 ⟨nb9, hnb9, rfl, rfl⟩
                    refine ⟨[], ?_⟩
                    show DP _ _ _ _ _ _ _ _ [_, _, _, _, _, ⟨nb9, [U64 (vQ z0 (aq + 56*j) 8)] ++ cu8 (bQ z0 (aq + 56*j + 8) 32) ++ cu8 (bQ z0 (aq + 56*j + 40) 16), 161, (0, 0)⟩]
                    refine CW ⟨[4, 5], [0, 1, 2, 3], [3], [0, 1, 2], [6]⟩ 6 _ rfl rfl (by decide +kernel) rfl ⟨⟨_, rfl, AL rfl (AD 2 26 4 AV rfl BL rfl rfl)⟩, ⟨_, rfl, AL rfl (AD 2 24 1 AZ rfl DE rfl rfl)⟩, ⟨_, rfl, AL rfl (AO rfl (A0 D9 (AU 1 rfl (AJ (AK (AK (AK (AK (Seg.head)))))))))⟩, trivial⟩ rfl (BO rfl (Step_appS 24 161 56 (.agg ([U64 0] ++ cu8 (zr8 32) ++ cu8 (zr8 16)).toArray) [false, false, false, true, false, false] (Slc gs 0 j cp2) j rr (SealR.mk (vQ z0 (aq + 56*j) 8) (bQ z0 (aq + 56*j + 8) 32) (bQ z0 (aq + 56*j + 40) 16) (B8 _ _ _) (B8 _ _ _)) (some ⟨nb9, 0, none⟩) 1 (j + 1) C4 (by kernel_rfl) (by kernel_rfl) rfl (.inr ⟨gs, sp2, cp2, rfl, rfl, (by have h : (rr).length = j := hj4; omega), (by first | exact hj5 | omega), (by omega), (by omega)⟩) rfl (SrcAt.mem (AU 5 rfl (AQ _))) (by omega) (by unfold maxLen; omega) (by omega))) ?_
                    rintro v1 L1 ⟨nb10, sp4, cp4, hg4, rfl, rfl, ha13, ha14, ha15, ha16⟩
                    refine ⟨[(7, Ptr nb2 2), (8, Ptr nb2 4)], ?_⟩
                    show DP _ _ _ _ _ _ _ _ [_, _, _, _, _, ⟨nb10, (rr ++ [(SealR.mk (vQ z0 (aq + 56*j) 8) (bQ z0 (aq + 56*j + 8) 32) (bQ z0 (aq + 56*j + 40) 16) (B8 _ _ _) (B8 _ _ _))]).flatMap sealC ++ sp4, 161, (0, 0)⟩]
                    refine EH ⟨[4, 5, 6], [0, 1, 2, 3, 7, 8], [0, 1, 2, 3], [7, 8], [9]⟩ 9 rfl rfl (by decide +kernel) rfl ⟨⟨_, rfl, AL rfl (AD 2 26 4 AV rfl BL rfl rfl)⟩, ⟨_, rfl, AL rfl (AD 2 24 1 AZ rfl DE rfl rfl)⟩, trivial⟩ rfl (BO rfl (CS 1 nb2 4 1 ([U64 (vQ z0 0 8), U64 (vQ z0 8 8), I64 (((vQ z0 16 1).toNat:Int)), Slc gb 0 m cp, Slc gs 0 j cp2, U64 0] ++ cu8 (zr8 16)) 29 (Slc nb10 0 (j + 1) cp4) ([Slc nb10 0 (j + 1) cp4]) ([U64 (vQ z0 0 8), U64 (vQ z0 8 8), I64 (((vQ z0 16 1).toNat:Int)), Slc gb 0 m cp, Slc nb10 0 (j + 1) cp4, U64 0] ++ cu8 (zr8 16)) rfl rfl rfl rfl DE rfl (by simp [Value.oneCell']) (by simp [(AN 16)]) (EF (p := [U64 (vQ z0 0 8), U64 (vQ z0 8 8), I64 (((vQ z0 16 1).toNat:Int)), Slc gb 0 m cp, Slc gs 0 j cp2, U64 0]) (vs := [Slc nb10 0 (j + 1) cp4]) (o := 4) (by simp []) (rfl)))) ?_
                    show DP _ _ _ _ _ _ _ _ [_, ⟨nb2, [U64 (vQ z0 0 8), U64 (vQ z0 8 8), I64 (((vQ z0 16 1).toNat:Int)), Slc gb 0 m cp, Slc nb10 0 (j + 1) cp4, U64 0] ++ cu8 (zr8 16), 29, (0, 0)⟩, _, _, _, _]
                    refine DU ⟨[4, 5, 6, 9], [0, 1, 2, 3, 7, 8], [0, 1, 2, 3, 7, 8], [], []⟩ rfl rfl (by decide +kernel) rfl trivial ?_
                    refine C6 (F' := [(58, Ptr nb2 2), (59, Ptr nb2 4), (60, Slc gs 0 j cp2), (61, Ptr rb 0), (62, .agg ([U64 (vQ z0 (aq + 56*j) 8)] ++ cu8 (bQ z0 (aq + 56*j + 8) 32) ++ cu8 (bQ z0 (aq + 56*j + 40) 16)).toArray), (63, Slc nb9 0 1 1), (64, Slc nb10 0 (j + 1) cp4), (65, Ptr nb2 2), (66, Ptr nb2 4), (0, Ptr rb 0), (2, Ptr nb1 0), (3, Ptr nb2 0), (51, I64 m), (52, I64 j), (53, .bool (decide (((j:Int)) < ((m:Int))))), (54, Ptr nb2 2), (55, Ptr nb2 2), (56, I64 (((vQ z0 16 1).toNat:Int))), (57, .bool (decide ((((vQ z0 16 1).toNat:Int)) = (1:Int))))]) (by kernel_rfl) ?_
                    refine BS (AC (AB (AA (I64 ((j:Int) + 1)) (AR rfl rfl fun _ => DQ _ _ ((j:Int) + 1) (by omega) (by omega)) rfl ?_)))
                    refine AA _ (AF rfl) rfl ?_
                    refine AI (D0 (B4 [true, true, true, true, false, true] ?_))
                    show K _ _ [_, _, _, _, _] _
                    refine EX [3, 0, 1, 2, 4] (by decide) ?_
                    show K _ _ [_, _, _, _, _] _
                    refine EV (.inr (j + 1, rr ++ [(SealR.mk (vQ z0 (aq + 56*j) 8) (bQ z0 (aq + 56*j + 8) 32) (bQ z0 (aq + 56*j + 40) 16) (B8 _ _ _) (B8 _ _ _))], nb10, sp4, cp4, ao9, zz9, ca9)) ⟨by omega, by omega, by rw [seQ_succ, ← hj3]; exact congrArg (fun x => rr ++ [x]) (sQ_eq _ _ _ _), (ha13).trans (by first | rfl | simp +arith), (ha14).trans (by first | rfl | omega), by omega, by omega, (fun h8 => (hq9 (by omega)).trans (by congr 1 <;> omega)), (fun w M h => hA9 w M (hj9 w M h)), by omega, by omega, by omega⟩ (by dsimp only; omega) (Sub.all rfl) rfl
                  ·
                    have hp30 : ¬ (((j:Int)) < ((m:Int))) := of_decide_eq_false hb30
                    refine ED (BJ (BJ (C1 (BS ?_))))
                    have ei : m = j := by omega
                    subst ei
                    subst hj3
                    subst haq
                    refine DT (.inr (.inr (m, 4*m + 18 + 56*m, gs, sp2, cp2, gb, sp, cp, aa2, zz2, cc2))) ⟨hk1, by omega, hm2, by omega, hj5, hj6, hj7, hy2, hy3, hy4, hj8, hj9, hj10, hj11, hj12⟩ (Sub.all rfl) rfl
              ·
                refine AB (AA (Ptr nb2 2) (AD 2 26 4 AV rfl BL rfl rfl) rfl ?_)
                refine AA (Ptr nb2 3) (AD 1 23 1 AZ rfl B2 rfl rfl) rfl ?_
                refine AA (Slc gb 0 m cp) (AO rfl (A0 CQ (AU 2 rfl (AJ (AK (AK (AK (Seg.head)))))))) rfl ?_
                refine AA (I64 m) (DY BX rfl) rfl ?_
                refine AA _ (AF rfl) rfl ?_
                refine AI (AC (B5 (EM (ι := Nat) (fun j => [(0, Ptr rb 0), (2, Ptr nb1 0), (3, Ptr nb2 0), (51, I64 m), (52, I64 j)]) (fun j => [⟨rb, [errV 50 (eQ z0 (4*m + 18)), SL aa zz.length cc], 204, (0, 0)⟩, ⟨nb1, [U64 0, U64 0, I64 0, SL none 0 0, SL none 0 0, U64 0] ++ cu8 (zr8 16), 29, (0, 0)⟩, ⟨nb2, [U64 (vQ z0 0 8), U64 (vQ z0 8 8), I64 (((vQ z0 16 1).toNat:Int)), Slc gb 0 m cp, SL none 0 0, U64 0] ++ cu8 (zr8 16), 29, (0, 0)⟩, ⟨gb, cu64 (ixQ z0 18 m) ++ sp, 22, (0, 0)⟩]) (fun j => j ≤ m) (fun j => m - j) 0 (by omega) (Sub.all rfl) rfl ?_)))
                rintro j hj1
                show JC _ _ _ [(0, Ptr rb 0), (2, Ptr nb1 0), (3, Ptr nb2 0), (51, I64 m), (52, I64 j)] [⟨rb, [errV 50 (eQ z0 (4*m + 18)), SL aa zz.length cc], 204, (0, 0)⟩, ⟨nb1, [U64 0, U64 0, I64 0, SL none 0 0, SL none 0 0, U64 0] ++ cu8 (zr8 16), 29, (0, 0)⟩, ⟨nb2, [U64 (vQ z0 0 8), U64 (vQ z0 8 8), I64 (((vQ z0 16 1).toNat:Int)), Slc gb 0 m cp, SL none 0 0, U64 0] ++ cu8 (zr8 16), 29, (0, 0)⟩, ⟨gb, cu64 (ixQ z0 18 m) ++ sp, 22, (0, 0)⟩]
                refine AH (AB (AA (.bool (decide (((j:Int)) < ((m:Int))))) (AR rfl rfl fun _ => CH _ _) rfl ?_))
                refine AI (AC (AH (B9 (decide (((j:Int)) < ((m:Int)))) rfl (fun hb34 => ?_) (fun hb34 => ?_))))
                ·
                  have hp34 : ((j:Int)) < ((m:Int)) := of_decide_eq_true hb34
                  refine BF (AC (AH (B5 (AH (AB (AA (Ptr nb2 2) (AD 2 26 4 AV rfl BL rfl rfl) rfl ?_))))))
                  refine AA (Ptr nb2 2) (AD 0 3 1 AZ rfl AT rfl rfl) rfl ?_
                  refine AA (I64 (((vQ z0 16 1).toNat:Int))) (AO rfl (A0 AY (AU 2 rfl (AJ (AK (AK (Seg.head))))))) rfl ?_
                  refine AA (.bool (decide ((((vQ z0 16 1).toNat:Int)) = (1:Int)))) (AR rfl rfl fun _ => BK _ _) rfl ?_
                  refine AI (AC (BP _ rfl (decide_eq_false (fun h => hk1 (kdn (k := 1) (by decide) h))) ?_))
                  refine BF (BS (AC (AB (AA (I64 ((j:Int) + 1)) (AR rfl rfl fun _ => DQ _ _ ((j:Int) + 1) (by omega) (by omega)) rfl ?_))))
                  refine AA _ (AF rfl) rfl ?_
                  refine AI (D0 (EV (j + 1) (by omega) (by omega) (Sub.all rfl) rfl))
                ·
                  have hp34 : ¬ (((j:Int)) < ((m:Int))) := of_decide_eq_false hb34
                  refine ED (BJ (BJ (C1 (BS (DT (.inr (.inl (m, 4*m + 18, gb, sp, cp, aa, zz, cc))) ⟨hk12.resolve_left hk1, rfl, hm2, by omega, hy2, hy3, hy4, hy5, hy6, hy7, hy8, hy9⟩ (Sub.all rfl) rfl)))))
        ·
          refine BF (BS (EX [2, 0, 1] (by decide) ?_))
          show JQ _ _ _ _ [_, _, _]
          refine DT (.inl (0, 17, ao3, zz3, ca3)) ⟨.inr (bad0 hb10 hb15), hq3, (fun w M h => hA3 w M ((fun w M h => hA2 w M ((fun w M h => hA1 w M ((fun _ _ h => h) w M h)) w M h)) w M h)), by omega, by omega, by omega⟩ (Sub.all rfl) rfl
  ·
    rintro (⟨bl, pp, aa, zz, cc⟩ | ⟨m, pp, gb, sp, cp, aa, zz, cc⟩ | ⟨m, pp, gs, sp2, cp2, gb, sp, cp, aa, zz, cc⟩) hx
    ·
      obtain ⟨hu1, hu5, hu6, hu10, hu11, hu12⟩ := hx
      show JQ _ _ _ [(0, Ptr rb 0), (2, Ptr nb1 0), (3, Ptr nb2 0)] [⟨rb, [errV 50 (eQ z0 pp), SL aa zz.length cc], 204, (0, 0)⟩, ⟨nb1, [U64 0, U64 0, I64 0, SL none 0 0, SL none 0 0, U64 0] ++ cu8 (zr8 16), 29, (0, 0)⟩, ⟨nb2, [U64 (vQ z0 0 8), U64 (vQ z0 8 8), I64 (((vQ z0 16 1).toNat:Int)), SL none 0 0, SL none 0 0, U64 bl] ++ cu8 (zr8 16), 29, (0, 0)⟩]
      refine AC (AH (DC 90 3 [(0, Ptr nb2 6), (1, Slc nb2 6 16 16), (2, Ptr rb 0)] CA rfl (by decide +kernel) ?_))
      have hz10 : (zz).length = zz.length := rfl
      refine CW ⟨[], [0, 1, 2], [], [0, 1, 2], [3]⟩ 3 _ rfl rfl (by decide +kernel) rfl ⟨⟨_, rfl, AL rfl (AD 6 27 16 AV rfl CI rfl rfl)⟩, ⟨_, rfl, AL rfl (DF 16 5 1 0 16 6 16 CF BZ rfl rfl rfl (by omega) (by omega) (by omega) (by omega) (by omega) 16 (by omega))⟩, CG rfl rfl rfl, trivial⟩ rfl (BO rfl (A8 127 _ [true, false, false] [rb] _ (AS [Ptr rb 0, I64 16] Tryd.call127 rfl) rfl (fun w1 hw1 => rawA_w rb pp 16 aa zz.length cc z0 zz w1 (hw1.ent _ (List.mem_of_getElem? (i := 0) rfl)) rfl (by omega) (by omega) (by omega) (hu6 _ _ (hr.at (M' := [rb]) hw1 (hw1.apart [0] _ rfl))) hu5 (by omega)))) ?_
      rintro v1 L1 ⟨_, ⟨ao10, zz10, ca10, hq10, ⟨hA10, hb35, hb36, hb37⟩, (⟨hg5, nb11, sp5, cp5, rfl, rfl, hc1, hc2, hc3⟩ | ⟨hg5, rfl, rfl⟩)⟩, rfl⟩
      ·
        refine ⟨[], ?_⟩
        show DP _ _ _ _ _ _ _ _ [_, _, ⟨rb, [errV 50 (eQ z0 (pp + 16)), SL ao10 zz10.length ca10], 204, (0, 0)⟩, ⟨nb11, cu8 (bQ z0 pp 16) ++ sp5, 5, (0, 0)⟩]
        refine EH ⟨[3], [0, 1, 2], [2], [0, 1], [4]⟩ 4 rfl rfl (by decide +kernel) rfl ⟨⟨_, rfl, AL rfl (AD 6 27 16 AV rfl CI rfl rfl)⟩, ⟨_, rfl, AL rfl (DF 16 5 1 0 16 6 16 CF BZ rfl rfl rfl (by omega) (by omega) (by omega) (by omega) (by omega) 16 (by omega))⟩, trivial⟩ rfl (BO rfl (ET 43 43 5 1 nb2 6 16 16 ([U64 (vQ z0 0 8), U64 (vQ z0 8 8), I64 (((vQ z0 16 1).toNat:Int)), SL none 0 0, SL none 0 0, U64 bl] ++ cu8 (zr8 16)) 29 (some ⟨nb11, 0, none⟩) 16 cp5 16 (cu8 (bQ z0 pp 16)) ([U64 (vQ z0 0 8), U64 (vQ z0 8 8), I64 (((vQ z0 16 1).toNat:Int)), SL none 0 0, SL none 0 0, U64 bl] ++ cu8 (bQ z0 pp 16)) BA D4 rfl rfl rfl rfl (by simp [(show (bQ z0 pp 16).length = 16 from (B8 _ _ _))]; try omega) (SrcAt.mem (AU 3 rfl (AJ (AQ _)))) (by simp [(AN 16)]; try omega) (by first | exact CT | exact one_u32 | exact one_u64 | (simp [cu8, cu32, cu64, Value.oneCell']; done)) (ES 6 0 rfl rfl (BT (by simp [(AN 16), (show (bQ z0 pp 16).length = 16 from (B8 _ _ _))]))))) ?_
        show DP _ _ _ _ _ _ _ _ [_, ⟨nb2, [U64 (vQ z0 0 8), U64 (vQ z0 8 8), I64 (((vQ z0 16 1).toNat:Int)), SL none 0 0, SL none 0 0, U64 bl] ++ cu8 (bQ z0 pp 16), 29, (0, 0)⟩, _, _]
        refine DU ⟨[3, 4], [0, 1, 2], [0, 1, 2], [], []⟩ rfl rfl (by decide +kernel) rfl trivial ?_
        refine C6 (F' := [(0, Ptr rb 0), (2, Ptr nb1 0), (3, Ptr nb2 0)]) (by kernel_rfl) ?_
        refine AC (AH (AH (AB (AA (.agg ([U64 (vQ z0 0 8), U64 (vQ z0 8 8), I64 (((vQ z0 16 1).toNat:Int)), SL none 0 0, SL none 0 0, U64 bl] ++ cu8 (bQ z0 pp 16)).toArray) (AO rfl (BU B7 BG (by simp [(show (bQ z0 pp 16).length = 16 from (B8 _ _ _))]) (AU 1 rfl (AQ _)))) rfl ?_))))
        refine A7 (A2 128 [.agg ([U64 (vQ z0 0 8), U64 (vQ z0 8 8), I64 (((vQ z0 16 1).toNat:Int)), SL none 0 0, SL none 0 0, U64 bl] ++ cu8 (bQ z0 pp 16)).toArray] (errV 50 (mayN (vQ z0 0 8) (vQ z0 8 8) (((vQ z0 16 1).toNat:Int)) ([] : List UInt64) ([] : List SealR) bl)) (AS _ Tryd.call128 rfl) (fun w1 hw1 => may13_c (vQ z0 0 8) (vQ z0 8 8) (((vQ z0 16 1).toNat:Int)) none 0 0 ([] : List UInt64) none 0 0 ([] : List SealR) bl (bQ z0 pp 16) w1 rfl (by omega) (by omega) (by omega) RdV.nil rfl (by omega) (by omega) (by omega) RdV.nil (show (bQ z0 pp 16).length = 16 from (B8 _ _ _)))) rfl ?_
        show JL _ _ _ _ ((74, errV 50 (mayN (vQ z0 0 8) (vQ z0 8 8) (((vQ z0 16 1).toNat:Int)) ([] : List UInt64) ([] : List SealR) bl)) :: _) [_, _, _, _]
        refine AA _ (AE rfl) rfl ?_
        refine AI (AC (AH (AB (AA _ (AF rfl) rfl ?_))))
        refine AA (.bool (!(decide (mayN (vQ z0 0 8) (vQ z0 8 8) (((vQ z0 16 1).toNat:Int)) ([] : List UInt64) ([] : List SealR) bl = 0)))) (C7 _ _ _ rfl rfl (fun _ => B6 ..) fun _ => DJ BB _ _) rfl ?_
        refine AI (AC (B9 (!(decide (mayN (vQ z0 0 8) (vQ z0 8 8) (((vQ z0 16 1).toNat:Int)) ([] : List UInt64) ([] : List SealR) bl = 0))) rfl (fun hb38 => ?_) (fun hb38 => ?_)))
        ·
          have hb39 : (decide (mayN (vQ z0 0 8) (vQ z0 8 8) (((vQ z0 16 1).toNat:Int)) ([] : List UInt64) ([] : List SealR) bl = 0)) = false := by simpa using hb38
          have hp39 : ¬ (mayN (vQ z0 0 8) (vQ z0 8 8) (((vQ z0 16 1).toNat:Int)) ([] : List UInt64) ([] : List SealR) bl = 0) := of_decide_eq_false hb39
          refine AB (AA _ (AF rfl) rfl ?_)
          refine AA (.iface 50 (I64 2)) (C9 BM rfl rfl) rfl ?_
          refine A4 (DS 121 [Ptr rb 0, .iface 50 (I64 2)] 2 ⟨rb, [errV 50 (eQ z0 (pp + 16)), SL ao10 zz10.length ca10], 204, (0, 0)⟩ _ (fun v e' l' => v = .tuple #[] ∧ e' = ⟨rb, [errV 50 (erN (eQ z0 (pp + 16)) 2), SL ao10 zz10.length ca10], 204, (0, 0)⟩ ∧ l' = []) (AS _ DX rfl) rfl (by rintro v l ⟨rfl, rfl⟩; exact ⟨_, _, rfl, rfl, rfl, rfl, rfl⟩) (fun w1 hw1 => EL rb (eQ z0 (pp + 16)) 2 (SL ao10 zz10.length ca10) w1 (by decide) (hw1.ent _ (List.mem_of_getElem? (i := 2) rfl)))) rfl ?_
          rintro v1 L1 ⟨_, _, ⟨rfl, rfl, rfl⟩, rfl⟩
          show JL _ _ _ _ ((79, .tuple #[]) :: _) [_, _, ⟨rb, [errV 50 (erN (eQ z0 (pp + 16)) 2), SL ao10 zz10.length ca10], 204, (0, 0)⟩, _]
          refine AI (AC (AH (AH (AB (AA _ (AF rfl) rfl ?_)))))
          refine A7 (A2 61 [Ptr rb 0] (I64 ((leftN (erN (eQ z0 (pp + 16)) 2) zz10.length:Int))) (AS _ DV rfl) (fun w1 hw1 => left_w rb (erN (eQ z0 (pp + 16)) 2) ao10 zz10.length ca10 w1 (RdA.of hw1 (AU 2 rfl (AQ _)) (by simp)))) rfl ?_
          show JL _ _ _ _ ((81, I64 ((leftN (erN (eQ z0 (pp + 16)) 2) zz10.length:Int))) :: _) [_, _, _, _]
          refine AA (.bool (decide (((leftN (erN (eQ z0 (pp + 16)) 2) zz10.length:Int)) = (0:Int)))) (AR rfl rfl fun _ => BK _ _) rfl ?_
          refine AA _ (AF rfl) rfl ?_
          refine AP 3 83 true _ _ rfl rfl (decide_eq_true (by rw [leftN, if_neg (E2 (by decide))]; rfl)) (AF rfl) rfl ?_
          refine DL 3 83 true _ rfl rfl (decide_eq_true (by rw [leftN, if_neg (E2 (by decide))]; rfl)) (A2 63 [Ptr rb 0] (errV 50 (endN (erN (eQ z0 (pp + 16)) 2) zz10.length)) (AS _ DZ rfl) (fun w1 hw1 => end_w rb (erN (eQ z0 (pp + 16)) 2) ao10 zz10.length ca10 w1 (RdA.of hw1 (AU 2 rfl (AQ _)) (by simp)))) rfl ?_
          rintro v1 L1 ⟨rfl, rfl⟩
          show JL _ _ _ _ ((85, errV 50 (endN (erN (eQ z0 (pp + 16)) 2) zz10.length)) :: _) [_, _, _, _]
          refine AP 3 83 true _ (.bool (!(decide (endN (erN (eQ z0 (pp + 16)) 2) zz10.length = 0)))) rfl rfl (decide_eq_true (by rw [leftN, if_neg (E2 (by decide))]; rfl)) (C7 _ _ _ rfl rfl (fun _ => B6 ..) fun _ => DJ BB _ _) rfl ?_
          refine AA _ (BD _ rfl (decide_eq_true (by rw [leftN, if_neg (E2 (by decide))]; rfl)) rfl) rfl ?_
          refine AI (AC (B3 _ rfl (bnotF (decide_eq_false (by rw [endN, if_neg (E2 (by decide))]; exact (E2 (by decide))))) ?_))
          refine AH (AB (AA (.agg ([U64 0, U64 0, I64 0, SL none 0 0, SL none 0 0, U64 0] ++ cu8 (zr8 16)).toArray) (CP [] _ rfl (fun _ => by kernel_rfl)) rfl ?_))
          refine A7 (BQ 0 nb1 22 ([U64 0, U64 0, I64 0, SL none 0 0, SL none 0 0, U64 0] ++ cu8 (zr8 16)) 29 ([U64 0, U64 0, I64 0, SL none 0 0, SL none 0 0, U64 0] ++ cu8 (zr8 16)) rfl rfl rfl BG (by simp [(AN 16)]) (BY (by simp [Value.oneCell']) CT) (by simp [(AN 16)]) (BT (by simp [(AN 16), (AN 16)]))) rfl ?_
          show JL _ _ _ _ _ [⟨nb1, [U64 0, U64 0, I64 0, SL none 0 0, SL none 0 0, U64 0] ++ cu8 (zr8 16), 29, (0, 0)⟩, _, _, _]
          refine AI (AC (BI (A1 (BH (.agg ([U64 0, U64 0, I64 0, SL none 0 0, SL none 0 0, U64 0] ++ cu8 (zr8 16)).toArray) (res1 D7 (DM rfl (BU B7 BG (by simp [(AN 16)]) (AU 0 rfl (AQ _))))) fun w1 hw1 => ?_))))
          rw [show erN (eQ z0 (pp + 16)) 2 = 2 by rw [eQ_ok ‹pp + 16 ≤ z0.length›]; rfl] at hw1
          have hbq : BadQ z0 := by
            rcases hu1 with ⟨h3, rfl, rfl⟩ | ⟨hb, _⟩
            · exact bad3 h3 (fun e => by exact (of_decide_eq_false hb39) e.2)
            · exact hb
          rw [show errV 50 2 = errV 50 (eQ z0 (z0.length + 1)) by rw [EU (by omega)]] at hw1
          exact ⟨_, _, rfl, ⟨_, _, _, 0, _, 0, _, _, _, _, ao10, zz10, ca10, _, _, _, none, 0, _, _, _, none, 0, TkR.bad z0 hbq, rfl, rfl, (AN 16), (by omega), (by omega), (fun h => absurd h (by omega)), ⟨(fun w M h => hA10 w M (hu6 w M h)), by omega, by omega, by omega⟩, rfl, rfl, .inl rfl, by omega, (by unfold maxLen; omega), .inl rfl, by omega, (by unfold maxLen; omega)⟩, E0 hw1 2 0 1 rfl rfl rfl (by decide) (by decide) (by decide)⟩
        ·
          have hb40 : (decide (mayN (vQ z0 0 8) (vQ z0 8 8) (((vQ z0 16 1).toNat:Int)) ([] : List UInt64) ([] : List SealR) bl = 0)) = true := by simpa using hb38
          have hp40 : mayN (vQ z0 0 8) (vQ z0 8 8) (((vQ z0 16 1).toNat:Int)) ([] : List UInt64) ([] : List SealR) bl = 0 := of_decide_eq_true hb40
          refine BF (AC (AH (AH (AB (AA _ (AF rfl) rfl ?_)))))
          refine A7 (A2 61 [Ptr rb 0] (I64 ((leftN (eQ z0 (pp + 16)) zz10.length:Int))) (AS _ DV rfl) (fun w1 hw1 => left_w rb (eQ z0 (pp + 16)) ao10 zz10.length ca10 w1 (RdA.of hw1 (AU 2 rfl (AQ _)) (by simp)))) rfl ?_
          show JL _ _ _ _ ((81, I64 ((leftN (eQ z0 (pp + 16)) zz10.length:Int))) :: _) [_, _, _, _]
          refine AA (.bool (decide (((leftN (eQ z0 (pp + 16)) zz10.length:Int)) = (0:Int)))) (AR rfl rfl fun _ => BK _ _) rfl ?_
          refine AA _ (AF rfl) rfl ?_
          rcases Bool.eq_false_or_eq_true (decide (((leftN (eQ z0 (pp + 16)) zz10.length:Int)) = (0:Int))) with hb41 | hb41
          ·
            have hp41 : ((leftN (eQ z0 (pp + 16)) zz10.length:Int)) = (0:Int) := of_decide_eq_true hb41
            refine AP 3 83 true _ _ rfl rfl hb41 (AF rfl) rfl ?_
            refine DL 3 83 true _ rfl rfl hb41 (A2 63 [Ptr rb 0] (errV 50 (endN (eQ z0 (pp + 16)) zz10.length)) (AS _ DZ rfl) (fun w1 hw1 => end_w rb (eQ z0 (pp + 16)) ao10 zz10.length ca10 w1 (RdA.of hw1 (AU 2 rfl (AQ _)) (by simp)))) rfl ?_
            rintro v1 L1 ⟨rfl, rfl⟩
            show JL _ _ _ _ ((85, errV 50 (endN (eQ z0 (pp + 16)) zz10.length)) :: _) [_, _, _, _]
            refine AP 3 83 true _ (.bool (!(decide (endN (eQ z0 (pp + 16)) zz10.length = 0)))) rfl rfl hb41 (C7 _ _ _ rfl rfl (fun _ => B6 ..) fun _ => DJ BB _ _) rfl ?_
            refine AA _ (BD _ rfl hb41 rfl) rfl ?_
            refine AI (AC (BP _ rfl (bnotT (decide_eq_true (by have h9 := of_decide_eq_true hb41; rw [eQ_ok ‹pp + 16 ≤ z0.length›, leftN, if_pos rfl] at h9; rw [eQ_ok ‹pp + 16 ≤ z0.length›, endN, if_pos rfl, if_pos (by omega)]))) ?_))
            refine BF (AC (AH (AB (AA (.agg ([U64 (vQ z0 0 8), U64 (vQ z0 8 8), I64 (((vQ z0 16 1).toNat:Int)), SL none 0 0, SL none 0 0, U64 bl] ++ cu8 (bQ z0 pp 16)).toArray) (AO rfl (BU B7 BG (by simp [(show (bQ z0 pp 16).length = 16 from (B8 _ _ _))]) (AU 1 rfl (AQ _)))) rfl ?_))))
            refine A7 (BQ 0 nb1 22 ([U64 0, U64 0, I64 0, SL none 0 0, SL none 0 0, U64 0] ++ cu8 (zr8 16)) 29 ([U64 (vQ z0 0 8), U64 (vQ z0 8 8), I64 (((vQ z0 16 1).toNat:Int)), SL none 0 0, SL none 0 0, U64 bl] ++ cu8 (bQ z0 pp 16)) rfl rfl rfl BG (by simp [(show (bQ z0 pp 16).length = 16 from (B8 _ _ _))]) (BY (by simp [Value.oneCell']) CT) (by simp [(AN 16)]) (BT (by simp [(AN 16), (show (bQ z0 pp 16).length = 16 from (B8 _ _ _))]))) rfl ?_
            show JL _ _ _ _ _ [⟨nb1, [U64 (vQ z0 0 8), U64 (vQ z0 8 8), I64 (((vQ z0 16 1).toNat:Int)), SL none 0 0, SL none 0 0, U64 bl] ++ cu8 (bQ z0 pp 16), 29, (0, 0)⟩, _, _, _]
            refine AI (AC (BI (BH (.agg ([U64 (vQ z0 0 8), U64 (vQ z0 8 8), I64 (((vQ z0 16 1).toNat:Int)), SL none 0 0, SL none 0 0, U64 bl] ++ cu8 (bQ z0 pp 16)).toArray) (res1 D7 (DM rfl (BU B7 BG (by simp [(show (bQ z0 pp 16).length = 16 from (B8 _ _ _))]) (AU 0 rfl (AQ _))))) fun w1 hw1 => ?_)))
            rcases hu1 with ⟨h3, rfl, rfl⟩ | ⟨_, hm⟩
            · rw [show 25 + 16 = 41 from rfl] at hw1
              exact ⟨_, _, rfl, ⟨_, _, _, 0, _, 0, _, _, _, _, ao10, zz10, ca10, _, _, _, none, 0, _, _, _, none, 0, .inl ⟨⟨h3, by omega, of_decide_eq_true hb40⟩, rfl, rfl, rfl, rfl, rfl, rfl, rfl, rfl⟩, rfl, rfl, (B8 _ _ _), (by omega), (by omega), (fun h8 => (hq10 (by omega)).trans (by congr 1 <;> omega)), ⟨(fun w M h => hA10 w M (hu6 w M h)), by omega, by omega, by omega⟩, rfl, rfl, .inl rfl, by omega, (by unfold maxLen; omega), .inl rfl, by omega, (by unfold maxLen; omega)⟩, E0 hw1 2 0 1 rfl rfl rfl (by decide) (by decide) (by decide)⟩
            · exact absurd (of_decide_eq_true hb40) hm
          ·
            have hp41 : ¬ (((leftN (eQ z0 (pp + 16)) zz10.length:Int)) = (0:Int)) := of_decide_eq_false hb41
            refine AG 3 83 true _ rfl rfl hb41 rfl ?_
            refine AG 3 83 true _ rfl rfl hb41 rfl ?_
            refine AG 3 83 true _ rfl rfl hb41 rfl ?_
            refine AA _ (A3 _ rfl hb41 rfl) rfl ?_
            refine AI (AC (BP _ rfl rfl ?_))
            refine BF (AC (AH (AB (AA (.agg ([U64 (vQ z0 0 8), U64 (vQ z0 8 8), I64 (((vQ z0 16 1).toNat:Int)), SL none 0 0, SL none 0 0, U64 bl] ++ cu8 (bQ z0 pp 16)).toArray) (AO rfl (BU B7 BG (by simp [(show (bQ z0 pp 16).length = 16 from (B8 _ _ _))]) (AU 1 rfl (AQ _)))) rfl ?_))))
            refine A7 (BQ 0 nb1 22 ([U64 0, U64 0, I64 0, SL none 0 0, SL none 0 0, U64 0] ++ cu8 (zr8 16)) 29 ([U64 (vQ z0 0 8), U64 (vQ z0 8 8), I64 (((vQ z0 16 1).toNat:Int)), SL none 0 0, SL none 0 0, U64 bl] ++ cu8 (bQ z0 pp 16)) rfl rfl rfl BG (by simp [(show (bQ z0 pp 16).length = 16 from (B8 _ _ _))]) (BY (by simp [Value.oneCell']) CT) (by simp [(AN 16)]) (BT (by simp [(AN 16), (show (bQ z0 pp 16).length = 16 from (B8 _ _ _))]))) rfl ?_
            show JL _ _ _ _ _ [⟨nb1, [U64 (vQ z0 0 8), U64 (vQ z0 8 8), I64 (((vQ z0 16 1).toNat:Int)), SL none 0 0, SL none 0 0, U64 bl] ++ cu8 (bQ z0 pp 16), 29, (0, 0)⟩, _, _, _]
            refine AI (AC (BI (BH (.agg ([U64 (vQ z0 0 8), U64 (vQ z0 8 8), I64 (((vQ z0 16 1).toNat:Int)), SL none 0 0, SL none 0 0, U64 bl] ++ cu8 (bQ z0 pp 16)).toArray) (res1 D7 (DM rfl (BU B7 BG (by simp [(show (bQ z0 pp 16).length = 16 from (B8 _ _ _))]) (AU 0 rfl (AQ _))))) fun w1 hw1 => ?_)))
            rcases hu1 with ⟨h3, rfl, rfl⟩ | ⟨_, hm⟩
            · rw [show 25 + 16 = 41 from rfl] at hw1
              exact ⟨_, _, rfl, ⟨_, _, _, 0, _, 0, _, _, _, _, ao10, zz10, ca10, _, _, _, none, 0, _, _, _, none, 0, .inl ⟨⟨h3, by omega, of_decide_eq_true hb40⟩, rfl, rfl, rfl, rfl, rfl, rfl, rfl, rfl⟩, rfl, rfl, (B8 _ _ _), (by omega), (by omega), (fun h8 => (hq10 (by omega)).trans (by congr 1 <;> omega)), ⟨(fun w M h => hA10 w M (hu6 w M h)), by omega, by omega, by omega⟩, rfl, rfl, .inl rfl, by omega, (by unfold maxLen; omega), .inl rfl, by omega, (by unfold maxLen; omega)⟩, E0 hw1 2 0 1 rfl rfl rfl (by decide) (by decide) (by decide)⟩
            · exact absurd (of_decide_eq_true hb40) hm
      ·
        refine ⟨[], ?_⟩
        show DP _ _ _ _ _ _ _ _ [_, _, ⟨rb, [errV 50 (eQ z0 (pp + 16)), SL ao10 zz10.length ca10], 204, (0, 0)⟩]
        refine EH ⟨[3], [0, 1, 2], [2], [0, 1], [4]⟩ 4 rfl rfl (by decide +kernel) rfl ⟨⟨_, rfl, AL rfl (AD 6 27 16 AV rfl CI rfl rfl)⟩, ⟨_, rfl, AL rfl (DF 16 5 1 0 16 6 16 CF BZ rfl rfl rfl (by omega) (by omega) (by omega) (by omega) (by omega) 16 (by omega))⟩, trivial⟩ rfl (BO rfl (ET 43 43 5 1 nb2 6 16 16 ([U64 (vQ z0 0 8), U64 (vQ z0 8 8), I64 (((vQ z0 16 1).toNat:Int)), SL none 0 0, SL none 0 0, U64 bl] ++ cu8 (zr8 16)) 29 none 0 0 0 [] ([U64 (vQ z0 0 8), U64 (vQ z0 8 8), I64 (((vQ z0 16 1).toNat:Int)), SL none 0 0, SL none 0 0, U64 bl] ++ cu8 (zr8 16)) BA D4 rfl rfl rfl rfl rfl SrcAt.nil (by simp [(AN 16)]) one_nil (lay_nil _ _))) ?_
        show DP _ _ _ _ _ _ _ _ [_, _, _]
        refine DU ⟨[3, 4], [0, 1, 2], [0, 1, 2], [], []⟩ rfl rfl (by decide +kernel) rfl trivial ?_
        refine C6 (F' := [(0, Ptr rb 0), (2, Ptr nb1 0), (3, Ptr nb2 0)]) (by kernel_rfl) ?_
        refine AC (AH (AH (AB (AA (.agg ([U64 (vQ z0 0 8), U64 (vQ z0 8 8), I64 (((vQ z0 16 1).toNat:Int)), SL none 0 0, SL none 0 0, U64 bl] ++ cu8 (zr8 16)).toArray) (AO rfl (BU B7 BG (by simp [(AN 16)]) (AU 1 rfl (AQ _)))) rfl ?_))))
        refine A7 (A2 128 [.agg ([U64 (vQ z0 0 8), U64 (vQ z0 8 8), I64 (((vQ z0 16 1).toNat:Int)), SL none 0 0, SL none 0 0, U64 bl] ++ cu8 (zr8 16)).toArray] (errV 50 (mayN (vQ z0 0 8) (vQ z0 8 8) (((vQ z0 16 1).toNat:Int)) ([] : List UInt64) ([] : List SealR) bl)) (AS _ Tryd.call128 rfl) (fun w1 hw1 => may13_c (vQ z0 0 8) (vQ z0 8 8) (((vQ z0 16 1).toNat:Int)) none 0 0 ([] : List UInt64) none 0 0 ([] : List SealR) bl (zr8 16) w1 rfl (by omega) (by omega) (by omega) RdV.nil rfl (by omega) (by omega) (by omega) RdV.nil (AN 16))) rfl ?_
        show JL _ _ _ _ ((74, errV 50 (mayN (vQ z0 0 8) (vQ z0 8 8) (((vQ z0 16 1).toNat:Int)) ([] : List UInt64) ([] : List SealR) bl)) :: _) [_, _, _]
        refine AA _ (AE rfl) rfl ?_
        refine AI (AC (AH (AB (AA _ (AF rfl) rfl ?_))))
        refine AA (.bool (!(decide (mayN (vQ z0 0 8) (vQ z0 8 8) (((vQ z0 16 1).toNat:Int)) ([] : List UInt64) ([] : List SealR) bl = 0)))) (C7 _ _ _ rfl rfl (fun _ => B6 ..) fun _ => DJ BB _ _) rfl ?_
        refine AI (AC (FK (ι := Option Addr × List UInt8 × Nat) (fun ⟨ab, zb, cb⟩ => [(0, Ptr rb 0), (2, Ptr nb1 0), (3, Ptr nb2 0)]) (fun ⟨ab, zb, cb⟩ => [⟨rb, [errV 50 2, SL ab zb.length cb], 204, (0, 0)⟩, ⟨nb1, [U64 0, U64 0, I64 0, SL none 0 0, SL none 0 0, U64 0] ++ cu8 (zr8 16), 29, (0, 0)⟩, ⟨nb2, [U64 (vQ z0 0 8), U64 (vQ z0 8 8), I64 (((vQ z0 16 1).toNat:Int)), SL none 0 0, SL none 0 0, U64 bl] ++ cu8 (zr8 16), 29, (0, 0)⟩]) (fun ⟨ab, zb, cb⟩ => (∀ w M, RdB w M ao z → RdB w M ab zb) ∧ zb.length ≤ cb ∧ cb ≤ maxLen ∧ zb.length ≤ n) ?_ ?_))
        ·
          refine B9 (!(decide (mayN (vQ z0 0 8) (vQ z0 8 8) (((vQ z0 16 1).toNat:Int)) ([] : List UInt64) ([] : List SealR) bl = 0))) rfl (fun hb42 => ?_) (fun hb42 => ?_)
          ·
            have hb43 : (decide (mayN (vQ z0 0 8) (vQ z0 8 8) (((vQ z0 16 1).toNat:Int)) ([] : List UInt64) ([] : List SealR) bl = 0)) = false := by simpa using hb42
            have hp43 : ¬ (mayN (vQ z0 0 8) (vQ z0 8 8) (((vQ z0 16 1).toNat:Int)) ([] : List UInt64) ([] : List SealR) bl = 0) := of_decide_eq_false hb43
            refine AB (AA _ (AF rfl) rfl ?_)
            refine AA (.iface 50 (I64 2)) (C9 BM rfl rfl) rfl ?_
            refine A4 (DS 121 [Ptr rb 0, .iface 50 (I64 2)] 2 ⟨rb, [errV 50 (eQ z0 (pp + 16)), SL ao10 zz10.length ca10], 204, (0, 0)⟩ _ (fun v e' l' => v = .tuple #[] ∧ e' = ⟨rb, [errV 50 (erN (eQ z0 (pp + 16)) 2), SL ao10 zz10.length ca10], 204, (0, 0)⟩ ∧ l' = []) (AS _ DX rfl) rfl (by rintro v l ⟨rfl, rfl⟩; exact ⟨_, _, rfl, rfl, rfl, rfl, rfl⟩) (fun w1 hw1 => EL rb (eQ z0 (pp + 16)) 2 (SL ao10 zz10.length ca10) w1 (by decide) (hw1.ent _ (List.mem_of_getElem? (i := 2) rfl)))) rfl ?_
            rintro v1 L1 ⟨_, _, ⟨rfl, rfl, rfl⟩, rfl⟩
            show JL _ _ _ _ ((79, .tuple #[]) :: _) [_, _, ⟨rb, [errV 50 (erN (eQ z0 (pp + 16)) 2), SL ao10 zz10.length ca10], 204, (0, 0)⟩]
            refine AI ?_
            rw [show erN (eQ z0 (pp + 16)) 2 = 2 by rw [EU ‹¬ pp + 16 ≤ z0.length›]; rfl]
            refine EX [2, 0, 1] (by decide) ?_
            show JQ _ _ _ _ [_, _, _]
            refine DT ((ao10, zz10, ca10)) ⟨(fun w M h => hA10 w M (hu6 w M h)), by omega, by omega, by omega⟩ (Sub.all rfl) rfl
          ·
            have hb44 : (decide (mayN (vQ z0 0 8) (vQ z0 8 8) (((vQ z0 16 1).toNat:Int)) ([] : List UInt64) ([] : List SealR) bl = 0)) = true := by simpa using hb42
            have hp44 : mayN (vQ z0 0 8) (vQ z0 8 8) (((vQ z0 16 1).toNat:Int)) ([] : List UInt64) ([] : List SealR) bl = 0 := of_decide_eq_true hb44
            refine BF ?_
            rw [show eQ z0 (pp + 16) = 2 by rw [EU ‹¬ pp + 16 ≤ z0.length›]]
            refine EX [2, 0, 1] (by decide) ?_
            show JQ _ _ _ _ [_, _, _]
            refine DT ((ao10, zz10, ca10)) ⟨(fun w M h => hA10 w M (hu6 w M h)), by omega, by omega, by omega⟩ (Sub.all rfl) rfl
        ·
          rintro ⟨ab, zb, cb⟩ hx
          obtain ⟨hbA, hbb1, hbb2, hbb3⟩ := hx
          show JQ _ _ _ [(0, Ptr rb 0), (2, Ptr nb1 0), (3, Ptr nb2 0)] [⟨rb, [errV 50 2, SL ab zb.length cb], 204, (0, 0)⟩, ⟨nb1, [U64 0, U64 0, I64 0, SL none 0 0, SL none 0 0, U64 0] ++ cu8 (zr8 16), 29, (0, 0)⟩, ⟨nb2, [U64 (vQ z0 0 8), U64 (vQ z0 8 8), I64 (((vQ z0 16 1).toNat:Int)), SL none 0 0, SL none 0 0, U64 bl] ++ cu8 (zr8 16), 29, (0, 0)⟩]
          refine AC (AH (AH (AB (AA _ (AF rfl) rfl ?_))))
          refine A7 (A2 61 [Ptr rb 0] (I64 ((leftN 2 zb.length:Int))) (AS _ DV rfl) (fun w1 hw1 => left_w rb 2 ab zb.length cb w1 (RdA.of hw1 (AU 0 rfl (AQ _)) (by simp)))) rfl ?_
          show JL _ _ _ _ ((81, I64 ((leftN 2 zb.length:Int))) :: _) [_, _, _]
          refine AA (.bool (decide (((leftN 2 zb.length:Int)) = (0:Int)))) (AR rfl rfl fun _ => BK _ _) rfl ?_
          refine AA _ (AF rfl) rfl ?_
          refine AP 3 83 true _ _ rfl rfl (decide_eq_true (by rw [leftN, if_neg (by decide)]; rfl)) (AF rfl) rfl ?_
          refine DL 3 83 true _ rfl rfl (decide_eq_true (by rw [leftN, if_neg (by decide)]; rfl)) (A2 63 [Ptr rb 0] (errV 50 (endN 2 zb.length)) (AS _ DZ rfl) (fun w1 hw1 => end_w rb 2 ab zb.length cb w1 (RdA.of hw1 (AU 0 rfl (AQ _)) (by simp)))) rfl ?_
          rintro v1 L1 ⟨rfl, rfl⟩
          show JL _ _ _ _ ((85, errV 50 (endN 2 zb.length)) :: _) [_, _, _]
          refine AP 3 83 true _ (.bool (!(decide (endN 2 zb.length = 0)))) rfl rfl (decide_eq_true (by rw [leftN, if_neg (by decide)]; rfl)) (C7 _ _ _ rfl rfl (fun _ => B6 ..) fun _ => DJ BB _ _) rfl ?_
          refine AA _ (BD _ rfl (decide_eq_true (by rw [leftN, if_neg (by decide)]; rfl)) rfl) rfl ?_
          refine AI (AC (B3 _ rfl (bnotF (decide_eq_false (by rw [endN, if_neg (by decide)]; exact (by decide)))) ?_))
          refine AH (AB (AA (.agg ([U64 0, U64 0, I64 0, SL none 0 0, SL none 0 0, U64 0] ++ cu8 (zr8 16)).toArray) (CP [] _ rfl (fun _ => by kernel_rfl)) rfl ?_))
          refine A7 (BQ 1 nb1 22 ([U64 0, U64 0, I64 0, SL none 0 0, SL none 0 0, U64 0] ++ cu8 (zr8 16)) 29 ([U64 0, U64 0, I64 0, SL none 0 0, SL none 0 0, U64 0] ++ cu8 (zr8 16)) rfl rfl rfl BG (by simp [(AN 16)]) (BY (by simp [Value.oneCell']) CT) (by simp [(AN 16)]) (BT (by simp [(AN 16), (AN 16)]))) rfl ?_
          show JL _ _ _ _ _ [_, ⟨nb1, [U64 0, U64 0, I64 0, SL none 0 0, SL none 0 0, U64 0] ++ cu8 (zr8 16), 29, (0, 0)⟩, _]
          refine AI (AC (BI (A1 (BH (.agg ([U64 0, U64 0, I64 0, SL none 0 0, SL none 0 0, U64 0] ++ cu8 (zr8 16)).toArray) (res1 D7 (DM rfl (BU B7 BG (by simp [(AN 16)]) (AU 1 rfl (AQ _))))) fun w1 hw1 => ?_))))
          have hbq : BadQ z0 := by
            rcases hu1 with ⟨h3, rfl, rfl⟩ | ⟨hb, _⟩
            · exact bad3 h3 (fun e => by have := e.1; omega)
            · exact hb
          rw [show errV 50 2 = errV 50 (eQ z0 (z0.length + 1)) by rw [EU (by omega)]] at hw1
          exact ⟨_, _, rfl, ⟨_, _, _, 0, _, 0, _, _, _, _, ab, zb, cb, _, _, _, none, 0, _, _, _, none, 0, TkR.bad z0 hbq, rfl, rfl, (AN 16), (by omega), (by omega), (fun h => absurd h (by omega)), ⟨hbA, by omega, by omega, by omega⟩, rfl, rfl, .inl rfl, by omega, (by unfold maxLen; omega), .inl rfl, by omega, (by unfold maxLen; omega)⟩, E0 hw1 0 1 2 rfl rfl rfl (by decide) (by decide) (by decide)⟩
    ·
      obtain ⟨hk, hpp, hm2, hm3, hu2, hu3, hu4, hu5, hu6, hu10, hu11, hu12⟩ := hx
      show JQ _ _ _ [(0, Ptr rb 0), (2, Ptr nb1 0), (3, Ptr nb2 0)] [⟨rb, [errV 50 (eQ z0 pp), SL aa zz.length cc], 204, (0, 0)⟩, ⟨nb1, [U64 0, U64 0, I64 0, SL none 0 0, SL none 0 0, U64 0] ++ cu8 (zr8 16), 29, (0, 0)⟩, ⟨nb2, [U64 (vQ z0 0 8), U64 (vQ z0 8 8), I64 (((vQ z0 16 1).toNat:Int)), Slc gb 0 m cp, SL none 0 0, U64 0] ++ cu8 (zr8 16), 29, (0, 0)⟩, ⟨gb, cu64 (ixQ z0 18 m) ++ sp, 22, (0, 0)⟩]
      refine AC (AH (DC 90 3 [(0, Ptr nb2 6), (1, Slc nb2 6 16 16), (2, Ptr rb 0)] CA rfl (by decide +kernel) ?_))
      have hz11 : (zz).length = zz.length := rfl
      refine CW ⟨[], [0, 1, 2], [], [0, 1, 2], [3]⟩ 3 _ rfl rfl (by decide +kernel) rfl ⟨⟨_, rfl, AL rfl (AD 6 27 16 AV rfl CI rfl rfl)⟩, ⟨_, rfl, AL rfl (DF 16 5 1 0 16 6 16 CF BZ rfl rfl rfl (by omega) (by omega) (by omega) (by omega) (by omega) 16 (by omega))⟩, CG rfl rfl rfl, trivial⟩ rfl (BO rfl (A8 127 _ [true, false, false, false] [rb] _ (AS [Ptr rb 0, I64 16] Tryd.call127 rfl) rfl (fun w1 hw1 => rawA_w rb pp 16 aa zz.length cc z0 zz w1 (hw1.ent _ (List.mem_of_getElem? (i := 0) rfl)) rfl (by omega) (by omega) (by omega) (hu6 _ _ (hr.at (M' := [rb]) hw1 (hw1.apart [0] _ rfl))) hu5 (by omega)))) ?_
      rintro v1 L1 ⟨_, ⟨ao11, zz11, ca11, hq11, ⟨hA11, hb45, hb46, hb47⟩, (⟨hg6, nb12, sp6, cp6, rfl, rfl, hc4, hc5, hc6⟩ | ⟨hg6, rfl, rfl⟩)⟩, rfl⟩
      ·
        refine ⟨[], ?_⟩
        show DP _ _ _ _ _ _ _ _ [_, _, _, ⟨rb, [errV 50 (eQ z0 (pp + 16)), SL ao11 zz11.length ca11], 204, (0, 0)⟩, ⟨nb12, cu8 (bQ z0 pp 16) ++ sp6, 5, (0, 0)⟩]
        refine EH ⟨[3], [0, 1, 2], [2], [0, 1], [4]⟩ 4 rfl rfl (by decide +kernel) rfl ⟨⟨_, rfl, AL rfl (AD 6 27 16 AV rfl CI rfl rfl)⟩, ⟨_, rfl, AL rfl (DF 16 5 1 0 16 6 16 CF BZ rfl rfl rfl (by omega) (by omega) (by omega) (by omega) (by omega) 16 (by omega))⟩, trivial⟩ rfl (BO rfl (ET 43 43 5 1 nb2 6 16 16 ([U64 (vQ z0 0 8), U64 (vQ z0 8 8), I64 (((vQ z0 16 1).toNat:Int)), Slc gb 0 m cp, SL none 0 0, U64 0] ++ cu8 (zr8 16)) 29 (some ⟨nb12, 0, none⟩) 16 cp6 16 (cu8 (bQ z0 pp 16)) ([U64 (vQ z0 0 8), U64 (vQ z0 8 8), I64 (((vQ z0 16 1).toNat:Int)), Slc gb 0 m cp, SL none 0 0, U64 0] ++ cu8 (bQ z0 pp 16)) BA D4 rfl rfl rfl rfl (by simp [(show (bQ z0 pp 16).length = 16 from (B8 _ _ _))]; try omega) (SrcAt.mem (AU 4 rfl (AJ (AQ _)))) (by simp [(AN 16)]; try omega) (by first | exact CT | exact one_u32 | exact one_u64 | (simp [cu8, cu32, cu64, Value.oneCell']; done)) (ES 6 0 rfl rfl (BT (by simp [(AN 16), (show (bQ z0 pp 16).length = 16 from (B8 _ _ _))]))))) ?_
        show DP _ _ _ _ _ _ _ _ [_, ⟨nb2, [U64 (vQ z0 0 8), U64 (vQ z0 8 8), I64 (((vQ z0 16 1).toNat:Int)), Slc gb 0 m cp, SL none 0 0, U64 0] ++ cu8 (bQ z0 pp 16), 29, (0, 0)⟩, _, _, _]
        refine DU ⟨[3, 4], [0, 1, 2], [0, 1, 2], [], []⟩ rfl rfl (by decide +kernel) rfl trivial ?_
        refine C6 (F' := [(0, Ptr rb 0), (2, Ptr nb1 0), (3, Ptr nb2 0)]) (by kernel_rfl) ?_
        refine AC (AH (AH (AB (AA (.agg ([U64 (vQ z0 0 8), U64 (vQ z0 8 8), I64 (((vQ z0 16 1).toNat:Int)), Slc gb 0 m cp, SL none 0 0, U64 0] ++ cu8 (bQ z0 pp 16)).toArray) (AO rfl (BU B7 BG (by simp [(show (bQ z0 pp 16).length = 16 from (B8 _ _ _))]) (AU 1 rfl (AQ _)))) rfl ?_))))
        refine A7 (A2 128 [.agg ([U64 (vQ z0 0 8), U64 (vQ z0 8 8), I64 (((vQ z0 16 1).toNat:Int)), Slc gb 0 m cp, SL none 0 0, U64 0] ++ cu8 (bQ z0 pp 16)).toArray] (errV 50 (mayN (vQ z0 0 8) (vQ z0 8 8) (((vQ z0 16 1).toNat:Int)) (ixQ z0 18 m) ([] : List SealR) (0:UInt64))) (AS _ Tryd.call128 rfl) (fun w1 hw1 => may13_c (vQ z0 0 8) (vQ z0 8 8) (((vQ z0 16 1).toNat:Int)) (some ⟨gb, 0, none⟩) m cp (ixQ z0 18 m) none 0 0 ([] : List SealR) (0:UInt64) (bQ z0 pp 16) w1 (FH _ _ _) (by omega) (by omega) (by omega) (RdV.of hw1 (AU 2 rfl (AJ (AQ _)))) rfl (by omega) (by omega) (by omega) RdV.nil (show (bQ z0 pp 16).length = 16 from (B8 _ _ _)))) rfl ?_
        show JL _ _ _ _ ((74, errV 50 (mayN (vQ z0 0 8) (vQ z0 8 8) (((vQ z0 16 1).toNat:Int)) (ixQ z0 18 m) ([] : List SealR) (0:UInt64))) :: _) [_, _, _, _, _]
        refine AA _ (AE rfl) rfl ?_
        refine AI (AC (AH (AB (AA _ (AF rfl) rfl ?_))))
        refine AA (.bool (!(decide (mayN (vQ z0 0 8) (vQ z0 8 8) (((vQ z0 16 1).toNat:Int)) (ixQ z0 18 m) ([] : List SealR) (0:UInt64) = 0)))) (C7 _ _ _ rfl rfl (fun _ => B6 ..) fun _ => DJ BB _ _) rfl ?_
        refine AI (AC (B9 (!(decide (mayN (vQ z0 0 8) (vQ z0 8 8) (((vQ z0 16 1).toNat:Int)) (ixQ z0 18 m) ([] : List SealR) (0:UInt64) = 0))) rfl (fun hb48 => ?_) (fun hb48 => ?_)))
        ·
          have hb49 : (decide (mayN (vQ z0 0 8) (vQ z0 8 8) (((vQ z0 16 1).toNat:Int)) (ixQ z0 18 m) ([] : List SealR) (0:UInt64) = 0)) = false := by simpa using hb48
          have hp49 : ¬ (mayN (vQ z0 0 8) (vQ z0 8 8) (((vQ z0 16 1).toNat:Int)) (ixQ z0 18 m) ([] : List SealR) (0:UInt64) = 0) := of_decide_eq_false hb49
          refine AB (AA _ (AF rfl) rfl ?_)
          refine AA (.iface 50 (I64 2)) (C9 BM rfl rfl) rfl ?_
          refine A4 (DS 121 [Ptr rb 0, .iface 50 (I64 2)] 3 ⟨rb, [errV 50 (eQ z0 (pp + 16)), SL ao11 zz11.length ca11], 204, (0, 0)⟩ _ (fun v e' l' => v = .tuple #[] ∧ e' = ⟨rb, [errV 50 (erN (eQ z0 (pp + 16)) 2), SL ao11 zz11.length ca11], 204, (0, 0)⟩ ∧ l' = []) (AS _ DX rfl) rfl (by rintro v l ⟨rfl, rfl⟩; exact ⟨_, _, rfl, rfl, rfl, rfl, rfl⟩) (fun w1 hw1 => EL rb (eQ z0 (pp + 16)) 2 (SL ao11 zz11.length ca11) w1 (by decide) (hw1.ent _ (List.mem_of_getElem? (i := 3) rfl)))) rfl ?_
          rintro v1 L1 ⟨_, _, ⟨rfl, rfl, rfl⟩, rfl⟩
          show JL _ _ _ _ ((79, .tuple #[]) :: _) [_, _, _, ⟨rb, [errV 50 (erN (eQ z0 (pp + 16)) 2), SL ao11 zz11.length ca11], 204, (0, 0)⟩, _]
          refine AI (AC (AH (AH (AB (AA _ (AF rfl) rfl ?_)))))
          refine A7 (A2 61 [Ptr rb 0] (I64 ((leftN (erN (eQ z0 (pp + 16)) 2) zz11.length:Int))) (AS _ DV rfl) (fun w1 hw1 => left_w rb (erN (eQ z0 (pp + 16)) 2) ao11 zz11.length ca11 w1 (RdA.of hw1 (AU 3 rfl (AQ _)) (by simp)))) rfl ?_
          show JL _ _ _ _ ((81, I64 ((leftN (erN (eQ z0 (pp + 16)) 2) zz11.length:Int))) :: _) [_, _, _, _, _]
          refine AA (.bool (decide (((leftN (erN (eQ z0 (pp + 16)) 2) zz11.length:Int)) = (0:Int)))) (AR rfl rfl fun _ => BK _ _) rfl ?_
          refine AA _ (AF rfl) rfl ?_
          refine AP 3 83 true _ _ rfl rfl (decide_eq_true (by rw [leftN, if_neg (E2 (by decide))]; rfl)) (AF rfl) rfl ?_
          refine DL 3 83 true _ rfl rfl (decide_eq_true (by rw [leftN, if_neg (E2 (by decide))]; rfl)) (A2 63 [Ptr rb 0] (errV 50 (endN (erN (eQ z0 (pp + 16)) 2) zz11.length)) (AS _ DZ rfl) (fun w1 hw1 => end_w rb (erN (eQ z0 (pp + 16)) 2) ao11 zz11.length ca11 w1 (RdA.of hw1 (AU 3 rfl (AQ _)) (by simp)))) rfl ?_
          rintro v1 L1 ⟨rfl, rfl⟩
          show JL _ _ _ _ ((85, errV 50 (endN (erN (eQ z0 (pp + 16)) 2) zz11.length)) :: _) [_, _, _, _, _]
          refine AP 3 83 true _ (.bool (!(decide (endN (erN (eQ z0 (pp + 16)) 2) zz11.length = 0)))) rfl rfl (decide_eq_true (by rw [leftN, if_neg (E2 (by decide))]; rfl)) (C7 _ _ _ rfl rfl (fun _ => B6 ..) fun _ => DJ BB _ _) rfl ?_
          refine AA _ (BD _ rfl (decide_eq_true (by rw [leftN, if_neg (E2 (by decide))]; rfl)) rfl) rfl ?_
          refine AI (AC (B3 _ rfl (bnotF (decide_eq_false (by rw [endN, if_neg (E2 (by decide))]; exact (E2 (by decide))))) ?_))
          refine AH (AB (AA (.agg ([U64 0, U64 0, I64 0, SL none 0 0, SL none 0 0, U64 0] ++ cu8 (zr8 16)).toArray) (CP [] _ rfl (fun _ => by kernel_rfl)) rfl ?_))
          refine A7 (BQ 0 nb1 22 ([U64 0, U64 0, I64 0, SL none 0 0, SL none 0 0, U64 0] ++ cu8 (zr8 16)) 29 ([U64 0, U64 0, I64 0, SL none 0 0, SL none 0 0, U64 0] ++ cu8 (zr8 16)) rfl rfl rfl BG (by simp [(AN 16)]) (BY (by simp [Value.oneCell']) CT) (by simp [(AN 16)]) (BT (by simp [(AN 16), (AN 16)]))) rfl ?_
          show JL _ _ _ _ _ [⟨nb1, [U64 0, U64 0, I64 0, SL none 0 0, SL none 0 0, U64 0] ++ cu8 (zr8 16), 29, (0, 0)⟩, _, _, _, _]
          refine AI (AC (BI (A1 (BH (.agg ([U64 0, U64 0, I64 0, SL none 0 0, SL none 0 0, U64 0] ++ cu8 (zr8 16)).toArray) (res1 D7 (DM rfl (BU B7 BG (by simp [(AN 16)]) (AU 0 rfl (AQ _))))) fun w1 hw1 => ?_))))
          rw [show erN (eQ z0 (pp + 16)) 2 = 2 by rw [eQ_ok ‹pp + 16 ≤ z0.length›]; rfl] at hw1
          have hbq : BadQ z0 := by
            rcases hm3 with hm | hm
            · subst hm
              exact bad2 hk (fun e => by exact (of_decide_eq_false hb49) e.2)
            · exact bad2 hk (fun e => by have := e.1; omega)
          rw [show errV 50 2 = errV 50 (eQ z0 (z0.length + 1)) by rw [EU (by omega)]] at hw1
          exact ⟨_, _, rfl, ⟨_, _, _, 0, _, 0, _, _, _, _, ao11, zz11, ca11, _, _, _, none, 0, _, _, _, none, 0, TkR.bad z0 hbq, rfl, rfl, (AN 16), (by omega), (by omega), (fun h => absurd h (by omega)), ⟨(fun w M h => hA11 w M (hu6 w M h)), by omega, by omega, by omega⟩, rfl, rfl, .inl rfl, by omega, (by unfold maxLen; omega), .inl rfl, by omega, (by unfold maxLen; omega)⟩, E0 hw1 3 0 1 rfl rfl rfl (by decide) (by decide) (by decide)⟩
        ·
          have hb50 : (decide (mayN (vQ z0 0 8) (vQ z0 8 8) (((vQ z0 16 1).toNat:Int)) (ixQ z0 18 m) ([] : List SealR) (0:UInt64) = 0)) = true := by simpa using hb48
          have hp50 : mayN (vQ z0 0 8) (vQ z0 8 8) (((vQ z0 16 1).toNat:Int)) (ixQ z0 18 m) ([] : List SealR) (0:UInt64) = 0 := of_decide_eq_true hb50
          refine BF (AC (AH (AH (AB (AA _ (AF rfl) rfl ?_)))))
          refine A7 (A2 61 [Ptr rb 0] (I64 ((leftN (eQ z0 (pp + 16)) zz11.length:Int))) (AS _ DV rfl) (fun w1 hw1 => left_w rb (eQ z0 (pp + 16)) ao11 zz11.length ca11 w1 (RdA.of hw1 (AU 3 rfl (AQ _)) (by simp)))) rfl ?_
          show JL _ _ _ _ ((81, I64 ((leftN (eQ z0 (pp + 16)) zz11.length:Int))) :: _) [_, _, _, _, _]
          refine AA (.bool (decide (((leftN (eQ z0 (pp + 16)) zz11.length:Int)) = (0:Int)))) (AR rfl rfl fun _ => BK _ _) rfl ?_
          refine AA _ (AF rfl) rfl ?_
          rcases Bool.eq_false_or_eq_true (decide (((leftN (eQ z0 (pp + 16)) zz11.length:Int)) = (0:Int))) with hb51 | hb51
          ·
            have hp51 : ((leftN (eQ z0 (pp + 16)) zz11.length:Int)) = (0:Int) := of_decide_eq_true hb51
            refine AP 3 83 true _ _ rfl rfl hb51 (AF rfl) rfl ?_
            refine DL 3 83 true _ rfl rfl hb51 (A2 63 [Ptr rb 0] (errV 50 (endN (eQ z0 (pp + 16)) zz11.length)) (AS _ DZ rfl) (fun w1 hw1 => end_w rb (eQ z0 (pp + 16)) ao11 zz11.length ca11 w1 (RdA.of hw1 (AU 3 rfl (AQ _)) (by simp)))) rfl ?_
            rintro v1 L1 ⟨rfl, rfl⟩
            show JL _ _ _ _ ((85, errV 50 (endN (eQ z0 (pp + 16)) zz11.length)) :: _) [_, _, _, _, _]
            refine AP 3 83 true _ (.bool (!(decide (endN (eQ z0 (pp + 16)) zz11.length = 0)))) rfl rfl hb51 (C7 _ _ _ rfl rfl (fun _ => B6 ..) fun _ => DJ BB _ _) rfl ?_
            refine AA _ (BD _ rfl hb51 rfl) rfl ?_
            refine AI (AC (BP _ rfl (bnotT (decide_eq_true (by have h9 := of_decide_eq_true hb51; rw [eQ_ok ‹pp + 16 ≤ z0.length›, leftN, if_pos rfl] at h9; rw [eQ_ok ‹pp + 16 ≤ z0.length›, endN, if_pos rfl, if_pos (by omega)]))) ?_))
            refine BF (AC (AH (AB (AA (.agg ([U64 (vQ z0 0 8), U64 (vQ z0 8 8), I64 (((vQ z0 16 1).toNat:Int)), Slc gb 0 m cp, SL none 0 0, U64 0] ++ cu8 (bQ z0 pp 16)).toArray) (AO rfl (BU B7 BG (by simp [(show (bQ z0 pp 16).length = 16 from (B8 _ _ _))]) (AU 1 rfl (AQ _)))) rfl ?_))))
            refine A7 (BQ 0 nb1 22 ([U64 0, U64 0, I64 0, SL none 0 0, SL none 0 0, U64 0] ++ cu8 (zr8 16)) 29 ([U64 (vQ z0 0 8), U64 (vQ z0 8 8), I64 (((vQ z0 16 1).toNat:Int)), Slc gb 0 m cp, SL none 0 0, U64 0] ++ cu8 (bQ z0 pp 16)) rfl rfl rfl BG (by simp [(show (bQ z0 pp 16).length = 16 from (B8 _ _ _))]) (BY (by simp [Value.oneCell']) CT) (by simp [(AN 16)]) (BT (by simp [(AN 16), (show (bQ z0 pp 16).length = 16 from (B8 _ _ _))]))) rfl ?_
            show JL _ _ _ _ _ [⟨nb1, [U64 (vQ z0 0 8), U64 (vQ z0 8 8), I64 (((vQ z0 16 1).toNat:Int)), Slc gb 0 m cp, SL none 0 0, U64 0] ++ cu8 (bQ z0 pp 16), 29, (0, 0)⟩, _, _, _, _]
            refine AI (AC (BI (BH (.agg ([U64 (vQ z0 0 8), U64 (vQ z0 8 8), I64 (((vQ z0 16 1).toNat:Int)), Slc gb 0 m cp, SL none 0 0, U64 0] ++ cu8 (bQ z0 pp 16)).toArray) (res1 D7 (DM rfl (BU B7 BG (by simp [(show (bQ z0 pp 16).length = 16 from (B8 _ _ _))]) (AU 0 rfl (AQ _))))) fun w1 hw1 => ?_)))
            obtain rfl : m = mQ z0 := by omega
            subst hpp
            rw [show 4*mQ z0 + 18 + 16 = 4*mQ z0 + 34 from rfl] at hw1
            exact ⟨_, _, rfl, ⟨_, _, _, (mQ z0), _, 0, _, _, _, _, ao11, zz11, ca11, _, _, _, (some ⟨gb, 0, none⟩), cp, _, _, _, none, 0, .inr (.inl ⟨⟨hk, by omega, of_decide_eq_true hb50⟩, rfl, rfl, rfl, rfl, rfl, rfl, rfl, rfl⟩), FH _ _ _, rfl, (B8 _ _ _), (by omega), (by omega), (fun h8 => (hq11 (by omega)).trans (by congr 1 <;> omega)), ⟨(fun w M h => hA11 w M (hu6 w M h)), by omega, by omega, by omega⟩, rfl, rfl, .inr ⟨rfl, _, rfl⟩, hu3, hu4, .inl rfl, by omega, (by unfold maxLen; omega)⟩, E0 hw1 3 2 0 rfl rfl rfl (by decide) (by decide) (by decide)⟩
          ·
            have hp51 : ¬ (((leftN (eQ z0 (pp + 16)) zz11.length:Int)) = (0:Int)) := of_decide_eq_false hb51
            refine AG 3 83 true _ rfl rfl hb51 rfl ?_
            refine AG 3 83 true _ rfl rfl hb51 rfl ?_
            refine AG 3 83 true _ rfl rfl hb51 rfl ?_
            refine AA _ (A3 _ rfl hb51 rfl) rfl ?_
            refine AI (AC (BP _ rfl rfl ?_))
            refine BF (AC (AH (AB (AA (.agg ([U64 (vQ z0 0 8), U64 (vQ z0 8 8), I64 (((vQ z0 16 1).toNat:Int)), Slc gb 0 m cp, SL none 0 0, U64 0] ++ cu8 (bQ z0 pp 16)).toArray) (AO rfl (BU B7 BG (by simp [(show (bQ z0 pp 16).length = 16 from (B8 _ _ _))]) (AU 1 rfl (AQ _)))) rfl ?_))))
            refine A7 (BQ 0 nb1 22 ([U64 0, U64 0, I64 0, SL none 0 0, SL none 0 0, U64 0] ++ cu8 (zr8 16)) 29 ([U64 (vQ z0 0 8), U64 (vQ z0 8 8), I64 (((vQ z0 16 1).toNat:Int)), Slc gb 0 m cp, SL none 0 0, U64 0] ++ cu8 (bQ z0 pp 16)) rfl rfl rfl BG (by simp [(show (bQ z0 pp 16).length = 16 from (B8 _ _ _))]) (BY (by simp [Value.oneCell']) CT) (by simp [(AN 16)]) (BT (by simp [(AN 16), (show (bQ z0 pp 16).length = 16 from (B8 _ _ _))]))) rfl ?_
            show JL _ _ _ _ _ [⟨nb1, [U64 (vQ z0 0 8), U64 (vQ z0 8 8), I64 (((vQ z0 16 1).toNat:Int)), Slc gb 0 m cp, SL none 0 0, U64 0] ++ cu8 (bQ z0 pp 16), 29, (0, 0)⟩, _, _, _, _]
            refine AI (AC (BI (BH (.agg ([U64 (vQ z0 0 8), U64 (vQ z0 8 8), I64 (((vQ z0 16 1).toNat:Int)), Slc gb 0 m cp, SL none 0 0, U64 0] ++ cu8 (bQ z0 pp 16)).toArray) (res1 D7 (DM rfl (BU B7 BG (by simp [(show (bQ z0 pp 16).length = 16 from (B8 _ _ _))]) (AU 0 rfl (AQ _))))) fun w1 hw1 => ?_)))
            obtain rfl : m = mQ z0 := by omega
            subst hpp
            rw [show 4*mQ z0 + 18 + 16 = 4*mQ z0 + 34 from rfl] at hw1
            exact ⟨_, _, rfl, ⟨_, _, _, (mQ z0), _, 0, _, _, _, _, ao11, zz11, ca11, _, _, _, (some ⟨gb, 0, none⟩), cp, _, _, _, none, 0, .inr (.inl ⟨⟨hk, by omega, of_decide_eq_true hb50⟩, rfl, rfl, rfl, rfl, rfl, rfl, rfl, rfl⟩), FH _ _ _, rfl, (B8 _ _ _), (by omega), (by omega), (fun h8 => (hq11 (by omega)).trans (by congr 1 <;> omega)), ⟨(fun w M h => hA11 w M (hu6 w M h)), by omega, by omega, by omega⟩, rfl, rfl, .inr ⟨rfl, _, rfl⟩, hu3, hu4, .inl rfl, by omega, (by unfold maxLen; omega)⟩, E0 hw1 3 2 0 rfl rfl rfl (by decide) (by decide) (by decide)⟩
      ·
        refine ⟨[], ?_⟩
        show DP _ _ _ _ _ _ _ _ [_, _, _, ⟨rb, [errV 50 (eQ z0 (pp + 16)), SL ao11 zz11.length ca11], 204, (0, 0)⟩]
        refine EH ⟨[3], [0, 1, 2], [2], [0, 1], [4]⟩ 4 rfl rfl (by decide +kernel) rfl ⟨⟨_, rfl, AL rfl (AD 6 27 16 AV rfl CI rfl rfl)⟩, ⟨_, rfl, AL rfl (DF 16 5 1 0 16 6 16 CF BZ rfl rfl rfl (by omega) (by omega) (by omega) (by omega) (by omega) 16 (by omega))⟩, trivial⟩ rfl (BO rfl (ET 43 43 5 1 nb2 6 16 16 ([U64 (vQ z0 0 8), U64 (vQ z0 8 8), I64 (((vQ z0 16 1).toNat:Int)), Slc gb 0 m cp, SL none 0 0, U64 0] ++ cu8 (zr8 16)) 29 none 0 0 0 [] ([U64 (vQ z0 0 8), U64 (vQ z0 8 8), I64 (((vQ z0 16 1).toNat:Int)), Slc gb 0 m cp, SL none 0 0, U64 0] ++ cu8 (zr8 16)) BA D4 rfl rfl rfl rfl rfl SrcAt.nil (by simp [(AN 16)]) one_nil (lay_nil _ _))) ?_
        show DP _ _ _ _ _ _ _ _ [_, _, _, _]
        refine DU ⟨[3, 4], [0, 1, 2], [0, 1, 2], [], []⟩ rfl rfl (by decide +kernel) rfl trivial ?_
        refine C6 (F' := [(0, Ptr rb 0), (2, Ptr nb1 0), (3, Ptr nb2 0)]) (by kernel_rfl) ?_
        refine AC (AH (AH (AB (AA (.agg ([U64 (vQ z0 0 8), U64 (vQ z0 8 8), I64 (((vQ z0 16 1).toNat:Int)), Slc gb 0 m cp, SL none 0 0, U64 0] ++ cu8 (zr8 16)).toArray) (AO rfl (BU B7 BG (by simp [(AN 16)]) (AU 1 rfl (AQ _)))) rfl ?_))))
        refine A7 (A2 128 [.agg ([U64 (vQ z0 0 8), U64 (vQ z0 8 8), I64 (((vQ z0 16 1).toNat:Int)), Slc gb 0 m cp, SL none 0 0, U64 0] ++ cu8 (zr8 16)).toArray] (errV 50 (mayN (vQ z0 0 8) (vQ z0 8 8) (((vQ z0 16 1).toNat:Int)) (ixQ z0 18 m) ([] : List SealR) (0:UInt64))) (AS _ Tryd.call128 rfl) (fun w1 hw1 => may13_c (vQ z0 0 8) (vQ z0 8 8) (((vQ z0 16 1).toNat:Int)) (some ⟨gb, 0, none⟩) m cp (ixQ z0 18 m) none 0 0 ([] : List SealR) (0:UInt64) (zr8 16) w1 (FH _ _ _) (by omega) (by omega) (by omega) (RdV.of hw1 (AU 2 rfl (AJ (AQ _)))) rfl (by omega) (by omega) (by omega) RdV.nil (AN 16))) rfl ?_
        show JL _ _ _ _ ((74, errV 50 (mayN (vQ z0 0 8) (vQ z0 8 8) (((vQ z0 16 1).toNat:Int)) (ixQ z0 18 m) ([] : List SealR) (0:UInt64))) :: _) [_, _, _, _]
        refine AA _ (AE rfl) rfl ?_
        refine AI (AC (AH (AB (AA _ (AF rfl) rfl ?_))))
        refine AA (.bool (!(decide (mayN (vQ z0 0 8) (vQ z0 8 8) (((vQ z0 16 1).toNat:Int)) (ixQ z0 18 m) ([] : List SealR) (0:UInt64) = 0)))) (C7 _ _ _ rfl rfl (fun _ => B6 ..) fun _ => DJ BB _ _) rfl ?_
        refine AI (AC (FK (ι := Option Addr × List UInt8 × Nat) (fun ⟨ab, zb, cb⟩ => [(0, Ptr rb 0), (2, Ptr nb1 0), (3, Ptr nb2 0)]) (fun ⟨ab, zb, cb⟩ => [⟨rb, [errV 50 2, SL ab zb.length cb], 204, (0, 0)⟩, ⟨nb1, [U64 0, U64 0, I64 0, SL none 0 0, SL none 0 0, U64 0] ++ cu8 (zr8 16), 29, (0, 0)⟩, ⟨nb2, [U64 (vQ z0 0 8), U64 (vQ z0 8 8), I64 (((vQ z0 16 1).toNat:Int)), Slc gb 0 m cp, SL none 0 0, U64 0] ++ cu8 (zr8 16), 29, (0, 0)⟩]) (fun ⟨ab, zb, cb⟩ => (∀ w M, RdB w M ao z → RdB w M ab zb) ∧ zb.length ≤ cb ∧ cb ≤ maxLen ∧ zb.length ≤ n) ?_ ?_))
        ·
          refine B9 (!(decide (mayN (vQ z0 0 8) (vQ z0 8 8) (((vQ z0 16 1).toNat:Int)) (ixQ z0 18 m) ([] : List SealR) (0:UInt64) = 0))) rfl (fun hb52 => ?_) (fun hb52 => ?_)
          ·
            have hb53 : (decide (mayN (vQ z0 0 8) (vQ z0 8 8) (((vQ z0 16 1).toNat:Int)) (ixQ z0 18 m) ([] : List SealR) (0:UInt64) = 0)) = false := by simpa using hb52
            have hp53 : ¬ (mayN (vQ z0 0 8) (vQ z0 8 8) (((vQ z0 16 1).toNat:Int)) (ixQ z0 18 m) ([] : List SealR) (0:UInt64) = 0) := of_decide_eq_false hb53
            refine AB (AA _ (AF rfl) rfl ?_)
            refine AA (.iface 50 (I64 2)) (C9 BM rfl rfl) rfl ?_
            refine A4 (DS 121 [Ptr rb 0, .iface 50 (I64 2)] 3 ⟨rb, [errV 50 (eQ z0 (pp + 16)), SL ao11 zz11.length ca11], 204, (0, 0)⟩ _ (fun v e' l' => v = .tuple #[] ∧ e' = ⟨rb, [errV 50 (erN (eQ z0 (pp + 16)) 2), SL ao11 zz11.length ca11], 204, (0, 0)⟩ ∧ l' = []) (AS _ DX rfl) rfl (by rintro v l ⟨rfl, rfl⟩; exact ⟨_, _, rfl, rfl, rfl, rfl, rfl⟩) (fun w1 hw1 => EL rb (eQ z0 (pp + 16)) 2 (SL ao11 zz11.length ca11) w1 (by decide) (hw1.ent _ (List.mem_of_getElem? (i := 3) rfl)))) rfl ?_
            rintro v1 L1 ⟨_, _, ⟨rfl, rfl, rfl⟩, rfl⟩
            show JL _ _ _ _ ((79, .tuple #[]) :: _) [_, _, _, ⟨rb, [errV 50 (erN (eQ z0 (pp + 16)) 2), SL ao11 zz11.length ca11], 204, (0, 0)⟩]
            refine AI ?_
            rw [show erN (eQ z0 (pp + 16)) 2 = 2 by rw [EU ‹¬ pp + 16 ≤ z0.length›]; rfl]
            refine EX [3, 0, 1] (by decide) ?_
            show JQ _ _ _ _ [_, _, _]
            refine DT ((ao11, zz11, ca11)) ⟨(fun w M h => hA11 w M (hu6 w M h)), by omega, by omega, by omega⟩ (Sub.all rfl) rfl
          ·
            have hb54 : (decide (mayN (vQ z0 0 8) (vQ z0 8 8) (((vQ z0 16 1).toNat:Int)) (ixQ z0 18 m) ([] : List SealR) (0:UInt64) = 0)) = true := by simpa using hb52
            have hp54 : mayN (vQ z0 0 8) (vQ z0 8 8) (((vQ z0 16 1).toNat:Int)) (ixQ z0 18 m) ([] : List SealR) (0:UInt64) = 0 := of_decide_eq_true hb54
            refine BF ?_
            rw [show eQ z0 (pp + 16) = 2 by rw [EU ‹¬ pp + 16 ≤ z0.length›]]
            refine EX [3, 0, 1] (by decide) ?_
            show JQ _ _ _ _ [_, _, _]
            refine DT ((ao11, zz11, ca11)) ⟨(fun w M h => hA11 w M (hu6 w M h)), by omega, by omega, by omega⟩ (Sub.all rfl) rfl
        ·
          rintro ⟨ab, zb, cb⟩ hx
          obtain ⟨hbA, hbb1, hbb2, hbb3⟩ := hx
          show JQ _ _ _ [(0, Ptr rb 0), (2, Ptr nb1 0), (3, Ptr nb2 0)] [⟨rb, [errV 50 2, SL ab zb.length cb], 204, (0, 0)⟩, ⟨nb1, [U64 0, U64 0, I64 0, SL none 0 0, SL none 0 0, U64 0] ++ cu8 (zr8 16), 29, (0, 0)⟩, ⟨nb2, [U64 (vQ z0 0 8), U64 (vQ z0 8 8), I64 (((vQ z0 16 1).toNat:Int)), Slc gb 0 m cp, SL none 0 0, U64 0] ++ cu8 (zr8 16), 29, (0, 0)⟩]
          refine AC (AH (AH (AB (AA _ (AF rfl) rfl ?_))))
          refine A7 (A2 61 [Ptr rb 0] (I64 ((leftN 2 zb.length:Int))) (AS _ DV rfl) (fun w1 hw1 => left_w rb 2 ab zb.length cb w1 (RdA.of hw1 (AU 0 rfl (AQ _)) (by simp)))) rfl ?_
          show JL _ _ _ _ ((81, I64 ((leftN 2 zb.length:Int))) :: _) [_, _, _]
          refine AA (.bool (decide (((leftN 2 zb.length:Int)) = (0:Int)))) (AR rfl rfl fun _ => BK _ _) rfl ?_
          refine AA _ (AF rfl) rfl ?_
          refine AP 3 83 true _ _ rfl rfl (decide_eq_true (by rw [leftN, if_neg (by decide)]; rfl)) (AF rfl) rfl ?_
          refine DL 3 83 true _ rfl rfl (decide_eq_true (by rw [leftN, if_neg (by decide)]; rfl)) (A2 63 [Ptr rb 0] (errV 50 (endN 2 zb.length)) (AS _ DZ rfl) (fun w1 hw1 => end_w rb 2 ab zb.length cb w1 (RdA.of hw1 (AU 0 rfl (AQ _)) (by simp)))) rfl ?_
          rintro v1 L1 ⟨rfl, rfl⟩
          show JL _ _ _ _ ((85, errV 50 (endN 2 zb.length)) :: _) [_, _, _]
          refine AP 3 83 true _ (.bool (!(decide (endN 2 zb.length = 0)))) rfl rfl (decide_eq_true (by rw [leftN, if_neg (by decide)]; rfl)) (C7 _ _ _ rfl rfl (fun _ => B6 ..) fun _ => DJ BB _ _) rfl ?_
          refine AA _ (BD _ rfl (decide_eq_true (by rw [leftN, if_neg (by decide)]; rfl)) rfl) rfl ?_
          refine AI (AC (B3 _ rfl (bnotF (decide_eq_false (by rw [endN, if_neg (by decide)]; exact (by decide)))) ?_))
          refine AH (AB (AA (.agg ([U64 0, U64 0, I64 0, SL none 0 0, SL none 0 0, U64 0] ++ cu8 (zr8 16)).toArray) (CP [] _ rfl (fun _ => by kernel_rfl)) rfl ?_))
          refine A7 (BQ 1 nb1 22 ([U64 0, U64 0, I64 0, SL none 0 0, SL none 0 0, U64 0] ++ cu8 (zr8 16)) 29 ([U64 0, U64 0, I64 0, SL none 0 0, SL none 0 0, U64 0] ++ cu8 (zr8 16)) rfl rfl rfl BG (by simp [(AN 16)]) (BY (by simp [Value.oneCell']) CT) (by simp [(AN 16)]) (BT (by simp [(AN 16), (AN 16)]))) rfl ?_
          show JL _ _ _ _ _ [_, ⟨nb1, [U64 0, U64 0, I64 0, SL none 0 0, SL none 0 0, U64 0] ++ cu8 (zr8 16), 29, (0, 0)⟩, _]
          refine AI (AC (BI (A1 (BH (.agg ([U64 0, U64 0, I64 0, SL none 0 0, SL none 0 0, U64 0] ++ cu8 (zr8 16)).toArray) (res1 D7 (DM rfl (BU B7 BG (by simp [(AN 16)]) (AU 1 rfl (AQ _))))) fun w1 hw1 => ?_))))
          have hbq : BadQ z0 := by
            rcases hm3 with hm | hm
            · subst hm
              exact bad2 hk (fun e => by have := e.1; omega)
            · exact bad2 hk (fun e => by have := e.1; omega)
          rw [show errV 50 2 = errV 50 (eQ z0 (z0.length + 1)) by rw [EU (by omega)]] at hw1
          exact ⟨_, _, rfl, ⟨_, _, _, 0, _, 0, _, _, _, _, ab, zb, cb, _, _, _, none, 0, _, _, _, none, 0, TkR.bad z0 hbq, rfl, rfl, (AN 16), (by omega), (by omega), (fun h => absurd h (by omega)), ⟨hbA, by omega, by omega, by omega⟩, rfl, rfl, .inl rfl, by omega, (by unfold maxLen; omega), .inl rfl, by omega, (by unfold maxLen; omega)⟩, E0 hw1 0 1 2 rfl rfl rfl (by decide) (by decide) (by decide)⟩
    ·
      obtain ⟨hk, hpp, hm2, hm3, hu7, hu8, hu9, hu2, hu3, hu4, hu5, hu6, hu10, hu11, hu12⟩ := hx
      show JQ _ _ _ [(0, Ptr rb 0), (2, Ptr nb1 0), (3, Ptr nb2 0)] [⟨rb, [errV 50 (eQ z0 pp), SL aa zz.length cc], 204, (0, 0)⟩, ⟨nb1, [U64 0, U64 0, I64 0, SL none 0 0, SL none 0 0, U64 0] ++ cu8 (zr8 16), 29, (0, 0)⟩, ⟨nb2, [U64 (vQ z0 0 8), U64 (vQ z0 8 8), I64 (((vQ z0 16 1).toNat:Int)), Slc gb 0 m cp, Slc gs 0 m cp2, U64 0] ++ cu8 (zr8 16), 29, (0, 0)⟩, ⟨gb, cu64 (ixQ z0 18 m) ++ sp, 22, (0, 0)⟩, ⟨gs, (seQ z0 (4*m + 18) m).flatMap sealC ++ sp2, 161, (0, 0)⟩]
      refine AC (AH (DC 90 3 [(0, Ptr nb2 6), (1, Slc nb2 6 16 16), (2, Ptr rb 0)] CA rfl (by decide +kernel) ?_))
      have hz12 : (zz).length = zz.length := rfl
      refine CW ⟨[], [0, 1, 2], [], [0, 1, 2], [3]⟩ 3 _ rfl rfl (by decide +kernel) rfl ⟨⟨_, rfl, AL rfl (AD 6 27 16 AV rfl CI rfl rfl)⟩, ⟨_, rfl, AL rfl (DF 16 5 1 0 16 6 16 CF BZ rfl rfl rfl (by omega) (by omega) (by omega) (by omega) (by omega) 16 (by omega))⟩, CG rfl rfl rfl, trivial⟩ rfl (BO rfl (A8 127 _ [true, false, false, false, false] [rb] _ (AS [Ptr rb 0, I64 16] Tryd.call127 rfl) rfl (fun w1 hw1 => rawA_w rb pp 16 aa zz.length cc z0 zz w1 (hw1.ent _ (List.mem_of_getElem? (i := 0) rfl)) rfl (by omega) (by omega) (by omega) (hu6 _ _ (hr.at (M' := [rb]) hw1 (hw1.apart [0] _ rfl))) hu5 (by omega)))) ?_
      rintro v1 L1 ⟨_, ⟨ao12, zz12, ca12, hq12, ⟨hA12, hb55, hb56, hb57⟩, (⟨hg7, nb13, sp7, cp7, rfl, rfl, hc7, hc8, hc9⟩ | ⟨hg7, rfl, rfl⟩)⟩, rfl⟩
      ·
        refine ⟨[], ?_⟩
        show DP _ _ _ _ _ _ _ _ [_, _, _, _, ⟨rb, [errV 50 (eQ z0 (pp + 16)), SL ao12 zz12.length ca12], 204, (0, 0)⟩, ⟨nb13, cu8 (bQ z0 pp 16) ++ sp7, 5, (0, 0)⟩]
        refine EH ⟨[3], [0, 1, 2], [2], [0, 1], [4]⟩ 4 rfl rfl (by decide +kernel) rfl ⟨⟨_, rfl, AL rfl (AD 6 27 16 AV rfl CI rfl rfl)⟩, ⟨_, rfl, AL rfl (DF 16 5 1 0 16 6 16 CF BZ rfl rfl rfl (by omega) (by omega) (by omega) (by omega) (by omega) 16 (by omega))⟩, trivial⟩ rfl (BO rfl (ET 43 43 5 1 nb2 6 16 16 ([U64 (vQ z0 0 8), U64 (vQ z0 8 8), I64 (((vQ z0 16 1).toNat:Int)), Slc gb 0 m cp, Slc gs 0 m cp2, U64 0] ++ cu8 (zr8 16)) 29 (some ⟨nb13, 0, none⟩) 16 cp7 16 (cu8 (bQ z0 pp 16)) ([U64 (vQ z0 0 8), U64 (vQ z0 8 8), I64 (((vQ z0 16 1).toNat:Int)), Slc gb 0 m cp, Slc gs 0 m cp2, U64 0] ++ cu8 (bQ z0 pp 16)) BA D4 rfl rfl rfl rfl (by simp [(show (bQ z0 pp 16).length = 16 from (B8 _ _ _))]; try omega) (SrcAt.mem (AU 5 rfl (AJ (AQ _)))) (by simp [(AN 16)]; try omega) (by first | exact CT | exact one_u32 | exact one_u64 | (simp [cu8, cu32, cu64, Value.oneCell']; done)) (ES 6 0 rfl rfl (BT (by simp [(AN 16), (show (bQ z0 pp 16).length = 16 from (B8 _ _ _))]))))) ?_
        show DP _ _ _ _ _ _ _ _ [_, ⟨nb2, [U64 (vQ z0 0 8), U64 (vQ z0 8 8), I64 (((vQ z0 16 1).toNat:Int)), Slc gb 0 m cp, Slc gs 0 m cp2, U64 0] ++ cu8 (bQ z0 pp 16), 29, (0, 0)⟩, _, _, _, _]
        refine DU ⟨[3, 4], [0, 1, 2], [0, 1, 2], [], []⟩ rfl rfl (by decide +kernel) rfl trivial ?_
        refine C6 (F' := [(0, Ptr rb 0), (2, Ptr nb1 0), (3, Ptr nb2 0)]) (by kernel_rfl) ?_
        refine AC (AH (AH (AB (AA (.agg ([U64 (vQ z0 0 8), U64 (vQ z0 8 8), I64 (((vQ z0 16 1).toNat:Int)), Slc gb 0 m cp, Slc gs 0 m cp2, U64 0] ++ cu8 (bQ z0 pp 16)).toArray) (AO rfl (BU B7 BG (by simp [(show (bQ z0 pp 16).length = 16 from (B8 _ _ _))]) (AU 1 rfl (AQ _)))) rfl ?_))))
        refine A7 (A2 128 [.agg ([U64 (vQ z0 0 8), U64 (vQ z0 8 8), I64 (((vQ z0 16 1).toNat:Int)), Slc gb 0 m cp, Slc gs 0 m cp2, U64 0] ++ cu8 (bQ z0 pp 16)).toArray] (errV 50 (mayN (vQ z0 0 8) (vQ z0 8 8) (((vQ z0 16 1).toNat:Int)) (ixQ z0 18 m) (seQ z0 (4*m + 18) m) (0:UInt64))) (AS _ Tryd.call128 rfl) (fun w1 hw1 => may13_c (vQ z0 0 8) (vQ z0 8 8) (((vQ z0 16 1).toNat:Int)) (some ⟨gb, 0, none⟩) m cp (ixQ z0 18 m) (some ⟨gs, 0, none⟩) m cp2 (seQ z0 (4*m + 18) m) (0:UInt64) (bQ z0 pp 16) w1 (FH _ _ _) (by omega) (by omega) (by omega) (RdV.of hw1 (AU 2 rfl (AJ (AQ _)))) (seQ_len _ _ _) (by omega) (by omega) (by omega) (RdV.of hw1 (AU 3 rfl (AJ (AQ _)))) (show (bQ z0 pp 16).length = 16 from (B8 _ _ _)))) rfl ?_
        show JL _ _ _ _ ((74, errV 50 (mayN (vQ z0 0 8) (vQ z0 8 8) (((vQ z0 16 1).toNat:Int)) (ixQ z0 18 m) (seQ z0 (4*m + 18) m) (0:UInt64))) :: _) [_, _, _, _, _, _]
        refine AA _ (AE rfl) rfl ?_
        refine AI (AC (AH (AB (AA _ (AF rfl) rfl ?_))))
        refine AA (.bool (!(decide (mayN (vQ z0 0 8) (vQ z0 8 8) (((vQ z0 16 1).toNat:Int)) (ixQ z0 18 m) (seQ z0 (4*m + 18) m) (0:UInt64) = 0)))) (C7 _ _ _ rfl rfl (fun _ => B6 ..) fun _ => DJ BB _ _) rfl ?_
        refine AI (AC (B9 (!(decide (mayN (vQ z0 0 8) (vQ z0 8 8) (((vQ z0 16 1).toNat:Int)) (ixQ z0 18 m) (seQ z0 (4*m + 18) m) (0:UInt64) = 0))) rfl (fun hb58 => ?_) (fun hb58 => ?_)))
        ·
          have hb59 : (decide (mayN (vQ z0 0 8) (vQ z0 8 8) (((vQ z0 16 1).toNat:Int)) (ixQ z0 18 m) (seQ z0 (4*m + 18) m) (0:UInt64) = 0)) = false := by simpa using hb58
          have hp59 : ¬ (mayN (vQ z0 0 8) (vQ z0 8 8) (((vQ z0 16 1).toNat:Int)) (ixQ z0 18 m) (seQ z0 (4*m + 18) m) (0:UInt64) = 0) := of_decide_eq_false hb59
          refine AB (AA _ (AF rfl) rfl ?_)
          refine AA (.iface 50 (I64 2)) (C9 BM rfl rfl) rfl ?_
          refine A4 (DS 121 [Ptr rb 0, .iface 50 (I64 2)] 4 ⟨rb, [errV 50 (eQ z0 (pp + 16)), SL ao12 zz12.length ca12], 204, (0, 0)⟩ _ (fun v e' l' => v = .tuple #[] ∧ e' = ⟨rb, [errV 50 (erN (eQ z0 (pp + 16)) 2), SL ao12 zz12.length ca12], 204, (0, 0)⟩ ∧ l' = []) (AS _ DX rfl) rfl (by rintro v l ⟨rfl, rfl⟩; exact ⟨_, _, rfl, rfl, rfl, rfl, rfl⟩) (fun w1 hw1 => EL rb (eQ z0 (pp + 16)) 2 (SL ao12 zz12.length ca12) w1 (by decide) (hw1.ent _ (List.mem_of_getElem? (i := 4) rfl)))) rfl ?_
          rintro v1 L1 ⟨_, _, ⟨rfl, rfl, rfl⟩, rfl⟩
          show JL _ _ _ _ ((79, .tuple #[]) :: _) [_, _, _, _, ⟨rb, [errV 50 (erN (eQ z0 (pp + 16)) 2), SL ao12 zz12.length ca12], 204, (0, 0)⟩, _]
          refine AI (AC (AH (AH (AB (AA _ (AF rfl) rfl ?_)))))
          refine A7 (A2 61 [Ptr rb 0] (I64 ((leftN (erN (eQ z0 (pp + 16)) 2) zz12.length:Int))) (AS _ DV rfl) (fun w1 hw1 => left_w rb (erN (eQ z0 (pp + 16)) 2) ao12 zz12.length ca12 w1 (RdA.of hw1 (AU 4 rfl (AQ _)) (by simp)))) rfl ?_
          show JL _ _ _ _ ((81, I64 ((leftN (erN (eQ z0 (pp + 16)) 2) zz12.length:Int))) :: _) [_, _, _, _, _, _]
          refine AA (.bool (decide (((leftN (erN (eQ z0 (pp + 16)) 2) zz12.length:Int)) = (0:Int)))) (AR rfl rfl fun _ => BK _ _) rfl ?_
          refine AA _ (AF rfl) rfl ?_
          refine AP 3 83 true _ _ rfl rfl (decide_eq_true (by rw [leftN, if_neg (E2 (by decide))]; rfl)) (AF rfl) rfl ?_
          refine DL 3 83 true _ rfl rfl (decide_eq_true (by rw [leftN, if_neg (E2 (by decide))]; rfl)) (A2 63 [Ptr rb 0] (errV 50 (endN (erN (eQ z0 (pp + 16)) 2) zz12.length)) (AS _ DZ rfl) (fun w1 hw1 => end_w rb (erN (eQ z0 (pp + 16)) 2) ao12 zz12.length ca12 w1 (RdA.of hw1 (AU 4 rfl (AQ _)) (by simp)))) rfl ?_
          rintro v1 L1 ⟨rfl, rfl⟩
          show JL _ _ _ _ ((85, errV 50 (endN (erN (eQ z0 (pp + 16)) 2) zz12.length)) :: _) [_, _, _, _, _, _]
          refine AP 3 83 true _ (.bool (!(decide (endN (erN (eQ z0 (pp + 16)) 2) zz12.length = 0)))) rfl rfl (decide_eq_true (by rw [leftN, if_neg (E2 (by decide))]; rfl)) (C7 _ _ _ rfl rfl (fun _ => B6 ..) fun _ => DJ BB _ _) rfl ?_
          refine AA _ (BD _ rfl (decide_eq_true (by rw [leftN, if_neg (E2 (by decide))]; rfl)) rfl) rfl ?_
          refine AI (AC (B3 _ rfl (bnotF (decide_eq_false (by rw [endN, if_neg (E2 (by decide))]; exact (E2 (by decide))))) ?_))
          refine AH (AB (AA (.agg ([U64 0, U64 0, I64 0, SL none 0 0, SL none 0 0, U64 0] ++ cu8 (zr8 16)).toArray) (CP [] _ rfl (fun _ => by kernel_rfl)) rfl ?_))
          refine A7 (BQ 0 nb1 22 ([U64 0, U64 0, I64 0, SL none 0 0, SL none 0 0, U64 0] ++ cu8 (zr8 16)) 29 ([U64 0, U64 0, I64 0, SL none 0 0, SL none 0 0, U64 0] ++ cu8 (zr8 16)) rfl rfl rfl BG (by simp [(AN 16)]) (BY (by simp [Value.oneCell']) CT) (by simp [(AN 16)]) (BT (by simp [(AN 16), (AN 16)]))) rfl ?_
          show JL _ _ _ _ _ [⟨nb1, [U64 0, U64 0, I64 0, SL none 0 0, SL none 0 0, U64 0] ++ cu8 (zr8 16), 29, (0, 0)⟩, _, _, _, _, _]
          refine AI (AC (BI (A1 (BH (.agg ([U64 0, U64 0, I64 0, SL none 0 0, SL none 0 0, U64 0] ++ cu8 (zr8 16)).toArray) (res1 D7 (DM rfl (BU B7 BG (by simp [(AN 16)]) (AU 0 rfl (AQ _))))) fun w1 hw1 => ?_))))
          rw [show erN (eQ z0 (pp + 16)) 2 = 2 by rw [eQ_ok ‹pp + 16 ≤ z0.length›]; rfl] at hw1
          have hbq : BadQ z0 := by
            rcases hm3 with hm | hm
            · subst hm
              exact bad1 hk (fun e => by exact (of_decide_eq_false hb59) e.2)
            · exact bad1 hk (fun e => by have := e.1; omega)
          rw [show errV 50 2 = errV 50 (eQ z0 (z0.length + 1)) by rw [EU (by omega)]] at hw1
          exact ⟨_, _, rfl, ⟨_, _, _, 0, _, 0, _, _, _, _, ao12, zz12, ca12, _, _, _, none, 0, _, _, _, none, 0, TkR.bad z0 hbq, rfl, rfl, (AN 16), (by omega), (by omega), (fun h => absurd h (by omega)), ⟨(fun w M h => hA12 w M (hu6 w M h)), by omega, by omega, by omega⟩, rfl, rfl, .inl rfl, by omega, (by unfold maxLen; omega), .inl rfl, by omega, (by unfold maxLen; omega)⟩, E0 hw1 4 0 1 rfl rfl rfl (by decide) (by decide) (by decide)⟩
        ·
          have hb60 : (decide (mayN (vQ z0 0 8) (vQ z0 8 8) (((vQ z0 16 1).toNat:Int)) (ixQ z0 18 m) (seQ z0 (4*m + 18) m) (0:UInt64) = 0)) = true := by simpa using hb58
          have hp60 : mayN (vQ z0 0 8) (vQ z0 8 8) (((vQ z0 16 1).toNat:Int)) (ixQ z0 18 m) (seQ z0 (4*m + 18) m) (0:UInt64) = 0 := of_decide_eq_true hb60
          refine BF (AC (AH (AH (AB (AA _ (AF rfl) rfl ?_)))))
          refine A7 (A2 61 [Ptr rb 0] (I64 ((leftN (eQ z0 (pp + 16)) zz12.length:Int))) (AS _ DV rfl) (fun w1 hw1 => left_w rb (eQ z0 (pp + 16)) ao12 zz12.length ca12 w1 (RdA.of hw1 (AU 4 rfl (AQ _)) (by simp)))) rfl ?_
          show JL _ _ _ _ ((81, I64 ((leftN (eQ z0 (pp + 16)) zz12.length:Int))) :: _) [_, _, _, _, _, _]
          refine AA (.bool (decide (((leftN (eQ z0 (pp + 16)) zz12.length:Int)) = (0:Int)))) (AR rfl rfl fun _ => BK _ _) rfl ?_
          refine AA _ (AF rfl) rfl ?_
          rcases Bool.eq_false_or_eq_true (decide (((leftN (eQ z0 (pp + 16)) zz12.length:Int)) = (0:Int))) with hb61 | hb61
          ·
            have hp61 : ((leftN (eQ z0 (pp + 16)) zz12.length:Int)) = (0:Int) := of_decide_eq_true hb61
            refine AP 3 83 true _ _ rfl rfl hb61 (AF rfl) rfl ?_
            refine DL 3 83 true _ rfl rfl hb61 (A2 63 [Ptr rb 0] (errV 50 (endN (eQ z0 (pp + 16)) zz12.length)) (AS _ DZ rfl) (fun w1 hw1 => end_w rb (eQ z0 (pp + 16)) ao12 zz12.length ca12 w1 (RdA.of hw1 (AU 4 rfl (AQ _)) (by simp)))) rfl ?_
            rintro v1 L1 ⟨rfl, rfl⟩
            show JL _ _ _ _ ((85, errV 50 (endN (eQ z0 (pp + 16)) zz12.length)) :: _) [_, _, _, _, _, _]
            refine AP 3 83 true _ (.bool (!(decide (endN (eQ z0 (pp + 16)) zz12.length = 0)))) rfl rfl hb61 (C7 _ _ _ rfl rfl (fun _ => B6 ..) fun _ => DJ BB _ _) rfl ?_
            refine AA _ (BD _ rfl hb61 rfl) rfl ?_
            refine AI (AC (BP _ rfl (bnotT (decide_eq_true (by have h9 := of_decide_eq_true hb61; rw [eQ_ok ‹pp + 16 ≤ z0.length›, leftN, if_pos rfl] at h9; rw [eQ_ok ‹pp + 16 ≤ z0.length›, endN, if_pos rfl, if_pos (by omega)]))) ?_))
            refine BF (AC (AH (AB (AA (.agg ([U64 (vQ z0 0 8), U64 (vQ z0 8 8), I64 (((vQ z0 16 1).toNat:Int)), Slc gb 0 m cp, Slc gs 0 m cp2, U64 0] ++ cu8 (bQ z0 pp 16)).toArray) (AO rfl (BU B7 BG (by simp [(show (bQ z0 pp 16).length = 16 from (B8 _ _ _))]) (AU 1 rfl (AQ _)))) rfl ?_))))
            refine A7 (BQ 0 nb1 22 ([U64 0, U64 0, I64 0, SL none 0 0, SL none 0 0, U64 0] ++ cu8 (zr8 16)) 29 ([U64 (vQ z0 0 8), U64 (vQ z0 8 8), I64 (((vQ z0 16 1).toNat:Int)), Slc gb 0 m cp, Slc gs 0 m cp2, U64 0] ++ cu8 (bQ z0 pp 16)) rfl rfl rfl BG (by simp [(show (bQ z0 pp 16).length = 16 from (B8 _ _ _))]) (BY (by simp [Value.oneCell']) CT) (by simp [(AN 16)]) (BT (by simp [(AN 16), (show (bQ z0 pp 16).length = 16 from (B8 _ _ _))]))) rfl ?_
            show JL _ _ _ _ _ [⟨nb1, [U64 (vQ z0 0 8), U64 (vQ z0 8 8), I64 (((vQ z0 16 1).toNat:Int)), Slc gb 0 m cp, Slc gs 0 m cp2, U64 0] ++ cu8 (bQ z0 pp 16), 29, (0, 0)⟩, _, _, _, _, _]
            refine AI (AC (BI (BH (.agg ([U64 (vQ z0 0 8), U64 (vQ z0 8 8), I64 (((vQ z0 16 1).toNat:Int)), Slc gb 0 m cp, Slc gs 0 m cp2, U64 0] ++ cu8 (bQ z0 pp 16)).toArray) (res1 D7 (DM rfl (BU B7 BG (by simp [(show (bQ z0 pp 16).length = 16 from (B8 _ _ _))]) (AU 0 rfl (AQ _))))) fun w1 hw1 => ?_)))
            obtain rfl : m = mQ z0 := by omega
            subst hpp
            rw [show 60*mQ z0 + 18 + 16 = 60*mQ z0 + 34 from rfl] at hw1
            exact ⟨_, _, rfl, ⟨_, _, _, (mQ z0), _, (mQ z0), _, _, _, _, ao12, zz12, ca12, _, _, _, (some ⟨gb, 0, none⟩), cp, _, _, _, (some ⟨gs, 0, none⟩), cp2, .inr (.inr (.inl ⟨⟨hk, by omega, of_decide_eq_true hb60⟩, rfl, rfl, rfl, rfl, rfl, rfl, rfl, rfl⟩)), FH _ _ _, seQ_len _ _ _, (B8 _ _ _), (by omega), (by omega), (fun h8 => (hq12 (by omega)).trans (by congr 1 <;> omega)), ⟨(fun w M h => hA12 w M (hu6 w M h)), by omega, by omega, by omega⟩, rfl, rfl, .inr ⟨rfl, _, rfl⟩, hu3, hu4, .inr ⟨rfl, _, rfl⟩, hu8, hu9⟩, E0 hw1 4 2 3 rfl rfl rfl (by decide) (by decide) (by decide)⟩
          ·
            have hp61 : ¬ (((leftN (eQ z0 (pp + 16)) zz12.length:Int)) = (0:Int)) := of_decide_eq_false hb61
            refine AG 3 83 true _ rfl rfl hb61 rfl ?_
            refine AG 3 83 true _ rfl rfl hb61 rfl ?_
            refine AG 3 83 true _ rfl rfl hb61 rfl ?_
            refine AA _ (A3 _ rfl hb61 rfl) rfl ?_
            refine AI (AC (BP _ rfl rfl ?_))
            refine BF (AC (AH (AB (AA (.agg ([U64 (vQ z0 0 8), U64 (vQ z0 8 8), I64 (((vQ z0 16 1).toNat:Int)), Slc gb 0 m cp, Slc gs 0 m cp2, U64 0] ++ cu8 (bQ z0 pp 16)).toArray) (AO rfl (BU B7 BG (by simp [(show (bQ z0 pp 16).length = 16 from (B8 _ _ _))]) (AU 1 rfl (AQ _)))) rfl ?_))))
            refine A7 (BQ 0 nb1 22 ([U64 0, U64 0, I64 0, SL none 0 0, SL none 0 0, U64 0] ++ cu8 (zr8 16)) 29 ([U64 (vQ z0 0 8), U64 (vQ z0 8 8), I64 (((vQ z0 16 1).toNat:Int)), Slc gb 0 m cp, Slc gs 0 m cp2, U64 0] ++ cu8 (bQ z0 pp 16)) rfl rfl rfl BG (by simp [(show (bQ z0 pp 16).length = 16 from (B8 _ _ _))]) (BY (by simp [Value.oneCell']) CT) (by simp [(AN 16)]) (BT (by simp [(AN 16), (show (bQ z0 pp 16).length = 16 from (B8 _ _ _))]))) rfl ?_
            show JL _ _ _ _ _ [⟨nb1, [U64 (vQ z0 0 8), U64 (vQ z0 8 8), I64 (((vQ z0 16 1).toNat:Int)), Slc gb 0 m cp, Slc gs 0 m cp2, U64 0] ++ cu8 (bQ z0 pp 16), 29, (0, 0)⟩, _, _, _, _, _]
            refine AI (AC (BI (BH (.agg ([U64 (vQ z0 0 8), U64 (vQ z0 8 8), I64 (((vQ z0 16 1).toNat:Int)), Slc gb 0 m cp, Slc gs 0 m cp2, U64 0] ++ cu8 (bQ z0 pp 16)).toArray) (res1 D7 (DM rfl (BU B7 BG (by simp [(show (bQ z0 pp 16).length = 16 from (B8 _ _ _))]) (AU 0 rfl (AQ _))))) fun w1 hw1 => ?_)))
            obtain rfl : m = mQ z0 := by omega
            subst hpp
            rw [show 60*mQ z0 + 18 + 16 = 60*mQ z0 + 34 from rfl] at hw1
            exact ⟨_, _, rfl, ⟨_, _, _, (mQ z0), _, (mQ z0), _, _, _, _, ao12, zz12, ca12, _, _, _, (some ⟨gb, 0, none⟩), cp, _, _, _, (some ⟨gs, 0, none⟩), cp2, .inr (.inr (.inl ⟨⟨hk, by omega, of_decide_eq_true hb60⟩, rfl, rfl, rfl, rfl, rfl, rfl, rfl, rfl⟩)), FH _ _ _, seQ_len _ _ _, (B8 _ _ _), (by omega), (by omega), (fun h8 => (hq12 (by omega)).trans (by congr 1 <;> omega)), ⟨(fun w M h => hA12 w M (hu6 w M h)), by omega, by omega, by omega⟩, rfl, rfl, .inr ⟨rfl, _, rfl⟩, hu3, hu4, .inr ⟨rfl, _, rfl⟩, hu8, hu9⟩, E0 hw1 4 2 3 rfl rfl rfl (by decide) (by decide) (by decide)⟩
      ·
        refine ⟨[], ?_⟩
        show DP _ _ _ _ _ _ _ _ [_, _, _, _, ⟨rb, [errV 50 (eQ z0 (pp + 16)), SL ao12 zz12.length ca12], 204, (0, 0)⟩]
        refine EH ⟨[3], [0, 1, 2], [2], [0, 1], [4]⟩ 4 rfl rfl (by decide +kernel) rfl ⟨⟨_, rfl, AL rfl (AD 6 27 16 AV rfl CI rfl rfl)⟩, ⟨_, rfl, AL rfl (DF 16 5 1 0 16 6 16 CF BZ rfl rfl rfl (by omega) (by omega) (by omega) (by omega) (by omega) 16 (by omega))⟩, trivial⟩ rfl (BO rfl (ET 43 43 5 1 nb2 6 16 16 ([U64 (vQ z0 0 8), U64 (vQ z0 8 8), I64 (((vQ z0 16 1).toNat:Int)), Slc gb 0 m cp, Slc gs 0 m cp2, U64 0] ++ cu8 (zr8 16)) 29 none 0 0 0 [] ([U64 (vQ z0 0 8), U64 (vQ z0 8 8), I64 (((vQ z0 16 1).toNat:Int)), Slc gb 0 m cp, Slc gs 0 m cp2, U64 0] ++ cu8 (zr8 16)) BA D4 rfl rfl rfl rfl rfl SrcAt.nil (by simp [(AN 16)]) one_nil (lay_nil _ _))) ?_
        show DP _ _ _ _ _ _ _ _ [_, _, _, _, _]
        refine DU ⟨[3, 4], [0, 1, 2], [0, 1, 2], [], []⟩ rfl rfl (by decide +kernel) rfl trivial ?_
        refine C6 (F' := [(0, Ptr rb 0), (2, Ptr nb1 0), (3, Ptr nb2 0)]) (by kernel_rfl) ?_
        refine AC (AH (AH (AB (AA (.agg ([U64 (vQ z0 0 8), U64 (vQ z0 8 8), I64 (((vQ z0 16 1).toNat:Int)), Slc gb 0 m cp, Slc gs 0 m cp2, U64 0] ++ cu8 (zr8 16)).toArray) (AO rfl (BU B7 BG (by simp [(AN 16)]) (AU 1 rfl (AQ _)))) rfl ?_))))
        refine A7 (A2 128 [.agg ([U64 (vQ z0 0 8), U64 (vQ z0 8 8), I64 (((vQ z0 16 1).toNat:Int)), Slc gb 0 m cp, Slc gs 0 m cp2, U64 0] ++ cu8 (zr8 16)).toArray] (errV 50 (mayN (vQ z0 0 8) (vQ z0 8 8) (((vQ z0 16 1).toNat:Int)) (ixQ z0 18 m) (seQ z0 (4*m + 18) m) (0:UInt64))) (AS _ Tryd.call128 rfl) (fun w1 hw1 => may13_c (vQ z0 0 8) (vQ z0 8 8) (((vQ z0 16 1).toNat:Int)) (some ⟨gb, 0, none⟩) m cp (ixQ z0 18 m) (some ⟨gs, 0, none⟩) m cp2 (seQ z0 (4*m + 18) m) (0:UInt64) (zr8 16) w1 (FH _ _ _) (by omega) (by omega) (by omega) (RdV.of hw1 (AU 2 rfl (AJ (AQ _)))) (seQ_len _ _ _) (by omega) (by omega) (by omega) (RdV.of hw1 (AU 3 rfl (AJ (AQ _)))) (AN 16))) rfl ?_
        show JL _ _ _ _ ((74, errV 50 (mayN (vQ z0 0 8) (vQ z0 8 8) (((vQ z0 16 1).toNat:Int)) (ixQ z0 18 m) (seQ z0 (4*m + 18) m) (0:UInt64))) :: _) [_, _, _, _, _]
        refine AA _ (AE rfl) rfl ?_
        refine AI (AC (AH (AB (AA _ (AF rfl) rfl ?_))))
        refine AA (.bool (!(decide (mayN (vQ z0 0 8) (vQ z0 8 8) (((vQ z0 16 1).toNat:Int)) (ixQ z0 18 m) (seQ z0 (4*m + 18) m) (0:UInt64) = 0)))) (C7 _ _ _ rfl rfl (fun _ => B6 ..) fun _ => DJ BB _ _) rfl ?_
        refine AI (AC (FK (ι := Option Addr × List UInt8 × Nat) (fun ⟨ab, zb, cb⟩ => [(0, Ptr rb 0), (2, Ptr nb1 0), (3, Ptr nb2 0)]) (fun ⟨ab, zb, cb⟩ => [⟨rb, [errV 50 2, SL ab zb.length cb], 204, (0, 0)⟩, ⟨nb1, [U64 0, U64 0, I64 0, SL none 0 0, SL none 0 0, U64 0] ++ cu8 (zr8 16), 29, (0, 0)⟩, ⟨nb2, [U64 (vQ z0 0 8), U64 (vQ z0 8 8), I64 (((vQ z0 16 1).toNat:Int)), Slc gb 0 m cp, Slc gs 0 m cp2, U64 0] ++ cu8 (zr8 16), 29, (0, 0)⟩]) (fun ⟨ab, zb, cb⟩ => (∀ w M, RdB w M ao z → RdB w M ab zb) ∧ zb.length ≤ cb ∧ cb ≤ maxLen ∧ zb.length ≤ n) ?_ ?_))
        ·
          refine B9 (!(decide (mayN (vQ z0 0 8) (vQ z0 8 8) (((vQ z0 16 1).toNat:Int)) (ixQ z0 18 m) (seQ z0 (4*m + 18) m) (0:UInt64) = 0))) rfl (fun hb62 => ?_) (fun hb62 => ?_)
          ·
            have hb63 : (decide (mayN (vQ z0 0 8) (vQ z0 8 8) (((vQ z0 16 1).toNat:Int)) (ixQ z0 18 m) (seQ z0 (4*m + 18) m) (0:UInt64) = 0)) = false := by simpa using hb62
            have hp63 : ¬ (mayN (vQ z0 0 8) (vQ z0 8 8) (((vQ z0 16 1).toNat:Int)) (ixQ z0 18 m) (seQ z0 (4*m + 18) m) (0:UInt64) = 0) := of_decide_eq_false hb63
            refine AB (AA _ (AF rfl) rfl ?_)
            refine AA (.iface 50 (I64 2)) (C9 BM rfl rfl) rfl ?_
            refine A4 (DS 121 [Ptr rb 0, .iface 50 (I64 2)] 4 ⟨rb, [errV 50 (eQ z0 (pp + 16)), SL ao12 zz12.length ca12], 204, (0, 0)⟩ _ (fun v e' l' => v = .tuple #[] ∧ e' = ⟨rb, [errV 50 (erN (eQ z0 (pp + 16)) 2), SL ao12 zz12.length ca12], 204, (0, 0)⟩ ∧ l' = []) (AS _ DX rfl) rfl (by rintro v l ⟨rfl, rfl⟩; exact ⟨_, _, rfl, rfl, rfl, rfl, rfl⟩) (fun w1 hw1 => EL rb (eQ z0 (pp + 16)) 2 (SL ao12 zz12.length ca12) w1 (by decide) (hw1.ent _ (List.mem_of_getElem? (i := 4) rfl)))) rfl ?_
            rintro v1 L1 ⟨_, _, ⟨rfl, rfl, rfl⟩, rfl⟩
            show JL _ _ _ _ ((79, .tuple #[]) :: _) [_, _, _, _, ⟨rb, [errV 50 (erN (eQ z0 (pp + 16)) 2), SL ao12 zz12.length ca12], 204, (0, 0)⟩]
            refine AI ?_
            rw [show erN (eQ z0 (pp + 16)) 2 = 2 by rw [EU ‹¬ pp + 16 ≤ z0.length›]; rfl]
            refine EX [4, 0, 1] (by decide) ?_
            show JQ _ _ _ _ [_, _, _]
            refine DT ((ao12, zz12, ca12)) ⟨(fun w M h => hA12 w M (hu6 w M h)), by omega, by omega, by omega⟩ (Sub.all rfl) rfl
          ·
            have hb64 : (decide (mayN (vQ z0 0 8) (vQ z0 8 8) (((vQ z0 16 1).toNat:Int)) (ixQ z0 18 m) (seQ z0 (4*m + 18) m) (0:UInt64) = 0)) = true := by simpa using hb62
            have hp64 : mayN (vQ z0 0 8) (vQ z0 8 8) (((vQ z0 16 1).toNat:Int)) (ixQ z0 18 m) (seQ z0 (4*m + 18) m) (0:UInt64) = 0 := of_decide_eq_true hb64
            refine BF ?_
            rw [show eQ z0 (pp + 16) = 2 by rw [EU ‹¬ pp + 16 ≤ z0.length›]]
            refine EX [4, 0, 1] (by decide) ?_
            show JQ _ _ _ _ [_, _, _]
            refine DT ((ao12, zz12, ca12)) ⟨(fun w M h => hA12 w M (hu6 w M h)), by omega, by omega, by omega⟩ (Sub.all rfl) rfl
        ·
          rintro ⟨ab, zb, cb⟩ hx
          obtain ⟨hbA, hbb1, hbb2, hbb3⟩ := hx
          show JQ _ _ _ [(0, Ptr rb 0), (2, Ptr nb1 0), (3, Ptr nb2 0)] [⟨rb, [errV 50 2, SL ab zb.length cb], 204, (0, 0)⟩, ⟨nb1, [U64 0, U64 0, I64 0, SL none 0 0, SL none 0 0, U64 0] ++ cu8 (zr8 16), 29, (0, 0)⟩, ⟨nb2, [U64 (vQ z0 0 8), U64 (vQ z0 8 8), I64 (((vQ z0 16 1).toNat:Int)), Slc gb 0 m cp, Slc gs 0 m cp2, U64 0] ++ cu8 (zr8 16), 29, (0, 0)⟩]
          refine AC (AH (AH (AB (AA _ (AF rfl) rfl ?_))))
          refine A7 (A2 61 [Ptr rb 0] (I64 ((leftN 2 zb.length:Int))) (AS _ DV rfl) (fun w1 hw1 => left_w rb 2 ab zb.length cb w1 (RdA.of hw1 (AU 0 rfl (AQ _)) (by simp)))) rfl ?_
          show JL _ _ _ _ ((81, I64 ((leftN 2 zb.length:Int))) :: _) [_, _, _]
          refine AA (.bool (decide (((leftN 2 zb.length:Int)) = (0:Int)))) (AR rfl rfl fun _ => BK _ _) rfl ?_
          refine AA _ (AF rfl) rfl ?_
          refine AP 3 83 true _ _ rfl rfl (decide_eq_true (by rw [leftN, if_neg (by decide)]; rfl)) (AF rfl) rfl ?_
          refine DL 3 83 true _ rfl rfl (decide_eq_true (by rw [leftN, if_neg (by decide)]; rfl)) (A2 63 [Ptr rb 0] (errV 50 (endN 2 zb.length)) (AS _ DZ rfl) (fun w1 hw1 => end_w rb 2 ab zb.length cb w1 (RdA.of hw1 (AU 0 rfl (AQ _)) (by simp)))) rfl ?_
          rintro v1 L1 ⟨rfl, rfl⟩
          show JL _ _ _ _ ((85, errV 50 (endN 2 zb.length)) :: _) [_, _, _]
          refine AP 3 83 true _ (.bool (!(decide (endN 2 zb.length = 0)))) rfl rfl (decide_eq_true (by rw [leftN, if_neg (by decide)]; rfl)) (C7 _ _ _ rfl rfl (fun _ => B6 ..) fun _ => DJ BB _ _) rfl ?_
          refine AA _ (BD _ rfl (decide_eq_true (by rw [leftN, if_neg (by decide)]; rfl)) rfl) rfl ?_
          refine AI (AC (B3 _ rfl (bnotF (decide_eq_false (by rw [endN, if_neg (by decide)]; exact (by decide)))) ?_))
          refine AH (AB (AA (.agg ([U64 0, U64 0, I64 0, SL none 0 0, SL none 0 0, U64 0] ++ cu8 (zr8 16)).toArray) (CP [] _ rfl (fun _ => by kernel_rfl)) rfl ?_))
          refine A7 (BQ 1 nb1 22 ([U64 0, U64 0, I64 0, SL none 0 0, SL none 0 0, U64 0] ++ cu8 (zr8 16)) 29 ([U64 0, U64 0, I64 0, SL none 0 0, SL none 0 0, U64 0] ++ cu8 (zr8 16)) rfl rfl rfl BG (by simp [(AN 16)]) (BY (by simp [Value.oneCell']) CT) (by simp [(AN 16)]) (BT (by simp [(AN 16), (AN 16)]))) rfl ?_
          show JL _ _ _ _ _ [_, ⟨nb1, [U64 0, U64 0, I64 0, SL none 0 0, SL none 0 0, U64 0] ++ cu8 (zr8 16), 29, (0, 0)⟩, _]
          refine AI (AC (BI (A1 (BH (.agg ([U64 0, U64 0, I64 0, SL none 0 0, SL none 0 0, U64 0] ++ cu8 (zr8 16)).toArray) (res1 D7 (DM rfl (BU B7 BG (by simp [(AN 16)]) (AU 1 rfl (AQ _))))) fun w1 hw1 => ?_))))
          have hbq : BadQ z0 := by
            rcases hm3 with hm | hm
            · subst hm
              exact bad1 hk (fun e => by have := e.1; omega)
            · exact bad1 hk (fun e => by have := e.1; omega)
          rw [show errV 50 2 = errV 50 (eQ z0 (z0.length + 1)) by rw [EU (by omega)]] at hw1
          exact ⟨_, _, rfl, ⟨_, _, _, 0, _, 0, _, _, _, _, ab, zb, cb, _, _, _, none, 0, _, _, _, none, 0, TkR.bad z0 hbq, rfl, rfl, (AN 16), (by omega), (by omega), (fun h => absurd h (by omega)), ⟨hbA, by omega, by omega, by omega⟩, rfl, rfl, .inl rfl, by omega, (by unfold maxLen; omega), .inl rfl, by omega, (by unfold maxLen; omega)⟩, E0 hw1 0 1 2 rfl rfl rfl (by decide) (by decide) (by decide)⟩
set_option maxHeartbeats 2000000 in
theorem treadE_c (rb p : Nat) (ao : Option Addr) (n c : Nat) (z0 z : List UInt8)  (w : World) (h0 : w.heap[rb]? = some (.cells [errV 50 (eQ z0 p), SL ao n c].toArray 204 (0, 0))) (hz : z.length = n) (hn : n ≤ 2000000000) (hc : n ≤ c) (hcm : c ≤ maxLen) (hr : RdB w [rb] ao z) (hq : Lq z0 z p) (hp : ¬ p ≤ z0.length)  : Calls Tryd.prog 60 #[Ptr rb 0] w (Post w [rb] (fun v L => ∃ ao' z' c' g1 cs1 T1 g2 cs2 T2, Adv ao z c ao' z' c' ∧ v = .agg ([U64 0, U64 0, I64 0, SL none 0 0, SL none 0 0, U64 0] ++ cu8 (zr8 16)).toArray ∧ L = [⟨rb, [errV 50 2, SL ao' z'.length c'], 204, (0, 0)⟩, ⟨g1, cs1, T1, (0, 0)⟩, ⟨g2, cs2, T2, (0, 0)⟩])) := by
 have hmx : maxLen = 9223372036854775807 := rfl
 have hk0 : ((vQ z0 (p + 16) 1).toNat:Int) = 0 := by rw [vQ_neg (by omega)]; rfl
 refine enter w [rb] 90 [⟨rb, [errV 50 (eQ z0 p), SL ao n c], 204, (0, 0)⟩] [Ptr rb 0] Tryd.func60 rfl rfl (by simp) (BW (by simpa using h0) (by simp) (by simp)) ?_
 show JC _ _ _ [(0, Ptr rb 0)] _
 refine AH (AB (A4 (C0 _ ([U64 0, U64 0, I64 0, SL none 0 0, SL none 0 0, U64 0] ++ cu8 (zr8 16)) Tryd.zeroValue29 (by kernel_rfl)) rfl ?_))
 rintro v1 L1 ⟨nb1, hnb1, rfl, rfl⟩
 show JL _ _ _ _ ((2, Ptr nb1 0) :: _) [_, ⟨nb1, [U64 0, U64 0, I64 0, SL none 0 0, SL none 0 0, U64 0] ++ cu8 (zr8 16), 29, (0, 0)⟩]
 refine AI (AC (AH (AB (AA _ (AF rfl) rfl ?_))))
 have hz1 : (z).length = n := hz
 refine A4 (A8 109 _ [true, false] [rb] _ (AS [Ptr rb 0, I64 8] CV rfl) rfl (fun w1 hw1 => E1 rb p 8 ao n c z0 z w1 (hw1.ent _ (List.mem_of_getElem? (i := 0) rfl)) hz (by omega) (by omega) (by omega) ((fun _ _ h => h) _ _ (hr.at (M' := [rb]) hw1 (hw1.apart [0] _ rfl))) hq (by unfold Szd; omega))) rfl ?_
 rintro v1 L1 ⟨_, ⟨rfl, ao1, zz1, ca1, hq1, ⟨hA1, hb1, hb2, hb3⟩, rfl⟩, rfl⟩
 show JL _ _ _ _ ((7, U64 (vQ z0 p 8)) :: _) [_, ⟨rb, [errV 50 (eQ z0 (p + 8)), SL ao1 zz1.length ca1], 204, (0, 0)⟩]
 refine AA _ (AF rfl) rfl ?_
 have hz2 : (zz1).length = zz1.length := rfl
 refine A4 (A8 109 _ [false, true] [rb] _ (AS _ CV rfl) rfl (fun w1 hw1 => E1 rb (p + 8) 8 ao1 zz1.length ca1 z0 zz1 w1 (hw1.ent _ (List.mem_of_getElem? (i := 1) rfl)) rfl (by omega) (by omega) (by omega) ((fun w M h => hA1 w M ((fun _ _ h => h) w M h)) _ _ (hr.at (M' := [rb]) hw1 (hw1.apart [1] _ rfl))) hq1 (by unfold Szd; omega))) rfl ?_
 rintro v1 L1 ⟨_, ⟨rfl, ao2, zz2, ca2, hq2, ⟨hA2, hb4, hb5, hb6⟩, rfl⟩, rfl⟩
 show JL _ _ _ _ ((9, U64 (vQ z0 (p + 8) 8)) :: _) [_, ⟨rb, [errV 50 (eQ z0 (p + 16)), SL ao2 zz2.length ca2], 204, (0, 0)⟩]
 refine AA (.agg ([U64 (vQ z0 p 8), U64 (vQ z0 (p + 8) 8), I64 0, SL none 0 0, SL none 0 0, U64 0] ++ cu8 (zr8 16)).toArray) (CP [(0, U64 (vQ z0 p 8)), (1, U64 (vQ z0 (p + 8) 8))] _ rfl (fun _ => bld29_01 rfl rfl)) rfl ?_
 refine A4 (C0 _ ([U64 0, U64 0, I64 0, SL none 0 0, SL none 0 0, U64 0] ++ cu8 (zr8 16)) Tryd.zeroValue29 (by kernel_rfl)) rfl ?_
 rintro v1 L1 ⟨nb2, hnb2, rfl, rfl⟩
 show JL _ _ _ _ ((3, Ptr nb2 0) :: _) [_, _, ⟨nb2, [U64 0, U64 0, I64 0, SL none 0 0, SL none 0 0, U64 0] ++ cu8 (zr8 16), 29, (0, 0)⟩]
 refine A7 (BQ 2 nb2 22 ([U64 0, U64 0, I64 0, SL none 0 0, SL none 0 0, U64 0] ++ cu8 (zr8 16)) 29 ([U64 (vQ z0 p 8), U64 (vQ z0 (p + 8) 8), I64 0, SL none 0 0, SL none 0 0, U64 0] ++ cu8 (zr8 16)) rfl rfl rfl BG (by simp [(AN 16)]) (BY (by simp [Value.oneCell']) CT) (by simp [(AN 16)]) (BT (by simp [(AN 16), (AN 16)]))) rfl ?_
 show JL _ _ _ _ _ [_, _, ⟨nb2, [U64 (vQ z0 p 8), U64 (vQ z0 (p + 8) 8), I64 0, SL none 0 0, SL none 0 0, U64 0] ++ cu8 (zr8 16), 29, (0, 0)⟩]
 refine AI (AC (AH (AB (AA _ (AF rfl) rfl ?_))))
 have hz3 : (zz2).length = zz2.length := rfl
 refine A4 (A8 109 _ [false, true, false] [rb] _ (AS [Ptr rb 0, I64 1] CV rfl) rfl (fun w1 hw1 => E1 rb (p + 16) 1 ao2 zz2.length ca2 z0 zz2 w1 (hw1.ent _ (List.mem_of_getElem? (i := 1) rfl)) rfl (by omega) (by omega) (by omega) ((fun w M h => hA2 w M ((fun w M h => hA1 w M ((fun _ _ h => h) w M h)) w M h)) _ _ (hr.at (M' := [rb]) hw1 (hw1.apart [1] _ rfl))) hq2 (by unfold Szd; omega))) rfl ?_
 rintro v1 L1 ⟨_, ⟨rfl, ao3, zz3, ca3, hq3, ⟨hA3, hb7, hb8, hb9⟩, rfl⟩, rfl⟩
 show JL _ _ _ _ ((12, U64 (vQ z0 (p + 16) 1)) :: _) [_, _, ⟨rb, [errV 50 (eQ z0 (p + 17)), SL ao3 zz3.length ca3], 204, (0, 0)⟩]
 refine AA (I64 (((vQ z0 (p + 16) 1).toNat:Int))) (CM _ _ rfl fun _ => ER (by rw [AW]; rfl) A6 (vQ z0 (p + 16) 1) _ rfl (by omega)) rfl ?_
 refine AA (Ptr nb2 2) (AD 2 26 4 AV rfl BL rfl rfl) rfl ?_
 refine AA (Ptr nb2 2) (AD 0 3 1 AZ rfl AT rfl rfl) rfl ?_
 refine A7 (CS 1 nb2 2 1 ([U64 (vQ z0 p 8), U64 (vQ z0 (p + 8) 8), I64 0, SL none 0 0, SL none 0 0, U64 0] ++ cu8 (zr8 16)) 29 (I64 (((vQ z0 (p + 16) 1).toNat:Int))) ([I64 (((vQ z0 (p + 16) 1).toNat:Int))]) ([U64 (vQ z0 p 8), U64 (vQ z0 (p + 8) 8), I64 (((vQ z0 (p + 16) 1).toNat:Int)), SL none 0 0, SL none 0 0, U64 0] ++ cu8 (zr8 16)) rfl rfl rfl rfl AT rfl (by simp [Value.oneCell']) (by simp [(AN 16)]) (EF (p := [U64 (vQ z0 p 8), U64 (vQ z0 (p + 8) 8), I64 0, SL none 0 0, SL none 0 0, U64 0]) (vs := [I64 (((vQ z0 (p + 16) 1).toNat:Int))]) (o := 2) (by simp []) (rfl))) rfl ?_
 show JL _ _ _ _ _ [_, ⟨nb2, [U64 (vQ z0 p 8), U64 (vQ z0 (p + 8) 8), I64 (((vQ z0 (p + 16) 1).toNat:Int)), SL none 0 0, SL none 0 0, U64 0] ++ cu8 (zr8 16), 29, (0, 0)⟩, _]
 refine AI (AC (AH (AH (AB (AA (Ptr nb2 2) (AD 2 26 4 AV rfl BL rfl rfl) rfl ?_)))))
 refine AA (Ptr nb2 2) (AD 0 3 1 AZ rfl AT rfl rfl) rfl ?_
 refine AA (I64 (((vQ z0 (p + 16) 1).toNat:Int))) (AO rfl (A0 AY (AU 1 rfl (AJ (AK (AK (Seg.head))))))) rfl ?_
 refine AI (AC (B5 (AH (AB (AA (.bool (decide ((((vQ z0 (p + 16) 1).toNat:Int)) = (3:Int)))) (AR rfl rfl fun _ => BK _ _) rfl ?_)))))
 refine AA _ (AE rfl) rfl ?_
 refine AI (AC (BP _ rfl (decide_eq_false (by rw [hk0]; decide)) ?_))
 refine AH (AH (AB (AA (.bool (decide ((((vQ z0 (p + 16) 1).toNat:Int)) = (1:Int)))) (AR rfl rfl fun _ => BK _ _) rfl ?_)))
 refine AA _ (AE rfl) rfl ?_
 refine AI (AC (BP _ rfl (decide_eq_false (by rw [hk0]; decide)) ?_))
 refine AB (AA (.bool (decide ((((vQ z0 (p + 16) 1).toNat:Int)) = (2:Int)))) (AR rfl rfl fun _ => BK _ _) rfl ?_)
 refine AA _ (AE rfl) rfl ?_
 refine AI (AC (BP _ rfl (decide_eq_false (by rw [hk0]; decide)) ?_))
 refine BF (BS (AC (AH (DC 90 3 [(0, Ptr nb2 6), (1, Slc nb2 6 16 16), (2, Ptr rb 0)] CA rfl (by decide +kernel) ?_))))
 have hz4 : (zz3).length = zz3.length := rfl
 refine CW ⟨[], [0, 1, 2], [], [0, 1, 2], [3]⟩ 3 _ rfl rfl (by decide +kernel) rfl ⟨⟨_, rfl, AL rfl (AD 6 27 16 AV rfl CI rfl rfl)⟩, ⟨_, rfl, AL rfl (DF 16 5 1 0 16 6 16 CF BZ rfl rfl rfl (by omega) (by omega) (by omega) (by omega) (by omega) 16 (by omega))⟩, CG rfl rfl rfl, trivial⟩ rfl (BO rfl (A8 127 _ [false, false, true] [rb] _ (AS [Ptr rb 0, I64 16] Tryd.call127 rfl) rfl (fun w1 hw1 => rawA_w rb (p + 17) 16 ao3 zz3.length ca3 z0 zz3 w1 (hw1.ent _ (List.mem_of_getElem? (i := 2) rfl)) rfl (by omega) (by omega) (by omega) ((fun w M h => hA3 w M ((fun w M h => hA2 w M ((fun w M h => hA1 w M ((fun _ _ h => h) w M h)) w M h)) w M h)) _ _ (hr.at (M' := [rb]) hw1 (hw1.apart [2] _ rfl))) hq3 (by omega)))) ?_
 rintro v1 L1 ⟨_, ⟨ao4, zz4, ca4, hq4, ⟨hA4, hb10, hb11, hb12⟩, (⟨hg1, nb3, sp1, cp1, rfl, rfl, hc1, hc2, hc3⟩ | ⟨hg1, rfl, rfl⟩)⟩, rfl⟩
 ·
  refine ⟨[], ?_⟩
  show DP _ _ _ _ _ _ _ _ [_, _, ⟨rb, [errV 50 (eQ z0 (p + 33)), SL ao4 zz4.length ca4], 204, (0, 0)⟩, ⟨nb3, cu8 (bQ z0 (p + 17) 16) ++ sp1, 5, (0, 0)⟩]
  refine EH ⟨[3], [0, 1, 2], [2], [0, 1], [4]⟩ 4 rfl rfl (by decide +kernel) rfl ⟨⟨_, rfl, AL rfl (AD 6 27 16 AV rfl CI rfl rfl)⟩, ⟨_, rfl, AL rfl (DF 16 5 1 0 16 6 16 CF BZ rfl rfl rfl (by omega) (by omega) (by omega) (by omega) (by omega) 16 (by omega))⟩, trivial⟩ rfl (BO rfl (ET 43 43 5 1 nb2 6 16 16 ([U64 (vQ z0 p 8), U64 (vQ z0 (p + 8) 8), I64 (((vQ z0 (p + 16) 1).toNat:Int)), SL none 0 0, SL none 0 0, U64 0] ++ cu8 (zr8 16)) 29 (some ⟨nb3, 0, none⟩) 16 cp1 16 (cu8 (bQ z0 (p + 17) 16)) ([U64 (vQ z0 p 8), U64 (vQ z0 (p + 8) 8), I64 (((vQ z0 (p + 16) 1).toNat:Int)), SL none 0 0, SL none 0 0, U64 0] ++ cu8 (bQ z0 (p + 17) 16)) BA D4 rfl rfl rfl rfl (by simp [(show (bQ z0 (p + 17) 16).length = 16 from (B8 _ _ _))]; try omega) (SrcAt.mem (AU 3 rfl (AJ (AQ _)))) (by simp [(AN 16)]; try omega) (by first | exact CT | exact one_u32 | exact one_u64 | (simp [cu8, cu32, cu64, Value.oneCell']; done)) (ES 6 0 rfl rfl (BT (by simp [(AN 16), (show (bQ z0 (p + 17) 16).length = 16 from (B8 _ _ _))]))))) ?_
  show DP _ _ _ _ _ _ _ _ [_, ⟨nb2, [U64 (vQ z0 p 8), U64 (vQ z0 (p + 8) 8), I64 (((vQ z0 (p + 16) 1).toNat:Int)), SL none 0 0, SL none 0 0, U64 0] ++ cu8 (bQ z0 (p + 17) 16), 29, (0, 0)⟩, _, _]
  refine DU ⟨[3, 4], [0, 1, 2], [0, 1, 2], [], []⟩ rfl rfl (by decide +kernel) rfl trivial ?_
  refine C6 (F' := [(0, Ptr rb 0), (2, Ptr nb1 0), (3, Ptr nb2 0)]) (by kernel_rfl) ?_
  refine AC (AH (AH (AB (AA (.agg ([U64 (vQ z0 p 8), U64 (vQ z0 (p + 8) 8), I64 (((vQ z0 (p + 16) 1).toNat:Int)), SL none 0 0, SL none 0 0, U64 0] ++ cu8 (bQ z0 (p + 17) 16)).toArray) (AO rfl (BU B7 BG (by simp [(show (bQ z0 (p + 17) 16).length = 16 from (B8 _ _ _))]) (AU 1 rfl (AQ _)))) rfl ?_))))
  refine A7 (A2 128 [.agg ([U64 (vQ z0 p 8), U64 (vQ z0 (p + 8) 8), I64 (((vQ z0 (p + 16) 1).toNat:Int)), SL none 0 0, SL none 0 0, U64 0] ++ cu8 (bQ z0 (p + 17) 16)).toArray] (errV 50 (mayN (vQ z0 p 8) (vQ z0 (p + 8) 8) (((vQ z0 (p + 16) 1).toNat:Int)) ([] : List UInt64) ([] : List SealR) (0:UInt64))) (AS _ Tryd.call128 rfl) (fun w1 hw1 => may13_c (vQ z0 p 8) (vQ z0 (p + 8) 8) (((vQ z0 (p + 16) 1).toNat:Int)) none 0 0 ([] : List UInt64) none 0 0 ([] : List SealR) (0:UInt64) (bQ z0 (p + 17) 16) w1 rfl (by omega) (by omega) (by omega) RdV.nil rfl (by omega) (by omega) (by omega) RdV.nil (show (bQ z0 (p + 17) 16).length = 16 from (B8 _ _ _)))) rfl ?_
  show JL _ _ _ _ ((74, errV 50 (mayN (vQ z0 p 8) (vQ z0 (p + 8) 8) (((vQ z0 (p + 16) 1).toNat:Int)) ([] : List UInt64) ([] : List SealR) (0:UInt64))) :: _) [_, _, _, _]
  refine AA _ (AE rfl) rfl ?_
  refine AI (AC (AH (AB (AA _ (AF rfl) rfl ?_))))
  refine AA (.bool (!(decide (mayN (vQ z0 p 8) (vQ z0 (p + 8) 8) (((vQ z0 (p + 16) 1).toNat:Int)) ([] : List UInt64) ([] : List SealR) (0:UInt64) = 0)))) (C7 _ _ _ rfl rfl (fun _ => B6 ..) fun _ => DJ BB _ _) rfl ?_
  refine AI (AC (B3 _ rfl (bnotF (decide_eq_false (by have h9 := may_nil (pv := vQ z0 p 8) (ep := vQ z0 (p + 8) 8) (kd := ((vQ z0 (p + 16) 1).toNat:Int)) (bl := 0) (by rw [hk0]; decide); omega))) ?_))
  refine AB (AA _ (AF rfl) rfl ?_)
  refine AA (.iface 50 (I64 2)) (C9 BM rfl rfl) rfl ?_
  refine A4 (DS 121 [Ptr rb 0, .iface 50 (I64 2)] 2 ⟨rb, [errV 50 (eQ z0 (p + 33)), SL ao4 zz4.length ca4], 204, (0, 0)⟩ _ (fun v e' l' => v = .tuple #[] ∧ e' = ⟨rb, [errV 50 (erN (eQ z0 (p + 33)) 2), SL ao4 zz4.length ca4], 204, (0, 0)⟩ ∧ l' = []) (AS _ DX rfl) rfl (by rintro v l ⟨rfl, rfl⟩; exact ⟨_, _, rfl, rfl, rfl, rfl, rfl⟩) (fun w1 hw1 => EL rb (eQ z0 (p + 33)) 2 (SL ao4 zz4.length ca4) w1 (by decide) (hw1.ent _ (List.mem_of_getElem? (i := 2) rfl)))) rfl ?_
  rintro v1 L1 ⟨_, _, ⟨rfl, rfl, rfl⟩, rfl⟩
  show JL _ _ _ _ ((79, .tuple #[]) :: _) [_, _, ⟨rb, [errV 50 (erN (eQ z0 (p + 33)) 2), SL ao4 zz4.length ca4], 204, (0, 0)⟩, _]
  refine AI (AC (AH (AH (AB (AA _ (AF rfl) rfl ?_)))))
  refine A7 (A2 61 [Ptr rb 0] (I64 ((leftN (erN (eQ z0 (p + 33)) 2) zz4.length:Int))) (AS _ DV rfl) (fun w1 hw1 => left_w rb (erN (eQ z0 (p + 33)) 2) ao4 zz4.length ca4 w1 (RdA.of hw1 (AU 2 rfl (AQ _)) (by simp)))) rfl ?_
  show JL _ _ _ _ ((81, I64 ((leftN (erN (eQ z0 (p + 33)) 2) zz4.length:Int))) :: _) [_, _, _, _]
  refine AA (.bool (decide (((leftN (erN (eQ z0 (p + 33)) 2) zz4.length:Int)) = (0:Int)))) (AR rfl rfl fun _ => BK _ _) rfl ?_
  refine AA _ (AF rfl) rfl ?_
  refine AP 3 83 true _ _ rfl rfl (decide_eq_true (by rw [leftN, if_neg (by first | exact E2 (by decide) | decide)]; rfl)) (AF rfl) rfl ?_
  refine DL 3 83 true _ rfl rfl (decide_eq_true (by rw [leftN, if_neg (by first | exact E2 (by decide) | decide)]; rfl)) (A2 63 [Ptr rb 0] (errV 50 (endN (erN (eQ z0 (p + 33)) 2) zz4.length)) (AS _ DZ rfl) (fun w1 hw1 => end_w rb (erN (eQ z0 (p + 33)) 2) ao4 zz4.length ca4 w1 (RdA.of hw1 (AU 2 rfl (AQ _)) (by simp)))) rfl ?_
  rintro v1 L1 ⟨rfl, rfl⟩
  show JL _ _ _ _ ((85, errV 50 (endN (erN (eQ z0 (p + 33)) 2) zz4.length)) :: _) [_, _, _, _]
  refine AP 3 83 true _ (.bool (!(decide (endN (erN (eQ z0 (p + 33)) 2) zz4.length = 0)))) rfl rfl (decide_eq_true (by rw [leftN, if_neg (by first | exact E2 (by decide) | decide)]; rfl)) (C7 _ _ _ rfl rfl (fun _ => B6 ..) fun _ => DJ BB _ _) rfl ?_
  refine AA _ (BD _ rfl (decide_eq_true (by rw [leftN, if_neg (by first | exact E2 (by decide) | decide)]; rfl)) rfl) rfl ?_
  refine AI (AC (B3 _ rfl (bnotF (decide_eq_false (by rw [endN, if_neg (by first | exact E2 (by decide) | decide)]; first | exact E2 (by decide) | decide))) ?_))
  refine AH (AB (AA (.agg ([U64 0, U64 0, I64 0, SL none 0 0, SL none 0 0, U64 0] ++ cu8 (zr8 16)).toArray) (CP [] _ rfl (fun _ => by kernel_rfl)) rfl ?_))
  refine A7 (BQ 0 nb1 22 ([U64 0, U64 0, I64 0, SL none 0 0, SL none 0 0, U64 0] ++ cu8 (zr8 16)) 29 ([U64 0, U64 0, I64 0, SL none 0 0, SL none 0 0, U64 0] ++ cu8 (zr8 16)) rfl rfl rfl BG (by simp [(AN 16)]) (BY (by simp [Value.oneCell']) CT) (by simp [(AN 16)]) (BT (by simp [(AN 16), (AN 16)]))) rfl ?_
  show JL _ _ _ _ _ [⟨nb1, [U64 0, U64 0, I64 0, SL none 0 0, SL none 0 0, U64 0] ++ cu8 (zr8 16), 29, (0, 0)⟩, _, _, _]
  refine AI (AC (BI (A1 (BH (.agg ([U64 0, U64 0, I64 0, SL none 0 0, SL none 0 0, U64 0] ++ cu8 (zr8 16)).toArray) (res1 D7 (DM rfl (BU B7 BG (by simp [(AN 16)]) (AU 0 rfl (AQ _))))) fun w1 hw1 => ?_))))
  rw [show erN (eQ z0 (p + 33)) 2 = 2 by rw [EU (by omega)]; rfl] at hw1
  exact ⟨_, _, rfl, ⟨ao4, zz4, ca4, _, _, _, _, _, _, ⟨(fun w M h => hA4 w M ((fun w M h => hA3 w M ((fun w M h => hA2 w M ((fun w M h => hA1 w M ((fun _ _ h => h) w M h)) w M h)) w M h)) w M h)), by omega, by omega, by omega⟩, rfl, rfl⟩, E0 hw1 2 0 1 rfl rfl rfl (by decide) (by decide) (by decide)⟩
 ·
  refine ⟨[], ?_⟩
  show DP _ _ _ _ _ _ _ _ [_, _, ⟨rb, [errV 50 (eQ z0 (p + 33)), SL ao4 zz4.length ca4], 204, (0, 0)⟩]
  refine EH ⟨[3], [0, 1, 2], [2], [0, 1], [4]⟩ 4 rfl rfl (by decide +kernel) rfl ⟨⟨_, rfl, AL rfl (AD 6 27 16 AV rfl CI rfl rfl)⟩, ⟨_, rfl, AL rfl (DF 16 5 1 0 16 6 16 CF BZ rfl rfl rfl (by omega) (by omega) (by omega) (by omega) (by omega) 16 (by omega))⟩, trivial⟩ rfl (BO rfl (ET 43 43 5 1 nb2 6 16 16 ([U64 (vQ z0 p 8), U64 (vQ z0 (p + 8) 8), I64 (((vQ z0 (p + 16) 1).toNat:Int)), SL none 0 0, SL none 0 0, U64 0] ++ cu8 (zr8 16)) 29 none 0 0 0 [] ([U64 (vQ z0 p 8), U64 (vQ z0 (p + 8) 8), I64 (((vQ z0 (p + 16) 1).toNat:Int)), SL none 0 0, SL none 0 0, U64 0] ++ cu8 (zr8 16)) BA D4 rfl rfl rfl rfl rfl SrcAt.nil (by simp [(AN 16)]) one_nil (lay_nil _ _))) ?_
  show DP _ _ _ _ _ _ _ _ [_, _, _]
  refine DU ⟨[3, 4], [0, 1, 2], [0, 1, 2], [], []⟩ rfl rfl (by decide +kernel) rfl trivial ?_
  refine C6 (F' := [(0, Ptr rb 0), (2, Ptr nb1 0), (3, Ptr nb2 0)]) (by kernel_rfl) ?_
  refine AC (AH (AH (AB (AA (.agg ([U64 (vQ z0 p 8), U64 (vQ z0 (p + 8) 8), I64 (((vQ z0 (p + 16) 1).toNat:Int)), SL none 0 0, SL none 0 0, U64 0] ++ cu8 (zr8 16)).toArray) (AO rfl (BU B7 BG (by simp [(AN 16)]) (AU 1 rfl (AQ _)))) rfl ?_))))
  refine A7 (A2 128 [.agg ([U64 (vQ z0 p 8), U64 (vQ z0 (p + 8) 8), I64 (((vQ z0 (p + 16) 1).toNat:Int)), SL none 0 0, SL none 0 0, U64 0] ++ cu8 (zr8 16)).toArray] (errV 50 (mayN (vQ z0 p 8) (vQ z0 (p + 8) 8) (((vQ z0 (p + 16) 1).toNat:Int)) ([] : List UInt64) ([] : List SealR) (0:UInt64))) (AS _ Tryd.call128 rfl) (fun w1 hw1 => may13_c (vQ z0 p 8) (vQ z0 (p + 8) 8) (((vQ z0 (p + 16) 1).toNat:Int)) none 0 0 ([] : List UInt64) none 0 0 ([] : List SealR) (0:UInt64) (zr8 16) w1 rfl (by omega) (by omega) (by omega) RdV.nil rfl (by omega) (by omega) (by omega) RdV.nil (AN 16))) rfl ?_
  show JL _ _ _ _ ((74, errV 50 (mayN (vQ z0 p 8) (vQ z0 (p + 8) 8) (((vQ z0 (p + 16) 1).toNat:Int)) ([] : List UInt64) ([] : List SealR) (0:UInt64))) :: _) [_, _, _]
  refine AA _ (AE rfl) rfl ?_
  refine AI (AC (AH (AB (AA _ (AF rfl) rfl ?_))))
  refine AA (.bool (!(decide (mayN (vQ z0 p 8) (vQ z0 (p + 8) 8) (((vQ z0 (p + 16) 1).toNat:Int)) ([] : List UInt64) ([] : List SealR) (0:UInt64) = 0)))) (C7 _ _ _ rfl rfl (fun _ => B6 ..) fun _ => DJ BB _ _) rfl ?_
  refine AI (AC (B3 _ rfl (bnotF (decide_eq_false (by have h9 := may_nil (pv := vQ z0 p 8) (ep := vQ z0 (p + 8) 8) (kd := ((vQ z0 (p + 16) 1).toNat:Int)) (bl := 0) (by rw [hk0]; decide); omega))) ?_))
  refine AB (AA _ (AF rfl) rfl ?_)
  refine AA (.iface 50 (I64 2)) (C9 BM rfl rfl) rfl ?_
  refine A4 (DS 121 [Ptr rb 0, .iface 50 (I64 2)] 2 ⟨rb, [errV 50 (eQ z0 (p + 33)), SL ao4 zz4.length ca4], 204, (0, 0)⟩ _ (fun v e' l' => v = .tuple #[] ∧ e' = ⟨rb, [errV 50 (erN (eQ z0 (p + 33)) 2), SL ao4 zz4.length ca4], 204, (0, 0)⟩ ∧ l' = []) (AS _ DX rfl) rfl (by rintro v l ⟨rfl, rfl⟩; exact ⟨_, _, rfl, rfl, rfl, rfl, rfl⟩) (fun w1 hw1 => EL rb (eQ z0 (p + 33)) 2 (SL ao4 zz4.length ca4) w1 (by decide) (hw1.ent _ (List.mem_of_getElem? (i := 2) rfl)))) rfl ?_
  rintro v1 L1 ⟨_, _, ⟨rfl, rfl, rfl⟩, rfl⟩
  show JL _ _ _ _ ((79, .tuple #[]) :: _) [_, _, ⟨rb, [errV 50 (erN (eQ z0 (p + 33)) 2), SL ao4 zz4.length ca4], 204, (0, 0)⟩]
  refine AI (AC (AH (AH (AB (AA _ (AF rfl) rfl ?_)))))
  refine A7 (A2 61 [Ptr rb 0] (I64 ((leftN (erN (eQ z0 (p + 33)) 2) zz4.length:Int))) (AS _ DV rfl) (fun w1 hw1 => left_w rb (erN (eQ z0 (p + 33)) 2) ao4 zz4.length ca4 w1 (RdA.of hw1 (AU 2 rfl (AQ _)) (by simp)))) rfl ?_
  show JL _ _ _ _ ((81, I64 ((leftN (erN (eQ z0 (p + 33)) 2) zz4.length:Int))) :: _) [_, _, _]
  refine AA (.bool (decide (((leftN (erN (eQ z0 (p + 33)) 2) zz4.length:Int)) = (0:Int)))) (AR rfl rfl fun _ => BK _ _) rfl ?_
  refine AA _ (AF rfl) rfl ?_
  refine AP 3 83 true _ _ rfl rfl (decide_eq_true (by rw [leftN, if_neg (by first | exact E2 (by decide) | decide)]; rfl)) (AF rfl) rfl ?_
  refine DL 3 83 true _ rfl rfl (decide_eq_true (by rw [leftN, if_neg (by first | exact E2 (by decide) | decide)]; rfl)) (A2 63 [Ptr rb 0] (errV 50 (endN (erN (eQ z0 (p + 33)) 2) zz4.length)) (AS _ DZ rfl) (fun w1 hw1 => end_w rb (erN (eQ z0 (p + 33)) 2) ao4 zz4.length ca4 w1 (RdA.of hw1 (AU 2 rfl (AQ _)) (by simp)))) rfl ?_
  rintro v1 L1 ⟨rfl, rfl⟩
  show JL _ _ _ _ ((85, errV 50 (endN (erN (eQ z0 (p + 33)) 2) zz4.length)) :: _) [_, _, _]
  refine AP 3 83 true _ (.bool (!(decide (endN (erN (eQ z0 (p + 33)) 2) zz4.length = 0)))) rfl rfl (decide_eq_true (by rw [leftN, if_neg (by first | exact E2 (by decide) | decide)]; rfl)) (C7 _ _ _ rfl rfl (fun _ => B6 ..) fun _ => DJ BB _ _) rfl ?_
  refine AA _ (BD _ rfl (decide_eq_true (by rw [leftN, if_neg (by first | exact E2 (by decide) | decide)]; rfl)) rfl) rfl ?_
  refine AI (AC (B3 _ rfl (bnotF (decide_eq_false (by rw [endN, if_neg (by first | exact E2 (by decide) | decide)]; first | exact E2 (by decide) | decide))) ?_))
  refine AH (AB (AA (.agg ([U64 0, U64 0, I64 0, SL none 0 0, SL none 0 0, U64 0] ++ cu8 (zr8 16)).toArray) (CP [] _ rfl (fun _ => by kernel_rfl)) rfl ?_))
  refine A7 (BQ 0 nb1 22 ([U64 0, U64 0, I64 0, SL none 0 0, SL none 0 0, U64 0] ++ cu8 (zr8 16)) 29 ([U64 0, U64 0, I64 0, SL none 0 0, SL none 0 0, U64 0] ++ cu8 (zr8 16)) rfl rfl rfl BG (by simp [(AN 16)]) (BY (by simp [Value.oneCell']) CT) (by simp [(AN 16)]) (BT (by simp [(AN 16), (AN 16)]))) rfl ?_
  show JL _ _ _ _ _ [⟨nb1, [U64 0, U64 0, I64 0, SL none 0 0, SL none 0 0, U64 0] ++ cu8 (zr8 16), 29, (0, 0)⟩, _, _]
  refine AI (AC (BI (A1 (BH (.agg ([U64 0, U64 0, I64 0, SL none 0 0, SL none 0 0, U64 0] ++ cu8 (zr8 16)).toArray) (res1 D7 (DM rfl (BU B7 BG (by simp [(AN 16)]) (AU 0 rfl (AQ _))))) fun w1 hw1 => ?_))))
  rw [show erN (eQ z0 (p + 33)) 2 = 2 by rw [EU (by omega)]; rfl] at hw1
  exact ⟨_, _, rfl, ⟨ao4, zz4, ca4, _, _, _, _, _, _, ⟨(fun w M h => hA4 w M ((fun w M h => hA3 w M ((fun w M h => hA2 w M ((fun w M h => hA1 w M ((fun _ _ h => h) w M h)) w M h)) w M h)) w M h)), by omega, by omega, by omega⟩, rfl, rfl⟩, E0 hw1 2 0 1 rfl rfl rfl (by decide) (by decide) (by decide)⟩
theorem treadU_w (rb p : Nat) (ao : Option Addr) (n c : Nat) (z0 z : List UInt8) (w : World) (h0 : w.heap[rb]? = some (.cells [errV 50 (eQ z0 p), SL ao n c].toArray 204 (0, 0))) (hz : z.length = n) (hn : n ≤ 2000000000) (hc : n ≤ c) (hcm : c ≤ maxLen) (hr : RdB w [rb] ao z) (hq : Lq z0 z p) : Calls Tryd.prog 60 #[Ptr rb 0] w (Post w [rb] (fun v L => ∃ pv ep kd ni l ns ls bl tg tot q ao' z' c' g1 cs1 T1 a1 c1 g2 cs2 T2 a2 c2, TkR (z0.drop p) pv ep kd l ls bl tg tot ∧ q = p + tot ∧ l.length = ni ∧ ls.length = ns ∧ tg.length = 16 ∧ ni ≤ 256 ∧ ns ≤ 256 ∧ Lq z0 z' q ∧ Adv ao z c ao' z' c' ∧ v = .agg ([U64 pv, U64 ep, I64 kd, SL a1 ni c1, SL a2 ns c2, U64 bl] ++ cu8 tg).toArray ∧ L = [⟨rb, [errV 50 (eQ z0 q), SL ao' z'.length c'], 204, (0, 0)⟩, ⟨g1, cs1, T1, (0, 0)⟩, ⟨g2, cs2, T2, (0, 0)⟩] ∧ Gh (cu64 l) g1 cs1 a1 ∧ ni ≤ c1 ∧ c1 ≤ maxLen ∧ Gh (ls.flatMap sealC) g2 cs2 a2 ∧ ns ≤ c2 ∧ c2 ≤ maxLen)) := by
  by_cases hp : p ≤ z0.length
  · refine (treadG_c rb ao n c (z0.drop p) z w (by rw [show eQ (z0.drop p) 0 = eQ z0 p from eQ_drop hp]; exact h0) hz hn hc hcm hr (fun _ => by rw [hq hp]; rfl)).mono ?_
    rintro E W ⟨v, L, rfl, ⟨pv, ep, kd, ni, l, ns, ls, bl, tg, tot, ao', z', c', g1, cs1, T1, a1, c1, g2, cs2, T2, a2, c2, hT, h1, h2, h3, h4, h5, h6, h7, rfl, rfl, h8⟩, hw⟩
    exact ⟨_, _, rfl, ⟨pv, ep, kd, ni, l, ns, ls, bl, tg, tot, p + tot, ao', z', c', g1, cs1, T1, a1, c1, g2, cs2, T2, a2, c2, hT, rfl, h1, h2, h3, h4, h5, Lq.drop hp h6, h7, rfl, by rw [eQ_drop hp], h8⟩, hw⟩
  · refine (treadE_c rb p ao n c z0 z w h0 hz hn hc hcm hr hq hp).mono ?_
    rintro E W ⟨v, L, rfl, ⟨ao', z', c', g1, cs1, T1, g2, cs2, T2, hA, rfl, rfl⟩, hw⟩
    have hd : z0.drop p = [] := List.drop_eq_nil_of_le (by omega)
    refine ⟨_, _, rfl, ⟨0, 0, 0, 0, [], 0, [], 0, zr8 16, 1, p + 1, ao', z', c', g1, cs1, T1, none, 0, g2, cs2, T2, none, 0, by rw [hd]; exact TkR.bad [] bad_nil, rfl, rfl, rfl, AN 16, by omega, by omega, fun h => absurd h (by omega), hA, rfl, by rw [EU (by omega)], .inl rfl, by omega, by unfold maxLen; omega, .inl rfl, by omega, by unfold maxLen; omega⟩, hw⟩
theorem bld31_01 {w : World} {v0 : Value} {v1 : Value} (h0 : v0.cells = [v0].toArray) (h1 : v1.cells = [v1].toArray) : (Instr.build 31 ([(0, v0), (1, v1)] : List (Nat × Value)).toArray).run Tryd.prog w = .ok (.agg ((((((([v0] : List Value) ++ ([v1] : List Value)) ++ ([.slice none 0 0] : List Value)) ++ ([U64 0] : List Value)) ++ ([I64 0] : List Value)) ++ ([U64 0, U64 0, I64 0, .slice none 0 0, .slice none 0 0, U64 0] ++ cu8 (zr8 16) : List Value)) ++ ([U64 0] : List Value)).toArray) w :=
 EY (places := #[(0, 1), (1, 1), (2, 1), (3, 1), (4, 1), (5, 22), (27, 1)]) (Z := (([U64 0] : List Value) ++ (([I64 0] : List Value) ++ (([.slice none 0 0] : List Value) ++ (([U64 0] : List Value) ++ (([I64 0] : List Value) ++ (([U64 0, U64 0, I64 0, .slice none 0 0, .slice none 0 0, U64 0] ++ cu8 (zr8 16) : List Value) ++ (([U64 0] : List Value) ++ [])))))))) (fun _ => by kernel_rfl) AX (fun _ => by kernel_rfl) ((fill_start ([U64 0] : List Value) (([I64 0] : List Value) ++ (([.slice none 0 0] : List Value) ++ (([U64 0] : List Value) ++ (([I64 0] : List Value) ++ (([U64 0, U64 0, I64 0, .slice none 0 0, .slice none 0 0, U64 0] ++ cu8 (zr8 16) : List Value) ++ (([U64 0] : List Value) ++ [])))))) ([v0] : List Value) h0 (by simp [AN]) rfl).trans ((fill_step ([v0] : List Value) ([I64 0] : List Value) (([.slice none 0 0] : List Value) ++ (([U64 0] : List Value) ++ (([I64 0] : List Value) ++ (([U64 0, U64 0, I64 0, .slice none 0 0, .slice none 0 0, U64 0] ++ cu8 (zr8 16) : List Value) ++ (([U64 0] : List Value) ++ []))))) ([v1] : List Value) h1 (by simp [AN]) rfl).trans ((EP (([v0] : List Value) ++ ([v1] : List Value)) ([.slice none 0 0] : List Value) (([U64 0] : List Value) ++ (([I64 0] : List Value) ++ (([U64 0, U64 0, I64 0, .slice none 0 0, .slice none 0 0, U64 0] ++ cu8 (zr8 16) : List Value) ++ (([U64 0] : List Value) ++ []))))).trans ((EP ((([v0] : List Value) ++ ([v1] : List Value)) ++ ([.slice none 0 0] : List Value)) ([U64 0] : List Value) (([I64 0] : List Value) ++ (([U64 0, U64 0, I64 0, .slice none 0 0, .slice none 0 0, U64 0] ++ cu8 (zr8 16) : List Value) ++ (([U64 0] : List Value) ++ [])))).trans ((EP (((([v0] : List Value) ++ ([v1] : List Value)) ++ ([.slice none 0 0] : List Value)) ++ ([U64 0] : List Value)) ([I64 0] : List Value) (([U64 0, U64 0, I64 0, .slice none 0 0, .slice none 0 0, U64 0] ++ cu8 (zr8 16) : List Value) ++ (([U64 0] : List Value) ++ []))).trans ((EP ((((([v0] : List Value) ++ ([v1] : List Value)) ++ ([.slice none 0 0] : List Value)) ++ ([U64 0] : List Value)) ++ ([I64 0] : List Value)) ([U64 0, U64 0, I64 0, .slice none 0 0, .slice none 0 0, U64 0] ++ cu8 (zr8 16) : List Value) (([U64 0] : List Value) ++ [])).trans ((EP (((((([v0] : List Value) ++ ([v1] : List Value)) ++ ([.slice none 0 0] : List Value)) ++ ([U64 0] : List Value)) ++ ([I64 0] : List Value)) ++ ([U64 0, U64 0, I64 0, .slice none 0 0, .slice none 0 0, U64 0] ++ cu8 (zr8 16) : List Value)) ([U64 0] : List Value) []).trans (by simp [Instr.fill]))))))))
set_option maxHeartbeats 4000000 in
theorem parq_c (ax : Option Addr) (n c : Nat) (z0 : List UInt8)  (w : World) (ha : ax.isNone = false) (hz : z0.length = n) (hn : n ≤ 2000000000) (hc : n ≤ c) (hcm : c ≤ maxLen) (hr : RdB w [] ax z0)  : Calls Tryd.prog 53 #[SL ax n c] w (Post w [] (fun v L => (∃ sq qk niq lq fs mn pv ep kd ni l ns ls bl tg eq g0 cs0 T0 a0 c0 g1 cs1 T1 a1 c1 g2 cs2 T2 a2 c2, GRq z0 sq qk lq fs mn pv ep kd l ls bl tg eq ∧ lq.length = niq ∧ l.length = ni ∧ ls.length = ns ∧ tg.length = 16 ∧ niq ≤ 256 ∧ ni ≤ 256 ∧ ns ≤ 256 ∧ v = .tuple #[.agg ([U64 sq, I64 qk, SL a0 niq c0, U64 fs, I64 mn, U64 pv, U64 ep, I64 kd, SL a1 ni c1, SL a2 ns c2, U64 bl] ++ cu8 tg ++ [U64 eq]).toArray, .nilIface] ∧ L = [⟨g0, cs0, T0, (0, 0)⟩, ⟨g1, cs1, T1, (0, 0)⟩, ⟨g2, cs2, T2, (0, 0)⟩] ∧ Gh (cu64 lq) g0 cs0 a0 ∧ niq ≤ c0 ∧ c0 ≤ maxLen ∧ Gh (cu64 l) g1 cs1 a1 ∧ ni ≤ c1 ∧ c1 ≤ maxLen ∧ Gh (ls.flatMap sealC) g2 cs2 a2 ∧ ns ≤ c2 ∧ c2 ≤ maxLen) ∨ (BadRq z0 ∧ v = .tuple #[.agg ([U64 0, I64 0, SL none 0 0, U64 0, I64 0, U64 0, U64 0, I64 0, SL none 0 0, SL none 0 0, U64 0] ++ cu8 (zr8 16) ++ [U64 0]).toArray, .iface 50 (I64 2)] ∧ L = []))) := by
 have hmx : maxLen = 9223372036854775807 := rfl
 have hk8 := vQ_lt1 z0 8
 have hk9 := vQ_lt1 z0 17
 have hk10 := vQ_lt1 z0 21
 have hmQ : mQ z0 = (vQ z0 17 1).toNat + 1 := rfl
 refine enter w [] 67 [] [SL ax n c] Tryd.func53 rfl rfl (by simp) (BW (by simp) (by simp) (by simp)) ?_
 show JC _ _ _ [(0, SL ax n c)] _
 refine AH (AB (A4 (C0 _ ([U64 0, I64 0, SL none 0 0, U64 0, I64 0, U64 0, U64 0, I64 0, SL none 0 0, SL none 0 0, U64 0] ++ cu8 (zr8 16) ++ [U64 0]) Tryd.zeroValue31 (by kernel_rfl)) rfl ?_))
 rintro v1 L1 ⟨nb1, hnb1, rfl, rfl⟩
 show JL _ _ _ _ ((2, Ptr nb1 0) :: _) [⟨nb1, [U64 0, I64 0, SL none 0 0, U64 0, I64 0, U64 0, U64 0, I64 0, SL none 0 0, SL none 0 0, U64 0] ++ cu8 (zr8 16) ++ [U64 0], 31, (0, 0)⟩]
 refine AA _ (AE rfl) rfl ?_
 refine AI (AC (AH (AB (AA _ (AF rfl) rfl ?_))))
 refine A4 (CZ 59 [SL ax n c] _ (AS _ Tryd.call59 rfl) (fun w1 hw1 => fromQ_w ax n c z0 w1 ha hz (by omega) (hr.at (M' := []) hw1 (by simp)))) rfl ?_
 rintro v1 L1 ⟨_, ⟨nb2, nb3, sp1, cp1, rfl, rfl, hc1, hc2, hc3⟩, rfl⟩
 show JL _ _ _ _ ((8, Ptr nb2 0) :: _) [_, ⟨nb2, [errV 50 (eQ z0 0), SL (some ⟨nb3, 0, none⟩) n cp1], 204, (0, 0)⟩, ⟨nb3, cu8 z0 ++ sp1, 5, (0, 0)⟩]
 refine AA _ (AE rfl) rfl ?_
 refine AI (AC (AH (AB (AA _ (AF rfl) rfl ?_))))
 have hz1 : (z0).length = n := hz
 refine A4 (A8 109 _ [false, true, false] [nb2] _ (AS [Ptr nb2 0, I64 8] CV rfl) rfl (fun w1 hw1 => E1 nb2 0 8 (some ⟨nb3, 0, none⟩) n cp1 z0 z0 w1 (hw1.ent _ (List.mem_of_getElem? (i := 1) rfl)) hz (by omega) (by omega) (by omega) ((fun _ _ h => h) _ _ (RdB.of hw1 (AU 2 rfl (AJ (AQ _))) (by intro _; simp only [List.mem_cons, List.not_mem_nil, or_false, not_or]; exact hw1.ne (i := 2) (j := 1) rfl rfl (by decide)))) (Lq.zero z0) (by unfold Szd; omega))) rfl ?_
 rintro v1 L1 ⟨_, ⟨rfl, ao1, zz1, ca1, hq1, ⟨hA1, hb1, hb2, hb3⟩, rfl⟩, rfl⟩
 show JL _ _ _ _ ((10, U64 (vQ z0 0 8)) :: _) [_, _, ⟨nb2, [errV 50 (eQ z0 8), SL ao1 zz1.length ca1], 204, (0, 0)⟩]
 refine AA _ (AF rfl) rfl ?_
 have hz2 : (zz1).length = zz1.length := rfl
 refine A4 (A8 109 _ [false, false, true] [nb2] _ (AS [Ptr nb2 0, I64 1] CV rfl) rfl (fun w1 hw1 => E1 nb2 8 1 ao1 zz1.length ca1 z0 zz1 w1 (hw1.ent _ (List.mem_of_getElem? (i := 2) rfl)) rfl (by omega) (by omega) (by omega) ((fun w M h => hA1 w M ((fun _ _ h => h) w M h)) _ _ (RdB.of hw1 (AU 1 rfl (AJ (AQ _))) (by intro _; simp only [List.mem_cons, List.not_mem_nil, or_false, not_or]; exact hw1.ne (i := 1) (j := 2) rfl rfl (by decide)))) hq1 (by unfold Szd; omega))) rfl ?_
 rintro v1 L1 ⟨_, ⟨rfl, ao2, zz2, ca2, hq2, ⟨hA2, hb4, hb5, hb6⟩, rfl⟩, rfl⟩
 show JL _ _ _ _ ((12, U64 (vQ z0 8 1)) :: _) [_, _, ⟨nb2, [errV 50 (eQ z0 9), SL ao2 zz2.length ca2], 204, (0, 0)⟩]
 refine AA (I64 (((vQ z0 8 1).toNat:Int))) (CM _ _ rfl fun _ => ER (by rw [AW]; rfl) A6 (vQ z0 8 1) _ rfl (by omega)) rfl ?_
 refine AA (.agg ([U64 (vQ z0 0 8), I64 (((vQ z0 8 1).toNat:Int)), SL none 0 0, U64 0, I64 0, U64 0, U64 0, I64 0, SL none 0 0, SL none 0 0, U64 0] ++ cu8 (zr8 16) ++ [U64 0]).toArray) (CP [(0, U64 (vQ z0 0 8)), (1, I64 (((vQ z0 8 1).toNat:Int)))] _ rfl (fun _ => bld31_01 rfl rfl)) rfl ?_
 refine A4 (C0 _ ([U64 0, I64 0, SL none 0 0, U64 0, I64 0, U64 0, U64 0, I64 0, SL none 0 0, SL none 0 0, U64 0] ++ cu8 (zr8 16) ++ [U64 0]) Tryd.zeroValue31 (by kernel_rfl)) rfl ?_
 rintro v1 L1 ⟨nb4, hnb4, rfl, rfl⟩
 show JL _ _ _ _ ((5, Ptr nb4 0) :: _) [_, _, _, ⟨nb4, [U64 0, I64 0, SL none 0 0, U64 0, I64 0, U64 0, U64 0, I64 0, SL none 0 0, SL none 0 0, U64 0] ++ cu8 (zr8 16) ++ [U64 0], 31, (0, 0)⟩]
 refine A7 (BQ 3 nb4 28 ([U64 0, I64 0, SL none 0 0, U64 0, I64 0, U64 0, U64 0, I64 0, SL none 0 0, SL none 0 0, U64 0] ++ cu8 (zr8 16) ++ [U64 0]) 31 ([U64 (vQ z0 0 8), I64 (((vQ z0 8 1).toNat:Int)), SL none 0 0, U64 0, I64 0, U64 0, U64 0, I64 0, SL none 0 0, SL none 0 0, U64 0] ++ cu8 (zr8 16) ++ [U64 0]) rfl rfl rfl BV (by simp [(AN 16)]) (BY (BY (by simp [Value.oneCell']) CT) (by simp [Value.oneCell'])) (by simp [(AN 16)]) (BT (by simp [(AN 16), (AN 16)]))) rfl ?_
 show JL _ _ _ _ _ [_, _, _, ⟨nb4, [U64 (vQ z0 0 8), I64 (((vQ z0 8 1).toNat:Int)), SL none 0 0, U64 0, I64 0, U64 0, U64 0, I64 0, SL none 0 0, SL none 0 0, U64 0] ++ cu8 (zr8 16) ++ [U64 0], 31, (0, 0)⟩]
 refine AI (AC (AH (AH (AB (AA (Ptr nb4 1) (AD 1 3 1 AX rfl AT rfl rfl) rfl ?_)))))
 refine AA (I64 (((vQ z0 8 1).toNat:Int))) (AO rfl (A0 AY (AU 3 rfl (AJ (AJ (AK (Seg.head))))))) rfl ?_
 refine AA (.bool (decide ((((vQ z0 8 1).toNat:Int)) = (3:Int)))) (AR rfl rfl fun _ => BK _ _) rfl ?_
 refine AI (AC (B9 (decide ((((vQ z0 8 1).toNat:Int)) = (3:Int))) rfl (fun hb7 => ?_) (fun hb7 => ?_)))
 ·
  have hp7 : (((vQ z0 8 1).toNat:Int)) = (3:Int) := of_decide_eq_true hb7
  refine AB (AA _ (AF rfl) rfl ?_)
  have hz3 : (zz2).length = zz2.length := rfl
  refine A4 (A8 60 _ [false, false, true, false] [nb2] _ (AS [Ptr nb2 0] Tryd.call60 rfl) rfl (fun w1 hw1 => treadU_w nb2 9 ao2 zz2.length ca2 z0 zz2 w1 (hw1.ent _ (List.mem_of_getElem? (i := 2) rfl)) rfl (by omega) (by omega) (by omega) ((fun w M h => hA2 w M ((fun w M h => hA1 w M ((fun _ _ h => h) w M h)) w M h)) _ _ (RdB.of hw1 (AU 1 rfl (AJ (AQ _))) (by intro _; simp only [List.mem_cons, List.not_mem_nil, or_false, not_or]; exact hw1.ne (i := 1) (j := 2) rfl rfl (by decide)))) hq2)) rfl ?_
  rintro v1 L1 ⟨_, ⟨tv1, te1, tk1, tn1, tl1, tm1, ts1, tb1, tg1, tt1, tq1, ao3, zz3, ca3, ng1, cs1, nT1, na1, nc1, ng2, cs2, nT2, na2, nc2, hT1, hpq1, hc4, hc5, hc6, hc7, hc8, hq3, ⟨hA3, hb8, hb9, hb10⟩, rfl, rfl, hc9, hc10, hc11, hc12, hc13, hc14⟩, rfl⟩
  show JL _ _ _ _ ((19, .agg ([U64 tv1, U64 te1, I64 (tk1), SL na1 tn1 nc1, SL na2 tm1 nc2, U64 tb1] ++ cu8 tg1).toArray) :: _) [_, _, _, ⟨nb2, [errV 50 (eQ z0 tq1), SL ao3 zz3.length ca3], 204, (0, 0)⟩, ⟨ng1, cs1, nT1, (0, 0)⟩, ⟨ng2, cs2, nT2, (0, 0)⟩]
  refine AA (Ptr nb4 5) (AD 5 29 22 AX rfl BG rfl rfl) rfl ?_
  refine A7 (CS 2 nb4 5 22 ([U64 (vQ z0 0 8), I64 (((vQ z0 8 1).toNat:Int)), SL none 0 0, U64 0, I64 0, U64 0, U64 0, I64 0, SL none 0 0, SL none 0 0, U64 0] ++ cu8 (zr8 16) ++ [U64 0]) 31 (.agg ([U64 tv1, U64 te1, I64 (tk1), SL na1 tn1 nc1, SL na2 tm1 nc2, U64 tb1] ++ cu8 tg1).toArray) ([U64 tv1, U64 te1, I64 (tk1), SL na1 tn1 nc1, SL na2 tm1 nc2, U64 tb1] ++ cu8 tg1) ([U64 (vQ z0 0 8), I64 (((vQ z0 8 1).toNat:Int)), SL none 0 0, U64 0, I64 0, U64 tv1, U64 te1, I64 (tk1), SL na1 tn1 nc1, SL na2 tm1 nc2, U64 tb1] ++ cu8 tg1 ++ [U64 0]) rfl rfl rfl (by first | rfl | simp) BG (by simp [hc6]) (BY (by simp [Value.oneCell']) CT) (by simp [(AN 16)]) (lay_splice (a := [U64 (vQ z0 0 8), I64 (((vQ z0 8 1).toNat:Int)), SL none 0 0, U64 0, I64 0]) (b := [U64 0, U64 0, I64 0, SL none 0 0, SL none 0 0, U64 0] ++ cu8 (zr8 16)) (c := [U64 0]) (by simp only [List.append_assoc, List.cons_append, List.nil_append, List.append_nil]) (by simp [(AN 16), hc6]) (by simp [(AN 16), hc6]) (by simp only [List.append_assoc, List.cons_append, List.nil_append, List.append_nil]))) rfl ?_
  show JL _ _ _ _ _ [_, _, ⟨nb4, [U64 (vQ z0 0 8), I64 (((vQ z0 8 1).toNat:Int)), SL none 0 0, U64 0, I64 0, U64 tv1, U64 te1, I64 (tk1), SL na1 tn1 nc1, SL na2 tm1 nc2, U64 tb1] ++ cu8 tg1 ++ [U64 0], 31, (0, 0)⟩, _, _, _]
  refine AI (AC (AH (AH (AB (AA (Ptr nb4 1) (AD 1 3 1 AX rfl AT rfl rfl) rfl ?_)))))
  refine AA (I64 (((vQ z0 8 1).toNat:Int))) (AO rfl (A0 AY (AU 2 rfl (AJ (AJ (AK (Seg.head))))))) rfl ?_
  refine AI (AC (B5 (AH (AB (AA (.bool (decide ((((vQ z0 8 1).toNat:Int)) = (1:Int)))) (AR rfl rfl fun _ => BK _ _) rfl ?_)))))
  refine AA _ (AE rfl) rfl ?_
  refine AI (AC (BP _ rfl (decide_eq_false (by have h9 := of_decide_eq_true hb7; omega)) ?_))
  refine AH (AB (AA (.bool (decide ((((vQ z0 8 1).toNat:Int)) = (2:Int)))) (AR rfl rfl fun _ => BK _ _) rfl ?_))
  refine AA _ (AE rfl) rfl ?_
  refine AI (AC (BP _ rfl (decide_eq_false (by have h9 := of_decide_eq_true hb7; omega)) ?_))
  refine BF (BS (AC (AH (AH (AB (AA _ (AF rfl) rfl ?_))))))
  refine A7 (A2 63 [Ptr nb2 0] (errV 50 (endN (eQ z0 tq1) zz3.length)) (AS _ DZ rfl) (fun w1 hw1 => end_w nb2 (eQ z0 tq1) ao3 zz3.length ca3 w1 (RdA.of hw1 (AU 3 rfl (AQ _)) (by simp)))) rfl ?_
  show JL _ _ _ _ ((57, errV 50 (endN (eQ z0 tq1) zz3.length)) :: _) [_, _, _, _, _, _]
  refine AA (.bool (!(decide (endN (eQ z0 tq1) zz3.length = 0)))) (C7 _ _ _ rfl rfl (fun _ => B6 ..) fun _ => DJ BB _ _) rfl ?_
  refine AA _ (AF rfl) rfl ?_
  rcases Bool.eq_false_or_eq_true (decide (endN (eQ z0 tq1) zz3.length = 0)) with hb11 | hb11
  ·
   have hp11 : endN (eQ z0 tq1) zz3.length = 0 := of_decide_eq_true hb11
   refine AP 3 59 false _ (.agg ([U64 (vQ z0 0 8), I64 (((vQ z0 8 1).toNat:Int)), SL none 0 0, U64 0, I64 0, U64 tv1, U64 te1, I64 (tk1), SL na1 tn1 nc1, SL na2 tm1 nc2, U64 tb1] ++ cu8 tg1 ++ [U64 0]).toArray) rfl rfl (bnotT hb11) (AO rfl (BU CY BV (by simp [hc6]) (AU 2 rfl (AQ _)))) rfl ?_
   refine DL 3 59 false _ rfl rfl (bnotT hb11) (A2 22 [.agg ([U64 (vQ z0 0 8), I64 (((vQ z0 8 1).toNat:Int)), SL none 0 0, U64 0, I64 0, U64 tv1, U64 te1, I64 (tk1), SL na1 tn1 nc1, SL na2 tm1 nc2, U64 tb1] ++ cu8 tg1 ++ [U64 0]).toArray] (.bool (reqR (((vQ z0 8 1).toNat:Int)) ([] : List UInt64) (0:UInt64) (0:Int) (0:UInt64) (blankB tv1 te1 (tk1) tl1 ts1 tb1 tg1) (decide (mayN tv1 te1 (tk1) tl1 ts1 tb1 = 0)))) (AS _ Tryd.call22 rfl) (fun w1 hw1 => FA (vQ z0 0 8) (((vQ z0 8 1).toNat:Int)) none 0 0 ([] : List UInt64) (0:UInt64) (0:Int) tv1 te1 (tk1) na1 tn1 nc1 tl1 na2 tm1 nc2 ts1 tb1 tg1 (0:UInt64) w1 rfl (by omega) (by omega) (by omega) RdV.nil hc4 (by omega) (by omega) (by omega) (Gh.at hw1 4 rfl hc9) hc5 (by omega) (by omega) (by omega) (Gh.at hw1 5 rfl hc12) hc6 (by omega) (by omega))) rfl ?_
   rintro v1 L1 ⟨rfl, rfl⟩
   show JL _ _ _ _ ((61, .bool (reqR (((vQ z0 8 1).toNat:Int)) ([] : List UInt64) (0:UInt64) (0:Int) (0:UInt64) (blankB tv1 te1 (tk1) tl1 ts1 tb1 tg1) (decide (mayN tv1 te1 (tk1) tl1 ts1 tb1 = 0)))) :: _) [_, _, _, _, _, _]
   refine AP 3 59 false _ (.bool (!(reqR (((vQ z0 8 1).toNat:Int)) ([] : List UInt64) (0:UInt64) (0:Int) (0:UInt64) (blankB tv1 te1 (tk1) tl1 ts1 tb1 tg1) (decide (mayN tv1 te1 (tk1) tl1 ts1 tb1 = 0))))) rfl rfl (bnotT hb11) (DG rfl) rfl ?_
   refine AA _ (A3 _ rfl (bnotT hb11) rfl) rfl ?_
   refine AI (AC (B9 (!(reqR (((vQ z0 8 1).toNat:Int)) ([] : List UInt64) (0:UInt64) (0:Int) (0:UInt64) (blankB tv1 te1 (tk1) tl1 ts1 tb1 tg1) (decide (mayN tv1 te1 (tk1) tl1 ts1 tb1 = 0)))) rfl (fun hb12 => ?_) (fun hb12 => ?_)))
   ·
    have hb13 : (reqR (((vQ z0 8 1).toNat:Int)) ([] : List UInt64) (0:UInt64) (0:Int) (0:UInt64) (blankB tv1 te1 (tk1) tl1 ts1 tb1 tg1) (decide (mayN tv1 te1 (tk1) tl1 ts1 tb1 = 0))) = false := by simpa using hb12
    refine AH (AB (AA (.agg ([U64 0, I64 0, SL none 0 0, U64 0, I64 0, U64 0, U64 0, I64 0, SL none 0 0, SL none 0 0, U64 0] ++ cu8 (zr8 16) ++ [U64 0]).toArray) (CP [] _ rfl (fun _ => by kernel_rfl)) rfl ?_))
    refine AA (.iface 50 (I64 2)) (C9 BM rfl rfl) rfl ?_
    refine A7 (BQ 0 nb1 28 ([U64 0, I64 0, SL none 0 0, U64 0, I64 0, U64 0, U64 0, I64 0, SL none 0 0, SL none 0 0, U64 0] ++ cu8 (zr8 16) ++ [U64 0]) 31 ([U64 0, I64 0, SL none 0 0, U64 0, I64 0, U64 0, U64 0, I64 0, SL none 0 0, SL none 0 0, U64 0] ++ cu8 (zr8 16) ++ [U64 0]) rfl rfl rfl BV (by simp [(AN 16)]) (BY (BY (by simp [Value.oneCell']) CT) (by simp [Value.oneCell'])) (by simp [(AN 16)]) (BT (by simp [(AN 16), (AN 16)]))) rfl ?_
    show JL _ _ _ _ _ [⟨nb1, [U64 0, I64 0, SL none 0 0, U64 0, I64 0, U64 0, U64 0, I64 0, SL none 0 0, SL none 0 0, U64 0] ++ cu8 (zr8 16) ++ [U64 0], 31, (0, 0)⟩, _, _, _, _, _]
    refine AA _ (AE rfl) rfl ?_
    refine AI (AC (BI (A1 (BH (.tuple #[.agg ([U64 0, I64 0, SL none 0 0, U64 0, I64 0, U64 0, U64 0, I64 0, SL none 0 0, SL none 0 0, U64 0] ++ cu8 (zr8 16) ++ [U64 0]).toArray, .iface 50 (I64 2)]) (res2 D3 (DM rfl (BU CY BV (by simp [(AN 16)]) (AU 0 rfl (AQ _)))) (BC rfl)) fun w1 hw1 => ?_))))
    have hR := RqR.k3 (kQT (k := 3) (by decide) hb7) hT1
    have he : tq1 = z0.length := (FL hq3).1 (by have h9 := of_decide_eq_true hb11; omega)
    exact ⟨_, [], rfl, .inr ⟨BadRq.of hR (fun _ => hb13), rfl, rfl⟩, hw1.sub (by simp) (by simp)⟩
   ·
    have hb14 : (reqR (((vQ z0 8 1).toNat:Int)) ([] : List UInt64) (0:UInt64) (0:Int) (0:UInt64) (blankB tv1 te1 (tk1) tl1 ts1 tb1 tg1) (decide (mayN tv1 te1 (tk1) tl1 ts1 tb1 = 0))) = true := by simpa using hb12
    refine BF (AC (AH (AB (AA (.agg ([U64 (vQ z0 0 8), I64 (((vQ z0 8 1).toNat:Int)), SL none 0 0, U64 0, I64 0, U64 tv1, U64 te1, I64 (tk1), SL na1 tn1 nc1, SL na2 tm1 nc2, U64 tb1] ++ cu8 tg1 ++ [U64 0]).toArray) (AO rfl (BU CY BV (by simp [hc6]) (AU 2 rfl (AQ _)))) rfl ?_))))
    refine A7 (BQ 0 nb1 28 ([U64 0, I64 0, SL none 0 0, U64 0, I64 0, U64 0, U64 0, I64 0, SL none 0 0, SL none 0 0, U64 0] ++ cu8 (zr8 16) ++ [U64 0]) 31 ([U64 (vQ z0 0 8), I64 (((vQ z0 8 1).toNat:Int)), SL none 0 0, U64 0, I64 0, U64 tv1, U64 te1, I64 (tk1), SL na1 tn1 nc1, SL na2 tm1 nc2, U64 tb1] ++ cu8 tg1 ++ [U64 0]) rfl rfl rfl BV (by simp [hc6]) (BY (BY (by simp [Value.oneCell']) CT) (by simp [Value.oneCell'])) (by simp [(AN 16)]) (BT (by simp [(AN 16), hc6]))) rfl ?_
    show JL _ _ _ _ _ [⟨nb1, [U64 (vQ z0 0 8), I64 (((vQ z0 8 1).toNat:Int)), SL none 0 0, U64 0, I64 0, U64 tv1, U64 te1, I64 (tk1), SL na1 tn1 nc1, SL na2 tm1 nc2, U64 tb1] ++ cu8 tg1 ++ [U64 0], 31, (0, 0)⟩, _, _, _, _, _]
    refine AA _ (AE rfl) rfl ?_
    refine AI (AC (BI (BH (.tuple #[.agg ([U64 (vQ z0 0 8), I64 (((vQ z0 8 1).toNat:Int)), SL none 0 0, U64 0, I64 0, U64 tv1, U64 te1, I64 (tk1), SL na1 tn1 nc1, SL na2 tm1 nc2, U64 tb1] ++ cu8 tg1 ++ [U64 0]).toArray, .nilIface]) (res2 D3 (DM rfl (BU CY BV (by simp [hc6]) (AU 0 rfl (AQ _)))) (BC rfl)) fun w1 hw1 => ?_)))
    have hR := RqR.k3 (kQT (k := 3) (by decide) hb7) hT1
    have he : tq1 = z0.length := (FL hq3).1 (by have h9 := of_decide_eq_true hb11; omega)
    have hz9 : 9 + tt1 = z0.length := by omega
    rw [hz9] at hR
    exact ⟨_, _, rfl, .inl ⟨_, _, 0, _, _, _, _, _, _, tn1, _, tm1, _, _, _, _, _, _, _, none, 0, _, _, _, na1, nc1, _, _, _, na2, nc2, ⟨hR, hb14⟩, rfl, hc4, hc5, hc6, (by omega), hc7, hc8, rfl, rfl, .inl rfl, by first | omega | (unfold maxLen; omega), by first | omega | (unfold maxLen; omega), hc9, by first | omega | (unfold maxLen; omega), by first | omega | (unfold maxLen; omega), hc12, by first | omega | (unfold maxLen; omega), by first | omega | (unfold maxLen; omega)⟩, E0 hw1 3 4 5 rfl rfl rfl (by decide) (by decide) (by decide)⟩
  ·
   have hp11 : ¬ (endN (eQ z0 tq1) zz3.length = 0) := of_decide_eq_false hb11
   refine AG 3 59 false _ rfl rfl (bnotF hb11) rfl ?_
   refine AG 3 59 false _ rfl rfl (bnotF hb11) rfl ?_
   refine AG 3 59 false _ rfl rfl (bnotF hb11) rfl ?_
   refine AA _ (BD _ rfl (bnotF hb11) rfl) rfl ?_
   refine AI (AC (B3 _ rfl rfl ?_))
   refine AH (AB (AA (.agg ([U64 0, I64 0, SL none 0 0, U64 0, I64 0, U64 0, U64 0, I64 0, SL none 0 0, SL none 0 0, U64 0] ++ cu8 (zr8 16) ++ [U64 0]).toArray) (CP [] _ rfl (fun _ => by kernel_rfl)) rfl ?_))
   refine AA (.iface 50 (I64 2)) (C9 BM rfl rfl) rfl ?_
   refine A7 (BQ 0 nb1 28 ([U64 0, I64 0, SL none 0 0, U64 0, I64 0, U64 0, U64 0, I64 0, SL none 0 0, SL none 0 0, U64 0] ++ cu8 (zr8 16) ++ [U64 0]) 31 ([U64 0, I64 0, SL none 0 0, U64 0, I64 0, U64 0, U64 0, I64 0, SL none 0 0, SL none 0 0, U64 0] ++ cu8 (zr8 16) ++ [U64 0]) rfl rfl rfl BV (by simp [(AN 16)]) (BY (BY (by simp [Value.oneCell']) CT) (by simp [Value.oneCell'])) (by simp [(AN 16)]) (BT (by simp [(AN 16), (AN 16)]))) rfl ?_
   show JL _ _ _ _ _ [⟨nb1, [U64 0, I64 0, SL none 0 0, U64 0, I64 0, U64 0, U64 0, I64 0, SL none 0 0, SL none 0 0, U64 0] ++ cu8 (zr8 16) ++ [U64 0], 31, (0, 0)⟩, _, _, _, _, _]
   refine AA _ (AE rfl) rfl ?_
   refine AI (AC (BI (A1 (BH (.tuple #[.agg ([U64 0, I64 0, SL none 0 0, U64 0, I64 0, U64 0, U64 0, I64 0, SL none 0 0, SL none 0 0, U64 0] ++ cu8 (zr8 16) ++ [U64 0]).toArray, .iface 50 (I64 2)]) (res2 D3 (DM rfl (BU CY BV (by simp [(AN 16)]) (AU 0 rfl (AQ _)))) (BC rfl)) fun w1 hw1 => ?_))))
   have hR := RqR.k3 (kQT (k := 3) (by decide) hb7) hT1
   have hne : tq1 ≠ z0.length := fun e => (of_decide_eq_false hb11) ((FL hq3).2 e)
   exact ⟨_, [], rfl, .inr ⟨BadRq.of hR (fun e => absurd e (by omega)), rfl, rfl⟩, hw1.sub (by simp) (by simp)⟩
 ·
  have hp7 : ¬ ((((vQ z0 8 1).toNat:Int)) = (3:Int)) := of_decide_eq_false hb7
  refine AB (AA _ (AF rfl) rfl ?_)
  have hz4 : (zz2).length = zz2.length := rfl
  refine A4 (A8 109 _ [false, false, true, false] [nb2] _ (AS [Ptr nb2 0, I64 8] CV rfl) rfl (fun w1 hw1 => E1 nb2 9 8 ao2 zz2.length ca2 z0 zz2 w1 (hw1.ent _ (List.mem_of_getElem? (i := 2) rfl)) rfl (by omega) (by omega) (by omega) ((fun w M h => hA2 w M ((fun w M h => hA1 w M ((fun _ _ h => h) w M h)) w M h)) _ _ (RdB.of hw1 (AU 1 rfl (AJ (AQ _))) (by intro _; simp only [List.mem_cons, List.not_mem_nil, or_false, not_or]; exact hw1.ne (i := 1) (j := 2) rfl rfl (by decide)))) hq2 (by unfold Szd; omega))) rfl ?_
  rintro v1 L1 ⟨_, ⟨rfl, ao4, zz4, ca4, hq4, ⟨hA4, hb15, hb16, hb17⟩, rfl⟩, rfl⟩
  show JL _ _ _ _ ((22, U64 (vQ z0 9 8)) :: _) [_, _, _, ⟨nb2, [errV 50 (eQ z0 17), SL ao4 zz4.length ca4], 204, (0, 0)⟩]
  refine AA (Ptr nb4 27) (AD 27 22 1 AX rfl A9 rfl rfl) rfl ?_
  refine A7 (CS 2 nb4 27 1 ([U64 (vQ z0 0 8), I64 (((vQ z0 8 1).toNat:Int)), SL none 0 0, U64 0, I64 0, U64 0, U64 0, I64 0, SL none 0 0, SL none 0 0, U64 0] ++ cu8 (zr8 16) ++ [U64 0]) 31 (U64 (vQ z0 9 8)) ([U64 (vQ z0 9 8)]) ([U64 (vQ z0 0 8), I64 (((vQ z0 8 1).toNat:Int)), SL none 0 0, U64 0, I64 0, U64 0, U64 0, I64 0, SL none 0 0, SL none 0 0, U64 0] ++ cu8 (zr8 16) ++ [U64 (vQ z0 9 8)]) rfl rfl rfl rfl A9 rfl (by simp [Value.oneCell']) (by simp [(AN 16)]) (ES 27 0 (by simp [(AN 16)]) rfl (BT (by simp [])))) rfl ?_
  show JL _ _ _ _ _ [_, _, ⟨nb4, [U64 (vQ z0 0 8), I64 (((vQ z0 8 1).toNat:Int)), SL none 0 0, U64 0, I64 0, U64 0, U64 0, I64 0, SL none 0 0, SL none 0 0, U64 0] ++ cu8 (zr8 16) ++ [U64 (vQ z0 9 8)], 31, (0, 0)⟩, _]
  refine AI (AC (AH (AH (AB (AA (Ptr nb4 1) (AD 1 3 1 AX rfl AT rfl rfl) rfl ?_)))))
  refine AA (I64 (((vQ z0 8 1).toNat:Int))) (AO rfl (A0 AY (AU 2 rfl (AJ (AJ (AK (Seg.head))))))) rfl ?_
  refine AI (AC (B5 (AH (AB (AA (.bool (decide ((((vQ z0 8 1).toNat:Int)) = (1:Int)))) (AR rfl rfl fun _ => BK _ _) rfl ?_)))))
  refine AA _ (AE rfl) rfl ?_
  refine AI (AC (B9 (decide ((((vQ z0 8 1).toNat:Int)) = (1:Int))) rfl (fun hb18 => ?_) (fun hb18 => ?_)))
  ·
   have hp18 : (((vQ z0 8 1).toNat:Int)) = (1:Int) := of_decide_eq_true hb18
   refine AH (AB (AA _ (AF rfl) rfl ?_))
   have hz5 : (zz4).length = zz4.length := rfl
   refine A4 (A8 109 _ [false, false, false, true] [nb2] _ (AS [Ptr nb2 0, I64 1] CV rfl) rfl (fun w1 hw1 => E1 nb2 17 1 ao4 zz4.length ca4 z0 zz4 w1 (hw1.ent _ (List.mem_of_getElem? (i := 3) rfl)) rfl (by omega) (by omega) (by omega) ((fun w M h => hA4 w M ((fun w M h => hA2 w M ((fun w M h => hA1 w M ((fun _ _ h => h) w M h)) w M h)) w M h)) _ _ (RdB.of hw1 (AU 1 rfl (AJ (AQ _))) (by intro _; simp only [List.mem_cons, List.not_mem_nil, or_false, not_or]; exact hw1.ne (i := 1) (j := 3) rfl rfl (by decide)))) hq4 (by unfold Szd; omega))) rfl ?_
   rintro v1 L1 ⟨_, ⟨rfl, ao5, zz5, ca5, hq5, ⟨hA5, hb19, hb20, hb21⟩, rfl⟩, rfl⟩
   show JL _ _ _ _ ((29, U64 (vQ z0 17 1)) :: _) [_, _, _, ⟨nb2, [errV 50 (eQ z0 18), SL ao5 zz5.length ca5], 204, (0, 0)⟩]
   refine AA (I64 (((vQ z0 17 1).toNat:Int))) (CM _ _ rfl fun _ => ER (by rw [AW]; rfl) A6 (vQ z0 17 1) _ rfl (by omega)) rfl ?_
   refine AA (I64 (((vQ z0 17 1).toNat:Int) + 1)) (AR rfl rfl fun _ => DQ _ _ (((vQ z0 17 1).toNat:Int) + 1) (by omega) (by omega)) rfl ?_
   refine AA _ (AE rfl) rfl ?_
   refine AI (AC (AH ?_))
   obtain ⟨m, hm1, hm2, hm3⟩ := minQ hq5
   refine AB (AA _ (AF rfl) rfl ?_)
   refine AA _ (AF rfl) rfl ?_
   refine A7 (A2 61 [Ptr nb2 0] (I64 ((leftN (eQ z0 18) zz5.length:Int))) (AS _ DV rfl) (fun w1 hw1 => left_w nb2 (eQ z0 18) ao5 zz5.length ca5 w1 (RdA.of hw1 (AU 3 rfl (AQ _)) (by simp)))) rfl ?_
   show JL _ _ _ _ ((34, I64 ((leftN (eQ z0 18) zz5.length:Int))) :: _) [_, _, _, _]
   refine AA (I64 m) (Ev_min rfl rfl hm1) rfl ?_
   refine AA _ (AF rfl) rfl ?_
   refine AI (AC (B5 (EX [0, 3, 1, 2] (by decide) ?_)))
   show JC _ _ _ _ [_, _, _, _]
   refine EM (ι := (Unit) ⊕ (Nat × List UInt64 × Nat × List Value × Nat × Option Addr × List UInt8 × Nat)) (fun x => match x with | .inl _ => [(2, Ptr nb1 0), (3, .nilIface), (4, Ptr nb2 0), (5, Ptr nb4 0), (35, I64 m), (36, I64 0)] | .inr ⟨i, ll, gb, sp, cp, aa, zz, cc⟩ => [(2, Ptr nb1 0), (3, .nilIface), (4, Ptr nb2 0), (5, Ptr nb4 0), (35, I64 m), (36, I64 i)]) (fun x => match x with | .inl _ => [⟨nb1, [U64 0, I64 0, SL none 0 0, U64 0, I64 0, U64 0, U64 0, I64 0, SL none 0 0, SL none 0 0, U64 0] ++ cu8 (zr8 16) ++ [U64 0], 31, (0, 0)⟩, ⟨nb2, [errV 50 (eQ z0 18), SL ao5 zz5.length ca5], 204, (0, 0)⟩, ⟨nb3, cu8 z0 ++ sp1, 5, (0, 0)⟩, ⟨nb4, [U64 (vQ z0 0 8), I64 (((vQ z0 8 1).toNat:Int)), SL none 0 0, U64 0, I64 0, U64 0, U64 0, I64 0, SL none 0 0, SL none 0 0, U64 0] ++ cu8 (zr8 16) ++ [U64 (vQ z0 9 8)], 31, (0, 0)⟩] | .inr ⟨i, ll, gb, sp, cp, aa, zz, cc⟩ => [⟨nb1, [U64 0, I64 0, SL none 0 0, U64 0, I64 0, U64 0, U64 0, I64 0, SL none 0 0, SL none 0 0, U64 0] ++ cu8 (zr8 16) ++ [U64 0], 31, (0, 0)⟩, ⟨nb2, [errV 50 (eQ z0 (4*i + 18)), SL aa zz.length cc], 204, (0, 0)⟩, ⟨nb3, cu8 z0 ++ sp1, 5, (0, 0)⟩, ⟨nb4, [U64 (vQ z0 0 8), I64 (((vQ z0 8 1).toNat:Int)), Slc gb 0 i cp, U64 0, I64 0, U64 0, U64 0, I64 0, SL none 0 0, SL none 0 0, U64 0] ++ cu8 (zr8 16) ++ [U64 (vQ z0 9 8)], 31, (0, 0)⟩, ⟨gb, cu64 ll ++ sp, 22, (0, 0)⟩]) (fun x => match x with | .inl _ => True | .inr ⟨i, ll, gb, sp, cp, aa, zz, cc⟩ => 0 < i ∧ i ≤ m ∧ ll = ixQ z0 18 i ∧ ll.length = i ∧ sp.length = cp - i ∧ i ≤ cp ∧ cp ≤ maxLen ∧ Lq z0 zz (4*i + 18) ∧ (∀ w M, RdB w M (some ⟨nb3, 0, none⟩) z0 → RdB w M aa zz) ∧ zz.length ≤ cc ∧ cc ≤ maxLen ∧ zz.length ≤ n) (fun x => match x with | .inl _ => m + 2 | .inr ⟨i, ll, gb, sp, cp, aa, zz, cc⟩ => m + 1 - i) (.inl ()) trivial (Sub.all rfl) rfl ?_
   rintro (_ | ⟨i, ll, gb, sp, cp, aa, zz, cc⟩) hx
   ·
    obtain _ := hx
    show JC _ _ _ [(2, Ptr nb1 0), (3, .nilIface), (4, Ptr nb2 0), (5, Ptr nb4 0), (35, I64 m), (36, I64 0)] [⟨nb1, [U64 0, I64 0, SL none 0 0, U64 0, I64 0, U64 0, U64 0, I64 0, SL none 0 0, SL none 0 0, U64 0] ++ cu8 (zr8 16) ++ [U64 0], 31, (0, 0)⟩, ⟨nb2, [errV 50 (eQ z0 18), SL ao5 zz5.length ca5], 204, (0, 0)⟩, ⟨nb3, cu8 z0 ++ sp1, 5, (0, 0)⟩, ⟨nb4, [U64 (vQ z0 0 8), I64 (((vQ z0 8 1).toNat:Int)), SL none 0 0, U64 0, I64 0, U64 0, U64 0, I64 0, SL none 0 0, SL none 0 0, U64 0] ++ cu8 (zr8 16) ++ [U64 (vQ z0 9 8)], 31, (0, 0)⟩]
    refine AH (AB (AA (.bool (decide ((0:Int) < ((m:Int))))) (AR rfl rfl fun _ => CH _ _) rfl ?_))
    refine AI (AC (AH (B9 (decide ((0:Int) < ((m:Int)))) rfl (fun hb22 => ?_) (fun hb22 => ?_))))
    ·
     have hp22 : (0:Int) < ((m:Int)) := of_decide_eq_true hb22
     refine BF (AC (AH (B5 (DC 67 5 [(0, Ptr nb4 2), (1, SL none 0 0), (2, Ptr nb2 0)] CA rfl (by decide +kernel) ?_))))
     have hz6 : (zz5).length = zz5.length := rfl
     refine CW ⟨[], [0, 1, 2], [], [0, 1, 2], [3]⟩ 3 _ rfl rfl (by decide +kernel) rfl ⟨⟨_, rfl, AL rfl (AD 2 23 1 AX rfl B2 rfl rfl)⟩, ⟨_, rfl, AL rfl (AO rfl (A0 CQ (AU 3 rfl (AJ (AJ (AK (AK (Seg.head))))))))⟩, CG rfl rfl rfl, trivial⟩ rfl (BO rfl (A8 109 _ [false, true, false, false] [nb2] _ (AS [Ptr nb2 0, I64 4] CV rfl) rfl (fun w1 hw1 => E1 nb2 18 4 ao5 zz5.length ca5 z0 zz5 w1 (hw1.ent _ (List.mem_of_getElem? (i := 1) rfl)) rfl (by omega) (by omega) (by omega) ((fun w M h => hA5 w M ((fun w M h => hA4 w M ((fun w M h => hA2 w M ((fun w M h => hA1 w M ((fun _ _ h => h) w M h)) w M h)) w M h)) w M h)) _ _ (RdB.of hw1 (AU 2 rfl (AJ (AQ _))) (by intro _; simp only [List.mem_cons, List.not_mem_nil, or_false, not_or]; exact hw1.ne (i := 2) (j := 1) rfl rfl (by decide)))) hq5 (by unfold Szd; omega)))) ?_
     rintro v1 L1 ⟨_, ⟨rfl, ao6, zz6, ca6, hq6, ⟨hA6, hb23, hb24, hb25⟩, rfl⟩, rfl⟩
     refine ⟨[], ?_⟩
     show DP _ _ _ _ _ _ _ _ [_, _, _, ⟨nb2, [errV 50 (eQ z0 22), SL ao6 zz6.length ca6], 204, (0, 0)⟩]
     refine CW ⟨[3], [0, 1, 2], [2], [0, 1], [4]⟩ 4 _ rfl rfl (by decide +kernel) rfl ⟨⟨_, rfl, AL rfl (AD 2 23 1 AX rfl B2 rfl rfl)⟩, ⟨_, rfl, AL rfl (AO rfl (A0 CQ (AU 2 rfl (AJ (AJ (AK (AK (Seg.head))))))))⟩, trivial⟩ rfl (BO rfl (CR 22 1 _ [(0, U64 (vQ z0 18 4))] ([U64 (vQ z0 18 4)]) BX A9 Tryd.zeroValue22 rfl rfl rfl (by kernel_rfl))) ?_
     rintro v1 L1 ⟨nb5, hnb5, rfl, rfl⟩
     refine ⟨[], ?_⟩
     show DP _ _ _ _ _ _ _ _ [_, _, _, _, ⟨nb5, [U64 (vQ z0 18 4)], 22, (0, 0)⟩]
     refine CW ⟨[3, 4], [0, 1, 2], [2], [0, 1], [5]⟩ 5 _ rfl rfl (by decide +kernel) rfl ⟨⟨_, rfl, AL rfl (AD 2 23 1 AX rfl B2 rfl rfl)⟩, ⟨_, rfl, AL rfl (AO rfl (A0 CQ (AU 2 rfl (AJ (AJ (AK (AK (Seg.head))))))))⟩, trivial⟩ rfl (BO rfl (Step_appM64 23 22 [false, false, false, false, false] (SL none 0 0) 0 ([] : List UInt64) ([vQ z0 18 4]) (some ⟨nb5, 0, none⟩) 1 1 1 BX Tryd.info22 rfl (.inl ⟨rfl, rfl, rfl, rfl, by omega⟩) rfl (by simp) (SrcAt.mem (AU 4 rfl (Seg.head))) (by omega) (by unfold maxLen; omega) (by omega))) ?_
     rintro v1 L1 ⟨nb6, sp2, cp2, hg1, rfl, rfl, ha1, ha2, ha3, ha4⟩
     refine ⟨[(6, Ptr nb4 2)], ?_⟩
     show DP _ _ _ _ _ _ _ _ [_, _, _, _, _, ⟨nb6, cu64 (([] : List UInt64) ++ ([vQ z0 18 4])) ++ sp2, 22, (0, 0)⟩]
     refine EH ⟨[3, 4, 5], [0, 1, 2, 6], [0, 1, 2], [6], [7]⟩ 7 rfl rfl (by decide +kernel) rfl ⟨⟨_, rfl, AL rfl (AD 2 23 1 AX rfl B2 rfl rfl)⟩, trivial⟩ rfl (BO rfl (CS 2 nb4 2 1 ([U64 (vQ z0 0 8), I64 (((vQ z0 8 1).toNat:Int)), SL none 0 0, U64 0, I64 0, U64 0, U64 0, I64 0, SL none 0 0, SL none 0 0, U64 0] ++ cu8 (zr8 16) ++ [U64 (vQ z0 9 8)]) 31 (Slc nb6 0 1 cp2) ([Slc nb6 0 1 cp2]) ([U64 (vQ z0 0 8), I64 (((vQ z0 8 1).toNat:Int)), Slc nb6 0 1 cp2, U64 0, I64 0, U64 0, U64 0, I64 0, SL none 0 0, SL none 0 0, U64 0] ++ cu8 (zr8 16) ++ [U64 (vQ z0 9 8)]) rfl rfl rfl rfl B2 rfl (by simp [Value.oneCell']) (by simp [(AN 16)]) (EF (p := [U64 (vQ z0 0 8), I64 (((vQ z0 8 1).toNat:Int)), SL none 0 0, U64 0, I64 0, U64 0, U64 0, I64 0, SL none 0 0, SL none 0 0, U64 0] ++ cu8 (zr8 16)) (vs := [Slc nb6 0 1 cp2]) (o := 2) (by simp [(AN 16)]) (EF (p := [U64 (vQ z0 0 8), I64 (((vQ z0 8 1).toNat:Int)), SL none 0 0, U64 0, I64 0, U64 0, U64 0, I64 0, SL none 0 0, SL none 0 0, U64 0]) (vs := [Slc nb6 0 1 cp2]) (o := 2) (by simp []) (rfl))))) ?_
     show DP _ _ _ _ _ _ _ _ [_, _, ⟨nb4, [U64 (vQ z0 0 8), I64 (((vQ z0 8 1).toNat:Int)), Slc nb6 0 1 cp2, U64 0, I64 0, U64 0, U64 0, I64 0, SL none 0 0, SL none 0 0, U64 0] ++ cu8 (zr8 16) ++ [U64 (vQ z0 9 8)], 31, (0, 0)⟩, _, _, _]
     refine DU ⟨[3, 4, 5, 7], [0, 1, 2, 6], [0, 1, 2, 6], [], []⟩ rfl rfl (by decide +kernel) rfl trivial ?_
     refine C6 (F' := [(38, Ptr nb4 2), (39, SL none 0 0), (40, Ptr nb2 0), (41, U64 (vQ z0 18 4)), (42, Slc nb5 0 1 1), (43, Slc nb6 0 1 cp2), (44, Ptr nb4 2), (2, Ptr nb1 0), (3, .nilIface), (4, Ptr nb2 0), (5, Ptr nb4 0), (35, I64 m), (36, I64 0), (37, .bool (decide ((0:Int) < ((m:Int)))))]) (by kernel_rfl) ?_
     refine BS (AC (AB (AA (I64 1) (AR rfl rfl fun _ => DQ _ _ (1:Int) (by omega) (by omega)) rfl ?_)))
     refine AA _ (AF rfl) rfl ?_
     refine AI (D0 (B4 [true, true, true, true, false, true] ?_))
     show K _ _ [_, _, _, _, _] _
     refine EX [0, 3, 1, 2, 4] (by decide) ?_
     show K _ _ [_, _, _, _, _] _
     refine EV (.inr (1, ([] : List UInt64) ++ ([vQ z0 18 4]), nb6, sp2, cp2, ao6, zz6, ca6)) ⟨by omega, by omega, by rw [ixQ_one]; rfl, (ha1).trans (by first | rfl | simp +arith), (ha2).trans (by first | rfl | omega), by omega, by omega, hq6, (fun w M h => hA6 w M ((fun w M h => hA5 w M ((fun w M h => hA4 w M ((fun w M h => hA2 w M ((fun w M h => hA1 w M ((fun _ _ h => h) w M h)) w M h)) w M h)) w M h)) w M h)), by omega, by omega, by omega⟩ (by dsimp only; omega) (Sub.all rfl) rfl
    ·
     have hp22 : ¬ ((0:Int) < ((m:Int))) := of_decide_eq_false hb22
     refine ED (BJ (BJ (C1 (BS (AC (AH (AH (AB ?_))))))))
     refine AA _ (AF rfl) rfl ?_
     refine A7 (A2 63 [Ptr nb2 0] (errV 50 (endN (eQ z0 18) zz5.length)) (AS _ DZ rfl) (fun w1 hw1 => end_w nb2 (eQ z0 18) ao5 zz5.length ca5 w1 (RdA.of hw1 (AU 1 rfl (AQ _)) (by simp)))) rfl ?_
     show JL _ _ _ _ ((57, errV 50 (endN (eQ z0 18) zz5.length)) :: _) [_, _, _, _]
     refine AA (.bool (!(decide (endN (eQ z0 18) zz5.length = 0)))) (C7 _ _ _ rfl rfl (fun _ => B6 ..) fun _ => DJ BB _ _) rfl ?_
     refine AA _ (AF rfl) rfl ?_
     rcases Bool.eq_false_or_eq_true (decide (endN (eQ z0 18) zz5.length = 0)) with hb26 | hb26
     ·
      have hp26 : endN (eQ z0 18) zz5.length = 0 := of_decide_eq_true hb26
      refine AP 3 59 false _ (.agg ([U64 (vQ z0 0 8), I64 (((vQ z0 8 1).toNat:Int)), SL none 0 0, U64 0, I64 0, U64 0, U64 0, I64 0, SL none 0 0, SL none 0 0, U64 0] ++ cu8 (zr8 16) ++ [U64 (vQ z0 9 8)]).toArray) rfl rfl (bnotT hb26) (AO rfl (BU CY BV (by simp [(AN 16)]) (AU 3 rfl (AQ _)))) rfl ?_
      refine DL 3 59 false _ rfl rfl (bnotT hb26) (A2 22 [.agg ([U64 (vQ z0 0 8), I64 (((vQ z0 8 1).toNat:Int)), SL none 0 0, U64 0, I64 0, U64 0, U64 0, I64 0, SL none 0 0, SL none 0 0, U64 0] ++ cu8 (zr8 16) ++ [U64 (vQ z0 9 8)]).toArray] (.bool (reqR (((vQ z0 8 1).toNat:Int)) ([] : List UInt64) (0:UInt64) (0:Int) (vQ z0 9 8) (blankB (0:UInt64) (0:UInt64) (0:Int) ([] : List UInt64) ([] : List SealR) (0:UInt64) (zr8 16)) (decide (mayN (0:UInt64) (0:UInt64) (0:Int) ([] : List UInt64) ([] : List SealR) (0:UInt64) = 0)))) (AS _ Tryd.call22 rfl) (fun w1 hw1 => FA (vQ z0 0 8) (((vQ z0 8 1).toNat:Int)) none 0 0 ([] : List UInt64) (0:UInt64) (0:Int) (0:UInt64) (0:UInt64) (0:Int) none 0 0 ([] : List UInt64) none 0 0 ([] : List SealR) (0:UInt64) (zr8 16) (vQ z0 9 8) w1 rfl (by omega) (by omega) (by omega) RdV.nil rfl (by omega) (by omega) (by omega) RdV.nil rfl (by omega) (by omega) (by omega) RdV.nil (AN 16) (by omega) (by omega))) rfl ?_
      rintro v1 L1 ⟨rfl, rfl⟩
      show JL _ _ _ _ ((61, .bool (reqR (((vQ z0 8 1).toNat:Int)) ([] : List UInt64) (0:UInt64) (0:Int) (vQ z0 9 8) (blankB (0:UInt64) (0:UInt64) (0:Int) ([] : List UInt64) ([] : List SealR) (0:UInt64) (zr8 16)) (decide (mayN (0:UInt64) (0:UInt64) (0:Int) ([] : List UInt64) ([] : List SealR) (0:UInt64) = 0)))) :: _) [_, _, _, _]
      refine AP 3 59 false _ (.bool (!(reqR (((vQ z0 8 1).toNat:Int)) ([] : List UInt64) (0:UInt64) (0:Int) (vQ z0 9 8) (blankB (0:UInt64) (0:UInt64) (0:Int) ([] : List UInt64) ([] : List SealR) (0:UInt64) (zr8 16)) (decide (mayN (0:UInt64) (0:UInt64) (0:Int) ([] : List UInt64) ([] : List SealR) (0:UInt64) = 0))))) rfl rfl (bnotT hb26) (DG rfl) rfl ?_
      refine AA _ (A3 _ rfl (bnotT hb26) rfl) rfl ?_
      refine AI (AC (B3 _ rfl (bnotF (by rw [show ((vQ z0 8 1).toNat:Int) = (1:Int) from of_decide_eq_true hb18]; exact reqR_nil)) ?_))
      refine AH (AB (AA (.agg ([U64 0, I64 0, SL none 0 0, U64 0, I64 0, U64 0, U64 0, I64 0, SL none 0 0, SL none 0 0, U64 0] ++ cu8 (zr8 16) ++ [U64 0]).toArray) (CP [] _ rfl (fun _ => by kernel_rfl)) rfl ?_))
      refine AA (.iface 50 (I64 2)) (C9 BM rfl rfl) rfl ?_
      refine A7 (BQ 0 nb1 28 ([U64 0, I64 0, SL none 0 0, U64 0, I64 0, U64 0, U64 0, I64 0, SL none 0 0, SL none 0 0, U64 0] ++ cu8 (zr8 16) ++ [U64 0]) 31 ([U64 0, I64 0, SL none 0 0, U64 0, I64 0, U64 0, U64 0, I64 0, SL none 0 0, SL none 0 0, U64 0] ++ cu8 (zr8 16) ++ [U64 0]) rfl rfl rfl BV (by simp [(AN 16)]) (BY (BY (by simp [Value.oneCell']) CT) (by simp [Value.oneCell'])) (by simp [(AN 16)]) (BT (by simp [(AN 16), (AN 16)]))) rfl ?_
      show JL _ _ _ _ _ [⟨nb1, [U64 0, I64 0, SL none 0 0, U64 0, I64 0, U64 0, U64 0, I64 0, SL none 0 0, SL none 0 0, U64 0] ++ cu8 (zr8 16) ++ [U64 0], 31, (0, 0)⟩, _, _, _]
      refine AA _ (AE rfl) rfl ?_
      refine AI (AC (BI (A1 (BH (.tuple #[.agg ([U64 0, I64 0, SL none 0 0, U64 0, I64 0, U64 0, U64 0, I64 0, SL none 0 0, SL none 0 0, U64 0] ++ cu8 (zr8 16) ++ [U64 0]).toArray, .iface 50 (I64 2)]) (res2 D3 (DM rfl (BU CY BV (by simp [(AN 16)]) (AU 0 rfl (AQ _)))) (BC rfl)) fun w1 hw1 => ?_))))
      have hR := RqR.k1 (kQT (k := 1) (by decide) hb18)
      have he : 18 = z0.length := (FL hq5).1 (by have h9 := of_decide_eq_true hb26; omega)
      exact ⟨_, [], rfl, .inr ⟨BadRq.of hR (fun e => absurd e (by have h8 := mQ_eq z0; omega)), rfl, rfl⟩, hw1.sub (by simp) (by simp)⟩
     ·
      have hp26 : ¬ (endN (eQ z0 18) zz5.length = 0) := of_decide_eq_false hb26
      refine AG 3 59 false _ rfl rfl (bnotF hb26) rfl ?_
      refine AG 3 59 false _ rfl rfl (bnotF hb26) rfl ?_
      refine AG 3 59 false _ rfl rfl (bnotF hb26) rfl ?_
      refine AA _ (BD _ rfl (bnotF hb26) rfl) rfl ?_
      refine AI (AC (B3 _ rfl rfl ?_))
      refine AH (AB (AA (.agg ([U64 0, I64 0, SL none 0 0, U64 0, I64 0, U64 0, U64 0, I64 0, SL none 0 0, SL none 0 0, U64 0] ++ cu8 (zr8 16) ++ [U64 0]).toArray) (CP [] _ rfl (fun _ => by kernel_rfl)) rfl ?_))
      refine AA (.iface 50 (I64 2)) (C9 BM rfl rfl) rfl ?_
      refine A7 (BQ 0 nb1 28 ([U64 0, I64 0, SL none 0 0, U64 0, I64 0, U64 0, U64 0, I64 0, SL none 0 0, SL none 0 0, U64 0] ++ cu8 (zr8 16) ++ [U64 0]) 31 ([U64 0, I64 0, SL none 0 0, U64 0, I64 0, U64 0, U64 0, I64 0, SL none 0 0, SL none 0 0, U64 0] ++ cu8 (zr8 16) ++ [U64 0]) rfl rfl rfl BV (by simp [(AN 16)]) (BY (BY (by simp [Value.oneCell']) CT) (by simp [Value.oneCell'])) (by simp [(AN 16)]) (BT (by simp [(AN 16), (AN 16)]))) rfl ?_
      show JL _ _ _ _ _ [⟨nb1, [U64 0, I64 0, SL none 0 0, U64 0, I64 0, U64 0, U64 0, I64 0, SL none 0 0, SL none 0 0, U64 0] ++ cu8 (zr8 16) ++ [U64 0], 31, (0, 0)⟩, _, _, _]
      refine AA _ (AE rfl) rfl ?_
      refine AI (AC (BI (A1 (BH (.tuple #[.agg ([U64 0, I64 0, SL none 0 0, U64 0, I64 0, U64 0, U64 0, I64 0, SL none 0 0, SL none 0 0, U64 0] ++ cu8 (zr8 16) ++ [U64 0]).toArray, .iface 50 (I64 2)]) (res2 D3 (DM rfl (BU CY BV (by simp [(AN 16)]) (AU 0 rfl (AQ _)))) (BC rfl)) fun w1 hw1 => ?_))))
      have hR := RqR.k1 (kQT (k := 1) (by decide) hb18)
      have hne : 18 ≠ z0.length := fun e => (of_decide_eq_false hb26) ((FL hq5).2 e)
      exact ⟨_, [], rfl, .inr ⟨BadRq.of hR (fun e => absurd e (by have h8 := mQ_eq z0; omega)), rfl, rfl⟩, hw1.sub (by simp) (by simp)⟩
   ·
    obtain ⟨hi1, hi2, hi3, hi4, hi5, hi6, hi7, hi8, hi9, hi10, hi11, hi12⟩ := hx
    show JC _ _ _ [(2, Ptr nb1 0), (3, .nilIface), (4, Ptr nb2 0), (5, Ptr nb4 0), (35, I64 m), (36, I64 i)] [⟨nb1, [U64 0, I64 0, SL none 0 0, U64 0, I64 0, U64 0, U64 0, I64 0, SL none 0 0, SL none 0 0, U64 0] ++ cu8 (zr8 16) ++ [U64 0], 31, (0, 0)⟩, ⟨nb2, [errV 50 (eQ z0 (4*i + 18)), SL aa zz.length cc], 204, (0, 0)⟩, ⟨nb3, cu8 z0 ++ sp1, 5, (0, 0)⟩, ⟨nb4, [U64 (vQ z0 0 8), I64 (((vQ z0 8 1).toNat:Int)), Slc gb 0 i cp, U64 0, I64 0, U64 0, U64 0, I64 0, SL none 0 0, SL none 0 0, U64 0] ++ cu8 (zr8 16) ++ [U64 (vQ z0 9 8)], 31, (0, 0)⟩, ⟨gb, cu64 ll ++ sp, 22, (0, 0)⟩]
    refine AH (AB (AA (.bool (decide (((i:Int)) < ((m:Int))))) (AR rfl rfl fun _ => CH _ _) rfl ?_))
    refine AI (AC (AH (B9 (decide (((i:Int)) < ((m:Int)))) rfl (fun hb27 => ?_) (fun hb27 => ?_))))
    ·
     have hp27 : ((i:Int)) < ((m:Int)) := of_decide_eq_true hb27
     refine BF (AC (AH (B5 (DC 67 5 [(0, Ptr nb4 2), (1, Slc gb 0 i cp), (2, Ptr nb2 0)] CA rfl (by decide +kernel) ?_))))
     have hz7 : (zz).length = zz.length := rfl
     refine CW ⟨[], [0, 1, 2], [], [0, 1, 2], [3]⟩ 3 _ rfl rfl (by decide +kernel) rfl ⟨⟨_, rfl, AL rfl (AD 2 23 1 AX rfl B2 rfl rfl)⟩, ⟨_, rfl, AL rfl (AO rfl (A0 CQ (AU 3 rfl (AJ (AJ (AK (AK (Seg.head))))))))⟩, CG rfl rfl rfl, trivial⟩ rfl (BO rfl (A8 109 _ [false, true, false, false, false] [nb2] _ (AS [Ptr nb2 0, I64 4] CV rfl) rfl (fun w1 hw1 => E1 nb2 (4*i + 18) 4 aa zz.length cc z0 zz w1 (hw1.ent _ (List.mem_of_getElem? (i := 1) rfl)) rfl (by omega) (by omega) (by omega) (hi9 _ _ (RdB.of hw1 (AU 2 rfl (AJ (AQ _))) (by intro _; simp only [List.mem_cons, List.not_mem_nil, or_false, not_or]; exact hw1.ne (i := 2) (j := 1) rfl rfl (by decide)))) hi8 (by unfold Szd; omega)))) ?_
     rintro v1 L1 ⟨_, ⟨rfl, ao7, zz7, ca7, hq7, ⟨hA7, hb28, hb29, hb30⟩, rfl⟩, rfl⟩
     refine ⟨[], ?_⟩
     show DP _ _ _ _ _ _ _ _ [_, _, _, _, ⟨nb2, [errV 50 (eQ z0 (4*i + 22)), SL ao7 zz7.length ca7], 204, (0, 0)⟩]
     refine CW ⟨[3], [0, 1, 2], [2], [0, 1], [4]⟩ 4 _ rfl rfl (by decide +kernel) rfl ⟨⟨_, rfl, AL rfl (AD 2 23 1 AX rfl B2 rfl rfl)⟩, ⟨_, rfl, AL rfl (AO rfl (A0 CQ (AU 2 rfl (AJ (AJ (AK (AK (Seg.head))))))))⟩, trivial⟩ rfl (BO rfl (CR 22 1 _ [(0, U64 (vQ z0 (4*i + 18) 4))] ([U64 (vQ z0 (4*i + 18) 4)]) BX A9 Tryd.zeroValue22 rfl rfl rfl (by kernel_rfl))) ?_
     rintro v1 L1 ⟨nb7, hnb7, rfl, rfl⟩
     refine ⟨[], ?_⟩
     show DP _ _ _ _ _ _ _ _ [_, _, _, _, _, ⟨nb7, [U64 (vQ z0 (4*i + 18) 4)], 22, (0, 0)⟩]
     refine CW ⟨[3, 4], [0, 1, 2], [2], [0, 1], [5]⟩ 5 _ rfl rfl (by decide +kernel) rfl ⟨⟨_, rfl, AL rfl (AD 2 23 1 AX rfl B2 rfl rfl)⟩, ⟨_, rfl, AL rfl (AO rfl (A0 CQ (AU 2 rfl (AJ (AJ (AK (AK (Seg.head))))))))⟩, trivial⟩ rfl (BO rfl (Step_appM64 23 22 [false, false, false, true, false, false] (Slc gb 0 i cp) i ll ([vQ z0 (4*i + 18) 4]) (some ⟨nb7, 0, none⟩) 1 1 (i + 1) BX Tryd.info22 rfl (.inr ⟨gb, sp, cp, rfl, rfl, (by first | exact hi4 | simp [hi4]), hi5, (by omega), (by omega)⟩) rfl (by simp) (SrcAt.mem (AU 5 rfl (Seg.head))) (by omega) (by unfold maxLen; omega) (by omega))) ?_
     rintro v1 L1 ⟨nb8, sp3, cp3, hg2, rfl, rfl, ha5, ha6, ha7, ha8⟩
     refine ⟨[(6, Ptr nb4 2)], ?_⟩
     show DP _ _ _ _ _ _ _ _ [_, _, _, _, _, ⟨nb8, cu64 (ll ++ ([vQ z0 (4*i + 18) 4])) ++ sp3, 22, (0, 0)⟩]
     refine EH ⟨[3, 4, 5], [0, 1, 2, 6], [0, 1, 2], [6], [7]⟩ 7 rfl rfl (by decide +kernel) rfl ⟨⟨_, rfl, AL rfl (AD 2 23 1 AX rfl B2 rfl rfl)⟩, trivial⟩ rfl (BO rfl (CS 2 nb4 2 1 ([U64 (vQ z0 0 8), I64 (((vQ z0 8 1).toNat:Int)), Slc gb 0 i cp, U64 0, I64 0, U64 0, U64 0, I64 0, SL none 0 0, SL none 0 0, U64 0] ++ cu8 (zr8 16) ++ [U64 (vQ z0 9 8)]) 31 (Slc nb8 0 (i + 1) cp3) ([Slc nb8 0 (i + 1) cp3]) ([U64 (vQ z0 0 8), I64 (((vQ z0 8 1).toNat:Int)), Slc nb8 0 (i + 1) cp3, U64 0, I64 0, U64 0, U64 0, I64 0, SL none 0 0, SL none 0 0, U64 0] ++ cu8 (zr8 16) ++ [U64 (vQ z0 9 8)]) rfl rfl rfl rfl B2 rfl (by simp [Value.oneCell']) (by simp [(AN 16)]) (EF (p := [U64 (vQ z0 0 8), I64 (((vQ z0 8 1).toNat:Int)), Slc gb 0 i cp, U64 0, I64 0, U64 0, U64 0, I64 0, SL none 0 0, SL none 0 0, U64 0] ++ cu8 (zr8 16)) (vs := [Slc nb8 0 (i + 1) cp3]) (o := 2) (by simp [(AN 16)]) (EF (p := [U64 (vQ z0 0 8), I64 (((vQ z0 8 1).toNat:Int)), Slc gb 0 i cp, U64 0, I64 0, U64 0, U64 0, I64 0, SL none 0 0, SL none 0 0, U64 0]) (vs := [Slc nb8 0 (i + 1) cp3]) (o := 2) (by simp []) (rfl))))) ?_
     show DP _ _ _ _ _ _ _ _ [_, _, ⟨nb4, [U64 (vQ z0 0 8), I64 (((vQ z0 8 1).toNat:Int)), Slc nb8 0 (i + 1) cp3, U64 0, I64 0, U64 0, U64 0, I64 0, SL none 0 0, SL none 0 0, U64 0] ++ cu8 (zr8 16) ++ [U64 (vQ z0 9 8)], 31, (0, 0)⟩, _, _, _]
     refine DU ⟨[3, 4, 5, 7], [0, 1, 2, 6], [0, 1, 2, 6], [], []⟩ rfl rfl (by decide +kernel) rfl trivial ?_
     refine C6 (F' := [(38, Ptr nb4 2), (39, Slc gb 0 i cp), (40, Ptr nb2 0), (41, U64 (vQ z0 (4*i + 18) 4)), (42, Slc nb7 0 1 1), (43, Slc nb8 0 (i + 1) cp3), (44, Ptr nb4 2), (2, Ptr nb1 0), (3, .nilIface), (4, Ptr nb2 0), (5, Ptr nb4 0), (35, I64 m), (36, I64 i), (37, .bool (decide (((i:Int)) < ((m:Int)))))]) (by kernel_rfl) ?_
     refine BS (AC (AB (AA (I64 ((i:Int) + 1)) (AR rfl rfl fun _ => DQ _ _ ((i:Int) + 1) (by omega) (by omega)) rfl ?_)))
     refine AA _ (AF rfl) rfl ?_
     refine AI (D0 (B4 [true, true, true, true, false, true] ?_))
     show K _ _ [_, _, _, _, _] _
     refine EX [0, 3, 1, 2, 4] (by decide) ?_
     show K _ _ [_, _, _, _, _] _
     refine EV (.inr (i + 1, ll ++ ([vQ z0 (4*i + 18) 4]), nb8, sp3, cp3, ao7, zz7, ca7)) ⟨by omega, by omega, by rw [ixQ_succ, ← hi3, Nat.add_comm 18 (4*i)], (ha5).trans (by first | rfl | simp +arith), (ha6).trans (by first | rfl | omega), by omega, by omega, hq7, (fun w M h => hA7 w M (hi9 w M h)), by omega, by omega, by omega⟩ (by dsimp only; omega) (Sub.all rfl) rfl
    ·
     have hp27 : ¬ (((i:Int)) < ((m:Int))) := of_decide_eq_false hb27
     refine ED (BJ (BJ (C1 (BS (AC (AH (AH ?_)))))))
     have ei : m = i := by omega
     subst ei
     subst hi3
     show JC _ _ _ _ [⟨nb1, [U64 0, I64 0, SL none 0 0, U64 0, I64 0, U64 0, U64 0, I64 0, SL none 0 0, SL none 0 0, U64 0] ++ cu8 (zr8 16) ++ [U64 0], 31, (0, 0)⟩, ⟨nb2, [errV 50 (eQ z0 (4*m + 18)), SL aa zz.length cc], 204, (0, 0)⟩, ⟨nb3, cu8 z0 ++ sp1, 5, (0, 0)⟩, ⟨nb4, [U64 (vQ z0 0 8), I64 (((vQ z0 8 1).toNat:Int)), Slc gb 0 m cp, U64 0, I64 0, U64 0, U64 0, I64 0, SL none 0 0, SL none 0 0, U64 0] ++ cu8 (zr8 16) ++ [U64 (vQ z0 9 8)], 31, (0, 0)⟩, ⟨gb, cu64 (ixQ z0 18 m) ++ sp, 22, (0, 0)⟩]
     refine AB (AA _ (AF rfl) rfl ?_)
     refine A7 (A2 63 [Ptr nb2 0] (errV 50 (endN (eQ z0 (4*m + 18)) zz.length)) (AS _ DZ rfl) (fun w1 hw1 => end_w nb2 (eQ z0 (4*m + 18)) aa zz.length cc w1 (RdA.of hw1 (AU 1 rfl (AQ _)) (by simp)))) rfl ?_
     show JL _ _ _ _ ((57, errV 50 (endN (eQ z0 (4*m + 18)) zz.length)) :: _) [_, _, _, _, _]
     refine AA (.bool (!(decide (endN (eQ z0 (4*m + 18)) zz.length = 0)))) (C7 _ _ _ rfl rfl (fun _ => B6 ..) fun _ => DJ BB _ _) rfl ?_
     refine AA _ (AF rfl) rfl ?_
     rcases Bool.eq_false_or_eq_true (decide (endN (eQ z0 (4*m + 18)) zz.length = 0)) with hb31 | hb31
     ·
      have hp31 : endN (eQ z0 (4*m + 18)) zz.length = 0 := of_decide_eq_true hb31
      refine AP 3 59 false _ (.agg ([U64 (vQ z0 0 8), I64 (((vQ z0 8 1).toNat:Int)), Slc gb 0 m cp, U64 0, I64 0, U64 0, U64 0, I64 0, SL none 0 0, SL none 0 0, U64 0] ++ cu8 (zr8 16) ++ [U64 (vQ z0 9 8)]).toArray) rfl rfl (bnotT hb31) (AO rfl (BU CY BV (by simp [(AN 16)]) (AU 3 rfl (AQ _)))) rfl ?_
      refine DL 3 59 false _ rfl rfl (bnotT hb31) (A2 22 [.agg ([U64 (vQ z0 0 8), I64 (((vQ z0 8 1).toNat:Int)), Slc gb 0 m cp, U64 0, I64 0, U64 0, U64 0, I64 0, SL none 0 0, SL none 0 0, U64 0] ++ cu8 (zr8 16) ++ [U64 (vQ z0 9 8)]).toArray] (.bool (reqR (((vQ z0 8 1).toNat:Int)) (ixQ z0 18 m) (0:UInt64) (0:Int) (vQ z0 9 8) (blankB (0:UInt64) (0:UInt64) (0:Int) ([] : List UInt64) ([] : List SealR) (0:UInt64) (zr8 16)) (decide (mayN (0:UInt64) (0:UInt64) (0:Int) ([] : List UInt64) ([] : List SealR) (0:UInt64) = 0)))) (AS _ Tryd.call22 rfl) (fun w1 hw1 => FA (vQ z0 0 8) (((vQ z0 8 1).toNat:Int)) (some ⟨gb, 0, none⟩) m cp (ixQ z0 18 m) (0:UInt64) (0:Int) (0:UInt64) (0:UInt64) (0:Int) none 0 0 ([] : List UInt64) none 0 0 ([] : List SealR) (0:UInt64) (zr8 16) (vQ z0 9 8) w1 (FH _ _ _) (by omega) (by omega) (by omega) (RdV.of hw1 (AU 4 rfl (AJ (AQ _)))) rfl (by omega) (by omega) (by omega) RdV.nil rfl (by omega) (by omega) (by omega) RdV.nil (AN 16) (by omega) (by omega))) rfl ?_
      rintro v1 L1 ⟨rfl, rfl⟩
      show JL _ _ _ _ ((61, .bool (reqR (((vQ z0 8 1).toNat:Int)) (ixQ z0 18 m) (0:UInt64) (0:Int) (vQ z0 9 8) (blankB (0:UInt64) (0:UInt64) (0:Int) ([] : List UInt64) ([] : List SealR) (0:UInt64) (zr8 16)) (decide (mayN (0:UInt64) (0:UInt64) (0:Int) ([] : List UInt64) ([] : List SealR) (0:UInt64) = 0)))) :: _) [_, _, _, _, _]
      refine AP 3 59 false _ (.bool (!(reqR (((vQ z0 8 1).toNat:Int)) (ixQ z0 18 m) (0:UInt64) (0:Int) (vQ z0 9 8) (blankB (0:UInt64) (0:UInt64) (0:Int) ([] : List UInt64) ([] : List SealR) (0:UInt64) (zr8 16)) (decide (mayN (0:UInt64) (0:UInt64) (0:Int) ([] : List UInt64) ([] : List SealR) (0:UInt64) = 0))))) rfl rfl (bnotT hb31) (DG rfl) rfl ?_
      refine AA _ (A3 _ rfl (bnotT hb31) rfl) rfl ?_
      refine AI (AC (B9 (!(reqR (((vQ z0 8 1).toNat:Int)) (ixQ z0 18 m) (0:UInt64) (0:Int) (vQ z0 9 8) (blankB (0:UInt64) (0:UInt64) (0:Int) ([] : List UInt64) ([] : List SealR) (0:UInt64) (zr8 16)) (decide (mayN (0:UInt64) (0:UInt64) (0:Int) ([] : List UInt64) ([] : List SealR) (0:UInt64) = 0)))) rfl (fun hb32 => ?_) (fun hb32 => ?_)))
      ·
       have hb33 : (reqR (((vQ z0 8 1).toNat:Int)) (ixQ z0 18 m) (0:UInt64) (0:Int) (vQ z0 9 8) (blankB (0:UInt64) (0:UInt64) (0:Int) ([] : List UInt64) ([] : List SealR) (0:UInt64) (zr8 16)) (decide (mayN (0:UInt64) (0:UInt64) (0:Int) ([] : List UInt64) ([] : List SealR) (0:UInt64) = 0))) = false := by simpa using hb32
       refine AH (AB (AA (.agg ([U64 0, I64 0, SL none 0 0, U64 0, I64 0, U64 0, U64 0, I64 0, SL none 0 0, SL none 0 0, U64 0] ++ cu8 (zr8 16) ++ [U64 0]).toArray) (CP [] _ rfl (fun _ => by kernel_rfl)) rfl ?_))
       refine AA (.iface 50 (I64 2)) (C9 BM rfl rfl) rfl ?_
       refine A7 (BQ 0 nb1 28 ([U64 0, I64 0, SL none 0 0, U64 0, I64 0, U64 0, U64 0, I64 0, SL none 0 0, SL none 0 0, U64 0] ++ cu8 (zr8 16) ++ [U64 0]) 31 ([U64 0, I64 0, SL none 0 0, U64 0, I64 0, U64 0, U64 0, I64 0, SL none 0 0, SL none 0 0, U64 0] ++ cu8 (zr8 16) ++ [U64 0]) rfl rfl rfl BV (by simp [(AN 16)]) (BY (BY (by simp [Value.oneCell']) CT) (by simp [Value.oneCell'])) (by simp [(AN 16)]) (BT (by simp [(AN 16), (AN 16)]))) rfl ?_
       show JL _ _ _ _ _ [⟨nb1, [U64 0, I64 0, SL none 0 0, U64 0, I64 0, U64 0, U64 0, I64 0, SL none 0 0, SL none 0 0, U64 0] ++ cu8 (zr8 16) ++ [U64 0], 31, (0, 0)⟩, _, _, _, _]
       refine AA _ (AE rfl) rfl ?_
       refine AI (AC (BI (A1 (BH (.tuple #[.agg ([U64 0, I64 0, SL none 0 0, U64 0, I64 0, U64 0, U64 0, I64 0, SL none 0 0, SL none 0 0, U64 0] ++ cu8 (zr8 16) ++ [U64 0]).toArray, .iface 50 (I64 2)]) (res2 D3 (DM rfl (BU CY BV (by simp [(AN 16)]) (AU 0 rfl (AQ _)))) (BC rfl)) fun w1 hw1 => ?_))))
       have hR := RqR.k1 (kQT (k := 1) (by decide) hb18)
       have he : 4*m + 18 = z0.length := (FL hi8).1 (by have h9 := of_decide_eq_true hb31; omega)
       obtain rfl : m = mQ z0 := by omega
       exact ⟨_, [], rfl, .inr ⟨BadRq.of hR (fun _ => hb33), rfl, rfl⟩, hw1.sub (by simp) (by simp)⟩
      ·
       have hb34 : (reqR (((vQ z0 8 1).toNat:Int)) (ixQ z0 18 m) (0:UInt64) (0:Int) (vQ z0 9 8) (blankB (0:UInt64) (0:UInt64) (0:Int) ([] : List UInt64) ([] : List SealR) (0:UInt64) (zr8 16)) (decide (mayN (0:UInt64) (0:UInt64) (0:Int) ([] : List UInt64) ([] : List SealR) (0:UInt64) = 0))) = true := by simpa using hb32
       refine BF (AC (AH (AB (AA (.agg ([U64 (vQ z0 0 8), I64 (((vQ z0 8 1).toNat:Int)), Slc gb 0 m cp, U64 0, I64 0, U64 0, U64 0, I64 0, SL none 0 0, SL none 0 0, U64 0] ++ cu8 (zr8 16) ++ [U64 (vQ z0 9 8)]).toArray) (AO rfl (BU CY BV (by simp [(AN 16)]) (AU 3 rfl (AQ _)))) rfl ?_))))
       refine A7 (BQ 0 nb1 28 ([U64 0, I64 0, SL none 0 0, U64 0, I64 0, U64 0, U64 0, I64 0, SL none 0 0, SL none 0 0, U64 0] ++ cu8 (zr8 16) ++ [U64 0]) 31 ([U64 (vQ z0 0 8), I64 (((vQ z0 8 1).toNat:Int)), Slc gb 0 m cp, U64 0, I64 0, U64 0, U64 0, I64 0, SL none 0 0, SL none 0 0, U64 0] ++ cu8 (zr8 16) ++ [U64 (vQ z0 9 8)]) rfl rfl rfl BV (by simp [(AN 16)]) (BY (BY (by simp [Value.oneCell']) CT) (by simp [Value.oneCell'])) (by simp [(AN 16)]) (BT (by simp [(AN 16), (AN 16)]))) rfl ?_
       show JL _ _ _ _ _ [⟨nb1, [U64 (vQ z0 0 8), I64 (((vQ z0 8 1).toNat:Int)), Slc gb 0 m cp, U64 0, I64 0, U64 0, U64 0, I64 0, SL none 0 0, SL none 0 0, U64 0] ++ cu8 (zr8 16) ++ [U64 (vQ z0 9 8)], 31, (0, 0)⟩, _, _, _, _]
       refine AA _ (AE rfl) rfl ?_
       refine AI (AC (BI (BH (.tuple #[.agg ([U64 (vQ z0 0 8), I64 (((vQ z0 8 1).toNat:Int)), Slc gb 0 m cp, U64 0, I64 0, U64 0, U64 0, I64 0, SL none 0 0, SL none 0 0, U64 0] ++ cu8 (zr8 16) ++ [U64 (vQ z0 9 8)]).toArray, .nilIface]) (res2 D3 (DM rfl (BU CY BV (by simp [(AN 16)]) (AU 0 rfl (AQ _)))) (BC rfl)) fun w1 hw1 => ?_)))
       have hR := RqR.k1 (kQT (k := 1) (by decide) hb18)
       have he : 4*m + 18 = z0.length := (FL hi8).1 (by have h9 := of_decide_eq_true hb31; omega)
       obtain rfl : m = mQ z0 := by omega
       have hz9 : 4*mQ z0 + 18 = z0.length := by omega
       rw [hz9] at hR
       exact ⟨_, _, rfl, .inl ⟨_, _, (mQ z0), _, _, _, _, _, _, 0, _, 0, _, _, _, _, _, _, _, (some ⟨gb, 0, none⟩), cp, _, _, _, none, 0, _, _, _, none, 0, ⟨hR, hb34⟩, (FH _ _ _), rfl, rfl, (AN 16), (mQ_le z0), (by omega), (by omega), rfl, rfl, .inr ⟨rfl, _, rfl⟩, by first | omega | (unfold maxLen; omega), by first | omega | (unfold maxLen; omega), .inl rfl, by first | omega | (unfold maxLen; omega), by first | omega | (unfold maxLen; omega), .inl rfl, by first | omega | (unfold maxLen; omega), by first | omega | (unfold maxLen; omega)⟩, E0 hw1 4 3 1 rfl rfl rfl (by decide) (by decide) (by decide)⟩
     ·
      have hp31 : ¬ (endN (eQ z0 (4*m + 18)) zz.length = 0) := of_decide_eq_false hb31
      refine AG 3 59 false _ rfl rfl (bnotF hb31) rfl ?_
      refine AG 3 59 false _ rfl rfl (bnotF hb31) rfl ?_
      refine AG 3 59 false _ rfl rfl (bnotF hb31) rfl ?_
      refine AA _ (BD _ rfl (bnotF hb31) rfl) rfl ?_
      refine AI (AC (B3 _ rfl rfl ?_))
      refine AH (AB (AA (.agg ([U64 0, I64 0, SL none 0 0, U64 0, I64 0, U64 0, U64 0, I64 0, SL none 0 0, SL none 0 0, U64 0] ++ cu8 (zr8 16) ++ [U64 0]).toArray) (CP [] _ rfl (fun _ => by kernel_rfl)) rfl ?_))
      refine AA (.iface 50 (I64 2)) (C9 BM rfl rfl) rfl ?_
      refine A7 (BQ 0 nb1 28 ([U64 0, I64 0, SL none 0 0, U64 0, I64 0, U64 0, U64 0, I64 0, SL none 0 0, SL none 0 0, U64 0] ++ cu8 (zr8 16) ++ [U64 0]) 31 ([U64 0, I64 0, SL none 0 0, U64 0, I64 0, U64 0, U64 0, I64 0, SL none 0 0, SL none 0 0, U64 0] ++ cu8 (zr8 16) ++ [U64 0]) rfl rfl rfl BV (by simp [(AN 16)]) (BY (BY (by simp [Value.oneCell']) CT) (by simp [Value.oneCell'])) (by simp [(AN 16)]) (BT (by simp [(AN 16), (AN 16)]))) rfl ?_
      show JL _ _ _ _ _ [⟨nb1, [U64 0, I64 0, SL none 0 0, U64 0, I64 0, U64 0, U64 0, I64 0, SL none 0 0, SL none 0 0, U64 0] ++ cu8 (zr8 16) ++ [U64 0], 31, (0, 0)⟩, _, _, _, _]
      refine AA _ (AE rfl) rfl ?_
      refine AI (AC (BI (A1 (BH (.tuple #[.agg ([U64 0, I64 0, SL none 0 0, U64 0, I64 0, U64 0, U64 0, I64 0, SL none 0 0, SL none 0 0, U64 0] ++ cu8 (zr8 16) ++ [U64 0]).toArray, .iface 50 (I64 2)]) (res2 D3 (DM rfl (BU CY BV (by simp [(AN 16)]) (AU 0 rfl (AQ _)))) (BC rfl)) fun w1 hw1 => ?_))))
      have hR := RqR.k1 (kQT (k := 1) (by decide) hb18)
      have hne : 4*m + 18 ≠ z0.length := fun e => (of_decide_eq_false hb31) ((FL hi8).2 e)
      exact ⟨_, [], rfl, .inr ⟨BadRq.of hR (fun e => absurd e (by have h8 := mQ_eq z0; omega)), rfl, rfl⟩, hw1.sub (by simp) (by simp)⟩
  ·
   have hp18 : ¬ ((((vQ z0 8 1).toNat:Int)) = (1:Int)) := of_decide_eq_false hb18
   refine AH (AB (AA (.bool (decide ((((vQ z0 8 1).toNat:Int)) = (2:Int)))) (AR rfl rfl fun _ => BK _ _) rfl ?_))
   refine AA _ (AE rfl) rfl ?_
   refine AI (AC (B9 (decide ((((vQ z0 8 1).toNat:Int)) = (2:Int))) rfl (fun hb35 => ?_) (fun hb35 => ?_)))
   ·
    have hp35 : (((vQ z0 8 1).toNat:Int)) = (2:Int) := of_decide_eq_true hb35
    refine AH (AB (AA _ (AF rfl) rfl ?_))
    have hz8 : (zz4).length = zz4.length := rfl
    refine A4 (A8 109 _ [false, false, false, true] [nb2] _ (AS [Ptr nb2 0, I64 4] CV rfl) rfl (fun w1 hw1 => E1 nb2 17 4 ao4 zz4.length ca4 z0 zz4 w1 (hw1.ent _ (List.mem_of_getElem? (i := 3) rfl)) rfl (by omega) (by omega) (by omega) ((fun w M h => hA4 w M ((fun w M h => hA2 w M ((fun w M h => hA1 w M ((fun _ _ h => h) w M h)) w M h)) w M h)) _ _ (RdB.of hw1 (AU 1 rfl (AJ (AQ _))) (by intro _; simp only [List.mem_cons, List.not_mem_nil, or_false, not_or]; exact hw1.ne (i := 1) (j := 3) rfl rfl (by decide)))) hq4 (by unfold Szd; omega))) rfl ?_
    rintro v1 L1 ⟨_, ⟨rfl, ao8, zz8, ca8, hq8, ⟨hA8, hb36, hb37, hb38⟩, rfl⟩, rfl⟩
    show JL _ _ _ _ ((49, U64 (vQ z0 17 4)) :: _) [_, _, _, ⟨nb2, [errV 50 (eQ z0 21), SL ao8 zz8.length ca8], 204, (0, 0)⟩]
    refine AA (Ptr nb4 3) (AD 3 22 1 AX rfl A9 rfl rfl) rfl ?_
    refine A7 (CS 2 nb4 3 1 ([U64 (vQ z0 0 8), I64 (((vQ z0 8 1).toNat:Int)), SL none 0 0, U64 0, I64 0, U64 0, U64 0, I64 0, SL none 0 0, SL none 0 0, U64 0] ++ cu8 (zr8 16) ++ [U64 (vQ z0 9 8)]) 31 (U64 (vQ z0 17 4)) ([U64 (vQ z0 17 4)]) ([U64 (vQ z0 0 8), I64 (((vQ z0 8 1).toNat:Int)), SL none 0 0, U64 (vQ z0 17 4), I64 0, U64 0, U64 0, I64 0, SL none 0 0, SL none 0 0, U64 0] ++ cu8 (zr8 16) ++ [U64 (vQ z0 9 8)]) rfl rfl rfl rfl A9 rfl (by simp [Value.oneCell']) (by simp [(AN 16)]) (EF (p := [U64 (vQ z0 0 8), I64 (((vQ z0 8 1).toNat:Int)), SL none 0 0, U64 0, I64 0, U64 0, U64 0, I64 0, SL none 0 0, SL none 0 0, U64 0] ++ cu8 (zr8 16)) (vs := [U64 (vQ z0 17 4)]) (o := 3) (by simp [(AN 16)]) (EF (p := [U64 (vQ z0 0 8), I64 (((vQ z0 8 1).toNat:Int)), SL none 0 0, U64 0, I64 0, U64 0, U64 0, I64 0, SL none 0 0, SL none 0 0, U64 0]) (vs := [U64 (vQ z0 17 4)]) (o := 3) (by simp []) (rfl)))) rfl ?_
    show JL _ _ _ _ _ [_, _, ⟨nb4, [U64 (vQ z0 0 8), I64 (((vQ z0 8 1).toNat:Int)), SL none 0 0, U64 (vQ z0 17 4), I64 0, U64 0, U64 0, I64 0, SL none 0 0, SL none 0 0, U64 0] ++ cu8 (zr8 16) ++ [U64 (vQ z0 9 8)], 31, (0, 0)⟩, _]
    refine AI (AC (AB (AA _ (AF rfl) rfl ?_)))
    have hz9 : (zz8).length = zz8.length := rfl
    refine A4 (A8 109 _ [false, false, false, true] [nb2] _ (AS [Ptr nb2 0, I64 1] CV rfl) rfl (fun w1 hw1 => E1 nb2 21 1 ao8 zz8.length ca8 z0 zz8 w1 (hw1.ent _ (List.mem_of_getElem? (i := 3) rfl)) rfl (by omega) (by omega) (by omega) ((fun w M h => hA8 w M ((fun w M h => hA4 w M ((fun w M h => hA2 w M ((fun w M h => hA1 w M ((fun _ _ h => h) w M h)) w M h)) w M h)) w M h)) _ _ (RdB.of hw1 (AU 1 rfl (AJ (AQ _))) (by intro _; simp only [List.mem_cons, List.not_mem_nil, or_false, not_or]; exact hw1.ne (i := 1) (j := 3) rfl rfl (by decide)))) hq8 (by unfold Szd; omega))) rfl ?_
    rintro v1 L1 ⟨_, ⟨rfl, ao9, zz9, ca9, hq9, ⟨hA9, hb39, hb40, hb41⟩, rfl⟩, rfl⟩
    show JL _ _ _ _ ((52, U64 (vQ z0 21 1)) :: _) [_, _, _, ⟨nb2, [errV 50 (eQ z0 22), SL ao9 zz9.length ca9], 204, (0, 0)⟩]
    refine AA (I64 (((vQ z0 21 1).toNat:Int))) (CM _ _ rfl fun _ => ER (by rw [AW]; rfl) A6 (vQ z0 21 1) _ rfl (by omega)) rfl ?_
    refine AA (I64 (((vQ z0 21 1).toNat:Int) + 1)) (AR rfl rfl fun _ => DQ _ _ (((vQ z0 21 1).toNat:Int) + 1) (by omega) (by omega)) rfl ?_
    refine AA (Ptr nb4 4) (AD 4 3 1 AX rfl AT rfl rfl) rfl ?_
    refine A7 (CS 2 nb4 4 1 ([U64 (vQ z0 0 8), I64 (((vQ z0 8 1).toNat:Int)), SL none 0 0, U64 (vQ z0 17 4), I64 0, U64 0, U64 0, I64 0, SL none 0 0, SL none 0 0, U64 0] ++ cu8 (zr8 16) ++ [U64 (vQ z0 9 8)]) 31 (I64 (((vQ z0 21 1).toNat:Int) + 1)) ([I64 (((vQ z0 21 1).toNat:Int) + 1)]) ([U64 (vQ z0 0 8), I64 (((vQ z0 8 1).toNat:Int)), SL none 0 0, U64 (vQ z0 17 4), I64 (((vQ z0 21 1).toNat:Int) + 1), U64 0, U64 0, I64 0, SL none 0 0, SL none 0 0, U64 0] ++ cu8 (zr8 16) ++ [U64 (vQ z0 9 8)]) rfl rfl rfl rfl AT rfl (by simp [Value.oneCell']) (by simp [(AN 16)]) (EF (p := [U64 (vQ z0 0 8), I64 (((vQ z0 8 1).toNat:Int)), SL none 0 0, U64 (vQ z0 17 4), I64 0, U64 0, U64 0, I64 0, SL none 0 0, SL none 0 0, U64 0] ++ cu8 (zr8 16)) (vs := [I64 (((vQ z0 21 1).toNat:Int) + 1)]) (o := 4) (by simp [(AN 16)]) (EF (p := [U64 (vQ z0 0 8), I64 (((vQ z0 8 1).toNat:Int)), SL none 0 0, U64 (vQ z0 17 4), I64 0, U64 0, U64 0, I64 0, SL none 0 0, SL none 0 0, U64 0]) (vs := [I64 (((vQ z0 21 1).toNat:Int) + 1)]) (o := 4) (by simp []) (rfl)))) rfl ?_
    show JL _ _ _ _ _ [_, _, ⟨nb4, [U64 (vQ z0 0 8), I64 (((vQ z0 8 1).toNat:Int)), SL none 0 0, U64 (vQ z0 17 4), I64 (((vQ z0 21 1).toNat:Int) + 1), U64 0, U64 0, I64 0, SL none 0 0, SL none 0 0, U64 0] ++ cu8 (zr8 16) ++ [U64 (vQ z0 9 8)], 31, (0, 0)⟩, _]
    refine AI (BS (AC (AH (AH (AB (AA _ (AF rfl) rfl ?_))))))
    refine A7 (A2 63 [Ptr nb2 0] (errV 50 (endN (eQ z0 22) zz9.length)) (AS _ DZ rfl) (fun w1 hw1 => end_w nb2 (eQ z0 22) ao9 zz9.length ca9 w1 (RdA.of hw1 (AU 3 rfl (AQ _)) (by simp)))) rfl ?_
    show JL _ _ _ _ ((57, errV 50 (endN (eQ z0 22) zz9.length)) :: _) [_, _, _, _]
    refine AA (.bool (!(decide (endN (eQ z0 22) zz9.length = 0)))) (C7 _ _ _ rfl rfl (fun _ => B6 ..) fun _ => DJ BB _ _) rfl ?_
    refine AA _ (AF rfl) rfl ?_
    rcases Bool.eq_false_or_eq_true (decide (endN (eQ z0 22) zz9.length = 0)) with hb42 | hb42
    ·
     have hp42 : endN (eQ z0 22) zz9.length = 0 := of_decide_eq_true hb42
     refine AP 3 59 false _ (.agg ([U64 (vQ z0 0 8), I64 (((vQ z0 8 1).toNat:Int)), SL none 0 0, U64 (vQ z0 17 4), I64 (((vQ z0 21 1).toNat:Int) + 1), U64 0, U64 0, I64 0, SL none 0 0, SL none 0 0, U64 0] ++ cu8 (zr8 16) ++ [U64 (vQ z0 9 8)]).toArray) rfl rfl (bnotT hb42) (AO rfl (BU CY BV (by simp [(AN 16)]) (AU 2 rfl (AQ _)))) rfl ?_
     refine DL 3 59 false _ rfl rfl (bnotT hb42) (A2 22 [.agg ([U64 (vQ z0 0 8), I64 (((vQ z0 8 1).toNat:Int)), SL none 0 0, U64 (vQ z0 17 4), I64 (((vQ z0 21 1).toNat:Int) + 1), U64 0, U64 0, I64 0, SL none 0 0, SL none 0 0, U64 0] ++ cu8 (zr8 16) ++ [U64 (vQ z0 9 8)]).toArray] (.bool (reqR (((vQ z0 8 1).toNat:Int)) ([] : List UInt64) (vQ z0 17 4) (((vQ z0 21 1).toNat:Int) + 1) (vQ z0 9 8) (blankB (0:UInt64) (0:UInt64) (0:Int) ([] : List UInt64) ([] : List SealR) (0:UInt64) (zr8 16)) (decide (mayN (0:UInt64) (0:UInt64) (0:Int) ([] : List UInt64) ([] : List SealR) (0:UInt64) = 0)))) (AS _ Tryd.call22 rfl) (fun w1 hw1 => FA (vQ z0 0 8) (((vQ z0 8 1).toNat:Int)) none 0 0 ([] : List UInt64) (vQ z0 17 4) (((vQ z0 21 1).toNat:Int) + 1) (0:UInt64) (0:UInt64) (0:Int) none 0 0 ([] : List UInt64) none 0 0 ([] : List SealR) (0:UInt64) (zr8 16) (vQ z0 9 8) w1 rfl (by omega) (by omega) (by omega) RdV.nil rfl (by omega) (by omega) (by omega) RdV.nil rfl (by omega) (by omega) (by omega) RdV.nil (AN 16) (by omega) (by omega))) rfl ?_
     rintro v1 L1 ⟨rfl, rfl⟩
     show JL _ _ _ _ ((61, .bool (reqR (((vQ z0 8 1).toNat:Int)) ([] : List UInt64) (vQ z0 17 4) (((vQ z0 21 1).toNat:Int) + 1) (vQ z0 9 8) (blankB (0:UInt64) (0:UInt64) (0:Int) ([] : List UInt64) ([] : List SealR) (0:UInt64) (zr8 16)) (decide (mayN (0:UInt64) (0:UInt64) (0:Int) ([] : List UInt64) ([] : List SealR) (0:UInt64) = 0)))) :: _) [_, _, _, _]
     refine AP 3 59 false _ (.bool (!(reqR (((vQ z0 8 1).toNat:Int)) ([] : List UInt64) (vQ z0 17 4) (((vQ z0 21 1).toNat:Int) + 1) (vQ z0 9 8) (blankB (0:UInt64) (0:UInt64) (0:Int) ([] : List UInt64) ([] : List SealR) (0:UInt64) (zr8 16)) (decide (mayN (0:UInt64) (0:UInt64) (0:Int) ([] : List UInt64) ([] : List SealR) (0:UInt64) = 0))))) rfl rfl (bnotT hb42) (DG rfl) rfl ?_
     refine AA _ (A3 _ rfl (bnotT hb42) rfl) rfl ?_
     refine AI (AC (B9 (!(reqR (((vQ z0 8 1).toNat:Int)) ([] : List UInt64) (vQ z0 17 4) (((vQ z0 21 1).toNat:Int) + 1) (vQ z0 9 8) (blankB (0:UInt64) (0:UInt64) (0:Int) ([] : List UInt64) ([] : List SealR) (0:UInt64) (zr8 16)) (decide (mayN (0:UInt64) (0:UInt64) (0:Int) ([] : List UInt64) ([] : List SealR) (0:UInt64) = 0)))) rfl (fun hb43 => ?_) (fun hb43 => ?_)))
     ·
      have hb44 : (reqR (((vQ z0 8 1).toNat:Int)) ([] : List UInt64) (vQ z0 17 4) (((vQ z0 21 1).toNat:Int) + 1) (vQ z0 9 8) (blankB (0:UInt64) (0:UInt64) (0:Int) ([] : List UInt64) ([] : List SealR) (0:UInt64) (zr8 16)) (decide (mayN (0:UInt64) (0:UInt64) (0:Int) ([] : List UInt64) ([] : List SealR) (0:UInt64) = 0))) = false := by simpa using hb43
      refine AH (AB (AA (.agg ([U64 0, I64 0, SL none 0 0, U64 0, I64 0, U64 0, U64 0, I64 0, SL none 0 0, SL none 0 0, U64 0] ++ cu8 (zr8 16) ++ [U64 0]).toArray) (CP [] _ rfl (fun _ => by kernel_rfl)) rfl ?_))
      refine AA (.iface 50 (I64 2)) (C9 BM rfl rfl) rfl ?_
      refine A7 (BQ 0 nb1 28 ([U64 0, I64 0, SL none 0 0, U64 0, I64 0, U64 0, U64 0, I64 0, SL none 0 0, SL none 0 0, U64 0] ++ cu8 (zr8 16) ++ [U64 0]) 31 ([U64 0, I64 0, SL none 0 0, U64 0, I64 0, U64 0, U64 0, I64 0, SL none 0 0, SL none 0 0, U64 0] ++ cu8 (zr8 16) ++ [U64 0]) rfl rfl rfl BV (by simp [(AN 16)]) (BY (BY (by simp [Value.oneCell']) CT) (by simp [Value.oneCell'])) (by simp [(AN 16)]) (BT (by simp [(AN 16), (AN 16)]))) rfl ?_
      show JL _ _ _ _ _ [⟨nb1, [U64 0, I64 0, SL none 0 0, U64 0, I64 0, U64 0, U64 0, I64 0, SL none 0 0, SL none 0 0, U64 0] ++ cu8 (zr8 16) ++ [U64 0], 31, (0, 0)⟩, _, _, _]
      refine AA _ (AE rfl) rfl ?_
      refine AI (AC (BI (A1 (BH (.tuple #[.agg ([U64 0, I64 0, SL none 0 0, U64 0, I64 0, U64 0, U64 0, I64 0, SL none 0 0, SL none 0 0, U64 0] ++ cu8 (zr8 16) ++ [U64 0]).toArray, .iface 50 (I64 2)]) (res2 D3 (DM rfl (BU CY BV (by simp [(AN 16)]) (AU 0 rfl (AQ _)))) (BC rfl)) fun w1 hw1 => ?_))))
      have hR := RqR.k2 (kQT (k := 2) (by decide) hb35)
      have he : 22 = z0.length := (FL hq9).1 (by have h9 := of_decide_eq_true hb42; omega)
      exact ⟨_, [], rfl, .inr ⟨BadRq.of hR (fun _ => hb44), rfl, rfl⟩, hw1.sub (by simp) (by simp)⟩
     ·
      have hb45 : (reqR (((vQ z0 8 1).toNat:Int)) ([] : List UInt64) (vQ z0 17 4) (((vQ z0 21 1).toNat:Int) + 1) (vQ z0 9 8) (blankB (0:UInt64) (0:UInt64) (0:Int) ([] : List UInt64) ([] : List SealR) (0:UInt64) (zr8 16)) (decide (mayN (0:UInt64) (0:UInt64) (0:Int) ([] : List UInt64) ([] : List SealR) (0:UInt64) = 0))) = true := by simpa using hb43
      refine BF (AC (AH (AB (AA (.agg ([U64 (vQ z0 0 8), I64 (((vQ z0 8 1).toNat:Int)), SL none 0 0, U64 (vQ z0 17 4), I64 (((vQ z0 21 1).toNat:Int) + 1), U64 0, U64 0, I64 0, SL none 0 0, SL none 0 0, U64 0] ++ cu8 (zr8 16) ++ [U64 (vQ z0 9 8)]).toArray) (AO rfl (BU CY BV (by simp [(AN 16)]) (AU 2 rfl (AQ _)))) rfl ?_))))
      refine A7 (BQ 0 nb1 28 ([U64 0, I64 0, SL none 0 0, U64 0, I64 0, U64 0, U64 0, I64 0, SL none 0 0, SL none 0 0, U64 0] ++ cu8 (zr8 16) ++ [U64 0]) 31 ([U64 (vQ z0 0 8), I64 (((vQ z0 8 1).toNat:Int)), SL none 0 0, U64 (vQ z0 17 4), I64 (((vQ z0 21 1).toNat:Int) + 1), U64 0, U64 0, I64 0, SL none 0 0, SL none 0 0, U64 0] ++ cu8 (zr8 16) ++ [U64 (vQ z0 9 8)]) rfl rfl rfl BV (by simp [(AN 16)]) (BY (BY (by simp [Value.oneCell']) CT) (by simp [Value.oneCell'])) (by simp [(AN 16)]) (BT (by simp [(AN 16), (AN 16)]))) rfl ?_
      show JL _ _ _ _ _ [⟨nb1, [U64 (vQ z0 0 8), I64 (((vQ z0 8 1).toNat:Int)), SL none 0 0, U64 (vQ z0 17 4), I64 (((vQ z0 21 1).toNat:Int) + 1), U64 0, U64 0, I64 0, SL none 0 0, SL none 0 0, U64 0] ++ cu8 (zr8 16) ++ [U64 (vQ z0 9 8)], 31, (0, 0)⟩, _, _, _]
      refine AA _ (AE rfl) rfl ?_
      refine AI (AC (BI (BH (.tuple #[.agg ([U64 (vQ z0 0 8), I64 (((vQ z0 8 1).toNat:Int)), SL none 0 0, U64 (vQ z0 17 4), I64 (((vQ z0 21 1).toNat:Int) + 1), U64 0, U64 0, I64 0, SL none 0 0, SL none 0 0, U64 0] ++ cu8 (zr8 16) ++ [U64 (vQ z0 9 8)]).toArray, .nilIface]) (res2 D3 (DM rfl (BU CY BV (by simp [(AN 16)]) (AU 0 rfl (AQ _)))) (BC rfl)) fun w1 hw1 => ?_)))
      have hR := RqR.k2 (kQT (k := 2) (by decide) hb35)
      have he : 22 = z0.length := (FL hq9).1 (by have h9 := of_decide_eq_true hb42; omega)
      have hz9 : 22 = z0.length := by omega
      rw [hz9] at hR
      exact ⟨_, _, rfl, .inl ⟨_, _, 0, _, _, _, _, _, _, 0, _, 0, _, _, _, _, _, _, _, none, 0, _, _, _, none, 0, _, _, _, none, 0, ⟨hR, hb45⟩, rfl, rfl, rfl, (AN 16), (by omega), (by omega), (by omega), rfl, rfl, .inl rfl, by first | omega | (unfold maxLen; omega), by first | omega | (unfold maxLen; omega), .inl rfl, by first | omega | (unfold maxLen; omega), by first | omega | (unfold maxLen; omega), .inl rfl, by first | omega | (unfold maxLen; omega), by first | omega | (unfold maxLen; omega)⟩, E0 hw1 3 2 0 rfl rfl rfl (by decide) (by decide) (by decide)⟩
    ·
     have hp42 : ¬ (endN (eQ z0 22) zz9.length = 0) := of_decide_eq_false hb42
     refine AG 3 59 false _ rfl rfl (bnotF hb42) rfl ?_
     refine AG 3 59 false _ rfl rfl (bnotF hb42) rfl ?_
     refine AG 3 59 false _ rfl rfl (bnotF hb42) rfl ?_
     refine AA _ (BD _ rfl (bnotF hb42) rfl) rfl ?_
     refine AI (AC (B3 _ rfl rfl ?_))
     refine AH (AB (AA (.agg ([U64 0, I64 0, SL none 0 0, U64 0, I64 0, U64 0, U64 0, I64 0, SL none 0 0, SL none 0 0, U64 0] ++ cu8 (zr8 16) ++ [U64 0]).toArray) (CP [] _ rfl (fun _ => by kernel_rfl)) rfl ?_))
     refine AA (.iface 50 (I64 2)) (C9 BM rfl rfl) rfl ?_
     refine A7 (BQ 0 nb1 28 ([U64 0, I64 0, SL none 0 0, U64 0, I64 0, U64 0, U64 0, I64 0, SL none 0 0, SL none 0 0, U64 0] ++ cu8 (zr8 16) ++ [U64 0]) 31 ([U64 0, I64 0, SL none 0 0, U64 0, I64 0, U64 0, U64 0, I64 0, SL none 0 0, SL none 0 0, U64 0] ++ cu8 (zr8 16) ++ [U64 0]) rfl rfl rfl BV (by simp [(AN 16)]) (BY (BY (by simp [Value.oneCell']) CT) (by simp [Value.oneCell'])) (by simp [(AN 16)]) (BT (by simp [(AN 16), (AN 16)]))) rfl ?_
     show JL _ _ _ _ _ [⟨nb1, [U64 0, I64 0, SL none 0 0, U64 0, I64 0, U64 0, U64 0, I64 0, SL none 0 0, SL none 0 0, U64 0] ++ cu8 (zr8 16) ++ [U64 0], 31, (0, 0)⟩, _, _, _]
     refine AA _ (AE rfl) rfl ?_
     refine AI (AC (BI (A1 (BH (.tuple #[.agg ([U64 0, I64 0, SL none 0 0, U64 0, I64 0, U64 0, U64 0, I64 0, SL none 0 0, SL none 0 0, U64 0] ++ cu8 (zr8 16) ++ [U64 0]).toArray, .iface 50 (I64 2)]) (res2 D3 (DM rfl (BU CY BV (by simp [(AN 16)]) (AU 0 rfl (AQ _)))) (BC rfl)) fun w1 hw1 => ?_))))
     have hR := RqR.k2 (kQT (k := 2) (by decide) hb35)
     have hne : 22 ≠ z0.length := fun e => (of_decide_eq_false hb42) ((FL hq9).2 e)
     exact ⟨_, [], rfl, .inr ⟨BadRq.of hR (fun e => absurd e (by omega)), rfl, rfl⟩, hw1.sub (by simp) (by simp)⟩
   ·
    have hp35 : ¬ ((((vQ z0 8 1).toNat:Int)) = (2:Int)) := of_decide_eq_false hb35
    refine BF (BS (AC (AH (AH (AB (AA _ (AF rfl) rfl ?_))))))
    refine A7 (A2 63 [Ptr nb2 0] (errV 50 (endN (eQ z0 17) zz4.length)) (AS _ DZ rfl) (fun w1 hw1 => end_w nb2 (eQ z0 17) ao4 zz4.length ca4 w1 (RdA.of hw1 (AU 3 rfl (AQ _)) (by simp)))) rfl ?_
    show JL _ _ _ _ ((57, errV 50 (endN (eQ z0 17) zz4.length)) :: _) [_, _, _, _]
    refine AA (.bool (!(decide (endN (eQ z0 17) zz4.length = 0)))) (C7 _ _ _ rfl rfl (fun _ => B6 ..) fun _ => DJ BB _ _) rfl ?_
    refine AA _ (AF rfl) rfl ?_
    rcases Bool.eq_false_or_eq_true (decide (endN (eQ z0 17) zz4.length = 0)) with hb46 | hb46
    ·
     have hp46 : endN (eQ z0 17) zz4.length = 0 := of_decide_eq_true hb46
     refine AP 3 59 false _ (.agg ([U64 (vQ z0 0 8), I64 (((vQ z0 8 1).toNat:Int)), SL none 0 0, U64 0, I64 0, U64 0, U64 0, I64 0, SL none 0 0, SL none 0 0, U64 0] ++ cu8 (zr8 16) ++ [U64 (vQ z0 9 8)]).toArray) rfl rfl (bnotT hb46) (AO rfl (BU CY BV (by simp [(AN 16)]) (AU 2 rfl (AQ _)))) rfl ?_
     refine DL 3 59 false _ rfl rfl (bnotT hb46) (A2 22 [.agg ([U64 (vQ z0 0 8), I64 (((vQ z0 8 1).toNat:Int)), SL none 0 0, U64 0, I64 0, U64 0, U64 0, I64 0, SL none 0 0, SL none 0 0, U64 0] ++ cu8 (zr8 16) ++ [U64 (vQ z0 9 8)]).toArray] (.bool (reqR (((vQ z0 8 1).toNat:Int)) ([] : List UInt64) (0:UInt64) (0:Int) (vQ z0 9 8) (blankB (0:UInt64) (0:UInt64) (0:Int) ([] : List UInt64) ([] : List SealR) (0:UInt64) (zr8 16)) (decide (mayN (0:UInt64) (0:UInt64) (0:Int) ([] : List UInt64) ([] : List SealR) (0:UInt64) = 0)))) (AS _ Tryd.call22 rfl) (fun w1 hw1 => FA (vQ z0 0 8) (((vQ z0 8 1).toNat:Int)) none 0 0 ([] : List UInt64) (0:UInt64) (0:Int) (0:UInt64) (0:UInt64) (0:Int) none 0 0 ([] : List UInt64) none 0 0 ([] : List SealR) (0:UInt64) (zr8 16) (vQ z0 9 8) w1 rfl (by omega) (by omega) (by omega) RdV.nil rfl (by omega) (by omega) (by omega) RdV.nil rfl (by omega) (by omega) (by omega) RdV.nil (AN 16) (by omega) (by omega))) rfl ?_
     rintro v1 L1 ⟨rfl, rfl⟩
     show JL _ _ _ _ ((61, .bool (reqR (((vQ z0 8 1).toNat:Int)) ([] : List UInt64) (0:UInt64) (0:Int) (vQ z0 9 8) (blankB (0:UInt64) (0:UInt64) (0:Int) ([] : List UInt64) ([] : List SealR) (0:UInt64) (zr8 16)) (decide (mayN (0:UInt64) (0:UInt64) (0:Int) ([] : List UInt64) ([] : List SealR) (0:UInt64) = 0)))) :: _) [_, _, _, _]
     refine AP 3 59 false _ (.bool (!(reqR (((vQ z0 8 1).toNat:Int)) ([] : List UInt64) (0:UInt64) (0:Int) (vQ z0 9 8) (blankB (0:UInt64) (0:UInt64) (0:Int) ([] : List UInt64) ([] : List SealR) (0:UInt64) (zr8 16)) (decide (mayN (0:UInt64) (0:UInt64) (0:Int) ([] : List UInt64) ([] : List SealR) (0:UInt64) = 0))))) rfl rfl (bnotT hb46) (DG rfl) rfl ?_
     refine AA _ (A3 _ rfl (bnotT hb46) rfl) rfl ?_
     refine AI (AC (B9 (!(reqR (((vQ z0 8 1).toNat:Int)) ([] : List UInt64) (0:UInt64) (0:Int) (vQ z0 9 8) (blankB (0:UInt64) (0:UInt64) (0:Int) ([] : List UInt64) ([] : List SealR) (0:UInt64) (zr8 16)) (decide (mayN (0:UInt64) (0:UInt64) (0:Int) ([] : List UInt64) ([] : List SealR) (0:UInt64) = 0)))) rfl (fun hb47 => ?_) (fun hb47 => ?_)))
     ·
      have hb48 : (reqR (((vQ z0 8 1).toNat:Int)) ([] : List UInt64) (0:UInt64) (0:Int) (vQ z0 9 8) (blankB (0:UInt64) (0:UInt64) (0:Int) ([] : List UInt64) ([] : List SealR) (0:UInt64) (zr8 16)) (decide (mayN (0:UInt64) (0:UInt64) (0:Int) ([] : List UInt64) ([] : List SealR) (0:UInt64) = 0))) = false := by simpa using hb47
      refine AH (AB (AA (.agg ([U64 0, I64 0, SL none 0 0, U64 0, I64 0, U64 0, U64 0, I64 0, SL none 0 0, SL none 0 0, U64 0] ++ cu8 (zr8 16) ++ [U64 0]).toArray) (CP [] _ rfl (fun _ => by kernel_rfl)) rfl ?_))
      refine AA (.iface 50 (I64 2)) (C9 BM rfl rfl) rfl ?_
      refine A7 (BQ 0 nb1 28 ([U64 0, I64 0, SL none 0 0, U64 0, I64 0, U64 0, U64 0, I64 0, SL none 0 0, SL none 0 0, U64 0] ++ cu8 (zr8 16) ++ [U64 0]) 31 ([U64 0, I64 0, SL none 0 0, U64 0, I64 0, U64 0, U64 0, I64 0, SL none 0 0, SL none 0 0, U64 0] ++ cu8 (zr8 16) ++ [U64 0]) rfl rfl rfl BV (by simp [(AN 16)]) (BY (BY (by simp [Value.oneCell']) CT) (by simp [Value.oneCell'])) (by simp [(AN 16)]) (BT (by simp [(AN 16), (AN 16)]))) rfl ?_
      show JL _ _ _ _ _ [⟨nb1, [U64 0, I64 0, SL none 0 0, U64 0, I64 0, U64 0, U64 0, I64 0, SL none 0 0, SL none 0 0, U64 0] ++ cu8 (zr8 16) ++ [U64 0], 31, (0, 0)⟩, _, _, _]
      refine AA _ (AE rfl) rfl ?_
      refine AI (AC (BI (A1 (BH (.tuple #[.agg ([U64 0, I64 0, SL none 0 0, U64 0, I64 0, U64 0, U64 0, I64 0, SL none 0 0, SL none 0 0, U64 0] ++ cu8 (zr8 16) ++ [U64 0]).toArray, .iface 50 (I64 2)]) (res2 D3 (DM rfl (BU CY BV (by simp [(AN 16)]) (AU 0 rfl (AQ _)))) (BC rfl)) fun w1 hw1 => ?_))))
      have hR := RqR.k0 (kQF (k := 3) (by decide) hb7) (kQF (k := 1) (by decide) hb18) (kQF (k := 2) (by decide) hb35)
      have he : 17 = z0.length := (FL hq4).1 (by have h9 := of_decide_eq_true hb46; omega)
      exact ⟨_, [], rfl, .inr ⟨BadRq.of hR (fun _ => hb48), rfl, rfl⟩, hw1.sub (by simp) (by simp)⟩
     ·
      have hb49 : (reqR (((vQ z0 8 1).toNat:Int)) ([] : List UInt64) (0:UInt64) (0:Int) (vQ z0 9 8) (blankB (0:UInt64) (0:UInt64) (0:Int) ([] : List UInt64) ([] : List SealR) (0:UInt64) (zr8 16)) (decide (mayN (0:UInt64) (0:UInt64) (0:Int) ([] : List UInt64) ([] : List SealR) (0:UInt64) = 0))) = true := by simpa using hb47
      refine BF (AC (AH (AB (AA (.agg ([U64 (vQ z0 0 8), I64 (((vQ z0 8 1).toNat:Int)), SL none 0 0, U64 0, I64 0, U64 0, U64 0, I64 0, SL none 0 0, SL none 0 0, U64 0] ++ cu8 (zr8 16) ++ [U64 (vQ z0 9 8)]).toArray) (AO rfl (BU CY BV (by simp [(AN 16)]) (AU 2 rfl (AQ _)))) rfl ?_))))
      refine A7 (BQ 0 nb1 28 ([U64 0, I64 0, SL none 0 0, U64 0, I64 0, U64 0, U64 0, I64 0, SL none 0 0, SL none 0 0, U64 0] ++ cu8 (zr8 16) ++ [U64 0]) 31 ([U64 (vQ z0 0 8), I64 (((vQ z0 8 1).toNat:Int)), SL none 0 0, U64 0, I64 0, U64 0, U64 0, I64 0, SL none 0 0, SL none 0 0, U64 0] ++ cu8 (zr8 16) ++ [U64 (vQ z0 9 8)]) rfl rfl rfl BV (by simp [(AN 16)]) (BY (BY (by simp [Value.oneCell']) CT) (by simp [Value.oneCell'])) (by simp [(AN 16)]) (BT (by simp [(AN 16), (AN 16)]))) rfl ?_
      show JL _ _ _ _ _ [⟨nb1, [U64 (vQ z0 0 8), I64 (((vQ z0 8 1).toNat:Int)), SL none 0 0, U64 0, I64 0, U64 0, U64 0, I64 0, SL none 0 0, SL none 0 0, U64 0] ++ cu8 (zr8 16) ++ [U64 (vQ z0 9 8)], 31, (0, 0)⟩, _, _, _]
      refine AA _ (AE rfl) rfl ?_
      refine AI (AC (BI (BH (.tuple #[.agg ([U64 (vQ z0 0 8), I64 (((vQ z0 8 1).toNat:Int)), SL none 0 0, U64 0, I64 0, U64 0, U64 0, I64 0, SL none 0 0, SL none 0 0, U64 0] ++ cu8 (zr8 16) ++ [U64 (vQ z0 9 8)]).toArray, .nilIface]) (res2 D3 (DM rfl (BU CY BV (by simp [(AN 16)]) (AU 0 rfl (AQ _)))) (BC rfl)) fun w1 hw1 => ?_)))
      have hR := RqR.k0 (kQF (k := 3) (by decide) hb7) (kQF (k := 1) (by decide) hb18) (kQF (k := 2) (by decide) hb35)
      have he : 17 = z0.length := (FL hq4).1 (by have h9 := of_decide_eq_true hb46; omega)
      have hz9 : 17 = z0.length := by omega
      rw [hz9] at hR
      exact ⟨_, _, rfl, .inl ⟨_, _, 0, _, _, _, _, _, _, 0, _, 0, _, _, _, _, _, _, _, none, 0, _, _, _, none, 0, _, _, _, none, 0, ⟨hR, hb49⟩, rfl, rfl, rfl, (AN 16), (by omega), (by omega), (by omega), rfl, rfl, .inl rfl, by first | omega | (unfold maxLen; omega), by first | omega | (unfold maxLen; omega), .inl rfl, by first | omega | (unfold maxLen; omega), by first | omega | (unfold maxLen; omega), .inl rfl, by first | omega | (unfold maxLen; omega), by first | omega | (unfold maxLen; omega)⟩, E0 hw1 3 2 0 rfl rfl rfl (by decide) (by decide) (by decide)⟩
    ·
     have hp46 : ¬ (endN (eQ z0 17) zz4.length = 0) := of_decide_eq_false hb46
     refine AG 3 59 false _ rfl rfl (bnotF hb46) rfl ?_
     refine AG 3 59 false _ rfl rfl (bnotF hb46) rfl ?_
     refine AG 3 59 false _ rfl rfl (bnotF hb46) rfl ?_
     refine AA _ (BD _ rfl (bnotF hb46) rfl) rfl ?_
     refine AI (AC (B3 _ rfl rfl ?_))
     refine AH (AB (AA (.agg ([U64 0, I64 0, SL none 0 0, U64 0, I64 0, U64 0, U64 0, I64 0, SL none 0 0, SL none 0 0, U64 0] ++ cu8 (zr8 16) ++ [U64 0]).toArray) (CP [] _ rfl (fun _ => by kernel_rfl)) rfl ?_))
     refine AA (.iface 50 (I64 2)) (C9 BM rfl rfl) rfl ?_
     refine A7 (BQ 0 nb1 28 ([U64 0, I64 0, SL none 0 0, U64 0, I64 0, U64 0, U64 0, I64 0, SL none 0 0, SL none 0 0, U64 0] ++ cu8 (zr8 16) ++ [U64 0]) 31 ([U64 0, I64 0, SL none 0 0, U64 0, I64 0, U64 0, U64 0, I64 0, SL none 0 0, SL none 0 0, U64 0] ++ cu8 (zr8 16) ++ [U64 0]) rfl rfl rfl BV (by simp [(AN 16)]) (BY (BY (by simp [Value.oneCell']) CT) (by simp [Value.oneCell'])) (by simp [(AN 16)]) (BT (by simp [(AN 16), (AN 16)]))) rfl ?_
     show JL _ _ _ _ _ [⟨nb1, [U64 0, I64 0, SL none 0 0, U64 0, I64 0, U64 0, U64 0, I64 0, SL none 0 0, SL none 0 0, U64 0] ++ cu8 (zr8 16) ++ [U64 0], 31, (0, 0)⟩, _, _, _]
     refine AA _ (AE rfl) rfl ?_
     refine AI (AC (BI (A1 (BH (.tuple #[.agg ([U64 0, I64 0, SL none 0 0, U64 0, I64 0, U64 0, U64 0, I64 0, SL none 0 0, SL none 0 0, U64 0] ++ cu8 (zr8 16) ++ [U64 0]).toArray, .iface 50 (I64 2)]) (res2 D3 (DM rfl (BU CY BV (by simp [(AN 16)]) (AU 0 rfl (AQ _)))) (BC rfl)) fun w1 hw1 => ?_))))
     have hR := RqR.k0 (kQF (k := 3) (by decide) hb7) (kQF (k := 1) (by decide) hb18) (kQF (k := 2) (by decide) hb35)
     have hne : 17 ≠ z0.length := fun e => (of_decide_eq_false hb46) ((FL hq4).2 e)
     exact ⟨_, [], rfl, .inr ⟨BadRq.of hR (fun e => absurd e (by omega)), rfl, rfl⟩, hw1.sub (by simp) (by simp)⟩
attribute [local irreducible] hQ
theorem listQ_c (rb p : Nat) (ao : Option Addr) (n c : Nat) (z0 z : List UInt8)  (w : World) (h0 : w.heap[rb]? = some (.cells [errV 50 (eQ z0 p), SL ao n c].toArray 204 (0, 0))) (hz : z.length = n) (hn : n ≤ 2000000000) (hc : n ≤ c) (hcm : c ≤ maxLen) (hr : RdB w [rb] ao z) (hq : Lq z0 z p)  : Calls Tryd.prog 122 #[Ptr rb 0] w (Post w [rb] (fun v L => ∃ q ao' z' c' m, q = p + 2 + 32*hN z0 p ∧ Lq z0 z' q ∧ Adv ao z c ao' z' c' ∧ m ≤ 65535 ∧ (q ≤ z0.length → m = hN z0 p) ∧ ((m = 0 ∧ v = SL none 0 0 ∧ L = [⟨rb, [errV 50 (eQ z0 q), SL ao' z'.length c'], 204, (0, 0)⟩]) ∨ (0 < m ∧ ∃ g sp cap, v = Slc g 0 m cap ∧ L = [⟨rb, [errV 50 (eQ z0 q), SL ao' z'.length c'], 204, (0, 0)⟩, ⟨g, cu8 (hQ z0 (p + 2) m) ++ sp, 54, (0, 0)⟩] ∧ sp.length = 32*cap - 32*m ∧ m ≤ cap ∧ cap ≤ maxLen)))) := by
 have hmx : maxLen = 9223372036854775807 := rfl
 have hh2 := vQ_lt2 z0 p
 have hhN : hN z0 p = (vQ z0 p 2).toNat := rfl
 refine enter w [rb] 21 [⟨rb, [errV 50 (eQ z0 p), SL ao n c], 204, (0, 0)⟩] [Ptr rb 0] Tryd.func122 rfl rfl (by simp) (BW (by simpa using h0) (by simp) (by simp)) ?_
 show JC _ _ _ [(0, Ptr rb 0)] _
 refine AH (AB (AA _ (AE rfl) rfl ?_))
 refine AI (AC (AH (AB (AA _ (AE rfl) rfl ?_))))
 refine AI (AC (AH (AH (AB (AA _ (AF rfl) rfl ?_)))))
 have hz1 : (z).length = n := hz
 refine A4 (A8 109 _ [true] [rb] _ (AS [Ptr rb 0, I64 2] CV rfl) rfl (fun w1 hw1 => E1 rb p 2 ao n c z0 z w1 (hw1.ent _ (List.mem_of_getElem? (i := 0) rfl)) hz (by omega) (by omega) (by omega) ((fun _ _ h => h) _ _ (hr.at (M' := [rb]) hw1 (hw1.apart [0] _ rfl))) hq (by unfold Szd; omega))) rfl ?_
 rintro v1 L1 ⟨_, ⟨rfl, ao1, zz1, ca1, hq1, ⟨hA1, hb1, hb2, hb3⟩, rfl⟩, rfl⟩
 show JL _ _ _ _ ((5, U64 (vQ z0 p 2)) :: _) [⟨rb, [errV 50 (eQ z0 (p + 2)), SL ao1 zz1.length ca1], 204, (0, 0)⟩]
 refine AA _ (AF rfl) rfl ?_
 refine AI (AC (B5 (EM (ι := (Unit) ⊕ (Nat × Nat × List UInt8 × Nat × List Value × Nat × Option Addr × List UInt8 × Nat)) (fun x => match x with | .inl _ => [(0, Ptr rb 0), (2, SL none 0 0), (5, U64 (vQ z0 p 2)), (6, U64 0), (3, SL none 0 0)] | .inr ⟨pp, i, xx, gb, sp, cp, aa, zz, cc⟩ => [(0, Ptr rb 0), (2, SL none 0 0), (5, U64 (vQ z0 p 2)), (6, U64 (UInt64.ofNat i)), (3, Slc gb 0 i cp)]) (fun x => match x with | .inl _ => [⟨rb, [errV 50 (eQ z0 (p + 2)), SL ao1 zz1.length ca1], 204, (0, 0)⟩] | .inr ⟨pp, i, xx, gb, sp, cp, aa, zz, cc⟩ => [⟨rb, [errV 50 (eQ z0 pp), SL aa zz.length cc], 204, (0, 0)⟩, ⟨gb, cu8 xx ++ sp, 54, (0, 0)⟩]) (fun x => match x with | .inl _ => True | .inr ⟨pp, i, xx, gb, sp, cp, aa, zz, cc⟩ => pp = p + 2 + 32*i ∧ 0 < i ∧ i ≤ hN z0 p ∧ xx = hQ z0 (p + 2) i ∧ xx.length = 32*i ∧ sp.length = 32*cp - 32*i ∧ i ≤ cp ∧ cp ≤ maxLen ∧ Lq z0 zz (pp) ∧ (∀ w M, RdB w M ao z → RdB w M aa zz) ∧ zz.length ≤ cc ∧ cc ≤ maxLen ∧ zz.length ≤ n) (fun x => match x with | .inl _ => hN z0 p + 2 | .inr ⟨pp, i, xx, gb, sp, cp, aa, zz, cc⟩ => hN z0 p + 1 - i) (.inl ()) trivial (Sub.all rfl) rfl ?_)))
 rintro (_ | ⟨pp, i, xx, gb, sp, cp, aa, zz, cc⟩) hx
 ·
  obtain _ := hx
  show JC _ _ _ [(0, Ptr rb 0), (2, SL none 0 0), (5, U64 (vQ z0 p 2)), (6, U64 0), (3, SL none 0 0)] [⟨rb, [errV 50 (eQ z0 (p + 2)), SL ao1 zz1.length ca1], 204, (0, 0)⟩]
  refine AH (AB (AA (.bool (decide ((0:UInt64) < (vQ z0 p 2)))) (AR rfl rfl fun _ => bin_lss_u64 (0:UInt64) (vQ z0 p 2)) rfl ?_))
  refine AI (AC (AH (B9 (decide ((0:UInt64) < (vQ z0 p 2))) rfl (fun hb4 => ?_) (fun hb4 => ?_))))
  ·
   have hp4 : (0:UInt64) < (vQ z0 p 2) := of_decide_eq_true hb4
   refine BF (AC (AH (B5 (AH (AH ?_)))))
   have hlt : 0 < hN z0 p := u64_lt (i := 0) (by omega) (of_decide_eq_true hb4)
   refine AB (AA _ (AF rfl) rfl ?_)
   refine A7 (A2 61 [Ptr rb 0] (I64 ((leftN (eQ z0 (p + 2)) zz1.length:Int))) (AS _ DV rfl) (fun w1 hw1 => left_w rb (eQ z0 (p + 2)) ao1 zz1.length ca1 w1 (RdA.of hw1 (AU 0 rfl (AQ _)) (by simp)))) rfl ?_
   show JL _ _ _ _ ((9, I64 ((leftN (eQ z0 (p + 2)) zz1.length:Int))) :: _) [_]
   refine AA (.bool (decide (((leftN (eQ z0 (p + 2)) zz1.length:Int)) = (0:Int)))) (AR rfl rfl fun _ => BK _ _) rfl ?_
   refine AI (AC (B9 (decide (((leftN (eQ z0 (p + 2)) zz1.length:Int)) = (0:Int))) rfl (fun hb5 => ?_) (fun hb5 => ?_)))
   ·
    have hp5 : ((leftN (eQ z0 (p + 2)) zz1.length:Int)) = (0:Int) := of_decide_eq_true hb5
    refine AH (AB (AA _ (AF rfl) rfl ?_))
    refine AA (.iface 50 (I64 2)) (C9 BM rfl rfl) rfl ?_
    refine A4 (DS 121 [Ptr rb 0, .iface 50 (I64 2)] 0 ⟨rb, [errV 50 (eQ z0 (p + 2)), SL ao1 zz1.length ca1], 204, (0, 0)⟩ _ (fun v e' l' => v = .tuple #[] ∧ e' = ⟨rb, [errV 50 (erN (eQ z0 (p + 2)) 2), SL ao1 zz1.length ca1], 204, (0, 0)⟩ ∧ l' = []) (AS _ DX rfl) rfl (by rintro v l ⟨rfl, rfl⟩; exact ⟨_, _, rfl, rfl, rfl, rfl, rfl⟩) (fun w1 hw1 => EL rb (eQ z0 (p + 2)) 2 (SL ao1 zz1.length ca1) w1 (by decide) (hw1.ent _ (List.mem_of_getElem? (i := 0) rfl)))) rfl ?_
    rintro v1 L1 ⟨_, _, ⟨rfl, rfl, rfl⟩, rfl⟩
    show JL _ _ _ _ ((13, .tuple #[]) :: _) [⟨rb, [errV 50 (erN (eQ z0 (p + 2)) 2), SL ao1 zz1.length ca1], 204, (0, 0)⟩]
    refine AI (AC (ED (BJ (JQ_in_other rfl ?_))))
    refine BJ (BJ (C1 (AC (AH (AB (AA _ (AF rfl) rfl ?_))))))
    refine AA _ (AE rfl) rfl ?_
    refine AI (AC (BI (BH (SL none 0 0) (res1 Tryd.results122 (BC rfl)) fun w1 hw1 => ?_)))
    have hb0 : z0.length < p + 2 + 32*hN z0 p := brk_lt hq1 (by have h9 := of_decide_eq_true hb5; omega) (by omega)
    rw [show erN (eQ z0 (p + 2)) 2 = eQ z0 (p + 2 + 32*hN z0 p) from brk_q hq1 (by have h9 := of_decide_eq_true hb5; omega) (by omega)] at hw1
    exact ⟨_, _, rfl, ⟨p + 2 + 32*hN z0 p, ao1, zz1, ca1, 0, rfl, (fun h => absurd h (by omega)), ⟨(fun w M h => hA1 w M ((fun _ _ h => h) w M h)), by omega, by omega, by omega⟩, by omega, (fun h => absurd h (by omega)), .inl ⟨rfl, rfl, rfl⟩⟩, hw1⟩
   ·
    have hp5 : ¬ (((leftN (eQ z0 (p + 2)) zz1.length:Int)) = (0:Int)) := of_decide_eq_false hb5
    refine BF (AC (AB (AA _ (AF rfl) rfl ?_)))
    refine AA _ (AF rfl) rfl ?_
    have hz2 : (zz1).length = zz1.length := rfl
    refine A4 (A8 152 _ [true] [rb] _ (AS _ Tryd.call152 rfl) rfl (fun w1 hw1 => hasQ_w rb (p + 2) ao1 zz1.length ca1 z0 zz1 w1 (hw1.ent _ (List.mem_of_getElem? (i := 0) rfl)) rfl (by omega) (by omega) (by omega) ((fun w M h => hA1 w M ((fun _ _ h => h) w M h)) _ _ (hr.at (M' := [rb]) hw1 (hw1.apart [0] _ rfl))) hq1)) rfl ?_
    rintro v1 L1 ⟨_, ⟨rfl, ao2, zz2, ca2, hq2, ⟨hA2, hb6, hb7, hb8⟩, rfl⟩, rfl⟩
    show JL _ _ _ _ ((16, .agg (cu8 (bQ z0 (p + 2) 32)).toArray) :: _) [⟨rb, [errV 50 (eQ z0 (p + 34)), SL ao2 zz2.length ca2], 204, (0, 0)⟩]
    refine A4 (CR 54 32 _ [(0, .agg (cu8 (bQ z0 (p + 2) 32)).toArray)] (cu8 (bQ z0 (p + 2) 32)) D2 EC Tryd.zeroValue54 rfl rfl rfl (fill_firstS (B8 _ _ _) (by kernel_rfl))) rfl ?_
    rintro v1 L1 ⟨nb1, hnb1, rfl, rfl⟩
    show JL _ _ _ _ ((17, Slc nb1 0 1 1) :: _) [_, ⟨nb1, cu8 (bQ z0 (p + 2) 32), 54, (0, 0)⟩]
    refine A4 (Step_appH 65 54 32 32 (.agg (cu8 (zr8 32)).toArray) [false, false] (SL none 0 0) 0 ([] : List UInt8) (bQ z0 (p + 2) 32) (some ⟨nb1, 0, none⟩) 1 1 1 32 D2 (by kernel_rfl) (by kernel_rfl) (by decide) rfl (.inl ⟨rfl, rfl, rfl, rfl, by omega⟩) rfl (by have h : (bQ z0 (p + 2) 32).length = 32 := (B8 _ _ _); omega) (SrcAt.mem (AU 1 rfl (AQ _))) (by omega) (by unfold maxLen; omega) (by omega) (by omega)) rfl ?_
    rintro v1 L1 ⟨nb2, sp1, cp1, hg1, rfl, rfl, ha1, ha2, ha3, ha4⟩
    show JL _ _ _ _ ((18, Slc nb2 0 1 cp1) :: _) [_, _, ⟨nb2, cu8 (([] : List UInt8) ++ (bQ z0 (p + 2) 32)) ++ sp1, 54, (0, 0)⟩]
    refine AA _ (AE rfl) rfl ?_
    refine AI (BS (AC (AB (AA (U64 ((0:UInt64) + (1:UInt64))) (AR rfl rfl fun _ => bin_add_u64 (0:UInt64) (1:UInt64)) rfl ?_))))
    refine AA _ (AF rfl) rfl ?_
    refine AI (D0 (B4 [true, false, true] ?_))
    show K _ _ [_, _] _
    refine EV (.inr ((p + 34), 1, ([] : List UInt8) ++ (bQ z0 (p + 2) 32), nb2, sp1, cp1, ao2, zz2, ca2)) ⟨by omega, by omega, by omega, hQ_one _ _, (by have h := ha1; omega), (by have h := ha2; omega), by omega, by omega, (fun h8 => (hq2 (by omega)).trans (by congr 1 <;> omega)), (fun w M h => hA2 w M ((fun w M h => hA1 w M ((fun _ _ h => h) w M h)) w M h)), by omega, by omega, by omega⟩ (by dsimp only; omega) (Sub.cons rfl (Sub.cons rfl (Sub.cons rfl (Sub.cons (congrArg (fun x => some (U64 x)) (rfl)) (Sub.all rfl))))) (by first | rfl | (simp; done))
  ·
   have hp4 : ¬ ((0:UInt64) < (vQ z0 p 2)) := of_decide_eq_false hb4
   refine ED (BJ (BJ (C1 (AC (AH (AB (AA _ (AF rfl) rfl ?_)))))))
   refine AA _ (AE rfl) rfl ?_
   refine AI (AC (BI (BH (SL none 0 0) (res1 Tryd.results122 (BC rfl)) fun w1 hw1 => ?_)))
   have hge : hN z0 p ≤ 0 := u64_ge (i := 0) (by omega) (of_decide_eq_false hb4)
   have hQ9 : (p + 2) = p + 2 + 32*hN z0 p := by omega
   rw [hQ9] at hw1
   exact ⟨_, _, rfl, ⟨p + 2 + 32*hN z0 p, ao1, zz1, ca1, 0, rfl, (by rw [← hQ9]; exact hq1), ⟨(fun w M h => hA1 w M ((fun _ _ h => h) w M h)), by omega, by omega, by omega⟩, by omega, (fun _ => by omega), .inl ⟨rfl, rfl, rfl⟩⟩, hw1⟩
 ·
  obtain ⟨hip, hi1, hi2, hi3, hi4, hi5, hi6, hi7, hi8, hi9, hi10, hi11, hi12⟩ := hx
  show JC _ _ _ [(0, Ptr rb 0), (2, SL none 0 0), (5, U64 (vQ z0 p 2)), (6, U64 (UInt64.ofNat i)), (3, Slc gb 0 i cp)] [⟨rb, [errV 50 (eQ z0 pp), SL aa zz.length cc], 204, (0, 0)⟩, ⟨gb, cu8 xx ++ sp, 54, (0, 0)⟩]
  refine AH (AB (AA (.bool (decide ((UInt64.ofNat i) < (vQ z0 p 2)))) (AR rfl rfl fun _ => bin_lss_u64 (UInt64.ofNat i) (vQ z0 p 2)) rfl ?_))
  refine AI (AC (AH (B9 (decide ((UInt64.ofNat i) < (vQ z0 p 2))) rfl (fun hb9 => ?_) (fun hb9 => ?_))))
  ·
   have hp9 : (UInt64.ofNat i) < (vQ z0 p 2) := of_decide_eq_true hb9
   refine BF (AC (AH (B5 (AH (AH ?_)))))
   have hlt : i < hN z0 p := u64_lt (i := i) (by omega) (of_decide_eq_true hb9)
   refine AB (AA _ (AF rfl) rfl ?_)
   refine A7 (A2 61 [Ptr rb 0] (I64 ((leftN (eQ z0 pp) zz.length:Int))) (AS _ DV rfl) (fun w1 hw1 => left_w rb (eQ z0 pp) aa zz.length cc w1 (RdA.of hw1 (AU 0 rfl (AQ _)) (by simp)))) rfl ?_
   show JL _ _ _ _ ((9, I64 ((leftN (eQ z0 pp) zz.length:Int))) :: _) [_, _]
   refine AA (.bool (decide (((leftN (eQ z0 pp) zz.length:Int)) = (0:Int)))) (AR rfl rfl fun _ => BK _ _) rfl ?_
   refine AI (AC (B9 (decide (((leftN (eQ z0 pp) zz.length:Int)) = (0:Int))) rfl (fun hb10 => ?_) (fun hb10 => ?_)))
   ·
    have hp10 : ((leftN (eQ z0 pp) zz.length:Int)) = (0:Int) := of_decide_eq_true hb10
    refine AH (AB (AA _ (AF rfl) rfl ?_))
    refine AA (.iface 50 (I64 2)) (C9 BM rfl rfl) rfl ?_
    refine A4 (DS 121 [Ptr rb 0, .iface 50 (I64 2)] 0 ⟨rb, [errV 50 (eQ z0 pp), SL aa zz.length cc], 204, (0, 0)⟩ _ (fun v e' l' => v = .tuple #[] ∧ e' = ⟨rb, [errV 50 (erN (eQ z0 pp) 2), SL aa zz.length cc], 204, (0, 0)⟩ ∧ l' = []) (AS _ DX rfl) rfl (by rintro v l ⟨rfl, rfl⟩; exact ⟨_, _, rfl, rfl, rfl, rfl, rfl⟩) (fun w1 hw1 => EL rb (eQ z0 pp) 2 (SL aa zz.length cc) w1 (by decide) (hw1.ent _ (List.mem_of_getElem? (i := 0) rfl)))) rfl ?_
    rintro v1 L1 ⟨_, _, ⟨rfl, rfl, rfl⟩, rfl⟩
    show JL _ _ _ _ ((13, .tuple #[]) :: _) [⟨rb, [errV 50 (erN (eQ z0 pp) 2), SL aa zz.length cc], 204, (0, 0)⟩, _]
    refine AI (AC (ED (BJ (JQ_in_other rfl ?_))))
    refine BJ (BJ (C1 (AC (AH (AB (AA _ (AF rfl) rfl ?_))))))
    refine AA _ (AE rfl) rfl ?_
    refine AI (AC (BI (BH (Slc gb 0 i cp) (res1 Tryd.results122 (BC rfl)) fun w1 hw1 => ?_)))
    have hb0 : z0.length < p + 2 + 32*hN z0 p := brk_lt hi8 (by have h9 := of_decide_eq_true hb10; omega) (by omega)
    rw [show erN (eQ z0 pp) 2 = eQ z0 (p + 2 + 32*hN z0 p) from brk_q hi8 (by have h9 := of_decide_eq_true hb10; omega) (by omega)] at hw1
    exact ⟨_, _, rfl, ⟨p + 2 + 32*hN z0 p, aa, zz, cc, i, rfl, (fun h => absurd h (by omega)), ⟨hi9, by omega, by omega, by omega⟩, by omega, (fun h => absurd h (by omega)), .inr ⟨hi1, gb, sp, cp, rfl, (by rw [hi3]), hi5, hi6, hi7⟩⟩, hw1⟩
   ·
    have hp10 : ¬ (((leftN (eQ z0 pp) zz.length:Int)) = (0:Int)) := of_decide_eq_false hb10
    refine BF (AC (AB (AA _ (AF rfl) rfl ?_)))
    refine AA _ (AF rfl) rfl ?_
    have hz3 : (zz).length = zz.length := rfl
    refine A4 (A8 152 _ [true, false] [rb] _ (AS _ Tryd.call152 rfl) rfl (fun w1 hw1 => hasQ_w rb pp aa zz.length cc z0 zz w1 (hw1.ent _ (List.mem_of_getElem? (i := 0) rfl)) rfl (by omega) (by omega) (by omega) (hi9 _ _ (hr.at (M' := [rb]) hw1 (hw1.apart [0] _ rfl))) hi8)) rfl ?_
    rintro v1 L1 ⟨_, ⟨rfl, ao3, zz3, ca3, hq3, ⟨hA3, hb11, hb12, hb13⟩, rfl⟩, rfl⟩
    show JL _ _ _ _ ((16, .agg (cu8 (bQ z0 pp 32)).toArray) :: _) [_, ⟨rb, [errV 50 (eQ z0 (pp + 32)), SL ao3 zz3.length ca3], 204, (0, 0)⟩]
    refine A4 (CR 54 32 _ [(0, .agg (cu8 (bQ z0 pp 32)).toArray)] (cu8 (bQ z0 pp 32)) D2 EC Tryd.zeroValue54 rfl rfl rfl (fill_firstS (B8 _ _ _) (by kernel_rfl))) rfl ?_
    rintro v1 L1 ⟨nb3, hnb3, rfl, rfl⟩
    show JL _ _ _ _ ((17, Slc nb3 0 1 1) :: _) [_, _, ⟨nb3, cu8 (bQ z0 pp 32), 54, (0, 0)⟩]
    refine A4 (Step_appH 65 54 32 32 (.agg (cu8 (zr8 32)).toArray) [true, false, false] (Slc gb 0 i cp) i xx (bQ z0 pp 32) (some ⟨nb3, 0, none⟩) 1 1 (i + 1) (32*i + 32) D2 (by kernel_rfl) (by kernel_rfl) (by decide) rfl (.inr ⟨gb, sp, cp, rfl, rfl, (by have h : (xx).length = (32*i) := hi4; omega), (by first | exact hi5 | omega), (by omega), (by omega)⟩) rfl (by have h : (bQ z0 pp 32).length = 32 := (B8 _ _ _); omega) (SrcAt.mem (AU 2 rfl (AQ _))) (by omega) (by unfold maxLen; omega) (by omega) (by omega)) rfl ?_
    rintro v1 L1 ⟨nb4, sp2, cp2, hg2, rfl, rfl, ha5, ha6, ha7, ha8⟩
    show JL _ _ _ _ ((18, Slc nb4 0 (i + 1) cp2) :: _) [_, _, ⟨nb4, cu8 (xx ++ (bQ z0 pp 32)) ++ sp2, 54, (0, 0)⟩]
    refine AA _ (AE rfl) rfl ?_
    refine AI (BS (AC (AB (AA (U64 ((UInt64.ofNat i) + (1:UInt64))) (AR rfl rfl fun _ => bin_add_u64 (UInt64.ofNat i) (1:UInt64)) rfl ?_))))
    refine AA _ (AF rfl) rfl ?_
    refine AI (D0 (B4 [true, false, true] ?_))
    show K _ _ [_, _] _
    refine EV (.inr ((pp + 32), i + 1, xx ++ (bQ z0 pp 32), nb4, sp2, cp2, ao3, zz3, ca3)) ⟨by omega, by omega, by omega, (by rw [hQ_succ, hi3, ← hip]), (by have h := ha5; omega), (by have h := ha6; omega), by omega, by omega, (fun h8 => (hq3 (by omega)).trans (by congr 1 <;> omega)), (fun w M h => hA3 w M (hi9 w M h)), by omega, by omega, by omega⟩ (by dsimp only; omega) (Sub.cons rfl (Sub.cons rfl (Sub.cons rfl (Sub.cons (congrArg (fun x => some (U64 x)) (u64_suc i)) (Sub.all rfl))))) (by first | rfl | (simp; done))
  ·
   have hp9 : ¬ ((UInt64.ofNat i) < (vQ z0 p 2)) := of_decide_eq_false hb9
   refine ED (BJ (BJ (C1 (AC (AH (AB (AA _ (AF rfl) rfl ?_)))))))
   refine AA _ (AE rfl) rfl ?_
   refine AI (AC (BI (BH (Slc gb 0 i cp) (res1 Tryd.results122 (BC rfl)) fun w1 hw1 => ?_)))
   have hge : hN z0 p ≤ i := u64_ge (i := i) (by omega) (of_decide_eq_false hb9)
   have hQ9 : pp = p + 2 + 32*hN z0 p := by omega
   rw [hQ9] at hw1
   exact ⟨_, _, rfl, ⟨p + 2 + 32*hN z0 p, aa, zz, cc, i, rfl, (by rw [← hQ9]; exact hi8), ⟨hi9, by omega, by omega, by omega⟩, by omega, (fun _ => by omega), .inr ⟨hi1, gb, sp, cp, rfl, (by rw [hi3]), hi5, hi6, hi7⟩⟩, hw1⟩
end Go.Proofs.YtkdpdgpphpngeaaDoor
