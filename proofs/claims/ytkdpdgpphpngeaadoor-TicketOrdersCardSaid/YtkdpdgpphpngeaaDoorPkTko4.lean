import Derived.Test.YtkdpdgpphpngeaaDoorPkTko3
namespace Go.Proofs.YtkdpdgpphpngeaaDoor
open Go Go.Sx
set_option linter.unusedVariables false
set_option linter.unusedSimpArgs false
set_option maxRecDepth 100000
attribute [local irreducible] mid zr8 zr32 numK rnK rotr wordL spreadL comprL cpN adN spN wrdN constL initL padL stN outN routN sumG putL leafT joinT empL empA empR
theorem leafText_c (i : UInt64) (e : UInt64) (d t : List UInt8)  (w : World) (hd : d.length = 32) (ht : t.length = 16) (hx : 4 < 8 → i >>> UInt64.ofNat (8*4) = 0)  : Calls Tryd.prog 157 #[U64 i, .agg (List.toArray (α := Value) ([U64 e] ++ cu8 d ++ cu8 t))] w (Post w [] (fun v L => ∃ g sp cap, v = .tuple #[Slc g 0 61 cap, .nilIface] ∧ L = [⟨g, cu8 (leafT i e d t) ++ sp, 5, (0, 0)⟩] ∧ sp.length = cap - 61 ∧ 61 ≤ cap ∧ cap ≤ maxLen)) := by
 have hmx : maxLen = 9223372036854775807 := rfl
 refine enter (P := Tryd.prog) (f := 157) (fn := Tryd.f157) w [] 19 [] [U64 i, .agg (List.toArray (α := Value) ([U64 e] ++ cu8 d ++ cu8 t))] Tryd.func157 rfl rfl (by simp) (BL (by simp) (by simp) (by simp)) ?_
 show JC _ _ _ [(0, U64 i), (1, .agg (List.toArray (α := Value) ([U64 e] ++ cu8 d ++ cu8 t)))] _
 refine AG (AC (AN (CM (.agg (List.toArray (α := Value) ([U64 e] ++ cu8 d ++ cu8 t))) ([U64 e] ++ cu8 d ++ cu8 t) rfl (by first | rfl | simp)) rfl ?_))
 rintro v1 L1 ⟨nb1, hnb1, rfl, rfl⟩
 show JL _ _ _ _ ((3, Ptr nb1 0) :: _) [⟨nb1, [U64 e] ++ cu8 d ++ cu8 t, 161, (0, 0)⟩]
 refine AA _ (AF rfl) rfl ?_
 refine AA _ (AF rfl) rfl ?_
 refine AI (AE (AG (AC (AA (.agg (List.toArray (α := Value) ([.nilIface, .slice none 0 0]))) (EG [] _ rfl (fun _ => by kernel_rfl)) rfl ?_))))
 refine AN (CM (.agg (List.toArray (α := Value) ([.nilIface, .slice none 0 0]))) ([.nilIface, .slice none 0 0]) rfl (by first | rfl | simp)) rfl ?_
 rintro v1 L1 ⟨nb2, hnb2, rfl, rfl⟩
 show JL _ _ _ _ ((8, Ptr nb2 0) :: _) [_, ⟨nb2, [.nilIface, .slice none 0 0], 149, (0, 0)⟩]
 refine AA _ (AF rfl) rfl ?_
 refine AI (AE (AG (C3 19 6 [(0, Ptr nb2 0), (2, U64 i), (4, .agg (List.toArray (α := Value) ([U64 e] ++ cu8 d ++ cu8 t)))] BQ rfl (by decide +kernel) ?_)))
 refine BT ⟨[], [0, 2, 4], [], [0, 2, 4], [1]⟩ 1 _ rfl rfl (by decide +kernel) rfl ⟨⟨_, rfl, AB rfl (AD rfl)⟩, ⟨_, rfl, AB rfl (AD rfl)⟩, ⟨_, rfl, AB rfl (AL rfl (BO D3 CE (by simp [hd, ht]) (MemAt.ent 0 rfl (AM _))))⟩, trivial⟩ rfl (A1 rfl (D5 81 _ [false, true] [nb2] _ (AW [Ptr nb2 0, U64 (1:UInt64), I64 (1:Int)] Tryd.call81 rfl) rfl (fun w1 hw1 => numN_c nb2 1 .nilIface (1:UInt64) 1 w1 (hw1.ent _ (List.mem_of_getElem? (i := 1) rfl)) (by unfold Szd; omega) (fun _ => by decide) (by omega)))) ?_
 rintro v1 L1 ⟨_, ⟨rfl, nb3, sp1, cp1, rfl, hc1, hc2, hc3⟩, rfl⟩
 refine ⟨[], ?_⟩
 show DP _ _ _ _ _ _ _ _ [_, ⟨nb2, [.nilIface, Slc nb3 0 1 cp1], 149, (0, 0)⟩, ⟨nb3, cu8 (numK 1 (1:UInt64) 1) ++ sp1, 5, (0, 0)⟩]
 refine BT ⟨[1], [0, 2, 4], [0], [2, 4], [3]⟩ 3 _ rfl rfl (by decide +kernel) rfl ⟨⟨_, rfl, AB rfl (AD rfl)⟩, ⟨_, rfl, AB rfl (AL rfl (BO D3 CE (by simp [hd, ht]) (MemAt.ent 0 rfl (AM _))))⟩, trivial⟩ rfl (A1 rfl (D5 81 _ [false, true, true] [nb2, nb3] _ (AW [Ptr nb2 0, U64 i, I64 (4:Int)] Tryd.call81 rfl) rfl (fun w1 hw1 => numO_c nb2 nb3 1 cp1 5 .nilIface (numK 1 (1:UInt64) 1) sp1 i 4 w1 (hw1.ent _ (List.mem_of_getElem? (i := 1) rfl)) (hw1.ent _ (List.mem_of_getElem? (i := 2) rfl)) (hw1.ne (i := 1) (j := 2) rfl rfl (by decide)) (show (numK 1 (1:UInt64) 1).length = 1 from (CX _ _ _)) hc1 hc2 hc3 (by omega) (by unfold Szd; omega) hx (by omega)))) ?_
 rintro v1 L1 ⟨_, ⟨rfl, nb4, sp2, cp2, rfl, hc4, hc5, hc6⟩, rfl⟩
 refine ⟨[], ?_⟩
 show DP _ _ _ _ _ _ _ _ [_, ⟨nb2, [.nilIface, Slc nb4 0 5 cp2], 149, (0, 0)⟩, ⟨nb4, cu8 ((numK 1 (1:UInt64) 1) ++ numK 4 i 4) ++ sp2, 5, (0, 0)⟩]
 refine BT ⟨[1, 3], [0, 2, 4], [0, 2], [4], [5]⟩ 5 _ rfl rfl (by decide +kernel) rfl ⟨⟨_, rfl, AB rfl (AL rfl (BO D3 CE (by simp [hd, ht]) (MemAt.ent 0 rfl (AM _))))⟩, trivial⟩ rfl (A1 rfl (B1 97 [.agg (List.toArray (α := Value) ([U64 e] ++ cu8 d ++ cu8 t))] _ (AW [.agg (List.toArray (α := Value) ([U64 e] ++ cu8 d ++ cu8 t))] Tryd.call97 rfl) (fun w1 hw1 => put7_c e d t w1 hd ht))) ?_
 rintro v1 L1 ⟨_, ⟨nb5, sp3, cp3, rfl, rfl, hc7, hc8, hc9⟩, rfl⟩
 refine ⟨[], ?_⟩
 show DP _ _ _ _ _ _ _ _ [_, _, _, ⟨nb5, cu8 (putL e d t) ++ sp3, 5, (0, 0)⟩]
 refine BT ⟨[1, 3, 5], [0, 2, 4], [0, 2, 4], [], [6]⟩ 6 _ rfl rfl (by decide +kernel) rfl trivial rfl (A1 rfl (D5 82 _ [false, true, true, false] [nb2, nb4] _ (AW [Ptr nb2 0, Slc nb5 0 56 cp3] Tryd.call82 rfl) rfl (fun w1 hw1 => rawO_c nb2 nb4 5 cp2 61 .nilIface ((numK 1 (1:UInt64) 1) ++ numK 4 i 4) sp2 (some ⟨nb5, 0, none⟩) 56 cp3 (putL e d t) w1 (hw1.ent _ (List.mem_of_getElem? (i := 1) rfl)) (hw1.ent _ (List.mem_of_getElem? (i := 2) rfl)) (hw1.ne (i := 1) (j := 2) rfl rfl (by decide)) (show ((numK 1 (1:UInt64) 1) ++ numK 4 i 4).length = 5 from (by rw [List.length_append, (show (numK 1 (1:UInt64) 1).length = 1 from (CX _ _ _)), CX] <;> omega)) hc4 hc5 hc6 (by omega) (show (putL e d t).length = 56 from (putL_len hd ht)) (by omega) (RdB.of hw1 (MemAt.ent 3 rfl (BV (AM _))) (by intro _; simp only [List.mem_cons, List.not_mem_nil, or_false, not_or]; exact ⟨hw1.ne (i := 3) (j := 1) rfl rfl (by decide), hw1.ne (i := 3) (j := 2) rfl rfl (by decide)⟩)) (by omega)))) ?_
 rintro v1 L1 ⟨_, ⟨rfl, nb6, sp4, cp4, rfl, hc10, hc11, hc12⟩, rfl⟩
 refine ⟨[], ?_⟩
 show DP _ _ _ _ _ _ _ _ [_, _, ⟨nb2, [.nilIface, Slc nb6 0 61 cp4], 149, (0, 0)⟩, ⟨nb6, cu8 (((numK 1 (1:UInt64) 1) ++ numK 4 i 4) ++ (putL e d t)) ++ sp4, 5, (0, 0)⟩]
 refine BT ⟨[1, 3, 5, 6], [0, 2, 4], [0, 2, 4], [], [7]⟩ 7 _ rfl rfl (by decide +kernel) rfl trivial rfl (A1 rfl (B1 83 [Ptr nb2 0] _ (AW [Ptr nb2 0] Tryd.call83 rfl) (fun w1 hw1 => doneO_c nb2 0 nb6 61 cp4 (((numK 1 (1:UInt64) 1) ++ numK 4 i 4) ++ (putL e d t)) w1 (RdA.of hw1 (MemAt.ent 2 rfl (AM _)) (by simp)) rfl (show (((numK 1 (1:UInt64) 1) ++ numK 4 i 4) ++ (putL e d t)).length = 61 from (by rw [List.length_append, (show ((numK 1 (1:UInt64) 1) ++ numK 4 i 4).length = 5 from (by rw [List.length_append, (show (numK 1 (1:UInt64) 1).length = 1 from (CX _ _ _)), CX] <;> omega)), (show (putL e d t).length = 56 from (putL_len hd ht))] <;> omega)) (by omega) (RdB.of hw1 (MemAt.ent 3 rfl (BV (AM _))) (by simp))))) ?_
 rintro v1 L1 ⟨_, ⟨nb7, sp5, cp5, rfl, rfl, hc13, hc14, hc15⟩, rfl⟩
 refine ⟨[(8, Slc nb7 0 61 cp5), (9, .nilIface), (10, Slc nb7 0 61 cp5), (11, .nilIface)], ?_⟩
 show DP _ _ _ _ _ _ _ _ [_, _, _, _, ⟨nb7, cu8 (((numK 1 (1:UInt64) 1) ++ numK 4 i 4) ++ (putL e d t)) ++ sp5, 5, (0, 0)⟩]
 refine DG ⟨[1, 3, 5, 6, 7], [0, 2, 4, 8, 9, 10, 11], [0, 2, 4], [8, 9, 10, 11], []⟩ rfl rfl (by decide +kernel) rfl ⟨⟨_, rfl, AB rfl (BJ rfl rfl)⟩, ⟨_, rfl, AB rfl (BJ rfl rfl)⟩, ⟨_, rfl, AB rfl (AF rfl)⟩, ⟨_, rfl, AB rfl (AF rfl)⟩, trivial⟩ ?_
 refine CZ (F' := [(4, Slc nb7 0 61 cp5), (5, .nilIface)]) (by kernel_rfl) ?_
 refine AE (BG (B5 [false, false, false, false, true] ?_))
 show JQ _ _ _ _ [_]
 refine BI (.tuple #[Slc nb7 0 61 cp5, .nilIface]) (res2 Tryd.results157 (BK rfl) (BK rfl)) fun w1 hw1 => ?_
 have hq : ((numK 1 (1:UInt64) 1) ++ numK 4 i 4) ++ (putL e d t) = leafT i e d t := by rw [leafT]
 rw [hq] at hw1
 exact ⟨_, _, rfl, ⟨nb7, sp5, cp5, rfl, rfl, hc13, hc14, hc15⟩, hw1.sub (by simp) (by simp)⟩
theorem joinText_c (h : Nat) (l r : List UInt8) (w : World) (hl : l.length = 32) (hr : r.length = 32) (h1 : 1 ≤ h) (h2 : h ≤ 32) : Calls Tryd.prog 195 #[I64 ((h:Int)), .agg (cu8 l).toArray, .agg (cu8 r).toArray] w (Post w [] (fun v L => ∃ g sp cap, v = .tuple #[Slc g 0 66 cap, .nilIface] ∧ L = [⟨g, cu8 (joinT h l r) ++ sp, 5, (0, 0)⟩] ∧ sp.length = cap - 66 ∧ 66 ≤ cap ∧ cap ≤ maxLen)) := by
 have hmx : maxLen = 9223372036854775807 := rfl
 refine enter w [] 30 [] [I64 ((h:Int)), .agg (cu8 l).toArray, .agg (cu8 r).toArray] Tryd.func195 rfl rfl (by simp) (BL (by simp) (by simp) (by simp)) ?_
 show JC _ _ _ [(0, I64 ((h:Int))), (1, .agg (cu8 l).toArray), (2, .agg (cu8 r).toArray)] _
 refine AG (AC (AN (CM (.agg (cu8 l).toArray) (cu8 l) rfl (by first | rfl | simp)) rfl ?_))
 rintro v1 L1 ⟨nb1, hnb1, rfl, rfl⟩
 show JL _ _ _ _ ((4, Ptr nb1 0) :: _) [⟨nb1, cu8 l, 54, (0, 0)⟩]
 refine AN (CM (.agg (cu8 r).toArray) (cu8 r) rfl (by first | rfl | simp)) rfl ?_
 rintro v1 L1 ⟨nb2, hnb2, rfl, rfl⟩
 show JL _ _ _ _ ((5, Ptr nb2 0) :: _) [_, ⟨nb2, cu8 r, 54, (0, 0)⟩]
 refine AA _ (AF rfl) rfl ?_
 refine AA _ (AF rfl) rfl ?_
 refine AI (AE (AG (AG (AC (AA _ (AD rfl) rfl ?_)))))
 refine AA (.bool (decide (((h:Int)) < (1:Int)))) (AK rfl rfl fun _ => CP _ _) rfl ?_
 refine AA _ (AD rfl) rfl ?_
 refine AU 2 11 false _ _ rfl rfl (decide_eq_false (by omega)) (AD rfl) rfl ?_
 refine AU 2 11 false _ (.bool (decide ((32:Int) < ((h:Int))))) rfl rfl (decide_eq_false (by omega)) (AK rfl rfl fun _ => E2 _ _) rfl ?_
 refine AA _ (BX _ rfl (decide_eq_false (by omega)) rfl) rfl ?_
 refine AI (AE (B9 _ rfl (decide_eq_false (by omega)) ?_))
 refine BE (AE (AG (AC (AA (.agg (List.toArray (α := Value) ([.nilIface, .slice none 0 0]))) (EG [] _ rfl (fun _ => by kernel_rfl)) rfl ?_))))
 refine AN (CM (.agg (List.toArray (α := Value) ([.nilIface, .slice none 0 0]))) ([.nilIface, .slice none 0 0]) rfl (by first | rfl | simp)) rfl ?_
 rintro v1 L1 ⟨nb3, hnb3, rfl, rfl⟩
 show JL _ _ _ _ ((17, Ptr nb3 0) :: _) [_, _, ⟨nb3, [.nilIface, .slice none 0 0], 149, (0, 0)⟩]
 refine AA _ (AF rfl) rfl ?_
 refine AI (AE (AG (C3 30 6 [(0, Ptr nb3 0), (2, I64 ((h:Int))), (3, U64 (UInt64.ofNat h)), (5, .agg (cu8 l).toArray), (7, .agg (cu8 r).toArray)] BQ rfl (by decide +kernel) ?_)))
 refine BT ⟨[], [0, 2, 3, 5, 7], [], [0, 2, 3, 5, 7], [1]⟩ 1 _ rfl rfl (by decide +kernel) rfl ⟨⟨_, rfl, AB rfl (AD rfl)⟩, ⟨_, rfl, AB rfl (AD rfl)⟩, ⟨_, rfl, AB rfl (DR _ _ rfl fun _ => DZ (by rw [CI]; rfl) BY h _ (by omega))⟩, ⟨_, rfl, AB rfl (AL rfl (BO BS AQ (B2 hl) (MemAt.ent 0 rfl (AM _))))⟩, ⟨_, rfl, AB rfl (AL rfl (BO BS AQ (B2 hr) (MemAt.ent 1 rfl (AM _))))⟩, trivial⟩ rfl (A1 rfl (D5 81 _ [false, false, true] [nb3] _ (AW [Ptr nb3 0, U64 (2:UInt64), I64 (1:Int)] Tryd.call81 rfl) rfl (fun w1 hw1 => numN_c nb3 1 .nilIface (2:UInt64) 1 w1 (hw1.ent _ (List.mem_of_getElem? (i := 2) rfl)) (by unfold Szd; omega) (fun _ => by decide) (by omega)))) ?_
 rintro v1 L1 ⟨_, ⟨rfl, nb4, sp1, cp1, rfl, hc1, hc2, hc3⟩, rfl⟩
 refine ⟨[], ?_⟩
 show DP _ _ _ _ _ _ _ _ [_, _, ⟨nb3, [.nilIface, Slc nb4 0 1 cp1], 149, (0, 0)⟩, ⟨nb4, cu8 (numK 1 (2:UInt64) 1) ++ sp1, 5, (0, 0)⟩]
 refine BT ⟨[1], [0, 2, 3, 5, 7], [0], [2, 3, 5, 7], [4]⟩ 4 _ rfl rfl (by decide +kernel) rfl ⟨⟨_, rfl, AB rfl (AD rfl)⟩, ⟨_, rfl, AB rfl (DR _ _ rfl fun _ => DZ (by rw [CI]; rfl) BY h _ (by omega))⟩, ⟨_, rfl, AB rfl (AL rfl (BO BS AQ (B2 hl) (MemAt.ent 0 rfl (AM _))))⟩, ⟨_, rfl, AB rfl (AL rfl (BO BS AQ (B2 hr) (MemAt.ent 1 rfl (AM _))))⟩, trivial⟩ rfl (A1 rfl (D5 81 _ [false, false, true, true] [nb3, nb4] _ (AW [Ptr nb3 0, U64 (UInt64.ofNat h), I64 (1:Int)] Tryd.call81 rfl) rfl (fun w1 hw1 => numO_c nb3 nb4 1 cp1 2 .nilIface (numK 1 (2:UInt64) 1) sp1 (UInt64.ofNat h) 1 w1 (hw1.ent _ (List.mem_of_getElem? (i := 2) rfl)) (hw1.ent _ (List.mem_of_getElem? (i := 3) rfl)) (hw1.ne (i := 2) (j := 3) rfl rfl (by decide)) (show (numK 1 (2:UInt64) 1).length = 1 from (CX _ _ _)) hc1 hc2 hc3 (by omega) (by unfold Szd; omega) (fun _ => shr8 (by omega)) (by omega)))) ?_
 rintro v1 L1 ⟨_, ⟨rfl, nb5, sp2, cp2, rfl, hc4, hc5, hc6⟩, rfl⟩
 refine ⟨[], ?_⟩
 show DP _ _ _ _ _ _ _ _ [_, _, ⟨nb3, [.nilIface, Slc nb5 0 2 cp2], 149, (0, 0)⟩, ⟨nb5, cu8 ((numK 1 (2:UInt64) 1) ++ numK 1 (UInt64.ofNat h) 1) ++ sp2, 5, (0, 0)⟩]
 refine BT ⟨[1, 4], [0, 2, 3, 5, 7], [0, 2, 3], [5, 7], [6]⟩ 6 _ rfl rfl (by decide +kernel) rfl ⟨⟨_, rfl, AB rfl (AL rfl (BO BS AQ (B2 hl) (MemAt.ent 0 rfl (AM _))))⟩, ⟨_, rfl, AB rfl (AL rfl (BO BS AQ (B2 hr) (MemAt.ent 1 rfl (AM _))))⟩, trivial⟩ rfl (A1 rfl (D5 149 _ [false, false, true, true] [nb3, nb5] _ (AW [Ptr nb3 0, .agg (cu8 l).toArray] Tryd.call149 rfl) rfl (fun w1 hw1 => hashO_c nb3 nb5 2 cp2 34 .nilIface ((numK 1 (2:UInt64) 1) ++ numK 1 (UInt64.ofNat h) 1) sp2 l w1 (hw1.ent _ (List.mem_of_getElem? (i := 2) rfl)) (hw1.ent _ (List.mem_of_getElem? (i := 3) rfl)) (hw1.ne (i := 2) (j := 3) rfl rfl (by decide)) (show ((numK 1 (2:UInt64) 1) ++ numK 1 (UInt64.ofNat h) 1).length = 2 from (by rw [List.length_append, (show (numK 1 (2:UInt64) 1).length = 1 from (CX _ _ _)), CX] <;> omega)) hc4 hc5 hc6 (by omega) hl (by omega)))) ?_
 rintro v1 L1 ⟨_, ⟨rfl, nb6, sp3, cp3, rfl, hc7, hc8, hc9⟩, rfl⟩
 refine ⟨[], ?_⟩
 show DP _ _ _ _ _ _ _ _ [_, _, ⟨nb3, [.nilIface, Slc nb6 0 34 cp3], 149, (0, 0)⟩, ⟨nb6, cu8 (((numK 1 (2:UInt64) 1) ++ numK 1 (UInt64.ofNat h) 1) ++ l) ++ sp3, 5, (0, 0)⟩]
 refine BT ⟨[1, 4, 6], [0, 2, 3, 5, 7], [0, 2, 3, 5], [7], [8]⟩ 8 _ rfl rfl (by decide +kernel) rfl ⟨⟨_, rfl, AB rfl (AL rfl (BO BS AQ (B2 hr) (MemAt.ent 1 rfl (AM _))))⟩, trivial⟩ rfl (A1 rfl (D5 149 _ [false, false, true, true] [nb3, nb6] _ (AW [Ptr nb3 0, .agg (cu8 r).toArray] Tryd.call149 rfl) rfl (fun w1 hw1 => hashO_c nb3 nb6 34 cp3 66 .nilIface (((numK 1 (2:UInt64) 1) ++ numK 1 (UInt64.ofNat h) 1) ++ l) sp3 r w1 (hw1.ent _ (List.mem_of_getElem? (i := 2) rfl)) (hw1.ent _ (List.mem_of_getElem? (i := 3) rfl)) (hw1.ne (i := 2) (j := 3) rfl rfl (by decide)) (show (((numK 1 (2:UInt64) 1) ++ numK 1 (UInt64.ofNat h) 1) ++ l).length = 34 from (by rw [List.length_append, (show ((numK 1 (2:UInt64) 1) ++ numK 1 (UInt64.ofNat h) 1).length = 2 from (by rw [List.length_append, (show (numK 1 (2:UInt64) 1).length = 1 from (CX _ _ _)), CX] <;> omega)), hl] <;> omega)) hc7 hc8 hc9 (by omega) hr (by omega)))) ?_
 rintro v1 L1 ⟨_, ⟨rfl, nb7, sp4, cp4, rfl, hc10, hc11, hc12⟩, rfl⟩
 refine ⟨[], ?_⟩
 show DP _ _ _ _ _ _ _ _ [_, _, ⟨nb3, [.nilIface, Slc nb7 0 66 cp4], 149, (0, 0)⟩, ⟨nb7, cu8 ((((numK 1 (2:UInt64) 1) ++ numK 1 (UInt64.ofNat h) 1) ++ l) ++ r) ++ sp4, 5, (0, 0)⟩]
 refine BT ⟨[1, 4, 6, 8], [0, 2, 3, 5, 7], [0, 2, 3, 5, 7], [], [9]⟩ 9 _ rfl rfl (by decide +kernel) rfl trivial rfl (A1 rfl (B1 83 [Ptr nb3 0] _ (AW [Ptr nb3 0] Tryd.call83 rfl) (fun w1 hw1 => doneO_c nb3 0 nb7 66 cp4 ((((numK 1 (2:UInt64) 1) ++ numK 1 (UInt64.ofNat h) 1) ++ l) ++ r) w1 (RdA.of hw1 (MemAt.ent 2 rfl (AM _)) (by simp)) rfl (show ((((numK 1 (2:UInt64) 1) ++ numK 1 (UInt64.ofNat h) 1) ++ l) ++ r).length = 66 from (by rw [List.length_append, (show (((numK 1 (2:UInt64) 1) ++ numK 1 (UInt64.ofNat h) 1) ++ l).length = 34 from (by rw [List.length_append, (show ((numK 1 (2:UInt64) 1) ++ numK 1 (UInt64.ofNat h) 1).length = 2 from (by rw [List.length_append, (show (numK 1 (2:UInt64) 1).length = 1 from (CX _ _ _)), CX] <;> omega)), hl] <;> omega)), hr] <;> omega)) (by omega) (RdB.of hw1 (MemAt.ent 3 rfl (BV (AM _))) (by simp))))) ?_
 rintro v1 L1 ⟨_, ⟨nb8, sp5, cp5, rfl, rfl, hc13, hc14, hc15⟩, rfl⟩
 refine ⟨[(10, Slc nb8 0 66 cp5), (11, .nilIface), (12, Slc nb8 0 66 cp5), (13, .nilIface)], ?_⟩
 show DP _ _ _ _ _ _ _ _ [_, _, _, _, ⟨nb8, cu8 ((((numK 1 (2:UInt64) 1) ++ numK 1 (UInt64.ofNat h) 1) ++ l) ++ r) ++ sp5, 5, (0, 0)⟩]
 refine DG ⟨[1, 4, 6, 8, 9], [0, 2, 3, 5, 7, 10, 11, 12, 13], [0, 2, 3, 5, 7], [10, 11, 12, 13], []⟩ rfl rfl (by decide +kernel) rfl ⟨⟨_, rfl, AB rfl (BJ rfl rfl)⟩, ⟨_, rfl, AB rfl (BJ rfl rfl)⟩, ⟨_, rfl, AB rfl (AF rfl)⟩, ⟨_, rfl, AB rfl (AF rfl)⟩, trivial⟩ ?_
 refine CZ (F' := [(6, Slc nb8 0 66 cp5), (7, .nilIface)]) (by kernel_rfl) ?_
 refine AE (BG (B5 [false, false, false, false, true] ?_))
 show JQ _ _ _ _ [_]
 refine BI (.tuple #[Slc nb8 0 66 cp5, .nilIface]) (res2 Tryd.results195 (BK rfl) (BK rfl)) fun w1 hw1 => ?_
 have hq : (((numK 1 (2:UInt64) 1) ++ numK 1 (UInt64.ofNat h) 1) ++ l) ++ r = joinT h l r := by rw [joinT]
 rw [hq] at hw1
 exact ⟨_, _, rfl, ⟨nb8, sp5, cp5, rfl, rfl, hc13, hc14, hc15⟩, hw1.sub (by simp) (by simp)⟩
theorem hashed_c (az : Option Addr) (n cz : Nat) (z : List UInt8) (w : World) (ha : az.isNone = false) (hz : z.length = n) (hn : n ≤ 1000000) (hr : RdB w [] az z) (hG : GLs w) : Calls Tryd.prog 156 #[.slice az n cz, .nilIface] w (Post w [] (fun v L => v = .tuple #[.agg (cu8 (sumG constL initL z)).toArray, .nilIface] ∧ L = [])) := by
 have hmx : maxLen = 9223372036854775807 := rfl
 refine enter w [] 12 [] [.slice az n cz, .nilIface] Tryd.func156 rfl rfl (by simp) (BL (by simp) (by simp) (by simp)) ?_
 show JC _ _ _ [(0, .slice az n cz), (1, .nilIface)] _
 refine AG (AC (AN (BR _ (cu8 (zr8 32)) BP (by kernel_rfl)) rfl ?_))
 rintro v1 L1 ⟨nb1, hnb1, rfl, rfl⟩
 show JL _ _ _ _ ((4, Ptr nb1 0) :: _) [⟨nb1, cu8 (zr8 32), 54, (0, 0)⟩]
 refine AA _ (AF rfl) rfl ?_
 refine AI (AE (AG (AG (AC (AA _ (AD rfl) rfl ?_)))))
 refine AA (.bool false) (D8 _ _ _ rfl rfl (fun _ => D6 ..) fun _ => DS B8) rfl ?_
 refine AI (AE (B9 _ rfl rfl ?_))
 refine BE (AE (AG (AC (AA _ (AD rfl) rfl ?_))))
 refine AN (AT 177 [.slice az n cz] (.agg (cu8 (sumG constL initL z)).toArray) (AW [.slice az n cz] Tryd.call177 rfl) (fun w1 hw1 => sum_c az n cz z w1 hz (fun h => by rw [h] at ha; cases ha) (by omega) (hr.at (M' := []) hw1 (by simp)) (hG.at hw1))) rfl ?_
 rintro v1 L1 ⟨rfl, rfl⟩
 show JL _ _ _ _ ((11, .agg (cu8 (sumG constL initL z)).toArray) :: _) [_]
 refine AN (A8 0 nb1 0 32 (cu8 (zr8 32)) 54 (.agg (cu8 (sumG constL initL z)).toArray) (cu8 (sumG constL initL z)) (cu8 (sumG constL initL z)) rfl rfl rfl (by first | rfl | simp) AQ (B2 (BM _ _ _)) (by first | exact C5 | exact DA | exact C9 | (simp [cu8, cu32, cu64, Value.oneCell']; done)) (by simp [(A2 32)]) (BU (by simp [(A2 32), (BM _ _ _)]))) rfl ?_
 rintro v1 L1 ⟨rfl, rfl⟩
 show JL _ _ _ _ _ [⟨nb1, cu8 (sumG constL initL z), 54, (0, 0)⟩]
 refine AA _ (AF rfl) rfl ?_
 refine AI (AE (BG (BI (.tuple #[.agg (cu8 (sumG constL initL z)).toArray, .nilIface]) (res2 Tryd.results156 (EI rfl (BO BS AQ (B2 (BM _ _ _)) (MemAt.ent 0 rfl (AM _)))) (BK rfl)) fun w1 hw1 => ?_)))
 exact ⟨_, [], rfl, ⟨rfl, rfl⟩, hw1.sub (by simp) (by simp)⟩
theorem leaf_c (i : UInt64) (e : UInt64) (d t : List UInt8)  (w : World) (hd : d.length = 32) (ht : t.length = 16) (hx : 4 < 8 → i >>> UInt64.ofNat (8*4) = 0) (hG : GLs w) : Calls Tryd.prog 131 #[U64 i, .agg (List.toArray (α := Value) ([U64 e] ++ cu8 d ++ cu8 t))] w (Post w [] (fun v L => v = .tuple #[.agg (cu8 (sumG constL initL (leafT i e d t))).toArray, .nilIface] ∧ L = [])) := by
 refine enter (P := Tryd.prog) (f := 131) (fn := Tryd.f131) w [] 14 [] [U64 i, .agg (List.toArray (α := Value) ([U64 e] ++ cu8 d ++ cu8 t))] Tryd.func131 rfl rfl (by simp) (BL (by simp) (by simp) (by simp)) ?_
 show JC _ _ _ [(0, U64 i), (1, .agg (List.toArray (α := Value) ([U64 e] ++ cu8 d ++ cu8 t)))] _
 refine AG (AC (AN (CM (.agg (List.toArray (α := Value) ([U64 e] ++ cu8 d ++ cu8 t))) ([U64 e] ++ cu8 d ++ cu8 t) rfl (by first | rfl | simp)) rfl ?_))
 rintro v1 L1 ⟨nb1, hnb1, rfl, rfl⟩
 show JL _ _ _ _ ((3, Ptr nb1 0) :: _) [⟨nb1, [U64 e] ++ cu8 d ++ cu8 t, 161, (0, 0)⟩]
 refine AN (BR _ (cu8 (zr8 32)) BP (by kernel_rfl)) rfl ?_
 rintro v1 L1 ⟨nb2, hnb2, rfl, rfl⟩
 show JL _ _ _ _ ((4, Ptr nb2 0) :: _) [_, ⟨nb2, cu8 (zr8 32), 54, (0, 0)⟩]
 refine AA _ (AF rfl) rfl ?_
 refine AI (AE (AG (AC (AA _ (AD rfl) rfl ?_))))
 refine AA (.agg (List.toArray (α := Value) ([U64 e] ++ cu8 d ++ cu8 t))) (AL rfl (BO D3 CE (by simp [hd, ht]) (MemAt.ent 0 rfl (AM _)))) rfl ?_
 refine AN (B1 157 [U64 i, .agg (List.toArray (α := Value) ([U64 e] ++ cu8 d ++ cu8 t))] _ (AW [U64 i, .agg (List.toArray (α := Value) ([U64 e] ++ cu8 d ++ cu8 t))] Tryd.call157 rfl) (fun w1 hw1 => leafText_c i e d t w1 hd ht hx)) rfl ?_
 rintro v1 L1 ⟨_, ⟨nb3, sp1, cp1, rfl, rfl, hc1, hc2, hc3⟩, rfl⟩
 show JL _ _ _ _ ((8, .tuple #[Slc nb3 0 61 cp1, .nilIface]) :: _) [_, _, ⟨nb3, cu8 (leafT i e d t) ++ sp1, 5, (0, 0)⟩]
 refine AA _ (BJ rfl rfl) rfl ?_
 refine AA _ (BJ rfl rfl) rfl ?_
 refine AN (AT 156 [Slc nb3 0 61 cp1, .nilIface] (.tuple #[.agg (cu8 (sumG constL initL (leafT i e d t))).toArray, .nilIface]) (AW [Slc nb3 0 61 cp1, .nilIface] Tryd.call156 rfl) (fun w1 hw1 => hashed_c (some ⟨nb3, 0, none⟩) 61 cp1 (leafT i e d t) w1 rfl (show (leafT i e d t).length = 61 from (leafT_len hd ht)) (by omega) (RdB.of hw1 (MemAt.ent 2 rfl (BV (AM _))) (by simp)) (hG.at hw1))) rfl ?_
 rintro v1 L1 ⟨rfl, rfl⟩
 show JL _ _ _ _ ((11, .tuple #[.agg (cu8 (sumG constL initL (leafT i e d t))).toArray, .nilIface]) :: _) [_, _, _]
 refine AA _ (BJ rfl rfl) rfl ?_
 refine AA _ (BJ rfl rfl) rfl ?_
 refine AN (A8 1 nb2 0 32 (cu8 (zr8 32)) 54 (.agg (cu8 (sumG constL initL (leafT i e d t))).toArray) (cu8 (sumG constL initL (leafT i e d t))) (cu8 (sumG constL initL (leafT i e d t))) rfl rfl rfl (by first | rfl | simp) AQ (B2 (BM _ _ _)) (by first | exact C5 | exact DA | exact C9 | (simp [cu8, cu32, cu64, Value.oneCell']; done)) (by simp [(A2 32)]) (BU (by simp [(A2 32), (BM _ _ _)]))) rfl ?_
 rintro v1 L1 ⟨rfl, rfl⟩
 show JL _ _ _ _ _ [_, ⟨nb2, cu8 (sumG constL initL (leafT i e d t)), 54, (0, 0)⟩, _]
 refine AA _ (AF rfl) rfl ?_
 refine AI (AE (BG (B5 [false, true, false] ?_)))
 show JQ _ _ _ _ [_]
 refine BI (.tuple #[.agg (cu8 (sumG constL initL (leafT i e d t))).toArray, .nilIface]) (res2 Tryd.results131 (EI rfl (BO BS AQ (B2 (BM _ _ _)) (MemAt.ent 0 rfl (AM _)))) (BK rfl)) fun w1 hw1 => ?_
 exact ⟨_, [], rfl, ⟨rfl, rfl⟩, hw1.sub (by simp) (by simp)⟩
theorem join_n_c (h : Nat) (l r : List UInt8) (w : World) (hl : l.length = 32) (hr : r.length = 32) (h1 : 1 ≤ h) (h2 : h ≤ 32) (hG : GLs w) : Calls Tryd.prog 178 #[I64 ((h:Int)), .agg (cu8 l).toArray, .agg (cu8 r).toArray] w (Post w [] (fun v L => v = .tuple #[.agg (cu8 (sumG constL initL (joinT h l r))).toArray, .nilIface] ∧ L = [])) := by
 refine enter w [] 17 [] [I64 ((h:Int)), .agg (cu8 l).toArray, .agg (cu8 r).toArray] Tryd.func178 rfl rfl (by simp) (BL (by simp) (by simp) (by simp)) ?_
 show JC _ _ _ [(0, I64 ((h:Int))), (1, .agg (cu8 l).toArray), (2, .agg (cu8 r).toArray)] _
 refine AG (AC (AN (CM (.agg (cu8 l).toArray) (cu8 l) rfl (by first | rfl | simp)) rfl ?_))
 rintro v1 L1 ⟨nb1, hnb1, rfl, rfl⟩
 show JL _ _ _ _ ((4, Ptr nb1 0) :: _) [⟨nb1, cu8 l, 54, (0, 0)⟩]
 refine AN (CM (.agg (cu8 r).toArray) (cu8 r) rfl (by first | rfl | simp)) rfl ?_
 rintro v1 L1 ⟨nb2, hnb2, rfl, rfl⟩
 show JL _ _ _ _ ((5, Ptr nb2 0) :: _) [_, ⟨nb2, cu8 r, 54, (0, 0)⟩]
 refine AN (BR _ (cu8 (zr8 32)) BP (by kernel_rfl)) rfl ?_
 rintro v1 L1 ⟨nb3, hnb3, rfl, rfl⟩
 show JL _ _ _ _ ((6, Ptr nb3 0) :: _) [_, _, ⟨nb3, cu8 (zr8 32), 54, (0, 0)⟩]
 refine AA _ (AF rfl) rfl ?_
 refine AI (AE (AG (AC (AA _ (AD rfl) rfl ?_))))
 refine AA (.agg (cu8 l).toArray) (AL rfl (BO BS AQ (B2 hl) (MemAt.ent 0 rfl (AM _)))) rfl ?_
 refine AA (.agg (cu8 r).toArray) (AL rfl (BO BS AQ (B2 hr) (MemAt.ent 1 rfl (AM _)))) rfl ?_
 refine AN (B1 195 [I64 ((h:Int)), .agg (cu8 l).toArray, .agg (cu8 r).toArray] _ (AW [I64 ((h:Int)), .agg (cu8 l).toArray, .agg (cu8 r).toArray] Tryd.call195 rfl) (fun w1 hw1 => joinText_c h l r w1 hl hr (by omega) (by omega))) rfl ?_
 rintro v1 L1 ⟨_, ⟨nb4, sp1, cp1, rfl, rfl, hc1, hc2, hc3⟩, rfl⟩
 show JL _ _ _ _ ((11, .tuple #[Slc nb4 0 66 cp1, .nilIface]) :: _) [_, _, _, ⟨nb4, cu8 (joinT h l r) ++ sp1, 5, (0, 0)⟩]
 refine AA _ (BJ rfl rfl) rfl ?_
 refine AA _ (BJ rfl rfl) rfl ?_
 refine AN (AT 156 [Slc nb4 0 66 cp1, .nilIface] (.tuple #[.agg (cu8 (sumG constL initL (joinT h l r))).toArray, .nilIface]) (AW [Slc nb4 0 66 cp1, .nilIface] Tryd.call156 rfl) (fun w1 hw1 => hashed_c (some ⟨nb4, 0, none⟩) 66 cp1 (joinT h l r) w1 rfl (show (joinT h l r).length = 66 from (joinT_len hl hr)) (by omega) (RdB.of hw1 (MemAt.ent 3 rfl (BV (AM _))) (by simp)) (hG.at hw1))) rfl ?_
 rintro v1 L1 ⟨rfl, rfl⟩
 show JL _ _ _ _ ((14, .tuple #[.agg (cu8 (sumG constL initL (joinT h l r))).toArray, .nilIface]) :: _) [_, _, _, _]
 refine AA _ (BJ rfl rfl) rfl ?_
 refine AA _ (BJ rfl rfl) rfl ?_
 refine AN (A8 2 nb3 0 32 (cu8 (zr8 32)) 54 (.agg (cu8 (sumG constL initL (joinT h l r))).toArray) (cu8 (sumG constL initL (joinT h l r))) (cu8 (sumG constL initL (joinT h l r))) rfl rfl rfl (by first | rfl | simp) AQ (B2 (BM _ _ _)) (by first | exact C5 | exact DA | exact C9 | (simp [cu8, cu32, cu64, Value.oneCell']; done)) (by simp [(A2 32)]) (BU (by simp [(A2 32), (BM _ _ _)]))) rfl ?_
 rintro v1 L1 ⟨rfl, rfl⟩
 show JL _ _ _ _ _ [_, _, ⟨nb3, cu8 (sumG constL initL (joinT h l r)), 54, (0, 0)⟩, _]
 refine AA _ (AF rfl) rfl ?_
 refine AI (AE (BG (B5 [false, false, true, false] ?_)))
 show JQ _ _ _ _ [_]
 refine BI (.tuple #[.agg (cu8 (sumG constL initL (joinT h l r))).toArray, .nilIface]) (res2 Tryd.results178 (EI rfl (BO BS AQ (B2 (BM _ _ _)) (MemAt.ent 0 rfl (AM _)))) (BK rfl)) fun w1 hw1 => ?_
 exact ⟨_, [], rfl, ⟨rfl, rfl⟩, hw1.sub (by simp) (by simp)⟩
end Go.Proofs.YtkdpdgpphpngeaaDoor
namespace Go.Proofs.YtkdpdgpphpngeaaDoor
open Go Go.Sx
set_option linter.unusedVariables false
set_option linter.unusedSimpArgs false
set_option maxRecDepth 100000
attribute [local irreducible] mid zr8 zr32 numK rnK rotr wordL spreadL comprL cpN adN spN wrdN constL initL padL stN outN routN sumG putL leafT joinT empL empA empR
theorem empties_c  (w : World) (hG : GLs w) : Calls Tryd.prog 154 #[] w (Post w [] (fun v L => v = .agg (cu8 (empA 32)).toArray ∧ L = [])) := by
 refine enter w [] 31 [] [] Tryd.func154 rfl rfl (by simp) (BL (by simp) (by simp) (by simp)) ?_
 show JC _ _ _ [] _
 refine AG (AC (AN (BR _ (cu8 (zr8 1056)) Tryd.zeroValue237 (by kernel_rfl)) rfl ?_))
 rintro v1 L1 ⟨nb1, hnb1, rfl, rfl⟩
 show JL _ _ _ _ ((0, Ptr nb1 0) :: _) [⟨nb1, cu8 (zr8 1056), 237, (0, 0)⟩]
 refine AI (AE (AG (AC (AN (BF 5 1 _ [(0, U8 (0:UInt8))] (cu8 ([(0:UInt8)])) AP AY C1 rfl rfl rfl (by kernel_rfl)) rfl ?_))))
 rintro v1 L1 ⟨nb2, hnb2, rfl, rfl⟩
 show JL _ _ _ _ ((5, Slc nb2 0 1 1) :: _) [_, ⟨nb2, cu8 ([(0:UInt8)]), 5, (0, 0)⟩]
 refine AN (AT 177 [Slc nb2 0 1 1] (.agg (cu8 (sumG constL initL ([(0:UInt8)]))).toArray) (AW [Slc nb2 0 1 1] Tryd.call177 rfl) (fun w1 hw1 => sum_c (some ⟨nb2, 0, none⟩) 1 1 ([(0:UInt8)]) w1 rfl (fun h => by cases h) (by omega) (RdB.of hw1 (MemAt.ent 1 rfl (AM _)) (by simp)) (hG.at hw1))) rfl ?_
 rintro v1 L1 ⟨rfl, rfl⟩
 show JL _ _ _ _ ((6, .agg (cu8 (sumG constL initL ([(0:UInt8)]))).toArray) :: _) [_, _]
 have hl1 : (spl (zr8 1056) 0 (sumG constL initL ([(0:UInt8)]))).length = 1056 := (EY (by rw [A2, show (sumG constL initL ([(0:UInt8)])).length = 32 from (BM _ _ _)]; omega)).trans (A2 1056)
 refine AA (.agg (cu8 (spl (zr8 1056) 0 (sumG constL initL ([(0:UInt8)])))).toArray) (EG [(0, .agg (cu8 (sumG constL initL ([(0:UInt8)]))).toArray)] _ rfl (fun _ => run_build_array (z := .agg (cu8 (zr8 1056)).toArray) (fun _ => by kernel_rfl) ED AQ (fill_first (BM _ _ _) (by decide)))) rfl ?_
 refine AN (BR _ (cu8 (zr8 1056)) Tryd.zeroValue237 (by kernel_rfl)) rfl ?_
 rintro v1 L1 ⟨nb3, hnb3, rfl, rfl⟩
 show JL _ _ _ _ ((1, Ptr nb3 0) :: _) [_, _, ⟨nb3, cu8 (zr8 1056), 237, (0, 0)⟩]
 refine AN (A8 2 nb3 0 1056 (cu8 (zr8 1056)) 237 (.agg (cu8 (spl (zr8 1056) 0 (sumG constL initL ([(0:UInt8)])))).toArray) (cu8 (spl (zr8 1056) 0 (sumG constL initL ([(0:UInt8)])))) (cu8 (spl (zr8 1056) 0 (sumG constL initL ([(0:UInt8)])))) rfl rfl rfl (by first | rfl | simp) Tryd.sizeOf237 (B2 hl1) (by first | exact C5 | exact DA | exact C9 | (simp [cu8, cu32, cu64, Value.oneCell']; done)) (by simp [(A2 1056)]) (BU (by simp [(A2 1056), hl1]))) rfl ?_
 rintro v1 L1 ⟨rfl, rfl⟩
 show JL _ _ _ _ _ [_, _, ⟨nb3, cu8 (spl (zr8 1056) 0 (sumG constL initL ([(0:UInt8)]))), 237, (0, 0)⟩]
 refine AI (AE (AG (AG (AC (AA _ (AF rfl) rfl ?_)))))
 refine AI (AE (BH (B5 [true, false, true] ?_)))
 show JC _ _ _ _ [_, _]
 refine DN (ι := Nat × List UInt8) (fun ⟨q, A⟩ => [(0, Ptr nb1 0), (1, Ptr nb3 0), (2, I64 ((q:Int) + 1))]) (fun ⟨q, A⟩ => [⟨nb1, cu8 (zr8 1056), 237, (0, 0)⟩, ⟨nb3, cu8 A, 237, (0, 0)⟩]) (fun ⟨q, A⟩ => q ≤ 32 ∧ A = empA q ∧ A.length = 1056) (fun ⟨q, A⟩ => 32 - q) (0, spl (zr8 1056) 0 (sumG constL initL ([(0:UInt8)]))) ⟨by omega, by rw [empA_zero], hl1⟩ (AH rfl (AH rfl (AH rfl (Sub.nil)))) rfl ?_
 rintro ⟨q, A⟩ ⟨hx1, hx2, hA⟩
 show JC _ _ _ [(0, Ptr nb1 0), (1, Ptr nb3 0), (2, I64 ((q:Int) + 1))] [⟨nb1, cu8 (zr8 1056), 237, (0, 0)⟩, ⟨nb3, cu8 A, 237, (0, 0)⟩]
 refine AG (AG (AC (AA _ (AD rfl) rfl ?_)))
 refine AA (.bool (decide (((q:Int) + 1) < (33:Int)))) (AK rfl rfl fun _ => CP _ _) rfl ?_
 refine AI (AE (CN (decide (((q:Int) + 1) < (33:Int))) rfl (fun hb1 => ?_) (fun hb1 => ?_)))
 ·
  have hp1 : ((q:Int) + 1) < (33:Int) := of_decide_eq_true hb1
  refine BE (AE (AG (BH (AG ?_))))
  have hl2 : (mid A (32*q) 32).length = 32 := DV (by rw [hA]; omega)
  have hl3 : (mid A (32*q) 32).length = 32 := DV (by rw [hA]; omega)
  refine C3 31 4 [(0, I64 ((q:Int) + 1)), (1, I64 ((q:Int) + 1)), (2, I64 ((q:Int))), (3, Ptr nb3 (32*q)), (4, .agg (cu8 (mid A (32*q) 32)).toArray), (5, I64 ((q:Int) + 1)), (6, I64 ((q:Int))), (7, Ptr nb3 (32*q)), (8, .agg (cu8 (mid A (32*q) 32)).toArray)] BQ rfl (by decide +kernel) ?_
  have hl4 : (mid A (32*q) 32).length = 32 := DV (by rw [hA]; omega)
  have hl5 : (mid A (32*q) 32).length = 32 := DV (by rw [hA]; omega)
  refine DP_two ⟨[], [0, 1, 2, 3, 4, 5, 6, 7, 8], [], [0, 1, 2, 3, 4, 5, 6, 7, 8], [9, 13]⟩ 9 13 _ _ rfl rfl (by decide +kernel) rfl ⟨⟨_, rfl, AB rfl (AD rfl)⟩, ⟨_, rfl, AB rfl (AD rfl)⟩, ⟨_, rfl, AB rfl (AK rfl rfl fun _ => CO _ _ ((q:Int)) (by omega) (by omega))⟩, ⟨_, rfl, AB rfl (A5 33 54 32 (32*q) ED AQ rfl rfl (by omega) (by omega) (by omega))⟩, ⟨_, rfl, AB rfl (AL rfl (BO BS AQ (B2 hl4) (MemAt.ent 1 rfl (E8 (32*q) 32 (by rw [hA]; omega)))))⟩, ⟨_, rfl, AB rfl (AD rfl)⟩, ⟨_, rfl, AB rfl (AK rfl rfl fun _ => CO _ _ ((q:Int)) (by omega) (by omega))⟩, ⟨_, rfl, AB rfl (A5 33 54 32 (32*q) ED AQ rfl rfl (by omega) (by omega) (by omega))⟩, ⟨_, rfl, AB rfl (AL rfl (BO BS AQ (B2 hl5) (MemAt.ent 1 rfl (E8 (32*q) 32 (by rw [hA]; omega)))))⟩, trivial⟩ rfl rfl (A1 rfl (AT 178 [I64 ((q:Int) + 1), .agg (cu8 (mid A (32*q) 32)).toArray, .agg (cu8 (mid A (32*q) 32)).toArray] (.tuple #[.agg (cu8 (sumG constL initL (joinT (q + 1) (mid A (32*q) 32) (mid A (32*q) 32)))).toArray, .nilIface]) (AW [I64 ((q:Int) + 1), .agg (cu8 (mid A (32*q) 32)).toArray, .agg (cu8 (mid A (32*q) 32)).toArray] Tryd.call178 rfl) (fun w1 hw1 => join_n_c (q + 1) (mid A (32*q) 32) (mid A (32*q) 32) w1 hl2 hl3 (by omega) (by omega) (hG.at hw1)))) (A1 rfl (BR _ (cu8 (zr8 32)) BP (by kernel_rfl))) ?_ ?_
  ·
   rintro v1 L1 ⟨rfl, rfl⟩
   refine ⟨[(10, .tuple #[.agg (cu8 (sumG constL initL (joinT (q + 1) (mid A (32*q) 32) (mid A (32*q) 32)))).toArray, .nilIface]), (11, .agg (cu8 (sumG constL initL (joinT (q + 1) (mid A (32*q) 32) (mid A (32*q) 32)))).toArray), (12, .nilIface)], ?_⟩
   show DP _ _ _ _ _ _ _ _ [_, _]
   refine BT ⟨[9], [0, 1, 2, 3, 4, 5, 6, 7, 8, 10, 11, 12], [0, 1, 2, 3, 4, 5, 6, 7, 8], [10, 11, 12], [13]⟩ 13 _ rfl rfl (by decide +kernel) rfl ⟨⟨_, rfl, AB rfl (AD rfl)⟩, ⟨_, rfl, AB rfl (BJ rfl rfl)⟩, ⟨_, rfl, AB rfl (BJ rfl rfl)⟩, trivial⟩ rfl (A1 rfl (BR _ (cu8 (zr8 32)) BP (by kernel_rfl))) ?_
   rintro v1 L1 ⟨nb5, hnb5, rfl, rfl⟩
   refine ⟨[], ?_⟩
   show DP _ _ _ _ _ _ _ _ [_, _, ⟨nb5, cu8 (zr8 32), 54, (0, 0)⟩]
   refine BT ⟨[9, 13], [0, 1, 2, 3, 4, 5, 6, 7, 8, 10, 11, 12], [0, 1, 2, 3, 4, 5, 6, 7, 8], [10, 11, 12], [14]⟩ 14 _ rfl rfl (by decide +kernel) rfl ⟨⟨_, rfl, AB rfl (AD rfl)⟩, ⟨_, rfl, AB rfl (BJ rfl rfl)⟩, ⟨_, rfl, AB rfl (BJ rfl rfl)⟩, trivial⟩ rfl (A1 rfl (A8 2 nb5 0 32 (cu8 (zr8 32)) 54 (.agg (cu8 (sumG constL initL (joinT (q + 1) (mid A (32*q) 32) (mid A (32*q) 32)))).toArray) (cu8 (sumG constL initL (joinT (q + 1) (mid A (32*q) 32) (mid A (32*q) 32)))) (cu8 (sumG constL initL (joinT (q + 1) (mid A (32*q) 32) (mid A (32*q) 32)))) rfl rfl rfl (by first | rfl | simp) AQ (B2 (BM _ _ _)) (by first | exact C5 | exact DA | exact C9 | (simp [cu8, cu32, cu64, Value.oneCell']; done)) (by simp [(A2 32)]) (BU (by simp [(A2 32), (BM _ _ _)])))) ?_
   rintro v1 L1 ⟨rfl, rfl⟩
   refine ⟨[(15, .nilIface)], ?_⟩
   show DP _ _ _ _ _ _ _ _ [_, _, ⟨nb5, cu8 (sumG constL initL (joinT (q + 1) (mid A (32*q) 32) (mid A (32*q) 32))), 54, (0, 0)⟩]
   refine DG ⟨[9, 13, 14], [0, 1, 2, 3, 4, 5, 6, 7, 8, 10, 11, 12, 15], [0, 1, 2, 3, 4, 5, 6, 7, 8, 10, 11], [12, 15], []⟩ rfl rfl (by decide +kernel) rfl ⟨⟨_, rfl, AB rfl (BJ rfl rfl)⟩, ⟨_, rfl, AB rfl (AF rfl)⟩, trivial⟩ ?_
   refine CZ (F' := [(13, I64 ((q:Int) + 1)), (14, I64 ((q:Int) + 1)), (15, I64 ((q:Int))), (16, Ptr nb3 (32*q)), (17, .agg (cu8 (mid A (32*q) 32)).toArray), (18, I64 ((q:Int) + 1)), (19, I64 ((q:Int))), (20, Ptr nb3 (32*q)), (21, .agg (cu8 (mid A (32*q) 32)).toArray), (22, .tuple #[.agg (cu8 (sumG constL initL (joinT (q + 1) (mid A (32*q) 32) (mid A (32*q) 32)))).toArray, .nilIface]), (12, .tuple #[.agg (cu8 (sumG constL initL (joinT (q + 1) (mid A (32*q) 32) (mid A (32*q) 32)))).toArray, .nilIface]), (23, .agg (cu8 (sumG constL initL (joinT (q + 1) (mid A (32*q) 32) (mid A (32*q) 32)))).toArray), (24, .nilIface), (3, Ptr nb5 0), (4, .nilIface), (0, Ptr nb1 0), (1, Ptr nb3 0), (2, I64 ((q:Int) + 1)), (8, I64 ((q:Int) + 1)), (9, .bool (decide (((q:Int) + 1) < (33:Int))))]) (by kernel_rfl) ?_
   refine AE (AG (AG (AC (AA _ (AD rfl) rfl ?_))))
   refine AA (.bool false) (D8 _ _ _ rfl rfl (fun _ => D6 ..) fun _ => DS B8) rfl ?_
   refine AI (AE (B9 _ rfl rfl ?_))
   refine BE (AE (AC (AA _ (AD rfl) rfl ?_)))
   refine AA (.agg (cu8 (sumG constL initL (joinT (q + 1) (mid A (32*q) 32) (mid A (32*q) 32)))).toArray) (AL rfl (BO BS AQ (B2 (BM _ _ _)) (MemAt.ent 2 rfl (AM _)))) rfl ?_
   refine AA (Ptr nb3 (32*q + 32)) (A5 33 54 32 (32*q + 32) ED AQ rfl rfl (by omega) (by omega) (by omega)) rfl ?_
   have hl6 : (spl A (32*q + 32) (sumG constL initL (joinT (q + 1) (mid A (32*q) 32) (mid A (32*q) 32)))).length = 1056 := by rw [EY (by simp [hA, (BM _ _ _)]; omega)]; simp [hA, (BM _ _ _)]
   refine AN (A8 1 nb3 (32*q + 32) 32 (cu8 A) 237 (.agg (cu8 (sumG constL initL (joinT (q + 1) (mid A (32*q) 32) (mid A (32*q) 32)))).toArray) (cu8 (sumG constL initL (joinT (q + 1) (mid A (32*q) 32) (mid A (32*q) 32)))) (cu8 (spl A (32*q + 32) (sumG constL initL (joinT (q + 1) (mid A (32*q) 32) (mid A (32*q) 32))))) rfl rfl rfl (by first | rfl | simp) AQ (B2 (BM _ _ _)) (by first | exact C5 | exact DA | exact C9 | (simp [cu8, cu32, cu64, Value.oneCell']; done)) (by simp [hA]; try omega) (laySpl8 _ _ _ (by simp [hA, (BM _ _ _)]; omega))) rfl ?_
   rintro v1 L1 ⟨rfl, rfl⟩
   show JL _ _ _ _ _ [_, ⟨nb3, cu8 (spl A (32*q + 32) (sumG constL initL (joinT (q + 1) (mid A (32*q) 32) (mid A (32*q) 32)))), 237, (0, 0)⟩, _]
   refine AI (BA (AE (AC (AA _ (AD rfl) rfl ?_))))
   refine AA (I64 ((q:Int) + 2)) (AK rfl rfl fun _ => CH _ _ ((q:Int) + 2) (by omega) (by omega)) rfl ?_
   refine AA _ (AF rfl) rfl ?_
   refine AI (CR (B5 [true, true, false] ?_))
   show K _ _ [_, _] _
   refine DT (q + 1, spl A (32*q + 32) (sumG constL initL (joinT (q + 1) (mid A (32*q) 32) (mid A (32*q) 32)))) ⟨by omega, by rw [hx2]; exact empA_step (by omega), hl6⟩ (by first | (simp; omega) | simp | (dsimp only; omega) | omega) (AH rfl (AH rfl (AH (DU (by omega)) (Sub.nil)))) rfl
  ·
   rintro v1 L1 ⟨nb4, hnb4, rfl, rfl⟩
   refine ⟨[], ?_⟩
   show DP _ _ _ _ _ _ _ _ [_, _, ⟨nb4, cu8 (zr8 32), 54, (0, 0)⟩]
   have hl7 : (mid A (32*q) 32).length = 32 := DV (by rw [hA]; omega)
   have hl8 : (mid A (32*q) 32).length = 32 := DV (by rw [hA]; omega)
   refine BT ⟨[13], [0, 1, 2, 3, 4, 5, 6, 7, 8], [], [0, 1, 2, 3, 4, 5, 6, 7, 8], [9]⟩ 9 _ rfl rfl (by decide +kernel) rfl ⟨⟨_, rfl, AB rfl (AD rfl)⟩, ⟨_, rfl, AB rfl (AD rfl)⟩, ⟨_, rfl, AB rfl (AK rfl rfl fun _ => CO _ _ ((q:Int)) (by omega) (by omega))⟩, ⟨_, rfl, AB rfl (A5 33 54 32 (32*q) ED AQ rfl rfl (by omega) (by omega) (by omega))⟩, ⟨_, rfl, AB rfl (AL rfl (BO BS AQ (B2 hl7) (MemAt.ent 1 rfl (E8 (32*q) 32 (by rw [hA]; omega)))))⟩, ⟨_, rfl, AB rfl (AD rfl)⟩, ⟨_, rfl, AB rfl (AK rfl rfl fun _ => CO _ _ ((q:Int)) (by omega) (by omega))⟩, ⟨_, rfl, AB rfl (A5 33 54 32 (32*q) ED AQ rfl rfl (by omega) (by omega) (by omega))⟩, ⟨_, rfl, AB rfl (AL rfl (BO BS AQ (B2 hl8) (MemAt.ent 1 rfl (E8 (32*q) 32 (by rw [hA]; omega)))))⟩, trivial⟩ rfl (A1 rfl (AT 178 [I64 ((q:Int) + 1), .agg (cu8 (mid A (32*q) 32)).toArray, .agg (cu8 (mid A (32*q) 32)).toArray] (.tuple #[.agg (cu8 (sumG constL initL (joinT (q + 1) (mid A (32*q) 32) (mid A (32*q) 32)))).toArray, .nilIface]) (AW [I64 ((q:Int) + 1), .agg (cu8 (mid A (32*q) 32)).toArray, .agg (cu8 (mid A (32*q) 32)).toArray] Tryd.call178 rfl) (fun w1 hw1 => join_n_c (q + 1) (mid A (32*q) 32) (mid A (32*q) 32) w1 hl2 hl3 (by omega) (by omega) (hG.at hw1)))) ?_
   rintro v1 L1 ⟨rfl, rfl⟩
   refine ⟨[(10, .tuple #[.agg (cu8 (sumG constL initL (joinT (q + 1) (mid A (32*q) 32) (mid A (32*q) 32)))).toArray, .nilIface]), (11, .agg (cu8 (sumG constL initL (joinT (q + 1) (mid A (32*q) 32) (mid A (32*q) 32)))).toArray), (12, .nilIface)], ?_⟩
   show DP _ _ _ _ _ _ _ _ [_, _, _]
   refine BT ⟨[13, 9], [0, 1, 2, 3, 4, 5, 6, 7, 8, 10, 11, 12], [0, 1, 2, 3, 4, 5, 6, 7, 8], [10, 11, 12], [14]⟩ 14 _ rfl rfl (by decide +kernel) rfl ⟨⟨_, rfl, AB rfl (AD rfl)⟩, ⟨_, rfl, AB rfl (BJ rfl rfl)⟩, ⟨_, rfl, AB rfl (BJ rfl rfl)⟩, trivial⟩ rfl (A1 rfl (A8 2 nb4 0 32 (cu8 (zr8 32)) 54 (.agg (cu8 (sumG constL initL (joinT (q + 1) (mid A (32*q) 32) (mid A (32*q) 32)))).toArray) (cu8 (sumG constL initL (joinT (q + 1) (mid A (32*q) 32) (mid A (32*q) 32)))) (cu8 (sumG constL initL (joinT (q + 1) (mid A (32*q) 32) (mid A (32*q) 32)))) rfl rfl rfl (by first | rfl | simp) AQ (B2 (BM _ _ _)) (by first | exact C5 | exact DA | exact C9 | (simp [cu8, cu32, cu64, Value.oneCell']; done)) (by simp [(A2 32)]) (BU (by simp [(A2 32), (BM _ _ _)])))) ?_
   rintro v1 L1 ⟨rfl, rfl⟩
   refine ⟨[(15, .nilIface)], ?_⟩
   show DP _ _ _ _ _ _ _ _ [_, _, ⟨nb4, cu8 (sumG constL initL (joinT (q + 1) (mid A (32*q) 32) (mid A (32*q) 32))), 54, (0, 0)⟩]
   refine DG ⟨[13, 9, 14], [0, 1, 2, 3, 4, 5, 6, 7, 8, 10, 11, 12, 15], [0, 1, 2, 3, 4, 5, 6, 7, 8, 10, 11], [12, 15], []⟩ rfl rfl (by decide +kernel) rfl ⟨⟨_, rfl, AB rfl (BJ rfl rfl)⟩, ⟨_, rfl, AB rfl (AF rfl)⟩, trivial⟩ ?_
   refine CZ (F' := [(13, I64 ((q:Int) + 1)), (14, I64 ((q:Int) + 1)), (15, I64 ((q:Int))), (16, Ptr nb3 (32*q)), (17, .agg (cu8 (mid A (32*q) 32)).toArray), (18, I64 ((q:Int) + 1)), (19, I64 ((q:Int))), (20, Ptr nb3 (32*q)), (21, .agg (cu8 (mid A (32*q) 32)).toArray), (22, .tuple #[.agg (cu8 (sumG constL initL (joinT (q + 1) (mid A (32*q) 32) (mid A (32*q) 32)))).toArray, .nilIface]), (12, .tuple #[.agg (cu8 (sumG constL initL (joinT (q + 1) (mid A (32*q) 32) (mid A (32*q) 32)))).toArray, .nilIface]), (23, .agg (cu8 (sumG constL initL (joinT (q + 1) (mid A (32*q) 32) (mid A (32*q) 32)))).toArray), (24, .nilIface), (3, Ptr nb4 0), (4, .nilIface), (0, Ptr nb1 0), (1, Ptr nb3 0), (2, I64 ((q:Int) + 1)), (8, I64 ((q:Int) + 1)), (9, .bool (decide (((q:Int) + 1) < (33:Int))))]) (by kernel_rfl) ?_
   refine AE (AG (AG (AC (AA _ (AD rfl) rfl ?_))))
   refine AA (.bool false) (D8 _ _ _ rfl rfl (fun _ => D6 ..) fun _ => DS B8) rfl ?_
   refine AI (AE (B9 _ rfl rfl ?_))
   refine BE (AE (AC (AA _ (AD rfl) rfl ?_)))
   refine AA (.agg (cu8 (sumG constL initL (joinT (q + 1) (mid A (32*q) 32) (mid A (32*q) 32)))).toArray) (AL rfl (BO BS AQ (B2 (BM _ _ _)) (MemAt.ent 2 rfl (AM _)))) rfl ?_
   refine AA (Ptr nb3 (32*q + 32)) (A5 33 54 32 (32*q + 32) ED AQ rfl rfl (by omega) (by omega) (by omega)) rfl ?_
   have hl9 : (spl A (32*q + 32) (sumG constL initL (joinT (q + 1) (mid A (32*q) 32) (mid A (32*q) 32)))).length = 1056 := by rw [EY (by simp [hA, (BM _ _ _)]; omega)]; simp [hA, (BM _ _ _)]
   refine AN (A8 1 nb3 (32*q + 32) 32 (cu8 A) 237 (.agg (cu8 (sumG constL initL (joinT (q + 1) (mid A (32*q) 32) (mid A (32*q) 32)))).toArray) (cu8 (sumG constL initL (joinT (q + 1) (mid A (32*q) 32) (mid A (32*q) 32)))) (cu8 (spl A (32*q + 32) (sumG constL initL (joinT (q + 1) (mid A (32*q) 32) (mid A (32*q) 32))))) rfl rfl rfl (by first | rfl | simp) AQ (B2 (BM _ _ _)) (by first | exact C5 | exact DA | exact C9 | (simp [cu8, cu32, cu64, Value.oneCell']; done)) (by simp [hA]; try omega) (laySpl8 _ _ _ (by simp [hA, (BM _ _ _)]; omega))) rfl ?_
   rintro v1 L1 ⟨rfl, rfl⟩
   show JL _ _ _ _ _ [_, ⟨nb3, cu8 (spl A (32*q + 32) (sumG constL initL (joinT (q + 1) (mid A (32*q) 32) (mid A (32*q) 32)))), 237, (0, 0)⟩, _]
   refine AI (BA (AE (AC (AA _ (AD rfl) rfl ?_))))
   refine AA (I64 ((q:Int) + 2)) (AK rfl rfl fun _ => CH _ _ ((q:Int) + 2) (by omega) (by omega)) rfl ?_
   refine AA _ (AF rfl) rfl ?_
   refine AI (CR (B5 [true, true, false] ?_))
   show K _ _ [_, _] _
   refine DT (q + 1, spl A (32*q + 32) (sumG constL initL (joinT (q + 1) (mid A (32*q) 32) (mid A (32*q) 32)))) ⟨by omega, by rw [hx2]; exact empA_step (by omega), hl9⟩ (by first | (simp; omega) | simp | (dsimp only; omega) | omega) (AH rfl (AH rfl (AH (DU (by omega)) (Sub.nil)))) rfl
 ·
  have hp1 : ¬ (((q:Int) + 1) < (33:Int)) := of_decide_eq_false hb1
  refine DL (AX (AX (CC (AE (AG (AC (AA (.agg (cu8 A).toArray) (AL rfl (BO Tryd.isAgg237 Tryd.sizeOf237 (B2 hA) (MemAt.ent 1 rfl (AM _)))) rfl ?_)))))))
  refine AN (A8 0 nb1 0 1056 (cu8 (zr8 1056)) 237 (.agg (cu8 A).toArray) (cu8 A) (cu8 A) rfl rfl rfl (by first | rfl | simp) Tryd.sizeOf237 (B2 hA) (by first | exact C5 | exact DA | exact C9 | (simp [cu8, cu32, cu64, Value.oneCell']; done)) (by simp [(A2 1056)]) (BU (by simp [(A2 1056), hA]))) rfl ?_
  rintro v1 L1 ⟨rfl, rfl⟩
  show JL _ _ _ _ _ [⟨nb1, cu8 A, 237, (0, 0)⟩, _]
  refine AI (AE (BG (B5 [true, false] ?_)))
  show JQ _ _ _ _ [_]
  refine BI (.agg (cu8 A).toArray) (res1 Tryd.results154 (EI rfl (BO Tryd.isAgg237 Tryd.sizeOf237 (B2 hA) (MemAt.ent 0 rfl (AM _))))) fun w1 hw1 => ?_
  obtain rfl : q = 32 := by omega
  exact ⟨_, [], rfl, ⟨by rw [hx2], rfl⟩, hw1.sub (by simp) (by simp)⟩
theorem empty_c (h : Nat) (w : World) (hh : h ≤ 32) (hG : GLs w) : Calls Tryd.prog 129 #[I64 ((h:Int))] w (Post w [] (fun v L => v = .tuple #[.agg (cu8 (empL h)).toArray, .nilIface] ∧ L = [])) := by
 refine enter w [] 17 [] [I64 ((h:Int))] Tryd.func129 rfl rfl (by simp) (BL (by simp) (by simp) (by simp)) ?_
 show JC _ _ _ [(0, I64 ((h:Int)))] _
 refine AG (AC (AN (BR _ (cu8 (zr8 32)) BP (by kernel_rfl)) rfl ?_))
 rintro v1 L1 ⟨nb1, hnb1, rfl, rfl⟩
 show JL _ _ _ _ ((2, Ptr nb1 0) :: _) [⟨nb1, cu8 (zr8 32), 54, (0, 0)⟩]
 refine AA _ (AF rfl) rfl ?_
 refine AI (AE (AG (AC (AN (AT 154 [] (.agg (cu8 (empA 32)).toArray) (AW [] Tryd.call154 rfl) (fun w1 hw1 => empties_c  w1 (hG.at hw1))) rfl ?_))))
 rintro v1 L1 ⟨rfl, rfl⟩
 show JL _ _ _ _ ((5, .agg (cu8 (empA 32)).toArray) :: _) [_]
 refine AN (BR _ (cu8 (zr8 1056)) Tryd.zeroValue237 (by kernel_rfl)) rfl ?_
 rintro v1 L1 ⟨nb2, hnb2, rfl, rfl⟩
 show JL _ _ _ _ ((4, Ptr nb2 0) :: _) [_, ⟨nb2, cu8 (zr8 1056), 237, (0, 0)⟩]
 refine AN (A8 1 nb2 0 1056 (cu8 (zr8 1056)) 237 (.agg (cu8 (empA 32)).toArray) (cu8 (empA 32)) (cu8 (empA 32)) rfl rfl rfl (by first | rfl | simp) Tryd.sizeOf237 (B2 (empA_len 32 (by decide))) (by first | exact C5 | exact DA | exact C9 | (simp [cu8, cu32, cu64, Value.oneCell']; done)) (by simp [(A2 1056)]) (BU (by simp [(A2 1056), (empA_len 32 (by decide))]))) rfl ?_
 rintro v1 L1 ⟨rfl, rfl⟩
 show JL _ _ _ _ _ [_, ⟨nb2, cu8 (empA 32), 237, (0, 0)⟩]
 refine AI (AE (AG (AG (AC (AA _ (AD rfl) rfl ?_)))))
 refine AA (.bool (decide (((h:Int)) < (0:Int)))) (AK rfl rfl fun _ => CP _ _) rfl ?_
 refine AA _ (AD rfl) rfl ?_
 refine AU 2 8 false _ _ rfl rfl (decide_eq_false (by omega)) (AD rfl) rfl ?_
 refine AU 2 8 false _ (.bool (decide ((33:Int) ≤ ((h:Int))))) rfl rfl (decide_eq_false (by omega)) (AK rfl rfl fun _ => ET _ _) rfl ?_
 refine AA _ (BX _ rfl (decide_eq_false (by omega)) rfl) rfl ?_
 refine AI (AE (B9 _ rfl (decide_eq_false (by omega)) ?_))
 refine BE (AE (AG (AC (AA _ (AD rfl) rfl ?_))))
 refine AA (Ptr nb2 (32*h)) (A5 33 54 32 (32*h) ED AQ rfl rfl (by omega) (by omega) (by omega)) rfl ?_
 have hl1 : (mid (empA 32) (32*h) 32).length = 32 := DV (by rw [(empA_len 32 (by decide))]; omega)
 refine AA (.agg (cu8 (mid (empA 32) (32*h) 32)).toArray) (AL rfl (BO BS AQ (B2 hl1) (MemAt.ent 1 rfl (E8 (32*h) 32 (by rw [(empA_len 32 (by decide))]; omega))))) rfl ?_
 refine AN (A8 0 nb1 0 32 (cu8 (zr8 32)) 54 (.agg (cu8 (mid (empA 32) (32*h) 32)).toArray) (cu8 (mid (empA 32) (32*h) 32)) (cu8 (mid (empA 32) (32*h) 32)) rfl rfl rfl (by first | rfl | simp) AQ (B2 hl1) (by first | exact C5 | exact DA | exact C9 | (simp [cu8, cu32, cu64, Value.oneCell']; done)) (by simp [(A2 32)]) (BU (by simp [(A2 32), hl1]))) rfl ?_
 rintro v1 L1 ⟨rfl, rfl⟩
 show JL _ _ _ _ _ [⟨nb1, cu8 (mid (empA 32) (32*h) 32), 54, (0, 0)⟩, _]
 refine AA _ (AF rfl) rfl ?_
 refine AI (AE (BG (B5 [true, false] ?_)))
 show JQ _ _ _ _ [_]
 refine BI (.tuple #[.agg (cu8 (mid (empA 32) (32*h) 32)).toArray, .nilIface]) (res2 Tryd.results129 (EI rfl (BO BS AQ (B2 hl1) (MemAt.ent 0 rfl (AM _)))) (BK rfl)) fun w1 hw1 => ?_
 exact ⟨_, [], rfl, ⟨by rw [empA_get 32 (by decide) h hh], rfl⟩, hw1.sub (by simp) (by simp)⟩
end Go.Proofs.YtkdpdgpphpngeaaDoor
namespace Go.Proofs.YtkdpdgpphpngeaaDoor
open Go Go.Sx
set_option linter.unusedVariables false
set_option linter.unusedSimpArgs false
set_option maxRecDepth 100000
attribute [local irreducible] mid zr8 zr32 numK rnK rotr wordL spreadL comprL cpN adN spN wrdN constL initL padL stN outN routN sumG putL leafT joinT empL empA empR
theorem rleafText_c (i : UInt64) (e : UInt64) (d t : List UInt8)  (w : World) (hd : d.length = 32) (ht : t.length = 16)  : Calls Tryd.prog 161 #[U64 i, .agg (List.toArray (α := Value) ([U64 e] ++ cu8 d ++ cu8 t))] w (Post w [] (fun v L => ∃ g sp cap, v = Slc g 0 61 cap ∧ L = [⟨g, cu8 (leafT i e d t) ++ sp, 5, (0, 0)⟩] ∧ sp.length = cap - 61 ∧ 61 ≤ cap ∧ cap ≤ maxLen)) := by
 have hmx : maxLen = 9223372036854775807 := rfl
 refine enter (P := Tryd.prog) (f := 161) (fn := Tryd.f161) w [] 14 [] [U64 i, .agg (List.toArray (α := Value) ([U64 e] ++ cu8 d ++ cu8 t))] Tryd.func161 rfl rfl (by simp) (BL (by simp) (by simp) (by simp)) ?_
 show JC _ _ _ [(0, U64 i), (1, .agg (List.toArray (α := Value) ([U64 e] ++ cu8 d ++ cu8 t)))] _
 refine AG (AC (AN (CM (.agg (List.toArray (α := Value) ([U64 e] ++ cu8 d ++ cu8 t))) ([U64 e] ++ cu8 d ++ cu8 t) rfl (by first | rfl | simp)) rfl ?_))
 rintro v1 L1 ⟨nb1, hnb1, rfl, rfl⟩
 show JL _ _ _ _ ((3, Ptr nb1 0) :: _) [⟨nb1, [U64 e] ++ cu8 d ++ cu8 t, 164, (0, 0)⟩]
 refine AA _ (AF rfl) rfl ?_
 refine AI (AE (AG (AC (AN (BF 5 1 _ [(0, U8 (1:UInt8))] (cu8 ([(1:UInt8)])) AP AY C1 rfl rfl rfl (by kernel_rfl)) rfl ?_))))
 rintro v1 L1 ⟨nb2, hnb2, rfl, rfl⟩
 show JL _ _ _ _ ((6, Slc nb2 0 1 1) :: _) [_, ⟨nb2, cu8 ([(1:UInt8)]), 5, (0, 0)⟩]
 refine AA _ (AD rfl) rfl ?_
 refine AN (B1 88 [U64 i, I64 (4:Int)] _ (AW [U64 i, I64 (4:Int)] Tryd.call88 rfl) (fun w1 hw1 => rnumber_c i 4 w1 (by omega))) rfl ?_
 rintro v1 L1 ⟨_, ⟨nb3, rfl, rfl⟩, rfl⟩
 show JL _ _ _ _ ((8, Slc nb3 0 4 4) :: _) [_, _, ⟨nb3, cu8 (numK 4 i 4), 5, (0, 0)⟩]
 refine AN (DE 43 5 [false, true, false] (Slc nb2 0 1 1) 1 ([(1:UInt8)]) (numK 4 i 4) (some ⟨nb3, 0, none⟩) 4 4 5 AP DB rfl (.inr ⟨nb2, [], 1, rfl, (by simp [take?, cu8, cu32, cu64]), rfl, (by simp), (by omega), (by unfold maxLen; omega)⟩) rfl (by first | exact (show (numK 4 i 4).length = 4 from CX _ _ _) | simp [(show (numK 4 i 4).length = 4 from CX _ _ _)]; try omega) (SrcAt.mem (MemAt.ent 2 rfl (AM _))) (by omega) (by unfold maxLen; omega) (by omega)) rfl ?_
 rintro v1 L1 ⟨nb4, sp1, cp1, hg1, rfl, rfl, ha1, ha2, ha3, ha4⟩
 show JL _ _ _ _ ((9, Slc nb4 0 5 cp1) :: _) [_, _, ⟨nb4, cu8 (([(1:UInt8)]) ++ (numK 4 i 4)) ++ sp1, 5, (0, 0)⟩]
 refine AA _ (AF rfl) rfl ?_
 refine AI (AE (AG (AC (AA _ (AD rfl) rfl ?_))))
 refine AA (.agg (List.toArray (α := Value) ([U64 e] ++ cu8 d ++ cu8 t))) (AL rfl (BO Tryd.isAgg164 DX (by simp [hd, ht]) (MemAt.ent 0 rfl (AM _)))) rfl ?_
 refine AN (B1 105 [.agg (List.toArray (α := Value) ([U64 e] ++ cu8 d ++ cu8 t))] _ (AW [.agg (List.toArray (α := Value) ([U64 e] ++ cu8 d ++ cu8 t))] Tryd.call105 rfl) (fun w1 hw1 => rput7_c e d t w1 hd ht)) rfl ?_
 rintro v1 L1 ⟨_, ⟨nb5, sp2, cp2, rfl, rfl, hc1, hc2, hc3⟩, rfl⟩
 show JL _ _ _ _ ((12, Slc nb5 0 56 cp2) :: _) [_, _, _, ⟨nb5, cu8 (putL e d t) ++ sp2, 5, (0, 0)⟩]
 refine AN (DE 43 5 [false, false, true, false] (Slc nb4 0 5 cp1) 5 (([(1:UInt8)]) ++ (numK 4 i 4)) (putL e d t) (some ⟨nb5, 0, none⟩) 56 cp2 61 AP DB rfl (.inr ⟨nb4, sp1, cp1, rfl, rfl, (by first | exact ha1 | simp [ha1]), ha2, (by omega), (by omega)⟩) rfl (by first | exact (show (putL e d t).length = 56 from (putL_len hd ht)) | simp [(show (putL e d t).length = 56 from (putL_len hd ht))]; try omega) (SrcAt.mem (MemAt.ent 3 rfl (BV (AM _)))) (by omega) (by unfold maxLen; omega) (by omega)) rfl ?_
 rintro v1 L1 ⟨nb6, sp3, cp3, hg2, rfl, rfl, ha5, ha6, ha7, ha8⟩
 show JL _ _ _ _ ((13, Slc nb6 0 61 cp3) :: _) [_, _, _, ⟨nb6, cu8 ((([(1:UInt8)]) ++ (numK 4 i 4)) ++ (putL e d t)) ++ sp3, 5, (0, 0)⟩]
 refine AA _ (AF rfl) rfl ?_
 refine AI (AE (BG (B5 [false, false, false, true] ?_)))
 show JQ _ _ _ _ [_]
 refine BI (Slc nb6 0 61 cp3) (res1 Tryd.results161 (BK rfl)) fun w1 hw1 => ?_
 have hq : (([(1:UInt8)]) ++ (numK 4 i 4)) ++ (putL e d t) = leafT i e d t := by rw [leafT_ref]
 rw [hq] at hw1
 exact ⟨_, _, rfl, ⟨nb6, sp3, cp3, rfl, rfl, ha6, ha7, ha8⟩, hw1.sub (by simp) (by simp)⟩
theorem rjoinText_c (h : Nat) (l r : List UInt8) (w : World) (hl : l.length = 32) (hr : r.length = 32) (h1 : 1 ≤ h) (h2 : h ≤ 32)  : Calls Tryd.prog 181 #[I64 ((h:Int)), .agg (cu8 l).toArray, .agg (cu8 r).toArray] w (Post w [] (fun v L => ∃ g sp cap, v = Slc g 0 66 cap ∧ L = [⟨g, cu8 (joinT h l r) ++ sp, 5, (0, 0)⟩] ∧ sp.length = cap - 66 ∧ 66 ≤ cap ∧ cap ≤ maxLen)) := by
 have hmx : maxLen = 9223372036854775807 := rfl
 refine enter w [] 16 [] [I64 ((h:Int)), .agg (cu8 l).toArray, .agg (cu8 r).toArray] Tryd.func181 rfl rfl (by simp) (BL (by simp) (by simp) (by simp)) ?_
 show JC _ _ _ [(0, I64 ((h:Int))), (1, .agg (cu8 l).toArray), (2, .agg (cu8 r).toArray)] _
 refine AG (AC (AN (CM (.agg (cu8 l).toArray) (cu8 l) rfl (by first | rfl | simp)) rfl ?_))
 rintro v1 L1 ⟨nb1, hnb1, rfl, rfl⟩
 show JL _ _ _ _ ((4, Ptr nb1 0) :: _) [⟨nb1, cu8 l, 54, (0, 0)⟩]
 refine AN (CM (.agg (cu8 r).toArray) (cu8 r) rfl (by first | rfl | simp)) rfl ?_
 rintro v1 L1 ⟨nb2, hnb2, rfl, rfl⟩
 show JL _ _ _ _ ((5, Ptr nb2 0) :: _) [_, ⟨nb2, cu8 r, 54, (0, 0)⟩]
 refine AA _ (AF rfl) rfl ?_
 refine AI (AE (AG (AC (AA _ (AD rfl) rfl ?_))))
 refine AA (U8 (UInt8.ofNat h)) (DR _ _ rfl fun _ => conv_i64_u8 (by rw [CI]; rfl) CD h _ (by omega)) rfl ?_
 refine AN (BF 5 1 _ [(0, U8 (2:UInt8)), (1, U8 (UInt8.ofNat h))] (cu8 ([(2:UInt8), UInt8.ofNat h])) AP AY C1 rfl rfl rfl (by kernel_rfl)) rfl ?_
 rintro v1 L1 ⟨nb3, hnb3, rfl, rfl⟩
 show JL _ _ _ _ ((10, Slc nb3 0 2 2) :: _) [_, _, ⟨nb3, cu8 ([(2:UInt8), UInt8.ofNat h]), 5, (0, 0)⟩]
 refine AA (Slc nb1 0 32 32) (CT 32 5 1 0 32 0 32 CB AY rfl rfl rfl (by omega) (by omega) (by omega) (by omega) (by omega) 32 (by omega)) rfl ?_
 refine AN (DE 43 5 [false, false, true] (Slc nb3 0 2 2) 2 ([(2:UInt8), UInt8.ofNat h]) l (some ⟨nb1, 0, none⟩) 32 32 34 AP DB rfl (.inr ⟨nb3, [], 2, rfl, (by simp [take?, cu8, cu32, cu64]), rfl, (by simp), (by omega), (by unfold maxLen; omega)⟩) rfl (by first | exact hl | simp [hl]; try omega) (SrcAt.mem (MemAt.ent 0 rfl (AM _))) (by omega) (by unfold maxLen; omega) (by omega)) rfl ?_
 rintro v1 L1 ⟨nb4, sp1, cp1, hg1, rfl, rfl, ha1, ha2, ha3, ha4⟩
 show JL _ _ _ _ ((12, Slc nb4 0 34 cp1) :: _) [_, _, ⟨nb4, cu8 (([(2:UInt8), UInt8.ofNat h]) ++ l) ++ sp1, 5, (0, 0)⟩]
 refine AA _ (AF rfl) rfl ?_
 refine AI (AE (AG (AC (AA _ (AD rfl) rfl ?_))))
 refine AA (Slc nb2 0 32 32) (CT 32 5 1 0 32 0 32 CB AY rfl rfl rfl (by omega) (by omega) (by omega) (by omega) (by omega) 32 (by omega)) rfl ?_
 refine AN (DE 43 5 [false, false, true] (Slc nb4 0 34 cp1) 34 (([(2:UInt8), UInt8.ofNat h]) ++ l) r (some ⟨nb2, 0, none⟩) 32 32 66 AP DB rfl (.inr ⟨nb4, sp1, cp1, rfl, rfl, (by first | exact ha1 | simp [ha1]), ha2, (by omega), (by omega)⟩) rfl (by first | exact hr | simp [hr]; try omega) (SrcAt.mem (MemAt.ent 1 rfl (AM _))) (by omega) (by unfold maxLen; omega) (by omega)) rfl ?_
 rintro v1 L1 ⟨nb5, sp2, cp2, hg2, rfl, rfl, ha5, ha6, ha7, ha8⟩
 show JL _ _ _ _ ((15, Slc nb5 0 66 cp2) :: _) [_, _, ⟨nb5, cu8 ((([(2:UInt8), UInt8.ofNat h]) ++ l) ++ r) ++ sp2, 5, (0, 0)⟩]
 refine AA _ (AF rfl) rfl ?_
 refine AI (AE (BG (B5 [false, false, true] ?_)))
 show JQ _ _ _ _ [_]
 refine BI (Slc nb5 0 66 cp2) (res1 Tryd.results181 (BK rfl)) fun w1 hw1 => ?_
 have hq : (([(2:UInt8), UInt8.ofNat h]) ++ l) ++ r = joinT h l r := by rw [joinT_ref]
 rw [hq] at hw1
 exact ⟨_, _, rfl, ⟨nb5, sp2, cp2, rfl, rfl, ha6, ha7, ha8⟩, hw1.sub (by simp) (by simp)⟩
theorem rleaf_c (i : UInt64) (e : UInt64) (d t : List UInt8)  (w : World) (hd : d.length = 32) (ht : t.length = 16) (hGr : GLr w) (hGi : GLi w) : Calls Tryd.prog 138 #[U64 i, .agg (List.toArray (α := Value) ([U64 e] ++ cu8 d ++ cu8 t))] w (Post w [] (fun v L => v = .agg (cu8 (sumG constL initL (leafT i e d t))).toArray ∧ L = [])) := by
 refine enter (P := Tryd.prog) (f := 138) (fn := Tryd.f138) w [] 9 [] [U64 i, .agg (List.toArray (α := Value) ([U64 e] ++ cu8 d ++ cu8 t))] Tryd.func138 rfl rfl (by simp) (BL (by simp) (by simp) (by simp)) ?_
 show JC _ _ _ [(0, U64 i), (1, .agg (List.toArray (α := Value) ([U64 e] ++ cu8 d ++ cu8 t)))] _
 refine AG (AC (AN (CM (.agg (List.toArray (α := Value) ([U64 e] ++ cu8 d ++ cu8 t))) ([U64 e] ++ cu8 d ++ cu8 t) rfl (by first | rfl | simp)) rfl ?_))
 rintro v1 L1 ⟨nb1, hnb1, rfl, rfl⟩
 show JL _ _ _ _ ((3, Ptr nb1 0) :: _) [⟨nb1, [U64 e] ++ cu8 d ++ cu8 t, 164, (0, 0)⟩]
 refine AN (BR _ (cu8 (zr8 32)) BP (by kernel_rfl)) rfl ?_
 rintro v1 L1 ⟨nb2, hnb2, rfl, rfl⟩
 show JL _ _ _ _ ((4, Ptr nb2 0) :: _) [_, ⟨nb2, cu8 (zr8 32), 54, (0, 0)⟩]
 refine AI (AE (AG (AC (AA _ (AD rfl) rfl ?_))))
 refine AA (.agg (List.toArray (α := Value) ([U64 e] ++ cu8 d ++ cu8 t))) (AL rfl (BO Tryd.isAgg164 DX (by simp [hd, ht]) (MemAt.ent 0 rfl (AM _)))) rfl ?_
 refine AN (B1 161 [U64 i, .agg (List.toArray (α := Value) ([U64 e] ++ cu8 d ++ cu8 t))] _ (AW [U64 i, .agg (List.toArray (α := Value) ([U64 e] ++ cu8 d ++ cu8 t))] Tryd.call161 rfl) (fun w1 hw1 => rleafText_c i e d t w1 hd ht)) rfl ?_
 rintro v1 L1 ⟨_, ⟨nb3, sp1, cp1, rfl, rfl, hc1, hc2, hc3⟩, rfl⟩
 show JL _ _ _ _ ((7, Slc nb3 0 61 cp1) :: _) [_, _, ⟨nb3, cu8 (leafT i e d t) ++ sp1, 5, (0, 0)⟩]
 refine AN (AT 148 [Slc nb3 0 61 cp1] (.agg (cu8 (sumG constL initL (leafT i e d t))).toArray) (AW [Slc nb3 0 61 cp1] Tryd.call148 rfl) (fun w1 hw1 => rsum_c (some ⟨nb3, 0, none⟩) 61 cp1 (leafT i e d t) w1 (show (leafT i e d t).length = 61 from (leafT_len hd ht)) (by omega) (RdB.of hw1 (MemAt.ent 2 rfl (BV (AM _))) (by simp)) (GLr.at hw1 hGr) (GLi.at hw1 hGi))) rfl ?_
 rintro v1 L1 ⟨rfl, rfl⟩
 show JL _ _ _ _ ((8, .agg (cu8 (sumG constL initL (leafT i e d t))).toArray) :: _) [_, _, _]
 refine AN (A8 1 nb2 0 32 (cu8 (zr8 32)) 54 (.agg (cu8 (sumG constL initL (leafT i e d t))).toArray) (cu8 (sumG constL initL (leafT i e d t))) (cu8 (sumG constL initL (leafT i e d t))) rfl rfl rfl (by first | rfl | simp) AQ (B2 (BM _ _ _)) (by first | exact C5 | exact DA | exact C9 | (simp [cu8, cu32, cu64, Value.oneCell']; done)) (by simp [(A2 32)]) (BU (by simp [(A2 32), (BM _ _ _)]))) rfl ?_
 rintro v1 L1 ⟨rfl, rfl⟩
 show JL _ _ _ _ _ [_, ⟨nb2, cu8 (sumG constL initL (leafT i e d t)), 54, (0, 0)⟩, _]
 refine AI (AE (BG (B5 [false, true, false] ?_)))
 show JQ _ _ _ _ [_]
 refine BI (.agg (cu8 (sumG constL initL (leafT i e d t))).toArray) (res1 Tryd.results138 (EI rfl (BO BS AQ (B2 (BM _ _ _)) (MemAt.ent 0 rfl (AM _))))) fun w1 hw1 => ?_
 exact ⟨_, [], rfl, ⟨rfl, rfl⟩, hw1.sub (by simp) (by simp)⟩
theorem rjoin_n_c (h : Nat) (l r : List UInt8) (w : World) (hl : l.length = 32) (hr : r.length = 32) (h1 : 1 ≤ h) (h2 : h ≤ 32) (hGr : GLr w) (hGi : GLi w) : Calls Tryd.prog 160 #[I64 ((h:Int)), .agg (cu8 l).toArray, .agg (cu8 r).toArray] w (Post w [] (fun v L => v = .agg (cu8 (sumG constL initL (joinT h l r))).toArray ∧ L = [])) := by
 refine enter w [] 12 [] [I64 ((h:Int)), .agg (cu8 l).toArray, .agg (cu8 r).toArray] Tryd.func160 rfl rfl (by simp) (BL (by simp) (by simp) (by simp)) ?_
 show JC _ _ _ [(0, I64 ((h:Int))), (1, .agg (cu8 l).toArray), (2, .agg (cu8 r).toArray)] _
 refine AG (AC (AN (CM (.agg (cu8 l).toArray) (cu8 l) rfl (by first | rfl | simp)) rfl ?_))
 rintro v1 L1 ⟨nb1, hnb1, rfl, rfl⟩
 show JL _ _ _ _ ((4, Ptr nb1 0) :: _) [⟨nb1, cu8 l, 54, (0, 0)⟩]
 refine AN (CM (.agg (cu8 r).toArray) (cu8 r) rfl (by first | rfl | simp)) rfl ?_
 rintro v1 L1 ⟨nb2, hnb2, rfl, rfl⟩
 show JL _ _ _ _ ((5, Ptr nb2 0) :: _) [_, ⟨nb2, cu8 r, 54, (0, 0)⟩]
 refine AN (BR _ (cu8 (zr8 32)) BP (by kernel_rfl)) rfl ?_
 rintro v1 L1 ⟨nb3, hnb3, rfl, rfl⟩
 show JL _ _ _ _ ((6, Ptr nb3 0) :: _) [_, _, ⟨nb3, cu8 (zr8 32), 54, (0, 0)⟩]
 refine AI (AE (AG (AC (AA _ (AD rfl) rfl ?_))))
 refine AA (.agg (cu8 l).toArray) (AL rfl (BO BS AQ (B2 hl) (MemAt.ent 0 rfl (AM _)))) rfl ?_
 refine AA (.agg (cu8 r).toArray) (AL rfl (BO BS AQ (B2 hr) (MemAt.ent 1 rfl (AM _)))) rfl ?_
 refine AN (B1 181 [I64 ((h:Int)), .agg (cu8 l).toArray, .agg (cu8 r).toArray] _ (AW [I64 ((h:Int)), .agg (cu8 l).toArray, .agg (cu8 r).toArray] Tryd.call181 rfl) (fun w1 hw1 => rjoinText_c h l r w1 hl hr (by omega) (by omega))) rfl ?_
 rintro v1 L1 ⟨_, ⟨nb4, sp1, cp1, rfl, rfl, hc1, hc2, hc3⟩, rfl⟩
 show JL _ _ _ _ ((10, Slc nb4 0 66 cp1) :: _) [_, _, _, ⟨nb4, cu8 (joinT h l r) ++ sp1, 5, (0, 0)⟩]
 refine AN (AT 148 [Slc nb4 0 66 cp1] (.agg (cu8 (sumG constL initL (joinT h l r))).toArray) (AW [Slc nb4 0 66 cp1] Tryd.call148 rfl) (fun w1 hw1 => rsum_c (some ⟨nb4, 0, none⟩) 66 cp1 (joinT h l r) w1 (show (joinT h l r).length = 66 from (joinT_len hl hr)) (by omega) (RdB.of hw1 (MemAt.ent 3 rfl (BV (AM _))) (by simp)) (GLr.at hw1 hGr) (GLi.at hw1 hGi))) rfl ?_
 rintro v1 L1 ⟨rfl, rfl⟩
 show JL _ _ _ _ ((11, .agg (cu8 (sumG constL initL (joinT h l r))).toArray) :: _) [_, _, _, _]
 refine AN (A8 2 nb3 0 32 (cu8 (zr8 32)) 54 (.agg (cu8 (sumG constL initL (joinT h l r))).toArray) (cu8 (sumG constL initL (joinT h l r))) (cu8 (sumG constL initL (joinT h l r))) rfl rfl rfl (by first | rfl | simp) AQ (B2 (BM _ _ _)) (by first | exact C5 | exact DA | exact C9 | (simp [cu8, cu32, cu64, Value.oneCell']; done)) (by simp [(A2 32)]) (BU (by simp [(A2 32), (BM _ _ _)]))) rfl ?_
 rintro v1 L1 ⟨rfl, rfl⟩
 show JL _ _ _ _ _ [_, _, ⟨nb3, cu8 (sumG constL initL (joinT h l r)), 54, (0, 0)⟩, _]
 refine AI (AE (BG (B5 [false, false, true, false] ?_)))
 show JQ _ _ _ _ [_]
 refine BI (.agg (cu8 (sumG constL initL (joinT h l r))).toArray) (res1 Tryd.results160 (EI rfl (BO BS AQ (B2 (BM _ _ _)) (MemAt.ent 0 rfl (AM _))))) fun w1 hw1 => ?_
 exact ⟨_, [], rfl, ⟨rfl, rfl⟩, hw1.sub (by simp) (by simp)⟩
theorem rempties_c  (w : World) (hGr : GLr w) (hGi : GLi w) : Calls Tryd.prog 137 #[] w (Post w [] (fun v L => ∃ g sp cap, v = Slc g 0 33 cap ∧ L = [⟨g, cu8 (empR 32) ++ sp, 54, (0, 0)⟩] ∧ sp.length = 32*cap - 1056 ∧ 33 ≤ cap ∧ cap ≤ maxLen)) := by
 have hmx : maxLen = 9223372036854775807 := rfl
 refine enter w [] 26 [] [] Tryd.func137 rfl rfl (by simp) (BL (by simp) (by simp) (by simp)) ?_
 show JC _ _ _ [] _
 refine AG (AC (AA _ (AF rfl) rfl ?_))
 refine AI (AE (AG (AC (AN (BF 5 1 _ [(0, U8 (0:UInt8))] (cu8 ([(0:UInt8)])) AP AY C1 rfl rfl rfl (by kernel_rfl)) rfl ?_))))
 rintro v1 L1 ⟨nb1, hnb1, rfl, rfl⟩
 show JL _ _ _ _ ((3, Slc nb1 0 1 1) :: _) [⟨nb1, cu8 ([(0:UInt8)]), 5, (0, 0)⟩]
 refine AN (AT 148 [Slc nb1 0 1 1] (.agg (cu8 (sumG constL initL ([(0:UInt8)]))).toArray) (AW [Slc nb1 0 1 1] Tryd.call148 rfl) (fun w1 hw1 => rsum_c (some ⟨nb1, 0, none⟩) 1 1 ([(0:UInt8)]) w1 rfl (by omega) (RdB.of hw1 (MemAt.ent 0 rfl (AM _)) (by simp)) (GLr.at hw1 hGr) (GLi.at hw1 hGi))) rfl ?_
 rintro v1 L1 ⟨rfl, rfl⟩
 show JL _ _ _ _ ((4, .agg (cu8 (sumG constL initL ([(0:UInt8)]))).toArray) :: _) [_]
 refine AN (BF 54 32 _ [(0, .agg (cu8 (sumG constL initL ([(0:UInt8)]))).toArray)] (cu8 (sumG constL initL ([(0:UInt8)]))) A7 AQ BP rfl rfl rfl (EZ (BM _ _ _) (by kernel_rfl))) rfl ?_
 rintro v1 L1 ⟨nb2, hnb2, rfl, rfl⟩
 show JL _ _ _ _ ((5, Slc nb2 0 1 1) :: _) [_, ⟨nb2, cu8 (sumG constL initL ([(0:UInt8)])), 54, (0, 0)⟩]
 refine AA _ (AF rfl) rfl ?_
 refine AI (AE (AG (AG (AC (AA _ (AF rfl) rfl ?_)))))
 refine AI (AE (BH ?_))
 skip
 refine B5 [false, true] ?_
 show JC _ _ _ _ [_]
 refine DN (ι := (Unit) ⊕ (Nat × List UInt8 × Nat × List Value × Nat)) (fun x => match x with | .inl _ => [(0, .slice none 0 0), (1, Slc nb2 0 1 1), (2, I64 (1:Int))] | .inr ⟨q, o, g1, sp1, cp1⟩ => [(0, .slice none 0 0), (1, Slc g1 0 (q + 1) cp1), (2, I64 ((q:Int) + 1))]) (fun x => match x with | .inl _ => [⟨nb2, cu8 (sumG constL initL [0]), 54, (0, 0)⟩] | .inr ⟨q, o, g1, sp1, cp1⟩ => [⟨g1, cu8 o ++ sp1, 54, (0, 0)⟩]) (fun x => match x with | .inl _ => True | .inr ⟨q, o, g1, sp1, cp1⟩ => 1 ≤ q ∧ q ≤ 32 ∧ o = empR q ∧ o.length = 32*q + 32 ∧ sp1.length = 32*cp1 - (32*q + 32) ∧ q + 1 ≤ cp1 ∧ cp1 ≤ maxLen) (fun x => match x with | .inl _ => 33 | .inr ⟨q, o, g1, sp1, cp1⟩ => 32 - q) (.inl ()) trivial (AH rfl (AH rfl (AH rfl (Sub.nil)))) rfl ?_
 rintro (_ | ⟨q, o, g1, sp1, cp1⟩) hx
 ·
  obtain _ := hx
  show JC _ _ _ [(0, .slice none 0 0), (1, Slc nb2 0 1 1), (2, I64 (1:Int))] [⟨nb2, cu8 (sumG constL initL [0]), 54, (0, 0)⟩]
  refine AG (AG (AC (AA _ (AD rfl) rfl ?_)))
  refine AA (.bool (decide ((1:Int) ≤ (32:Int)))) (AK rfl rfl fun _ => bin_leq_i _ _) rfl ?_
  refine AI (AE (DM _ rfl (by decide) ?_))
  refine BE (AE (AG (BH (C3 26 4 [(0, Slc nb2 0 1 1), (1, I64 (1:Int)), (2, Slc nb2 0 1 1), (3, I64 (1:Int)), (4, I64 (0:Int)), (5, Ptr nb2 0), (6, .agg (cu8 (sumG constL initL [0])).toArray), (7, Slc nb2 0 1 1), (8, I64 (1:Int)), (9, I64 (0:Int)), (10, Ptr nb2 0), (11, .agg (cu8 (sumG constL initL [0])).toArray)] BQ rfl (by decide +kernel) ?_))))
  refine BT ⟨[], [0, 1, 2, 3, 4, 5, 6, 7, 8, 9, 10, 11], [], [0, 1, 2, 3, 4, 5, 6, 7, 8, 9, 10, 11], [12]⟩ 12 _ rfl rfl (by decide +kernel) rfl ⟨⟨_, rfl, AB rfl (AD rfl)⟩, ⟨_, rfl, AB rfl (AD rfl)⟩, ⟨_, rfl, AB rfl (AD rfl)⟩, ⟨_, rfl, AB rfl (AD rfl)⟩, ⟨_, rfl, AB rfl (AK rfl rfl fun _ => CO _ _ (0:Int) (by omega) (by omega))⟩, ⟨_, rfl, AB rfl (EU 54 32 0 A7 AQ rfl rfl (by omega) (by omega) (by omega))⟩, ⟨_, rfl, AB rfl (AL rfl (BO BS AQ (B2 (BM _ _ _)) (MemAt.ent 0 rfl (AM _))))⟩, ⟨_, rfl, AB rfl (AD rfl)⟩, ⟨_, rfl, AB rfl (AD rfl)⟩, ⟨_, rfl, AB rfl (AK rfl rfl fun _ => CO _ _ (0:Int) (by omega) (by omega))⟩, ⟨_, rfl, AB rfl (EU 54 32 0 A7 AQ rfl rfl (by omega) (by omega) (by omega))⟩, ⟨_, rfl, AB rfl (AL rfl (BO BS AQ (B2 (BM _ _ _)) (MemAt.ent 0 rfl (AM _))))⟩, trivial⟩ rfl (A1 rfl (AT 160 [I64 (1:Int), .agg (cu8 (sumG constL initL [0])).toArray, .agg (cu8 (sumG constL initL [0])).toArray] (.agg (cu8 (sumG constL initL (joinT 1 (sumG constL initL [0]) (sumG constL initL [0])))).toArray) (AW [I64 (1:Int), .agg (cu8 (sumG constL initL [0])).toArray, .agg (cu8 (sumG constL initL [0])).toArray] Tryd.call160 rfl) (fun w1 hw1 => rjoin_n_c 1 (sumG constL initL [0]) (sumG constL initL [0]) w1 (BM _ _ _) (BM _ _ _) (by omega) (by omega) (GLr.at hw1 hGr) (GLi.at hw1 hGi)))) ?_
  rintro v1 L1 ⟨rfl, rfl⟩
  refine ⟨[], ?_⟩
  show DP _ _ _ _ _ _ _ _ [_]
  refine BT ⟨[12], [0, 1, 2, 3, 4, 5, 6, 7, 8, 9, 10, 11], [1, 2, 3, 4, 5, 6, 7, 8, 9, 10, 11], [0], [13]⟩ 13 _ rfl rfl (by decide +kernel) rfl ⟨⟨_, rfl, AB rfl (AD rfl)⟩, trivial⟩ rfl (A1 rfl (BF 54 32 _ [(0, .agg (cu8 (sumG constL initL (joinT 1 (sumG constL initL [0]) (sumG constL initL [0])))).toArray)] (cu8 (sumG constL initL (joinT 1 (sumG constL initL [0]) (sumG constL initL [0])))) A7 AQ BP rfl rfl rfl (EZ (BM _ _ _) (by kernel_rfl)))) ?_
  rintro v1 L1 ⟨nb3, hnb3, rfl, rfl⟩
  refine ⟨[], ?_⟩
  show DP _ _ _ _ _ _ _ _ [_, ⟨nb3, cu8 (sumG constL initL (joinT 1 (sumG constL initL [0]) (sumG constL initL [0]))), 54, (0, 0)⟩]
  refine BT ⟨[12, 13], [0, 1, 2, 3, 4, 5, 6, 7, 8, 9, 10, 11], [1, 2, 3, 4, 5, 6, 7, 8, 9, 10, 11], [0], [14]⟩ 14 _ rfl rfl (by decide +kernel) rfl ⟨⟨_, rfl, AB rfl (AD rfl)⟩, trivial⟩ rfl (A1 rfl (Step_appH 65 54 32 32 (.agg (cu8 (zr8 32)).toArray) [true, false] (Slc nb2 0 1 1) 1 (sumG constL initL [0]) (sumG constL initL (joinT 1 (sumG constL initL [0]) (sumG constL initL [0]))) (some ⟨nb3, 0, none⟩) 1 1 2 64 A7 (by kernel_rfl) (by kernel_rfl) (by decide) rfl (.inr ⟨nb2, [], 1, rfl, (by simp [take?, cu8]), (by have h : (sumG constL initL [0]).length = 32 := (BM _ _ _); omega), (by simp), (by omega), (by unfold maxLen; omega)⟩) rfl (by have h : (sumG constL initL (joinT 1 (sumG constL initL [0]) (sumG constL initL [0]))).length = 32 := (BM _ _ _); omega) (SrcAt.mem (MemAt.ent 1 rfl (AM _))) (by omega) (by unfold maxLen; omega) (by omega) (by omega))) ?_
  rintro v1 L1 ⟨nb4, sp1, cp1, hg1, rfl, rfl, ha1, ha2, ha3, ha4⟩
  refine ⟨[(15, Slc nb4 0 2 cp1)], ?_⟩
  show DP _ _ _ _ _ _ _ _ [_, ⟨nb4, cu8 ((sumG constL initL [0]) ++ (sumG constL initL (joinT 1 (sumG constL initL [0]) (sumG constL initL [0])))) ++ sp1, 54, (0, 0)⟩]
  refine DG ⟨[12, 13, 14], [0, 1, 2, 3, 4, 5, 6, 7, 8, 9, 10, 11, 15], [0, 1, 2, 3, 4, 5, 6, 7, 8, 9, 10, 11], [15], []⟩ rfl rfl (by decide +kernel) rfl ⟨⟨_, rfl, AB rfl (AF rfl)⟩, trivial⟩ ?_
  refine CZ (F' := [(10, Slc nb2 0 1 1), (11, I64 (1:Int)), (12, Slc nb2 0 1 1), (13, I64 (1:Int)), (14, I64 (0:Int)), (15, Ptr nb2 0), (16, .agg (cu8 (sumG constL initL [0])).toArray), (17, Slc nb2 0 1 1), (18, I64 (1:Int)), (19, I64 (0:Int)), (20, Ptr nb2 0), (21, .agg (cu8 (sumG constL initL [0])).toArray), (22, .agg (cu8 (sumG constL initL (joinT 1 (sumG constL initL [0]) (sumG constL initL [0])))).toArray), (23, Slc nb3 0 1 1), (24, Slc nb4 0 2 cp1), (1, Slc nb4 0 2 cp1), (0, .slice none 0 0), (2, I64 (1:Int)), (6, I64 (1:Int)), (7, .bool (decide ((1:Int) ≤ (32:Int))))]) (by kernel_rfl) ?_
  refine BA (AE (AC (AA _ (AD rfl) rfl ?_)))
  refine AA (I64 (2:Int)) (AK rfl rfl fun _ => CH _ _ (2:Int) (by omega) (by omega)) rfl ?_
  refine AA _ (AF rfl) rfl ?_
  refine AI (CR (B5 [false, true] ?_))
  show K _ _ [_] _
  refine DT (.inr (1, (sumG constL initL [0]) ++ (sumG constL initL (joinT 1 (sumG constL initL [0]) (sumG constL initL [0]))), nb4, sp1, cp1)) ⟨by omega, by omega, by rw [← empR_zero]; exact empR_first, (ha1).trans (by omega), (ha2).trans (by omega), by omega, ha4⟩ (by first | (simp; omega) | simp | (dsimp only; omega) | omega) (AH rfl (AH rfl (AH rfl (Sub.nil)))) rfl
 ·
  obtain ⟨hx0, hx1, hx2, ho, hx4, hx5, hx6⟩ := hx
  show JC _ _ _ [(0, .slice none 0 0), (1, Slc g1 0 (q + 1) cp1), (2, I64 ((q:Int) + 1))] [⟨g1, cu8 o ++ sp1, 54, (0, 0)⟩]
  refine AG (AG (AC (AA _ (AD rfl) rfl ?_)))
  refine AA (.bool (decide (((q:Int) + 1) ≤ (32:Int)))) (AK rfl rfl fun _ => bin_leq_i _ _) rfl ?_
  refine AI (AE (CN (decide (((q:Int) + 1) ≤ (32:Int))) rfl (fun hb1 => ?_) (fun hb1 => ?_)))
  ·
   have hp1 : ((q:Int) + 1) ≤ (32:Int) := of_decide_eq_true hb1
   refine BE (AE (AG (BH ?_)))
   have hl1 : (mid o (32*q) 32).length = 32 := DV (by rw [ho]; omega)
   have hl2 : (mid o (32*q) 32).length = 32 := DV (by rw [ho]; omega)
   refine C3 26 4 [(0, Slc g1 0 (q + 1) cp1), (1, I64 ((q:Int) + 1)), (2, Slc g1 0 (q + 1) cp1), (3, I64 ((q:Int) + 1)), (4, I64 ((q:Int))), (5, Ptr g1 (32*q)), (6, .agg (cu8 (mid o (32*q) 32)).toArray), (7, Slc g1 0 (q + 1) cp1), (8, I64 ((q:Int) + 1)), (9, I64 ((q:Int))), (10, Ptr g1 (32*q)), (11, .agg (cu8 (mid o (32*q) 32)).toArray)] BQ rfl (by decide +kernel) ?_
   have hl3 : (mid o (32*q) 32).length = 32 := DV (by rw [ho]; omega)
   have hl4 : (mid o (32*q) 32).length = 32 := DV (by rw [ho]; omega)
   refine BT ⟨[], [0, 1, 2, 3, 4, 5, 6, 7, 8, 9, 10, 11], [], [0, 1, 2, 3, 4, 5, 6, 7, 8, 9, 10, 11], [12]⟩ 12 _ rfl rfl (by decide +kernel) rfl ⟨⟨_, rfl, AB rfl (AD rfl)⟩, ⟨_, rfl, AB rfl (AD rfl)⟩, ⟨_, rfl, AB rfl (AD rfl)⟩, ⟨_, rfl, AB rfl (AD rfl)⟩, ⟨_, rfl, AB rfl (AK rfl rfl fun _ => CO _ _ ((q:Int)) (by omega) (by omega))⟩, ⟨_, rfl, AB rfl (EU 54 32 (32*q) A7 AQ rfl rfl (by omega) (by omega) (by omega))⟩, ⟨_, rfl, AB rfl (AL rfl (BO BS AQ (B2 hl3) (MemAt.ent 0 rfl (BV (E8 (32*q) 32 (by rw [ho]; omega))))))⟩, ⟨_, rfl, AB rfl (AD rfl)⟩, ⟨_, rfl, AB rfl (AD rfl)⟩, ⟨_, rfl, AB rfl (AK rfl rfl fun _ => CO _ _ ((q:Int)) (by omega) (by omega))⟩, ⟨_, rfl, AB rfl (EU 54 32 (32*q) A7 AQ rfl rfl (by omega) (by omega) (by omega))⟩, ⟨_, rfl, AB rfl (AL rfl (BO BS AQ (B2 hl4) (MemAt.ent 0 rfl (BV (E8 (32*q) 32 (by rw [ho]; omega))))))⟩, trivial⟩ rfl (A1 rfl (AT 160 [I64 ((q:Int) + 1), .agg (cu8 (mid o (32*q) 32)).toArray, .agg (cu8 (mid o (32*q) 32)).toArray] (.agg (cu8 (sumG constL initL (joinT (q + 1) (mid o (32*q) 32) (mid o (32*q) 32)))).toArray) (AW [I64 ((q:Int) + 1), .agg (cu8 (mid o (32*q) 32)).toArray, .agg (cu8 (mid o (32*q) 32)).toArray] Tryd.call160 rfl) (fun w1 hw1 => rjoin_n_c (q + 1) (mid o (32*q) 32) (mid o (32*q) 32) w1 hl1 hl2 (by omega) (by omega) (GLr.at hw1 hGr) (GLi.at hw1 hGi)))) ?_
   rintro v1 L1 ⟨rfl, rfl⟩
   refine ⟨[], ?_⟩
   show DP _ _ _ _ _ _ _ _ [_]
   refine BT ⟨[12], [0, 1, 2, 3, 4, 5, 6, 7, 8, 9, 10, 11], [1, 2, 3, 4, 5, 6, 7, 8, 9, 10, 11], [0], [13]⟩ 13 _ rfl rfl (by decide +kernel) rfl ⟨⟨_, rfl, AB rfl (AD rfl)⟩, trivial⟩ rfl (A1 rfl (BF 54 32 _ [(0, .agg (cu8 (sumG constL initL (joinT (q + 1) (mid o (32*q) 32) (mid o (32*q) 32)))).toArray)] (cu8 (sumG constL initL (joinT (q + 1) (mid o (32*q) 32) (mid o (32*q) 32)))) A7 AQ BP rfl rfl rfl (EZ (BM _ _ _) (by kernel_rfl)))) ?_
   rintro v1 L1 ⟨nb5, hnb5, rfl, rfl⟩
   refine ⟨[], ?_⟩
   show DP _ _ _ _ _ _ _ _ [_, ⟨nb5, cu8 (sumG constL initL (joinT (q + 1) (mid o (32*q) 32) (mid o (32*q) 32))), 54, (0, 0)⟩]
   refine BT ⟨[12, 13], [0, 1, 2, 3, 4, 5, 6, 7, 8, 9, 10, 11], [1, 2, 3, 4, 5, 6, 7, 8, 9, 10, 11], [0], [14]⟩ 14 _ rfl rfl (by decide +kernel) rfl ⟨⟨_, rfl, AB rfl (AD rfl)⟩, trivial⟩ rfl (A1 rfl (Step_appH 65 54 32 32 (.agg (cu8 (zr8 32)).toArray) [true, false] (Slc g1 0 (q + 1) cp1) (q + 1) o (sumG constL initL (joinT (q + 1) (mid o (32*q) 32) (mid o (32*q) 32))) (some ⟨nb5, 0, none⟩) 1 1 (q + 2) (32*q + 64) A7 (by kernel_rfl) (by kernel_rfl) (by decide) rfl (.inr ⟨g1, sp1, cp1, rfl, rfl, (by have h : (o).length = (32*q + 32) := ho; omega), (by first | exact hx4 | omega), (by omega), (by omega)⟩) rfl (by have h : (sumG constL initL (joinT (q + 1) (mid o (32*q) 32) (mid o (32*q) 32))).length = 32 := (BM _ _ _); omega) (SrcAt.mem (MemAt.ent 1 rfl (AM _))) (by omega) (by unfold maxLen; omega) (by omega) (by omega))) ?_
   rintro v1 L1 ⟨nb6, sp2, cp2, hg2, rfl, rfl, ha5, ha6, ha7, ha8⟩
   refine ⟨[(15, Slc nb6 0 (q + 2) cp2)], ?_⟩
   show DP _ _ _ _ _ _ _ _ [_, ⟨nb6, cu8 (o ++ (sumG constL initL (joinT (q + 1) (mid o (32*q) 32) (mid o (32*q) 32)))) ++ sp2, 54, (0, 0)⟩]
   refine DG ⟨[12, 13, 14], [0, 1, 2, 3, 4, 5, 6, 7, 8, 9, 10, 11, 15], [0, 1, 2, 3, 4, 5, 6, 7, 8, 9, 10, 11], [15], []⟩ rfl rfl (by decide +kernel) rfl ⟨⟨_, rfl, AB rfl (AF rfl)⟩, trivial⟩ ?_
   refine CZ (F' := [(10, Slc g1 0 (q + 1) cp1), (11, I64 ((q:Int) + 1)), (12, Slc g1 0 (q + 1) cp1), (13, I64 ((q:Int) + 1)), (14, I64 ((q:Int))), (15, Ptr g1 (32*q)), (16, .agg (cu8 (mid o (32*q) 32)).toArray), (17, Slc g1 0 (q + 1) cp1), (18, I64 ((q:Int) + 1)), (19, I64 ((q:Int))), (20, Ptr g1 (32*q)), (21, .agg (cu8 (mid o (32*q) 32)).toArray), (22, .agg (cu8 (sumG constL initL (joinT (q + 1) (mid o (32*q) 32) (mid o (32*q) 32)))).toArray), (23, Slc nb5 0 1 1), (24, Slc nb6 0 (q + 2) cp2), (1, Slc nb6 0 (q + 2) cp2), (0, .slice none 0 0), (2, I64 ((q:Int) + 1)), (6, I64 ((q:Int) + 1)), (7, .bool (decide (((q:Int) + 1) ≤ (32:Int))))]) (by kernel_rfl) ?_
   refine BA (AE (AC (AA _ (AD rfl) rfl ?_)))
   refine AA (I64 ((q:Int) + 2)) (AK rfl rfl fun _ => CH _ _ ((q:Int) + 2) (by omega) (by omega)) rfl ?_
   refine AA _ (AF rfl) rfl ?_
   refine AI (CR (B5 [false, true] ?_))
   show K _ _ [_] _
   refine DT (.inr (q + 1, o ++ (sumG constL initL (joinT (q + 1) (mid o (32*q) 32) (mid o (32*q) 32))), nb6, sp2, cp2)) ⟨by omega, by omega, by rw [hx2]; exact empR_step q, (ha5).trans (by omega), (ha6).trans (by omega), by omega, ha8⟩ (by first | (simp; omega) | simp | (dsimp only; omega) | omega) (AH rfl (AH rfl (AH (DU (by omega)) (Sub.nil)))) rfl
  ·
   have hp1 : ¬ (((q:Int) + 1) ≤ (32:Int)) := of_decide_eq_false hb1
   refine DL (AX (AX (CC (AE (AG (AC (AA _ (AD rfl) rfl ?_)))))))
   refine AA _ (AF rfl) rfl ?_
   refine AI (AE (BG (BI (Slc g1 0 (q + 1) cp1) (res1 Tryd.results137 (BK rfl)) fun w1 hw1 => ?_)))
   obtain rfl : q = 32 := by omega
   rw [hx2] at hw1
   exact ⟨_, _, rfl, ⟨g1, sp1, cp1, rfl, rfl, by omega, by omega, hx6⟩, hw1.sub (by simp) (by simp)⟩
end Go.Proofs.YtkdpdgpphpngeaaDoor
namespace Go.Proofs.YtkdpdgpphpngeaaDoor
open Go Go.Sx
set_option linter.unusedVariables false
set_option linter.unusedSimpArgs false
set_option maxRecDepth 100000
attribute [local irreducible] mid zr8 zr32 numK rnK rotr wordL spreadL comprL cpN adN spN wrdN constL initL padL stN outN routN sumG putL leafT joinT empL empA empR RightB tktT mayN idxT selT macL
theorem text_w (pv ep : UInt64) (k : Nat) (ai : Option Addr) (ni ci : Nat) (l : List UInt64) (sa : Option Addr) (ns sc : Nat) (ls : List SealR) (bl : UInt64) (tg : List UInt8) (tot : Nat) (w : World) (hl : l.length = ni) (hnm : ni ≤ 2000000) (hnc : ni ≤ ci) (hcm : ci ≤ maxLen) (hv : RdV w ai (cu64 l)) (hls : ls.length = ns) (hnn : ns ≤ 2000000) (hnd : ns ≤ sc) (hcn : sc ≤ maxLen) (hs : RdV w sa (ls.flatMap sealC)) (htg : tg.length = 16) (hmay : mayN pv ep (k:Int) l ls bl = 0) (hk : k = 1 ∨ k = 2 ∨ k = 3) (hsm : ns ≤ 300) (htot : tktN k ni ns = tot) : Calls Tryd.prog 114 #[.agg (List.toArray (α := Value) ([U64 pv, U64 ep, I64 ((k:Int)), .slice ai ni ci, .slice sa ns sc, U64 bl] ++ cu8 tg))] w (Post w [] (fun v L => ∃ g sp cap, v = .tuple #[Slc g 0 tot cap, .nilIface] ∧ L = [⟨g, cu8 (tktT pv ep k l ls bl) ++ sp, 5, (0, 0)⟩] ∧ sp.length = cap - tot ∧ tot ≤ cap ∧ cap ≤ maxLen)) := by
  by_cases h3 : k = 3
  · have e : tot = 25 := by rw [← htot]; unfold tktN; rw [if_pos h3]
    subst e
    exact text3_c pv ep k ai ni ci l sa ns sc ls bl tg w hl hnm hnc hcm hv hls hnn hnd hcn hs htg hmay h3
  · exact text12_c pv ep k ai ni ci l sa ns sc ls bl tg tot w hl hnm hnc hcm hv hls hnn hnd hcn hs htg hmay (by omega) hsm (by rw [← htot]; unfold tktN; rw [if_neg h3])

theorem put13_c (pv ep : UInt64) (k : Nat) (ai : Option Addr) (ni ci : Nat) (l : List UInt64) (sa : Option Addr) (ns sc : Nat) (ls : List SealR) (bl : UInt64) (tg : List UInt8) (tot : Nat)  (w : World) (hl : l.length = ni) (hnm : ni ≤ 2000000) (hnc : ni ≤ ci) (hcm : ci ≤ maxLen) (hv : RdV w ai (cu64 l)) (hls : ls.length = ns) (hnn : ns ≤ 2000000) (hnd : ns ≤ sc) (hcn : sc ≤ maxLen) (hs : RdV w sa (ls.flatMap sealC)) (htg : tg.length = 16) (hmay : mayN pv ep (k:Int) l ls bl = 0) (hk : k = 1 ∨ k = 2 ∨ k = 3) (hsm : ns ≤ 300) (htot : tktN k ni ns = tot) (htb : tot ≤ 30000)  : Calls Tryd.prog 47 #[.agg (List.toArray (α := Value) ([U64 pv, U64 ep, I64 ((k:Int)), .slice ai ni ci, .slice sa ns sc, U64 bl] ++ cu8 tg))] w (Post w [] (fun v L => ∃ g sp cap, v = .tuple #[Slc g 0 (tot + 16) cap, .nilIface] ∧ L = [⟨g, cu8 ((tktT pv ep k l ls bl) ++ tg) ++ sp, 5, (0, 0)⟩] ∧ sp.length = cap - (tot + 16) ∧ (tot + 16) ≤ cap ∧ cap ≤ maxLen)) := by
 have hmx : maxLen = 9223372036854775807 := rfl
 refine enter (P := Tryd.prog) (f := 47) (fn := Tryd.f47) w [] 18 [] [.agg (List.toArray (α := Value) ([U64 pv, U64 ep, I64 ((k:Int)), .slice ai ni ci, .slice sa ns sc, U64 bl] ++ cu8 tg))] Tryd.func47 rfl rfl (by simp) (BL (by simp) (by simp) (by simp)) ?_
 show JC _ _ _ [(0, .agg (List.toArray (α := Value) ([U64 pv, U64 ep, I64 ((k:Int)), .slice ai ni ci, .slice sa ns sc, U64 bl] ++ cu8 tg)))] _
 refine AG (AC (AN (CM (.agg (List.toArray (α := Value) ([U64 pv, U64 ep, I64 ((k:Int)), .slice ai ni ci, .slice sa ns sc, U64 bl] ++ cu8 tg))) ([U64 pv, U64 ep, I64 ((k:Int)), .slice ai ni ci, .slice sa ns sc, U64 bl] ++ cu8 tg) rfl (by first | rfl | simp)) rfl ?_))
 rintro v1 L1 ⟨nb1, hnb1, rfl, rfl⟩
 show JL _ _ _ _ ((1, Ptr nb1 0) :: _) [⟨nb1, [U64 pv, U64 ep, I64 ((k:Int)), .slice ai ni ci, .slice sa ns sc, U64 bl] ++ cu8 tg, 29, (0, 0)⟩]
 refine AA _ (AF rfl) rfl ?_
 refine AA _ (AF rfl) rfl ?_
 refine AI (AE (AG (AC (AA (.agg (List.toArray (α := Value) ([U64 pv, U64 ep, I64 ((k:Int)), .slice ai ni ci, .slice sa ns sc, U64 bl] ++ cu8 tg))) (AL rfl (BO D7 C4 (by simp [htg]) (MemAt.ent 0 rfl (AM _)))) rfl ?_))))
 refine AN (B1 114 [.agg (List.toArray (α := Value) ([U64 pv, U64 ep, I64 ((k:Int)), .slice ai ni ci, .slice sa ns sc, U64 bl] ++ cu8 tg))] _ (AW [.agg (List.toArray (α := Value) ([U64 pv, U64 ep, I64 ((k:Int)), .slice ai ni ci, .slice sa ns sc, U64 bl] ++ cu8 tg))] Tryd.call114 rfl) (fun w1 hw1 => text_w pv ep k ai ni ci l sa ns sc ls bl tg tot w1 hl (by omega) (by omega) (by omega) (DD hw1 rfl hv) hls (by omega) (by omega) (by omega) (DD hw1 rfl hs) htg hmay hk hsm htot)) rfl ?_
 rintro v1 L1 ⟨_, ⟨nb2, sp1, cp1, rfl, rfl, hc1, hc2, hc3⟩, rfl⟩
 show JL _ _ _ _ ((8, .tuple #[Slc nb2 0 tot cp1, .nilIface]) :: _) [_, ⟨nb2, cu8 (tktT pv ep k l ls bl) ++ sp1, 5, (0, 0)⟩]
 refine AA _ (AD rfl) rfl ?_
 refine AA _ (BJ rfl rfl) rfl ?_
 refine AA _ (BJ rfl rfl) rfl ?_
 refine AA _ (AF rfl) rfl ?_
 refine AA _ (AF rfl) rfl ?_
 refine AI (AE (AG (AG (AC (AA _ (AD rfl) rfl ?_)))))
 refine AA (.bool false) (D8 _ _ _ rfl rfl (fun _ => D6 ..) fun _ => DS B8) rfl ?_
 refine AI (AE (B9 _ rfl rfl ?_))
 refine BE (AE (AG (AC (AA _ (AD rfl) rfl ?_))))
 refine AA (Ptr nb1 6) (AJ 6 27 16 BN rfl DW rfl rfl) rfl ?_
 refine AA (Slc nb1 6 16 16) (CT 16 5 1 0 16 6 16 C2 AY rfl rfl rfl (by omega) (by omega) (by omega) (by omega) (by omega) 16 (by omega)) rfl ?_
 refine AN (DE 43 5 [false, true] (Slc nb2 0 tot cp1) tot (tktT pv ep k l ls bl) tg (some ⟨nb1, 6, none⟩) 16 16 (tot + 16) AP DB rfl (.inr ⟨nb2, sp1, cp1, rfl, rfl, (by first | exact (show (tktT pv ep k l ls bl).length = tot from ((FH hl hls).trans htot)) | simp [(show (tktT pv ep k l ls bl).length = tot from ((FH hl hls).trans htot))]), hc1, (by omega), (by omega)⟩) rfl (by first | exact htg | simp [htg]; try omega) (SrcAt.mem (MemAt.ent 0 rfl (Seg.right 6 0 rfl rfl (AM _)))) (by omega) (by unfold maxLen; omega) (by omega)) rfl ?_
 rintro v1 L1 ⟨nb3, sp2, cp2, hg1, rfl, rfl, ha1, ha2, ha3, ha4⟩
 show JL _ _ _ _ ((17, Slc nb3 0 (tot + 16) cp2) :: _) [_, ⟨nb3, cu8 ((tktT pv ep k l ls bl) ++ tg) ++ sp2, 5, (0, 0)⟩]
 refine AA _ (AF rfl) rfl ?_
 refine AA _ (AF rfl) rfl ?_
 refine AI (AE (BG (B5 [false, true] ?_)))
 show JQ _ _ _ _ [_]
 refine BI (.tuple #[Slc nb3 0 (tot + 16) cp2, .nilIface]) (res2 Tryd.results47 (BK rfl) (BK rfl)) fun w1 hw1 => ?_
 exact ⟨_, _, rfl, ⟨nb3, sp2, cp2, rfl, rfl, ha2, ha3, ha4⟩, hw1.sub (by simp) (by simp)⟩
end Go.Proofs.YtkdpdgpphpngeaaDoor
namespace Go.Proofs.YtkdpdgpphpngeaaDoor
open Go Go.Sx
set_option linter.unusedVariables false
set_option linter.unusedSimpArgs false
set_option maxRecDepth 100000
attribute [local irreducible] mid zr8 zr32 rotr wordL spreadL comprL cpN adN spN wrdN constL initL padL stN outN routN hashL sumG blkL xbN macL orN
theorem block_c (ao : Option Addr) (n cb : Nat) (b : List UInt8) (w : World) (hb : b.length = n) (hcb : ao = none → cb = 0) (hn : n ≤ 17592186044416) (hr : RdB w [] ao b) (hG : GLs w) : Calls Tryd.prog 171 #[.slice ao n cb] w (Post w [] (fun v L => v = .agg (cu8 (blkL b)).toArray ∧ L = [])) := by
 refine enter w [] 15 [] [.slice ao n cb] Tryd.func171 rfl rfl (by simp) (BL (by simp) (by simp) (by simp)) ?_
 show JC _ _ _ [(0, .slice ao n cb)] _
 refine AG (AC (AN (BR _ (cu8 (zr8 64)) Tryd.zeroValue262 (by kernel_rfl)) rfl ?_))
 rintro v1 L1 ⟨nb1, hnb1, rfl, rfl⟩
 show JL _ _ _ _ ((2, Ptr nb1 0) :: _) [⟨nb1, cu8 (zr8 64), 262, (0, 0)⟩]
 refine AI (AE (AG (AC (AN (BR _ (cu8 (zr8 64)) Tryd.zeroValue262 (by kernel_rfl)) rfl ?_))))
 rintro v1 L1 ⟨nb2, hnb2, rfl, rfl⟩
 show JL _ _ _ _ ((3, Ptr nb2 0) :: _) [_, ⟨nb2, cu8 (zr8 64), 262, (0, 0)⟩]
 refine AI (AE (AG (AG (AC (AA _ (AD rfl) rfl ?_)))))
 refine AA (I64 ((n:Int))) (DJ AP rfl) rfl ?_
 refine AA (.bool (decide ((64:Int) < ((n:Int))))) (AK rfl rfl fun _ => E2 _ _) rfl ?_
 refine AI (AE (CN (decide ((64:Int) < ((n:Int)))) rfl (fun hb1 => ?_) (fun hb1 => ?_)))
 ·
  have hp1 : (64:Int) < ((n:Int)) := of_decide_eq_true hb1
  refine AG (AC (AA _ (AD rfl) rfl ?_))
  refine AN (AT 177 [.slice ao n cb] (.agg (cu8 (sumG constL initL b)).toArray) (AW [.slice ao n cb] Tryd.call177 rfl) (fun w1 hw1 => sum_c ao n cb b w1 hb hcb (by omega) (hr.at (M' := []) hw1 (by simp)) (hG.at hw1))) rfl ?_
  rintro v1 L1 ⟨rfl, rfl⟩
  show JL _ _ _ _ ((9, .agg (cu8 (sumG constL initL b)).toArray) :: _) [_, _]
  refine AN (BR _ (cu8 (zr8 32)) BP (by kernel_rfl)) rfl ?_
  rintro v1 L1 ⟨nb3, hnb3, rfl, rfl⟩
  show JL _ _ _ _ ((4, Ptr nb3 0) :: _) [_, _, ⟨nb3, cu8 (zr8 32), 54, (0, 0)⟩]
  refine AN (A8 2 nb3 0 32 (cu8 (zr8 32)) 54 (.agg (cu8 (sumG constL initL b)).toArray) (cu8 (sumG constL initL b)) (cu8 (sumG constL initL b)) rfl rfl rfl (by first | rfl | simp) AQ (B2 (BM _ _ _)) (by first | exact C5 | exact DA | exact C9 | (simp [cu8, cu32, cu64, Value.oneCell']; done)) (by simp [(A2 32)]) (BU (by simp [(A2 32), (BM _ _ _)]))) rfl ?_
  rintro v1 L1 ⟨rfl, rfl⟩
  show JL _ _ _ _ _ [_, _, ⟨nb3, cu8 (sumG constL initL b), 54, (0, 0)⟩]
  refine AI (AE (AC (AA (Slc nb3 0 32 32) (CT 32 5 1 0 32 0 32 CB AY rfl rfl rfl (by omega) (by omega) (by omega) (by omega) (by omega) 32 (by omega)) rfl ?_)))
  refine AA _ (AF rfl) rfl ?_
  refine AI (AE (AG (AC (AA (Slc nb2 0 64 64) (CT 64 5 1 0 64 0 64 Tryd.underlying262 AY rfl rfl rfl (by omega) (by omega) (by omega) (by omega) (by omega) 64 (by omega)) rfl ?_))))
  refine AA _ (AD rfl) rfl ?_
  have hl1 : (spl (zr8 64) 0 (sumG constL initL b)).length = 64 := by rw [EY (by simp [(A2 64), (BM _ _ _)])]; simp [(A2 64), (BM _ _ _)]
  refine AN (Step_copy 43 43 5 1 nb2 0 64 64 (cu8 (zr8 64)) 262 (some ⟨nb3, 0, none⟩) 32 32 32 (cu8 (sumG constL initL b)) (cu8 (spl (zr8 64) 0 (sumG constL initL b))) AP FG rfl rfl rfl (Nat.min_eq_left (by omega)) (by simp [(BM _ _ _)]; try omega) (SrcAt.mem (MemAt.ent 2 rfl (AM _))) (by simp [(A2 64)]; try omega) (by first | exact C5 | exact DA | exact C9 | (simp [cu8, cu32, cu64, Value.oneCell']; done)) (laySpl8 _ _ _ (by simp [(A2 64), (BM _ _ _)]))) rfl ?_
  rintro v1 L1 ⟨rfl, rfl⟩
  show JL _ _ _ _ ((13, I64 (32:Int)) :: _) [_, ⟨nb2, cu8 (spl (zr8 64) 0 (sumG constL initL b)), 262, (0, 0)⟩, _]
  refine AI (AE (AG (AC (AA (.agg (cu8 (spl (zr8 64) 0 (sumG constL initL b))).toArray) (AL rfl (BO Tryd.isAgg262 D9 (B2 hl1) (MemAt.ent 1 rfl (AM _)))) rfl ?_))))
  refine AN (A8 0 nb1 0 64 (cu8 (zr8 64)) 262 (.agg (cu8 (spl (zr8 64) 0 (sumG constL initL b))).toArray) (cu8 (spl (zr8 64) 0 (sumG constL initL b))) (cu8 (spl (zr8 64) 0 (sumG constL initL b))) rfl rfl rfl (by first | rfl | simp) D9 (B2 hl1) (by first | exact C5 | exact DA | exact C9 | (simp [cu8, cu32, cu64, Value.oneCell']; done)) (by simp [(A2 64)]) (BU (by simp [(A2 64), hl1]))) rfl ?_
  rintro v1 L1 ⟨rfl, rfl⟩
  show JL _ _ _ _ _ [⟨nb1, cu8 (spl (zr8 64) 0 (sumG constL initL b)), 262, (0, 0)⟩, _, _]
  refine AI (AE (BG (BI (.agg (cu8 (spl (zr8 64) 0 (sumG constL initL b))).toArray) (res1 Tryd.results171 (EI rfl (BO Tryd.isAgg262 D9 (B2 hl1) (MemAt.ent 0 rfl (AM _))))) fun w1 hw1 => ?_)))
  refine ⟨_, [], rfl, ⟨?_, rfl⟩, hw1.sub (by simp) (by simp)⟩
  first | (rw [blkL, if_pos (by omega)]; done) | (rw [blkL, if_neg (by omega)]; done)
 ·
  have hp1 : ¬ ((64:Int) < ((n:Int))) := of_decide_eq_false hb1
  refine BE (AE (AG (AC (AA (Slc nb2 0 64 64) (CT 64 5 1 0 64 0 64 Tryd.underlying262 AY rfl rfl rfl (by omega) (by omega) (by omega) (by omega) (by omega) 64 (by omega)) rfl ?_))))
  refine AA _ (AD rfl) rfl ?_
  have hl2 : (spl (zr8 64) 0 b).length = 64 := (EY (by rw [hb, (A2 64)]; omega)).trans (A2 64)
  refine AN (Step_copy 43 43 5 1 nb2 0 64 64 (cu8 (zr8 64)) 262 ao n cb n (cu8 b) (cu8 (spl (zr8 64) 0 b)) AP FG rfl rfl rfl (Nat.min_eq_left (by omega)) (by simp [hb]; try omega) (hr.src) (by simp [(A2 64)]; try omega) (by first | exact C5 | exact DA | exact C9 | (simp [cu8, cu32, cu64, Value.oneCell']; done)) (laySpl8 _ _ _ (by rw [hb, (A2 64)]; omega))) rfl ?_
  rintro v1 L1 ⟨rfl, rfl⟩
  show JL _ _ _ _ ((13, I64 ((n:Int))) :: _) [_, ⟨nb2, cu8 (spl (zr8 64) 0 b), 262, (0, 0)⟩]
  refine AI (AE (AG (AC (AA (.agg (cu8 (spl (zr8 64) 0 b)).toArray) (AL rfl (BO Tryd.isAgg262 D9 (B2 hl2) (MemAt.ent 1 rfl (AM _)))) rfl ?_))))
  refine AN (A8 0 nb1 0 64 (cu8 (zr8 64)) 262 (.agg (cu8 (spl (zr8 64) 0 b)).toArray) (cu8 (spl (zr8 64) 0 b)) (cu8 (spl (zr8 64) 0 b)) rfl rfl rfl (by first | rfl | simp) D9 (B2 hl2) (by first | exact C5 | exact DA | exact C9 | (simp [cu8, cu32, cu64, Value.oneCell']; done)) (by simp [(A2 64)]) (BU (by simp [(A2 64), hl2]))) rfl ?_
  rintro v1 L1 ⟨rfl, rfl⟩
  show JL _ _ _ _ _ [⟨nb1, cu8 (spl (zr8 64) 0 b), 262, (0, 0)⟩, _]
  refine AI (AE (BG (BI (.agg (cu8 (spl (zr8 64) 0 b)).toArray) (res1 Tryd.results171 (EI rfl (BO Tryd.isAgg262 D9 (B2 hl2) (MemAt.ent 0 rfl (AM _))))) fun w1 hw1 => ?_)))
  refine ⟨_, [], rfl, ⟨?_, rfl⟩, hw1.sub (by simp) (by simp)⟩
  first | (rw [blkL, if_pos (by omega)]; done) | (rw [blkL, if_neg (by omega)]; done)
theorem with_c (b : List UInt8) (x : UInt8) (w : World) (hb : b.length = 64) : Calls Tryd.prog 173 #[.agg (cu8 b).toArray, U8 x] w (Post w [] (fun v L => ∃ g T, v = Slc g 0 64 64 ∧ L = [⟨g, cu8 (xbN b x 64), T, (0, 0)⟩])) := by
 refine enter w [] 17 [] [.agg (cu8 b).toArray, U8 x] Tryd.func173 rfl rfl (by simp) (BL (by simp) (by simp) (by simp)) ?_
 show JC _ _ _ [(0, .agg (cu8 b).toArray), (1, U8 x)] _
 refine AG (AC (AN (CM (.agg (cu8 b).toArray) (cu8 b) rfl (by first | rfl | simp)) rfl ?_))
 rintro v1 L1 ⟨nb1, hnb1, rfl, rfl⟩
 show JL _ _ _ _ ((2, Ptr nb1 0) :: _) [⟨nb1, cu8 b, 262, (0, 0)⟩]
 refine AA _ (AF rfl) rfl ?_
 refine AI (AE (AG (AG (AC (AA _ (AD rfl) rfl ?_)))))
 refine AI (AE (BH (DN (ι := Nat × List UInt8) (fun ⟨k, o⟩ => [(1, U8 x), (2, Ptr nb1 0), (4, .slice none 0 0), (6, I64 ((k:Int)))]) (fun ⟨k, o⟩ => [⟨nb1, cu8 o, 262, (0, 0)⟩]) (fun ⟨k, o⟩ => k ≤ 64 ∧ o = xbN b x k ∧ o.length = 64) (fun ⟨k, o⟩ => 64 - k) (0, b) ⟨by omega, by rw [xbN], hb⟩ (AH rfl (AH rfl (AH rfl (AH rfl (Sub.nil))))) rfl ?_)))
 rintro ⟨k, o⟩ ⟨hx1, hx2, ho⟩
 show JC _ _ _ [(1, U8 x), (2, Ptr nb1 0), (4, .slice none 0 0), (6, I64 ((k:Int)))] [⟨nb1, cu8 o, 262, (0, 0)⟩]
 refine AG (AC (AA (.bool (decide (((k:Int)) < (64:Int)))) (AK rfl rfl fun _ => CP _ _) rfl ?_))
 refine AI (AE (AG (CN (decide (((k:Int)) < (64:Int))) rfl (fun hb1 => ?_) (fun hb1 => ?_))))
 ·
  have hp1 : ((k:Int)) < (64:Int) := of_decide_eq_true hb1
  refine BE (AE (AG (BH (AG (AC (AA _ (AD rfl) rfl ?_))))))
  refine AA _ (AF rfl) rfl ?_
  refine AI (AE (AC (AA _ (AD rfl) rfl ?_)))
  refine AA (Ptr nb1 k) (A5 64 5 1 k Tryd.underlying262 AY rfl rfl (by omega) (by omega) (by omega)) rfl ?_
  refine AA (U8 (g8 o k)) (AL rfl (AZ Tryd.isAgg5 (MemAt.ent 0 rfl (Seg.get (g8_get (i := k) (by rw [ho]; omega)))))) rfl ?_
  refine AA _ (AD rfl) rfl ?_
  refine AA (U8 ((g8 o k) ^^^ x)) (AK rfl rfl fun _ => bin_xor_u8 (g8 o k) x) rfl ?_
  refine AA (Ptr nb1 k) (A5 64 5 1 k Tryd.underlying262 AY rfl rfl (by omega) (by omega) (by omega)) rfl ?_
  have hl1 : (o.set k ((g8 o k) ^^^ x)).length = 64 := by first | (rw [List.length_set]; exact ho) | simp [ho]
  refine AN (A8 0 nb1 k 1 (cu8 o) 262 (U8 ((g8 o k) ^^^ x)) ([U8 ((g8 o k) ^^^ x)]) (cu8 (o.set k ((g8 o k) ^^^ x))) rfl rfl rfl rfl AY rfl (by simp [Value.oneCell']) (by simp [ho]; try omega) (lay8 _ _ _ (by rw [ho]; omega))) rfl ?_
  rintro v1 L1 ⟨rfl, rfl⟩
  show JL _ _ _ _ _ [⟨nb1, cu8 (o.set k ((g8 o k) ^^^ x)), 262, (0, 0)⟩]
  refine AI (BA (AE (AC (AA (I64 ((k:Int) + 1)) (AK rfl rfl fun _ => CH _ _ ((k:Int) + 1) (by omega) (by omega)) rfl ?_))))
  refine AA _ (AD rfl) rfl ?_
  refine AI (CR (DT (k + 1, o.set k ((g8 o k) ^^^ x)) ⟨by omega, by rw [xbN, ← hx2], hl1⟩ (by first | (simp; omega) | simp | (dsimp only; omega) | omega) (AH rfl (AH rfl (AH rfl (AH rfl (Sub.nil))))) rfl))
 ·
  have hp1 : ¬ (((k:Int)) < (64:Int)) := of_decide_eq_false hb1
  refine DL (AX (AX (CC (AE (AG (AC (AA (Slc nb1 0 64 64) (CT 64 5 1 0 64 0 64 Tryd.underlying262 AY rfl rfl rfl (by omega) (by omega) (by omega) (by omega) (by omega) 64 (by omega)) rfl ?_)))))))
  refine AA _ (AF rfl) rfl ?_
  refine AI (AE (BG (BI (Slc nb1 0 64 64) (res1 Tryd.results173 (BK rfl)) fun w1 hw1 => ?_)))
  have e1 : k = 64 := by omega
  subst e1
  rw [hx2] at hw1
  exact ⟨_, _, rfl, ⟨nb1, 262, rfl, rfl⟩, hw1.sub (by simp) (by simp)⟩
theorem mac_c (ao : Option Addr) (n cb : Nat) (key : List UInt8) (b c : Nat) (vs : List Value) (ls : List (List UInt8)) (w : World) (hb : key.length = n) (hcb : ao = none → cb = 0) (hn : n ≤ 17592186044416) (hr : RdB w [] ao key) (hk : 1 ≤ ls.length) (hc : ls.length ≤ c) (hk2 : ls.length ≤ 1000) (hp : Parts w b vs ls) (hs : ls.flatten.length ≤ 100000000) (hG : GLs w) : Calls Tryd.prog 145 #[.slice ao n cb, .slice (some ⟨b, 0, none⟩) ls.length c] w (Post w [] (fun v L => v = .agg (cu8 (macL key ls.flatten)).toArray ∧ L = [])) := by
 refine enter w [] 20 [] [.slice ao n cb, .slice (some ⟨b, 0, none⟩) ls.length c] Tryd.func145 rfl rfl (by simp) (BL (by simp) (by simp) (by simp)) ?_
 show JC _ _ _ [(0, .slice ao n cb), (1, .slice (some ⟨b, 0, none⟩) ls.length c)] _
 refine AG (AC (AN (BR _ (cu8 (zr8 32)) BP (by kernel_rfl)) rfl ?_))
 rintro v1 L1 ⟨nb1, hnb1, rfl, rfl⟩
 show JL _ _ _ _ ((4, Ptr nb1 0) :: _) [⟨nb1, cu8 (zr8 32), 54, (0, 0)⟩]
 refine AI (AE (AG (AC (AA _ (AD rfl) rfl ?_))))
 refine AN (AT 171 [.slice ao n cb] (.agg (cu8 (blkL key)).toArray) (AW [.slice ao n cb] Tryd.call171 rfl) (fun w1 hw1 => block_c ao n cb key w1 hb hcb (by omega) (hr.at (M' := []) hw1 (by simp)) (hG.at hw1))) rfl ?_
 rintro v1 L1 ⟨rfl, rfl⟩
 show JL _ _ _ _ ((8, .agg (cu8 (blkL key)).toArray) :: _) [_]
 refine AN (BR _ (cu8 (zr8 64)) Tryd.zeroValue262 (by kernel_rfl)) rfl ?_
 rintro v1 L1 ⟨nb2, hnb2, rfl, rfl⟩
 show JL _ _ _ _ ((5, Ptr nb2 0) :: _) [_, ⟨nb2, cu8 (zr8 64), 262, (0, 0)⟩]
 refine AN (A8 1 nb2 0 64 (cu8 (zr8 64)) 262 (.agg (cu8 (blkL key)).toArray) (cu8 (blkL key)) (cu8 (blkL key)) rfl rfl rfl (by first | rfl | simp) D9 (B2 (ES _)) (by first | exact C5 | exact DA | exact C9 | (simp [cu8, cu32, cu64, Value.oneCell']; done)) (by simp [(A2 64)]) (BU (by simp [(A2 64), (ES _)]))) rfl ?_
 rintro v1 L1 ⟨rfl, rfl⟩
 show JL _ _ _ _ _ [_, ⟨nb2, cu8 (blkL key), 262, (0, 0)⟩]
 refine AI (AE (AG (AC (AA (.agg (cu8 (blkL key)).toArray) (AL rfl (BO Tryd.isAgg262 D9 (B2 (ES _)) (MemAt.ent 1 rfl (AM _)))) rfl ?_))))
 refine AN (B1 173 [.agg (cu8 (blkL key)).toArray, U8 (54:UInt8)] _ (AW [.agg (cu8 (blkL key)).toArray, U8 (54:UInt8)] Tryd.call173 rfl) (fun w1 hw1 => with_c (blkL key) (54:UInt8) w1 (ES _))) rfl ?_
 rintro v1 L1 ⟨_, ⟨nb3, tw1, rfl, rfl⟩, rfl⟩
 show JL _ _ _ _ ((10, Slc nb3 0 64 64) :: _) [_, _, ⟨nb3, cu8 (xbN (blkL key) (54:UInt8) 64), tw1, (0, 0)⟩]
 refine AA _ (AD rfl) rfl ?_
 refine AN (B1 174 [.slice (some ⟨b, 0, none⟩) ls.length c, .slice none 0 0] _ (AW [.slice (some ⟨b, 0, none⟩) ls.length c, .slice none 0 0] Tryd.call174 rfl) (fun w1 hw1 => join_c b c vs ls w1 hk hc hk2 (hp.at hw1 rfl (by omega)) (by omega))) rfl ?_
 rintro v1 L1 ⟨_, (⟨he1, ao1, ca1, rfl, rfl, hn1⟩ | ⟨hp1, nb4, sp1, cp1, tj1, fj1, rfl, rfl, hl1, hm1⟩), rfl⟩
 ·
  show JL _ _ _ _ ((12, .slice ao1 0 ca1) :: _) [_, _, _]
  refine AN (BF 43 1 _ [(0, Slc nb3 0 64 64), (1, .slice ao1 0 ca1)] ([Slc nb3 0 64 64, .slice ao1 0 ca1]) EE BZ Tryd.zeroValue43 rfl rfl rfl (by kernel_rfl)) rfl ?_
  rintro v1 L1 ⟨nb5, hnb5, rfl, rfl⟩
  show JL _ _ _ _ ((13, Slc nb5 0 2 2) :: _) [_, _, _, ⟨nb5, [Slc nb3 0 64 64, .slice ao1 0 ca1], 43, (0, 0)⟩]
  refine AN (AT 172 [Slc nb5 0 2 2] (.agg (cu8 (sumG constL initL ([xbN (blkL key) (54:UInt8) 64, ([] : List UInt8)].flatten))).toArray) (AW [Slc nb5 0 2 2] Tryd.call172 rfl) (fun w1 hw1 => of_c nb5 2 [Slc nb3 0 64 64, .slice ao1 0 ca1] [xbN (blkL key) (54:UInt8) 64, ([] : List UInt8)] w1 (by simp) (by simp) (by simp) ⟨RdA.of hw1 (MemAt.ent 3 rfl (AM _)) (by simp), ⟨⟨(some ⟨nb3, 0, none⟩), 64, congrArg (fun n => Value.slice (some ⟨nb3, 0, none⟩) n 64) ((xbN_len64 _ 64 (ES _))).symm, (RdB.of hw1 (MemAt.ent 2 rfl (AM _)) (by simp))⟩, ⟨⟨ao1, ca1, congrArg (fun n => Value.slice ao1 n ca1) (rfl).symm, RdB.nil⟩, trivial⟩⟩⟩ (by simp only [List.flatten_cons, List.flatten_nil, List.length_append, List.length_nil, (xbN_len64 _ 64 (ES _))]; omega) (hG.at hw1))) rfl ?_
  rintro v1 L1 ⟨rfl, rfl⟩
  show JL _ _ _ _ ((14, .agg (cu8 (sumG constL initL ([xbN (blkL key) (54:UInt8) 64, ([] : List UInt8)].flatten))).toArray) :: _) [_, _, _, _]
  refine AN (BR _ (cu8 (zr8 32)) BP (by kernel_rfl)) rfl ?_
  rintro v1 L1 ⟨nb6, hnb6, rfl, rfl⟩
  show JL _ _ _ _ ((6, Ptr nb6 0) :: _) [_, _, _, _, ⟨nb6, cu8 (zr8 32), 54, (0, 0)⟩]
  refine AN (A8 4 nb6 0 32 (cu8 (zr8 32)) 54 (.agg (cu8 (sumG constL initL ([xbN (blkL key) (54:UInt8) 64, ([] : List UInt8)].flatten))).toArray) (cu8 (sumG constL initL ([xbN (blkL key) (54:UInt8) 64, ([] : List UInt8)].flatten))) (cu8 (sumG constL initL ([xbN (blkL key) (54:UInt8) 64, ([] : List UInt8)].flatten))) rfl rfl rfl (by first | rfl | simp) AQ (B2 (BM _ _ _)) (by first | exact C5 | exact DA | exact C9 | (simp [cu8, cu32, cu64, Value.oneCell']; done)) (by simp [(A2 32)]) (BU (by simp [(A2 32), (BM _ _ _)]))) rfl ?_
  rintro v1 L1 ⟨rfl, rfl⟩
  show JL _ _ _ _ _ [_, _, _, _, ⟨nb6, cu8 (sumG constL initL ([xbN (blkL key) (54:UInt8) 64, ([] : List UInt8)].flatten)), 54, (0, 0)⟩]
  refine AI (AE (AG (C3 20 5 [(0, .agg (cu8 (blkL key)).toArray), (2, Slc nb6 0 32 32)] BQ rfl (by decide +kernel) ?_)))
  refine BT ⟨[], [0, 2], [], [0, 2], [1]⟩ 1 _ rfl rfl (by decide +kernel) rfl ⟨⟨_, rfl, AB rfl (AL rfl (BO Tryd.isAgg262 D9 (B2 (ES _)) (MemAt.ent 1 rfl (AM _))))⟩, ⟨_, rfl, AB rfl (CT 32 5 1 0 32 0 32 CB AY rfl rfl rfl (by omega) (by omega) (by omega) (by omega) (by omega) 32 (by omega))⟩, trivial⟩ rfl (A1 rfl (B1 173 [.agg (cu8 (blkL key)).toArray, U8 (92:UInt8)] _ (AW [.agg (cu8 (blkL key)).toArray, U8 (92:UInt8)] Tryd.call173 rfl) (fun w1 hw1 => with_c (blkL key) (92:UInt8) w1 (ES _)))) ?_
  rintro v1 L1 ⟨_, ⟨nb7, tw2, rfl, rfl⟩, rfl⟩
  refine ⟨[], ?_⟩
  show DP _ _ _ _ _ _ _ _ [_, _, _, _, _, ⟨nb7, cu8 (xbN (blkL key) (92:UInt8) 64), tw2, (0, 0)⟩]
  refine BT ⟨[1], [0, 2], [0], [2], [3]⟩ 3 _ rfl rfl (by decide +kernel) rfl ⟨⟨_, rfl, AB rfl (CT 32 5 1 0 32 0 32 CB AY rfl rfl rfl (by omega) (by omega) (by omega) (by omega) (by omega) 32 (by omega))⟩, trivial⟩ rfl (A1 rfl (BF 43 1 _ [(0, Slc nb7 0 64 64), (1, Slc nb6 0 32 32)] ([Slc nb7 0 64 64, Slc nb6 0 32 32]) EE BZ Tryd.zeroValue43 rfl rfl rfl (by kernel_rfl))) ?_
  rintro v1 L1 ⟨nb8, hnb8, rfl, rfl⟩
  refine ⟨[], ?_⟩
  show DP _ _ _ _ _ _ _ _ [_, _, _, _, _, _, ⟨nb8, [Slc nb7 0 64 64, Slc nb6 0 32 32], 43, (0, 0)⟩]
  refine BT ⟨[1, 3], [0, 2], [0, 2], [], [4]⟩ 4 _ rfl rfl (by decide +kernel) rfl trivial rfl (A1 rfl (AT 172 [Slc nb8 0 2 2] (.agg (cu8 (sumG constL initL ([xbN (blkL key) (92:UInt8) 64, sumG constL initL ([xbN (blkL key) (54:UInt8) 64, ([] : List UInt8)].flatten)].flatten))).toArray) (AW [Slc nb8 0 2 2] Tryd.call172 rfl) (fun w1 hw1 => of_c nb8 2 [Slc nb7 0 64 64, Slc nb6 0 32 32] [xbN (blkL key) (92:UInt8) 64, sumG constL initL ([xbN (blkL key) (54:UInt8) 64, ([] : List UInt8)].flatten)] w1 (by simp) (by simp) (by simp) ⟨RdA.of hw1 (MemAt.ent 6 rfl (AM _)) (by simp), ⟨⟨(some ⟨nb7, 0, none⟩), 64, congrArg (fun n => Value.slice (some ⟨nb7, 0, none⟩) n 64) ((xbN_len64 _ 64 (ES _))).symm, (RdB.of hw1 (MemAt.ent 5 rfl (AM _)) (by simp))⟩, ⟨⟨(some ⟨nb6, 0, none⟩), 32, congrArg (fun n => Value.slice (some ⟨nb6, 0, none⟩) n 32) ((BM _ _ _)).symm, (RdB.of hw1 (MemAt.ent 4 rfl (AM _)) (by simp))⟩, trivial⟩⟩⟩ (by simp only [List.flatten_cons, List.flatten_nil, List.length_append, List.length_nil, (xbN_len64 _ 64 (ES _)), (BM _ _ _)]; omega) (hG.at hw1)))) ?_
  rintro v1 L1 ⟨rfl, rfl⟩
  refine ⟨[], ?_⟩
  show DP _ _ _ _ _ _ _ _ [_, _, _, _, _, _, _]
  refine BT ⟨[1, 3, 4], [0, 2], [0, 2], [], [5]⟩ 5 _ rfl rfl (by decide +kernel) rfl trivial rfl (A1 rfl (A8 0 nb1 0 32 (cu8 (zr8 32)) 54 (.agg (cu8 (sumG constL initL ([xbN (blkL key) (92:UInt8) 64, sumG constL initL ([xbN (blkL key) (54:UInt8) 64, ([] : List UInt8)].flatten)].flatten))).toArray) (cu8 (sumG constL initL ([xbN (blkL key) (92:UInt8) 64, sumG constL initL ([xbN (blkL key) (54:UInt8) 64, ([] : List UInt8)].flatten)].flatten))) (cu8 (sumG constL initL ([xbN (blkL key) (92:UInt8) 64, sumG constL initL ([xbN (blkL key) (54:UInt8) 64, ([] : List UInt8)].flatten)].flatten))) rfl rfl rfl (by first | rfl | simp) AQ (B2 (BM _ _ _)) (by first | exact C5 | exact DA | exact C9 | (simp [cu8, cu32, cu64, Value.oneCell']; done)) (by simp [(A2 32)]) (BU (by simp [(A2 32), (BM _ _ _)])))) ?_
  rintro v1 L1 ⟨rfl, rfl⟩
  refine ⟨[], ?_⟩
  show DP _ _ _ _ _ _ _ _ [⟨nb1, cu8 (sumG constL initL ([xbN (blkL key) (92:UInt8) 64, sumG constL initL ([xbN (blkL key) (54:UInt8) 64, ([] : List UInt8)].flatten)].flatten)), 54, (0, 0)⟩, _, _, _, _, _, _]
  refine DG ⟨[1, 3, 4, 5], [0, 2], [0, 2], [], []⟩ rfl rfl (by decide +kernel) rfl trivial ?_
  refine CZ (F' := [(4, Ptr nb1 0)]) (by kernel_rfl) ?_
  refine AE (BG (BI (.agg (cu8 (sumG constL initL ([xbN (blkL key) (92:UInt8) 64, sumG constL initL ([xbN (blkL key) (54:UInt8) 64, ([] : List UInt8)].flatten)].flatten))).toArray) (res1 Tryd.results145 (EI rfl (BO BS AQ (B2 (BM _ _ _)) (MemAt.ent 0 rfl (AM _))))) fun w1 hw1 => ?_))
  refine ⟨_, [], rfl, ⟨?_, rfl⟩, hw1.sub (by simp) (by simp)⟩
  rw [macL]
  first | (simp; done) | (rw [he1]; simp; done)
 ·
  show JL _ _ _ _ ((12, Slc nb4 0 ls.flatten.length cp1) :: _) [_, _, _, ⟨nb4, cu8 ls.flatten ++ sp1, tj1, fj1⟩]
  refine AN (BF 43 1 _ [(0, Slc nb3 0 64 64), (1, Slc nb4 0 ls.flatten.length cp1)] ([Slc nb3 0 64 64, Slc nb4 0 ls.flatten.length cp1]) EE BZ Tryd.zeroValue43 rfl rfl rfl (by kernel_rfl)) rfl ?_
  rintro v1 L1 ⟨nb9, hnb9, rfl, rfl⟩
  show JL _ _ _ _ ((13, Slc nb9 0 2 2) :: _) [_, _, _, _, ⟨nb9, [Slc nb3 0 64 64, Slc nb4 0 ls.flatten.length cp1], 43, (0, 0)⟩]
  refine AN (AT 172 [Slc nb9 0 2 2] (.agg (cu8 (sumG constL initL ([xbN (blkL key) (54:UInt8) 64, ls.flatten].flatten))).toArray) (AW [Slc nb9 0 2 2] Tryd.call172 rfl) (fun w1 hw1 => of_c nb9 2 [Slc nb3 0 64 64, Slc nb4 0 ls.flatten.length cp1] [xbN (blkL key) (54:UInt8) 64, ls.flatten] w1 (by simp) (by simp) (by simp) ⟨RdA.of hw1 (MemAt.ent 4 rfl (AM _)) (by simp), ⟨⟨(some ⟨nb3, 0, none⟩), 64, congrArg (fun n => Value.slice (some ⟨nb3, 0, none⟩) n 64) ((xbN_len64 _ 64 (ES _))).symm, (RdB.of hw1 (MemAt.ent 2 rfl (AM _)) (by simp))⟩, ⟨⟨(some ⟨nb4, 0, none⟩), cp1, congrArg (fun n => Value.slice (some ⟨nb4, 0, none⟩) n cp1) ((rfl : ls.flatten.length = _)).symm, (RdB.of hw1 (MemAt.ent 3 rfl (BV (AM _))) (by simp))⟩, trivial⟩⟩⟩ (by simp only [List.flatten_cons, List.flatten_nil, List.length_append, List.length_nil, (xbN_len64 _ 64 (ES _))]; omega) (hG.at hw1))) rfl ?_
  rintro v1 L1 ⟨rfl, rfl⟩
  show JL _ _ _ _ ((14, .agg (cu8 (sumG constL initL ([xbN (blkL key) (54:UInt8) 64, ls.flatten].flatten))).toArray) :: _) [_, _, _, _, _]
  refine AN (BR _ (cu8 (zr8 32)) BP (by kernel_rfl)) rfl ?_
  rintro v1 L1 ⟨nb10, hnb10, rfl, rfl⟩
  show JL _ _ _ _ ((6, Ptr nb10 0) :: _) [_, _, _, _, _, ⟨nb10, cu8 (zr8 32), 54, (0, 0)⟩]
  refine AN (A8 5 nb10 0 32 (cu8 (zr8 32)) 54 (.agg (cu8 (sumG constL initL ([xbN (blkL key) (54:UInt8) 64, ls.flatten].flatten))).toArray) (cu8 (sumG constL initL ([xbN (blkL key) (54:UInt8) 64, ls.flatten].flatten))) (cu8 (sumG constL initL ([xbN (blkL key) (54:UInt8) 64, ls.flatten].flatten))) rfl rfl rfl (by first | rfl | simp) AQ (B2 (BM _ _ _)) (by first | exact C5 | exact DA | exact C9 | (simp [cu8, cu32, cu64, Value.oneCell']; done)) (by simp [(A2 32)]) (BU (by simp [(A2 32), (BM _ _ _)]))) rfl ?_
  rintro v1 L1 ⟨rfl, rfl⟩
  show JL _ _ _ _ _ [_, _, _, _, _, ⟨nb10, cu8 (sumG constL initL ([xbN (blkL key) (54:UInt8) 64, ls.flatten].flatten)), 54, (0, 0)⟩]
  refine AI (AE (AG (C3 20 5 [(0, .agg (cu8 (blkL key)).toArray), (2, Slc nb10 0 32 32)] BQ rfl (by decide +kernel) ?_)))
  refine BT ⟨[], [0, 2], [], [0, 2], [1]⟩ 1 _ rfl rfl (by decide +kernel) rfl ⟨⟨_, rfl, AB rfl (AL rfl (BO Tryd.isAgg262 D9 (B2 (ES _)) (MemAt.ent 1 rfl (AM _))))⟩, ⟨_, rfl, AB rfl (CT 32 5 1 0 32 0 32 CB AY rfl rfl rfl (by omega) (by omega) (by omega) (by omega) (by omega) 32 (by omega))⟩, trivial⟩ rfl (A1 rfl (B1 173 [.agg (cu8 (blkL key)).toArray, U8 (92:UInt8)] _ (AW [.agg (cu8 (blkL key)).toArray, U8 (92:UInt8)] Tryd.call173 rfl) (fun w1 hw1 => with_c (blkL key) (92:UInt8) w1 (ES _)))) ?_
  rintro v1 L1 ⟨_, ⟨nb11, tw3, rfl, rfl⟩, rfl⟩
  refine ⟨[], ?_⟩
  show DP _ _ _ _ _ _ _ _ [_, _, _, _, _, _, ⟨nb11, cu8 (xbN (blkL key) (92:UInt8) 64), tw3, (0, 0)⟩]
  refine BT ⟨[1], [0, 2], [0], [2], [3]⟩ 3 _ rfl rfl (by decide +kernel) rfl ⟨⟨_, rfl, AB rfl (CT 32 5 1 0 32 0 32 CB AY rfl rfl rfl (by omega) (by omega) (by omega) (by omega) (by omega) 32 (by omega))⟩, trivial⟩ rfl (A1 rfl (BF 43 1 _ [(0, Slc nb11 0 64 64), (1, Slc nb10 0 32 32)] ([Slc nb11 0 64 64, Slc nb10 0 32 32]) EE BZ Tryd.zeroValue43 rfl rfl rfl (by kernel_rfl))) ?_
  rintro v1 L1 ⟨nb12, hnb12, rfl, rfl⟩
  refine ⟨[], ?_⟩
  show DP _ _ _ _ _ _ _ _ [_, _, _, _, _, _, _, ⟨nb12, [Slc nb11 0 64 64, Slc nb10 0 32 32], 43, (0, 0)⟩]
  refine BT ⟨[1, 3], [0, 2], [0, 2], [], [4]⟩ 4 _ rfl rfl (by decide +kernel) rfl trivial rfl (A1 rfl (AT 172 [Slc nb12 0 2 2] (.agg (cu8 (sumG constL initL ([xbN (blkL key) (92:UInt8) 64, sumG constL initL ([xbN (blkL key) (54:UInt8) 64, ls.flatten].flatten)].flatten))).toArray) (AW [Slc nb12 0 2 2] Tryd.call172 rfl) (fun w1 hw1 => of_c nb12 2 [Slc nb11 0 64 64, Slc nb10 0 32 32] [xbN (blkL key) (92:UInt8) 64, sumG constL initL ([xbN (blkL key) (54:UInt8) 64, ls.flatten].flatten)] w1 (by simp) (by simp) (by simp) ⟨RdA.of hw1 (MemAt.ent 7 rfl (AM _)) (by simp), ⟨⟨(some ⟨nb11, 0, none⟩), 64, congrArg (fun n => Value.slice (some ⟨nb11, 0, none⟩) n 64) ((xbN_len64 _ 64 (ES _))).symm, (RdB.of hw1 (MemAt.ent 6 rfl (AM _)) (by simp))⟩, ⟨⟨(some ⟨nb10, 0, none⟩), 32, congrArg (fun n => Value.slice (some ⟨nb10, 0, none⟩) n 32) ((BM _ _ _)).symm, (RdB.of hw1 (MemAt.ent 5 rfl (AM _)) (by simp))⟩, trivial⟩⟩⟩ (by simp only [List.flatten_cons, List.flatten_nil, List.length_append, List.length_nil, (xbN_len64 _ 64 (ES _)), (BM _ _ _)]; omega) (hG.at hw1)))) ?_
  rintro v1 L1 ⟨rfl, rfl⟩
  refine ⟨[], ?_⟩
  show DP _ _ _ _ _ _ _ _ [_, _, _, _, _, _, _, _]
  refine BT ⟨[1, 3, 4], [0, 2], [0, 2], [], [5]⟩ 5 _ rfl rfl (by decide +kernel) rfl trivial rfl (A1 rfl (A8 0 nb1 0 32 (cu8 (zr8 32)) 54 (.agg (cu8 (sumG constL initL ([xbN (blkL key) (92:UInt8) 64, sumG constL initL ([xbN (blkL key) (54:UInt8) 64, ls.flatten].flatten)].flatten))).toArray) (cu8 (sumG constL initL ([xbN (blkL key) (92:UInt8) 64, sumG constL initL ([xbN (blkL key) (54:UInt8) 64, ls.flatten].flatten)].flatten))) (cu8 (sumG constL initL ([xbN (blkL key) (92:UInt8) 64, sumG constL initL ([xbN (blkL key) (54:UInt8) 64, ls.flatten].flatten)].flatten))) rfl rfl rfl (by first | rfl | simp) AQ (B2 (BM _ _ _)) (by first | exact C5 | exact DA | exact C9 | (simp [cu8, cu32, cu64, Value.oneCell']; done)) (by simp [(A2 32)]) (BU (by simp [(A2 32), (BM _ _ _)])))) ?_
  rintro v1 L1 ⟨rfl, rfl⟩
  refine ⟨[], ?_⟩
  show DP _ _ _ _ _ _ _ _ [⟨nb1, cu8 (sumG constL initL ([xbN (blkL key) (92:UInt8) 64, sumG constL initL ([xbN (blkL key) (54:UInt8) 64, ls.flatten].flatten)].flatten)), 54, (0, 0)⟩, _, _, _, _, _, _, _]
  refine DG ⟨[1, 3, 4, 5], [0, 2], [0, 2], [], []⟩ rfl rfl (by decide +kernel) rfl trivial ?_
  refine CZ (F' := [(4, Ptr nb1 0)]) (by kernel_rfl) ?_
  refine AE (BG (BI (.agg (cu8 (sumG constL initL ([xbN (blkL key) (92:UInt8) 64, sumG constL initL ([xbN (blkL key) (54:UInt8) 64, ls.flatten].flatten)].flatten))).toArray) (res1 Tryd.results145 (EI rfl (BO BS AQ (B2 (BM _ _ _)) (MemAt.ent 0 rfl (AM _))))) fun w1 hw1 => ?_))
  refine ⟨_, [], rfl, ⟨?_, rfl⟩, hw1.sub (by simp) (by simp)⟩
  rw [macL]
  first | (simp; done) | (rw [he1]; simp; done)
end Go.Proofs.YtkdpdgpphpngeaaDoor
namespace Go.Proofs.YtkdpdgpphpngeaaDoor
open Go Go.Sx
set_option linter.unusedVariables false
set_option linter.unusedSimpArgs false
set_option maxRecDepth 100000
attribute [local irreducible] mid zr8 zr32 rotr wordL spreadL comprL cpN adN spN wrdN constL initL padL stN outN routN hashL sumG blkL xbN macL orN
theorem short_c (ao : Option Addr) (n cb : Nat) (key : List UInt8) (b c : Nat) (vs : List Value) (ls : List (List UInt8)) (w : World) (hb : key.length = n) (hcb : ao = none → cb = 0) (hn : n ≤ 17592186044416) (hr : RdB w [] ao key) (hk : 1 ≤ ls.length) (hc : ls.length ≤ c) (hk2 : ls.length ≤ 1000) (hp : Parts w b vs ls) (hs : ls.flatten.length ≤ 100000000) (hG : GLs w) : Calls Tryd.prog 90 #[.slice ao n cb, .slice (some ⟨b, 0, none⟩) ls.length c] w (Post w [] (fun v L => ∃ g sp cap, v = Slc g 0 16 cap ∧ L = [⟨g, cu8 (mid (macL key ls.flatten) 0 16) ++ sp, 5, (0, 0)⟩] ∧ sp.length = cap - 16 ∧ 16 ≤ cap ∧ cap ≤ maxLen)) := by
 refine enter w [] 11 [] [.slice ao n cb, .slice (some ⟨b, 0, none⟩) ls.length c] Tryd.func90 rfl rfl (by simp) (BL (by simp) (by simp) (by simp)) ?_
 show JC _ _ _ [(0, .slice ao n cb), (1, .slice (some ⟨b, 0, none⟩) ls.length c)] _
 refine AG (AC (AA _ (AF rfl) rfl ?_))
 refine AI (AE (AG (AC (AA _ (AD rfl) rfl ?_))))
 refine AA _ (AD rfl) rfl ?_
 refine AN (AT 145 [.slice ao n cb, .slice (some ⟨b, 0, none⟩) ls.length c] (.agg (cu8 (macL key ls.flatten)).toArray) (AW [.slice ao n cb, .slice (some ⟨b, 0, none⟩) ls.length c] Tryd.call145 rfl) (fun w1 hw1 => mac_c ao n cb key b c vs ls w1 hb hcb (by omega) (hr.at (M' := []) hw1 (by simp)) hk hc hk2 (hp.at hw1 rfl (by omega)) hs (hG.at hw1))) rfl ?_
 rintro v1 L1 ⟨rfl, rfl⟩
 show JL _ _ _ _ ((8, .agg (cu8 (macL key ls.flatten)).toArray) :: _) []
 refine AN (BR _ (cu8 (zr8 32)) BP (by kernel_rfl)) rfl ?_
 rintro v1 L1 ⟨nb1, hnb1, rfl, rfl⟩
 show JL _ _ _ _ ((5, Ptr nb1 0) :: _) [⟨nb1, cu8 (zr8 32), 54, (0, 0)⟩]
 refine AN (A8 0 nb1 0 32 (cu8 (zr8 32)) 54 (.agg (cu8 (macL key ls.flatten)).toArray) (cu8 (macL key ls.flatten)) (cu8 (macL key ls.flatten)) rfl rfl rfl (by first | rfl | simp) AQ (B2 (EC _ _)) (by first | exact C5 | exact DA | exact C9 | (simp [cu8, cu32, cu64, Value.oneCell']; done)) (by simp [(A2 32)]) (BU (by simp [(A2 32), (EC _ _)]))) rfl ?_
 rintro v1 L1 ⟨rfl, rfl⟩
 show JL _ _ _ _ _ [⟨nb1, cu8 (macL key ls.flatten), 54, (0, 0)⟩]
 refine AI (AE (AG (AC (AA (Slc nb1 0 16 32) (CT 32 5 1 0 16 0 32 CB AY rfl rfl rfl (by omega) (by omega) (by omega) (by omega) (by omega) 16 (by omega)) rfl ?_))))
 have hl1 : (mid (macL key ls.flatten) 0 16).length = 16 := DV (by rw [(EC _ _)]; omega)
 refine AN (B1 146 [Slc nb1 0 16 32] _ (AW [Slc nb1 0 16 32] Tryd.call146 rfl) (fun w1 hw1 => bclone_c (some ⟨nb1, 0, none⟩) 16 32 (mid (macL key ls.flatten) 0 16) w1 rfl hl1 (by omega) (RdB.of hw1 (MemAt.ent 0 rfl (E8 0 16 (by rw [(EC _ _)]; omega))) (by simp)))) rfl ?_
 rintro v1 L1 ⟨_, ⟨nb2, sp1, cp1, rfl, rfl, hc1, hc2, hc3⟩, rfl⟩
 show JL _ _ _ _ ((10, Slc nb2 0 16 cp1) :: _) [_, ⟨nb2, cu8 (mid (macL key ls.flatten) 0 16) ++ sp1, 5, (0, 0)⟩]
 refine AA _ (AF rfl) rfl ?_
 refine AI (AE (BG (BI (Slc nb2 0 16 cp1) (res1 Tryd.results90 (BK rfl)) fun w1 hw1 => ?_)))
 exact ⟨_, _, rfl, ⟨nb2, sp1, cp1, rfl, rfl, hc1, hc2, hc3⟩, hw1.sub (by simp) (by simp)⟩
end Go.Proofs.YtkdpdgpphpngeaaDoor
namespace Go.Proofs.YtkdpdgpphpngeaaDoor
open Go Go.Sx
set_option linter.unusedVariables false
set_option linter.unusedSimpArgs false
set_option maxRecDepth 100000
attribute [local irreducible] mid zr8 zr32 rotr wordL spreadL comprL cpN adN spN wrdN constL initL padL stN outN routN hashL sumG blkL xbN macL orN
theorem same_c (a1 a2 : Option Addr) (n1 n2 c1 c2 : Nat) (x y : List UInt8) (w : World) (hx : x.length = n1) (hy : y.length = n2) (h1 : RdB w [] a1 x) (h2 : RdB w [] a2 y) (hi1 : n1 ≤ 9223372036854775807) (hi2 : n2 ≤ 9223372036854775807) : Calls Tryd.prog 151 #[.slice a1 n1 c1, .slice a2 n2 c2] w (Post w [] (fun v L => v = .bool (decide (x = y)) ∧ L = [])) := by
 refine enter w [] 31 [] [.slice a1 n1 c1, .slice a2 n2 c2] Tryd.func151 rfl rfl (by simp) (BL (by simp) (by simp) (by simp)) ?_
 show JC _ _ _ [(0, .slice a1 n1 c1), (1, .slice a2 n2 c2)] _
 refine AG (AC (AA _ (AF rfl) rfl ?_))
 refine AI (AE (AG (AG (AC (AA _ (AD rfl) rfl ?_)))))
 refine AA (I64 ((n1:Int))) (DJ AP rfl) rfl ?_
 refine AA _ (AD rfl) rfl ?_
 refine AA (I64 ((n2:Int))) (DJ AP rfl) rfl ?_
 refine AA (.bool (decide (((n1:Int)) ≠ ((n2:Int))))) (AK rfl rfl fun _ => bin_neq_i _ _) rfl ?_
 refine AI (AE (CN (decide (((n1:Int)) ≠ ((n2:Int)))) rfl (fun hb1 => ?_) (fun hb1 => ?_)))
 ·
  have hp1 : ((n1:Int)) ≠ ((n2:Int)) := of_decide_eq_true hb1
  refine AG (AC (AA _ (AF rfl) rfl ?_))
  refine AI (AE (BG (A0 (BI (.bool false) (res1 Tryd.results151 (BK rfl)) fun w1 hw1 => ?_))))
  refine ⟨_, [], rfl, ⟨?_, rfl⟩, hw1.sub (by simp) (by simp)⟩
  have hne : x ≠ y := fun h => by subst h; omega
  rw [decide_eq_false hne]
 ·
  have hp1 : ¬ (((n1:Int)) ≠ ((n2:Int))) := of_decide_eq_false hb1
  refine BE (AE (AG (AC (AA _ (AF rfl) rfl ?_))))
  refine AI (AE (AG (AG (AC (AA _ (AD rfl) rfl ?_)))))
  refine AA (I64 ((n1:Int))) (DJ AP rfl) rfl ?_
  refine AA _ (AD rfl) rfl ?_
  refine AI (AE (BH (DN (ι := Nat × UInt8) (fun ⟨i, a⟩ => [(0, .slice a1 n1 c1), (1, .slice a2 n2 c2), (4, .bool false), (13, I64 ((n1:Int))), (14, I64 ((i:Int))), (5, U8 a)]) (fun ⟨i, a⟩ => []) (fun ⟨i, a⟩ => i ≤ n1 ∧ a = orN x y i) (fun ⟨i, a⟩ => n1 - i) (0, 0) ⟨by omega, by rw [orN]⟩ (AH rfl (AH rfl (AH rfl (AH rfl (AH rfl (AH rfl (Sub.nil))))))) rfl ?_)))
  rintro ⟨i, a⟩ ⟨hx1, hx2⟩
  show JC _ _ _ [(0, .slice a1 n1 c1), (1, .slice a2 n2 c2), (4, .bool false), (13, I64 ((n1:Int))), (14, I64 ((i:Int))), (5, U8 a)] []
  refine AG (AC (AA (.bool (decide (((i:Int)) < ((n1:Int))))) (AK rfl rfl fun _ => CP _ _) rfl ?_))
  refine AI (AE (AG (CN (decide (((i:Int)) < ((n1:Int)))) rfl (fun hb2 => ?_) (fun hb2 => ?_))))
  ·
   have hp2 : ((i:Int)) < ((n1:Int)) := of_decide_eq_true hb2
   refine BE (AE (AG (BH (AG (AC (AA _ (AD rfl) rfl ?_))))))
   refine AA _ (AF rfl) rfl ?_
   refine AI (AE ?_)
   obtain ⟨bz1, oz1, hz1, hm1⟩ := h1.pos (by rw [hx]; omega)
   obtain ⟨bz2, oz2, hz2, hm2⟩ := h2.pos (by rw [hy]; omega)
   refine C3 31 1 [(0, U8 a), (1, .slice a1 n1 c1), (2, I64 ((i:Int))), (3, Ptr bz1 (i + oz1)), (4, U8 (g8 x i)), (5, .slice a2 n2 c2), (6, I64 ((i:Int))), (7, Ptr bz2 (i + oz2)), (8, U8 (g8 y i)), (9, U8 ((g8 x i) ^^^ (g8 y i))), (10, U8 (a ||| ((g8 x i) ^^^ (g8 y i)))), (11, U8 (a ||| ((g8 x i) ^^^ (g8 y i))))] BQ rfl (by decide +kernel) ?_
   refine DG ⟨[], [0, 1, 2, 3, 4, 5, 6, 7, 8, 9, 10, 11], [], [0, 1, 2, 3, 4, 5, 6, 7, 8, 9, 10, 11], []⟩ rfl rfl (by decide +kernel) rfl ⟨⟨_, rfl, AB rfl (AD rfl)⟩, ⟨_, rfl, AB rfl (AD rfl)⟩, ⟨_, rfl, AB rfl (AD rfl)⟩, ⟨_, rfl, AB rfl (CF 5 1 (i + oz1) AP AY rfl hz1 rfl (by omega) (by omega) (by omega))⟩, ⟨_, rfl, AB rfl (AL rfl (AZ Tryd.isAgg5 (CA (MemAt.base hm1.1 hm1.2.1 hm1.2.2) (Seg.get (g8_get (i := i) (by rw [hx]; omega))) (by omega))))⟩, ⟨_, rfl, AB rfl (AD rfl)⟩, ⟨_, rfl, AB rfl (AD rfl)⟩, ⟨_, rfl, AB rfl (CF 5 1 (i + oz2) AP AY rfl hz2 rfl (by omega) (by omega) (by omega))⟩, ⟨_, rfl, AB rfl (AL rfl (AZ Tryd.isAgg5 (CA (MemAt.base hm2.1 hm2.2.1 hm2.2.2) (Seg.get (g8_get (i := i) (by rw [hy]; omega))) (by omega))))⟩, ⟨_, rfl, AB rfl (AK rfl rfl fun _ => bin_xor_u8 (g8 x i) (g8 y i))⟩, ⟨_, rfl, AB rfl (AK rfl rfl fun _ => bin_or_u8 a ((g8 x i) ^^^ (g8 y i)))⟩, ⟨_, rfl, AB rfl (AF rfl)⟩, trivial⟩ ?_
   refine CZ (F' := [(17, U8 a), (18, .slice a1 n1 c1), (19, I64 ((i:Int))), (20, Ptr bz1 (i + oz1)), (21, U8 (g8 x i)), (22, .slice a2 n2 c2), (23, I64 ((i:Int))), (24, Ptr bz2 (i + oz2)), (25, U8 (g8 y i)), (26, U8 ((g8 x i) ^^^ (g8 y i))), (27, U8 (a ||| ((g8 x i) ^^^ (g8 y i)))), (5, U8 (a ||| ((g8 x i) ^^^ (g8 y i)))), (0, .slice a1 n1 c1), (1, .slice a2 n2 c2), (4, .bool false), (13, I64 ((n1:Int))), (14, I64 ((i:Int))), (15, .bool (decide (((i:Int)) < ((n1:Int))))), (16, I64 ((i:Int))), (6, I64 ((i:Int)))]) (by kernel_rfl) ?_
   refine BA (AE (AC (AA (I64 ((i:Int) + 1)) (AK rfl rfl fun _ => CH _ _ ((i:Int) + 1) (by omega) (by omega)) rfl ?_)))
   refine AA _ (AD rfl) rfl ?_
   refine AI (CR (DT (i + 1, a ||| ((g8 x i) ^^^ (g8 y i))) ⟨by omega, by rw [orN, ← hx2]⟩ (by first | (simp; omega) | simp | (dsimp only; omega) | omega) (AH rfl (AH rfl (AH rfl (AH rfl (AH rfl (AH rfl (Sub.nil))))))) rfl))
  ·
   have hp2 : ¬ (((i:Int)) < ((n1:Int))) := of_decide_eq_false hb2
   refine DL (AX (AX (CC (AE (AG (AC (AA _ (AD rfl) rfl ?_)))))))
   refine AA (.bool (decide (a = (0:UInt8)))) (AK rfl rfl fun _ => bin_eql_u8 a (0:UInt8)) rfl ?_
   refine AA _ (AF rfl) rfl ?_
   refine AI (AE (BG (BI (.bool (decide (a = (0:UInt8)))) (res1 Tryd.results151 (BK rfl)) fun w1 hw1 => ?_)))
   refine ⟨_, [], rfl, ⟨?_, rfl⟩, hw1.sub (by simp) (by simp)⟩
   have e1 : i = n1 := by omega
   rw [hx2, e1, orN_same hx (by omega)]
end Go.Proofs.YtkdpdgpphpngeaaDoor
namespace Go.Proofs.YtkdpdgpphpngeaaDoor
open Go Go.Sx
set_option linter.unusedVariables false
set_option linter.unusedSimpArgs false
set_option maxRecDepth 100000
attribute [local irreducible] mid zr8 zr32 rotr wordL spreadL comprL cpN adN spN wrdN constL initL padL stN outN routN hashL sumG blkL xbN macL orN
theorem check_c (am : Option Addr) (m cm : Nat) (mm : List UInt8) (ao : Option Addr) (n cb : Nat) (key : List UInt8) (b c : Nat) (vs : List Value) (ls : List (List UInt8)) (w : World) (hm : mm.length = m) (hmi : m ≤ 9223372036854775807) (hrm : RdB w [] am mm) (hb : key.length = n) (hcb : ao = none → cb = 0) (hn : n ≤ 17592186044416) (hr : RdB w [] ao key) (hk : 1 ≤ ls.length) (hc : ls.length ≤ c) (hk2 : ls.length ≤ 1000) (hp : Parts w b vs ls) (hs : ls.flatten.length ≤ 100000000) (hG : GLs w) : Calls Tryd.prog 107 #[.slice am m cm, .slice ao n cb, .slice (some ⟨b, 0, none⟩) ls.length c] w (Post w [] (fun v L => v = .bool (decide (mm = macL key ls.flatten) || decide (mm = mid (macL key ls.flatten) 0 16)) ∧ L = [])) := by
  refine enter w [] 23 [] [.slice am m cm, .slice ao n cb, .slice (some ⟨b, 0, none⟩) ls.length c] Tryd.func107 rfl rfl (by simp) (BL (by simp) (by simp) (by simp)) ?_
  show JC _ _ _ [(0, .slice am m cm), (1, .slice ao n cb), (2, .slice (some ⟨b, 0, none⟩) ls.length c)] _
  refine AG (AC (AA _ (AF rfl) rfl ?_))
  refine AI (AE (AG (AC (AA _ (AD rfl) rfl ?_))))
  refine AA _ (AD rfl) rfl ?_
  refine AN (AT 145 [.slice ao n cb, .slice (some ⟨b, 0, none⟩) ls.length c] (.agg (cu8 (macL key ls.flatten)).toArray) (AW [.slice ao n cb, .slice (some ⟨b, 0, none⟩) ls.length c] Tryd.call145 rfl) (fun w1 hw1 => mac_c ao n cb key b c vs ls w1 hb hcb (by omega) (hr.at (M' := []) hw1 (by simp)) hk hc hk2 (hp.at hw1 rfl (by omega)) hs (hG.at hw1))) rfl ?_
  rintro v1 L1 ⟨rfl, rfl⟩
  show JL _ _ _ _ ((10, .agg (cu8 (macL key ls.flatten)).toArray) :: _) []
  refine AN (BR _ (cu8 (zr8 32)) BP (by kernel_rfl)) rfl ?_
  rintro v1 L1 ⟨nb1, hnb1, rfl, rfl⟩
  show JL _ _ _ _ ((7, Ptr nb1 0) :: _) [⟨nb1, cu8 (zr8 32), 54, (0, 0)⟩]
  refine AN (A8 0 nb1 0 32 (cu8 (zr8 32)) 54 (.agg (cu8 (macL key ls.flatten)).toArray) (cu8 (macL key ls.flatten)) (cu8 (macL key ls.flatten)) rfl rfl rfl (by first | rfl | simp) AQ (B2 (EC _ _)) (by first | exact C5 | exact DA | exact C9 | (simp [cu8, cu32, cu64, Value.oneCell']; done)) (by simp [(A2 32)]) (BU (by simp [(A2 32), (EC _ _)]))) rfl ?_
  rintro v1 L1 ⟨rfl, rfl⟩
  show JL _ _ _ _ _ [⟨nb1, cu8 (macL key ls.flatten), 54, (0, 0)⟩]
  refine AI (AE (AG (AG (AC (AA _ (AD rfl) rfl ?_)))))
  refine AA (I64 ((m:Int))) (DJ AP rfl) rfl ?_
  refine AI (AE (BH (AG (AC (AA (.bool (decide (((m:Int)) = (16:Int)))) (AK rfl rfl fun _ => CU _ _) rfl ?_)))))
  refine AA _ (AF rfl) rfl ?_
  refine AI (AE (CN (decide (((m:Int)) = (16:Int))) rfl (fun hb1 => ?_) (fun hb1 => ?_)))
  ·
    have hp1 : ((m:Int)) = (16:Int) := of_decide_eq_true hb1
    refine AG (AC (AA _ (AD rfl) rfl ?_))
    refine AA (Slc nb1 0 16 32) (CT 32 5 1 0 16 0 32 CB AY rfl rfl rfl (by omega) (by omega) (by omega) (by omega) (by omega) 16 (by omega)) rfl ?_
    have hl1 : (mid (macL key ls.flatten) 0 16).length = 16 := DV (by rw [(EC _ _)]; omega)
    refine AN (AT 151 [.slice am m cm, Slc nb1 0 16 32] (.bool (decide (mm = (mid (macL key ls.flatten) 0 16)))) (AW [.slice am m cm, Slc nb1 0 16 32] Tryd.call151 rfl) (fun w1 hw1 => same_c am (some ⟨nb1, 0, none⟩) m 16 cm 32 mm (mid (macL key ls.flatten) 0 16) w1 hm hl1 (hrm.at (M' := []) hw1 (by simp)) (RdB.of hw1 (MemAt.ent 0 rfl (E8 0 16 (by rw [(EC _ _)]; omega))) (by simp)) (by omega) (by omega))) rfl ?_
    rintro v1 L1 ⟨rfl, rfl⟩
    show JL _ _ _ _ ((17, .bool (decide (mm = (mid (macL key ls.flatten) 0 16)))) :: _) [_]
    refine AA _ (AF rfl) rfl ?_
    refine AI (AE (BG (C0 (A0 (BI (.bool (decide (mm = (mid (macL key ls.flatten) 0 16)))) (res1 Tryd.results107 (BK rfl)) fun w1 hw1 => ?_)))))
    refine ⟨_, [], rfl, ⟨?_, rfl⟩, hw1.sub (by simp) (by simp)⟩
    have hl1 : (macL key ls.flatten).length = 32 := EC _ _
    have hl2 : (mid (macL key ls.flatten) 0 16).length = 16 := DV (by rw [hl1]; omega)
    first
    | (have hne : ¬ mm = macL key ls.flatten := fun h => by rw [← h] at hl1; omega
       rw [decide_eq_false hne, Bool.false_or]; done)
    | (have hne : ¬ mm = mid (macL key ls.flatten) 0 16 := fun h => by rw [← h] at hl2; omega
       rw [decide_eq_false hne, Bool.or_false]; done)
    | (have hne : ¬ mm = macL key ls.flatten := fun h => by rw [← h] at hl1; omega
       have hne2 : ¬ mm = mid (macL key ls.flatten) 0 16 := fun h => by rw [← h] at hl2; omega
       rw [decide_eq_false hne, decide_eq_false hne2]; rfl)
  ·
    have hp1 : ¬ (((m:Int)) = (16:Int)) := of_decide_eq_false hb1
    refine AG (AC (AA (.bool (decide (((m:Int)) = (32:Int)))) (AK rfl rfl fun _ => CU _ _) rfl ?_))
    refine AA _ (AF rfl) rfl ?_
    refine AI (AE (CN (decide (((m:Int)) = (32:Int))) rfl (fun hb2 => ?_) (fun hb2 => ?_)))
    ·
      have hp2 : ((m:Int)) = (32:Int) := of_decide_eq_true hb2
      refine AG (AC (AA _ (AD rfl) rfl ?_))
      refine AA (Slc nb1 0 32 32) (CT 32 5 1 0 32 0 32 CB AY rfl rfl rfl (by omega) (by omega) (by omega) (by omega) (by omega) 32 (by omega)) rfl ?_
      refine AN (AT 151 [.slice am m cm, Slc nb1 0 32 32] (.bool (decide (mm = (macL key ls.flatten)))) (AW [.slice am m cm, Slc nb1 0 32 32] Tryd.call151 rfl) (fun w1 hw1 => same_c am (some ⟨nb1, 0, none⟩) m 32 cm 32 mm (macL key ls.flatten) w1 hm (EC _ _) (hrm.at (M' := []) hw1 (by simp)) (RdB.of hw1 (MemAt.ent 0 rfl (AM _)) (by simp)) (by omega) (by omega))) rfl ?_
      rintro v1 L1 ⟨rfl, rfl⟩
      show JL _ _ _ _ ((22, .bool (decide (mm = (macL key ls.flatten)))) :: _) [_]
      refine AA _ (AF rfl) rfl ?_
      refine AI (AE (BG (C0 (A0 (BI (.bool (decide (mm = (macL key ls.flatten)))) (res1 Tryd.results107 (BK rfl)) fun w1 hw1 => ?_)))))
      refine ⟨_, [], rfl, ⟨?_, rfl⟩, hw1.sub (by simp) (by simp)⟩
      have hl1 : (macL key ls.flatten).length = 32 := EC _ _
      have hl2 : (mid (macL key ls.flatten) 0 16).length = 16 := DV (by rw [hl1]; omega)
      first
      | (have hne : ¬ mm = macL key ls.flatten := fun h => by rw [← h] at hl1; omega
         rw [decide_eq_false hne, Bool.false_or]; done)
      | (have hne : ¬ mm = mid (macL key ls.flatten) 0 16 := fun h => by rw [← h] at hl2; omega
         rw [decide_eq_false hne, Bool.or_false]; done)
      | (have hne : ¬ mm = macL key ls.flatten := fun h => by rw [← h] at hl1; omega
         have hne2 : ¬ mm = mid (macL key ls.flatten) 0 16 := fun h => by rw [← h] at hl2; omega
         rw [decide_eq_false hne, decide_eq_false hne2]; rfl)
    ·
      have hp2 : ¬ (((m:Int)) = (32:Int)) := of_decide_eq_false hb2
      refine BE (BA (AE (AG (AC (AA _ (AF rfl) rfl ?_)))))
      refine AI (AE (BG (BI (.bool false) (res1 Tryd.results107 (BK rfl)) fun w1 hw1 => ?_)))
      refine ⟨_, [], rfl, ⟨?_, rfl⟩, hw1.sub (by simp) (by simp)⟩
      have hl1 : (macL key ls.flatten).length = 32 := EC _ _
      have hl2 : (mid (macL key ls.flatten) 0 16).length = 16 := DV (by rw [hl1]; omega)
      first
      | (have hne : ¬ mm = macL key ls.flatten := fun h => by rw [← h] at hl1; omega
         rw [decide_eq_false hne, Bool.false_or]; done)
      | (have hne : ¬ mm = mid (macL key ls.flatten) 0 16 := fun h => by rw [← h] at hl2; omega
         rw [decide_eq_false hne, Bool.or_false]; done)
      | (have hne : ¬ mm = macL key ls.flatten := fun h => by rw [← h] at hl1; omega
         have hne2 : ¬ mm = mid (macL key ls.flatten) 0 16 := fun h => by rw [← h] at hl2; omega
         rw [decide_eq_false hne, decide_eq_false hne2]; rfl)

end Go.Proofs.YtkdpdgpphpngeaaDoor
namespace Go.Proofs.YtkdpdgpphpngeaaDoor
open Go Go.Sx
set_option linter.unusedVariables false
set_option linter.unusedSimpArgs false
set_option maxRecDepth 100000
attribute [local irreducible] mid zr8 zr32 numK rnK rotr wordL spreadL comprL cpN adN spN wrdN constL initL padL stN outN routN sumG putL leafT joinT empL empA empR RightB tktT mayN idxT selT macL
theorem cloneSN_c  (w : World) : Calls Tryd.prog 113 #[.slice none 0 0] w (Post w [] (fun v L => v = .slice none 0 0 ∧ L = [])) := by
 refine enter w [] 8 [] [.slice none 0 0] Tryd.func113 rfl rfl (by simp) (BL (by simp) (by simp) (by simp)) ?_
 show JC _ _ _ [(0, .slice none 0 0)] _
 refine AG (AC (AA _ (AF rfl) rfl ?_))
 refine AI (AE (AG (AG (AC (AA _ (AD rfl) rfl ?_)))))
 refine AA (.bool true) (D8 _ _ _ rfl rfl (fun _ => eqGuard_sl ..) fun _ => eql_sl_nil_nil B4) rfl ?_
 refine AI (AE (DM _ rfl rfl ?_))
 refine AG (AC (AA _ (AF rfl) rfl ?_))
 refine AI (AE (BG (A0 (BI (.slice none 0 0) (res1 Tryd.results113 (BK rfl)) fun w1 hw1 => ?_))))
 exact ⟨_, [], rfl, ⟨rfl, rfl⟩, hw1.sub (by simp) (by simp)⟩
theorem cloneS_c (sa : Option Addr) (ns sc : Nat) (ls : List SealR)  (w : World) (hls : ls.length = ns) (hnn : ns ≤ 2000000) (hnd : ns ≤ sc) (hcn : sc ≤ maxLen) (hs : RdV w sa (ls.flatMap sealC)) (ha : sa.isNone = false)  : Calls Tryd.prog 113 #[.slice sa ns sc] w (Post w [] (fun v L => ∃ g sp cap, v = Slc g 0 ns cap ∧ L = [⟨g, ls.flatMap sealC ++ sp, 161, (0, 0)⟩] ∧ sp.length = cap * 49 - ns * 49 ∧ ns ≤ cap ∧ cap ≤ maxLen)) := by
 have hmx : maxLen = 9223372036854775807 := rfl
 refine enter w [] 8 [] [.slice sa ns sc] Tryd.func113 rfl rfl (by simp) (BL (by simp) (by simp) (by simp)) ?_
 show JC _ _ _ [(0, .slice sa ns sc)] _
 refine AG (AC (AA _ (AF rfl) rfl ?_))
 refine AI (AE (AG (AG (AC (AA _ (AD rfl) rfl ?_)))))
 refine AA (.bool sa.isNone) (D8 _ _ _ rfl rfl (fun _ => eqGuard_sl ..) fun _ => eql_sl_any B4) rfl ?_
 refine AI (AE (B9 _ rfl ha ?_))
 refine BE (AE (AG (AC (AN (E3 161 49 B4 CE) rfl ?_))))
 rintro v1 L1 ⟨nb1, hnb1, rfl, rfl⟩
 show JL _ _ _ _ ((5, Slc nb1 0 0 0) :: _) [⟨nb1, [], 161, (0, 0)⟩]
 refine AA _ (AD rfl) rfl ?_
 refine AN (Step_cloneS 24 161 56 (.agg (List.toArray (α := Value) ([U64 (0:UInt64)] ++ cu8 (zr8 32) ++ cu8 (zr8 16)))) [true] nb1 ls sa ns sc B4 (by kernel_rfl) (by kernel_rfl) rfl rfl rfl hls (RdV.src hs rfl) (by omega) (by unfold maxLen; omega)) rfl ?_
 rintro v1 L1 ⟨nb2, sp1, cp1, hg1, rfl, rfl, ha1, ha2, ha3⟩
 show JL _ _ _ _ ((7, Slc nb2 0 ns cp1) :: _) [⟨nb2, ls.flatMap sealC ++ sp1, 161, (0, 0)⟩]
 refine AA _ (AF rfl) rfl ?_
 refine AI (AE (BG (BI (Slc nb2 0 ns cp1) (res1 Tryd.results113 (BK rfl)) fun w1 hw1 => ?_)))
 exact ⟨_, _, rfl, ⟨nb2, sp1, cp1, rfl, rfl, ha1, ha2, ha3⟩, hw1.sub (by simp) (by simp)⟩
theorem clone64Z_w (ai : Option Addr) (ci : Nat) (w : World) (hc : ci ≤ maxLen) (hn : ai = none → ci = 0) : Calls Tryd.prog 112 #[.slice ai 0 ci] w (Post w [] (fun v L => ∃ ao c, v = .slice ao 0 c ∧ L = [] ∧ c ≤ maxLen ∧ (ao = none → c = 0))) := by
  by_cases ha : ai = none
  · subst ha
    rw [hn rfl]
    refine (clone64N_c w).mono ?_
    rintro E W ⟨v, L, rfl, ⟨rfl, rfl⟩, hw⟩
    exact ⟨_, _, rfl, ⟨none, 0, rfl, rfl, Nat.zero_le _, fun _ => rfl⟩, hw⟩
  · have ha' : ai.isNone = false := by cases ai with
      | none => exact absurd rfl ha
      | some x => rfl
    refine (clone64_c ai 0 ci ([] : List UInt64) w rfl (by omega) (by omega) hc RdV.nil ha').mono ?_
    rintro E W ⟨v, L, rfl, ⟨g, sp, cap, rfl, rfl, h1, h2, h3⟩, hw⟩
    exact ⟨_, [], rfl, ⟨_, _, rfl, rfl, h3, fun h => by cases h⟩, hw.sub (by simp) (by simp)⟩
theorem cloneSZ_w (sa : Option Addr) (sc : Nat) (w : World) (hc : sc ≤ maxLen) (hn : sa = none → sc = 0) : Calls Tryd.prog 113 #[.slice sa 0 sc] w (Post w [] (fun v L => ∃ ao c, v = .slice ao 0 c ∧ L = [] ∧ c ≤ maxLen ∧ (ao = none → c = 0))) := by
  by_cases ha : sa = none
  · subst ha
    rw [hn rfl]
    refine (cloneSN_c w).mono ?_
    rintro E W ⟨v, L, rfl, ⟨rfl, rfl⟩, hw⟩
    exact ⟨_, _, rfl, ⟨none, 0, rfl, rfl, Nat.zero_le _, fun _ => rfl⟩, hw⟩
  · have ha' : sa.isNone = false := by cases sa with
      | none => exact absurd rfl ha
      | some x => rfl
    refine (cloneS_c sa 0 sc ([] : List SealR) w rfl (by omega) (by omega) hc RdV.nil ha').mono ?_
    rintro E W ⟨v, L, rfl, ⟨g, sp, cap, rfl, rfl, h1, h2, h3⟩, hw⟩
    exact ⟨_, [], rfl, ⟨_, _, rfl, rfl, h3, fun h => by cases h⟩, hw.sub (by simp) (by simp)⟩
end Go.Proofs.YtkdpdgpphpngeaaDoor
namespace Go.Proofs.YtkdpdgpphpngeaaDoor
open Go Go.Sx
set_option linter.unusedVariables false
set_option linter.unusedSimpArgs false
set_option maxRecDepth 100000
attribute [local irreducible] mid zr8 zr32 numK rnK rotr wordL spreadL comprL cpN adN spN wrdN constL initL padL stN outN routN sumG putL leafT joinT empL empA empR RightB tktT mayN idxT selT macL tkG mulH repL lvT lvH RightO
theorem leaves1_c (pv ep : UInt64) (k : Nat) (ai : Option Addr) (ni ci : Nat) (l : List UInt64) (sa : Option Addr) (ns sc : Nat) (ls : List SealR) (bl : UInt64)  (w : World) (hl : l.length = ni) (hnm : ni ≤ 2000000) (hnc : ni ≤ ci) (hcm : ci ≤ maxLen) (hv : RdV w ai (cu64 l)) (hls : ls.length = ns) (hnn : ns ≤ 2000000) (hnd : ns ≤ sc) (hcn : sc ≤ maxLen) (hs : RdV w sa (ls.flatMap sealC)) (hR : RightO (k:Int) l ls bl = true) (hk : k = 1) (hRI : RightI l) (hn1 : 1 ≤ ni) (hn3 : ni ≤ 300) (hnn2 : ns = ni) (hG : GLs w)  : Calls Tryd.prog 68 #[.agg (List.toArray (α := Value) ([I64 ((k:Int)), .slice ai ni ci, .slice sa ns sc, U64 bl]))] w (Post w [] (fun v L => ∃ g, v = .tuple #[Slc g 0 ni ni, .nilIface] ∧ L = [⟨g, cu8 (lvT l ls ni), 54, (0, 0)⟩])) := by
 have hmx : maxLen = 9223372036854775807 := rfl
 refine enter (P := Tryd.prog) (f := 68) (fn := Tryd.f68) w [] 60 [] [.agg (List.toArray (α := Value) ([I64 ((k:Int)), .slice ai ni ci, .slice sa ns sc, U64 bl]))] Tryd.func68 rfl rfl (by simp) (BL (by simp) (by simp) (by simp)) ?_
 show JC _ _ _ [(0, .agg (List.toArray (α := Value) ([I64 ((k:Int)), .slice ai ni ci, .slice sa ns sc, U64 bl])))] _
 refine AG (AC (AN (CM (.agg (List.toArray (α := Value) ([I64 ((k:Int)), .slice ai ni ci, .slice sa ns sc, U64 bl]))) ([I64 ((k:Int)), .slice ai ni ci, .slice sa ns sc, U64 bl]) rfl (by first | rfl | simp)) rfl ?_))
 rintro v1 L1 ⟨nb1, hnb1, rfl, rfl⟩
 show JL _ _ _ _ ((1, Ptr nb1 0) :: _) [⟨nb1, [I64 ((k:Int)), .slice ai ni ci, .slice sa ns sc, U64 bl], 26, (0, 0)⟩]
 refine AA _ (AF rfl) rfl ?_
 refine AA _ (AF rfl) rfl ?_
 refine AI (AE (AG (AG (AC (AA (.agg (List.toArray (α := Value) ([I64 ((k:Int)), .slice ai ni ci, .slice sa ns sc, U64 bl]))) (AL rfl (BO CV B0 rfl (MemAt.ent 0 rfl (AM _)))) rfl ?_)))))
 refine AN (AT 69 [.agg (List.toArray (α := Value) ([I64 ((k:Int)), .slice ai ni ci, .slice sa ns sc, U64 bl]))] (.bool (RightO ((k:Int)) l ls bl)) (AW [.agg (List.toArray (α := Value) ([I64 ((k:Int)), .slice ai ni ci, .slice sa ns sc, U64 bl]))] Tryd.call69 rfl) (fun w1 hw1 => FJ ((k:Int)) ai ni ci l sa ns sc ls bl w1 hl (by omega) (by omega) (by omega) (DD hw1 rfl hv) hls (by omega) (by omega) (by omega) (DD hw1 rfl hs))) rfl ?_
 rintro v1 L1 ⟨rfl, rfl⟩
 show JL _ _ _ _ ((12, .bool (RightO ((k:Int)) l ls bl)) :: _) [_]
 refine AA (.bool (!(RightO ((k:Int)) l ls bl))) (ER rfl) rfl ?_
 refine AA _ (AD rfl) rfl ?_
 refine AU 3 14 false _ (Ptr nb1 0) rfl rfl (by rw [show (RightO ((k:Int)) l ls bl) = true from hR] <;> rfl) (AJ 0 3 1 AO rfl B3 rfl rfl) rfl ?_
 refine AU 3 14 false _ (I64 ((k:Int))) rfl rfl (by rw [show (RightO ((k:Int)) l ls bl) = true from hR] <;> rfl) (AL rfl (AZ B7 (MemAt.ent 0 rfl (Seg.head)))) rfl ?_
 refine AU 3 14 false _ (.bool (decide (((k:Int)) = (3:Int)))) rfl rfl (by rw [show (RightO ((k:Int)) l ls bl) = true from hR] <;> rfl) (AK rfl rfl fun _ => CU _ _) rfl ?_
 refine AA _ (BX _ rfl (by rw [show (RightO ((k:Int)) l ls bl) = true from hR] <;> rfl) rfl) rfl ?_
 refine AI (AE (B9 _ rfl (decide_eq_false (by omega)) ?_))
 refine BE (AE (AG (AC (AN (AT 129 [I64 (0:Int)] (.tuple #[.agg (cu8 (empL 0)).toArray, .nilIface]) (AW [I64 (0:Int)] Tryd.call129 rfl) (fun w1 hw1 => empty_c 0 w1 (by omega) (hG.at hw1))) rfl ?_))))
 rintro v1 L1 ⟨rfl, rfl⟩
 show JL _ _ _ _ ((21, .tuple #[.agg (cu8 (empL 0)).toArray, .nilIface]) :: _) [_]
 refine AA _ (AD rfl) rfl ?_
 refine AA _ (BJ rfl rfl) rfl ?_
 refine AA _ (BJ rfl rfl) rfl ?_
 refine AN (BR _ (cu8 (zr8 32)) BP (by kernel_rfl)) rfl ?_
 rintro v1 L1 ⟨nb2, hnb2, rfl, rfl⟩
 show JL _ _ _ _ ((4, Ptr nb2 0) :: _) [_, ⟨nb2, cu8 (zr8 32), 54, (0, 0)⟩]
 refine AN (A8 1 nb2 0 32 (cu8 (zr8 32)) 54 (.agg (cu8 (empL 0)).toArray) (cu8 (empL 0)) (cu8 (empL 0)) rfl rfl rfl (by first | rfl | simp) AQ (B2 (EA _)) (by first | exact C5 | exact DA | exact C9 | (simp [cu8, cu32, cu64, Value.oneCell']; done)) (by simp [(A2 32)]) (BU (by simp [(A2 32), (EA _)]))) rfl ?_
 rintro v1 L1 ⟨rfl, rfl⟩
 show JL _ _ _ _ _ [_, ⟨nb2, cu8 (empL 0), 54, (0, 0)⟩]
 refine AA _ (AF rfl) rfl ?_
 refine AI (AE (AG (AG (AC (AA _ (AD rfl) rfl ?_)))))
 refine AA (.bool false) (D8 _ _ _ rfl rfl (fun _ => D6 ..) fun _ => DS B8) rfl ?_
 refine AI (AE (B9 _ rfl rfl ?_))
 refine BE (AE (AG (AC (AA (.agg (cu8 (empL 0)).toArray) (AL rfl (BO BS AQ (B2 (EA _)) (MemAt.ent 1 rfl (AM _)))) rfl ?_))))
 refine AN (BF 54 32 _ [(0, .agg (cu8 (empL 0)).toArray)] (cu8 (empL 0)) A7 AQ BP rfl rfl rfl (EZ (EA _) (by kernel_rfl))) rfl ?_
 rintro v1 L1 ⟨nb3, hnb3, rfl, rfl⟩
 show JL _ _ _ _ ((28, Slc nb3 0 1 1) :: _) [_, _, ⟨nb3, cu8 (empL 0), 54, (0, 0)⟩]
 refine AA (Ptr nb1 1) (AJ 1 23 1 AO rfl CL rfl rfl) rfl ?_
 refine AA (.slice ai ni ci) (AL rfl (AZ CW (MemAt.ent 0 rfl (AR (Seg.head))))) rfl ?_
 refine AA (I64 ((ni:Int))) (DJ A9 rfl) rfl ?_
 refine AN (B1 130 [Slc nb3 0 1 1, I64 ((ni:Int))] _ (AW [Slc nb3 0 1 1, I64 ((ni:Int))] Tryd.call130 rfl) (fun w1 hw1 => repeat_c nb3 ni 1 (empL 0) w1 (EA _) (RdB.of hw1 (MemAt.ent 2 rfl (AM _)) (by simp)) (by omega) (by omega))) rfl ?_
 rintro v1 L1 ⟨_, ⟨nb4, rfl, rfl⟩, rfl⟩
 show JL _ _ _ _ ((32, Slc nb4 0 ni ni) :: _) [_, _, _, ⟨nb4, cu8 (repL (empL 0) ni), 54, (0, 0)⟩]
 refine AA _ (AF rfl) rfl ?_
 refine AI (AE (AG (AG (AC (AA (Ptr nb1 2) (AJ 2 24 1 AO rfl DC rfl rfl) rfl ?_)))))
 refine AA (.slice sa ns sc) (AL rfl (AZ DQ (MemAt.ent 0 rfl (AR (AR (Seg.head)))))) rfl ?_
 refine AA (I64 ((ns:Int))) (DJ B4 rfl) rfl ?_
 refine AA _ (AD rfl) rfl ?_
 refine AI (AE (BH (B5 [true, false, false, true] ?_)))
 show JC _ _ _ _ [_, _]
 refine DN (ι := Nat × List UInt8) (fun ⟨i, o⟩ => [(1, Ptr nb1 0), (6, Slc nb4 0 ni ni), (34, .slice sa ns sc), (35, I64 ((ns:Int))), (36, I64 ((i:Int)))]) (fun ⟨i, o⟩ => [⟨nb1, [I64 ((k:Int)), .slice ai ni ci, .slice sa ns sc, U64 bl], 26, (0, 0)⟩, ⟨nb4, cu8 o, 54, (0, 0)⟩]) (fun ⟨i, o⟩ => i ≤ ns ∧ LvI o l ls ni i ∧ o.length = 32*ni) (fun ⟨i, o⟩ => ns - i) (0, repL (empL 0) ni) ⟨by omega, LvI.zero l ls ni, ((repL_len (EA _) ni).trans (by omega))⟩ (AH rfl (AH rfl (AH rfl (AH rfl (AH rfl (Sub.nil)))))) rfl ?_
 rintro ⟨i, o⟩ ⟨hi1, hI, ho⟩
 show JC _ _ _ [(1, Ptr nb1 0), (6, Slc nb4 0 ni ni), (34, .slice sa ns sc), (35, I64 ((ns:Int))), (36, I64 ((i:Int)))] [⟨nb1, [I64 ((k:Int)), .slice ai ni ci, .slice sa ns sc, U64 bl], 26, (0, 0)⟩, ⟨nb4, cu8 o, 54, (0, 0)⟩]
 refine AG (AC (AA (.bool (decide (((i:Int)) < ((ns:Int))))) (AK rfl rfl fun _ => CP _ _) rfl ?_))
 refine AI (AE (AG (CN (decide (((i:Int)) < ((ns:Int)))) rfl (fun hb1 => ?_) (fun hb1 => ?_))))
 ·
  have hp1 : ((i:Int)) < ((ns:Int)) := of_decide_eq_true hb1
  refine BE (AE (AG (BH (AG (AC (AA _ (AD rfl) rfl ?_))))))
  obtain ⟨x1, hx1⟩ : ∃ x, ls[i]? = some x := ⟨_, List.getElem?_eq_getElem (by rw [hls]; omega)⟩
  obtain ⟨bz1, oz1, hz1, hm1⟩ := rows_at EK (by decide) hs hx1
  refine AA (Ptr bz1 (49*i + oz1)) (CF 161 49 (49*i + oz1) B4 CE rfl hz1 rfl (by omega) (by omega) (by omega)) rfl ?_
  refine AA (.agg (List.toArray (α := Value) ([U64 x1.e] ++ cu8 x1.d ++ cu8 x1.t))) (AL rfl (BO D3 CE (by simp [x1.hd, x1.ht]) (CA (hm1.mem (by simp)) (AM _) (by omega)))) rfl ?_
  refine AN (BR _ ([U64 (0:UInt64)] ++ cu8 (zr8 32) ++ cu8 (zr8 16)) Tryd.zeroValue161 (by kernel_rfl)) rfl ?_
  rintro v1 L1 ⟨nb5, hnb5, rfl, rfl⟩
  show JL _ _ _ _ ((8, Ptr nb5 0) :: _) [_, _, ⟨nb5, [U64 (0:UInt64)] ++ cu8 (zr8 32) ++ cu8 (zr8 16), 161, (0, 0)⟩]
  refine AA _ (AF rfl) rfl ?_
  refine AN (A8 2 nb5 0 49 ([U64 (0:UInt64)] ++ cu8 (zr8 32) ++ cu8 (zr8 16)) 161 (.agg (List.toArray (α := Value) ([U64 x1.e] ++ cu8 x1.d ++ cu8 x1.t))) ([U64 x1.e] ++ cu8 x1.d ++ cu8 x1.t) ([U64 x1.e] ++ cu8 x1.d ++ cu8 x1.t) rfl rfl rfl (by first | rfl | simp) CE (by simp [x1.hd, x1.ht]) (FA (FA (by simp [Value.oneCell']) C5) C5) (by simp [(A2 32), (A2 16)]) (BU (by simp [(A2 32), (A2 16), x1.hd, x1.ht]))) rfl ?_
  rintro v1 L1 ⟨rfl, rfl⟩
  show JL _ _ _ _ _ [_, _, ⟨nb5, [U64 x1.e] ++ cu8 x1.d ++ cu8 x1.t, 161, (0, 0)⟩]
  refine AI (AE (AG ?_))
  obtain ⟨bz2, oz2, hz2, hm2⟩ := RdV.pos hv (by rw [EN, hl]; omega)
  refine C3 60 4 [(0, Ptr nb1 1), (1, .slice ai ni ci), (2, I64 ((i:Int))), (3, Ptr bz2 (i + oz2)), (4, U64 (g64 l i)), (5, .agg (List.toArray (α := Value) ([U64 x1.e] ++ cu8 x1.d ++ cu8 x1.t)))] BQ rfl (by decide +kernel) ?_
  refine DP_two ⟨[], [0, 1, 2, 3, 4, 5], [], [0, 1, 2, 3, 4, 5], [6, 10]⟩ 6 10 _ _ rfl rfl (by decide +kernel) rfl ⟨⟨_, rfl, AB rfl (AJ 1 23 1 AO rfl CL rfl rfl)⟩, ⟨_, rfl, AB rfl (AL rfl (AZ CW (MemAt.ent 0 rfl (AR (Seg.head)))))⟩, ⟨_, rfl, AB rfl (AD rfl)⟩, ⟨_, rfl, AB rfl (CF 22 1 (i + oz2) A9 A6 rfl hz2 rfl (by omega) (by omega) (by omega))⟩, ⟨_, rfl, AB rfl (AL rfl (AZ BC (CA (hm2.mem (by simp)) (Seg.get (FK (i := i) (by rw [hl]; omega))) (by omega))))⟩, ⟨_, rfl, AB rfl (AL rfl (BO D3 CE (by simp [x1.hd, x1.ht]) (MemAt.ent 2 rfl (AM _))))⟩, trivial⟩ rfl rfl (A1 rfl (AT 131 [U64 (g64 l i), .agg (List.toArray (α := Value) ([U64 x1.e] ++ cu8 x1.d ++ cu8 x1.t))] (.tuple #[.agg (cu8 (sumG constL initL (leafT (g64 l i) x1.e x1.d x1.t))).toArray, .nilIface]) (AW [U64 (g64 l i), .agg (List.toArray (α := Value) ([U64 x1.e] ++ cu8 x1.d ++ cu8 x1.t))] Tryd.call131 rfl) (fun w1 hw1 => leaf_c (g64 l i) x1.e x1.d x1.t w1 x1.hd x1.ht (fun _ => idx_fit hRI (by omega)) (hG.at hw1)))) (A1 rfl (BR _ (cu8 (zr8 32)) BP (by kernel_rfl))) ?_ ?_
  ·
   rintro v1 L1 ⟨rfl, rfl⟩
   refine ⟨[(7, .tuple #[.agg (cu8 (sumG constL initL (leafT (g64 l i) x1.e x1.d x1.t))).toArray, .nilIface]), (8, .agg (cu8 (sumG constL initL (leafT (g64 l i) x1.e x1.d x1.t))).toArray), (9, .nilIface)], ?_⟩
   show DP _ _ _ _ _ _ _ _ [_, _, _]
   refine BT ⟨[6], [0, 1, 2, 3, 4, 5, 7, 8, 9], [0, 1, 2, 3, 4, 5], [7, 8, 9], [10]⟩ 10 _ rfl rfl (by decide +kernel) rfl ⟨⟨_, rfl, AB rfl (AD rfl)⟩, ⟨_, rfl, AB rfl (BJ rfl rfl)⟩, ⟨_, rfl, AB rfl (BJ rfl rfl)⟩, trivial⟩ rfl (A1 rfl (BR _ (cu8 (zr8 32)) BP (by kernel_rfl))) ?_
   rintro v1 L1 ⟨nb7, hnb7, rfl, rfl⟩
   refine ⟨[], ?_⟩
   show DP _ _ _ _ _ _ _ _ [_, _, _, ⟨nb7, cu8 (zr8 32), 54, (0, 0)⟩]
   refine BT ⟨[6, 10], [0, 1, 2, 3, 4, 5, 7, 8, 9], [0, 1, 2, 3, 4, 5], [7, 8, 9], [11]⟩ 11 _ rfl rfl (by decide +kernel) rfl ⟨⟨_, rfl, AB rfl (AD rfl)⟩, ⟨_, rfl, AB rfl (BJ rfl rfl)⟩, ⟨_, rfl, AB rfl (BJ rfl rfl)⟩, trivial⟩ rfl (A1 rfl (A8 3 nb7 0 32 (cu8 (zr8 32)) 54 (.agg (cu8 (sumG constL initL (leafT (g64 l i) x1.e x1.d x1.t))).toArray) (cu8 (sumG constL initL (leafT (g64 l i) x1.e x1.d x1.t))) (cu8 (sumG constL initL (leafT (g64 l i) x1.e x1.d x1.t))) rfl rfl rfl (by first | rfl | simp) AQ (B2 (BM _ _ _)) (by first | exact C5 | exact DA | exact C9 | (simp [cu8, cu32, cu64, Value.oneCell']; done)) (by simp [(A2 32)]) (BU (by simp [(A2 32), (BM _ _ _)])))) ?_
   rintro v1 L1 ⟨rfl, rfl⟩
   refine ⟨[(12, .nilIface)], ?_⟩
   show DP _ _ _ _ _ _ _ _ [_, _, _, ⟨nb7, cu8 (sumG constL initL (leafT (g64 l i) x1.e x1.d x1.t)), 54, (0, 0)⟩]
   refine DG ⟨[6, 10, 11], [0, 1, 2, 3, 4, 5, 7, 8, 9, 12], [0, 1, 2, 3, 4, 5, 7, 8], [9, 12], []⟩ rfl rfl (by decide +kernel) rfl ⟨⟨_, rfl, AB rfl (BJ rfl rfl)⟩, ⟨_, rfl, AB rfl (AF rfl)⟩, trivial⟩ ?_
   refine CZ (F' := [(42, Ptr nb1 1), (43, .slice ai ni ci), (44, I64 ((i:Int))), (45, Ptr bz2 (i + oz2)), (46, U64 (g64 l i)), (47, .agg (List.toArray (α := Value) ([U64 x1.e] ++ cu8 x1.d ++ cu8 x1.t))), (48, .tuple #[.agg (cu8 (sumG constL initL (leafT (g64 l i) x1.e x1.d x1.t))).toArray, .nilIface]), (41, .tuple #[.agg (cu8 (sumG constL initL (leafT (g64 l i) x1.e x1.d x1.t))).toArray, .nilIface]), (49, .agg (cu8 (sumG constL initL (leafT (g64 l i) x1.e x1.d x1.t))).toArray), (50, .nilIface), (9, Ptr nb7 0), (10, .nilIface), (1, Ptr nb1 0), (6, Slc nb4 0 ni ni), (34, .slice sa ns sc), (35, I64 ((ns:Int))), (36, I64 ((i:Int))), (37, .bool (decide (((i:Int)) < ((ns:Int))))), (38, I64 ((i:Int))), (39, Ptr bz1 (49*i + oz1)), (40, .agg (List.toArray (α := Value) ([U64 x1.e] ++ cu8 x1.d ++ cu8 x1.t))), (8, Ptr nb5 0), (7, I64 ((i:Int)))]) (by kernel_rfl) ?_
   refine AE (AG (AG (AC (AA _ (AD rfl) rfl ?_))))
   refine AA (.bool false) (D8 _ _ _ rfl rfl (fun _ => D6 ..) fun _ => DS B8) rfl ?_
   refine AI (AE (B9 _ rfl rfl ?_))
   refine BE (AE (AC (AA _ (AD rfl) rfl ?_)))
   refine AA _ (AD rfl) rfl ?_
   refine AA (.agg (cu8 (sumG constL initL (leafT (g64 l i) x1.e x1.d x1.t))).toArray) (AL rfl (BO BS AQ (B2 (BM _ _ _)) (MemAt.ent 3 rfl (AM _)))) rfl ?_
   refine AA (Ptr nb4 (32*i)) (EU 54 32 (32*i) A7 AQ rfl rfl (by omega) (by omega) (by omega)) rfl ?_
   have hl1 : (spl o (32*i) (sumG constL initL (leafT (g64 l i) x1.e x1.d x1.t))).length = (32*ni) := by rw [EY (by simp [ho, (BM _ _ _)]; omega)]; simp [ho, (BM _ _ _)]
   refine AN (A8 1 nb4 (32*i) 32 (cu8 o) 54 (.agg (cu8 (sumG constL initL (leafT (g64 l i) x1.e x1.d x1.t))).toArray) (cu8 (sumG constL initL (leafT (g64 l i) x1.e x1.d x1.t))) (cu8 (spl o (32*i) (sumG constL initL (leafT (g64 l i) x1.e x1.d x1.t)))) rfl rfl rfl (by first | rfl | simp) AQ (B2 (BM _ _ _)) (by first | exact C5 | exact DA | exact C9 | (simp [cu8, cu32, cu64, Value.oneCell']; done)) (by simp [ho]; try omega) (laySpl8 _ _ _ (by simp [ho, (BM _ _ _)]; omega))) rfl ?_
   rintro v1 L1 ⟨rfl, rfl⟩
   show JL _ _ _ _ _ [_, ⟨nb4, cu8 (spl o (32*i) (sumG constL initL (leafT (g64 l i) x1.e x1.d x1.t))), 54, (0, 0)⟩, _, _]
   refine AI (BA (AE (AC (AA (I64 ((i:Int) + 1)) (AK rfl rfl fun _ => CH _ _ ((i:Int) + 1) (by omega) (by omega)) rfl ?_))))
   refine AA _ (AD rfl) rfl ?_
   refine AI (CR (B5 [true, true, false, false] ?_))
   show K _ _ [_, _] _
   refine DT (i + 1, spl o (32*i) (sumG constL initL (leafT (g64 l i) x1.e x1.d x1.t))) ⟨by omega, by have h := LvI.go hI (v := sumG constL initL (leafT (g64 l i) x1.e x1.d x1.t)) (by omega) (lvH_of hx1); rw [show i * 32 = 32*i by omega] at h; exact h, hl1⟩ (by dsimp only; omega) (AH rfl (AH rfl (AH rfl (AH rfl (AH rfl (Sub.nil)))))) rfl
  ·
   rintro v1 L1 ⟨nb6, hnb6, rfl, rfl⟩
   refine ⟨[], ?_⟩
   show DP _ _ _ _ _ _ _ _ [_, _, _, ⟨nb6, cu8 (zr8 32), 54, (0, 0)⟩]
   refine BT ⟨[10], [0, 1, 2, 3, 4, 5], [], [0, 1, 2, 3, 4, 5], [6]⟩ 6 _ rfl rfl (by decide +kernel) rfl ⟨⟨_, rfl, AB rfl (AJ 1 23 1 AO rfl CL rfl rfl)⟩, ⟨_, rfl, AB rfl (AL rfl (AZ CW (MemAt.ent 0 rfl (AR (Seg.head)))))⟩, ⟨_, rfl, AB rfl (AD rfl)⟩, ⟨_, rfl, AB rfl (CF 22 1 (i + oz2) A9 A6 rfl hz2 rfl (by omega) (by omega) (by omega))⟩, ⟨_, rfl, AB rfl (AL rfl (AZ BC (CA (hm2.mem (by simp)) (Seg.get (FK (i := i) (by rw [hl]; omega))) (by omega))))⟩, ⟨_, rfl, AB rfl (AL rfl (BO D3 CE (by simp [x1.hd, x1.ht]) (MemAt.ent 2 rfl (AM _))))⟩, trivial⟩ rfl (A1 rfl (AT 131 [U64 (g64 l i), .agg (List.toArray (α := Value) ([U64 x1.e] ++ cu8 x1.d ++ cu8 x1.t))] (.tuple #[.agg (cu8 (sumG constL initL (leafT (g64 l i) x1.e x1.d x1.t))).toArray, .nilIface]) (AW [U64 (g64 l i), .agg (List.toArray (α := Value) ([U64 x1.e] ++ cu8 x1.d ++ cu8 x1.t))] Tryd.call131 rfl) (fun w1 hw1 => leaf_c (g64 l i) x1.e x1.d x1.t w1 x1.hd x1.ht (fun _ => idx_fit hRI (by omega)) (hG.at hw1)))) ?_
   rintro v1 L1 ⟨rfl, rfl⟩
   refine ⟨[(7, .tuple #[.agg (cu8 (sumG constL initL (leafT (g64 l i) x1.e x1.d x1.t))).toArray, .nilIface]), (8, .agg (cu8 (sumG constL initL (leafT (g64 l i) x1.e x1.d x1.t))).toArray), (9, .nilIface)], ?_⟩
   show DP _ _ _ _ _ _ _ _ [_, _, _, _]
   refine BT ⟨[10, 6], [0, 1, 2, 3, 4, 5, 7, 8, 9], [0, 1, 2, 3, 4, 5], [7, 8, 9], [11]⟩ 11 _ rfl rfl (by decide +kernel) rfl ⟨⟨_, rfl, AB rfl (AD rfl)⟩, ⟨_, rfl, AB rfl (BJ rfl rfl)⟩, ⟨_, rfl, AB rfl (BJ rfl rfl)⟩, trivial⟩ rfl (A1 rfl (A8 3 nb6 0 32 (cu8 (zr8 32)) 54 (.agg (cu8 (sumG constL initL (leafT (g64 l i) x1.e x1.d x1.t))).toArray) (cu8 (sumG constL initL (leafT (g64 l i) x1.e x1.d x1.t))) (cu8 (sumG constL initL (leafT (g64 l i) x1.e x1.d x1.t))) rfl rfl rfl (by first | rfl | simp) AQ (B2 (BM _ _ _)) (by first | exact C5 | exact DA | exact C9 | (simp [cu8, cu32, cu64, Value.oneCell']; done)) (by simp [(A2 32)]) (BU (by simp [(A2 32), (BM _ _ _)])))) ?_
   rintro v1 L1 ⟨rfl, rfl⟩
   refine ⟨[(12, .nilIface)], ?_⟩
   show DP _ _ _ _ _ _ _ _ [_, _, _, ⟨nb6, cu8 (sumG constL initL (leafT (g64 l i) x1.e x1.d x1.t)), 54, (0, 0)⟩]
   refine DG ⟨[10, 6, 11], [0, 1, 2, 3, 4, 5, 7, 8, 9, 12], [0, 1, 2, 3, 4, 5, 7, 8], [9, 12], []⟩ rfl rfl (by decide +kernel) rfl ⟨⟨_, rfl, AB rfl (BJ rfl rfl)⟩, ⟨_, rfl, AB rfl (AF rfl)⟩, trivial⟩ ?_
   refine CZ (F' := [(42, Ptr nb1 1), (43, .slice ai ni ci), (44, I64 ((i:Int))), (45, Ptr bz2 (i + oz2)), (46, U64 (g64 l i)), (47, .agg (List.toArray (α := Value) ([U64 x1.e] ++ cu8 x1.d ++ cu8 x1.t))), (48, .tuple #[.agg (cu8 (sumG constL initL (leafT (g64 l i) x1.e x1.d x1.t))).toArray, .nilIface]), (41, .tuple #[.agg (cu8 (sumG constL initL (leafT (g64 l i) x1.e x1.d x1.t))).toArray, .nilIface]), (49, .agg (cu8 (sumG constL initL (leafT (g64 l i) x1.e x1.d x1.t))).toArray), (50, .nilIface), (9, Ptr nb6 0), (10, .nilIface), (1, Ptr nb1 0), (6, Slc nb4 0 ni ni), (34, .slice sa ns sc), (35, I64 ((ns:Int))), (36, I64 ((i:Int))), (37, .bool (decide (((i:Int)) < ((ns:Int))))), (38, I64 ((i:Int))), (39, Ptr bz1 (49*i + oz1)), (40, .agg (List.toArray (α := Value) ([U64 x1.e] ++ cu8 x1.d ++ cu8 x1.t))), (8, Ptr nb5 0), (7, I64 ((i:Int)))]) (by kernel_rfl) ?_
   refine AE (AG (AG (AC (AA _ (AD rfl) rfl ?_))))
   refine AA (.bool false) (D8 _ _ _ rfl rfl (fun _ => D6 ..) fun _ => DS B8) rfl ?_
   refine AI (AE (B9 _ rfl rfl ?_))
   refine BE (AE (AC (AA _ (AD rfl) rfl ?_)))
   refine AA _ (AD rfl) rfl ?_
   refine AA (.agg (cu8 (sumG constL initL (leafT (g64 l i) x1.e x1.d x1.t))).toArray) (AL rfl (BO BS AQ (B2 (BM _ _ _)) (MemAt.ent 3 rfl (AM _)))) rfl ?_
   refine AA (Ptr nb4 (32*i)) (EU 54 32 (32*i) A7 AQ rfl rfl (by omega) (by omega) (by omega)) rfl ?_
   have hl2 : (spl o (32*i) (sumG constL initL (leafT (g64 l i) x1.e x1.d x1.t))).length = (32*ni) := by rw [EY (by simp [ho, (BM _ _ _)]; omega)]; simp [ho, (BM _ _ _)]
   refine AN (A8 1 nb4 (32*i) 32 (cu8 o) 54 (.agg (cu8 (sumG constL initL (leafT (g64 l i) x1.e x1.d x1.t))).toArray) (cu8 (sumG constL initL (leafT (g64 l i) x1.e x1.d x1.t))) (cu8 (spl o (32*i) (sumG constL initL (leafT (g64 l i) x1.e x1.d x1.t)))) rfl rfl rfl (by first | rfl | simp) AQ (B2 (BM _ _ _)) (by first | exact C5 | exact DA | exact C9 | (simp [cu8, cu32, cu64, Value.oneCell']; done)) (by simp [ho]; try omega) (laySpl8 _ _ _ (by simp [ho, (BM _ _ _)]; omega))) rfl ?_
   rintro v1 L1 ⟨rfl, rfl⟩
   show JL _ _ _ _ _ [_, ⟨nb4, cu8 (spl o (32*i) (sumG constL initL (leafT (g64 l i) x1.e x1.d x1.t))), 54, (0, 0)⟩, _, _]
   refine AI (BA (AE (AC (AA (I64 ((i:Int) + 1)) (AK rfl rfl fun _ => CH _ _ ((i:Int) + 1) (by omega) (by omega)) rfl ?_))))
   refine AA _ (AD rfl) rfl ?_
   refine AI (CR (B5 [true, true, false, false] ?_))
   show K _ _ [_, _] _
   refine DT (i + 1, spl o (32*i) (sumG constL initL (leafT (g64 l i) x1.e x1.d x1.t))) ⟨by omega, by have h := LvI.go hI (v := sumG constL initL (leafT (g64 l i) x1.e x1.d x1.t)) (by omega) (lvH_of hx1); rw [show i * 32 = 32*i by omega] at h; exact h, hl2⟩ (by dsimp only; omega) (AH rfl (AH rfl (AH rfl (AH rfl (AH rfl (Sub.nil)))))) rfl
 ·
  have hp1 : ¬ (((i:Int)) < ((ns:Int))) := of_decide_eq_false hb1
  refine DL (AX (AX (CC (AE (AG (AC (AA _ (AD rfl) rfl ?_)))))))
  refine AA _ (AF rfl) rfl ?_
  refine AA _ (AF rfl) rfl ?_
  refine AI (AE (BG (B5 [false, true] ?_)))
  show JQ _ _ _ _ [_]
  refine BI (.tuple #[Slc nb4 0 ni ni, .nilIface]) (res2 Tryd.results68 (BK rfl) (BK rfl)) fun w1 hw1 => ?_
  obtain rfl : i = ns := by omega
  subst hnn2
  rw [LvI.fin hI] at hw1
  exact ⟨_, _, rfl, ⟨nb4, rfl, rfl⟩, hw1.sub (by simp) (by simp)⟩
theorem leaves2_c (pv ep : UInt64) (k : Nat) (ai : Option Addr) (ni ci : Nat) (l : List UInt64) (sa : Option Addr) (sc : Nat) (bl : UInt64)  (w : World) (hl : l.length = ni) (hnm : ni ≤ 2000000) (hnc : ni ≤ ci) (hcm : ci ≤ maxLen) (hv : RdV w ai (cu64 l)) (hcs : sc ≤ maxLen) (hnS : sa = none → sc = 0) (hR : RightO (k:Int) l ([] : List SealR) bl = true) (hk : k = 2) (hRI : RightI l) (hn1 : 1 ≤ ni) (hn3 : ni ≤ 300) (hG : GLs w)  : Calls Tryd.prog 68 #[.agg (List.toArray (α := Value) ([I64 ((k:Int)), .slice ai ni ci, .slice sa 0 sc, U64 bl]))] w (Post w [] (fun v L => ∃ g, v = .tuple #[Slc g 0 ni ni, .nilIface] ∧ L = [⟨g, cu8 (lvT l ([] : List SealR) ni), 54, (0, 0)⟩])) := by
 have hmx : maxLen = 9223372036854775807 := rfl
 refine enter (P := Tryd.prog) (f := 68) (fn := Tryd.f68) w [] 60 [] [.agg (List.toArray (α := Value) ([I64 ((k:Int)), .slice ai ni ci, .slice sa 0 sc, U64 bl]))] Tryd.func68 rfl rfl (by simp) (BL (by simp) (by simp) (by simp)) ?_
 show JC _ _ _ [(0, .agg (List.toArray (α := Value) ([I64 ((k:Int)), .slice ai ni ci, .slice sa 0 sc, U64 bl])))] _
 refine AG (AC (AN (CM (.agg (List.toArray (α := Value) ([I64 ((k:Int)), .slice ai ni ci, .slice sa 0 sc, U64 bl]))) ([I64 ((k:Int)), .slice ai ni ci, .slice sa 0 sc, U64 bl]) rfl (by first | rfl | simp)) rfl ?_))
 rintro v1 L1 ⟨nb1, hnb1, rfl, rfl⟩
 show JL _ _ _ _ ((1, Ptr nb1 0) :: _) [⟨nb1, [I64 ((k:Int)), .slice ai ni ci, .slice sa 0 sc, U64 bl], 26, (0, 0)⟩]
 refine AA _ (AF rfl) rfl ?_
 refine AA _ (AF rfl) rfl ?_
 refine AI (AE (AG (AG (AC (AA (.agg (List.toArray (α := Value) ([I64 ((k:Int)), .slice ai ni ci, .slice sa 0 sc, U64 bl]))) (AL rfl (BO CV B0 rfl (MemAt.ent 0 rfl (AM _)))) rfl ?_)))))
 refine AN (AT 69 [.agg (List.toArray (α := Value) ([I64 ((k:Int)), .slice ai ni ci, .slice sa 0 sc, U64 bl]))] (.bool (RightO ((k:Int)) l ([] : List SealR) bl)) (AW [.agg (List.toArray (α := Value) ([I64 ((k:Int)), .slice ai ni ci, .slice sa 0 sc, U64 bl]))] Tryd.call69 rfl) (fun w1 hw1 => FJ ((k:Int)) ai ni ci l sa 0 sc ([] : List SealR) bl w1 hl (by omega) (by omega) (by omega) (DD hw1 rfl hv) rfl (by omega) (by omega) (by omega) RdV.nil)) rfl ?_
 rintro v1 L1 ⟨rfl, rfl⟩
 show JL _ _ _ _ ((12, .bool (RightO ((k:Int)) l ([] : List SealR) bl)) :: _) [_]
 refine AA (.bool (!(RightO ((k:Int)) l ([] : List SealR) bl))) (ER rfl) rfl ?_
 refine AA _ (AD rfl) rfl ?_
 refine AU 3 14 false _ (Ptr nb1 0) rfl rfl (by rw [show (RightO ((k:Int)) l ([] : List SealR) bl) = true from hR] <;> rfl) (AJ 0 3 1 AO rfl B3 rfl rfl) rfl ?_
 refine AU 3 14 false _ (I64 ((k:Int))) rfl rfl (by rw [show (RightO ((k:Int)) l ([] : List SealR) bl) = true from hR] <;> rfl) (AL rfl (AZ B7 (MemAt.ent 0 rfl (Seg.head)))) rfl ?_
 refine AU 3 14 false _ (.bool (decide (((k:Int)) = (3:Int)))) rfl rfl (by rw [show (RightO ((k:Int)) l ([] : List SealR) bl) = true from hR] <;> rfl) (AK rfl rfl fun _ => CU _ _) rfl ?_
 refine AA _ (BX _ rfl (by rw [show (RightO ((k:Int)) l ([] : List SealR) bl) = true from hR] <;> rfl) rfl) rfl ?_
 refine AI (AE (B9 _ rfl (decide_eq_false (by omega)) ?_))
 refine BE (AE (AG (AC (AN (AT 129 [I64 (0:Int)] (.tuple #[.agg (cu8 (empL 0)).toArray, .nilIface]) (AW [I64 (0:Int)] Tryd.call129 rfl) (fun w1 hw1 => empty_c 0 w1 (by omega) (hG.at hw1))) rfl ?_))))
 rintro v1 L1 ⟨rfl, rfl⟩
 show JL _ _ _ _ ((21, .tuple #[.agg (cu8 (empL 0)).toArray, .nilIface]) :: _) [_]
 refine AA _ (AD rfl) rfl ?_
 refine AA _ (BJ rfl rfl) rfl ?_
 refine AA _ (BJ rfl rfl) rfl ?_
 refine AN (BR _ (cu8 (zr8 32)) BP (by kernel_rfl)) rfl ?_
 rintro v1 L1 ⟨nb2, hnb2, rfl, rfl⟩
 show JL _ _ _ _ ((4, Ptr nb2 0) :: _) [_, ⟨nb2, cu8 (zr8 32), 54, (0, 0)⟩]
 refine AN (A8 1 nb2 0 32 (cu8 (zr8 32)) 54 (.agg (cu8 (empL 0)).toArray) (cu8 (empL 0)) (cu8 (empL 0)) rfl rfl rfl (by first | rfl | simp) AQ (B2 (EA _)) (by first | exact C5 | exact DA | exact C9 | (simp [cu8, cu32, cu64, Value.oneCell']; done)) (by simp [(A2 32)]) (BU (by simp [(A2 32), (EA _)]))) rfl ?_
 rintro v1 L1 ⟨rfl, rfl⟩
 show JL _ _ _ _ _ [_, ⟨nb2, cu8 (empL 0), 54, (0, 0)⟩]
 refine AA _ (AF rfl) rfl ?_
 refine AI (AE (AG (AG (AC (AA _ (AD rfl) rfl ?_)))))
 refine AA (.bool false) (D8 _ _ _ rfl rfl (fun _ => D6 ..) fun _ => DS B8) rfl ?_
 refine AI (AE (B9 _ rfl rfl ?_))
 refine BE (AE (AG (AC (AA (.agg (cu8 (empL 0)).toArray) (AL rfl (BO BS AQ (B2 (EA _)) (MemAt.ent 1 rfl (AM _)))) rfl ?_))))
 refine AN (BF 54 32 _ [(0, .agg (cu8 (empL 0)).toArray)] (cu8 (empL 0)) A7 AQ BP rfl rfl rfl (EZ (EA _) (by kernel_rfl))) rfl ?_
 rintro v1 L1 ⟨nb3, hnb3, rfl, rfl⟩
 show JL _ _ _ _ ((28, Slc nb3 0 1 1) :: _) [_, _, ⟨nb3, cu8 (empL 0), 54, (0, 0)⟩]
 refine AA (Ptr nb1 1) (AJ 1 23 1 AO rfl CL rfl rfl) rfl ?_
 refine AA (.slice ai ni ci) (AL rfl (AZ CW (MemAt.ent 0 rfl (AR (Seg.head))))) rfl ?_
 refine AA (I64 ((ni:Int))) (DJ A9 rfl) rfl ?_
 refine AN (B1 130 [Slc nb3 0 1 1, I64 ((ni:Int))] _ (AW [Slc nb3 0 1 1, I64 ((ni:Int))] Tryd.call130 rfl) (fun w1 hw1 => repeat_c nb3 ni 1 (empL 0) w1 (EA _) (RdB.of hw1 (MemAt.ent 2 rfl (AM _)) (by simp)) (by omega) (by omega))) rfl ?_
 rintro v1 L1 ⟨_, ⟨nb4, rfl, rfl⟩, rfl⟩
 show JL _ _ _ _ ((32, Slc nb4 0 ni ni) :: _) [_, _, _, ⟨nb4, cu8 (repL (empL 0) ni), 54, (0, 0)⟩]
 refine AA _ (AF rfl) rfl ?_
 refine AI (AE (AG (AG (AC (AA (Ptr nb1 2) (AJ 2 24 1 AO rfl DC rfl rfl) rfl ?_)))))
 refine AA (.slice sa 0 sc) (AL rfl (AZ DQ (MemAt.ent 0 rfl (AR (AR (Seg.head)))))) rfl ?_
 refine AA (I64 (0:Int)) (DJ B4 rfl) rfl ?_
 refine AA _ (AD rfl) rfl ?_
 refine AI (AE (BH (B5 [true, false, false, true] ?_)))
 show JC _ _ _ _ [_, _]
 refine DN (ι := Unit) (fun _ => [(1, Ptr nb1 0), (6, Slc nb4 0 ni ni), (34, .slice sa 0 sc), (35, I64 (0:Int)), (36, I64 (0:Int))]) (fun _ => [⟨nb1, [I64 ((k:Int)), .slice ai ni ci, .slice sa 0 sc, U64 bl], 26, (0, 0)⟩, ⟨nb4, cu8 (repL (empL 0) ni), 54, (0, 0)⟩]) (fun _ => True) (fun _ => 1) () trivial (AH rfl (AH rfl (AH rfl (AH rfl (AH rfl (Sub.nil)))))) rfl ?_
 rintro _ _
 show JC _ _ _ [(1, Ptr nb1 0), (6, Slc nb4 0 ni ni), (34, .slice sa 0 sc), (35, I64 (0:Int)), (36, I64 (0:Int))] [⟨nb1, [I64 ((k:Int)), .slice ai ni ci, .slice sa 0 sc, U64 bl], 26, (0, 0)⟩, ⟨nb4, cu8 (repL (empL 0) ni), 54, (0, 0)⟩]
 refine AG (AC (AA (.bool (decide ((0:Int) < (0:Int)))) (AK rfl rfl fun _ => CP _ _) rfl ?_))
 refine AI (AE (AG (B9 _ rfl (by decide) ?_)))
 refine DL (AX (AX (CC (AE (AG (AC (AA _ (AD rfl) rfl ?_)))))))
 refine AA _ (AF rfl) rfl ?_
 refine AA _ (AF rfl) rfl ?_
 refine AI (AE (BG (B5 [false, true] ?_)))
 show JQ _ _ _ _ [_]
 refine BI (.tuple #[Slc nb4 0 ni ni, .nilIface]) (res2 Tryd.results68 (BK rfl) (BK rfl)) fun w1 hw1 => ?_
 rw [← lvT_nil l] at hw1
 exact ⟨_, _, rfl, ⟨nb4, rfl, rfl⟩, hw1.sub (by simp) (by simp)⟩
theorem leavesB_c (pv ep : UInt64) (kd : Int) (ai : Option Addr) (ni ci : Nat) (l : List UInt64) (sa : Option Addr) (ns sc : Nat) (ls : List SealR) (bl : UInt64)  (w : World) (hl : l.length = ni) (hnm : ni ≤ 2000000) (hnc : ni ≤ ci) (hcm : ci ≤ maxLen) (hv : RdV w ai (cu64 l)) (hls : ls.length = ns) (hnn : ns ≤ 2000000) (hnd : ns ≤ sc) (hcn : sc ≤ maxLen) (hs : RdV w sa (ls.flatMap sealC)) (hbad : RightO kd l ls bl = false ∨ kd = 3)  : Calls Tryd.prog 68 #[.agg (List.toArray (α := Value) ([I64 (kd), .slice ai ni ci, .slice sa ns sc, U64 bl]))] w (Post w [] (fun v L => v = .tuple #[.slice none 0 0, .iface 50 (I64 2)] ∧ L = [])) := by
 have hmx : maxLen = 9223372036854775807 := rfl
 refine enter (P := Tryd.prog) (f := 68) (fn := Tryd.f68) w [] 60 [] [.agg (List.toArray (α := Value) ([I64 (kd), .slice ai ni ci, .slice sa ns sc, U64 bl]))] Tryd.func68 rfl rfl (by simp) (BL (by simp) (by simp) (by simp)) ?_
 show JC _ _ _ [(0, .agg (List.toArray (α := Value) ([I64 (kd), .slice ai ni ci, .slice sa ns sc, U64 bl])))] _
 refine AG (AC (AN (CM (.agg (List.toArray (α := Value) ([I64 (kd), .slice ai ni ci, .slice sa ns sc, U64 bl]))) ([I64 (kd), .slice ai ni ci, .slice sa ns sc, U64 bl]) rfl (by first | rfl | simp)) rfl ?_))
 rintro v1 L1 ⟨nb1, hnb1, rfl, rfl⟩
 show JL _ _ _ _ ((1, Ptr nb1 0) :: _) [⟨nb1, [I64 (kd), .slice ai ni ci, .slice sa ns sc, U64 bl], 26, (0, 0)⟩]
 refine AA _ (AF rfl) rfl ?_
 refine AA _ (AF rfl) rfl ?_
 refine AI (AE (AG (AG (AC (AA (.agg (List.toArray (α := Value) ([I64 (kd), .slice ai ni ci, .slice sa ns sc, U64 bl]))) (AL rfl (BO CV B0 rfl (MemAt.ent 0 rfl (AM _)))) rfl ?_)))))
 refine AN (AT 69 [.agg (List.toArray (α := Value) ([I64 (kd), .slice ai ni ci, .slice sa ns sc, U64 bl]))] (.bool (RightO (kd) l ls bl)) (AW [.agg (List.toArray (α := Value) ([I64 (kd), .slice ai ni ci, .slice sa ns sc, U64 bl]))] Tryd.call69 rfl) (fun w1 hw1 => FJ (kd) ai ni ci l sa ns sc ls bl w1 hl (by omega) (by omega) (by omega) (DD hw1 rfl hv) hls (by omega) (by omega) (by omega) (DD hw1 rfl hs))) rfl ?_
 rintro v1 L1 ⟨rfl, rfl⟩
 show JL _ _ _ _ ((12, .bool (RightO (kd) l ls bl)) :: _) [_]
 refine AA (.bool (!(RightO (kd) l ls bl))) (ER rfl) rfl ?_
 refine AA _ (AD rfl) rfl ?_
 rcases Bool.eq_false_or_eq_true (RightO (kd) l ls bl) with hb1 | hb1
 ·
  refine AU 3 14 false _ (Ptr nb1 0) rfl rfl (by rw [show (RightO (kd) l ls bl) = true from hb1] <;> rfl) (AJ 0 3 1 AO rfl B3 rfl rfl) rfl ?_
  refine AU 3 14 false _ (I64 (kd)) rfl rfl (by rw [show (RightO (kd) l ls bl) = true from hb1] <;> rfl) (AL rfl (AZ B7 (MemAt.ent 0 rfl (Seg.head)))) rfl ?_
  refine AU 3 14 false _ (.bool (decide ((kd) = (3:Int)))) rfl rfl (by rw [show (RightO (kd) l ls bl) = true from hb1] <;> rfl) (AK rfl rfl fun _ => CU _ _) rfl ?_
  refine AA _ (BX _ rfl (by rw [show (RightO (kd) l ls bl) = true from hb1] <;> rfl) rfl) rfl ?_
  refine AI (AE (DM _ rfl (decide_eq_true (hbad.resolve_left (fun h => by rw [hb1] at h; cases h))) ?_))
  refine AG (AC (AA (.iface 50 (I64 (2:Int))) (Ev_iface Tryd.underlying50 rfl rfl) rfl ?_))
  refine AA _ (AF rfl) rfl ?_
  refine AA _ (AF rfl) rfl ?_
  refine AI (AE (BG (A0 (BI (.tuple #[.slice none 0 0, .iface 50 (I64 (2:Int))]) (res2 Tryd.results68 (BK rfl) (BK rfl)) fun w1 hw1 => ?_))))
  exact ⟨_, [], rfl, ⟨rfl, rfl⟩, hw1.sub (by simp) (by simp)⟩
 ·
  refine AS 3 14 false _ rfl rfl (by rw [show (RightO (kd) l ls bl) = false from hb1] <;> rfl) rfl ?_
  refine AS 3 14 false _ rfl rfl (by rw [show (RightO (kd) l ls bl) = false from hb1] <;> rfl) rfl ?_
  refine AS 3 14 false _ rfl rfl (by rw [show (RightO (kd) l ls bl) = false from hb1] <;> rfl) rfl ?_
  refine AA _ (CG _ rfl (by rw [show (RightO (kd) l ls bl) = false from hb1] <;> rfl) rfl) rfl ?_
  refine AI (AE (DM _ rfl rfl ?_))
  refine AG (AC (AA (.iface 50 (I64 (2:Int))) (Ev_iface Tryd.underlying50 rfl rfl) rfl ?_))
  refine AA _ (AF rfl) rfl ?_
  refine AA _ (AF rfl) rfl ?_
  refine AI (AE (BG (A0 (BI (.tuple #[.slice none 0 0, .iface 50 (I64 (2:Int))]) (res2 Tryd.results68 (BK rfl) (BK rfl)) fun w1 hw1 => ?_))))
  exact ⟨_, [], rfl, ⟨rfl, rfl⟩, hw1.sub (by simp) (by simp)⟩
theorem rleaves1_c (pv ep : UInt64) (k : Nat) (ai : Option Addr) (ni ci : Nat) (l : List UInt64) (sa : Option Addr) (ns sc : Nat) (ls : List SealR) (bl : UInt64)  (w : World) (hl : l.length = ni) (hnm : ni ≤ 2000000) (hnc : ni ≤ ci) (hcm : ci ≤ maxLen) (hv : RdV w ai (cu64 l)) (hls : ls.length = ns) (hnn : ns ≤ 2000000) (hnd : ns ≤ sc) (hcn : sc ≤ maxLen) (hs : RdV w sa (ls.flatMap sealC)) (hk : k = 1) (hn1 : 1 ≤ ni) (hn3 : ni ≤ 300) (hnn2 : ns = ni) (hGr : GLr w) (hGi : GLi w)  : Calls Tryd.prog 73 #[.agg (List.toArray (α := Value) ([I64 ((k:Int)), .slice ai ni ci, .slice sa ns sc, U64 bl]))] w (Post w [] (fun v L => ∃ g sp cap, v = Slc g 0 ni cap ∧ L = [⟨g, cu8 (lvT l ls ni) ++ sp, 54, (0, 0)⟩] ∧ sp.length = 32*cap - 32*ni ∧ ni ≤ cap ∧ cap ≤ maxLen)) := by
 have hmx : maxLen = 9223372036854775807 := rfl
 refine enter (P := Tryd.prog) (f := 73) (fn := Tryd.f73) w [] 36 [] [.agg (List.toArray (α := Value) ([I64 ((k:Int)), .slice ai ni ci, .slice sa ns sc, U64 bl]))] Tryd.func73 rfl rfl (by simp) (BL (by simp) (by simp) (by simp)) ?_
 show JC _ _ _ [(0, .agg (List.toArray (α := Value) ([I64 ((k:Int)), .slice ai ni ci, .slice sa ns sc, U64 bl])))] _
 refine AG (AC (AN (CM (.agg (List.toArray (α := Value) ([I64 ((k:Int)), .slice ai ni ci, .slice sa ns sc, U64 bl]))) ([I64 ((k:Int)), .slice ai ni ci, .slice sa ns sc, U64 bl]) rfl (by first | rfl | simp)) rfl ?_))
 rintro v1 L1 ⟨nb1, hnb1, rfl, rfl⟩
 show JL _ _ _ _ ((1, Ptr nb1 0) :: _) [⟨nb1, [I64 ((k:Int)), .slice ai ni ci, .slice sa ns sc, U64 bl], 36, (0, 0)⟩]
 refine AA _ (AF rfl) rfl ?_
 refine AI (AE (AG (AC (AA _ (AF rfl) rfl ?_))))
 refine AI (AE (AG (AG (AC (AA _ (AF rfl) rfl ?_)))))
 refine AI (AE (BH (DN (ι := (Unit) ⊕ (Nat × List UInt8 × Nat × List Value × Nat)) (fun x => match x with | .inl _ => [(1, Ptr nb1 0), (2, .slice none 0 0), (3, .slice none 0 0), (4, I64 (0:Int))] | .inr ⟨i, o, gf, sp, cp⟩ => [(1, Ptr nb1 0), (2, .slice none 0 0), (3, Slc gf 0 i cp), (4, I64 ((i:Int)))]) (fun x => match x with | .inl _ => [⟨nb1, [I64 ((k:Int)), .slice ai ni ci, .slice sa ns sc, U64 bl], 36, (0, 0)⟩] | .inr ⟨i, o, gf, sp, cp⟩ => [⟨nb1, [I64 ((k:Int)), .slice ai ni ci, .slice sa ns sc, U64 bl], 36, (0, 0)⟩, ⟨gf, cu8 o ++ sp, 54, (0, 0)⟩]) (fun x => match x with | .inl _ => True | .inr ⟨i, o, gf, sp, cp⟩ => 0 < i ∧ i ≤ ni ∧ o = lvT l ls i ∧ o.length = 32*i ∧ sp.length = 32*cp - 32*i ∧ i ≤ cp ∧ cp ≤ maxLen) (fun x => match x with | .inl _ => ni + 2 | .inr ⟨i, o, gf, sp, cp⟩ => ni + 1 - i) (.inl ()) trivial (AH rfl (AH rfl (AH rfl (AH rfl (Sub.nil))))) rfl ?_)))
 rintro (_ | ⟨i, o, gf, sp, cp⟩) hx
 ·
  obtain _ := hx
  show JC _ _ _ [(1, Ptr nb1 0), (2, .slice none 0 0), (3, .slice none 0 0), (4, I64 (0:Int))] [⟨nb1, [I64 ((k:Int)), .slice ai ni ci, .slice sa ns sc, U64 bl], 36, (0, 0)⟩]
  refine AG (AG (AC (AA _ (AD rfl) rfl ?_)))
  refine AA (Ptr nb1 1) (AJ 1 23 1 A3 rfl CL rfl rfl) rfl ?_
  refine AA (.slice ai ni ci) (AL rfl (AZ CW (MemAt.ent 0 rfl (AR (Seg.head))))) rfl ?_
  refine AA (I64 ((ni:Int))) (DJ A9 rfl) rfl ?_
  refine AA (.bool (decide ((0:Int) < ((ni:Int))))) (AK rfl rfl fun _ => CP _ _) rfl ?_
  refine AI (AE (DM _ rfl (decide_eq_true (by omega)) ?_))
  refine BE (AE (AG (BH (AG (AC (AA (Ptr nb1 0) (AJ 0 3 1 A3 rfl B3 rfl rfl) rfl ?_))))))
  refine AA (I64 ((k:Int))) (AL rfl (AZ B7 (MemAt.ent 0 rfl (Seg.head)))) rfl ?_
  refine AA (.bool (decide (((k:Int)) = (2:Int)))) (AK rfl rfl fun _ => CU _ _) rfl ?_
  refine AI (AE (B9 _ rfl (decide_eq_false (by omega)) ?_))
  obtain ⟨bz1, oz1, hz1, hm1⟩ := RdV.pos hv (by rw [EN, hl]; omega)
  obtain ⟨x1, hx1⟩ : ∃ x, ls[0]? = some x := ⟨_, List.getElem?_eq_getElem (by rw [hls]; omega)⟩
  obtain ⟨bz2, oz2, hz2, hm2⟩ := rows_at EK (by decide) hs hx1
  refine C3 36 4 [(0, .slice none 0 0), (1, Ptr nb1 1), (2, .slice ai ni ci), (3, I64 (0:Int)), (4, Ptr bz1 oz1), (5, U64 (g64 l 0)), (6, Ptr nb1 2), (7, .slice sa ns sc), (8, I64 (0:Int)), (9, Ptr bz2 oz2), (10, .agg (List.toArray (α := Value) ([U64 x1.e] ++ cu8 x1.d ++ cu8 x1.t)))] BQ rfl (by decide +kernel) ?_
  refine BT ⟨[], [0, 1, 2, 3, 4, 5, 6, 7, 8, 9, 10], [], [0, 1, 2, 3, 4, 5, 6, 7, 8, 9, 10], [11]⟩ 11 _ rfl rfl (by decide +kernel) rfl ⟨⟨_, rfl, AB rfl (AD rfl)⟩, ⟨_, rfl, AB rfl (AJ 1 23 1 A3 rfl CL rfl rfl)⟩, ⟨_, rfl, AB rfl (AL rfl (AZ CW (MemAt.ent 0 rfl (AR (Seg.head)))))⟩, ⟨_, rfl, AB rfl (AD rfl)⟩, ⟨_, rfl, AB rfl (CF 22 1 oz1 A9 A6 rfl hz1 rfl (by omega) (by omega) (by omega))⟩, ⟨_, rfl, AB rfl (AL rfl (AZ BC (CA (hm1.mem (by simp)) (Seg.get (FK (i := 0) (by rw [hl]; omega))) (by omega))))⟩, ⟨_, rfl, AB rfl (AJ 2 34 1 A3 rfl C8 rfl rfl)⟩, ⟨_, rfl, AB rfl (AL rfl (AZ D1 (MemAt.ent 0 rfl (AR (AR (Seg.head))))))⟩, ⟨_, rfl, AB rfl (AD rfl)⟩, ⟨_, rfl, AB rfl (CF 164 49 oz2 C6 DX rfl hz2 rfl (by omega) (by omega) (by omega))⟩, ⟨_, rfl, AB rfl (AL rfl (BO Tryd.isAgg164 DX (by simp [x1.hd, x1.ht]) (CA (hm2.mem (by simp)) (AM _) (by omega))))⟩, trivial⟩ rfl (A1 rfl (AT 138 [U64 (g64 l 0), .agg (List.toArray (α := Value) ([U64 x1.e] ++ cu8 x1.d ++ cu8 x1.t))] (.agg (cu8 (sumG constL initL (leafT (g64 l 0) x1.e x1.d x1.t))).toArray) (AW [U64 (g64 l 0), .agg (List.toArray (α := Value) ([U64 x1.e] ++ cu8 x1.d ++ cu8 x1.t))] Tryd.call138 rfl) (fun w1 hw1 => rleaf_c (g64 l 0) x1.e x1.d x1.t w1 x1.hd x1.ht (GLr.at hw1 hGr) (GLi.at hw1 hGi)))) ?_
  rintro v1 L1 ⟨rfl, rfl⟩
  refine ⟨[], ?_⟩
  show DP _ _ _ _ _ _ _ _ [_]
  refine BT ⟨[11], [0, 1, 2, 3, 4, 5, 6, 7, 8, 9, 10], [1, 2, 3, 4, 5, 6, 7, 8, 9, 10], [0], [12]⟩ 12 _ rfl rfl (by decide +kernel) rfl ⟨⟨_, rfl, AB rfl (AD rfl)⟩, trivial⟩ rfl (A1 rfl (BF 54 32 _ [(0, .agg (cu8 (sumG constL initL (leafT (g64 l 0) x1.e x1.d x1.t))).toArray)] (cu8 (sumG constL initL (leafT (g64 l 0) x1.e x1.d x1.t))) A7 AQ BP rfl rfl rfl (EZ (BM _ _ _) (by kernel_rfl)))) ?_
  rintro v1 L1 ⟨nb2, hnb2, rfl, rfl⟩
  refine ⟨[], ?_⟩
  show DP _ _ _ _ _ _ _ _ [_, ⟨nb2, cu8 (sumG constL initL (leafT (g64 l 0) x1.e x1.d x1.t)), 54, (0, 0)⟩]
  refine BT ⟨[11, 12], [0, 1, 2, 3, 4, 5, 6, 7, 8, 9, 10], [1, 2, 3, 4, 5, 6, 7, 8, 9, 10], [0], [13]⟩ 13 _ rfl rfl (by decide +kernel) rfl ⟨⟨_, rfl, AB rfl (AD rfl)⟩, trivial⟩ rfl (A1 rfl (Step_appH 65 54 32 32 (.agg (cu8 (zr8 32)).toArray) [false, false] (.slice none 0 0) 0 ([] : List UInt8) (sumG constL initL (leafT (g64 l 0) x1.e x1.d x1.t)) (some ⟨nb2, 0, none⟩) 1 1 1 32 A7 (by kernel_rfl) (by kernel_rfl) (by decide) rfl (.inl ⟨rfl, rfl, rfl, rfl, by omega⟩) rfl (by have h : (sumG constL initL (leafT (g64 l 0) x1.e x1.d x1.t)).length = 32 := (BM _ _ _); omega) (SrcAt.mem (MemAt.ent 1 rfl (AM _))) (by omega) (by unfold maxLen; omega) (by omega) (by omega))) ?_
  rintro v1 L1 ⟨nb3, sp1, cp1, hg1, rfl, rfl, ha1, ha2, ha3, ha4⟩
  refine ⟨[(14, Slc nb3 0 1 cp1)], ?_⟩
  show DP _ _ _ _ _ _ _ _ [_, _, ⟨nb3, cu8 (([] : List UInt8) ++ (sumG constL initL (leafT (g64 l 0) x1.e x1.d x1.t))) ++ sp1, 54, (0, 0)⟩]
  refine DG ⟨[11, 12, 13], [0, 1, 2, 3, 4, 5, 6, 7, 8, 9, 10, 14], [0, 1, 2, 3, 4, 5, 6, 7, 8, 9, 10], [14], []⟩ rfl rfl (by decide +kernel) rfl ⟨⟨_, rfl, AB rfl (AF rfl)⟩, trivial⟩ ?_
  refine CZ (F' := [(21, .slice none 0 0), (22, Ptr nb1 1), (23, .slice ai ni ci), (24, I64 (0:Int)), (25, Ptr bz1 oz1), (26, U64 (g64 l 0)), (27, Ptr nb1 2), (28, .slice sa ns sc), (29, I64 (0:Int)), (30, Ptr bz2 oz2), (31, .agg (List.toArray (α := Value) ([U64 x1.e] ++ cu8 x1.d ++ cu8 x1.t))), (32, .agg (cu8 (sumG constL initL (leafT (g64 l 0) x1.e x1.d x1.t))).toArray), (33, Slc nb2 0 1 1), (34, Slc nb3 0 1 cp1), (3, Slc nb3 0 1 cp1), (1, Ptr nb1 0), (2, .slice none 0 0), (4, I64 (0:Int)), (5, I64 (0:Int)), (6, Ptr nb1 1), (7, .slice ai ni ci), (8, I64 ((ni:Int))), (9, .bool (decide ((0:Int) < ((ni:Int))))), (12, Ptr nb1 0), (13, I64 ((k:Int))), (14, .bool (decide (((k:Int)) = (2:Int))))]) (by kernel_rfl) ?_
  refine BA (AE (AC (AA _ (AD rfl) rfl ?_)))
  refine AA (I64 (1:Int)) (AK rfl rfl fun _ => CH _ _ (1:Int) (by omega) (by omega)) rfl ?_
  refine AA _ (AF rfl) rfl ?_
  refine AI (CR (B5 [true, false, true] ?_))
  show K _ _ [_, _] _
  have hv0 := lvH_of (l := l) hx1
  refine DT (.inr (1, ([] : List UInt8) ++ (sumG constL initL (leafT (g64 l 0) x1.e x1.d x1.t)), nb3, sp1, cp1)) ⟨by omega, by omega, (by rw [lvT_succ l ls 0, ← hv0, lvT_zero]), (ha1).trans (by omega), (ha2).trans (by omega), by omega, by omega⟩ (by dsimp only; omega) (AH rfl (AH rfl (AH rfl (AH rfl (Sub.nil))))) rfl
 ·
  obtain ⟨hi1, hi2, hi3, hi4, hi5, hi6, hi7⟩ := hx
  show JC _ _ _ [(1, Ptr nb1 0), (2, .slice none 0 0), (3, Slc gf 0 i cp), (4, I64 ((i:Int)))] [⟨nb1, [I64 ((k:Int)), .slice ai ni ci, .slice sa ns sc, U64 bl], 36, (0, 0)⟩, ⟨gf, cu8 o ++ sp, 54, (0, 0)⟩]
  refine AG (AG (AC (AA _ (AD rfl) rfl ?_)))
  refine AA (Ptr nb1 1) (AJ 1 23 1 A3 rfl CL rfl rfl) rfl ?_
  refine AA (.slice ai ni ci) (AL rfl (AZ CW (MemAt.ent 0 rfl (AR (Seg.head))))) rfl ?_
  refine AA (I64 ((ni:Int))) (DJ A9 rfl) rfl ?_
  refine AA (.bool (decide (((i:Int)) < ((ni:Int))))) (AK rfl rfl fun _ => CP _ _) rfl ?_
  refine AI (AE (CN (decide (((i:Int)) < ((ni:Int)))) rfl (fun hb1 => ?_) (fun hb1 => ?_)))
  ·
   have hp1 : ((i:Int)) < ((ni:Int)) := of_decide_eq_true hb1
   refine BE (AE (AG (BH (AG (AC (AA (Ptr nb1 0) (AJ 0 3 1 A3 rfl B3 rfl rfl) rfl ?_))))))
   refine AA (I64 ((k:Int))) (AL rfl (AZ B7 (MemAt.ent 0 rfl (Seg.head)))) rfl ?_
   refine AA (.bool (decide (((k:Int)) = (2:Int)))) (AK rfl rfl fun _ => CU _ _) rfl ?_
   refine AI (AE (B9 _ rfl (decide_eq_false (by omega)) ?_))
   obtain ⟨bz3, oz3, hz3, hm3⟩ := RdV.pos hv (by rw [EN, hl]; omega)
   obtain ⟨x2, hx2⟩ : ∃ x, ls[i]? = some x := ⟨_, List.getElem?_eq_getElem (by rw [hls]; omega)⟩
   obtain ⟨bz4, oz4, hz4, hm4⟩ := rows_at EK (by decide) hs hx2
   refine C3 36 4 [(0, Slc gf 0 i cp), (1, Ptr nb1 1), (2, .slice ai ni ci), (3, I64 ((i:Int))), (4, Ptr bz3 (i + oz3)), (5, U64 (g64 l i)), (6, Ptr nb1 2), (7, .slice sa ns sc), (8, I64 ((i:Int))), (9, Ptr bz4 (49*i + oz4)), (10, .agg (List.toArray (α := Value) ([U64 x2.e] ++ cu8 x2.d ++ cu8 x2.t)))] BQ rfl (by decide +kernel) ?_
   refine BT ⟨[], [0, 1, 2, 3, 4, 5, 6, 7, 8, 9, 10], [], [0, 1, 2, 3, 4, 5, 6, 7, 8, 9, 10], [11]⟩ 11 _ rfl rfl (by decide +kernel) rfl ⟨⟨_, rfl, AB rfl (AD rfl)⟩, ⟨_, rfl, AB rfl (AJ 1 23 1 A3 rfl CL rfl rfl)⟩, ⟨_, rfl, AB rfl (AL rfl (AZ CW (MemAt.ent 0 rfl (AR (Seg.head)))))⟩, ⟨_, rfl, AB rfl (AD rfl)⟩, ⟨_, rfl, AB rfl (CF 22 1 (i + oz3) A9 A6 rfl hz3 rfl (by omega) (by omega) (by omega))⟩, ⟨_, rfl, AB rfl (AL rfl (AZ BC (CA (hm3.mem (by simp)) (Seg.get (FK (i := i) (by rw [hl]; omega))) (by omega))))⟩, ⟨_, rfl, AB rfl (AJ 2 34 1 A3 rfl C8 rfl rfl)⟩, ⟨_, rfl, AB rfl (AL rfl (AZ D1 (MemAt.ent 0 rfl (AR (AR (Seg.head))))))⟩, ⟨_, rfl, AB rfl (AD rfl)⟩, ⟨_, rfl, AB rfl (CF 164 49 (49*i + oz4) C6 DX rfl hz4 rfl (by omega) (by omega) (by omega))⟩, ⟨_, rfl, AB rfl (AL rfl (BO Tryd.isAgg164 DX (by simp [x2.hd, x2.ht]) (CA (hm4.mem (by simp)) (AM _) (by omega))))⟩, trivial⟩ rfl (A1 rfl (AT 138 [U64 (g64 l i), .agg (List.toArray (α := Value) ([U64 x2.e] ++ cu8 x2.d ++ cu8 x2.t))] (.agg (cu8 (sumG constL initL (leafT (g64 l i) x2.e x2.d x2.t))).toArray) (AW [U64 (g64 l i), .agg (List.toArray (α := Value) ([U64 x2.e] ++ cu8 x2.d ++ cu8 x2.t))] Tryd.call138 rfl) (fun w1 hw1 => rleaf_c (g64 l i) x2.e x2.d x2.t w1 x2.hd x2.ht (GLr.at hw1 hGr) (GLi.at hw1 hGi)))) ?_
   rintro v1 L1 ⟨rfl, rfl⟩
   refine ⟨[], ?_⟩
   show DP _ _ _ _ _ _ _ _ [_, _]
   refine BT ⟨[11], [0, 1, 2, 3, 4, 5, 6, 7, 8, 9, 10], [1, 2, 3, 4, 5, 6, 7, 8, 9, 10], [0], [12]⟩ 12 _ rfl rfl (by decide +kernel) rfl ⟨⟨_, rfl, AB rfl (AD rfl)⟩, trivial⟩ rfl (A1 rfl (BF 54 32 _ [(0, .agg (cu8 (sumG constL initL (leafT (g64 l i) x2.e x2.d x2.t))).toArray)] (cu8 (sumG constL initL (leafT (g64 l i) x2.e x2.d x2.t))) A7 AQ BP rfl rfl rfl (EZ (BM _ _ _) (by kernel_rfl)))) ?_
   rintro v1 L1 ⟨nb4, hnb4, rfl, rfl⟩
   refine ⟨[], ?_⟩
   show DP _ _ _ _ _ _ _ _ [_, _, ⟨nb4, cu8 (sumG constL initL (leafT (g64 l i) x2.e x2.d x2.t)), 54, (0, 0)⟩]
   refine BT ⟨[11, 12], [0, 1, 2, 3, 4, 5, 6, 7, 8, 9, 10], [1, 2, 3, 4, 5, 6, 7, 8, 9, 10], [0], [13]⟩ 13 _ rfl rfl (by decide +kernel) rfl ⟨⟨_, rfl, AB rfl (AD rfl)⟩, trivial⟩ rfl (A1 rfl (Step_appH 65 54 32 32 (.agg (cu8 (zr8 32)).toArray) [false, true, false] (Slc gf 0 i cp) i o (sumG constL initL (leafT (g64 l i) x2.e x2.d x2.t)) (some ⟨nb4, 0, none⟩) 1 1 (i + 1) (32*i + 32) A7 (by kernel_rfl) (by kernel_rfl) (by decide) rfl (.inr ⟨gf, sp, cp, rfl, rfl, (by have h : (o).length = (32*i) := hi4; omega), (by first | exact hi5 | omega), (by omega), (by omega)⟩) rfl (by have h : (sumG constL initL (leafT (g64 l i) x2.e x2.d x2.t)).length = 32 := (BM _ _ _); omega) (SrcAt.mem (MemAt.ent 2 rfl (AM _))) (by omega) (by unfold maxLen; omega) (by omega) (by omega))) ?_
   rintro v1 L1 ⟨nb5, sp2, cp2, hg2, rfl, rfl, ha5, ha6, ha7, ha8⟩
   refine ⟨[(14, Slc nb5 0 (i + 1) cp2)], ?_⟩
   show DP _ _ _ _ _ _ _ _ [_, _, ⟨nb5, cu8 (o ++ (sumG constL initL (leafT (g64 l i) x2.e x2.d x2.t))) ++ sp2, 54, (0, 0)⟩]
   refine DG ⟨[11, 12, 13], [0, 1, 2, 3, 4, 5, 6, 7, 8, 9, 10, 14], [0, 1, 2, 3, 4, 5, 6, 7, 8, 9, 10], [14], []⟩ rfl rfl (by decide +kernel) rfl ⟨⟨_, rfl, AB rfl (AF rfl)⟩, trivial⟩ ?_
   refine CZ (F' := [(21, Slc gf 0 i cp), (22, Ptr nb1 1), (23, .slice ai ni ci), (24, I64 ((i:Int))), (25, Ptr bz3 (i + oz3)), (26, U64 (g64 l i)), (27, Ptr nb1 2), (28, .slice sa ns sc), (29, I64 ((i:Int))), (30, Ptr bz4 (49*i + oz4)), (31, .agg (List.toArray (α := Value) ([U64 x2.e] ++ cu8 x2.d ++ cu8 x2.t))), (32, .agg (cu8 (sumG constL initL (leafT (g64 l i) x2.e x2.d x2.t))).toArray), (33, Slc nb4 0 1 1), (34, Slc nb5 0 (i + 1) cp2), (3, Slc nb5 0 (i + 1) cp2), (1, Ptr nb1 0), (2, .slice none 0 0), (4, I64 ((i:Int))), (5, I64 ((i:Int))), (6, Ptr nb1 1), (7, .slice ai ni ci), (8, I64 ((ni:Int))), (9, .bool (decide (((i:Int)) < ((ni:Int))))), (12, Ptr nb1 0), (13, I64 ((k:Int))), (14, .bool (decide (((k:Int)) = (2:Int))))]) (by kernel_rfl) ?_
   refine BA (AE (AC (AA _ (AD rfl) rfl ?_)))
   refine AA (I64 ((i:Int) + 1)) (AK rfl rfl fun _ => CH _ _ ((i:Int) + 1) (by omega) (by omega)) rfl ?_
   refine AA _ (AF rfl) rfl ?_
   refine AI (CR (B5 [true, false, true] ?_))
   show K _ _ [_, _] _
   have hvi := lvH_of (l := l) hx2
   refine DT (.inr (i + 1, o ++ (sumG constL initL (leafT (g64 l i) x2.e x2.d x2.t)), nb5, sp2, cp2)) ⟨by omega, by omega, (by rw [lvT_succ l ls i, ← hvi, ← hi3]), (ha5).trans (by omega), (ha6).trans (by omega), by omega, by omega⟩ (by dsimp only; omega) (AH rfl (AH rfl (AH (E9 (by omega)) (AH rfl (Sub.nil))))) rfl
  ·
   have hp1 : ¬ (((i:Int)) < ((ni:Int))) := of_decide_eq_false hb1
   refine DL (AX (AX (CC (AE (AG (AC (AA _ (AD rfl) rfl ?_)))))))
   refine AA _ (AF rfl) rfl ?_
   refine AI (AE (BG (B5 [false, true] ?_)))
   show JQ _ _ _ _ [_]
   refine BI (Slc gf 0 i cp) (res1 Tryd.results73 (BK rfl)) fun w1 hw1 => ?_
   obtain rfl : i = ni := by omega
   rw [hi3] at hw1
   exact ⟨_, _, rfl, ⟨gf, sp, cp, rfl, rfl, by omega, by omega, hi7⟩, hw1.sub (by simp) (by simp)⟩
theorem rleaves2_c (pv ep : UInt64) (k : Nat) (ai : Option Addr) (ni ci : Nat) (l : List UInt64) (sa : Option Addr) (sc : Nat) (bl : UInt64)  (w : World) (hl : l.length = ni) (hnm : ni ≤ 2000000) (hnc : ni ≤ ci) (hcm : ci ≤ maxLen) (hv : RdV w ai (cu64 l)) (hcs : sc ≤ maxLen) (hnS : sa = none → sc = 0) (hk : k = 2) (hn1 : 1 ≤ ni) (hn3 : ni ≤ 300) (hGr : GLr w) (hGi : GLi w)  : Calls Tryd.prog 73 #[.agg (List.toArray (α := Value) ([I64 ((k:Int)), .slice ai ni ci, .slice sa 0 sc, U64 bl]))] w (Post w [] (fun v L => ∃ g sp cap, v = Slc g 0 ni cap ∧ L = [⟨g, cu8 (lvT l ([] : List SealR) ni) ++ sp, 54, (0, 0)⟩] ∧ sp.length = 32*cap - 32*ni ∧ ni ≤ cap ∧ cap ≤ maxLen)) := by
 have hmx : maxLen = 9223372036854775807 := rfl
 refine enter (P := Tryd.prog) (f := 73) (fn := Tryd.f73) w [] 36 [] [.agg (List.toArray (α := Value) ([I64 ((k:Int)), .slice ai ni ci, .slice sa 0 sc, U64 bl]))] Tryd.func73 rfl rfl (by simp) (BL (by simp) (by simp) (by simp)) ?_
 show JC _ _ _ [(0, .agg (List.toArray (α := Value) ([I64 ((k:Int)), .slice ai ni ci, .slice sa 0 sc, U64 bl])))] _
 refine AG (AC (AN (CM (.agg (List.toArray (α := Value) ([I64 ((k:Int)), .slice ai ni ci, .slice sa 0 sc, U64 bl]))) ([I64 ((k:Int)), .slice ai ni ci, .slice sa 0 sc, U64 bl]) rfl (by first | rfl | simp)) rfl ?_))
 rintro v1 L1 ⟨nb1, hnb1, rfl, rfl⟩
 show JL _ _ _ _ ((1, Ptr nb1 0) :: _) [⟨nb1, [I64 ((k:Int)), .slice ai ni ci, .slice sa 0 sc, U64 bl], 36, (0, 0)⟩]
 refine AA _ (AF rfl) rfl ?_
 refine AI (AE (AG (AC (AA _ (AF rfl) rfl ?_))))
 refine AI (AE (AG (AG (AC (AA _ (AF rfl) rfl ?_)))))
 refine AI (AE (BH (DN (ι := (Unit) ⊕ (Nat × List UInt8 × Nat × List Value × Nat)) (fun x => match x with | .inl _ => [(1, Ptr nb1 0), (2, .slice none 0 0), (3, .slice none 0 0), (4, I64 (0:Int))] | .inr ⟨i, o, gf, sp, cp⟩ => [(1, Ptr nb1 0), (2, .slice none 0 0), (3, Slc gf 0 i cp), (4, I64 ((i:Int)))]) (fun x => match x with | .inl _ => [⟨nb1, [I64 ((k:Int)), .slice ai ni ci, .slice sa 0 sc, U64 bl], 36, (0, 0)⟩] | .inr ⟨i, o, gf, sp, cp⟩ => [⟨nb1, [I64 ((k:Int)), .slice ai ni ci, .slice sa 0 sc, U64 bl], 36, (0, 0)⟩, ⟨gf, cu8 o ++ sp, 54, (0, 0)⟩]) (fun x => match x with | .inl _ => True | .inr ⟨i, o, gf, sp, cp⟩ => 0 < i ∧ i ≤ ni ∧ o = lvT l ([] : List SealR) i ∧ o.length = 32*i ∧ sp.length = 32*cp - 32*i ∧ i ≤ cp ∧ cp ≤ maxLen) (fun x => match x with | .inl _ => ni + 2 | .inr ⟨i, o, gf, sp, cp⟩ => ni + 1 - i) (.inl ()) trivial (AH rfl (AH rfl (AH rfl (AH rfl (Sub.nil))))) rfl ?_)))
 rintro (_ | ⟨i, o, gf, sp, cp⟩) hx
 ·
  obtain _ := hx
  show JC _ _ _ [(1, Ptr nb1 0), (2, .slice none 0 0), (3, .slice none 0 0), (4, I64 (0:Int))] [⟨nb1, [I64 ((k:Int)), .slice ai ni ci, .slice sa 0 sc, U64 bl], 36, (0, 0)⟩]
  refine AG (AG (AC (AA _ (AD rfl) rfl ?_)))
  refine AA (Ptr nb1 1) (AJ 1 23 1 A3 rfl CL rfl rfl) rfl ?_
  refine AA (.slice ai ni ci) (AL rfl (AZ CW (MemAt.ent 0 rfl (AR (Seg.head))))) rfl ?_
  refine AA (I64 ((ni:Int))) (DJ A9 rfl) rfl ?_
  refine AA (.bool (decide ((0:Int) < ((ni:Int))))) (AK rfl rfl fun _ => CP _ _) rfl ?_
  refine AI (AE (DM _ rfl (decide_eq_true (by omega)) ?_))
  refine BE (AE (AG (BH (AG (AC (AA (Ptr nb1 0) (AJ 0 3 1 A3 rfl B3 rfl rfl) rfl ?_))))))
  refine AA (I64 ((k:Int))) (AL rfl (AZ B7 (MemAt.ent 0 rfl (Seg.head)))) rfl ?_
  refine AA (.bool (decide (((k:Int)) = (2:Int)))) (AK rfl rfl fun _ => CU _ _) rfl ?_
  refine AI (AE (DM _ rfl (decide_eq_true (by omega)) ?_))
  refine AC (AA _ (AD rfl) rfl ?_)
  refine AN (B1 137 [] _ (AW [] Tryd.call137 rfl) (fun w1 hw1 => rempties_c w1 (GLr.at hw1 hGr) (GLi.at hw1 hGi))) rfl ?_
  rintro v1 L1 ⟨_, ⟨nb2, sp1, cp1, rfl, rfl, hc1, hc2, hc3⟩, rfl⟩
  show JL _ _ _ _ ((16, Slc nb2 0 33 cp1) :: _) [_, ⟨nb2, cu8 (empR 32) ++ sp1, 54, (0, 0)⟩]
  refine AA (Ptr nb2 0) (EU 54 32 0 A7 AQ rfl rfl (by omega) (by omega) (by omega)) rfl ?_
  have hl1 : (mid (empR 32) 0 32).length = 32 := DV (by rw [(empR_len 32)]; omega)
  refine AA (.agg (cu8 (mid (empR 32) 0 32)).toArray) (AL rfl (BO BS AQ (B2 hl1) (MemAt.ent 1 rfl (BV (E8 0 32 (by rw [(empR_len 32)]; omega)))))) rfl ?_
  refine AN (BF 54 32 _ [(0, .agg (cu8 (mid (empR 32) 0 32)).toArray)] (cu8 (mid (empR 32) 0 32)) A7 AQ BP rfl rfl rfl (EZ hl1 (by kernel_rfl))) rfl ?_
  rintro v1 L1 ⟨nb3, hnb3, rfl, rfl⟩
  show JL _ _ _ _ ((19, Slc nb3 0 1 1) :: _) [_, _, ⟨nb3, cu8 (mid (empR 32) 0 32), 54, (0, 0)⟩]
  refine AN (Step_appH 65 54 32 32 (.agg (cu8 (zr8 32)).toArray) [false, false, false] (.slice none 0 0) 0 ([] : List UInt8) (mid (empR 32) 0 32) (some ⟨nb3, 0, none⟩) 1 1 1 32 A7 (by kernel_rfl) (by kernel_rfl) (by decide) rfl (.inl ⟨rfl, rfl, rfl, rfl, by omega⟩) rfl (by have h : (mid (empR 32) 0 32).length = 32 := hl1; omega) (SrcAt.mem (MemAt.ent 2 rfl (AM _))) (by omega) (by unfold maxLen; omega) (by omega) (by omega)) rfl ?_
  rintro v1 L1 ⟨nb4, sp2, cp2, hg1, rfl, rfl, ha1, ha2, ha3, ha4⟩
  show JL _ _ _ _ ((20, Slc nb4 0 1 cp2) :: _) [_, _, _, ⟨nb4, cu8 (([] : List UInt8) ++ (mid (empR 32) 0 32)) ++ sp2, 54, (0, 0)⟩]
  refine AA _ (AF rfl) rfl ?_
  refine AI (BA (AE (AC (AA _ (AD rfl) rfl ?_))))
  refine AA (I64 (1:Int)) (AK rfl rfl fun _ => CH _ _ (1:Int) (by omega) (by omega)) rfl ?_
  refine AA _ (AF rfl) rfl ?_
  refine AI (CR (B5 [true, false, false, true] ?_))
  show K _ _ [_, _] _
  have hv0 := (show mid (empR 32) 0 32 = lvH l [] 0 from (empR_get 32 0 (by omega)).trans (lvH_nil l 0).symm)
  refine DT (.inr (1, ([] : List UInt8) ++ (mid (empR 32) 0 32), nb4, sp2, cp2)) ⟨by omega, by omega, (by rw [lvT_succ l ([] : List SealR) 0, ← hv0, lvT_zero]), (ha1).trans (by omega), (ha2).trans (by omega), by omega, by omega⟩ (by dsimp only; omega) (AH rfl (AH rfl (AH rfl (AH rfl (Sub.nil))))) rfl
 ·
  obtain ⟨hi1, hi2, hi3, hi4, hi5, hi6, hi7⟩ := hx
  show JC _ _ _ [(1, Ptr nb1 0), (2, .slice none 0 0), (3, Slc gf 0 i cp), (4, I64 ((i:Int)))] [⟨nb1, [I64 ((k:Int)), .slice ai ni ci, .slice sa 0 sc, U64 bl], 36, (0, 0)⟩, ⟨gf, cu8 o ++ sp, 54, (0, 0)⟩]
  refine AG (AG (AC (AA _ (AD rfl) rfl ?_)))
  refine AA (Ptr nb1 1) (AJ 1 23 1 A3 rfl CL rfl rfl) rfl ?_
  refine AA (.slice ai ni ci) (AL rfl (AZ CW (MemAt.ent 0 rfl (AR (Seg.head))))) rfl ?_
  refine AA (I64 ((ni:Int))) (DJ A9 rfl) rfl ?_
  refine AA (.bool (decide (((i:Int)) < ((ni:Int))))) (AK rfl rfl fun _ => CP _ _) rfl ?_
  refine AI (AE (CN (decide (((i:Int)) < ((ni:Int)))) rfl (fun hb1 => ?_) (fun hb1 => ?_)))
  ·
   have hp1 : ((i:Int)) < ((ni:Int)) := of_decide_eq_true hb1
   refine BE (AE (AG (BH (AG (AC (AA (Ptr nb1 0) (AJ 0 3 1 A3 rfl B3 rfl rfl) rfl ?_))))))
   refine AA (I64 ((k:Int))) (AL rfl (AZ B7 (MemAt.ent 0 rfl (Seg.head)))) rfl ?_
   refine AA (.bool (decide (((k:Int)) = (2:Int)))) (AK rfl rfl fun _ => CU _ _) rfl ?_
   refine AI (AE (DM _ rfl (decide_eq_true (by omega)) ?_))
   refine AC (AA _ (AD rfl) rfl ?_)
   refine AN (B1 137 [] _ (AW [] Tryd.call137 rfl) (fun w1 hw1 => rempties_c w1 (GLr.at hw1 hGr) (GLi.at hw1 hGi))) rfl ?_
   rintro v1 L1 ⟨_, ⟨nb5, sp3, cp3, rfl, rfl, hc4, hc5, hc6⟩, rfl⟩
   show JL _ _ _ _ ((16, Slc nb5 0 33 cp3) :: _) [_, _, ⟨nb5, cu8 (empR 32) ++ sp3, 54, (0, 0)⟩]
   refine AA (Ptr nb5 0) (EU 54 32 0 A7 AQ rfl rfl (by omega) (by omega) (by omega)) rfl ?_
   have hl2 : (mid (empR 32) 0 32).length = 32 := DV (by rw [(empR_len 32)]; omega)
   refine AA (.agg (cu8 (mid (empR 32) 0 32)).toArray) (AL rfl (BO BS AQ (B2 hl2) (MemAt.ent 2 rfl (BV (E8 0 32 (by rw [(empR_len 32)]; omega)))))) rfl ?_
   refine AN (BF 54 32 _ [(0, .agg (cu8 (mid (empR 32) 0 32)).toArray)] (cu8 (mid (empR 32) 0 32)) A7 AQ BP rfl rfl rfl (EZ hl2 (by kernel_rfl))) rfl ?_
   rintro v1 L1 ⟨nb6, hnb6, rfl, rfl⟩
   show JL _ _ _ _ ((19, Slc nb6 0 1 1) :: _) [_, _, _, ⟨nb6, cu8 (mid (empR 32) 0 32), 54, (0, 0)⟩]
   refine AN (Step_appH 65 54 32 32 (.agg (cu8 (zr8 32)).toArray) [false, true, false, false] (Slc gf 0 i cp) i o (mid (empR 32) 0 32) (some ⟨nb6, 0, none⟩) 1 1 (i + 1) (32*i + 32) A7 (by kernel_rfl) (by kernel_rfl) (by decide) rfl (.inr ⟨gf, sp, cp, rfl, rfl, (by have h : (o).length = (32*i) := hi4; omega), (by first | exact hi5 | omega), (by omega), (by omega)⟩) rfl (by have h : (mid (empR 32) 0 32).length = 32 := hl2; omega) (SrcAt.mem (MemAt.ent 3 rfl (AM _))) (by omega) (by unfold maxLen; omega) (by omega) (by omega)) rfl ?_
   rintro v1 L1 ⟨nb7, sp4, cp4, hg2, rfl, rfl, ha5, ha6, ha7, ha8⟩
   show JL _ _ _ _ ((20, Slc nb7 0 (i + 1) cp4) :: _) [_, _, _, ⟨nb7, cu8 (o ++ (mid (empR 32) 0 32)) ++ sp4, 54, (0, 0)⟩]
   refine AA _ (AF rfl) rfl ?_
   refine AI (BA (AE (AC (AA _ (AD rfl) rfl ?_))))
   refine AA (I64 ((i:Int) + 1)) (AK rfl rfl fun _ => CH _ _ ((i:Int) + 1) (by omega) (by omega)) rfl ?_
   refine AA _ (AF rfl) rfl ?_
   refine AI (CR (B5 [true, false, false, true] ?_))
   show K _ _ [_, _] _
   have hvi := (show mid (empR 32) 0 32 = lvH l [] i from (empR_get 32 0 (by omega)).trans (lvH_nil l i).symm)
   refine DT (.inr (i + 1, o ++ (mid (empR 32) 0 32), nb7, sp4, cp4)) ⟨by omega, by omega, (by rw [lvT_succ l ([] : List SealR) i, ← hvi, ← hi3]), (ha5).trans (by omega), (ha6).trans (by omega), by omega, by omega⟩ (by dsimp only; omega) (AH rfl (AH rfl (AH (E9 (by omega)) (AH rfl (Sub.nil))))) rfl
  ·
   have hp1 : ¬ (((i:Int)) < ((ni:Int))) := of_decide_eq_false hb1
   refine DL (AX (AX (CC (AE (AG (AC (AA _ (AD rfl) rfl ?_)))))))
   refine AA _ (AF rfl) rfl ?_
   refine AI (AE (BG (B5 [false, true] ?_)))
   show JQ _ _ _ _ [_]
   refine BI (Slc gf 0 i cp) (res1 Tryd.results73 (BK rfl)) fun w1 hw1 => ?_
   obtain rfl : i = ni := by omega
   rw [hi3] at hw1
   exact ⟨_, _, rfl, ⟨gf, sp, cp, rfl, rfl, by omega, by omega, hi7⟩, hw1.sub (by simp) (by simp)⟩
theorem hashes_c (a1 : Option Addr) (n1 c1 : Nat) (x1 : List UInt8) (a2 : Option Addr) (n2 c2 : Nat) (x2 : List UInt8)  (w : World) (hx1 : x1.length = 32*n1) (hx2 : x2.length = 32*n2) (hb1 : n1 ≤ 10000) (hb2 : n2 ≤ 10000) (hr1 : RdB w [] a1 x1) (hr2 : RdB w [] a2 x2)  : Calls Tryd.prog 72 #[.slice a1 n1 c1, .slice a2 n2 c2] w (Post w [] (fun v L => v = .bool (decide (x1 = x2)) ∧ L = [])) := by
 have hmx : maxLen = 9223372036854775807 := rfl
 refine enter w [] 26 [] [.slice a1 n1 c1, .slice a2 n2 c2] Tryd.func72 rfl rfl (by simp) (BL (by simp) (by simp) (by simp)) ?_
 show JC _ _ _ [(0, .slice a1 n1 c1), (1, .slice a2 n2 c2)] _
 refine AG (AC (AA _ (AF rfl) rfl ?_))
 refine AI (AE (AG (AG (AC (AA _ (AD rfl) rfl ?_)))))
 refine AA (I64 ((n1:Int))) (DJ A7 rfl) rfl ?_
 refine AA _ (AD rfl) rfl ?_
 refine AA (I64 ((n2:Int))) (DJ A7 rfl) rfl ?_
 refine AA (.bool (decide (((n1:Int)) ≠ ((n2:Int))))) (AK rfl rfl fun _ => bin_neq_i _ _) rfl ?_
 refine AI (AE (CN (decide (((n1:Int)) ≠ ((n2:Int)))) rfl (fun hb1 => ?_) (fun hb1 => ?_)))
 ·
  have hp1 : ((n1:Int)) ≠ ((n2:Int)) := of_decide_eq_true hb1
  refine AG (AC (AA _ (AF rfl) rfl ?_))
  refine AI (AE (BG (A0 (BI (.bool false) (res1 Tryd.results72 (BK rfl)) fun w1 hw1 => ?_))))
  refine ⟨_, [], rfl, ⟨congrArg Value.bool ?_, rfl⟩, hw1.sub (by simp) (by simp)⟩
  refine (decide_eq_false (fun e => ?_)).symm
  have := congrArg List.length e
  omega
 ·
  have hp1 : ¬ (((n1:Int)) ≠ ((n2:Int))) := of_decide_eq_false hb1
  refine BE (AE (AG (AG (AC (AA _ (AD rfl) rfl ?_)))))
  refine AA (I64 ((n1:Int))) (DJ A7 rfl) rfl ?_
  refine AA _ (AD rfl) rfl ?_
  refine AI (AE (BH (DN (ι := Nat) (fun i => [(0, .slice a1 n1 c1), (1, .slice a2 n2 c2), (12, I64 ((n1:Int))), (13, I64 ((i:Int)))]) (fun i => []) (fun i => i ≤ n1 ∧ ∀ j, j < i → mid x1 (j * 32) 32 = mid x2 (j * 32) 32) (fun i => n1 - i) 0 ⟨by omega, fun j hj => by omega⟩ (AH rfl (AH rfl (AH rfl (AH rfl (Sub.nil))))) rfl ?_)))
  rintro i ⟨hi1, hi2⟩
  show JC _ _ _ [(0, .slice a1 n1 c1), (1, .slice a2 n2 c2), (12, I64 ((n1:Int))), (13, I64 ((i:Int)))] []
  refine AG (AC (AA (.bool (decide (((i:Int)) < ((n1:Int))))) (AK rfl rfl fun _ => CP _ _) rfl ?_))
  refine AI (AE (AG (CN (decide (((i:Int)) < ((n1:Int)))) rfl (fun hb2 => ?_) (fun hb2 => ?_))))
  ·
   have hp2 : ((i:Int)) < ((n1:Int)) := of_decide_eq_true hb2
   refine BE (AE (AG (BH (AG (AC (AA _ (AD rfl) rfl ?_))))))
   refine AA _ (AF rfl) rfl ?_
   refine AI (AE (AG ?_))
   obtain ⟨bz1, oz1, hz1, hm1⟩ := hr1.pos (by rw [hx1]; omega)
   obtain ⟨bz2, oz2, hz2, hm2⟩ := hr2.pos (by rw [hx2]; omega)
   have hl1 : (mid x1 (32*i) 32).length = 32 := DV (by rw [hx1]; omega)
   have hl2 : (mid x2 (32*i) 32).length = 32 := DV (by rw [hx2]; omega)
   refine C3 26 1 [(0, .slice a1 n1 c1), (1, I64 ((i:Int))), (2, Ptr bz1 (32*i + oz1)), (3, .agg (cu8 (mid x1 (32*i) 32)).toArray), (4, .slice a2 n2 c2), (5, I64 ((i:Int))), (6, Ptr bz2 (32*i + oz2)), (7, .agg (cu8 (mid x2 (32*i) 32)).toArray), (8, .bool (!(decide ((mid x1 (32*i) 32) = (mid x2 (32*i) 32)))))] BQ rfl (by decide +kernel) ?_
   have hl3 : (mid x1 (32*i) 32).length = 32 := DV (by rw [hx1]; omega)
   have hl4 : (mid x2 (32*i) 32).length = 32 := DV (by rw [hx2]; omega)
   refine DG ⟨[], [0, 1, 2, 3, 4, 5, 6, 7, 8], [], [0, 1, 2, 3, 4, 5, 6, 7, 8], []⟩ rfl rfl (by decide +kernel) rfl ⟨⟨_, rfl, AB rfl (AD rfl)⟩, ⟨_, rfl, AB rfl (AD rfl)⟩, ⟨_, rfl, AB rfl (CF 54 32 (32*i + oz1) A7 AQ rfl hz1 rfl (by omega) (by omega) (by omega))⟩, ⟨_, rfl, AB rfl (AL rfl (BO BS AQ (B2 hl3) (CA (MemAt.base hm1.1 hm1.2.1 hm1.2.2) (E8 (32*i) 32 (by rw [hx1]; omega)) (by omega))))⟩, ⟨_, rfl, AB rfl (AD rfl)⟩, ⟨_, rfl, AB rfl (AD rfl)⟩, ⟨_, rfl, AB rfl (CF 54 32 (32*i + oz2) A7 AQ rfl hz2 rfl (by omega) (by omega) (by omega))⟩, ⟨_, rfl, AB rfl (AL rfl (BO BS AQ (B2 hl4) (CA (MemAt.base hm2.1 hm2.2.1 hm2.2.2) (E8 (32*i) 32 (by rw [hx2]; omega)) (by omega))))⟩, ⟨_, rfl, AB rfl (D8 _ _ _ rfl rfl (fun _ => eqGuard_agg _ _ _ _ _ _ (by kernel_rfl)) fun _ => neq_arr8 CB CD Tryd.isAgg5 Tryd.cells5 Tryd.has5 (by simp [hl1]) (by simp [hl2]))⟩, trivial⟩ ?_
   refine CZ (F' := [(16, .slice a1 n1 c1), (17, I64 ((i:Int))), (18, Ptr bz1 (32*i + oz1)), (19, .agg (cu8 (mid x1 (32*i) 32)).toArray), (20, .slice a2 n2 c2), (21, I64 ((i:Int))), (22, Ptr bz2 (32*i + oz2)), (23, .agg (cu8 (mid x2 (32*i) 32)).toArray), (24, .bool (!(decide ((mid x1 (32*i) 32) = (mid x2 (32*i) 32))))), (0, .slice a1 n1 c1), (1, .slice a2 n2 c2), (12, I64 ((n1:Int))), (13, I64 ((i:Int))), (14, .bool (decide (((i:Int)) < ((n1:Int))))), (15, I64 ((i:Int))), (5, I64 ((i:Int)))]) (by kernel_rfl) ?_
   refine AE (CN (!(decide ((mid x1 (32*i) 32) = (mid x2 (32*i) 32)))) rfl (fun hb3 => ?_) (fun hb3 => ?_))
   ·
    have hb4 : (decide ((mid x1 (32*i) 32) = (mid x2 (32*i) 32))) = false := by simpa using hb3
    have hp4 : ¬ ((mid x1 (32*i) 32) = (mid x2 (32*i) 32)) := of_decide_eq_false hb4
    refine AG (AC (AA _ (AF rfl) rfl ?_))
    refine AI (AE (BG (C0 (A0 (A0 (C0 (A0 (BI (.bool false) (res1 Tryd.results72 (BK rfl)) fun w1 hw1 => ?_))))))))
    refine ⟨_, [], rfl, ⟨congrArg Value.bool ?_, rfl⟩, hw1.sub (by simp) (by simp)⟩
    exact (decide_eq_false (fun e => (by assumption : ¬ _) (by rw [e]))).symm
   ·
    have hb5 : (decide ((mid x1 (32*i) 32) = (mid x2 (32*i) 32))) = true := by simpa using hb3
    have hp5 : (mid x1 (32*i) 32) = (mid x2 (32*i) 32) := of_decide_eq_true hb5
    refine BE (BA (AE (AC (AA (I64 ((i:Int) + 1)) (AK rfl rfl fun _ => CH _ _ ((i:Int) + 1) (by omega) (by omega)) rfl ?_))))
    refine AA _ (AD rfl) rfl ?_
    refine AI (CR (DT (i + 1) ⟨by omega, mid_step (by first | assumption | exact Classical.not_not.1 (by assumption)) hi2⟩ (by first | omega | (dsimp only; omega)) (AH rfl (AH rfl (AH rfl (AH rfl (Sub.nil))))) rfl))
  ·
   have hp2 : ¬ (((i:Int)) < ((n1:Int))) := of_decide_eq_false hb2
   refine DL (AX (AX (CC (AE (AG (AC (AA _ (AF rfl) rfl ?_)))))))
   refine AI (AE (BG (BI (.bool true) (res1 Tryd.results72 (BK rfl)) fun w1 hw1 => ?_)))
   refine ⟨_, [], rfl, ⟨congrArg Value.bool ?_, rfl⟩, hw1.sub (by simp) (by simp)⟩
   obtain rfl : n1 = n2 := by omega
   obtain rfl : i = n1 := by omega
   exact (decide_eq_true (mid_ext (hx1.trans (by omega)) (hx2.trans (by omega)) hi2)).symm
end Go.Proofs.YtkdpdgpphpngeaaDoor
namespace Go.Proofs.YtkdpdgpphpngeaaDoor
open Go Go.Sx
set_option linter.unusedVariables false
set_option linter.unusedSimpArgs false
set_option maxRecDepth 100000
attribute [local irreducible] mid zr8 zr32 numK rnK rotr wordL spreadL comprL cpN adN spN wrdN constL initL padL stN outN routN sumG putL leafT joinT empL empA empR RightB tktT mayN idxT selT macL tkG
theorem chkK_c (key : List UInt8) (pv ep : UInt64) (k : Nat) (ai : Option Addr) (ni ci : Nat) (l : List UInt64) (sa : Option Addr) (ns sc : Nat) (ls : List SealR) (bl : UInt64) (tg : List UInt8) (tot : Nat)  (w : World) (hk32 : key.length = 32) (hl : l.length = ni) (hnm : ni ≤ 2000000) (hnc : ni ≤ ci) (hcm : ci ≤ maxLen) (hv : RdV w ai (cu64 l)) (hls : ls.length = ns) (hnn : ns ≤ 2000000) (hnd : ns ≤ sc) (hcn : sc ≤ maxLen) (hs : RdV w sa (ls.flatMap sealC)) (htg : tg.length = 16) (hmay : mayN pv ep (k:Int) l ls bl = 0) (hk : k = 1 ∨ k = 2 ∨ k = 3) (hsm : ns ≤ 300) (htot : tktN k ni ns = tot) (htb : tot ≤ 30000) (hG : GLs w) (hau : tg = tkG key pv ep k l ls bl)  : Calls Tryd.prog 48 #[.agg (cu8 key).toArray, .agg (List.toArray (α := Value) ([U64 pv, U64 ep, I64 ((k:Int)), .slice ai ni ci, .slice sa ns sc, U64 bl] ++ cu8 tg))] w (Post w [] (fun v L => v = .nilIface ∧ L = [])) := by
 have hmx : maxLen = 9223372036854775807 := rfl
 refine enter (P := Tryd.prog) (f := 48) (fn := Tryd.f48) w [] 25 [] [.agg (cu8 key).toArray, .agg (List.toArray (α := Value) ([U64 pv, U64 ep, I64 ((k:Int)), .slice ai ni ci, .slice sa ns sc, U64 bl] ++ cu8 tg))] Tryd.func48 rfl rfl (by simp) (BL (by simp) (by simp) (by simp)) ?_
 show JC _ _ _ [(0, .agg (cu8 key).toArray), (1, .agg (List.toArray (α := Value) ([U64 pv, U64 ep, I64 ((k:Int)), .slice ai ni ci, .slice sa ns sc, U64 bl] ++ cu8 tg)))] _
 refine AG (AC (AN (CM (.agg (cu8 key).toArray) (cu8 key) rfl (by first | rfl | simp)) rfl ?_))
 rintro v1 L1 ⟨nb1, hnb1, rfl, rfl⟩
 show JL _ _ _ _ ((2, Ptr nb1 0) :: _) [⟨nb1, cu8 key, 54, (0, 0)⟩]
 refine AN (CM (.agg (List.toArray (α := Value) ([U64 pv, U64 ep, I64 ((k:Int)), .slice ai ni ci, .slice sa ns sc, U64 bl] ++ cu8 tg))) ([U64 pv, U64 ep, I64 ((k:Int)), .slice ai ni ci, .slice sa ns sc, U64 bl] ++ cu8 tg) rfl (by first | rfl | simp)) rfl ?_
 rintro v1 L1 ⟨nb2, hnb2, rfl, rfl⟩
 show JL _ _ _ _ ((3, Ptr nb2 0) :: _) [_, ⟨nb2, [U64 pv, U64 ep, I64 ((k:Int)), .slice ai ni ci, .slice sa ns sc, U64 bl] ++ cu8 tg, 29, (0, 0)⟩]
 refine AA _ (AF rfl) rfl ?_
 refine AI (AE (AG (AC (AA (.agg (List.toArray (α := Value) ([U64 pv, U64 ep, I64 ((k:Int)), .slice ai ni ci, .slice sa ns sc, U64 bl] ++ cu8 tg))) (AL rfl (BO D7 C4 (by simp [htg]) (MemAt.ent 1 rfl (AM _)))) rfl ?_))))
 refine AN (B1 114 [.agg (List.toArray (α := Value) ([U64 pv, U64 ep, I64 ((k:Int)), .slice ai ni ci, .slice sa ns sc, U64 bl] ++ cu8 tg))] _ (AW [.agg (List.toArray (α := Value) ([U64 pv, U64 ep, I64 ((k:Int)), .slice ai ni ci, .slice sa ns sc, U64 bl] ++ cu8 tg))] Tryd.call114 rfl) (fun w1 hw1 => text_w pv ep k ai ni ci l sa ns sc ls bl tg tot w1 hl (by omega) (by omega) (by omega) (DD hw1 rfl hv) hls (by omega) (by omega) (by omega) (DD hw1 rfl hs) htg hmay hk hsm htot)) rfl ?_
 rintro v1 L1 ⟨_, ⟨nb3, sp1, cp1, rfl, rfl, hc1, hc2, hc3⟩, rfl⟩
 show JL _ _ _ _ ((9, .tuple #[Slc nb3 0 tot cp1, .nilIface]) :: _) [_, _, ⟨nb3, cu8 (tktT pv ep k l ls bl) ++ sp1, 5, (0, 0)⟩]
 refine AA _ (AD rfl) rfl ?_
 refine AA _ (BJ rfl rfl) rfl ?_
 refine AA _ (BJ rfl rfl) rfl ?_
 refine AA _ (AF rfl) rfl ?_
 refine AA _ (AF rfl) rfl ?_
 refine AI (AE (AG (BH (AG (AC (AA _ (AD rfl) rfl ?_))))))
 refine AA (.bool false) (D8 _ _ _ rfl rfl (fun _ => D6 ..) fun _ => DS B8) rfl ?_
 refine AA _ (AF rfl) rfl ?_
 refine AI (AE (B9 _ rfl rfl ?_))
 refine AG (C3 25 3 [(0, Ptr nb2 6), (1, Slc nb2 6 16 16), (2, Slc nb1 0 32 32), (3, Slc nb3 0 tot cp1)] BQ rfl (by decide +kernel) ?_)
 refine BT ⟨[], [0, 1, 2, 3], [], [0, 1, 2, 3], [4]⟩ 4 _ rfl rfl (by decide +kernel) rfl ⟨⟨_, rfl, AB rfl (AJ 6 27 16 BN rfl DW rfl rfl)⟩, ⟨_, rfl, AB rfl (CT 16 5 1 0 16 6 16 C2 AY rfl rfl rfl (by omega) (by omega) (by omega) (by omega) (by omega) 16 (by omega))⟩, ⟨_, rfl, AB rfl (CT 32 5 1 0 32 0 32 CB AY rfl rfl rfl (by omega) (by omega) (by omega) (by omega) (by omega) 32 (by omega))⟩, ⟨_, rfl, AB rfl (AD rfl)⟩, trivial⟩ rfl (A1 rfl (BF 43 1 _ [(0, Slc nb3 0 tot cp1)] ([Slc nb3 0 tot cp1]) EE BZ Tryd.zeroValue43 rfl rfl rfl (by kernel_rfl))) ?_
 rintro v1 L1 ⟨nb4, hnb4, rfl, rfl⟩
 refine ⟨[], ?_⟩
 show DP _ _ _ _ _ _ _ _ [_, _, _, ⟨nb4, [Slc nb3 0 tot cp1], 43, (0, 0)⟩]
 refine BT ⟨[4], [0, 1, 2, 3], [3], [0, 1, 2], [5]⟩ 5 _ rfl rfl (by decide +kernel) rfl ⟨⟨_, rfl, AB rfl (AJ 6 27 16 BN rfl DW rfl rfl)⟩, ⟨_, rfl, AB rfl (CT 16 5 1 0 16 6 16 C2 AY rfl rfl rfl (by omega) (by omega) (by omega) (by omega) (by omega) 16 (by omega))⟩, ⟨_, rfl, AB rfl (CT 32 5 1 0 32 0 32 CB AY rfl rfl rfl (by omega) (by omega) (by omega) (by omega) (by omega) 32 (by omega))⟩, trivial⟩ rfl (A1 rfl (AT 107 [Slc nb2 6 16 16, Slc nb1 0 32 32, Slc nb4 0 1 1] (.bool (decide (tg = macL key ([tktT pv ep k l ls bl].flatten)) || decide (tg = mid (macL key ([tktT pv ep k l ls bl].flatten)) 0 16))) (AW [Slc nb2 6 16 16, Slc nb1 0 32 32, Slc nb4 0 1 1] Tryd.call107 rfl) (fun w1 hw1 => check_c (some ⟨nb2, 6, none⟩) 16 16 tg (some ⟨nb1, 0, none⟩) 32 32 key nb4 1 [Slc nb3 0 tot cp1] [tktT pv ep k l ls bl] w1 htg (by omega) (RdB.of hw1 (MemAt.ent 1 rfl (Seg.right 6 0 rfl rfl (AM _))) (by simp)) hk32 (fun h => by cases h) (by omega) (RdB.of hw1 (MemAt.ent 0 rfl (AM _)) (by simp)) (by simp) (by simp) (by simp) ⟨RdA.of hw1 (MemAt.ent 3 rfl (Seg.head)) (by simp), ⟨⟨(some ⟨nb3, 0, none⟩), cp1, congrArg (fun n => Value.slice (some ⟨nb3, 0, none⟩) n cp1) ((show (tktT pv ep k l ls bl).length = tot from ((FH hl hls).trans htot))).symm, (RdB.of hw1 (MemAt.ent 2 rfl (BV (AM _))) (by simp))⟩, trivial⟩⟩ (by simp only [List.flatten_cons, List.flatten_nil, List.length_append, List.length_nil, (show (tktT pv ep k l ls bl).length = tot from ((FH hl hls).trans htot))]; omega) (hG.at hw1)))) ?_
 rintro v1 L1 ⟨rfl, rfl⟩
 refine ⟨[(6, .bool (!(decide (tg = macL key ([tktT pv ep k l ls bl].flatten)) || decide (tg = mid (macL key ([tktT pv ep k l ls bl].flatten)) 0 16)))), (7, .bool (!(decide (tg = macL key ([tktT pv ep k l ls bl].flatten)) || decide (tg = mid (macL key ([tktT pv ep k l ls bl].flatten)) 0 16))))], ?_⟩
 show DP _ _ _ _ _ _ _ _ [_, _, _, _]
 refine DG ⟨[4, 5], [0, 1, 2, 3, 6, 7], [0, 1, 2, 3], [6, 7], []⟩ rfl rfl (by decide +kernel) rfl ⟨⟨_, rfl, AB rfl (ER rfl)⟩, ⟨_, rfl, AB rfl (AF rfl)⟩, trivial⟩ ?_
 refine CZ (F' := [(16, .bool (!(decide (tg = macL key ([tktT pv ep k l ls bl].flatten)) || decide (tg = mid (macL key ([tktT pv ep k l ls bl].flatten)) 0 16)))), (4, .nilIface)]) (by kernel_rfl) ?_
 refine AE (B9 _ rfl (by rw [show ((decide (tg = macL key ([tktT pv ep k l ls bl].flatten)) || decide (tg = mid (macL key ([tktT pv ep k l ls bl].flatten)) 0 16))) = true from (by rw [chk_tk _ _ _ _ _ _ _ htg]; exact decide_eq_true hau)] <;> rfl) ?_)
 refine BE (BA (AE (AG (AC (AA _ (AF rfl) rfl ?_)))))
 refine AI (AE (BG (B5 [false, false, false, false] ?_)))
 show JQ _ _ _ _ []
 refine BI (.nilIface) (res1 Tryd.results48 (BK rfl)) fun w1 hw1 => ?_
 exact ⟨_, [], rfl, ⟨rfl, rfl⟩, hw1.sub (by simp) (by simp)⟩
theorem bld26_0123 {w : World} {v0 : Value} {v1 : Value} {v2 : Value} {v3 : Value} (h0 : v0.cells = [v0].toArray) (h1 : v1.cells = [v1].toArray) (h2 : v2.cells = [v2].toArray) (h3 : v3.cells = [v3].toArray) : (Instr.build 26 ([(0, v0), (1, v1), (2, v2), (3, v3)] : List (Nat × Value)).toArray).run Tryd.prog w = .ok (.agg (((([v0] : List Value) ++ ([v1] : List Value)) ++ ([v2] : List Value)) ++ ([v3] : List Value)).toArray) w :=
 FB (places := #[(0, 1), (1, 1), (2, 1), (3, 1)]) (Z := (([I64 (0:Int)] : List Value) ++ (([.slice none 0 0] : List Value) ++ (([.slice none 0 0] : List Value) ++ (([U64 (0:UInt64)] : List Value) ++ []))))) (fun _ => by kernel_rfl) AO (fun _ => by kernel_rfl) ((fill_start ([I64 (0:Int)] : List Value) (([.slice none 0 0] : List Value) ++ (([.slice none 0 0] : List Value) ++ (([U64 (0:UInt64)] : List Value) ++ []))) ([v0] : List Value) h0 (by simp [A2]) rfl).trans ((FD ([v0] : List Value) ([.slice none 0 0] : List Value) (([.slice none 0 0] : List Value) ++ (([U64 (0:UInt64)] : List Value) ++ [])) ([v1] : List Value) h1 (by simp [A2]) rfl).trans ((FD (([v0] : List Value) ++ ([v1] : List Value)) ([.slice none 0 0] : List Value) (([U64 (0:UInt64)] : List Value) ++ []) ([v2] : List Value) h2 (by simp [A2]) rfl).trans ((FD ((([v0] : List Value) ++ ([v1] : List Value)) ++ ([v2] : List Value)) ([U64 (0:UInt64)] : List Value) [] ([v3] : List Value) h3 (by simp [A2]) rfl).trans (by simp [Instr.fill])))))
theorem bld29_012 {w : World} {v0 : Value} {v1 : Value} {c2 : List Value} (h0 : v0.cells = [v0].toArray) (h1 : v1.cells = [v1].toArray) (h2 : c2.length = 4) : (Instr.build 29 ([(0, v0), (1, v1), (2, .agg c2.toArray)] : List (Nat × Value)).toArray).run Tryd.prog w = .ok (.agg (((([v0] : List Value) ++ ([v1] : List Value)) ++ c2) ++ (cu8 (zr8 16) : List Value)).toArray) w :=
 FB (places := #[(0, 1), (1, 1), (2, 4), (6, 16)]) (Z := (([U64 (0:UInt64)] : List Value) ++ (([U64 (0:UInt64)] : List Value) ++ (([I64 (0:Int), .slice none 0 0, .slice none 0 0, U64 (0:UInt64)] : List Value) ++ ((cu8 (zr8 16) : List Value) ++ []))))) (fun _ => by kernel_rfl) BN (fun _ => by kernel_rfl) ((fill_start ([U64 (0:UInt64)] : List Value) (([U64 (0:UInt64)] : List Value) ++ (([I64 (0:Int), .slice none 0 0, .slice none 0 0, U64 (0:UInt64)] : List Value) ++ ((cu8 (zr8 16) : List Value) ++ []))) ([v0] : List Value) h0 (by simp [A2]) rfl).trans ((FD ([v0] : List Value) ([U64 (0:UInt64)] : List Value) (([I64 (0:Int), .slice none 0 0, .slice none 0 0, U64 (0:UInt64)] : List Value) ++ ((cu8 (zr8 16) : List Value) ++ [])) ([v1] : List Value) h1 (by simp [A2]) rfl).trans ((FD (([v0] : List Value) ++ ([v1] : List Value)) ([I64 (0:Int), .slice none 0 0, .slice none 0 0, U64 (0:UInt64)] : List Value) ((cu8 (zr8 16) : List Value) ++ []) c2 rfl (by simp [A2, h2]) (by simp [h2, A2])).trans ((fill_skip ((([v0] : List Value) ++ ([v1] : List Value)) ++ c2) (cu8 (zr8 16) : List Value) []).trans (by simp [Instr.fill])))))
theorem sign3_c (key : List UInt8) (pv ep : UInt64) (k : Nat) (ai : Option Addr) (ci : Nat) (sa : Option Addr) (sc : Nat) (bl : UInt64) (tot : Nat)  (w : World) (hk32 : key.length = 32) (hci : ci ≤ maxLen) (hnI : ai = none → ci = 0) (hcs : sc ≤ maxLen) (hnS : sa = none → sc = 0) (hmay : mayN pv ep (k:Int) ([] : List UInt64) ([] : List SealR) bl = 0) (hk : k = 3) (htot : tktN k 0 0 = tot) (htb : tot ≤ 30000) (hG : GLs w)  : Calls Tryd.prog 46 #[.agg (cu8 key).toArray, U64 pv, U64 ep, .agg (List.toArray (α := Value) ([I64 ((k:Int)), .slice ai 0 ci, .slice sa 0 sc, U64 bl]))] w (Post w [] (fun v L => ∃ a1 c1 a2 c2, v = .tuple #[.agg (List.toArray (α := Value) ([U64 pv, U64 ep, I64 (k:Int), .slice a1 0 c1, .slice a2 0 c2, U64 bl] ++ cu8 (tkG key pv ep k ([] : List UInt64) ([] : List SealR) bl))), .nilIface] ∧ L = [] ∧ c1 ≤ maxLen ∧ (a1 = none → c1 = 0) ∧ c2 ≤ maxLen ∧ (a2 = none → c2 = 0))) := by
 have hmx : maxLen = 9223372036854775807 := rfl
 refine enter (P := Tryd.prog) (f := 46) (fn := Tryd.f46) w [] 44 [] [.agg (cu8 key).toArray, U64 pv, U64 ep, .agg (List.toArray (α := Value) ([I64 ((k:Int)), .slice ai 0 ci, .slice sa 0 sc, U64 bl]))] Tryd.func46 rfl rfl (by simp) (BL (by simp) (by simp) (by simp)) ?_
 show JC _ _ _ [(0, .agg (cu8 key).toArray), (1, U64 pv), (2, U64 ep), (3, .agg (List.toArray (α := Value) ([I64 ((k:Int)), .slice ai 0 ci, .slice sa 0 sc, U64 bl])))] _
 refine AG (AC (AN (CM (.agg (cu8 key).toArray) (cu8 key) rfl (by first | rfl | simp)) rfl ?_))
 rintro v1 L1 ⟨nb1, hnb1, rfl, rfl⟩
 show JL _ _ _ _ ((4, Ptr nb1 0) :: _) [⟨nb1, cu8 key, 54, (0, 0)⟩]
 refine AN (CM (.agg (List.toArray (α := Value) ([I64 ((k:Int)), .slice ai 0 ci, .slice sa 0 sc, U64 bl]))) ([I64 ((k:Int)), .slice ai 0 ci, .slice sa 0 sc, U64 bl]) rfl (by first | rfl | simp)) rfl ?_
 rintro v1 L1 ⟨nb2, hnb2, rfl, rfl⟩
 show JL _ _ _ _ ((7, Ptr nb2 0) :: _) [_, ⟨nb2, [I64 ((k:Int)), .slice ai 0 ci, .slice sa 0 sc, U64 bl], 26, (0, 0)⟩]
 refine AN (BR _ ([U64 (0:UInt64), U64 (0:UInt64), I64 (0:Int), .slice none 0 0, .slice none 0 0, U64 (0:UInt64)] ++ cu8 (zr8 16)) Tryd.zeroValue29 (by kernel_rfl)) rfl ?_
 rintro v1 L1 ⟨nb3, hnb3, rfl, rfl⟩
 show JL _ _ _ _ ((8, Ptr nb3 0) :: _) [_, _, ⟨nb3, [U64 (0:UInt64), U64 (0:UInt64), I64 (0:Int), .slice none 0 0, .slice none 0 0, U64 (0:UInt64)] ++ cu8 (zr8 16), 29, (0, 0)⟩]
 refine AA _ (AF rfl) rfl ?_
 refine AI (AE (AG (C3 44 5 [(0, U64 pv), (1, U64 ep), (2, Ptr nb2 0), (3, I64 ((k:Int))), (4, Ptr nb2 1), (5, .slice ai 0 ci), (7, Ptr nb2 2), (8, .slice sa 0 sc), (10, Ptr nb2 3), (11, U64 bl)] BQ rfl (by decide +kernel) ?_)))
 refine DP_two ⟨[], [0, 1, 2, 3, 4, 5, 7, 8, 10, 11], [], [0, 1, 2, 3, 4, 5, 7, 8, 10, 11], [6, 14]⟩ 6 14 _ _ rfl rfl (by decide +kernel) rfl ⟨⟨_, rfl, AB rfl (AD rfl)⟩, ⟨_, rfl, AB rfl (AD rfl)⟩, ⟨_, rfl, AB rfl (AJ 0 3 1 AO rfl B3 rfl rfl)⟩, ⟨_, rfl, AB rfl (AL rfl (AZ B7 (MemAt.ent 1 rfl (Seg.head))))⟩, ⟨_, rfl, AB rfl (AJ 1 23 1 AO rfl CL rfl rfl)⟩, ⟨_, rfl, AB rfl (AL rfl (AZ CW (MemAt.ent 1 rfl (AR (Seg.head)))))⟩, ⟨_, rfl, AB rfl (AJ 2 24 1 AO rfl DC rfl rfl)⟩, ⟨_, rfl, AB rfl (AL rfl (AZ DQ (MemAt.ent 1 rfl (AR (AR (Seg.head))))))⟩, ⟨_, rfl, AB rfl (AJ 3 22 1 AO rfl A6 rfl rfl)⟩, ⟨_, rfl, AB rfl (AL rfl (AZ BC (MemAt.ent 1 rfl (AR (AR (AR (Seg.head)))))))⟩, trivial⟩ rfl rfl (A1 rfl (B1 112 [.slice ai 0 ci] _ (AW [.slice ai 0 ci] Tryd.call112 rfl) (fun w1 hw1 => clone64Z_w ai ci w1 (by omega) hnI))) (A1 rfl (BR _ ([U64 (0:UInt64), U64 (0:UInt64), I64 (0:Int), .slice none 0 0, .slice none 0 0, U64 (0:UInt64)] ++ cu8 (zr8 16)) Tryd.zeroValue29 (by kernel_rfl))) ?_ ?_
 ·
  rintro v1 L1 ⟨_, ⟨ao1, ca1, rfl, rfl, hc1, hc2⟩, rfl⟩
  refine ⟨[], ?_⟩
  show DP _ _ _ _ _ _ _ _ [_, _, _]
  refine DP_two ⟨[6], [0, 1, 2, 3, 4, 5, 7, 8, 10, 11], [4, 5], [0, 1, 2, 3, 7, 8, 10, 11], [9, 14]⟩ 9 14 _ _ rfl rfl (by decide +kernel) rfl ⟨⟨_, rfl, AB rfl (AD rfl)⟩, ⟨_, rfl, AB rfl (AD rfl)⟩, ⟨_, rfl, AB rfl (AJ 0 3 1 AO rfl B3 rfl rfl)⟩, ⟨_, rfl, AB rfl (AL rfl (AZ B7 (MemAt.ent 1 rfl (Seg.head))))⟩, ⟨_, rfl, AB rfl (AJ 2 24 1 AO rfl DC rfl rfl)⟩, ⟨_, rfl, AB rfl (AL rfl (AZ DQ (MemAt.ent 1 rfl (AR (AR (Seg.head))))))⟩, ⟨_, rfl, AB rfl (AJ 3 22 1 AO rfl A6 rfl rfl)⟩, ⟨_, rfl, AB rfl (AL rfl (AZ BC (MemAt.ent 1 rfl (AR (AR (AR (Seg.head)))))))⟩, trivial⟩ rfl rfl (A1 rfl (B1 113 [.slice sa 0 sc] _ (AW [.slice sa 0 sc] Tryd.call113 rfl) (fun w1 hw1 => cloneSZ_w sa sc w1 (by omega) hnS))) (A1 rfl (BR _ ([U64 (0:UInt64), U64 (0:UInt64), I64 (0:Int), .slice none 0 0, .slice none 0 0, U64 (0:UInt64)] ++ cu8 (zr8 16)) Tryd.zeroValue29 (by kernel_rfl))) ?_ ?_
  ·
   rintro v1 L1 ⟨_, ⟨ao2, ca2, rfl, rfl, hc3, hc4⟩, rfl⟩
   refine ⟨[(12, .agg (List.toArray (α := Value) ([I64 ((k:Int)), .slice ao1 0 ca1, .slice ao2 0 ca2, U64 bl]))), (13, .agg (List.toArray (α := Value) ([U64 pv, U64 ep, I64 ((k:Int)), .slice ao1 0 ca1, .slice ao2 0 ca2, U64 bl] ++ cu8 (zr8 16))))], ?_⟩
   show DP _ _ _ _ _ _ _ _ [_, _, _]
   refine BT ⟨[6, 9], [0, 1, 2, 3, 4, 5, 7, 8, 10, 11, 12, 13], [4, 5, 7, 8], [0, 1, 2, 3, 10, 11, 12, 13], [14]⟩ 14 _ rfl rfl (by decide +kernel) rfl ⟨⟨_, rfl, AB rfl (AD rfl)⟩, ⟨_, rfl, AB rfl (AD rfl)⟩, ⟨_, rfl, AB rfl (AJ 0 3 1 AO rfl B3 rfl rfl)⟩, ⟨_, rfl, AB rfl (AL rfl (AZ B7 (MemAt.ent 1 rfl (Seg.head))))⟩, ⟨_, rfl, AB rfl (AJ 3 22 1 AO rfl A6 rfl rfl)⟩, ⟨_, rfl, AB rfl (AL rfl (AZ BC (MemAt.ent 1 rfl (AR (AR (AR (Seg.head)))))))⟩, ⟨_, rfl, AB rfl (EG [(0, I64 ((k:Int))), (1, .slice ao1 0 ca1), (2, .slice ao2 0 ca2), (3, U64 bl)] _ rfl (fun _ => bld26_0123 rfl rfl rfl rfl))⟩, ⟨_, rfl, AB rfl (EG [(0, U64 pv), (1, U64 ep), (2, .agg (List.toArray (α := Value) ([I64 ((k:Int)), .slice ao1 0 ca1, .slice ao2 0 ca2, U64 bl])))] _ rfl (fun _ => bld29_012 rfl rfl (by simp [A2])))⟩, trivial⟩ rfl (A1 rfl (BR _ ([U64 (0:UInt64), U64 (0:UInt64), I64 (0:Int), .slice none 0 0, .slice none 0 0, U64 (0:UInt64)] ++ cu8 (zr8 16)) Tryd.zeroValue29 (by kernel_rfl))) ?_
   rintro v1 L1 ⟨nb6, hnb6, rfl, rfl⟩
   refine ⟨[], ?_⟩
   show DP _ _ _ _ _ _ _ _ [_, _, _, ⟨nb6, [U64 (0:UInt64), U64 (0:UInt64), I64 (0:Int), .slice none 0 0, .slice none 0 0, U64 (0:UInt64)] ++ cu8 (zr8 16), 29, (0, 0)⟩]
   refine BT ⟨[6, 9, 14], [0, 1, 2, 3, 4, 5, 7, 8, 10, 11, 12, 13], [4, 5, 7, 8], [0, 1, 2, 3, 10, 11, 12, 13], [15]⟩ 15 _ rfl rfl (by decide +kernel) rfl ⟨⟨_, rfl, AB rfl (AD rfl)⟩, ⟨_, rfl, AB rfl (AD rfl)⟩, ⟨_, rfl, AB rfl (AJ 0 3 1 AO rfl B3 rfl rfl)⟩, ⟨_, rfl, AB rfl (AL rfl (AZ B7 (MemAt.ent 1 rfl (Seg.head))))⟩, ⟨_, rfl, AB rfl (AJ 3 22 1 AO rfl A6 rfl rfl)⟩, ⟨_, rfl, AB rfl (AL rfl (AZ BC (MemAt.ent 1 rfl (AR (AR (AR (Seg.head)))))))⟩, ⟨_, rfl, AB rfl (EG [(0, I64 ((k:Int))), (1, .slice ao1 0 ca1), (2, .slice ao2 0 ca2), (3, U64 bl)] _ rfl (fun _ => bld26_0123 rfl rfl rfl rfl))⟩, ⟨_, rfl, AB rfl (EG [(0, U64 pv), (1, U64 ep), (2, .agg (List.toArray (α := Value) ([I64 ((k:Int)), .slice ao1 0 ca1, .slice ao2 0 ca2, U64 bl])))] _ rfl (fun _ => bld29_012 rfl rfl (by simp [A2])))⟩, trivial⟩ rfl (A1 rfl (A8 3 nb6 0 22 ([U64 (0:UInt64), U64 (0:UInt64), I64 (0:Int), .slice none 0 0, .slice none 0 0, U64 (0:UInt64)] ++ cu8 (zr8 16)) 29 (.agg (List.toArray (α := Value) ([U64 pv, U64 ep, I64 ((k:Int)), .slice ao1 0 ca1, .slice ao2 0 ca2, U64 bl] ++ cu8 (zr8 16)))) ([U64 pv, U64 ep, I64 ((k:Int)), .slice ao1 0 ca1, .slice ao2 0 ca2, U64 bl] ++ cu8 (zr8 16)) ([U64 pv, U64 ep, I64 ((k:Int)), .slice ao1 0 ca1, .slice ao2 0 ca2, U64 bl] ++ cu8 (zr8 16)) rfl rfl rfl (by first | rfl | simp) C4 (by simp [(A2 16)]) (FA (by simp [Value.oneCell']) C5) (by simp [(A2 16)]) (BU (by simp [(A2 16), (A2 16)])))) ?_
   rintro v1 L1 ⟨rfl, rfl⟩
   refine ⟨[], ?_⟩
   show DP _ _ _ _ _ _ _ _ [_, _, _, ⟨nb6, [U64 pv, U64 ep, I64 ((k:Int)), .slice ao1 0 ca1, .slice ao2 0 ca2, U64 bl] ++ cu8 (zr8 16), 29, (0, 0)⟩]
   refine DG ⟨[6, 9, 14, 15], [0, 1, 2, 3, 4, 5, 7, 8, 10, 11, 12, 13], [0, 1, 2, 3, 4, 5, 7, 8, 10, 11, 12, 13], [], []⟩ rfl rfl (by decide +kernel) rfl trivial ?_
   refine CZ (F' := [(10, Ptr nb6 0), (4, Ptr nb1 0), (8, Ptr nb3 0), (9, .nilIface)]) (by kernel_rfl) ?_
   refine AE (AG (AC (AA (.agg (List.toArray (α := Value) ([U64 pv, U64 ep, I64 ((k:Int)), .slice ao1 0 ca1, .slice ao2 0 ca2, U64 bl] ++ cu8 (zr8 16)))) (AL rfl (BO D7 C4 (by simp [(A2 16)]) (MemAt.ent 3 rfl (AM _)))) rfl ?_)))
   refine AN (B1 114 [.agg (List.toArray (α := Value) ([U64 pv, U64 ep, I64 ((k:Int)), .slice ao1 0 ca1, .slice ao2 0 ca2, U64 bl] ++ cu8 (zr8 16)))] _ (AW [.agg (List.toArray (α := Value) ([U64 pv, U64 ep, I64 ((k:Int)), .slice ao1 0 ca1, .slice ao2 0 ca2, U64 bl] ++ cu8 (zr8 16)))] Tryd.call114 rfl) (fun w1 hw1 => text_w pv ep k ao1 0 ca1 ([] : List UInt64) ao2 0 ca2 ([] : List SealR) bl (zr8 16) tot w1 rfl (by omega) (by omega) (by omega) RdV.nil rfl (by omega) (by omega) (by omega) RdV.nil (A2 16) hmay (by omega) (by omega) htot)) rfl ?_
   rintro v1 L1 ⟨_, ⟨nb7, sp1, cp1, rfl, rfl, hc5, hc6, hc7⟩, rfl⟩
   show JL _ _ _ _ ((29, .tuple #[Slc nb7 0 tot cp1, .nilIface]) :: _) [_, _, _, _, ⟨nb7, cu8 (tktT pv ep k ([] : List UInt64) ([] : List SealR) bl) ++ sp1, 5, (0, 0)⟩]
   refine AA _ (AD rfl) rfl ?_
   refine AA _ (BJ rfl rfl) rfl ?_
   refine AA _ (BJ rfl rfl) rfl ?_
   refine AA _ (AF rfl) rfl ?_
   refine AA _ (AF rfl) rfl ?_
   refine AI (AE (AG (AG (AC (AA _ (AD rfl) rfl ?_)))))
   refine AA (.bool false) (D8 _ _ _ rfl rfl (fun _ => D6 ..) fun _ => DS B8) rfl ?_
   refine AI (AE (B9 _ rfl rfl ?_))
   refine BE (AE (AG (C3 44 4 [(0, Ptr nb6 6), (1, Slc nb6 6 16 16), (2, Slc nb1 0 32 32), (3, Slc nb7 0 tot cp1)] BQ rfl (by decide +kernel) ?_)))
   refine BT ⟨[], [0, 1, 2, 3], [], [0, 1, 2, 3], [4]⟩ 4 _ rfl rfl (by decide +kernel) rfl ⟨⟨_, rfl, AB rfl (AJ 6 27 16 BN rfl DW rfl rfl)⟩, ⟨_, rfl, AB rfl (CT 16 5 1 0 16 6 16 C2 AY rfl rfl rfl (by omega) (by omega) (by omega) (by omega) (by omega) 16 (by omega))⟩, ⟨_, rfl, AB rfl (CT 32 5 1 0 32 0 32 CB AY rfl rfl rfl (by omega) (by omega) (by omega) (by omega) (by omega) 32 (by omega))⟩, ⟨_, rfl, AB rfl (AD rfl)⟩, trivial⟩ rfl (A1 rfl (BF 43 1 _ [(0, Slc nb7 0 tot cp1)] ([Slc nb7 0 tot cp1]) EE BZ Tryd.zeroValue43 rfl rfl rfl (by kernel_rfl))) ?_
   rintro v1 L1 ⟨nb8, hnb8, rfl, rfl⟩
   refine ⟨[], ?_⟩
   show DP _ _ _ _ _ _ _ _ [_, _, _, _, _, ⟨nb8, [Slc nb7 0 tot cp1], 43, (0, 0)⟩]
   refine BT ⟨[4], [0, 1, 2, 3], [3], [0, 1, 2], [5]⟩ 5 _ rfl rfl (by decide +kernel) rfl ⟨⟨_, rfl, AB rfl (AJ 6 27 16 BN rfl DW rfl rfl)⟩, ⟨_, rfl, AB rfl (CT 16 5 1 0 16 6 16 C2 AY rfl rfl rfl (by omega) (by omega) (by omega) (by omega) (by omega) 16 (by omega))⟩, ⟨_, rfl, AB rfl (CT 32 5 1 0 32 0 32 CB AY rfl rfl rfl (by omega) (by omega) (by omega) (by omega) (by omega) 32 (by omega))⟩, trivial⟩ rfl (A1 rfl (B1 90 [Slc nb1 0 32 32, Slc nb8 0 1 1] _ (AW [Slc nb1 0 32 32, Slc nb8 0 1 1] Tryd.call90 rfl) (fun w1 hw1 => short_c (some ⟨nb1, 0, none⟩) 32 32 key nb8 1 [Slc nb7 0 tot cp1] [tktT pv ep k ([] : List UInt64) ([] : List SealR) bl] w1 hk32 (fun h => by cases h) (by omega) (RdB.of hw1 (MemAt.ent 0 rfl (AM _)) (by simp)) (by simp) (by simp) (by simp) ⟨RdA.of hw1 (MemAt.ent 5 rfl (Seg.head)) (by simp), ⟨⟨(some ⟨nb7, 0, none⟩), cp1, congrArg (fun n => Value.slice (some ⟨nb7, 0, none⟩) n cp1) ((show (tktT pv ep k ([] : List UInt64) ([] : List SealR) bl).length = tot from ((FH rfl rfl).trans htot))).symm, (RdB.of hw1 (MemAt.ent 4 rfl (BV (AM _))) (by simp))⟩, trivial⟩⟩ (by simp only [List.flatten_cons, List.flatten_nil, List.length_append, List.length_nil, (show (tktT pv ep k ([] : List UInt64) ([] : List SealR) bl).length = tot from ((FH rfl rfl).trans htot))]; omega) (hG.at hw1)))) ?_
   rintro v1 L1 ⟨_, ⟨nb9, sp2, cp2, rfl, rfl, hc8, hc9, hc10⟩, rfl⟩
   refine ⟨[], ?_⟩
   show DP _ _ _ _ _ _ _ _ [_, _, _, _, _, _, ⟨nb9, cu8 (mid (macL key ([tktT pv ep k ([] : List UInt64) ([] : List SealR) bl].flatten)) 0 16) ++ sp2, 5, (0, 0)⟩]
   refine BT ⟨[4, 5], [0, 1, 2, 3], [2, 3], [0, 1], [6]⟩ 6 _ rfl rfl (by decide +kernel) rfl ⟨⟨_, rfl, AB rfl (AJ 6 27 16 BN rfl DW rfl rfl)⟩, ⟨_, rfl, AB rfl (CT 16 5 1 0 16 6 16 C2 AY rfl rfl rfl (by omega) (by omega) (by omega) (by omega) (by omega) 16 (by omega))⟩, trivial⟩ rfl (A1 rfl (Step_copy 43 43 5 3 nb6 6 16 16 ([U64 pv, U64 ep, I64 ((k:Int)), .slice ao1 0 ca1, .slice ao2 0 ca2, U64 bl] ++ cu8 (zr8 16)) 29 (some ⟨nb9, 0, none⟩) 16 cp2 16 (cu8 (mid (macL key ([tktT pv ep k ([] : List UInt64) ([] : List SealR) bl].flatten)) 0 16)) ([U64 pv, U64 ep, I64 ((k:Int)), .slice ao1 0 ca1, .slice ao2 0 ca2, U64 bl] ++ cu8 (mid (macL key ([tktT pv ep k ([] : List UInt64) ([] : List SealR) bl].flatten)) 0 16)) AP FG rfl rfl rfl rfl (by rw [E5]; exact (show (mid (macL key ([tktT pv ep k ([] : List UInt64) ([] : List SealR) bl].flatten)) 0 16).length = 16 from DV (by rw [EC]; omega))) (SrcAt.mem (MemAt.ent 6 rfl (BV (AM _)))) (by simp [(A2 16)]; try omega) (by first | exact C5 | exact DA | exact C9 | (simp [cu8, cu32, cu64, Value.oneCell']; done)) (lay_right 6 0 rfl rfl (BU (by rw [E5, E5]; first | exact ((show (mid (macL key ([tktT pv ep k ([] : List UInt64) ([] : List SealR) bl].flatten)) 0 16).length = 16 from DV (by rw [EC]; omega))).trans ((A2 16)).symm | exact ((A2 16)).trans ((show (mid (macL key ([tktT pv ep k ([] : List UInt64) ([] : List SealR) bl].flatten)) 0 16).length = 16 from DV (by rw [EC]; omega))).symm))))) ?_
   rintro v1 L1 ⟨rfl, rfl⟩
   refine ⟨[], ?_⟩
   show DP _ _ _ _ _ _ _ _ [_, _, _, ⟨nb6, [U64 pv, U64 ep, I64 ((k:Int)), .slice ao1 0 ca1, .slice ao2 0 ca2, U64 bl] ++ cu8 (mid (macL key ([tktT pv ep k ([] : List UInt64) ([] : List SealR) bl].flatten)) 0 16), 29, (0, 0)⟩, _, _, _]
   refine DG ⟨[4, 5, 6], [0, 1, 2, 3], [0, 1, 2, 3], [], []⟩ rfl rfl (by decide +kernel) rfl trivial ?_
   refine CZ (F' := [(10, Ptr nb6 0), (8, Ptr nb3 0), (9, .nilIface)]) (by kernel_rfl) ?_
   refine AE (AG ?_)
   rw [tkG_of key pv ep k ([] : List UInt64) ([] : List SealR) bl]
   show JC _ _ _ _ [⟨nb1, cu8 key, 54, (0, 0)⟩, ⟨nb2, [I64 ((k:Int)), .slice ai 0 ci, .slice sa 0 sc, U64 bl], 26, (0, 0)⟩, ⟨nb3, [U64 (0:UInt64), U64 (0:UInt64), I64 (0:Int), .slice none 0 0, .slice none 0 0, U64 (0:UInt64)] ++ cu8 (zr8 16), 29, (0, 0)⟩, ⟨nb6, [U64 pv, U64 ep, I64 ((k:Int)), .slice ao1 0 ca1, .slice ao2 0 ca2, U64 bl] ++ cu8 (tkG key pv ep k ([] : List UInt64) ([] : List SealR) bl), 29, (0, 0)⟩, ⟨nb7, cu8 (tktT pv ep k ([] : List UInt64) ([] : List SealR) bl) ++ sp1, 5, (0, 0)⟩, ⟨nb8, [Slc nb7 0 tot cp1], 43, (0, 0)⟩, ⟨nb9, cu8 (tkG key pv ep k ([] : List UInt64) ([] : List SealR) bl) ++ sp2, 5, (0, 0)⟩]
   refine AC (AA (.agg (List.toArray (α := Value) ([U64 pv, U64 ep, I64 ((k:Int)), .slice ao1 0 ca1, .slice ao2 0 ca2, U64 bl] ++ cu8 (tkG key pv ep k ([] : List UInt64) ([] : List SealR) bl)))) (AL rfl (BO D7 C4 (by simp [(EX _ _ _ _ _ _ _)]) (MemAt.ent 3 rfl (AM _)))) rfl ?_)
   refine AN (A8 2 nb3 0 22 ([U64 (0:UInt64), U64 (0:UInt64), I64 (0:Int), .slice none 0 0, .slice none 0 0, U64 (0:UInt64)] ++ cu8 (zr8 16)) 29 (.agg (List.toArray (α := Value) ([U64 pv, U64 ep, I64 ((k:Int)), .slice ao1 0 ca1, .slice ao2 0 ca2, U64 bl] ++ cu8 (tkG key pv ep k ([] : List UInt64) ([] : List SealR) bl)))) ([U64 pv, U64 ep, I64 ((k:Int)), .slice ao1 0 ca1, .slice ao2 0 ca2, U64 bl] ++ cu8 (tkG key pv ep k ([] : List UInt64) ([] : List SealR) bl)) ([U64 pv, U64 ep, I64 ((k:Int)), .slice ao1 0 ca1, .slice ao2 0 ca2, U64 bl] ++ cu8 (tkG key pv ep k ([] : List UInt64) ([] : List SealR) bl)) rfl rfl rfl (by first | rfl | simp) C4 (by simp [(EX _ _ _ _ _ _ _)]) (FA (by simp [Value.oneCell']) C5) (by simp [(A2 16)]) (BU (by simp [(A2 16), (EX _ _ _ _ _ _ _)]))) rfl ?_
   rintro v1 L1 ⟨rfl, rfl⟩
   show JL _ _ _ _ _ [_, _, ⟨nb3, [U64 pv, U64 ep, I64 ((k:Int)), .slice ao1 0 ca1, .slice ao2 0 ca2, U64 bl] ++ cu8 (tkG key pv ep k ([] : List UInt64) ([] : List SealR) bl), 29, (0, 0)⟩, _, _, _, _]
   refine AA _ (AF rfl) rfl ?_
   refine AI (AE (BG (B5 [false, false, true, false, false, false, false] ?_)))
   show JQ _ _ _ _ [_]
   refine BI (.tuple #[.agg (List.toArray (α := Value) ([U64 pv, U64 ep, I64 ((k:Int)), .slice ao1 0 ca1, .slice ao2 0 ca2, U64 bl] ++ cu8 (tkG key pv ep k ([] : List UInt64) ([] : List SealR) bl))), .nilIface]) (res2 Tryd.results46 (EI rfl (BO D7 C4 (by simp [(EX _ _ _ _ _ _ _)]) (MemAt.ent 0 rfl (AM _)))) (BK rfl)) fun w1 hw1 => ?_
   exact ⟨_, _, rfl, ⟨ao1, ca1, ao2, ca2, rfl, rfl, (by omega), hc2, (by omega), hc4⟩, hw1.sub (by simp) (by simp)⟩
  ·
   rintro v1 L1 ⟨nb5, hnb5, rfl, rfl⟩
   refine ⟨[], ?_⟩
   show DP _ _ _ _ _ _ _ _ [_, _, _, ⟨nb5, [U64 (0:UInt64), U64 (0:UInt64), I64 (0:Int), .slice none 0 0, .slice none 0 0, U64 (0:UInt64)] ++ cu8 (zr8 16), 29, (0, 0)⟩]
   refine BT ⟨[6, 14], [0, 1, 2, 3, 4, 5, 7, 8, 10, 11], [4, 5], [0, 1, 2, 3, 7, 8, 10, 11], [9]⟩ 9 _ rfl rfl (by decide +kernel) rfl ⟨⟨_, rfl, AB rfl (AD rfl)⟩, ⟨_, rfl, AB rfl (AD rfl)⟩, ⟨_, rfl, AB rfl (AJ 0 3 1 AO rfl B3 rfl rfl)⟩, ⟨_, rfl, AB rfl (AL rfl (AZ B7 (MemAt.ent 1 rfl (Seg.head))))⟩, ⟨_, rfl, AB rfl (AJ 2 24 1 AO rfl DC rfl rfl)⟩, ⟨_, rfl, AB rfl (AL rfl (AZ DQ (MemAt.ent 1 rfl (AR (AR (Seg.head))))))⟩, ⟨_, rfl, AB rfl (AJ 3 22 1 AO rfl A6 rfl rfl)⟩, ⟨_, rfl, AB rfl (AL rfl (AZ BC (MemAt.ent 1 rfl (AR (AR (AR (Seg.head)))))))⟩, trivial⟩ rfl (A1 rfl (B1 113 [.slice sa 0 sc] _ (AW [.slice sa 0 sc] Tryd.call113 rfl) (fun w1 hw1 => cloneSZ_w sa sc w1 (by omega) hnS))) ?_
   rintro v1 L1 ⟨_, ⟨ao3, ca3, rfl, rfl, hc11, hc12⟩, rfl⟩
   refine ⟨[(12, .agg (List.toArray (α := Value) ([I64 ((k:Int)), .slice ao1 0 ca1, .slice ao3 0 ca3, U64 bl]))), (13, .agg (List.toArray (α := Value) ([U64 pv, U64 ep, I64 ((k:Int)), .slice ao1 0 ca1, .slice ao3 0 ca3, U64 bl] ++ cu8 (zr8 16))))], ?_⟩
   show DP _ _ _ _ _ _ _ _ [_, _, _, _]
   refine BT ⟨[6, 14, 9], [0, 1, 2, 3, 4, 5, 7, 8, 10, 11, 12, 13], [4, 5, 7, 8], [0, 1, 2, 3, 10, 11, 12, 13], [15]⟩ 15 _ rfl rfl (by decide +kernel) rfl ⟨⟨_, rfl, AB rfl (AD rfl)⟩, ⟨_, rfl, AB rfl (AD rfl)⟩, ⟨_, rfl, AB rfl (AJ 0 3 1 AO rfl B3 rfl rfl)⟩, ⟨_, rfl, AB rfl (AL rfl (AZ B7 (MemAt.ent 1 rfl (Seg.head))))⟩, ⟨_, rfl, AB rfl (AJ 3 22 1 AO rfl A6 rfl rfl)⟩, ⟨_, rfl, AB rfl (AL rfl (AZ BC (MemAt.ent 1 rfl (AR (AR (AR (Seg.head)))))))⟩, ⟨_, rfl, AB rfl (EG [(0, I64 ((k:Int))), (1, .slice ao1 0 ca1), (2, .slice ao3 0 ca3), (3, U64 bl)] _ rfl (fun _ => bld26_0123 rfl rfl rfl rfl))⟩, ⟨_, rfl, AB rfl (EG [(0, U64 pv), (1, U64 ep), (2, .agg (List.toArray (α := Value) ([I64 ((k:Int)), .slice ao1 0 ca1, .slice ao3 0 ca3, U64 bl])))] _ rfl (fun _ => bld29_012 rfl rfl (by simp [A2])))⟩, trivial⟩ rfl (A1 rfl (A8 3 nb5 0 22 ([U64 (0:UInt64), U64 (0:UInt64), I64 (0:Int), .slice none 0 0, .slice none 0 0, U64 (0:UInt64)] ++ cu8 (zr8 16)) 29 (.agg (List.toArray (α := Value) ([U64 pv, U64 ep, I64 ((k:Int)), .slice ao1 0 ca1, .slice ao3 0 ca3, U64 bl] ++ cu8 (zr8 16)))) ([U64 pv, U64 ep, I64 ((k:Int)), .slice ao1 0 ca1, .slice ao3 0 ca3, U64 bl] ++ cu8 (zr8 16)) ([U64 pv, U64 ep, I64 ((k:Int)), .slice ao1 0 ca1, .slice ao3 0 ca3, U64 bl] ++ cu8 (zr8 16)) rfl rfl rfl (by first | rfl | simp) C4 (by simp [(A2 16)]) (FA (by simp [Value.oneCell']) C5) (by simp [(A2 16)]) (BU (by simp [(A2 16), (A2 16)])))) ?_
   rintro v1 L1 ⟨rfl, rfl⟩
   refine ⟨[], ?_⟩
   show DP _ _ _ _ _ _ _ _ [_, _, _, ⟨nb5, [U64 pv, U64 ep, I64 ((k:Int)), .slice ao1 0 ca1, .slice ao3 0 ca3, U64 bl] ++ cu8 (zr8 16), 29, (0, 0)⟩]
   refine DG ⟨[6, 14, 9, 15], [0, 1, 2, 3, 4, 5, 7, 8, 10, 11, 12, 13], [0, 1, 2, 3, 4, 5, 7, 8, 10, 11, 12, 13], [], []⟩ rfl rfl (by decide +kernel) rfl trivial ?_
   refine CZ (F' := [(10, Ptr nb5 0), (4, Ptr nb1 0), (8, Ptr nb3 0), (9, .nilIface)]) (by kernel_rfl) ?_
   refine AE (AG (AC (AA (.agg (List.toArray (α := Value) ([U64 pv, U64 ep, I64 ((k:Int)), .slice ao1 0 ca1, .slice ao3 0 ca3, U64 bl] ++ cu8 (zr8 16)))) (AL rfl (BO D7 C4 (by simp [(A2 16)]) (MemAt.ent 3 rfl (AM _)))) rfl ?_)))
   refine AN (B1 114 [.agg (List.toArray (α := Value) ([U64 pv, U64 ep, I64 ((k:Int)), .slice ao1 0 ca1, .slice ao3 0 ca3, U64 bl] ++ cu8 (zr8 16)))] _ (AW [.agg (List.toArray (α := Value) ([U64 pv, U64 ep, I64 ((k:Int)), .slice ao1 0 ca1, .slice ao3 0 ca3, U64 bl] ++ cu8 (zr8 16)))] Tryd.call114 rfl) (fun w1 hw1 => text_w pv ep k ao1 0 ca1 ([] : List UInt64) ao3 0 ca3 ([] : List SealR) bl (zr8 16) tot w1 rfl (by omega) (by omega) (by omega) RdV.nil rfl (by omega) (by omega) (by omega) RdV.nil (A2 16) hmay (by omega) (by omega) htot)) rfl ?_
   rintro v1 L1 ⟨_, ⟨nb10, sp3, cp3, rfl, rfl, hc13, hc14, hc15⟩, rfl⟩
   show JL _ _ _ _ ((29, .tuple #[Slc nb10 0 tot cp3, .nilIface]) :: _) [_, _, _, _, ⟨nb10, cu8 (tktT pv ep k ([] : List UInt64) ([] : List SealR) bl) ++ sp3, 5, (0, 0)⟩]
   refine AA _ (AD rfl) rfl ?_
   refine AA _ (BJ rfl rfl) rfl ?_
   refine AA _ (BJ rfl rfl) rfl ?_
   refine AA _ (AF rfl) rfl ?_
   refine AA _ (AF rfl) rfl ?_
   refine AI (AE (AG (AG (AC (AA _ (AD rfl) rfl ?_)))))
   refine AA (.bool false) (D8 _ _ _ rfl rfl (fun _ => D6 ..) fun _ => DS B8) rfl ?_
   refine AI (AE (B9 _ rfl rfl ?_))
   refine BE (AE (AG (C3 44 4 [(0, Ptr nb5 6), (1, Slc nb5 6 16 16), (2, Slc nb1 0 32 32), (3, Slc nb10 0 tot cp3)] BQ rfl (by decide +kernel) ?_)))
   refine BT ⟨[], [0, 1, 2, 3], [], [0, 1, 2, 3], [4]⟩ 4 _ rfl rfl (by decide +kernel) rfl ⟨⟨_, rfl, AB rfl (AJ 6 27 16 BN rfl DW rfl rfl)⟩, ⟨_, rfl, AB rfl (CT 16 5 1 0 16 6 16 C2 AY rfl rfl rfl (by omega) (by omega) (by omega) (by omega) (by omega) 16 (by omega))⟩, ⟨_, rfl, AB rfl (CT 32 5 1 0 32 0 32 CB AY rfl rfl rfl (by omega) (by omega) (by omega) (by omega) (by omega) 32 (by omega))⟩, ⟨_, rfl, AB rfl (AD rfl)⟩, trivial⟩ rfl (A1 rfl (BF 43 1 _ [(0, Slc nb10 0 tot cp3)] ([Slc nb10 0 tot cp3]) EE BZ Tryd.zeroValue43 rfl rfl rfl (by kernel_rfl))) ?_
   rintro v1 L1 ⟨nb11, hnb11, rfl, rfl⟩
   refine ⟨[], ?_⟩
   show DP _ _ _ _ _ _ _ _ [_, _, _, _, _, ⟨nb11, [Slc nb10 0 tot cp3], 43, (0, 0)⟩]
   refine BT ⟨[4], [0, 1, 2, 3], [3], [0, 1, 2], [5]⟩ 5 _ rfl rfl (by decide +kernel) rfl ⟨⟨_, rfl, AB rfl (AJ 6 27 16 BN rfl DW rfl rfl)⟩, ⟨_, rfl, AB rfl (CT 16 5 1 0 16 6 16 C2 AY rfl rfl rfl (by omega) (by omega) (by omega) (by omega) (by omega) 16 (by omega))⟩, ⟨_, rfl, AB rfl (CT 32 5 1 0 32 0 32 CB AY rfl rfl rfl (by omega) (by omega) (by omega) (by omega) (by omega) 32 (by omega))⟩, trivial⟩ rfl (A1 rfl (B1 90 [Slc nb1 0 32 32, Slc nb11 0 1 1] _ (AW [Slc nb1 0 32 32, Slc nb11 0 1 1] Tryd.call90 rfl) (fun w1 hw1 => short_c (some ⟨nb1, 0, none⟩) 32 32 key nb11 1 [Slc nb10 0 tot cp3] [tktT pv ep k ([] : List UInt64) ([] : List SealR) bl] w1 hk32 (fun h => by cases h) (by omega) (RdB.of hw1 (MemAt.ent 0 rfl (AM _)) (by simp)) (by simp) (by simp) (by simp) ⟨RdA.of hw1 (MemAt.ent 5 rfl (Seg.head)) (by simp), ⟨⟨(some ⟨nb10, 0, none⟩), cp3, congrArg (fun n => Value.slice (some ⟨nb10, 0, none⟩) n cp3) ((show (tktT pv ep k ([] : List UInt64) ([] : List SealR) bl).length = tot from ((FH rfl rfl).trans htot))).symm, (RdB.of hw1 (MemAt.ent 4 rfl (BV (AM _))) (by simp))⟩, trivial⟩⟩ (by simp only [List.flatten_cons, List.flatten_nil, List.length_append, List.length_nil, (show (tktT pv ep k ([] : List UInt64) ([] : List SealR) bl).length = tot from ((FH rfl rfl).trans htot))]; omega) (hG.at hw1)))) ?_
   rintro v1 L1 ⟨_, ⟨nb12, sp4, cp4, rfl, rfl, hc16, hc17, hc18⟩, rfl⟩
   refine ⟨[], ?_⟩
   show DP _ _ _ _ _ _ _ _ [_, _, _, _, _, _, ⟨nb12, cu8 (mid (macL key ([tktT pv ep k ([] : List UInt64) ([] : List SealR) bl].flatten)) 0 16) ++ sp4, 5, (0, 0)⟩]
   refine BT ⟨[4, 5], [0, 1, 2, 3], [2, 3], [0, 1], [6]⟩ 6 _ rfl rfl (by decide +kernel) rfl ⟨⟨_, rfl, AB rfl (AJ 6 27 16 BN rfl DW rfl rfl)⟩, ⟨_, rfl, AB rfl (CT 16 5 1 0 16 6 16 C2 AY rfl rfl rfl (by omega) (by omega) (by omega) (by omega) (by omega) 16 (by omega))⟩, trivial⟩ rfl (A1 rfl (Step_copy 43 43 5 3 nb5 6 16 16 ([U64 pv, U64 ep, I64 ((k:Int)), .slice ao1 0 ca1, .slice ao3 0 ca3, U64 bl] ++ cu8 (zr8 16)) 29 (some ⟨nb12, 0, none⟩) 16 cp4 16 (cu8 (mid (macL key ([tktT pv ep k ([] : List UInt64) ([] : List SealR) bl].flatten)) 0 16)) ([U64 pv, U64 ep, I64 ((k:Int)), .slice ao1 0 ca1, .slice ao3 0 ca3, U64 bl] ++ cu8 (mid (macL key ([tktT pv ep k ([] : List UInt64) ([] : List SealR) bl].flatten)) 0 16)) AP FG rfl rfl rfl rfl (by rw [E5]; exact (show (mid (macL key ([tktT pv ep k ([] : List UInt64) ([] : List SealR) bl].flatten)) 0 16).length = 16 from DV (by rw [EC]; omega))) (SrcAt.mem (MemAt.ent 6 rfl (BV (AM _)))) (by simp [(A2 16)]; try omega) (by first | exact C5 | exact DA | exact C9 | (simp [cu8, cu32, cu64, Value.oneCell']; done)) (lay_right 6 0 rfl rfl (BU (by rw [E5, E5]; first | exact ((show (mid (macL key ([tktT pv ep k ([] : List UInt64) ([] : List SealR) bl].flatten)) 0 16).length = 16 from DV (by rw [EC]; omega))).trans ((A2 16)).symm | exact ((A2 16)).trans ((show (mid (macL key ([tktT pv ep k ([] : List UInt64) ([] : List SealR) bl].flatten)) 0 16).length = 16 from DV (by rw [EC]; omega))).symm))))) ?_
   rintro v1 L1 ⟨rfl, rfl⟩
   refine ⟨[], ?_⟩
   show DP _ _ _ _ _ _ _ _ [_, _, _, ⟨nb5, [U64 pv, U64 ep, I64 ((k:Int)), .slice ao1 0 ca1, .slice ao3 0 ca3, U64 bl] ++ cu8 (mid (macL key ([tktT pv ep k ([] : List UInt64) ([] : List SealR) bl].flatten)) 0 16), 29, (0, 0)⟩, _, _, _]
   refine DG ⟨[4, 5, 6], [0, 1, 2, 3], [0, 1, 2, 3], [], []⟩ rfl rfl (by decide +kernel) rfl trivial ?_
   refine CZ (F' := [(10, Ptr nb5 0), (8, Ptr nb3 0), (9, .nilIface)]) (by kernel_rfl) ?_
   refine AE (AG ?_)
   rw [tkG_of key pv ep k ([] : List UInt64) ([] : List SealR) bl]
   show JC _ _ _ _ [⟨nb1, cu8 key, 54, (0, 0)⟩, ⟨nb2, [I64 ((k:Int)), .slice ai 0 ci, .slice sa 0 sc, U64 bl], 26, (0, 0)⟩, ⟨nb3, [U64 (0:UInt64), U64 (0:UInt64), I64 (0:Int), .slice none 0 0, .slice none 0 0, U64 (0:UInt64)] ++ cu8 (zr8 16), 29, (0, 0)⟩, ⟨nb5, [U64 pv, U64 ep, I64 ((k:Int)), .slice ao1 0 ca1, .slice ao3 0 ca3, U64 bl] ++ cu8 (tkG key pv ep k ([] : List UInt64) ([] : List SealR) bl), 29, (0, 0)⟩, ⟨nb10, cu8 (tktT pv ep k ([] : List UInt64) ([] : List SealR) bl) ++ sp3, 5, (0, 0)⟩, ⟨nb11, [Slc nb10 0 tot cp3], 43, (0, 0)⟩, ⟨nb12, cu8 (tkG key pv ep k ([] : List UInt64) ([] : List SealR) bl) ++ sp4, 5, (0, 0)⟩]
   refine AC (AA (.agg (List.toArray (α := Value) ([U64 pv, U64 ep, I64 ((k:Int)), .slice ao1 0 ca1, .slice ao3 0 ca3, U64 bl] ++ cu8 (tkG key pv ep k ([] : List UInt64) ([] : List SealR) bl)))) (AL rfl (BO D7 C4 (by simp [(EX _ _ _ _ _ _ _)]) (MemAt.ent 3 rfl (AM _)))) rfl ?_)
   refine AN (A8 2 nb3 0 22 ([U64 (0:UInt64), U64 (0:UInt64), I64 (0:Int), .slice none 0 0, .slice none 0 0, U64 (0:UInt64)] ++ cu8 (zr8 16)) 29 (.agg (List.toArray (α := Value) ([U64 pv, U64 ep, I64 ((k:Int)), .slice ao1 0 ca1, .slice ao3 0 ca3, U64 bl] ++ cu8 (tkG key pv ep k ([] : List UInt64) ([] : List SealR) bl)))) ([U64 pv, U64 ep, I64 ((k:Int)), .slice ao1 0 ca1, .slice ao3 0 ca3, U64 bl] ++ cu8 (tkG key pv ep k ([] : List UInt64) ([] : List SealR) bl)) ([U64 pv, U64 ep, I64 ((k:Int)), .slice ao1 0 ca1, .slice ao3 0 ca3, U64 bl] ++ cu8 (tkG key pv ep k ([] : List UInt64) ([] : List SealR) bl)) rfl rfl rfl (by first | rfl | simp) C4 (by simp [(EX _ _ _ _ _ _ _)]) (FA (by simp [Value.oneCell']) C5) (by simp [(A2 16)]) (BU (by simp [(A2 16), (EX _ _ _ _ _ _ _)]))) rfl ?_
   rintro v1 L1 ⟨rfl, rfl⟩
   show JL _ _ _ _ _ [_, _, ⟨nb3, [U64 pv, U64 ep, I64 ((k:Int)), .slice ao1 0 ca1, .slice ao3 0 ca3, U64 bl] ++ cu8 (tkG key pv ep k ([] : List UInt64) ([] : List SealR) bl), 29, (0, 0)⟩, _, _, _, _]
   refine AA _ (AF rfl) rfl ?_
   refine AI (AE (BG (B5 [false, false, true, false, false, false, false] ?_)))
   show JQ _ _ _ _ [_]
   refine BI (.tuple #[.agg (List.toArray (α := Value) ([U64 pv, U64 ep, I64 ((k:Int)), .slice ao1 0 ca1, .slice ao3 0 ca3, U64 bl] ++ cu8 (tkG key pv ep k ([] : List UInt64) ([] : List SealR) bl))), .nilIface]) (res2 Tryd.results46 (EI rfl (BO D7 C4 (by simp [(EX _ _ _ _ _ _ _)]) (MemAt.ent 0 rfl (AM _)))) (BK rfl)) fun w1 hw1 => ?_
   exact ⟨_, _, rfl, ⟨ao1, ca1, ao3, ca3, rfl, rfl, (by omega), hc2, (by omega), hc12⟩, hw1.sub (by simp) (by simp)⟩
 ·
  rintro v1 L1 ⟨nb4, hnb4, rfl, rfl⟩
  refine ⟨[], ?_⟩
  show DP _ _ _ _ _ _ _ _ [_, _, _, ⟨nb4, [U64 (0:UInt64), U64 (0:UInt64), I64 (0:Int), .slice none 0 0, .slice none 0 0, U64 (0:UInt64)] ++ cu8 (zr8 16), 29, (0, 0)⟩]
  refine BT ⟨[14], [0, 1, 2, 3, 4, 5, 7, 8, 10, 11], [], [0, 1, 2, 3, 4, 5, 7, 8, 10, 11], [6]⟩ 6 _ rfl rfl (by decide +kernel) rfl ⟨⟨_, rfl, AB rfl (AD rfl)⟩, ⟨_, rfl, AB rfl (AD rfl)⟩, ⟨_, rfl, AB rfl (AJ 0 3 1 AO rfl B3 rfl rfl)⟩, ⟨_, rfl, AB rfl (AL rfl (AZ B7 (MemAt.ent 1 rfl (Seg.head))))⟩, ⟨_, rfl, AB rfl (AJ 1 23 1 AO rfl CL rfl rfl)⟩, ⟨_, rfl, AB rfl (AL rfl (AZ CW (MemAt.ent 1 rfl (AR (Seg.head)))))⟩, ⟨_, rfl, AB rfl (AJ 2 24 1 AO rfl DC rfl rfl)⟩, ⟨_, rfl, AB rfl (AL rfl (AZ DQ (MemAt.ent 1 rfl (AR (AR (Seg.head))))))⟩, ⟨_, rfl, AB rfl (AJ 3 22 1 AO rfl A6 rfl rfl)⟩, ⟨_, rfl, AB rfl (AL rfl (AZ BC (MemAt.ent 1 rfl (AR (AR (AR (Seg.head)))))))⟩, trivial⟩ rfl (A1 rfl (B1 112 [.slice ai 0 ci] _ (AW [.slice ai 0 ci] Tryd.call112 rfl) (fun w1 hw1 => clone64Z_w ai ci w1 (by omega) hnI))) ?_
  rintro v1 L1 ⟨_, ⟨ao4, ca4, rfl, rfl, hc19, hc20⟩, rfl⟩
  refine ⟨[], ?_⟩
  show DP _ _ _ _ _ _ _ _ [_, _, _, _]
  refine BT ⟨[14, 6], [0, 1, 2, 3, 4, 5, 7, 8, 10, 11], [4, 5], [0, 1, 2, 3, 7, 8, 10, 11], [9]⟩ 9 _ rfl rfl (by decide +kernel) rfl ⟨⟨_, rfl, AB rfl (AD rfl)⟩, ⟨_, rfl, AB rfl (AD rfl)⟩, ⟨_, rfl, AB rfl (AJ 0 3 1 AO rfl B3 rfl rfl)⟩, ⟨_, rfl, AB rfl (AL rfl (AZ B7 (MemAt.ent 1 rfl (Seg.head))))⟩, ⟨_, rfl, AB rfl (AJ 2 24 1 AO rfl DC rfl rfl)⟩, ⟨_, rfl, AB rfl (AL rfl (AZ DQ (MemAt.ent 1 rfl (AR (AR (Seg.head))))))⟩, ⟨_, rfl, AB rfl (AJ 3 22 1 AO rfl A6 rfl rfl)⟩, ⟨_, rfl, AB rfl (AL rfl (AZ BC (MemAt.ent 1 rfl (AR (AR (AR (Seg.head)))))))⟩, trivial⟩ rfl (A1 rfl (B1 113 [.slice sa 0 sc] _ (AW [.slice sa 0 sc] Tryd.call113 rfl) (fun w1 hw1 => cloneSZ_w sa sc w1 (by omega) hnS))) ?_
  rintro v1 L1 ⟨_, ⟨ao5, ca5, rfl, rfl, hc21, hc22⟩, rfl⟩
  refine ⟨[(12, .agg (List.toArray (α := Value) ([I64 ((k:Int)), .slice ao4 0 ca4, .slice ao5 0 ca5, U64 bl]))), (13, .agg (List.toArray (α := Value) ([U64 pv, U64 ep, I64 ((k:Int)), .slice ao4 0 ca4, .slice ao5 0 ca5, U64 bl] ++ cu8 (zr8 16))))], ?_⟩
  show DP _ _ _ _ _ _ _ _ [_, _, _, _]
  refine BT ⟨[14, 6, 9], [0, 1, 2, 3, 4, 5, 7, 8, 10, 11, 12, 13], [4, 5, 7, 8], [0, 1, 2, 3, 10, 11, 12, 13], [15]⟩ 15 _ rfl rfl (by decide +kernel) rfl ⟨⟨_, rfl, AB rfl (AD rfl)⟩, ⟨_, rfl, AB rfl (AD rfl)⟩, ⟨_, rfl, AB rfl (AJ 0 3 1 AO rfl B3 rfl rfl)⟩, ⟨_, rfl, AB rfl (AL rfl (AZ B7 (MemAt.ent 1 rfl (Seg.head))))⟩, ⟨_, rfl, AB rfl (AJ 3 22 1 AO rfl A6 rfl rfl)⟩, ⟨_, rfl, AB rfl (AL rfl (AZ BC (MemAt.ent 1 rfl (AR (AR (AR (Seg.head)))))))⟩, ⟨_, rfl, AB rfl (EG [(0, I64 ((k:Int))), (1, .slice ao4 0 ca4), (2, .slice ao5 0 ca5), (3, U64 bl)] _ rfl (fun _ => bld26_0123 rfl rfl rfl rfl))⟩, ⟨_, rfl, AB rfl (EG [(0, U64 pv), (1, U64 ep), (2, .agg (List.toArray (α := Value) ([I64 ((k:Int)), .slice ao4 0 ca4, .slice ao5 0 ca5, U64 bl])))] _ rfl (fun _ => bld29_012 rfl rfl (by simp [A2])))⟩, trivial⟩ rfl (A1 rfl (A8 3 nb4 0 22 ([U64 (0:UInt64), U64 (0:UInt64), I64 (0:Int), .slice none 0 0, .slice none 0 0, U64 (0:UInt64)] ++ cu8 (zr8 16)) 29 (.agg (List.toArray (α := Value) ([U64 pv, U64 ep, I64 ((k:Int)), .slice ao4 0 ca4, .slice ao5 0 ca5, U64 bl] ++ cu8 (zr8 16)))) ([U64 pv, U64 ep, I64 ((k:Int)), .slice ao4 0 ca4, .slice ao5 0 ca5, U64 bl] ++ cu8 (zr8 16)) ([U64 pv, U64 ep, I64 ((k:Int)), .slice ao4 0 ca4, .slice ao5 0 ca5, U64 bl] ++ cu8 (zr8 16)) rfl rfl rfl (by first | rfl | simp) C4 (by simp [(A2 16)]) (FA (by simp [Value.oneCell']) C5) (by simp [(A2 16)]) (BU (by simp [(A2 16), (A2 16)])))) ?_
  rintro v1 L1 ⟨rfl, rfl⟩
  refine ⟨[], ?_⟩
  show DP _ _ _ _ _ _ _ _ [_, _, _, ⟨nb4, [U64 pv, U64 ep, I64 ((k:Int)), .slice ao4 0 ca4, .slice ao5 0 ca5, U64 bl] ++ cu8 (zr8 16), 29, (0, 0)⟩]
  refine DG ⟨[14, 6, 9, 15], [0, 1, 2, 3, 4, 5, 7, 8, 10, 11, 12, 13], [0, 1, 2, 3, 4, 5, 7, 8, 10, 11, 12, 13], [], []⟩ rfl rfl (by decide +kernel) rfl trivial ?_
  refine CZ (F' := [(10, Ptr nb4 0), (4, Ptr nb1 0), (8, Ptr nb3 0), (9, .nilIface)]) (by kernel_rfl) ?_
  refine AE (AG (AC (AA (.agg (List.toArray (α := Value) ([U64 pv, U64 ep, I64 ((k:Int)), .slice ao4 0 ca4, .slice ao5 0 ca5, U64 bl] ++ cu8 (zr8 16)))) (AL rfl (BO D7 C4 (by simp [(A2 16)]) (MemAt.ent 3 rfl (AM _)))) rfl ?_)))
  refine AN (B1 114 [.agg (List.toArray (α := Value) ([U64 pv, U64 ep, I64 ((k:Int)), .slice ao4 0 ca4, .slice ao5 0 ca5, U64 bl] ++ cu8 (zr8 16)))] _ (AW [.agg (List.toArray (α := Value) ([U64 pv, U64 ep, I64 ((k:Int)), .slice ao4 0 ca4, .slice ao5 0 ca5, U64 bl] ++ cu8 (zr8 16)))] Tryd.call114 rfl) (fun w1 hw1 => text_w pv ep k ao4 0 ca4 ([] : List UInt64) ao5 0 ca5 ([] : List SealR) bl (zr8 16) tot w1 rfl (by omega) (by omega) (by omega) RdV.nil rfl (by omega) (by omega) (by omega) RdV.nil (A2 16) hmay (by omega) (by omega) htot)) rfl ?_
  rintro v1 L1 ⟨_, ⟨nb13, sp5, cp5, rfl, rfl, hc23, hc24, hc25⟩, rfl⟩
  show JL _ _ _ _ ((29, .tuple #[Slc nb13 0 tot cp5, .nilIface]) :: _) [_, _, _, _, ⟨nb13, cu8 (tktT pv ep k ([] : List UInt64) ([] : List SealR) bl) ++ sp5, 5, (0, 0)⟩]
  refine AA _ (AD rfl) rfl ?_
  refine AA _ (BJ rfl rfl) rfl ?_
  refine AA _ (BJ rfl rfl) rfl ?_
  refine AA _ (AF rfl) rfl ?_
  refine AA _ (AF rfl) rfl ?_
  refine AI (AE (AG (AG (AC (AA _ (AD rfl) rfl ?_)))))
  refine AA (.bool false) (D8 _ _ _ rfl rfl (fun _ => D6 ..) fun _ => DS B8) rfl ?_
  refine AI (AE (B9 _ rfl rfl ?_))
  refine BE (AE (AG (C3 44 4 [(0, Ptr nb4 6), (1, Slc nb4 6 16 16), (2, Slc nb1 0 32 32), (3, Slc nb13 0 tot cp5)] BQ rfl (by decide +kernel) ?_)))
  refine BT ⟨[], [0, 1, 2, 3], [], [0, 1, 2, 3], [4]⟩ 4 _ rfl rfl (by decide +kernel) rfl ⟨⟨_, rfl, AB rfl (AJ 6 27 16 BN rfl DW rfl rfl)⟩, ⟨_, rfl, AB rfl (CT 16 5 1 0 16 6 16 C2 AY rfl rfl rfl (by omega) (by omega) (by omega) (by omega) (by omega) 16 (by omega))⟩, ⟨_, rfl, AB rfl (CT 32 5 1 0 32 0 32 CB AY rfl rfl rfl (by omega) (by omega) (by omega) (by omega) (by omega) 32 (by omega))⟩, ⟨_, rfl, AB rfl (AD rfl)⟩, trivial⟩ rfl (A1 rfl (BF 43 1 _ [(0, Slc nb13 0 tot cp5)] ([Slc nb13 0 tot cp5]) EE BZ Tryd.zeroValue43 rfl rfl rfl (by kernel_rfl))) ?_
  rintro v1 L1 ⟨nb14, hnb14, rfl, rfl⟩
  refine ⟨[], ?_⟩
  show DP _ _ _ _ _ _ _ _ [_, _, _, _, _, ⟨nb14, [Slc nb13 0 tot cp5], 43, (0, 0)⟩]
  refine BT ⟨[4], [0, 1, 2, 3], [3], [0, 1, 2], [5]⟩ 5 _ rfl rfl (by decide +kernel) rfl ⟨⟨_, rfl, AB rfl (AJ 6 27 16 BN rfl DW rfl rfl)⟩, ⟨_, rfl, AB rfl (CT 16 5 1 0 16 6 16 C2 AY rfl rfl rfl (by omega) (by omega) (by omega) (by omega) (by omega) 16 (by omega))⟩, ⟨_, rfl, AB rfl (CT 32 5 1 0 32 0 32 CB AY rfl rfl rfl (by omega) (by omega) (by omega) (by omega) (by omega) 32 (by omega))⟩, trivial⟩ rfl (A1 rfl (B1 90 [Slc nb1 0 32 32, Slc nb14 0 1 1] _ (AW [Slc nb1 0 32 32, Slc nb14 0 1 1] Tryd.call90 rfl) (fun w1 hw1 => short_c (some ⟨nb1, 0, none⟩) 32 32 key nb14 1 [Slc nb13 0 tot cp5] [tktT pv ep k ([] : List UInt64) ([] : List SealR) bl] w1 hk32 (fun h => by cases h) (by omega) (RdB.of hw1 (MemAt.ent 0 rfl (AM _)) (by simp)) (by simp) (by simp) (by simp) ⟨RdA.of hw1 (MemAt.ent 5 rfl (Seg.head)) (by simp), ⟨⟨(some ⟨nb13, 0, none⟩), cp5, congrArg (fun n => Value.slice (some ⟨nb13, 0, none⟩) n cp5) ((show (tktT pv ep k ([] : List UInt64) ([] : List SealR) bl).length = tot from ((FH rfl rfl).trans htot))).symm, (RdB.of hw1 (MemAt.ent 4 rfl (BV (AM _))) (by simp))⟩, trivial⟩⟩ (by simp only [List.flatten_cons, List.flatten_nil, List.length_append, List.length_nil, (show (tktT pv ep k ([] : List UInt64) ([] : List SealR) bl).length = tot from ((FH rfl rfl).trans htot))]; omega) (hG.at hw1)))) ?_
  rintro v1 L1 ⟨_, ⟨nb15, sp6, cp6, rfl, rfl, hc26, hc27, hc28⟩, rfl⟩
  refine ⟨[], ?_⟩
  show DP _ _ _ _ _ _ _ _ [_, _, _, _, _, _, ⟨nb15, cu8 (mid (macL key ([tktT pv ep k ([] : List UInt64) ([] : List SealR) bl].flatten)) 0 16) ++ sp6, 5, (0, 0)⟩]
  refine BT ⟨[4, 5], [0, 1, 2, 3], [2, 3], [0, 1], [6]⟩ 6 _ rfl rfl (by decide +kernel) rfl ⟨⟨_, rfl, AB rfl (AJ 6 27 16 BN rfl DW rfl rfl)⟩, ⟨_, rfl, AB rfl (CT 16 5 1 0 16 6 16 C2 AY rfl rfl rfl (by omega) (by omega) (by omega) (by omega) (by omega) 16 (by omega))⟩, trivial⟩ rfl (A1 rfl (Step_copy 43 43 5 3 nb4 6 16 16 ([U64 pv, U64 ep, I64 ((k:Int)), .slice ao4 0 ca4, .slice ao5 0 ca5, U64 bl] ++ cu8 (zr8 16)) 29 (some ⟨nb15, 0, none⟩) 16 cp6 16 (cu8 (mid (macL key ([tktT pv ep k ([] : List UInt64) ([] : List SealR) bl].flatten)) 0 16)) ([U64 pv, U64 ep, I64 ((k:Int)), .slice ao4 0 ca4, .slice ao5 0 ca5, U64 bl] ++ cu8 (mid (macL key ([tktT pv ep k ([] : List UInt64) ([] : List SealR) bl].flatten)) 0 16)) AP FG rfl rfl rfl rfl (by rw [E5]; exact (show (mid (macL key ([tktT pv ep k ([] : List UInt64) ([] : List SealR) bl].flatten)) 0 16).length = 16 from DV (by rw [EC]; omega))) (SrcAt.mem (MemAt.ent 6 rfl (BV (AM _)))) (by simp [(A2 16)]; try omega) (by first | exact C5 | exact DA | exact C9 | (simp [cu8, cu32, cu64, Value.oneCell']; done)) (lay_right 6 0 rfl rfl (BU (by rw [E5, E5]; first | exact ((show (mid (macL key ([tktT pv ep k ([] : List UInt64) ([] : List SealR) bl].flatten)) 0 16).length = 16 from DV (by rw [EC]; omega))).trans ((A2 16)).symm | exact ((A2 16)).trans ((show (mid (macL key ([tktT pv ep k ([] : List UInt64) ([] : List SealR) bl].flatten)) 0 16).length = 16 from DV (by rw [EC]; omega))).symm))))) ?_
  rintro v1 L1 ⟨rfl, rfl⟩
  refine ⟨[], ?_⟩
  show DP _ _ _ _ _ _ _ _ [_, _, _, ⟨nb4, [U64 pv, U64 ep, I64 ((k:Int)), .slice ao4 0 ca4, .slice ao5 0 ca5, U64 bl] ++ cu8 (mid (macL key ([tktT pv ep k ([] : List UInt64) ([] : List SealR) bl].flatten)) 0 16), 29, (0, 0)⟩, _, _, _]
  refine DG ⟨[4, 5, 6], [0, 1, 2, 3], [0, 1, 2, 3], [], []⟩ rfl rfl (by decide +kernel) rfl trivial ?_
  refine CZ (F' := [(10, Ptr nb4 0), (8, Ptr nb3 0), (9, .nilIface)]) (by kernel_rfl) ?_
  refine AE (AG ?_)
  rw [tkG_of key pv ep k ([] : List UInt64) ([] : List SealR) bl]
  show JC _ _ _ _ [⟨nb1, cu8 key, 54, (0, 0)⟩, ⟨nb2, [I64 ((k:Int)), .slice ai 0 ci, .slice sa 0 sc, U64 bl], 26, (0, 0)⟩, ⟨nb3, [U64 (0:UInt64), U64 (0:UInt64), I64 (0:Int), .slice none 0 0, .slice none 0 0, U64 (0:UInt64)] ++ cu8 (zr8 16), 29, (0, 0)⟩, ⟨nb4, [U64 pv, U64 ep, I64 ((k:Int)), .slice ao4 0 ca4, .slice ao5 0 ca5, U64 bl] ++ cu8 (tkG key pv ep k ([] : List UInt64) ([] : List SealR) bl), 29, (0, 0)⟩, ⟨nb13, cu8 (tktT pv ep k ([] : List UInt64) ([] : List SealR) bl) ++ sp5, 5, (0, 0)⟩, ⟨nb14, [Slc nb13 0 tot cp5], 43, (0, 0)⟩, ⟨nb15, cu8 (tkG key pv ep k ([] : List UInt64) ([] : List SealR) bl) ++ sp6, 5, (0, 0)⟩]
  refine AC (AA (.agg (List.toArray (α := Value) ([U64 pv, U64 ep, I64 ((k:Int)), .slice ao4 0 ca4, .slice ao5 0 ca5, U64 bl] ++ cu8 (tkG key pv ep k ([] : List UInt64) ([] : List SealR) bl)))) (AL rfl (BO D7 C4 (by simp [(EX _ _ _ _ _ _ _)]) (MemAt.ent 3 rfl (AM _)))) rfl ?_)
  refine AN (A8 2 nb3 0 22 ([U64 (0:UInt64), U64 (0:UInt64), I64 (0:Int), .slice none 0 0, .slice none 0 0, U64 (0:UInt64)] ++ cu8 (zr8 16)) 29 (.agg (List.toArray (α := Value) ([U64 pv, U64 ep, I64 ((k:Int)), .slice ao4 0 ca4, .slice ao5 0 ca5, U64 bl] ++ cu8 (tkG key pv ep k ([] : List UInt64) ([] : List SealR) bl)))) ([U64 pv, U64 ep, I64 ((k:Int)), .slice ao4 0 ca4, .slice ao5 0 ca5, U64 bl] ++ cu8 (tkG key pv ep k ([] : List UInt64) ([] : List SealR) bl)) ([U64 pv, U64 ep, I64 ((k:Int)), .slice ao4 0 ca4, .slice ao5 0 ca5, U64 bl] ++ cu8 (tkG key pv ep k ([] : List UInt64) ([] : List SealR) bl)) rfl rfl rfl (by first | rfl | simp) C4 (by simp [(EX _ _ _ _ _ _ _)]) (FA (by simp [Value.oneCell']) C5) (by simp [(A2 16)]) (BU (by simp [(A2 16), (EX _ _ _ _ _ _ _)]))) rfl ?_
  rintro v1 L1 ⟨rfl, rfl⟩
  show JL _ _ _ _ _ [_, _, ⟨nb3, [U64 pv, U64 ep, I64 ((k:Int)), .slice ao4 0 ca4, .slice ao5 0 ca5, U64 bl] ++ cu8 (tkG key pv ep k ([] : List UInt64) ([] : List SealR) bl), 29, (0, 0)⟩, _, _, _, _]
  refine AA _ (AF rfl) rfl ?_
  refine AI (AE (BG (B5 [false, false, true, false, false, false, false] ?_)))
  show JQ _ _ _ _ [_]
  refine BI (.tuple #[.agg (List.toArray (α := Value) ([U64 pv, U64 ep, I64 ((k:Int)), .slice ao4 0 ca4, .slice ao5 0 ca5, U64 bl] ++ cu8 (tkG key pv ep k ([] : List UInt64) ([] : List SealR) bl))), .nilIface]) (res2 Tryd.results46 (EI rfl (BO D7 C4 (by simp [(EX _ _ _ _ _ _ _)]) (MemAt.ent 0 rfl (AM _)))) (BK rfl)) fun w1 hw1 => ?_
  exact ⟨_, _, rfl, ⟨ao4, ca4, ao5, ca5, rfl, rfl, (by omega), hc20, (by omega), hc22⟩, hw1.sub (by simp) (by simp)⟩
end Go.Proofs.YtkdpdgpphpngeaaDoor
