import Derived.Lib.LaidTab
import Derived.MakeChecks
import Derived.Shelf.Bytes.SlJoin
import Derived.Test.YtkdpdgpphpngeaaDoorPkTks3
namespace Go.Proofs.YtkdpdgpphpngeaaDoor
open Go Go.Sx
set_option linter.unusedVariables false
set_option linter.unusedSimpArgs false
set_option maxRecDepth 100000
attribute [local irreducible] mid zr8 zr32 numK rnK rotr wordL spreadL comprL cpN adN spN wrdN constL initL padL stN outN routN sumG putL RightB
theorem rnumber_c (nv : UInt64) (k : Nat) (w : World) (hk : k ≤ 8) : Calls Tryd.prog 88 #[U64 nv, I64 ((k:Int))] w (Post w [] (fun v L => ∃ g, v = Slc g 0 k k ∧ L = [⟨g, cu8 (numK k nv k), 5, (0, 0)⟩])) := by
 have hmx : maxLen = 9223372036854775807 := rfl
 refine enter w [] 24 [] [U64 nv, I64 ((k:Int))] Tryd.func88 rfl rfl (by simp) (B7 (by simp) (by simp) (by simp)) ?_
 show JC _ _ _ [(0, U64 nv), (1, I64 ((k:Int)))] _
 refine AL (AE (AA _ (AH rfl) rfl ?_))
 refine AN (AF (AL (AE (AA _ (AD rfl) rfl ?_))))
 refine AR (Step_make8 5 1 k k AO CS rfl rfl (by omega) (by omega) (by unfold maxLen; omega)) rfl ?_
 rintro v1 L1 ⟨nb1, hnb1, rfl, rfl⟩
 show JL _ _ _ _ ((8, Slc nb1 0 k k) :: _) [⟨nb1, cu8 (zr8 k), 5, (0, 0)⟩]
 refine AA _ (AH rfl) rfl ?_
 refine AN (AF (AL (AL (AE (AA _ (AD rfl) rfl ?_)))))
 refine AA (I64 ((k:Int) - 1)) (AQ rfl rfl fun _ => DK _ _ ((k:Int) - 1) (by omega) (by omega)) rfl ?_
 refine AA _ (AH rfl) rfl ?_
 refine AN (AF (B5 (EE (ι := Nat × List UInt8 × UInt64) (fun ⟨j, o, y⟩ => [(4, .slice none 0 0), (5, Slc nb1 0 k k), (6, I64 (-(j:Int) + (k:Int) - 1)), (0, U64 y)]) (fun ⟨j, o, y⟩ => [⟨nb1, cu8 o, 5, (0, 0)⟩]) (fun ⟨j, o, y⟩ => j ≤ k ∧ o = (rnK k nv j).1 ∧ y = (rnK k nv j).2 ∧ o.length = k) (fun ⟨j, o, y⟩ => k - j) (0, zr8 k, nv) ⟨by omega, by rw [rnK], by rw [rnK], AP k⟩ (Sub.cons rfl (Sub.cons rfl (Sub.cons (EQ (by omega)) (Sub.cons rfl (Sub.nil))))) rfl ?_)))
 rintro ⟨j, o, y⟩ ⟨hx1, hx2, hx3, ho⟩
 show JC _ _ _ [(4, .slice none 0 0), (5, Slc nb1 0 k k), (6, I64 (-(j:Int) + (k:Int) - 1)), (0, U64 y)] [⟨nb1, cu8 o, 5, (0, 0)⟩]
 refine AL (AL (AE (AA _ (AD rfl) rfl ?_)))
 refine AA (.bool (decide ((0:Int) ≤ (-(j:Int) + (k:Int) - 1)))) (AQ rfl rfl fun _ => FW _ _) rfl ?_
 refine AN (AF (CT (decide ((0:Int) ≤ (-(j:Int) + (k:Int) - 1))) rfl (fun hb1 => ?_) (fun hb1 => ?_)))
 ·
  have hp1 : (0:Int) ≤ (-(j:Int) + (k:Int) - 1) := of_decide_eq_true hb1
  refine B4 (AF (AL (B5 (AL (AE (AA _ (AD rfl) rfl ?_))))))
  refine AA _ (AD rfl) rfl ?_
  refine AA _ (AD rfl) rfl ?_
  refine AA (U64 (y % (256:UInt64))) (AQ rfl rfl fun _ => bin_rem_u64 y (256:UInt64) (by decide)) rfl ?_
  refine AA (U8 ((y % (256:UInt64)).toUInt8)) (EI _ _ rfl fun _ => FH (by rw [CF]; rfl) BY _) rfl ?_
  refine AA (Ptr nb1 (k - j - 1)) (Ev_indexSl 5 1 (k - j - 1) AO AX rfl rfl (by omega) (by omega) (by omega)) rfl ?_
  have hl1 : (o.set (k - j - 1) ((y % (256:UInt64)).toUInt8)).length = k := by first | (rw [List.length_set]; exact ho) | simp [ho]
  refine AR (A6 0 nb1 (k - j - 1) 1 (cu8 o) 5 (U8 ((y % (256:UInt64)).toUInt8)) ([U8 ((y % (256:UInt64)).toUInt8)]) (cu8 (o.set (k - j - 1) ((y % (256:UInt64)).toUInt8))) rfl rfl rfl rfl AX rfl (by simp [Value.oneCell']) (by simp [ho]; try omega) (lay8 _ _ _ (by rw [ho]; omega))) rfl ?_
  rintro v1 L1 ⟨rfl, rfl⟩
  show JL _ _ _ _ _ [⟨nb1, cu8 (o.set (k - j - 1) ((y % (256:UInt64)).toUInt8)), 5, (0, 0)⟩]
  refine AN (AF (AE (AA _ (AD rfl) rfl ?_)))
  refine AA (U64 (y / (256:UInt64))) (AQ rfl rfl fun _ => bin_quo_u64 y (256:UInt64) (by decide)) rfl ?_
  refine AA _ (AH rfl) rfl ?_
  refine AN (B1 (AF (AE (AA _ (AD rfl) rfl ?_))))
  refine AA (I64 (-(j:Int) + (k:Int) - 2)) (AQ rfl rfl fun _ => DK _ _ (-(j:Int) + (k:Int) - 2) (by omega) (by omega)) rfl ?_
  refine AA _ (AH rfl) rfl ?_
  refine AN (DF (EN (j + 1, o.set (k - j - 1) ((y % (256:UInt64)).toUInt8), y / (256:UInt64)) ⟨by omega, by rw [rnK, ← hx2, ← hx3], by rw [rnK, ← hx3], hl1⟩ (by first | (simp; omega) | simp | (dsimp only; omega) | omega) (Sub.cons rfl (Sub.cons rfl (Sub.cons (EQ (by omega)) (Sub.cons rfl (Sub.nil))))) rfl))
 ·
  have hp1 : ¬ ((0:Int) ≤ (-(j:Int) + (k:Int) - 1)) := of_decide_eq_false hb1
  refine EB (BD (BD (CV (AF (AL (AE (AA _ (AD rfl) rfl ?_)))))))
  refine AA _ (AH rfl) rfl ?_
  refine AN (AF (BO (BP (Slc nb1 0 k k) (res1 Tryd.results88 (BT rfl)) fun w1 hw1 => ?_)))
  have e1 : j = k := by omega
  rw [hx2, e1, rnK_num k nv hk] at hw1
  exact ⟨_, _, rfl, ⟨_, rfl, rfl⟩, hw1.sub (by simp) (by simp)⟩
theorem put7_c (e : UInt64) (d t : List UInt8) (w : World) (hd : d.length = 32) (ht : t.length = 16) : Calls Tryd.prog 97 #[.agg (List.toArray (α := Value) ([U64 e] ++ cu8 d ++ cu8 t))] w (Post w [] (fun v L => ∃ g sp cap, v = Slc g 0 56 cap ∧ L = [⟨g, cu8 (putL e d t) ++ sp, 5, (0, 0)⟩] ∧ sp.length = cap - 56 ∧ 56 ≤ cap ∧ cap ≤ maxLen)) := by
 have hmx : maxLen = 9223372036854775807 := rfl
 refine enter (P := Tryd.prog) (f := 97) (fn := Tryd.f97) w [] 25 [] [.agg (List.toArray (α := Value) ([U64 e] ++ cu8 d ++ cu8 t))] Tryd.func97 rfl rfl (by simp) (B7 (by simp) (by simp) (by simp)) ?_
 show JC _ _ _ [(0, .agg (List.toArray (α := Value) ([U64 e] ++ cu8 d ++ cu8 t)))] _
 refine AL (AE (AR (CN (.agg (List.toArray (α := Value) ([U64 e] ++ cu8 d ++ cu8 t))) ([U64 e] ++ cu8 d ++ cu8 t) rfl (by first | rfl | simp)) rfl ?_))
 rintro v1 L1 ⟨nb1, hnb1, rfl, rfl⟩
 show JL _ _ _ _ ((1, Ptr nb1 0) :: _) [⟨nb1, [U64 e] ++ cu8 d ++ cu8 t, 161, (0, 0)⟩]
 refine AA _ (AH rfl) rfl ?_
 refine AN (AF (AL (AE (AA (.agg (List.toArray (α := Value) ([.nilIface, .slice none 0 0]))) (CB [] _ rfl (fun _ => by kernel_rfl)) rfl ?_))))
 refine AR (CN (.agg (List.toArray (α := Value) ([.nilIface, .slice none 0 0]))) ([.nilIface, .slice none 0 0]) rfl (by first | rfl | simp)) rfl ?_
 rintro v1 L1 ⟨nb2, hnb2, rfl, rfl⟩
 show JL _ _ _ _ ((7, Ptr nb2 0) :: _) [_, ⟨nb2, [.nilIface, .slice none 0 0], 149, (0, 0)⟩]
 refine AA _ (AH rfl) rfl ?_
 refine AN (AF (AL (CQ 25 5 [(0, Ptr nb2 0), (1, Ptr nb1 0), (2, U64 e), (4, Ptr nb1 1), (5, Slc nb1 1 32 32), (7, Ptr nb1 33), (8, Slc nb1 33 16 16)] BQ rfl (by decide +kernel) ?_)))
 refine BR ⟨[], [0, 1, 2, 4, 5, 7, 8], [], [0, 1, 2, 4, 5, 7, 8], [3]⟩ 3 _ rfl rfl (by decide +kernel) rfl ⟨⟨_, rfl, AB rfl (AD rfl)⟩, ⟨_, rfl, AB rfl (AC 0 22 1 D8 rfl AT rfl rfl)⟩, ⟨_, rfl, AB rfl (AK rfl (AV AU (MemAt.ent 0 rfl (A2 (A2 (Seg.head))))))⟩, ⟨_, rfl, AB rfl (AC 1 159 32 D8 rfl Tryd.sizeOf159 rfl rfl)⟩, ⟨_, rfl, AB rfl (BX 32 5 1 0 32 1 32 Tryd.underlying159 AX rfl rfl rfl (by omega) (by omega) (by omega) (by omega) (by omega) 32 (by omega))⟩, ⟨_, rfl, AB rfl (AC 33 27 16 D8 rfl A1 rfl rfl)⟩, ⟨_, rfl, AB rfl (BX 16 5 1 0 16 33 16 BC AX rfl rfl rfl (by omega) (by omega) (by omega) (by omega) (by omega) 16 (by omega))⟩, trivial⟩ rfl (AZ rfl (FB 81 _ [false, true] [nb2] _ (A0 [Ptr nb2 0, U64 e, I64 (8:Int)] Tryd.call81 rfl) rfl (fun w1 hw1 => numN_c nb2 8 .nilIface e 8 w1 (hw1.ent _ (List.mem_of_getElem? (i := 1) rfl)) (by unfold Szd; omega) (fun h => absurd h (by omega)) (by omega)))) ?_
 rintro v1 L1 ⟨_, ⟨rfl, nb3, sp1, cp1, rfl, hc1, hc2, hc3⟩, rfl⟩
 refine ⟨[], ?_⟩
 show DP _ _ _ _ _ _ _ _ [_, ⟨nb2, [.nilIface, Slc nb3 0 8 cp1], 149, (0, 0)⟩, ⟨nb3, cu8 (numK 8 e 8) ++ sp1, 5, (0, 0)⟩]
 refine BR ⟨[3], [0, 1, 2, 4, 5, 7, 8], [0, 1, 2], [4, 5, 7, 8], [6]⟩ 6 _ rfl rfl (by decide +kernel) rfl ⟨⟨_, rfl, AB rfl (AC 1 159 32 D8 rfl Tryd.sizeOf159 rfl rfl)⟩, ⟨_, rfl, AB rfl (BX 32 5 1 0 32 1 32 Tryd.underlying159 AX rfl rfl rfl (by omega) (by omega) (by omega) (by omega) (by omega) 32 (by omega))⟩, ⟨_, rfl, AB rfl (AC 33 27 16 D8 rfl A1 rfl rfl)⟩, ⟨_, rfl, AB rfl (BX 16 5 1 0 16 33 16 BC AX rfl rfl rfl (by omega) (by omega) (by omega) (by omega) (by omega) 16 (by omega))⟩, trivial⟩ rfl (AZ rfl (FB 82 _ [false, true, true] [nb2, nb3] _ (A0 [Ptr nb2 0, Slc nb1 1 32 32] Tryd.call82 rfl) rfl (fun w1 hw1 => rawO_c nb2 nb3 8 cp1 40 .nilIface (numK 8 e 8) sp1 (some ⟨nb1, 1, none⟩) 32 32 d w1 (hw1.ent _ (List.mem_of_getElem? (i := 1) rfl)) (hw1.ent _ (List.mem_of_getElem? (i := 2) rfl)) (hw1.ne (i := 1) (j := 2) rfl rfl (by decide)) (show (numK 8 e 8).length = 8 from (DR _ _ _)) hc1 hc2 hc3 (by omega) hd (by omega) (RdB.of hw1 (MemAt.ent 0 rfl (A2 (Seg.right 1 0 rfl rfl (AM _)))) (by intro _; simp only [List.mem_cons, List.not_mem_nil, or_false, not_or]; exact ⟨hw1.ne (i := 0) (j := 1) rfl rfl (by decide), hw1.ne (i := 0) (j := 2) rfl rfl (by decide)⟩)) (by omega)))) ?_
 rintro v1 L1 ⟨_, ⟨rfl, nb4, sp2, cp2, rfl, hc4, hc5, hc6⟩, rfl⟩
 refine ⟨[], ?_⟩
 show DP _ _ _ _ _ _ _ _ [_, ⟨nb2, [.nilIface, Slc nb4 0 40 cp2], 149, (0, 0)⟩, ⟨nb4, cu8 ((numK 8 e 8) ++ d) ++ sp2, 5, (0, 0)⟩]
 refine BR ⟨[3, 6], [0, 1, 2, 4, 5, 7, 8], [0, 1, 2, 4, 5], [7, 8], [9]⟩ 9 _ rfl rfl (by decide +kernel) rfl ⟨⟨_, rfl, AB rfl (AC 33 27 16 D8 rfl A1 rfl rfl)⟩, ⟨_, rfl, AB rfl (BX 16 5 1 0 16 33 16 BC AX rfl rfl rfl (by omega) (by omega) (by omega) (by omega) (by omega) 16 (by omega))⟩, trivial⟩ rfl (AZ rfl (FB 82 _ [false, true, true] [nb2, nb4] _ (A0 [Ptr nb2 0, Slc nb1 33 16 16] Tryd.call82 rfl) rfl (fun w1 hw1 => rawO_c nb2 nb4 40 cp2 56 .nilIface ((numK 8 e 8) ++ d) sp2 (some ⟨nb1, 33, none⟩) 16 16 t w1 (hw1.ent _ (List.mem_of_getElem? (i := 1) rfl)) (hw1.ent _ (List.mem_of_getElem? (i := 2) rfl)) (hw1.ne (i := 1) (j := 2) rfl rfl (by decide)) (show ((numK 8 e 8) ++ d).length = 40 from (by rw [List.length_append, (show (numK 8 e 8).length = 8 from (DR _ _ _)), hd] <;> omega)) hc4 hc5 hc6 (by omega) ht (by omega) (RdB.of hw1 (MemAt.ent 0 rfl (Seg.right 33 0 (by simp [hd]) rfl (AM _))) (by intro _; simp only [List.mem_cons, List.not_mem_nil, or_false, not_or]; exact ⟨hw1.ne (i := 0) (j := 1) rfl rfl (by decide), hw1.ne (i := 0) (j := 2) rfl rfl (by decide)⟩)) (by omega)))) ?_
 rintro v1 L1 ⟨_, ⟨rfl, nb5, sp3, cp3, rfl, hc7, hc8, hc9⟩, rfl⟩
 refine ⟨[], ?_⟩
 show DP _ _ _ _ _ _ _ _ [_, ⟨nb2, [.nilIface, Slc nb5 0 56 cp3], 149, (0, 0)⟩, ⟨nb5, cu8 (((numK 8 e 8) ++ d) ++ t) ++ sp3, 5, (0, 0)⟩]
 refine BR ⟨[3, 6, 9], [0, 1, 2, 4, 5, 7, 8], [0, 1, 2, 4, 5, 7, 8], [], [10]⟩ 10 _ rfl rfl (by decide +kernel) rfl trivial rfl (AZ rfl (BG 83 [Ptr nb2 0] _ (A0 [Ptr nb2 0] Tryd.call83 rfl) (fun w1 hw1 => doneO_c nb2 0 nb5 56 cp3 (((numK 8 e 8) ++ d) ++ t) w1 (RdA.of hw1 (MemAt.ent 1 rfl (AM _)) (by simp)) rfl (show (((numK 8 e 8) ++ d) ++ t).length = 56 from (by rw [List.length_append, (show ((numK 8 e 8) ++ d).length = 40 from (by rw [List.length_append, (show (numK 8 e 8).length = 8 from (DR _ _ _)), hd] <;> omega)), ht] <;> omega)) (by omega) (RdB.of hw1 (MemAt.ent 2 rfl (A2 (AM _))) (by simp))))) ?_
 rintro v1 L1 ⟨_, ⟨nb6, sp4, cp4, rfl, rfl, hc10, hc11, hc12⟩, rfl⟩
 refine ⟨[(11, .tuple #[Slc nb6 0 56 cp4, .nilIface]), (12, Slc nb6 0 56 cp4), (13, .nilIface), (14, Slc nb6 0 56 cp4), (15, .nilIface)], ?_⟩
 show DP _ _ _ _ _ _ _ _ [_, _, _, ⟨nb6, cu8 (((numK 8 e 8) ++ d) ++ t) ++ sp4, 5, (0, 0)⟩]
 refine CZ ⟨[3, 6, 9, 10], [0, 1, 2, 4, 5, 7, 8, 11, 12, 13, 14, 15], [0, 1, 2, 4, 5, 7, 8], [11, 12, 13, 14, 15], []⟩ rfl rfl (by decide +kernel) rfl ⟨⟨_, rfl, AB rfl (AD rfl)⟩, ⟨_, rfl, AB rfl (BN rfl rfl)⟩, ⟨_, rfl, AB rfl (BN rfl rfl)⟩, ⟨_, rfl, AB rfl (AH rfl)⟩, ⟨_, rfl, AB rfl (AH rfl)⟩, trivial⟩ ?_
 refine CC (F' := [(4, Slc nb6 0 56 cp4), (5, .nilIface), (2, .slice none 0 0)]) (by kernel_rfl) ?_
 refine AF (AL (AL (AE (AA _ (AD rfl) rfl ?_))))
 refine AA (.bool false) (DC _ _ _ rfl rfl (fun _ => EC ..) fun _ => EF BB) rfl ?_
 refine AN (AF (C0 _ rfl rfl ?_))
 refine B4 (AF (AL (AE (AA _ (AD rfl) rfl ?_))))
 refine AA _ (AH rfl) rfl ?_
 refine AN (AF (BO (B8 [false, false, false, true] ?_)))
 show JQ _ _ _ _ [_]
 refine BP (Slc nb6 0 56 cp4) (res1 Tryd.results97 (BT rfl)) fun w1 hw1 => ?_
 have hq : ((numK 8 e 8) ++ d) ++ t = putL e d t := by rw [putL]
 rw [hq] at hw1
 exact ⟨_, _, rfl, ⟨nb6, sp4, cp4, rfl, rfl, hc10, hc11, hc12⟩, hw1.sub (by simp) (by simp)⟩
theorem rput7_c (e : UInt64) (d t : List UInt8) (w : World) (hd : d.length = 32) (ht : t.length = 16) : Calls Tryd.prog 105 #[.agg (List.toArray (α := Value) ([U64 e] ++ cu8 d ++ cu8 t))] w (Post w [] (fun v L => ∃ g sp cap, v = Slc g 0 56 cap ∧ L = [⟨g, cu8 (putL e d t) ++ sp, 5, (0, 0)⟩] ∧ sp.length = cap - 56 ∧ 56 ≤ cap ∧ cap ≤ maxLen)) := by
 have hmx : maxLen = 9223372036854775807 := rfl
 refine enter (P := Tryd.prog) (f := 105) (fn := Tryd.f105) w [] 15 [] [.agg (List.toArray (α := Value) ([U64 e] ++ cu8 d ++ cu8 t))] Tryd.func105 rfl rfl (by simp) (B7 (by simp) (by simp) (by simp)) ?_
 show JC _ _ _ [(0, .agg (List.toArray (α := Value) ([U64 e] ++ cu8 d ++ cu8 t)))] _
 refine AL (AE (AR (CN (.agg (List.toArray (α := Value) ([U64 e] ++ cu8 d ++ cu8 t))) ([U64 e] ++ cu8 d ++ cu8 t) rfl (by first | rfl | simp)) rfl ?_))
 rintro v1 L1 ⟨nb1, hnb1, rfl, rfl⟩
 show JL _ _ _ _ ((1, Ptr nb1 0) :: _) [⟨nb1, [U64 e] ++ cu8 d ++ cu8 t, 164, (0, 0)⟩]
 refine AA _ (AH rfl) rfl ?_
 refine AN (AF (AL (AE (AA (Ptr nb1 0) (AC 0 22 1 EY rfl AT rfl rfl) rfl ?_))))
 refine AA (U64 e) (AK rfl (AV AU (MemAt.ent 0 rfl (A2 (A2 (Seg.head)))))) rfl ?_
 refine AR (BG 88 [U64 e, I64 (8:Int)] _ (A0 [U64 e, I64 (8:Int)] Tryd.call88 rfl) (fun w1 hw1 => rnumber_c e 8 w1 (by omega))) rfl ?_
 rintro v1 L1 ⟨_, ⟨nb2, rfl, rfl⟩, rfl⟩
 show JL _ _ _ _ ((6, Slc nb2 0 8 8) :: _) [_, ⟨nb2, cu8 (numK 8 e 8), 5, (0, 0)⟩]
 refine AA _ (AH rfl) rfl ?_
 refine AN (AF (AL (AE (AA _ (AD rfl) rfl ?_))))
 refine AA (Ptr nb1 1) (AC 1 159 32 EY rfl Tryd.sizeOf159 rfl rfl) rfl ?_
 refine AA (Slc nb1 1 32 32) (BX 32 5 1 0 32 1 32 Tryd.underlying159 AX rfl rfl rfl (by omega) (by omega) (by omega) (by omega) (by omega) 32 (by omega)) rfl ?_
 refine AR (CY 43 5 [false, true] (Slc nb2 0 8 8) 8 (numK 8 e 8) d (some ⟨nb1, 1, none⟩) 32 32 40 AO CS rfl (.inr ⟨nb2, [], 8, rfl, (by simp [take?, cu8, cu32, cu64]), (by first | exact (show (numK 8 e 8).length = 8 from DR _ _ _) | simp [(show (numK 8 e 8).length = 8 from DR _ _ _)]), (by simp), (by omega), (by unfold maxLen; omega)⟩) rfl (by first | exact hd | simp [hd]; try omega) (SrcAt.mem (MemAt.ent 0 rfl (A2 (Seg.right 1 0 rfl rfl (AM _))))) (by omega) (by unfold maxLen; omega) (by omega)) rfl ?_
 rintro v1 L1 ⟨nb3, sp1, cp1, hg1, rfl, rfl, ha1, ha2, ha3, ha4⟩
 show JL _ _ _ _ ((10, Slc nb3 0 40 cp1) :: _) [_, ⟨nb3, cu8 ((numK 8 e 8) ++ d) ++ sp1, 5, (0, 0)⟩]
 refine AA _ (AH rfl) rfl ?_
 refine AN (AF (AL (AE (AA _ (AD rfl) rfl ?_))))
 refine AA (Ptr nb1 33) (AC 33 27 16 EY rfl A1 rfl rfl) rfl ?_
 refine AA (Slc nb1 33 16 16) (BX 16 5 1 0 16 33 16 BC AX rfl rfl rfl (by omega) (by omega) (by omega) (by omega) (by omega) 16 (by omega)) rfl ?_
 refine AR (CY 43 5 [false, true] (Slc nb3 0 40 cp1) 40 ((numK 8 e 8) ++ d) t (some ⟨nb1, 33, none⟩) 16 16 56 AO CS rfl (.inr ⟨nb3, sp1, cp1, rfl, rfl, (by first | exact ha1 | simp [ha1]), ha2, (by omega), (by omega)⟩) rfl (by first | exact ht | simp [ht]; try omega) (SrcAt.mem (MemAt.ent 0 rfl (Seg.right 33 0 (by simp [hd]) rfl (AM _)))) (by omega) (by unfold maxLen; omega) (by omega)) rfl ?_
 rintro v1 L1 ⟨nb4, sp2, cp2, hg2, rfl, rfl, ha5, ha6, ha7, ha8⟩
 show JL _ _ _ _ ((14, Slc nb4 0 56 cp2) :: _) [_, ⟨nb4, cu8 (((numK 8 e 8) ++ d) ++ t) ++ sp2, 5, (0, 0)⟩]
 refine AA _ (AH rfl) rfl ?_
 refine AN (AF (BO (B8 [false, true] ?_)))
 show JQ _ _ _ _ [_]
 refine BP (Slc nb4 0 56 cp2) (res1 Tryd.results105 (BT rfl)) fun w1 hw1 => ?_
 have hq : ((numK 8 e 8) ++ d) ++ t = putL e d t := by rw [putL]
 rw [hq] at hw1
 exact ⟨_, _, rfl, ⟨nb4, sp2, cp2, rfl, rfl, ha6, ha7, ha8⟩, hw1.sub (by simp) (by simp)⟩
theorem text3_c (pv ep : UInt64) (k : Nat) (ai : Option Addr) (ni ci : Nat) (l : List UInt64) (sa : Option Addr) (ns sc : Nat) (ls : List SealR) (bl : UInt64) (tg : List UInt8)  (w : World) (hl : l.length = ni) (hnm : ni ≤ 2000000) (hnc : ni ≤ ci) (hcm : ci ≤ maxLen) (hv : RdV w ai (cu64 l)) (hls : ls.length = ns) (hnn : ns ≤ 2000000) (hnd : ns ≤ sc) (hcn : sc ≤ maxLen) (hs : RdV w sa (ls.flatMap sealC)) (htg : tg.length = 16) (hmay : mayN pv ep (k:Int) l ls bl = 0) (hk : k = 3)  : Calls Tryd.prog 114 #[.agg (List.toArray (α := Value) ([U64 pv, U64 ep, I64 ((k:Int)), .slice ai ni ci, .slice sa ns sc, U64 bl] ++ cu8 tg))] w (Post w [] (fun v L => ∃ g sp cap, v = .tuple #[Slc g 0 25 cap, .nilIface] ∧ L = [⟨g, cu8 (tktT pv ep k l ls bl) ++ sp, 5, (0, 0)⟩] ∧ sp.length = cap - 25 ∧ 25 ≤ cap ∧ cap ≤ maxLen)) := by
 have hmx : maxLen = 9223372036854775807 := rfl
 refine enter (P := Tryd.prog) (f := 114) (fn := Tryd.f114) w [] 75 [] [.agg (List.toArray (α := Value) ([U64 pv, U64 ep, I64 ((k:Int)), .slice ai ni ci, .slice sa ns sc, U64 bl] ++ cu8 tg))] Tryd.func114 rfl rfl (by simp) (B7 (by simp) (by simp) (by simp)) ?_
 show JC _ _ _ [(0, .agg (List.toArray (α := Value) ([U64 pv, U64 ep, I64 ((k:Int)), .slice ai ni ci, .slice sa ns sc, U64 bl] ++ cu8 tg)))] _
 refine AL (AE (AR (CN (.agg (List.toArray (α := Value) ([U64 pv, U64 ep, I64 ((k:Int)), .slice ai ni ci, .slice sa ns sc, U64 bl] ++ cu8 tg))) ([U64 pv, U64 ep, I64 ((k:Int)), .slice ai ni ci, .slice sa ns sc, U64 bl] ++ cu8 tg) rfl (by first | rfl | simp)) rfl ?_))
 rintro v1 L1 ⟨nb1, hnb1, rfl, rfl⟩
 show JL _ _ _ _ ((1, Ptr nb1 0) :: _) [⟨nb1, [U64 pv, U64 ep, I64 ((k:Int)), .slice ai ni ci, .slice sa ns sc, U64 bl] ++ cu8 tg, 29, (0, 0)⟩]
 refine AA _ (AH rfl) rfl ?_
 refine AA _ (AH rfl) rfl ?_
 refine AN (AF (AL (AL (AE (AA (.agg (List.toArray (α := Value) ([U64 pv, U64 ep, I64 ((k:Int)), .slice ai ni ci, .slice sa ns sc, U64 bl] ++ cu8 tg))) (AK rfl (BH BE AW (by simp [htg]) (MemAt.ent 0 rfl (AM _)))) rfl ?_)))))
 refine AR (A3 128 [.agg (List.toArray (α := Value) ([U64 pv, U64 ep, I64 ((k:Int)), .slice ai ni ci, .slice sa ns sc, U64 bl] ++ cu8 tg))] (errV 50 (mayN pv ep ((k:Int)) l ls bl)) (A0 [.agg (List.toArray (α := Value) ([U64 pv, U64 ep, I64 ((k:Int)), .slice ai ni ci, .slice sa ns sc, U64 bl] ++ cu8 tg))] Tryd.call128 rfl) (fun w1 hw1 => may13_c pv ep ((k:Int)) ai ni ci l sa ns sc ls bl tg w1 hl (by omega) (by omega) (by omega) (C1 hw1 rfl hv) hls (by omega) (by omega) (by omega) (C1 hw1 rfl hs) htg)) rfl ?_
 rintro v1 L1 ⟨rfl, rfl⟩
 show JL _ _ _ _ ((12, errV 50 (mayN pv ep ((k:Int)) l ls bl)) :: _) [_]
 refine AA _ (AH rfl) rfl ?_
 refine AN (AF (AL (AE (AA _ (AD rfl) rfl ?_))))
 refine AA (.bool (!(decide (mayN pv ep ((k:Int)) l ls bl = 0)))) (DC _ _ _ rfl rfl (fun _ => C5 ..) fun _ => EW BB _ _) rfl ?_
 refine AN (AF (C0 _ rfl (by rw [show (decide (mayN pv ep ((k:Int)) l ls bl = 0)) = true from (decide_eq_true hmay)] <;> rfl) ?_))
 refine B4 (AF (AL (AE (AA (Ptr nb1 2) (AC 2 26 4 AS rfl BI rfl rfl) rfl ?_))))
 refine AA (.agg (List.toArray (α := Value) ([I64 ((k:Int)), .slice ai ni ci, .slice sa ns sc, U64 bl]))) (AK rfl (BH DE BI rfl (MemAt.ent 0 rfl (D9 (p := [U64 pv, U64 ep]) (q := cu8 tg) (vs := [I64 ((k:Int)), .slice ai ni ci, .slice sa ns sc, U64 bl]) (by first | rfl | (simp only [List.append_assoc, List.nil_append, List.append_nil, List.cons_append]; done)) rfl)))) rfl ?_
 refine AR (BJ _ ([I64 (0:Int), .slice none 0 0, .slice none 0 0, U64 (0:UInt64)]) Tryd.zeroValue26 (by kernel_rfl)) rfl ?_
 rintro v1 L1 ⟨nb2, hnb2, rfl, rfl⟩
 show JL _ _ _ _ ((5, Ptr nb2 0) :: _) [_, ⟨nb2, [I64 (0:Int), .slice none 0 0, .slice none 0 0, U64 (0:UInt64)], 26, (0, 0)⟩]
 refine AR (A6 1 nb2 0 4 ([I64 (0:Int), .slice none 0 0, .slice none 0 0, U64 (0:UInt64)]) 26 (.agg (List.toArray (α := Value) ([I64 ((k:Int)), .slice ai ni ci, .slice sa ns sc, U64 bl]))) ([I64 ((k:Int)), .slice ai ni ci, .slice sa ns sc, U64 bl]) ([I64 ((k:Int)), .slice ai ni ci, .slice sa ns sc, U64 bl]) rfl rfl rfl (by first | rfl | simp) BI rfl (by simp [Value.oneCell']) (Nat.le_of_ble_eq_true rfl) (BF (by simp []))) rfl ?_
 rintro v1 L1 ⟨rfl, rfl⟩
 show JL _ _ _ _ _ [_, ⟨nb2, [I64 ((k:Int)), .slice ai ni ci, .slice sa ns sc, U64 bl], 26, (0, 0)⟩]
 refine AN (AF (AL (AE (AA (.agg (List.toArray (α := Value) ([.nilIface, .slice none 0 0]))) (CB [] _ rfl (fun _ => by kernel_rfl)) rfl ?_))))
 refine AR (CN (.agg (List.toArray (α := Value) ([.nilIface, .slice none 0 0]))) ([.nilIface, .slice none 0 0]) rfl (by first | rfl | simp)) rfl ?_
 rintro v1 L1 ⟨nb3, hnb3, rfl, rfl⟩
 show JL _ _ _ _ ((19, Ptr nb3 0) :: _) [_, _, ⟨nb3, [.nilIface, .slice none 0 0], 149, (0, 0)⟩]
 refine AA _ (AH rfl) rfl ?_
 refine AN (AF (AL (CQ 75 4 [(0, Ptr nb3 0), (1, Ptr nb1 0), (2, U64 pv), (4, Ptr nb1 1), (5, U64 ep), (7, Ptr nb2 0), (8, I64 ((k:Int))), (9, U64 (UInt64.ofNat k))] BQ rfl (by decide +kernel) ?_)))
 refine BR ⟨[], [0, 1, 2, 4, 5, 7, 8, 9], [], [0, 1, 2, 4, 5, 7, 8, 9], [3]⟩ 3 _ rfl rfl (by decide +kernel) rfl ⟨⟨_, rfl, AB rfl (AD rfl)⟩, ⟨_, rfl, AB rfl (AC 0 22 1 AS rfl AT rfl rfl)⟩, ⟨_, rfl, AB rfl (AK rfl (AV AU (MemAt.ent 0 rfl (A2 (Seg.head)))))⟩, ⟨_, rfl, AB rfl (AC 1 22 1 AS rfl AT rfl rfl)⟩, ⟨_, rfl, AB rfl (AK rfl (AV AU (MemAt.ent 0 rfl (A2 (AJ (Seg.head))))))⟩, ⟨_, rfl, AB rfl (AC 0 3 1 AG rfl A7 rfl rfl)⟩, ⟨_, rfl, AB rfl (AK rfl (AV BA (MemAt.ent 1 rfl (Seg.head))))⟩, ⟨_, rfl, AB rfl (EI _ _ rfl fun _ => EU (by rw [DH]; rfl) CF k _ (by omega))⟩, trivial⟩ rfl (AZ rfl (FB 81 _ [false, false, true] [nb3] _ (A0 [Ptr nb3 0, U64 pv, I64 (8:Int)] Tryd.call81 rfl) rfl (fun w1 hw1 => numN_c nb3 8 .nilIface pv 8 w1 (hw1.ent _ (List.mem_of_getElem? (i := 2) rfl)) (by unfold Szd; omega) (fun h => absurd h (by omega)) (by omega)))) ?_
 rintro v1 L1 ⟨_, ⟨rfl, nb4, sp1, cp1, rfl, hc1, hc2, hc3⟩, rfl⟩
 refine ⟨[], ?_⟩
 show DP _ _ _ _ _ _ _ _ [_, _, ⟨nb3, [.nilIface, Slc nb4 0 8 cp1], 149, (0, 0)⟩, ⟨nb4, cu8 (numK 8 pv 8) ++ sp1, 5, (0, 0)⟩]
 refine BR ⟨[3], [0, 1, 2, 4, 5, 7, 8, 9], [0, 1, 2], [4, 5, 7, 8, 9], [6]⟩ 6 _ rfl rfl (by decide +kernel) rfl ⟨⟨_, rfl, AB rfl (AC 1 22 1 AS rfl AT rfl rfl)⟩, ⟨_, rfl, AB rfl (AK rfl (AV AU (MemAt.ent 0 rfl (A2 (AJ (Seg.head))))))⟩, ⟨_, rfl, AB rfl (AC 0 3 1 AG rfl A7 rfl rfl)⟩, ⟨_, rfl, AB rfl (AK rfl (AV BA (MemAt.ent 1 rfl (Seg.head))))⟩, ⟨_, rfl, AB rfl (EI _ _ rfl fun _ => EU (by rw [DH]; rfl) CF k _ (by omega))⟩, trivial⟩ rfl (AZ rfl (FB 81 _ [false, false, true, true] [nb3, nb4] _ (A0 [Ptr nb3 0, U64 ep, I64 (8:Int)] Tryd.call81 rfl) rfl (fun w1 hw1 => numO_c nb3 nb4 8 cp1 16 .nilIface (numK 8 pv 8) sp1 ep 8 w1 (hw1.ent _ (List.mem_of_getElem? (i := 2) rfl)) (hw1.ent _ (List.mem_of_getElem? (i := 3) rfl)) (hw1.ne (i := 2) (j := 3) rfl rfl (by decide)) (show (numK 8 pv 8).length = 8 from (DR _ _ _)) hc1 hc2 hc3 (by omega) (by unfold Szd; omega) (fun h => absurd h (by omega)) (by omega)))) ?_
 rintro v1 L1 ⟨_, ⟨rfl, nb5, sp2, cp2, rfl, hc4, hc5, hc6⟩, rfl⟩
 refine ⟨[], ?_⟩
 show DP _ _ _ _ _ _ _ _ [_, _, ⟨nb3, [.nilIface, Slc nb5 0 16 cp2], 149, (0, 0)⟩, ⟨nb5, cu8 ((numK 8 pv 8) ++ numK 8 ep 8) ++ sp2, 5, (0, 0)⟩]
 refine BR ⟨[3, 6], [0, 1, 2, 4, 5, 7, 8, 9], [0, 1, 2, 4, 5], [7, 8, 9], [10]⟩ 10 _ rfl rfl (by decide +kernel) rfl ⟨⟨_, rfl, AB rfl (AC 0 3 1 AG rfl A7 rfl rfl)⟩, ⟨_, rfl, AB rfl (AK rfl (AV BA (MemAt.ent 1 rfl (Seg.head))))⟩, ⟨_, rfl, AB rfl (EI _ _ rfl fun _ => EU (by rw [DH]; rfl) CF k _ (by omega))⟩, trivial⟩ rfl (AZ rfl (FB 81 _ [false, false, true, true] [nb3, nb5] _ (A0 [Ptr nb3 0, U64 (UInt64.ofNat k), I64 (1:Int)] Tryd.call81 rfl) rfl (fun w1 hw1 => numO_c nb3 nb5 16 cp2 17 .nilIface ((numK 8 pv 8) ++ numK 8 ep 8) sp2 (UInt64.ofNat k) 1 w1 (hw1.ent _ (List.mem_of_getElem? (i := 2) rfl)) (hw1.ent _ (List.mem_of_getElem? (i := 3) rfl)) (hw1.ne (i := 2) (j := 3) rfl rfl (by decide)) (show ((numK 8 pv 8) ++ numK 8 ep 8).length = 16 from (by rw [List.length_append, (show (numK 8 pv 8).length = 8 from (DR _ _ _)), DR] <;> omega)) hc4 hc5 hc6 (by omega) (by unfold Szd; omega) (fun _ => shr8n (by omega)) (by omega)))) ?_
 rintro v1 L1 ⟨_, ⟨rfl, nb6, sp3, cp3, rfl, hc7, hc8, hc9⟩, rfl⟩
 refine ⟨[], ?_⟩
 show DP _ _ _ _ _ _ _ _ [_, _, ⟨nb3, [.nilIface, Slc nb6 0 17 cp3], 149, (0, 0)⟩, ⟨nb6, cu8 (((numK 8 pv 8) ++ numK 8 ep 8) ++ numK 1 (UInt64.ofNat k) 1) ++ sp3, 5, (0, 0)⟩]
 refine CZ ⟨[3, 6, 10], [0, 1, 2, 4, 5, 7, 8, 9], [0, 1, 2, 4, 5, 7, 8, 9], [], []⟩ rfl rfl (by decide +kernel) rfl trivial ?_
 refine CC (F' := [(2, .slice none 0 0), (3, .nilIface), (5, Ptr nb2 0), (6, Ptr nb3 0)]) (by kernel_rfl) ?_
 refine AF (AL (AL (AE (AA (Ptr nb2 0) (AC 0 3 1 AG rfl A7 rfl rfl) rfl ?_))))
 refine AA (I64 ((k:Int))) (AK rfl (AV BA (MemAt.ent 1 rfl (Seg.head)))) rfl ?_
 refine AA (.bool (decide (((k:Int)) = (3:Int)))) (AQ rfl rfl fun _ => DD _ _) rfl ?_
 refine AN (AF (C9 _ rfl (decide_eq_true (by omega)) ?_))
 refine AL (AE (AA _ (AD rfl) rfl ?_))
 refine AA (Ptr nb2 3) (AC 3 22 1 AG rfl AT rfl rfl) rfl ?_
 refine AA (U64 bl) (AK rfl (AV AU (MemAt.ent 1 rfl (AJ (AJ (AJ (Seg.head))))))) rfl ?_
 refine AR (FB 81 _ [false, false, true, true] [nb3, nb6] _ (A0 [Ptr nb3 0, U64 bl, I64 (8:Int)] Tryd.call81 rfl) rfl (fun w1 hw1 => numO_c nb3 nb6 17 cp3 25 .nilIface (((numK 8 pv 8) ++ numK 8 ep 8) ++ numK 1 (UInt64.ofNat k) 1) sp3 bl 8 w1 (hw1.ent _ (List.mem_of_getElem? (i := 2) rfl)) (hw1.ent _ (List.mem_of_getElem? (i := 3) rfl)) (hw1.ne (i := 2) (j := 3) rfl rfl (by decide)) (show (((numK 8 pv 8) ++ numK 8 ep 8) ++ numK 1 (UInt64.ofNat k) 1).length = 17 from (by rw [List.length_append, (show ((numK 8 pv 8) ++ numK 8 ep 8).length = 16 from (by rw [List.length_append, (show (numK 8 pv 8).length = 8 from (DR _ _ _)), DR] <;> omega)), DR] <;> omega)) hc7 hc8 hc9 (by omega) (by unfold Szd; omega) (fun h => absurd h (by omega)) (by omega))) rfl ?_
 rintro v1 L1 ⟨_, ⟨rfl, nb7, sp4, cp4, rfl, hc10, hc11, hc12⟩, rfl⟩
 show JL _ _ _ _ ((37, Ptr nb3 0) :: _) [_, _, ⟨nb3, [.nilIface, Slc nb7 0 25 cp4], 149, (0, 0)⟩, ⟨nb7, cu8 ((((numK 8 pv 8) ++ numK 8 ep 8) ++ numK 1 (UInt64.ofNat k) 1) ++ numK 8 bl 8) ++ sp4, 5, (0, 0)⟩]
 refine AR (BG 83 [Ptr nb3 0] _ (A0 [Ptr nb3 0] Tryd.call83 rfl) (fun w1 hw1 => doneO_c nb3 0 nb7 25 cp4 ((((numK 8 pv 8) ++ numK 8 ep 8) ++ numK 1 (UInt64.ofNat k) 1) ++ numK 8 bl 8) w1 (RdA.of hw1 (MemAt.ent 2 rfl (AM _)) (by simp)) rfl (show ((((numK 8 pv 8) ++ numK 8 ep 8) ++ numK 1 (UInt64.ofNat k) 1) ++ numK 8 bl 8).length = 25 from (by rw [List.length_append, (show (((numK 8 pv 8) ++ numK 8 ep 8) ++ numK 1 (UInt64.ofNat k) 1).length = 17 from (by rw [List.length_append, (show ((numK 8 pv 8) ++ numK 8 ep 8).length = 16 from (by rw [List.length_append, (show (numK 8 pv 8).length = 8 from (DR _ _ _)), DR] <;> omega)), DR] <;> omega)), DR] <;> omega)) (by omega) (RdB.of hw1 (MemAt.ent 3 rfl (A2 (AM _))) (by simp)))) rfl ?_
 rintro v1 L1 ⟨_, ⟨nb8, sp5, cp5, rfl, rfl, hc13, hc14, hc15⟩, rfl⟩
 show JL _ _ _ _ ((38, .tuple #[Slc nb8 0 25 cp5, .nilIface]) :: _) [_, _, _, _, ⟨nb8, cu8 ((((numK 8 pv 8) ++ numK 8 ep 8) ++ numK 1 (UInt64.ofNat k) 1) ++ numK 8 bl 8) ++ sp5, 5, (0, 0)⟩]
 refine AA _ (BN rfl rfl) rfl ?_
 refine AA _ (BN rfl rfl) rfl ?_
 refine AA _ (AH rfl) rfl ?_
 refine AA _ (AH rfl) rfl ?_
 refine AN (AF (BO (A5 (B8 [false, false, false, false, true] ?_))))
 show JQ _ _ _ _ [_]
 refine BP (.tuple #[Slc nb8 0 25 cp5, .nilIface]) (res2 Tryd.results114 (BT rfl) (BT rfl)) fun w1 hw1 => ?_
 have hq : (((numK 8 pv 8) ++ numK 8 ep 8) ++ numK 1 (UInt64.ofNat k) 1) ++ numK 8 bl 8 = tktT pv ep k l ls bl := by
  unfold tktT
  rw [if_pos hk]
 rw [hq] at hw1
 exact ⟨_, _, rfl, ⟨nb8, sp5, cp5, rfl, rfl, hc13, hc14, hc15⟩, hw1.sub (by simp) (by simp)⟩
theorem text12_c (pv ep : UInt64) (k : Nat) (ai : Option Addr) (ni ci : Nat) (l : List UInt64) (sa : Option Addr) (ns sc : Nat) (ls : List SealR) (bl : UInt64) (tg : List UInt8) (tot : Nat)  (w : World) (hl : l.length = ni) (hnm : ni ≤ 2000000) (hnc : ni ≤ ci) (hcm : ci ≤ maxLen) (hv : RdV w ai (cu64 l)) (hls : ls.length = ns) (hnn : ns ≤ 2000000) (hnd : ns ≤ sc) (hcn : sc ≤ maxLen) (hs : RdV w sa (ls.flatMap sealC)) (htg : tg.length = 16) (hmay : mayN pv ep (k:Int) l ls bl = 0) (hk : k = 1 ∨ k = 2) (hsm : ns ≤ 300) (htot : 18 + 4*ni + 56*ns = tot)  : Calls Tryd.prog 114 #[.agg (List.toArray (α := Value) ([U64 pv, U64 ep, I64 ((k:Int)), .slice ai ni ci, .slice sa ns sc, U64 bl] ++ cu8 tg))] w (Post w [] (fun v L => ∃ g sp cap, v = .tuple #[Slc g 0 tot cap, .nilIface] ∧ L = [⟨g, cu8 (tktT pv ep k l ls bl) ++ sp, 5, (0, 0)⟩] ∧ sp.length = cap - tot ∧ tot ≤ cap ∧ cap ≤ maxLen)) := by
 have hmx : maxLen = 9223372036854775807 := rfl
 have hRO := mayN_right hmay
 have hRI := RightO_idx hRO (by omega)
 have hRp := RightI_pos hRI
 rw [hl] at hRp
 refine enter (P := Tryd.prog) (f := 114) (fn := Tryd.f114) w [] 75 [] [.agg (List.toArray (α := Value) ([U64 pv, U64 ep, I64 ((k:Int)), .slice ai ni ci, .slice sa ns sc, U64 bl] ++ cu8 tg))] Tryd.func114 rfl rfl (by simp) (B7 (by simp) (by simp) (by simp)) ?_
 show JC _ _ _ [(0, .agg (List.toArray (α := Value) ([U64 pv, U64 ep, I64 ((k:Int)), .slice ai ni ci, .slice sa ns sc, U64 bl] ++ cu8 tg)))] _
 refine AL (AE (AR (CN (.agg (List.toArray (α := Value) ([U64 pv, U64 ep, I64 ((k:Int)), .slice ai ni ci, .slice sa ns sc, U64 bl] ++ cu8 tg))) ([U64 pv, U64 ep, I64 ((k:Int)), .slice ai ni ci, .slice sa ns sc, U64 bl] ++ cu8 tg) rfl (by first | rfl | simp)) rfl ?_))
 rintro v1 L1 ⟨nb1, hnb1, rfl, rfl⟩
 show JL _ _ _ _ ((1, Ptr nb1 0) :: _) [⟨nb1, [U64 pv, U64 ep, I64 ((k:Int)), .slice ai ni ci, .slice sa ns sc, U64 bl] ++ cu8 tg, 29, (0, 0)⟩]
 refine AA _ (AH rfl) rfl ?_
 refine AA _ (AH rfl) rfl ?_
 refine AN (AF (AL (AL (AE (AA (.agg (List.toArray (α := Value) ([U64 pv, U64 ep, I64 ((k:Int)), .slice ai ni ci, .slice sa ns sc, U64 bl] ++ cu8 tg))) (AK rfl (BH BE AW (by simp [htg]) (MemAt.ent 0 rfl (AM _)))) rfl ?_)))))
 refine AR (A3 128 [.agg (List.toArray (α := Value) ([U64 pv, U64 ep, I64 ((k:Int)), .slice ai ni ci, .slice sa ns sc, U64 bl] ++ cu8 tg))] (errV 50 (mayN pv ep ((k:Int)) l ls bl)) (A0 [.agg (List.toArray (α := Value) ([U64 pv, U64 ep, I64 ((k:Int)), .slice ai ni ci, .slice sa ns sc, U64 bl] ++ cu8 tg))] Tryd.call128 rfl) (fun w1 hw1 => may13_c pv ep ((k:Int)) ai ni ci l sa ns sc ls bl tg w1 hl (by omega) (by omega) (by omega) (C1 hw1 rfl hv) hls (by omega) (by omega) (by omega) (C1 hw1 rfl hs) htg)) rfl ?_
 rintro v1 L1 ⟨rfl, rfl⟩
 show JL _ _ _ _ ((12, errV 50 (mayN pv ep ((k:Int)) l ls bl)) :: _) [_]
 refine AA _ (AH rfl) rfl ?_
 refine AN (AF (AL (AE (AA _ (AD rfl) rfl ?_))))
 refine AA (.bool (!(decide (mayN pv ep ((k:Int)) l ls bl = 0)))) (DC _ _ _ rfl rfl (fun _ => C5 ..) fun _ => EW BB _ _) rfl ?_
 refine AN (AF (C0 _ rfl (by rw [show (decide (mayN pv ep ((k:Int)) l ls bl = 0)) = true from (decide_eq_true hmay)] <;> rfl) ?_))
 refine B4 (AF (AL (AE (AA (Ptr nb1 2) (AC 2 26 4 AS rfl BI rfl rfl) rfl ?_))))
 refine AA (.agg (List.toArray (α := Value) ([I64 ((k:Int)), .slice ai ni ci, .slice sa ns sc, U64 bl]))) (AK rfl (BH DE BI rfl (MemAt.ent 0 rfl (D9 (p := [U64 pv, U64 ep]) (q := cu8 tg) (vs := [I64 ((k:Int)), .slice ai ni ci, .slice sa ns sc, U64 bl]) (by first | rfl | (simp only [List.append_assoc, List.nil_append, List.append_nil, List.cons_append]; done)) rfl)))) rfl ?_
 refine AR (BJ _ ([I64 (0:Int), .slice none 0 0, .slice none 0 0, U64 (0:UInt64)]) Tryd.zeroValue26 (by kernel_rfl)) rfl ?_
 rintro v1 L1 ⟨nb2, hnb2, rfl, rfl⟩
 show JL _ _ _ _ ((5, Ptr nb2 0) :: _) [_, ⟨nb2, [I64 (0:Int), .slice none 0 0, .slice none 0 0, U64 (0:UInt64)], 26, (0, 0)⟩]
 refine AR (A6 1 nb2 0 4 ([I64 (0:Int), .slice none 0 0, .slice none 0 0, U64 (0:UInt64)]) 26 (.agg (List.toArray (α := Value) ([I64 ((k:Int)), .slice ai ni ci, .slice sa ns sc, U64 bl]))) ([I64 ((k:Int)), .slice ai ni ci, .slice sa ns sc, U64 bl]) ([I64 ((k:Int)), .slice ai ni ci, .slice sa ns sc, U64 bl]) rfl rfl rfl (by first | rfl | simp) BI rfl (by simp [Value.oneCell']) (Nat.le_of_ble_eq_true rfl) (BF (by simp []))) rfl ?_
 rintro v1 L1 ⟨rfl, rfl⟩
 show JL _ _ _ _ _ [_, ⟨nb2, [I64 ((k:Int)), .slice ai ni ci, .slice sa ns sc, U64 bl], 26, (0, 0)⟩]
 refine AN (AF (AL (AE (AA (.agg (List.toArray (α := Value) ([.nilIface, .slice none 0 0]))) (CB [] _ rfl (fun _ => by kernel_rfl)) rfl ?_))))
 refine AR (CN (.agg (List.toArray (α := Value) ([.nilIface, .slice none 0 0]))) ([.nilIface, .slice none 0 0]) rfl (by first | rfl | simp)) rfl ?_
 rintro v1 L1 ⟨nb3, hnb3, rfl, rfl⟩
 show JL _ _ _ _ ((19, Ptr nb3 0) :: _) [_, _, ⟨nb3, [.nilIface, .slice none 0 0], 149, (0, 0)⟩]
 refine AA _ (AH rfl) rfl ?_
 refine AN (AF (AL (CQ 75 4 [(0, Ptr nb3 0), (1, Ptr nb1 0), (2, U64 pv), (4, Ptr nb1 1), (5, U64 ep), (7, Ptr nb2 0), (8, I64 ((k:Int))), (9, U64 (UInt64.ofNat k))] BQ rfl (by decide +kernel) ?_)))
 refine BR ⟨[], [0, 1, 2, 4, 5, 7, 8, 9], [], [0, 1, 2, 4, 5, 7, 8, 9], [3]⟩ 3 _ rfl rfl (by decide +kernel) rfl ⟨⟨_, rfl, AB rfl (AD rfl)⟩, ⟨_, rfl, AB rfl (AC 0 22 1 AS rfl AT rfl rfl)⟩, ⟨_, rfl, AB rfl (AK rfl (AV AU (MemAt.ent 0 rfl (A2 (Seg.head)))))⟩, ⟨_, rfl, AB rfl (AC 1 22 1 AS rfl AT rfl rfl)⟩, ⟨_, rfl, AB rfl (AK rfl (AV AU (MemAt.ent 0 rfl (A2 (AJ (Seg.head))))))⟩, ⟨_, rfl, AB rfl (AC 0 3 1 AG rfl A7 rfl rfl)⟩, ⟨_, rfl, AB rfl (AK rfl (AV BA (MemAt.ent 1 rfl (Seg.head))))⟩, ⟨_, rfl, AB rfl (EI _ _ rfl fun _ => EU (by rw [DH]; rfl) CF k _ (by omega))⟩, trivial⟩ rfl (AZ rfl (FB 81 _ [false, false, true] [nb3] _ (A0 [Ptr nb3 0, U64 pv, I64 (8:Int)] Tryd.call81 rfl) rfl (fun w1 hw1 => numN_c nb3 8 .nilIface pv 8 w1 (hw1.ent _ (List.mem_of_getElem? (i := 2) rfl)) (by unfold Szd; omega) (fun h => absurd h (by omega)) (by omega)))) ?_
 rintro v1 L1 ⟨_, ⟨rfl, nb4, sp1, cp1, rfl, hc1, hc2, hc3⟩, rfl⟩
 refine ⟨[], ?_⟩
 show DP _ _ _ _ _ _ _ _ [_, _, ⟨nb3, [.nilIface, Slc nb4 0 8 cp1], 149, (0, 0)⟩, ⟨nb4, cu8 (numK 8 pv 8) ++ sp1, 5, (0, 0)⟩]
 refine BR ⟨[3], [0, 1, 2, 4, 5, 7, 8, 9], [0, 1, 2], [4, 5, 7, 8, 9], [6]⟩ 6 _ rfl rfl (by decide +kernel) rfl ⟨⟨_, rfl, AB rfl (AC 1 22 1 AS rfl AT rfl rfl)⟩, ⟨_, rfl, AB rfl (AK rfl (AV AU (MemAt.ent 0 rfl (A2 (AJ (Seg.head))))))⟩, ⟨_, rfl, AB rfl (AC 0 3 1 AG rfl A7 rfl rfl)⟩, ⟨_, rfl, AB rfl (AK rfl (AV BA (MemAt.ent 1 rfl (Seg.head))))⟩, ⟨_, rfl, AB rfl (EI _ _ rfl fun _ => EU (by rw [DH]; rfl) CF k _ (by omega))⟩, trivial⟩ rfl (AZ rfl (FB 81 _ [false, false, true, true] [nb3, nb4] _ (A0 [Ptr nb3 0, U64 ep, I64 (8:Int)] Tryd.call81 rfl) rfl (fun w1 hw1 => numO_c nb3 nb4 8 cp1 16 .nilIface (numK 8 pv 8) sp1 ep 8 w1 (hw1.ent _ (List.mem_of_getElem? (i := 2) rfl)) (hw1.ent _ (List.mem_of_getElem? (i := 3) rfl)) (hw1.ne (i := 2) (j := 3) rfl rfl (by decide)) (show (numK 8 pv 8).length = 8 from (DR _ _ _)) hc1 hc2 hc3 (by omega) (by unfold Szd; omega) (fun h => absurd h (by omega)) (by omega)))) ?_
 rintro v1 L1 ⟨_, ⟨rfl, nb5, sp2, cp2, rfl, hc4, hc5, hc6⟩, rfl⟩
 refine ⟨[], ?_⟩
 show DP _ _ _ _ _ _ _ _ [_, _, ⟨nb3, [.nilIface, Slc nb5 0 16 cp2], 149, (0, 0)⟩, ⟨nb5, cu8 ((numK 8 pv 8) ++ numK 8 ep 8) ++ sp2, 5, (0, 0)⟩]
 refine BR ⟨[3, 6], [0, 1, 2, 4, 5, 7, 8, 9], [0, 1, 2, 4, 5], [7, 8, 9], [10]⟩ 10 _ rfl rfl (by decide +kernel) rfl ⟨⟨_, rfl, AB rfl (AC 0 3 1 AG rfl A7 rfl rfl)⟩, ⟨_, rfl, AB rfl (AK rfl (AV BA (MemAt.ent 1 rfl (Seg.head))))⟩, ⟨_, rfl, AB rfl (EI _ _ rfl fun _ => EU (by rw [DH]; rfl) CF k _ (by omega))⟩, trivial⟩ rfl (AZ rfl (FB 81 _ [false, false, true, true] [nb3, nb5] _ (A0 [Ptr nb3 0, U64 (UInt64.ofNat k), I64 (1:Int)] Tryd.call81 rfl) rfl (fun w1 hw1 => numO_c nb3 nb5 16 cp2 17 .nilIface ((numK 8 pv 8) ++ numK 8 ep 8) sp2 (UInt64.ofNat k) 1 w1 (hw1.ent _ (List.mem_of_getElem? (i := 2) rfl)) (hw1.ent _ (List.mem_of_getElem? (i := 3) rfl)) (hw1.ne (i := 2) (j := 3) rfl rfl (by decide)) (show ((numK 8 pv 8) ++ numK 8 ep 8).length = 16 from (by rw [List.length_append, (show (numK 8 pv 8).length = 8 from (DR _ _ _)), DR] <;> omega)) hc4 hc5 hc6 (by omega) (by unfold Szd; omega) (fun _ => shr8n (by omega)) (by omega)))) ?_
 rintro v1 L1 ⟨_, ⟨rfl, nb6, sp3, cp3, rfl, hc7, hc8, hc9⟩, rfl⟩
 refine ⟨[], ?_⟩
 show DP _ _ _ _ _ _ _ _ [_, _, ⟨nb3, [.nilIface, Slc nb6 0 17 cp3], 149, (0, 0)⟩, ⟨nb6, cu8 (((numK 8 pv 8) ++ numK 8 ep 8) ++ numK 1 (UInt64.ofNat k) 1) ++ sp3, 5, (0, 0)⟩]
 refine CZ ⟨[3, 6, 10], [0, 1, 2, 4, 5, 7, 8, 9], [0, 1, 2, 4, 5, 7, 8, 9], [], []⟩ rfl rfl (by decide +kernel) rfl trivial ?_
 refine CC (F' := [(2, .slice none 0 0), (3, .nilIface), (5, Ptr nb2 0), (6, Ptr nb3 0)]) (by kernel_rfl) ?_
 refine AF (AL (AL (AE (AA (Ptr nb2 0) (AC 0 3 1 AG rfl A7 rfl rfl) rfl ?_))))
 refine AA (I64 ((k:Int))) (AK rfl (AV BA (MemAt.ent 1 rfl (Seg.head)))) rfl ?_
 refine AA (.bool (decide (((k:Int)) = (3:Int)))) (AQ rfl rfl fun _ => DD _ _) rfl ?_
 refine AN (AF (C0 _ rfl (decide_eq_false (by omega)) ?_))
 refine B4 (AF (AL (AE (AA _ (AD rfl) rfl ?_))))
 refine AA (Ptr nb2 1) (AC 1 23 1 AG rfl CE rfl rfl) rfl ?_
 refine AA (.slice ai ni ci) (AK rfl (AV CL (MemAt.ent 1 rfl (AJ (Seg.head))))) rfl ?_
 refine AA (I64 ((ni:Int))) (D4 BU rfl) rfl ?_
 refine AA (I64 ((ni:Int) - 1)) (AQ rfl rfl fun _ => DK _ _ ((ni:Int) - 1) (by omega) (by omega)) rfl ?_
 refine AA (U64 (UInt64.ofNat (ni - 1))) (EI _ _ rfl fun _ => EU (by rw [DH]; rfl) CF (ni - 1) _ (by omega)) rfl ?_
 refine AR (FB 81 _ [false, false, true, true] [nb3, nb6] _ (A0 [Ptr nb3 0, U64 (UInt64.ofNat (ni - 1)), I64 (1:Int)] Tryd.call81 rfl) rfl (fun w1 hw1 => numO_c nb3 nb6 17 cp3 18 .nilIface (((numK 8 pv 8) ++ numK 8 ep 8) ++ numK 1 (UInt64.ofNat k) 1) sp3 (UInt64.ofNat (ni - 1)) 1 w1 (hw1.ent _ (List.mem_of_getElem? (i := 2) rfl)) (hw1.ent _ (List.mem_of_getElem? (i := 3) rfl)) (hw1.ne (i := 2) (j := 3) rfl rfl (by decide)) (show (((numK 8 pv 8) ++ numK 8 ep 8) ++ numK 1 (UInt64.ofNat k) 1).length = 17 from (by rw [List.length_append, (show ((numK 8 pv 8) ++ numK 8 ep 8).length = 16 from (by rw [List.length_append, (show (numK 8 pv 8).length = 8 from (DR _ _ _)), DR] <;> omega)), DR] <;> omega)) hc7 hc8 hc9 (by omega) (by unfold Szd; omega) (fun _ => shr8n (by omega)) (by omega))) rfl ?_
 rintro v1 L1 ⟨_, ⟨rfl, nb7, sp4, cp4, rfl, hc10, hc11, hc12⟩, rfl⟩
 show JL _ _ _ _ ((47, Ptr nb3 0) :: _) [_, _, ⟨nb3, [.nilIface, Slc nb7 0 18 cp4], 149, (0, 0)⟩, ⟨nb7, cu8 ((((numK 8 pv 8) ++ numK 8 ep 8) ++ numK 1 (UInt64.ofNat k) 1) ++ numK 1 (UInt64.ofNat (ni - 1)) 1) ++ sp4, 5, (0, 0)⟩]
 refine AN (AF (AL (AL (AE (AA (Ptr nb2 1) (AC 1 23 1 AG rfl CE rfl rfl) rfl ?_)))))
 refine AA (.slice ai ni ci) (AK rfl (AV CL (MemAt.ent 1 rfl (AJ (Seg.head))))) rfl ?_
 refine AA (I64 ((ni:Int))) (D4 BU rfl) rfl ?_
 refine AA _ (AD rfl) rfl ?_
 refine AN (AF (B5 ?_))
 skip
 refine B8 [false, true, true, true] ?_
 show JC _ _ _ _ [_, _, _]
 refine EE (ι := Nat × List UInt8 × Nat × List Value × Nat) (fun ⟨i, oqi, gqi, spqi, cpqi⟩ => [(2, .slice none 0 0), (3, .nilIface), (5, Ptr nb2 0), (6, Ptr nb3 0), (49, .slice ai ni ci), (50, I64 ((ni:Int))), (51, I64 ((i:Int)))]) (fun ⟨i, oqi, gqi, spqi, cpqi⟩ => [⟨nb2, [I64 ((k:Int)), .slice ai ni ci, .slice sa ns sc, U64 bl], 26, (0, 0)⟩, ⟨nb3, [.nilIface, Slc gqi 0 (4*i + 18) cpqi], 149, (0, 0)⟩, ⟨gqi, cu8 oqi ++ spqi, 5, (0, 0)⟩]) (fun ⟨i, oqi, gqi, spqi, cpqi⟩ => i ≤ ni ∧ oqi = (((numK 8 pv 8 ++ numK 8 ep 8) ++ numK 1 (UInt64.ofNat k) 1) ++ numK 1 (UInt64.ofNat (ni - 1)) 1) ++ idxT l i ∧ oqi.length = (4*i + 18) ∧ spqi.length = cpqi - ((4*i + 18)) ∧ (4*i + 18) ≤ cpqi ∧ cpqi ≤ maxLen) (fun ⟨i, oqi, gqi, spqi, cpqi⟩ => ni - i) (0, (((numK 8 pv 8) ++ numK 8 ep 8) ++ numK 1 (UInt64.ofNat k) 1) ++ numK 1 (UInt64.ofNat (ni - 1)) 1, nb7, sp4, cp4) ⟨by omega, by rw [idxT_zero, List.append_nil], (by have h := (show ((((numK 8 pv 8) ++ numK 8 ep 8) ++ numK 1 (UInt64.ofNat k) 1) ++ numK 1 (UInt64.ofNat (ni - 1)) 1).length = 18 from (by rw [List.length_append, (show (((numK 8 pv 8) ++ numK 8 ep 8) ++ numK 1 (UInt64.ofNat k) 1).length = 17 from (by rw [List.length_append, (show ((numK 8 pv 8) ++ numK 8 ep 8).length = 16 from (by rw [List.length_append, (show (numK 8 pv 8).length = 8 from (DR _ _ _)), DR] <;> omega)), DR] <;> omega)), DR] <;> omega)); omega), (by have h := hc10; omega), by omega, by omega⟩ (Sub.cons rfl (Sub.cons rfl (Sub.cons rfl (Sub.cons rfl (Sub.cons rfl (Sub.cons rfl (Sub.cons rfl (Sub.nil)))))))) (by first | rfl | (simp; done)) ?_
 rintro ⟨i, oqi, gqi, spqi, cpqi⟩ ⟨hi1, hi2, hi3, hi4, hi5, hi6⟩
 show JC _ _ _ [(2, .slice none 0 0), (3, .nilIface), (5, Ptr nb2 0), (6, Ptr nb3 0), (49, .slice ai ni ci), (50, I64 ((ni:Int))), (51, I64 ((i:Int)))] [⟨nb2, [I64 ((k:Int)), .slice ai ni ci, .slice sa ns sc, U64 bl], 26, (0, 0)⟩, ⟨nb3, [.nilIface, Slc gqi 0 (4*i + 18) cpqi], 149, (0, 0)⟩, ⟨gqi, cu8 oqi ++ spqi, 5, (0, 0)⟩]
 refine AL (AE (AA (.bool (decide (((i:Int)) < ((ni:Int))))) (AQ rfl rfl fun _ => DB _ _) rfl ?_))
 refine AN (AF (AL (CT (decide (((i:Int)) < ((ni:Int)))) rfl (fun hb1 => ?_) (fun hb1 => ?_))))
 ·
  have hp1 : ((i:Int)) < ((ni:Int)) := of_decide_eq_true hb1
  refine B4 (AF (AL (B5 (AL (AE ?_)))))
  obtain ⟨bz1, oz1, hz1, hm1⟩ := RdV.pos hv (by rw [E5, hl]; omega)
  refine AA (Ptr bz1 (i + oz1)) (CW 22 1 (i + oz1) BU AT rfl hz1 rfl (by omega) (by omega) (by omega)) rfl ?_
  refine AA (U64 (g64 l i)) (AK rfl (AV AU (CU (hm1.mem (by simp)) (Seg.get (g64_get (i := i) (by rw [hl]; omega))) (by omega)))) rfl ?_
  refine AA _ (AH rfl) rfl ?_
  refine AN (AF (AE (AA _ (AD rfl) rfl ?_)))
  refine AA _ (AD rfl) rfl ?_
  refine AR (FB 81 _ [false, true, true] [nb3, gqi] _ (A0 [Ptr nb3 0, U64 (g64 l i), I64 (4:Int)] Tryd.call81 rfl) rfl (fun w1 hw1 => numO_c nb3 gqi (4*i + 18) cpqi (4*i + 22) .nilIface oqi spqi (g64 l i) 4 w1 (hw1.ent _ (List.mem_of_getElem? (i := 1) rfl)) (hw1.ent _ (List.mem_of_getElem? (i := 2) rfl)) (hw1.ne (i := 1) (j := 2) rfl rfl (by decide)) hi3 hi4 hi5 hi6 (by omega) (by unfold Szd; omega) (fun _ => idx_fit hRI (by omega)) (by omega))) rfl ?_
  rintro v1 L1 ⟨_, ⟨rfl, nb8, sp5, cp5, rfl, hc13, hc14, hc15⟩, rfl⟩
  show JL _ _ _ _ ((57, Ptr nb3 0) :: _) [_, ⟨nb3, [.nilIface, Slc nb8 0 (4*i + 22) cp5], 149, (0, 0)⟩, ⟨nb8, cu8 (oqi ++ numK 4 (g64 l i) 4) ++ sp5, 5, (0, 0)⟩]
  refine AN (B1 (AF (AE (AA (I64 ((i:Int) + 1)) (AQ rfl rfl fun _ => DI _ _ ((i:Int) + 1) (by omega) (by omega)) rfl ?_))))
  refine AA _ (AD rfl) rfl ?_
  refine AN (DF (EN (i + 1, oqi ++ numK 4 (g64 l i) 4, nb8, sp5, cp5) ⟨by omega, by rw [hi2, idxT_succ, List.append_assoc], (by have h := (show (oqi ++ numK 4 (g64 l i) 4).length = (4*i + 22) from (by rw [List.length_append, hi3, DR] <;> omega)); omega), (by have h := hc13; omega), by omega, by omega⟩ (by first | (simp; omega) | simp | (dsimp only; omega) | omega) (Sub.cons rfl (Sub.cons rfl (Sub.cons rfl (Sub.cons rfl (Sub.cons rfl (Sub.cons rfl (Sub.cons rfl (Sub.nil)))))))) (by first | rfl | rw [show (4*i + 22) = (4*(i + 1) + 18) by omega])))
 ·
  have hp1 : ¬ (((i:Int)) < ((ni:Int))) := of_decide_eq_false hb1
  refine EB (BD (BD (CV (AF (AL (AL (AE (AA (Ptr nb2 2) (AC 2 24 1 AG rfl B3 rfl rfl) rfl ?_))))))))
  refine AA (.slice sa ns sc) (AK rfl (AV B6 (MemAt.ent 0 rfl (AJ (AJ (Seg.head)))))) rfl ?_
  refine AA (I64 ((ns:Int))) (D4 CJ rfl) rfl ?_
  refine AA _ (AD rfl) rfl ?_
  refine AN (AF (B5 ?_))
  have ei : ni = i := by omega
  subst ei
  show JC _ _ _ _ [⟨nb2, [I64 ((k:Int)), .slice ai ni ci, .slice sa ns sc, U64 bl], 26, (0, 0)⟩, ⟨nb3, [.nilIface, Slc gqi 0 (4*ni + 18) cpqi], 149, (0, 0)⟩, ⟨gqi, cu8 oqi ++ spqi, 5, (0, 0)⟩]
  refine B8 [false, true, true] ?_
  show JC _ _ _ _ [_, _]
  refine EE (ι := Nat × List UInt8 × Nat × List Value × Nat) (fun ⟨j, oqj, gqj, spqj, cpqj⟩ => [(2, .slice none 0 0), (3, .nilIface), (6, Ptr nb3 0), (60, .slice sa ns sc), (61, I64 ((ns:Int))), (62, I64 ((j:Int)))]) (fun ⟨j, oqj, gqj, spqj, cpqj⟩ => [⟨nb3, [.nilIface, Slc gqj 0 (56*j + 4*ni + 18) cpqj], 149, (0, 0)⟩, ⟨gqj, cu8 oqj ++ spqj, 5, (0, 0)⟩]) (fun ⟨j, oqj, gqj, spqj, cpqj⟩ => j ≤ ns ∧ oqj = ((((numK 8 pv 8 ++ numK 8 ep 8) ++ numK 1 (UInt64.ofNat k) 1) ++ numK 1 (UInt64.ofNat (ni - 1)) 1) ++ idxT l ni) ++ selT (ls.take j) ∧ oqj.length = (56*j + 4*ni + 18) ∧ spqj.length = cpqj - ((56*j + 4*ni + 18)) ∧ (56*j + 4*ni + 18) ≤ cpqj ∧ cpqj ≤ maxLen) (fun ⟨j, oqj, gqj, spqj, cpqj⟩ => ns - j) (0, oqi, gqi, spqi, cpqi) ⟨by omega, by rw [hi2]; simp [selT_nil], (by have h := hi3; omega), (by have h := hi4; omega), by omega, by omega⟩ (Sub.cons rfl (Sub.cons rfl (Sub.cons rfl (Sub.cons rfl (Sub.cons rfl (Sub.cons rfl (Sub.nil))))))) (by first | rfl | (simp; done)) ?_
  rintro ⟨j, oqj, gqj, spqj, cpqj⟩ ⟨hj1, hj2, hj3, hj4, hj5, hj6⟩
  show JC _ _ _ [(2, .slice none 0 0), (3, .nilIface), (6, Ptr nb3 0), (60, .slice sa ns sc), (61, I64 ((ns:Int))), (62, I64 ((j:Int)))] [⟨nb3, [.nilIface, Slc gqj 0 (56*j + 4*ni + 18) cpqj], 149, (0, 0)⟩, ⟨gqj, cu8 oqj ++ spqj, 5, (0, 0)⟩]
  refine AL (AE (AA (.bool (decide (((j:Int)) < ((ns:Int))))) (AQ rfl rfl fun _ => DB _ _) rfl ?_))
  refine AN (AF (AL (CT (decide (((j:Int)) < ((ns:Int)))) rfl (fun hb2 => ?_) (fun hb2 => ?_))))
  ·
   have hp2 : ((j:Int)) < ((ns:Int)) := of_decide_eq_true hb2
   refine B4 (AF (AL (B5 (AL (AE ?_)))))
   obtain ⟨x1, hx1⟩ : ∃ x, ls[j]? = some x := ⟨_, List.getElem?_eq_getElem (by rw [hls]; omega)⟩
   obtain ⟨bz2, oz2, hz2, hm2⟩ := F6 E2 (by decide) hs hx1
   refine AA (Ptr bz2 (49*j + oz2)) (CW 161 49 (49*j + oz2) CJ DJ rfl hz2 rfl (by omega) (by omega) (by omega)) rfl ?_
   refine AA (.agg (List.toArray (α := Value) ([U64 x1.e] ++ cu8 x1.d ++ cu8 x1.t))) (AK rfl (BH Tryd.isAgg161 DJ (by simp [x1.hd, x1.ht]) (CU (hm2.mem (by simp)) (AM _) (by omega)))) rfl ?_
   refine AR (BJ _ ([U64 (0:UInt64)] ++ cu8 (zr8 32) ++ cu8 (zr8 16)) Tryd.zeroValue161 (by kernel_rfl)) rfl ?_
   rintro v1 L1 ⟨nb9, hnb9, rfl, rfl⟩
   show JL _ _ _ _ ((10, Ptr nb9 0) :: _) [_, _, ⟨nb9, [U64 (0:UInt64)] ++ cu8 (zr8 32) ++ cu8 (zr8 16), 161, (0, 0)⟩]
   refine AR (A6 2 nb9 0 49 ([U64 (0:UInt64)] ++ cu8 (zr8 32) ++ cu8 (zr8 16)) 161 (.agg (List.toArray (α := Value) ([U64 x1.e] ++ cu8 x1.d ++ cu8 x1.t))) ([U64 x1.e] ++ cu8 x1.d ++ cu8 x1.t) ([U64 x1.e] ++ cu8 x1.d ++ cu8 x1.t) rfl rfl rfl (by first | rfl | simp) DJ (by simp [x1.hd, x1.ht]) (DA (DA (by simp [Value.oneCell']) CK) CK) (by simp [(AP 32), (AP 16)]) (BF (by simp [(AP 32), (AP 16), x1.hd, x1.ht]))) rfl ?_
   rintro v1 L1 ⟨rfl, rfl⟩
   show JL _ _ _ _ _ [_, _, ⟨nb9, [U64 x1.e] ++ cu8 x1.d ++ cu8 x1.t, 161, (0, 0)⟩]
   refine AN (AF (AE (AA _ (AD rfl) rfl ?_)))
   refine AA (.agg (List.toArray (α := Value) ([U64 x1.e] ++ cu8 x1.d ++ cu8 x1.t))) (AK rfl (BH Tryd.isAgg161 DJ (by simp [x1.hd, x1.ht]) (MemAt.ent 2 rfl (AM _)))) rfl ?_
   refine AR (BG 97 [.agg (List.toArray (α := Value) ([U64 x1.e] ++ cu8 x1.d ++ cu8 x1.t))] _ (A0 [.agg (List.toArray (α := Value) ([U64 x1.e] ++ cu8 x1.d ++ cu8 x1.t))] Tryd.call97 rfl) (fun w1 hw1 => put7_c x1.e x1.d x1.t w1 x1.hd x1.ht)) rfl ?_
   rintro v1 L1 ⟨_, ⟨nb10, sp6, cp6, rfl, rfl, hc16, hc17, hc18⟩, rfl⟩
   show JL _ _ _ _ ((68, Slc nb10 0 56 cp6) :: _) [_, _, _, ⟨nb10, cu8 (putL x1.e x1.d x1.t) ++ sp6, 5, (0, 0)⟩]
   refine AR (FB 82 _ [true, true, false, false] [nb3, gqj] _ (A0 [Ptr nb3 0, Slc nb10 0 56 cp6] Tryd.call82 rfl) rfl (fun w1 hw1 => rawO_c nb3 gqj (56*j + 4*ni + 18) cpqj (56*j + 4*ni + 74) .nilIface oqj spqj (some ⟨nb10, 0, none⟩) 56 cp6 (putL x1.e x1.d x1.t) w1 (hw1.ent _ (List.mem_of_getElem? (i := 0) rfl)) (hw1.ent _ (List.mem_of_getElem? (i := 1) rfl)) (hw1.ne (i := 0) (j := 1) rfl rfl (by decide)) hj3 hj4 hj5 hj6 (by omega) (show (putL x1.e x1.d x1.t).length = 56 from (putL_len x1.hd x1.ht)) (by omega) (RdB.of hw1 (MemAt.ent 3 rfl (A2 (AM _))) (by intro _; simp only [List.mem_cons, List.not_mem_nil, or_false, not_or]; exact ⟨hw1.ne (i := 3) (j := 0) rfl rfl (by decide), hw1.ne (i := 3) (j := 1) rfl rfl (by decide)⟩)) (by omega))) rfl ?_
   rintro v1 L1 ⟨_, ⟨rfl, nb11, sp7, cp7, rfl, hc19, hc20, hc21⟩, rfl⟩
   show JL _ _ _ _ ((69, Ptr nb3 0) :: _) [_, _, ⟨nb3, [.nilIface, Slc nb11 0 (56*j + 4*ni + 74) cp7], 149, (0, 0)⟩, ⟨nb11, cu8 (oqj ++ (putL x1.e x1.d x1.t)) ++ sp7, 5, (0, 0)⟩]
   refine AN (B1 (AF (AE (AA (I64 ((j:Int) + 1)) (AQ rfl rfl fun _ => DI _ _ ((j:Int) + 1) (by omega) (by omega)) rfl ?_))))
   refine AA _ (AD rfl) rfl ?_
   refine AN (DF (B8 [false, false, true, true] ?_))
   show K _ _ [_, _] _
   refine EN (j + 1, oqj ++ (putL x1.e x1.d x1.t), nb11, sp7, cp7) ⟨by omega, by rw [hj2, ← take_step hx1, selT_app, List.append_assoc], (by have h := (show (oqj ++ (putL x1.e x1.d x1.t)).length = (56*j + 4*ni + 74) from (by rw [List.length_append, hj3, (show (putL x1.e x1.d x1.t).length = 56 from (putL_len x1.hd x1.ht))] <;> omega)); omega), (by have h := hc19; omega), by omega, by omega⟩ (by first | (simp; omega) | simp | (dsimp only; omega) | omega) (Sub.cons rfl (Sub.cons rfl (Sub.cons rfl (Sub.cons rfl (Sub.cons rfl (Sub.cons rfl (Sub.nil))))))) (by first | rfl | rw [show (56*j + 4*ni + 74) = (56*(j + 1) + 4*ni + 18) by omega])
  ·
   have hp2 : ¬ (((j:Int)) < ((ns:Int))) := of_decide_eq_false hb2
   refine EB (BD (BD (CV (AF (AL (AE (AA _ (AD rfl) rfl ?_)))))))
   refine AR (BG 83 [Ptr nb3 0] _ (A0 [Ptr nb3 0] Tryd.call83 rfl) (fun w1 hw1 => doneO_c nb3 0 gqj (56*j + 4*ni + 18) cpqj oqj w1 (RdA.of hw1 (MemAt.ent 0 rfl (AM _)) (by simp)) rfl hj3 (by omega) (RdB.of hw1 (MemAt.ent 1 rfl (A2 (AM _))) (by simp)))) rfl ?_
   rintro v1 L1 ⟨_, ⟨nb12, sp8, cp8, rfl, rfl, hc22, hc23, hc24⟩, rfl⟩
   show JL _ _ _ _ ((72, .tuple #[Slc nb12 0 (56*j + 4*ni + 18) cp8, .nilIface]) :: _) [_, _, ⟨nb12, cu8 oqj ++ sp8, 5, (0, 0)⟩]
   refine AA _ (BN rfl rfl) rfl ?_
   refine AA _ (BN rfl rfl) rfl ?_
   refine AA _ (AH rfl) rfl ?_
   refine AA _ (AH rfl) rfl ?_
   refine AN (AF (BO (B8 [false, false, true] ?_)))
   show JQ _ _ _ _ [_]
   refine BP (.tuple #[Slc nb12 0 (56*j + 4*ni + 18) cp8, .nilIface]) (res2 Tryd.results114 (BT rfl) (BT rfl)) fun w1 hw1 => ?_
   obtain rfl : j = ns := by omega
   have hq : oqj = tktT pv ep k l ls bl := by
    unfold tktT
    rw [if_neg (by omega), hl, hj2, List.take_of_length_le (by omega)]
   rw [hq] at hw1
   obtain rfl : tot = (56*j + 4*ni + 18) := by omega
   exact ⟨_, _, rfl, ⟨nb12, sp8, cp8, rfl, rfl, hc22, hc23, hc24⟩, hw1.sub (by simp) (by simp)⟩
end Go.Proofs.YtkdpdgpphpngeaaDoor
namespace Go.Sx
open Go Go.RowKit
open Go.ChangeShapes Go.WideShapes
set_option linter.unusedVariables false
set_option linter.unusedSimpArgs false
theorem laidVars_mem {P : Program} {w : World} : ∀ {l : List (String × DataW Unit)} {ps : List MemPlace}, DataW.LaidVars P w l ps → ∀ {n : String} {d : DataW Unit}, (n, d) ∈ l →
    ∃ g t cs fuel p, P.globalNamed n = some g ∧ (P.globals[g]?).map (·.type) = some t ∧ w.var? P n = some cs ∧ DataW.trod (fun _ => ()) P w 0 (fun _ => true) false fuel t cs.toList = some (d, p)
  | (n', d') :: r, ps, h, n, d, hm => by
    obtain ⟨g, t, cs, fuel, p, q, h1, h2, h3, h4, h5, _⟩ := h
    rcases List.mem_cons.1 hm with hm | hm
    · cases hm; exact ⟨g, t, cs, fuel, p, h1, h2, h3, h4⟩
    · exact laidVars_mem h5 hm
theorem laid_rd {P : Program} {W : World} {laid : List (String × DataW Unit)} (h : laidMetH P laid W) (hp : (laid.all fun x => x.2.handleName?.isNone) = true) {name : String} {d : DataW Unit} (hm : (name, d) ∈ laid) (l : List UInt32)
  (hd : d = Lib.tabData .u32 (l.map fun u => (u.toNat : Int))) {g t e n : Nat}
  (hg : P.globalNamed name = some g) (hty : (P.globals[g]?).map (·.type) = some t) (ht : P.underlying t = some (.array n e)) (he : P.underlying e = some (.int .u32)) (hce : P.cellsOf e = 1) (hct : P.cellsOf t = n) (hl : 0 < l.length) : RdA W g 0 (cu32 l) := by
 rw [MakeChecks.laidMetH_plain _ _ _ hp] at h
 obtain ⟨ps, hv, _, _⟩ := h
 obtain ⟨g', t', cs, fuel, p, hg', ht', hvar, htr⟩ := laidVars_mem hv hm
 obtain rfl := Option.some.inj (hg.symm.trans hg')
 obtain rfl := Option.some.inj (hty.symm.trans ht')
 subst hd
 have hcs := Lib.cells_of_tab ht he hce hct htr
 have key : ∀ j v, (cu32 l)[j]? = some v → W.cell? ⟨g, 0 + j, none⟩ = some v := fun j v hj => by
  have := World.var?_cell hg hvar j
  rw [Nat.zero_add, this, ← Array.getElem?_toList, hcs]
  simpa [cu32] using hj
 have h0 : (cu32 l)[0]? = some (U32 (l[0]'hl)) := by simp [cu32, hl]
 exact ⟨lt_of_cell (key 0 _ h0), key⟩
end Go.Sx
namespace Go.Sx
open Go Go.RowKit Go.Proofs
set_option linter.unusedVariables false
set_option linter.unusedSimpArgs false
theorem RdB.holds {w : World} {ao : Option Addr} {n c : Nat} {z : List UInt8} (hr : RdB w [] ao z) (hn : z.length = n) : Lib.HoldsBytes w (.slice ao n c) z := by
  subst hn
  refine ⟨ao, c, rfl, ?_, ?_⟩
  · rintro rfl
    rcases hr with h | ⟨_, _, h, _⟩
    · exact h
    · cases h
  · intro a ha i x hx
    rcases hr with rfl | ⟨b, off, rfl, _, _, hc⟩
    · simp at hx
    · cases ha
      have := hc i (U8 x) (by simp [cu8, hx])
      rw [show (⟨b, off, none⟩ : Addr).add i = ⟨b, off + i, none⟩ from Lib.add_plain2 b off i]
      exact this
theorem fresh_ent {B : Nat} {w' : World} {v : Value} {l : List UInt8} (h : Lib.FreshBytes B w' v l) (hl : 0 < l.length) :
    ∃ g sp cap T fz, v = Slc g 0 l.length cap ∧ B ≤ g ∧ l.length ≤ cap ∧ cap ≤ maxLen ∧ w'.heap[g]? = some (.cells (cu8 l ++ sp).toArray T fz) := by
  obtain ⟨g, cap, zs, rfl, hB, hc, hm, hz, hr, hb, hcell, _⟩ := h
  have h0 := hcell 0 (by omega)
  have : ∃ cs T fz, w'.heap[g]? = some (.cells cs T fz) := by
    unfold World.cell? at h0
    split at h0
    · rename_i cs T fz he; exact ⟨cs, T, fz, he⟩
    · simp at h0
  obtain ⟨cs, T, fz, he⟩ := this
  have key : ∀ i, i < cap → cs[i]? = some (.int .u8 (zs.getD i 0)) := fun i hi => by
    have := hcell i hi
    simpa [World.cell?, he] using this
  refine ⟨g, cs.toList.drop l.length, cap, T, fz, rfl, hB, hc, hm, ?_⟩
  rw [he]
  have e1 : cs.toList.take l.length = cu8 l := by
    apply List.ext_getElem?
    intro i
    by_cases hi : i < l.length
    · rw [List.getElem?_take, if_pos hi]
      have k := key i (by omega)
      rw [← Array.getElem?_toList] at k
      rw [k]
      obtain ⟨x, hzi⟩ : ∃ x, zs[i]? = some x := ⟨_, List.getElem?_eq_getElem (show i < zs.length by omega)⟩
      have hrange := hr x (List.mem_of_getElem? hzi)
      have hli : l[i]? = some (UInt8.ofNat x.toNat) := by
        have := congrArg (fun q => q[i]?) hb
        simp only [Lib.bytesOf, List.getElem?_map, List.getElem?_take, if_pos hi, hzi, Option.map_some] at this
        exact this.symm
      have hx : ((UInt8.ofNat x.toNat).toNat : Int) = x := by
        rw [UInt8.toNat_ofNat']
        have : x.toNat < 256 := by omega
        rw [Nat.mod_eq_of_lt (by simpa using this)]
        omega
      simp only [cu8, List.getElem?_map, hli, Option.map_some, List.getD_eq_getElem?_getD, hzi, Option.getD_some]
      show _ = some (Value.int .u8 ((UInt8.ofNat x.toNat).toNat : Int))
      rw [hx]
    · rw [List.getElem?_eq_none (by simp; omega), List.getElem?_eq_none (by simp [cu8]; omega)]
  rw [← e1, List.take_append_drop]
def JoinR (l : List UInt8) (v : Value) (L : List Ent) : Prop :=
 (l = [] ∧ ∃ ao c, v = .slice ao 0 c ∧ L = [] ∧ (ao = none → c = 0)) ∨
 (0 < l.length ∧ ∃ g sp cap T fz, v = Slc g 0 l.length cap ∧ L = [⟨g, cu8 l ++ sp, T, fz⟩] ∧ l.length ≤ cap ∧ cap ≤ maxLen)
theorem join_post {w : World} {l : List UInt8} {v : Value} {w' : World} (h : Lib.FreshBytes w.heap.size w' v l) (hb : Below w.heap.size w w') : Post w [] (JoinR l) (.returned v) w' := by
  by_cases hl : 0 < l.length
  · obtain ⟨g, sp, cap, T, fz, hv, hB, hc, hm, he⟩ := fresh_ent h hl
    refine ⟨v, _, rfl, .inr ⟨hl, g, sp, cap, T, fz, hv, rfl, hc, hm⟩, ⟨hb.os, hb.tape, hb.output, hb.size, fun b hbl _ => hb.block b hbl, ?_, by simp, ?_⟩⟩
    · intro e he'; simp at he'; subst he'; exact he
    · intro e he'; simp at he'; subst he'; exact .inr hB
  · have hn : l = [] := by simpa using hl
    subst hn
    obtain ⟨g, cap, zs, rfl, _⟩ := h
    exact ⟨_, [], rfl, .inl ⟨rfl, _, _, rfl, rfl, fun h => by cases h⟩, ⟨hb.os, hb.tape, hb.output, hb.size, fun b hbl _ => hb.block b hbl, by simp, by simp, by simp⟩⟩
def PL (w : World) : List Value → List (List UInt8) → Prop
 | [], [] => True
 | v :: vs, l :: ls => (∃ ao c, v = .slice ao l.length c ∧ RdB w [] ao l) ∧ PL w vs ls
 | _, _ => False
theorem PL.len {w : World} : ∀ {vs : List Value} {ls : List (List UInt8)}, PL w vs ls → vs.length = ls.length
 | [], [], _ => rfl
 | _ :: _, _ :: _, h => by simp [PL.len h.2]
 | [], _ :: _, h => h.elim
 | _ :: _, [], h => h.elim
theorem PL.get {w : World} : ∀ {vs : List Value} {ls : List (List UInt8)}, PL w vs ls → ∀ (i : Nat) v l, vs[i]? = some v → ls[i]? = some l → ∃ ao c, v = .slice ao l.length c ∧ RdB w [] ao l
 | _ :: _, _ :: _, h, 0, v, l, hv, hl => by simp at hv hl; subst hv; subst hl; exact h.1
 | _ :: _, _ :: _, h, i + 1, v, l, hv, hl => PL.get h.2 i v l (by simpa using hv) (by simpa using hl)
 | [], [], _, i, v, l, hv, _ => by simp at hv
 | [], _ :: _, h, _, _, _, _, _ => h.elim
 | _ :: _, [], h, _, _, _, _, _ => h.elim
theorem PL.at {C : Cx} {L : List Ent} {w : World} (hw : Hp C.w0 C.M L w) (hM : C.M = []) : ∀ {vs : List Value} {ls : List (List UInt8)}, PL C.w0 vs ls → PL w vs ls
 | [], [], _ => trivial
 | v :: vs, l :: ls, ⟨⟨ao, c, hv, hr⟩, h⟩ => by
  rw [← hM] at hr
  exact ⟨⟨ao, c, hv, hr.at (M' := []) hw (by simp)⟩, PL.at hw hM h⟩
 | [], _ :: _, h => h.elim
 | _ :: _, [], h => h.elim
def Parts (w : World) (b : Nat) (vs : List Value) (ls : List (List UInt8)) : Prop := RdA w b 0 vs ∧ PL w vs ls
theorem Parts.at {C : Cx} {L : List Ent} {w : World} {b : Nat} {vs : List Value} {ls : List (List UInt8)} (hw : Hp C.w0 C.M L w) (hM : C.M = []) (h : Parts C.w0 b vs ls) (h0 : 0 < ls.length) : Parts w b vs ls :=
 ⟨RdA.of hw (h.1.mem (by simp [hM])) (by rw [h.2.len]; exact h0), h.2.at hw hM⟩
theorem lens_flat : ∀ ls : List (List UInt8), Lib.lens ls = ls.flatten.length
 | [] => rfl
 | l :: ls => by have := lens_flat ls; simp only [Lib.lens, List.map_cons, List.sum_cons, List.flatten_cons, List.length_append] at this ⊢; omega
theorem join_flat : ∀ ls : List (List UInt8), Lib.join ls [] = ls.flatten
 | [] => rfl
 | l :: ls => by rw [Lib.join_cons, Lib.joinTail]; simp
variable {P : Program} {ρ : Shelf.Ren}
theorem joinN (Lw : SlLaysJ.n14 P ρ) (b c : Nat) (vs : List Value) (ls : List (List UInt8)) (w : World) (hk : 1 ≤ ls.length) (hc : ls.length ≤ c) (hk2 : ls.length ≤ 1000) (hp : Parts w b vs ls) (hs : ls.flatten.length ≤ 17592186044416) :
    Calls P (ρ.f 14) #[.slice (some ⟨b, 0, none⟩) ls.length c, .slice none 0 0] w (Post w [] (JoinR ls.flatten)) := by
  obtain ⟨hA, hP⟩ := hp
  have hcell : ∀ j v, vs[j]? = some v → w.cell? ⟨b, j, none⟩ = some v := fun j v hj => by simpa using hA.2 j v hj
  by_cases h2 : 2 ≤ ls.length
  · refine (Any.bytes_Join_many Lw b 0 ls.length c vs ls (.slice none 0 0) [] w rfl h2 ⟨hP.len, fun i v hv => ?_, fun i v l hv hl => ?_⟩ hc ⟨none, 0, rfl, fun _ => rfl, fun a ha => by cases ha⟩ (by omega) (by rw [lens_flat, List.length_nil, Nat.zero_mul]; omega)).mono ?_
    · rw [Lib.add_plain2, Nat.zero_add]; exact hcell i v hv
    · obtain ⟨ao, c', rfl, hr⟩ := hP.get i v l hv hl
      exact hr.holds rfl
    · rintro e w' ⟨v', rfl, hf, hb⟩
      rw [join_flat] at hf
      exact join_post hf hb
  · match vs, ls, hP with
    | [v], [l], ⟨⟨ao, c0, hv, hr⟩, _⟩ =>
      subst hv
      have h0 := hcell 0 _ rfl
      by_cases hl : l.length = 0
      · have : l = [] := by simpa using hl
        subst this
        refine (Any.bytes_Join_one_empty Lw b 0 c ao c0 (.slice none 0 0) w h0).mono ?_
        rintro e w' ⟨rfl, rfl⟩
        exact ⟨_, [], rfl, .inl ⟨rfl, none, 0, rfl, rfl, fun _ => rfl⟩, B7 (by simp) (by simp) (by simp)⟩
      · rcases hr with rfl | ⟨b', off, rfl, _, _, hcc⟩
        · simp at hl
        · refine (Any.bytes_Join_one Lw b 0 c ⟨b', off, none⟩ c0 l (.slice none 0 0) w h0 (fun i x hx => ?_) (by omega) (by simp at hs; omega)).mono ?_
          · rw [Lib.add_plain2]
            exact hcc i (U8 x) (by simp [cu8, hx])
          · rintro e w' ⟨v', rfl, hf, hb⟩
            have := join_post hf hb
            simpa using this
    | [], [], _ => simp at hk
    | _ :: _ :: _, [_], h => exact absurd h.len (by simp)
    | [], [_], h => exact h.elim
    | _, _ :: _ :: _, _ => simp at h2
end Go.Sx
namespace Go.Proofs.YtkdpdgpphpngeaaDoor
open Go Go.Sx
set_option linter.unusedVariables false
set_option linter.unusedSimpArgs false
set_option maxRecDepth 100000
attribute [local irreducible] mid zr8 zr32 rotr wordL spreadL comprL cpN adN spN wrdN constL initL padL stN outN routN hashL sumG
def rhoJ : Shelf.Ren := ⟨fun x => if x = 14 then 174 else if x = 15 then 190 else x, fun x => if x = 0 then 0 else if x = 3 then 3 else if x = 4 then 4 else if x = 9 then 9 else if x = 20 then 20 else if x = 22 then 43 else if x = 26 then 230 else if x = 5 then 5 else x, fun x => x⟩
set_option maxRecDepth 1000000 in
theorem joinLays : SlLaysJ.n14 Tryd.prog rhoJ where
 mixed := BQ
 f14 := by kernel_rfl
 f15 := by kernel_rfl
 t0 := by kernel_rfl
 a0 := fun _ => by kernel_rfl
 z0 := fun _ => by kernel_rfl
 v0 := fun _ => by kernel_rfl
 t3 := by kernel_rfl
 a3 := fun _ => by kernel_rfl
 z3 := fun _ => by kernel_rfl
 v3 := fun _ => by kernel_rfl
 t4 := by kernel_rfl
 a4 := fun _ => by kernel_rfl
 z4 := fun _ => by kernel_rfl
 v4 := fun _ => by kernel_rfl
 t9 := by kernel_rfl
 a9 := fun _ => by kernel_rfl
 z9 := fun _ => by kernel_rfl
 v9 := fun _ => by kernel_rfl
 t20 := by kernel_rfl
 a20 := fun _ => by kernel_rfl
 z20 := fun _ => by kernel_rfl
 v20 := fun _ => by kernel_rfl
 t22 := by kernel_rfl
 a22 := fun _ => by kernel_rfl
 z22 := fun _ => by kernel_rfl
 v22 := fun _ => by kernel_rfl
 t26 := by kernel_rfl
 a26 := fun _ => by kernel_rfl
 z26 := fun _ => by kernel_rfl
 v26 := fun _ => by kernel_rfl
 t5 := by kernel_rfl
 z5 := fun _ => by kernel_rfl
 i5 := by kernel_rfl
theorem join_c (b c : Nat) (vs : List Value) (ls : List (List UInt8)) (w : World) (hk : 1 ≤ ls.length) (hc : ls.length ≤ c) (hk2 : ls.length ≤ 1000) (hp : Parts w b vs ls) (hs : ls.flatten.length ≤ 17592186044416) : Calls Tryd.prog 174 #[.slice (some ⟨b, 0, none⟩) ls.length c, .slice none 0 0] w (Post w [] (JoinR ls.flatten)) :=
 joinN joinLays b c vs ls w hk hc hk2 hp hs
theorem of_c (b c : Nat) (vs : List Value) (ls : List (List UInt8)) (w : World) (hk : 1 ≤ ls.length) (hc : ls.length ≤ c) (hk2 : ls.length ≤ 1000) (hp : Parts w b vs ls) (hs : ls.flatten.length ≤ 1000000000) (hG : GLs w) : Calls Tryd.prog 172 #[.slice (some ⟨b, 0, none⟩) ls.length c] w (Post w [] (fun v L => v = .agg (cu8 (sumG constL initL ls.flatten)).toArray ∧ L = [])) := by
 refine enter w [] 6 [] [.slice (some ⟨b, 0, none⟩) ls.length c] Tryd.func172 rfl rfl (by simp) (B7 (by simp) (by simp) (by simp)) ?_
 show JC _ _ _ [(0, .slice (some ⟨b, 0, none⟩) ls.length c)] _
 refine AL (AE (AR (BJ _ (cu8 (zr8 32)) DQ (by kernel_rfl)) rfl ?_))
 rintro v1 L1 ⟨nb1, hnb1, rfl, rfl⟩
 show JL _ _ _ _ ((2, Ptr nb1 0) :: _) [⟨nb1, cu8 (zr8 32), 54, (0, 0)⟩]
 refine AN (AF (AL (AE (AA _ (AD rfl) rfl ?_))))
 refine AR (BG 174 [.slice (some ⟨b, 0, none⟩) ls.length c, .slice none 0 0] _ (A0 [.slice (some ⟨b, 0, none⟩) ls.length c, .slice none 0 0] Tryd.call174 rfl) (fun w1 hw1 => join_c b c vs ls w1 hk hc hk2 (hp.at hw1 rfl (by omega)) (by omega))) rfl ?_
 rintro v1 L1 ⟨_, (⟨he1, ao1, ca1, rfl, rfl, hn1⟩ | ⟨hp1, nb2, sp1, cp1, tj1, fj1, rfl, rfl, hl1, hm1⟩), rfl⟩
 ·
  show JL _ _ _ _ ((4, .slice ao1 0 ca1) :: _) [_]
  refine AR (A3 177 [.slice ao1 0 ca1] (.agg (cu8 (sumG constL initL ([] : List UInt8))).toArray) (A0 [.slice ao1 0 ca1] Tryd.call177 rfl) (fun w1 hw1 => sum_c ao1 0 ca1 ([] : List UInt8) w1 rfl hn1 (by omega) RdB.nil (hG.at hw1))) rfl ?_
  rintro v1 L1 ⟨rfl, rfl⟩
  show JL _ _ _ _ ((5, .agg (cu8 (sumG constL initL ([] : List UInt8))).toArray) :: _) [_]
  refine AR (A6 0 nb1 0 32 (cu8 (zr8 32)) 54 (.agg (cu8 (sumG constL initL ([] : List UInt8))).toArray) (cu8 (sumG constL initL ([] : List UInt8))) (cu8 (sumG constL initL ([] : List UInt8))) rfl rfl rfl (by first | rfl | simp) CD (CG (DZ _ _ _)) (by first | exact CK | exact DW | exact DT | (simp [cu8, cu32, cu64, Value.oneCell']; done)) (by simp [(AP 32)]) (BF (by simp [(AP 32), (DZ _ _ _)]))) rfl ?_
  rintro v1 L1 ⟨rfl, rfl⟩
  show JL _ _ _ _ _ [⟨nb1, cu8 (sumG constL initL ([] : List UInt8)), 54, (0, 0)⟩]
  refine AN (AF (BO (BP (.agg (cu8 (sumG constL initL ([] : List UInt8))).toArray) (res1 Tryd.results172 (ED rfl (BH D0 CD (CG (DZ _ _ _)) (MemAt.ent 0 rfl (AM _))))) fun w1 hw1 => ?_)))
  refine ⟨_, [], rfl, ⟨?_, rfl⟩, hw1.sub (by simp) (by simp)⟩
  first | rfl | rw [he1]
 ·
  show JL _ _ _ _ ((4, Slc nb2 0 ls.flatten.length cp1) :: _) [_, ⟨nb2, cu8 ls.flatten ++ sp1, tj1, fj1⟩]
  refine AR (A3 177 [Slc nb2 0 ls.flatten.length cp1] (.agg (cu8 (sumG constL initL ls.flatten)).toArray) (A0 [Slc nb2 0 ls.flatten.length cp1] Tryd.call177 rfl) (fun w1 hw1 => sum_c (some ⟨nb2, 0, none⟩) ls.flatten.length cp1 ls.flatten w1 (rfl : ls.flatten.length = _) (fun h => by cases h) (by omega) (RdB.of hw1 (MemAt.ent 1 rfl (A2 (AM _))) (by simp)) (hG.at hw1))) rfl ?_
  rintro v1 L1 ⟨rfl, rfl⟩
  show JL _ _ _ _ ((5, .agg (cu8 (sumG constL initL ls.flatten)).toArray) :: _) [_, _]
  refine AR (A6 0 nb1 0 32 (cu8 (zr8 32)) 54 (.agg (cu8 (sumG constL initL ls.flatten)).toArray) (cu8 (sumG constL initL ls.flatten)) (cu8 (sumG constL initL ls.flatten)) rfl rfl rfl (by first | rfl | simp) CD (CG (DZ _ _ _)) (by first | exact CK | exact DW | exact DT | (simp [cu8, cu32, cu64, Value.oneCell']; done)) (by simp [(AP 32)]) (BF (by simp [(AP 32), (DZ _ _ _)]))) rfl ?_
  rintro v1 L1 ⟨rfl, rfl⟩
  show JL _ _ _ _ _ [⟨nb1, cu8 (sumG constL initL ls.flatten), 54, (0, 0)⟩, _]
  refine AN (AF (BO (BP (.agg (cu8 (sumG constL initL ls.flatten)).toArray) (res1 Tryd.results172 (ED rfl (BH D0 CD (CG (DZ _ _ _)) (MemAt.ent 0 rfl (AM _))))) fun w1 hw1 => ?_)))
  refine ⟨_, [], rfl, ⟨?_, rfl⟩, hw1.sub (by simp) (by simp)⟩
  first | rfl | rw [he1]
end Go.Proofs.YtkdpdgpphpngeaaDoor
namespace Go.Sx
open Go Go.RowKit
set_option linter.unusedVariables false
set_option linter.unusedSimpArgs false
variable {C : Cx} {F : Frm} {L : List Ent}
theorem Step_appG8 {x y : Operand} {ty : TypeId} (t e : Nat) (a0 : Addr) (n cap : Nat) (l z : List UInt8) (ao : Option Addr) (k c tot : Nat)
    (hu : C.P.underlying t = some (.slice e)) (hi : (C.P.info? e).map (fun i => (i.zero, i.size, i.bytes)) = some (some (.int .u8 0), 1, 1))
    (hx : ev F x = some (.slice (some a0) n cap)) (hl : l.length = n) (hr : SrcAt C L (some a0) (cu8 l))
    (hy : ev F y = some (.slice ao k c)) (hk : z.length = k) (hm : SrcAt C L ao (cu8 z)) (hk0 : 0 < k) (hg : cap < n + k) (hmax : (n + k) * 1 ≤ 140737488355328) (hmax' : n + k ≤ maxLen) (htot : n + k = tot) :
    Step C F L (.call { callee := .builtin .append, args := #[x, y], argTypes := #[t, t] }) ty fun v' L' => ∃ g sp cap', C.w0.heap.size ≤ g ∧ v' = Slc g 0 tot cap' ∧ L' = L ++ [⟨g, cu8 (l ++ z) ++ sp, e, (0, 0)⟩] ∧ (l ++ z).length = tot ∧ sp.length = cap' - tot ∧ tot ≤ cap' ∧ cap' ≤ maxLen :=
  Step_run fun a w ha hw d pos aft g => by
  subst htot
  obtain ⟨i, hi1, hi2, hi3, hi4⟩ := info_of hi
  have he := ha.ev hx
  have he' := ha.ev hy
  cases ao with
  | none =>
    have := hm.1 rfl
    have hz : z = [] := by simpa [cu8] using this
    subst hz; simp at hk; omega
  | some ad =>
    have hsrc : ∀ j u, (cu8 z)[j]? = some u → w.cell? (ad.add j) = some u := fun j u hj => hm.2 ad rfl w hw j u hj
    have hold : ∀ j u, (cu8 l)[j]? = some u → w.cell? (a0.add j) = some u := fun j u hj => hr.2 a0 rfl w hw j u hj
    obtain ⟨v', w', hrun, hown, hgr⟩ := run_append_arg_grows (P := C.P) (w := w) t ty e i (.int .u8 0) 1 1 hu hi1 hi2 hi3 hi4 rfl (by decide) a0 n cap (cu8 l) (by simp [cu8, hl]) hold ad k c (cu8 z) (by simp [cu8, hk]) hsrc hg hmax' hmax
    obtain ⟨hlen, hcase⟩ := hown
    rcases hcase with ⟨_, h5⟩ | ⟨g', cap', cur, rfl, hb, hh, hcap, hmaxl, hsz, htk⟩
    · omega
    · have hcur : cur = (cu8 (l ++ z) ++ cur.toList.drop ((n + k) * 1)).toArray := by
        apply Array.toList_inj.1
        rw [cu8, List.map_append]
        show cur.toList = (cu8 l ++ cu8 z) ++ _
        rw [← htk]; simp
      refine ⟨_, L ++ [⟨g', cu8 (l ++ z) ++ cur.toList.drop ((n + k) * 1), e, (0, 0)⟩], w', ⟨g', cur.toList.drop ((n + k) * 1), cap', Nat.le_trans hw.le hb, rfl, rfl, by simp [hl, hk], ?_, hcap, hmaxl⟩, hw.grown (m := []) none hgr (fun b hb => by cases hb) (by rw [← hcur]; exact hh) (.inl hb), .inl ?_⟩
      · have := congrArg Array.size hcur
        rw [hsz] at this
        simp [cu8, hl, hk] at this
        simp; omega
      · simp [execOp, resolve, invoke, he, he', builtin, hrun]
end Go.Sx
namespace Go.Proofs.YtkdpdgpphpngeaaDoor
open Go Go.Sx
set_option linter.unusedVariables false
set_option linter.unusedSimpArgs false
def blkL (b : List UInt8) : List UInt8 := if 64 < b.length then spl (zr8 64) 0 (sumG constL initL b) else spl (zr8 64) 0 b
theorem EZ (b : List UInt8) : (blkL b).length = 64 := by
  unfold blkL
  split
  · rw [spl_len (by rw [DZ, AP]; omega), AP]
  · rw [spl_len (by rw [AP]; omega), AP]
theorem spl_zr (v : List UInt8) {n : Nat} (h : v.length = n) : spl (zr8 64) 0 v = v ++ zr8 (64 - n) := by
 subst h
 rw [spl, List.take_zero, List.nil_append, Nat.zero_add, zr8, zr8, List.drop_replicate]
theorem blkL_big {b : List UInt8} (h : 64 < b.length) : blkL b = sumG constL initL b ++ zr8 32 := by
 rw [blkL, if_pos h, spl_zr _ (DZ _ _ _)]
theorem blkL_small {b : List UInt8} (h : b.length ≤ 64) : blkL b = b ++ zr8 (64 - b.length) := by
 rw [blkL, if_neg (by omega), spl_zr _ rfl]
def xbN (b : List UInt8) (x : UInt8) : Nat → List UInt8
 | 0 => b
 | k + 1 => (xbN b x k).set k (g8 (xbN b x k) k ^^^ x)
theorem xbN_len (b : List UInt8) (x : UInt8) : ∀ k, (xbN b x k).length = b.length
 | 0 => rfl
 | k + 1 => by rw [xbN, List.length_set, xbN_len b x k]
theorem xbN_len64 {b : List UInt8} (x : UInt8) (k : Nat) (h : b.length = 64) : (xbN b x k).length = 64 := (xbN_len b x k).trans h
theorem xbN_get (b : List UInt8) (x : UInt8) : ∀ k, k ≤ b.length → ∀ j, g8 (xbN b x k) j = if j < k then g8 b j ^^^ x else g8 b j
  | 0, _, j => by simp [xbN]
  | k + 1, h, j => by
    rw [xbN, g8_set _ _ _ _ (by rw [xbN_len]; omega)]
    by_cases hj : k = j
    · subst hj; rw [if_pos rfl, if_pos (by omega), xbN_get b x k (by omega), if_neg (by omega)]
    · rw [if_neg hj, xbN_get b x k (by omega)]
      by_cases h2 : j < k
      · rw [if_pos h2, if_pos (by omega)]
      · rw [if_neg h2, if_neg (by omega)]
def raN (b : List UInt8) (x : UInt8) : Nat → List UInt8
 | 0 => []
 | k + 1 => raN b x k ++ [g8 b k ^^^ x]
theorem raN_len (b : List UInt8) (x : UInt8) : ∀ k, (raN b x k).length = k
 | 0 => rfl
 | k + 1 => by rw [raN, List.length_append, raN_len b x k]; rfl
theorem raN_get (b : List UInt8) (x : UInt8) : ∀ k j, j < k → g8 (raN b x k) j = g8 b j ^^^ x
  | 0, j, h => by omega
  | k + 1, j, h => by
    rw [raN]
    by_cases hj : j < k
    · rw [g8_app, raN_len, if_pos hj, raN_get b x k j hj]
    · obtain rfl : j = k := by omega
      rw [g8_app, raN_len, if_neg (by omega), Nat.sub_self]; rfl
theorem raN_xbN {b : List UInt8} (x : UInt8) (h : b.length = 64) : raN b x 64 = xbN b x 64 :=
 ext8 (by rw [raN_len, xbN_len, h]) fun j hj => by
  rw [raN_len] at hj
  rw [raN_get b x 64 j hj, xbN_get b x 64 (by omega), if_pos hj]
def macL (b t : List UInt8) : List UInt8 := sumG constL initL (xbN (blkL b) 92 64 ++ sumG constL initL (xbN (blkL b) 54 64 ++ t))
theorem C6 (b t : List UInt8) : (macL b t).length = 32 := DZ _ _ _
def orN (x y : List UInt8) : Nat → UInt8
 | 0 => 0
 | i + 1 => orN x y i ||| (g8 x i ^^^ g8 y i)
theorem or_zero {a b : UInt8} : (a ||| b = 0) ↔ a = 0 ∧ b = 0 := by
  constructor
  · intro h
    have h2 : a.toBitVec ||| b.toBitVec = 0 := by
      have := congrArg UInt8.toBitVec h
      simpa using this
    have ha : a.toBitVec = 0 := by
      apply BitVec.eq_of_getElem_eq
      intro i hi
      have := congrArg (fun v => v[i]) h2
      simp at this
      simpa using this.1
    have hb : b.toBitVec = 0 := by
      apply BitVec.eq_of_getElem_eq
      intro i hi
      have := congrArg (fun v => v[i]) h2
      simp at this
      simpa using this.2
    exact ⟨UInt8.toBitVec_inj.1 ha, UInt8.toBitVec_inj.1 hb⟩
  · rintro ⟨rfl, rfl⟩; rfl
theorem xor_zero {a b : UInt8} : (a ^^^ b = 0) ↔ a = b := UInt8.xor_eq_zero_iff
theorem orN_zero (x y : List UInt8) : ∀ n, (orN x y n = 0) ↔ ∀ i, i < n → g8 x i = g8 y i
  | 0 => by simp [orN]
  | n + 1 => by
    rw [orN, or_zero, xor_zero, orN_zero x y n]
    constructor
    · rintro ⟨h1, h2⟩ i hi
      by_cases h : i = n
      · subst h; exact h2
      · exact h1 i (by omega)
    · intro h; exact ⟨fun i hi => h i (by omega), h n (by omega)⟩
theorem orN_same {x y : List UInt8} {n : Nat} (hx : x.length = n) (hy : y.length = n) : decide (orN x y n = 0) = decide (x = y) := by
  have : (orN x y n = 0) ↔ x = y := by
    rw [orN_zero]
    constructor
    · intro h; exact ext8 (by rw [hx, hy]) fun j hj => h j (by omega)
    · rintro rfl _ _; rfl
  by_cases h : x = y
  · rw [decide_eq_true h, decide_eq_true (this.2 h)]
  · rw [decide_eq_false h, decide_eq_false (fun h2 => h (this.1 h2))]
end Go.Proofs.YtkdpdgpphpngeaaDoor
namespace Go.Proofs.YtkdpdgpphpngeaaDoor
open Go Go.Sx
set_option linter.unusedVariables false
set_option linter.unusedSimpArgs false
theorem numK_byteT (n : Nat) : numK 1 (UInt64.ofNat n) 1 = [UInt8.ofNat n] := by rw [numK_one, u8_of]
def tktN (k ni ns : Nat) : Nat := if k = 3 then 25 else 18 + 4*ni + 56*ns
theorem D5 {pv ep : UInt64} {k : Nat} {l : List UInt64} {ls : List SealR} {bl : UInt64} {ni ns : Nat} (hl : l.length = ni) (hls : ls.length = ns) : (tktT pv ep k l ls bl).length = tktN k ni ns := by
  unfold tktT tktN
  split
  · simp only [List.length_append, DR]
  · simp only [List.length_append, DR, idxT_len, selT_len, hl, hls]
def tkG (key : List UInt8) (pv ep : UInt64) (k : Nat) (l : List UInt64) (ls : List SealR) (bl : UInt64) : List UInt8 := mid (macL key (tktT pv ep k l ls bl)) 0 16
theorem CO (key : List UInt8) (pv ep : UInt64) (k : Nat) (l : List UInt64) (ls : List SealR) (bl : UInt64) : (tkG key pv ep k l ls bl).length = 16 := EH (by rw [C6]; omega)
theorem tkG_of (key : List UInt8) (pv ep : UInt64) (k : Nat) (l : List UInt64) (ls : List SealR) (bl : UInt64) : mid (macL key [tktT pv ep k l ls bl].flatten) 0 16 = tkG key pv ep k l ls bl := by
 unfold tkG; simp
def chkG (key : List UInt8) (pv ep : UInt64) (k : Nat) (l : List UInt64) (ls : List SealR) (bl : UInt64) (tg : List UInt8) : Nat := if tg = tkG key pv ep k l ls bl then 0 else 4
theorem chk_tk (key : List UInt8) (pv ep : UInt64) (k : Nat) (l : List UInt64) (ls : List SealR) (bl : UInt64) {tg : List UInt8} (ht : tg.length = 16) :
  (decide (tg = macL key [tktT pv ep k l ls bl].flatten) || decide (tg = mid (macL key [tktT pv ep k l ls bl].flatten) 0 16)) = decide (tg = tkG key pv ep k l ls bl) := by
 rw [tkG_of, decide_eq_false, Bool.false_or]
 intro h
 have := congrArg List.length h
 rw [C6, ht] at this
 omega
theorem FE (key : List UInt8) (pv ep : UInt64) (k : Nat) (l : List UInt64) (ls : List SealR) (bl : UInt64) (tg : List UInt8) : (decide (chkG key pv ep k l ls bl tg = 0) == decide (tkG key pv ep k l ls bl = tg)) = true := by
  unfold chkG
  split
  · rename_i h; rw [← h]; simp
  · rename_i h
    have h2 : ¬ tkG key pv ep k l ls bl = tg := fun e => h e.symm
    simp [h2]
theorem chk_four {key : List UInt8} {pv ep : UInt64} {k : Nat} {l : List UInt64} {ls : List SealR} {bl : UInt64} {tg : List UInt8} (h : ¬ chkG key pv ep k l ls bl tg = 0) : chkG key pv ep k l ls bl tg = 4 := by
  unfold chkG at h ⊢
  split
  · rename_i h2; rw [if_pos h2] at h; exact absurd rfl h
  · rfl
section
variable {C : Cx} {F : Frm} {L : List Ent}
theorem one_rows : ∀ (ls : List SealR), ∀ v ∈ ls.flatMap sealC, v.oneCell' = true := fun ls v hv => by
 obtain ⟨z, _, hz⟩ := List.mem_flatMap.1 hv
 exact one_seal z v hz
theorem Step_cloneS {x y : Operand} {ty : TypeId} (t e bytes : Nat) (zv : Value) (m : List Bool) (nb : Nat) (ls : List SealR) (ao : Option Addr) (k c : Nat)
  (hu : C.P.underlying t = some (.slice e)) (hi : (C.P.info? e).map (fun i => (i.zero, i.size, i.bytes)) = some (some zv, 49, bytes)) (hzs : zv.cells.size = 49)
  (hx : ev F x = some (Slc nb 0 0 0)) (ht : take? m L = [⟨nb, [], e, (0, 0)⟩]) (hy : ev F y = some (.slice ao k c)) (hl : ls.length = k) (hm : SrcAt C L ao (ls.flatMap sealC)) (hmax : k * bytes ≤ 140737488355328) (hmax' : k ≤ maxLen) :
  Step C F L (.call { callee := .builtin .append, args := #[x, y], argTypes := #[t, t] }) ty fun v' L' => ∃ g sp cap, (C.w0.heap.size ≤ g ∨ g ∈ C.M) ∧ v' = Slc g 0 k cap ∧ L' = rest? m L ++ [⟨g, ls.flatMap sealC ++ sp, e, (0, 0)⟩] ∧ sp.length = cap * 49 - k * 49 ∧ k ≤ cap ∧ cap ≤ maxLen := by
 have h := Step_append (C := C) (F := F) (L := L) (x := x) (y := y) (ty := ty) t e 49 bytes zv m (Slc nb 0 0 0) 0 [] (ls.flatMap sealC) ao k c hu hi hzs (by decide) hx (.inr ⟨nb, [], 0, rfl, ht, rfl, rfl, Nat.le_refl _, Nat.zero_le _⟩) hy (by rw [rows_len, hl]) hm (one_rows ls) (by rw [Nat.zero_add]; exact hmax) (by omega)
 intro a w ha hw d pos aft g Kk Q hq
 refine h a w ha hw d pos aft g Kk Q ?_
 rintro v' L' w' ⟨g, sp, cap, h1, h2, h3, h4, h5, h6, h7⟩ hw'
 rw [List.nil_append] at h3 h4 h5
 rw [Nat.zero_add] at h2 h4 h6
 refine hq v' L' w' ⟨g, sp, cap, h1, h2, h3, ?_, h6, h7⟩ hw'
 rw [List.length_append, h4] at h5
 omega
end
end Go.Proofs.YtkdpdgpphpngeaaDoor
namespace Go.Proofs.YtkdpdgpphpngeaaDoor
open Go Go.Sx
set_option linter.unusedVariables false
set_option linter.unusedSimpArgs false
set_option maxRecDepth 100000
attribute [local irreducible] mid zr8 zr32 numK rnK rotr wordL spreadL comprL cpN adN spN wrdN constL initL padL stN outN routN sumG putL RightB tktT mayN idxT selT macL
theorem text_w (pv ep : UInt64) (k : Nat) (ai : Option Addr) (ni ci : Nat) (l : List UInt64) (sa : Option Addr) (ns sc : Nat) (ls : List SealR) (bl : UInt64) (tg : List UInt8) (tot : Nat) (w : World) (hl : l.length = ni) (hnm : ni ≤ 2000000) (hnc : ni ≤ ci) (hcm : ci ≤ maxLen) (hv : RdV w ai (cu64 l)) (hls : ls.length = ns) (hnn : ns ≤ 2000000) (hnd : ns ≤ sc) (hcn : sc ≤ maxLen) (hs : RdV w sa (ls.flatMap sealC)) (htg : tg.length = 16) (hmay : mayN pv ep (k:Int) l ls bl = 0) (hk : k = 1 ∨ k = 2 ∨ k = 3) (hsm : ns ≤ 300) (htot : tktN k ni ns = tot) : Calls Tryd.prog 114 #[.agg (List.toArray (α := Value) ([U64 pv, U64 ep, I64 ((k:Int)), .slice ai ni ci, .slice sa ns sc, U64 bl] ++ cu8 tg))] w (Post w [] (fun v L => ∃ g sp cap, v = .tuple #[Slc g 0 tot cap, .nilIface] ∧ L = [⟨g, cu8 (tktT pv ep k l ls bl) ++ sp, 5, (0, 0)⟩] ∧ sp.length = cap - tot ∧ tot ≤ cap ∧ cap ≤ maxLen)) := by
  by_cases h3 : k = 3
  · have e : tot = 25 := by rw [← htot]; unfold tktN; rw [if_pos h3]
    subst e
    exact text3_c pv ep k ai ni ci l sa ns sc ls bl tg w hl hnm hnc hcm hv hls hnn hnd hcn hs htg hmay h3
  · exact text12_c pv ep k ai ni ci l sa ns sc ls bl tg tot w hl hnm hnc hcm hv hls hnn hnd hcn hs htg hmay (by omega) hsm (by rw [← htot]; unfold tktN; rw [if_neg h3])

theorem F5 (pv ep : UInt64) (kd : Int) (ai : Option Addr) (ni ci : Nat) (l : List UInt64) (sa : Option Addr) (ns sc : Nat) (ls : List SealR) (bl : UInt64) (tg : List UInt8)  (w : World) (hl : l.length = ni) (hnm : ni ≤ 2000000) (hnc : ni ≤ ci) (hcm : ci ≤ maxLen) (hv : RdV w ai (cu64 l)) (hls : ls.length = ns) (hnn : ns ≤ 2000000) (hnd : ns ≤ sc) (hcn : sc ≤ maxLen) (hs : RdV w sa (ls.flatMap sealC)) (htg : tg.length = 16) (hm : mayN pv ep kd l ls bl ≠ 0)  : Calls Tryd.prog 114 #[.agg (List.toArray (α := Value) ([U64 pv, U64 ep, I64 (kd), .slice ai ni ci, .slice sa ns sc, U64 bl] ++ cu8 tg))] w (Post w [] (fun v L => v = .tuple #[.slice none 0 0, errV 50 (mayN pv ep kd l ls bl)] ∧ L = [])) := by
 have hmx : maxLen = 9223372036854775807 := rfl
 refine enter (P := Tryd.prog) (f := 114) (fn := Tryd.f114) w [] 75 [] [.agg (List.toArray (α := Value) ([U64 pv, U64 ep, I64 (kd), .slice ai ni ci, .slice sa ns sc, U64 bl] ++ cu8 tg))] Tryd.func114 rfl rfl (by simp) (B7 (by simp) (by simp) (by simp)) ?_
 show JC _ _ _ [(0, .agg (List.toArray (α := Value) ([U64 pv, U64 ep, I64 (kd), .slice ai ni ci, .slice sa ns sc, U64 bl] ++ cu8 tg)))] _
 refine AL (AE (AR (CN (.agg (List.toArray (α := Value) ([U64 pv, U64 ep, I64 (kd), .slice ai ni ci, .slice sa ns sc, U64 bl] ++ cu8 tg))) ([U64 pv, U64 ep, I64 (kd), .slice ai ni ci, .slice sa ns sc, U64 bl] ++ cu8 tg) rfl (by first | rfl | simp)) rfl ?_))
 rintro v1 L1 ⟨nb1, hnb1, rfl, rfl⟩
 show JL _ _ _ _ ((1, Ptr nb1 0) :: _) [⟨nb1, [U64 pv, U64 ep, I64 (kd), .slice ai ni ci, .slice sa ns sc, U64 bl] ++ cu8 tg, 29, (0, 0)⟩]
 refine AA _ (AH rfl) rfl ?_
 refine AA _ (AH rfl) rfl ?_
 refine AN (AF (AL (AL (AE (AA (.agg (List.toArray (α := Value) ([U64 pv, U64 ep, I64 (kd), .slice ai ni ci, .slice sa ns sc, U64 bl] ++ cu8 tg))) (AK rfl (BH BE AW (by simp [htg]) (MemAt.ent 0 rfl (AM _)))) rfl ?_)))))
 refine AR (A3 128 [.agg (List.toArray (α := Value) ([U64 pv, U64 ep, I64 (kd), .slice ai ni ci, .slice sa ns sc, U64 bl] ++ cu8 tg))] (errV 50 (mayN pv ep (kd) l ls bl)) (A0 [.agg (List.toArray (α := Value) ([U64 pv, U64 ep, I64 (kd), .slice ai ni ci, .slice sa ns sc, U64 bl] ++ cu8 tg))] Tryd.call128 rfl) (fun w1 hw1 => may13_c pv ep (kd) ai ni ci l sa ns sc ls bl tg w1 hl (by omega) (by omega) (by omega) (C1 hw1 rfl hv) hls (by omega) (by omega) (by omega) (C1 hw1 rfl hs) htg)) rfl ?_
 rintro v1 L1 ⟨rfl, rfl⟩
 show JL _ _ _ _ ((12, errV 50 (mayN pv ep (kd) l ls bl)) :: _) [_]
 refine AA _ (AH rfl) rfl ?_
 refine AN (AF (AL (AE (AA _ (AD rfl) rfl ?_))))
 refine AA (.bool (!(decide (mayN pv ep (kd) l ls bl = 0)))) (DC _ _ _ rfl rfl (fun _ => C5 ..) fun _ => EW BB _ _) rfl ?_
 refine AN (AF (C9 _ rfl (by rw [show (decide (mayN pv ep (kd) l ls bl = 0)) = false from (decide_eq_false hm)] <;> rfl) ?_))
 refine AL (AE (AA _ (AD rfl) rfl ?_))
 refine AA _ (AH rfl) rfl ?_
 refine AA _ (AH rfl) rfl ?_
 refine AN (AF (BO (A5 (B8 [false] ?_))))
 show JQ _ _ _ _ []
 refine BP (.tuple #[.slice none 0 0, errV 50 (mayN pv ep (kd) l ls bl)]) (res2 Tryd.results114 (BT rfl) (BT rfl)) fun w1 hw1 => ?_
 exact ⟨_, [], rfl, ⟨rfl, rfl⟩, hw1.sub (by simp) (by simp)⟩
theorem put13_c (pv ep : UInt64) (k : Nat) (ai : Option Addr) (ni ci : Nat) (l : List UInt64) (sa : Option Addr) (ns sc : Nat) (ls : List SealR) (bl : UInt64) (tg : List UInt8) (tot : Nat)  (w : World) (hl : l.length = ni) (hnm : ni ≤ 2000000) (hnc : ni ≤ ci) (hcm : ci ≤ maxLen) (hv : RdV w ai (cu64 l)) (hls : ls.length = ns) (hnn : ns ≤ 2000000) (hnd : ns ≤ sc) (hcn : sc ≤ maxLen) (hs : RdV w sa (ls.flatMap sealC)) (htg : tg.length = 16) (hmay : mayN pv ep (k:Int) l ls bl = 0) (hk : k = 1 ∨ k = 2 ∨ k = 3) (hsm : ns ≤ 300) (htot : tktN k ni ns = tot) (htb : tot ≤ 30000)  : Calls Tryd.prog 47 #[.agg (List.toArray (α := Value) ([U64 pv, U64 ep, I64 ((k:Int)), .slice ai ni ci, .slice sa ns sc, U64 bl] ++ cu8 tg))] w (Post w [] (fun v L => ∃ g sp cap, v = .tuple #[Slc g 0 (tot + 16) cap, .nilIface] ∧ L = [⟨g, cu8 ((tktT pv ep k l ls bl) ++ tg) ++ sp, 5, (0, 0)⟩] ∧ sp.length = cap - (tot + 16) ∧ (tot + 16) ≤ cap ∧ cap ≤ maxLen)) := by
 have hmx : maxLen = 9223372036854775807 := rfl
 refine enter (P := Tryd.prog) (f := 47) (fn := Tryd.f47) w [] 18 [] [.agg (List.toArray (α := Value) ([U64 pv, U64 ep, I64 ((k:Int)), .slice ai ni ci, .slice sa ns sc, U64 bl] ++ cu8 tg))] Tryd.func47 rfl rfl (by simp) (B7 (by simp) (by simp) (by simp)) ?_
 show JC _ _ _ [(0, .agg (List.toArray (α := Value) ([U64 pv, U64 ep, I64 ((k:Int)), .slice ai ni ci, .slice sa ns sc, U64 bl] ++ cu8 tg)))] _
 refine AL (AE (AR (CN (.agg (List.toArray (α := Value) ([U64 pv, U64 ep, I64 ((k:Int)), .slice ai ni ci, .slice sa ns sc, U64 bl] ++ cu8 tg))) ([U64 pv, U64 ep, I64 ((k:Int)), .slice ai ni ci, .slice sa ns sc, U64 bl] ++ cu8 tg) rfl (by first | rfl | simp)) rfl ?_))
 rintro v1 L1 ⟨nb1, hnb1, rfl, rfl⟩
 show JL _ _ _ _ ((1, Ptr nb1 0) :: _) [⟨nb1, [U64 pv, U64 ep, I64 ((k:Int)), .slice ai ni ci, .slice sa ns sc, U64 bl] ++ cu8 tg, 29, (0, 0)⟩]
 refine AA _ (AH rfl) rfl ?_
 refine AA _ (AH rfl) rfl ?_
 refine AN (AF (AL (AE (AA (.agg (List.toArray (α := Value) ([U64 pv, U64 ep, I64 ((k:Int)), .slice ai ni ci, .slice sa ns sc, U64 bl] ++ cu8 tg))) (AK rfl (BH BE AW (by simp [htg]) (MemAt.ent 0 rfl (AM _)))) rfl ?_))))
 refine AR (BG 114 [.agg (List.toArray (α := Value) ([U64 pv, U64 ep, I64 ((k:Int)), .slice ai ni ci, .slice sa ns sc, U64 bl] ++ cu8 tg))] _ (A0 [.agg (List.toArray (α := Value) ([U64 pv, U64 ep, I64 ((k:Int)), .slice ai ni ci, .slice sa ns sc, U64 bl] ++ cu8 tg))] DL rfl) (fun w1 hw1 => text_w pv ep k ai ni ci l sa ns sc ls bl tg tot w1 hl (by omega) (by omega) (by omega) (C1 hw1 rfl hv) hls (by omega) (by omega) (by omega) (C1 hw1 rfl hs) htg hmay hk hsm htot)) rfl ?_
 rintro v1 L1 ⟨_, ⟨nb2, sp1, cp1, rfl, rfl, hc1, hc2, hc3⟩, rfl⟩
 show JL _ _ _ _ ((8, .tuple #[Slc nb2 0 tot cp1, .nilIface]) :: _) [_, ⟨nb2, cu8 (tktT pv ep k l ls bl) ++ sp1, 5, (0, 0)⟩]
 refine AA _ (AD rfl) rfl ?_
 refine AA _ (BN rfl rfl) rfl ?_
 refine AA _ (BN rfl rfl) rfl ?_
 refine AA _ (AH rfl) rfl ?_
 refine AA _ (AH rfl) rfl ?_
 refine AN (AF (AL (AL (AE (AA _ (AD rfl) rfl ?_)))))
 refine AA (.bool false) (DC _ _ _ rfl rfl (fun _ => EC ..) fun _ => EF BB) rfl ?_
 refine AN (AF (C0 _ rfl rfl ?_))
 refine B4 (AF (AL (AE (AA _ (AD rfl) rfl ?_))))
 refine AA (Ptr nb1 6) (AC 6 27 16 AS rfl A1 rfl rfl) rfl ?_
 refine AA (Slc nb1 6 16 16) (BX 16 5 1 0 16 6 16 BC AX rfl rfl rfl (by omega) (by omega) (by omega) (by omega) (by omega) 16 (by omega)) rfl ?_
 refine AR (CY 43 5 [false, true] (Slc nb2 0 tot cp1) tot (tktT pv ep k l ls bl) tg (some ⟨nb1, 6, none⟩) 16 16 (tot + 16) AO CS rfl (.inr ⟨nb2, sp1, cp1, rfl, rfl, (by first | exact (show (tktT pv ep k l ls bl).length = tot from ((D5 hl hls).trans htot)) | simp [(show (tktT pv ep k l ls bl).length = tot from ((D5 hl hls).trans htot))]), hc1, (by omega), (by omega)⟩) rfl (by first | exact htg | simp [htg]; try omega) (SrcAt.mem (MemAt.ent 0 rfl (Seg.right 6 0 rfl rfl (AM _)))) (by omega) (by unfold maxLen; omega) (by omega)) rfl ?_
 rintro v1 L1 ⟨nb3, sp2, cp2, hg1, rfl, rfl, ha1, ha2, ha3, ha4⟩
 show JL _ _ _ _ ((17, Slc nb3 0 (tot + 16) cp2) :: _) [_, ⟨nb3, cu8 ((tktT pv ep k l ls bl) ++ tg) ++ sp2, 5, (0, 0)⟩]
 refine AA _ (AH rfl) rfl ?_
 refine AA _ (AH rfl) rfl ?_
 refine AN (AF (BO (B8 [false, true] ?_)))
 show JQ _ _ _ _ [_]
 refine BP (.tuple #[Slc nb3 0 (tot + 16) cp2, .nilIface]) (res2 Tryd.results47 (BT rfl) (BT rfl)) fun w1 hw1 => ?_
 exact ⟨_, _, rfl, ⟨nb3, sp2, cp2, rfl, rfl, ha2, ha3, ha4⟩, hw1.sub (by simp) (by simp)⟩
theorem putB_c (pv ep : UInt64) (kd : Int) (ai : Option Addr) (ni ci : Nat) (l : List UInt64) (sa : Option Addr) (ns sc : Nat) (ls : List SealR) (bl : UInt64) (tg : List UInt8)  (w : World) (hl : l.length = ni) (hnm : ni ≤ 2000000) (hnc : ni ≤ ci) (hcm : ci ≤ maxLen) (hv : RdV w ai (cu64 l)) (hls : ls.length = ns) (hnn : ns ≤ 2000000) (hnd : ns ≤ sc) (hcn : sc ≤ maxLen) (hs : RdV w sa (ls.flatMap sealC)) (htg : tg.length = 16) (hm : mayN pv ep kd l ls bl ≠ 0)  : Calls Tryd.prog 47 #[.agg (List.toArray (α := Value) ([U64 pv, U64 ep, I64 (kd), .slice ai ni ci, .slice sa ns sc, U64 bl] ++ cu8 tg))] w (Post w [] (fun v L => v = .tuple #[.slice none 0 0, errV 50 (mayN pv ep kd l ls bl)] ∧ L = [])) := by
 have hmx : maxLen = 9223372036854775807 := rfl
 refine enter (P := Tryd.prog) (f := 47) (fn := Tryd.f47) w [] 18 [] [.agg (List.toArray (α := Value) ([U64 pv, U64 ep, I64 (kd), .slice ai ni ci, .slice sa ns sc, U64 bl] ++ cu8 tg))] Tryd.func47 rfl rfl (by simp) (B7 (by simp) (by simp) (by simp)) ?_
 show JC _ _ _ [(0, .agg (List.toArray (α := Value) ([U64 pv, U64 ep, I64 (kd), .slice ai ni ci, .slice sa ns sc, U64 bl] ++ cu8 tg)))] _
 refine AL (AE (AR (CN (.agg (List.toArray (α := Value) ([U64 pv, U64 ep, I64 (kd), .slice ai ni ci, .slice sa ns sc, U64 bl] ++ cu8 tg))) ([U64 pv, U64 ep, I64 (kd), .slice ai ni ci, .slice sa ns sc, U64 bl] ++ cu8 tg) rfl (by first | rfl | simp)) rfl ?_))
 rintro v1 L1 ⟨nb1, hnb1, rfl, rfl⟩
 show JL _ _ _ _ ((1, Ptr nb1 0) :: _) [⟨nb1, [U64 pv, U64 ep, I64 (kd), .slice ai ni ci, .slice sa ns sc, U64 bl] ++ cu8 tg, 29, (0, 0)⟩]
 refine AA _ (AH rfl) rfl ?_
 refine AA _ (AH rfl) rfl ?_
 refine AN (AF (AL (AE (AA (.agg (List.toArray (α := Value) ([U64 pv, U64 ep, I64 (kd), .slice ai ni ci, .slice sa ns sc, U64 bl] ++ cu8 tg))) (AK rfl (BH BE AW (by simp [htg]) (MemAt.ent 0 rfl (AM _)))) rfl ?_))))
 refine AR (A3 114 [.agg (List.toArray (α := Value) ([U64 pv, U64 ep, I64 (kd), .slice ai ni ci, .slice sa ns sc, U64 bl] ++ cu8 tg))] (.tuple #[.slice none 0 0, errV 50 (mayN pv ep (kd) l ls bl)]) (A0 [.agg (List.toArray (α := Value) ([U64 pv, U64 ep, I64 (kd), .slice ai ni ci, .slice sa ns sc, U64 bl] ++ cu8 tg))] DL rfl) (fun w1 hw1 => F5 pv ep (kd) ai ni ci l sa ns sc ls bl tg w1 hl (by omega) (by omega) (by omega) (C1 hw1 rfl hv) hls (by omega) (by omega) (by omega) (C1 hw1 rfl hs) htg hm)) rfl ?_
 rintro v1 L1 ⟨rfl, rfl⟩
 show JL _ _ _ _ ((8, .tuple #[.slice none 0 0, errV 50 (mayN pv ep (kd) l ls bl)]) :: _) [_]
 refine AA _ (AD rfl) rfl ?_
 refine AA _ (BN rfl rfl) rfl ?_
 refine AA _ (BN rfl rfl) rfl ?_
 refine AA _ (AH rfl) rfl ?_
 refine AA _ (AH rfl) rfl ?_
 refine AN (AF (AL (AL (AE (AA _ (AD rfl) rfl ?_)))))
 refine AA (.bool (!(decide (mayN pv ep (kd) l ls bl = 0)))) (DC _ _ _ rfl rfl (fun _ => C5 ..) fun _ => EW BB _ _) rfl ?_
 refine AN (AF (C9 _ rfl (by rw [show (decide (mayN pv ep (kd) l ls bl = 0)) = false from (decide_eq_false hm)] <;> rfl) ?_))
 refine AL (AE (AA _ (AD rfl) rfl ?_))
 refine AA _ (AH rfl) rfl ?_
 refine AA _ (AH rfl) rfl ?_
 refine AN (AF (BO (A5 (B8 [false] ?_))))
 show JQ _ _ _ _ []
 refine BP (.tuple #[.slice none 0 0, errV 50 (mayN pv ep (kd) l ls bl)]) (res2 Tryd.results47 (BT rfl) (BT rfl)) fun w1 hw1 => ?_
 exact ⟨_, [], rfl, ⟨rfl, rfl⟩, hw1.sub (by simp) (by simp)⟩
theorem rtext3_c (pv ep : UInt64) (k : Nat) (ai : Option Addr) (ni ci : Nat) (l : List UInt64) (sa : Option Addr) (ns sc : Nat) (ls : List SealR) (bl : UInt64) (tg : List UInt8)  (w : World) (hl : l.length = ni) (hnm : ni ≤ 2000000) (hnc : ni ≤ ci) (hcm : ci ≤ maxLen) (hv : RdV w ai (cu64 l)) (hls : ls.length = ns) (hnn : ns ≤ 2000000) (hnd : ns ≤ sc) (hcn : sc ≤ maxLen) (hs : RdV w sa (ls.flatMap sealC)) (htg : tg.length = 16) (hk : k = 3)  : Calls Tryd.prog 117 #[.agg (List.toArray (α := Value) ([U64 pv, U64 ep, I64 ((k:Int)), .slice ai ni ci, .slice sa ns sc, U64 bl] ++ cu8 tg))] w (Post w [] (fun v L => ∃ g sp cap, v = Slc g 0 25 cap ∧ L = [⟨g, cu8 (tktT pv ep k l ls bl) ++ sp, 5, (0, 0)⟩] ∧ sp.length = cap - 25 ∧ 25 ≤ cap ∧ cap ≤ maxLen)) := by
 have hmx : maxLen = 9223372036854775807 := rfl
 refine enter (P := Tryd.prog) (f := 117) (fn := Tryd.f117) w [] 74 [] [.agg (List.toArray (α := Value) ([U64 pv, U64 ep, I64 ((k:Int)), .slice ai ni ci, .slice sa ns sc, U64 bl] ++ cu8 tg))] Tryd.func117 rfl rfl (by simp) (B7 (by simp) (by simp) (by simp)) ?_
 show JC _ _ _ [(0, .agg (List.toArray (α := Value) ([U64 pv, U64 ep, I64 ((k:Int)), .slice ai ni ci, .slice sa ns sc, U64 bl] ++ cu8 tg)))] _
 refine AL (AE (AR (CN (.agg (List.toArray (α := Value) ([U64 pv, U64 ep, I64 ((k:Int)), .slice ai ni ci, .slice sa ns sc, U64 bl] ++ cu8 tg))) ([U64 pv, U64 ep, I64 ((k:Int)), .slice ai ni ci, .slice sa ns sc, U64 bl] ++ cu8 tg) rfl (by first | rfl | simp)) rfl ?_))
 rintro v1 L1 ⟨nb1, hnb1, rfl, rfl⟩
 show JL _ _ _ _ ((1, Ptr nb1 0) :: _) [⟨nb1, [U64 pv, U64 ep, I64 ((k:Int)), .slice ai ni ci, .slice sa ns sc, U64 bl] ++ cu8 tg, 38, (0, 0)⟩]
 refine AA _ (AH rfl) rfl ?_
 refine AN (AF (AL (CQ 74 4 [(0, Ptr nb1 0), (1, U64 pv), (3, Ptr nb1 1), (4, U64 ep)] BQ rfl (by decide +kernel) ?_)))
 refine BR ⟨[], [0, 1, 3, 4], [], [0, 1, 3, 4], [2]⟩ 2 _ rfl rfl (by decide +kernel) rfl ⟨⟨_, rfl, AB rfl (AC 0 22 1 A4 rfl AT rfl rfl)⟩, ⟨_, rfl, AB rfl (AK rfl (AV AU (MemAt.ent 0 rfl (A2 (Seg.head)))))⟩, ⟨_, rfl, AB rfl (AC 1 22 1 A4 rfl AT rfl rfl)⟩, ⟨_, rfl, AB rfl (AK rfl (AV AU (MemAt.ent 0 rfl (A2 (AJ (Seg.head))))))⟩, trivial⟩ rfl (AZ rfl (BG 88 [U64 pv, I64 (8:Int)] _ (A0 [U64 pv, I64 (8:Int)] Tryd.call88 rfl) (fun w1 hw1 => rnumber_c pv 8 w1 (by omega)))) ?_
 rintro v1 L1 ⟨_, ⟨nb2, rfl, rfl⟩, rfl⟩
 refine ⟨[], ?_⟩
 show DP _ _ _ _ _ _ _ _ [_, ⟨nb2, cu8 (numK 8 pv 8), 5, (0, 0)⟩]
 refine BR ⟨[2], [0, 1, 3, 4], [0, 1], [3, 4], [5]⟩ 5 _ rfl rfl (by decide +kernel) rfl ⟨⟨_, rfl, AB rfl (AC 1 22 1 A4 rfl AT rfl rfl)⟩, ⟨_, rfl, AB rfl (AK rfl (AV AU (MemAt.ent 0 rfl (A2 (AJ (Seg.head))))))⟩, trivial⟩ rfl (AZ rfl (BG 88 [U64 ep, I64 (8:Int)] _ (A0 [U64 ep, I64 (8:Int)] Tryd.call88 rfl) (fun w1 hw1 => rnumber_c ep 8 w1 (by omega)))) ?_
 rintro v1 L1 ⟨_, ⟨nb3, rfl, rfl⟩, rfl⟩
 refine ⟨[], ?_⟩
 show DP _ _ _ _ _ _ _ _ [_, _, ⟨nb3, cu8 (numK 8 ep 8), 5, (0, 0)⟩]
 refine BR ⟨[2, 5], [0, 1, 3, 4], [0, 1, 3, 4], [], [6]⟩ 6 _ rfl rfl (by decide +kernel) rfl trivial rfl (AZ rfl (CY 43 5 [false, true, false] (Slc nb2 0 8 8) 8 (numK 8 pv 8) (numK 8 ep 8) (some ⟨nb3, 0, none⟩) 8 8 16 AO CS rfl (.inr ⟨nb2, [], 8, rfl, (by simp [take?, cu8, cu32, cu64]), (by first | exact (show (numK 8 pv 8).length = 8 from DR _ _ _) | simp [(show (numK 8 pv 8).length = 8 from DR _ _ _)]), (by simp), (by omega), (by unfold maxLen; omega)⟩) rfl (by first | exact (show (numK 8 ep 8).length = 8 from DR _ _ _) | simp [(show (numK 8 ep 8).length = 8 from DR _ _ _)]; try omega) (SrcAt.mem (MemAt.ent 2 rfl (AM _))) (by omega) (by unfold maxLen; omega) (by omega))) ?_
 rintro v1 L1 ⟨nb4, sp1, cp1, hg1, rfl, rfl, ha1, ha2, ha3, ha4⟩
 refine ⟨[(7, Slc nb4 0 16 cp1)], ?_⟩
 show DP _ _ _ _ _ _ _ _ [_, _, ⟨nb4, cu8 ((numK 8 pv 8) ++ (numK 8 ep 8)) ++ sp1, 5, (0, 0)⟩]
 refine CZ ⟨[2, 5, 6], [0, 1, 3, 4, 7], [0, 1, 3, 4], [7], []⟩ rfl rfl (by decide +kernel) rfl ⟨⟨_, rfl, AB rfl (AH rfl)⟩, trivial⟩ ?_
 refine CC (F' := [(3, Slc nb4 0 16 cp1), (1, Ptr nb1 0), (2, .slice none 0 0)]) (by kernel_rfl) ?_
 refine AF (AL (AE (AA _ (AD rfl) rfl ?_)))
 refine AA (Ptr nb1 2) (AC 2 36 4 A4 rfl CI rfl rfl) rfl ?_
 refine AA (Ptr nb1 2) (AC 0 3 1 A8 rfl A7 rfl rfl) rfl ?_
 refine AA (I64 ((k:Int))) (AK rfl (AV BA (MemAt.ent 0 rfl (A2 (AJ (AJ (Seg.head))))))) rfl ?_
 refine AA (U8 (UInt8.ofNat k)) (EI _ _ rfl fun _ => conv_i64_u8 (by rw [DH]; rfl) BY k _ (by omega)) rfl ?_
 refine AR (BZ 5 1 _ [(0, U8 (UInt8.ofNat k))] (cu8 ([UInt8.ofNat k])) AO AX CR rfl rfl rfl (by kernel_rfl)) rfl ?_
 rintro v1 L1 ⟨nb5, hnb5, rfl, rfl⟩
 show JL _ _ _ _ ((18, Slc nb5 0 1 1) :: _) [_, _, _, ⟨nb5, cu8 ([UInt8.ofNat k]), 5, (0, 0)⟩]
 refine AR (CY 43 5 [false, false, true, false] (Slc nb4 0 16 cp1) 16 ((numK 8 pv 8) ++ (numK 8 ep 8)) ([UInt8.ofNat k]) (some ⟨nb5, 0, none⟩) 1 1 17 AO CS rfl (.inr ⟨nb4, sp1, cp1, rfl, rfl, (by first | exact ha1 | simp [ha1]), ha2, (by omega), (by omega)⟩) rfl (by simp) (SrcAt.mem (MemAt.ent 3 rfl (AM _))) (by omega) (by unfold maxLen; omega) (by omega)) rfl ?_
 rintro v1 L1 ⟨nb6, sp2, cp2, hg2, rfl, rfl, ha5, ha6, ha7, ha8⟩
 show JL _ _ _ _ ((19, Slc nb6 0 17 cp2) :: _) [_, _, _, ⟨nb6, cu8 (((numK 8 pv 8) ++ (numK 8 ep 8)) ++ ([UInt8.ofNat k])) ++ sp2, 5, (0, 0)⟩]
 refine AA _ (AH rfl) rfl ?_
 refine AN (AF (AL (AL (AE (AA (Ptr nb1 2) (AC 2 36 4 A4 rfl CI rfl rfl) rfl ?_)))))
 refine AA (Ptr nb1 2) (AC 0 3 1 A8 rfl A7 rfl rfl) rfl ?_
 refine AA (I64 ((k:Int))) (AK rfl (AV BA (MemAt.ent 0 rfl (A2 (AJ (AJ (Seg.head))))))) rfl ?_
 refine AA (.bool (decide (((k:Int)) = (3:Int)))) (AQ rfl rfl fun _ => DD _ _) rfl ?_
 refine AN (AF (C9 _ rfl (decide_eq_true (by omega)) ?_))
 refine AL (AE (AA _ (AD rfl) rfl ?_))
 refine AA (Ptr nb1 2) (AC 2 36 4 A4 rfl CI rfl rfl) rfl ?_
 refine AA (Ptr nb1 5) (AC 3 22 1 A8 rfl AT rfl rfl) rfl ?_
 refine AA (U64 bl) (AK rfl (AV AU (MemAt.ent 0 rfl (A2 (AJ (AJ (AJ (AJ (AJ (Seg.head)))))))))) rfl ?_
 refine AR (BG 88 [U64 bl, I64 (8:Int)] _ (A0 [U64 bl, I64 (8:Int)] Tryd.call88 rfl) (fun w1 hw1 => rnumber_c bl 8 w1 (by omega))) rfl ?_
 rintro v1 L1 ⟨_, ⟨nb7, rfl, rfl⟩, rfl⟩
 show JL _ _ _ _ ((28, Slc nb7 0 8 8) :: _) [_, _, _, _, ⟨nb7, cu8 (numK 8 bl 8), 5, (0, 0)⟩]
 refine AR (CY 43 5 [false, false, false, true, false] (Slc nb6 0 17 cp2) 17 (((numK 8 pv 8) ++ (numK 8 ep 8)) ++ ([UInt8.ofNat k])) (numK 8 bl 8) (some ⟨nb7, 0, none⟩) 8 8 25 AO CS rfl (.inr ⟨nb6, sp2, cp2, rfl, rfl, (by first | exact ha5 | simp [ha5]), ha6, (by omega), (by omega)⟩) rfl (by first | exact (show (numK 8 bl 8).length = 8 from DR _ _ _) | simp [(show (numK 8 bl 8).length = 8 from DR _ _ _)]; try omega) (SrcAt.mem (MemAt.ent 4 rfl (AM _))) (by omega) (by unfold maxLen; omega) (by omega)) rfl ?_
 rintro v1 L1 ⟨nb8, sp3, cp3, hg3, rfl, rfl, ha9, ha10, ha11, ha12⟩
 show JL _ _ _ _ ((29, Slc nb8 0 25 cp3) :: _) [_, _, _, _, ⟨nb8, cu8 ((((numK 8 pv 8) ++ (numK 8 ep 8)) ++ ([UInt8.ofNat k])) ++ (numK 8 bl 8)) ++ sp3, 5, (0, 0)⟩]
 refine AA _ (AH rfl) rfl ?_
 refine AN (AF (BO (A5 (B8 [false, false, false, false, true] ?_))))
 show JQ _ _ _ _ [_]
 refine BP (Slc nb8 0 25 cp3) (res1 Tryd.results117 (BT rfl)) fun w1 hw1 => ?_
 have hq : (((numK 8 pv 8) ++ (numK 8 ep 8)) ++ ([UInt8.ofNat k])) ++ (numK 8 bl 8) = tktT pv ep k l ls bl := by
  unfold tktT
  rw [if_pos hk, numK_byteT]
 rw [hq] at hw1
 exact ⟨_, _, rfl, ⟨nb8, sp3, cp3, rfl, rfl, ha10, ha11, ha12⟩, hw1.sub (by simp) (by simp)⟩
theorem rtext12_c (pv ep : UInt64) (k : Nat) (ai : Option Addr) (ni ci : Nat) (l : List UInt64) (sa : Option Addr) (ns sc : Nat) (ls : List SealR) (bl : UInt64) (tg : List UInt8) (tot : Nat)  (w : World) (hl : l.length = ni) (hnm : ni ≤ 2000000) (hnc : ni ≤ ci) (hcm : ci ≤ maxLen) (hv : RdV w ai (cu64 l)) (hls : ls.length = ns) (hnn : ns ≤ 2000000) (hnd : ns ≤ sc) (hcn : sc ≤ maxLen) (hs : RdV w sa (ls.flatMap sealC)) (htg : tg.length = 16) (hRO : RightO (k:Int) l ls bl = true) (hk : k = 1 ∨ k = 2) (hsm : ns ≤ 300) (htot : 18 + 4*ni + 56*ns = tot)  : Calls Tryd.prog 117 #[.agg (List.toArray (α := Value) ([U64 pv, U64 ep, I64 ((k:Int)), .slice ai ni ci, .slice sa ns sc, U64 bl] ++ cu8 tg))] w (Post w [] (fun v L => ∃ g sp cap, v = Slc g 0 tot cap ∧ L = [⟨g, cu8 (tktT pv ep k l ls bl) ++ sp, 5, (0, 0)⟩] ∧ sp.length = cap - tot ∧ tot ≤ cap ∧ cap ≤ maxLen)) := by
 have hmx : maxLen = 9223372036854775807 := rfl
 have hRI := RightO_idx hRO (by omega)
 have hRp := RightI_pos hRI
 rw [hl] at hRp
 refine enter (P := Tryd.prog) (f := 117) (fn := Tryd.f117) w [] 74 [] [.agg (List.toArray (α := Value) ([U64 pv, U64 ep, I64 ((k:Int)), .slice ai ni ci, .slice sa ns sc, U64 bl] ++ cu8 tg))] Tryd.func117 rfl rfl (by simp) (B7 (by simp) (by simp) (by simp)) ?_
 show JC _ _ _ [(0, .agg (List.toArray (α := Value) ([U64 pv, U64 ep, I64 ((k:Int)), .slice ai ni ci, .slice sa ns sc, U64 bl] ++ cu8 tg)))] _
 refine AL (AE (AR (CN (.agg (List.toArray (α := Value) ([U64 pv, U64 ep, I64 ((k:Int)), .slice ai ni ci, .slice sa ns sc, U64 bl] ++ cu8 tg))) ([U64 pv, U64 ep, I64 ((k:Int)), .slice ai ni ci, .slice sa ns sc, U64 bl] ++ cu8 tg) rfl (by first | rfl | simp)) rfl ?_))
 rintro v1 L1 ⟨nb1, hnb1, rfl, rfl⟩
 show JL _ _ _ _ ((1, Ptr nb1 0) :: _) [⟨nb1, [U64 pv, U64 ep, I64 ((k:Int)), .slice ai ni ci, .slice sa ns sc, U64 bl] ++ cu8 tg, 38, (0, 0)⟩]
 refine AA _ (AH rfl) rfl ?_
 refine AN (AF (AL (CQ 74 4 [(0, Ptr nb1 0), (1, U64 pv), (3, Ptr nb1 1), (4, U64 ep)] BQ rfl (by decide +kernel) ?_)))
 refine BR ⟨[], [0, 1, 3, 4], [], [0, 1, 3, 4], [2]⟩ 2 _ rfl rfl (by decide +kernel) rfl ⟨⟨_, rfl, AB rfl (AC 0 22 1 A4 rfl AT rfl rfl)⟩, ⟨_, rfl, AB rfl (AK rfl (AV AU (MemAt.ent 0 rfl (A2 (Seg.head)))))⟩, ⟨_, rfl, AB rfl (AC 1 22 1 A4 rfl AT rfl rfl)⟩, ⟨_, rfl, AB rfl (AK rfl (AV AU (MemAt.ent 0 rfl (A2 (AJ (Seg.head))))))⟩, trivial⟩ rfl (AZ rfl (BG 88 [U64 pv, I64 (8:Int)] _ (A0 [U64 pv, I64 (8:Int)] Tryd.call88 rfl) (fun w1 hw1 => rnumber_c pv 8 w1 (by omega)))) ?_
 rintro v1 L1 ⟨_, ⟨nb2, rfl, rfl⟩, rfl⟩
 refine ⟨[], ?_⟩
 show DP _ _ _ _ _ _ _ _ [_, ⟨nb2, cu8 (numK 8 pv 8), 5, (0, 0)⟩]
 refine BR ⟨[2], [0, 1, 3, 4], [0, 1], [3, 4], [5]⟩ 5 _ rfl rfl (by decide +kernel) rfl ⟨⟨_, rfl, AB rfl (AC 1 22 1 A4 rfl AT rfl rfl)⟩, ⟨_, rfl, AB rfl (AK rfl (AV AU (MemAt.ent 0 rfl (A2 (AJ (Seg.head))))))⟩, trivial⟩ rfl (AZ rfl (BG 88 [U64 ep, I64 (8:Int)] _ (A0 [U64 ep, I64 (8:Int)] Tryd.call88 rfl) (fun w1 hw1 => rnumber_c ep 8 w1 (by omega)))) ?_
 rintro v1 L1 ⟨_, ⟨nb3, rfl, rfl⟩, rfl⟩
 refine ⟨[], ?_⟩
 show DP _ _ _ _ _ _ _ _ [_, _, ⟨nb3, cu8 (numK 8 ep 8), 5, (0, 0)⟩]
 refine BR ⟨[2, 5], [0, 1, 3, 4], [0, 1, 3, 4], [], [6]⟩ 6 _ rfl rfl (by decide +kernel) rfl trivial rfl (AZ rfl (CY 43 5 [false, true, false] (Slc nb2 0 8 8) 8 (numK 8 pv 8) (numK 8 ep 8) (some ⟨nb3, 0, none⟩) 8 8 16 AO CS rfl (.inr ⟨nb2, [], 8, rfl, (by simp [take?, cu8, cu32, cu64]), (by first | exact (show (numK 8 pv 8).length = 8 from DR _ _ _) | simp [(show (numK 8 pv 8).length = 8 from DR _ _ _)]), (by simp), (by omega), (by unfold maxLen; omega)⟩) rfl (by first | exact (show (numK 8 ep 8).length = 8 from DR _ _ _) | simp [(show (numK 8 ep 8).length = 8 from DR _ _ _)]; try omega) (SrcAt.mem (MemAt.ent 2 rfl (AM _))) (by omega) (by unfold maxLen; omega) (by omega))) ?_
 rintro v1 L1 ⟨nb4, sp1, cp1, hg1, rfl, rfl, ha1, ha2, ha3, ha4⟩
 refine ⟨[(7, Slc nb4 0 16 cp1)], ?_⟩
 show DP _ _ _ _ _ _ _ _ [_, _, ⟨nb4, cu8 ((numK 8 pv 8) ++ (numK 8 ep 8)) ++ sp1, 5, (0, 0)⟩]
 refine CZ ⟨[2, 5, 6], [0, 1, 3, 4, 7], [0, 1, 3, 4], [7], []⟩ rfl rfl (by decide +kernel) rfl ⟨⟨_, rfl, AB rfl (AH rfl)⟩, trivial⟩ ?_
 refine CC (F' := [(3, Slc nb4 0 16 cp1), (1, Ptr nb1 0), (2, .slice none 0 0)]) (by kernel_rfl) ?_
 refine AF (AL (AE (AA _ (AD rfl) rfl ?_)))
 refine AA (Ptr nb1 2) (AC 2 36 4 A4 rfl CI rfl rfl) rfl ?_
 refine AA (Ptr nb1 2) (AC 0 3 1 A8 rfl A7 rfl rfl) rfl ?_
 refine AA (I64 ((k:Int))) (AK rfl (AV BA (MemAt.ent 0 rfl (A2 (AJ (AJ (Seg.head))))))) rfl ?_
 refine AA (U8 (UInt8.ofNat k)) (EI _ _ rfl fun _ => conv_i64_u8 (by rw [DH]; rfl) BY k _ (by omega)) rfl ?_
 refine AR (BZ 5 1 _ [(0, U8 (UInt8.ofNat k))] (cu8 ([UInt8.ofNat k])) AO AX CR rfl rfl rfl (by kernel_rfl)) rfl ?_
 rintro v1 L1 ⟨nb5, hnb5, rfl, rfl⟩
 show JL _ _ _ _ ((18, Slc nb5 0 1 1) :: _) [_, _, _, ⟨nb5, cu8 ([UInt8.ofNat k]), 5, (0, 0)⟩]
 refine AR (CY 43 5 [false, false, true, false] (Slc nb4 0 16 cp1) 16 ((numK 8 pv 8) ++ (numK 8 ep 8)) ([UInt8.ofNat k]) (some ⟨nb5, 0, none⟩) 1 1 17 AO CS rfl (.inr ⟨nb4, sp1, cp1, rfl, rfl, (by first | exact ha1 | simp [ha1]), ha2, (by omega), (by omega)⟩) rfl (by simp) (SrcAt.mem (MemAt.ent 3 rfl (AM _))) (by omega) (by unfold maxLen; omega) (by omega)) rfl ?_
 rintro v1 L1 ⟨nb6, sp2, cp2, hg2, rfl, rfl, ha5, ha6, ha7, ha8⟩
 show JL _ _ _ _ ((19, Slc nb6 0 17 cp2) :: _) [_, _, _, ⟨nb6, cu8 (((numK 8 pv 8) ++ (numK 8 ep 8)) ++ ([UInt8.ofNat k])) ++ sp2, 5, (0, 0)⟩]
 refine AA _ (AH rfl) rfl ?_
 refine AN (AF (AL (AL (AE (AA (Ptr nb1 2) (AC 2 36 4 A4 rfl CI rfl rfl) rfl ?_)))))
 refine AA (Ptr nb1 2) (AC 0 3 1 A8 rfl A7 rfl rfl) rfl ?_
 refine AA (I64 ((k:Int))) (AK rfl (AV BA (MemAt.ent 0 rfl (A2 (AJ (AJ (Seg.head))))))) rfl ?_
 refine AA (.bool (decide (((k:Int)) = (3:Int)))) (AQ rfl rfl fun _ => DD _ _) rfl ?_
 refine AN (AF (C0 _ rfl (decide_eq_false (by omega)) ?_))
 refine B4 (AF (AL (AE (AA _ (AD rfl) rfl ?_))))
 refine AA (Ptr nb1 2) (AC 2 36 4 A4 rfl CI rfl rfl) rfl ?_
 refine AA (Ptr nb1 3) (AC 1 23 1 A8 rfl CE rfl rfl) rfl ?_
 refine AA (.slice ai ni ci) (AK rfl (AV CL (MemAt.ent 0 rfl (A2 (AJ (AJ (AJ (Seg.head)))))))) rfl ?_
 refine AA (I64 ((ni:Int))) (D4 BU rfl) rfl ?_
 refine AA (I64 ((ni:Int) - 1)) (AQ rfl rfl fun _ => DK _ _ ((ni:Int) - 1) (by omega) (by omega)) rfl ?_
 refine AA (U8 (UInt8.ofNat (ni - 1))) (EI _ _ rfl fun _ => conv_i64_u8 (by rw [DH]; rfl) BY (ni - 1) _ (by omega)) rfl ?_
 refine AR (BZ 5 1 _ [(0, U8 (UInt8.ofNat (ni - 1)))] (cu8 ([UInt8.ofNat (ni - 1)])) AO AX CR rfl rfl rfl (by kernel_rfl)) rfl ?_
 rintro v1 L1 ⟨nb7, hnb7, rfl, rfl⟩
 show JL _ _ _ _ ((37, Slc nb7 0 1 1) :: _) [_, _, _, _, ⟨nb7, cu8 ([UInt8.ofNat (ni - 1)]), 5, (0, 0)⟩]
 refine AR (CY 43 5 [false, false, false, true, false] (Slc nb6 0 17 cp2) 17 (((numK 8 pv 8) ++ (numK 8 ep 8)) ++ ([UInt8.ofNat k])) ([UInt8.ofNat (ni - 1)]) (some ⟨nb7, 0, none⟩) 1 1 18 AO CS rfl (.inr ⟨nb6, sp2, cp2, rfl, rfl, (by first | exact ha5 | simp [ha5]), ha6, (by omega), (by omega)⟩) rfl (by simp) (SrcAt.mem (MemAt.ent 4 rfl (AM _))) (by omega) (by unfold maxLen; omega) (by omega)) rfl ?_
 rintro v1 L1 ⟨nb8, sp3, cp3, hg3, rfl, rfl, ha9, ha10, ha11, ha12⟩
 show JL _ _ _ _ ((38, Slc nb8 0 18 cp3) :: _) [_, _, _, _, ⟨nb8, cu8 ((((numK 8 pv 8) ++ (numK 8 ep 8)) ++ ([UInt8.ofNat k])) ++ ([UInt8.ofNat (ni - 1)])) ++ sp3, 5, (0, 0)⟩]
 refine AA _ (AH rfl) rfl ?_
 refine AN (AF (AL (AL (AE (AA _ (AH rfl) rfl ?_)))))
 refine AN (AF (B5 (B8 [true, false, false, false, true] ?_)))
 show JC _ _ _ _ [_, _]
 refine EE (ι := Nat × List UInt8 × Nat × List Value × Nat) (fun ⟨i, oqi, gqi, spqi, cpqi⟩ => [(1, Ptr nb1 0), (2, .slice none 0 0), (4, I64 ((i:Int))), (3, Slc gqi 0 (4*i + 18) cpqi)]) (fun ⟨i, oqi, gqi, spqi, cpqi⟩ => [⟨nb1, [U64 pv, U64 ep, I64 ((k:Int)), .slice ai ni ci, .slice sa ns sc, U64 bl] ++ cu8 tg, 38, (0, 0)⟩, ⟨gqi, cu8 oqi ++ spqi, 5, (0, 0)⟩]) (fun ⟨i, oqi, gqi, spqi, cpqi⟩ => i ≤ ni ∧ oqi = (((numK 8 pv 8 ++ numK 8 ep 8) ++ [UInt8.ofNat k]) ++ [UInt8.ofNat (ni - 1)]) ++ idxT l i ∧ oqi.length = (4*i + 18) ∧ spqi.length = cpqi - ((4*i + 18)) ∧ (4*i + 18) ≤ cpqi ∧ cpqi ≤ maxLen) (fun ⟨i, oqi, gqi, spqi, cpqi⟩ => ni - i) (0, (((numK 8 pv 8) ++ (numK 8 ep 8)) ++ ([UInt8.ofNat k])) ++ ([UInt8.ofNat (ni - 1)]), nb8, sp3, cp3) ⟨by omega, by rw [idxT_zero, List.append_nil], (by have h := ha9; omega), (by have h := ha10; omega), by omega, by omega⟩ (Sub.cons rfl (Sub.cons rfl (Sub.cons rfl (Sub.cons (E4 (by omega)) (Sub.nil))))) rfl ?_
 rintro ⟨i, oqi, gqi, spqi, cpqi⟩ ⟨hi1, hi2, hi3, hi4, hi5, hi6⟩
 show JC _ _ _ [(1, Ptr nb1 0), (2, .slice none 0 0), (4, I64 ((i:Int))), (3, Slc gqi 0 (4*i + 18) cpqi)] [⟨nb1, [U64 pv, U64 ep, I64 ((k:Int)), .slice ai ni ci, .slice sa ns sc, U64 bl] ++ cu8 tg, 38, (0, 0)⟩, ⟨gqi, cu8 oqi ++ spqi, 5, (0, 0)⟩]
 refine AL (AL (AE (AA _ (AD rfl) rfl ?_)))
 refine AA (Ptr nb1 2) (AC 2 36 4 A4 rfl CI rfl rfl) rfl ?_
 refine AA (Ptr nb1 3) (AC 1 23 1 A8 rfl CE rfl rfl) rfl ?_
 refine AA (.slice ai ni ci) (AK rfl (AV CL (MemAt.ent 0 rfl (A2 (AJ (AJ (AJ (Seg.head)))))))) rfl ?_
 refine AA (I64 ((ni:Int))) (D4 BU rfl) rfl ?_
 refine AA (.bool (decide (((i:Int)) < ((ni:Int))))) (AQ rfl rfl fun _ => DB _ _) rfl ?_
 refine AN (AF (CT (decide (((i:Int)) < ((ni:Int)))) rfl (fun hb1 => ?_) (fun hb1 => ?_)))
 ·
  have hp1 : ((i:Int)) < ((ni:Int)) := of_decide_eq_true hb1
  refine B4 (AF (AL (B5 (AE (AA _ (AD rfl) rfl ?_)))))
  refine AA (Ptr nb1 2) (AC 2 36 4 A4 rfl CI rfl rfl) rfl ?_
  refine AA (Ptr nb1 3) (AC 1 23 1 A8 rfl CE rfl rfl) rfl ?_
  refine AA (.slice ai ni ci) (AK rfl (AV CL (MemAt.ent 0 rfl (A2 (AJ (AJ (AJ (Seg.head)))))))) rfl ?_
  refine AA _ (AD rfl) rfl ?_
  obtain ⟨bz1, oz1, hz1, hm1⟩ := RdV.pos hv (by rw [E5, hl]; omega)
  refine AA (Ptr bz1 (i + oz1)) (CW 22 1 (i + oz1) BU AT rfl hz1 rfl (by omega) (by omega) (by omega)) rfl ?_
  refine AA (U64 (g64 l i)) (AK rfl (AV AU (CU (hm1.mem (by simp)) (Seg.get (g64_get (i := i) (by rw [hl]; omega))) (by omega)))) rfl ?_
  refine AR (BG 88 [U64 (g64 l i), I64 (4:Int)] _ (A0 [U64 (g64 l i), I64 (4:Int)] Tryd.call88 rfl) (fun w1 hw1 => rnumber_c (g64 l i) 4 w1 (by omega))) rfl ?_
  rintro v1 L1 ⟨_, ⟨nb9, rfl, rfl⟩, rfl⟩
  show JL _ _ _ _ ((54, Slc nb9 0 4 4) :: _) [_, _, ⟨nb9, cu8 (numK 4 (g64 l i) 4), 5, (0, 0)⟩]
  refine AR (CY 43 5 [false, true, false] (Slc gqi 0 (4*i + 18) cpqi) (4*i + 18) oqi (numK 4 (g64 l i) 4) (some ⟨nb9, 0, none⟩) 4 4 (4*i + 22) AO CS rfl (.inr ⟨gqi, spqi, cpqi, rfl, rfl, (by first | exact hi3 | simp [hi3]), hi4, (by omega), (by omega)⟩) rfl (by first | exact (show (numK 4 (g64 l i) 4).length = 4 from DR _ _ _) | simp [(show (numK 4 (g64 l i) 4).length = 4 from DR _ _ _)]; try omega) (SrcAt.mem (MemAt.ent 2 rfl (AM _))) (by omega) (by unfold maxLen; omega) (by omega)) rfl ?_
  rintro v1 L1 ⟨nb10, sp4, cp4, hg4, rfl, rfl, ha13, ha14, ha15, ha16⟩
  show JL _ _ _ _ ((55, Slc nb10 0 (4*i + 22) cp4) :: _) [_, _, ⟨nb10, cu8 (oqi ++ (numK 4 (g64 l i) 4)) ++ sp4, 5, (0, 0)⟩]
  refine AA _ (AH rfl) rfl ?_
  refine AN (B1 (AF (AE (AA _ (AD rfl) rfl ?_))))
  refine AA (I64 ((i:Int) + 1)) (AQ rfl rfl fun _ => DI _ _ ((i:Int) + 1) (by omega) (by omega)) rfl ?_
  refine AA _ (AH rfl) rfl ?_
  refine AN (DF (B8 [true, false, true] ?_))
  show K _ _ [_, _] _
  refine EN (i + 1, oqi ++ (numK 4 (g64 l i) 4), nb10, sp4, cp4) ⟨by omega, by rw [hi2, idxT_succ, List.append_assoc], (by have h := ha13; omega), (by have h := ha14; omega), by omega, by omega⟩ (by first | (simp; omega) | simp | (dsimp only; omega) | omega) (Sub.cons rfl (Sub.cons rfl (Sub.cons rfl (Sub.cons (E4 (by omega)) (Sub.nil))))) rfl
 ·
  have hp1 : ¬ (((i:Int)) < ((ni:Int))) := of_decide_eq_false hb1
  refine EB (BD (BD (CV (AF (AL (AL (AE (AA _ (AH rfl) rfl ?_))))))))
  refine AN (AF (B5 (EE (ι := Nat × List UInt8 × Nat × List Value × Nat) (fun ⟨j, oqj, gqj, spqj, cpqj⟩ => [(1, Ptr nb1 0), (2, .slice none 0 0), (5, I64 ((j:Int))), (3, Slc gqj 0 (56*j + 4*ni + 18) cpqj)]) (fun ⟨j, oqj, gqj, spqj, cpqj⟩ => [⟨nb1, [U64 pv, U64 ep, I64 ((k:Int)), .slice ai ni ci, .slice sa ns sc, U64 bl] ++ cu8 tg, 38, (0, 0)⟩, ⟨gqj, cu8 oqj ++ spqj, 5, (0, 0)⟩]) (fun ⟨j, oqj, gqj, spqj, cpqj⟩ => j ≤ ns ∧ oqj = ((((numK 8 pv 8 ++ numK 8 ep 8) ++ [UInt8.ofNat k]) ++ [UInt8.ofNat (ni - 1)]) ++ idxT l ni) ++ selT (ls.take j) ∧ oqj.length = (56*j + 4*ni + 18) ∧ spqj.length = cpqj - ((56*j + 4*ni + 18)) ∧ (56*j + 4*ni + 18) ≤ cpqj ∧ cpqj ≤ maxLen) (fun ⟨j, oqj, gqj, spqj, cpqj⟩ => ns - j) (0, oqi, gqi, spqi, cpqi) ⟨by omega, by rw [show i = ni by omega] at hi2; rw [hi2]; simp [selT_nil], (by have h := hi3; omega), (by have h := hi4; omega), by omega, by omega⟩ (Sub.cons rfl (Sub.cons rfl (Sub.cons rfl (Sub.cons (E4 (by omega)) (Sub.nil))))) rfl ?_)))
  rintro ⟨j, oqj, gqj, spqj, cpqj⟩ ⟨hj1, hj2, hj3, hj4, hj5, hj6⟩
  show JC _ _ _ [(1, Ptr nb1 0), (2, .slice none 0 0), (5, I64 ((j:Int))), (3, Slc gqj 0 (56*j + 4*ni + 18) cpqj)] [⟨nb1, [U64 pv, U64 ep, I64 ((k:Int)), .slice ai ni ci, .slice sa ns sc, U64 bl] ++ cu8 tg, 38, (0, 0)⟩, ⟨gqj, cu8 oqj ++ spqj, 5, (0, 0)⟩]
  refine AL (AL (AE (AA _ (AD rfl) rfl ?_)))
  refine AA (Ptr nb1 2) (AC 2 36 4 A4 rfl CI rfl rfl) rfl ?_
  refine AA (Ptr nb1 4) (AC 2 34 1 A8 rfl C7 rfl rfl) rfl ?_
  refine AA (.slice sa ns sc) (AK rfl (AV DV (MemAt.ent 0 rfl (A2 (AJ (AJ (AJ (AJ (Seg.head))))))))) rfl ?_
  refine AA (I64 ((ns:Int))) (D4 CX rfl) rfl ?_
  refine AA (.bool (decide (((j:Int)) < ((ns:Int))))) (AQ rfl rfl fun _ => DB _ _) rfl ?_
  refine AN (AF (CT (decide (((j:Int)) < ((ns:Int)))) rfl (fun hb2 => ?_) (fun hb2 => ?_)))
  ·
   have hp2 : ((j:Int)) < ((ns:Int)) := of_decide_eq_true hb2
   refine B4 (AF (AL (B5 (AE (AA _ (AD rfl) rfl ?_)))))
   refine AA (Ptr nb1 2) (AC 2 36 4 A4 rfl CI rfl rfl) rfl ?_
   refine AA (Ptr nb1 4) (AC 2 34 1 A8 rfl C7 rfl rfl) rfl ?_
   refine AA (.slice sa ns sc) (AK rfl (AV DV (MemAt.ent 0 rfl (A2 (AJ (AJ (AJ (AJ (Seg.head))))))))) rfl ?_
   refine AA _ (AD rfl) rfl ?_
   obtain ⟨x1, hx1⟩ : ∃ x, ls[j]? = some x := ⟨_, List.getElem?_eq_getElem (by rw [hls]; omega)⟩
   obtain ⟨bz2, oz2, hz2, hm2⟩ := F6 E2 (by decide) hs hx1
   refine AA (Ptr bz2 (49*j + oz2)) (CW 164 49 (49*j + oz2) CX EG rfl hz2 rfl (by omega) (by omega) (by omega)) rfl ?_
   refine AA (.agg (List.toArray (α := Value) ([U64 x1.e] ++ cu8 x1.d ++ cu8 x1.t))) (AK rfl (BH Tryd.isAgg164 EG (by simp [x1.hd, x1.ht]) (CU (hm2.mem (by simp)) (AM _) (by omega)))) rfl ?_
   refine AR (BG 105 [.agg (List.toArray (α := Value) ([U64 x1.e] ++ cu8 x1.d ++ cu8 x1.t))] _ (A0 [.agg (List.toArray (α := Value) ([U64 x1.e] ++ cu8 x1.d ++ cu8 x1.t))] Tryd.call105 rfl) (fun w1 hw1 => rput7_c x1.e x1.d x1.t w1 x1.hd x1.ht)) rfl ?_
   rintro v1 L1 ⟨_, ⟨nb11, sp5, cp5, rfl, rfl, hc1, hc2, hc3⟩, rfl⟩
   show JL _ _ _ _ ((71, Slc nb11 0 56 cp5) :: _) [_, _, ⟨nb11, cu8 (putL x1.e x1.d x1.t) ++ sp5, 5, (0, 0)⟩]
   refine AR (CY 43 5 [false, true, false] (Slc gqj 0 (56*j + 4*ni + 18) cpqj) (56*j + 4*ni + 18) oqj (putL x1.e x1.d x1.t) (some ⟨nb11, 0, none⟩) 56 cp5 (56*j + 4*ni + 74) AO CS rfl (.inr ⟨gqj, spqj, cpqj, rfl, rfl, (by first | exact hj3 | simp [hj3]), hj4, (by omega), (by omega)⟩) rfl (by first | exact (show (putL x1.e x1.d x1.t).length = 56 from (putL_len x1.hd x1.ht)) | simp [(show (putL x1.e x1.d x1.t).length = 56 from (putL_len x1.hd x1.ht))]; try omega) (SrcAt.mem (MemAt.ent 2 rfl (A2 (AM _)))) (by omega) (by unfold maxLen; omega) (by omega)) rfl ?_
   rintro v1 L1 ⟨nb12, sp6, cp6, hg5, rfl, rfl, ha17, ha18, ha19, ha20⟩
   show JL _ _ _ _ ((72, Slc nb12 0 (56*j + 4*ni + 74) cp6) :: _) [_, _, ⟨nb12, cu8 (oqj ++ (putL x1.e x1.d x1.t)) ++ sp6, 5, (0, 0)⟩]
   refine AA _ (AH rfl) rfl ?_
   refine AN (B1 (AF (AE (AA _ (AD rfl) rfl ?_))))
   refine AA (I64 ((j:Int) + 1)) (AQ rfl rfl fun _ => DI _ _ ((j:Int) + 1) (by omega) (by omega)) rfl ?_
   refine AA _ (AH rfl) rfl ?_
   refine AN (DF (B8 [true, false, true] ?_))
   show K _ _ [_, _] _
   refine EN (j + 1, oqj ++ (putL x1.e x1.d x1.t), nb12, sp6, cp6) ⟨by omega, by rw [hj2, ← take_step hx1, selT_app, List.append_assoc], (by have h := ha17; omega), (by have h := ha18; omega), by omega, by omega⟩ (by first | (simp; omega) | simp | (dsimp only; omega) | omega) (Sub.cons rfl (Sub.cons rfl (Sub.cons rfl (Sub.cons (E4 (by omega)) (Sub.nil))))) rfl
  ·
   have hp2 : ¬ (((j:Int)) < ((ns:Int))) := of_decide_eq_false hb2
   refine EB (BD (BD (CV (AF (AL (AE (AA _ (AD rfl) rfl ?_)))))))
   refine AA _ (AH rfl) rfl ?_
   refine AN (AF (BO (B8 [false, true] ?_)))
   show JQ _ _ _ _ [_]
   refine BP (Slc gqj 0 (56*j + 4*ni + 18) cpqj) (res1 Tryd.results117 (BT rfl)) fun w1 hw1 => ?_
   obtain rfl : j = ns := by omega
   have hq : oqj = tktT pv ep k l ls bl := by
    unfold tktT
    rw [if_neg (by omega), hl, hj2, List.take_of_length_le (by omega), numK_byteT, numK_byteT]
   rw [hq] at hw1
   obtain rfl : tot = (56*j + 4*ni + 18) := by omega
   exact ⟨_, _, rfl, ⟨gqj, spqj, cpqj, rfl, rfl, hj4, hj5, hj6⟩, hw1.sub (by simp) (by simp)⟩
theorem rtext_w (pv ep : UInt64) (k : Nat) (ai : Option Addr) (ni ci : Nat) (l : List UInt64) (sa : Option Addr) (ns sc : Nat) (ls : List SealR) (bl : UInt64) (tg : List UInt8) (tot : Nat) (w : World) (hl : l.length = ni) (hnm : ni ≤ 2000000) (hnc : ni ≤ ci) (hcm : ci ≤ maxLen) (hv : RdV w ai (cu64 l)) (hls : ls.length = ns) (hnn : ns ≤ 2000000) (hnd : ns ≤ sc) (hcn : sc ≤ maxLen) (hs : RdV w sa (ls.flatMap sealC)) (htg : tg.length = 16) (hmay : mayN pv ep (k:Int) l ls bl = 0) (hk : k = 1 ∨ k = 2 ∨ k = 3) (hsm : ns ≤ 300) (htot : tktN k ni ns = tot) : Calls Tryd.prog 117 #[.agg (List.toArray (α := Value) ([U64 pv, U64 ep, I64 ((k:Int)), .slice ai ni ci, .slice sa ns sc, U64 bl] ++ cu8 tg))] w (Post w [] (fun v L => ∃ g sp cap, v = Slc g 0 tot cap ∧ L = [⟨g, cu8 (tktT pv ep k l ls bl) ++ sp, 5, (0, 0)⟩] ∧ sp.length = cap - tot ∧ tot ≤ cap ∧ cap ≤ maxLen)) := by
  by_cases h3 : k = 3
  · have e : tot = 25 := by rw [← htot]; unfold tktN; rw [if_pos h3]
    subst e
    exact rtext3_c pv ep k ai ni ci l sa ns sc ls bl tg w hl hnm hnc hcm hv hls hnn hnd hcn hs htg h3
  · exact rtext12_c pv ep k ai ni ci l sa ns sc ls bl tg tot w hl hnm hnc hcm hv hls hnn hnd hcn hs htg (mayN_right hmay) (by omega) hsm (by rw [← htot]; unfold tktN; rw [if_neg h3])

theorem rput13_c (pv ep : UInt64) (k : Nat) (ai : Option Addr) (ni ci : Nat) (l : List UInt64) (sa : Option Addr) (ns sc : Nat) (ls : List SealR) (bl : UInt64) (tg : List UInt8) (tot : Nat)  (w : World) (hl : l.length = ni) (hnm : ni ≤ 2000000) (hnc : ni ≤ ci) (hcm : ci ≤ maxLen) (hv : RdV w ai (cu64 l)) (hls : ls.length = ns) (hnn : ns ≤ 2000000) (hnd : ns ≤ sc) (hcn : sc ≤ maxLen) (hs : RdV w sa (ls.flatMap sealC)) (htg : tg.length = 16) (hmay : mayN pv ep (k:Int) l ls bl = 0) (hk : k = 1 ∨ k = 2 ∨ k = 3) (hsm : ns ≤ 300) (htot : tktN k ni ns = tot) (htb : tot ≤ 30000)  : Calls Tryd.prog 52 #[.agg (List.toArray (α := Value) ([U64 pv, U64 ep, I64 ((k:Int)), .slice ai ni ci, .slice sa ns sc, U64 bl] ++ cu8 tg))] w (Post w [] (fun v L => ∃ g sp cap, v = Slc g 0 (tot + 16) cap ∧ L = [⟨g, cu8 ((tktT pv ep k l ls bl) ++ tg) ++ sp, 5, (0, 0)⟩] ∧ sp.length = cap - (tot + 16) ∧ (tot + 16) ≤ cap ∧ cap ≤ maxLen)) := by
 have hmx : maxLen = 9223372036854775807 := rfl
 refine enter (P := Tryd.prog) (f := 52) (fn := Tryd.f52) w [] 8 [] [.agg (List.toArray (α := Value) ([U64 pv, U64 ep, I64 ((k:Int)), .slice ai ni ci, .slice sa ns sc, U64 bl] ++ cu8 tg))] Tryd.func52 rfl rfl (by simp) (B7 (by simp) (by simp) (by simp)) ?_
 show JC _ _ _ [(0, .agg (List.toArray (α := Value) ([U64 pv, U64 ep, I64 ((k:Int)), .slice ai ni ci, .slice sa ns sc, U64 bl] ++ cu8 tg)))] _
 refine AL (AE (AR (CN (.agg (List.toArray (α := Value) ([U64 pv, U64 ep, I64 ((k:Int)), .slice ai ni ci, .slice sa ns sc, U64 bl] ++ cu8 tg))) ([U64 pv, U64 ep, I64 ((k:Int)), .slice ai ni ci, .slice sa ns sc, U64 bl] ++ cu8 tg) rfl (by first | rfl | simp)) rfl ?_))
 rintro v1 L1 ⟨nb1, hnb1, rfl, rfl⟩
 show JL _ _ _ _ ((1, Ptr nb1 0) :: _) [⟨nb1, [U64 pv, U64 ep, I64 ((k:Int)), .slice ai ni ci, .slice sa ns sc, U64 bl] ++ cu8 tg, 38, (0, 0)⟩]
 refine AA _ (AH rfl) rfl ?_
 refine AN (AF (AL (CQ 8 3 [(0, .agg (List.toArray (α := Value) ([U64 pv, U64 ep, I64 ((k:Int)), .slice ai ni ci, .slice sa ns sc, U64 bl] ++ cu8 tg))), (2, Ptr nb1 6), (3, Slc nb1 6 16 16)] BQ rfl (by decide +kernel) ?_)))
 refine BR ⟨[], [0, 2, 3], [], [0, 2, 3], [1]⟩ 1 _ rfl rfl (by decide +kernel) rfl ⟨⟨_, rfl, AB rfl (AK rfl (BH DO CM (by simp [htg]) (MemAt.ent 0 rfl (AM _))))⟩, ⟨_, rfl, AB rfl (AC 6 27 16 A4 rfl A1 rfl rfl)⟩, ⟨_, rfl, AB rfl (BX 16 5 1 0 16 6 16 BC AX rfl rfl rfl (by omega) (by omega) (by omega) (by omega) (by omega) 16 (by omega))⟩, trivial⟩ rfl (AZ rfl (BG 117 [.agg (List.toArray (α := Value) ([U64 pv, U64 ep, I64 ((k:Int)), .slice ai ni ci, .slice sa ns sc, U64 bl] ++ cu8 tg))] _ (A0 [.agg (List.toArray (α := Value) ([U64 pv, U64 ep, I64 ((k:Int)), .slice ai ni ci, .slice sa ns sc, U64 bl] ++ cu8 tg))] Tryd.call117 rfl) (fun w1 hw1 => rtext_w pv ep k ai ni ci l sa ns sc ls bl tg tot w1 hl (by omega) (by omega) (by omega) (C1 hw1 rfl hv) hls (by omega) (by omega) (by omega) (C1 hw1 rfl hs) htg hmay hk hsm htot))) ?_
 rintro v1 L1 ⟨_, ⟨nb2, sp1, cp1, rfl, rfl, hc1, hc2, hc3⟩, rfl⟩
 refine ⟨[], ?_⟩
 show DP _ _ _ _ _ _ _ _ [_, ⟨nb2, cu8 (tktT pv ep k l ls bl) ++ sp1, 5, (0, 0)⟩]
 refine BR ⟨[1], [0, 2, 3], [0], [2, 3], [4]⟩ 4 _ rfl rfl (by decide +kernel) rfl ⟨⟨_, rfl, AB rfl (AC 6 27 16 A4 rfl A1 rfl rfl)⟩, ⟨_, rfl, AB rfl (BX 16 5 1 0 16 6 16 BC AX rfl rfl rfl (by omega) (by omega) (by omega) (by omega) (by omega) 16 (by omega))⟩, trivial⟩ rfl (AZ rfl (CY 43 5 [false, true] (Slc nb2 0 tot cp1) tot (tktT pv ep k l ls bl) tg (some ⟨nb1, 6, none⟩) 16 16 (tot + 16) AO CS rfl (.inr ⟨nb2, sp1, cp1, rfl, rfl, (by first | exact (show (tktT pv ep k l ls bl).length = tot from ((D5 hl hls).trans htot)) | simp [(show (tktT pv ep k l ls bl).length = tot from ((D5 hl hls).trans htot))]), hc1, (by omega), (by omega)⟩) rfl (by first | exact htg | simp [htg]; try omega) (SrcAt.mem (MemAt.ent 0 rfl (Seg.right 6 0 rfl rfl (AM _)))) (by omega) (by unfold maxLen; omega) (by omega))) ?_
 rintro v1 L1 ⟨nb3, sp2, cp2, hg1, rfl, rfl, ha1, ha2, ha3, ha4⟩
 refine ⟨[(5, Slc nb3 0 (tot + 16) cp2)], ?_⟩
 show DP _ _ _ _ _ _ _ _ [_, ⟨nb3, cu8 ((tktT pv ep k l ls bl) ++ tg) ++ sp2, 5, (0, 0)⟩]
 refine CZ ⟨[1, 4], [0, 2, 3, 5], [0, 2, 3], [5], []⟩ rfl rfl (by decide +kernel) rfl ⟨⟨_, rfl, AB rfl (AH rfl)⟩, trivial⟩ ?_
 refine CC (F' := [(2, Slc nb3 0 (tot + 16) cp2)]) (by kernel_rfl) ?_
 refine AF (BO (B8 [false, true] ?_))
 show JQ _ _ _ _ [_]
 refine BP (Slc nb3 0 (tot + 16) cp2) (res1 Tryd.results52 (BT rfl)) fun w1 hw1 => ?_
 exact ⟨_, _, rfl, ⟨nb3, sp2, cp2, rfl, rfl, ha2, ha3, ha4⟩, hw1.sub (by simp) (by simp)⟩
end Go.Proofs.YtkdpdgpphpngeaaDoor
namespace Go.Proofs.YtkdpdgpphpngeaaDoor
open Go Go.Sx
set_option linter.unusedVariables false
set_option linter.unusedSimpArgs false
set_option maxRecDepth 100000
attribute [local irreducible] mid zr8 zr32 rotr wordL spreadL comprL cpN adN spN wrdN constL initL padL stN outN routN hashL sumG blkL xbN raN macL orN
theorem block_c (ao : Option Addr) (n cb : Nat) (b : List UInt8) (w : World) (hb : b.length = n) (hcb : ao = none → cb = 0) (hn : n ≤ 17592186044416) (hr : RdB w [] ao b) (hG : GLs w) : Calls Tryd.prog 171 #[.slice ao n cb] w (Post w [] (fun v L => v = .agg (cu8 (blkL b)).toArray ∧ L = [])) := by
 refine enter w [] 15 [] [.slice ao n cb] Tryd.func171 rfl rfl (by simp) (B7 (by simp) (by simp) (by simp)) ?_
 show JC _ _ _ [(0, .slice ao n cb)] _
 refine AL (AE (AR (BJ _ (cu8 (zr8 64)) Tryd.zeroValue262 (by kernel_rfl)) rfl ?_))
 rintro v1 L1 ⟨nb1, hnb1, rfl, rfl⟩
 show JL _ _ _ _ ((2, Ptr nb1 0) :: _) [⟨nb1, cu8 (zr8 64), 262, (0, 0)⟩]
 refine AN (AF (AL (AE (AR (BJ _ (cu8 (zr8 64)) Tryd.zeroValue262 (by kernel_rfl)) rfl ?_))))
 rintro v1 L1 ⟨nb2, hnb2, rfl, rfl⟩
 show JL _ _ _ _ ((3, Ptr nb2 0) :: _) [_, ⟨nb2, cu8 (zr8 64), 262, (0, 0)⟩]
 refine AN (AF (AL (AL (AE (AA _ (AD rfl) rfl ?_)))))
 refine AA (I64 ((n:Int))) (D4 AO rfl) rfl ?_
 refine AA (.bool (decide ((64:Int) < ((n:Int))))) (AQ rfl rfl fun _ => FN _ _) rfl ?_
 refine AN (AF (CT (decide ((64:Int) < ((n:Int)))) rfl (fun hb1 => ?_) (fun hb1 => ?_)))
 ·
  have hp1 : (64:Int) < ((n:Int)) := of_decide_eq_true hb1
  refine AL (AE (AA _ (AD rfl) rfl ?_))
  refine AR (A3 177 [.slice ao n cb] (.agg (cu8 (sumG constL initL b)).toArray) (A0 [.slice ao n cb] Tryd.call177 rfl) (fun w1 hw1 => sum_c ao n cb b w1 hb hcb (by omega) (hr.at (M' := []) hw1 (by simp)) (hG.at hw1))) rfl ?_
  rintro v1 L1 ⟨rfl, rfl⟩
  show JL _ _ _ _ ((9, .agg (cu8 (sumG constL initL b)).toArray) :: _) [_, _]
  refine AR (BJ _ (cu8 (zr8 32)) DQ (by kernel_rfl)) rfl ?_
  rintro v1 L1 ⟨nb3, hnb3, rfl, rfl⟩
  show JL _ _ _ _ ((4, Ptr nb3 0) :: _) [_, _, ⟨nb3, cu8 (zr8 32), 54, (0, 0)⟩]
  refine AR (A6 2 nb3 0 32 (cu8 (zr8 32)) 54 (.agg (cu8 (sumG constL initL b)).toArray) (cu8 (sumG constL initL b)) (cu8 (sumG constL initL b)) rfl rfl rfl (by first | rfl | simp) CD (CG (DZ _ _ _)) (by first | exact CK | exact DW | exact DT | (simp [cu8, cu32, cu64, Value.oneCell']; done)) (by simp [(AP 32)]) (BF (by simp [(AP 32), (DZ _ _ _)]))) rfl ?_
  rintro v1 L1 ⟨rfl, rfl⟩
  show JL _ _ _ _ _ [_, _, ⟨nb3, cu8 (sumG constL initL b), 54, (0, 0)⟩]
  refine AN (AF (AE (AA (Slc nb3 0 32 32) (BX 32 5 1 0 32 0 32 BL AX rfl rfl rfl (by omega) (by omega) (by omega) (by omega) (by omega) 32 (by omega)) rfl ?_)))
  refine AA _ (AH rfl) rfl ?_
  refine AN (AF (AL (AE (AA (Slc nb2 0 64 64) (BX 64 5 1 0 64 0 64 Tryd.underlying262 AX rfl rfl rfl (by omega) (by omega) (by omega) (by omega) (by omega) 64 (by omega)) rfl ?_))))
  refine AA _ (AD rfl) rfl ?_
  have hl1 : (spl (zr8 64) 0 (sumG constL initL b)).length = 64 := by rw [spl_len (by simp [(AP 64), (DZ _ _ _)])]; simp [(AP 64), (DZ _ _ _)]
  refine AR (FA 43 43 5 1 nb2 0 64 64 (cu8 (zr8 64)) 262 (some ⟨nb3, 0, none⟩) 32 32 32 (cu8 (sumG constL initL b)) (cu8 (spl (zr8 64) 0 (sumG constL initL b))) AO EO rfl rfl rfl (Nat.min_eq_left (by omega)) (by simp [(DZ _ _ _)]; try omega) (SrcAt.mem (MemAt.ent 2 rfl (AM _))) (by simp [(AP 64)]; try omega) (by first | exact CK | exact DW | exact DT | (simp [cu8, cu32, cu64, Value.oneCell']; done)) (laySpl8 _ _ _ (by simp [(AP 64), (DZ _ _ _)]))) rfl ?_
  rintro v1 L1 ⟨rfl, rfl⟩
  show JL _ _ _ _ ((13, I64 (32:Int)) :: _) [_, ⟨nb2, cu8 (spl (zr8 64) 0 (sumG constL initL b)), 262, (0, 0)⟩, _]
  refine AN (AF (AL (AE (AA (.agg (cu8 (spl (zr8 64) 0 (sumG constL initL b))).toArray) (AK rfl (BH Tryd.isAgg262 ES (CG hl1) (MemAt.ent 1 rfl (AM _)))) rfl ?_))))
  refine AR (A6 0 nb1 0 64 (cu8 (zr8 64)) 262 (.agg (cu8 (spl (zr8 64) 0 (sumG constL initL b))).toArray) (cu8 (spl (zr8 64) 0 (sumG constL initL b))) (cu8 (spl (zr8 64) 0 (sumG constL initL b))) rfl rfl rfl (by first | rfl | simp) ES (CG hl1) (by first | exact CK | exact DW | exact DT | (simp [cu8, cu32, cu64, Value.oneCell']; done)) (by simp [(AP 64)]) (BF (by simp [(AP 64), hl1]))) rfl ?_
  rintro v1 L1 ⟨rfl, rfl⟩
  show JL _ _ _ _ _ [⟨nb1, cu8 (spl (zr8 64) 0 (sumG constL initL b)), 262, (0, 0)⟩, _, _]
  refine AN (AF (BO (BP (.agg (cu8 (spl (zr8 64) 0 (sumG constL initL b))).toArray) (res1 Tryd.results171 (ED rfl (BH Tryd.isAgg262 ES (CG hl1) (MemAt.ent 0 rfl (AM _))))) fun w1 hw1 => ?_)))
  refine ⟨_, [], rfl, ⟨?_, rfl⟩, hw1.sub (by simp) (by simp)⟩
  first | (rw [blkL, if_pos (by omega)]; done) | (rw [blkL, if_neg (by omega)]; done)
 ·
  have hp1 : ¬ ((64:Int) < ((n:Int))) := of_decide_eq_false hb1
  refine B4 (AF (AL (AE (AA (Slc nb2 0 64 64) (BX 64 5 1 0 64 0 64 Tryd.underlying262 AX rfl rfl rfl (by omega) (by omega) (by omega) (by omega) (by omega) 64 (by omega)) rfl ?_))))
  refine AA _ (AD rfl) rfl ?_
  have hl2 : (spl (zr8 64) 0 b).length = 64 := (spl_len (by rw [hb, (AP 64)]; omega)).trans (AP 64)
  refine AR (FA 43 43 5 1 nb2 0 64 64 (cu8 (zr8 64)) 262 ao n cb n (cu8 b) (cu8 (spl (zr8 64) 0 b)) AO EO rfl rfl rfl (Nat.min_eq_left (by omega)) (by simp [hb]; try omega) (hr.src) (by simp [(AP 64)]; try omega) (by first | exact CK | exact DW | exact DT | (simp [cu8, cu32, cu64, Value.oneCell']; done)) (laySpl8 _ _ _ (by rw [hb, (AP 64)]; omega))) rfl ?_
  rintro v1 L1 ⟨rfl, rfl⟩
  show JL _ _ _ _ ((13, I64 ((n:Int))) :: _) [_, ⟨nb2, cu8 (spl (zr8 64) 0 b), 262, (0, 0)⟩]
  refine AN (AF (AL (AE (AA (.agg (cu8 (spl (zr8 64) 0 b)).toArray) (AK rfl (BH Tryd.isAgg262 ES (CG hl2) (MemAt.ent 1 rfl (AM _)))) rfl ?_))))
  refine AR (A6 0 nb1 0 64 (cu8 (zr8 64)) 262 (.agg (cu8 (spl (zr8 64) 0 b)).toArray) (cu8 (spl (zr8 64) 0 b)) (cu8 (spl (zr8 64) 0 b)) rfl rfl rfl (by first | rfl | simp) ES (CG hl2) (by first | exact CK | exact DW | exact DT | (simp [cu8, cu32, cu64, Value.oneCell']; done)) (by simp [(AP 64)]) (BF (by simp [(AP 64), hl2]))) rfl ?_
  rintro v1 L1 ⟨rfl, rfl⟩
  show JL _ _ _ _ _ [⟨nb1, cu8 (spl (zr8 64) 0 b), 262, (0, 0)⟩, _]
  refine AN (AF (BO (BP (.agg (cu8 (spl (zr8 64) 0 b)).toArray) (res1 Tryd.results171 (ED rfl (BH Tryd.isAgg262 ES (CG hl2) (MemAt.ent 0 rfl (AM _))))) fun w1 hw1 => ?_)))
  refine ⟨_, [], rfl, ⟨?_, rfl⟩, hw1.sub (by simp) (by simp)⟩
  first | (rw [blkL, if_pos (by omega)]; done) | (rw [blkL, if_neg (by omega)]; done)
theorem with_c (b : List UInt8) (x : UInt8) (w : World) (hb : b.length = 64) : Calls Tryd.prog 173 #[.agg (cu8 b).toArray, U8 x] w (Post w [] (fun v L => ∃ g T, v = Slc g 0 64 64 ∧ L = [⟨g, cu8 (xbN b x 64), T, (0, 0)⟩])) := by
 refine enter w [] 17 [] [.agg (cu8 b).toArray, U8 x] Tryd.func173 rfl rfl (by simp) (B7 (by simp) (by simp) (by simp)) ?_
 show JC _ _ _ [(0, .agg (cu8 b).toArray), (1, U8 x)] _
 refine AL (AE (AR (CN (.agg (cu8 b).toArray) (cu8 b) rfl (by first | rfl | simp)) rfl ?_))
 rintro v1 L1 ⟨nb1, hnb1, rfl, rfl⟩
 show JL _ _ _ _ ((2, Ptr nb1 0) :: _) [⟨nb1, cu8 b, 262, (0, 0)⟩]
 refine AA _ (AH rfl) rfl ?_
 refine AN (AF (AL (AL (AE (AA _ (AD rfl) rfl ?_)))))
 refine AN (AF (B5 (EE (ι := Nat × List UInt8) (fun ⟨k, o⟩ => [(1, U8 x), (2, Ptr nb1 0), (4, .slice none 0 0), (6, I64 ((k:Int)))]) (fun ⟨k, o⟩ => [⟨nb1, cu8 o, 262, (0, 0)⟩]) (fun ⟨k, o⟩ => k ≤ 64 ∧ o = xbN b x k ∧ o.length = 64) (fun ⟨k, o⟩ => 64 - k) (0, b) ⟨by omega, by rw [xbN], hb⟩ (Sub.cons rfl (Sub.cons rfl (Sub.cons rfl (Sub.cons rfl (Sub.nil))))) rfl ?_)))
 rintro ⟨k, o⟩ ⟨hx1, hx2, ho⟩
 show JC _ _ _ [(1, U8 x), (2, Ptr nb1 0), (4, .slice none 0 0), (6, I64 ((k:Int)))] [⟨nb1, cu8 o, 262, (0, 0)⟩]
 refine AL (AE (AA (.bool (decide (((k:Int)) < (64:Int)))) (AQ rfl rfl fun _ => DB _ _) rfl ?_))
 refine AN (AF (AL (CT (decide (((k:Int)) < (64:Int))) rfl (fun hb1 => ?_) (fun hb1 => ?_))))
 ·
  have hp1 : ((k:Int)) < (64:Int) := of_decide_eq_true hb1
  refine B4 (AF (AL (B5 (AL (AE (AA _ (AD rfl) rfl ?_))))))
  refine AA _ (AH rfl) rfl ?_
  refine AN (AF (AE (AA _ (AD rfl) rfl ?_)))
  refine AA (Ptr nb1 k) (BV 64 5 1 k Tryd.underlying262 AX rfl rfl (by omega) (by omega) (by omega)) rfl ?_
  refine AA (U8 (g8 o k)) (AK rfl (AV DU (MemAt.ent 0 rfl (Seg.get (g8_get (i := k) (by rw [ho]; omega)))))) rfl ?_
  refine AA _ (AD rfl) rfl ?_
  refine AA (U8 ((g8 o k) ^^^ x)) (AQ rfl rfl fun _ => bin_xor_u8 (g8 o k) x) rfl ?_
  refine AA (Ptr nb1 k) (BV 64 5 1 k Tryd.underlying262 AX rfl rfl (by omega) (by omega) (by omega)) rfl ?_
  have hl1 : (o.set k ((g8 o k) ^^^ x)).length = 64 := by first | (rw [List.length_set]; exact ho) | simp [ho]
  refine AR (A6 0 nb1 k 1 (cu8 o) 262 (U8 ((g8 o k) ^^^ x)) ([U8 ((g8 o k) ^^^ x)]) (cu8 (o.set k ((g8 o k) ^^^ x))) rfl rfl rfl rfl AX rfl (by simp [Value.oneCell']) (by simp [ho]; try omega) (lay8 _ _ _ (by rw [ho]; omega))) rfl ?_
  rintro v1 L1 ⟨rfl, rfl⟩
  show JL _ _ _ _ _ [⟨nb1, cu8 (o.set k ((g8 o k) ^^^ x)), 262, (0, 0)⟩]
  refine AN (B1 (AF (AE (AA (I64 ((k:Int) + 1)) (AQ rfl rfl fun _ => DI _ _ ((k:Int) + 1) (by omega) (by omega)) rfl ?_))))
  refine AA _ (AD rfl) rfl ?_
  refine AN (DF (EN (k + 1, o.set k ((g8 o k) ^^^ x)) ⟨by omega, by rw [xbN, ← hx2], hl1⟩ (by first | (simp; omega) | simp | (dsimp only; omega) | omega) (Sub.cons rfl (Sub.cons rfl (Sub.cons rfl (Sub.cons rfl (Sub.nil))))) rfl))
 ·
  have hp1 : ¬ (((k:Int)) < (64:Int)) := of_decide_eq_false hb1
  refine EB (BD (BD (CV (AF (AL (AE (AA (Slc nb1 0 64 64) (BX 64 5 1 0 64 0 64 Tryd.underlying262 AX rfl rfl rfl (by omega) (by omega) (by omega) (by omega) (by omega) 64 (by omega)) rfl ?_)))))))
  refine AA _ (AH rfl) rfl ?_
  refine AN (AF (BO (BP (Slc nb1 0 64 64) (res1 Tryd.results173 (BT rfl)) fun w1 hw1 => ?_)))
  have e1 : k = 64 := by omega
  subst e1
  rw [hx2] at hw1
  exact ⟨_, _, rfl, ⟨nb1, 262, rfl, rfl⟩, hw1.sub (by simp) (by simp)⟩
theorem mac_c (ao : Option Addr) (n cb : Nat) (key : List UInt8) (b c : Nat) (vs : List Value) (ls : List (List UInt8)) (w : World) (hb : key.length = n) (hcb : ao = none → cb = 0) (hn : n ≤ 17592186044416) (hr : RdB w [] ao key) (hk : 1 ≤ ls.length) (hc : ls.length ≤ c) (hk2 : ls.length ≤ 1000) (hp : Parts w b vs ls) (hs : ls.flatten.length ≤ 100000000) (hG : GLs w) : Calls Tryd.prog 145 #[.slice ao n cb, .slice (some ⟨b, 0, none⟩) ls.length c] w (Post w [] (fun v L => v = .agg (cu8 (macL key ls.flatten)).toArray ∧ L = [])) := by
 refine enter w [] 20 [] [.slice ao n cb, .slice (some ⟨b, 0, none⟩) ls.length c] Tryd.func145 rfl rfl (by simp) (B7 (by simp) (by simp) (by simp)) ?_
 show JC _ _ _ [(0, .slice ao n cb), (1, .slice (some ⟨b, 0, none⟩) ls.length c)] _
 refine AL (AE (AR (BJ _ (cu8 (zr8 32)) DQ (by kernel_rfl)) rfl ?_))
 rintro v1 L1 ⟨nb1, hnb1, rfl, rfl⟩
 show JL _ _ _ _ ((4, Ptr nb1 0) :: _) [⟨nb1, cu8 (zr8 32), 54, (0, 0)⟩]
 refine AN (AF (AL (AE (AA _ (AD rfl) rfl ?_))))
 refine AR (A3 171 [.slice ao n cb] (.agg (cu8 (blkL key)).toArray) (A0 [.slice ao n cb] Tryd.call171 rfl) (fun w1 hw1 => block_c ao n cb key w1 hb hcb (by omega) (hr.at (M' := []) hw1 (by simp)) (hG.at hw1))) rfl ?_
 rintro v1 L1 ⟨rfl, rfl⟩
 show JL _ _ _ _ ((8, .agg (cu8 (blkL key)).toArray) :: _) [_]
 refine AR (BJ _ (cu8 (zr8 64)) Tryd.zeroValue262 (by kernel_rfl)) rfl ?_
 rintro v1 L1 ⟨nb2, hnb2, rfl, rfl⟩
 show JL _ _ _ _ ((5, Ptr nb2 0) :: _) [_, ⟨nb2, cu8 (zr8 64), 262, (0, 0)⟩]
 refine AR (A6 1 nb2 0 64 (cu8 (zr8 64)) 262 (.agg (cu8 (blkL key)).toArray) (cu8 (blkL key)) (cu8 (blkL key)) rfl rfl rfl (by first | rfl | simp) ES (CG (EZ _)) (by first | exact CK | exact DW | exact DT | (simp [cu8, cu32, cu64, Value.oneCell']; done)) (by simp [(AP 64)]) (BF (by simp [(AP 64), (EZ _)]))) rfl ?_
 rintro v1 L1 ⟨rfl, rfl⟩
 show JL _ _ _ _ _ [_, ⟨nb2, cu8 (blkL key), 262, (0, 0)⟩]
 refine AN (AF (AL (AE (AA (.agg (cu8 (blkL key)).toArray) (AK rfl (BH Tryd.isAgg262 ES (CG (EZ _)) (MemAt.ent 1 rfl (AM _)))) rfl ?_))))
 refine AR (BG 173 [.agg (cu8 (blkL key)).toArray, U8 (54:UInt8)] _ (A0 [.agg (cu8 (blkL key)).toArray, U8 (54:UInt8)] Tryd.call173 rfl) (fun w1 hw1 => with_c (blkL key) (54:UInt8) w1 (EZ _))) rfl ?_
 rintro v1 L1 ⟨_, ⟨nb3, tw1, rfl, rfl⟩, rfl⟩
 show JL _ _ _ _ ((10, Slc nb3 0 64 64) :: _) [_, _, ⟨nb3, cu8 (xbN (blkL key) (54:UInt8) 64), tw1, (0, 0)⟩]
 refine AA _ (AD rfl) rfl ?_
 refine AR (BG 174 [.slice (some ⟨b, 0, none⟩) ls.length c, .slice none 0 0] _ (A0 [.slice (some ⟨b, 0, none⟩) ls.length c, .slice none 0 0] Tryd.call174 rfl) (fun w1 hw1 => join_c b c vs ls w1 hk hc hk2 (hp.at hw1 rfl (by omega)) (by omega))) rfl ?_
 rintro v1 L1 ⟨_, (⟨he1, ao1, ca1, rfl, rfl, hn1⟩ | ⟨hp1, nb4, sp1, cp1, tj1, fj1, rfl, rfl, hl1, hm1⟩), rfl⟩
 ·
  show JL _ _ _ _ ((12, .slice ao1 0 ca1) :: _) [_, _, _]
  refine AR (BZ 43 1 _ [(0, Slc nb3 0 64 64), (1, .slice ao1 0 ca1)] ([Slc nb3 0 64 64, .slice ao1 0 ca1]) DN CA D1 rfl rfl rfl (by kernel_rfl)) rfl ?_
  rintro v1 L1 ⟨nb5, hnb5, rfl, rfl⟩
  show JL _ _ _ _ ((13, Slc nb5 0 2 2) :: _) [_, _, _, ⟨nb5, [Slc nb3 0 64 64, .slice ao1 0 ca1], 43, (0, 0)⟩]
  refine AR (A3 172 [Slc nb5 0 2 2] (.agg (cu8 (sumG constL initL ([xbN (blkL key) (54:UInt8) 64, ([] : List UInt8)].flatten))).toArray) (A0 [Slc nb5 0 2 2] Tryd.call172 rfl) (fun w1 hw1 => of_c nb5 2 [Slc nb3 0 64 64, .slice ao1 0 ca1] [xbN (blkL key) (54:UInt8) 64, ([] : List UInt8)] w1 (by simp) (by simp) (by simp) ⟨RdA.of hw1 (MemAt.ent 3 rfl (AM _)) (by simp), ⟨⟨(some ⟨nb3, 0, none⟩), 64, congrArg (fun n => Value.slice (some ⟨nb3, 0, none⟩) n 64) ((xbN_len64 _ 64 (EZ _))).symm, (RdB.of hw1 (MemAt.ent 2 rfl (AM _)) (by simp))⟩, ⟨⟨ao1, ca1, congrArg (fun n => Value.slice ao1 n ca1) (rfl).symm, RdB.nil⟩, trivial⟩⟩⟩ (by simp only [List.flatten_cons, List.flatten_nil, List.length_append, List.length_nil, (xbN_len64 _ 64 (EZ _))]; omega) (hG.at hw1))) rfl ?_
  rintro v1 L1 ⟨rfl, rfl⟩
  show JL _ _ _ _ ((14, .agg (cu8 (sumG constL initL ([xbN (blkL key) (54:UInt8) 64, ([] : List UInt8)].flatten))).toArray) :: _) [_, _, _, _]
  refine AR (BJ _ (cu8 (zr8 32)) DQ (by kernel_rfl)) rfl ?_
  rintro v1 L1 ⟨nb6, hnb6, rfl, rfl⟩
  show JL _ _ _ _ ((6, Ptr nb6 0) :: _) [_, _, _, _, ⟨nb6, cu8 (zr8 32), 54, (0, 0)⟩]
  refine AR (A6 4 nb6 0 32 (cu8 (zr8 32)) 54 (.agg (cu8 (sumG constL initL ([xbN (blkL key) (54:UInt8) 64, ([] : List UInt8)].flatten))).toArray) (cu8 (sumG constL initL ([xbN (blkL key) (54:UInt8) 64, ([] : List UInt8)].flatten))) (cu8 (sumG constL initL ([xbN (blkL key) (54:UInt8) 64, ([] : List UInt8)].flatten))) rfl rfl rfl (by first | rfl | simp) CD (CG (DZ _ _ _)) (by first | exact CK | exact DW | exact DT | (simp [cu8, cu32, cu64, Value.oneCell']; done)) (by simp [(AP 32)]) (BF (by simp [(AP 32), (DZ _ _ _)]))) rfl ?_
  rintro v1 L1 ⟨rfl, rfl⟩
  show JL _ _ _ _ _ [_, _, _, _, ⟨nb6, cu8 (sumG constL initL ([xbN (blkL key) (54:UInt8) 64, ([] : List UInt8)].flatten)), 54, (0, 0)⟩]
  refine AN (AF (AL (CQ 20 5 [(0, .agg (cu8 (blkL key)).toArray), (2, Slc nb6 0 32 32)] BQ rfl (by decide +kernel) ?_)))
  refine BR ⟨[], [0, 2], [], [0, 2], [1]⟩ 1 _ rfl rfl (by decide +kernel) rfl ⟨⟨_, rfl, AB rfl (AK rfl (BH Tryd.isAgg262 ES (CG (EZ _)) (MemAt.ent 1 rfl (AM _))))⟩, ⟨_, rfl, AB rfl (BX 32 5 1 0 32 0 32 BL AX rfl rfl rfl (by omega) (by omega) (by omega) (by omega) (by omega) 32 (by omega))⟩, trivial⟩ rfl (AZ rfl (BG 173 [.agg (cu8 (blkL key)).toArray, U8 (92:UInt8)] _ (A0 [.agg (cu8 (blkL key)).toArray, U8 (92:UInt8)] Tryd.call173 rfl) (fun w1 hw1 => with_c (blkL key) (92:UInt8) w1 (EZ _)))) ?_
  rintro v1 L1 ⟨_, ⟨nb7, tw2, rfl, rfl⟩, rfl⟩
  refine ⟨[], ?_⟩
  show DP _ _ _ _ _ _ _ _ [_, _, _, _, _, ⟨nb7, cu8 (xbN (blkL key) (92:UInt8) 64), tw2, (0, 0)⟩]
  refine BR ⟨[1], [0, 2], [0], [2], [3]⟩ 3 _ rfl rfl (by decide +kernel) rfl ⟨⟨_, rfl, AB rfl (BX 32 5 1 0 32 0 32 BL AX rfl rfl rfl (by omega) (by omega) (by omega) (by omega) (by omega) 32 (by omega))⟩, trivial⟩ rfl (AZ rfl (BZ 43 1 _ [(0, Slc nb7 0 64 64), (1, Slc nb6 0 32 32)] ([Slc nb7 0 64 64, Slc nb6 0 32 32]) DN CA D1 rfl rfl rfl (by kernel_rfl))) ?_
  rintro v1 L1 ⟨nb8, hnb8, rfl, rfl⟩
  refine ⟨[], ?_⟩
  show DP _ _ _ _ _ _ _ _ [_, _, _, _, _, _, ⟨nb8, [Slc nb7 0 64 64, Slc nb6 0 32 32], 43, (0, 0)⟩]
  refine BR ⟨[1, 3], [0, 2], [0, 2], [], [4]⟩ 4 _ rfl rfl (by decide +kernel) rfl trivial rfl (AZ rfl (A3 172 [Slc nb8 0 2 2] (.agg (cu8 (sumG constL initL ([xbN (blkL key) (92:UInt8) 64, sumG constL initL ([xbN (blkL key) (54:UInt8) 64, ([] : List UInt8)].flatten)].flatten))).toArray) (A0 [Slc nb8 0 2 2] Tryd.call172 rfl) (fun w1 hw1 => of_c nb8 2 [Slc nb7 0 64 64, Slc nb6 0 32 32] [xbN (blkL key) (92:UInt8) 64, sumG constL initL ([xbN (blkL key) (54:UInt8) 64, ([] : List UInt8)].flatten)] w1 (by simp) (by simp) (by simp) ⟨RdA.of hw1 (MemAt.ent 6 rfl (AM _)) (by simp), ⟨⟨(some ⟨nb7, 0, none⟩), 64, congrArg (fun n => Value.slice (some ⟨nb7, 0, none⟩) n 64) ((xbN_len64 _ 64 (EZ _))).symm, (RdB.of hw1 (MemAt.ent 5 rfl (AM _)) (by simp))⟩, ⟨⟨(some ⟨nb6, 0, none⟩), 32, congrArg (fun n => Value.slice (some ⟨nb6, 0, none⟩) n 32) ((DZ _ _ _)).symm, (RdB.of hw1 (MemAt.ent 4 rfl (AM _)) (by simp))⟩, trivial⟩⟩⟩ (by simp only [List.flatten_cons, List.flatten_nil, List.length_append, List.length_nil, (xbN_len64 _ 64 (EZ _)), (DZ _ _ _)]; omega) (hG.at hw1)))) ?_
  rintro v1 L1 ⟨rfl, rfl⟩
  refine ⟨[], ?_⟩
  show DP _ _ _ _ _ _ _ _ [_, _, _, _, _, _, _]
  refine BR ⟨[1, 3, 4], [0, 2], [0, 2], [], [5]⟩ 5 _ rfl rfl (by decide +kernel) rfl trivial rfl (AZ rfl (A6 0 nb1 0 32 (cu8 (zr8 32)) 54 (.agg (cu8 (sumG constL initL ([xbN (blkL key) (92:UInt8) 64, sumG constL initL ([xbN (blkL key) (54:UInt8) 64, ([] : List UInt8)].flatten)].flatten))).toArray) (cu8 (sumG constL initL ([xbN (blkL key) (92:UInt8) 64, sumG constL initL ([xbN (blkL key) (54:UInt8) 64, ([] : List UInt8)].flatten)].flatten))) (cu8 (sumG constL initL ([xbN (blkL key) (92:UInt8) 64, sumG constL initL ([xbN (blkL key) (54:UInt8) 64, ([] : List UInt8)].flatten)].flatten))) rfl rfl rfl (by first | rfl | simp) CD (CG (DZ _ _ _)) (by first | exact CK | exact DW | exact DT | (simp [cu8, cu32, cu64, Value.oneCell']; done)) (by simp [(AP 32)]) (BF (by simp [(AP 32), (DZ _ _ _)])))) ?_
  rintro v1 L1 ⟨rfl, rfl⟩
  refine ⟨[], ?_⟩
  show DP _ _ _ _ _ _ _ _ [⟨nb1, cu8 (sumG constL initL ([xbN (blkL key) (92:UInt8) 64, sumG constL initL ([xbN (blkL key) (54:UInt8) 64, ([] : List UInt8)].flatten)].flatten)), 54, (0, 0)⟩, _, _, _, _, _, _]
  refine CZ ⟨[1, 3, 4, 5], [0, 2], [0, 2], [], []⟩ rfl rfl (by decide +kernel) rfl trivial ?_
  refine CC (F' := [(4, Ptr nb1 0)]) (by kernel_rfl) ?_
  refine AF (BO (BP (.agg (cu8 (sumG constL initL ([xbN (blkL key) (92:UInt8) 64, sumG constL initL ([xbN (blkL key) (54:UInt8) 64, ([] : List UInt8)].flatten)].flatten))).toArray) (res1 Tryd.results145 (ED rfl (BH D0 CD (CG (DZ _ _ _)) (MemAt.ent 0 rfl (AM _))))) fun w1 hw1 => ?_))
  refine ⟨_, [], rfl, ⟨?_, rfl⟩, hw1.sub (by simp) (by simp)⟩
  rw [macL]
  first | (simp; done) | (rw [he1]; simp; done)
 ·
  show JL _ _ _ _ ((12, Slc nb4 0 ls.flatten.length cp1) :: _) [_, _, _, ⟨nb4, cu8 ls.flatten ++ sp1, tj1, fj1⟩]
  refine AR (BZ 43 1 _ [(0, Slc nb3 0 64 64), (1, Slc nb4 0 ls.flatten.length cp1)] ([Slc nb3 0 64 64, Slc nb4 0 ls.flatten.length cp1]) DN CA D1 rfl rfl rfl (by kernel_rfl)) rfl ?_
  rintro v1 L1 ⟨nb9, hnb9, rfl, rfl⟩
  show JL _ _ _ _ ((13, Slc nb9 0 2 2) :: _) [_, _, _, _, ⟨nb9, [Slc nb3 0 64 64, Slc nb4 0 ls.flatten.length cp1], 43, (0, 0)⟩]
  refine AR (A3 172 [Slc nb9 0 2 2] (.agg (cu8 (sumG constL initL ([xbN (blkL key) (54:UInt8) 64, ls.flatten].flatten))).toArray) (A0 [Slc nb9 0 2 2] Tryd.call172 rfl) (fun w1 hw1 => of_c nb9 2 [Slc nb3 0 64 64, Slc nb4 0 ls.flatten.length cp1] [xbN (blkL key) (54:UInt8) 64, ls.flatten] w1 (by simp) (by simp) (by simp) ⟨RdA.of hw1 (MemAt.ent 4 rfl (AM _)) (by simp), ⟨⟨(some ⟨nb3, 0, none⟩), 64, congrArg (fun n => Value.slice (some ⟨nb3, 0, none⟩) n 64) ((xbN_len64 _ 64 (EZ _))).symm, (RdB.of hw1 (MemAt.ent 2 rfl (AM _)) (by simp))⟩, ⟨⟨(some ⟨nb4, 0, none⟩), cp1, congrArg (fun n => Value.slice (some ⟨nb4, 0, none⟩) n cp1) ((rfl : ls.flatten.length = _)).symm, (RdB.of hw1 (MemAt.ent 3 rfl (A2 (AM _))) (by simp))⟩, trivial⟩⟩⟩ (by simp only [List.flatten_cons, List.flatten_nil, List.length_append, List.length_nil, (xbN_len64 _ 64 (EZ _))]; omega) (hG.at hw1))) rfl ?_
  rintro v1 L1 ⟨rfl, rfl⟩
  show JL _ _ _ _ ((14, .agg (cu8 (sumG constL initL ([xbN (blkL key) (54:UInt8) 64, ls.flatten].flatten))).toArray) :: _) [_, _, _, _, _]
  refine AR (BJ _ (cu8 (zr8 32)) DQ (by kernel_rfl)) rfl ?_
  rintro v1 L1 ⟨nb10, hnb10, rfl, rfl⟩
  show JL _ _ _ _ ((6, Ptr nb10 0) :: _) [_, _, _, _, _, ⟨nb10, cu8 (zr8 32), 54, (0, 0)⟩]
  refine AR (A6 5 nb10 0 32 (cu8 (zr8 32)) 54 (.agg (cu8 (sumG constL initL ([xbN (blkL key) (54:UInt8) 64, ls.flatten].flatten))).toArray) (cu8 (sumG constL initL ([xbN (blkL key) (54:UInt8) 64, ls.flatten].flatten))) (cu8 (sumG constL initL ([xbN (blkL key) (54:UInt8) 64, ls.flatten].flatten))) rfl rfl rfl (by first | rfl | simp) CD (CG (DZ _ _ _)) (by first | exact CK | exact DW | exact DT | (simp [cu8, cu32, cu64, Value.oneCell']; done)) (by simp [(AP 32)]) (BF (by simp [(AP 32), (DZ _ _ _)]))) rfl ?_
  rintro v1 L1 ⟨rfl, rfl⟩
  show JL _ _ _ _ _ [_, _, _, _, _, ⟨nb10, cu8 (sumG constL initL ([xbN (blkL key) (54:UInt8) 64, ls.flatten].flatten)), 54, (0, 0)⟩]
  refine AN (AF (AL (CQ 20 5 [(0, .agg (cu8 (blkL key)).toArray), (2, Slc nb10 0 32 32)] BQ rfl (by decide +kernel) ?_)))
  refine BR ⟨[], [0, 2], [], [0, 2], [1]⟩ 1 _ rfl rfl (by decide +kernel) rfl ⟨⟨_, rfl, AB rfl (AK rfl (BH Tryd.isAgg262 ES (CG (EZ _)) (MemAt.ent 1 rfl (AM _))))⟩, ⟨_, rfl, AB rfl (BX 32 5 1 0 32 0 32 BL AX rfl rfl rfl (by omega) (by omega) (by omega) (by omega) (by omega) 32 (by omega))⟩, trivial⟩ rfl (AZ rfl (BG 173 [.agg (cu8 (blkL key)).toArray, U8 (92:UInt8)] _ (A0 [.agg (cu8 (blkL key)).toArray, U8 (92:UInt8)] Tryd.call173 rfl) (fun w1 hw1 => with_c (blkL key) (92:UInt8) w1 (EZ _)))) ?_
  rintro v1 L1 ⟨_, ⟨nb11, tw3, rfl, rfl⟩, rfl⟩
  refine ⟨[], ?_⟩
  show DP _ _ _ _ _ _ _ _ [_, _, _, _, _, _, ⟨nb11, cu8 (xbN (blkL key) (92:UInt8) 64), tw3, (0, 0)⟩]
  refine BR ⟨[1], [0, 2], [0], [2], [3]⟩ 3 _ rfl rfl (by decide +kernel) rfl ⟨⟨_, rfl, AB rfl (BX 32 5 1 0 32 0 32 BL AX rfl rfl rfl (by omega) (by omega) (by omega) (by omega) (by omega) 32 (by omega))⟩, trivial⟩ rfl (AZ rfl (BZ 43 1 _ [(0, Slc nb11 0 64 64), (1, Slc nb10 0 32 32)] ([Slc nb11 0 64 64, Slc nb10 0 32 32]) DN CA D1 rfl rfl rfl (by kernel_rfl))) ?_
  rintro v1 L1 ⟨nb12, hnb12, rfl, rfl⟩
  refine ⟨[], ?_⟩
  show DP _ _ _ _ _ _ _ _ [_, _, _, _, _, _, _, ⟨nb12, [Slc nb11 0 64 64, Slc nb10 0 32 32], 43, (0, 0)⟩]
  refine BR ⟨[1, 3], [0, 2], [0, 2], [], [4]⟩ 4 _ rfl rfl (by decide +kernel) rfl trivial rfl (AZ rfl (A3 172 [Slc nb12 0 2 2] (.agg (cu8 (sumG constL initL ([xbN (blkL key) (92:UInt8) 64, sumG constL initL ([xbN (blkL key) (54:UInt8) 64, ls.flatten].flatten)].flatten))).toArray) (A0 [Slc nb12 0 2 2] Tryd.call172 rfl) (fun w1 hw1 => of_c nb12 2 [Slc nb11 0 64 64, Slc nb10 0 32 32] [xbN (blkL key) (92:UInt8) 64, sumG constL initL ([xbN (blkL key) (54:UInt8) 64, ls.flatten].flatten)] w1 (by simp) (by simp) (by simp) ⟨RdA.of hw1 (MemAt.ent 7 rfl (AM _)) (by simp), ⟨⟨(some ⟨nb11, 0, none⟩), 64, congrArg (fun n => Value.slice (some ⟨nb11, 0, none⟩) n 64) ((xbN_len64 _ 64 (EZ _))).symm, (RdB.of hw1 (MemAt.ent 6 rfl (AM _)) (by simp))⟩, ⟨⟨(some ⟨nb10, 0, none⟩), 32, congrArg (fun n => Value.slice (some ⟨nb10, 0, none⟩) n 32) ((DZ _ _ _)).symm, (RdB.of hw1 (MemAt.ent 5 rfl (AM _)) (by simp))⟩, trivial⟩⟩⟩ (by simp only [List.flatten_cons, List.flatten_nil, List.length_append, List.length_nil, (xbN_len64 _ 64 (EZ _)), (DZ _ _ _)]; omega) (hG.at hw1)))) ?_
  rintro v1 L1 ⟨rfl, rfl⟩
  refine ⟨[], ?_⟩
  show DP _ _ _ _ _ _ _ _ [_, _, _, _, _, _, _, _]
  refine BR ⟨[1, 3, 4], [0, 2], [0, 2], [], [5]⟩ 5 _ rfl rfl (by decide +kernel) rfl trivial rfl (AZ rfl (A6 0 nb1 0 32 (cu8 (zr8 32)) 54 (.agg (cu8 (sumG constL initL ([xbN (blkL key) (92:UInt8) 64, sumG constL initL ([xbN (blkL key) (54:UInt8) 64, ls.flatten].flatten)].flatten))).toArray) (cu8 (sumG constL initL ([xbN (blkL key) (92:UInt8) 64, sumG constL initL ([xbN (blkL key) (54:UInt8) 64, ls.flatten].flatten)].flatten))) (cu8 (sumG constL initL ([xbN (blkL key) (92:UInt8) 64, sumG constL initL ([xbN (blkL key) (54:UInt8) 64, ls.flatten].flatten)].flatten))) rfl rfl rfl (by first | rfl | simp) CD (CG (DZ _ _ _)) (by first | exact CK | exact DW | exact DT | (simp [cu8, cu32, cu64, Value.oneCell']; done)) (by simp [(AP 32)]) (BF (by simp [(AP 32), (DZ _ _ _)])))) ?_
  rintro v1 L1 ⟨rfl, rfl⟩
  refine ⟨[], ?_⟩
  show DP _ _ _ _ _ _ _ _ [⟨nb1, cu8 (sumG constL initL ([xbN (blkL key) (92:UInt8) 64, sumG constL initL ([xbN (blkL key) (54:UInt8) 64, ls.flatten].flatten)].flatten)), 54, (0, 0)⟩, _, _, _, _, _, _, _]
  refine CZ ⟨[1, 3, 4, 5], [0, 2], [0, 2], [], []⟩ rfl rfl (by decide +kernel) rfl trivial ?_
  refine CC (F' := [(4, Ptr nb1 0)]) (by kernel_rfl) ?_
  refine AF (BO (BP (.agg (cu8 (sumG constL initL ([xbN (blkL key) (92:UInt8) 64, sumG constL initL ([xbN (blkL key) (54:UInt8) 64, ls.flatten].flatten)].flatten))).toArray) (res1 Tryd.results145 (ED rfl (BH D0 CD (CG (DZ _ _ _)) (MemAt.ent 0 rfl (AM _))))) fun w1 hw1 => ?_))
  refine ⟨_, [], rfl, ⟨?_, rfl⟩, hw1.sub (by simp) (by simp)⟩
  rw [macL]
  first | (simp; done) | (rw [he1]; simp; done)
end Go.Proofs.YtkdpdgpphpngeaaDoor
namespace Go.Proofs.YtkdpdgpphpngeaaDoor
open Go Go.Sx
set_option linter.unusedVariables false
set_option linter.unusedSimpArgs false
set_option maxRecDepth 100000
attribute [local irreducible] mid zr8 zr32 rotr wordL spreadL comprL cpN adN spN wrdN constL initL padL stN outN routN hashL sumG blkL xbN raN macL orN
theorem short_c (ao : Option Addr) (n cb : Nat) (key : List UInt8) (b c : Nat) (vs : List Value) (ls : List (List UInt8)) (w : World) (hb : key.length = n) (hcb : ao = none → cb = 0) (hn : n ≤ 17592186044416) (hr : RdB w [] ao key) (hk : 1 ≤ ls.length) (hc : ls.length ≤ c) (hk2 : ls.length ≤ 1000) (hp : Parts w b vs ls) (hs : ls.flatten.length ≤ 100000000) (hG : GLs w) : Calls Tryd.prog 90 #[.slice ao n cb, .slice (some ⟨b, 0, none⟩) ls.length c] w (Post w [] (fun v L => ∃ g sp cap, v = Slc g 0 16 cap ∧ L = [⟨g, cu8 (mid (macL key ls.flatten) 0 16) ++ sp, 5, (0, 0)⟩] ∧ sp.length = cap - 16 ∧ 16 ≤ cap ∧ cap ≤ maxLen)) := by
 refine enter w [] 11 [] [.slice ao n cb, .slice (some ⟨b, 0, none⟩) ls.length c] Tryd.func90 rfl rfl (by simp) (B7 (by simp) (by simp) (by simp)) ?_
 show JC _ _ _ [(0, .slice ao n cb), (1, .slice (some ⟨b, 0, none⟩) ls.length c)] _
 refine AL (AE (AA _ (AH rfl) rfl ?_))
 refine AN (AF (AL (AE (AA _ (AD rfl) rfl ?_))))
 refine AA _ (AD rfl) rfl ?_
 refine AR (A3 145 [.slice ao n cb, .slice (some ⟨b, 0, none⟩) ls.length c] (.agg (cu8 (macL key ls.flatten)).toArray) (A0 [.slice ao n cb, .slice (some ⟨b, 0, none⟩) ls.length c] Tryd.call145 rfl) (fun w1 hw1 => mac_c ao n cb key b c vs ls w1 hb hcb (by omega) (hr.at (M' := []) hw1 (by simp)) hk hc hk2 (hp.at hw1 rfl (by omega)) hs (hG.at hw1))) rfl ?_
 rintro v1 L1 ⟨rfl, rfl⟩
 show JL _ _ _ _ ((8, .agg (cu8 (macL key ls.flatten)).toArray) :: _) []
 refine AR (BJ _ (cu8 (zr8 32)) DQ (by kernel_rfl)) rfl ?_
 rintro v1 L1 ⟨nb1, hnb1, rfl, rfl⟩
 show JL _ _ _ _ ((5, Ptr nb1 0) :: _) [⟨nb1, cu8 (zr8 32), 54, (0, 0)⟩]
 refine AR (A6 0 nb1 0 32 (cu8 (zr8 32)) 54 (.agg (cu8 (macL key ls.flatten)).toArray) (cu8 (macL key ls.flatten)) (cu8 (macL key ls.flatten)) rfl rfl rfl (by first | rfl | simp) CD (CG (C6 _ _)) (by first | exact CK | exact DW | exact DT | (simp [cu8, cu32, cu64, Value.oneCell']; done)) (by simp [(AP 32)]) (BF (by simp [(AP 32), (C6 _ _)]))) rfl ?_
 rintro v1 L1 ⟨rfl, rfl⟩
 show JL _ _ _ _ _ [⟨nb1, cu8 (macL key ls.flatten), 54, (0, 0)⟩]
 refine AN (AF (AL (AE (AA (Slc nb1 0 16 32) (BX 32 5 1 0 16 0 32 BL AX rfl rfl rfl (by omega) (by omega) (by omega) (by omega) (by omega) 16 (by omega)) rfl ?_))))
 have hl1 : (mid (macL key ls.flatten) 0 16).length = 16 := EH (by rw [(C6 _ _)]; omega)
 refine AR (BG 146 [Slc nb1 0 16 32] _ (A0 [Slc nb1 0 16 32] Tryd.call146 rfl) (fun w1 hw1 => bclone_c (some ⟨nb1, 0, none⟩) 16 32 (mid (macL key ls.flatten) 0 16) w1 rfl hl1 (by omega) (RdB.of hw1 (MemAt.ent 0 rfl (segm_u8 0 16 (by rw [(C6 _ _)]; omega))) (by simp)))) rfl ?_
 rintro v1 L1 ⟨_, ⟨nb2, sp1, cp1, rfl, rfl, hc1, hc2, hc3⟩, rfl⟩
 show JL _ _ _ _ ((10, Slc nb2 0 16 cp1) :: _) [_, ⟨nb2, cu8 (mid (macL key ls.flatten) 0 16) ++ sp1, 5, (0, 0)⟩]
 refine AA _ (AH rfl) rfl ?_
 refine AN (AF (BO (BP (Slc nb2 0 16 cp1) (res1 Tryd.results90 (BT rfl)) fun w1 hw1 => ?_)))
 exact ⟨_, _, rfl, ⟨nb2, sp1, cp1, rfl, rfl, hc1, hc2, hc3⟩, hw1.sub (by simp) (by simp)⟩
theorem rblockS_c (ao : Option Addr) (n cb : Nat) (b : List UInt8) (w : World) (hb : b.length = n) (hcb : ao = none → cb = 0) (hr : RdB w [] ao b) (hGr : GLr w) (hGi : GLi w) (hn : n ≤ 64) : Calls Tryd.prog 147 #[.slice ao n cb] w (Post w [] (fun v L => ∃ g sp cap, v = Slc g 0 64 cap ∧ L = [⟨g, cu8 (blkL b) ++ sp, 5, (0, 0)⟩] ∧ sp.length = cap - 64 ∧ 64 ≤ cap ∧ cap ≤ maxLen)) := by
 have hmx : maxLen = 9223372036854775807 := rfl
 refine enter w [] 21 [] [.slice ao n cb] Tryd.func147 rfl rfl (by simp) (B7 (by simp) (by simp) (by simp)) ?_
 show JC _ _ _ [(0, .slice ao n cb)] _
 refine AL (AE (AA _ (AH rfl) rfl ?_))
 refine AN (AF (AL (AE (AR (E7 5 1 AO AX) rfl ?_))))
 rintro v1 L1 ⟨nb1, hnb1, rfl, rfl⟩
 show JL _ _ _ _ ((5, Slc nb1 0 0 0) :: _) [⟨nb1, [], 5, (0, 0)⟩]
 refine AA _ (AD rfl) rfl ?_
 refine AR (CY 43 5 [true] (Slc nb1 0 0 0) 0 ([] : List UInt8) b ao n cb n AO CS rfl (.inr ⟨nb1, [], 0, rfl, (by simp [take?, cu8, cu32, cu64]), rfl, (by simp), (by omega), (by unfold maxLen; omega)⟩) rfl (by first | exact hb | simp [hb]; try omega) (hr.src) (by omega) (by unfold maxLen; omega) (by omega)) rfl ?_
 rintro v1 L1 ⟨nb2, sp1, cp1, hg1, rfl, rfl, ha1, ha2, ha3, ha4⟩
 show JL _ _ _ _ ((7, Slc nb2 0 n cp1) :: _) [⟨nb2, cu8 (([] : List UInt8) ++ b) ++ sp1, 5, (0, 0)⟩]
 refine AA _ (AH rfl) rfl ?_
 refine AN (AF (AL (AL (AE (AA _ (AD rfl) rfl ?_)))))
 refine AA (I64 ((n:Int))) (D4 AO rfl) rfl ?_
 refine AA (.bool (decide ((64:Int) < ((n:Int))))) (AQ rfl rfl fun _ => FN _ _) rfl ?_
 refine AN (AF (C0 _ rfl (decide_eq_false (by omega)) ?_))
 refine B4 (AF (AL (B5 (EE (ι := Nat × List UInt8 × Nat × List Value × Nat) (fun ⟨j, o, g1, sp1, cp1⟩ => [(2, .slice none 0 0), (3, Slc g1 0 (j + n) cp1)]) (fun ⟨j, o, g1, sp1, cp1⟩ => [⟨g1, cu8 o ++ sp1, 5, (0, 0)⟩]) (fun ⟨j, o, g1, sp1, cp1⟩ => j + n ≤ 64 ∧ o = b ++ zr8 j ∧ o.length = j + n ∧ sp1.length = cp1 - (j + n) ∧ j + n ≤ cp1 ∧ cp1 ≤ maxLen) (fun ⟨j, o, g1, sp1, cp1⟩ => 64 - (j + n)) (0, ([] : List UInt8) ++ b, nb2, sp1, cp1) ⟨by omega, by simp [zr8], by simp [hb], by omega, by omega, ha4⟩ (Sub.cons rfl (Sub.cons (E4 (by omega)) (Sub.nil))) rfl ?_))))
 rintro ⟨j, o, g1, sp1, cp1⟩ ⟨hx1, hx2, ho, hx4, hx5, hx6⟩
 show JC _ _ _ [(2, .slice none 0 0), (3, Slc g1 0 (j + n) cp1)] [⟨g1, cu8 o ++ sp1, 5, (0, 0)⟩]
 refine AL (AL (AE (AA _ (AD rfl) rfl ?_)))
 refine AA (I64 ((j:Int) + (n:Int))) (Ev_lenX AO rfl (by omega)) rfl ?_
 refine AA (.bool (decide (((j:Int) + (n:Int)) < (64:Int)))) (AQ rfl rfl fun _ => DB _ _) rfl ?_
 refine AN (AF (CT (decide (((j:Int) + (n:Int)) < (64:Int))) rfl (fun hb1 => ?_) (fun hb1 => ?_)))
 ·
  have hp1 : ((j:Int) + (n:Int)) < (64:Int) := of_decide_eq_true hb1
  refine B4 (AF (B5 (AE (AA _ (AD rfl) rfl ?_))))
  refine AR (BZ 5 1 _ [(0, U8 (0:UInt8))] (cu8 ([(0:UInt8)])) AO AX CR rfl rfl rfl (by kernel_rfl)) rfl ?_
  rintro v1 L1 ⟨nb3, hnb3, rfl, rfl⟩
  show JL _ _ _ _ ((18, Slc nb3 0 1 1) :: _) [_, ⟨nb3, cu8 ([(0:UInt8)]), 5, (0, 0)⟩]
  refine AR (CY 43 5 [true, false] (Slc g1 0 (j + n) cp1) (j + n) o ([(0:UInt8)]) (some ⟨nb3, 0, none⟩) 1 1 (j + n + 1) AO CS rfl (.inr ⟨g1, sp1, cp1, rfl, rfl, (by first | exact ho | simp [ho]), hx4, (by omega), (by omega)⟩) rfl (by simp) (SrcAt.mem (MemAt.ent 1 rfl (AM _))) (by omega) (by unfold maxLen; omega) (by omega)) rfl ?_
  rintro v1 L1 ⟨nb4, sp2, cp2, hg2, rfl, rfl, ha5, ha6, ha7, ha8⟩
  show JL _ _ _ _ ((19, Slc nb4 0 (j + n + 1) cp2) :: _) [_, ⟨nb4, cu8 (o ++ ([(0:UInt8)])) ++ sp2, 5, (0, 0)⟩]
  refine AA _ (AH rfl) rfl ?_
  refine AN (B1 (DF (B8 [false, true] ?_)))
  show K _ _ [_] _
  refine EN (j + 1, o ++ ([(0:UInt8)]), nb4, sp2, cp2) ⟨by omega, by rw [hx2, zr8_succ, List.append_assoc], (ha5).trans (by first | rfl | simp +arith), (ha6).trans (by first | rfl | simp +arith), by omega, ha8⟩ (by first | (simp; omega) | simp | (dsimp only; omega) | omega) (Sub.cons rfl (Sub.cons (E4 (by omega)) (Sub.nil))) rfl
 ·
  have hp1 : ¬ (((j:Int) + (n:Int)) < (64:Int)) := of_decide_eq_false hb1
  refine EB (BD (BD (CV (AF (AL (AE (AA _ (AD rfl) rfl ?_)))))))
  refine AA _ (AH rfl) rfl ?_
  refine AN (AF (BO (BP (Slc g1 0 (j + n) cp1) (res1 Tryd.results147 (BT rfl)) fun w1 hw1 => ?_)))
  have e1 : n + j = 64 := by omega
  have ex : o = blkL b := by rw [blkL_small (by omega), hx2]; congr 2; omega
  rw [ex] at hw1
  exact ⟨_, _, rfl, ⟨g1, sp1, cp1, slc_len (by omega), rfl, by omega, by omega, hx6⟩, hw1.sub (by simp) (by simp)⟩
theorem rblockB_c (ao : Option Addr) (n cb : Nat) (b : List UInt8) (w : World) (hb : b.length = n) (hcb : ao = none → cb = 0) (hr : RdB w [] ao b) (hGr : GLr w) (hGi : GLi w) (hn : 64 < n) (hn2 : n ≤ 17592186044416) : Calls Tryd.prog 147 #[.slice ao n cb] w (Post w [] (fun v L => ∃ g sp cap, v = Slc g 0 64 cap ∧ L = [⟨g, cu8 (blkL b) ++ sp, 5, (0, 0)⟩] ∧ sp.length = cap - 64 ∧ 64 ≤ cap ∧ cap ≤ maxLen)) := by
 have hmx : maxLen = 9223372036854775807 := rfl
 refine enter w [] 21 [] [.slice ao n cb] Tryd.func147 rfl rfl (by simp) (B7 (by simp) (by simp) (by simp)) ?_
 show JC _ _ _ [(0, .slice ao n cb)] _
 refine AL (AE (AA _ (AH rfl) rfl ?_))
 refine AN (AF (AL (AE (AR (E7 5 1 AO AX) rfl ?_))))
 rintro v1 L1 ⟨nb1, hnb1, rfl, rfl⟩
 show JL _ _ _ _ ((5, Slc nb1 0 0 0) :: _) [⟨nb1, [], 5, (0, 0)⟩]
 refine AA _ (AD rfl) rfl ?_
 refine AR (CY 43 5 [true] (Slc nb1 0 0 0) 0 ([] : List UInt8) b ao n cb n AO CS rfl (.inr ⟨nb1, [], 0, rfl, (by simp [take?, cu8, cu32, cu64]), rfl, (by simp), (by omega), (by unfold maxLen; omega)⟩) rfl (by first | exact hb | simp [hb]; try omega) (hr.src) (by omega) (by unfold maxLen; omega) (by omega)) rfl ?_
 rintro v1 L1 ⟨nb2, sp1, cp1, hg1, rfl, rfl, ha1, ha2, ha3, ha4⟩
 show JL _ _ _ _ ((7, Slc nb2 0 n cp1) :: _) [⟨nb2, cu8 (([] : List UInt8) ++ b) ++ sp1, 5, (0, 0)⟩]
 refine AA _ (AH rfl) rfl ?_
 refine AN (AF (AL (AL (AE (AA _ (AD rfl) rfl ?_)))))
 refine AA (I64 ((n:Int))) (D4 AO rfl) rfl ?_
 refine AA (.bool (decide ((64:Int) < ((n:Int))))) (AQ rfl rfl fun _ => FN _ _) rfl ?_
 refine AN (AF (C9 _ rfl (decide_eq_true (by omega)) ?_))
 refine AL (AE (AA _ (AD rfl) rfl ?_))
 refine AR (A3 148 [.slice ao n cb] (.agg (cu8 (sumG constL initL b)).toArray) (A0 [.slice ao n cb] Tryd.call148 rfl) (fun w1 hw1 => rsum_c ao n cb b w1 hb (by omega) (hr.at (M' := []) hw1 (by simp)) (GLr.at hw1 hGr) (GLi.at hw1 hGi))) rfl ?_
 rintro v1 L1 ⟨rfl, rfl⟩
 show JL _ _ _ _ ((12, .agg (cu8 (sumG constL initL b)).toArray) :: _) [_]
 refine AR (BJ _ (cu8 (zr8 32)) DQ (by kernel_rfl)) rfl ?_
 rintro v1 L1 ⟨nb3, hnb3, rfl, rfl⟩
 show JL _ _ _ _ ((4, Ptr nb3 0) :: _) [_, ⟨nb3, cu8 (zr8 32), 54, (0, 0)⟩]
 refine AR (A6 1 nb3 0 32 (cu8 (zr8 32)) 54 (.agg (cu8 (sumG constL initL b)).toArray) (cu8 (sumG constL initL b)) (cu8 (sumG constL initL b)) rfl rfl rfl (by first | rfl | simp) CD (CG (DZ _ _ _)) (by first | exact CK | exact DW | exact DT | (simp [cu8, cu32, cu64, Value.oneCell']; done)) (by simp [(AP 32)]) (BF (by simp [(AP 32), (DZ _ _ _)]))) rfl ?_
 rintro v1 L1 ⟨rfl, rfl⟩
 show JL _ _ _ _ _ [_, ⟨nb3, cu8 (sumG constL initL b), 54, (0, 0)⟩]
 refine AN (AF (AE (AA (Slc nb3 0 32 32) (BX 32 5 1 0 32 0 32 BL AX rfl rfl rfl (by omega) (by omega) (by omega) (by omega) (by omega) 32 (by omega)) rfl ?_)))
 refine AA _ (AH rfl) rfl ?_
 refine AN (AF (AL (B5 (B8 [false, true] ?_))))
 show JC _ _ _ _ [_]
 refine EE (ι := (Unit) ⊕ (Nat × List UInt8 × Nat × List Value × Nat)) (fun x => match x with | .inl _ => [(2, .slice none 0 0), (3, Slc nb3 0 32 32)] | .inr ⟨j, o, g1, sp1, cp1⟩ => [(2, .slice none 0 0), (3, Slc g1 0 (j + 32) cp1)]) (fun x => match x with | .inl _ => [⟨nb3, cu8 (sumG constL initL b), 54, (0, 0)⟩] | .inr ⟨j, o, g1, sp1, cp1⟩ => [⟨g1, cu8 o ++ sp1, 5, (0, 0)⟩]) (fun x => match x with | .inl _ => True | .inr ⟨j, o, g1, sp1, cp1⟩ => 1 ≤ j ∧ j ≤ 32 ∧ o = sumG constL initL b ++ zr8 j ∧ o.length = j + 32 ∧ sp1.length = cp1 - (j + 32) ∧ j + 32 ≤ cp1 ∧ cp1 ≤ maxLen) (fun x => match x with | .inl _ => 33 | .inr ⟨j, o, g1, sp1, cp1⟩ => 32 - j) (.inl ()) trivial (Sub.cons rfl (Sub.cons rfl (Sub.nil))) rfl ?_
 rintro (_ | ⟨j, o, g1, sp1, cp1⟩) hx
 ·
  obtain _ := hx
  show JC _ _ _ [(2, .slice none 0 0), (3, Slc nb3 0 32 32)] [⟨nb3, cu8 (sumG constL initL b), 54, (0, 0)⟩]
  refine AL (AL (AE (AA _ (AD rfl) rfl ?_)))
  refine AA (I64 (32:Int)) (D4 AO rfl) rfl ?_
  refine AA (.bool (decide ((32:Int) < (64:Int)))) (AQ rfl rfl fun _ => DB _ _) rfl ?_
  refine AN (AF (C9 _ rfl (by decide) ?_))
  refine B4 (AF (B5 (AE (AA _ (AD rfl) rfl ?_))))
  refine AR (BZ 5 1 _ [(0, U8 (0:UInt8))] (cu8 ([(0:UInt8)])) AO AX CR rfl rfl rfl (by kernel_rfl)) rfl ?_
  rintro v1 L1 ⟨nb4, hnb4, rfl, rfl⟩
  show JL _ _ _ _ ((18, Slc nb4 0 1 1) :: _) [_, ⟨nb4, cu8 ([(0:UInt8)]), 5, (0, 0)⟩]
  refine AR (Step_appG8 43 5 ⟨nb3, 0, none⟩ 32 32 (sumG constL initL b) ([(0:UInt8)]) (some ⟨nb4, 0, none⟩) 1 1 33 AO CS rfl (DZ _ _ _) (SrcAt.mem (MemAt.ent 0 rfl (AM _))) rfl (by simp) (SrcAt.mem (MemAt.ent 1 rfl (AM _))) (by omega) (by omega) (by omega) (by unfold maxLen; omega) (by omega)) rfl ?_
  rintro v1 L1 ⟨nb5, sp2, cp2, hg2, rfl, rfl, ha5, ha6, ha7, ha8⟩
  show JL _ _ _ _ ((19, Slc nb5 0 33 cp2) :: _) [_, _, ⟨nb5, cu8 ((sumG constL initL b) ++ ([(0:UInt8)])) ++ sp2, 5, (0, 0)⟩]
  refine AA _ (AH rfl) rfl ?_
  refine AN (B1 (DF (B8 [false, false, true] ?_)))
  show K _ _ [_] _
  refine EN (.inr (1, (sumG constL initL b) ++ ([(0:UInt8)]), nb5, sp2, cp2)) ⟨by omega, by omega, by simp [zr8], (ha5).trans (by first | rfl | simp +arith), (ha6).trans (by first | rfl | simp +arith), by omega, ha8⟩ (by first | (simp; omega) | simp | (dsimp only; omega) | omega) (Sub.cons rfl (Sub.cons (E4 (by omega)) (Sub.nil))) rfl
 ·
  obtain ⟨hx0, hx1, hx2, ho, hx4, hx5, hx6⟩ := hx
  show JC _ _ _ [(2, .slice none 0 0), (3, Slc g1 0 (j + 32) cp1)] [⟨g1, cu8 o ++ sp1, 5, (0, 0)⟩]
  refine AL (AL (AE (AA _ (AD rfl) rfl ?_)))
  refine AA (I64 ((j:Int) + 32)) (Ev_lenX AO rfl (by omega)) rfl ?_
  refine AA (.bool (decide (((j:Int) + 32) < (64:Int)))) (AQ rfl rfl fun _ => DB _ _) rfl ?_
  refine AN (AF (CT (decide (((j:Int) + 32) < (64:Int))) rfl (fun hb1 => ?_) (fun hb1 => ?_)))
  ·
   have hp1 : ((j:Int) + 32) < (64:Int) := of_decide_eq_true hb1
   refine B4 (AF (B5 (AE (AA _ (AD rfl) rfl ?_))))
   refine AR (BZ 5 1 _ [(0, U8 (0:UInt8))] (cu8 ([(0:UInt8)])) AO AX CR rfl rfl rfl (by kernel_rfl)) rfl ?_
   rintro v1 L1 ⟨nb6, hnb6, rfl, rfl⟩
   show JL _ _ _ _ ((18, Slc nb6 0 1 1) :: _) [_, ⟨nb6, cu8 ([(0:UInt8)]), 5, (0, 0)⟩]
   refine AR (CY 43 5 [true, false] (Slc g1 0 (j + 32) cp1) (j + 32) o ([(0:UInt8)]) (some ⟨nb6, 0, none⟩) 1 1 (j + 33) AO CS rfl (.inr ⟨g1, sp1, cp1, rfl, rfl, (by first | exact ho | simp [ho]), hx4, (by omega), (by omega)⟩) rfl (by simp) (SrcAt.mem (MemAt.ent 1 rfl (AM _))) (by omega) (by unfold maxLen; omega) (by omega)) rfl ?_
   rintro v1 L1 ⟨nb7, sp3, cp3, hg3, rfl, rfl, ha9, ha10, ha11, ha12⟩
   show JL _ _ _ _ ((19, Slc nb7 0 (j + 33) cp3) :: _) [_, ⟨nb7, cu8 (o ++ ([(0:UInt8)])) ++ sp3, 5, (0, 0)⟩]
   refine AA _ (AH rfl) rfl ?_
   refine AN (B1 (DF (B8 [false, true] ?_)))
   show K _ _ [_] _
   refine EN (.inr (j + 1, o ++ ([(0:UInt8)]), nb7, sp3, cp3)) ⟨by omega, by omega, by rw [hx2, zr8_succ, List.append_assoc], (ha9).trans (by first | rfl | simp +arith), (ha10).trans (by first | rfl | simp +arith), by omega, ha12⟩ (by first | (simp; omega) | simp | (dsimp only; omega) | omega) (Sub.cons rfl (Sub.cons (E4 (by omega)) (Sub.nil))) rfl
  ·
   have hp1 : ¬ (((j:Int) + 32) < (64:Int)) := of_decide_eq_false hb1
   refine EB (BD (BD (CV (AF (AL (AE (AA _ (AD rfl) rfl ?_)))))))
   refine AA _ (AH rfl) rfl ?_
   refine AN (AF (BO (BP (Slc g1 0 (j + 32) cp1) (res1 Tryd.results147 (BT rfl)) fun w1 hw1 => ?_)))
   have e1 : j = 32 := by omega
   have ex : o = blkL b := by rw [blkL_big (by omega), hx2, e1]
   rw [ex] at hw1
   exact ⟨_, _, rfl, ⟨g1, sp1, cp1, slc_len (by omega), rfl, by omega, by omega, hx6⟩, hw1.sub (by simp) (by simp)⟩
end Go.Proofs.YtkdpdgpphpngeaaDoor
namespace Go.Proofs.YtkdpdgpphpngeaaDoor
open Go Go.Sx
set_option linter.unusedVariables false
set_option linter.unusedSimpArgs false
set_option maxRecDepth 100000
attribute [local irreducible] mid zr8 zr32 rotr wordL spreadL comprL cpN adN spN wrdN constL initL padL stN outN routN hashL sumG blkL xbN raN macL orN
theorem rblock_w (ao : Option Addr) (n cb : Nat) (b : List UInt8) (w : World) (hb : b.length = n) (hcb : ao = none → cb = 0) (hr : RdB w [] ao b) (hGr : GLr w) (hGi : GLi w) (hn : n ≤ 17592186044416) : Calls Tryd.prog 147 #[.slice ao n cb] w (Post w [] (fun v L => ∃ g sp cap, v = Slc g 0 64 cap ∧ L = [⟨g, cu8 (blkL b) ++ sp, 5, (0, 0)⟩] ∧ sp.length = cap - 64 ∧ 64 ≤ cap ∧ cap ≤ maxLen)) := by
  by_cases h : n ≤ 64
  · exact rblockS_c ao n cb b w hb hcb hr hGr hGi h
  · exact rblockB_c ao n cb b w hb hcb hr hGr hGi (by omega) hn

theorem rmac_c (ao : Option Addr) (n cb : Nat) (key : List UInt8) (ax : Option Addr) (m ct : Nat) (t : List UInt8) (w : World) (hb : key.length = n) (hcb : ao = none → cb = 0) (hn : n ≤ 17592186044416) (hr : RdB w [] ao key) (ht : t.length = m) (hm : m ≤ 1000000000) (hrt : RdB w [] ax t) (hGr : GLr w) (hGi : GLi w) : Calls Tryd.prog 92 #[.slice ao n cb, .slice ax m ct] w (Post w [] (fun v L => v = .agg (cu8 (macL key t)).toArray ∧ L = [])) := by
 have hmx : maxLen = 9223372036854775807 := rfl
 refine enter w [] 40 [] [.slice ao n cb, .slice ax m ct] Tryd.func92 rfl rfl (by simp) (B7 (by simp) (by simp) (by simp)) ?_
 show JC _ _ _ [(0, .slice ao n cb), (1, .slice ax m ct)] _
 refine AL (AE (AR (BJ _ (cu8 (zr8 32)) DQ (by kernel_rfl)) rfl ?_))
 rintro v1 L1 ⟨nb1, hnb1, rfl, rfl⟩
 show JL _ _ _ _ ((4, Ptr nb1 0) :: _) [⟨nb1, cu8 (zr8 32), 54, (0, 0)⟩]
 refine AN (AF (AL (AE (AA _ (AD rfl) rfl ?_))))
 refine AR (BG 147 [.slice ao n cb] _ (A0 [.slice ao n cb] Tryd.call147 rfl) (fun w1 hw1 => rblock_w ao n cb key w1 hb hcb (hr.at (M' := []) hw1 (by simp)) (GLr.at hw1 hGr) (GLi.at hw1 hGi) (by omega))) rfl ?_
 rintro v1 L1 ⟨_, ⟨nb2, sp1, cp1, rfl, rfl, hc1, hc2, hc3⟩, rfl⟩
 show JL _ _ _ _ ((11, Slc nb2 0 64 cp1) :: _) [_, ⟨nb2, cu8 (blkL key) ++ sp1, 5, (0, 0)⟩]
 refine AA _ (AH rfl) rfl ?_
 refine AN (AF (AL (AE (AA _ (AH rfl) rfl ?_))))
 refine AA _ (AH rfl) rfl ?_
 refine AN (AF (AL (AL (AE (AA _ (AH rfl) rfl ?_)))))
 refine AN (AF (B5 (EE (ι := (Unit) ⊕ (Nat × List UInt8 × Nat × List Value × Nat × List UInt8 × Nat × List Value × Nat)) (fun x => match x with | .inl _ => [(1, .slice ax m ct), (4, Ptr nb1 0), (5, Slc nb2 0 64 cp1), (6, .slice none 0 0), (7, .slice none 0 0), (8, I64 (0:Int))] | .inr ⟨k, o6, g6, sp6, cp6, o7, g7, sp7, cp7⟩ => [(1, .slice ax m ct), (4, Ptr nb1 0), (5, Slc nb2 0 64 cp1), (6, Slc g6 0 k cp6), (7, Slc g7 0 k cp7), (8, I64 ((k:Int)))]) (fun x => match x with | .inl _ => [⟨nb1, cu8 (zr8 32), 54, (0, 0)⟩, ⟨nb2, cu8 (blkL key) ++ sp1, 5, (0, 0)⟩] | .inr ⟨k, o6, g6, sp6, cp6, o7, g7, sp7, cp7⟩ => [⟨nb1, cu8 (zr8 32), 54, (0, 0)⟩, ⟨nb2, cu8 (blkL key) ++ sp1, 5, (0, 0)⟩, ⟨g6, cu8 o6 ++ sp6, 5, (0, 0)⟩, ⟨g7, cu8 o7 ++ sp7, 5, (0, 0)⟩]) (fun x => match x with | .inl _ => True | .inr ⟨k, o6, g6, sp6, cp6, o7, g7, sp7, cp7⟩ => 1 ≤ k ∧ k ≤ 64 ∧ o6 = raN (blkL key) 54 k ∧ o6.length = k ∧ sp6.length = cp6 - k ∧ k ≤ cp6 ∧ cp6 ≤ maxLen ∧ o7 = raN (blkL key) 92 k ∧ o7.length = k ∧ sp7.length = cp7 - k ∧ k ≤ cp7 ∧ cp7 ≤ maxLen) (fun x => match x with | .inl _ => 65 | .inr ⟨k, o6, g6, sp6, cp6, o7, g7, sp7, cp7⟩ => 64 - k) (.inl ()) trivial (Sub.cons rfl (Sub.cons rfl (Sub.cons rfl (Sub.cons rfl (Sub.cons rfl (Sub.cons rfl (Sub.nil))))))) rfl ?_)))
 rintro (_ | ⟨k, o6, g6, sp6, cp6, o7, g7, sp7, cp7⟩) hx
 ·
  obtain _ := hx
  show JC _ _ _ [(1, .slice ax m ct), (4, Ptr nb1 0), (5, Slc nb2 0 64 cp1), (6, .slice none 0 0), (7, .slice none 0 0), (8, I64 (0:Int))] [⟨nb1, cu8 (zr8 32), 54, (0, 0)⟩, ⟨nb2, cu8 (blkL key) ++ sp1, 5, (0, 0)⟩]
  refine AL (AL (AE (AA _ (AD rfl) rfl ?_)))
  refine AA (.bool (decide ((0:Int) < (64:Int)))) (AQ rfl rfl fun _ => DB _ _) rfl ?_
  refine AN (AF (C9 _ rfl (by decide) ?_))
  refine B4 (AF (AL (B5 (AL (AE (AA _ (AD rfl) rfl ?_))))))
  refine AA _ (AD rfl) rfl ?_
  refine AA _ (AD rfl) rfl ?_
  refine AA (Ptr nb2 0) (Ev_indexSl 5 1 0 AO AX rfl rfl (by omega) (by omega) (by omega)) rfl ?_
  refine AA (U8 (g8 (blkL key) 0)) (AK rfl (AV DU (MemAt.ent 1 rfl (A2 (Seg.get (g8_get (i := 0) (by rw [(EZ _)]; omega))))))) rfl ?_
  refine AA (U8 ((g8 (blkL key) 0) ^^^ (54:UInt8))) (AQ rfl rfl fun _ => bin_xor_u8 (g8 (blkL key) 0) (54:UInt8)) rfl ?_
  refine AR (BZ 5 1 _ [(0, U8 ((g8 (blkL key) 0) ^^^ (54:UInt8)))] (cu8 ([(g8 (blkL key) 0) ^^^ (54:UInt8)])) AO AX CR rfl rfl rfl (by kernel_rfl)) rfl ?_
  rintro v1 L1 ⟨nb3, hnb3, rfl, rfl⟩
  show JL _ _ _ _ ((22, Slc nb3 0 1 1) :: _) [_, _, ⟨nb3, cu8 ([(g8 (blkL key) 0) ^^^ (54:UInt8)]), 5, (0, 0)⟩]
  refine AR (CY 43 5 [false, false, false] (.slice none 0 0) 0 ([] : List UInt8) ([(g8 (blkL key) 0) ^^^ (54:UInt8)]) (some ⟨nb3, 0, none⟩) 1 1 1 AO CS rfl (.inl ⟨rfl, rfl, rfl, rfl, by omega⟩) rfl (by simp) (SrcAt.mem (MemAt.ent 2 rfl (AM _))) (by omega) (by unfold maxLen; omega) (by omega)) rfl ?_
  rintro v1 L1 ⟨nb4, sp2, cp2, hg1, rfl, rfl, ha1, ha2, ha3, ha4⟩
  show JL _ _ _ _ ((23, Slc nb4 0 1 cp2) :: _) [_, _, _, ⟨nb4, cu8 (([] : List UInt8) ++ ([(g8 (blkL key) 0) ^^^ (54:UInt8)])) ++ sp2, 5, (0, 0)⟩]
  refine AA _ (AH rfl) rfl ?_
  refine AN (AF (AE (AA _ (AD rfl) rfl ?_)))
  refine AA _ (AD rfl) rfl ?_
  refine AA _ (AD rfl) rfl ?_
  refine AA (Ptr nb2 0) (Ev_indexSl 5 1 0 AO AX rfl rfl (by omega) (by omega) (by omega)) rfl ?_
  refine AA (U8 (g8 (blkL key) 0)) (AK rfl (AV DU (MemAt.ent 1 rfl (A2 (Seg.get (g8_get (i := 0) (by rw [(EZ _)]; omega))))))) rfl ?_
  refine AA (U8 ((g8 (blkL key) 0) ^^^ (92:UInt8))) (AQ rfl rfl fun _ => bin_xor_u8 (g8 (blkL key) 0) (92:UInt8)) rfl ?_
  refine AR (BZ 5 1 _ [(0, U8 ((g8 (blkL key) 0) ^^^ (92:UInt8)))] (cu8 ([(g8 (blkL key) 0) ^^^ (92:UInt8)])) AO AX CR rfl rfl rfl (by kernel_rfl)) rfl ?_
  rintro v1 L1 ⟨nb5, hnb5, rfl, rfl⟩
  show JL _ _ _ _ ((30, Slc nb5 0 1 1) :: _) [_, _, _, _, ⟨nb5, cu8 ([(g8 (blkL key) 0) ^^^ (92:UInt8)]), 5, (0, 0)⟩]
  refine AR (CY 43 5 [false, false, false, false, false] (.slice none 0 0) 0 ([] : List UInt8) ([(g8 (blkL key) 0) ^^^ (92:UInt8)]) (some ⟨nb5, 0, none⟩) 1 1 1 AO CS rfl (.inl ⟨rfl, rfl, rfl, rfl, by omega⟩) rfl (by simp) (SrcAt.mem (MemAt.ent 4 rfl (AM _))) (by omega) (by unfold maxLen; omega) (by omega)) rfl ?_
  rintro v1 L1 ⟨nb6, sp3, cp3, hg2, rfl, rfl, ha5, ha6, ha7, ha8⟩
  show JL _ _ _ _ ((31, Slc nb6 0 1 cp3) :: _) [_, _, _, _, _, ⟨nb6, cu8 (([] : List UInt8) ++ ([(g8 (blkL key) 0) ^^^ (92:UInt8)])) ++ sp3, 5, (0, 0)⟩]
  refine AA _ (AH rfl) rfl ?_
  refine AN (B1 (AF (AE (AA _ (AD rfl) rfl ?_))))
  refine AA (I64 (1:Int)) (AQ rfl rfl fun _ => DI _ _ (1:Int) (by omega) (by omega)) rfl ?_
  refine AA _ (AH rfl) rfl ?_
  refine AN (DF (B8 [true, true, false, true, false, true] ?_))
  show K _ _ [_, _, _, _] _
  refine EN (.inr (1, ([] : List UInt8) ++ ([(g8 (blkL key) 0) ^^^ (54:UInt8)]), nb4, sp2, cp2, ([] : List UInt8) ++ ([(g8 (blkL key) 0) ^^^ (92:UInt8)]), nb6, sp3, cp3)) ⟨by omega, by omega, by rw [raN, raN], (ha1).trans (by first | rfl | simp +arith), (ha2).trans (by first | rfl | simp +arith), by omega, ha4, by rw [raN, raN], (ha5).trans (by first | rfl | simp +arith), (ha6).trans (by first | rfl | simp +arith), by omega, ha8⟩ (by first | (simp; omega) | simp | (dsimp only; omega) | omega) (Sub.cons rfl (Sub.cons rfl (Sub.cons rfl (Sub.cons rfl (Sub.cons rfl (Sub.cons rfl (Sub.nil))))))) rfl
 ·
  obtain ⟨hx0, hx1, hx2, ho6, hs6, hy6, hz6, hx3, ho7, hs7, hy7, hz7⟩ := hx
  show JC _ _ _ [(1, .slice ax m ct), (4, Ptr nb1 0), (5, Slc nb2 0 64 cp1), (6, Slc g6 0 k cp6), (7, Slc g7 0 k cp7), (8, I64 ((k:Int)))] [⟨nb1, cu8 (zr8 32), 54, (0, 0)⟩, ⟨nb2, cu8 (blkL key) ++ sp1, 5, (0, 0)⟩, ⟨g6, cu8 o6 ++ sp6, 5, (0, 0)⟩, ⟨g7, cu8 o7 ++ sp7, 5, (0, 0)⟩]
  refine AL (AL (AE (AA _ (AD rfl) rfl ?_)))
  refine AA (.bool (decide (((k:Int)) < (64:Int)))) (AQ rfl rfl fun _ => DB _ _) rfl ?_
  refine AN (AF (CT (decide (((k:Int)) < (64:Int))) rfl (fun hb1 => ?_) (fun hb1 => ?_)))
  ·
   have hp1 : ((k:Int)) < (64:Int) := of_decide_eq_true hb1
   refine B4 (AF (AL (B5 (AL (AE (AA _ (AD rfl) rfl ?_))))))
   refine AA _ (AD rfl) rfl ?_
   refine AA _ (AD rfl) rfl ?_
   refine AA (Ptr nb2 k) (Ev_indexSl 5 1 k AO AX rfl rfl (by omega) (by omega) (by omega)) rfl ?_
   refine AA (U8 (g8 (blkL key) k)) (AK rfl (AV DU (MemAt.ent 1 rfl (A2 (Seg.get (g8_get (i := k) (by rw [(EZ _)]; omega))))))) rfl ?_
   refine AA (U8 ((g8 (blkL key) k) ^^^ (54:UInt8))) (AQ rfl rfl fun _ => bin_xor_u8 (g8 (blkL key) k) (54:UInt8)) rfl ?_
   refine AR (BZ 5 1 _ [(0, U8 ((g8 (blkL key) k) ^^^ (54:UInt8)))] (cu8 ([(g8 (blkL key) k) ^^^ (54:UInt8)])) AO AX CR rfl rfl rfl (by kernel_rfl)) rfl ?_
   rintro v1 L1 ⟨nb7, hnb7, rfl, rfl⟩
   show JL _ _ _ _ ((22, Slc nb7 0 1 1) :: _) [_, _, _, _, ⟨nb7, cu8 ([(g8 (blkL key) k) ^^^ (54:UInt8)]), 5, (0, 0)⟩]
   refine AR (CY 43 5 [false, false, true, false, false] (Slc g6 0 k cp6) k o6 ([(g8 (blkL key) k) ^^^ (54:UInt8)]) (some ⟨nb7, 0, none⟩) 1 1 (k + 1) AO CS rfl (.inr ⟨g6, sp6, cp6, rfl, rfl, (by first | exact ho6 | simp [ho6]), hs6, (by omega), (by omega)⟩) rfl (by simp) (SrcAt.mem (MemAt.ent 4 rfl (AM _))) (by omega) (by unfold maxLen; omega) (by omega)) rfl ?_
   rintro v1 L1 ⟨nb8, sp4, cp4, hg3, rfl, rfl, ha9, ha10, ha11, ha12⟩
   show JL _ _ _ _ ((23, Slc nb8 0 (k + 1) cp4) :: _) [_, _, _, _, ⟨nb8, cu8 (o6 ++ ([(g8 (blkL key) k) ^^^ (54:UInt8)])) ++ sp4, 5, (0, 0)⟩]
   refine AA _ (AH rfl) rfl ?_
   refine AN (AF (AE (AA _ (AD rfl) rfl ?_)))
   refine AA _ (AD rfl) rfl ?_
   refine AA _ (AD rfl) rfl ?_
   refine AA (Ptr nb2 k) (Ev_indexSl 5 1 k AO AX rfl rfl (by omega) (by omega) (by omega)) rfl ?_
   refine AA (U8 (g8 (blkL key) k)) (AK rfl (AV DU (MemAt.ent 1 rfl (A2 (Seg.get (g8_get (i := k) (by rw [(EZ _)]; omega))))))) rfl ?_
   refine AA (U8 ((g8 (blkL key) k) ^^^ (92:UInt8))) (AQ rfl rfl fun _ => bin_xor_u8 (g8 (blkL key) k) (92:UInt8)) rfl ?_
   refine AR (BZ 5 1 _ [(0, U8 ((g8 (blkL key) k) ^^^ (92:UInt8)))] (cu8 ([(g8 (blkL key) k) ^^^ (92:UInt8)])) AO AX CR rfl rfl rfl (by kernel_rfl)) rfl ?_
   rintro v1 L1 ⟨nb9, hnb9, rfl, rfl⟩
   show JL _ _ _ _ ((30, Slc nb9 0 1 1) :: _) [_, _, _, _, _, ⟨nb9, cu8 ([(g8 (blkL key) k) ^^^ (92:UInt8)]), 5, (0, 0)⟩]
   refine AR (CY 43 5 [false, false, true, false, false, false] (Slc g7 0 k cp7) k o7 ([(g8 (blkL key) k) ^^^ (92:UInt8)]) (some ⟨nb9, 0, none⟩) 1 1 (k + 1) AO CS rfl (.inr ⟨g7, sp7, cp7, rfl, rfl, (by first | exact ho7 | simp [ho7]), hs7, (by omega), (by omega)⟩) rfl (by simp) (SrcAt.mem (MemAt.ent 5 rfl (AM _))) (by omega) (by unfold maxLen; omega) (by omega)) rfl ?_
   rintro v1 L1 ⟨nb10, sp5, cp5, hg4, rfl, rfl, ha13, ha14, ha15, ha16⟩
   show JL _ _ _ _ ((31, Slc nb10 0 (k + 1) cp5) :: _) [_, _, _, _, _, ⟨nb10, cu8 (o7 ++ ([(g8 (blkL key) k) ^^^ (92:UInt8)])) ++ sp5, 5, (0, 0)⟩]
   refine AA _ (AH rfl) rfl ?_
   refine AN (B1 (AF (AE (AA _ (AD rfl) rfl ?_))))
   refine AA (I64 ((k:Int) + 1)) (AQ rfl rfl fun _ => DI _ _ ((k:Int) + 1) (by omega) (by omega)) rfl ?_
   refine AA _ (AH rfl) rfl ?_
   refine AN (DF (B8 [true, true, false, true, false, true] ?_))
   show K _ _ [_, _, _, _] _
   refine EN (.inr (k + 1, o6 ++ ([(g8 (blkL key) k) ^^^ (54:UInt8)]), nb8, sp4, cp4, o7 ++ ([(g8 (blkL key) k) ^^^ (92:UInt8)]), nb10, sp5, cp5)) ⟨by omega, by omega, by rw [raN, ← hx2], (ha9).trans (by first | rfl | simp +arith), (ha10).trans (by first | rfl | simp +arith), by omega, ha12, by rw [raN, ← hx3], (ha13).trans (by first | rfl | simp +arith), (ha14).trans (by first | rfl | simp +arith), by omega, ha16⟩ (by first | (simp; omega) | simp | (dsimp only; omega) | omega) (Sub.cons rfl (Sub.cons rfl (Sub.cons rfl (Sub.cons rfl (Sub.cons rfl (Sub.cons rfl (Sub.nil))))))) rfl
  ·
   have hp1 : ¬ (((k:Int)) < (64:Int)) := of_decide_eq_false hb1
   refine EB (BD (BD (CV (AF (AL (AE (AA _ (AD rfl) rfl ?_)))))))
   refine AA _ (AD rfl) rfl ?_
   refine AR (CY 43 5 [false, false, true, false] (Slc g6 0 k cp6) k o6 t ax m ct (k + m) AO CS rfl (.inr ⟨g6, sp6, cp6, rfl, rfl, (by first | exact ho6 | simp [ho6]), hs6, (by omega), (by omega)⟩) rfl (by first | exact ht | simp [ht]; try omega) (hrt.src) (by omega) (by unfold maxLen; omega) (by omega)) rfl ?_
   rintro v1 L1 ⟨nb11, sp6, cp6, hg5, rfl, rfl, ha17, ha18, ha19, ha20⟩
   show JL _ _ _ _ ((34, Slc nb11 0 (k + m) cp6) :: _) [_, _, _, ⟨nb11, cu8 (o6 ++ t) ++ sp6, 5, (0, 0)⟩]
   refine AR (A3 148 [Slc nb11 0 (k + m) cp6] (.agg (cu8 (sumG constL initL (o6 ++ t))).toArray) (A0 [Slc nb11 0 (k + m) cp6] Tryd.call148 rfl) (fun w1 hw1 => rsum_c (some ⟨nb11, 0, none⟩) (k + m) cp6 (o6 ++ t) w1 ha17 (by omega) (RdB.of hw1 (MemAt.ent 3 rfl (A2 (AM _))) (by simp)) (GLr.at hw1 hGr) (GLi.at hw1 hGi))) rfl ?_
   rintro v1 L1 ⟨rfl, rfl⟩
   show JL _ _ _ _ ((35, .agg (cu8 (sumG constL initL (o6 ++ t))).toArray) :: _) [_, _, _, _]
   refine AR (BJ _ (cu8 (zr8 32)) DQ (by kernel_rfl)) rfl ?_
   rintro v1 L1 ⟨nb12, hnb12, rfl, rfl⟩
   show JL _ _ _ _ ((9, Ptr nb12 0) :: _) [_, _, _, _, ⟨nb12, cu8 (zr8 32), 54, (0, 0)⟩]
   refine AR (A6 4 nb12 0 32 (cu8 (zr8 32)) 54 (.agg (cu8 (sumG constL initL (o6 ++ t))).toArray) (cu8 (sumG constL initL (o6 ++ t))) (cu8 (sumG constL initL (o6 ++ t))) rfl rfl rfl (by first | rfl | simp) CD (CG (DZ _ _ _)) (by first | exact CK | exact DW | exact DT | (simp [cu8, cu32, cu64, Value.oneCell']; done)) (by simp [(AP 32)]) (BF (by simp [(AP 32), (DZ _ _ _)]))) rfl ?_
   rintro v1 L1 ⟨rfl, rfl⟩
   show JL _ _ _ _ _ [_, _, _, _, ⟨nb12, cu8 (sumG constL initL (o6 ++ t)), 54, (0, 0)⟩]
   refine AN (AF (AL (AE (AA _ (AD rfl) rfl ?_))))
   refine AA (Slc nb12 0 32 32) (BX 32 5 1 0 32 0 32 BL AX rfl rfl rfl (by omega) (by omega) (by omega) (by omega) (by omega) 32 (by omega)) rfl ?_
   refine AR (CY 43 5 [false, false, true, false, false] (Slc g7 0 k cp7) k o7 (sumG constL initL (o6 ++ t)) (some ⟨nb12, 0, none⟩) 32 32 (k + 32) AO CS rfl (.inr ⟨g7, sp7, cp7, rfl, rfl, (by first | exact ho7 | simp [ho7]), hs7, (by omega), (by omega)⟩) rfl (by first | exact (DZ _ _ _) | simp [(DZ _ _ _)]; try omega) (SrcAt.mem (MemAt.ent 4 rfl (AM _))) (by omega) (by unfold maxLen; omega) (by omega)) rfl ?_
   rintro v1 L1 ⟨nb13, sp7, cp7, hg6, rfl, rfl, ha21, ha22, ha23, ha24⟩
   show JL _ _ _ _ ((38, Slc nb13 0 (k + 32) cp7) :: _) [_, _, _, _, ⟨nb13, cu8 (o7 ++ (sumG constL initL (o6 ++ t))) ++ sp7, 5, (0, 0)⟩]
   refine AR (A3 148 [Slc nb13 0 (k + 32) cp7] (.agg (cu8 (sumG constL initL (o7 ++ (sumG constL initL (o6 ++ t))))).toArray) (A0 [Slc nb13 0 (k + 32) cp7] Tryd.call148 rfl) (fun w1 hw1 => rsum_c (some ⟨nb13, 0, none⟩) (k + 32) cp7 (o7 ++ (sumG constL initL (o6 ++ t))) w1 ha21 (by omega) (RdB.of hw1 (MemAt.ent 4 rfl (A2 (AM _))) (by simp)) (GLr.at hw1 hGr) (GLi.at hw1 hGi))) rfl ?_
   rintro v1 L1 ⟨rfl, rfl⟩
   show JL _ _ _ _ ((39, .agg (cu8 (sumG constL initL (o7 ++ (sumG constL initL (o6 ++ t))))).toArray) :: _) [_, _, _, _, _]
   refine AR (A6 0 nb1 0 32 (cu8 (zr8 32)) 54 (.agg (cu8 (sumG constL initL (o7 ++ (sumG constL initL (o6 ++ t))))).toArray) (cu8 (sumG constL initL (o7 ++ (sumG constL initL (o6 ++ t))))) (cu8 (sumG constL initL (o7 ++ (sumG constL initL (o6 ++ t))))) rfl rfl rfl (by first | rfl | simp) CD (CG (DZ _ _ _)) (by first | exact CK | exact DW | exact DT | (simp [cu8, cu32, cu64, Value.oneCell']; done)) (by simp [(AP 32)]) (BF (by simp [(AP 32), (DZ _ _ _)]))) rfl ?_
   rintro v1 L1 ⟨rfl, rfl⟩
   show JL _ _ _ _ _ [⟨nb1, cu8 (sumG constL initL (o7 ++ (sumG constL initL (o6 ++ t)))), 54, (0, 0)⟩, _, _, _, _]
   refine AN (AF (BO (BP (.agg (cu8 (sumG constL initL (o7 ++ (sumG constL initL (o6 ++ t))))).toArray) (res1 Tryd.results92 (ED rfl (BH D0 CD (CG (DZ _ _ _)) (MemAt.ent 0 rfl (AM _))))) fun w1 hw1 => ?_)))
   have e1 : k = 64 := by omega
   subst e1
   refine ⟨_, [], rfl, ⟨?_, rfl⟩, hw1.sub (by simp) (by simp)⟩
   rw [macL, hx2, hx3, raN_xbN _ (EZ _), raN_xbN _ (EZ _)]
theorem same_c (a1 a2 : Option Addr) (n1 n2 c1 c2 : Nat) (x y : List UInt8) (w : World) (hx : x.length = n1) (hy : y.length = n2) (h1 : RdB w [] a1 x) (h2 : RdB w [] a2 y) (hi1 : n1 ≤ 9223372036854775807) (hi2 : n2 ≤ 9223372036854775807) : Calls Tryd.prog 151 #[.slice a1 n1 c1, .slice a2 n2 c2] w (Post w [] (fun v L => v = .bool (decide (x = y)) ∧ L = [])) := by
 refine enter w [] 31 [] [.slice a1 n1 c1, .slice a2 n2 c2] Tryd.func151 rfl rfl (by simp) (B7 (by simp) (by simp) (by simp)) ?_
 show JC _ _ _ [(0, .slice a1 n1 c1), (1, .slice a2 n2 c2)] _
 refine AL (AE (AA _ (AH rfl) rfl ?_))
 refine AN (AF (AL (AL (AE (AA _ (AD rfl) rfl ?_)))))
 refine AA (I64 ((n1:Int))) (D4 AO rfl) rfl ?_
 refine AA _ (AD rfl) rfl ?_
 refine AA (I64 ((n2:Int))) (D4 AO rfl) rfl ?_
 refine AA (.bool (decide (((n1:Int)) ≠ ((n2:Int))))) (AQ rfl rfl fun _ => E8 _ _) rfl ?_
 refine AN (AF (CT (decide (((n1:Int)) ≠ ((n2:Int)))) rfl (fun hb1 => ?_) (fun hb1 => ?_)))
 ·
  have hp1 : ((n1:Int)) ≠ ((n2:Int)) := of_decide_eq_true hb1
  refine AL (AE (AA _ (AH rfl) rfl ?_))
  refine AN (AF (BO (A5 (BP (.bool false) (res1 Tryd.results151 (BT rfl)) fun w1 hw1 => ?_))))
  refine ⟨_, [], rfl, ⟨?_, rfl⟩, hw1.sub (by simp) (by simp)⟩
  have hne : x ≠ y := fun h => by subst h; omega
  rw [decide_eq_false hne]
 ·
  have hp1 : ¬ (((n1:Int)) ≠ ((n2:Int))) := of_decide_eq_false hb1
  refine B4 (AF (AL (AE (AA _ (AH rfl) rfl ?_))))
  refine AN (AF (AL (AL (AE (AA _ (AD rfl) rfl ?_)))))
  refine AA (I64 ((n1:Int))) (D4 AO rfl) rfl ?_
  refine AA _ (AD rfl) rfl ?_
  refine AN (AF (B5 (EE (ι := Nat × UInt8) (fun ⟨i, a⟩ => [(0, .slice a1 n1 c1), (1, .slice a2 n2 c2), (4, .bool false), (13, I64 ((n1:Int))), (14, I64 ((i:Int))), (5, U8 a)]) (fun ⟨i, a⟩ => []) (fun ⟨i, a⟩ => i ≤ n1 ∧ a = orN x y i) (fun ⟨i, a⟩ => n1 - i) (0, 0) ⟨by omega, by rw [orN]⟩ (Sub.cons rfl (Sub.cons rfl (Sub.cons rfl (Sub.cons rfl (Sub.cons rfl (Sub.cons rfl (Sub.nil))))))) rfl ?_)))
  rintro ⟨i, a⟩ ⟨hx1, hx2⟩
  show JC _ _ _ [(0, .slice a1 n1 c1), (1, .slice a2 n2 c2), (4, .bool false), (13, I64 ((n1:Int))), (14, I64 ((i:Int))), (5, U8 a)] []
  refine AL (AE (AA (.bool (decide (((i:Int)) < ((n1:Int))))) (AQ rfl rfl fun _ => DB _ _) rfl ?_))
  refine AN (AF (AL (CT (decide (((i:Int)) < ((n1:Int)))) rfl (fun hb2 => ?_) (fun hb2 => ?_))))
  ·
   have hp2 : ((i:Int)) < ((n1:Int)) := of_decide_eq_true hb2
   refine B4 (AF (AL (B5 (AL (AE (AA _ (AD rfl) rfl ?_))))))
   refine AA _ (AH rfl) rfl ?_
   refine AN (AF ?_)
   obtain ⟨bz1, oz1, hz1, hm1⟩ := h1.pos (by rw [hx]; omega)
   obtain ⟨bz2, oz2, hz2, hm2⟩ := h2.pos (by rw [hy]; omega)
   refine CQ 31 1 [(0, U8 a), (1, .slice a1 n1 c1), (2, I64 ((i:Int))), (3, Ptr bz1 (i + oz1)), (4, U8 (g8 x i)), (5, .slice a2 n2 c2), (6, I64 ((i:Int))), (7, Ptr bz2 (i + oz2)), (8, U8 (g8 y i)), (9, U8 ((g8 x i) ^^^ (g8 y i))), (10, U8 (a ||| ((g8 x i) ^^^ (g8 y i)))), (11, U8 (a ||| ((g8 x i) ^^^ (g8 y i))))] BQ rfl (by decide +kernel) ?_
   refine CZ ⟨[], [0, 1, 2, 3, 4, 5, 6, 7, 8, 9, 10, 11], [], [0, 1, 2, 3, 4, 5, 6, 7, 8, 9, 10, 11], []⟩ rfl rfl (by decide +kernel) rfl ⟨⟨_, rfl, AB rfl (AD rfl)⟩, ⟨_, rfl, AB rfl (AD rfl)⟩, ⟨_, rfl, AB rfl (AD rfl)⟩, ⟨_, rfl, AB rfl (CW 5 1 (i + oz1) AO AX rfl hz1 rfl (by omega) (by omega) (by omega))⟩, ⟨_, rfl, AB rfl (AK rfl (AV DU (CU (MemAt.base hm1.1 hm1.2.1 hm1.2.2) (Seg.get (g8_get (i := i) (by rw [hx]; omega))) (by omega))))⟩, ⟨_, rfl, AB rfl (AD rfl)⟩, ⟨_, rfl, AB rfl (AD rfl)⟩, ⟨_, rfl, AB rfl (CW 5 1 (i + oz2) AO AX rfl hz2 rfl (by omega) (by omega) (by omega))⟩, ⟨_, rfl, AB rfl (AK rfl (AV DU (CU (MemAt.base hm2.1 hm2.2.1 hm2.2.2) (Seg.get (g8_get (i := i) (by rw [hy]; omega))) (by omega))))⟩, ⟨_, rfl, AB rfl (AQ rfl rfl fun _ => bin_xor_u8 (g8 x i) (g8 y i))⟩, ⟨_, rfl, AB rfl (AQ rfl rfl fun _ => bin_or_u8 a ((g8 x i) ^^^ (g8 y i)))⟩, ⟨_, rfl, AB rfl (AH rfl)⟩, trivial⟩ ?_
   refine CC (F' := [(17, U8 a), (18, .slice a1 n1 c1), (19, I64 ((i:Int))), (20, Ptr bz1 (i + oz1)), (21, U8 (g8 x i)), (22, .slice a2 n2 c2), (23, I64 ((i:Int))), (24, Ptr bz2 (i + oz2)), (25, U8 (g8 y i)), (26, U8 ((g8 x i) ^^^ (g8 y i))), (27, U8 (a ||| ((g8 x i) ^^^ (g8 y i)))), (5, U8 (a ||| ((g8 x i) ^^^ (g8 y i)))), (0, .slice a1 n1 c1), (1, .slice a2 n2 c2), (4, .bool false), (13, I64 ((n1:Int))), (14, I64 ((i:Int))), (15, .bool (decide (((i:Int)) < ((n1:Int))))), (16, I64 ((i:Int))), (6, I64 ((i:Int)))]) (by kernel_rfl) ?_
   refine B1 (AF (AE (AA (I64 ((i:Int) + 1)) (AQ rfl rfl fun _ => DI _ _ ((i:Int) + 1) (by omega) (by omega)) rfl ?_)))
   refine AA _ (AD rfl) rfl ?_
   refine AN (DF (EN (i + 1, a ||| ((g8 x i) ^^^ (g8 y i))) ⟨by omega, by rw [orN, ← hx2]⟩ (by first | (simp; omega) | simp | (dsimp only; omega) | omega) (Sub.cons rfl (Sub.cons rfl (Sub.cons rfl (Sub.cons rfl (Sub.cons rfl (Sub.cons rfl (Sub.nil))))))) rfl))
  ·
   have hp2 : ¬ (((i:Int)) < ((n1:Int))) := of_decide_eq_false hb2
   refine EB (BD (BD (CV (AF (AL (AE (AA _ (AD rfl) rfl ?_)))))))
   refine AA (.bool (decide (a = (0:UInt8)))) (AQ rfl rfl fun _ => bin_eql_u8 a (0:UInt8)) rfl ?_
   refine AA _ (AH rfl) rfl ?_
   refine AN (AF (BO (BP (.bool (decide (a = (0:UInt8)))) (res1 Tryd.results151 (BT rfl)) fun w1 hw1 => ?_)))
   refine ⟨_, [], rfl, ⟨?_, rfl⟩, hw1.sub (by simp) (by simp)⟩
   have e1 : i = n1 := by omega
   rw [hx2, e1, orN_same hx (by omega)]
end Go.Proofs.YtkdpdgpphpngeaaDoor
namespace Go.Proofs.YtkdpdgpphpngeaaDoor
open Go Go.Sx
set_option linter.unusedVariables false
set_option linter.unusedSimpArgs false
set_option maxRecDepth 100000
attribute [local irreducible] mid zr8 zr32 rotr wordL spreadL comprL cpN adN spN wrdN constL initL padL stN outN routN hashL sumG blkL xbN raN macL orN
theorem check_c (am : Option Addr) (m cm : Nat) (mm : List UInt8) (ao : Option Addr) (n cb : Nat) (key : List UInt8) (b c : Nat) (vs : List Value) (ls : List (List UInt8)) (w : World) (hm : mm.length = m) (hmi : m ≤ 9223372036854775807) (hrm : RdB w [] am mm) (hb : key.length = n) (hcb : ao = none → cb = 0) (hn : n ≤ 17592186044416) (hr : RdB w [] ao key) (hk : 1 ≤ ls.length) (hc : ls.length ≤ c) (hk2 : ls.length ≤ 1000) (hp : Parts w b vs ls) (hs : ls.flatten.length ≤ 100000000) (hG : GLs w) : Calls Tryd.prog 107 #[.slice am m cm, .slice ao n cb, .slice (some ⟨b, 0, none⟩) ls.length c] w (Post w [] (fun v L => v = .bool (decide (mm = macL key ls.flatten) || decide (mm = mid (macL key ls.flatten) 0 16)) ∧ L = [])) := by
  refine enter w [] 23 [] [.slice am m cm, .slice ao n cb, .slice (some ⟨b, 0, none⟩) ls.length c] Tryd.func107 rfl rfl (by simp) (B7 (by simp) (by simp) (by simp)) ?_
  show JC _ _ _ [(0, .slice am m cm), (1, .slice ao n cb), (2, .slice (some ⟨b, 0, none⟩) ls.length c)] _
  refine AL (AE (AA _ (AH rfl) rfl ?_))
  refine AN (AF (AL (AE (AA _ (AD rfl) rfl ?_))))
  refine AA _ (AD rfl) rfl ?_
  refine AR (A3 145 [.slice ao n cb, .slice (some ⟨b, 0, none⟩) ls.length c] (.agg (cu8 (macL key ls.flatten)).toArray) (A0 [.slice ao n cb, .slice (some ⟨b, 0, none⟩) ls.length c] Tryd.call145 rfl) (fun w1 hw1 => mac_c ao n cb key b c vs ls w1 hb hcb (by omega) (hr.at (M' := []) hw1 (by simp)) hk hc hk2 (hp.at hw1 rfl (by omega)) hs (hG.at hw1))) rfl ?_
  rintro v1 L1 ⟨rfl, rfl⟩
  show JL _ _ _ _ ((10, .agg (cu8 (macL key ls.flatten)).toArray) :: _) []
  refine AR (BJ _ (cu8 (zr8 32)) DQ (by kernel_rfl)) rfl ?_
  rintro v1 L1 ⟨nb1, hnb1, rfl, rfl⟩
  show JL _ _ _ _ ((7, Ptr nb1 0) :: _) [⟨nb1, cu8 (zr8 32), 54, (0, 0)⟩]
  refine AR (A6 0 nb1 0 32 (cu8 (zr8 32)) 54 (.agg (cu8 (macL key ls.flatten)).toArray) (cu8 (macL key ls.flatten)) (cu8 (macL key ls.flatten)) rfl rfl rfl (by first | rfl | simp) CD (CG (C6 _ _)) (by first | exact CK | exact DW | exact DT | (simp [cu8, cu32, cu64, Value.oneCell']; done)) (by simp [(AP 32)]) (BF (by simp [(AP 32), (C6 _ _)]))) rfl ?_
  rintro v1 L1 ⟨rfl, rfl⟩
  show JL _ _ _ _ _ [⟨nb1, cu8 (macL key ls.flatten), 54, (0, 0)⟩]
  refine AN (AF (AL (AL (AE (AA _ (AD rfl) rfl ?_)))))
  refine AA (I64 ((m:Int))) (D4 AO rfl) rfl ?_
  refine AN (AF (B5 (AL (AE (AA (.bool (decide (((m:Int)) = (16:Int)))) (AQ rfl rfl fun _ => DD _ _) rfl ?_)))))
  refine AA _ (AH rfl) rfl ?_
  refine AN (AF (CT (decide (((m:Int)) = (16:Int))) rfl (fun hb1 => ?_) (fun hb1 => ?_)))
  ·
    have hp1 : ((m:Int)) = (16:Int) := of_decide_eq_true hb1
    refine AL (AE (AA _ (AD rfl) rfl ?_))
    refine AA (Slc nb1 0 16 32) (BX 32 5 1 0 16 0 32 BL AX rfl rfl rfl (by omega) (by omega) (by omega) (by omega) (by omega) 16 (by omega)) rfl ?_
    have hl1 : (mid (macL key ls.flatten) 0 16).length = 16 := EH (by rw [(C6 _ _)]; omega)
    refine AR (A3 151 [.slice am m cm, Slc nb1 0 16 32] (.bool (decide (mm = (mid (macL key ls.flatten) 0 16)))) (A0 [.slice am m cm, Slc nb1 0 16 32] Tryd.call151 rfl) (fun w1 hw1 => same_c am (some ⟨nb1, 0, none⟩) m 16 cm 32 mm (mid (macL key ls.flatten) 0 16) w1 hm hl1 (hrm.at (M' := []) hw1 (by simp)) (RdB.of hw1 (MemAt.ent 0 rfl (segm_u8 0 16 (by rw [(C6 _ _)]; omega))) (by simp)) (by omega) (by omega))) rfl ?_
    rintro v1 L1 ⟨rfl, rfl⟩
    show JL _ _ _ _ ((17, .bool (decide (mm = (mid (macL key ls.flatten) 0 16)))) :: _) [_]
    refine AA _ (AH rfl) rfl ?_
    refine AN (AF (BO (C8 (A5 (BP (.bool (decide (mm = (mid (macL key ls.flatten) 0 16)))) (res1 Tryd.results107 (BT rfl)) fun w1 hw1 => ?_)))))
    refine ⟨_, [], rfl, ⟨?_, rfl⟩, hw1.sub (by simp) (by simp)⟩
    have hl1 : (macL key ls.flatten).length = 32 := C6 _ _
    have hl2 : (mid (macL key ls.flatten) 0 16).length = 16 := EH (by rw [hl1]; omega)
    first
    | (have hne : ¬ mm = macL key ls.flatten := fun h => by rw [← h] at hl1; omega
       rw [decide_eq_false hne, Bool.false_or]; done)
    | (have hne : ¬ mm = mid (macL key ls.flatten) 0 16 := fun h => by rw [← h] at hl2; omega
       rw [decide_eq_false hne, Bool.or_false]; done)
    | (have hne : ¬ mm = macL key ls.flatten := fun h => by rw [← h] at hl1; omega
       have hne2 : ¬ mm = mid (macL key ls.flatten) 0 16 := fun h => by rw [← h] at hl2; omega
       rw [decide_eq_false hne, decide_eq_false hne2]; rfl)
  ·
    have hp1 : ¬ (((m:Int)) = (16:Int)) := of_decide_eq_false hb1
    refine AL (AE (AA (.bool (decide (((m:Int)) = (32:Int)))) (AQ rfl rfl fun _ => DD _ _) rfl ?_))
    refine AA _ (AH rfl) rfl ?_
    refine AN (AF (CT (decide (((m:Int)) = (32:Int))) rfl (fun hb2 => ?_) (fun hb2 => ?_)))
    ·
      have hp2 : ((m:Int)) = (32:Int) := of_decide_eq_true hb2
      refine AL (AE (AA _ (AD rfl) rfl ?_))
      refine AA (Slc nb1 0 32 32) (BX 32 5 1 0 32 0 32 BL AX rfl rfl rfl (by omega) (by omega) (by omega) (by omega) (by omega) 32 (by omega)) rfl ?_
      refine AR (A3 151 [.slice am m cm, Slc nb1 0 32 32] (.bool (decide (mm = (macL key ls.flatten)))) (A0 [.slice am m cm, Slc nb1 0 32 32] Tryd.call151 rfl) (fun w1 hw1 => same_c am (some ⟨nb1, 0, none⟩) m 32 cm 32 mm (macL key ls.flatten) w1 hm (C6 _ _) (hrm.at (M' := []) hw1 (by simp)) (RdB.of hw1 (MemAt.ent 0 rfl (AM _)) (by simp)) (by omega) (by omega))) rfl ?_
      rintro v1 L1 ⟨rfl, rfl⟩
      show JL _ _ _ _ ((22, .bool (decide (mm = (macL key ls.flatten)))) :: _) [_]
      refine AA _ (AH rfl) rfl ?_
      refine AN (AF (BO (C8 (A5 (BP (.bool (decide (mm = (macL key ls.flatten)))) (res1 Tryd.results107 (BT rfl)) fun w1 hw1 => ?_)))))
      refine ⟨_, [], rfl, ⟨?_, rfl⟩, hw1.sub (by simp) (by simp)⟩
      have hl1 : (macL key ls.flatten).length = 32 := C6 _ _
      have hl2 : (mid (macL key ls.flatten) 0 16).length = 16 := EH (by rw [hl1]; omega)
      first
      | (have hne : ¬ mm = macL key ls.flatten := fun h => by rw [← h] at hl1; omega
         rw [decide_eq_false hne, Bool.false_or]; done)
      | (have hne : ¬ mm = mid (macL key ls.flatten) 0 16 := fun h => by rw [← h] at hl2; omega
         rw [decide_eq_false hne, Bool.or_false]; done)
      | (have hne : ¬ mm = macL key ls.flatten := fun h => by rw [← h] at hl1; omega
         have hne2 : ¬ mm = mid (macL key ls.flatten) 0 16 := fun h => by rw [← h] at hl2; omega
         rw [decide_eq_false hne, decide_eq_false hne2]; rfl)
    ·
      have hp2 : ¬ (((m:Int)) = (32:Int)) := of_decide_eq_false hb2
      refine B4 (B1 (AF (AL (AE (AA _ (AH rfl) rfl ?_)))))
      refine AN (AF (BO (BP (.bool false) (res1 Tryd.results107 (BT rfl)) fun w1 hw1 => ?_)))
      refine ⟨_, [], rfl, ⟨?_, rfl⟩, hw1.sub (by simp) (by simp)⟩
      have hl1 : (macL key ls.flatten).length = 32 := C6 _ _
      have hl2 : (mid (macL key ls.flatten) 0 16).length = 16 := EH (by rw [hl1]; omega)
      first
      | (have hne : ¬ mm = macL key ls.flatten := fun h => by rw [← h] at hl1; omega
         rw [decide_eq_false hne, Bool.false_or]; done)
      | (have hne : ¬ mm = mid (macL key ls.flatten) 0 16 := fun h => by rw [← h] at hl2; omega
         rw [decide_eq_false hne, Bool.or_false]; done)
      | (have hne : ¬ mm = macL key ls.flatten := fun h => by rw [← h] at hl1; omega
         have hne2 : ¬ mm = mid (macL key ls.flatten) 0 16 := fun h => by rw [← h] at hl2; omega
         rw [decide_eq_false hne, decide_eq_false hne2]; rfl)

end Go.Proofs.YtkdpdgpphpngeaaDoor
namespace Go.Proofs.YtkdpdgpphpngeaaDoor
open Go Go.Sx
set_option linter.unusedVariables false
set_option linter.unusedSimpArgs false
set_option maxRecDepth 100000
attribute [local irreducible] mid zr8 zr32 numK rnK rotr wordL spreadL comprL cpN adN spN wrdN constL initL padL stN outN routN sumG putL RightB tktT mayN idxT selT macL
theorem cloneSN_c  (w : World) : Calls Tryd.prog 113 #[.slice none 0 0] w (Post w [] (fun v L => v = .slice none 0 0 ∧ L = [])) := by
 refine enter w [] 8 [] [.slice none 0 0] Tryd.func113 rfl rfl (by simp) (B7 (by simp) (by simp) (by simp)) ?_
 show JC _ _ _ [(0, .slice none 0 0)] _
 refine AL (AE (AA _ (AH rfl) rfl ?_))
 refine AN (AF (AL (AL (AE (AA _ (AD rfl) rfl ?_)))))
 refine AA (.bool true) (DC _ _ _ rfl rfl (fun _ => eqGuard_sl ..) fun _ => eql_sl_nil_nil CJ) rfl ?_
 refine AN (AF (C9 _ rfl rfl ?_))
 refine AL (AE (AA _ (AH rfl) rfl ?_))
 refine AN (AF (BO (A5 (BP (.slice none 0 0) (res1 Tryd.results113 (BT rfl)) fun w1 hw1 => ?_))))
 exact ⟨_, [], rfl, ⟨rfl, rfl⟩, hw1.sub (by simp) (by simp)⟩
theorem cloneS_c (sa : Option Addr) (ns sc : Nat) (ls : List SealR)  (w : World) (hls : ls.length = ns) (hnn : ns ≤ 2000000) (hnd : ns ≤ sc) (hcn : sc ≤ maxLen) (hs : RdV w sa (ls.flatMap sealC)) (ha : sa.isNone = false)  : Calls Tryd.prog 113 #[.slice sa ns sc] w (Post w [] (fun v L => ∃ g sp cap, v = Slc g 0 ns cap ∧ L = [⟨g, ls.flatMap sealC ++ sp, 161, (0, 0)⟩] ∧ sp.length = cap * 49 - ns * 49 ∧ ns ≤ cap ∧ cap ≤ maxLen)) := by
 have hmx : maxLen = 9223372036854775807 := rfl
 refine enter w [] 8 [] [.slice sa ns sc] Tryd.func113 rfl rfl (by simp) (B7 (by simp) (by simp) (by simp)) ?_
 show JC _ _ _ [(0, .slice sa ns sc)] _
 refine AL (AE (AA _ (AH rfl) rfl ?_))
 refine AN (AF (AL (AL (AE (AA _ (AD rfl) rfl ?_)))))
 refine AA (.bool sa.isNone) (DC _ _ _ rfl rfl (fun _ => eqGuard_sl ..) fun _ => eql_sl_any CJ) rfl ?_
 refine AN (AF (C0 _ rfl ha ?_))
 refine B4 (AF (AL (AE (AR (E7 161 49 CJ DJ) rfl ?_))))
 rintro v1 L1 ⟨nb1, hnb1, rfl, rfl⟩
 show JL _ _ _ _ ((5, Slc nb1 0 0 0) :: _) [⟨nb1, [], 161, (0, 0)⟩]
 refine AA _ (AD rfl) rfl ?_
 refine AR (Step_cloneS 24 161 56 (.agg (List.toArray (α := Value) ([U64 (0:UInt64)] ++ cu8 (zr8 32) ++ cu8 (zr8 16)))) [true] nb1 ls sa ns sc CJ (by kernel_rfl) (by kernel_rfl) rfl rfl rfl hls (RdV.src hs rfl) (by omega) (by unfold maxLen; omega)) rfl ?_
 rintro v1 L1 ⟨nb2, sp1, cp1, hg1, rfl, rfl, ha1, ha2, ha3⟩
 show JL _ _ _ _ ((7, Slc nb2 0 ns cp1) :: _) [⟨nb2, ls.flatMap sealC ++ sp1, 161, (0, 0)⟩]
 refine AA _ (AH rfl) rfl ?_
 refine AN (AF (BO (BP (Slc nb2 0 ns cp1) (res1 Tryd.results113 (BT rfl)) fun w1 hw1 => ?_)))
 exact ⟨_, _, rfl, ⟨nb2, sp1, cp1, rfl, rfl, ha1, ha2, ha3⟩, hw1.sub (by simp) (by simp)⟩
theorem clone64Z_w (ai : Option Addr) (ci : Nat) (w : World) (hc : ci ≤ maxLen) (hn : ai = none → ci = 0) : Calls Tryd.prog 112 #[.slice ai 0 ci] w (Post w [] (fun v L => ∃ ao c, v = .slice ao 0 c ∧ L = [] ∧ c ≤ maxLen ∧ (ao = none → c = 0))) := by
  by_cases ha : ai = none
  · subst ha
    rw [hn rfl]
    refine (clone64N_c w).mono ?_
    rintro E W ⟨v, L, rfl, ⟨rfl, rfl⟩, hw⟩
    exact ⟨_, _, rfl, ⟨none, 0, rfl, rfl, Nat.zero_le _, fun _ => rfl⟩, hw⟩
  · have ha' : ai.isNone = false := by cases ai with
      | none => exact absurd rfl ha
      | some x => rfl
    refine (clone64_c ai 0 ci ([] : List UInt64) w rfl (by omega) (by omega) hc RdV.nil ha').mono ?_
    rintro E W ⟨v, L, rfl, ⟨g, sp, cap, rfl, rfl, h1, h2, h3⟩, hw⟩
    exact ⟨_, [], rfl, ⟨_, _, rfl, rfl, h3, fun h => by cases h⟩, hw.sub (by simp) (by simp)⟩
theorem F4 (ai : Option Addr) (ni ci : Nat) (l : List UInt64) (w : World) (hl : l.length = ni) (hnm : ni ≤ 2000000) (hnc : ni ≤ ci) (hcm : ci ≤ maxLen) (hv : RdV w ai (cu64 l)) (hp : 0 < ni) : Calls Tryd.prog 112 #[.slice ai ni ci] w (Post w [] (fun v L => ∃ g sp cap, v = Slc g 0 ni cap ∧ L = [⟨g, cu64 l ++ sp, 22, (0, 0)⟩] ∧ sp.length = cap - ni ∧ ni ≤ cap ∧ cap ≤ maxLen)) := by
 have ha : ai.isNone = false := by
  obtain ⟨b, off, h, _⟩ := RdV.pos hv (by first | (rw [E5]; omega) | (rw [rows_len]; omega))
  rw [h]; rfl
 exact clone64_c ai ni ci l w hl hnm hnc hcm hv ha
theorem FS (sa : Option Addr) (sc : Nat) (w : World) (hc : sc ≤ maxLen) (hn : sa = none → sc = 0) : Calls Tryd.prog 113 #[.slice sa 0 sc] w (Post w [] (fun v L => ∃ ao c, v = .slice ao 0 c ∧ L = [] ∧ c ≤ maxLen ∧ (ao = none → c = 0))) := by
  by_cases ha : sa = none
  · subst ha
    rw [hn rfl]
    refine (cloneSN_c w).mono ?_
    rintro E W ⟨v, L, rfl, ⟨rfl, rfl⟩, hw⟩
    exact ⟨_, _, rfl, ⟨none, 0, rfl, rfl, Nat.zero_le _, fun _ => rfl⟩, hw⟩
  · have ha' : sa.isNone = false := by cases sa with
      | none => exact absurd rfl ha
      | some x => rfl
    refine (cloneS_c sa 0 sc ([] : List SealR) w rfl (by omega) (by omega) hc RdV.nil ha').mono ?_
    rintro E W ⟨v, L, rfl, ⟨g, sp, cap, rfl, rfl, h1, h2, h3⟩, hw⟩
    exact ⟨_, [], rfl, ⟨_, _, rfl, rfl, h3, fun h => by cases h⟩, hw.sub (by simp) (by simp)⟩
theorem F7 (sa : Option Addr) (ns sc : Nat) (ls : List SealR) (w : World) (hls : ls.length = ns) (hnn : ns ≤ 2000000) (hnd : ns ≤ sc) (hcn : sc ≤ maxLen) (hs : RdV w sa (ls.flatMap sealC)) (hp : 0 < ns) : Calls Tryd.prog 113 #[.slice sa ns sc] w (Post w [] (fun v L => ∃ g sp cap, v = Slc g 0 ns cap ∧ L = [⟨g, ls.flatMap sealC ++ sp, 161, (0, 0)⟩] ∧ sp.length = cap * 49 - ns * 49 ∧ ns ≤ cap ∧ cap ≤ maxLen)) := by
 have ha : sa.isNone = false := by
  obtain ⟨b, off, h, _⟩ := RdV.pos hs (by first | (rw [E5]; omega) | (rw [rows_len]; omega))
  rw [h]; rfl
 exact cloneS_c sa ns sc ls w hls hnn hnd hcn hs ha
end Go.Proofs.YtkdpdgpphpngeaaDoor
