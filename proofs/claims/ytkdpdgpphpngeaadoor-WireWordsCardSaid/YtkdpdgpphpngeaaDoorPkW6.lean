import Derived.ChangeArms
import Derived.JoinedOf
import Derived.SevenTiedAt
import Derived.Test.YtkdpdgpphpngeaaDoorPkW5
set_option linter.unusedVariables false
set_option linter.unusedSimpArgs false
set_option maxRecDepth 100000
namespace Go.Proofs.YtkdpdgpphpngeaaDoor
open Go Go.Sx
open Go.Value renaming slice → SL
attribute [local irreducible] mid zr8 numK valK constL initL putL RightB tktT mayN idxT selT blankB spanB reqR plainV itB chB bB aB c1B c2B c3B c4B repR repT LargeQ eQ vQ bQ sQ ixQ seQ fQ fN hQ
theorem bld67_012 {w : World} {v0 : Value} {v1 : Value} {v2 : Value} (h0 : v0.cells = [v0].toArray) (h1 : v1.cells = [v1].toArray) (h2 : v2.cells = [v2].toArray) : (Instr.build 67 ([(0, v0), (1, v1), (2, v2)] : List (Nat × Value)).toArray).run Tryd.prog w = .ok (.agg (((((((([v0] : List Value) ++ ([v1] : List Value)) ++ ([v2] : List Value)) ++ ([.slice none 0 0] : List Value)) ++ ([.bool false] : List Value)) ++ ([U64 0, U64 0, I64 0, .slice none 0 0, .slice none 0 0, U64 0] ++ cu8 (zr8 16) : List Value)) ++ ([.slice none 0 0] : List Value)) ++ ([.slice none 0 0] : List Value)).toArray) w :=
 EY (places := #[(0, 1), (1, 1), (2, 1), (3, 1), (4, 1), (5, 22), (27, 1), (28, 1)]) (Z := (([U64 0] : List Value) ++ (([I64 0] : List Value) ++ (([I64 0] : List Value) ++ (([.slice none 0 0] : List Value) ++ (([.bool false] : List Value) ++ (([U64 0, U64 0, I64 0, .slice none 0 0, .slice none 0 0, U64 0] ++ cu8 (zr8 16) : List Value) ++ (([.slice none 0 0] : List Value) ++ (([.slice none 0 0] : List Value) ++ []))))))))) (fun _ => by kernel_rfl) AM (fun _ => by kernel_rfl) ((fill_start ([U64 0] : List Value) (([I64 0] : List Value) ++ (([I64 0] : List Value) ++ (([.slice none 0 0] : List Value) ++ (([.bool false] : List Value) ++ (([U64 0, U64 0, I64 0, .slice none 0 0, .slice none 0 0, U64 0] ++ cu8 (zr8 16) : List Value) ++ (([.slice none 0 0] : List Value) ++ (([.slice none 0 0] : List Value) ++ []))))))) ([v0] : List Value) h0 (by simp [AN]) rfl).trans ((fill_step ([v0] : List Value) ([I64 0] : List Value) (([I64 0] : List Value) ++ (([.slice none 0 0] : List Value) ++ (([.bool false] : List Value) ++ (([U64 0, U64 0, I64 0, .slice none 0 0, .slice none 0 0, U64 0] ++ cu8 (zr8 16) : List Value) ++ (([.slice none 0 0] : List Value) ++ (([.slice none 0 0] : List Value) ++ [])))))) ([v1] : List Value) h1 (by simp [AN]) rfl).trans ((fill_step (([v0] : List Value) ++ ([v1] : List Value)) ([I64 0] : List Value) (([.slice none 0 0] : List Value) ++ (([.bool false] : List Value) ++ (([U64 0, U64 0, I64 0, .slice none 0 0, .slice none 0 0, U64 0] ++ cu8 (zr8 16) : List Value) ++ (([.slice none 0 0] : List Value) ++ (([.slice none 0 0] : List Value) ++ []))))) ([v2] : List Value) h2 (by simp [AN]) rfl).trans ((EP ((([v0] : List Value) ++ ([v1] : List Value)) ++ ([v2] : List Value)) ([.slice none 0 0] : List Value) (([.bool false] : List Value) ++ (([U64 0, U64 0, I64 0, .slice none 0 0, .slice none 0 0, U64 0] ++ cu8 (zr8 16) : List Value) ++ (([.slice none 0 0] : List Value) ++ (([.slice none 0 0] : List Value) ++ []))))).trans ((EP (((([v0] : List Value) ++ ([v1] : List Value)) ++ ([v2] : List Value)) ++ ([.slice none 0 0] : List Value)) ([.bool false] : List Value) (([U64 0, U64 0, I64 0, .slice none 0 0, .slice none 0 0, U64 0] ++ cu8 (zr8 16) : List Value) ++ (([.slice none 0 0] : List Value) ++ (([.slice none 0 0] : List Value) ++ [])))).trans ((EP ((((([v0] : List Value) ++ ([v1] : List Value)) ++ ([v2] : List Value)) ++ ([.slice none 0 0] : List Value)) ++ ([.bool false] : List Value)) ([U64 0, U64 0, I64 0, .slice none 0 0, .slice none 0 0, U64 0] ++ cu8 (zr8 16) : List Value) (([.slice none 0 0] : List Value) ++ (([.slice none 0 0] : List Value) ++ []))).trans ((EP (((((([v0] : List Value) ++ ([v1] : List Value)) ++ ([v2] : List Value)) ++ ([.slice none 0 0] : List Value)) ++ ([.bool false] : List Value)) ++ ([U64 0, U64 0, I64 0, .slice none 0 0, .slice none 0 0, U64 0] ++ cu8 (zr8 16) : List Value)) ([.slice none 0 0] : List Value) (([.slice none 0 0] : List Value) ++ [])).trans ((EP ((((((([v0] : List Value) ++ ([v1] : List Value)) ++ ([v2] : List Value)) ++ ([.slice none 0 0] : List Value)) ++ ([.bool false] : List Value)) ++ ([U64 0, U64 0, I64 0, .slice none 0 0, .slice none 0 0, U64 0] ++ cu8 (zr8 16) : List Value)) ++ ([.slice none 0 0] : List Value)) ([.slice none 0 0] : List Value) []).trans (by simp [Instr.fill])))))))))
theorem bld163_0 {w : World} {v0 : Value} (h0 : v0.cells = [v0].toArray) : (Instr.build 163 ([(0, v0)] : List (Nat × Value)).toArray).run Tryd.prog w = .ok (.agg (([v0] : List Value) ++ ([U64 0] ++ cu8 (zr8 32) ++ cu8 (zr8 16) : List Value)).toArray) w :=
 EY (places := #[(0, 1), (1, 49)]) (Z := (([.bool false] : List Value) ++ (([U64 0] ++ cu8 (zr8 32) ++ cu8 (zr8 16) : List Value) ++ []))) (fun _ => by kernel_rfl) DO (fun _ => by kernel_rfl) ((fill_start ([.bool false] : List Value) (([U64 0] ++ cu8 (zr8 32) ++ cu8 (zr8 16) : List Value) ++ []) ([v0] : List Value) h0 (by simp [AN]) rfl).trans ((EP ([v0] : List Value) ([U64 0] ++ cu8 (zr8 32) ++ cu8 (zr8 16) : List Value) []).trans (by simp [Instr.fill])))
set_option maxHeartbeats 8000000 in
theorem parp_c (ax : Option Addr) (n c : Nat) (z0 : List UInt8)  (w : World) (ha : ax.isNone = false) (hz : z0.length = n) (hn : n ≤ 200000) (hc : n ≤ c) (hcm : c ≤ maxLen) (hr : RdB w [] ax z0)  : Calls Tryd.prog 55 #[SL ax n c] w (Post w [] (fun v L => (∃ rq rk er nj lj th pv ep kd ni l ns ls bl tg na xa nb xb g0 cs0 T0 a0 c0 g1 cs1 T1 a1 c1 g2 cs2 T2 a2 c2 g3 cs3 T3 a3 c3 g4 cs4 T4 a4 c4, GRp z0 rq rk er lj th pv ep kd l ls bl tg na xa nb xb ∧ lj.length = nj ∧ l.length = ni ∧ ls.length = ns ∧ tg.length = 16 ∧ nj ≤ 256 ∧ ni ≤ 256 ∧ ns ≤ 256 ∧ xa.length = na*32 ∧ xb.length = nb*32 ∧ v = .tuple #[.agg ([U64 rq, I64 rk, I64 er, SL a0 nj c0, .bool th, U64 pv, U64 ep, I64 kd, SL a1 ni c1, SL a2 ns c2, U64 bl] ++ cu8 tg ++ [SL a3 na c3, SL a4 nb c4]).toArray, .nilIface] ∧ L = [⟨g0, cs0, T0, (0, 0)⟩, ⟨g1, cs1, T1, (0, 0)⟩, ⟨g2, cs2, T2, (0, 0)⟩, ⟨g3, cs3, T3, (0, 0)⟩, ⟨g4, cs4, T4, (0, 0)⟩] ∧ Gh (lj.flatMap itemC) g0 cs0 a0 ∧ nj ≤ c0 ∧ c0 ≤ maxLen ∧ Gh (cu64 l) g1 cs1 a1 ∧ ni ≤ c1 ∧ c1 ≤ maxLen ∧ Gh (ls.flatMap sealC) g2 cs2 a2 ∧ ns ≤ c2 ∧ c2 ≤ maxLen ∧ Gh (cu8 xa) g3 cs3 a3 ∧ na ≤ c3 ∧ c3 ≤ maxLen ∧ Gh (cu8 xb) g4 cs4 a4 ∧ nb ≤ c4 ∧ c4 ≤ maxLen) ∨ (BadRp z0 ∧ v = .tuple #[.agg ([U64 0, I64 0, I64 0, SL none 0 0, .bool false, U64 0, U64 0, I64 0, SL none 0 0, SL none 0 0, U64 0] ++ cu8 (zr8 16) ++ [SL none 0 0, SL none 0 0]).toArray, .iface 50 (I64 2)] ∧ L = []))) := by
 have hmx : maxLen = 9223372036854775807 := rfl
 have hk8 := vQ_lt1 z0 8
 have hk9 := vQ_lt1 z0 9
 have hk10 := vQ_lt1 z0 10
 refine enter w [] 109 [] [SL ax n c] Tryd.func55 rfl rfl (by simp) (BW (by simp) (by simp) (by simp)) ?_
 show JC _ _ _ [(0, SL ax n c)] _
 refine AH (AB (A4 (C0 _ ([U64 0, I64 0, I64 0, SL none 0 0, .bool false, U64 0, U64 0, I64 0, SL none 0 0, SL none 0 0, U64 0] ++ cu8 (zr8 16) ++ [SL none 0 0, SL none 0 0]) Tryd.zeroValue67 (by kernel_rfl)) rfl ?_))
 rintro v1 L1 ⟨nb1, hnb1, rfl, rfl⟩
 show JL _ _ _ _ ((2, Ptr nb1 0) :: _) [⟨nb1, [U64 0, I64 0, I64 0, SL none 0 0, .bool false, U64 0, U64 0, I64 0, SL none 0 0, SL none 0 0, U64 0] ++ cu8 (zr8 16) ++ [SL none 0 0, SL none 0 0], 67, (0, 0)⟩]
 refine AA _ (AE rfl) rfl ?_
 refine AI (AC (AH (AB (AA _ (AF rfl) rfl ?_))))
 refine A4 (CZ 59 [SL ax n c] _ (AS _ Tryd.call59 rfl) (fun w1 hw1 => fromQ_w ax n c z0 w1 ha hz (by omega) (hr.at (M' := []) hw1 (by simp)))) rfl ?_
 rintro v1 L1 ⟨_, ⟨nb2, nb3, sp1, cp1, rfl, rfl, hc1, hc2, hc3⟩, rfl⟩
 show JL _ _ _ _ ((17, Ptr nb2 0) :: _) [_, ⟨nb2, [errV 50 (eQ z0 0), SL (some ⟨nb3, 0, none⟩) n cp1], 204, (0, 0)⟩, ⟨nb3, cu8 z0 ++ sp1, 5, (0, 0)⟩]
 refine AA _ (AE rfl) rfl ?_
 refine AI (AC (AH (AB (AA _ (AF rfl) rfl ?_))))
 have hz1 : (z0).length = n := hz
 refine A4 (A8 109 _ [false, true, false] [nb2] _ (AS [Ptr nb2 0, I64 8] CV rfl) rfl (fun w1 hw1 => E1 nb2 0 8 (some ⟨nb3, 0, none⟩) n cp1 z0 z0 w1 (hw1.ent _ (List.mem_of_getElem? (i := 1) rfl)) hz (by omega) (by omega) (by omega) ((fun _ _ h => h) _ _ (RdB.of hw1 (AU 2 rfl (AJ (AQ _))) (by intro _; simp only [List.mem_cons, List.not_mem_nil, or_false, not_or]; exact hw1.ne (i := 2) (j := 1) rfl rfl (by decide)))) (Lq.zero z0) (by unfold Szd; omega))) rfl ?_
 rintro v1 L1 ⟨_, ⟨rfl, ao1, zz1, ca1, hq1, ⟨hA1, hb1, hb2, hb3⟩, rfl⟩, rfl⟩
 show JL _ _ _ _ ((19, U64 (vQ z0 0 8)) :: _) [_, _, ⟨nb2, [errV 50 (eQ z0 8), SL ao1 zz1.length ca1], 204, (0, 0)⟩]
 refine AA _ (AF rfl) rfl ?_
 have hz2 : (zz1).length = zz1.length := rfl
 refine A4 (A8 109 _ [false, false, true] [nb2] _ (AS [Ptr nb2 0, I64 1] CV rfl) rfl (fun w1 hw1 => E1 nb2 8 1 ao1 zz1.length ca1 z0 zz1 w1 (hw1.ent _ (List.mem_of_getElem? (i := 2) rfl)) rfl (by omega) (by omega) (by omega) ((fun w M h => hA1 w M ((fun _ _ h => h) w M h)) _ _ (RdB.of hw1 (AU 1 rfl (AJ (AQ _))) (by intro _; simp only [List.mem_cons, List.not_mem_nil, or_false, not_or]; exact hw1.ne (i := 1) (j := 2) rfl rfl (by decide)))) hq1 (by unfold Szd; omega))) rfl ?_
 rintro v1 L1 ⟨_, ⟨rfl, ao2, zz2, ca2, hq2, ⟨hA2, hb4, hb5, hb6⟩, rfl⟩, rfl⟩
 show JL _ _ _ _ ((21, U64 (vQ z0 8 1)) :: _) [_, _, ⟨nb2, [errV 50 (eQ z0 9), SL ao2 zz2.length ca2], 204, (0, 0)⟩]
 refine AA (I64 (((vQ z0 8 1).toNat:Int))) (CM _ _ rfl fun _ => ER (by rw [AW]; rfl) A6 (vQ z0 8 1) _ rfl (by omega)) rfl ?_
 refine AA _ (AF rfl) rfl ?_
 have hz3 : (zz2).length = zz2.length := rfl
 refine A4 (A8 109 _ [false, false, true] [nb2] _ (AS _ CV rfl) rfl (fun w1 hw1 => E1 nb2 9 1 ao2 zz2.length ca2 z0 zz2 w1 (hw1.ent _ (List.mem_of_getElem? (i := 2) rfl)) rfl (by omega) (by omega) (by omega) ((fun w M h => hA2 w M ((fun w M h => hA1 w M ((fun _ _ h => h) w M h)) w M h)) _ _ (RdB.of hw1 (AU 1 rfl (AJ (AQ _))) (by intro _; simp only [List.mem_cons, List.not_mem_nil, or_false, not_or]; exact hw1.ne (i := 1) (j := 2) rfl rfl (by decide)))) hq2 (by unfold Szd; omega))) rfl ?_
 rintro v1 L1 ⟨_, ⟨rfl, ao3, zz3, ca3, hq3, ⟨hA3, hb7, hb8, hb9⟩, rfl⟩, rfl⟩
 show JL _ _ _ _ ((24, U64 (vQ z0 9 1)) :: _) [_, _, ⟨nb2, [errV 50 (eQ z0 10), SL ao3 zz3.length ca3], 204, (0, 0)⟩]
 refine AA (I64 (((vQ z0 9 1).toNat:Int))) (CM _ _ rfl fun _ => ER (by rw [AW]; rfl) A6 (vQ z0 9 1) _ rfl (by omega)) rfl ?_
 refine AA (.agg ([U64 (vQ z0 0 8), I64 (((vQ z0 8 1).toNat:Int)), I64 (((vQ z0 9 1).toNat:Int)), SL none 0 0, .bool false, U64 0, U64 0, I64 0, SL none 0 0, SL none 0 0, U64 0] ++ cu8 (zr8 16) ++ [SL none 0 0, SL none 0 0]).toArray) (CP [(0, U64 (vQ z0 0 8)), (1, I64 (((vQ z0 8 1).toNat:Int))), (2, I64 (((vQ z0 9 1).toNat:Int)))] _ rfl (fun _ => (bld67_012 rfl rfl rfl ).trans (by first | rfl | simp only [List.append_assoc, List.cons_append, List.nil_append]))) rfl ?_
 refine A4 (C0 _ ([U64 0, I64 0, I64 0, SL none 0 0, .bool false, U64 0, U64 0, I64 0, SL none 0 0, SL none 0 0, U64 0] ++ cu8 (zr8 16) ++ [SL none 0 0, SL none 0 0]) Tryd.zeroValue67 (by kernel_rfl)) rfl ?_
 rintro v1 L1 ⟨nb4, hnb4, rfl, rfl⟩
 show JL _ _ _ _ ((5, Ptr nb4 0) :: _) [_, _, _, ⟨nb4, [U64 0, I64 0, I64 0, SL none 0 0, .bool false, U64 0, U64 0, I64 0, SL none 0 0, SL none 0 0, U64 0] ++ cu8 (zr8 16) ++ [SL none 0 0, SL none 0 0], 67, (0, 0)⟩]
 refine A7 (BQ 3 nb4 29 ([U64 0, I64 0, I64 0, SL none 0 0, .bool false, U64 0, U64 0, I64 0, SL none 0 0, SL none 0 0, U64 0] ++ cu8 (zr8 16) ++ [SL none 0 0, SL none 0 0]) 67 ([U64 (vQ z0 0 8), I64 (((vQ z0 8 1).toNat:Int)), I64 (((vQ z0 9 1).toNat:Int)), SL none 0 0, .bool false, U64 0, U64 0, I64 0, SL none 0 0, SL none 0 0, U64 0] ++ cu8 (zr8 16) ++ [SL none 0 0, SL none 0 0]) rfl rfl rfl BR (by simp [(AN 16)]) (BY (BY (by simp [Value.oneCell']) CT) (by simp [Value.oneCell'])) (by simp [(AN 16)]) (BT (by simp [(AN 16), (AN 16)]))) rfl ?_
 show JL _ _ _ _ _ [_, _, _, ⟨nb4, [U64 (vQ z0 0 8), I64 (((vQ z0 8 1).toNat:Int)), I64 (((vQ z0 9 1).toNat:Int)), SL none 0 0, .bool false, U64 0, U64 0, I64 0, SL none 0 0, SL none 0 0, U64 0] ++ cu8 (zr8 16) ++ [SL none 0 0, SL none 0 0], 67, (0, 0)⟩]
 refine AI (AC (AH (AB (AA (.agg ([U64 (vQ z0 0 8), I64 (((vQ z0 8 1).toNat:Int)), I64 (((vQ z0 9 1).toNat:Int)), SL none 0 0, .bool false, U64 0, U64 0, I64 0, SL none 0 0, SL none 0 0, U64 0] ++ cu8 (zr8 16) ++ [SL none 0 0, SL none 0 0]).toArray) (AO rfl (BU CC BR (by simp [(AN 16)]) (AU 3 rfl (AQ _)))) rfl ?_))))
 refine A4 (CZ 95 [.agg ([U64 (vQ z0 0 8), I64 (((vQ z0 8 1).toNat:Int)), I64 (((vQ z0 9 1).toNat:Int)), SL none 0 0, .bool false, U64 0, U64 0, I64 0, SL none 0 0, SL none 0 0, U64 0] ++ cu8 (zr8 16) ++ [SL none 0 0, SL none 0 0]).toArray] _ (AS _ Tryd.call95 rfl) (fun w1 hw1 => partsG_c (vQ z0 0 8) (((vQ z0 8 1).toNat:Int)) (((vQ z0 9 1).toNat:Int)) none 0 0 ([] : List ItemR) false (0:UInt64) (0:UInt64) (0:Int) none 0 0 ([] : List UInt64) none 0 0 ([] : List SealR) (0:UInt64) (zr8 16) none 0 0 [] none 0 0 [] w1 (AN 16))) rfl ?_
 rintro v1 L1 ⟨_, ⟨sg1, cs1, nT1, rfl, rfl⟩, rfl⟩
 show JL _ _ _ _ ((29, .tuple #[.bool (itB (((vQ z0 9 1).toNat:Int)) (((vQ z0 8 1).toNat:Int))), .bool (chB (((vQ z0 9 1).toNat:Int)) (((vQ z0 8 1).toNat:Int)) false), .bool (aB (((vQ z0 9 1).toNat:Int)) (((vQ z0 8 1).toNat:Int)) false), .bool (bB (((vQ z0 9 1).toNat:Int)) (((vQ z0 8 1).toNat:Int)) false)]) :: _) [_, _, _, _, ⟨sg1, cs1, nT1, (0, 0)⟩]
 refine AA _ (AF rfl) rfl ?_
 refine AA _ (BE rfl rfl) rfl ?_
 refine AA _ (BE rfl rfl) rfl ?_
 refine AA _ (BE rfl rfl) rfl ?_
 refine AA _ (BE rfl rfl) rfl ?_
 refine AA _ (AE rfl) rfl ?_
 refine AA _ (AE rfl) rfl ?_
 refine AA _ (AE rfl) rfl ?_
 refine AA _ (AE rfl) rfl ?_
 refine AI (AC (AH (FK (ι := Nat × Option Addr × List ItemR × Nat × Nat × Nat × List Value × Nat × Option Addr × List UInt8 × Nat) (fun ⟨qa, ja, jl, jn, jc, jg, jcs, jT, ra, zr, rc⟩ => [(2, Ptr nb1 0), (3, .nilIface), (4, Ptr nb2 0), (5, Ptr nb4 0)]) (fun ⟨qa, ja, jl, jn, jc, jg, jcs, jT, ra, zr, rc⟩ => [⟨nb1, [U64 0, I64 0, I64 0, SL none 0 0, .bool false, U64 0, U64 0, I64 0, SL none 0 0, SL none 0 0, U64 0] ++ cu8 (zr8 16) ++ [SL none 0 0, SL none 0 0], 67, (0, 0)⟩, ⟨nb3, cu8 z0 ++ sp1, 5, (0, 0)⟩, ⟨nb2, [errV 50 (eQ z0 qa), SL ra zr.length rc], 204, (0, 0)⟩, ⟨nb4, [U64 (vQ z0 0 8), I64 (((vQ z0 8 1).toNat:Int)), I64 (((vQ z0 9 1).toNat:Int)), SL ja jn jc, .bool false, U64 0, U64 0, I64 0, SL none 0 0, SL none 0 0, U64 0] ++ cu8 (zr8 16) ++ [SL none 0 0, SL none 0 0], 67, (0, 0)⟩, ⟨jg, jcs, jT, (0, 0)⟩]) (fun ⟨qa, ja, jl, jn, jc, jg, jcs, jT, ra, zr, rc⟩ => qa = P1 z0 ∧ (qa ≤ z0.length → jl = ljZ z0) ∧ jl.length = jn ∧ jn ≤ 256 ∧ Gh (jl.flatMap itemC) jg jcs ja ∧ jn ≤ jc ∧ jc ≤ maxLen ∧ Lq z0 zr qa ∧ (∀ w M, RdB w M (some ⟨nb3, 0, none⟩) z0 → RdB w M ra zr) ∧ zr.length ≤ rc ∧ rc ≤ maxLen ∧ zr.length ≤ n) ?_ ?_)))
 ·
  refine AH (AB (AA _ (AF rfl) rfl ?_))
  refine AI (AC (B9 (itB (((vQ z0 9 1).toNat:Int)) (((vQ z0 8 1).toNat:Int))) rfl (fun hb10 => ?_) (fun hb10 => ?_)))
  ·
   refine AH (AB (AA _ (AF rfl) rfl ?_))
   have hz4 : (zz3).length = zz3.length := rfl
   refine A4 (A8 109 _ [false, false, true, false, false] [nb2] _ (AS [Ptr nb2 0, I64 1] CV rfl) rfl (fun w1 hw1 => E1 nb2 10 1 ao3 zz3.length ca3 z0 zz3 w1 (hw1.ent _ (List.mem_of_getElem? (i := 2) rfl)) rfl (by omega) (by omega) (by omega) ((fun w M h => hA3 w M ((fun w M h => hA2 w M ((fun w M h => hA1 w M ((fun _ _ h => h) w M h)) w M h)) w M h)) _ _ (RdB.of hw1 (AU 1 rfl (AJ (AQ _))) (by intro _; simp only [List.mem_cons, List.not_mem_nil, or_false, not_or]; exact hw1.ne (i := 1) (j := 2) rfl rfl (by decide)))) hq3 (by unfold Szd; omega))) rfl ?_
   rintro v1 L1 ⟨_, ⟨rfl, ao4, zz4, ca4, hq4, ⟨hA4, hb11, hb12, hb13⟩, rfl⟩, rfl⟩
   show JL _ _ _ _ ((36, U64 (vQ z0 10 1)) :: _) [_, _, _, _, ⟨nb2, [errV 50 (eQ z0 11), SL ao4 zz4.length ca4], 204, (0, 0)⟩]
   refine AA (I64 (((vQ z0 10 1).toNat:Int))) (CM _ _ rfl fun _ => ER (by rw [AW]; rfl) A6 (vQ z0 10 1) _ rfl (by omega)) rfl ?_
   refine AA (I64 (((vQ z0 10 1).toNat:Int) + 1)) (AR rfl rfl fun _ => DQ _ _ (((vQ z0 10 1).toNat:Int) + 1) (by omega) (by omega)) rfl ?_
   refine AA _ (AE rfl) rfl ?_
   refine AI (AC (AH (AH ?_)))
   obtain ⟨m, hm1, hm2, hm3⟩ := minI hq4
   refine AB (AA _ (AF rfl) rfl ?_)
   refine AA _ (AF rfl) rfl ?_
   refine A7 (A2 61 [Ptr nb2 0] (I64 ((leftN (eQ z0 11) zz4.length:Int))) (AS _ DV rfl) (fun w1 hw1 => left_w nb2 (eQ z0 11) ao4 zz4.length ca4 w1 (RdA.of hw1 (AU 4 rfl (AQ _)) (by simp)))) rfl ?_
   show JL _ _ _ _ ((41, I64 ((leftN (eQ z0 11) zz4.length:Int))) :: _) [_, _, _, _, _]
   refine AA (I64 m) (Ev_min rfl rfl hm1) rfl ?_
   refine AA _ (AF rfl) rfl ?_
   refine AI (AC (B5 (EM (ι := (Unit) ⊕ (Nat × Nat × List ItemR × Nat × List Value × Nat × Option Addr × List UInt8 × Nat)) (fun x => match x with | .inl _ => [(2, Ptr nb1 0), (3, .nilIface), (4, Ptr nb2 0), (5, Ptr nb4 0), (10, I64 (((vQ z0 10 1).toNat:Int) + 1)), (42, I64 m), (43, I64 0)] | .inr ⟨qi, i, ll, gb, sp, cp, aa, zz, cc⟩ => [(2, Ptr nb1 0), (3, .nilIface), (4, Ptr nb2 0), (5, Ptr nb4 0), (10, I64 (((vQ z0 10 1).toNat:Int) + 1)), (42, I64 m), (43, I64 i)]) (fun x => match x with | .inl _ => [⟨nb1, [U64 0, I64 0, I64 0, SL none 0 0, .bool false, U64 0, U64 0, I64 0, SL none 0 0, SL none 0 0, U64 0] ++ cu8 (zr8 16) ++ [SL none 0 0, SL none 0 0], 67, (0, 0)⟩, ⟨nb3, cu8 z0 ++ sp1, 5, (0, 0)⟩, ⟨nb4, [U64 (vQ z0 0 8), I64 (((vQ z0 8 1).toNat:Int)), I64 (((vQ z0 9 1).toNat:Int)), SL none 0 0, .bool false, U64 0, U64 0, I64 0, SL none 0 0, SL none 0 0, U64 0] ++ cu8 (zr8 16) ++ [SL none 0 0, SL none 0 0], 67, (0, 0)⟩, ⟨sg1, cs1, nT1, (0, 0)⟩, ⟨nb2, [errV 50 (eQ z0 11), SL ao4 zz4.length ca4], 204, (0, 0)⟩] | .inr ⟨qi, i, ll, gb, sp, cp, aa, zz, cc⟩ => [⟨nb1, [U64 0, I64 0, I64 0, SL none 0 0, .bool false, U64 0, U64 0, I64 0, SL none 0 0, SL none 0 0, U64 0] ++ cu8 (zr8 16) ++ [SL none 0 0, SL none 0 0], 67, (0, 0)⟩, ⟨nb3, cu8 z0 ++ sp1, 5, (0, 0)⟩, ⟨nb4, [U64 (vQ z0 0 8), I64 (((vQ z0 8 1).toNat:Int)), I64 (((vQ z0 9 1).toNat:Int)), Slc gb 0 i cp, .bool false, U64 0, U64 0, I64 0, SL none 0 0, SL none 0 0, U64 0] ++ cu8 (zr8 16) ++ [SL none 0 0, SL none 0 0], 67, (0, 0)⟩, ⟨sg1, cs1, nT1, (0, 0)⟩, ⟨nb2, [errV 50 (eQ z0 qi), SL aa zz.length cc], 204, (0, 0)⟩, ⟨gb, (ll).flatMap itemC ++ sp, 163, (0, 0)⟩]) (fun x => match x with | .inl _ => True | .inr ⟨qi, i, ll, gb, sp, cp, aa, zz, cc⟩ => qi = qI z0 11 i ∧ 0 < i ∧ i ≤ m ∧ ll = itQ z0 11 i ∧ ll.length = i ∧ sp.length = cp * 50 - i * 50 ∧ i ≤ cp ∧ cp ≤ maxLen ∧ Lq z0 zz qi ∧ (∀ w M, RdB w M (some ⟨nb3, 0, none⟩) z0 → RdB w M aa zz) ∧ zz.length ≤ cc ∧ cc ≤ maxLen ∧ zz.length ≤ n) (fun x => match x with | .inl _ => m + 2 | .inr ⟨qi, i, ll, gb, sp, cp, aa, zz, cc⟩ => m + 1 - i) (.inl ()) trivial (Sub.all rfl) rfl ?_)))
   rintro (_ | ⟨qi, i, ll, gb, sp, cp, aa, zz, cc⟩) hx
   ·
    obtain _ := hx
    show JC _ _ _ [(2, Ptr nb1 0), (3, .nilIface), (4, Ptr nb2 0), (5, Ptr nb4 0), (10, I64 (((vQ z0 10 1).toNat:Int) + 1)), (42, I64 m), (43, I64 0)] [⟨nb1, [U64 0, I64 0, I64 0, SL none 0 0, .bool false, U64 0, U64 0, I64 0, SL none 0 0, SL none 0 0, U64 0] ++ cu8 (zr8 16) ++ [SL none 0 0, SL none 0 0], 67, (0, 0)⟩, ⟨nb3, cu8 z0 ++ sp1, 5, (0, 0)⟩, ⟨nb4, [U64 (vQ z0 0 8), I64 (((vQ z0 8 1).toNat:Int)), I64 (((vQ z0 9 1).toNat:Int)), SL none 0 0, .bool false, U64 0, U64 0, I64 0, SL none 0 0, SL none 0 0, U64 0] ++ cu8 (zr8 16) ++ [SL none 0 0, SL none 0 0], 67, (0, 0)⟩, ⟨sg1, cs1, nT1, (0, 0)⟩, ⟨nb2, [errV 50 (eQ z0 11), SL ao4 zz4.length ca4], 204, (0, 0)⟩]
    refine AH (AB (AA (.bool (decide ((0:Int) < ((m:Int))))) (AR rfl rfl fun _ => CH _ _) rfl ?_))
    refine AI (AC (AH (B9 (decide ((0:Int) < ((m:Int)))) rfl (fun hb14 => ?_) (fun hb14 => ?_))))
    ·
     have hp14 : (0:Int) < ((m:Int)) := of_decide_eq_true hb14
     refine BF (AC (AH (B5 (AH (AB (AA _ (AF rfl) rfl ?_))))))
     have hz5 : (zz4).length = zz4.length := rfl
     refine A4 (A8 119 _ [false, false, false, false, true] [nb2] _ (AS [Ptr nb2 0] Tryd.call119 rfl) rfl (fun w1 hw1 => flgQ_w nb2 11 ao4 zz4.length ca4 z0 zz4 w1 (hw1.ent _ (List.mem_of_getElem? (i := 4) rfl)) rfl (by omega) (by omega) (by omega) ((fun w M h => hA4 w M ((fun w M h => hA3 w M ((fun w M h => hA2 w M ((fun w M h => hA1 w M ((fun _ _ h => h) w M h)) w M h)) w M h)) w M h)) _ _ (RdB.of hw1 (AU 1 rfl (AJ (AQ _))) (by intro _; simp only [List.mem_cons, List.not_mem_nil, or_false, not_or]; exact hw1.ne (i := 1) (j := 4) rfl rfl (by decide)))) hq4)) rfl ?_
     rintro v1 L1 ⟨_, ⟨rfl, pq1, ao5, zz5, ca5, hpq1, hq5, ⟨hA5, hb15, hb16, hb17⟩, rfl⟩, rfl⟩
     show JL _ _ _ _ ((46, .bool (fQ z0 11)) :: _) [_, _, _, _, ⟨nb2, [errV 50 (eQ z0 pq1), SL ao5 zz5.length ca5], 204, (0, 0)⟩]
     refine AA (.agg (List.toArray (α := Value) ([.bool (fQ z0 11), U64 0] ++ cu8 (zr8 32) ++ cu8 (zr8 16)))) (CP [(0, .bool (fQ z0 11))] _ rfl (fun _ => bld163_0 rfl)) rfl ?_
     refine A4 (C0 _ ([.bool false, U64 0] ++ cu8 (zr8 32) ++ cu8 (zr8 16)) Tryd.zeroValue163 (by kernel_rfl)) rfl ?_
     rintro v1 L1 ⟨nb5, hnb5, rfl, rfl⟩
     show JL _ _ _ _ ((11, Ptr nb5 0) :: _) [_, _, _, _, _, ⟨nb5, [.bool false, U64 0] ++ cu8 (zr8 32) ++ cu8 (zr8 16), 163, (0, 0)⟩]
     refine A7 (BQ 5 nb5 50 ([.bool false, U64 0] ++ cu8 (zr8 32) ++ cu8 (zr8 16)) 163 ([.bool (fQ z0 11), U64 0] ++ cu8 (zr8 32) ++ cu8 (zr8 16)) rfl rfl rfl DH (by simp [(AN 32), (AN 16)]) (BY (BY (by simp [Value.oneCell']) CT) CT) (by simp [(AN 32), (AN 16)]) (BT (by simp [(AN 32), (AN 16), (AN 32), (AN 16)]))) rfl ?_
     show JL _ _ _ _ _ [_, _, _, _, _, ⟨nb5, [.bool (fQ z0 11), U64 0] ++ cu8 (zr8 32) ++ cu8 (zr8 16), 163, (0, 0)⟩]
     refine AI (AC (AH (AH (AB (AA (Ptr nb5 0) (AD 0 4 1 DO rfl Tryd.sizeOf4 rfl rfl) rfl ?_)))))
     refine AA (.bool (fQ z0 11)) (AO rfl (A0 Tryd.isAgg4 (AU 5 rfl (AJ (AJ (Seg.head)))))) rfl ?_
     refine AI (AC (B9 (fQ z0 11) rfl (fun hb18 => ?_) (fun hb18 => ?_)))
     ·
      refine AB (AA _ (AF rfl) rfl ?_)
      have hz6 : (zz5).length = zz5.length := rfl
      refine A4 (A8 120 _ [false, false, false, false, true, false] [nb2] _ (AS _ Tryd.call120 rfl) rfl (fun w1 hw1 => sreadQ_c nb2 pq1 ao5 zz5.length ca5 z0 zz5 w1 (hw1.ent _ (List.mem_of_getElem? (i := 4) rfl)) rfl (by omega) (by omega) (by omega) ((fun w M h => hA5 w M ((fun w M h => hA4 w M ((fun w M h => hA3 w M ((fun w M h => hA2 w M ((fun w M h => hA1 w M ((fun _ _ h => h) w M h)) w M h)) w M h)) w M h)) w M h)) _ _ (RdB.of hw1 (AU 1 rfl (AJ (AQ _))) (by intro _; simp only [List.mem_cons, List.not_mem_nil, or_false, not_or]; exact hw1.ne (i := 1) (j := 4) rfl rfl (by decide)))) hq5)) rfl ?_
      rintro v1 L1 ⟨_, ⟨rfl, ao6, zz6, ca6, hq6, ⟨hA6, hb19, hb20, hb21⟩, rfl⟩, rfl⟩
      show JL _ _ _ _ ((51, .agg ([U64 (vQ z0 pq1 8)] ++ cu8 (bQ z0 (pq1 + 8) 32) ++ cu8 (bQ z0 (pq1 + 40) 16)).toArray) :: _) [_, _, _, _, _, ⟨nb2, [errV 50 (eQ z0 (pq1 + 56)), SL ao6 zz6.length ca6], 204, (0, 0)⟩]
      refine AA (Ptr nb5 1) (AD 1 161 49 DO rfl B1 rfl rfl) rfl ?_
      refine A7 (CS 4 nb5 1 49 ([.bool (fQ z0 11), U64 0] ++ cu8 (zr8 32) ++ cu8 (zr8 16)) 163 (.agg ([U64 (vQ z0 pq1 8)] ++ cu8 (bQ z0 (pq1 + 8) 32) ++ cu8 (bQ z0 (pq1 + 40) 16)).toArray) ([U64 (vQ z0 pq1 8)] ++ cu8 (bQ z0 (pq1 + 8) 32) ++ cu8 (bQ z0 (pq1 + 40) 16)) ([.bool (fQ z0 11), U64 (vQ z0 pq1 8)] ++ cu8 (bQ z0 (pq1 + 8) 32) ++ cu8 (bQ z0 (pq1 + 40) 16)) rfl rfl rfl (by first | rfl | simp) B1 (by simp [(B8 _ _ _), (B8 _ _ _)]) (BY (BY (by simp [Value.oneCell']) CT) CT) (by simp [(AN 32), (AN 16)]) (lay_splice (a := [.bool (fQ z0 11)]) (b := [U64 0] ++ cu8 (zr8 32) ++ cu8 (zr8 16)) (c := ([] : List Value)) (by simp only [List.append_assoc, List.cons_append, List.nil_append, List.append_nil]) (by simp [(AN 32), (AN 16), (B8 _ _ _), (B8 _ _ _)]) (by simp [(AN 32), (AN 16), (B8 _ _ _), (B8 _ _ _)]) (by simp only [List.append_assoc, List.cons_append, List.nil_append, List.append_nil]))) rfl ?_
      show JL _ _ _ _ _ [_, _, _, _, ⟨nb5, [.bool (fQ z0 11), U64 (vQ z0 pq1 8)] ++ cu8 (bQ z0 (pq1 + 8) 32) ++ cu8 (bQ z0 (pq1 + 40) 16), 163, (0, 0)⟩, _]
      refine AI (AC (AB (AA (Ptr nb4 3) (AD 3 64 1 AM rfl CX rfl rfl) rfl ?_)))
      refine AA (SL none 0 0) (AO rfl (A0 D1 (AU 2 rfl (AJ (AJ (AK (AK (AK (Seg.head))))))))) rfl ?_
      refine AA (.agg (List.toArray (α := Value) ([.bool (fQ z0 11), U64 (vQ z0 pq1 8)] ++ cu8 (bQ z0 (pq1 + 8) 32) ++ cu8 (bQ z0 (pq1 + 40) 16)))) (AO rfl (BU Tryd.isAgg163 DH (by simp [(B8 _ _ _), (B8 _ _ _)]) (AU 4 rfl (AQ _)))) rfl ?_
      refine A4 (CR 163 50 _ [(0, .agg (List.toArray (α := Value) ([.bool (fQ z0 11), U64 (vQ z0 pq1 8)] ++ cu8 (bQ z0 (pq1 + 8) 32) ++ cu8 (bQ z0 (pq1 + 40) 16))))] ([.bool (fQ z0 11), U64 (vQ z0 pq1 8)] ++ cu8 (bQ z0 (pq1 + 8) 32) ++ cu8 (bQ z0 (pq1 + 40) 16)) CE DH Tryd.zeroValue163 rfl rfl rfl (fill_one (Z := [.bool false, U64 0] ++ cu8 (zr8 32) ++ cu8 (zr8 16)) (by simp [(B8 _ _ _), (B8 _ _ _)]) (by kernel_rfl) (by simp [zr8]))) rfl ?_
      rintro v1 L1 ⟨nb6, hnb6, rfl, rfl⟩
      show JL _ _ _ _ ((56, Slc nb6 0 1 1) :: _) [_, _, _, _, _, _, ⟨nb6, [.bool (fQ z0 11), U64 (vQ z0 pq1 8)] ++ cu8 (bQ z0 (pq1 + 8) 32) ++ cu8 (bQ z0 (pq1 + 40) 16), 163, (0, 0)⟩]
      refine A4 (Step_appI 64 163 64 (.agg (List.toArray (α := Value) ([.bool false, U64 0] ++ cu8 (zr8 32) ++ cu8 (zr8 16)))) [false, false, false, false, false, false, false] (SL none 0 0) 0 ([] : List ItemR) (ItemR.mk (fQ z0 11) (SealR.mk (vQ z0 pq1 8) (bQ z0 (pq1 + 8) 32) (bQ z0 (pq1 + 40) 16) (B8 _ _ _) (B8 _ _ _))) (some ⟨nb6, 0, none⟩) 1 1 CE (by kernel_rfl) (by kernel_rfl) rfl (.inl ⟨rfl, rfl, rfl, rfl⟩) rfl (SrcAt.mem (AU 6 rfl (AQ _))) (by omega) (by omega) (by omega)) rfl ?_
      rintro v1 L1 ⟨nb7, sp2, cp2, hg1, rfl, rfl, ha1, ha2, ha3, ha4⟩
      show JL _ _ _ _ ((57, Slc nb7 0 1 cp2) :: _) [_, _, _, _, _, _, _, ⟨nb7, (([] : List ItemR) ++ [(ItemR.mk (fQ z0 11) (SealR.mk (vQ z0 pq1 8) (bQ z0 (pq1 + 8) 32) (bQ z0 (pq1 + 40) 16) (B8 _ _ _) (B8 _ _ _)))]).flatMap itemC ++ sp2, 163, (0, 0)⟩]
      refine AA (Ptr nb4 3) (AD 3 64 1 AM rfl CX rfl rfl) rfl ?_
      refine A7 (CS 2 nb4 3 1 ([U64 (vQ z0 0 8), I64 (((vQ z0 8 1).toNat:Int)), I64 (((vQ z0 9 1).toNat:Int)), SL none 0 0, .bool false, U64 0, U64 0, I64 0, SL none 0 0, SL none 0 0, U64 0] ++ cu8 (zr8 16) ++ [SL none 0 0, SL none 0 0]) 67 (Slc nb7 0 1 cp2) ([Slc nb7 0 1 cp2]) ([U64 (vQ z0 0 8), I64 (((vQ z0 8 1).toNat:Int)), I64 (((vQ z0 9 1).toNat:Int)), Slc nb7 0 1 cp2, .bool false, U64 0, U64 0, I64 0, SL none 0 0, SL none 0 0, U64 0] ++ cu8 (zr8 16) ++ [SL none 0 0, SL none 0 0]) rfl rfl rfl rfl CX rfl (by simp [Value.oneCell']) (by simp [(AN 16)]) (EF (p := [U64 (vQ z0 0 8), I64 (((vQ z0 8 1).toNat:Int)), I64 (((vQ z0 9 1).toNat:Int)), SL none 0 0, .bool false, U64 0, U64 0, I64 0, SL none 0 0, SL none 0 0, U64 0] ++ cu8 (zr8 16)) (vs := [Slc nb7 0 1 cp2]) (o := 3) (by simp [(AN 16)]) (EF (p := [U64 (vQ z0 0 8), I64 (((vQ z0 8 1).toNat:Int)), I64 (((vQ z0 9 1).toNat:Int)), SL none 0 0, .bool false, U64 0, U64 0, I64 0, SL none 0 0, SL none 0 0, U64 0]) (vs := [Slc nb7 0 1 cp2]) (o := 3) (by simp []) (rfl)))) rfl ?_
      show JL _ _ _ _ _ [_, _, ⟨nb4, [U64 (vQ z0 0 8), I64 (((vQ z0 8 1).toNat:Int)), I64 (((vQ z0 9 1).toNat:Int)), Slc nb7 0 1 cp2, .bool false, U64 0, U64 0, I64 0, SL none 0 0, SL none 0 0, U64 0] ++ cu8 (zr8 16) ++ [SL none 0 0, SL none 0 0], 67, (0, 0)⟩, _, _, _, _, _]
      refine AI (BS (AC (AB (AA (I64 1) (AR rfl rfl fun _ => DQ _ _ (1:Int) (by omega) (by omega)) rfl ?_))))
      refine AA _ (AF rfl) rfl ?_
      refine AI (D0 (B4 [true, true, true, true, false, true, false, true] ?_))
      show K _ _ [_, _, _, _, _, _] _
      refine EV (.inr ((pq1 + 56), 1, ([] : List ItemR) ++ [(ItemR.mk (fQ z0 11) (SealR.mk (vQ z0 pq1 8) (bQ z0 (pq1 + 8) 32) (bQ z0 (pq1 + 40) 16) (B8 _ _ _) (B8 _ _ _)))], nb7, sp2, cp2, ao6, zz6, ca6)) ⟨qI_t (i := 0) (rfl : 11 = qI z0 11 0) hb18 hpq1, by omega, by omega, (congrArg (fun x => [x]) (iQ_t hb18 hpq1 _ _) : _ = itQ z0 11 1), (ha1).trans (by first | rfl | simp +arith), (ha2).trans (by first | rfl | simp +arith), by omega, by omega, hq6, (fun w M h => hA6 w M ((fun w M h => hA5 w M ((fun w M h => hA4 w M ((fun w M h => hA3 w M ((fun w M h => hA2 w M ((fun w M h => hA1 w M ((fun _ _ h => h) w M h)) w M h)) w M h)) w M h)) w M h)) w M h)), by omega, by omega, by omega⟩ (by dsimp only; omega) (Sub.all rfl) rfl
     ·
      refine BF (AC (AB (AA (Ptr nb4 3) (AD 3 64 1 AM rfl CX rfl rfl) rfl ?_)))
      refine AA (SL none 0 0) (AO rfl (A0 D1 (AU 2 rfl (AJ (AJ (AK (AK (AK (Seg.head))))))))) rfl ?_
      refine AA (.agg (List.toArray (α := Value) ([.bool (fQ z0 11), U64 0] ++ cu8 (zr8 32) ++ cu8 (zr8 16)))) (AO rfl (BU Tryd.isAgg163 DH (by simp [(AN 32), (AN 16)]) (AU 5 rfl (AQ _)))) rfl ?_
      refine A4 (CR 163 50 _ [(0, .agg (List.toArray (α := Value) ([.bool (fQ z0 11), U64 0] ++ cu8 (zr8 32) ++ cu8 (zr8 16))))] ([.bool (fQ z0 11), U64 0] ++ cu8 (zr8 32) ++ cu8 (zr8 16)) CE DH Tryd.zeroValue163 rfl rfl rfl (fill_one (Z := [.bool false, U64 0] ++ cu8 (zr8 32) ++ cu8 (zr8 16)) (by simp [(AN 32), (AN 16)]) (by kernel_rfl) (by simp [zr8]))) rfl ?_
      rintro v1 L1 ⟨nb8, hnb8, rfl, rfl⟩
      show JL _ _ _ _ ((56, Slc nb8 0 1 1) :: _) [_, _, _, _, _, _, ⟨nb8, [.bool (fQ z0 11), U64 0] ++ cu8 (zr8 32) ++ cu8 (zr8 16), 163, (0, 0)⟩]
      refine A4 (Step_appI 64 163 64 (.agg (List.toArray (α := Value) ([.bool false, U64 0] ++ cu8 (zr8 32) ++ cu8 (zr8 16)))) [false, false, false, false, false, false, false] (SL none 0 0) 0 ([] : List ItemR) (ItemR.mk (fQ z0 11) (SealR.mk (0:UInt64) (zr8 32) (zr8 16) (AN 32) (AN 16))) (some ⟨nb8, 0, none⟩) 1 1 CE (by kernel_rfl) (by kernel_rfl) rfl (.inl ⟨rfl, rfl, rfl, rfl⟩) rfl (SrcAt.mem (AU 6 rfl (AQ _))) (by omega) (by omega) (by omega)) rfl ?_
      rintro v1 L1 ⟨nb9, sp3, cp3, hg2, rfl, rfl, ha5, ha6, ha7, ha8⟩
      show JL _ _ _ _ ((57, Slc nb9 0 1 cp3) :: _) [_, _, _, _, _, _, _, ⟨nb9, (([] : List ItemR) ++ [(ItemR.mk (fQ z0 11) (SealR.mk (0:UInt64) (zr8 32) (zr8 16) (AN 32) (AN 16)))]).flatMap itemC ++ sp3, 163, (0, 0)⟩]
      refine AA (Ptr nb4 3) (AD 3 64 1 AM rfl CX rfl rfl) rfl ?_
      refine A7 (CS 2 nb4 3 1 ([U64 (vQ z0 0 8), I64 (((vQ z0 8 1).toNat:Int)), I64 (((vQ z0 9 1).toNat:Int)), SL none 0 0, .bool false, U64 0, U64 0, I64 0, SL none 0 0, SL none 0 0, U64 0] ++ cu8 (zr8 16) ++ [SL none 0 0, SL none 0 0]) 67 (Slc nb9 0 1 cp3) ([Slc nb9 0 1 cp3]) ([U64 (vQ z0 0 8), I64 (((vQ z0 8 1).toNat:Int)), I64 (((vQ z0 9 1).toNat:Int)), Slc nb9 0 1 cp3, .bool false, U64 0, U64 0, I64 0, SL none 0 0, SL none 0 0, U64 0] ++ cu8 (zr8 16) ++ [SL none 0 0, SL none 0 0]) rfl rfl rfl rfl CX rfl (by simp [Value.oneCell']) (by simp [(AN 16)]) (EF (p := [U64 (vQ z0 0 8), I64 (((vQ z0 8 1).toNat:Int)), I64 (((vQ z0 9 1).toNat:Int)), SL none 0 0, .bool false, U64 0, U64 0, I64 0, SL none 0 0, SL none 0 0, U64 0] ++ cu8 (zr8 16)) (vs := [Slc nb9 0 1 cp3]) (o := 3) (by simp [(AN 16)]) (EF (p := [U64 (vQ z0 0 8), I64 (((vQ z0 8 1).toNat:Int)), I64 (((vQ z0 9 1).toNat:Int)), SL none 0 0, .bool false, U64 0, U64 0, I64 0, SL none 0 0, SL none 0 0, U64 0]) (vs := [Slc nb9 0 1 cp3]) (o := 3) (by simp []) (rfl)))) rfl ?_
      show JL _ _ _ _ _ [_, _, ⟨nb4, [U64 (vQ z0 0 8), I64 (((vQ z0 8 1).toNat:Int)), I64 (((vQ z0 9 1).toNat:Int)), Slc nb9 0 1 cp3, .bool false, U64 0, U64 0, I64 0, SL none 0 0, SL none 0 0, U64 0] ++ cu8 (zr8 16) ++ [SL none 0 0, SL none 0 0], 67, (0, 0)⟩, _, _, _, _, _]
      refine AI (BS (AC (AB (AA (I64 1) (AR rfl rfl fun _ => DQ _ _ (1:Int) (by omega) (by omega)) rfl ?_))))
      refine AA _ (AF rfl) rfl ?_
      refine AI (D0 (B4 [true, true, true, true, true, false, false, true] ?_))
      show K _ _ [_, _, _, _, _, _] _
      refine EV (.inr (pq1, 1, ([] : List ItemR) ++ [(ItemR.mk (fQ z0 11) (SealR.mk (0:UInt64) (zr8 32) (zr8 16) (AN 32) (AN 16)))], nb9, sp3, cp3, ao5, zz5, ca5)) ⟨qI_f (i := 0) (rfl : 11 = qI z0 11 0) hb18 hpq1, by omega, by omega, (congrArg (fun x => [x]) (iQ_f hb18 _ _) : _ = itQ z0 11 1), (ha5).trans (by first | rfl | simp +arith), (ha6).trans (by first | rfl | simp +arith), by omega, by omega, hq5, (fun w M h => hA5 w M ((fun w M h => hA4 w M ((fun w M h => hA3 w M ((fun w M h => hA2 w M ((fun w M h => hA1 w M ((fun _ _ h => h) w M h)) w M h)) w M h)) w M h)) w M h)), by omega, by omega, by omega⟩ (by dsimp only; omega) (Sub.all rfl) rfl
    ·
     have hp14 : ¬ ((0:Int) < ((m:Int))) := of_decide_eq_false hb14
     refine ED (BJ (BJ (C1 (AC (AH (AB (AA (Ptr nb4 3) (AD 3 64 1 AM rfl CX rfl rfl) rfl ?_)))))))
     refine AA (SL none 0 0) (AO rfl (A0 D1 (AU 2 rfl (AJ (AJ (AK (AK (AK (Seg.head))))))))) rfl ?_
     refine AA (I64 0) (DY CE rfl) rfl ?_
     refine AA _ (AF rfl) rfl ?_
     refine AA (.bool (decide ((0:Int) < (((vQ z0 10 1).toNat:Int) + 1)))) (AR rfl rfl fun _ => CH _ _) rfl ?_
     refine AI (AC (B3 _ rfl (decide_eq_true (by omega)) ?_))
     refine AB (AA _ (AF rfl) rfl ?_)
     refine AA (.iface 50 (I64 2)) (C9 BM rfl rfl) rfl ?_
     refine A4 (DS 121 [Ptr nb2 0, .iface 50 (I64 2)] 4 ⟨nb2, [errV 50 (eQ z0 11), SL ao4 zz4.length ca4], 204, (0, 0)⟩ _ (fun v e' l' => v = .tuple #[] ∧ e' = ⟨nb2, [errV 50 (erN (eQ z0 11) 2), SL ao4 zz4.length ca4], 204, (0, 0)⟩ ∧ l' = []) (AS _ DX rfl) rfl (by rintro v l ⟨rfl, rfl⟩; exact ⟨_, _, rfl, rfl, rfl, rfl, rfl⟩) (fun w1 hw1 => EL nb2 (eQ z0 11) 2 (SL ao4 zz4.length ca4) w1 (by decide) (hw1.ent _ (List.mem_of_getElem? (i := 4) rfl)))) rfl ?_
     rintro v1 L1 ⟨_, _, ⟨rfl, rfl, rfl⟩, rfl⟩
     show JL _ _ _ _ ((67, .tuple #[]) :: _) [_, _, _, _, ⟨nb2, [errV 50 (erN (eQ z0 11) 2), SL ao4 zz4.length ca4], 204, (0, 0)⟩]
     refine AI ?_
     have hit : itZ z0 = true := hb10
     have hgl : z0.length < qI z0 11 (nI z0) := by have h9 := qI_ge z0 11 (nI z0); have h8 : nI z0 = (vQ z0 10 1).toNat + 1 := rfl; omega
     rw [show erN (eQ z0 11) 2 = eQ z0 (qI z0 11 (nI z0)) from erQ_q hgl]
     refine EX [0, 1, 4, 2, 3] (by decide) ?_
     show JQ _ _ _ _ [_, _, _, _, _]
     refine DT ((qI z0 11 (nI z0), none, ([] : List ItemR), 0, 0, sg1, cs1, nT1, ao4, zz4, ca4)) ⟨(P1_t hit).symm, (fun h => absurd h (by omega)), rfl, by omega, .inl rfl, by omega, by first | omega | (unfold maxLen; omega), (fun h => absurd h (by omega)), (fun w M h => hA4 w M ((fun w M h => hA3 w M ((fun w M h => hA2 w M ((fun w M h => hA1 w M ((fun _ _ h => h) w M h)) w M h)) w M h)) w M h)), by omega, by omega, by omega⟩ (Sub.all rfl) rfl
   ·
    obtain ⟨hiq, hi1, hi2, hi3, hi4, hi5, hi6, hi7, hi8, hi9, hi10, hi11, hi12⟩ := hx
    show JC _ _ _ [(2, Ptr nb1 0), (3, .nilIface), (4, Ptr nb2 0), (5, Ptr nb4 0), (10, I64 (((vQ z0 10 1).toNat:Int) + 1)), (42, I64 m), (43, I64 i)] [⟨nb1, [U64 0, I64 0, I64 0, SL none 0 0, .bool false, U64 0, U64 0, I64 0, SL none 0 0, SL none 0 0, U64 0] ++ cu8 (zr8 16) ++ [SL none 0 0, SL none 0 0], 67, (0, 0)⟩, ⟨nb3, cu8 z0 ++ sp1, 5, (0, 0)⟩, ⟨nb4, [U64 (vQ z0 0 8), I64 (((vQ z0 8 1).toNat:Int)), I64 (((vQ z0 9 1).toNat:Int)), Slc gb 0 i cp, .bool false, U64 0, U64 0, I64 0, SL none 0 0, SL none 0 0, U64 0] ++ cu8 (zr8 16) ++ [SL none 0 0, SL none 0 0], 67, (0, 0)⟩, ⟨sg1, cs1, nT1, (0, 0)⟩, ⟨nb2, [errV 50 (eQ z0 qi), SL aa zz.length cc], 204, (0, 0)⟩, ⟨gb, (ll).flatMap itemC ++ sp, 163, (0, 0)⟩]
    refine AH (AB (AA (.bool (decide (((i:Int)) < ((m:Int))))) (AR rfl rfl fun _ => CH _ _) rfl ?_))
    refine AI (AC (AH (B9 (decide (((i:Int)) < ((m:Int)))) rfl (fun hb22 => ?_) (fun hb22 => ?_))))
    ·
     have hp22 : ((i:Int)) < ((m:Int)) := of_decide_eq_true hb22
     refine BF (AC (AH (B5 (AH (AB (AA _ (AF rfl) rfl ?_))))))
     have hz7 : (zz).length = zz.length := rfl
     refine A4 (A8 119 _ [false, false, false, false, true, false] [nb2] _ (AS [Ptr nb2 0] Tryd.call119 rfl) rfl (fun w1 hw1 => flgQ_w nb2 qi aa zz.length cc z0 zz w1 (hw1.ent _ (List.mem_of_getElem? (i := 4) rfl)) rfl (by omega) (by omega) (by omega) (hi9 _ _ (RdB.of hw1 (AU 1 rfl (AJ (AQ _))) (by intro _; simp only [List.mem_cons, List.not_mem_nil, or_false, not_or]; exact hw1.ne (i := 1) (j := 4) rfl rfl (by decide)))) hi8)) rfl ?_
     rintro v1 L1 ⟨_, ⟨rfl, pq2, ao7, zz7, ca7, hpq2, hq7, ⟨hA7, hb23, hb24, hb25⟩, rfl⟩, rfl⟩
     show JL _ _ _ _ ((46, .bool (fQ z0 qi)) :: _) [_, _, _, _, _, ⟨nb2, [errV 50 (eQ z0 pq2), SL ao7 zz7.length ca7], 204, (0, 0)⟩]
     refine AA (.agg (List.toArray (α := Value) ([.bool (fQ z0 qi), U64 0] ++ cu8 (zr8 32) ++ cu8 (zr8 16)))) (CP [(0, .bool (fQ z0 qi))] _ rfl (fun _ => bld163_0 rfl)) rfl ?_
     refine A4 (C0 _ ([.bool false, U64 0] ++ cu8 (zr8 32) ++ cu8 (zr8 16)) Tryd.zeroValue163 (by kernel_rfl)) rfl ?_
     rintro v1 L1 ⟨nb10, hnb10, rfl, rfl⟩
     show JL _ _ _ _ ((11, Ptr nb10 0) :: _) [_, _, _, _, _, _, ⟨nb10, [.bool false, U64 0] ++ cu8 (zr8 32) ++ cu8 (zr8 16), 163, (0, 0)⟩]
     refine A7 (BQ 6 nb10 50 ([.bool false, U64 0] ++ cu8 (zr8 32) ++ cu8 (zr8 16)) 163 ([.bool (fQ z0 qi), U64 0] ++ cu8 (zr8 32) ++ cu8 (zr8 16)) rfl rfl rfl DH (by simp [(AN 32), (AN 16)]) (BY (BY (by simp [Value.oneCell']) CT) CT) (by simp [(AN 32), (AN 16)]) (BT (by simp [(AN 32), (AN 16), (AN 32), (AN 16)]))) rfl ?_
     show JL _ _ _ _ _ [_, _, _, _, _, _, ⟨nb10, [.bool (fQ z0 qi), U64 0] ++ cu8 (zr8 32) ++ cu8 (zr8 16), 163, (0, 0)⟩]
     refine AI (AC (AH (AH (AB (AA (Ptr nb10 0) (AD 0 4 1 DO rfl Tryd.sizeOf4 rfl rfl) rfl ?_)))))
     refine AA (.bool (fQ z0 qi)) (AO rfl (A0 Tryd.isAgg4 (AU 6 rfl (AJ (AJ (Seg.head)))))) rfl ?_
     refine AI (AC (B9 (fQ z0 qi) rfl (fun hb26 => ?_) (fun hb26 => ?_)))
     ·
      refine AB (AA _ (AF rfl) rfl ?_)
      have hz8 : (zz7).length = zz7.length := rfl
      refine A4 (A8 120 _ [false, false, false, false, false, true, false] [nb2] _ (AS _ Tryd.call120 rfl) rfl (fun w1 hw1 => sreadQ_c nb2 pq2 ao7 zz7.length ca7 z0 zz7 w1 (hw1.ent _ (List.mem_of_getElem? (i := 5) rfl)) rfl (by omega) (by omega) (by omega) ((fun w M h => hA7 w M (hi9 w M h)) _ _ (RdB.of hw1 (AU 1 rfl (AJ (AQ _))) (by intro _; simp only [List.mem_cons, List.not_mem_nil, or_false, not_or]; exact hw1.ne (i := 1) (j := 5) rfl rfl (by decide)))) hq7)) rfl ?_
      rintro v1 L1 ⟨_, ⟨rfl, ao8, zz8, ca8, hq8, ⟨hA8, hb27, hb28, hb29⟩, rfl⟩, rfl⟩
      show JL _ _ _ _ ((51, .agg ([U64 (vQ z0 pq2 8)] ++ cu8 (bQ z0 (pq2 + 8) 32) ++ cu8 (bQ z0 (pq2 + 40) 16)).toArray) :: _) [_, _, _, _, _, _, ⟨nb2, [errV 50 (eQ z0 (pq2 + 56)), SL ao8 zz8.length ca8], 204, (0, 0)⟩]
      refine AA (Ptr nb10 1) (AD 1 161 49 DO rfl B1 rfl rfl) rfl ?_
      refine A7 (CS 5 nb10 1 49 ([.bool (fQ z0 qi), U64 0] ++ cu8 (zr8 32) ++ cu8 (zr8 16)) 163 (.agg ([U64 (vQ z0 pq2 8)] ++ cu8 (bQ z0 (pq2 + 8) 32) ++ cu8 (bQ z0 (pq2 + 40) 16)).toArray) ([U64 (vQ z0 pq2 8)] ++ cu8 (bQ z0 (pq2 + 8) 32) ++ cu8 (bQ z0 (pq2 + 40) 16)) ([.bool (fQ z0 qi), U64 (vQ z0 pq2 8)] ++ cu8 (bQ z0 (pq2 + 8) 32) ++ cu8 (bQ z0 (pq2 + 40) 16)) rfl rfl rfl (by first | rfl | simp) B1 (by simp [(B8 _ _ _), (B8 _ _ _)]) (BY (BY (by simp [Value.oneCell']) CT) CT) (by simp [(AN 32), (AN 16)]) (lay_splice (a := [.bool (fQ z0 qi)]) (b := [U64 0] ++ cu8 (zr8 32) ++ cu8 (zr8 16)) (c := ([] : List Value)) (by simp only [List.append_assoc, List.cons_append, List.nil_append, List.append_nil]) (by simp [(AN 32), (AN 16), (B8 _ _ _), (B8 _ _ _)]) (by simp [(AN 32), (AN 16), (B8 _ _ _), (B8 _ _ _)]) (by simp only [List.append_assoc, List.cons_append, List.nil_append, List.append_nil]))) rfl ?_
      show JL _ _ _ _ _ [_, _, _, _, _, ⟨nb10, [.bool (fQ z0 qi), U64 (vQ z0 pq2 8)] ++ cu8 (bQ z0 (pq2 + 8) 32) ++ cu8 (bQ z0 (pq2 + 40) 16), 163, (0, 0)⟩, _]
      refine AI (AC (AB (AA (Ptr nb4 3) (AD 3 64 1 AM rfl CX rfl rfl) rfl ?_)))
      refine AA (Slc gb 0 i cp) (AO rfl (A0 D1 (AU 2 rfl (AJ (AJ (AK (AK (AK (Seg.head))))))))) rfl ?_
      refine AA (.agg (List.toArray (α := Value) ([.bool (fQ z0 qi), U64 (vQ z0 pq2 8)] ++ cu8 (bQ z0 (pq2 + 8) 32) ++ cu8 (bQ z0 (pq2 + 40) 16)))) (AO rfl (BU Tryd.isAgg163 DH (by simp [(B8 _ _ _), (B8 _ _ _)]) (AU 5 rfl (AQ _)))) rfl ?_
      refine A4 (CR 163 50 _ [(0, .agg (List.toArray (α := Value) ([.bool (fQ z0 qi), U64 (vQ z0 pq2 8)] ++ cu8 (bQ z0 (pq2 + 8) 32) ++ cu8 (bQ z0 (pq2 + 40) 16))))] ([.bool (fQ z0 qi), U64 (vQ z0 pq2 8)] ++ cu8 (bQ z0 (pq2 + 8) 32) ++ cu8 (bQ z0 (pq2 + 40) 16)) CE DH Tryd.zeroValue163 rfl rfl rfl (fill_one (Z := [.bool false, U64 0] ++ cu8 (zr8 32) ++ cu8 (zr8 16)) (by simp [(B8 _ _ _), (B8 _ _ _)]) (by kernel_rfl) (by simp [zr8]))) rfl ?_
      rintro v1 L1 ⟨nb11, hnb11, rfl, rfl⟩
      show JL _ _ _ _ ((56, Slc nb11 0 1 1) :: _) [_, _, _, _, _, _, _, ⟨nb11, [.bool (fQ z0 qi), U64 (vQ z0 pq2 8)] ++ cu8 (bQ z0 (pq2 + 8) 32) ++ cu8 (bQ z0 (pq2 + 40) 16), 163, (0, 0)⟩]
      refine A4 (Step_appI 64 163 64 (.agg (List.toArray (α := Value) ([.bool false, U64 0] ++ cu8 (zr8 32) ++ cu8 (zr8 16)))) [false, false, false, false, true, false, false, false] (Slc gb 0 i cp) i ll (ItemR.mk (fQ z0 qi) (SealR.mk (vQ z0 pq2 8) (bQ z0 (pq2 + 8) 32) (bQ z0 (pq2 + 40) 16) (B8 _ _ _) (B8 _ _ _))) (some ⟨nb11, 0, none⟩) 1 (i + 1) CE (by kernel_rfl) (by kernel_rfl) rfl (.inr ⟨gb, sp, cp, rfl, rfl, (by have h : (ll).length = i := hi4; omega), (by first | exact hi5 | omega), (by omega), (by omega)⟩) rfl (SrcAt.mem (AU 7 rfl (AQ _))) (by omega) (by omega) (by omega)) rfl ?_
      rintro v1 L1 ⟨nb12, sp4, cp4, hg3, rfl, rfl, ha9, ha10, ha11, ha12⟩
      show JL _ _ _ _ ((57, Slc nb12 0 (i + 1) cp4) :: _) [_, _, _, _, _, _, _, ⟨nb12, (ll ++ [(ItemR.mk (fQ z0 qi) (SealR.mk (vQ z0 pq2 8) (bQ z0 (pq2 + 8) 32) (bQ z0 (pq2 + 40) 16) (B8 _ _ _) (B8 _ _ _)))]).flatMap itemC ++ sp4, 163, (0, 0)⟩]
      refine AA (Ptr nb4 3) (AD 3 64 1 AM rfl CX rfl rfl) rfl ?_
      refine A7 (CS 2 nb4 3 1 ([U64 (vQ z0 0 8), I64 (((vQ z0 8 1).toNat:Int)), I64 (((vQ z0 9 1).toNat:Int)), Slc gb 0 i cp, .bool false, U64 0, U64 0, I64 0, SL none 0 0, SL none 0 0, U64 0] ++ cu8 (zr8 16) ++ [SL none 0 0, SL none 0 0]) 67 (Slc nb12 0 (i + 1) cp4) ([Slc nb12 0 (i + 1) cp4]) ([U64 (vQ z0 0 8), I64 (((vQ z0 8 1).toNat:Int)), I64 (((vQ z0 9 1).toNat:Int)), Slc nb12 0 (i + 1) cp4, .bool false, U64 0, U64 0, I64 0, SL none 0 0, SL none 0 0, U64 0] ++ cu8 (zr8 16) ++ [SL none 0 0, SL none 0 0]) rfl rfl rfl rfl CX rfl (by simp [Value.oneCell']) (by simp [(AN 16)]) (EF (p := [U64 (vQ z0 0 8), I64 (((vQ z0 8 1).toNat:Int)), I64 (((vQ z0 9 1).toNat:Int)), Slc gb 0 i cp, .bool false, U64 0, U64 0, I64 0, SL none 0 0, SL none 0 0, U64 0] ++ cu8 (zr8 16)) (vs := [Slc nb12 0 (i + 1) cp4]) (o := 3) (by simp [(AN 16)]) (EF (p := [U64 (vQ z0 0 8), I64 (((vQ z0 8 1).toNat:Int)), I64 (((vQ z0 9 1).toNat:Int)), Slc gb 0 i cp, .bool false, U64 0, U64 0, I64 0, SL none 0 0, SL none 0 0, U64 0]) (vs := [Slc nb12 0 (i + 1) cp4]) (o := 3) (by simp []) (rfl)))) rfl ?_
      show JL _ _ _ _ _ [_, _, ⟨nb4, [U64 (vQ z0 0 8), I64 (((vQ z0 8 1).toNat:Int)), I64 (((vQ z0 9 1).toNat:Int)), Slc nb12 0 (i + 1) cp4, .bool false, U64 0, U64 0, I64 0, SL none 0 0, SL none 0 0, U64 0] ++ cu8 (zr8 16) ++ [SL none 0 0, SL none 0 0], 67, (0, 0)⟩, _, _, _, _, _]
      refine AI (BS (AC (AB (AA (I64 ((i:Int) + 1)) (AR rfl rfl fun _ => DQ _ _ ((i:Int) + 1) (by omega) (by omega)) rfl ?_))))
      refine AA _ (AF rfl) rfl ?_
      refine AI (D0 (B4 [true, true, true, true, false, true, false, true] ?_))
      show K _ _ [_, _, _, _, _, _] _
      refine EV (.inr ((pq2 + 56), i + 1, ll ++ [(ItemR.mk (fQ z0 qi) (SealR.mk (vQ z0 pq2 8) (bQ z0 (pq2 + 8) 32) (bQ z0 (pq2 + 40) 16) (B8 _ _ _) (B8 _ _ _)))], nb12, sp4, cp4, ao8, zz8, ca8)) ⟨qI_t (i := i) hiq hb26 hpq2, by omega, by omega, (by rw [itQ_suc, ← hiq, ← hi3]; exact congrArg (fun x => ll ++ [x]) (iQ_t hb26 hpq2 _ _)), (ha9).trans (by first | rfl | simp +arith), (ha10).trans (by first | rfl | simp +arith), by omega, by omega, hq8, (fun w M h => hA8 w M ((fun w M h => hA7 w M (hi9 w M h)) w M h)), by omega, by omega, by omega⟩ (by dsimp only; omega) (Sub.all rfl) rfl
     ·
      refine BF (AC (AB (AA (Ptr nb4 3) (AD 3 64 1 AM rfl CX rfl rfl) rfl ?_)))
      refine AA (Slc gb 0 i cp) (AO rfl (A0 D1 (AU 2 rfl (AJ (AJ (AK (AK (AK (Seg.head))))))))) rfl ?_
      refine AA (.agg (List.toArray (α := Value) ([.bool (fQ z0 qi), U64 0] ++ cu8 (zr8 32) ++ cu8 (zr8 16)))) (AO rfl (BU Tryd.isAgg163 DH (by simp [(AN 32), (AN 16)]) (AU 6 rfl (AQ _)))) rfl ?_
      refine A4 (CR 163 50 _ [(0, .agg (List.toArray (α := Value) ([.bool (fQ z0 qi), U64 0] ++ cu8 (zr8 32) ++ cu8 (zr8 16))))] ([.bool (fQ z0 qi), U64 0] ++ cu8 (zr8 32) ++ cu8 (zr8 16)) CE DH Tryd.zeroValue163 rfl rfl rfl (fill_one (Z := [.bool false, U64 0] ++ cu8 (zr8 32) ++ cu8 (zr8 16)) (by simp [(AN 32), (AN 16)]) (by kernel_rfl) (by simp [zr8]))) rfl ?_
      rintro v1 L1 ⟨nb13, hnb13, rfl, rfl⟩
      show JL _ _ _ _ ((56, Slc nb13 0 1 1) :: _) [_, _, _, _, _, _, _, ⟨nb13, [.bool (fQ z0 qi), U64 0] ++ cu8 (zr8 32) ++ cu8 (zr8 16), 163, (0, 0)⟩]
      refine A4 (Step_appI 64 163 64 (.agg (List.toArray (α := Value) ([.bool false, U64 0] ++ cu8 (zr8 32) ++ cu8 (zr8 16)))) [false, false, false, false, true, false, false, false] (Slc gb 0 i cp) i ll (ItemR.mk (fQ z0 qi) (SealR.mk (0:UInt64) (zr8 32) (zr8 16) (AN 32) (AN 16))) (some ⟨nb13, 0, none⟩) 1 (i + 1) CE (by kernel_rfl) (by kernel_rfl) rfl (.inr ⟨gb, sp, cp, rfl, rfl, (by have h : (ll).length = i := hi4; omega), (by first | exact hi5 | omega), (by omega), (by omega)⟩) rfl (SrcAt.mem (AU 7 rfl (AQ _))) (by omega) (by omega) (by omega)) rfl ?_
      rintro v1 L1 ⟨nb14, sp5, cp5, hg4, rfl, rfl, ha13, ha14, ha15, ha16⟩
      show JL _ _ _ _ ((57, Slc nb14 0 (i + 1) cp5) :: _) [_, _, _, _, _, _, _, ⟨nb14, (ll ++ [(ItemR.mk (fQ z0 qi) (SealR.mk (0:UInt64) (zr8 32) (zr8 16) (AN 32) (AN 16)))]).flatMap itemC ++ sp5, 163, (0, 0)⟩]
      refine AA (Ptr nb4 3) (AD 3 64 1 AM rfl CX rfl rfl) rfl ?_
      refine A7 (CS 2 nb4 3 1 ([U64 (vQ z0 0 8), I64 (((vQ z0 8 1).toNat:Int)), I64 (((vQ z0 9 1).toNat:Int)), Slc gb 0 i cp, .bool false, U64 0, U64 0, I64 0, SL none 0 0, SL none 0 0, U64 0] ++ cu8 (zr8 16) ++ [SL none 0 0, SL none 0 0]) 67 (Slc nb14 0 (i + 1) cp5) ([Slc nb14 0 (i + 1) cp5]) ([U64 (vQ z0 0 8), I64 (((vQ z0 8 1).toNat:Int)), I64 (((vQ z0 9 1).toNat:Int)), Slc nb14 0 (i + 1) cp5, .bool false, U64 0, U64 0, I64 0, SL none 0 0, SL none 0 0, U64 0] ++ cu8 (zr8 16) ++ [SL none 0 0, SL none 0 0]) rfl rfl rfl rfl CX rfl (by simp [Value.oneCell']) (by simp [(AN 16)]) (EF (p := [U64 (vQ z0 0 8), I64 (((vQ z0 8 1).toNat:Int)), I64 (((vQ z0 9 1).toNat:Int)), Slc gb 0 i cp, .bool false, U64 0, U64 0, I64 0, SL none 0 0, SL none 0 0, U64 0] ++ cu8 (zr8 16)) (vs := [Slc nb14 0 (i + 1) cp5]) (o := 3) (by simp [(AN 16)]) (EF (p := [U64 (vQ z0 0 8), I64 (((vQ z0 8 1).toNat:Int)), I64 (((vQ z0 9 1).toNat:Int)), Slc gb 0 i cp, .bool false, U64 0, U64 0, I64 0, SL none 0 0, SL none 0 0, U64 0]) (vs := [Slc nb14 0 (i + 1) cp5]) (o := 3) (by simp []) (rfl)))) rfl ?_
      show JL _ _ _ _ _ [_, _, ⟨nb4, [U64 (vQ z0 0 8), I64 (((vQ z0 8 1).toNat:Int)), I64 (((vQ z0 9 1).toNat:Int)), Slc nb14 0 (i + 1) cp5, .bool false, U64 0, U64 0, I64 0, SL none 0 0, SL none 0 0, U64 0] ++ cu8 (zr8 16) ++ [SL none 0 0, SL none 0 0], 67, (0, 0)⟩, _, _, _, _, _]
      refine AI (BS (AC (AB (AA (I64 ((i:Int) + 1)) (AR rfl rfl fun _ => DQ _ _ ((i:Int) + 1) (by omega) (by omega)) rfl ?_))))
      refine AA _ (AF rfl) rfl ?_
      refine AI (D0 (B4 [true, true, true, true, true, false, false, true] ?_))
      show K _ _ [_, _, _, _, _, _] _
      refine EV (.inr (pq2, i + 1, ll ++ [(ItemR.mk (fQ z0 qi) (SealR.mk (0:UInt64) (zr8 32) (zr8 16) (AN 32) (AN 16)))], nb14, sp5, cp5, ao7, zz7, ca7)) ⟨qI_f (i := i) hiq hb26 hpq2, by omega, by omega, (by rw [itQ_suc, ← hiq, ← hi3]; exact congrArg (fun x => ll ++ [x]) (iQ_f hb26 _ _)), (ha13).trans (by first | rfl | simp +arith), (ha14).trans (by first | rfl | simp +arith), by omega, by omega, hq7, (fun w M h => hA7 w M (hi9 w M h)), by omega, by omega, by omega⟩ (by dsimp only; omega) (Sub.all rfl) rfl
    ·
     have hp22 : ¬ (((i:Int)) < ((m:Int))) := of_decide_eq_false hb22
     refine ED (BJ (BJ (C1 (AC (AH (AB (AA (Ptr nb4 3) (AD 3 64 1 AM rfl CX rfl rfl) rfl ?_)))))))
     refine AA (Slc gb 0 i cp) (AO rfl (A0 D1 (AU 2 rfl (AJ (AJ (AK (AK (AK (Seg.head))))))))) rfl ?_
     refine AA (I64 i) (DY CE rfl) rfl ?_
     refine AA _ (AF rfl) rfl ?_
     refine AA (.bool (decide (((i:Int)) < (((vQ z0 10 1).toNat:Int) + 1)))) (AR rfl rfl fun _ => CH _ _) rfl ?_
     refine AI (AC (B9 (decide (((i:Int)) < (((vQ z0 10 1).toNat:Int) + 1))) rfl (fun hb30 => ?_) (fun hb30 => ?_)))
     ·
      have hp30 : ((i:Int)) < (((vQ z0 10 1).toNat:Int) + 1) := of_decide_eq_true hb30
      refine AB (AA _ (AF rfl) rfl ?_)
      refine AA (.iface 50 (I64 2)) (C9 BM rfl rfl) rfl ?_
      refine A4 (DS 121 [Ptr nb2 0, .iface 50 (I64 2)] 4 ⟨nb2, [errV 50 (eQ z0 qi), SL aa zz.length cc], 204, (0, 0)⟩ _ (fun v e' l' => v = .tuple #[] ∧ e' = ⟨nb2, [errV 50 (erN (eQ z0 qi) 2), SL aa zz.length cc], 204, (0, 0)⟩ ∧ l' = []) (AS _ DX rfl) rfl (by rintro v l ⟨rfl, rfl⟩; exact ⟨_, _, rfl, rfl, rfl, rfl, rfl⟩) (fun w1 hw1 => EL nb2 (eQ z0 qi) 2 (SL aa zz.length cc) w1 (by decide) (hw1.ent _ (List.mem_of_getElem? (i := 4) rfl)))) rfl ?_
      rintro v1 L1 ⟨_, _, ⟨rfl, rfl, rfl⟩, rfl⟩
      show JL _ _ _ _ ((67, .tuple #[]) :: _) [_, _, _, _, ⟨nb2, [errV 50 (erN (eQ z0 qi) 2), SL aa zz.length cc], 204, (0, 0)⟩, _]
      refine AI ?_
      have hit : itZ z0 = true := hb10
      have ei : m = i := by omega
      subst ei
      have hgl : z0.length < qI z0 11 (nI z0) := by have h9 := qI_ge z0 11 (nI z0); have h8 : nI z0 = (vQ z0 10 1).toNat + 1 := rfl; omega
      rw [show erN (eQ z0 qi) 2 = eQ z0 (qI z0 11 (nI z0)) from erQ_q hgl]
      refine EX [0, 1, 4, 2, 5] (by decide) ?_
      show JQ _ _ _ _ [_, _, _, _, _]
      refine DT ((qI z0 11 (nI z0), (some ⟨gb, 0, none⟩), ll, m, cp, gb, (ll).flatMap itemC ++ sp, 163, aa, zz, cc)) ⟨(P1_t hit).symm, (fun h => absurd h (by omega)), hi4, by omega, .inr ⟨rfl, _, rfl⟩, by omega, by first | omega | (unfold maxLen; omega), (fun h => absurd h (by omega)), hi9, by omega, by omega, by omega⟩ (Sub.all rfl) rfl
     ·
      have hp30 : ¬ (((i:Int)) < (((vQ z0 10 1).toNat:Int) + 1)) := of_decide_eq_false hb30
      refine BF ?_
      have hit : itZ z0 = true := hb10
      have ei : m = i := by omega
      subst ei
      have en : m = nI z0 := by have h8 : nI z0 = (vQ z0 10 1).toNat + 1 := rfl; omega
      subst en
      refine EX [0, 1, 4, 2, 5] (by decide) ?_
      show JQ _ _ _ _ [_, _, _, _, _]
      refine DT ((qi, (some ⟨gb, 0, none⟩), ll, nI z0, cp, gb, (ll).flatMap itemC ++ sp, 163, aa, zz, cc)) ⟨(hiq.trans (P1_t hit).symm), (fun _ => hi3.trans (ljZ_t hit).symm), hi4, by omega, .inr ⟨rfl, _, rfl⟩, by omega, by first | omega | (unfold maxLen; omega), hi8, hi9, by omega, by omega, by omega⟩ (Sub.all rfl) rfl
  ·
   refine BF ?_
   have hit : itZ z0 = false := hb10
   refine DT ((10, none, ([] : List ItemR), 0, 0, sg1, cs1, nT1, ao3, zz3, ca3)) ⟨(P1_f hit).symm, (fun _ => (ljZ_f hit).symm), rfl, by omega, .inl rfl, by omega, by first | omega | (unfold maxLen; omega), hq3, (fun w M h => hA3 w M ((fun w M h => hA2 w M ((fun w M h => hA1 w M ((fun _ _ h => h) w M h)) w M h)) w M h)), by omega, by omega, by omega⟩ (Sub.all rfl) rfl
 ·
  rintro ⟨qa, ja, jl, jn, jc, jg, jcs, jT, ra, zr, rc⟩ hx
  obtain ⟨hqa, hja, hjl, hjn, hjg, hjc, hjm, hrq, hrA, hr1, hr2, hr3⟩ := hx
  show JQ _ _ _ [(2, Ptr nb1 0), (3, .nilIface), (4, Ptr nb2 0), (5, Ptr nb4 0)] [⟨nb1, [U64 0, I64 0, I64 0, SL none 0 0, .bool false, U64 0, U64 0, I64 0, SL none 0 0, SL none 0 0, U64 0] ++ cu8 (zr8 16) ++ [SL none 0 0, SL none 0 0], 67, (0, 0)⟩, ⟨nb3, cu8 z0 ++ sp1, 5, (0, 0)⟩, ⟨nb2, [errV 50 (eQ z0 qa), SL ra zr.length rc], 204, (0, 0)⟩, ⟨nb4, [U64 (vQ z0 0 8), I64 (((vQ z0 8 1).toNat:Int)), I64 (((vQ z0 9 1).toNat:Int)), SL ja jn jc, .bool false, U64 0, U64 0, I64 0, SL none 0 0, SL none 0 0, U64 0] ++ cu8 (zr8 16) ++ [SL none 0 0, SL none 0 0], 67, (0, 0)⟩, ⟨jg, jcs, jT, (0, 0)⟩]
  refine AC (AH (FK (ι := Nat × Bool × Option Addr × List UInt8 × Nat) (fun ⟨qb, th, rb, zb, sb⟩ => [(2, Ptr nb1 0), (3, .nilIface), (4, Ptr nb2 0), (5, Ptr nb4 0)]) (fun ⟨qb, th, rb, zb, sb⟩ => [⟨nb1, [U64 0, I64 0, I64 0, SL none 0 0, .bool false, U64 0, U64 0, I64 0, SL none 0 0, SL none 0 0, U64 0] ++ cu8 (zr8 16) ++ [SL none 0 0, SL none 0 0], 67, (0, 0)⟩, ⟨nb3, cu8 z0 ++ sp1, 5, (0, 0)⟩, ⟨nb2, [errV 50 (eQ z0 qb), SL rb zb.length sb], 204, (0, 0)⟩, ⟨nb4, [U64 (vQ z0 0 8), I64 (((vQ z0 8 1).toNat:Int)), I64 (((vQ z0 9 1).toNat:Int)), SL ja jn jc, .bool th, U64 0, U64 0, I64 0, SL none 0 0, SL none 0 0, U64 0] ++ cu8 (zr8 16) ++ [SL none 0 0, SL none 0 0], 67, (0, 0)⟩, ⟨jg, jcs, jT, (0, 0)⟩]) (fun ⟨qb, th, rb, zb, sb⟩ => qb = P2 z0 ∧ th = thZ z0 ∧ Lq z0 zb qb ∧ (∀ w M, RdB w M (some ⟨nb3, 0, none⟩) z0 → RdB w M rb zb) ∧ zb.length ≤ sb ∧ sb ≤ maxLen ∧ zb.length ≤ n) ?_ ?_))
  ·
   refine AH (AB (AA (Ptr nb4 2) (AD 2 3 1 AM rfl AT rfl rfl) rfl ?_))
   refine AA (I64 (((vQ z0 9 1).toNat:Int))) (AO rfl (A0 AY (AU 3 rfl (AJ (AJ (AK (AK (Seg.head)))))))) rfl ?_
   refine AA (.bool (decide ((((vQ z0 9 1).toNat:Int)) = (0:Int)))) (AR rfl rfl fun _ => BK _ _) rfl ?_
   refine AA _ (AF rfl) rfl ?_
   rcases Bool.eq_false_or_eq_true (decide ((((vQ z0 9 1).toNat:Int)) = (0:Int))) with hb31 | hb31
   ·
    have hp31 : (((vQ z0 9 1).toNat:Int)) = (0:Int) := of_decide_eq_true hb31
    refine AP 3 71 true _ (Ptr nb4 1) rfl rfl hb31 (AD 1 3 1 AM rfl AT rfl rfl) rfl ?_
    refine AP 3 71 true _ (I64 (((vQ z0 8 1).toNat:Int))) rfl rfl hb31 (AO rfl (A0 AY (AU 3 rfl (AJ (AJ (AK (Seg.head))))))) rfl ?_
    refine AP 3 71 true _ (.bool (decide ((((vQ z0 8 1).toNat:Int)) = (4:Int)))) rfl rfl hb31 (AR rfl rfl fun _ => BK _ _) rfl ?_
    refine AA _ (BD _ rfl hb31 rfl) rfl ?_
    refine AI (AC (B9 (decide ((((vQ z0 8 1).toNat:Int)) = (4:Int))) rfl (fun hb32 => ?_) (fun hb32 => ?_)))
    ·
     have hp32 : (((vQ z0 8 1).toNat:Int)) = (4:Int) := of_decide_eq_true hb32
     refine AB (AA _ (AF rfl) rfl ?_)
     have hz9 : (zr).length = zr.length := rfl
     refine A4 (A8 119 _ [false, false, true, false, false] [nb2] _ (AS [Ptr nb2 0] Tryd.call119 rfl) rfl (fun w1 hw1 => flgQ_w nb2 qa ra zr.length rc z0 zr w1 (hw1.ent _ (List.mem_of_getElem? (i := 2) rfl)) rfl (by omega) (by omega) (by omega) (hrA _ _ (RdB.of hw1 (AU 1 rfl (AJ (AQ _))) (by intro _; simp only [List.mem_cons, List.not_mem_nil, or_false, not_or]; exact hw1.ne (i := 1) (j := 2) rfl rfl (by decide)))) hrq)) rfl ?_
     rintro v1 L1 ⟨_, ⟨rfl, pq3, ao9, zz9, ca9, hpq3, hq9, ⟨hA9, hb33, hb34, hb35⟩, rfl⟩, rfl⟩
     show JL _ _ _ _ ((77, .bool (fQ z0 qa)) :: _) [_, _, _, _, ⟨nb2, [errV 50 (eQ z0 pq3), SL ao9 zz9.length ca9], 204, (0, 0)⟩]
     refine AA (Ptr nb4 4) (AD 4 4 1 AM rfl Tryd.sizeOf4 rfl rfl) rfl ?_
     refine A7 (CS 2 nb4 4 1 ([U64 (vQ z0 0 8), I64 (((vQ z0 8 1).toNat:Int)), I64 (((vQ z0 9 1).toNat:Int)), SL ja jn jc, .bool false, U64 0, U64 0, I64 0, SL none 0 0, SL none 0 0, U64 0] ++ cu8 (zr8 16) ++ [SL none 0 0, SL none 0 0]) 67 (.bool (fQ z0 qa)) ([.bool (fQ z0 qa)]) ([U64 (vQ z0 0 8), I64 (((vQ z0 8 1).toNat:Int)), I64 (((vQ z0 9 1).toNat:Int)), SL ja jn jc, .bool (fQ z0 qa), U64 0, U64 0, I64 0, SL none 0 0, SL none 0 0, U64 0] ++ cu8 (zr8 16) ++ [SL none 0 0, SL none 0 0]) rfl rfl rfl rfl Tryd.sizeOf4 rfl (by simp [Value.oneCell']) (by simp [(AN 16)]) (EF (p := [U64 (vQ z0 0 8), I64 (((vQ z0 8 1).toNat:Int)), I64 (((vQ z0 9 1).toNat:Int)), SL ja jn jc, .bool false, U64 0, U64 0, I64 0, SL none 0 0, SL none 0 0, U64 0] ++ cu8 (zr8 16)) (vs := [.bool (fQ z0 qa)]) (o := 4) (by simp [(AN 16)]) (EF (p := [U64 (vQ z0 0 8), I64 (((vQ z0 8 1).toNat:Int)), I64 (((vQ z0 9 1).toNat:Int)), SL ja jn jc, .bool false, U64 0, U64 0, I64 0, SL none 0 0, SL none 0 0, U64 0]) (vs := [.bool (fQ z0 qa)]) (o := 4) (by simp []) (rfl)))) rfl ?_
     show JL _ _ _ _ _ [_, _, ⟨nb4, [U64 (vQ z0 0 8), I64 (((vQ z0 8 1).toNat:Int)), I64 (((vQ z0 9 1).toNat:Int)), SL ja jn jc, .bool (fQ z0 qa), U64 0, U64 0, I64 0, SL none 0 0, SL none 0 0, U64 0] ++ cu8 (zr8 16) ++ [SL none 0 0, SL none 0 0], 67, (0, 0)⟩, _, _]
     refine AI ?_
     have hf4 : F4 z0 = true := F4_t hb31 hb32
     refine EX [0, 1, 4, 2, 3] (by decide) ?_
     show JQ _ _ _ _ [_, _, _, _, _]
     refine DT ((pq3, fQ z0 qa, ao9, zz9, ca9)) ⟨by rw [P2_t hf4, ← hqa]; exact hpq3, by rw [thZ_t hf4, ← hqa], hq9, (fun w M h => hA9 w M (hrA w M h)), by omega, by omega, by omega⟩ (Sub.all rfl) rfl
    ·
     have hp32 : ¬ ((((vQ z0 8 1).toNat:Int)) = (4:Int)) := of_decide_eq_false hb32
     refine BF ?_
     have hf4 : F4 z0 = false := F4_n4 hb32
     refine DT ((qa, false, ra, zr, rc)) ⟨hqa.trans (P2_f hf4).symm, (thZ_f hf4).symm, hrq, hrA, by omega, by omega, by omega⟩ (Sub.all rfl) rfl
   ·
    have hp31 : ¬ ((((vQ z0 9 1).toNat:Int)) = (0:Int)) := of_decide_eq_false hb31
    refine AG 3 71 true _ rfl rfl hb31 rfl ?_
    refine AG 3 71 true _ rfl rfl hb31 rfl ?_
    refine AG 3 71 true _ rfl rfl hb31 rfl ?_
    refine AA _ (A3 _ rfl hb31 rfl) rfl ?_
    refine AI (AC (BP _ rfl rfl ?_))
    refine BF ?_
    have hf4 : F4 z0 = false := F4_n0 hb31
    refine DT ((qa, false, ra, zr, rc)) ⟨hqa.trans (P2_f hf4).symm, (thZ_f hf4).symm, hrq, hrA, by omega, by omega, by omega⟩ (Sub.all rfl) rfl
  ·
   rintro ⟨qb, th, rb, zb, sb⟩ hx
   obtain ⟨hqb, hth, hsq, hsA, hs1, hs2, hs3⟩ := hx
   show JQ _ _ _ [(2, Ptr nb1 0), (3, .nilIface), (4, Ptr nb2 0), (5, Ptr nb4 0)] [⟨nb1, [U64 0, I64 0, I64 0, SL none 0 0, .bool false, U64 0, U64 0, I64 0, SL none 0 0, SL none 0 0, U64 0] ++ cu8 (zr8 16) ++ [SL none 0 0, SL none 0 0], 67, (0, 0)⟩, ⟨nb3, cu8 z0 ++ sp1, 5, (0, 0)⟩, ⟨nb2, [errV 50 (eQ z0 qb), SL rb zb.length sb], 204, (0, 0)⟩, ⟨nb4, [U64 (vQ z0 0 8), I64 (((vQ z0 8 1).toNat:Int)), I64 (((vQ z0 9 1).toNat:Int)), SL ja jn jc, .bool th, U64 0, U64 0, I64 0, SL none 0 0, SL none 0 0, U64 0] ++ cu8 (zr8 16) ++ [SL none 0 0, SL none 0 0], 67, (0, 0)⟩, ⟨jg, jcs, jT, (0, 0)⟩]
   refine AC (AH (AB (AA (.agg ([U64 (vQ z0 0 8), I64 (((vQ z0 8 1).toNat:Int)), I64 (((vQ z0 9 1).toNat:Int)), SL ja jn jc, .bool th, U64 0, U64 0, I64 0, SL none 0 0, SL none 0 0, U64 0] ++ cu8 (zr8 16) ++ [SL none 0 0, SL none 0 0]).toArray) (AO rfl (BU CC BR (by simp [(AN 16)]) (AU 3 rfl (AQ _)))) rfl ?_)))
   refine A4 (CZ 95 [.agg ([U64 (vQ z0 0 8), I64 (((vQ z0 8 1).toNat:Int)), I64 (((vQ z0 9 1).toNat:Int)), SL ja jn jc, .bool th, U64 0, U64 0, I64 0, SL none 0 0, SL none 0 0, U64 0] ++ cu8 (zr8 16) ++ [SL none 0 0, SL none 0 0]).toArray] _ (AS _ Tryd.call95 rfl) (fun w1 hw1 => partsG_c (vQ z0 0 8) (((vQ z0 8 1).toNat:Int)) (((vQ z0 9 1).toNat:Int)) ja jn jc jl th (0:UInt64) (0:UInt64) (0:Int) none 0 0 ([] : List UInt64) none 0 0 ([] : List SealR) (0:UInt64) (zr8 16) none 0 0 [] none 0 0 [] w1 (AN 16))) rfl ?_
   rintro v1 L1 ⟨_, ⟨sg2, cs2, nT2, rfl, rfl⟩, rfl⟩
   show JL _ _ _ _ ((81, .tuple #[.bool (itB (((vQ z0 9 1).toNat:Int)) (((vQ z0 8 1).toNat:Int))), .bool (chB (((vQ z0 9 1).toNat:Int)) (((vQ z0 8 1).toNat:Int)) th), .bool (aB (((vQ z0 9 1).toNat:Int)) (((vQ z0 8 1).toNat:Int)) th), .bool (bB (((vQ z0 9 1).toNat:Int)) (((vQ z0 8 1).toNat:Int)) th)]) :: _) [_, _, _, _, _, ⟨sg2, cs2, nT2, (0, 0)⟩]
   refine AA _ (AF rfl) rfl ?_
   refine AA _ (BE rfl rfl) rfl ?_
   refine AA _ (BE rfl rfl) rfl ?_
   refine AA _ (BE rfl rfl) rfl ?_
   refine AA _ (BE rfl rfl) rfl ?_
   refine AA _ (AE rfl) rfl ?_
   refine AA _ (AE rfl) rfl ?_
   refine AA _ (AE rfl) rfl ?_
   refine AA _ (AE rfl) rfl ?_
   refine AI (AC (AH (AH (AB (AA _ (AF rfl) rfl ?_)))))
   refine AI (AC (B9 (chB (((vQ z0 9 1).toNat:Int)) (((vQ z0 8 1).toNat:Int)) th) rfl (fun hb36 => ?_) (fun hb36 => ?_)))
   ·
    refine AB (AA _ (AF rfl) rfl ?_)
    have hz10 : (zb).length = zb.length := rfl
    refine A4 (A8 60 _ [false, false, true, false, false, false] [nb2] _ (AS [Ptr nb2 0] Tryd.call60 rfl) rfl (fun w1 hw1 => treadU_w nb2 qb rb zb.length sb z0 zb w1 (hw1.ent _ (List.mem_of_getElem? (i := 2) rfl)) rfl (by omega) (by omega) (by omega) (hsA _ _ (RdB.of hw1 (AU 1 rfl (AJ (AQ _))) (by intro _; simp only [List.mem_cons, List.not_mem_nil, or_false, not_or]; exact hw1.ne (i := 1) (j := 2) rfl rfl (by decide)))) hsq)) rfl ?_
    rintro v1 L1 ⟨_, ⟨tv1, te1, tk1, tn1, tl1, tm1, ts1, tb1, tg1, tt1, tq1, ao10, zz10, ca10, ng1, cs3, nT3, na1, nc1, ng2, cs4, nT4, na2, nc2, hT1, hpq4, hc4, hc5, hc6, hc7, hc8, hq10, ⟨hA10, hb37, hb38, hb39⟩, rfl, rfl, hc9, hc10, hc11, hc12, hc13, hc14⟩, rfl⟩
    show JL _ _ _ _ ((88, .agg ([U64 tv1, U64 te1, I64 (tk1), SL na1 tn1 nc1, SL na2 tm1 nc2, U64 tb1] ++ cu8 tg1).toArray) :: _) [_, _, _, _, _, ⟨nb2, [errV 50 (eQ z0 tq1), SL ao10 zz10.length ca10], 204, (0, 0)⟩, ⟨ng1, cs3, nT3, (0, 0)⟩, ⟨ng2, cs4, nT4, (0, 0)⟩]
    refine AA (Ptr nb4 5) (AD 5 29 22 AM rfl BG rfl rfl) rfl ?_
    refine A7 (CS 2 nb4 5 22 ([U64 (vQ z0 0 8), I64 (((vQ z0 8 1).toNat:Int)), I64 (((vQ z0 9 1).toNat:Int)), SL ja jn jc, .bool th, U64 0, U64 0, I64 0, SL none 0 0, SL none 0 0, U64 0] ++ cu8 (zr8 16) ++ [SL none 0 0, SL none 0 0]) 67 (.agg ([U64 tv1, U64 te1, I64 (tk1), SL na1 tn1 nc1, SL na2 tm1 nc2, U64 tb1] ++ cu8 tg1).toArray) ([U64 tv1, U64 te1, I64 (tk1), SL na1 tn1 nc1, SL na2 tm1 nc2, U64 tb1] ++ cu8 tg1) ([U64 (vQ z0 0 8), I64 (((vQ z0 8 1).toNat:Int)), I64 (((vQ z0 9 1).toNat:Int)), SL ja jn jc, .bool th, U64 tv1, U64 te1, I64 (tk1), SL na1 tn1 nc1, SL na2 tm1 nc2, U64 tb1] ++ cu8 tg1 ++ [SL none 0 0, SL none 0 0]) rfl rfl rfl (by first | rfl | simp) BG (by simp [hc6]) (BY (by simp [Value.oneCell']) CT) (by simp [(AN 16)]) (lay_splice (a := [U64 (vQ z0 0 8), I64 (((vQ z0 8 1).toNat:Int)), I64 (((vQ z0 9 1).toNat:Int)), SL ja jn jc, .bool th]) (b := [U64 0, U64 0, I64 0, SL none 0 0, SL none 0 0, U64 0] ++ cu8 (zr8 16)) (c := [SL none 0 0, SL none 0 0]) (by simp only [List.append_assoc, List.cons_append, List.nil_append, List.append_nil]) (by simp [(AN 16), hc6]) (by simp [(AN 16), hc6]) (by simp only [List.append_assoc, List.cons_append, List.nil_append, List.append_nil]))) rfl ?_
    show JL _ _ _ _ _ [_, _, ⟨nb4, [U64 (vQ z0 0 8), I64 (((vQ z0 8 1).toNat:Int)), I64 (((vQ z0 9 1).toNat:Int)), SL ja jn jc, .bool th, U64 tv1, U64 te1, I64 (tk1), SL na1 tn1 nc1, SL na2 tm1 nc2, U64 tb1] ++ cu8 tg1 ++ [SL none 0 0, SL none 0 0], 67, (0, 0)⟩, _, _, _, _, _]
    refine AI (AC (AH (FK (ι := Nat × Option Addr × Nat × Nat × List UInt8 × Nat × List Value × Nat × Option Addr × List UInt8 × Nat) (fun ⟨qhA, haA, hnA, hkA, hxA, hgA, hcsA, hTA, raA, zrA, rcA⟩ => [(2, Ptr nb1 0), (3, .nilIface), (4, Ptr nb2 0), (5, Ptr nb4 0), (15, .bool (bB (((vQ z0 9 1).toNat:Int)) (((vQ z0 8 1).toNat:Int)) th))]) (fun ⟨qhA, haA, hnA, hkA, hxA, hgA, hcsA, hTA, raA, zrA, rcA⟩ => [⟨nb1, [U64 0, I64 0, I64 0, SL none 0 0, .bool false, U64 0, U64 0, I64 0, SL none 0 0, SL none 0 0, U64 0] ++ cu8 (zr8 16) ++ [SL none 0 0, SL none 0 0], 67, (0, 0)⟩, ⟨nb3, cu8 z0 ++ sp1, 5, (0, 0)⟩, ⟨nb4, [U64 (vQ z0 0 8), I64 (((vQ z0 8 1).toNat:Int)), I64 (((vQ z0 9 1).toNat:Int)), SL ja jn jc, .bool th, U64 tv1, U64 te1, I64 (tk1), SL na1 tn1 nc1, SL na2 tm1 nc2, U64 tb1] ++ cu8 tg1 ++ [SL haA hnA hkA, SL none 0 0], 67, (0, 0)⟩, ⟨jg, jcs, jT, (0, 0)⟩, ⟨nb2, [errV 50 (eQ z0 qhA), SL raA zrA.length rcA], 204, (0, 0)⟩, ⟨ng1, cs3, nT3, (0, 0)⟩, ⟨ng2, cs4, nT4, (0, 0)⟩, ⟨hgA, hcsA, hTA, (0, 0)⟩]) (fun ⟨qhA, haA, hnA, hkA, hxA, hgA, hcsA, hTA, raA, zrA, rcA⟩ => qhA = P4 z0 ∧ (qhA ≤ z0.length → (hnA = naZ z0 ∧ hxA = xaZ z0) ∧ 32 * hnA ≤ qhA) ∧ hxA.length = hnA*32 ∧ Gh (cu8 hxA) hgA hcsA haA ∧ hnA ≤ hkA ∧ hkA ≤ maxLen ∧ Lq z0 zrA qhA ∧ (∀ w M, RdB w M (some ⟨nb3, 0, none⟩) z0 → RdB w M raA zrA) ∧ zrA.length ≤ rcA ∧ rcA ≤ maxLen ∧ zrA.length ≤ n) ?_ ?_)))
    ·
     refine AH ?_
     have hch : chZ z0 = true := by unfold chZ; rw [← hth]; exact hb36
     have htn : tt1 = tkN (z0.drop qb) := TkR.tot hT1
     have p3 : P3 z0 = tq1 := by rw [P3_t hch, ← hqb, ← htn]; omega
     refine AB (AA _ (AF rfl) rfl ?_)
     refine AI (AC (B3 _ rfl (aB_ch hb36) ?_))
     refine AB (AA _ (AF rfl) rfl ?_)
     have hz11 : (zz10).length = zz10.length := rfl
     refine A4 (A8 122 _ [false, false, false, false, false, true, false, false] [nb2] _ (AS [Ptr nb2 0] Tryd.call122 rfl) rfl (fun w1 hw1 => listQ_c nb2 tq1 ao10 zz10.length ca10 z0 zz10 w1 (hw1.ent _ (List.mem_of_getElem? (i := 5) rfl)) rfl (by omega) (by omega) (by omega) ((fun w M h => hA10 w M (hsA w M h)) _ _ (RdB.of hw1 (AU 1 rfl (AJ (AQ _))) (by intro _; simp only [List.mem_cons, List.not_mem_nil, or_false, not_or]; exact hw1.ne (i := 1) (j := 5) rfl rfl (by decide)))) hq10)) rfl ?_
     rintro v1 L1 ⟨_, ⟨pq4, ao11, zz11, ca11, nm1, hpq5, hq11, ⟨hA11, hb40, hb41, hb42⟩, hm1, hme1, (⟨hm3, rfl, rfl⟩ | ⟨hm2, nb15, sp6, cp6, rfl, rfl, hc15, hc16, hc17⟩)⟩, rfl⟩
     ·
      show JL _ _ _ _ ((92, SL none 0 0) :: _) [_, _, _, _, _, _, _, ⟨nb2, [errV 50 (eQ z0 pq4), SL ao11 zz11.length ca11], 204, (0, 0)⟩]
      refine AA (Ptr nb4 27) (AD 27 65 1 AM rfl CU rfl rfl) rfl ?_
      refine A7 (CS 2 nb4 27 1 ([U64 (vQ z0 0 8), I64 (((vQ z0 8 1).toNat:Int)), I64 (((vQ z0 9 1).toNat:Int)), SL ja jn jc, .bool th, U64 tv1, U64 te1, I64 (tk1), SL na1 tn1 nc1, SL na2 tm1 nc2, U64 tb1] ++ cu8 tg1 ++ [SL none 0 0, SL none 0 0]) 67 (SL none 0 0) ([SL none 0 0]) ([U64 (vQ z0 0 8), I64 (((vQ z0 8 1).toNat:Int)), I64 (((vQ z0 9 1).toNat:Int)), SL ja jn jc, .bool th, U64 tv1, U64 te1, I64 (tk1), SL na1 tn1 nc1, SL na2 tm1 nc2, U64 tb1] ++ cu8 tg1 ++ [SL none 0 0, SL none 0 0]) rfl rfl rfl rfl CU rfl (by simp [Value.oneCell']) (by simp [hc6]) (ES 27 0 (by simp [hc6]) rfl (rfl))) rfl ?_
      show JL _ _ _ _ _ [_, _, ⟨nb4, [U64 (vQ z0 0 8), I64 (((vQ z0 8 1).toNat:Int)), I64 (((vQ z0 9 1).toNat:Int)), SL ja jn jc, .bool th, U64 tv1, U64 te1, I64 (tk1), SL na1 tn1 nc1, SL na2 tm1 nc2, U64 tb1] ++ cu8 tg1 ++ [SL none 0 0, SL none 0 0], 67, (0, 0)⟩, _, _, _, _, _]
      refine AI ?_
      have hzA : aZ z0 = true := by unfold aZ; rw [← hth]; exact (aB_ch hb36)
      refine EX [0, 1, 2, 3, 7, 5, 6, 4] (by decide) ?_
      show JQ _ _ _ _ [_, _, _, _, _, _, _, _]
      refine DT ((pq4, none, 0, 0, [], sg2, cs2, nT2, ao11, zz11, ca11)) ⟨by rw [P4_t hzA, p3]; exact hpq5, (fun h => by have h9 : 0 = hN z0 tq1 := (by have h8 := hme1 h; omega); rw [(A_t hzA).1, (A_t hzA).2, p3, ← h9]; exact ⟨⟨rfl, (hQ_zero _ _).symm⟩, by omega⟩), rfl, .inl rfl, by omega, by first | omega | (unfold maxLen; omega), hq11, (fun w M h => hA11 w M ((fun w M h => hA10 w M (hsA w M h)) w M h)), by omega, by omega, by omega⟩ (Sub.all rfl) rfl
     ·
      show JL _ _ _ _ ((92, Slc nb15 0 nm1 cp6) :: _) [_, _, _, _, _, _, _, ⟨nb2, [errV 50 (eQ z0 pq4), SL ao11 zz11.length ca11], 204, (0, 0)⟩, ⟨nb15, cu8 (hQ z0 (tq1 + 2) nm1) ++ sp6, 54, (0, 0)⟩]
      refine AA (Ptr nb4 27) (AD 27 65 1 AM rfl CU rfl rfl) rfl ?_
      refine A7 (CS 2 nb4 27 1 ([U64 (vQ z0 0 8), I64 (((vQ z0 8 1).toNat:Int)), I64 (((vQ z0 9 1).toNat:Int)), SL ja jn jc, .bool th, U64 tv1, U64 te1, I64 (tk1), SL na1 tn1 nc1, SL na2 tm1 nc2, U64 tb1] ++ cu8 tg1 ++ [SL none 0 0, SL none 0 0]) 67 (Slc nb15 0 nm1 cp6) ([Slc nb15 0 nm1 cp6]) ([U64 (vQ z0 0 8), I64 (((vQ z0 8 1).toNat:Int)), I64 (((vQ z0 9 1).toNat:Int)), SL ja jn jc, .bool th, U64 tv1, U64 te1, I64 (tk1), SL na1 tn1 nc1, SL na2 tm1 nc2, U64 tb1] ++ cu8 tg1 ++ [Slc nb15 0 nm1 cp6, SL none 0 0]) rfl rfl rfl rfl CU rfl (by simp [Value.oneCell']) (by simp [hc6]) (ES 27 0 (by simp [hc6]) rfl (rfl))) rfl ?_
      show JL _ _ _ _ _ [_, _, ⟨nb4, [U64 (vQ z0 0 8), I64 (((vQ z0 8 1).toNat:Int)), I64 (((vQ z0 9 1).toNat:Int)), SL ja jn jc, .bool th, U64 tv1, U64 te1, I64 (tk1), SL na1 tn1 nc1, SL na2 tm1 nc2, U64 tb1] ++ cu8 tg1 ++ [Slc nb15 0 nm1 cp6, SL none 0 0], 67, (0, 0)⟩, _, _, _, _, _, _]
      refine AI ?_
      have hzA : aZ z0 = true := by unfold aZ; rw [← hth]; exact (aB_ch hb36)
      refine EX [0, 1, 2, 3, 7, 5, 6, 8] (by decide) ?_
      show JQ _ _ _ _ [_, _, _, _, _, _, _, _]
      refine DT ((pq4, (some ⟨nb15, 0, none⟩), nm1, cp6, hQ z0 (tq1 + 2) nm1, nb15, cu8 (hQ z0 (tq1 + 2) nm1) ++ sp6, 54, ao11, zz11, ca11)) ⟨by rw [P4_t hzA, p3]; exact hpq5, (fun h => by have h9 := hme1 h; rw [(A_t hzA).1, (A_t hzA).2, p3, ← h9]; exact ⟨⟨rfl, rfl⟩, by omega⟩), (hQ_len _ _ _), .inr ⟨rfl, _, rfl⟩, by omega, by first | omega | (unfold maxLen; omega), hq11, (fun w M h => hA11 w M ((fun w M h => hA10 w M (hsA w M h)) w M h)), by omega, by omega, by omega⟩ (Sub.all rfl) rfl
    ·
     rintro ⟨qhA, haA, hnA, hkA, hxA, hgA, hcsA, hTA, raA, zrA, rcA⟩ hx
     obtain ⟨hqhA, hnhA, hxlA, hghA, hnkA, hkmA, hrqA, hrAA, hr1A, hr2A, hr3A⟩ := hx
     show JQ _ _ _ [(2, Ptr nb1 0), (3, .nilIface), (4, Ptr nb2 0), (5, Ptr nb4 0), (15, .bool (bB (((vQ z0 9 1).toNat:Int)) (((vQ z0 8 1).toNat:Int)) th))] [⟨nb1, [U64 0, I64 0, I64 0, SL none 0 0, .bool false, U64 0, U64 0, I64 0, SL none 0 0, SL none 0 0, U64 0] ++ cu8 (zr8 16) ++ [SL none 0 0, SL none 0 0], 67, (0, 0)⟩, ⟨nb3, cu8 z0 ++ sp1, 5, (0, 0)⟩, ⟨nb4, [U64 (vQ z0 0 8), I64 (((vQ z0 8 1).toNat:Int)), I64 (((vQ z0 9 1).toNat:Int)), SL ja jn jc, .bool th, U64 tv1, U64 te1, I64 (tk1), SL na1 tn1 nc1, SL na2 tm1 nc2, U64 tb1] ++ cu8 tg1 ++ [SL haA hnA hkA, SL none 0 0], 67, (0, 0)⟩, ⟨jg, jcs, jT, (0, 0)⟩, ⟨nb2, [errV 50 (eQ z0 qhA), SL raA zrA.length rcA], 204, (0, 0)⟩, ⟨ng1, cs3, nT3, (0, 0)⟩, ⟨ng2, cs4, nT4, (0, 0)⟩, ⟨hgA, hcsA, hTA, (0, 0)⟩]
     refine AC (AH (FK (ι := (Nat × Option Addr × Nat × Nat × List UInt8 × Nat × List Value × Nat × Option Addr × List UInt8 × Nat) ⊕ (Nat × Option Addr × List UInt8 × Nat)) (fun x => match x with | .inl ⟨qhB, haB, hnB, hkB, hxB, hgB, hcsB, hTB, raB, zrB, rcB⟩ => [(2, Ptr nb1 0), (3, .nilIface), (4, Ptr nb2 0), (5, Ptr nb4 0)] | .inr ⟨qhB, raB, zrB, rcB⟩ => [(2, Ptr nb1 0), (3, .nilIface), (4, Ptr nb2 0), (5, Ptr nb4 0)]) (fun x => match x with | .inl ⟨qhB, haB, hnB, hkB, hxB, hgB, hcsB, hTB, raB, zrB, rcB⟩ => [⟨nb1, [U64 0, I64 0, I64 0, SL none 0 0, .bool false, U64 0, U64 0, I64 0, SL none 0 0, SL none 0 0, U64 0] ++ cu8 (zr8 16) ++ [SL none 0 0, SL none 0 0], 67, (0, 0)⟩, ⟨nb3, cu8 z0 ++ sp1, 5, (0, 0)⟩, ⟨nb4, [U64 (vQ z0 0 8), I64 (((vQ z0 8 1).toNat:Int)), I64 (((vQ z0 9 1).toNat:Int)), SL ja jn jc, .bool th, U64 tv1, U64 te1, I64 (tk1), SL na1 tn1 nc1, SL na2 tm1 nc2, U64 tb1] ++ cu8 tg1 ++ [SL haA hnA hkA, SL haB hnB hkB], 67, (0, 0)⟩, ⟨jg, jcs, jT, (0, 0)⟩, ⟨nb2, [errV 50 (eQ z0 qhB), SL raB zrB.length rcB], 204, (0, 0)⟩, ⟨ng1, cs3, nT3, (0, 0)⟩, ⟨ng2, cs4, nT4, (0, 0)⟩, ⟨hgA, hcsA, hTA, (0, 0)⟩, ⟨hgB, hcsB, hTB, (0, 0)⟩] | .inr ⟨qhB, raB, zrB, rcB⟩ => [⟨nb1, [U64 0, I64 0, I64 0, SL none 0 0, .bool false, U64 0, U64 0, I64 0, SL none 0 0, SL none 0 0, U64 0] ++ cu8 (zr8 16) ++ [SL none 0 0, SL none 0 0], 67, (0, 0)⟩, ⟨nb3, cu8 z0 ++ sp1, 5, (0, 0)⟩, ⟨nb4, [U64 (vQ z0 0 8), I64 (((vQ z0 8 1).toNat:Int)), I64 (((vQ z0 9 1).toNat:Int)), SL ja jn jc, .bool th, U64 tv1, U64 te1, I64 (tk1), SL na1 tn1 nc1, SL na2 tm1 nc2, U64 tb1] ++ cu8 tg1 ++ [SL haA hnA hkA, SL none 0 0], 67, (0, 0)⟩, ⟨jg, jcs, jT, (0, 0)⟩, ⟨nb2, [errV 50 (eQ z0 qhB), SL raB zrB.length rcB], 204, (0, 0)⟩, ⟨ng1, cs3, nT3, (0, 0)⟩, ⟨ng2, cs4, nT4, (0, 0)⟩, ⟨hgA, hcsA, hTA, (0, 0)⟩]) (fun x => match x with | .inl ⟨qhB, haB, hnB, hkB, hxB, hgB, hcsB, hTB, raB, zrB, rcB⟩ => qhB = P5 z0 ∧ (qhB ≤ z0.length → (hnB = nbZ z0 ∧ hxB = xbZ z0) ∧ 32 * hnB ≤ qhB) ∧ hxB.length = hnB*32 ∧ Gh (cu8 hxB) hgB hcsB haB ∧ hnB ≤ hkB ∧ hkB ≤ maxLen ∧ Lq z0 zrB qhB ∧ (∀ w M, RdB w M (some ⟨nb3, 0, none⟩) z0 → RdB w M raB zrB) ∧ zrB.length ≤ rcB ∧ rcB ≤ maxLen ∧ zrB.length ≤ n | .inr ⟨qhB, raB, zrB, rcB⟩ => qhB = P5 z0 ∧ (qhB ≤ z0.length → (0 = nbZ z0 ∧ ([] : List UInt8) = xbZ z0) ∧ 32 * 0 ≤ qhB) ∧ Lq z0 zrB qhB ∧ (∀ w M, RdB w M (some ⟨nb3, 0, none⟩) z0 → RdB w M raB zrB) ∧ zrB.length ≤ rcB ∧ rcB ≤ maxLen ∧ zrB.length ≤ n) ?_ ?_))
     ·
      refine AH ?_
      have p4 : P4 z0 = qhA := hqhA.symm
      refine AB (AA _ (AF rfl) rfl ?_)
      refine AI (AC (B9 (bB (((vQ z0 9 1).toNat:Int)) (((vQ z0 8 1).toNat:Int)) th) rfl (fun hb43 => ?_) (fun hb43 => ?_)))
      ·
       refine AB (AA _ (AF rfl) rfl ?_)
       have hz12 : (zrA).length = zrA.length := rfl
       refine A4 (A8 122 _ [false, false, false, false, true, false, false, false] [nb2] _ (AS [Ptr nb2 0] Tryd.call122 rfl) rfl (fun w1 hw1 => listQ_c nb2 qhA raA zrA.length rcA z0 zrA w1 (hw1.ent _ (List.mem_of_getElem? (i := 4) rfl)) rfl (by omega) (by omega) (by omega) (hrAA _ _ (RdB.of hw1 (AU 1 rfl (AJ (AQ _))) (by intro _; simp only [List.mem_cons, List.not_mem_nil, or_false, not_or]; exact hw1.ne (i := 1) (j := 4) rfl rfl (by decide)))) hrqA)) rfl ?_
       rintro v1 L1 ⟨_, ⟨pq5, ao12, zz12, ca12, nm2, hpq6, hq12, ⟨hA12, hb44, hb45, hb46⟩, hm4, hme2, (⟨hm6, rfl, rfl⟩ | ⟨hm5, nb16, sp7, cp7, rfl, rfl, hc18, hc19, hc20⟩)⟩, rfl⟩
       ·
        show JL _ _ _ _ ((96, SL none 0 0) :: _) [_, _, _, _, _, _, _, ⟨nb2, [errV 50 (eQ z0 pq5), SL ao12 zz12.length ca12], 204, (0, 0)⟩]
        refine AA (Ptr nb4 28) (AD 28 65 1 AM rfl CU rfl rfl) rfl ?_
        refine A7 (CS 2 nb4 28 1 ([U64 (vQ z0 0 8), I64 (((vQ z0 8 1).toNat:Int)), I64 (((vQ z0 9 1).toNat:Int)), SL ja jn jc, .bool th, U64 tv1, U64 te1, I64 (tk1), SL na1 tn1 nc1, SL na2 tm1 nc2, U64 tb1] ++ cu8 tg1 ++ [SL haA hnA hkA, SL none 0 0]) 67 (SL none 0 0) ([SL none 0 0]) ([U64 (vQ z0 0 8), I64 (((vQ z0 8 1).toNat:Int)), I64 (((vQ z0 9 1).toNat:Int)), SL ja jn jc, .bool th, U64 tv1, U64 te1, I64 (tk1), SL na1 tn1 nc1, SL na2 tm1 nc2, U64 tb1] ++ cu8 tg1 ++ [SL haA hnA hkA, SL none 0 0]) rfl rfl rfl rfl CU rfl (by simp [Value.oneCell']) (by simp [hc6]) (ES 27 1 (by simp [hc6]) rfl (rfl))) rfl ?_
        show JL _ _ _ _ _ [_, _, ⟨nb4, [U64 (vQ z0 0 8), I64 (((vQ z0 8 1).toNat:Int)), I64 (((vQ z0 9 1).toNat:Int)), SL ja jn jc, .bool th, U64 tv1, U64 te1, I64 (tk1), SL na1 tn1 nc1, SL na2 tm1 nc2, U64 tb1] ++ cu8 tg1 ++ [SL haA hnA hkA, SL none 0 0], 67, (0, 0)⟩, _, _, _, _, _]
        refine AI ?_
        have hzB : bZ z0 = true := by unfold bZ; rw [← hth]; exact hb43
        refine EX [0, 1, 2, 3, 7, 4, 5, 6] (by decide) ?_
        show JQ _ _ _ _ [_, _, _, _, _, _, _, _]
        refine DT (.inr (pq5, ao12, zz12, ca12)) ⟨by rw [P5_t hzB, p4]; exact hpq6, (fun h => by have h9 : 0 = hN z0 qhA := (by have h8 := hme2 h; omega); rw [(B_t hzB).1, (B_t hzB).2, p4, ← h9]; exact ⟨⟨rfl, (hQ_zero _ _).symm⟩, by omega⟩), hq12, (fun w M h => hA12 w M (hrAA w M h)), by omega, by omega, by omega⟩ (Sub.all rfl) rfl
       ·
        show JL _ _ _ _ ((96, Slc nb16 0 nm2 cp7) :: _) [_, _, _, _, _, _, _, ⟨nb2, [errV 50 (eQ z0 pq5), SL ao12 zz12.length ca12], 204, (0, 0)⟩, ⟨nb16, cu8 (hQ z0 (qhA + 2) nm2) ++ sp7, 54, (0, 0)⟩]
        refine AA (Ptr nb4 28) (AD 28 65 1 AM rfl CU rfl rfl) rfl ?_
        refine A7 (CS 2 nb4 28 1 ([U64 (vQ z0 0 8), I64 (((vQ z0 8 1).toNat:Int)), I64 (((vQ z0 9 1).toNat:Int)), SL ja jn jc, .bool th, U64 tv1, U64 te1, I64 (tk1), SL na1 tn1 nc1, SL na2 tm1 nc2, U64 tb1] ++ cu8 tg1 ++ [SL haA hnA hkA, SL none 0 0]) 67 (Slc nb16 0 nm2 cp7) ([Slc nb16 0 nm2 cp7]) ([U64 (vQ z0 0 8), I64 (((vQ z0 8 1).toNat:Int)), I64 (((vQ z0 9 1).toNat:Int)), SL ja jn jc, .bool th, U64 tv1, U64 te1, I64 (tk1), SL na1 tn1 nc1, SL na2 tm1 nc2, U64 tb1] ++ cu8 tg1 ++ [SL haA hnA hkA, Slc nb16 0 nm2 cp7]) rfl rfl rfl rfl CU rfl (by simp [Value.oneCell']) (by simp [hc6]) (ES 27 1 (by simp [hc6]) rfl (rfl))) rfl ?_
        show JL _ _ _ _ _ [_, _, ⟨nb4, [U64 (vQ z0 0 8), I64 (((vQ z0 8 1).toNat:Int)), I64 (((vQ z0 9 1).toNat:Int)), SL ja jn jc, .bool th, U64 tv1, U64 te1, I64 (tk1), SL na1 tn1 nc1, SL na2 tm1 nc2, U64 tb1] ++ cu8 tg1 ++ [SL haA hnA hkA, Slc nb16 0 nm2 cp7], 67, (0, 0)⟩, _, _, _, _, _, _]
        refine AI ?_
        have hzB : bZ z0 = true := by unfold bZ; rw [← hth]; exact hb43
        refine EX [0, 1, 2, 3, 7, 4, 5, 6, 8] (by decide) ?_
        show JQ _ _ _ _ [_, _, _, _, _, _, _, _, _]
        refine DT (.inl (pq5, (some ⟨nb16, 0, none⟩), nm2, cp7, hQ z0 (qhA + 2) nm2, nb16, cu8 (hQ z0 (qhA + 2) nm2) ++ sp7, 54, ao12, zz12, ca12)) ⟨by rw [P5_t hzB, p4]; exact hpq6, (fun h => by have h9 := hme2 h; rw [(B_t hzB).1, (B_t hzB).2, p4, ← h9]; exact ⟨⟨rfl, rfl⟩, by omega⟩), (hQ_len _ _ _), .inr ⟨rfl, _, rfl⟩, by omega, by first | omega | (unfold maxLen; omega), hq12, (fun w M h => hA12 w M (hrAA w M h)), by omega, by omega, by omega⟩ (Sub.all rfl) rfl
      ·
       refine BF ?_
       have hzB : bZ z0 = false := by unfold bZ; rw [← hth]; exact hb43
       refine DT (.inr (qhA, raA, zrA, rcA)) ⟨p4.symm.trans (P5_f hzB).symm, (fun _ => ⟨⟨(B_f hzB).1.symm, (B_f hzB).2.symm⟩, by omega⟩), hrqA, hrAA, by omega, by omega, by omega⟩ (Sub.all rfl) rfl
     ·
      rintro (⟨qhB, haB, hnB, hkB, hxB, hgB, hcsB, hTB, raB, zrB, rcB⟩ | ⟨qhB, raB, zrB, rcB⟩) hx
      ·
       obtain ⟨hqhB, hnhB, hxlB, hghB, hnkB, hkmB, hrqB, hrAB, hr1B, hr2B, hr3B⟩ := hx
       show JQ _ _ _ [(2, Ptr nb1 0), (3, .nilIface), (4, Ptr nb2 0), (5, Ptr nb4 0)] [⟨nb1, [U64 0, I64 0, I64 0, SL none 0 0, .bool false, U64 0, U64 0, I64 0, SL none 0 0, SL none 0 0, U64 0] ++ cu8 (zr8 16) ++ [SL none 0 0, SL none 0 0], 67, (0, 0)⟩, ⟨nb3, cu8 z0 ++ sp1, 5, (0, 0)⟩, ⟨nb4, [U64 (vQ z0 0 8), I64 (((vQ z0 8 1).toNat:Int)), I64 (((vQ z0 9 1).toNat:Int)), SL ja jn jc, .bool th, U64 tv1, U64 te1, I64 (tk1), SL na1 tn1 nc1, SL na2 tm1 nc2, U64 tb1] ++ cu8 tg1 ++ [SL haA hnA hkA, SL haB hnB hkB], 67, (0, 0)⟩, ⟨jg, jcs, jT, (0, 0)⟩, ⟨nb2, [errV 50 (eQ z0 qhB), SL raB zrB.length rcB], 204, (0, 0)⟩, ⟨ng1, cs3, nT3, (0, 0)⟩, ⟨ng2, cs4, nT4, (0, 0)⟩, ⟨hgA, hcsA, hTA, (0, 0)⟩, ⟨hgB, hcsB, hTB, (0, 0)⟩]
       refine AC (AH (AH ?_))
       have hch : chZ z0 = true := by unfold chZ; rw [← hth]; exact hb36
       have htn : tt1 = tkN (z0.drop qb) := TkR.tot hT1
       have htk := (Or.inl ⟨hch, by rw [← hqb, ← htn]; exact hT1⟩ : TkZ z0 tv1 te1 tk1 tl1 ts1 tb1 tg1)
       have hbd : endN (eQ z0 qhB) zrB.length = 0 → qhB = z0.length := (FL hrqB).1
       have g1 := P2_ge z0
       have g2 := P3_ge z0
       have g3 := P4_ge z0
       have g4 := P5_ge z0
       refine AB (AA _ (AF rfl) rfl ?_)
       refine A7 (A2 63 [Ptr nb2 0] (errV 50 (endN (eQ z0 qhB) zrB.length)) (AS _ DZ rfl) (fun w1 hw1 => end_w nb2 (eQ z0 qhB) raB zrB.length rcB w1 (RdA.of hw1 (AU 4 rfl (AQ _)) (by simp)))) rfl ?_
       show JL _ _ _ _ ((99, errV 50 (endN (eQ z0 qhB) zrB.length)) :: _) [_, _, _, _, _, _, _, _, _]
       refine AA (.bool (!(decide (endN (eQ z0 qhB) zrB.length = 0)))) (C7 _ _ _ rfl rfl (fun _ => B6 ..) fun _ => DJ BB _ _) rfl ?_
       refine AA _ (AF rfl) rfl ?_
       rcases Bool.eq_false_or_eq_true (decide (endN (eQ z0 qhB) zrB.length = 0)) with hb47 | hb47
       ·
        have hp47 : endN (eQ z0 qhB) zrB.length = 0 := of_decide_eq_true hb47
        refine AP 3 101 false _ (.agg ([U64 (vQ z0 0 8), I64 (((vQ z0 8 1).toNat:Int)), I64 (((vQ z0 9 1).toNat:Int)), SL ja jn jc, .bool th, U64 tv1, U64 te1, I64 (tk1), SL na1 tn1 nc1, SL na2 tm1 nc2, U64 tb1] ++ cu8 tg1 ++ [SL haA hnA hkA, SL haB hnB hkB]).toArray) rfl rfl (bnotT hb47) (AO rfl (BU CC BR (by simp [hc6]) (AU 2 rfl (AQ _)))) rfl ?_
        refine DL 3 101 false _ rfl rfl (bnotT hb47) (A2 35 [.agg ([U64 (vQ z0 0 8), I64 (((vQ z0 8 1).toNat:Int)), I64 (((vQ z0 9 1).toNat:Int)), SL ja jn jc, .bool th, U64 tv1, U64 te1, I64 (tk1), SL na1 tn1 nc1, SL na2 tm1 nc2, U64 tb1] ++ cu8 tg1 ++ [SL haA hnA hkA, SL haB hnB hkB]).toArray] (.bool (repR (((vQ z0 8 1).toNat:Int)) (((vQ z0 9 1).toNat:Int)) th jl (blankB tv1 te1 (tk1) tl1 ts1 tb1 tg1) (decide (mayN tv1 te1 (tk1) tl1 ts1 tb1 = 0)) hnA hnB)) (AS _ Tryd.call35 rfl) (fun w1 hw1 => E5 (vQ z0 0 8) (((vQ z0 8 1).toNat:Int)) (((vQ z0 9 1).toNat:Int)) ja jn jc jl th tv1 te1 (tk1) na1 tn1 nc1 tl1 na2 tm1 nc2 ts1 tb1 tg1 haA hnA hkA hxA haB hnB hkB hxB w1 hjl (by omega) (by omega) (by omega) (Gh.at hw1 3 rfl hjg) hc4 (by omega) (by omega) (by omega) (Gh.at hw1 5 rfl hc9) hc5 (by omega) (by omega) (by omega) (Gh.at hw1 6 rfl hc12) hc6 hxlA (by omega) (by omega) (by omega) (Gh.rdB hw1 7 rfl hghA) hxlB (by omega) (by omega) (by omega) (Gh.rdB hw1 8 rfl hghB) (by omega) (by omega))) rfl ?_
        rintro v1 L1 ⟨rfl, rfl⟩
        show JL _ _ _ _ ((103, .bool (repR (((vQ z0 8 1).toNat:Int)) (((vQ z0 9 1).toNat:Int)) th jl (blankB tv1 te1 (tk1) tl1 ts1 tb1 tg1) (decide (mayN tv1 te1 (tk1) tl1 ts1 tb1 = 0)) hnA hnB)) :: _) [_, _, _, _, _, _, _, _, _]
        refine AP 3 101 false _ (.bool (!(repR (((vQ z0 8 1).toNat:Int)) (((vQ z0 9 1).toNat:Int)) th jl (blankB tv1 te1 (tk1) tl1 ts1 tb1 tg1) (decide (mayN tv1 te1 (tk1) tl1 ts1 tb1 = 0)) hnA hnB))) rfl rfl (bnotT hb47) (DG rfl) rfl ?_
        refine AA _ (A3 _ rfl (bnotT hb47) rfl) rfl ?_
        refine AI (AC (B9 (!(repR (((vQ z0 8 1).toNat:Int)) (((vQ z0 9 1).toNat:Int)) th jl (blankB tv1 te1 (tk1) tl1 ts1 tb1 tg1) (decide (mayN tv1 te1 (tk1) tl1 ts1 tb1 = 0)) hnA hnB)) rfl (fun hb48 => ?_) (fun hb48 => ?_)))
        ·
         have hb49 : (repR (((vQ z0 8 1).toNat:Int)) (((vQ z0 9 1).toNat:Int)) th jl (blankB tv1 te1 (tk1) tl1 ts1 tb1 tg1) (decide (mayN tv1 te1 (tk1) tl1 ts1 tb1 = 0)) hnA hnB) = false := by simpa using hb48
         refine AH (AB (AA (.agg ([U64 0, I64 0, I64 0, SL none 0 0, .bool false, U64 0, U64 0, I64 0, SL none 0 0, SL none 0 0, U64 0] ++ cu8 (zr8 16) ++ [SL none 0 0, SL none 0 0]).toArray) (CP [] _ rfl (fun _ => by kernel_rfl)) rfl ?_))
         refine AA (.iface 50 (I64 2)) (C9 BM rfl rfl) rfl ?_
         refine A7 (BQ 0 nb1 29 ([U64 0, I64 0, I64 0, SL none 0 0, .bool false, U64 0, U64 0, I64 0, SL none 0 0, SL none 0 0, U64 0] ++ cu8 (zr8 16) ++ [SL none 0 0, SL none 0 0]) 67 ([U64 0, I64 0, I64 0, SL none 0 0, .bool false, U64 0, U64 0, I64 0, SL none 0 0, SL none 0 0, U64 0] ++ cu8 (zr8 16) ++ [SL none 0 0, SL none 0 0]) rfl rfl rfl BR (by simp [(AN 16)]) (BY (BY (by simp [Value.oneCell']) CT) (by simp [Value.oneCell'])) (by simp [(AN 16)]) (BT (by simp [(AN 16), (AN 16)]))) rfl ?_
         show JL _ _ _ _ _ [⟨nb1, [U64 0, I64 0, I64 0, SL none 0 0, .bool false, U64 0, U64 0, I64 0, SL none 0 0, SL none 0 0, U64 0] ++ cu8 (zr8 16) ++ [SL none 0 0, SL none 0 0], 67, (0, 0)⟩, _, _, _, _, _, _, _, _]
         refine AA _ (AE rfl) rfl ?_
         refine AI (AC (BI (A1 (BH (.tuple #[.agg ([U64 0, I64 0, I64 0, SL none 0 0, .bool false, U64 0, U64 0, I64 0, SL none 0 0, SL none 0 0, U64 0] ++ cu8 (zr8 16) ++ [SL none 0 0, SL none 0 0]).toArray, .iface 50 (I64 2)]) (res2 EE (DM rfl (BU CC BR (by simp [(AN 16)]) (AU 0 rfl (AQ _)))) (BC rfl)) fun w1 hw1 => ?_))))
         have he : qhB = z0.length := (FL hrqB).1 (by have h9 := of_decide_eq_true hb47; omega)
         have hA := hnhA (by omega)
         have hB := hnhB (by omega)
         exact ⟨_, [], rfl, .inr ⟨BadRp.of ⟨hqhB.symm.trans he, rfl, rfl, rfl, hja (by omega), hth, htk, hA.1.1, hA.1.2, hB.1.1, hB.1.2⟩ hb49, rfl, rfl⟩, hw1.sub (by simp) (by simp)⟩
        ·
         have hb50 : (repR (((vQ z0 8 1).toNat:Int)) (((vQ z0 9 1).toNat:Int)) th jl (blankB tv1 te1 (tk1) tl1 ts1 tb1 tg1) (decide (mayN tv1 te1 (tk1) tl1 ts1 tb1 = 0)) hnA hnB) = true := by simpa using hb48
         refine BF (AC (AH (AB (AA (.agg ([U64 (vQ z0 0 8), I64 (((vQ z0 8 1).toNat:Int)), I64 (((vQ z0 9 1).toNat:Int)), SL ja jn jc, .bool th, U64 tv1, U64 te1, I64 (tk1), SL na1 tn1 nc1, SL na2 tm1 nc2, U64 tb1] ++ cu8 tg1 ++ [SL haA hnA hkA, SL haB hnB hkB]).toArray) (AO rfl (BU CC BR (by simp [hc6]) (AU 2 rfl (AQ _)))) rfl ?_))))
         refine A7 (BQ 0 nb1 29 ([U64 0, I64 0, I64 0, SL none 0 0, .bool false, U64 0, U64 0, I64 0, SL none 0 0, SL none 0 0, U64 0] ++ cu8 (zr8 16) ++ [SL none 0 0, SL none 0 0]) 67 ([U64 (vQ z0 0 8), I64 (((vQ z0 8 1).toNat:Int)), I64 (((vQ z0 9 1).toNat:Int)), SL ja jn jc, .bool th, U64 tv1, U64 te1, I64 (tk1), SL na1 tn1 nc1, SL na2 tm1 nc2, U64 tb1] ++ cu8 tg1 ++ [SL haA hnA hkA, SL haB hnB hkB]) rfl rfl rfl BR (by simp [hc6]) (BY (BY (by simp [Value.oneCell']) CT) (by simp [Value.oneCell'])) (by simp [(AN 16)]) (BT (by simp [(AN 16), hc6]))) rfl ?_
         show JL _ _ _ _ _ [⟨nb1, [U64 (vQ z0 0 8), I64 (((vQ z0 8 1).toNat:Int)), I64 (((vQ z0 9 1).toNat:Int)), SL ja jn jc, .bool th, U64 tv1, U64 te1, I64 (tk1), SL na1 tn1 nc1, SL na2 tm1 nc2, U64 tb1] ++ cu8 tg1 ++ [SL haA hnA hkA, SL haB hnB hkB], 67, (0, 0)⟩, _, _, _, _, _, _, _, _]
         refine AA _ (AE rfl) rfl ?_
         refine AI (AC (BI (BH (.tuple #[.agg ([U64 (vQ z0 0 8), I64 (((vQ z0 8 1).toNat:Int)), I64 (((vQ z0 9 1).toNat:Int)), SL ja jn jc, .bool th, U64 tv1, U64 te1, I64 (tk1), SL na1 tn1 nc1, SL na2 tm1 nc2, U64 tb1] ++ cu8 tg1 ++ [SL haA hnA hkA, SL haB hnB hkB]).toArray, .nilIface]) (res2 EE (DM rfl (BU CC BR (by simp [hc6]) (AU 0 rfl (AQ _)))) (BC rfl)) fun w1 hw1 => ?_)))
         have he : qhB = z0.length := (FL hrqB).1 (by have h9 := of_decide_eq_true hb47; omega)
         have hA := hnhA (by omega)
         have hB := hnhB (by omega)
         exact ⟨_, _, rfl, .inl ⟨_, _, _, jn, _, _, _, _, _, tn1, _, tm1, _, _, _, hnA, _, hnB, _, _, _, _, ja, jc, _, _, _, na1, nc1, _, _, _, na2, nc2, _, _, _, haA, hkA, _, _, _, haB, hkB, ⟨⟨hqhB.symm.trans he, rfl, rfl, rfl, hja (by omega), hth, htk, hA.1.1, hA.1.2, hB.1.1, hB.1.2⟩, hb50⟩, hjl, hc4, hc5, hc6, by omega, hc7, hc8, hxlA, hxlB, rfl, rfl, hjg, by first | omega | (unfold maxLen; omega), by first | omega | (unfold maxLen; omega), hc9, by first | omega | (unfold maxLen; omega), by first | omega | (unfold maxLen; omega), hc12, by first | omega | (unfold maxLen; omega), by first | omega | (unfold maxLen; omega), hghA, by first | omega | (unfold maxLen; omega), by first | omega | (unfold maxLen; omega), hghB, by first | omega | (unfold maxLen; omega), by first | omega | (unfold maxLen; omega)⟩, Hp.pick hw1 [3, 5, 6, 7, 8] ⟨rfl, rfl, rfl, rfl, rfl, trivial⟩ (by decide)⟩
       ·
        have hp47 : ¬ (endN (eQ z0 qhB) zrB.length = 0) := of_decide_eq_false hb47
        refine AG 3 101 false _ rfl rfl (bnotF hb47) rfl ?_
        refine AG 3 101 false _ rfl rfl (bnotF hb47) rfl ?_
        refine AG 3 101 false _ rfl rfl (bnotF hb47) rfl ?_
        refine AA _ (BD _ rfl (bnotF hb47) rfl) rfl ?_
        refine AI (AC (B3 _ rfl rfl ?_))
        refine AH (AB (AA (.agg ([U64 0, I64 0, I64 0, SL none 0 0, .bool false, U64 0, U64 0, I64 0, SL none 0 0, SL none 0 0, U64 0] ++ cu8 (zr8 16) ++ [SL none 0 0, SL none 0 0]).toArray) (CP [] _ rfl (fun _ => by kernel_rfl)) rfl ?_))
        refine AA (.iface 50 (I64 2)) (C9 BM rfl rfl) rfl ?_
        refine A7 (BQ 0 nb1 29 ([U64 0, I64 0, I64 0, SL none 0 0, .bool false, U64 0, U64 0, I64 0, SL none 0 0, SL none 0 0, U64 0] ++ cu8 (zr8 16) ++ [SL none 0 0, SL none 0 0]) 67 ([U64 0, I64 0, I64 0, SL none 0 0, .bool false, U64 0, U64 0, I64 0, SL none 0 0, SL none 0 0, U64 0] ++ cu8 (zr8 16) ++ [SL none 0 0, SL none 0 0]) rfl rfl rfl BR (by simp [(AN 16)]) (BY (BY (by simp [Value.oneCell']) CT) (by simp [Value.oneCell'])) (by simp [(AN 16)]) (BT (by simp [(AN 16), (AN 16)]))) rfl ?_
        show JL _ _ _ _ _ [⟨nb1, [U64 0, I64 0, I64 0, SL none 0 0, .bool false, U64 0, U64 0, I64 0, SL none 0 0, SL none 0 0, U64 0] ++ cu8 (zr8 16) ++ [SL none 0 0, SL none 0 0], 67, (0, 0)⟩, _, _, _, _, _, _, _, _]
        refine AA _ (AE rfl) rfl ?_
        refine AI (AC (BI (A1 (BH (.tuple #[.agg ([U64 0, I64 0, I64 0, SL none 0 0, .bool false, U64 0, U64 0, I64 0, SL none 0 0, SL none 0 0, U64 0] ++ cu8 (zr8 16) ++ [SL none 0 0, SL none 0 0]).toArray, .iface 50 (I64 2)]) (res2 EE (DM rfl (BU CC BR (by simp [(AN 16)]) (AU 0 rfl (AQ _)))) (BC rfl)) fun w1 hw1 => ?_))))
        exact ⟨_, [], rfl, .inr ⟨BadRp.far (fun e => (of_decide_eq_false hb47) ((FL hrqB).2 (hqhB.trans e))), rfl, rfl⟩, hw1.sub (by simp) (by simp)⟩
      ·
       obtain ⟨hqhB, hnhB, hrqB, hrAB, hr1B, hr2B, hr3B⟩ := hx
       show JQ _ _ _ [(2, Ptr nb1 0), (3, .nilIface), (4, Ptr nb2 0), (5, Ptr nb4 0)] [⟨nb1, [U64 0, I64 0, I64 0, SL none 0 0, .bool false, U64 0, U64 0, I64 0, SL none 0 0, SL none 0 0, U64 0] ++ cu8 (zr8 16) ++ [SL none 0 0, SL none 0 0], 67, (0, 0)⟩, ⟨nb3, cu8 z0 ++ sp1, 5, (0, 0)⟩, ⟨nb4, [U64 (vQ z0 0 8), I64 (((vQ z0 8 1).toNat:Int)), I64 (((vQ z0 9 1).toNat:Int)), SL ja jn jc, .bool th, U64 tv1, U64 te1, I64 (tk1), SL na1 tn1 nc1, SL na2 tm1 nc2, U64 tb1] ++ cu8 tg1 ++ [SL haA hnA hkA, SL none 0 0], 67, (0, 0)⟩, ⟨jg, jcs, jT, (0, 0)⟩, ⟨nb2, [errV 50 (eQ z0 qhB), SL raB zrB.length rcB], 204, (0, 0)⟩, ⟨ng1, cs3, nT3, (0, 0)⟩, ⟨ng2, cs4, nT4, (0, 0)⟩, ⟨hgA, hcsA, hTA, (0, 0)⟩]
       refine AC (AH (AH ?_))
       have hch : chZ z0 = true := by unfold chZ; rw [← hth]; exact hb36
       have htn : tt1 = tkN (z0.drop qb) := TkR.tot hT1
       have htk := (Or.inl ⟨hch, by rw [← hqb, ← htn]; exact hT1⟩ : TkZ z0 tv1 te1 tk1 tl1 ts1 tb1 tg1)
       have hbd : endN (eQ z0 qhB) zrB.length = 0 → qhB = z0.length := (FL hrqB).1
       have g1 := P2_ge z0
       have g2 := P3_ge z0
       have g3 := P4_ge z0
       have g4 := P5_ge z0
       refine AB (AA _ (AF rfl) rfl ?_)
       refine A7 (A2 63 [Ptr nb2 0] (errV 50 (endN (eQ z0 qhB) zrB.length)) (AS _ DZ rfl) (fun w1 hw1 => end_w nb2 (eQ z0 qhB) raB zrB.length rcB w1 (RdA.of hw1 (AU 4 rfl (AQ _)) (by simp)))) rfl ?_
       show JL _ _ _ _ ((99, errV 50 (endN (eQ z0 qhB) zrB.length)) :: _) [_, _, _, _, _, _, _, _]
       refine AA (.bool (!(decide (endN (eQ z0 qhB) zrB.length = 0)))) (C7 _ _ _ rfl rfl (fun _ => B6 ..) fun _ => DJ BB _ _) rfl ?_
       refine AA _ (AF rfl) rfl ?_
       rcases Bool.eq_false_or_eq_true (decide (endN (eQ z0 qhB) zrB.length = 0)) with hb51 | hb51
       ·
        have hp51 : endN (eQ z0 qhB) zrB.length = 0 := of_decide_eq_true hb51
        refine AP 3 101 false _ (.agg ([U64 (vQ z0 0 8), I64 (((vQ z0 8 1).toNat:Int)), I64 (((vQ z0 9 1).toNat:Int)), SL ja jn jc, .bool th, U64 tv1, U64 te1, I64 (tk1), SL na1 tn1 nc1, SL na2 tm1 nc2, U64 tb1] ++ cu8 tg1 ++ [SL haA hnA hkA, SL none 0 0]).toArray) rfl rfl (bnotT hb51) (AO rfl (BU CC BR (by simp [hc6]) (AU 2 rfl (AQ _)))) rfl ?_
        refine DL 3 101 false _ rfl rfl (bnotT hb51) (A2 35 [.agg ([U64 (vQ z0 0 8), I64 (((vQ z0 8 1).toNat:Int)), I64 (((vQ z0 9 1).toNat:Int)), SL ja jn jc, .bool th, U64 tv1, U64 te1, I64 (tk1), SL na1 tn1 nc1, SL na2 tm1 nc2, U64 tb1] ++ cu8 tg1 ++ [SL haA hnA hkA, SL none 0 0]).toArray] (.bool (repR (((vQ z0 8 1).toNat:Int)) (((vQ z0 9 1).toNat:Int)) th jl (blankB tv1 te1 (tk1) tl1 ts1 tb1 tg1) (decide (mayN tv1 te1 (tk1) tl1 ts1 tb1 = 0)) hnA 0)) (AS _ Tryd.call35 rfl) (fun w1 hw1 => E5 (vQ z0 0 8) (((vQ z0 8 1).toNat:Int)) (((vQ z0 9 1).toNat:Int)) ja jn jc jl th tv1 te1 (tk1) na1 tn1 nc1 tl1 na2 tm1 nc2 ts1 tb1 tg1 haA hnA hkA hxA none 0 0 ([]) w1 hjl (by omega) (by omega) (by omega) (Gh.at hw1 3 rfl hjg) hc4 (by omega) (by omega) (by omega) (Gh.at hw1 5 rfl hc9) hc5 (by omega) (by omega) (by omega) (Gh.at hw1 6 rfl hc12) hc6 hxlA (by omega) (by omega) (by omega) (Gh.rdB hw1 7 rfl hghA) rfl (by omega) (by omega) (by unfold maxLen; omega) RdB.nil (by omega) (by omega))) rfl ?_
        rintro v1 L1 ⟨rfl, rfl⟩
        show JL _ _ _ _ ((103, .bool (repR (((vQ z0 8 1).toNat:Int)) (((vQ z0 9 1).toNat:Int)) th jl (blankB tv1 te1 (tk1) tl1 ts1 tb1 tg1) (decide (mayN tv1 te1 (tk1) tl1 ts1 tb1 = 0)) hnA 0)) :: _) [_, _, _, _, _, _, _, _]
        refine AP 3 101 false _ (.bool (!(repR (((vQ z0 8 1).toNat:Int)) (((vQ z0 9 1).toNat:Int)) th jl (blankB tv1 te1 (tk1) tl1 ts1 tb1 tg1) (decide (mayN tv1 te1 (tk1) tl1 ts1 tb1 = 0)) hnA 0))) rfl rfl (bnotT hb51) (DG rfl) rfl ?_
        refine AA _ (A3 _ rfl (bnotT hb51) rfl) rfl ?_
        refine AI (AC (B9 (!(repR (((vQ z0 8 1).toNat:Int)) (((vQ z0 9 1).toNat:Int)) th jl (blankB tv1 te1 (tk1) tl1 ts1 tb1 tg1) (decide (mayN tv1 te1 (tk1) tl1 ts1 tb1 = 0)) hnA 0)) rfl (fun hb52 => ?_) (fun hb52 => ?_)))
        ·
         have hb53 : (repR (((vQ z0 8 1).toNat:Int)) (((vQ z0 9 1).toNat:Int)) th jl (blankB tv1 te1 (tk1) tl1 ts1 tb1 tg1) (decide (mayN tv1 te1 (tk1) tl1 ts1 tb1 = 0)) hnA 0) = false := by simpa using hb52
         refine AH (AB (AA (.agg ([U64 0, I64 0, I64 0, SL none 0 0, .bool false, U64 0, U64 0, I64 0, SL none 0 0, SL none 0 0, U64 0] ++ cu8 (zr8 16) ++ [SL none 0 0, SL none 0 0]).toArray) (CP [] _ rfl (fun _ => by kernel_rfl)) rfl ?_))
         refine AA (.iface 50 (I64 2)) (C9 BM rfl rfl) rfl ?_
         refine A7 (BQ 0 nb1 29 ([U64 0, I64 0, I64 0, SL none 0 0, .bool false, U64 0, U64 0, I64 0, SL none 0 0, SL none 0 0, U64 0] ++ cu8 (zr8 16) ++ [SL none 0 0, SL none 0 0]) 67 ([U64 0, I64 0, I64 0, SL none 0 0, .bool false, U64 0, U64 0, I64 0, SL none 0 0, SL none 0 0, U64 0] ++ cu8 (zr8 16) ++ [SL none 0 0, SL none 0 0]) rfl rfl rfl BR (by simp [(AN 16)]) (BY (BY (by simp [Value.oneCell']) CT) (by simp [Value.oneCell'])) (by simp [(AN 16)]) (BT (by simp [(AN 16), (AN 16)]))) rfl ?_
         show JL _ _ _ _ _ [⟨nb1, [U64 0, I64 0, I64 0, SL none 0 0, .bool false, U64 0, U64 0, I64 0, SL none 0 0, SL none 0 0, U64 0] ++ cu8 (zr8 16) ++ [SL none 0 0, SL none 0 0], 67, (0, 0)⟩, _, _, _, _, _, _, _]
         refine AA _ (AE rfl) rfl ?_
         refine AI (AC (BI (A1 (BH (.tuple #[.agg ([U64 0, I64 0, I64 0, SL none 0 0, .bool false, U64 0, U64 0, I64 0, SL none 0 0, SL none 0 0, U64 0] ++ cu8 (zr8 16) ++ [SL none 0 0, SL none 0 0]).toArray, .iface 50 (I64 2)]) (res2 EE (DM rfl (BU CC BR (by simp [(AN 16)]) (AU 0 rfl (AQ _)))) (BC rfl)) fun w1 hw1 => ?_))))
         have he : qhB = z0.length := (FL hrqB).1 (by have h9 := of_decide_eq_true hb51; omega)
         have hA := hnhA (by omega)
         have hB := hnhB (by omega)
         exact ⟨_, [], rfl, .inr ⟨BadRp.of ⟨hqhB.symm.trans he, rfl, rfl, rfl, hja (by omega), hth, htk, hA.1.1, hA.1.2, hB.1.1, hB.1.2⟩ hb53, rfl, rfl⟩, hw1.sub (by simp) (by simp)⟩
        ·
         have hb54 : (repR (((vQ z0 8 1).toNat:Int)) (((vQ z0 9 1).toNat:Int)) th jl (blankB tv1 te1 (tk1) tl1 ts1 tb1 tg1) (decide (mayN tv1 te1 (tk1) tl1 ts1 tb1 = 0)) hnA 0) = true := by simpa using hb52
         refine BF (AC (AH (AB (AA (.agg ([U64 (vQ z0 0 8), I64 (((vQ z0 8 1).toNat:Int)), I64 (((vQ z0 9 1).toNat:Int)), SL ja jn jc, .bool th, U64 tv1, U64 te1, I64 (tk1), SL na1 tn1 nc1, SL na2 tm1 nc2, U64 tb1] ++ cu8 tg1 ++ [SL haA hnA hkA, SL none 0 0]).toArray) (AO rfl (BU CC BR (by simp [hc6]) (AU 2 rfl (AQ _)))) rfl ?_))))
         refine A7 (BQ 0 nb1 29 ([U64 0, I64 0, I64 0, SL none 0 0, .bool false, U64 0, U64 0, I64 0, SL none 0 0, SL none 0 0, U64 0] ++ cu8 (zr8 16) ++ [SL none 0 0, SL none 0 0]) 67 ([U64 (vQ z0 0 8), I64 (((vQ z0 8 1).toNat:Int)), I64 (((vQ z0 9 1).toNat:Int)), SL ja jn jc, .bool th, U64 tv1, U64 te1, I64 (tk1), SL na1 tn1 nc1, SL na2 tm1 nc2, U64 tb1] ++ cu8 tg1 ++ [SL haA hnA hkA, SL none 0 0]) rfl rfl rfl BR (by simp [hc6]) (BY (BY (by simp [Value.oneCell']) CT) (by simp [Value.oneCell'])) (by simp [(AN 16)]) (BT (by simp [(AN 16), hc6]))) rfl ?_
         show JL _ _ _ _ _ [⟨nb1, [U64 (vQ z0 0 8), I64 (((vQ z0 8 1).toNat:Int)), I64 (((vQ z0 9 1).toNat:Int)), SL ja jn jc, .bool th, U64 tv1, U64 te1, I64 (tk1), SL na1 tn1 nc1, SL na2 tm1 nc2, U64 tb1] ++ cu8 tg1 ++ [SL haA hnA hkA, SL none 0 0], 67, (0, 0)⟩, _, _, _, _, _, _, _]
         refine AA _ (AE rfl) rfl ?_
         refine AI (AC (BI (BH (.tuple #[.agg ([U64 (vQ z0 0 8), I64 (((vQ z0 8 1).toNat:Int)), I64 (((vQ z0 9 1).toNat:Int)), SL ja jn jc, .bool th, U64 tv1, U64 te1, I64 (tk1), SL na1 tn1 nc1, SL na2 tm1 nc2, U64 tb1] ++ cu8 tg1 ++ [SL haA hnA hkA, SL none 0 0]).toArray, .nilIface]) (res2 EE (DM rfl (BU CC BR (by simp [hc6]) (AU 0 rfl (AQ _)))) (BC rfl)) fun w1 hw1 => ?_)))
         have he : qhB = z0.length := (FL hrqB).1 (by have h9 := of_decide_eq_true hb51; omega)
         have hA := hnhA (by omega)
         have hB := hnhB (by omega)
         exact ⟨_, _, rfl, .inl ⟨_, _, _, jn, _, _, _, _, _, tn1, _, tm1, _, _, _, hnA, _, 0, _, _, _, _, ja, jc, _, _, _, na1, nc1, _, _, _, na2, nc2, _, _, _, haA, hkA, _, _, _, none, 0, ⟨⟨hqhB.symm.trans he, rfl, rfl, rfl, hja (by omega), hth, htk, hA.1.1, hA.1.2, hB.1.1, hB.1.2⟩, hb54⟩, hjl, hc4, hc5, hc6, by omega, hc7, hc8, hxlA, rfl, rfl, rfl, hjg, by first | omega | (unfold maxLen; omega), by first | omega | (unfold maxLen; omega), hc9, by first | omega | (unfold maxLen; omega), by first | omega | (unfold maxLen; omega), hc12, by first | omega | (unfold maxLen; omega), by first | omega | (unfold maxLen; omega), hghA, by first | omega | (unfold maxLen; omega), by first | omega | (unfold maxLen; omega), .inl rfl, by first | omega | (unfold maxLen; omega), by first | omega | (unfold maxLen; omega)⟩, Hp.pick hw1 [3, 5, 6, 7, 4] ⟨rfl, rfl, rfl, rfl, rfl, trivial⟩ (by decide)⟩
       ·
        have hp51 : ¬ (endN (eQ z0 qhB) zrB.length = 0) := of_decide_eq_false hb51
        refine AG 3 101 false _ rfl rfl (bnotF hb51) rfl ?_
        refine AG 3 101 false _ rfl rfl (bnotF hb51) rfl ?_
        refine AG 3 101 false _ rfl rfl (bnotF hb51) rfl ?_
        refine AA _ (BD _ rfl (bnotF hb51) rfl) rfl ?_
        refine AI (AC (B3 _ rfl rfl ?_))
        refine AH (AB (AA (.agg ([U64 0, I64 0, I64 0, SL none 0 0, .bool false, U64 0, U64 0, I64 0, SL none 0 0, SL none 0 0, U64 0] ++ cu8 (zr8 16) ++ [SL none 0 0, SL none 0 0]).toArray) (CP [] _ rfl (fun _ => by kernel_rfl)) rfl ?_))
        refine AA (.iface 50 (I64 2)) (C9 BM rfl rfl) rfl ?_
        refine A7 (BQ 0 nb1 29 ([U64 0, I64 0, I64 0, SL none 0 0, .bool false, U64 0, U64 0, I64 0, SL none 0 0, SL none 0 0, U64 0] ++ cu8 (zr8 16) ++ [SL none 0 0, SL none 0 0]) 67 ([U64 0, I64 0, I64 0, SL none 0 0, .bool false, U64 0, U64 0, I64 0, SL none 0 0, SL none 0 0, U64 0] ++ cu8 (zr8 16) ++ [SL none 0 0, SL none 0 0]) rfl rfl rfl BR (by simp [(AN 16)]) (BY (BY (by simp [Value.oneCell']) CT) (by simp [Value.oneCell'])) (by simp [(AN 16)]) (BT (by simp [(AN 16), (AN 16)]))) rfl ?_
        show JL _ _ _ _ _ [⟨nb1, [U64 0, I64 0, I64 0, SL none 0 0, .bool false, U64 0, U64 0, I64 0, SL none 0 0, SL none 0 0, U64 0] ++ cu8 (zr8 16) ++ [SL none 0 0, SL none 0 0], 67, (0, 0)⟩, _, _, _, _, _, _, _]
        refine AA _ (AE rfl) rfl ?_
        refine AI (AC (BI (A1 (BH (.tuple #[.agg ([U64 0, I64 0, I64 0, SL none 0 0, .bool false, U64 0, U64 0, I64 0, SL none 0 0, SL none 0 0, U64 0] ++ cu8 (zr8 16) ++ [SL none 0 0, SL none 0 0]).toArray, .iface 50 (I64 2)]) (res2 EE (DM rfl (BU CC BR (by simp [(AN 16)]) (AU 0 rfl (AQ _)))) (BC rfl)) fun w1 hw1 => ?_))))
        exact ⟨_, [], rfl, .inr ⟨BadRp.far (fun e => (of_decide_eq_false hb51) ((FL hrqB).2 (hqhB.trans e))), rfl, rfl⟩, hw1.sub (by simp) (by simp)⟩
   ·
    refine BF (AC (AH (FK (ι := Nat × Option Addr × Nat × Nat × List UInt8 × Nat × List Value × Nat × Option Addr × List UInt8 × Nat) (fun ⟨qhA, haA, hnA, hkA, hxA, hgA, hcsA, hTA, raA, zrA, rcA⟩ => [(2, Ptr nb1 0), (3, .nilIface), (4, Ptr nb2 0), (5, Ptr nb4 0), (15, .bool (bB (((vQ z0 9 1).toNat:Int)) (((vQ z0 8 1).toNat:Int)) th))]) (fun ⟨qhA, haA, hnA, hkA, hxA, hgA, hcsA, hTA, raA, zrA, rcA⟩ => [⟨nb1, [U64 0, I64 0, I64 0, SL none 0 0, .bool false, U64 0, U64 0, I64 0, SL none 0 0, SL none 0 0, U64 0] ++ cu8 (zr8 16) ++ [SL none 0 0, SL none 0 0], 67, (0, 0)⟩, ⟨nb3, cu8 z0 ++ sp1, 5, (0, 0)⟩, ⟨nb2, [errV 50 (eQ z0 qhA), SL raA zrA.length rcA], 204, (0, 0)⟩, ⟨nb4, [U64 (vQ z0 0 8), I64 (((vQ z0 8 1).toNat:Int)), I64 (((vQ z0 9 1).toNat:Int)), SL ja jn jc, .bool th, U64 0, U64 0, I64 0, SL none 0 0, SL none 0 0, U64 0] ++ cu8 (zr8 16) ++ [SL haA hnA hkA, SL none 0 0], 67, (0, 0)⟩, ⟨jg, jcs, jT, (0, 0)⟩, ⟨hgA, hcsA, hTA, (0, 0)⟩]) (fun ⟨qhA, haA, hnA, hkA, hxA, hgA, hcsA, hTA, raA, zrA, rcA⟩ => qhA = P4 z0 ∧ (qhA ≤ z0.length → (hnA = naZ z0 ∧ hxA = xaZ z0) ∧ 32 * hnA ≤ qhA) ∧ hxA.length = hnA*32 ∧ Gh (cu8 hxA) hgA hcsA haA ∧ hnA ≤ hkA ∧ hkA ≤ maxLen ∧ Lq z0 zrA qhA ∧ (∀ w M, RdB w M (some ⟨nb3, 0, none⟩) z0 → RdB w M raA zrA) ∧ zrA.length ≤ rcA ∧ rcA ≤ maxLen ∧ zrA.length ≤ n) ?_ ?_)))
    ·
     refine AH ?_
     have hch : chZ z0 = false := by unfold chZ; rw [← hth]; exact hb36
     have p3 : P3 z0 = qb := (P3_f hch).trans hqb.symm
     refine AB (AA _ (AF rfl) rfl ?_)
     refine AI (AC (B9 (aB (((vQ z0 9 1).toNat:Int)) (((vQ z0 8 1).toNat:Int)) th) rfl (fun hb55 => ?_) (fun hb55 => ?_)))
     ·
      refine AB (AA _ (AF rfl) rfl ?_)
      have hz13 : (zb).length = zb.length := rfl
      refine A4 (A8 122 _ [false, false, true, false, false, false] [nb2] _ (AS [Ptr nb2 0] Tryd.call122 rfl) rfl (fun w1 hw1 => listQ_c nb2 qb rb zb.length sb z0 zb w1 (hw1.ent _ (List.mem_of_getElem? (i := 2) rfl)) rfl (by omega) (by omega) (by omega) (hsA _ _ (RdB.of hw1 (AU 1 rfl (AJ (AQ _))) (by intro _; simp only [List.mem_cons, List.not_mem_nil, or_false, not_or]; exact hw1.ne (i := 1) (j := 2) rfl rfl (by decide)))) hsq)) rfl ?_
      rintro v1 L1 ⟨_, ⟨pq6, ao13, zz13, ca13, nm3, hpq7, hq13, ⟨hA13, hb56, hb57, hb58⟩, hm7, hme3, (⟨hm9, rfl, rfl⟩ | ⟨hm8, nb17, sp8, cp8, rfl, rfl, hc21, hc22, hc23⟩)⟩, rfl⟩
      ·
       show JL _ _ _ _ ((92, SL none 0 0) :: _) [_, _, _, _, _, ⟨nb2, [errV 50 (eQ z0 pq6), SL ao13 zz13.length ca13], 204, (0, 0)⟩]
       refine AA (Ptr nb4 27) (AD 27 65 1 AM rfl CU rfl rfl) rfl ?_
       refine A7 (CS 2 nb4 27 1 ([U64 (vQ z0 0 8), I64 (((vQ z0 8 1).toNat:Int)), I64 (((vQ z0 9 1).toNat:Int)), SL ja jn jc, .bool th, U64 0, U64 0, I64 0, SL none 0 0, SL none 0 0, U64 0] ++ cu8 (zr8 16) ++ [SL none 0 0, SL none 0 0]) 67 (SL none 0 0) ([SL none 0 0]) ([U64 (vQ z0 0 8), I64 (((vQ z0 8 1).toNat:Int)), I64 (((vQ z0 9 1).toNat:Int)), SL ja jn jc, .bool th, U64 0, U64 0, I64 0, SL none 0 0, SL none 0 0, U64 0] ++ cu8 (zr8 16) ++ [SL none 0 0, SL none 0 0]) rfl rfl rfl rfl CU rfl (by simp [Value.oneCell']) (by simp [(AN 16)]) (ES 27 0 (by simp [(AN 16)]) rfl (rfl))) rfl ?_
       show JL _ _ _ _ _ [_, _, ⟨nb4, [U64 (vQ z0 0 8), I64 (((vQ z0 8 1).toNat:Int)), I64 (((vQ z0 9 1).toNat:Int)), SL ja jn jc, .bool th, U64 0, U64 0, I64 0, SL none 0 0, SL none 0 0, U64 0] ++ cu8 (zr8 16) ++ [SL none 0 0, SL none 0 0], 67, (0, 0)⟩, _, _, _]
       refine AI ?_
       have hzA : aZ z0 = true := by unfold aZ; rw [← hth]; exact hb55
       refine EX [0, 1, 5, 2, 3, 4] (by decide) ?_
       show JQ _ _ _ _ [_, _, _, _, _, _]
       refine DT ((pq6, none, 0, 0, [], sg2, cs2, nT2, ao13, zz13, ca13)) ⟨by rw [P4_t hzA, p3]; exact hpq7, (fun h => by have h9 : 0 = hN z0 qb := (by have h8 := hme3 h; omega); rw [(A_t hzA).1, (A_t hzA).2, p3, ← h9]; exact ⟨⟨rfl, (hQ_zero _ _).symm⟩, by omega⟩), rfl, .inl rfl, by omega, by first | omega | (unfold maxLen; omega), hq13, (fun w M h => hA13 w M (hsA w M h)), by omega, by omega, by omega⟩ (Sub.all rfl) rfl
      ·
       show JL _ _ _ _ ((92, Slc nb17 0 nm3 cp8) :: _) [_, _, _, _, _, ⟨nb2, [errV 50 (eQ z0 pq6), SL ao13 zz13.length ca13], 204, (0, 0)⟩, ⟨nb17, cu8 (hQ z0 (qb + 2) nm3) ++ sp8, 54, (0, 0)⟩]
       refine AA (Ptr nb4 27) (AD 27 65 1 AM rfl CU rfl rfl) rfl ?_
       refine A7 (CS 2 nb4 27 1 ([U64 (vQ z0 0 8), I64 (((vQ z0 8 1).toNat:Int)), I64 (((vQ z0 9 1).toNat:Int)), SL ja jn jc, .bool th, U64 0, U64 0, I64 0, SL none 0 0, SL none 0 0, U64 0] ++ cu8 (zr8 16) ++ [SL none 0 0, SL none 0 0]) 67 (Slc nb17 0 nm3 cp8) ([Slc nb17 0 nm3 cp8]) ([U64 (vQ z0 0 8), I64 (((vQ z0 8 1).toNat:Int)), I64 (((vQ z0 9 1).toNat:Int)), SL ja jn jc, .bool th, U64 0, U64 0, I64 0, SL none 0 0, SL none 0 0, U64 0] ++ cu8 (zr8 16) ++ [Slc nb17 0 nm3 cp8, SL none 0 0]) rfl rfl rfl rfl CU rfl (by simp [Value.oneCell']) (by simp [(AN 16)]) (ES 27 0 (by simp [(AN 16)]) rfl (rfl))) rfl ?_
       show JL _ _ _ _ _ [_, _, ⟨nb4, [U64 (vQ z0 0 8), I64 (((vQ z0 8 1).toNat:Int)), I64 (((vQ z0 9 1).toNat:Int)), SL ja jn jc, .bool th, U64 0, U64 0, I64 0, SL none 0 0, SL none 0 0, U64 0] ++ cu8 (zr8 16) ++ [Slc nb17 0 nm3 cp8, SL none 0 0], 67, (0, 0)⟩, _, _, _, _]
       refine AI ?_
       have hzA : aZ z0 = true := by unfold aZ; rw [← hth]; exact hb55
       refine EX [0, 1, 5, 2, 3, 6] (by decide) ?_
       show JQ _ _ _ _ [_, _, _, _, _, _]
       refine DT ((pq6, (some ⟨nb17, 0, none⟩), nm3, cp8, hQ z0 (qb + 2) nm3, nb17, cu8 (hQ z0 (qb + 2) nm3) ++ sp8, 54, ao13, zz13, ca13)) ⟨by rw [P4_t hzA, p3]; exact hpq7, (fun h => by have h9 := hme3 h; rw [(A_t hzA).1, (A_t hzA).2, p3, ← h9]; exact ⟨⟨rfl, rfl⟩, by omega⟩), (hQ_len _ _ _), .inr ⟨rfl, _, rfl⟩, by omega, by first | omega | (unfold maxLen; omega), hq13, (fun w M h => hA13 w M (hsA w M h)), by omega, by omega, by omega⟩ (Sub.all rfl) rfl
     ·
      refine BF ?_
      have hzA : aZ z0 = false := by unfold aZ; rw [← hth]; exact hb55
      refine DT ((qb, none, 0, 0, [], sg2, cs2, nT2, rb, zb, sb)) ⟨p3.symm.trans (P4_f hzA).symm, (fun _ => ⟨⟨(A_f hzA).1.symm, (A_f hzA).2.symm⟩, by omega⟩), rfl, .inl rfl, by omega, by first | omega | (unfold maxLen; omega), hsq, hsA, by omega, by omega, by omega⟩ (Sub.all rfl) rfl
    ·
     rintro ⟨qhA, haA, hnA, hkA, hxA, hgA, hcsA, hTA, raA, zrA, rcA⟩ hx
     obtain ⟨hqhA, hnhA, hxlA, hghA, hnkA, hkmA, hrqA, hrAA, hr1A, hr2A, hr3A⟩ := hx
     show JQ _ _ _ [(2, Ptr nb1 0), (3, .nilIface), (4, Ptr nb2 0), (5, Ptr nb4 0), (15, .bool (bB (((vQ z0 9 1).toNat:Int)) (((vQ z0 8 1).toNat:Int)) th))] [⟨nb1, [U64 0, I64 0, I64 0, SL none 0 0, .bool false, U64 0, U64 0, I64 0, SL none 0 0, SL none 0 0, U64 0] ++ cu8 (zr8 16) ++ [SL none 0 0, SL none 0 0], 67, (0, 0)⟩, ⟨nb3, cu8 z0 ++ sp1, 5, (0, 0)⟩, ⟨nb2, [errV 50 (eQ z0 qhA), SL raA zrA.length rcA], 204, (0, 0)⟩, ⟨nb4, [U64 (vQ z0 0 8), I64 (((vQ z0 8 1).toNat:Int)), I64 (((vQ z0 9 1).toNat:Int)), SL ja jn jc, .bool th, U64 0, U64 0, I64 0, SL none 0 0, SL none 0 0, U64 0] ++ cu8 (zr8 16) ++ [SL haA hnA hkA, SL none 0 0], 67, (0, 0)⟩, ⟨jg, jcs, jT, (0, 0)⟩, ⟨hgA, hcsA, hTA, (0, 0)⟩]
     refine AC (AH (FK (ι := (Nat × Option Addr × Nat × Nat × List UInt8 × Nat × List Value × Nat × Option Addr × List UInt8 × Nat) ⊕ (Nat × Option Addr × List UInt8 × Nat)) (fun x => match x with | .inl ⟨qhB, haB, hnB, hkB, hxB, hgB, hcsB, hTB, raB, zrB, rcB⟩ => [(2, Ptr nb1 0), (3, .nilIface), (4, Ptr nb2 0), (5, Ptr nb4 0)] | .inr ⟨qhB, raB, zrB, rcB⟩ => [(2, Ptr nb1 0), (3, .nilIface), (4, Ptr nb2 0), (5, Ptr nb4 0)]) (fun x => match x with | .inl ⟨qhB, haB, hnB, hkB, hxB, hgB, hcsB, hTB, raB, zrB, rcB⟩ => [⟨nb1, [U64 0, I64 0, I64 0, SL none 0 0, .bool false, U64 0, U64 0, I64 0, SL none 0 0, SL none 0 0, U64 0] ++ cu8 (zr8 16) ++ [SL none 0 0, SL none 0 0], 67, (0, 0)⟩, ⟨nb3, cu8 z0 ++ sp1, 5, (0, 0)⟩, ⟨nb2, [errV 50 (eQ z0 qhB), SL raB zrB.length rcB], 204, (0, 0)⟩, ⟨nb4, [U64 (vQ z0 0 8), I64 (((vQ z0 8 1).toNat:Int)), I64 (((vQ z0 9 1).toNat:Int)), SL ja jn jc, .bool th, U64 0, U64 0, I64 0, SL none 0 0, SL none 0 0, U64 0] ++ cu8 (zr8 16) ++ [SL haA hnA hkA, SL haB hnB hkB], 67, (0, 0)⟩, ⟨jg, jcs, jT, (0, 0)⟩, ⟨hgA, hcsA, hTA, (0, 0)⟩, ⟨hgB, hcsB, hTB, (0, 0)⟩] | .inr ⟨qhB, raB, zrB, rcB⟩ => [⟨nb1, [U64 0, I64 0, I64 0, SL none 0 0, .bool false, U64 0, U64 0, I64 0, SL none 0 0, SL none 0 0, U64 0] ++ cu8 (zr8 16) ++ [SL none 0 0, SL none 0 0], 67, (0, 0)⟩, ⟨nb3, cu8 z0 ++ sp1, 5, (0, 0)⟩, ⟨nb2, [errV 50 (eQ z0 qhB), SL raB zrB.length rcB], 204, (0, 0)⟩, ⟨nb4, [U64 (vQ z0 0 8), I64 (((vQ z0 8 1).toNat:Int)), I64 (((vQ z0 9 1).toNat:Int)), SL ja jn jc, .bool th, U64 0, U64 0, I64 0, SL none 0 0, SL none 0 0, U64 0] ++ cu8 (zr8 16) ++ [SL haA hnA hkA, SL none 0 0], 67, (0, 0)⟩, ⟨jg, jcs, jT, (0, 0)⟩, ⟨hgA, hcsA, hTA, (0, 0)⟩]) (fun x => match x with | .inl ⟨qhB, haB, hnB, hkB, hxB, hgB, hcsB, hTB, raB, zrB, rcB⟩ => qhB = P5 z0 ∧ (qhB ≤ z0.length → (hnB = nbZ z0 ∧ hxB = xbZ z0) ∧ 32 * hnB ≤ qhB) ∧ hxB.length = hnB*32 ∧ Gh (cu8 hxB) hgB hcsB haB ∧ hnB ≤ hkB ∧ hkB ≤ maxLen ∧ Lq z0 zrB qhB ∧ (∀ w M, RdB w M (some ⟨nb3, 0, none⟩) z0 → RdB w M raB zrB) ∧ zrB.length ≤ rcB ∧ rcB ≤ maxLen ∧ zrB.length ≤ n | .inr ⟨qhB, raB, zrB, rcB⟩ => qhB = P5 z0 ∧ (qhB ≤ z0.length → (0 = nbZ z0 ∧ ([] : List UInt8) = xbZ z0) ∧ 32 * 0 ≤ qhB) ∧ Lq z0 zrB qhB ∧ (∀ w M, RdB w M (some ⟨nb3, 0, none⟩) z0 → RdB w M raB zrB) ∧ zrB.length ≤ rcB ∧ rcB ≤ maxLen ∧ zrB.length ≤ n) ?_ ?_))
     ·
      refine AH ?_
      have p4 : P4 z0 = qhA := hqhA.symm
      refine AB (AA _ (AF rfl) rfl ?_)
      refine AI (AC (B9 (bB (((vQ z0 9 1).toNat:Int)) (((vQ z0 8 1).toNat:Int)) th) rfl (fun hb59 => ?_) (fun hb59 => ?_)))
      ·
       refine AB (AA _ (AF rfl) rfl ?_)
       have hz14 : (zrA).length = zrA.length := rfl
       refine A4 (A8 122 _ [false, false, true, false, false, false] [nb2] _ (AS [Ptr nb2 0] Tryd.call122 rfl) rfl (fun w1 hw1 => listQ_c nb2 qhA raA zrA.length rcA z0 zrA w1 (hw1.ent _ (List.mem_of_getElem? (i := 2) rfl)) rfl (by omega) (by omega) (by omega) (hrAA _ _ (RdB.of hw1 (AU 1 rfl (AJ (AQ _))) (by intro _; simp only [List.mem_cons, List.not_mem_nil, or_false, not_or]; exact hw1.ne (i := 1) (j := 2) rfl rfl (by decide)))) hrqA)) rfl ?_
       rintro v1 L1 ⟨_, ⟨pq7, ao14, zz14, ca14, nm4, hpq8, hq14, ⟨hA14, hb60, hb61, hb62⟩, hm10, hme4, (⟨hm12, rfl, rfl⟩ | ⟨hm11, nb18, sp9, cp9, rfl, rfl, hc24, hc25, hc26⟩)⟩, rfl⟩
       ·
        show JL _ _ _ _ ((96, SL none 0 0) :: _) [_, _, _, _, _, ⟨nb2, [errV 50 (eQ z0 pq7), SL ao14 zz14.length ca14], 204, (0, 0)⟩]
        refine AA (Ptr nb4 28) (AD 28 65 1 AM rfl CU rfl rfl) rfl ?_
        refine A7 (CS 2 nb4 28 1 ([U64 (vQ z0 0 8), I64 (((vQ z0 8 1).toNat:Int)), I64 (((vQ z0 9 1).toNat:Int)), SL ja jn jc, .bool th, U64 0, U64 0, I64 0, SL none 0 0, SL none 0 0, U64 0] ++ cu8 (zr8 16) ++ [SL haA hnA hkA, SL none 0 0]) 67 (SL none 0 0) ([SL none 0 0]) ([U64 (vQ z0 0 8), I64 (((vQ z0 8 1).toNat:Int)), I64 (((vQ z0 9 1).toNat:Int)), SL ja jn jc, .bool th, U64 0, U64 0, I64 0, SL none 0 0, SL none 0 0, U64 0] ++ cu8 (zr8 16) ++ [SL haA hnA hkA, SL none 0 0]) rfl rfl rfl rfl CU rfl (by simp [Value.oneCell']) (by simp [(AN 16)]) (ES 27 1 (by simp [(AN 16)]) rfl (rfl))) rfl ?_
        show JL _ _ _ _ _ [_, _, ⟨nb4, [U64 (vQ z0 0 8), I64 (((vQ z0 8 1).toNat:Int)), I64 (((vQ z0 9 1).toNat:Int)), SL ja jn jc, .bool th, U64 0, U64 0, I64 0, SL none 0 0, SL none 0 0, U64 0] ++ cu8 (zr8 16) ++ [SL haA hnA hkA, SL none 0 0], 67, (0, 0)⟩, _, _, _]
        refine AI ?_
        have hzB : bZ z0 = true := by unfold bZ; rw [← hth]; exact hb59
        refine EX [0, 1, 5, 2, 3, 4] (by decide) ?_
        show JQ _ _ _ _ [_, _, _, _, _, _]
        refine DT (.inr (pq7, ao14, zz14, ca14)) ⟨by rw [P5_t hzB, p4]; exact hpq8, (fun h => by have h9 : 0 = hN z0 qhA := (by have h8 := hme4 h; omega); rw [(B_t hzB).1, (B_t hzB).2, p4, ← h9]; exact ⟨⟨rfl, (hQ_zero _ _).symm⟩, by omega⟩), hq14, (fun w M h => hA14 w M (hrAA w M h)), by omega, by omega, by omega⟩ (Sub.all rfl) rfl
       ·
        show JL _ _ _ _ ((96, Slc nb18 0 nm4 cp9) :: _) [_, _, _, _, _, ⟨nb2, [errV 50 (eQ z0 pq7), SL ao14 zz14.length ca14], 204, (0, 0)⟩, ⟨nb18, cu8 (hQ z0 (qhA + 2) nm4) ++ sp9, 54, (0, 0)⟩]
        refine AA (Ptr nb4 28) (AD 28 65 1 AM rfl CU rfl rfl) rfl ?_
        refine A7 (CS 2 nb4 28 1 ([U64 (vQ z0 0 8), I64 (((vQ z0 8 1).toNat:Int)), I64 (((vQ z0 9 1).toNat:Int)), SL ja jn jc, .bool th, U64 0, U64 0, I64 0, SL none 0 0, SL none 0 0, U64 0] ++ cu8 (zr8 16) ++ [SL haA hnA hkA, SL none 0 0]) 67 (Slc nb18 0 nm4 cp9) ([Slc nb18 0 nm4 cp9]) ([U64 (vQ z0 0 8), I64 (((vQ z0 8 1).toNat:Int)), I64 (((vQ z0 9 1).toNat:Int)), SL ja jn jc, .bool th, U64 0, U64 0, I64 0, SL none 0 0, SL none 0 0, U64 0] ++ cu8 (zr8 16) ++ [SL haA hnA hkA, Slc nb18 0 nm4 cp9]) rfl rfl rfl rfl CU rfl (by simp [Value.oneCell']) (by simp [(AN 16)]) (ES 27 1 (by simp [(AN 16)]) rfl (rfl))) rfl ?_
        show JL _ _ _ _ _ [_, _, ⟨nb4, [U64 (vQ z0 0 8), I64 (((vQ z0 8 1).toNat:Int)), I64 (((vQ z0 9 1).toNat:Int)), SL ja jn jc, .bool th, U64 0, U64 0, I64 0, SL none 0 0, SL none 0 0, U64 0] ++ cu8 (zr8 16) ++ [SL haA hnA hkA, Slc nb18 0 nm4 cp9], 67, (0, 0)⟩, _, _, _, _]
        refine AI ?_
        have hzB : bZ z0 = true := by unfold bZ; rw [← hth]; exact hb59
        refine EX [0, 1, 5, 2, 3, 4, 6] (by decide) ?_
        show JQ _ _ _ _ [_, _, _, _, _, _, _]
        refine DT (.inl (pq7, (some ⟨nb18, 0, none⟩), nm4, cp9, hQ z0 (qhA + 2) nm4, nb18, cu8 (hQ z0 (qhA + 2) nm4) ++ sp9, 54, ao14, zz14, ca14)) ⟨by rw [P5_t hzB, p4]; exact hpq8, (fun h => by have h9 := hme4 h; rw [(B_t hzB).1, (B_t hzB).2, p4, ← h9]; exact ⟨⟨rfl, rfl⟩, by omega⟩), (hQ_len _ _ _), .inr ⟨rfl, _, rfl⟩, by omega, by first | omega | (unfold maxLen; omega), hq14, (fun w M h => hA14 w M (hrAA w M h)), by omega, by omega, by omega⟩ (Sub.all rfl) rfl
      ·
       refine BF ?_
       have hzB : bZ z0 = false := by unfold bZ; rw [← hth]; exact hb59
       refine DT (.inr (qhA, raA, zrA, rcA)) ⟨p4.symm.trans (P5_f hzB).symm, (fun _ => ⟨⟨(B_f hzB).1.symm, (B_f hzB).2.symm⟩, by omega⟩), hrqA, hrAA, by omega, by omega, by omega⟩ (Sub.all rfl) rfl
     ·
      rintro (⟨qhB, haB, hnB, hkB, hxB, hgB, hcsB, hTB, raB, zrB, rcB⟩ | ⟨qhB, raB, zrB, rcB⟩) hx
      ·
       obtain ⟨hqhB, hnhB, hxlB, hghB, hnkB, hkmB, hrqB, hrAB, hr1B, hr2B, hr3B⟩ := hx
       show JQ _ _ _ [(2, Ptr nb1 0), (3, .nilIface), (4, Ptr nb2 0), (5, Ptr nb4 0)] [⟨nb1, [U64 0, I64 0, I64 0, SL none 0 0, .bool false, U64 0, U64 0, I64 0, SL none 0 0, SL none 0 0, U64 0] ++ cu8 (zr8 16) ++ [SL none 0 0, SL none 0 0], 67, (0, 0)⟩, ⟨nb3, cu8 z0 ++ sp1, 5, (0, 0)⟩, ⟨nb2, [errV 50 (eQ z0 qhB), SL raB zrB.length rcB], 204, (0, 0)⟩, ⟨nb4, [U64 (vQ z0 0 8), I64 (((vQ z0 8 1).toNat:Int)), I64 (((vQ z0 9 1).toNat:Int)), SL ja jn jc, .bool th, U64 0, U64 0, I64 0, SL none 0 0, SL none 0 0, U64 0] ++ cu8 (zr8 16) ++ [SL haA hnA hkA, SL haB hnB hkB], 67, (0, 0)⟩, ⟨jg, jcs, jT, (0, 0)⟩, ⟨hgA, hcsA, hTA, (0, 0)⟩, ⟨hgB, hcsB, hTB, (0, 0)⟩]
       refine AC (AH (AH ?_))
       have hch : chZ z0 = false := by unfold chZ; rw [← hth]; exact hb36
       have htk := (Or.inr ⟨hch, rfl, rfl, rfl, rfl, rfl, rfl, rfl⟩ : TkZ z0 0 0 0 [] [] 0 (zr8 16))
       have hbd : endN (eQ z0 qhB) zrB.length = 0 → qhB = z0.length := (FL hrqB).1
       have g1 := P2_ge z0
       have g2 := P3_ge z0
       have g3 := P4_ge z0
       have g4 := P5_ge z0
       refine AB (AA _ (AF rfl) rfl ?_)
       refine A7 (A2 63 [Ptr nb2 0] (errV 50 (endN (eQ z0 qhB) zrB.length)) (AS _ DZ rfl) (fun w1 hw1 => end_w nb2 (eQ z0 qhB) raB zrB.length rcB w1 (RdA.of hw1 (AU 2 rfl (AQ _)) (by simp)))) rfl ?_
       show JL _ _ _ _ ((99, errV 50 (endN (eQ z0 qhB) zrB.length)) :: _) [_, _, _, _, _, _, _]
       refine AA (.bool (!(decide (endN (eQ z0 qhB) zrB.length = 0)))) (C7 _ _ _ rfl rfl (fun _ => B6 ..) fun _ => DJ BB _ _) rfl ?_
       refine AA _ (AF rfl) rfl ?_
       rcases Bool.eq_false_or_eq_true (decide (endN (eQ z0 qhB) zrB.length = 0)) with hb63 | hb63
       ·
        have hp63 : endN (eQ z0 qhB) zrB.length = 0 := of_decide_eq_true hb63
        refine AP 3 101 false _ (.agg ([U64 (vQ z0 0 8), I64 (((vQ z0 8 1).toNat:Int)), I64 (((vQ z0 9 1).toNat:Int)), SL ja jn jc, .bool th, U64 0, U64 0, I64 0, SL none 0 0, SL none 0 0, U64 0] ++ cu8 (zr8 16) ++ [SL haA hnA hkA, SL haB hnB hkB]).toArray) rfl rfl (bnotT hb63) (AO rfl (BU CC BR (by simp [(AN 16)]) (AU 3 rfl (AQ _)))) rfl ?_
        refine DL 3 101 false _ rfl rfl (bnotT hb63) (A2 35 [.agg ([U64 (vQ z0 0 8), I64 (((vQ z0 8 1).toNat:Int)), I64 (((vQ z0 9 1).toNat:Int)), SL ja jn jc, .bool th, U64 0, U64 0, I64 0, SL none 0 0, SL none 0 0, U64 0] ++ cu8 (zr8 16) ++ [SL haA hnA hkA, SL haB hnB hkB]).toArray] (.bool (repR (((vQ z0 8 1).toNat:Int)) (((vQ z0 9 1).toNat:Int)) th jl (blankB (0:UInt64) (0:UInt64) (0:Int) ([] : List UInt64) ([] : List SealR) (0:UInt64) (zr8 16)) (decide (mayN (0:UInt64) (0:UInt64) (0:Int) ([] : List UInt64) ([] : List SealR) (0:UInt64) = 0)) hnA hnB)) (AS _ Tryd.call35 rfl) (fun w1 hw1 => E5 (vQ z0 0 8) (((vQ z0 8 1).toNat:Int)) (((vQ z0 9 1).toNat:Int)) ja jn jc jl th (0:UInt64) (0:UInt64) (0:Int) none 0 0 ([] : List UInt64) none 0 0 ([] : List SealR) (0:UInt64) (zr8 16) haA hnA hkA hxA haB hnB hkB hxB w1 hjl (by omega) (by omega) (by omega) (Gh.at hw1 4 rfl hjg) rfl (by omega) (by omega) (by omega) RdV.nil rfl (by omega) (by omega) (by omega) RdV.nil (AN 16) hxlA (by omega) (by omega) (by omega) (Gh.rdB hw1 5 rfl hghA) hxlB (by omega) (by omega) (by omega) (Gh.rdB hw1 6 rfl hghB) (by omega) (by omega))) rfl ?_
        rintro v1 L1 ⟨rfl, rfl⟩
        show JL _ _ _ _ ((103, .bool (repR (((vQ z0 8 1).toNat:Int)) (((vQ z0 9 1).toNat:Int)) th jl (blankB (0:UInt64) (0:UInt64) (0:Int) ([] : List UInt64) ([] : List SealR) (0:UInt64) (zr8 16)) (decide (mayN (0:UInt64) (0:UInt64) (0:Int) ([] : List UInt64) ([] : List SealR) (0:UInt64) = 0)) hnA hnB)) :: _) [_, _, _, _, _, _, _]
        refine AP 3 101 false _ (.bool (!(repR (((vQ z0 8 1).toNat:Int)) (((vQ z0 9 1).toNat:Int)) th jl (blankB (0:UInt64) (0:UInt64) (0:Int) ([] : List UInt64) ([] : List SealR) (0:UInt64) (zr8 16)) (decide (mayN (0:UInt64) (0:UInt64) (0:Int) ([] : List UInt64) ([] : List SealR) (0:UInt64) = 0)) hnA hnB))) rfl rfl (bnotT hb63) (DG rfl) rfl ?_
        refine AA _ (A3 _ rfl (bnotT hb63) rfl) rfl ?_
        refine AI (AC (B9 (!(repR (((vQ z0 8 1).toNat:Int)) (((vQ z0 9 1).toNat:Int)) th jl (blankB (0:UInt64) (0:UInt64) (0:Int) ([] : List UInt64) ([] : List SealR) (0:UInt64) (zr8 16)) (decide (mayN (0:UInt64) (0:UInt64) (0:Int) ([] : List UInt64) ([] : List SealR) (0:UInt64) = 0)) hnA hnB)) rfl (fun hb64 => ?_) (fun hb64 => ?_)))
        ·
         have hb65 : (repR (((vQ z0 8 1).toNat:Int)) (((vQ z0 9 1).toNat:Int)) th jl (blankB (0:UInt64) (0:UInt64) (0:Int) ([] : List UInt64) ([] : List SealR) (0:UInt64) (zr8 16)) (decide (mayN (0:UInt64) (0:UInt64) (0:Int) ([] : List UInt64) ([] : List SealR) (0:UInt64) = 0)) hnA hnB) = false := by simpa using hb64
         refine AH (AB (AA (.agg ([U64 0, I64 0, I64 0, SL none 0 0, .bool false, U64 0, U64 0, I64 0, SL none 0 0, SL none 0 0, U64 0] ++ cu8 (zr8 16) ++ [SL none 0 0, SL none 0 0]).toArray) (CP [] _ rfl (fun _ => by kernel_rfl)) rfl ?_))
         refine AA (.iface 50 (I64 2)) (C9 BM rfl rfl) rfl ?_
         refine A7 (BQ 0 nb1 29 ([U64 0, I64 0, I64 0, SL none 0 0, .bool false, U64 0, U64 0, I64 0, SL none 0 0, SL none 0 0, U64 0] ++ cu8 (zr8 16) ++ [SL none 0 0, SL none 0 0]) 67 ([U64 0, I64 0, I64 0, SL none 0 0, .bool false, U64 0, U64 0, I64 0, SL none 0 0, SL none 0 0, U64 0] ++ cu8 (zr8 16) ++ [SL none 0 0, SL none 0 0]) rfl rfl rfl BR (by simp [(AN 16)]) (BY (BY (by simp [Value.oneCell']) CT) (by simp [Value.oneCell'])) (by simp [(AN 16)]) (BT (by simp [(AN 16), (AN 16)]))) rfl ?_
         show JL _ _ _ _ _ [⟨nb1, [U64 0, I64 0, I64 0, SL none 0 0, .bool false, U64 0, U64 0, I64 0, SL none 0 0, SL none 0 0, U64 0] ++ cu8 (zr8 16) ++ [SL none 0 0, SL none 0 0], 67, (0, 0)⟩, _, _, _, _, _, _]
         refine AA _ (AE rfl) rfl ?_
         refine AI (AC (BI (A1 (BH (.tuple #[.agg ([U64 0, I64 0, I64 0, SL none 0 0, .bool false, U64 0, U64 0, I64 0, SL none 0 0, SL none 0 0, U64 0] ++ cu8 (zr8 16) ++ [SL none 0 0, SL none 0 0]).toArray, .iface 50 (I64 2)]) (res2 EE (DM rfl (BU CC BR (by simp [(AN 16)]) (AU 0 rfl (AQ _)))) (BC rfl)) fun w1 hw1 => ?_))))
         have he : qhB = z0.length := (FL hrqB).1 (by have h9 := of_decide_eq_true hb63; omega)
         have hA := hnhA (by omega)
         have hB := hnhB (by omega)
         exact ⟨_, [], rfl, .inr ⟨BadRp.of ⟨hqhB.symm.trans he, rfl, rfl, rfl, hja (by omega), hth, htk, hA.1.1, hA.1.2, hB.1.1, hB.1.2⟩ hb65, rfl, rfl⟩, hw1.sub (by simp) (by simp)⟩
        ·
         have hb66 : (repR (((vQ z0 8 1).toNat:Int)) (((vQ z0 9 1).toNat:Int)) th jl (blankB (0:UInt64) (0:UInt64) (0:Int) ([] : List UInt64) ([] : List SealR) (0:UInt64) (zr8 16)) (decide (mayN (0:UInt64) (0:UInt64) (0:Int) ([] : List UInt64) ([] : List SealR) (0:UInt64) = 0)) hnA hnB) = true := by simpa using hb64
         refine BF (AC (AH (AB (AA (.agg ([U64 (vQ z0 0 8), I64 (((vQ z0 8 1).toNat:Int)), I64 (((vQ z0 9 1).toNat:Int)), SL ja jn jc, .bool th, U64 0, U64 0, I64 0, SL none 0 0, SL none 0 0, U64 0] ++ cu8 (zr8 16) ++ [SL haA hnA hkA, SL haB hnB hkB]).toArray) (AO rfl (BU CC BR (by simp [(AN 16)]) (AU 3 rfl (AQ _)))) rfl ?_))))
         refine A7 (BQ 0 nb1 29 ([U64 0, I64 0, I64 0, SL none 0 0, .bool false, U64 0, U64 0, I64 0, SL none 0 0, SL none 0 0, U64 0] ++ cu8 (zr8 16) ++ [SL none 0 0, SL none 0 0]) 67 ([U64 (vQ z0 0 8), I64 (((vQ z0 8 1).toNat:Int)), I64 (((vQ z0 9 1).toNat:Int)), SL ja jn jc, .bool th, U64 0, U64 0, I64 0, SL none 0 0, SL none 0 0, U64 0] ++ cu8 (zr8 16) ++ [SL haA hnA hkA, SL haB hnB hkB]) rfl rfl rfl BR (by simp [(AN 16)]) (BY (BY (by simp [Value.oneCell']) CT) (by simp [Value.oneCell'])) (by simp [(AN 16)]) (BT (by simp [(AN 16), (AN 16)]))) rfl ?_
         show JL _ _ _ _ _ [⟨nb1, [U64 (vQ z0 0 8), I64 (((vQ z0 8 1).toNat:Int)), I64 (((vQ z0 9 1).toNat:Int)), SL ja jn jc, .bool th, U64 0, U64 0, I64 0, SL none 0 0, SL none 0 0, U64 0] ++ cu8 (zr8 16) ++ [SL haA hnA hkA, SL haB hnB hkB], 67, (0, 0)⟩, _, _, _, _, _, _]
         refine AA _ (AE rfl) rfl ?_
         refine AI (AC (BI (BH (.tuple #[.agg ([U64 (vQ z0 0 8), I64 (((vQ z0 8 1).toNat:Int)), I64 (((vQ z0 9 1).toNat:Int)), SL ja jn jc, .bool th, U64 0, U64 0, I64 0, SL none 0 0, SL none 0 0, U64 0] ++ cu8 (zr8 16) ++ [SL haA hnA hkA, SL haB hnB hkB]).toArray, .nilIface]) (res2 EE (DM rfl (BU CC BR (by simp [(AN 16)]) (AU 0 rfl (AQ _)))) (BC rfl)) fun w1 hw1 => ?_)))
         have he : qhB = z0.length := (FL hrqB).1 (by have h9 := of_decide_eq_true hb63; omega)
         have hA := hnhA (by omega)
         have hB := hnhB (by omega)
         exact ⟨_, _, rfl, .inl ⟨_, _, _, jn, _, _, _, _, _, 0, _, 0, _, _, _, hnA, _, hnB, _, _, _, _, ja, jc, _, _, _, none, 0, _, _, _, none, 0, _, _, _, haA, hkA, _, _, _, haB, hkB, ⟨⟨hqhB.symm.trans he, rfl, rfl, rfl, hja (by omega), hth, htk, hA.1.1, hA.1.2, hB.1.1, hB.1.2⟩, hb66⟩, hjl, rfl, rfl, (AN 16), by omega, (by omega), (by omega), hxlA, hxlB, rfl, rfl, hjg, by first | omega | (unfold maxLen; omega), by first | omega | (unfold maxLen; omega), .inl rfl, by first | omega | (unfold maxLen; omega), by first | omega | (unfold maxLen; omega), .inl rfl, by first | omega | (unfold maxLen; omega), by first | omega | (unfold maxLen; omega), hghA, by first | omega | (unfold maxLen; omega), by first | omega | (unfold maxLen; omega), hghB, by first | omega | (unfold maxLen; omega), by first | omega | (unfold maxLen; omega)⟩, Hp.pick hw1 [4, 3, 2, 5, 6] ⟨rfl, rfl, rfl, rfl, rfl, trivial⟩ (by decide)⟩
       ·
        have hp63 : ¬ (endN (eQ z0 qhB) zrB.length = 0) := of_decide_eq_false hb63
        refine AG 3 101 false _ rfl rfl (bnotF hb63) rfl ?_
        refine AG 3 101 false _ rfl rfl (bnotF hb63) rfl ?_
        refine AG 3 101 false _ rfl rfl (bnotF hb63) rfl ?_
        refine AA _ (BD _ rfl (bnotF hb63) rfl) rfl ?_
        refine AI (AC (B3 _ rfl rfl ?_))
        refine AH (AB (AA (.agg ([U64 0, I64 0, I64 0, SL none 0 0, .bool false, U64 0, U64 0, I64 0, SL none 0 0, SL none 0 0, U64 0] ++ cu8 (zr8 16) ++ [SL none 0 0, SL none 0 0]).toArray) (CP [] _ rfl (fun _ => by kernel_rfl)) rfl ?_))
        refine AA (.iface 50 (I64 2)) (C9 BM rfl rfl) rfl ?_
        refine A7 (BQ 0 nb1 29 ([U64 0, I64 0, I64 0, SL none 0 0, .bool false, U64 0, U64 0, I64 0, SL none 0 0, SL none 0 0, U64 0] ++ cu8 (zr8 16) ++ [SL none 0 0, SL none 0 0]) 67 ([U64 0, I64 0, I64 0, SL none 0 0, .bool false, U64 0, U64 0, I64 0, SL none 0 0, SL none 0 0, U64 0] ++ cu8 (zr8 16) ++ [SL none 0 0, SL none 0 0]) rfl rfl rfl BR (by simp [(AN 16)]) (BY (BY (by simp [Value.oneCell']) CT) (by simp [Value.oneCell'])) (by simp [(AN 16)]) (BT (by simp [(AN 16), (AN 16)]))) rfl ?_
        show JL _ _ _ _ _ [⟨nb1, [U64 0, I64 0, I64 0, SL none 0 0, .bool false, U64 0, U64 0, I64 0, SL none 0 0, SL none 0 0, U64 0] ++ cu8 (zr8 16) ++ [SL none 0 0, SL none 0 0], 67, (0, 0)⟩, _, _, _, _, _, _]
        refine AA _ (AE rfl) rfl ?_
        refine AI (AC (BI (A1 (BH (.tuple #[.agg ([U64 0, I64 0, I64 0, SL none 0 0, .bool false, U64 0, U64 0, I64 0, SL none 0 0, SL none 0 0, U64 0] ++ cu8 (zr8 16) ++ [SL none 0 0, SL none 0 0]).toArray, .iface 50 (I64 2)]) (res2 EE (DM rfl (BU CC BR (by simp [(AN 16)]) (AU 0 rfl (AQ _)))) (BC rfl)) fun w1 hw1 => ?_))))
        exact ⟨_, [], rfl, .inr ⟨BadRp.far (fun e => (of_decide_eq_false hb63) ((FL hrqB).2 (hqhB.trans e))), rfl, rfl⟩, hw1.sub (by simp) (by simp)⟩
      ·
       obtain ⟨hqhB, hnhB, hrqB, hrAB, hr1B, hr2B, hr3B⟩ := hx
       show JQ _ _ _ [(2, Ptr nb1 0), (3, .nilIface), (4, Ptr nb2 0), (5, Ptr nb4 0)] [⟨nb1, [U64 0, I64 0, I64 0, SL none 0 0, .bool false, U64 0, U64 0, I64 0, SL none 0 0, SL none 0 0, U64 0] ++ cu8 (zr8 16) ++ [SL none 0 0, SL none 0 0], 67, (0, 0)⟩, ⟨nb3, cu8 z0 ++ sp1, 5, (0, 0)⟩, ⟨nb2, [errV 50 (eQ z0 qhB), SL raB zrB.length rcB], 204, (0, 0)⟩, ⟨nb4, [U64 (vQ z0 0 8), I64 (((vQ z0 8 1).toNat:Int)), I64 (((vQ z0 9 1).toNat:Int)), SL ja jn jc, .bool th, U64 0, U64 0, I64 0, SL none 0 0, SL none 0 0, U64 0] ++ cu8 (zr8 16) ++ [SL haA hnA hkA, SL none 0 0], 67, (0, 0)⟩, ⟨jg, jcs, jT, (0, 0)⟩, ⟨hgA, hcsA, hTA, (0, 0)⟩]
       refine AC (AH (AH ?_))
       have hch : chZ z0 = false := by unfold chZ; rw [← hth]; exact hb36
       have htk := (Or.inr ⟨hch, rfl, rfl, rfl, rfl, rfl, rfl, rfl⟩ : TkZ z0 0 0 0 [] [] 0 (zr8 16))
       have hbd : endN (eQ z0 qhB) zrB.length = 0 → qhB = z0.length := (FL hrqB).1
       have g1 := P2_ge z0
       have g2 := P3_ge z0
       have g3 := P4_ge z0
       have g4 := P5_ge z0
       refine AB (AA _ (AF rfl) rfl ?_)
       refine A7 (A2 63 [Ptr nb2 0] (errV 50 (endN (eQ z0 qhB) zrB.length)) (AS _ DZ rfl) (fun w1 hw1 => end_w nb2 (eQ z0 qhB) raB zrB.length rcB w1 (RdA.of hw1 (AU 2 rfl (AQ _)) (by simp)))) rfl ?_
       show JL _ _ _ _ ((99, errV 50 (endN (eQ z0 qhB) zrB.length)) :: _) [_, _, _, _, _, _]
       refine AA (.bool (!(decide (endN (eQ z0 qhB) zrB.length = 0)))) (C7 _ _ _ rfl rfl (fun _ => B6 ..) fun _ => DJ BB _ _) rfl ?_
       refine AA _ (AF rfl) rfl ?_
       rcases Bool.eq_false_or_eq_true (decide (endN (eQ z0 qhB) zrB.length = 0)) with hb67 | hb67
       ·
        have hp67 : endN (eQ z0 qhB) zrB.length = 0 := of_decide_eq_true hb67
        refine AP 3 101 false _ (.agg ([U64 (vQ z0 0 8), I64 (((vQ z0 8 1).toNat:Int)), I64 (((vQ z0 9 1).toNat:Int)), SL ja jn jc, .bool th, U64 0, U64 0, I64 0, SL none 0 0, SL none 0 0, U64 0] ++ cu8 (zr8 16) ++ [SL haA hnA hkA, SL none 0 0]).toArray) rfl rfl (bnotT hb67) (AO rfl (BU CC BR (by simp [(AN 16)]) (AU 3 rfl (AQ _)))) rfl ?_
        refine DL 3 101 false _ rfl rfl (bnotT hb67) (A2 35 [.agg ([U64 (vQ z0 0 8), I64 (((vQ z0 8 1).toNat:Int)), I64 (((vQ z0 9 1).toNat:Int)), SL ja jn jc, .bool th, U64 0, U64 0, I64 0, SL none 0 0, SL none 0 0, U64 0] ++ cu8 (zr8 16) ++ [SL haA hnA hkA, SL none 0 0]).toArray] (.bool (repR (((vQ z0 8 1).toNat:Int)) (((vQ z0 9 1).toNat:Int)) th jl (blankB (0:UInt64) (0:UInt64) (0:Int) ([] : List UInt64) ([] : List SealR) (0:UInt64) (zr8 16)) (decide (mayN (0:UInt64) (0:UInt64) (0:Int) ([] : List UInt64) ([] : List SealR) (0:UInt64) = 0)) hnA 0)) (AS _ Tryd.call35 rfl) (fun w1 hw1 => E5 (vQ z0 0 8) (((vQ z0 8 1).toNat:Int)) (((vQ z0 9 1).toNat:Int)) ja jn jc jl th (0:UInt64) (0:UInt64) (0:Int) none 0 0 ([] : List UInt64) none 0 0 ([] : List SealR) (0:UInt64) (zr8 16) haA hnA hkA hxA none 0 0 ([]) w1 hjl (by omega) (by omega) (by omega) (Gh.at hw1 4 rfl hjg) rfl (by omega) (by omega) (by omega) RdV.nil rfl (by omega) (by omega) (by omega) RdV.nil (AN 16) hxlA (by omega) (by omega) (by omega) (Gh.rdB hw1 5 rfl hghA) rfl (by omega) (by omega) (by unfold maxLen; omega) RdB.nil (by omega) (by omega))) rfl ?_
        rintro v1 L1 ⟨rfl, rfl⟩
        show JL _ _ _ _ ((103, .bool (repR (((vQ z0 8 1).toNat:Int)) (((vQ z0 9 1).toNat:Int)) th jl (blankB (0:UInt64) (0:UInt64) (0:Int) ([] : List UInt64) ([] : List SealR) (0:UInt64) (zr8 16)) (decide (mayN (0:UInt64) (0:UInt64) (0:Int) ([] : List UInt64) ([] : List SealR) (0:UInt64) = 0)) hnA 0)) :: _) [_, _, _, _, _, _]
        refine AP 3 101 false _ (.bool (!(repR (((vQ z0 8 1).toNat:Int)) (((vQ z0 9 1).toNat:Int)) th jl (blankB (0:UInt64) (0:UInt64) (0:Int) ([] : List UInt64) ([] : List SealR) (0:UInt64) (zr8 16)) (decide (mayN (0:UInt64) (0:UInt64) (0:Int) ([] : List UInt64) ([] : List SealR) (0:UInt64) = 0)) hnA 0))) rfl rfl (bnotT hb67) (DG rfl) rfl ?_
        refine AA _ (A3 _ rfl (bnotT hb67) rfl) rfl ?_
        refine AI (AC (B9 (!(repR (((vQ z0 8 1).toNat:Int)) (((vQ z0 9 1).toNat:Int)) th jl (blankB (0:UInt64) (0:UInt64) (0:Int) ([] : List UInt64) ([] : List SealR) (0:UInt64) (zr8 16)) (decide (mayN (0:UInt64) (0:UInt64) (0:Int) ([] : List UInt64) ([] : List SealR) (0:UInt64) = 0)) hnA 0)) rfl (fun hb68 => ?_) (fun hb68 => ?_)))
        ·
         have hb69 : (repR (((vQ z0 8 1).toNat:Int)) (((vQ z0 9 1).toNat:Int)) th jl (blankB (0:UInt64) (0:UInt64) (0:Int) ([] : List UInt64) ([] : List SealR) (0:UInt64) (zr8 16)) (decide (mayN (0:UInt64) (0:UInt64) (0:Int) ([] : List UInt64) ([] : List SealR) (0:UInt64) = 0)) hnA 0) = false := by simpa using hb68
         refine AH (AB (AA (.agg ([U64 0, I64 0, I64 0, SL none 0 0, .bool false, U64 0, U64 0, I64 0, SL none 0 0, SL none 0 0, U64 0] ++ cu8 (zr8 16) ++ [SL none 0 0, SL none 0 0]).toArray) (CP [] _ rfl (fun _ => by kernel_rfl)) rfl ?_))
         refine AA (.iface 50 (I64 2)) (C9 BM rfl rfl) rfl ?_
         refine A7 (BQ 0 nb1 29 ([U64 0, I64 0, I64 0, SL none 0 0, .bool false, U64 0, U64 0, I64 0, SL none 0 0, SL none 0 0, U64 0] ++ cu8 (zr8 16) ++ [SL none 0 0, SL none 0 0]) 67 ([U64 0, I64 0, I64 0, SL none 0 0, .bool false, U64 0, U64 0, I64 0, SL none 0 0, SL none 0 0, U64 0] ++ cu8 (zr8 16) ++ [SL none 0 0, SL none 0 0]) rfl rfl rfl BR (by simp [(AN 16)]) (BY (BY (by simp [Value.oneCell']) CT) (by simp [Value.oneCell'])) (by simp [(AN 16)]) (BT (by simp [(AN 16), (AN 16)]))) rfl ?_
         show JL _ _ _ _ _ [⟨nb1, [U64 0, I64 0, I64 0, SL none 0 0, .bool false, U64 0, U64 0, I64 0, SL none 0 0, SL none 0 0, U64 0] ++ cu8 (zr8 16) ++ [SL none 0 0, SL none 0 0], 67, (0, 0)⟩, _, _, _, _, _]
         refine AA _ (AE rfl) rfl ?_
         refine AI (AC (BI (A1 (BH (.tuple #[.agg ([U64 0, I64 0, I64 0, SL none 0 0, .bool false, U64 0, U64 0, I64 0, SL none 0 0, SL none 0 0, U64 0] ++ cu8 (zr8 16) ++ [SL none 0 0, SL none 0 0]).toArray, .iface 50 (I64 2)]) (res2 EE (DM rfl (BU CC BR (by simp [(AN 16)]) (AU 0 rfl (AQ _)))) (BC rfl)) fun w1 hw1 => ?_))))
         have he : qhB = z0.length := (FL hrqB).1 (by have h9 := of_decide_eq_true hb67; omega)
         have hA := hnhA (by omega)
         have hB := hnhB (by omega)
         exact ⟨_, [], rfl, .inr ⟨BadRp.of ⟨hqhB.symm.trans he, rfl, rfl, rfl, hja (by omega), hth, htk, hA.1.1, hA.1.2, hB.1.1, hB.1.2⟩ hb69, rfl, rfl⟩, hw1.sub (by simp) (by simp)⟩
        ·
         have hb70 : (repR (((vQ z0 8 1).toNat:Int)) (((vQ z0 9 1).toNat:Int)) th jl (blankB (0:UInt64) (0:UInt64) (0:Int) ([] : List UInt64) ([] : List SealR) (0:UInt64) (zr8 16)) (decide (mayN (0:UInt64) (0:UInt64) (0:Int) ([] : List UInt64) ([] : List SealR) (0:UInt64) = 0)) hnA 0) = true := by simpa using hb68
         refine BF (AC (AH (AB (AA (.agg ([U64 (vQ z0 0 8), I64 (((vQ z0 8 1).toNat:Int)), I64 (((vQ z0 9 1).toNat:Int)), SL ja jn jc, .bool th, U64 0, U64 0, I64 0, SL none 0 0, SL none 0 0, U64 0] ++ cu8 (zr8 16) ++ [SL haA hnA hkA, SL none 0 0]).toArray) (AO rfl (BU CC BR (by simp [(AN 16)]) (AU 3 rfl (AQ _)))) rfl ?_))))
         refine A7 (BQ 0 nb1 29 ([U64 0, I64 0, I64 0, SL none 0 0, .bool false, U64 0, U64 0, I64 0, SL none 0 0, SL none 0 0, U64 0] ++ cu8 (zr8 16) ++ [SL none 0 0, SL none 0 0]) 67 ([U64 (vQ z0 0 8), I64 (((vQ z0 8 1).toNat:Int)), I64 (((vQ z0 9 1).toNat:Int)), SL ja jn jc, .bool th, U64 0, U64 0, I64 0, SL none 0 0, SL none 0 0, U64 0] ++ cu8 (zr8 16) ++ [SL haA hnA hkA, SL none 0 0]) rfl rfl rfl BR (by simp [(AN 16)]) (BY (BY (by simp [Value.oneCell']) CT) (by simp [Value.oneCell'])) (by simp [(AN 16)]) (BT (by simp [(AN 16), (AN 16)]))) rfl ?_
         show JL _ _ _ _ _ [⟨nb1, [U64 (vQ z0 0 8), I64 (((vQ z0 8 1).toNat:Int)), I64 (((vQ z0 9 1).toNat:Int)), SL ja jn jc, .bool th, U64 0, U64 0, I64 0, SL none 0 0, SL none 0 0, U64 0] ++ cu8 (zr8 16) ++ [SL haA hnA hkA, SL none 0 0], 67, (0, 0)⟩, _, _, _, _, _]
         refine AA _ (AE rfl) rfl ?_
         refine AI (AC (BI (BH (.tuple #[.agg ([U64 (vQ z0 0 8), I64 (((vQ z0 8 1).toNat:Int)), I64 (((vQ z0 9 1).toNat:Int)), SL ja jn jc, .bool th, U64 0, U64 0, I64 0, SL none 0 0, SL none 0 0, U64 0] ++ cu8 (zr8 16) ++ [SL haA hnA hkA, SL none 0 0]).toArray, .nilIface]) (res2 EE (DM rfl (BU CC BR (by simp [(AN 16)]) (AU 0 rfl (AQ _)))) (BC rfl)) fun w1 hw1 => ?_)))
         have he : qhB = z0.length := (FL hrqB).1 (by have h9 := of_decide_eq_true hb67; omega)
         have hA := hnhA (by omega)
         have hB := hnhB (by omega)
         exact ⟨_, _, rfl, .inl ⟨_, _, _, jn, _, _, _, _, _, 0, _, 0, _, _, _, hnA, _, 0, _, _, _, _, ja, jc, _, _, _, none, 0, _, _, _, none, 0, _, _, _, haA, hkA, _, _, _, none, 0, ⟨⟨hqhB.symm.trans he, rfl, rfl, rfl, hja (by omega), hth, htk, hA.1.1, hA.1.2, hB.1.1, hB.1.2⟩, hb70⟩, hjl, rfl, rfl, (AN 16), by omega, (by omega), (by omega), hxlA, rfl, rfl, rfl, hjg, by first | omega | (unfold maxLen; omega), by first | omega | (unfold maxLen; omega), .inl rfl, by first | omega | (unfold maxLen; omega), by first | omega | (unfold maxLen; omega), .inl rfl, by first | omega | (unfold maxLen; omega), by first | omega | (unfold maxLen; omega), hghA, by first | omega | (unfold maxLen; omega), by first | omega | (unfold maxLen; omega), .inl rfl, by first | omega | (unfold maxLen; omega), by first | omega | (unfold maxLen; omega)⟩, Hp.pick hw1 [4, 3, 2, 5, 0] ⟨rfl, rfl, rfl, rfl, rfl, trivial⟩ (by decide)⟩
       ·
        have hp67 : ¬ (endN (eQ z0 qhB) zrB.length = 0) := of_decide_eq_false hb67
        refine AG 3 101 false _ rfl rfl (bnotF hb67) rfl ?_
        refine AG 3 101 false _ rfl rfl (bnotF hb67) rfl ?_
        refine AG 3 101 false _ rfl rfl (bnotF hb67) rfl ?_
        refine AA _ (BD _ rfl (bnotF hb67) rfl) rfl ?_
        refine AI (AC (B3 _ rfl rfl ?_))
        refine AH (AB (AA (.agg ([U64 0, I64 0, I64 0, SL none 0 0, .bool false, U64 0, U64 0, I64 0, SL none 0 0, SL none 0 0, U64 0] ++ cu8 (zr8 16) ++ [SL none 0 0, SL none 0 0]).toArray) (CP [] _ rfl (fun _ => by kernel_rfl)) rfl ?_))
        refine AA (.iface 50 (I64 2)) (C9 BM rfl rfl) rfl ?_
        refine A7 (BQ 0 nb1 29 ([U64 0, I64 0, I64 0, SL none 0 0, .bool false, U64 0, U64 0, I64 0, SL none 0 0, SL none 0 0, U64 0] ++ cu8 (zr8 16) ++ [SL none 0 0, SL none 0 0]) 67 ([U64 0, I64 0, I64 0, SL none 0 0, .bool false, U64 0, U64 0, I64 0, SL none 0 0, SL none 0 0, U64 0] ++ cu8 (zr8 16) ++ [SL none 0 0, SL none 0 0]) rfl rfl rfl BR (by simp [(AN 16)]) (BY (BY (by simp [Value.oneCell']) CT) (by simp [Value.oneCell'])) (by simp [(AN 16)]) (BT (by simp [(AN 16), (AN 16)]))) rfl ?_
        show JL _ _ _ _ _ [⟨nb1, [U64 0, I64 0, I64 0, SL none 0 0, .bool false, U64 0, U64 0, I64 0, SL none 0 0, SL none 0 0, U64 0] ++ cu8 (zr8 16) ++ [SL none 0 0, SL none 0 0], 67, (0, 0)⟩, _, _, _, _, _]
        refine AA _ (AE rfl) rfl ?_
        refine AI (AC (BI (A1 (BH (.tuple #[.agg ([U64 0, I64 0, I64 0, SL none 0 0, .bool false, U64 0, U64 0, I64 0, SL none 0 0, SL none 0 0, U64 0] ++ cu8 (zr8 16) ++ [SL none 0 0, SL none 0 0]).toArray, .iface 50 (I64 2)]) (res2 EE (DM rfl (BU CC BR (by simp [(AN 16)]) (AU 0 rfl (AQ _)))) (BC rfl)) fun w1 hw1 => ?_))))
        exact ⟨_, [], rfl, .inr ⟨BadRp.far (fun e => (of_decide_eq_false hb67) ((FL hrqB).2 (hqhB.trans e))), rfl, rfl⟩, hw1.sub (by simp) (by simp)⟩
theorem fromQN_w (w : World) : Calls Tryd.prog 59 #[SL none 0 0] w (Post w [] (fun v L => ∃ rb, v = Ptr rb 0 ∧ L = [⟨rb, [errV 50 (eQ [] 0), SL none 0 0], 204, (0, 0)⟩])) := by
 rw [show errV 50 (eQ [] 0) = .nilIface from by rw [eQ_ok (Nat.zero_le _)]; rfl]
 exact fromNil_c w
theorem parqN_c  (w : World) : Calls Tryd.prog 53 #[SL none 0 0] w (Post w [] (fun v L => BadRq [] ∧ v = .tuple #[.agg ([U64 0, I64 0, SL none 0 0, U64 0, I64 0, U64 0, U64 0, I64 0, SL none 0 0, SL none 0 0, U64 0] ++ cu8 (zr8 16) ++ [U64 0]).toArray, .iface 50 (I64 2)] ∧ L = [])) := by
 have hmx : maxLen = 9223372036854775807 := rfl
 have hk8 := vQ_lt1 [] 8
 have hk9 := vQ_lt1 [] 9
 refine enter w [] 67 [] [SL none 0 0] Tryd.func53 rfl rfl (by simp) (BW (by simp) (by simp) (by simp)) ?_
 show JC _ _ _ [(0, SL none 0 0)] _
 refine AH (AB (A4 (C0 _ ([U64 0, I64 0, SL none 0 0, U64 0, I64 0, U64 0, U64 0, I64 0, SL none 0 0, SL none 0 0, U64 0] ++ cu8 (zr8 16) ++ [U64 0]) Tryd.zeroValue31 (by kernel_rfl)) rfl ?_))
 rintro v1 L1 ⟨nb1, hnb1, rfl, rfl⟩
 show JL _ _ _ _ ((2, Ptr nb1 0) :: _) [⟨nb1, [U64 0, I64 0, SL none 0 0, U64 0, I64 0, U64 0, U64 0, I64 0, SL none 0 0, SL none 0 0, U64 0] ++ cu8 (zr8 16) ++ [U64 0], 31, (0, 0)⟩]
 refine AA _ (AE rfl) rfl ?_
 refine AI (AC (AH (AB (AA _ (AF rfl) rfl ?_))))
 refine A4 (CZ 59 [SL none 0 0] _ (AS _ Tryd.call59 rfl) (fun w1 hw1 => fromQN_w w1)) rfl ?_
 rintro v1 L1 ⟨_, ⟨nb2, rfl, rfl⟩, rfl⟩
 show JL _ _ _ _ ((8, Ptr nb2 0) :: _) [_, ⟨nb2, [errV 50 (eQ [] 0), SL none 0 0], 204, (0, 0)⟩]
 refine AA _ (AE rfl) rfl ?_
 refine AI (AC (AH (AB (AA _ (AF rfl) rfl ?_))))
 have hz1 : (([] : List UInt8)).length = 0 := rfl
 refine A4 (A8 109 _ [false, true] [nb2] _ (AS [Ptr nb2 0, I64 8] CV rfl) rfl (fun w1 hw1 => E1 nb2 0 8 none 0 0 [] ([] : List UInt8) w1 (hw1.ent _ (List.mem_of_getElem? (i := 1) rfl)) rfl (by omega) (by omega) (by omega) ((fun _ _ h => h) _ _ RdB.nil) (Lq.zero []) (by unfold Szd; omega))) rfl ?_
 rintro v1 L1 ⟨_, ⟨rfl, ao1, zz1, ca1, hq1, ⟨hA1, hb1, hb2, hb3⟩, rfl⟩, rfl⟩
 show JL _ _ _ _ ((10, U64 (vQ [] 0 8)) :: _) [_, ⟨nb2, [errV 50 (eQ [] 8), SL ao1 zz1.length ca1], 204, (0, 0)⟩]
 refine AA _ (AF rfl) rfl ?_
 have hz2 : (zz1).length = zz1.length := rfl
 refine A4 (A8 109 _ [false, true] [nb2] _ (AS [Ptr nb2 0, I64 1] CV rfl) rfl (fun w1 hw1 => E1 nb2 8 1 ao1 zz1.length ca1 [] zz1 w1 (hw1.ent _ (List.mem_of_getElem? (i := 1) rfl)) rfl (by omega) (by omega) (by omega) ((fun w M h => hA1 w M ((fun _ _ h => h) w M h)) _ _ RdB.nil) hq1 (by unfold Szd; omega))) rfl ?_
 rintro v1 L1 ⟨_, ⟨rfl, ao2, zz2, ca2, hq2, ⟨hA2, hb4, hb5, hb6⟩, rfl⟩, rfl⟩
 show JL _ _ _ _ ((12, U64 (vQ [] 8 1)) :: _) [_, ⟨nb2, [errV 50 (eQ [] 9), SL ao2 zz2.length ca2], 204, (0, 0)⟩]
 refine AA (I64 (((vQ [] 8 1).toNat:Int))) (CM _ _ rfl fun _ => ER (by rw [AW]; rfl) A6 (vQ [] 8 1) _ rfl (by omega)) rfl ?_
 refine AA (.agg ([U64 (vQ [] 0 8), I64 (((vQ [] 8 1).toNat:Int)), SL none 0 0, U64 0, I64 0, U64 0, U64 0, I64 0, SL none 0 0, SL none 0 0, U64 0] ++ cu8 (zr8 16) ++ [U64 0]).toArray) (CP [(0, U64 (vQ [] 0 8)), (1, I64 (((vQ [] 8 1).toNat:Int)))] _ rfl (fun _ => bld31_01 rfl rfl)) rfl ?_
 refine A4 (C0 _ ([U64 0, I64 0, SL none 0 0, U64 0, I64 0, U64 0, U64 0, I64 0, SL none 0 0, SL none 0 0, U64 0] ++ cu8 (zr8 16) ++ [U64 0]) Tryd.zeroValue31 (by kernel_rfl)) rfl ?_
 rintro v1 L1 ⟨nb3, hnb3, rfl, rfl⟩
 show JL _ _ _ _ ((5, Ptr nb3 0) :: _) [_, _, ⟨nb3, [U64 0, I64 0, SL none 0 0, U64 0, I64 0, U64 0, U64 0, I64 0, SL none 0 0, SL none 0 0, U64 0] ++ cu8 (zr8 16) ++ [U64 0], 31, (0, 0)⟩]
 refine A7 (BQ 2 nb3 28 ([U64 0, I64 0, SL none 0 0, U64 0, I64 0, U64 0, U64 0, I64 0, SL none 0 0, SL none 0 0, U64 0] ++ cu8 (zr8 16) ++ [U64 0]) 31 ([U64 (vQ [] 0 8), I64 (((vQ [] 8 1).toNat:Int)), SL none 0 0, U64 0, I64 0, U64 0, U64 0, I64 0, SL none 0 0, SL none 0 0, U64 0] ++ cu8 (zr8 16) ++ [U64 0]) rfl rfl rfl BV (by simp [(AN 16)]) (BY (BY (by simp [Value.oneCell']) CT) (by simp [Value.oneCell'])) (by simp [(AN 16)]) (BT (by simp [(AN 16), (AN 16)]))) rfl ?_
 show JL _ _ _ _ _ [_, _, ⟨nb3, [U64 (vQ [] 0 8), I64 (((vQ [] 8 1).toNat:Int)), SL none 0 0, U64 0, I64 0, U64 0, U64 0, I64 0, SL none 0 0, SL none 0 0, U64 0] ++ cu8 (zr8 16) ++ [U64 0], 31, (0, 0)⟩]
 refine AI (AC (AH (AH (AB (AA (Ptr nb3 1) (AD 1 3 1 AX rfl AT rfl rfl) rfl ?_)))))
 refine AA (I64 (((vQ [] 8 1).toNat:Int))) (AO rfl (A0 AY (AU 2 rfl (AJ (AJ (AK (Seg.head))))))) rfl ?_
 refine AA (.bool (decide ((((vQ [] 8 1).toNat:Int)) = (3:Int)))) (AR rfl rfl fun _ => BK _ _) rfl ?_
 refine AI (AC (BP _ rfl (by decide +kernel) ?_))
 refine AB (AA _ (AF rfl) rfl ?_)
 have hz3 : (zz2).length = zz2.length := rfl
 refine A4 (A8 109 _ [false, true, false] [nb2] _ (AS [Ptr nb2 0, I64 8] CV rfl) rfl (fun w1 hw1 => E1 nb2 9 8 ao2 zz2.length ca2 [] zz2 w1 (hw1.ent _ (List.mem_of_getElem? (i := 1) rfl)) rfl (by omega) (by omega) (by omega) ((fun w M h => hA2 w M ((fun w M h => hA1 w M ((fun _ _ h => h) w M h)) w M h)) _ _ RdB.nil) hq2 (by unfold Szd; omega))) rfl ?_
 rintro v1 L1 ⟨_, ⟨rfl, ao3, zz3, ca3, hq3, ⟨hA3, hb7, hb8, hb9⟩, rfl⟩, rfl⟩
 show JL _ _ _ _ ((22, U64 (vQ [] 9 8)) :: _) [_, _, ⟨nb2, [errV 50 (eQ [] 17), SL ao3 zz3.length ca3], 204, (0, 0)⟩]
 refine AA (Ptr nb3 27) (AD 27 22 1 AX rfl A9 rfl rfl) rfl ?_
 refine A7 (CS 1 nb3 27 1 ([U64 (vQ [] 0 8), I64 (((vQ [] 8 1).toNat:Int)), SL none 0 0, U64 0, I64 0, U64 0, U64 0, I64 0, SL none 0 0, SL none 0 0, U64 0] ++ cu8 (zr8 16) ++ [U64 0]) 31 (U64 (vQ [] 9 8)) ([U64 (vQ [] 9 8)]) ([U64 (vQ [] 0 8), I64 (((vQ [] 8 1).toNat:Int)), SL none 0 0, U64 0, I64 0, U64 0, U64 0, I64 0, SL none 0 0, SL none 0 0, U64 0] ++ cu8 (zr8 16) ++ [U64 (vQ [] 9 8)]) rfl rfl rfl rfl A9 rfl (by simp [Value.oneCell']) (by simp [(AN 16)]) (ES 27 0 (by simp [(AN 16)]) rfl (BT (by simp [])))) rfl ?_
 show JL _ _ _ _ _ [_, ⟨nb3, [U64 (vQ [] 0 8), I64 (((vQ [] 8 1).toNat:Int)), SL none 0 0, U64 0, I64 0, U64 0, U64 0, I64 0, SL none 0 0, SL none 0 0, U64 0] ++ cu8 (zr8 16) ++ [U64 (vQ [] 9 8)], 31, (0, 0)⟩, _]
 refine AI (AC (AH (AH (AB (AA (Ptr nb3 1) (AD 1 3 1 AX rfl AT rfl rfl) rfl ?_)))))
 refine AA (I64 (((vQ [] 8 1).toNat:Int))) (AO rfl (A0 AY (AU 1 rfl (AJ (AJ (AK (Seg.head))))))) rfl ?_
 refine AI (AC (B5 (AH (AB (AA (.bool (decide ((((vQ [] 8 1).toNat:Int)) = (1:Int)))) (AR rfl rfl fun _ => BK _ _) rfl ?_)))))
 refine AA _ (AE rfl) rfl ?_
 refine AI (AC (BP _ rfl (by decide +kernel) ?_))
 refine AH (AB (AA (.bool (decide ((((vQ [] 8 1).toNat:Int)) = (2:Int)))) (AR rfl rfl fun _ => BK _ _) rfl ?_))
 refine AA _ (AE rfl) rfl ?_
 refine AI (AC (BP _ rfl (by decide +kernel) ?_))
 refine BF (BS (AC (AH (AH (AB (AA _ (AF rfl) rfl ?_))))))
 refine A7 (A2 63 [Ptr nb2 0] (errV 50 (endN (eQ [] 17) zz3.length)) (AS _ DZ rfl) (fun w1 hw1 => end_w nb2 (eQ [] 17) ao3 zz3.length ca3 w1 (RdA.of hw1 (AU 2 rfl (AQ _)) (by simp)))) rfl ?_
 show JL _ _ _ _ ((57, errV 50 (endN (eQ [] 17) zz3.length)) :: _) [_, _, _]
 refine AA (.bool (!(decide (endN (eQ [] 17) zz3.length = 0)))) (C7 _ _ _ rfl rfl (fun _ => B6 ..) fun _ => DJ BB _ _) rfl ?_
 refine AA _ (AF rfl) rfl ?_
 refine AG 3 59 false _ rfl rfl (bnotF (decide_eq_false (by rw [EU (by decide), endN, if_neg (by decide)]; decide))) rfl ?_
 refine AG 3 59 false _ rfl rfl (bnotF (decide_eq_false (by rw [EU (by decide), endN, if_neg (by decide)]; decide))) rfl ?_
 refine AG 3 59 false _ rfl rfl (bnotF (decide_eq_false (by rw [EU (by decide), endN, if_neg (by decide)]; decide))) rfl ?_
 refine AA _ (BD _ rfl (bnotF (decide_eq_false (by rw [EU (by decide), endN, if_neg (by decide)]; decide))) rfl) rfl ?_
 refine AI (AC (B3 _ rfl rfl ?_))
 refine AH (AB (AA (.agg ([U64 0, I64 0, SL none 0 0, U64 0, I64 0, U64 0, U64 0, I64 0, SL none 0 0, SL none 0 0, U64 0] ++ cu8 (zr8 16) ++ [U64 0]).toArray) (CP [] _ rfl (fun _ => by kernel_rfl)) rfl ?_))
 refine AA (.iface 50 (I64 2)) (C9 BM rfl rfl) rfl ?_
 refine A7 (BQ 0 nb1 28 ([U64 0, I64 0, SL none 0 0, U64 0, I64 0, U64 0, U64 0, I64 0, SL none 0 0, SL none 0 0, U64 0] ++ cu8 (zr8 16) ++ [U64 0]) 31 ([U64 0, I64 0, SL none 0 0, U64 0, I64 0, U64 0, U64 0, I64 0, SL none 0 0, SL none 0 0, U64 0] ++ cu8 (zr8 16) ++ [U64 0]) rfl rfl rfl BV (by simp [(AN 16)]) (BY (BY (by simp [Value.oneCell']) CT) (by simp [Value.oneCell'])) (by simp [(AN 16)]) (BT (by simp [(AN 16), (AN 16)]))) rfl ?_
 show JL _ _ _ _ _ [⟨nb1, [U64 0, I64 0, SL none 0 0, U64 0, I64 0, U64 0, U64 0, I64 0, SL none 0 0, SL none 0 0, U64 0] ++ cu8 (zr8 16) ++ [U64 0], 31, (0, 0)⟩, _, _]
 refine AA _ (AE rfl) rfl ?_
 refine AI (AC (BI (A1 (BH (.tuple #[.agg ([U64 0, I64 0, SL none 0 0, U64 0, I64 0, U64 0, U64 0, I64 0, SL none 0 0, SL none 0 0, U64 0] ++ cu8 (zr8 16) ++ [U64 0]).toArray, .iface 50 (I64 2)]) (res2 D3 (DM rfl (BU CY BV (by simp [(AN 16)]) (AU 0 rfl (AQ _)))) (BC rfl)) fun w1 hw1 => ?_))))
 exact ⟨_, [], rfl, ⟨BadRq.nil, rfl, rfl⟩, hw1.sub (by simp) (by simp)⟩
theorem parpN_c  (w : World) : Calls Tryd.prog 55 #[SL none 0 0] w (Post w [] (fun v L => BadRp [] ∧ v = .tuple #[.agg ([U64 0, I64 0, I64 0, SL none 0 0, .bool false, U64 0, U64 0, I64 0, SL none 0 0, SL none 0 0, U64 0] ++ cu8 (zr8 16) ++ [SL none 0 0, SL none 0 0]).toArray, .iface 50 (I64 2)] ∧ L = [])) := by
 have hmx : maxLen = 9223372036854775807 := rfl
 have hk8 := vQ_lt1 [] 8
 have hk9 := vQ_lt1 [] 9
 refine enter w [] 109 [] [SL none 0 0] Tryd.func55 rfl rfl (by simp) (BW (by simp) (by simp) (by simp)) ?_
 show JC _ _ _ [(0, SL none 0 0)] _
 refine AH (AB (A4 (C0 _ ([U64 0, I64 0, I64 0, SL none 0 0, .bool false, U64 0, U64 0, I64 0, SL none 0 0, SL none 0 0, U64 0] ++ cu8 (zr8 16) ++ [SL none 0 0, SL none 0 0]) Tryd.zeroValue67 (by kernel_rfl)) rfl ?_))
 rintro v1 L1 ⟨nb1, hnb1, rfl, rfl⟩
 show JL _ _ _ _ ((2, Ptr nb1 0) :: _) [⟨nb1, [U64 0, I64 0, I64 0, SL none 0 0, .bool false, U64 0, U64 0, I64 0, SL none 0 0, SL none 0 0, U64 0] ++ cu8 (zr8 16) ++ [SL none 0 0, SL none 0 0], 67, (0, 0)⟩]
 refine AA _ (AE rfl) rfl ?_
 refine AI (AC (AH (AB (AA _ (AF rfl) rfl ?_))))
 refine A4 (CZ 59 [SL none 0 0] _ (AS _ Tryd.call59 rfl) (fun w1 hw1 => fromQN_w w1)) rfl ?_
 rintro v1 L1 ⟨_, ⟨nb2, rfl, rfl⟩, rfl⟩
 show JL _ _ _ _ ((17, Ptr nb2 0) :: _) [_, ⟨nb2, [errV 50 (eQ [] 0), SL none 0 0], 204, (0, 0)⟩]
 refine AA _ (AE rfl) rfl ?_
 refine AI (AC (AH (AB (AA _ (AF rfl) rfl ?_))))
 have hz1 : (([] : List UInt8)).length = 0 := rfl
 refine A4 (A8 109 _ [false, true] [nb2] _ (AS [Ptr nb2 0, I64 8] CV rfl) rfl (fun w1 hw1 => E1 nb2 0 8 none 0 0 [] ([] : List UInt8) w1 (hw1.ent _ (List.mem_of_getElem? (i := 1) rfl)) rfl (by omega) (by omega) (by omega) ((fun _ _ h => h) _ _ RdB.nil) (Lq.zero []) (by unfold Szd; omega))) rfl ?_
 rintro v1 L1 ⟨_, ⟨rfl, ao1, zz1, ca1, hq1, ⟨hA1, hb1, hb2, hb3⟩, rfl⟩, rfl⟩
 show JL _ _ _ _ ((19, U64 (vQ [] 0 8)) :: _) [_, ⟨nb2, [errV 50 (eQ [] 8), SL ao1 zz1.length ca1], 204, (0, 0)⟩]
 refine AA _ (AF rfl) rfl ?_
 have hz2 : (zz1).length = zz1.length := rfl
 refine A4 (A8 109 _ [false, true] [nb2] _ (AS [Ptr nb2 0, I64 1] CV rfl) rfl (fun w1 hw1 => E1 nb2 8 1 ao1 zz1.length ca1 [] zz1 w1 (hw1.ent _ (List.mem_of_getElem? (i := 1) rfl)) rfl (by omega) (by omega) (by omega) ((fun w M h => hA1 w M ((fun _ _ h => h) w M h)) _ _ RdB.nil) hq1 (by unfold Szd; omega))) rfl ?_
 rintro v1 L1 ⟨_, ⟨rfl, ao2, zz2, ca2, hq2, ⟨hA2, hb4, hb5, hb6⟩, rfl⟩, rfl⟩
 show JL _ _ _ _ ((21, U64 (vQ [] 8 1)) :: _) [_, ⟨nb2, [errV 50 (eQ [] 9), SL ao2 zz2.length ca2], 204, (0, 0)⟩]
 refine AA (I64 (((vQ [] 8 1).toNat:Int))) (CM _ _ rfl fun _ => ER (by rw [AW]; rfl) A6 (vQ [] 8 1) _ rfl (by omega)) rfl ?_
 refine AA _ (AF rfl) rfl ?_
 have hz3 : (zz2).length = zz2.length := rfl
 refine A4 (A8 109 _ [false, true] [nb2] _ (AS _ CV rfl) rfl (fun w1 hw1 => E1 nb2 9 1 ao2 zz2.length ca2 [] zz2 w1 (hw1.ent _ (List.mem_of_getElem? (i := 1) rfl)) rfl (by omega) (by omega) (by omega) ((fun w M h => hA2 w M ((fun w M h => hA1 w M ((fun _ _ h => h) w M h)) w M h)) _ _ RdB.nil) hq2 (by unfold Szd; omega))) rfl ?_
 rintro v1 L1 ⟨_, ⟨rfl, ao3, zz3, ca3, hq3, ⟨hA3, hb7, hb8, hb9⟩, rfl⟩, rfl⟩
 show JL _ _ _ _ ((24, U64 (vQ [] 9 1)) :: _) [_, ⟨nb2, [errV 50 (eQ [] 10), SL ao3 zz3.length ca3], 204, (0, 0)⟩]
 refine AA (I64 (((vQ [] 9 1).toNat:Int))) (CM _ _ rfl fun _ => ER (by rw [AW]; rfl) A6 (vQ [] 9 1) _ rfl (by omega)) rfl ?_
 refine AA (.agg ([U64 (vQ [] 0 8), I64 (((vQ [] 8 1).toNat:Int)), I64 (((vQ [] 9 1).toNat:Int)), SL none 0 0, .bool false, U64 0, U64 0, I64 0, SL none 0 0, SL none 0 0, U64 0] ++ cu8 (zr8 16) ++ [SL none 0 0, SL none 0 0]).toArray) (CP [(0, U64 (vQ [] 0 8)), (1, I64 (((vQ [] 8 1).toNat:Int))), (2, I64 (((vQ [] 9 1).toNat:Int)))] _ rfl (fun _ => (bld67_012 rfl rfl rfl ).trans (by first | rfl | simp only [List.append_assoc, List.cons_append, List.nil_append]))) rfl ?_
 refine A4 (C0 _ ([U64 0, I64 0, I64 0, SL none 0 0, .bool false, U64 0, U64 0, I64 0, SL none 0 0, SL none 0 0, U64 0] ++ cu8 (zr8 16) ++ [SL none 0 0, SL none 0 0]) Tryd.zeroValue67 (by kernel_rfl)) rfl ?_
 rintro v1 L1 ⟨nb3, hnb3, rfl, rfl⟩
 show JL _ _ _ _ ((5, Ptr nb3 0) :: _) [_, _, ⟨nb3, [U64 0, I64 0, I64 0, SL none 0 0, .bool false, U64 0, U64 0, I64 0, SL none 0 0, SL none 0 0, U64 0] ++ cu8 (zr8 16) ++ [SL none 0 0, SL none 0 0], 67, (0, 0)⟩]
 refine A7 (BQ 2 nb3 29 ([U64 0, I64 0, I64 0, SL none 0 0, .bool false, U64 0, U64 0, I64 0, SL none 0 0, SL none 0 0, U64 0] ++ cu8 (zr8 16) ++ [SL none 0 0, SL none 0 0]) 67 ([U64 (vQ [] 0 8), I64 (((vQ [] 8 1).toNat:Int)), I64 (((vQ [] 9 1).toNat:Int)), SL none 0 0, .bool false, U64 0, U64 0, I64 0, SL none 0 0, SL none 0 0, U64 0] ++ cu8 (zr8 16) ++ [SL none 0 0, SL none 0 0]) rfl rfl rfl BR (by simp [(AN 16)]) (BY (BY (by simp [Value.oneCell']) CT) (by simp [Value.oneCell'])) (by simp [(AN 16)]) (BT (by simp [(AN 16), (AN 16)]))) rfl ?_
 show JL _ _ _ _ _ [_, _, ⟨nb3, [U64 (vQ [] 0 8), I64 (((vQ [] 8 1).toNat:Int)), I64 (((vQ [] 9 1).toNat:Int)), SL none 0 0, .bool false, U64 0, U64 0, I64 0, SL none 0 0, SL none 0 0, U64 0] ++ cu8 (zr8 16) ++ [SL none 0 0, SL none 0 0], 67, (0, 0)⟩]
 refine AI (AC (AH (AB (AA (.agg ([U64 (vQ [] 0 8), I64 (((vQ [] 8 1).toNat:Int)), I64 (((vQ [] 9 1).toNat:Int)), SL none 0 0, .bool false, U64 0, U64 0, I64 0, SL none 0 0, SL none 0 0, U64 0] ++ cu8 (zr8 16) ++ [SL none 0 0, SL none 0 0]).toArray) (AO rfl (BU CC BR (by simp [(AN 16)]) (AU 2 rfl (AQ _)))) rfl ?_))))
 refine A7 (A2 95 [.agg ([U64 (vQ [] 0 8), I64 (((vQ [] 8 1).toNat:Int)), I64 (((vQ [] 9 1).toNat:Int)), SL none 0 0, .bool false, U64 0, U64 0, I64 0, SL none 0 0, SL none 0 0, U64 0] ++ cu8 (zr8 16) ++ [SL none 0 0, SL none 0 0]).toArray] (.tuple #[.bool (itB (((vQ [] 9 1).toNat:Int)) (((vQ [] 8 1).toNat:Int))), .bool (chB (((vQ [] 9 1).toNat:Int)) (((vQ [] 8 1).toNat:Int)) false), .bool (aB (((vQ [] 9 1).toNat:Int)) (((vQ [] 8 1).toNat:Int)) false), .bool (bB (((vQ [] 9 1).toNat:Int)) (((vQ [] 8 1).toNat:Int)) false)]) (AS _ Tryd.call95 rfl) (fun w1 hw1 => parts_c (vQ [] 0 8) (((vQ [] 8 1).toNat:Int)) (((vQ [] 9 1).toNat:Int)) none 0 0 ([] : List ItemR) false (0:UInt64) (0:UInt64) (0:Int) none 0 0 ([] : List UInt64) none 0 0 ([] : List SealR) (0:UInt64) (zr8 16) none 0 0 ([]) none 0 0 ([]) w1 (AN 16))) rfl ?_
 show JL _ _ _ _ ((29, .tuple #[.bool (itB (((vQ [] 9 1).toNat:Int)) (((vQ [] 8 1).toNat:Int))), .bool (chB (((vQ [] 9 1).toNat:Int)) (((vQ [] 8 1).toNat:Int)) false), .bool (aB (((vQ [] 9 1).toNat:Int)) (((vQ [] 8 1).toNat:Int)) false), .bool (bB (((vQ [] 9 1).toNat:Int)) (((vQ [] 8 1).toNat:Int)) false)]) :: _) [_, _, _]
 refine AA _ (AF rfl) rfl ?_
 refine AA _ (BE rfl rfl) rfl ?_
 refine AA _ (BE rfl rfl) rfl ?_
 refine AA _ (BE rfl rfl) rfl ?_
 refine AA _ (BE rfl rfl) rfl ?_
 refine AA _ (AE rfl) rfl ?_
 refine AA _ (AE rfl) rfl ?_
 refine AA _ (AE rfl) rfl ?_
 refine AA _ (AE rfl) rfl ?_
 refine AI (AC (AH (AH (AB (AA _ (AF rfl) rfl ?_)))))
 refine AI (AC (BP _ rfl (by decide +kernel) ?_))
 refine BF (AC (AH (AH (AB (AA (Ptr nb3 2) (AD 2 3 1 AM rfl AT rfl rfl) rfl ?_)))))
 refine AA (I64 (((vQ [] 9 1).toNat:Int))) (AO rfl (A0 AY (AU 2 rfl (AJ (AJ (AK (AK (Seg.head)))))))) rfl ?_
 refine AA (.bool (decide ((((vQ [] 9 1).toNat:Int)) = (0:Int)))) (AR rfl rfl fun _ => BK _ _) rfl ?_
 refine AA _ (AF rfl) rfl ?_
 refine AP 3 71 true _ (Ptr nb3 1) rfl rfl (by decide +kernel) (AD 1 3 1 AM rfl AT rfl rfl) rfl ?_
 refine AP 3 71 true _ (I64 (((vQ [] 8 1).toNat:Int))) rfl rfl (by decide +kernel) (AO rfl (A0 AY (AU 2 rfl (AJ (AJ (AK (Seg.head))))))) rfl ?_
 refine AP 3 71 true _ (.bool (decide ((((vQ [] 8 1).toNat:Int)) = (4:Int)))) rfl rfl (by decide +kernel) (AR rfl rfl fun _ => BK _ _) rfl ?_
 refine AA _ (BD _ rfl (by decide +kernel) rfl) rfl ?_
 refine AI (AC (BP _ rfl (by decide +kernel) ?_))
 refine BF (AC (AH (AB (AA (.agg ([U64 (vQ [] 0 8), I64 (((vQ [] 8 1).toNat:Int)), I64 (((vQ [] 9 1).toNat:Int)), SL none 0 0, .bool false, U64 0, U64 0, I64 0, SL none 0 0, SL none 0 0, U64 0] ++ cu8 (zr8 16) ++ [SL none 0 0, SL none 0 0]).toArray) (AO rfl (BU CC BR (by simp [(AN 16)]) (AU 2 rfl (AQ _)))) rfl ?_))))
 refine A7 (A2 95 [.agg ([U64 (vQ [] 0 8), I64 (((vQ [] 8 1).toNat:Int)), I64 (((vQ [] 9 1).toNat:Int)), SL none 0 0, .bool false, U64 0, U64 0, I64 0, SL none 0 0, SL none 0 0, U64 0] ++ cu8 (zr8 16) ++ [SL none 0 0, SL none 0 0]).toArray] (.tuple #[.bool (itB (((vQ [] 9 1).toNat:Int)) (((vQ [] 8 1).toNat:Int))), .bool (chB (((vQ [] 9 1).toNat:Int)) (((vQ [] 8 1).toNat:Int)) false), .bool (aB (((vQ [] 9 1).toNat:Int)) (((vQ [] 8 1).toNat:Int)) false), .bool (bB (((vQ [] 9 1).toNat:Int)) (((vQ [] 8 1).toNat:Int)) false)]) (AS _ Tryd.call95 rfl) (fun w1 hw1 => parts_c (vQ [] 0 8) (((vQ [] 8 1).toNat:Int)) (((vQ [] 9 1).toNat:Int)) none 0 0 ([] : List ItemR) false (0:UInt64) (0:UInt64) (0:Int) none 0 0 ([] : List UInt64) none 0 0 ([] : List SealR) (0:UInt64) (zr8 16) none 0 0 ([]) none 0 0 ([]) w1 (AN 16))) rfl ?_
 show JL _ _ _ _ ((81, .tuple #[.bool (itB (((vQ [] 9 1).toNat:Int)) (((vQ [] 8 1).toNat:Int))), .bool (chB (((vQ [] 9 1).toNat:Int)) (((vQ [] 8 1).toNat:Int)) false), .bool (aB (((vQ [] 9 1).toNat:Int)) (((vQ [] 8 1).toNat:Int)) false), .bool (bB (((vQ [] 9 1).toNat:Int)) (((vQ [] 8 1).toNat:Int)) false)]) :: _) [_, _, _]
 refine AA _ (AF rfl) rfl ?_
 refine AA _ (BE rfl rfl) rfl ?_
 refine AA _ (BE rfl rfl) rfl ?_
 refine AA _ (BE rfl rfl) rfl ?_
 refine AA _ (BE rfl rfl) rfl ?_
 refine AA _ (AE rfl) rfl ?_
 refine AA _ (AE rfl) rfl ?_
 refine AA _ (AE rfl) rfl ?_
 refine AA _ (AE rfl) rfl ?_
 refine AI (AC (AH (AH (AB (AA _ (AF rfl) rfl ?_)))))
 refine AI (AC (BP _ rfl (by decide +kernel) ?_))
 refine BF (AC (AH (AH (AB (AA _ (AF rfl) rfl ?_)))))
 refine AI (AC (BP _ rfl (by decide +kernel) ?_))
 refine BF (AC (AH (AH (AB (AA _ (AF rfl) rfl ?_)))))
 refine AI (AC (BP _ rfl (by decide +kernel) ?_))
 refine BF (AC (AH (AH (AB (AA _ (AF rfl) rfl ?_)))))
 refine A7 (A2 63 [Ptr nb2 0] (errV 50 (endN (eQ [] 10) zz3.length)) (AS _ DZ rfl) (fun w1 hw1 => end_w nb2 (eQ [] 10) ao3 zz3.length ca3 w1 (RdA.of hw1 (AU 1 rfl (AQ _)) (by simp)))) rfl ?_
 show JL _ _ _ _ ((99, errV 50 (endN (eQ [] 10) zz3.length)) :: _) [_, _, _]
 refine AA (.bool (!(decide (endN (eQ [] 10) zz3.length = 0)))) (C7 _ _ _ rfl rfl (fun _ => B6 ..) fun _ => DJ BB _ _) rfl ?_
 refine AA _ (AF rfl) rfl ?_
 refine AG 3 101 false _ rfl rfl (bnotF (decide_eq_false (by rw [EU (by decide), endN, if_neg (by decide)]; decide))) rfl ?_
 refine AG 3 101 false _ rfl rfl (bnotF (decide_eq_false (by rw [EU (by decide), endN, if_neg (by decide)]; decide))) rfl ?_
 refine AG 3 101 false _ rfl rfl (bnotF (decide_eq_false (by rw [EU (by decide), endN, if_neg (by decide)]; decide))) rfl ?_
 refine AA _ (BD _ rfl (bnotF (decide_eq_false (by rw [EU (by decide), endN, if_neg (by decide)]; decide))) rfl) rfl ?_
 refine AI (AC (B3 _ rfl rfl ?_))
 refine AH (AB (AA (.agg ([U64 0, I64 0, I64 0, SL none 0 0, .bool false, U64 0, U64 0, I64 0, SL none 0 0, SL none 0 0, U64 0] ++ cu8 (zr8 16) ++ [SL none 0 0, SL none 0 0]).toArray) (CP [] _ rfl (fun _ => by kernel_rfl)) rfl ?_))
 refine AA (.iface 50 (I64 2)) (C9 BM rfl rfl) rfl ?_
 refine A7 (BQ 0 nb1 29 ([U64 0, I64 0, I64 0, SL none 0 0, .bool false, U64 0, U64 0, I64 0, SL none 0 0, SL none 0 0, U64 0] ++ cu8 (zr8 16) ++ [SL none 0 0, SL none 0 0]) 67 ([U64 0, I64 0, I64 0, SL none 0 0, .bool false, U64 0, U64 0, I64 0, SL none 0 0, SL none 0 0, U64 0] ++ cu8 (zr8 16) ++ [SL none 0 0, SL none 0 0]) rfl rfl rfl BR (by simp [(AN 16)]) (BY (BY (by simp [Value.oneCell']) CT) (by simp [Value.oneCell'])) (by simp [(AN 16)]) (BT (by simp [(AN 16), (AN 16)]))) rfl ?_
 show JL _ _ _ _ _ [⟨nb1, [U64 0, I64 0, I64 0, SL none 0 0, .bool false, U64 0, U64 0, I64 0, SL none 0 0, SL none 0 0, U64 0] ++ cu8 (zr8 16) ++ [SL none 0 0, SL none 0 0], 67, (0, 0)⟩, _, _]
 refine AA _ (AE rfl) rfl ?_
 refine AI (AC (BI (A1 (BH (.tuple #[.agg ([U64 0, I64 0, I64 0, SL none 0 0, .bool false, U64 0, U64 0, I64 0, SL none 0 0, SL none 0 0, U64 0] ++ cu8 (zr8 16) ++ [SL none 0 0, SL none 0 0]).toArray, .iface 50 (I64 2)]) (res2 EE (DM rfl (BU CC BR (by simp [(AN 16)]) (AU 0 rfl (AQ _)))) (BC rfl)) fun w1 hw1 => ?_))))
 exact ⟨_, [], rfl, ⟨(BadRp.short (by decide)), rfl, rfl⟩, hw1.sub (by simp) (by simp)⟩
attribute [local irreducible] GRq GRp
theorem parqA_c (ax : Option Addr) (n c : Nat) (z0 : List UInt8) (w : World) (hA : ax = none → c = 0) (hz : z0.length = n) (hn : n ≤ 30000) (hc : n ≤ c) (hcm : c ≤ maxLen) (hr : RdB w [] ax z0) : Calls Tryd.prog 53 #[SL ax n c] w (Post w [] (fun v L => (∃ sq qk niq lq fs mn pv ep kd ni l ns ls bl tg eq g0 cs0 T0 a0 c0 g1 cs1 T1 a1 c1 g2 cs2 T2 a2 c2, GRq z0 sq qk lq fs mn pv ep kd l ls bl tg eq ∧ lq.length = niq ∧ l.length = ni ∧ ls.length = ns ∧ tg.length = 16 ∧ niq ≤ 256 ∧ ni ≤ 256 ∧ ns ≤ 256 ∧ v = .tuple #[.agg ([U64 sq, I64 qk, SL a0 niq c0, U64 fs, I64 mn, U64 pv, U64 ep, I64 kd, SL a1 ni c1, SL a2 ns c2, U64 bl] ++ cu8 tg ++ [U64 eq]).toArray, .nilIface] ∧ L = [⟨g0, cs0, T0, (0, 0)⟩, ⟨g1, cs1, T1, (0, 0)⟩, ⟨g2, cs2, T2, (0, 0)⟩] ∧ Gh (cu64 lq) g0 cs0 a0 ∧ niq ≤ c0 ∧ c0 ≤ maxLen ∧ Gh (cu64 l) g1 cs1 a1 ∧ ni ≤ c1 ∧ c1 ≤ maxLen ∧ Gh (ls.flatMap sealC) g2 cs2 a2 ∧ ns ≤ c2 ∧ c2 ≤ maxLen) ∨ (BadRq z0 ∧ v = .tuple #[.agg ([U64 0, I64 0, SL none 0 0, U64 0, I64 0, U64 0, U64 0, I64 0, SL none 0 0, SL none 0 0, U64 0] ++ cu8 (zr8 16) ++ [U64 0]).toArray, .iface 50 (I64 2)] ∧ L = []))) := by
  by_cases ha : ax = none
  · subst ha
    obtain rfl : c = 0 := hA rfl
    obtain rfl : n = 0 := by omega
    obtain rfl : z0 = [] := List.eq_nil_of_length_eq_zero hz
    refine (parqN_c w).mono ?_
    rintro E W ⟨v, L, hv, h, hw⟩
    exact ⟨v, L, hv, .inr h, hw⟩
  · exact parq_c ax n c z0 w (by cases ax with
      | none => exact absurd rfl ha
      | some x => rfl) hz (by omega) hc hcm hr
theorem parpA_c (ax : Option Addr) (n c : Nat) (z0 : List UInt8) (w : World) (hA : ax = none → c = 0) (hz : z0.length = n) (hn : n ≤ 30000) (hc : n ≤ c) (hcm : c ≤ maxLen) (hr : RdB w [] ax z0) : Calls Tryd.prog 55 #[SL ax n c] w (Post w [] (fun v L => (∃ rq rk er nj lj th pv ep kd ni l ns ls bl tg na xa nb xb g0 cs0 T0 a0 c0 g1 cs1 T1 a1 c1 g2 cs2 T2 a2 c2 g3 cs3 T3 a3 c3 g4 cs4 T4 a4 c4, GRp z0 rq rk er lj th pv ep kd l ls bl tg na xa nb xb ∧ lj.length = nj ∧ l.length = ni ∧ ls.length = ns ∧ tg.length = 16 ∧ nj ≤ 256 ∧ ni ≤ 256 ∧ ns ≤ 256 ∧ xa.length = na*32 ∧ xb.length = nb*32 ∧ v = .tuple #[.agg ([U64 rq, I64 rk, I64 er, SL a0 nj c0, .bool th, U64 pv, U64 ep, I64 kd, SL a1 ni c1, SL a2 ns c2, U64 bl] ++ cu8 tg ++ [SL a3 na c3, SL a4 nb c4]).toArray, .nilIface] ∧ L = [⟨g0, cs0, T0, (0, 0)⟩, ⟨g1, cs1, T1, (0, 0)⟩, ⟨g2, cs2, T2, (0, 0)⟩, ⟨g3, cs3, T3, (0, 0)⟩, ⟨g4, cs4, T4, (0, 0)⟩] ∧ Gh (lj.flatMap itemC) g0 cs0 a0 ∧ nj ≤ c0 ∧ c0 ≤ maxLen ∧ Gh (cu64 l) g1 cs1 a1 ∧ ni ≤ c1 ∧ c1 ≤ maxLen ∧ Gh (ls.flatMap sealC) g2 cs2 a2 ∧ ns ≤ c2 ∧ c2 ≤ maxLen ∧ Gh (cu8 xa) g3 cs3 a3 ∧ na ≤ c3 ∧ c3 ≤ maxLen ∧ Gh (cu8 xb) g4 cs4 a4 ∧ nb ≤ c4 ∧ c4 ≤ maxLen) ∨ (BadRp z0 ∧ v = .tuple #[.agg ([U64 0, I64 0, I64 0, SL none 0 0, .bool false, U64 0, U64 0, I64 0, SL none 0 0, SL none 0 0, U64 0] ++ cu8 (zr8 16) ++ [SL none 0 0, SL none 0 0]).toArray, .iface 50 (I64 2)] ∧ L = []))) := by
  by_cases ha : ax = none
  · subst ha
    obtain rfl : c = 0 := hA rfl
    obtain rfl : n = 0 := by omega
    obtain rfl : z0 = [] := List.eq_nil_of_length_eq_zero hz
    refine (parpN_c w).mono ?_
    rintro E W ⟨v, L, hv, h, hw⟩
    exact ⟨v, L, hv, .inr h, hw⟩
  · exact parp_c ax n c z0 w (by cases ax with
      | none => exact absurd rfl ha
      | some x => rfl) hz (by omega) hc hcm hr
set_option maxHeartbeats 2000000 in
theorem wwords_c (ax : Option Addr) (n c : Nat) (z0 : List UInt8) (kd : Int)  (w : World) (hA : ax = none → c = 0) (hz : z0.length = n) (hn : n ≤ 30000) (hc : n ≤ c) (hcm : c ≤ maxLen) (hr : RdB w [] ax z0) (hW : GLw w)  : Calls Tryd.prog 14 #[SL ax n c, I64 (kd)] w (Post w [] (fun v L => v = .bool true ∧ L = [])) := by
 have hmx : maxLen = 9223372036854775807 := rfl
 refine enter w [] 74 [] [SL ax n c, I64 (kd)] Tryd.func14 rfl rfl (by simp) (BW (by simp) (by simp) (by simp)) ?_
 show JC _ _ _ [(0, SL ax n c), (1, I64 (kd))] _
 refine AH (AB (AA _ (AE rfl) rfl ?_))
 refine AI (AC (AH (AH (AB (A4 (A2 17 [] (.bool true) (AS _ Tryd.call17 rfl) (fun w1 hw1 => alive14_c  w1 (GLw.at hw1 hW))) rfl ?_)))))
 rintro v1 L1 ⟨rfl, rfl⟩
 show JL _ _ _ _ ((14, .bool true) :: _) []
 refine AA (.bool (!true)) (DG rfl) rfl ?_
 refine AI (AC (BP _ rfl rfl ?_))
 refine BF (AC (AH (AH (AB (AA _ (AF rfl) rfl ?_)))))
 refine AA (I64 n) (DY BA rfl) rfl ?_
 refine AA (.bool (decide ((30000:Int) < ((n:Int))))) (AR rfl rfl fun _ => DD _ _) rfl ?_
 refine AI (AC (BP _ rfl (decide_eq_false (by omega)) ?_))
 refine BF (AC (AH (FK (ι := Unit) (fun _ => [(0, SL ax n c), (1, I64 (kd))]) (fun _ => []) (fun _ => True) ?_ ?_)))
 ·
  refine AH (AB (AA _ (AF rfl) rfl ?_))
  have hz1 : (z0).length = n := hz
  refine A4 (CZ 53 [SL ax n c] _ (AS _ Tryd.call53 rfl) (fun w1 hw1 => parqA_c ax n c z0 w1 hA hz (by omega) (by omega) (by omega) (hr.at (M' := []) hw1 (by simp)))) rfl ?_
  rintro v1 L1 ⟨_, (⟨pf1, pf2, pf3, pf4, pf5, pf6, pf7, pf8, pf9, pf10, pf11, pf12, pf13, pf14, pf15, pf16, ng1, cs1, nT1, na1, nc1, ng2, cs2, nT2, na2, nc2, ng3, cs3, nT3, na3, nc3, hG1, hc1, hc2, hc3, hc4, hc5, hc6, hc7, rfl, rfl, hc8, hc9, hc10, hc11, hc12, hc13, hc14, hc15, hc16⟩ | ⟨hB1, rfl, rfl⟩), rfl⟩
  ·
   show JL _ _ _ _ ((21, .tuple #[.agg ([U64 pf1, I64 (pf2), SL na1 pf3 nc1, U64 pf5, I64 (pf6), U64 pf7, U64 pf8, I64 (pf9), SL na2 pf10 nc2, SL na3 pf12 nc3, U64 pf14] ++ cu8 pf15 ++ [U64 pf16]).toArray, .nilIface]) :: _) [⟨ng1, cs1, nT1, (0, 0)⟩, ⟨ng2, cs2, nT2, (0, 0)⟩, ⟨ng3, cs3, nT3, (0, 0)⟩]
   refine AA _ (AF rfl) rfl ?_
   refine AA _ (BE rfl rfl) rfl ?_
   refine AA _ (BE rfl rfl) rfl ?_
   refine A4 (C0 _ ([U64 0, I64 0, SL none 0 0, U64 0, I64 0, U64 0, U64 0, I64 0, SL none 0 0, SL none 0 0, U64 0] ++ cu8 (zr8 16) ++ [U64 0]) Tryd.zeroValue31 (by kernel_rfl)) rfl ?_
   rintro v1 L1 ⟨nb1, hnb1, rfl, rfl⟩
   show JL _ _ _ _ ((5, Ptr nb1 0) :: _) [_, _, _, ⟨nb1, [U64 0, I64 0, SL none 0 0, U64 0, I64 0, U64 0, U64 0, I64 0, SL none 0 0, SL none 0 0, U64 0] ++ cu8 (zr8 16) ++ [U64 0], 31, (0, 0)⟩]
   refine A7 (BQ 3 nb1 28 ([U64 0, I64 0, SL none 0 0, U64 0, I64 0, U64 0, U64 0, I64 0, SL none 0 0, SL none 0 0, U64 0] ++ cu8 (zr8 16) ++ [U64 0]) 31 ([U64 pf1, I64 (pf2), SL na1 pf3 nc1, U64 pf5, I64 (pf6), U64 pf7, U64 pf8, I64 (pf9), SL na2 pf10 nc2, SL na3 pf12 nc3, U64 pf14] ++ cu8 pf15 ++ [U64 pf16]) rfl rfl rfl BV (by simp [hc4]) (BY (BY (by simp [Value.oneCell']) CT) (by simp [Value.oneCell'])) (by simp [(AN 16)]) (BT (by simp [(AN 16), hc4]))) rfl ?_
   show JL _ _ _ _ _ [_, _, _, ⟨nb1, [U64 pf1, I64 (pf2), SL na1 pf3 nc1, U64 pf5, I64 (pf6), U64 pf7, U64 pf8, I64 (pf9), SL na2 pf10 nc2, SL na3 pf12 nc3, U64 pf14] ++ cu8 pf15 ++ [U64 pf16], 31, (0, 0)⟩]
   refine AA _ (AE rfl) rfl ?_
   refine AI (AC (AH (AB (AA _ (AF rfl) rfl ?_))))
   refine AA (.bool true) (C7 _ _ _ rfl rfl (fun _ => FB ..) fun _ => FG BB) rfl ?_
   refine AI (AC (B3 _ rfl rfl ?_))
   refine AH (AB (AA (.agg ([U64 pf1, I64 (pf2), SL na1 pf3 nc1, U64 pf5, I64 (pf6), U64 pf7, U64 pf8, I64 (pf9), SL na2 pf10 nc2, SL na3 pf12 nc3, U64 pf14] ++ cu8 pf15 ++ [U64 pf16]).toArray) (AO rfl (BU CY BV (by simp [hc4]) (AU 3 rfl (AQ _)))) rfl ?_))
   refine A4 (CZ 21 [.agg ([U64 pf1, I64 (pf2), SL na1 pf3 nc1, U64 pf5, I64 (pf6), U64 pf7, U64 pf8, I64 (pf9), SL na2 pf10 nc2, SL na3 pf12 nc3, U64 pf14] ++ cu8 pf15 ++ [U64 pf16]).toArray] _ (AS _ Tryd.call21 rfl) (fun w1 hw1 => putReqG_w pf1 (pf2) na1 pf3 nc1 pf4 pf5 (pf6) pf7 pf8 (pf9) na2 pf10 nc2 pf11 na3 pf12 nc3 pf13 pf14 pf15 pf16 z0 w1 hc1 (by omega) (by omega) (by omega) (Gh.at hw1 0 rfl hc8) hc2 (by omega) (by omega) (by omega) (Gh.at hw1 1 rfl hc11) hc3 (by omega) (by omega) (by omega) (Gh.at hw1 2 rfl hc14) hc4 (by omega) (by omega) hG1)) rfl ?_
   rintro v1 L1 ⟨_, ⟨nb2, sp1, cp1, rfl, rfl, hc17, hc18, hc19⟩, rfl⟩
   show JL _ _ _ _ ((28, .tuple #[Slc nb2 0 z0.length cp1, .nilIface]) :: _) [_, _, _, _, ⟨nb2, cu8 z0 ++ sp1, 5, (0, 0)⟩]
   refine AA _ (AF rfl) rfl ?_
   refine AA _ (BE rfl rfl) rfl ?_
   refine AA _ (BE rfl rfl) rfl ?_
   refine AA _ (AE rfl) rfl ?_
   refine AA _ (AE rfl) rfl ?_
   refine AI (AC (AH (AB (AA _ (AF rfl) rfl ?_))))
   refine AA (.bool false) (C7 _ _ _ rfl rfl (fun _ => FB ..) fun _ => E3 BB) rfl ?_
   refine AA _ (AF rfl) rfl ?_
   refine AP 2 33 false _ _ rfl rfl rfl (AF rfl) rfl ?_
   refine AP 2 33 false _ _ rfl rfl rfl (AF rfl) rfl ?_
   refine DL 2 33 false _ rfl rfl rfl (A2 24 [SL ax n c, Slc nb2 0 z0.length cp1] (.bool (decide (z0 = z0))) (AS _ Tryd.call24 rfl) (fun w1 hw1 => bytes_c ax (some ⟨nb2, 0, none⟩) n z0.length c cp1 z0 z0 w1 hz rfl (hr.at (M' := []) hw1 (by simp)) (RdB.of hw1 (AU 4 rfl (AJ (AQ _))) (by simp)))) rfl ?_
   rintro v1 L1 ⟨rfl, rfl⟩
   show JL _ _ _ _ ((36, .bool (decide (z0 = z0))) :: _) [_, _, _, _, _]
   refine AP 2 33 false _ (.bool (!(decide (z0 = z0)))) rfl rfl rfl (DG rfl) rfl ?_
   refine AA _ (A3 _ rfl rfl rfl) rfl ?_
   refine AI (AC (BP _ rfl (bnotT (decide_eq_true rfl)) ?_))
   refine BF (EX [] (by decide) ?_)
   show JQ _ _ _ _ []
   refine DT (()) trivial (Sub.all rfl) rfl
  ·
   show JL _ _ _ _ ((21, .tuple #[.agg ([U64 0, I64 0, SL none 0 0, U64 0, I64 0, U64 0, U64 0, I64 0, SL none 0 0, SL none 0 0, U64 0] ++ cu8 (zr8 16) ++ [U64 0]).toArray, .iface 50 (I64 2)]) :: _) []
   refine AA _ (AF rfl) rfl ?_
   refine AA _ (BE rfl rfl) rfl ?_
   refine AA _ (BE rfl rfl) rfl ?_
   refine A4 (C0 _ ([U64 0, I64 0, SL none 0 0, U64 0, I64 0, U64 0, U64 0, I64 0, SL none 0 0, SL none 0 0, U64 0] ++ cu8 (zr8 16) ++ [U64 0]) Tryd.zeroValue31 (by kernel_rfl)) rfl ?_
   rintro v1 L1 ⟨nb3, hnb3, rfl, rfl⟩
   show JL _ _ _ _ ((5, Ptr nb3 0) :: _) [⟨nb3, [U64 0, I64 0, SL none 0 0, U64 0, I64 0, U64 0, U64 0, I64 0, SL none 0 0, SL none 0 0, U64 0] ++ cu8 (zr8 16) ++ [U64 0], 31, (0, 0)⟩]
   refine A7 (BQ 0 nb3 28 ([U64 0, I64 0, SL none 0 0, U64 0, I64 0, U64 0, U64 0, I64 0, SL none 0 0, SL none 0 0, U64 0] ++ cu8 (zr8 16) ++ [U64 0]) 31 ([U64 0, I64 0, SL none 0 0, U64 0, I64 0, U64 0, U64 0, I64 0, SL none 0 0, SL none 0 0, U64 0] ++ cu8 (zr8 16) ++ [U64 0]) rfl rfl rfl BV (by simp [(AN 16)]) (BY (BY (by simp [Value.oneCell']) CT) (by simp [Value.oneCell'])) (by simp [(AN 16)]) (BT (by simp [(AN 16), (AN 16)]))) rfl ?_
   show JL _ _ _ _ _ [⟨nb3, [U64 0, I64 0, SL none 0 0, U64 0, I64 0, U64 0, U64 0, I64 0, SL none 0 0, SL none 0 0, U64 0] ++ cu8 (zr8 16) ++ [U64 0], 31, (0, 0)⟩]
   refine AA _ (AE rfl) rfl ?_
   refine AI (AC (AH (AB (AA _ (AF rfl) rfl ?_))))
   refine AA (.bool false) (C7 _ _ _ rfl rfl (fun _ => eqGuard_if ..) fun _ => eql_if_nil BB) rfl ?_
   refine AI (AC (BP _ rfl rfl ?_))
   refine BF (EX [] (by decide) ?_)
   show JQ _ _ _ _ []
   refine DT (()) trivial (Sub.all rfl) rfl
 ·
  rintro _ hx
  obtain _ := hx
  show JQ _ _ _ [(0, SL ax n c), (1, I64 (kd))] []
  refine AC (AH (FK (ι := Unit) (fun _ => [(1, I64 (kd))]) (fun _ => []) (fun _ => True) ?_ ?_))
  ·
   refine AH (AB (AA _ (AF rfl) rfl ?_))
   have hz2 : (z0).length = n := hz
   refine A4 (CZ 55 [SL ax n c] _ (AS _ Tryd.call55 rfl) (fun w1 hw1 => parpA_c ax n c z0 w1 hA hz (by omega) (by omega) (by omega) (hr.at (M' := []) hw1 (by simp)))) rfl ?_
   rintro v1 L1 ⟨_, (⟨pf17, pf18, pf19, pf20, pf21, pf22, pf23, pf24, pf25, pf26, pf27, pf28, pf29, pf30, pf31, pf32, pf33, pf34, pf35, ng4, cs4, nT4, na4, nc4, ng5, cs5, nT5, na5, nc5, ng6, cs6, nT6, na6, nc6, ng7, cs7, nT7, na7, nc7, ng8, cs8, nT8, na8, nc8, hG2, hc20, hc21, hc22, hc23, hc24, hc25, hc26, hc27, hc28, rfl, rfl, hc29, hc30, hc31, hc32, hc33, hc34, hc35, hc36, hc37, hc38, hc39, hc40, hc41, hc42, hc43⟩ | ⟨hB2, rfl, rfl⟩), rfl⟩
   ·
    show JL _ _ _ _ ((41, .tuple #[.agg ([U64 pf17, I64 (pf18), I64 (pf19), SL na4 pf20 nc4, .bool pf22, U64 pf23, U64 pf24, I64 (pf25), SL na5 pf26 nc5, SL na6 pf28 nc6, U64 pf30] ++ cu8 pf31 ++ [SL na7 pf32 nc7, SL na8 pf34 nc8]).toArray, .nilIface]) :: _) [⟨ng4, cs4, nT4, (0, 0)⟩, ⟨ng5, cs5, nT5, (0, 0)⟩, ⟨ng6, cs6, nT6, (0, 0)⟩, ⟨ng7, cs7, nT7, (0, 0)⟩, ⟨ng8, cs8, nT8, (0, 0)⟩]
    refine AA _ (AF rfl) rfl ?_
    refine AA _ (BE rfl rfl) rfl ?_
    refine AA _ (BE rfl rfl) rfl ?_
    refine A4 (C0 _ ([U64 0, I64 0, I64 0, SL none 0 0, .bool false, U64 0, U64 0, I64 0, SL none 0 0, SL none 0 0, U64 0] ++ cu8 (zr8 16) ++ [SL none 0 0, SL none 0 0]) Tryd.zeroValue67 (by kernel_rfl)) rfl ?_
    rintro v1 L1 ⟨nb4, hnb4, rfl, rfl⟩
    show JL _ _ _ _ ((9, Ptr nb4 0) :: _) [_, _, _, _, _, ⟨nb4, [U64 0, I64 0, I64 0, SL none 0 0, .bool false, U64 0, U64 0, I64 0, SL none 0 0, SL none 0 0, U64 0] ++ cu8 (zr8 16) ++ [SL none 0 0, SL none 0 0], 67, (0, 0)⟩]
    refine A7 (BQ 5 nb4 29 ([U64 0, I64 0, I64 0, SL none 0 0, .bool false, U64 0, U64 0, I64 0, SL none 0 0, SL none 0 0, U64 0] ++ cu8 (zr8 16) ++ [SL none 0 0, SL none 0 0]) 67 ([U64 pf17, I64 (pf18), I64 (pf19), SL na4 pf20 nc4, .bool pf22, U64 pf23, U64 pf24, I64 (pf25), SL na5 pf26 nc5, SL na6 pf28 nc6, U64 pf30] ++ cu8 pf31 ++ [SL na7 pf32 nc7, SL na8 pf34 nc8]) rfl rfl rfl BR (by simp [hc23]) (BY (BY (by simp [Value.oneCell']) CT) (by simp [Value.oneCell'])) (by simp [(AN 16)]) (BT (by simp [(AN 16), hc23]))) rfl ?_
    show JL _ _ _ _ _ [_, _, _, _, _, ⟨nb4, [U64 pf17, I64 (pf18), I64 (pf19), SL na4 pf20 nc4, .bool pf22, U64 pf23, U64 pf24, I64 (pf25), SL na5 pf26 nc5, SL na6 pf28 nc6, U64 pf30] ++ cu8 pf31 ++ [SL na7 pf32 nc7, SL na8 pf34 nc8], 67, (0, 0)⟩]
    refine AA _ (AE rfl) rfl ?_
    refine AI (AC (AH (AB (AA _ (AF rfl) rfl ?_))))
    refine AA (.bool true) (C7 _ _ _ rfl rfl (fun _ => FB ..) fun _ => FG BB) rfl ?_
    refine AI (AC (B3 _ rfl rfl ?_))
    refine AH (AB (AA (.agg ([U64 pf17, I64 (pf18), I64 (pf19), SL na4 pf20 nc4, .bool pf22, U64 pf23, U64 pf24, I64 (pf25), SL na5 pf26 nc5, SL na6 pf28 nc6, U64 pf30] ++ cu8 pf31 ++ [SL na7 pf32 nc7, SL na8 pf34 nc8]).toArray) (AO rfl (BU CC BR (by simp [hc23]) (AU 5 rfl (AQ _)))) rfl ?_))
    obtain ⟨hc44, hc45⟩ := repR_4 (GRp.right hG2)
    refine A4 (CZ 34 [.agg ([U64 pf17, I64 (pf18), I64 (pf19), SL na4 pf20 nc4, .bool pf22, U64 pf23, U64 pf24, I64 (pf25), SL na5 pf26 nc5, SL na6 pf28 nc6, U64 pf30] ++ cu8 pf31 ++ [SL na7 pf32 nc7, SL na8 pf34 nc8]).toArray] _ (AS _ Tryd.call34 rfl) (fun w1 hw1 => putRepG_w pf17 (pf18) (pf19) na4 pf20 nc4 pf21 pf22 pf23 pf24 (pf25) na5 pf26 nc5 pf27 na6 pf28 nc6 pf29 pf30 pf31 na7 pf32 nc7 pf33 na8 pf34 nc8 pf35 z0 w1 hc20 (by omega) (by omega) (by omega) (Gh.at hw1 0 rfl hc29) hc21 (by omega) (by omega) (by omega) (Gh.at hw1 1 rfl hc32) hc22 (by omega) (by omega) (by omega) (Gh.at hw1 2 rfl hc35) hc23 hc27 (by omega) (by omega) (by omega) (Gh.rdB hw1 3 rfl hc38) hc28 (by omega) (by omega) (by omega) (Gh.rdB hw1 4 rfl hc41) (by omega) (by omega) hG2)) rfl ?_
    rintro v1 L1 ⟨_, ⟨nb5, sp2, cp2, rfl, rfl, hc46, hc47, hc48⟩, rfl⟩
    show JL _ _ _ _ ((48, .tuple #[Slc nb5 0 z0.length cp2, .nilIface]) :: _) [_, _, _, _, _, _, ⟨nb5, cu8 z0 ++ sp2, 5, (0, 0)⟩]
    refine AA _ (AF rfl) rfl ?_
    refine AA _ (BE rfl rfl) rfl ?_
    refine AA _ (BE rfl rfl) rfl ?_
    refine AA _ (AE rfl) rfl ?_
    refine AA _ (AE rfl) rfl ?_
    refine AI (AC (AH (AB (AA _ (AF rfl) rfl ?_))))
    refine AA (.bool false) (C7 _ _ _ rfl rfl (fun _ => FB ..) fun _ => E3 BB) rfl ?_
    refine AA _ (AF rfl) rfl ?_
    refine AP 2 53 false _ _ rfl rfl rfl (AF rfl) rfl ?_
    refine AP 2 53 false _ _ rfl rfl rfl (AF rfl) rfl ?_
    refine DL 2 53 false _ rfl rfl rfl (A2 24 [SL ax n c, Slc nb5 0 z0.length cp2] (.bool (decide (z0 = z0))) (AS _ Tryd.call24 rfl) (fun w1 hw1 => bytes_c ax (some ⟨nb5, 0, none⟩) n z0.length c cp2 z0 z0 w1 hz rfl (hr.at (M' := []) hw1 (by simp)) (RdB.of hw1 (AU 6 rfl (AJ (AQ _))) (by simp)))) rfl ?_
    rintro v1 L1 ⟨rfl, rfl⟩
    show JL _ _ _ _ ((56, .bool (decide (z0 = z0))) :: _) [_, _, _, _, _, _, _]
    refine AP 2 53 false _ (.bool (!(decide (z0 = z0)))) rfl rfl rfl (DG rfl) rfl ?_
    refine AA _ (A3 _ rfl rfl rfl) rfl ?_
    refine AI (AC (BP _ rfl (bnotT (decide_eq_true rfl)) ?_))
    refine BF (EX [] (by decide) ?_)
    show JQ _ _ _ _ []
    refine DT (()) trivial (Sub.all rfl) rfl
   ·
    show JL _ _ _ _ ((41, .tuple #[.agg ([U64 0, I64 0, I64 0, SL none 0 0, .bool false, U64 0, U64 0, I64 0, SL none 0 0, SL none 0 0, U64 0] ++ cu8 (zr8 16) ++ [SL none 0 0, SL none 0 0]).toArray, .iface 50 (I64 2)]) :: _) []
    refine AA _ (AF rfl) rfl ?_
    refine AA _ (BE rfl rfl) rfl ?_
    refine AA _ (BE rfl rfl) rfl ?_
    refine A4 (C0 _ ([U64 0, I64 0, I64 0, SL none 0 0, .bool false, U64 0, U64 0, I64 0, SL none 0 0, SL none 0 0, U64 0] ++ cu8 (zr8 16) ++ [SL none 0 0, SL none 0 0]) Tryd.zeroValue67 (by kernel_rfl)) rfl ?_
    rintro v1 L1 ⟨nb6, hnb6, rfl, rfl⟩
    show JL _ _ _ _ ((9, Ptr nb6 0) :: _) [⟨nb6, [U64 0, I64 0, I64 0, SL none 0 0, .bool false, U64 0, U64 0, I64 0, SL none 0 0, SL none 0 0, U64 0] ++ cu8 (zr8 16) ++ [SL none 0 0, SL none 0 0], 67, (0, 0)⟩]
    refine A7 (BQ 0 nb6 29 ([U64 0, I64 0, I64 0, SL none 0 0, .bool false, U64 0, U64 0, I64 0, SL none 0 0, SL none 0 0, U64 0] ++ cu8 (zr8 16) ++ [SL none 0 0, SL none 0 0]) 67 ([U64 0, I64 0, I64 0, SL none 0 0, .bool false, U64 0, U64 0, I64 0, SL none 0 0, SL none 0 0, U64 0] ++ cu8 (zr8 16) ++ [SL none 0 0, SL none 0 0]) rfl rfl rfl BR (by simp [(AN 16)]) (BY (BY (by simp [Value.oneCell']) CT) (by simp [Value.oneCell'])) (by simp [(AN 16)]) (BT (by simp [(AN 16), (AN 16)]))) rfl ?_
    show JL _ _ _ _ _ [⟨nb6, [U64 0, I64 0, I64 0, SL none 0 0, .bool false, U64 0, U64 0, I64 0, SL none 0 0, SL none 0 0, U64 0] ++ cu8 (zr8 16) ++ [SL none 0 0, SL none 0 0], 67, (0, 0)⟩]
    refine AA _ (AE rfl) rfl ?_
    refine AI (AC (AH (AB (AA _ (AF rfl) rfl ?_))))
    refine AA (.bool false) (C7 _ _ _ rfl rfl (fun _ => eqGuard_if ..) fun _ => eql_if_nil BB) rfl ?_
    refine AI (AC (BP _ rfl rfl ?_))
    refine BF (EX [] (by decide) ?_)
    show JQ _ _ _ _ []
    refine DT (()) trivial (Sub.all rfl) rfl
  ·
   rintro _ hx
   obtain _ := hx
   show JQ _ _ _ [(1, I64 (kd))] []
   refine AC (AH (AB (AA _ (AE rfl) rfl ?_)))
   refine AI (AC (AH (AH ?_)))
   by_cases hk1 : kd = 1
   ·
    subst hk1
    skip
    refine AB (AA _ (AF rfl) rfl ?_)
    refine AA (.bool (decide ((1:Int) ≤ (1:Int)))) (AR rfl rfl fun _ => EZ _ _) rfl ?_
    refine AA _ (AF rfl) rfl ?_
    refine AP 2 61 true _ _ rfl rfl (by decide) (AF rfl) rfl ?_
    refine AP 2 61 true _ (.bool (decide ((1:Int) ≤ (5:Int)))) rfl rfl (by decide) (AR rfl rfl fun _ => bin_leq_i _ _) rfl ?_
    refine AA _ (BD _ rfl (by decide) rfl) rfl ?_
    refine AI (AC (B3 _ rfl (by decide) ?_))
    refine AB (A4 (CR 9 1 _ [(0, .string (⟨⟨[114, 101, 97, 100]⟩⟩)), (1, .string (⟨⟨[115, 112, 97, 110]⟩⟩)), (2, .string (⟨⟨[99, 104, 97, 110, 103, 101]⟩⟩)), (3, .string (⟨⟨[99, 104, 97, 105, 110]⟩⟩)), (4, .string (⟨⟨[102, 111, 114, 103, 101, 116]⟩⟩))] ([.string (⟨⟨[114, 101, 97, 100]⟩⟩), .string (⟨⟨[115, 112, 97, 110]⟩⟩), .string (⟨⟨[99, 104, 97, 110, 103, 101]⟩⟩), .string (⟨⟨[99, 104, 97, 105, 110]⟩⟩), .string (⟨⟨[102, 111, 114, 103, 101, 116]⟩⟩)]) EB EJ Tryd.zeroValue9 rfl rfl rfl (by kernel_rfl)) rfl ?_)
    rintro v1 L1 ⟨nb7, hnb7, rfl, rfl⟩
    show JL _ _ _ _ ((65, Slc nb7 0 5 5) :: _) [⟨nb7, [.string (⟨⟨[114, 101, 97, 100]⟩⟩), .string (⟨⟨[115, 112, 97, 110]⟩⟩), .string (⟨⟨[99, 104, 97, 110, 103, 101]⟩⟩), .string (⟨⟨[99, 104, 97, 105, 110]⟩⟩), .string (⟨⟨[102, 111, 114, 103, 101, 116]⟩⟩)], 9, (0, 0)⟩]
    refine AA _ (AF rfl) rfl ?_
    refine AA (I64 0) (AR rfl rfl fun _ => EG _ _ (0:Int) (by omega) (by omega)) rfl ?_
    refine AA (Ptr nb7 0) (FC 9 1 0 EB EJ rfl rfl (by omega) (by omega) (by omega)) rfl ?_
    refine AA (.string (⟨⟨[114, 101, 97, 100]⟩⟩)) (AO rfl (A0 Tryd.isAgg9 (AU 0 rfl (Seg.head)))) rfl ?_
    refine AA _ (AE rfl) rfl ?_
    refine AI (AC (AH (AB (AA _ (AF rfl) rfl ?_))))
    refine A7 (A2 74 [I64 1] (.string (⟨⟨[114, 101, 97, 100]⟩⟩)) (AS _ Tryd.call74 rfl) (fun w1 hw1 => word1_c w1 (GLw.at hw1 hW))) rfl ?_
    show JL _ _ _ _ ((71, .string (⟨⟨[114, 101, 97, 100]⟩⟩)) :: _) [_]
    refine AA _ (AF rfl) rfl ?_
    refine AA (.bool (decide (([114, 101, 97, 100] : List UInt8) = ([114, 101, 97, 100] : List UInt8)))) (C7 _ _ _ rfl rfl (fun _ => E7 ..) fun _ => eql_str) rfl ?_
    refine AA _ (AE rfl) rfl ?_
    refine AI (AC (BI (B4 [false] ?_)))
    show JQ _ _ _ _ []
    refine BH (.bool (decide (([114, 101, 97, 100] : List UInt8) = ([114, 101, 97, 100] : List UInt8)))) (res1 Tryd.results14 (BC rfl)) fun w1 hw1 => ?_
    exact ⟨_, [], rfl, ⟨congrArg Value.bool (decide_eq_true rfl), rfl⟩, hw1.sub (by simp) (by simp)⟩
   ·
    by_cases hk2 : kd = 2
    ·
     subst hk2
     skip
     refine AB (AA _ (AF rfl) rfl ?_)
     refine AA (.bool (decide ((1:Int) ≤ (2:Int)))) (AR rfl rfl fun _ => EZ _ _) rfl ?_
     refine AA _ (AF rfl) rfl ?_
     refine AP 2 61 true _ _ rfl rfl (by decide) (AF rfl) rfl ?_
     refine AP 2 61 true _ (.bool (decide ((2:Int) ≤ (5:Int)))) rfl rfl (by decide) (AR rfl rfl fun _ => bin_leq_i _ _) rfl ?_
     refine AA _ (BD _ rfl (by decide) rfl) rfl ?_
     refine AI (AC (B3 _ rfl (by decide) ?_))
     refine AB (A4 (CR 9 1 _ [(0, .string (⟨⟨[114, 101, 97, 100]⟩⟩)), (1, .string (⟨⟨[115, 112, 97, 110]⟩⟩)), (2, .string (⟨⟨[99, 104, 97, 110, 103, 101]⟩⟩)), (3, .string (⟨⟨[99, 104, 97, 105, 110]⟩⟩)), (4, .string (⟨⟨[102, 111, 114, 103, 101, 116]⟩⟩))] ([.string (⟨⟨[114, 101, 97, 100]⟩⟩), .string (⟨⟨[115, 112, 97, 110]⟩⟩), .string (⟨⟨[99, 104, 97, 110, 103, 101]⟩⟩), .string (⟨⟨[99, 104, 97, 105, 110]⟩⟩), .string (⟨⟨[102, 111, 114, 103, 101, 116]⟩⟩)]) EB EJ Tryd.zeroValue9 rfl rfl rfl (by kernel_rfl)) rfl ?_)
     rintro v1 L1 ⟨nb8, hnb8, rfl, rfl⟩
     show JL _ _ _ _ ((65, Slc nb8 0 5 5) :: _) [⟨nb8, [.string (⟨⟨[114, 101, 97, 100]⟩⟩), .string (⟨⟨[115, 112, 97, 110]⟩⟩), .string (⟨⟨[99, 104, 97, 110, 103, 101]⟩⟩), .string (⟨⟨[99, 104, 97, 105, 110]⟩⟩), .string (⟨⟨[102, 111, 114, 103, 101, 116]⟩⟩)], 9, (0, 0)⟩]
     refine AA _ (AF rfl) rfl ?_
     refine AA (I64 1) (AR rfl rfl fun _ => EG _ _ (1:Int) (by omega) (by omega)) rfl ?_
     refine AA (Ptr nb8 1) (FC 9 1 1 EB EJ rfl rfl (by omega) (by omega) (by omega)) rfl ?_
     refine AA (.string (⟨⟨[115, 112, 97, 110]⟩⟩)) (AO rfl (A0 Tryd.isAgg9 (AU 0 rfl (AK (Seg.head))))) rfl ?_
     refine AA _ (AE rfl) rfl ?_
     refine AI (AC (AH (AB (AA _ (AF rfl) rfl ?_))))
     refine A7 (A2 74 [I64 2] (.string (⟨⟨[115, 112, 97, 110]⟩⟩)) (AS _ Tryd.call74 rfl) (fun w1 hw1 => word2_c w1 (GLw.at hw1 hW))) rfl ?_
     show JL _ _ _ _ ((71, .string (⟨⟨[115, 112, 97, 110]⟩⟩)) :: _) [_]
     refine AA _ (AF rfl) rfl ?_
     refine AA (.bool (decide (([115, 112, 97, 110] : List UInt8) = ([115, 112, 97, 110] : List UInt8)))) (C7 _ _ _ rfl rfl (fun _ => E7 ..) fun _ => eql_str) rfl ?_
     refine AA _ (AE rfl) rfl ?_
     refine AI (AC (BI (B4 [false] ?_)))
     show JQ _ _ _ _ []
     refine BH (.bool (decide (([115, 112, 97, 110] : List UInt8) = ([115, 112, 97, 110] : List UInt8)))) (res1 Tryd.results14 (BC rfl)) fun w1 hw1 => ?_
     exact ⟨_, [], rfl, ⟨congrArg Value.bool (decide_eq_true rfl), rfl⟩, hw1.sub (by simp) (by simp)⟩
    ·
     by_cases hk3 : kd = 3
     ·
      subst hk3
      skip
      refine AB (AA _ (AF rfl) rfl ?_)
      refine AA (.bool (decide ((1:Int) ≤ (3:Int)))) (AR rfl rfl fun _ => EZ _ _) rfl ?_
      refine AA _ (AF rfl) rfl ?_
      refine AP 2 61 true _ _ rfl rfl (by decide) (AF rfl) rfl ?_
      refine AP 2 61 true _ (.bool (decide ((3:Int) ≤ (5:Int)))) rfl rfl (by decide) (AR rfl rfl fun _ => bin_leq_i _ _) rfl ?_
      refine AA _ (BD _ rfl (by decide) rfl) rfl ?_
      refine AI (AC (B3 _ rfl (by decide) ?_))
      refine AB (A4 (CR 9 1 _ [(0, .string (⟨⟨[114, 101, 97, 100]⟩⟩)), (1, .string (⟨⟨[115, 112, 97, 110]⟩⟩)), (2, .string (⟨⟨[99, 104, 97, 110, 103, 101]⟩⟩)), (3, .string (⟨⟨[99, 104, 97, 105, 110]⟩⟩)), (4, .string (⟨⟨[102, 111, 114, 103, 101, 116]⟩⟩))] ([.string (⟨⟨[114, 101, 97, 100]⟩⟩), .string (⟨⟨[115, 112, 97, 110]⟩⟩), .string (⟨⟨[99, 104, 97, 110, 103, 101]⟩⟩), .string (⟨⟨[99, 104, 97, 105, 110]⟩⟩), .string (⟨⟨[102, 111, 114, 103, 101, 116]⟩⟩)]) EB EJ Tryd.zeroValue9 rfl rfl rfl (by kernel_rfl)) rfl ?_)
      rintro v1 L1 ⟨nb9, hnb9, rfl, rfl⟩
      show JL _ _ _ _ ((65, Slc nb9 0 5 5) :: _) [⟨nb9, [.string (⟨⟨[114, 101, 97, 100]⟩⟩), .string (⟨⟨[115, 112, 97, 110]⟩⟩), .string (⟨⟨[99, 104, 97, 110, 103, 101]⟩⟩), .string (⟨⟨[99, 104, 97, 105, 110]⟩⟩), .string (⟨⟨[102, 111, 114, 103, 101, 116]⟩⟩)], 9, (0, 0)⟩]
      refine AA _ (AF rfl) rfl ?_
      refine AA (I64 2) (AR rfl rfl fun _ => EG _ _ (2:Int) (by omega) (by omega)) rfl ?_
      refine AA (Ptr nb9 2) (FC 9 1 2 EB EJ rfl rfl (by omega) (by omega) (by omega)) rfl ?_
      refine AA (.string (⟨⟨[99, 104, 97, 110, 103, 101]⟩⟩)) (AO rfl (A0 Tryd.isAgg9 (AU 0 rfl (AK (AK (Seg.head)))))) rfl ?_
      refine AA _ (AE rfl) rfl ?_
      refine AI (AC (AH (AB (AA _ (AF rfl) rfl ?_))))
      refine A7 (A2 74 [I64 3] (.string (⟨⟨[99, 104, 97, 110, 103, 101]⟩⟩)) (AS _ Tryd.call74 rfl) (fun w1 hw1 => word3_c w1 (GLw.at hw1 hW))) rfl ?_
      show JL _ _ _ _ ((71, .string (⟨⟨[99, 104, 97, 110, 103, 101]⟩⟩)) :: _) [_]
      refine AA _ (AF rfl) rfl ?_
      refine AA (.bool (decide (([99, 104, 97, 110, 103, 101] : List UInt8) = ([99, 104, 97, 110, 103, 101] : List UInt8)))) (C7 _ _ _ rfl rfl (fun _ => E7 ..) fun _ => eql_str) rfl ?_
      refine AA _ (AE rfl) rfl ?_
      refine AI (AC (BI (B4 [false] ?_)))
      show JQ _ _ _ _ []
      refine BH (.bool (decide (([99, 104, 97, 110, 103, 101] : List UInt8) = ([99, 104, 97, 110, 103, 101] : List UInt8)))) (res1 Tryd.results14 (BC rfl)) fun w1 hw1 => ?_
      exact ⟨_, [], rfl, ⟨congrArg Value.bool (decide_eq_true rfl), rfl⟩, hw1.sub (by simp) (by simp)⟩
     ·
      by_cases hk4 : kd = 4
      ·
       subst hk4
       skip
       refine AB (AA _ (AF rfl) rfl ?_)
       refine AA (.bool (decide ((1:Int) ≤ (4:Int)))) (AR rfl rfl fun _ => EZ _ _) rfl ?_
       refine AA _ (AF rfl) rfl ?_
       refine AP 2 61 true _ _ rfl rfl (by decide) (AF rfl) rfl ?_
       refine AP 2 61 true _ (.bool (decide ((4:Int) ≤ (5:Int)))) rfl rfl (by decide) (AR rfl rfl fun _ => bin_leq_i _ _) rfl ?_
       refine AA _ (BD _ rfl (by decide) rfl) rfl ?_
       refine AI (AC (B3 _ rfl (by decide) ?_))
       refine AB (A4 (CR 9 1 _ [(0, .string (⟨⟨[114, 101, 97, 100]⟩⟩)), (1, .string (⟨⟨[115, 112, 97, 110]⟩⟩)), (2, .string (⟨⟨[99, 104, 97, 110, 103, 101]⟩⟩)), (3, .string (⟨⟨[99, 104, 97, 105, 110]⟩⟩)), (4, .string (⟨⟨[102, 111, 114, 103, 101, 116]⟩⟩))] ([.string (⟨⟨[114, 101, 97, 100]⟩⟩), .string (⟨⟨[115, 112, 97, 110]⟩⟩), .string (⟨⟨[99, 104, 97, 110, 103, 101]⟩⟩), .string (⟨⟨[99, 104, 97, 105, 110]⟩⟩), .string (⟨⟨[102, 111, 114, 103, 101, 116]⟩⟩)]) EB EJ Tryd.zeroValue9 rfl rfl rfl (by kernel_rfl)) rfl ?_)
       rintro v1 L1 ⟨nb10, hnb10, rfl, rfl⟩
       show JL _ _ _ _ ((65, Slc nb10 0 5 5) :: _) [⟨nb10, [.string (⟨⟨[114, 101, 97, 100]⟩⟩), .string (⟨⟨[115, 112, 97, 110]⟩⟩), .string (⟨⟨[99, 104, 97, 110, 103, 101]⟩⟩), .string (⟨⟨[99, 104, 97, 105, 110]⟩⟩), .string (⟨⟨[102, 111, 114, 103, 101, 116]⟩⟩)], 9, (0, 0)⟩]
       refine AA _ (AF rfl) rfl ?_
       refine AA (I64 3) (AR rfl rfl fun _ => EG _ _ (3:Int) (by omega) (by omega)) rfl ?_
       refine AA (Ptr nb10 3) (FC 9 1 3 EB EJ rfl rfl (by omega) (by omega) (by omega)) rfl ?_
       refine AA (.string (⟨⟨[99, 104, 97, 105, 110]⟩⟩)) (AO rfl (A0 Tryd.isAgg9 (AU 0 rfl (AK (AK (AK (Seg.head))))))) rfl ?_
       refine AA _ (AE rfl) rfl ?_
       refine AI (AC (AH (AB (AA _ (AF rfl) rfl ?_))))
       refine A7 (A2 74 [I64 4] (.string (⟨⟨[99, 104, 97, 105, 110]⟩⟩)) (AS _ Tryd.call74 rfl) (fun w1 hw1 => word4_c w1 (GLw.at hw1 hW))) rfl ?_
       show JL _ _ _ _ ((71, .string (⟨⟨[99, 104, 97, 105, 110]⟩⟩)) :: _) [_]
       refine AA _ (AF rfl) rfl ?_
       refine AA (.bool (decide (([99, 104, 97, 105, 110] : List UInt8) = ([99, 104, 97, 105, 110] : List UInt8)))) (C7 _ _ _ rfl rfl (fun _ => E7 ..) fun _ => eql_str) rfl ?_
       refine AA _ (AE rfl) rfl ?_
       refine AI (AC (BI (B4 [false] ?_)))
       show JQ _ _ _ _ []
       refine BH (.bool (decide (([99, 104, 97, 105, 110] : List UInt8) = ([99, 104, 97, 105, 110] : List UInt8)))) (res1 Tryd.results14 (BC rfl)) fun w1 hw1 => ?_
       exact ⟨_, [], rfl, ⟨congrArg Value.bool (decide_eq_true rfl), rfl⟩, hw1.sub (by simp) (by simp)⟩
      ·
       by_cases hk5 : kd = 5
       ·
        subst hk5
        skip
        refine AB (AA _ (AF rfl) rfl ?_)
        refine AA (.bool (decide ((1:Int) ≤ (5:Int)))) (AR rfl rfl fun _ => EZ _ _) rfl ?_
        refine AA _ (AF rfl) rfl ?_
        refine AP 2 61 true _ _ rfl rfl (by decide) (AF rfl) rfl ?_
        refine AP 2 61 true _ (.bool (decide ((5:Int) ≤ (5:Int)))) rfl rfl (by decide) (AR rfl rfl fun _ => bin_leq_i _ _) rfl ?_
        refine AA _ (BD _ rfl (by decide) rfl) rfl ?_
        refine AI (AC (B3 _ rfl (by decide) ?_))
        refine AB (A4 (CR 9 1 _ [(0, .string (⟨⟨[114, 101, 97, 100]⟩⟩)), (1, .string (⟨⟨[115, 112, 97, 110]⟩⟩)), (2, .string (⟨⟨[99, 104, 97, 110, 103, 101]⟩⟩)), (3, .string (⟨⟨[99, 104, 97, 105, 110]⟩⟩)), (4, .string (⟨⟨[102, 111, 114, 103, 101, 116]⟩⟩))] ([.string (⟨⟨[114, 101, 97, 100]⟩⟩), .string (⟨⟨[115, 112, 97, 110]⟩⟩), .string (⟨⟨[99, 104, 97, 110, 103, 101]⟩⟩), .string (⟨⟨[99, 104, 97, 105, 110]⟩⟩), .string (⟨⟨[102, 111, 114, 103, 101, 116]⟩⟩)]) EB EJ Tryd.zeroValue9 rfl rfl rfl (by kernel_rfl)) rfl ?_)
        rintro v1 L1 ⟨nb11, hnb11, rfl, rfl⟩
        show JL _ _ _ _ ((65, Slc nb11 0 5 5) :: _) [⟨nb11, [.string (⟨⟨[114, 101, 97, 100]⟩⟩), .string (⟨⟨[115, 112, 97, 110]⟩⟩), .string (⟨⟨[99, 104, 97, 110, 103, 101]⟩⟩), .string (⟨⟨[99, 104, 97, 105, 110]⟩⟩), .string (⟨⟨[102, 111, 114, 103, 101, 116]⟩⟩)], 9, (0, 0)⟩]
        refine AA _ (AF rfl) rfl ?_
        refine AA (I64 4) (AR rfl rfl fun _ => EG _ _ (4:Int) (by omega) (by omega)) rfl ?_
        refine AA (Ptr nb11 4) (FC 9 1 4 EB EJ rfl rfl (by omega) (by omega) (by omega)) rfl ?_
        refine AA (.string (⟨⟨[102, 111, 114, 103, 101, 116]⟩⟩)) (AO rfl (A0 Tryd.isAgg9 (AU 0 rfl (AK (AK (AK (AK (Seg.head)))))))) rfl ?_
        refine AA _ (AE rfl) rfl ?_
        refine AI (AC (AH (AB (AA _ (AF rfl) rfl ?_))))
        refine A7 (A2 74 [I64 5] (.string (⟨⟨[102, 111, 114, 103, 101, 116]⟩⟩)) (AS _ Tryd.call74 rfl) (fun w1 hw1 => word5_c w1 (GLw.at hw1 hW))) rfl ?_
        show JL _ _ _ _ ((71, .string (⟨⟨[102, 111, 114, 103, 101, 116]⟩⟩)) :: _) [_]
        refine AA _ (AF rfl) rfl ?_
        refine AA (.bool (decide (([102, 111, 114, 103, 101, 116] : List UInt8) = ([102, 111, 114, 103, 101, 116] : List UInt8)))) (C7 _ _ _ rfl rfl (fun _ => E7 ..) fun _ => eql_str) rfl ?_
        refine AA _ (AE rfl) rfl ?_
        refine AI (AC (BI (B4 [false] ?_)))
        show JQ _ _ _ _ []
        refine BH (.bool (decide (([102, 111, 114, 103, 101, 116] : List UInt8) = ([102, 111, 114, 103, 101, 116] : List UInt8)))) (res1 Tryd.results14 (BC rfl)) fun w1 hw1 => ?_
        exact ⟨_, [], rfl, ⟨congrArg Value.bool (decide_eq_true rfl), rfl⟩, hw1.sub (by simp) (by simp)⟩
       ·
        by_cases hkA : kd < 1
        ·
         refine AB (AA _ (AF rfl) rfl ?_)
         refine AA (.bool (decide ((1:Int) ≤ (kd)))) (AR rfl rfl fun _ => EZ _ _) rfl ?_
         refine AA _ (AF rfl) rfl ?_
         refine AG 2 61 true _ rfl rfl (decide_eq_false (by omega)) rfl ?_
         refine AG 2 61 true _ rfl rfl (decide_eq_false (by omega)) rfl ?_
         refine AA _ (A3 _ rfl (decide_eq_false (by omega)) rfl) rfl ?_
         refine AI (AC (BP _ rfl rfl ?_))
         refine BF (AC (AH (AB (AA _ (AF rfl) rfl ?_))))
         refine A7 (A2 74 [I64 (kd)] (.string (⟨⟨[]⟩⟩)) (AS _ Tryd.call74 rfl) (fun w1 hw1 => wordA_c (kd) w1 (by omega))) rfl ?_
         show JL _ _ _ _ ((71, .string (⟨⟨[]⟩⟩)) :: _) []
         refine AA _ (AF rfl) rfl ?_
         refine AA (.bool (decide (([] : List UInt8) = ([] : List UInt8)))) (C7 _ _ _ rfl rfl (fun _ => E7 ..) fun _ => eql_str) rfl ?_
         refine AA _ (AE rfl) rfl ?_
         refine AI (AC (BI (BH (.bool (decide (([] : List UInt8) = ([] : List UInt8)))) (res1 Tryd.results14 (BC rfl)) fun w1 hw1 => ?_)))
         exact ⟨_, [], rfl, ⟨congrArg Value.bool (decide_eq_true rfl), rfl⟩, hw1.sub (by simp) (by simp)⟩
        ·
         refine AB (AA _ (AF rfl) rfl ?_)
         refine AA (.bool (decide ((1:Int) ≤ (kd)))) (AR rfl rfl fun _ => EZ _ _) rfl ?_
         refine AA _ (AF rfl) rfl ?_
         refine AP 2 61 true _ _ rfl rfl (decide_eq_true (by omega)) (AF rfl) rfl ?_
         refine AP 2 61 true _ (.bool (decide ((kd) ≤ (5:Int)))) rfl rfl (decide_eq_true (by omega)) (AR rfl rfl fun _ => bin_leq_i _ _) rfl ?_
         refine AA _ (BD _ rfl (decide_eq_true (by omega)) rfl) rfl ?_
         refine AI (AC (BP _ rfl (decide_eq_false (by omega)) ?_))
         refine BF (AC (AH (AB (AA _ (AF rfl) rfl ?_))))
         refine A7 (A2 74 [I64 (kd)] (.string (⟨⟨[]⟩⟩)) (AS _ Tryd.call74 rfl) (fun w1 hw1 => wordB_c (kd) w1 (by omega))) rfl ?_
         show JL _ _ _ _ ((71, .string (⟨⟨[]⟩⟩)) :: _) []
         refine AA _ (AF rfl) rfl ?_
         refine AA (.bool (decide (([] : List UInt8) = ([] : List UInt8)))) (C7 _ _ _ rfl rfl (fun _ => E7 ..) fun _ => eql_str) rfl ?_
         refine AA _ (AE rfl) rfl ?_
         refine AI (AC (BI (BH (.bool (decide (([] : List UInt8) = ([] : List UInt8)))) (res1 Tryd.results14 (BC rfl)) fun w1 hw1 => ?_)))
         exact ⟨_, [], rfl, ⟨congrArg Value.bool (decide_eq_true rfl), rfl⟩, hw1.sub (by simp) (by simp)⟩
theorem wwordsL_c (ax : Option Addr) (n c : Nat) (z0 : List UInt8) (kd : Int)  (w : World) (hz : z0.length = n) (hn : 30000 < n) (hc : n ≤ c) (hcm : c ≤ maxLen) (hr : RdB w [] ax z0) (hW : GLw w)  : Calls Tryd.prog 14 #[SL ax n c, I64 (kd)] w (Post w [] (fun v L => v = .bool true ∧ L = [])) := by
 have hmx : maxLen = 9223372036854775807 := rfl
 refine enter w [] 74 [] [SL ax n c, I64 (kd)] Tryd.func14 rfl rfl (by simp) (BW (by simp) (by simp) (by simp)) ?_
 show JC _ _ _ [(0, SL ax n c), (1, I64 (kd))] _
 refine AH (AB (AA _ (AE rfl) rfl ?_))
 refine AI (AC (AH (AH (AB (A4 (A2 17 [] (.bool true) (AS _ Tryd.call17 rfl) (fun w1 hw1 => alive14_c  w1 (GLw.at hw1 hW))) rfl ?_)))))
 rintro v1 L1 ⟨rfl, rfl⟩
 show JL _ _ _ _ ((14, .bool true) :: _) []
 refine AA (.bool (!true)) (DG rfl) rfl ?_
 refine AI (AC (BP _ rfl rfl ?_))
 refine BF (AC (AH (AH (AB (AA _ (AF rfl) rfl ?_)))))
 refine AA (I64 n) (DY BA rfl) rfl ?_
 refine AA (.bool (decide ((30000:Int) < ((n:Int))))) (AR rfl rfl fun _ => DD _ _) rfl ?_
 refine AI (AC (B3 _ rfl (decide_eq_true (by omega)) ?_))
 refine AH (AB (AA _ (AE rfl) rfl ?_))
 refine AI (AC (BI (A1 (BH (.bool true) (res1 Tryd.results14 (BC rfl)) fun w1 hw1 => ?_))))
 exact ⟨_, [], rfl, ⟨congrArg Value.bool rfl, rfl⟩, hw1.sub (by simp) (by simp)⟩
theorem wireWords_w (az : Option Addr) (n cz : Nat) (z : List UInt8) (kd : Int) (w : World) (hz : z.length = n) (hcb : az = none → cz = 0) (hc : n ≤ cz ∧ cz ≤ maxLen) (hr : RdB w [] az z) (hkd : -9223372036854775808 ≤ kd ∧ kd ≤ 9223372036854775807) (hW : GLw w) : Calls Tryd.prog 14 #[SL az n cz, I64 kd] w (Post w [] (fun v L => v = .bool true ∧ L = [])) := by
  by_cases hn : n ≤ 30000
  · exact wwords_c az n cz z kd w hcb hz hn hc.1 hc.2 hr hW
  · exact wwordsL_c az n cz z kd w hz (by omega) hc.1 hc.2 hr hW
end Go.Proofs.YtkdpdgpphpngeaaDoor
namespace Go.Sx
open Go Go.RowKit
open Go.ChangeShapes Go.WideShapes
theorem strs_cells {H : Type} {enc : TypeId × Value → H} {P : Program} {w : World} {base : Nat} {sp : Nat → Bool} {held : Bool} {t e : TypeId} {n : Nat} {l : List (List UInt8)} {p : List MemPlace}
    (ht : P.underlying t = some (.array n e)) (he : P.underlying e = some .string) (hce : P.cellsOf e = 1) (hct : P.cellsOf t = n) :
    ∀ {fuel : Nat} {cs : List Value}, DataW.trod enc P w base sp held fuel t cs = some (.agg (l.map fun s => .lit (.string s)), p) → cs = l.map fun s => Value.string ⟨s.toArray⟩
  | 0, cs, h => by simp [DataW.trod] at h
  | fuel + 1, cs, h => by
    simp only [DataW.trod, ht, hce, hct, Nat.mul_one] at h
    split at h
    case isFalse => cases h
    case isTrue hl =>
      obtain ⟨xs, hm, hx⟩ := Option.map_eq_some_iff.1 h
      have e1 : xs.map Prod.fst = l.map fun s => (DataW.lit (.string s) : DataW H) := by simpa using congrArg Prod.fst hx
      have e2 : xs.length = n := by simpa using Lib.mapM_length hm
      have e3 : l.length = n := by rw [← e2]; simpa using (congrArg List.length e1).symm
      refine List.ext_getElem? fun i => ?_
      by_cases hi : i < n
      · obtain ⟨b, hb, hf⟩ := Lib.mapM_at hm i i (by simp [hi])
        obtain ⟨s, hc, rfl, _⟩ := DataW.trod_string he hf
        have c0 : (List.take 1 (List.drop i cs))[0]? = some (Value.string s) := by rw [hc]; rfl
        have c1 : cs[i]? = some (.string s) := by simpa [List.getElem?_take, List.getElem?_drop] using c0
        have c2 := congrArg (·[i]?) e1
        simp only [List.getElem?_map, hb, Option.map_some] at c2
        obtain ⟨s', hs', he'⟩ := Option.map_eq_some_iff.1 c2.symm
        have he2 : s' = s.data.toList := by simpa using he'
        subst he2
        rw [c1, List.getElem?_map, hs']
        simp
      · rw [List.getElem?_eq_none (by omega), List.getElem?_eq_none (by simp; omega)]
theorem laid_rdS {P : Program} {W : World} {laid : List (String × DataW Unit)} (h : laidMetH P laid W) (hp : (laid.all fun x => x.2.handleName?.isNone) = true) {name : String} {d : DataW Unit} (hm : (name, d) ∈ laid) (l : List (List UInt8))
  (hd : d = .agg (l.map fun s => .lit (.string s))) {g t e n : Nat}
  (hg : P.globalNamed name = some g) (hty : (P.globals[g]?).map (·.type) = some t) (ht : P.underlying t = some (.array n e)) (he : P.underlying e = some .string) (hce : P.cellsOf e = 1) (hct : P.cellsOf t = n) (hl : 0 < l.length) : RdA W g 0 (l.map fun s => Value.string ⟨s.toArray⟩) := by
 rw [MakeChecks.laidMetH_plain _ _ _ hp] at h
 obtain ⟨ps, hv, _, _⟩ := h
 obtain ⟨g', t', cs, fuel, p, hg', ht', hvar, htr⟩ := laidVars_mem hv hm
 obtain rfl := Option.some.inj (hg.symm.trans hg')
 obtain rfl := Option.some.inj (hty.symm.trans ht')
 subst hd
 have hcs := strs_cells ht he hce hct htr
 have key : ∀ j v, (l.map fun s => Value.string ⟨s.toArray⟩)[j]? = some v → W.cell? ⟨g, 0 + j, none⟩ = some v := fun j v hj => by
  have := World.var?_cell hg hvar j
  rw [Nat.zero_add, this, ← Array.getElem?_toList, hcs]
  exact hj
 have h0 : (l.map fun s => Value.string ⟨s.toArray⟩)[0]? = some (Value.string ⟨(l[0]'hl).toArray⟩) := by simp [hl]
 exact ⟨lt_of_cell (key 0 _ h0), key⟩
end Go.Sx
namespace Go.Proofs.YtkdpdgpphpngeaaDoor
open Go
open Go.Value renaming slice → SL
def headSigns : List Char := [Char.ofNat 104, Char.ofNat 97, Char.ofNat 114, Char.ofNat 110, Char.ofNat 101, Char.ofNat 115, Char.ofNat 115, Char.ofNat 32, Char.ofNat 50, Char.ofNat 100, Char.ofNat 55, Char.ofNat 48, Char.ofNat 102, Char.ofNat 53, Char.ofNat 99, Char.ofNat 56, Char.ofNat 51, Char.ofNat 51, Char.ofNat 98, Char.ofNat 102, Char.ofNat 98, Char.ofNat 55, Char.ofNat 98, Char.ofNat 99, Char.ofNat 56, Char.ofNat 100, Char.ofNat 101, Char.ofNat 50, Char.ofNat 52, Char.ofNat 51, Char.ofNat 50, Char.ofNat 51, Char.ofNat 48, Char.ofNat 101, Char.ofNat 101, Char.ofNat 48, Char.ofNat 52, Char.ofNat 55, Char.ofNat 57, Char.ofNat 55, Char.ofNat 51, Char.ofNat 101, Char.ofNat 57, Char.ofNat 54, Char.ofNat 57, Char.ofNat 51, Char.ofNat 101, Char.ofNat 100, Char.ofNat 101, Char.ofNat 55, Char.ofNat 53, Char.ofNat 51, Char.ofNat 52, Char.ofNat 48, Char.ofNat 54, Char.ofNat 50, Char.ofNat 55, Char.ofNat 99, Char.ofNat 57, Char.ofNat 57, Char.ofNat 52, Char.ofNat 50, Char.ofNat 54, Char.ofNat 50, Char.ofNat 100, Char.ofNat 102, Char.ofNat 102, Char.ofNat 56, Char.ofNat 48, Char.ofNat 54, Char.ofNat 100, Char.ofNat 50, Char.ofNat 32, Char.ofNat 99, Char.ofNat 117, Char.ofNat 116, Char.ofNat 32, Char.ofNat 97, Char.ofNat 116, Char.ofNat 32, Char.ofNat 101, Char.ofNat 110, Char.ofNat 116, Char.ofNat 114, Char.ofNat 117, Char.ofNat 115, Char.ofNat 116, Char.ofNat 47, Char.ofNat 101, Char.ofNat 110, Char.ofNat 116, Char.ofNat 114, Char.ofNat 117, Char.ofNat 115, Char.ofNat 116, Char.ofNat 108, Char.ofNat 97, Char.ofNat 119, Char.ofNat 49, Char.ofNat 52, Char.ofNat 46, Char.ofNat 87, Char.ofNat 105, Char.ofNat 114, Char.ofNat 101, Char.ofNat 82, Char.ofNat 101, Char.ofNat 113, Char.ofNat 117, Char.ofNat 101, Char.ofNat 115, Char.ofNat 116, Char.ofNat 115, Char.ofNat 32, Char.ofNat 101, Char.ofNat 110, Char.ofNat 116, Char.ofNat 114, Char.ofNat 117, Char.ofNat 115, Char.ofNat 116, Char.ofNat 47, Char.ofNat 101, Char.ofNat 110, Char.ofNat 116, Char.ofNat 114, Char.ofNat 117, Char.ofNat 115, Char.ofNat 116, Char.ofNat 108, Char.ofNat 97, Char.ofNat 119, Char.ofNat 49, Char.ofNat 53, Char.ofNat 46, Char.ofNat 76, Char.ofNat 105, Char.ofNat 110, Char.ofNat 107, Char.ofNat 83, Char.ofNat 101, Char.ofNat 97, Char.ofNat 108, Char.ofNat 115, Char.ofNat 32, Char.ofNat 101, Char.ofNat 110, Char.ofNat 116, Char.ofNat 114, Char.ofNat 117, Char.ofNat 115, Char.ofNat 116, Char.ofNat 47, Char.ofNat 101, Char.ofNat 110, Char.ofNat 116, Char.ofNat 114, Char.ofNat 117, Char.ofNat 115, Char.ofNat 116, Char.ofNat 108, Char.ofNat 97, Char.ofNat 119, Char.ofNat 49, Char.ofNat 53, Char.ofNat 46, Char.ofNat 76, Char.ofNat 105, Char.ofNat 110, Char.ofNat 107, Char.ofNat 83, Char.ofNat 105, Char.ofNat 122, Char.ofNat 101, Char.ofNat 115, Char.ofNat 32, Char.ofNat 101, Char.ofNat 110, Char.ofNat 116, Char.ofNat 114, Char.ofNat 117, Char.ofNat 115, Char.ofNat 116, Char.ofNat 47, Char.ofNat 101, Char.ofNat 110, Char.ofNat 116, Char.ofNat 114, Char.ofNat 117, Char.ofNat 115, Char.ofNat 116, Char.ofNat 108, Char.ofNat 97, Char.ofNat 119, Char.ofNat 49, Char.ofNat 52, Char.ofNat 46, Char.ofNat 87, Char.ofNat 105, Char.ofNat 114, Char.ofNat 101, Char.ofNat 82, Char.ofNat 101, Char.ofNat 112, Char.ofNat 108, Char.ofNat 105, Char.ofNat 101, Char.ofNat 115, Char.ofNat 32, Char.ofNat 101, Char.ofNat 110, Char.ofNat 116, Char.ofNat 114, Char.ofNat 117, Char.ofNat 115, Char.ofNat 116, Char.ofNat 47, Char.ofNat 101, Char.ofNat 110, Char.ofNat 116, Char.ofNat 114, Char.ofNat 117, Char.ofNat 115, Char.ofNat 116, Char.ofNat 108, Char.ofNat 97, Char.ofNat 119, Char.ofNat 49, Char.ofNat 53, Char.ofNat 46, Char.ofNat 76, Char.ofNat 105, Char.ofNat 110, Char.ofNat 107, Char.ofNat 79, Char.ofNat 112, Char.ofNat 101, Char.ofNat 110, Char.ofNat 115, Char.ofNat 32, Char.ofNat 101, Char.ofNat 110, Char.ofNat 116, Char.ofNat 114, Char.ofNat 117, Char.ofNat 115, Char.ofNat 116, Char.ofNat 47, Char.ofNat 101, Char.ofNat 110, Char.ofNat 116, Char.ofNat 114, Char.ofNat 117, Char.ofNat 115, Char.ofNat 116, Char.ofNat 108, Char.ofNat 97, Char.ofNat 119, Char.ofNat 49, Char.ofNat 53, Char.ofNat 46, Char.ofNat 76, Char.ofNat 105, Char.ofNat 110, Char.ofNat 107, Char.ofNat 66, Char.ofNat 97, Char.ofNat 99, Char.ofNat 107, Char.ofNat 32, Char.ofNat 101, Char.ofNat 110, Char.ofNat 116, Char.ofNat 114, Char.ofNat 117, Char.ofNat 115, Char.ofNat 116, Char.ofNat 47, Char.ofNat 101, Char.ofNat 110, Char.ofNat 116, Char.ofNat 114, Char.ofNat 117, Char.ofNat 115, Char.ofNat 116, Char.ofNat 108, Char.ofNat 97, Char.ofNat 119, Char.ofNat 49, Char.ofNat 51, Char.ofNat 46, Char.ofNat 84, Char.ofNat 105, Char.ofNat 99, Char.ofNat 107, Char.ofNat 101, Char.ofNat 116, Char.ofNat 83, Char.ofNat 105, Char.ofNat 103, Char.ofNat 110, Char.ofNat 115, Char.ofNat 32, Char.ofNat 101, Char.ofNat 110, Char.ofNat 116, Char.ofNat 114, Char.ofNat 117, Char.ofNat 115, Char.ofNat 116, Char.ofNat 47, Char.ofNat 101, Char.ofNat 110, Char.ofNat 116, Char.ofNat 114, Char.ofNat 117, Char.ofNat 115, Char.ofNat 116, Char.ofNat 108, Char.ofNat 97, Char.ofNat 119, Char.ofNat 49, Char.ofNat 52, Char.ofNat 46, Char.ofNat 87, Char.ofNat 105, Char.ofNat 114, Char.ofNat 101, Char.ofNat 80, Char.ofNat 97, Char.ofNat 114, Char.ofNat 115, Char.ofNat 101, Char.ofNat 115, Char.ofNat 32, Char.ofNat 101, Char.ofNat 110, Char.ofNat 116, Char.ofNat 114, Char.ofNat 117, Char.ofNat 115, Char.ofNat 116, Char.ofNat 47, Char.ofNat 101, Char.ofNat 110, Char.ofNat 116, Char.ofNat 114, Char.ofNat 117, Char.ofNat 115, Char.ofNat 116, Char.ofNat 108, Char.ofNat 97, Char.ofNat 119, Char.ofNat 49, Char.ofNat 51, Char.ofNat 46, Char.ofNat 84, Char.ofNat 105, Char.ofNat 99, Char.ofNat 107, Char.ofNat 101, Char.ofNat 116, Char.ofNat 80, Char.ofNat 97, Char.ofNat 114, Char.ofNat 115, Char.ofNat 101, Char.ofNat 115, Char.ofNat 32, Char.ofNat 101, Char.ofNat 110, Char.ofNat 116, Char.ofNat 114, Char.ofNat 117, Char.ofNat 115, Char.ofNat 116, Char.ofNat 47, Char.ofNat 101, Char.ofNat 110, Char.ofNat 116, Char.ofNat 114, Char.ofNat 117, Char.ofNat 115, Char.ofNat 116, Char.ofNat 108, Char.ofNat 97, Char.ofNat 119, Char.ofNat 49, Char.ofNat 51, Char.ofNat 46, Char.ofNat 84, Char.ofNat 105, Char.ofNat 99, Char.ofNat 107, Char.ofNat 101, Char.ofNat 116, Char.ofNat 66, Char.ofNat 97, Char.ofNat 99, Char.ofNat 107, Char.ofNat 32, Char.ofNat 101, Char.ofNat 110, Char.ofNat 116, Char.ofNat 114, Char.ofNat 117, Char.ofNat 115, Char.ofNat 116, Char.ofNat 47, Char.ofNat 101, Char.ofNat 110, Char.ofNat 116, Char.ofNat 114, Char.ofNat 117, Char.ofNat 115, Char.ofNat 116, Char.ofNat 108, Char.ofNat 97, Char.ofNat 119, Char.ofNat 49, Char.ofNat 51, Char.ofNat 46, Char.ofNat 84, Char.ofNat 105, Char.ofNat 99, Char.ofNat 107, Char.ofNat 101, Char.ofNat 116, Char.ofNat 79, Char.ofNat 114, Char.ofNat 100, Char.ofNat 101, Char.ofNat 114, Char.ofNat 115, Char.ofNat 32, Char.ofNat 101, Char.ofNat 110, Char.ofNat 116, Char.ofNat 114, Char.ofNat 117, Char.ofNat 115, Char.ofNat 116, Char.ofNat 47, Char.ofNat 101, Char.ofNat 110, Char.ofNat 116, Char.ofNat 114, Char.ofNat 117, Char.ofNat 115, Char.ofNat 116, Char.ofNat 108, Char.ofNat 97, Char.ofNat 119, Char.ofNat 49, Char.ofNat 52, Char.ofNat 46, Char.ofNat 87, Char.ofNat 105, Char.ofNat 114, Char.ofNat 101, Char.ofNat 87, Char.ofNat 111, Char.ofNat 114, Char.ofNat 100, Char.ofNat 115, Char.ofNat 32, Char.ofNat 101, Char.ofNat 110, Char.ofNat 116, Char.ofNat 114, Char.ofNat 117, Char.ofNat 115, Char.ofNat 116, Char.ofNat 47, Char.ofNat 101, Char.ofNat 110, Char.ofNat 116, Char.ofNat 114, Char.ofNat 117, Char.ofNat 115, Char.ofNat 116, Char.ofNat 108, Char.ofNat 97, Char.ofNat 119, Char.ofNat 49, Char.ofNat 52, Char.ofNat 46, Char.ofNat 87, Char.ofNat 105, Char.ofNat 114, Char.ofNat 101, Char.ofNat 66, Char.ofNat 97, Char.ofNat 99, Char.ofNat 107, Char.ofNat 32, Char.ofNat 101, Char.ofNat 110, Char.ofNat 116, Char.ofNat 114, Char.ofNat 117, Char.ofNat 115, Char.ofNat 116, Char.ofNat 47, Char.ofNat 101, Char.ofNat 110, Char.ofNat 116, Char.ofNat 114, Char.ofNat 117, Char.ofNat 115, Char.ofNat 116, Char.ofNat 108, Char.ofNat 97, Char.ofNat 119, Char.ofNat 49, Char.ofNat 51, Char.ofNat 46, Char.ofNat 84, Char.ofNat 105, Char.ofNat 99, Char.ofNat 107, Char.ofNat 101, Char.ofNat 116, Char.ofNat 83, Char.ofNat 101, Char.ofNat 97, Char.ofNat 108, Char.ofNat 115]
theorem headStr : Tryd.prog.initOrder = String.ofList headSigns := by kernel_rfl
theorem headIs : Tryd.prog.initOrder.toList = headSigns := by
 rw [headStr]
 exact String.toList_ofList
def sumSigns : List Char := [Char.ofNat 50, Char.ofNat 100, Char.ofNat 55, Char.ofNat 48, Char.ofNat 102, Char.ofNat 53, Char.ofNat 99, Char.ofNat 56, Char.ofNat 51, Char.ofNat 51, Char.ofNat 98, Char.ofNat 102, Char.ofNat 98, Char.ofNat 55, Char.ofNat 98, Char.ofNat 99, Char.ofNat 56, Char.ofNat 100, Char.ofNat 101, Char.ofNat 50, Char.ofNat 52, Char.ofNat 51, Char.ofNat 50, Char.ofNat 51, Char.ofNat 48, Char.ofNat 101, Char.ofNat 101, Char.ofNat 48, Char.ofNat 52, Char.ofNat 55, Char.ofNat 57, Char.ofNat 55, Char.ofNat 51, Char.ofNat 101, Char.ofNat 57, Char.ofNat 54, Char.ofNat 57, Char.ofNat 51, Char.ofNat 101, Char.ofNat 100, Char.ofNat 101, Char.ofNat 55, Char.ofNat 53, Char.ofNat 51, Char.ofNat 52, Char.ofNat 48, Char.ofNat 54, Char.ofNat 50, Char.ofNat 55, Char.ofNat 99, Char.ofNat 57, Char.ofNat 57, Char.ofNat 52, Char.ofNat 50, Char.ofNat 54, Char.ofNat 50, Char.ofNat 100, Char.ofNat 102, Char.ofNat 102, Char.ofNat 56, Char.ofNat 48, Char.ofNat 54, Char.ofNat 100, Char.ofNat 50]
theorem sumIs : "2d70f5c833bfb7bc8de243230ee047973e9693ede75340627c994262dff806d2".toList = sumSigns := by
 have h : "2d70f5c833bfb7bc8de243230ee047973e9693ede75340627c994262dff806d2" = String.ofList sumSigns := by kernel_rfl
 rw [h]
 exact String.toList_ofList
theorem head_cons {α : Type} {l : List α} {x : α} (h : l.head? = some x) : ∃ r, l = x :: r := by cases l <;> simp_all
theorem make_cut {P : Program} {r : List (List Char)} (h : behindMainWord (wordsSigns P.initOrder.toList) = "cut".toList :: r) : P.make = some .cut := by
 unfold Program.make
 rw [h]
 rfl
theorem headLifts_cut {P : Program} (h : (stripLifts liftWords (behindMainWord (wordsSigns P.initOrder.toList))).1 = []) : P.headLifts = [] := by
 unfold Program.headLifts
 simp only [h]
 split <;> rfl
theorem lifts_cut {P : Program} {r : List (List Char)} (h : behindMainWord (wordsSigns P.initOrder.toList) = "cut".toList :: r) (h1 : P.headLifts = []) : P.liftsFinal = false := by
 unfold Program.liftsFinal
 rw [h, h1]
 rfl
theorem mayEnter_cut {P : Program} {r : List (List Char)} (h : behindMainWord (wordsSigns P.initOrder.toList) = "cut".toList :: r) (h1 : P.laysLater = false) (h2 : P.bearsReflect = false)
  (h3 : (stripLifts liftWords (behindMainWord (wordsSigns P.initOrder.toList))).1 = []) (h4 : (stripLifts liftWords (behindMainWord (wordsSigns P.initOrder.toList))).2.head? = some "cut".toList) (h5 : P.doorFits [] = true) : P.mayEnter = true := by
 unfold Program.mayEnter
 rw [h] at h3 h4 ⊢
 simp only [h1, h2, h3, h4, h5]
 simp
theorem main_cut {P : Program} {s : List Char} {r : List (List Char)} (h : wordsSigns P.initOrder.toList = "harness".toList :: s :: r) (hs : isSumSigns s = true) : P.mainIs = some (true, s) := by
 unfold Program.mainIs
 rw [h]
 simp [hs]
theorem hHead : (behindMainWord (wordsSigns Tryd.prog.initOrder.toList)).head? = some "cut".toList := by
 rw [headIs]
 kernel_rfl
theorem hStrip : (stripLifts liftWords (behindMainWord (wordsSigns Tryd.prog.initOrder.toList))).1 = [] := by
 rw [headIs]
 kernel_rfl
theorem hStrip2 : (stripLifts liftWords (behindMainWord (wordsSigns Tryd.prog.initOrder.toList))).2.head? = some "cut".toList := by
 rw [headIs]
 kernel_rfl
theorem hMain : wordsSigns Tryd.prog.initOrder.toList = "harness".toList :: sumSigns :: (wordsSigns headSigns).drop 2 := by
 rw [headIs]
 kernel_rfl
theorem hSum : isSumSigns sumSigns = true := by kernel_rfl
theorem hLater : Tryd.prog.laysLater = false := by kernel_rfl
theorem hReflect : Tryd.prog.bearsReflect = false := by kernel_rfl
theorem hDoor : Tryd.prog.doorFits [] = true := by kernel_rfl
theorem kMayEnter : Tryd.prog.mayEnter = true := by
 obtain ⟨r, h⟩ := head_cons hHead
 exact mayEnter_cut h hLater hReflect hStrip hStrip2 hDoor
theorem kLifts : Tryd.prog.liftsFinal = false := by
 obtain ⟨r, h⟩ := head_cons hHead
 exact lifts_cut h (headLifts_cut hStrip)
theorem kMake : Tryd.prog.make = some .cut := by
 obtain ⟨r, h⟩ := head_cons hHead
 exact make_cut h
theorem kMainIs : Tryd.prog.mainIs = some (true, "2d70f5c833bfb7bc8de243230ee047973e9693ede75340627c994262dff806d2".toList) := by
 rw [sumIs]
 exact main_cut hMain hSum
theorem kLaidOut : (laidOutB Tryd.prog) = true := by kernel_rfl
theorem kRowed : mapsRowed Tryd.prog = true := by kernel_rfl
theorem kStops : (Tryd.prog.stops == []) = true := by kernel_rfl
theorem kKnobs : (Tryd.prog.stopKnobs == []) = true := by kernel_rfl
theorem kHeard : Tryd.prog.stopsHeard = true := by kernel_rfl
theorem kLooks : true = Tryd.prog.looks [] := by kernel_rfl
end Go.Proofs.YtkdpdgpphpngeaaDoor
