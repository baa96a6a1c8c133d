import Derived.Test.YtkdpdgpphpngeaaDoorPkTP4
set_option linter.unusedVariables false
set_option linter.unusedSimpArgs false
set_option maxRecDepth 100000
namespace Go.Proofs.YtkdpdgpphpngeaaDoor
open Go Go.Sx
attribute [local irreducible] mid zr8 zr32 numK valK rvalK rotr wordL spreadL comprL cpN adN spN constL initL padL stN outN sumG putL RightB tktT mayN idxT selT macL tkG
theorem bld38_0123 {w : World} {v0 : Value} {v1 : Value} {c2 : List Value} {c3 : List Value} (h0 : v0.cells = [v0].toArray) (h1 : v1.cells = [v1].toArray) (h2 : c2.length = 4) (h3 : c3.length = 16) : (Instr.build 38 ([(0, v0), (1, v1), (2, .agg c2.toArray), (3, .agg c3.toArray)] : List (Nat × Value)).toArray).run Tryd.prog w = .ok (.agg (((([v0] : List Value) ++ ([v1] : List Value)) ++ c2) ++ c3).toArray) w :=
 EZ (places := #[(0, 1), (1, 1), (2, 4), (6, 16)]) (Z := (([U64 0] : List Value) ++ (([U64 0] : List Value) ++ (([I64 0, .slice none 0 0, .slice none 0 0, U64 0] : List Value) ++ ((cu8 (zr8 16) : List Value) ++ []))))) (fun _ => by kernel_rfl) BK (fun _ => by kernel_rfl) ((F6 ([U64 0] : List Value) (([U64 0] : List Value) ++ (([I64 0, .slice none 0 0, .slice none 0 0, U64 0] : List Value) ++ ((cu8 (zr8 16) : List Value) ++ []))) ([v0] : List Value) h0 (by simp [AN]) rfl).trans ((FU ([v0] : List Value) ([U64 0] : List Value) (([I64 0, .slice none 0 0, .slice none 0 0, U64 0] : List Value) ++ ((cu8 (zr8 16) : List Value) ++ [])) ([v1] : List Value) h1 (by simp [AN]) rfl).trans ((FU (([v0] : List Value) ++ ([v1] : List Value)) ([I64 0, .slice none 0 0, .slice none 0 0, U64 0] : List Value) ((cu8 (zr8 16) : List Value) ++ []) c2 rfl (by simp [AN, h2]) (by simp [h2, AN])).trans ((FU ((([v0] : List Value) ++ ([v1] : List Value)) ++ c2) (cu8 (zr8 16) : List Value) [] c3 rfl (by simp [AN, h2, h3]) (by simp [h3, AN])).trans (by simp [Instr.fill])))))
theorem docTZ_c (pv ep : UInt64) (kd : Int) (ai : Option Addr) (ni ci : Nat) (l : List UInt64) (sa : Option Addr) (sc : Nat) (bl : UInt64) (tg : List UInt8)  (w : World) (hl : l.length = ni) (hnm : ni ≤ 2000000) (hnc : ni ≤ ci) (hcm : ci ≤ maxLen) (hv : RdV w ai (cu64 l)) (hcs : sc ≤ maxLen) (hnS : sa = none → sc = 0) (htg : tg.length = 16)  : Calls Tryd.prog 44 #[.agg ([U64 pv, U64 ep, I64 (kd), .slice ai ni ci, .slice sa 0 sc, U64 bl] ++ cu8 tg).toArray] w (Post w [] (fun v L => v = .agg ([U64 pv, U64 ep, I64 kd, .slice ai ni ci, .slice none 0 0, U64 bl] ++ cu8 tg).toArray ∧ L = [])) := by
 have hmx : maxLen = 9223372036854775807 := rfl
 refine enter (P := Tryd.prog) (f := 44) (fn := Tryd.f44) w [] 13 [] [.agg ([U64 pv, U64 ep, I64 (kd), .slice ai ni ci, .slice sa 0 sc, U64 bl] ++ cu8 tg).toArray] Tryd.func44 rfl rfl (by simp) (BY (by simp) (by simp) (by simp)) ?_
 show JC _ _ _ [(0, .agg ([U64 pv, U64 ep, I64 (kd), .slice ai ni ci, .slice sa 0 sc, U64 bl] ++ cu8 tg).toArray)] _
 refine AG (AB (A2 (DN (.agg ([U64 pv, U64 ep, I64 (kd), .slice ai ni ci, .slice sa 0 sc, U64 bl] ++ cu8 tg).toArray) ([U64 pv, U64 ep, I64 (kd), .slice ai ni ci, .slice sa 0 sc, U64 bl] ++ cu8 tg) rfl (by first | rfl | simp)) rfl ?_))
 rintro v1 L1 ⟨nb1, hnb1, rfl, rfl⟩
 show JL _ _ _ _ ((1, Ptr nb1 0) :: _) [⟨nb1, [U64 pv, U64 ep, I64 (kd), .slice ai ni ci, .slice sa 0 sc, U64 bl] ++ cu8 tg, 29, (0, 0)⟩]
 refine A2 (BN _ ([U64 0, U64 0, I64 0, .slice none 0 0, .slice none 0 0, U64 0] ++ cu8 (zr8 16)) Tryd.zeroValue38 (by kernel_rfl)) rfl ?_
 rintro v1 L1 ⟨nb2, hnb2, rfl, rfl⟩
 show JL _ _ _ _ ((2, Ptr nb2 0) :: _) [_, ⟨nb2, [U64 0, U64 0, I64 0, .slice none 0 0, .slice none 0 0, U64 0] ++ cu8 (zr8 16), 38, (0, 0)⟩]
 refine AL (AC (AG (CH 13 3 [(0, Ptr nb1 0), (1, U64 pv), (2, Ptr nb1 1), (3, U64 ep), (4, Ptr nb1 2), (5, .agg #[I64 (kd), .slice ai ni ci, .slice sa 0 sc, U64 bl]), (7, Ptr nb1 6), (8, .agg (cu8 tg).toArray)] BP rfl (by decide +kernel) ?_)))
 refine C5 ⟨[], [0, 1, 2, 3, 4, 5, 7, 8], [], [0, 1, 2, 3, 4, 5, 7, 8], [6]⟩ 6 _ rfl rfl (by decide +kernel) rfl ⟨⟨_, rfl, AI rfl (AD 0 22 1 AW rfl A1 rfl rfl)⟩, ⟨_, rfl, AI rfl (AM rfl (A6 BD (AT 0 rfl (A8 (Seg.head)))))⟩, ⟨_, rfl, AI rfl (AD 1 22 1 AW rfl A1 rfl rfl)⟩, ⟨_, rfl, AI rfl (AM rfl (A6 BD (AT 0 rfl (A8 (AO (Seg.head))))))⟩, ⟨_, rfl, AI rfl (AD 2 26 4 AW rfl BM rfl rfl)⟩, ⟨_, rfl, AI rfl (AM rfl (A5 ED BM rfl (AT 0 rfl (E9 (p := [U64 pv, U64 ep]) (q := cu8 tg) (vs := [I64 (kd), .slice ai ni ci, .slice sa 0 sc, U64 bl]) (by first | rfl | (simp only [List.append_assoc, List.nil_append, List.append_nil, List.cons_append]; done)) rfl))))⟩, ⟨_, rfl, AI rfl (AD 6 27 16 AW rfl BV rfl rfl)⟩, ⟨_, rfl, AI rfl (AM rfl (A5 E2 BV (DY htg) (AT 0 rfl (Seg.right 6 0 rfl rfl (AJ _)))))⟩, trivial⟩ rfl (A7 rfl (AX 66 [.agg #[I64 (kd), .slice ai ni ci, .slice sa 0 sc, U64 bl]] (.agg #[I64 (kd), .slice ai ni ci, .slice none 0 0, U64 bl]) (AZ _ Tryd.call66 rfl) (fun w1 hw1 => order0_c (kd) ai ni ci l sa 0 sc ([] : List SealR) bl w1 hl (by omega) (by omega) (by omega) (FM hw1 rfl hv) rfl (by omega) (by omega) (by omega) RdV.nil rfl))) ?_
 rintro v1 L1 ⟨rfl, rfl⟩
 refine ⟨[(9, .agg ([U64 pv, U64 ep, I64 (kd), .slice ai ni ci, .slice none 0 0, U64 bl] ++ cu8 tg).toArray)], ?_⟩
 show DP _ _ _ _ _ _ _ _ [_, _]
 refine B6 ⟨[6], [0, 1, 2, 3, 4, 5, 7, 8, 9], [4, 5], [0, 1, 2, 3, 7, 8, 9], [10]⟩ 10 rfl rfl (by decide +kernel) rfl ⟨⟨_, rfl, AI rfl (AD 0 22 1 AW rfl A1 rfl rfl)⟩, ⟨_, rfl, AI rfl (AM rfl (A6 BD (AT 0 rfl (A8 (Seg.head)))))⟩, ⟨_, rfl, AI rfl (AD 1 22 1 AW rfl A1 rfl rfl)⟩, ⟨_, rfl, AI rfl (AM rfl (A6 BD (AT 0 rfl (A8 (AO (Seg.head))))))⟩, ⟨_, rfl, AI rfl (AD 6 27 16 AW rfl BV rfl rfl)⟩, ⟨_, rfl, AI rfl (AM rfl (A5 E2 BV (DY htg) (AT 0 rfl (Seg.right 6 0 rfl rfl (AJ _)))))⟩, ⟨_, rfl, AI rfl (DG [(0, U64 pv), (1, U64 ep), (2, .agg #[I64 (kd), .slice ai ni ci, .slice none 0 0, U64 bl]), (3, .agg (cu8 tg).toArray)] _ rfl (fun _ => bld38_0123 rfl rfl (by simp [AN]) (by simp [AN, htg])))⟩, trivial⟩ rfl (A7 rfl (AU 1 nb2 22 ([U64 0, U64 0, I64 0, .slice none 0 0, .slice none 0 0, U64 0] ++ cu8 (zr8 16)) 38 ([U64 pv, U64 ep, I64 (kd), .slice ai ni ci, .slice none 0 0, U64 bl] ++ cu8 tg) rfl rfl rfl B7 (by simp [htg]) (CK (by simp [Value.oneCell']) CF) (by simp [(AN 16)]) (A0 (by simp [(AN 16), htg])))) ?_
 show DP _ _ _ _ _ _ _ _ [_, ⟨nb2, [U64 pv, U64 ep, I64 (kd), .slice ai ni ci, .slice none 0 0, U64 bl] ++ cu8 tg, 38, (0, 0)⟩]
 refine C2 ⟨[6, 10], [0, 1, 2, 3, 4, 5, 7, 8, 9], [0, 1, 2, 3, 4, 5, 7, 8, 9], [], []⟩ rfl rfl (by decide +kernel) rfl trivial ?_
 refine CB (F' := [(2, Ptr nb2 0)]) (by kernel_rfl) ?_
 refine AC (BH (B5 [false, true] ?_))
 show JQ _ _ _ _ [_]
 refine BI (.agg ([U64 pv, U64 ep, I64 (kd), .slice ai ni ci, .slice none 0 0, U64 bl] ++ cu8 tg).toArray) (res1 Tryd.results44 (CQ rfl (A5 DJ B7 (by simp [htg]) (AT 0 rfl (AJ _))))) fun w1 hw1 => ?_
 exact ⟨_, [], rfl, ⟨rfl, rfl⟩, hw1.sub (by simp) (by simp)⟩
theorem docTP_c (pv ep : UInt64) (kd : Int) (ai : Option Addr) (ni ci : Nat) (l : List UInt64) (sa : Option Addr) (ns sc : Nat) (ls : List SealR) (bl : UInt64) (tg : List UInt8)  (w : World) (hl : l.length = ni) (hnm : ni ≤ 2000000) (hnc : ni ≤ ci) (hcm : ci ≤ maxLen) (hv : RdV w ai (cu64 l)) (hls : ls.length = ns) (hnn : ns ≤ 2000000) (hnd : ns ≤ sc) (hcn : sc ≤ maxLen) (hs : RdV w sa (ls.flatMap sealC)) (hp0 : 0 < ns) (htg : tg.length = 16)  : Calls Tryd.prog 44 #[.agg ([U64 pv, U64 ep, I64 (kd), .slice ai ni ci, .slice sa ns sc, U64 bl] ++ cu8 tg).toArray] w (Post w [] (fun v L => ∃ g sp cap, v = .agg ([U64 pv, U64 ep, I64 kd, .slice ai ni ci, Slc g 0 ns cap, U64 bl] ++ cu8 tg).toArray ∧ L = [⟨g, ls.flatMap sealC ++ sp, 164, (0, 0)⟩] ∧ sp.length = cap * 49 - ns * 49 ∧ ns ≤ cap ∧ cap ≤ maxLen)) := by
 have hmx : maxLen = 9223372036854775807 := rfl
 refine enter (P := Tryd.prog) (f := 44) (fn := Tryd.f44) w [] 13 [] [.agg ([U64 pv, U64 ep, I64 (kd), .slice ai ni ci, .slice sa ns sc, U64 bl] ++ cu8 tg).toArray] Tryd.func44 rfl rfl (by simp) (BY (by simp) (by simp) (by simp)) ?_
 show JC _ _ _ [(0, .agg ([U64 pv, U64 ep, I64 (kd), .slice ai ni ci, .slice sa ns sc, U64 bl] ++ cu8 tg).toArray)] _
 refine AG (AB (A2 (DN (.agg ([U64 pv, U64 ep, I64 (kd), .slice ai ni ci, .slice sa ns sc, U64 bl] ++ cu8 tg).toArray) ([U64 pv, U64 ep, I64 (kd), .slice ai ni ci, .slice sa ns sc, U64 bl] ++ cu8 tg) rfl (by first | rfl | simp)) rfl ?_))
 rintro v1 L1 ⟨nb1, hnb1, rfl, rfl⟩
 show JL _ _ _ _ ((1, Ptr nb1 0) :: _) [⟨nb1, [U64 pv, U64 ep, I64 (kd), .slice ai ni ci, .slice sa ns sc, U64 bl] ++ cu8 tg, 29, (0, 0)⟩]
 refine A2 (BN _ ([U64 0, U64 0, I64 0, .slice none 0 0, .slice none 0 0, U64 0] ++ cu8 (zr8 16)) Tryd.zeroValue38 (by kernel_rfl)) rfl ?_
 rintro v1 L1 ⟨nb2, hnb2, rfl, rfl⟩
 show JL _ _ _ _ ((2, Ptr nb2 0) :: _) [_, ⟨nb2, [U64 0, U64 0, I64 0, .slice none 0 0, .slice none 0 0, U64 0] ++ cu8 (zr8 16), 38, (0, 0)⟩]
 refine AL (AC (AG (CH 13 3 [(0, Ptr nb1 0), (1, U64 pv), (2, Ptr nb1 1), (3, U64 ep), (4, Ptr nb1 2), (5, .agg #[I64 (kd), .slice ai ni ci, .slice sa ns sc, U64 bl]), (7, Ptr nb1 6), (8, .agg (cu8 tg).toArray)] BP rfl (by decide +kernel) ?_)))
 refine C5 ⟨[], [0, 1, 2, 3, 4, 5, 7, 8], [], [0, 1, 2, 3, 4, 5, 7, 8], [6]⟩ 6 _ rfl rfl (by decide +kernel) rfl ⟨⟨_, rfl, AI rfl (AD 0 22 1 AW rfl A1 rfl rfl)⟩, ⟨_, rfl, AI rfl (AM rfl (A6 BD (AT 0 rfl (A8 (Seg.head)))))⟩, ⟨_, rfl, AI rfl (AD 1 22 1 AW rfl A1 rfl rfl)⟩, ⟨_, rfl, AI rfl (AM rfl (A6 BD (AT 0 rfl (A8 (AO (Seg.head))))))⟩, ⟨_, rfl, AI rfl (AD 2 26 4 AW rfl BM rfl rfl)⟩, ⟨_, rfl, AI rfl (AM rfl (A5 ED BM rfl (AT 0 rfl (E9 (p := [U64 pv, U64 ep]) (q := cu8 tg) (vs := [I64 (kd), .slice ai ni ci, .slice sa ns sc, U64 bl]) (by first | rfl | (simp only [List.append_assoc, List.nil_append, List.append_nil, List.cons_append]; done)) rfl))))⟩, ⟨_, rfl, AI rfl (AD 6 27 16 AW rfl BV rfl rfl)⟩, ⟨_, rfl, AI rfl (AM rfl (A5 E2 BV (DY htg) (AT 0 rfl (Seg.right 6 0 rfl rfl (AJ _)))))⟩, trivial⟩ rfl (A7 rfl (B3 66 [.agg #[I64 (kd), .slice ai ni ci, .slice sa ns sc, U64 bl]] _ (AZ _ Tryd.call66 rfl) (fun w1 hw1 => orderP_c (kd) ai ni ci l sa ns sc ls bl w1 hl (by omega) (by omega) (by omega) (FM hw1 rfl hv) hls (by omega) (by omega) (by omega) (FM hw1 rfl hs) (by omega)))) ?_
 rintro v1 L1 ⟨_, ⟨nb3, sp1, cp1, rfl, rfl, hc1, hc2, hc3⟩, rfl⟩
 refine ⟨[(9, .agg ([U64 pv, U64 ep, I64 (kd), .slice ai ni ci, Slc nb3 0 ns cp1, U64 bl] ++ cu8 tg).toArray)], ?_⟩
 show DP _ _ _ _ _ _ _ _ [_, _, ⟨nb3, (ls).flatMap sealC ++ sp1, 164, (0, 0)⟩]
 refine B6 ⟨[6], [0, 1, 2, 3, 4, 5, 7, 8, 9], [4, 5], [0, 1, 2, 3, 7, 8, 9], [10]⟩ 10 rfl rfl (by decide +kernel) rfl ⟨⟨_, rfl, AI rfl (AD 0 22 1 AW rfl A1 rfl rfl)⟩, ⟨_, rfl, AI rfl (AM rfl (A6 BD (AT 0 rfl (A8 (Seg.head)))))⟩, ⟨_, rfl, AI rfl (AD 1 22 1 AW rfl A1 rfl rfl)⟩, ⟨_, rfl, AI rfl (AM rfl (A6 BD (AT 0 rfl (A8 (AO (Seg.head))))))⟩, ⟨_, rfl, AI rfl (AD 6 27 16 AW rfl BV rfl rfl)⟩, ⟨_, rfl, AI rfl (AM rfl (A5 E2 BV (DY htg) (AT 0 rfl (Seg.right 6 0 rfl rfl (AJ _)))))⟩, ⟨_, rfl, AI rfl (DG [(0, U64 pv), (1, U64 ep), (2, .agg #[I64 (kd), .slice ai ni ci, Slc nb3 0 ns cp1, U64 bl]), (3, .agg (cu8 tg).toArray)] _ rfl (fun _ => bld38_0123 rfl rfl (by simp [AN]) (by simp [AN, htg])))⟩, trivial⟩ rfl (A7 rfl (AU 1 nb2 22 ([U64 0, U64 0, I64 0, .slice none 0 0, .slice none 0 0, U64 0] ++ cu8 (zr8 16)) 38 ([U64 pv, U64 ep, I64 (kd), .slice ai ni ci, Slc nb3 0 ns cp1, U64 bl] ++ cu8 tg) rfl rfl rfl B7 (by simp [htg]) (CK (by simp [Value.oneCell']) CF) (by simp [(AN 16)]) (A0 (by simp [(AN 16), htg])))) ?_
 show DP _ _ _ _ _ _ _ _ [_, ⟨nb2, [U64 pv, U64 ep, I64 (kd), .slice ai ni ci, Slc nb3 0 ns cp1, U64 bl] ++ cu8 tg, 38, (0, 0)⟩, _]
 refine C2 ⟨[6, 10], [0, 1, 2, 3, 4, 5, 7, 8, 9], [0, 1, 2, 3, 4, 5, 7, 8, 9], [], []⟩ rfl rfl (by decide +kernel) rfl trivial ?_
 refine CB (F' := [(2, Ptr nb2 0)]) (by kernel_rfl) ?_
 refine AC (BH (B5 [false, true, true] ?_))
 show JQ _ _ _ _ [_, _]
 refine BI (.agg ([U64 pv, U64 ep, I64 (kd), .slice ai ni ci, Slc nb3 0 ns cp1, U64 bl] ++ cu8 tg).toArray) (res1 Tryd.results44 (CQ rfl (A5 DJ B7 (by simp [htg]) (AT 0 rfl (AJ _))))) fun w1 hw1 => ?_
 exact ⟨_, _, rfl, ⟨nb3, sp1, cp1, rfl, rfl, hc1, hc2, hc3⟩, hw1.sub (by simp) (by simp)⟩
theorem bld26_03 {w : World} {v0 : Value} {v3 : Value} (h0 : v0.cells = [v0].toArray) (h3 : v3.cells = [v3].toArray) : (Instr.build 26 ([(0, v0), (3, v3)] : List (Nat × Value)).toArray).run Tryd.prog w = .ok (.agg (((([v0] : List Value) ++ ([.slice none 0 0] : List Value)) ++ ([.slice none 0 0] : List Value)) ++ ([v3] : List Value)).toArray) w :=
 EZ (places := #[(0, 1), (1, 1), (2, 1), (3, 1)]) (Z := (([I64 0] : List Value) ++ (([.slice none 0 0] : List Value) ++ (([.slice none 0 0] : List Value) ++ (([U64 0] : List Value) ++ []))))) (fun _ => by kernel_rfl) AV (fun _ => by kernel_rfl) ((F6 ([I64 0] : List Value) (([.slice none 0 0] : List Value) ++ (([.slice none 0 0] : List Value) ++ (([U64 0] : List Value) ++ []))) ([v0] : List Value) h0 (by simp [AN]) rfl).trans ((GG ([v0] : List Value) ([.slice none 0 0] : List Value) (([.slice none 0 0] : List Value) ++ (([U64 0] : List Value) ++ []))).trans ((GG (([v0] : List Value) ++ ([.slice none 0 0] : List Value)) ([.slice none 0 0] : List Value) (([U64 0] : List Value) ++ [])).trans ((FU ((([v0] : List Value) ++ ([.slice none 0 0] : List Value)) ++ ([.slice none 0 0] : List Value)) ([U64 0] : List Value) [] ([v3] : List Value) h3 (by simp [AN]) rfl).trans (by simp [Instr.fill])))))
theorem alive13_c  (w : World) (hG : GLs w) : Calls Tryd.prog 43 #[] w (Post w [] (fun v L => v = .bool true ∧ L = [])) := by
 have hmx : maxLen = 9223372036854775807 := rfl
 refine enter w [] 39 [] [] Tryd.func43 rfl rfl (by simp) (BY (by simp) (by simp) (by simp)) ?_
 show JC _ _ _ [] _
 refine AG (AB (AA _ (AH rfl) rfl ?_))
 refine AL (AC (AG (AB (AA (.agg (cu8 ([(1:UInt8), 0, 0, 0, 0, 0, 0, 0, 0, 0, 0, 0, 0, 0, 0, 0, 0, 0, 0, 0, 0, 0, 0, 0, 0, 0, 0, 0, 0, 0, 0, 0])).toArray) (DG [(0, U8 1)] _ rfl (fun _ => by kernel_rfl)) rfl ?_))))
 refine AA (.agg #[I64 3, .slice none 0 0, .slice none 0 0, U64 5]) (DG [(0, I64 3), (3, U64 5)] _ rfl (fun _ => bld26_03 rfl rfl)) rfl ?_
 refine A2 (B3 46 [.agg (cu8 ([(1:UInt8), 0, 0, 0, 0, 0, 0, 0, 0, 0, 0, 0, 0, 0, 0, 0, 0, 0, 0, 0, 0, 0, 0, 0, 0, 0, 0, 0, 0, 0, 0, 0])).toArray, U64 0, U64 1, .agg #[I64 3, .slice none 0 0, .slice none 0 0, U64 5]] _ (AZ _ Tryd.call46 rfl) (fun w1 hw1 => sign3_c ([(1:UInt8), 0, 0, 0, 0, 0, 0, 0, 0, 0, 0, 0, 0, 0, 0, 0, 0, 0, 0, 0, 0, 0, 0, 0, 0, 0, 0, 0, 0, 0, 0, 0]) (0:UInt64) (1:UInt64) 3 none 0 none 0 (5:UInt64) 25 w1 rfl (by omega) (fun _ => rfl) (by omega) (fun _ => rfl)  (by decide +kernel) rfl (by decide) (by omega) (hG.at hw1))) rfl ?_
 rintro v1 L1 ⟨_, ⟨ao1, ca1, ao2, ca2, rfl, rfl, hc1, hc2, hc3, hc4⟩, rfl⟩
 show JL _ _ _ _ ((8, .tuple #[.agg ([U64 0, U64 1, I64 3, .slice ao1 0 ca1, .slice ao2 0 ca2, U64 5] ++ cu8 (tkG ([(1:UInt8), 0, 0, 0, 0, 0, 0, 0, 0, 0, 0, 0, 0, 0, 0, 0, 0, 0, 0, 0, 0, 0, 0, 0, 0, 0, 0, 0, 0, 0, 0, 0]) (0:UInt64) (1:UInt64) 3 ([] : List UInt64) ([] : List SealR) (5:UInt64))).toArray, .nilIface]) :: _) []
 refine AA _ (AE rfl) rfl ?_
 refine AA _ (BB rfl rfl) rfl ?_
 refine AA _ (BB rfl rfl) rfl ?_
 refine A2 (BN _ ([U64 0, U64 0, I64 0, .slice none 0 0, .slice none 0 0, U64 0] ++ cu8 (zr8 16)) CG (by kernel_rfl)) rfl ?_
 rintro v1 L1 ⟨nb1, hnb1, rfl, rfl⟩
 show JL _ _ _ _ ((1, Ptr nb1 0) :: _) [⟨nb1, [U64 0, U64 0, I64 0, .slice none 0 0, .slice none 0 0, U64 0] ++ cu8 (zr8 16), 29, (0, 0)⟩]
 refine AY (AU 0 nb1 22 ([U64 0, U64 0, I64 0, .slice none 0 0, .slice none 0 0, U64 0] ++ cu8 (zr8 16)) 29 ([U64 0, U64 1, I64 3, .slice ao1 0 ca1, .slice ao2 0 ca2, U64 5] ++ cu8 (tkG ([(1:UInt8), 0, 0, 0, 0, 0, 0, 0, 0, 0, 0, 0, 0, 0, 0, 0, 0, 0, 0, 0, 0, 0, 0, 0, 0, 0, 0, 0, 0, 0, 0, 0]) (0:UInt64) (1:UInt64) 3 ([] : List UInt64) ([] : List SealR) (5:UInt64))) rfl rfl rfl A3 (by simp [(tkG_len _ _ _ _ _ _ _)]) (CK (by simp [Value.oneCell']) CF) (by simp [(AN 16)]) (A0 (by simp [(AN 16), (tkG_len _ _ _ _ _ _ _)]))) rfl ?_
 show JL _ _ _ _ _ [⟨nb1, [U64 0, U64 1, I64 3, .slice ao1 0 ca1, .slice ao2 0 ca2, U64 5] ++ cu8 (tkG ([(1:UInt8), 0, 0, 0, 0, 0, 0, 0, 0, 0, 0, 0, 0, 0, 0, 0, 0, 0, 0, 0, 0, 0, 0, 0, 0, 0, 0, 0, 0, 0, 0, 0]) (0:UInt64) (1:UInt64) 3 ([] : List UInt64) ([] : List SealR) (5:UInt64)), 29, (0, 0)⟩]
 refine AA _ (AH rfl) rfl ?_
 refine AL (AC (AG (AB (AA (.agg ([U64 0, U64 1, I64 3, .slice ao1 0 ca1, .slice ao2 0 ca2, U64 5] ++ cu8 (tkG ([(1:UInt8), 0, 0, 0, 0, 0, 0, 0, 0, 0, 0, 0, 0, 0, 0, 0, 0, 0, 0, 0, 0, 0, 0, 0, 0, 0, 0, 0, 0, 0, 0, 0]) (0:UInt64) (1:UInt64) 3 ([] : List UInt64) ([] : List SealR) (5:UInt64))).toArray) (AM rfl (A5 BW A3 (by simp [(tkG_len _ _ _ _ _ _ _)]) (AT 0 rfl (AJ _)))) rfl ?_))))
 refine A2 (B3 47 [.agg ([U64 0, U64 1, I64 3, .slice ao1 0 ca1, .slice ao2 0 ca2, U64 5] ++ cu8 (tkG ([(1:UInt8), 0, 0, 0, 0, 0, 0, 0, 0, 0, 0, 0, 0, 0, 0, 0, 0, 0, 0, 0, 0, 0, 0, 0, 0, 0, 0, 0, 0, 0, 0, 0]) (0:UInt64) (1:UInt64) 3 ([] : List UInt64) ([] : List SealR) (5:UInt64))).toArray] _ (AZ _ Tryd.call47 rfl) (fun w1 hw1 => put13_c (0:UInt64) (1:UInt64) 3 ao1 0 ca1 ([] : List UInt64) ao2 0 ca2 ([] : List SealR) (5:UInt64) (tkG ([(1:UInt8), 0, 0, 0, 0, 0, 0, 0, 0, 0, 0, 0, 0, 0, 0, 0, 0, 0, 0, 0, 0, 0, 0, 0, 0, 0, 0, 0, 0, 0, 0, 0]) (0:UInt64) (1:UInt64) 3 ([] : List UInt64) ([] : List SealR) (5:UInt64)) 25 w1 rfl (by omega) (by omega) (by omega) RdV.nil rfl (by omega) (by omega) (by omega) RdV.nil (tkG_len _ _ _ _ _ _ _) (by decide +kernel) (by omega) (by omega) (by decide) (by omega))) rfl ?_
 rintro v1 L1 ⟨_, ⟨nb2, sp1, cp1, rfl, rfl, hc5, hc6, hc7⟩, rfl⟩
 show JL _ _ _ _ ((13, .tuple #[Slc nb2 0 41 cp1, .nilIface]) :: _) [_, ⟨nb2, cu8 ((tktT (0:UInt64) (1:UInt64) 3 ([] : List UInt64) ([] : List SealR) (5:UInt64)) ++ (tkG ([(1:UInt8), 0, 0, 0, 0, 0, 0, 0, 0, 0, 0, 0, 0, 0, 0, 0, 0, 0, 0, 0, 0, 0, 0, 0, 0, 0, 0, 0, 0, 0, 0, 0]) (0:UInt64) (1:UInt64) 3 ([] : List UInt64) ([] : List SealR) (5:UInt64))) ++ sp1, 5, (0, 0)⟩]
 refine AA _ (AE rfl) rfl ?_
 refine AA _ (BB rfl rfl) rfl ?_
 refine AA _ (BB rfl rfl) rfl ?_
 refine AA _ (AH rfl) rfl ?_
 refine AA _ (AH rfl) rfl ?_
 refine AL (AC (AG (AB (AA _ (AE rfl) rfl ?_))))
 refine AA (.bool true) (DT _ _ _ rfl rfl (fun _ => FB ..) fun _ => ES BT) rfl ?_
 refine AA _ (AE rfl) rfl ?_
 refine AS 2 18 true _ _ rfl rfl rfl (AE rfl) rfl ?_
 refine AS 2 18 true _ (.bool true) rfl rfl rfl (DT _ _ _ rfl rfl (fun _ => FB ..) fun _ => ES BT) rfl ?_
 refine AA _ (BO _ rfl rfl rfl) rfl ?_
 refine AA _ (AE rfl) rfl ?_
 refine AS 6 22 true _ _ rfl rfl rfl (AE rfl) rfl ?_
 refine AS 6 22 true _ (I64 41) rfl rfl rfl (DS AR rfl) rfl ?_
 refine AS 6 22 true _ (.bool (decide ((41:Int) = (41:Int)))) rfl rfl rfl (AP rfl rfl fun _ => CA _ _) rfl ?_
 refine AA _ (BO _ rfl rfl rfl) rfl ?_
 refine AA _ (AE rfl) rfl ?_
 refine AS 11 27 true _ _ rfl rfl (by decide) (AE rfl) rfl ?_
 refine AS 11 27 true _ (Ptr nb2 24) rfl rfl (by decide) (Ev_indexSl 5 1 24 AR BC rfl rfl (by omega) (by omega) (by omega)) rfl ?_
 refine AS 11 27 true _ (U8 (g8 ((tktT (0:UInt64) (1:UInt64) 3 ([] : List UInt64) ([] : List SealR) (5:UInt64)) ++ (tkG ([(1:UInt8), 0, 0, 0, 0, 0, 0, 0, 0, 0, 0, 0, 0, 0, 0, 0, 0, 0, 0, 0, 0, 0, 0, 0, 0, 0, 0, 0, 0, 0, 0, 0]) (0:UInt64) (1:UInt64) 3 ([] : List UInt64) ([] : List SealR) (5:UInt64))) 24)) rfl rfl (by decide) (AM rfl (A6 EP (AT 1 rfl (A8 (Seg.get (g8_get (i := 24) (by rw [(show ((tktT (0:UInt64) (1:UInt64) 3 ([] : List UInt64) ([] : List SealR) (5:UInt64)) ++ (tkG ([(1:UInt8), 0, 0, 0, 0, 0, 0, 0, 0, 0, 0, 0, 0, 0, 0, 0, 0, 0, 0, 0, 0, 0, 0, 0, 0, 0, 0, 0, 0, 0, 0, 0]) (0:UInt64) (1:UInt64) 3 ([] : List UInt64) ([] : List SealR) (5:UInt64))).length = 41 from (by rw [List.length_append, (show (tktT (0:UInt64) (1:UInt64) 3 ([] : List UInt64) ([] : List SealR) (5:UInt64)).length = 25 from (tktT_len rfl rfl).trans (by decide)), (tkG_len _ _ _ _ _ _ _)]))]; omega))))))) rfl ?_
 refine AS 11 27 true _ (.bool (decide ((g8 ((tktT (0:UInt64) (1:UInt64) 3 ([] : List UInt64) ([] : List SealR) (5:UInt64)) ++ (tkG ([(1:UInt8), 0, 0, 0, 0, 0, 0, 0, 0, 0, 0, 0, 0, 0, 0, 0, 0, 0, 0, 0, 0, 0, 0, 0, 0, 0, 0, 0, 0, 0, 0, 0]) (0:UInt64) (1:UInt64) 3 ([] : List UInt64) ([] : List SealR) (5:UInt64))) 24) = (5:UInt8)))) rfl rfl (by decide) (AP rfl rfl fun _ => bin_eql_u8 (g8 ((tktT (0:UInt64) (1:UInt64) 3 ([] : List UInt64) ([] : List SealR) (5:UInt64)) ++ (tkG ([(1:UInt8), 0, 0, 0, 0, 0, 0, 0, 0, 0, 0, 0, 0, 0, 0, 0, 0, 0, 0, 0, 0, 0, 0, 0, 0, 0, 0, 0, 0, 0, 0, 0]) (0:UInt64) (1:UInt64) 3 ([] : List UInt64) ([] : List SealR) (5:UInt64))) 24) (5:UInt8)) rfl ?_
 refine AA _ (BO _ rfl (by decide) rfl) rfl ?_
 refine AA _ (AE rfl) rfl ?_
 refine AS 17 33 true _ (.agg (cu8 ([(1:UInt8), 0, 0, 0, 0, 0, 0, 0, 0, 0, 0, 0, 0, 0, 0, 0, 0, 0, 0, 0, 0, 0, 0, 0, 0, 0, 0, 0, 0, 0, 0, 0])).toArray) rfl rfl (by decide +kernel) (DG [(0, U8 1)] _ rfl (fun _ => by kernel_rfl)) rfl ?_
 refine AS 17 33 true _ (.agg ([U64 0, U64 1, I64 3, .slice ao1 0 ca1, .slice ao2 0 ca2, U64 5] ++ cu8 (tkG ([(1:UInt8), 0, 0, 0, 0, 0, 0, 0, 0, 0, 0, 0, 0, 0, 0, 0, 0, 0, 0, 0, 0, 0, 0, 0, 0, 0, 0, 0, 0, 0, 0, 0]) (0:UInt64) (1:UInt64) 3 ([] : List UInt64) ([] : List SealR) (5:UInt64))).toArray) rfl rfl (by decide +kernel) (AM rfl (A5 BW A3 (by simp [(tkG_len _ _ _ _ _ _ _)]) (AT 0 rfl (AJ _)))) rfl ?_
 refine DZ 17 33 true _ rfl rfl (by decide +kernel) (AX 48 [.agg (cu8 ([(1:UInt8), 0, 0, 0, 0, 0, 0, 0, 0, 0, 0, 0, 0, 0, 0, 0, 0, 0, 0, 0, 0, 0, 0, 0, 0, 0, 0, 0, 0, 0, 0, 0])).toArray, .agg ([U64 0, U64 1, I64 3, .slice ao1 0 ca1, .slice ao2 0 ca2, U64 5] ++ cu8 (tkG ([(1:UInt8), 0, 0, 0, 0, 0, 0, 0, 0, 0, 0, 0, 0, 0, 0, 0, 0, 0, 0, 0, 0, 0, 0, 0, 0, 0, 0, 0, 0, 0, 0, 0]) (0:UInt64) (1:UInt64) 3 ([] : List UInt64) ([] : List SealR) (5:UInt64))).toArray] (.nilIface) (AZ _ Tryd.call48 rfl) (fun w1 hw1 => chkK_c ([(1:UInt8), 0, 0, 0, 0, 0, 0, 0, 0, 0, 0, 0, 0, 0, 0, 0, 0, 0, 0, 0, 0, 0, 0, 0, 0, 0, 0, 0, 0, 0, 0, 0]) (0:UInt64) (1:UInt64) 3 ao1 0 ca1 ([] : List UInt64) ao2 0 ca2 ([] : List SealR) (5:UInt64) (tkG ([(1:UInt8), 0, 0, 0, 0, 0, 0, 0, 0, 0, 0, 0, 0, 0, 0, 0, 0, 0, 0, 0, 0, 0, 0, 0, 0, 0, 0, 0, 0, 0, 0, 0]) (0:UInt64) (1:UInt64) 3 ([] : List UInt64) ([] : List SealR) (5:UInt64)) 25 w1 rfl rfl (by omega) (by omega) (by omega) RdV.nil rfl (by omega) (by omega) (by omega) RdV.nil (tkG_len _ _ _ _ _ _ _) (by decide +kernel) (by omega) (by omega) (by decide) (by omega) (hG.at hw1) rfl)) rfl ?_
 rintro v1 L1 ⟨rfl, rfl⟩
 show JL _ _ _ _ ((36, .nilIface) :: _) [_, _]
 refine AS 17 33 true _ (.bool true) rfl rfl (by decide +kernel) (DT _ _ _ rfl rfl (fun _ => FB ..) fun _ => ES BT) rfl ?_
 refine AA _ (BO _ rfl (by decide +kernel) rfl) rfl ?_
 refine AA _ (AH rfl) rfl ?_
 refine AL (AC (BH (B5 [false, false] ?_)))
 show JQ _ _ _ _ []
 refine BI (.bool true) (res1 Tryd.results43 (BU rfl)) fun w1 hw1 => ?_
 exact ⟨_, [], rfl, ⟨by rw [show (true) = true from rfl], rfl⟩, hw1.sub (by simp) (by simp)⟩
end Go.Proofs.YtkdpdgpphpngeaaDoor
namespace Go.Proofs.YtkdpdgpphpngeaaDoor
open Go Go.Sx
attribute [local irreducible] mid zr8 zr32 numK valK rvalK rotr wordL spreadL comprL cpN adN spN constL initL padL stN outN sumG putL RightB tktT mayN idxT selT macL eQ vQ tQ bQ sQ ixQ seQ
theorem numQ_w (rb p s : Nat) (ao : Option Addr) (n c : Nat) (z0 z : List UInt8) (w : World) (h0 : w.heap[rb]? = some (.cells [errV 50 (eQ z0 p), .slice ao n c].toArray 204 (0, 0))) (hz : z.length = n) (hn : n ≤ 2000000000) (hc : n ≤ c) (hcm : c ≤ maxLen) (hr : RdB w [rb] ao z) (hq : Lq z0 z p) (hs : Szd (s : Int)) : Calls Tryd.prog 109 #[Ptr rb 0, I64 (s : Int)] w (Post w [rb] (fun v L => v = U64 (vQ z0 p s) ∧ ∃ ao' z' c', Lq z0 z' (p + s) ∧ Adv ao z c ao' z' c' ∧ L = [⟨rb, [errV 50 (eQ z0 (p + s)), .slice ao' z'.length c'], 204, (0, 0)⟩])) := by
 refine (numR_w rb (eQ z0 p) ao n c z s w h0 hz hn hc hcm hr).mono ?_
 rintro E W ⟨v, L, rfl, ⟨hv, ao', c', hA, hL⟩, hw⟩
 exact ⟨v, L, rfl, ⟨by rw [hv, nuV_q hq hs], ao', _, c', nuZ_q hq hs, hA, by rw [hL, okE_q (NuOk_q hq hs)]⟩, hw⟩
theorem rreadQ_w (p s : Nat) (ao : Option Addr) (n c : Nat) (z0 z : List UInt8) (w : World) (hz : z.length = n) (hn : n ≤ 2000000000) (hc : n ≤ c) (hcm : c ≤ maxLen) (hr : RdB w [] ao z) (hq : Lq z0 z p) (hs : Szd (s : Int)) : Calls Tryd.prog 118 #[.agg #[(.slice ao n c), I64 ((eQ z0 p : Nat))], I64 (s : Int)] w (Post w [] (fun v L => L = [] ∧ ∃ ao' z' c', Lq z0 z' (p + s) ∧ Adv ao z c ao' z' c' ∧ v = .tuple #[U64 (vQ z0 p s), .agg #[(.slice ao' z'.length c'), I64 ((eQ z0 (p + s) : Nat))]])) := by
 refine (rread_w ao n c (eQ z0 p) z s w hz hn hc hcm hr).mono ?_
 rintro E W ⟨v, L, rfl, ⟨hL, ao', c', hv, hA⟩, hw⟩
 exact ⟨v, L, rfl, ⟨hL, ao', _, c', nuZ_q hq hs, hA, by rw [hv, nuV_q hq hs, okE_q (NuOk_q hq hs)]⟩, hw⟩
theorem rtakeQ_w (p s : Nat) (ao : Option Addr) (n c : Nat) (z0 z : List UInt8) (w : World) (hz : z.length = n) (hn : n ≤ 2000000000) (hc : n ≤ c) (hcm : c ≤ maxLen) (hr : RdB w [] ao z) (hq : Lq z0 z p) : Calls Tryd.prog 126 #[.agg #[(.slice ao n c), I64 ((eQ z0 p : Nat))], I64 (s : Int)] w (Post w [] (fun v L => L = [] ∧ ∃ ax cx, (∀ w M, RdB w M ao z → RdB w M ax (tQ z0 p s)) ∧ ∃ ao' z' c', Lq z0 z' (p + s) ∧ Adv ao z c ao' z' c' ∧ v = .tuple #[.slice ax (tQ z0 p s).length cx, .agg #[(.slice ao' z'.length c'), I64 ((eQ z0 (p + s) : Nat))]])) := by
 refine (rtake_w ao n c (eQ z0 p) z s w hz hn hc hcm hr).mono ?_
 rintro E W ⟨v, L, rfl, ⟨hL, ax, cx, ao', c', hv, hX, hA⟩, hw⟩
 exact ⟨v, L, rfl, ⟨hL, ax, cx, by rw [← tkV_q hq]; exact hX, ao', _, c', tkZ_q hq, hA, by rw [hv, tkV_q hq, okE_q (TkOk_q hq)]⟩, hw⟩
theorem rawA_w (rb p s : Nat) (ao : Option Addr) (n c : Nat) (z0 z : List UInt8) (w : World) (h0 : w.heap[rb]? = some (.cells [errV 50 (eQ z0 p), .slice ao n c].toArray 204 (0, 0))) (hz : z.length = n) (hn : n ≤ 2000000000) (hc : n ≤ c) (hcm : c ≤ maxLen) (hr : RdB w [rb] ao z) (hq : Lq z0 z p) (hs0 : 0 < s) : Calls Tryd.prog 127 #[Ptr rb 0, I64 (s : Int)] w (Post w [rb] (fun v L => ∃ ao' z' c', Lq z0 z' (p + s) ∧ Adv ao z c ao' z' c' ∧ ((p + s ≤ z0.length ∧ ∃ g sp cap, v = Slc g 0 s cap ∧ L = [⟨rb, [errV 50 (eQ z0 (p + s)), .slice ao' z'.length c'], 204, (0, 0)⟩, ⟨g, cu8 (bQ z0 p s) ++ sp, 5, (0, 0)⟩] ∧ sp.length = cap - s ∧ s ≤ cap ∧ cap ≤ maxLen) ∨ (¬ p + s ≤ z0.length ∧ v = .slice none 0 0 ∧ L = [⟨rb, [errV 50 (eQ z0 (p + s)), .slice ao' z'.length c'], 204, (0, 0)⟩])))) := by
  by_cases hg : p + s ≤ z0.length
  · have hp : p ≤ z0.length := by omega
    have hl := hq.len hp
    refine (rawROk_c rb (eQ z0 p) ao n c z s (n - s) (c - s) w h0 hz hn hc hcm hr (F7 hp) hs0 (by omega) (by omega) (by omega)).mono ?_
    rintro E W ⟨v, L, rfl, ⟨g, sp, cap, rfl, rfl, h1, h2, h3⟩, hw⟩
    have e1 : mid z 0 s = bQ z0 p s := by rw [bQ, if_pos hg, hq hp]
    have e2 : (z.drop s).length = n - s := by rw [List.length_drop, hz]
    have e3 : eQ z0 p = eQ z0 (p + s) := by rw [F7 hp, F7 hg]
    refine ⟨_, _, rfl, ⟨advA ao c s, z.drop s, c - s, (fun _ => by rw [hq hp, List.drop_drop]), Adv.drop s (by omega) (by omega) hcm, .inl ⟨hg, g, sp, cap, rfl, ?_, h1, h2, h3⟩⟩, hw⟩
    rw [e1, e2, e3]
  · have e3 : erN (eQ z0 p) 2 = eQ z0 (p + s) := by
      rw [eQ_bad hg]; unfold eQ
      by_cases hp : p ≤ z0.length
      · rw [if_pos hp]; rfl
      · rw [if_neg hp]; rfl
    by_cases hp : p ≤ z0.length
    · have hl := hq.len hp
      refine (rawRB0_c rb (eQ z0 p) ao n c s w h0 (F7 hp) (.inr (by omega))).mono ?_
      rintro E W ⟨v, L, rfl, ⟨rfl, rfl⟩, hw⟩
      exact ⟨_, _, rfl, ⟨ao, z, c, (fun h => absurd h hg), Adv.same (by omega) hcm, .inr ⟨hg, rfl, by rw [e3, hz]⟩⟩, hw⟩
    · refine (rawRB1_c rb (eQ z0 p) (.slice ao n c) s w h0 (by rw [eQ_bad hp]; decide) (by omega)).mono ?_
      rintro E W ⟨v, L, rfl, ⟨rfl, rfl⟩, hw⟩
      exact ⟨_, _, rfl, ⟨ao, z, c, (fun h => absurd h hg), Adv.same (by omega) hcm, .inr ⟨hg, rfl, by rw [e3, hz]⟩⟩, hw⟩
theorem rtakeA_w (p s : Nat) (ao : Option Addr) (n c : Nat) (z0 z : List UInt8) (w : World) (hz : z.length = n) (hn : n ≤ 2000000000) (hc : n ≤ c) (hcm : c ≤ maxLen) (hr : RdB w [] ao z) (hq : Lq z0 z p) : Calls Tryd.prog 126 #[.agg #[(.slice ao n c), I64 ((eQ z0 p : Nat))], I64 (s : Int)] w (Post w [] (fun v L => L = [] ∧ ∃ ao' z' c', Lq z0 z' (p + s) ∧ Adv ao z c ao' z' c' ∧ ((p + s ≤ z0.length ∧ ∃ ax cx, (∀ w M, RdB w M ao z → RdB w M ax (bQ z0 p s)) ∧ v = .tuple #[.slice ax s cx, .agg #[(.slice ao' z'.length c'), I64 ((eQ z0 (p + s) : Nat))]]) ∨ (¬ p + s ≤ z0.length ∧ ∃ ax cx, v = .tuple #[.slice ax 0 cx, .agg #[(.slice ao' z'.length c'), I64 ((eQ z0 (p + s) : Nat))]])))) := by
  refine (rtakeQ_w p s ao n c z0 z w hz hn hc hcm hr hq).mono ?_
  rintro E W ⟨v, L, rfl, ⟨hL, ax, cx, hX, ao', z', c', hq', hA, hv⟩, hw⟩
  refine ⟨v, L, rfl, ⟨hL, ao', z', c', hq', hA, ?_⟩, hw⟩
  by_cases hg : p + s ≤ z0.length
  · have ht : tQ z0 p s = bQ z0 p s := by rw [tQ, bQ, if_pos hg, if_pos hg]
    rw [ht] at hX hv
    rw [BJ] at hv
    exact .inl ⟨hg, ax, cx, hX, hv⟩
  · have ht : tQ z0 p s = [] := by rw [tQ, if_neg hg]
    rw [ht] at hv
    exact .inr ⟨hg, ax, cx, hv⟩
theorem rtakeL_w (p s : Nat) (ao : Option Addr) (n c : Nat) (z0 z : List UInt8) (w : World) (hz : z.length = n) (hn : n ≤ 2000000000) (hc : n ≤ c) (hcm : c ≤ maxLen) (hr : RdB w [] ao z) (hq : Lq z0 z p) : Calls Tryd.prog 126 #[.agg #[(.slice ao n c), I64 ((eQ z0 p : Nat))], I64 (s : Int)] w (Post w [] (fun v L => L = [] ∧ ∃ ao' z' c', Lq z0 z' (p + s) ∧ Adv ao z c ao' z' c' ∧ ((p + s ≤ z0.length ∧ ∃ ax cx, (∀ w M, RdB w M ao z → RdB w M ax (bQ z0 p s)) ∧ v = .tuple #[.slice ax s cx, .agg #[(.slice ao' z'.length c'), I64 (0)]]) ∨ (¬ p + s ≤ z0.length ∧ ∃ ax cx, v = .tuple #[.slice ax 0 cx, .agg #[(.slice ao' z'.length c'), I64 (2)]])))) := by
  refine (rtakeA_w p s ao n c z0 z w hz hn hc hcm hr hq).mono ?_
  rintro E W ⟨v, L, rfl, ⟨hL, ao', z', c', hq', hA, hv⟩, hw⟩
  refine ⟨v, L, rfl, ⟨hL, ao', z', c', hq', hA, ?_⟩, hw⟩
  rcases hv with ⟨hg, ax, cx, hX, hv⟩ | ⟨hg, ax, cx, hv⟩
  · exact .inl ⟨hg, ax, cx, hX, by rw [hv, F7 hg]; rfl⟩
  · exact .inr ⟨hg, ax, cx, by rw [hv, eQ_bad hg]; rfl⟩
theorem rtakeB_w (s : Nat) (ao : Option Addr) (n c : Nat) (z : List UInt8) (w : World) (hz : z.length = n) (hn : n ≤ 2000000000) (hc : n ≤ c) (hcm : c ≤ maxLen) (hr : RdB w [] ao z) : Calls Tryd.prog 126 #[.agg #[(.slice ao n c), I64 (2)], I64 (s : Int)] w (Post w [] (fun v L => L = [] ∧ ∃ ax cx ao' z' c', Adv ao z c ao' z' c' ∧ v = .tuple #[.slice ax 0 cx, .agg #[(.slice ao' z'.length c'), I64 (2)]])) := by
 refine (rtake_w ao n c 2 z s w hz hn hc hcm hr).mono ?_
 rintro E W ⟨v, L, rfl, ⟨hL, ax, cx, ao', c', hv, hX, hA⟩, hw⟩
 have hk : ¬ TkOk z 2 (s:Int) := fun h => absurd h.1 (by decide)
 refine ⟨v, L, rfl, ⟨hL, ax, cx, ao', _, c', hA, ?_⟩, hw⟩
 rw [hv, show tkV z 2 (s:Int) = [] from if_neg hk, show okE 2 (decide (TkOk z 2 (s:Int))) = 2 by rw [decide_eq_false hk]; rfl]; rfl
theorem bld161_0 {w : World} {v0 : Value} (h0 : v0.cells = [v0].toArray) : (Instr.build 161 ([(0, v0)] : List (Nat × Value)).toArray).run Tryd.prog w = .ok (.agg ((([v0] : List Value) ++ (cu8 (zr8 32) : List Value)) ++ (cu8 (zr8 16) : List Value)).toArray) w :=
 EZ (places := #[(0, 1), (1, 32), (33, 16)]) (Z := (([U64 0] : List Value) ++ ((cu8 (zr8 32) : List Value) ++ ((cu8 (zr8 16) : List Value) ++ [])))) (fun _ => by kernel_rfl) CX (fun _ => by kernel_rfl) ((F6 ([U64 0] : List Value) ((cu8 (zr8 32) : List Value) ++ ((cu8 (zr8 16) : List Value) ++ [])) ([v0] : List Value) h0 (by simp [AN]) rfl).trans ((GG ([v0] : List Value) (cu8 (zr8 32) : List Value) ((cu8 (zr8 16) : List Value) ++ [])).trans ((GG (([v0] : List Value) ++ (cu8 (zr8 32) : List Value)) (cu8 (zr8 16) : List Value) []).trans (by simp [Instr.fill]))))
theorem sreadQ_c (rb p : Nat) (ao : Option Addr) (n c : Nat) (z0 z : List UInt8)  (w : World) (h0 : w.heap[rb]? = some (.cells [errV 50 (eQ z0 p), .slice ao n c].toArray 204 (0, 0))) (hz : z.length = n) (hn : n ≤ 2000000000) (hc : n ≤ c) (hcm : c ≤ maxLen) (hr : RdB w [rb] ao z) (hq : Lq z0 z p)  : Calls Tryd.prog 120 #[Ptr rb 0] w (Post w [rb] (fun v L => v = .agg ([U64 (vQ z0 p 8)] ++ cu8 (bQ z0 (p + 8) 32) ++ cu8 (bQ z0 (p + 40) 16)).toArray ∧ ∃ ao' z' c', Lq z0 z' (p + 56) ∧ Adv ao z c ao' z' c' ∧ L = [⟨rb, [errV 50 (eQ z0 (p + 56)), .slice ao' z'.length c'], 204, (0, 0)⟩])) := by
 have hmx : maxLen = 9223372036854775807 := rfl
 refine enter w [rb] 18 [⟨rb, [errV 50 (eQ z0 p), .slice ao n c], 204, (0, 0)⟩] [Ptr rb 0] Tryd.func120 rfl rfl (by simp) (BY (by simpa using h0) (by simp) (by simp)) ?_
 show JC _ _ _ [(0, Ptr rb 0)] _
 refine AG (AB (A2 (BN _ ([U64 0] ++ cu8 (zr8 32) ++ cu8 (zr8 16)) Tryd.zeroValue161 (by kernel_rfl)) rfl ?_))
 rintro v1 L1 ⟨nb1, hnb1, rfl, rfl⟩
 show JL _ _ _ _ ((2, Ptr nb1 0) :: _) [_, ⟨nb1, [U64 0] ++ cu8 (zr8 32) ++ cu8 (zr8 16), 161, (0, 0)⟩]
 refine AL (AC (AG (AB (AA _ (AE rfl) rfl ?_))))
 have hz1 : (z).length = n := hz
 refine A2 (DE 109 _ [true, false] [rb] _ (AZ [Ptr rb 0, I64 8] Tryd.call109 rfl) rfl (fun w1 hw1 => numQ_w rb p 8 ao n c z0 z w1 (hw1.ent _ (List.mem_of_getElem? (i := 0) rfl)) hz (by omega) (by omega) (by omega) ((fun _ _ h => h) _ _ (hr.at (M' := [rb]) hw1 (hw1.apart [0] _ rfl))) hq (by unfold Szd; omega))) rfl ?_
 rintro v1 L1 ⟨_, ⟨rfl, ao1, zz1, ca1, hq1, ⟨hA1, hb1, hb2, hb3⟩, rfl⟩, rfl⟩
 show JL _ _ _ _ ((5, U64 (vQ z0 p 8)) :: _) [_, ⟨rb, [errV 50 (eQ z0 (p + 8)), .slice ao1 zz1.length ca1], 204, (0, 0)⟩]
 refine AA (.agg ([U64 (vQ z0 p 8)] ++ cu8 (zr8 32) ++ cu8 (zr8 16)).toArray) (DG [(0, U64 (vQ z0 p 8))] _ rfl (fun _ => bld161_0 rfl)) rfl ?_
 refine A2 (BN _ ([U64 0] ++ cu8 (zr8 32) ++ cu8 (zr8 16)) Tryd.zeroValue161 (by kernel_rfl)) rfl ?_
 rintro v1 L1 ⟨nb2, hnb2, rfl, rfl⟩
 show JL _ _ _ _ ((3, Ptr nb2 0) :: _) [_, _, ⟨nb2, [U64 0] ++ cu8 (zr8 32) ++ cu8 (zr8 16), 161, (0, 0)⟩]
 refine AY (AU 2 nb2 49 ([U64 0] ++ cu8 (zr8 32) ++ cu8 (zr8 16)) 161 ([U64 (vQ z0 p 8)] ++ cu8 (zr8 32) ++ cu8 (zr8 16)) rfl rfl rfl CD (by simp [(AN 32), (AN 16)]) (CK (CK (by simp [Value.oneCell']) CF) CF) (by simp [(AN 32), (AN 16)]) (A0 (by simp [(AN 32), (AN 16), (AN 32), (AN 16)]))) rfl ?_
 show JL _ _ _ _ _ [_, _, ⟨nb2, [U64 (vQ z0 p 8)] ++ cu8 (zr8 32) ++ cu8 (zr8 16), 161, (0, 0)⟩]
 refine AL (AC (AG (CH 18 3 [(0, Ptr nb2 1), (1, Slc nb2 1 32 32), (2, Ptr rb 0)] BP rfl (by decide +kernel) ?_)))
 have hz2 : (zz1).length = zz1.length := rfl
 refine C5 ⟨[], [0, 1, 2], [], [0, 1, 2], [3]⟩ 3 _ rfl rfl (by decide +kernel) rfl ⟨⟨_, rfl, AI rfl (AD 1 159 32 CX rfl EN rfl rfl)⟩, ⟨_, rfl, AI rfl (CI 32 5 1 0 32 1 32 D5 BC rfl rfl rfl (by omega) (by omega) (by omega) (by omega) (by omega) 32 (by omega))⟩, BQ rfl rfl rfl, trivial⟩ rfl (A7 rfl (DE 127 _ [false, true, false] [rb] _ (AZ [Ptr rb 0, I64 32] Tryd.call127 rfl) rfl (fun w1 hw1 => rawA_w rb (p + 8) 32 ao1 zz1.length ca1 z0 zz1 w1 (hw1.ent _ (List.mem_of_getElem? (i := 1) rfl)) rfl (by omega) (by omega) (by omega) ((fun w M h => hA1 w M ((fun _ _ h => h) w M h)) _ _ (hr.at (M' := [rb]) hw1 (hw1.apart [1] _ rfl))) hq1 (by omega)))) ?_
 rintro v1 L1 ⟨_, ⟨ao2, zz2, ca2, hq2, ⟨hA2, hb4, hb5, hb6⟩, (⟨hg1, nb3, sp1, cp1, rfl, rfl, hc1, hc2, hc3⟩ | ⟨hg1, rfl, rfl⟩)⟩, rfl⟩
 ·
  refine ⟨[], ?_⟩
  show DP _ _ _ _ _ _ _ _ [_, _, ⟨rb, [errV 50 (eQ z0 (p + 40)), .slice ao2 zz2.length ca2], 204, (0, 0)⟩, ⟨nb3, cu8 (bQ z0 (p + 8) 32) ++ sp1, 5, (0, 0)⟩]
  refine B6 ⟨[3], [0, 1, 2], [2], [0, 1], [4]⟩ 4 rfl rfl (by decide +kernel) rfl ⟨⟨_, rfl, AI rfl (AD 1 159 32 CX rfl EN rfl rfl)⟩, ⟨_, rfl, AI rfl (CI 32 5 1 0 32 1 32 D5 BC rfl rfl rfl (by omega) (by omega) (by omega) (by omega) (by omega) 32 (by omega))⟩, trivial⟩ rfl (A7 rfl (DX 43 43 5 1 nb2 1 32 32 ([U64 (vQ z0 p 8)] ++ cu8 (zr8 32) ++ cu8 (zr8 16)) 161 (some ⟨nb3, 0, none⟩) 32 cp1 32 (cu8 (bQ z0 (p + 8) 32)) ([U64 (vQ z0 p 8)] ++ cu8 (bQ z0 (p + 8) 32) ++ cu8 (zr8 16)) AR C6 rfl rfl rfl rfl (by simp [(show (bQ z0 (p + 8) 32).length = 32 from (BJ _ _ _))]; try omega) (SrcAt.mem (AT 3 rfl (A8 (AJ _)))) (by simp [(AN 32), (AN 16)]; try omega) (by first | exact CF | exact EI | exact EE | (simp [cu8, cu32, cu64, Value.oneCell']; done)) (EV (p := [U64 (vQ z0 p 8)] ++ cu8 (zr8 32)) (vs := cu8 (bQ z0 (p + 8) 32)) (o := 1) (by simp [(AN 32), (show (bQ z0 (p + 8) 32).length = 32 from (BJ _ _ _))]) (FO 1 0 rfl rfl (A0 (by simp [(AN 32), (show (bQ z0 (p + 8) 32).length = 32 from (BJ _ _ _))])))))) ?_
  show DP _ _ _ _ _ _ _ _ [_, ⟨nb2, [U64 (vQ z0 p 8)] ++ cu8 (bQ z0 (p + 8) 32) ++ cu8 (zr8 16), 161, (0, 0)⟩, _, _]
  refine C2 ⟨[3, 4], [0, 1, 2], [0, 1, 2], [], []⟩ rfl rfl (by decide +kernel) rfl trivial ?_
  refine CB (F' := [(0, Ptr rb 0), (2, Ptr nb1 0), (3, Ptr nb2 0)]) (by kernel_rfl) ?_
  refine AC (AG (CH 18 3 [(0, Ptr nb2 33), (1, Slc nb2 33 16 16), (2, Ptr rb 0)] BP rfl (by decide +kernel) ?_))
  have hz3 : (zz2).length = zz2.length := rfl
  refine C5 ⟨[], [0, 1, 2], [], [0, 1, 2], [3]⟩ 3 _ rfl rfl (by decide +kernel) rfl ⟨⟨_, rfl, AI rfl (AD 33 27 16 CX rfl BV rfl rfl)⟩, ⟨_, rfl, AI rfl (CI 16 5 1 0 16 33 16 BX BC rfl rfl rfl (by omega) (by omega) (by omega) (by omega) (by omega) 16 (by omega))⟩, BQ rfl rfl rfl, trivial⟩ rfl (A7 rfl (DE 127 _ [false, false, true, false] [rb] _ (AZ [Ptr rb 0, I64 16] Tryd.call127 rfl) rfl (fun w1 hw1 => rawA_w rb (p + 40) 16 ao2 zz2.length ca2 z0 zz2 w1 (hw1.ent _ (List.mem_of_getElem? (i := 2) rfl)) rfl (by omega) (by omega) (by omega) ((fun w M h => hA2 w M ((fun w M h => hA1 w M ((fun _ _ h => h) w M h)) w M h)) _ _ (hr.at (M' := [rb]) hw1 (hw1.apart [2] _ rfl))) hq2 (by omega)))) ?_
  rintro v1 L1 ⟨_, ⟨ao3, zz3, ca3, hq3, ⟨hA3, hb7, hb8, hb9⟩, (⟨hg2, nb4, sp2, cp2, rfl, rfl, hc4, hc5, hc6⟩ | ⟨hg2, rfl, rfl⟩)⟩, rfl⟩
  ·
   refine ⟨[], ?_⟩
   show DP _ _ _ _ _ _ _ _ [_, _, _, ⟨rb, [errV 50 (eQ z0 (p + 56)), .slice ao3 zz3.length ca3], 204, (0, 0)⟩, ⟨nb4, cu8 (bQ z0 (p + 40) 16) ++ sp2, 5, (0, 0)⟩]
   refine B6 ⟨[3], [0, 1, 2], [2], [0, 1], [4]⟩ 4 rfl rfl (by decide +kernel) rfl ⟨⟨_, rfl, AI rfl (AD 33 27 16 CX rfl BV rfl rfl)⟩, ⟨_, rfl, AI rfl (CI 16 5 1 0 16 33 16 BX BC rfl rfl rfl (by omega) (by omega) (by omega) (by omega) (by omega) 16 (by omega))⟩, trivial⟩ rfl (A7 rfl (DX 43 43 5 1 nb2 33 16 16 ([U64 (vQ z0 p 8)] ++ cu8 (bQ z0 (p + 8) 32) ++ cu8 (zr8 16)) 161 (some ⟨nb4, 0, none⟩) 16 cp2 16 (cu8 (bQ z0 (p + 40) 16)) ([U64 (vQ z0 p 8)] ++ cu8 (bQ z0 (p + 8) 32) ++ cu8 (bQ z0 (p + 40) 16)) AR C6 rfl rfl rfl rfl (by simp [(show (bQ z0 (p + 40) 16).length = 16 from (BJ _ _ _))]; try omega) (SrcAt.mem (AT 4 rfl (A8 (AJ _)))) (by simp [(show (bQ z0 (p + 8) 32).length = 32 from (BJ _ _ _)), (AN 16)]; try omega) (by first | exact CF | exact EI | exact EE | (simp [cu8, cu32, cu64, Value.oneCell']; done)) (FO 33 0 (by simp [(show (bQ z0 (p + 8) 32).length = 32 from (BJ _ _ _))]) rfl (A0 (by simp [(AN 16), (show (bQ z0 (p + 40) 16).length = 16 from (BJ _ _ _))]))))) ?_
   show DP _ _ _ _ _ _ _ _ [_, ⟨nb2, [U64 (vQ z0 p 8)] ++ cu8 (bQ z0 (p + 8) 32) ++ cu8 (bQ z0 (p + 40) 16), 161, (0, 0)⟩, _, _, _]
   refine C2 ⟨[3, 4], [0, 1, 2], [0, 1, 2], [], []⟩ rfl rfl (by decide +kernel) rfl trivial ?_
   refine CB (F' := [(2, Ptr nb1 0), (3, Ptr nb2 0)]) (by kernel_rfl) ?_
   refine AC (AG (AB (AA (.agg ([U64 (vQ z0 p 8)] ++ cu8 (bQ z0 (p + 8) 32) ++ cu8 (bQ z0 (p + 40) 16)).toArray) (AM rfl (A5 D1 CD (by simp [(show (bQ z0 (p + 8) 32).length = 32 from (BJ _ _ _)), (show (bQ z0 (p + 40) 16).length = 16 from (BJ _ _ _))]) (AT 1 rfl (AJ _)))) rfl ?_)))
   refine AY (AU 0 nb1 49 ([U64 0] ++ cu8 (zr8 32) ++ cu8 (zr8 16)) 161 ([U64 (vQ z0 p 8)] ++ cu8 (bQ z0 (p + 8) 32) ++ cu8 (bQ z0 (p + 40) 16)) rfl rfl rfl CD (by simp [(show (bQ z0 (p + 8) 32).length = 32 from (BJ _ _ _)), (show (bQ z0 (p + 40) 16).length = 16 from (BJ _ _ _))]) (CK (CK (by simp [Value.oneCell']) CF) CF) (by simp [(AN 32), (AN 16)]) (A0 (by simp [(AN 32), (AN 16), (show (bQ z0 (p + 8) 32).length = 32 from (BJ _ _ _)), (show (bQ z0 (p + 40) 16).length = 16 from (BJ _ _ _))]))) rfl ?_
   show JL _ _ _ _ _ [⟨nb1, [U64 (vQ z0 p 8)] ++ cu8 (bQ z0 (p + 8) 32) ++ cu8 (bQ z0 (p + 40) 16), 161, (0, 0)⟩, _, _, _, _]
   refine AL (AC (BH (B5 [true, false, false, true, false] ?_)))
   show JQ _ _ _ _ [_, _]
   refine BI (.agg ([U64 (vQ z0 p 8)] ++ cu8 (bQ z0 (p + 8) 32) ++ cu8 (bQ z0 (p + 40) 16)).toArray) (res1 Tryd.results120 (CQ rfl (A5 D1 CD (by simp [(show (bQ z0 (p + 8) 32).length = 32 from (BJ _ _ _)), (show (bQ z0 (p + 40) 16).length = 16 from (BJ _ _ _))]) (AT 0 rfl (AJ _))))) fun w1 hw1 => ?_
   first | (exfalso; omega) | exact ⟨_, _, rfl, ⟨rfl, ao3, zz3, ca3, hq3, ⟨(fun w M h => hA3 w M ((fun w M h => hA2 w M ((fun w M h => hA1 w M ((fun _ _ h => h) w M h)) w M h)) w M h)), by omega, by omega, by omega⟩, rfl⟩, hw1.sub (by simp) (by simp)⟩
  ·
   refine ⟨[], ?_⟩
   show DP _ _ _ _ _ _ _ _ [_, _, _, ⟨rb, [errV 50 (eQ z0 (p + 56)), .slice ao3 zz3.length ca3], 204, (0, 0)⟩]
   refine B6 ⟨[3], [0, 1, 2], [2], [0, 1], [4]⟩ 4 rfl rfl (by decide +kernel) rfl ⟨⟨_, rfl, AI rfl (AD 33 27 16 CX rfl BV rfl rfl)⟩, ⟨_, rfl, AI rfl (CI 16 5 1 0 16 33 16 BX BC rfl rfl rfl (by omega) (by omega) (by omega) (by omega) (by omega) 16 (by omega))⟩, trivial⟩ rfl (A7 rfl (DX 43 43 5 1 nb2 33 16 16 ([U64 (vQ z0 p 8)] ++ cu8 (bQ z0 (p + 8) 32) ++ cu8 (zr8 16)) 161 none 0 0 0 [] ([U64 (vQ z0 p 8)] ++ cu8 (bQ z0 (p + 8) 32) ++ cu8 (zr8 16)) AR C6 rfl rfl rfl rfl rfl SrcAt.nil (by simp [(show (bQ z0 (p + 8) 32).length = 32 from (BJ _ _ _)), (AN 16)]) GE (GF _ _))) ?_
   show DP _ _ _ _ _ _ _ _ [_, _, _, _]
   refine C2 ⟨[3, 4], [0, 1, 2], [0, 1, 2], [], []⟩ rfl rfl (by decide +kernel) rfl trivial ?_
   refine CB (F' := [(2, Ptr nb1 0), (3, Ptr nb2 0)]) (by kernel_rfl) ?_
   refine AC (AG (AB (AA (.agg ([U64 (vQ z0 p 8)] ++ cu8 (bQ z0 (p + 8) 32) ++ cu8 (zr8 16)).toArray) (AM rfl (A5 D1 CD (by simp [(show (bQ z0 (p + 8) 32).length = 32 from (BJ _ _ _)), (AN 16)]) (AT 1 rfl (AJ _)))) rfl ?_)))
   refine AY (AU 0 nb1 49 ([U64 0] ++ cu8 (zr8 32) ++ cu8 (zr8 16)) 161 ([U64 (vQ z0 p 8)] ++ cu8 (bQ z0 (p + 8) 32) ++ cu8 (zr8 16)) rfl rfl rfl CD (by simp [(show (bQ z0 (p + 8) 32).length = 32 from (BJ _ _ _)), (AN 16)]) (CK (CK (by simp [Value.oneCell']) CF) CF) (by simp [(AN 32), (AN 16)]) (A0 (by simp [(AN 32), (AN 16), (show (bQ z0 (p + 8) 32).length = 32 from (BJ _ _ _)), (AN 16)]))) rfl ?_
   show JL _ _ _ _ _ [⟨nb1, [U64 (vQ z0 p 8)] ++ cu8 (bQ z0 (p + 8) 32) ++ cu8 (zr8 16), 161, (0, 0)⟩, _, _, _]
   refine AL (AC (BH (B5 [true, false, false, true] ?_)))
   show JQ _ _ _ _ [_, _]
   refine BI (.agg ([U64 (vQ z0 p 8)] ++ cu8 (bQ z0 (p + 8) 32) ++ cu8 (zr8 16)).toArray) (res1 Tryd.results120 (CQ rfl (A5 D1 CD (by simp [(show (bQ z0 (p + 8) 32).length = 32 from (BJ _ _ _)), (AN 16)]) (AT 0 rfl (AJ _))))) fun w1 hw1 => ?_
   first | (exfalso; omega) | exact ⟨_, _, rfl, ⟨by rw [show bQ z0 (p + 40) 16 = zr8 16 from bQ_neg (by omega)], ao3, zz3, ca3, hq3, ⟨(fun w M h => hA3 w M ((fun w M h => hA2 w M ((fun w M h => hA1 w M ((fun _ _ h => h) w M h)) w M h)) w M h)), by omega, by omega, by omega⟩, rfl⟩, hw1.sub (by simp) (by simp)⟩
 ·
  refine ⟨[], ?_⟩
  show DP _ _ _ _ _ _ _ _ [_, _, ⟨rb, [errV 50 (eQ z0 (p + 40)), .slice ao2 zz2.length ca2], 204, (0, 0)⟩]
  refine B6 ⟨[3], [0, 1, 2], [2], [0, 1], [4]⟩ 4 rfl rfl (by decide +kernel) rfl ⟨⟨_, rfl, AI rfl (AD 1 159 32 CX rfl EN rfl rfl)⟩, ⟨_, rfl, AI rfl (CI 32 5 1 0 32 1 32 D5 BC rfl rfl rfl (by omega) (by omega) (by omega) (by omega) (by omega) 32 (by omega))⟩, trivial⟩ rfl (A7 rfl (DX 43 43 5 1 nb2 1 32 32 ([U64 (vQ z0 p 8)] ++ cu8 (zr8 32) ++ cu8 (zr8 16)) 161 none 0 0 0 [] ([U64 (vQ z0 p 8)] ++ cu8 (zr8 32) ++ cu8 (zr8 16)) AR C6 rfl rfl rfl rfl rfl SrcAt.nil (by simp [(AN 32), (AN 16)]) GE (GF _ _))) ?_
  show DP _ _ _ _ _ _ _ _ [_, _, _]
  refine C2 ⟨[3, 4], [0, 1, 2], [0, 1, 2], [], []⟩ rfl rfl (by decide +kernel) rfl trivial ?_
  refine CB (F' := [(0, Ptr rb 0), (2, Ptr nb1 0), (3, Ptr nb2 0)]) (by kernel_rfl) ?_
  refine AC (AG (CH 18 3 [(0, Ptr nb2 33), (1, Slc nb2 33 16 16), (2, Ptr rb 0)] BP rfl (by decide +kernel) ?_))
  have hz4 : (zz2).length = zz2.length := rfl
  refine C5 ⟨[], [0, 1, 2], [], [0, 1, 2], [3]⟩ 3 _ rfl rfl (by decide +kernel) rfl ⟨⟨_, rfl, AI rfl (AD 33 27 16 CX rfl BV rfl rfl)⟩, ⟨_, rfl, AI rfl (CI 16 5 1 0 16 33 16 BX BC rfl rfl rfl (by omega) (by omega) (by omega) (by omega) (by omega) 16 (by omega))⟩, BQ rfl rfl rfl, trivial⟩ rfl (A7 rfl (DE 127 _ [false, false, true] [rb] _ (AZ [Ptr rb 0, I64 16] Tryd.call127 rfl) rfl (fun w1 hw1 => rawA_w rb (p + 40) 16 ao2 zz2.length ca2 z0 zz2 w1 (hw1.ent _ (List.mem_of_getElem? (i := 2) rfl)) rfl (by omega) (by omega) (by omega) ((fun w M h => hA2 w M ((fun w M h => hA1 w M ((fun _ _ h => h) w M h)) w M h)) _ _ (hr.at (M' := [rb]) hw1 (hw1.apart [2] _ rfl))) hq2 (by omega)))) ?_
  rintro v1 L1 ⟨_, ⟨ao4, zz4, ca4, hq4, ⟨hA4, hb10, hb11, hb12⟩, (⟨hg3, nb5, sp3, cp3, rfl, rfl, hc7, hc8, hc9⟩ | ⟨hg3, rfl, rfl⟩)⟩, rfl⟩
  ·
   refine ⟨[], ?_⟩
   show DP _ _ _ _ _ _ _ _ [_, _, ⟨rb, [errV 50 (eQ z0 (p + 56)), .slice ao4 zz4.length ca4], 204, (0, 0)⟩, ⟨nb5, cu8 (bQ z0 (p + 40) 16) ++ sp3, 5, (0, 0)⟩]
   refine B6 ⟨[3], [0, 1, 2], [2], [0, 1], [4]⟩ 4 rfl rfl (by decide +kernel) rfl ⟨⟨_, rfl, AI rfl (AD 33 27 16 CX rfl BV rfl rfl)⟩, ⟨_, rfl, AI rfl (CI 16 5 1 0 16 33 16 BX BC rfl rfl rfl (by omega) (by omega) (by omega) (by omega) (by omega) 16 (by omega))⟩, trivial⟩ rfl (A7 rfl (DX 43 43 5 1 nb2 33 16 16 ([U64 (vQ z0 p 8)] ++ cu8 (zr8 32) ++ cu8 (zr8 16)) 161 (some ⟨nb5, 0, none⟩) 16 cp3 16 (cu8 (bQ z0 (p + 40) 16)) ([U64 (vQ z0 p 8)] ++ cu8 (zr8 32) ++ cu8 (bQ z0 (p + 40) 16)) AR C6 rfl rfl rfl rfl (by simp [(show (bQ z0 (p + 40) 16).length = 16 from (BJ _ _ _))]; try omega) (SrcAt.mem (AT 3 rfl (A8 (AJ _)))) (by simp [(AN 32), (AN 16)]; try omega) (by first | exact CF | exact EI | exact EE | (simp [cu8, cu32, cu64, Value.oneCell']; done)) (FO 33 0 (by simp [(AN 32)]) rfl (A0 (by simp [(AN 16), (show (bQ z0 (p + 40) 16).length = 16 from (BJ _ _ _))]))))) ?_
   show DP _ _ _ _ _ _ _ _ [_, ⟨nb2, [U64 (vQ z0 p 8)] ++ cu8 (zr8 32) ++ cu8 (bQ z0 (p + 40) 16), 161, (0, 0)⟩, _, _]
   refine C2 ⟨[3, 4], [0, 1, 2], [0, 1, 2], [], []⟩ rfl rfl (by decide +kernel) rfl trivial ?_
   refine CB (F' := [(2, Ptr nb1 0), (3, Ptr nb2 0)]) (by kernel_rfl) ?_
   refine AC (AG (AB (AA (.agg ([U64 (vQ z0 p 8)] ++ cu8 (zr8 32) ++ cu8 (bQ z0 (p + 40) 16)).toArray) (AM rfl (A5 D1 CD (by simp [(AN 32), (show (bQ z0 (p + 40) 16).length = 16 from (BJ _ _ _))]) (AT 1 rfl (AJ _)))) rfl ?_)))
   refine AY (AU 0 nb1 49 ([U64 0] ++ cu8 (zr8 32) ++ cu8 (zr8 16)) 161 ([U64 (vQ z0 p 8)] ++ cu8 (zr8 32) ++ cu8 (bQ z0 (p + 40) 16)) rfl rfl rfl CD (by simp [(AN 32), (show (bQ z0 (p + 40) 16).length = 16 from (BJ _ _ _))]) (CK (CK (by simp [Value.oneCell']) CF) CF) (by simp [(AN 32), (AN 16)]) (A0 (by simp [(AN 32), (AN 16), (AN 32), (show (bQ z0 (p + 40) 16).length = 16 from (BJ _ _ _))]))) rfl ?_
   show JL _ _ _ _ _ [⟨nb1, [U64 (vQ z0 p 8)] ++ cu8 (zr8 32) ++ cu8 (bQ z0 (p + 40) 16), 161, (0, 0)⟩, _, _, _]
   refine AL (AC (BH (B5 [true, false, true, false] ?_)))
   show JQ _ _ _ _ [_, _]
   refine BI (.agg ([U64 (vQ z0 p 8)] ++ cu8 (zr8 32) ++ cu8 (bQ z0 (p + 40) 16)).toArray) (res1 Tryd.results120 (CQ rfl (A5 D1 CD (by simp [(AN 32), (show (bQ z0 (p + 40) 16).length = 16 from (BJ _ _ _))]) (AT 0 rfl (AJ _))))) fun w1 hw1 => ?_
   first | (exfalso; omega) | exact ⟨_, _, rfl, ⟨by rw [show bQ z0 (p + 8) 32 = zr8 32 from bQ_neg (by omega)], ao4, zz4, ca4, hq4, ⟨(fun w M h => hA4 w M ((fun w M h => hA2 w M ((fun w M h => hA1 w M ((fun _ _ h => h) w M h)) w M h)) w M h)), by omega, by omega, by omega⟩, rfl⟩, hw1.sub (by simp) (by simp)⟩
  ·
   refine ⟨[], ?_⟩
   show DP _ _ _ _ _ _ _ _ [_, _, ⟨rb, [errV 50 (eQ z0 (p + 56)), .slice ao4 zz4.length ca4], 204, (0, 0)⟩]
   refine B6 ⟨[3], [0, 1, 2], [2], [0, 1], [4]⟩ 4 rfl rfl (by decide +kernel) rfl ⟨⟨_, rfl, AI rfl (AD 33 27 16 CX rfl BV rfl rfl)⟩, ⟨_, rfl, AI rfl (CI 16 5 1 0 16 33 16 BX BC rfl rfl rfl (by omega) (by omega) (by omega) (by omega) (by omega) 16 (by omega))⟩, trivial⟩ rfl (A7 rfl (DX 43 43 5 1 nb2 33 16 16 ([U64 (vQ z0 p 8)] ++ cu8 (zr8 32) ++ cu8 (zr8 16)) 161 none 0 0 0 [] ([U64 (vQ z0 p 8)] ++ cu8 (zr8 32) ++ cu8 (zr8 16)) AR C6 rfl rfl rfl rfl rfl SrcAt.nil (by simp [(AN 32), (AN 16)]) GE (GF _ _))) ?_
   show DP _ _ _ _ _ _ _ _ [_, _, _]
   refine C2 ⟨[3, 4], [0, 1, 2], [0, 1, 2], [], []⟩ rfl rfl (by decide +kernel) rfl trivial ?_
   refine CB (F' := [(2, Ptr nb1 0), (3, Ptr nb2 0)]) (by kernel_rfl) ?_
   refine AC (AG (AB (AA (.agg ([U64 (vQ z0 p 8)] ++ cu8 (zr8 32) ++ cu8 (zr8 16)).toArray) (AM rfl (A5 D1 CD (by simp [(AN 32), (AN 16)]) (AT 1 rfl (AJ _)))) rfl ?_)))
   refine AY (AU 0 nb1 49 ([U64 0] ++ cu8 (zr8 32) ++ cu8 (zr8 16)) 161 ([U64 (vQ z0 p 8)] ++ cu8 (zr8 32) ++ cu8 (zr8 16)) rfl rfl rfl CD (by simp [(AN 32), (AN 16)]) (CK (CK (by simp [Value.oneCell']) CF) CF) (by simp [(AN 32), (AN 16)]) (A0 (by simp [(AN 32), (AN 16), (AN 32), (AN 16)]))) rfl ?_
   show JL _ _ _ _ _ [⟨nb1, [U64 (vQ z0 p 8)] ++ cu8 (zr8 32) ++ cu8 (zr8 16), 161, (0, 0)⟩, _, _]
   refine AL (AC (BH (B5 [true, false, true] ?_)))
   show JQ _ _ _ _ [_, _]
   refine BI (.agg ([U64 (vQ z0 p 8)] ++ cu8 (zr8 32) ++ cu8 (zr8 16)).toArray) (res1 Tryd.results120 (CQ rfl (A5 D1 CD (by simp [(AN 32), (AN 16)]) (AT 0 rfl (AJ _))))) fun w1 hw1 => ?_
   first | (exfalso; omega) | exact ⟨_, _, rfl, ⟨by rw [show bQ z0 (p + 8) 32 = zr8 32 from bQ_neg (by omega), show bQ z0 (p + 40) 16 = zr8 16 from bQ_neg (by omega)], ao4, zz4, ca4, hq4, ⟨(fun w M h => hA4 w M ((fun w M h => hA2 w M ((fun w M h => hA1 w M ((fun _ _ h => h) w M h)) w M h)) w M h)), by omega, by omega, by omega⟩, rfl⟩, hw1.sub (by simp) (by simp)⟩
theorem rsreadQ_c (p : Nat) (ao : Option Addr) (n c : Nat) (z0 z : List UInt8)  (w : World) (hz : z.length = n) (hn : n ≤ 2000000000) (hc : n ≤ c) (hcm : c ≤ maxLen) (hr : RdB w [] ao z) (hq : Lq z0 z p)  : Calls Tryd.prog 124 #[.agg #[.slice ao n c, I64 ((eQ z0 p:Int))]] w (Post w [] (fun v L => L = [] ∧ ∃ ao' z' c', Lq z0 z' (p + 56) ∧ Adv ao z c ao' z' c' ∧ v = .tuple #[.agg ([U64 (vQ z0 p 8)] ++ cu8 (bQ z0 (p + 8) 32) ++ cu8 (bQ z0 (p + 40) 16)).toArray, .agg #[(.slice ao' z'.length c'), I64 ((eQ z0 (p + 56) : Nat))]])) := by
 have hmx : maxLen = 9223372036854775807 := rfl
 refine enter (P := Tryd.prog) (f := 124) (fn := Tryd.f124) w [] 35 [] [.agg #[.slice ao n c, I64 ((eQ z0 p:Int))]] Tryd.func124 rfl rfl (by simp) (BY (by simp) (by simp) (by simp)) ?_
 show JC _ _ _ [(0, .agg #[.slice ao n c, I64 ((eQ z0 p:Int))])] _
 refine AG (AB (A2 (DN (.agg #[.slice ao n c, I64 ((eQ z0 p:Int))]) ([.slice ao n c, I64 ((eQ z0 p:Int))]) rfl (by first | rfl | simp)) rfl ?_))
 rintro v1 L1 ⟨nb1, hnb1, rfl, rfl⟩
 show JL _ _ _ _ ((1, Ptr nb1 0) :: _) [⟨nb1, [.slice ao n c, I64 ((eQ z0 p:Int))], 107, (0, 0)⟩]
 refine A2 (BN _ ([U64 0] ++ cu8 (zr8 32) ++ cu8 (zr8 16)) E1 (by kernel_rfl)) rfl ?_
 rintro v1 L1 ⟨nb2, hnb2, rfl, rfl⟩
 show JL _ _ _ _ ((2, Ptr nb2 0) :: _) [_, ⟨nb2, [U64 0] ++ cu8 (zr8 32) ++ cu8 (zr8 16), 164, (0, 0)⟩]
 refine A2 (BN _ ([.slice none 0 0, I64 0]) C7 (by kernel_rfl)) rfl ?_
 rintro v1 L1 ⟨nb3, hnb3, rfl, rfl⟩
 show JL _ _ _ _ ((3, Ptr nb3 0) :: _) [_, _, ⟨nb3, [.slice none 0 0, I64 0], 107, (0, 0)⟩]
 refine AL (AC (AG (AB (A2 (BN _ ([U64 0] ++ cu8 (zr8 32) ++ cu8 (zr8 16)) E1 (by kernel_rfl)) rfl ?_))))
 rintro v1 L1 ⟨nb4, hnb4, rfl, rfl⟩
 show JL _ _ _ _ ((4, Ptr nb4 0) :: _) [_, _, _, ⟨nb4, [U64 0] ++ cu8 (zr8 32) ++ cu8 (zr8 16), 164, (0, 0)⟩]
 refine AL (AC (AG (AB (AA (.agg #[.slice ao n c, I64 ((eQ z0 p:Int))]) (AM rfl (A5 AQ AK rfl (AT 0 rfl (AJ _)))) rfl ?_))))
 have hz1 : (z).length = n := hz
 refine A2 (B3 118 [.agg #[.slice ao n c, I64 ((eQ z0 p:Int))], I64 8] _ (AZ _ Tryd.call118 rfl) (fun w1 hw1 => rreadQ_w p 8 ao n c z0 z w1 hz (by omega) (by omega) (by omega) (hr.at (M' := []) hw1 (by simp)) hq (by unfold Szd; omega))) rfl ?_
 rintro v1 L1 ⟨_, ⟨rfl, ao1, zz1, ca1, hq1, ⟨hA1, hb1, hb2, hb3⟩, rfl⟩, rfl⟩
 show JL _ _ _ _ ((10, .tuple #[U64 (vQ z0 p 8), .agg #[.slice ao1 zz1.length ca1, I64 ((eQ z0 (p + 8):Int))]]) :: _) [_, _, _, _]
 refine AA _ (AE rfl) rfl ?_
 refine AA _ (BB rfl rfl) rfl ?_
 refine AA _ (BB rfl rfl) rfl ?_
 refine AA _ (AH rfl) rfl ?_
 refine AY (AU 0 nb1 2 ([.slice ao n c, I64 ((eQ z0 p:Int))]) 107 ([.slice ao1 zz1.length ca1, I64 ((eQ z0 (p + 8):Int))]) rfl rfl rfl AK rfl (by simp [Value.oneCell']) (Nat.le_of_ble_eq_true rfl) (A0 (by simp []))) rfl ?_
 show JL _ _ _ _ _ [⟨nb1, [.slice ao1 zz1.length ca1, I64 ((eQ z0 (p + 8):Int))], 107, (0, 0)⟩, _, _, _]
 refine AL (AC (AG (AB (AA (.agg #[.slice ao1 zz1.length ca1, I64 ((eQ z0 (p + 8):Int))]) (AM rfl (A5 AQ AK rfl (AT 0 rfl (AJ _)))) rfl ?_))))
 have hz2 : (zz1).length = zz1.length := rfl
 refine A2 (B3 126 [.agg #[.slice ao1 zz1.length ca1, I64 ((eQ z0 (p + 8):Int))], I64 32] _ (AZ _ D2 rfl) (fun w1 hw1 => rtakeA_w (p + 8) 32 ao1 zz1.length ca1 z0 zz1 w1 rfl (by omega) (by omega) (by omega) ((hA1 _ _ hr).at (M' := []) hw1 (by simp)) hq1)) rfl ?_
 rintro v1 L1 ⟨_, ⟨rfl, ao2, zz2, ca2, hq2, ⟨hA2, hb4, hb5, hb6⟩, (⟨hg1, ax1, cx1, hX1, rfl⟩ | ⟨hg1, ax1, cx1, rfl⟩)⟩, rfl⟩
 ·
  show JL _ _ _ _ ((15, .tuple #[.slice ax1 32 cx1, .agg #[.slice ao2 zz2.length ca2, I64 ((eQ z0 (p + 40):Int))]]) :: _) [_, _, _, _]
  refine AA _ (AE rfl) rfl ?_
  refine AA _ (BB rfl rfl) rfl ?_
  refine AA _ (BB rfl rfl) rfl ?_
  refine AA _ (AH rfl) rfl ?_
  refine AY (AU 0 nb1 2 ([.slice ao1 zz1.length ca1, I64 ((eQ z0 (p + 8):Int))]) 107 ([.slice ao2 zz2.length ca2, I64 ((eQ z0 (p + 40):Int))]) rfl rfl rfl AK rfl (by simp [Value.oneCell']) (Nat.le_of_ble_eq_true rfl) (A0 (by simp []))) rfl ?_
  show JL _ _ _ _ _ [⟨nb1, [.slice ao2 zz2.length ca2, I64 ((eQ z0 (p + 40):Int))], 107, (0, 0)⟩, _, _, _]
  refine AL (AC (AG (AB (AA (.agg #[.slice ao2 zz2.length ca2, I64 ((eQ z0 (p + 40):Int))]) (AM rfl (A5 AQ AK rfl (AT 0 rfl (AJ _)))) rfl ?_))))
  have hz3 : (zz2).length = zz2.length := rfl
  refine A2 (B3 126 [.agg #[.slice ao2 zz2.length ca2, I64 ((eQ z0 (p + 40):Int))], I64 16] _ (AZ _ D2 rfl) (fun w1 hw1 => rtakeA_w (p + 40) 16 ao2 zz2.length ca2 z0 zz2 w1 rfl (by omega) (by omega) (by omega) ((hA2 _ _ (hA1 _ _ hr)).at (M' := []) hw1 (by simp)) hq2)) rfl ?_
  rintro v1 L1 ⟨_, ⟨rfl, ao3, zz3, ca3, hq3, ⟨hA3, hb7, hb8, hb9⟩, (⟨hg2, ax2, cx2, hX2, rfl⟩ | ⟨hg2, ax2, cx2, rfl⟩)⟩, rfl⟩
  ·
   show JL _ _ _ _ ((20, .tuple #[.slice ax2 16 cx2, .agg #[.slice ao3 zz3.length ca3, I64 ((eQ z0 (p + 56):Int))]]) :: _) [_, _, _, _]
   refine AA _ (AE rfl) rfl ?_
   refine AA _ (BB rfl rfl) rfl ?_
   refine AA _ (BB rfl rfl) rfl ?_
   refine AA _ (AH rfl) rfl ?_
   refine AY (AU 0 nb1 2 ([.slice ao2 zz2.length ca2, I64 ((eQ z0 (p + 40):Int))]) 107 ([.slice ao3 zz3.length ca3, I64 ((eQ z0 (p + 56):Int))]) rfl rfl rfl AK rfl (by simp [Value.oneCell']) (Nat.le_of_ble_eq_true rfl) (A0 (by simp []))) rfl ?_
   show JL _ _ _ _ _ [⟨nb1, [.slice ao3 zz3.length ca3, I64 ((eQ z0 (p + 56):Int))], 107, (0, 0)⟩, _, _, _]
   refine AL (AC (AG (AB (AA _ (AE rfl) rfl ?_))))
   refine AA (Ptr nb4 0) (AD 0 22 1 DH rfl A1 rfl rfl) rfl ?_
   refine AY (C0 3 nb4 0 1 ([U64 0] ++ cu8 (zr8 32) ++ cu8 (zr8 16)) 164 (U64 (vQ z0 p 8)) ([U64 (vQ z0 p 8)]) ([U64 (vQ z0 p 8)] ++ cu8 (zr8 32) ++ cu8 (zr8 16)) rfl rfl rfl rfl A1 rfl (by simp [Value.oneCell']) (by simp [(AN 32), (AN 16)]) (EV (p := [U64 0] ++ cu8 (zr8 32)) (vs := [U64 (vQ z0 p 8)]) (o := 0) (by simp [(AN 32)]) (EV (p := [U64 0]) (vs := [U64 (vQ z0 p 8)]) (o := 0) (by simp []) (A0 (by simp []))))) rfl ?_
   show JL _ _ _ _ _ [_, _, _, ⟨nb4, [U64 (vQ z0 p 8)] ++ cu8 (zr8 32) ++ cu8 (zr8 16), 164, (0, 0)⟩]
   refine AL (AC (AG (AB (AA (Ptr nb4 1) (AD 1 159 32 DH rfl EN rfl rfl) rfl ?_))))
   refine AA (Slc nb4 1 32 32) (CI 32 5 1 0 32 1 32 D5 BC rfl rfl rfl (by omega) (by omega) (by omega) (by omega) (by omega) 32 (by omega)) rfl ?_
   refine AA _ (AE rfl) rfl ?_
   refine AY (DX 43 43 5 3 nb4 1 32 32 ([U64 (vQ z0 p 8)] ++ cu8 (zr8 32) ++ cu8 (zr8 16)) 164 ax1 32 cx1 32 (cu8 (bQ z0 (p + 8) 32)) ([U64 (vQ z0 p 8)] ++ cu8 (bQ z0 (p + 8) 32) ++ cu8 (zr8 16)) AR C6 rfl rfl rfl rfl (by simp [(BJ _ _ _)]; try omega) ((hX1 _ _ (hA1 _ _ hr)).src) (by simp [(AN 32), (AN 16)]; try omega) (by first | exact CF | exact EI | exact EE | (simp [cu8, cu32, cu64, Value.oneCell']; done)) (EV (p := [U64 (vQ z0 p 8)] ++ cu8 (zr8 32)) (vs := cu8 (bQ z0 (p + 8) 32)) (o := 1) (by simp [(AN 32), (BJ _ _ _)]) (FO 1 0 rfl rfl (A0 (by simp [(AN 32), (BJ _ _ _)]))))) rfl ?_
   show JL _ _ _ _ ((28, I64 32) :: _) [_, _, _, ⟨nb4, [U64 (vQ z0 p 8)] ++ cu8 (bQ z0 (p + 8) 32) ++ cu8 (zr8 16), 164, (0, 0)⟩]
   refine AL (AC (AG (AB (AA (Ptr nb4 33) (AD 33 27 16 DH rfl BV rfl rfl) rfl ?_))))
   refine AA (Slc nb4 33 16 16) (CI 16 5 1 0 16 33 16 BX BC rfl rfl rfl (by omega) (by omega) (by omega) (by omega) (by omega) 16 (by omega)) rfl ?_
   refine AA _ (AE rfl) rfl ?_
   refine AY (DX 43 43 5 3 nb4 33 16 16 ([U64 (vQ z0 p 8)] ++ cu8 (bQ z0 (p + 8) 32) ++ cu8 (zr8 16)) 164 ax2 16 cx2 16 (cu8 (bQ z0 (p + 40) 16)) ([U64 (vQ z0 p 8)] ++ cu8 (bQ z0 (p + 8) 32) ++ cu8 (bQ z0 (p + 40) 16)) AR C6 rfl rfl rfl rfl (by simp [(BJ _ _ _)]; try omega) ((hX2 _ _ (hA2 _ _ (hA1 _ _ hr))).src) (by simp [(BJ _ _ _), (AN 16)]; try omega) (by first | exact CF | exact EI | exact EE | (simp [cu8, cu32, cu64, Value.oneCell']; done)) (FO 33 0 (by simp [(BJ _ _ _)]) rfl (A0 (by simp [(AN 16), (BJ _ _ _)])))) rfl ?_
   show JL _ _ _ _ ((32, I64 16) :: _) [_, _, _, ⟨nb4, [U64 (vQ z0 p 8)] ++ cu8 (bQ z0 (p + 8) 32) ++ cu8 (bQ z0 (p + 40) 16), 164, (0, 0)⟩]
   refine AL (AC (AG (CH 35 3 [(0, .agg ([U64 (vQ z0 p 8)] ++ cu8 (bQ z0 (p + 8) 32) ++ cu8 (bQ z0 (p + 40) 16)).toArray), (1, .agg #[.slice ao3 zz3.length ca3, I64 ((eQ z0 (p + 56):Int))])] BP rfl (by decide +kernel) ?_)))
   refine B6 ⟨[], [0, 1], [], [0, 1], [2]⟩ 2 rfl rfl (by decide +kernel) rfl ⟨⟨_, rfl, AI rfl (AM rfl (A5 EW CS (by simp [(BJ _ _ _), (BJ _ _ _)]) (AT 3 rfl (AJ _))))⟩, ⟨_, rfl, AI rfl (AM rfl (A5 AQ AK rfl (AT 0 rfl (AJ _))))⟩, trivial⟩ rfl (A7 rfl (AU 1 nb2 49 ([U64 0] ++ cu8 (zr8 32) ++ cu8 (zr8 16)) 164 ([U64 (vQ z0 p 8)] ++ cu8 (bQ z0 (p + 8) 32) ++ cu8 (bQ z0 (p + 40) 16)) rfl rfl rfl CS (by simp [(BJ _ _ _), (BJ _ _ _)]) (CK (CK (by simp [Value.oneCell']) CF) CF) (by simp [(AN 32), (AN 16)]) (A0 (by simp [(AN 32), (AN 16), (BJ _ _ _), (BJ _ _ _)])))) ?_
   show DP _ _ _ _ _ _ _ _ [_, ⟨nb2, [U64 (vQ z0 p 8)] ++ cu8 (bQ z0 (p + 8) 32) ++ cu8 (bQ z0 (p + 40) 16), 164, (0, 0)⟩, _, _]
   refine B6 ⟨[2], [0, 1], [0], [1], [3]⟩ 3 rfl rfl (by decide +kernel) rfl ⟨⟨_, rfl, AI rfl (AM rfl (A5 AQ AK rfl (AT 0 rfl (AJ _))))⟩, trivial⟩ rfl (A7 rfl (AU 2 nb3 2 ([.slice none 0 0, I64 0]) 107 ([.slice ao3 zz3.length ca3, I64 ((eQ z0 (p + 56):Int))]) rfl rfl rfl AK rfl (by simp [Value.oneCell']) (Nat.le_of_ble_eq_true rfl) (A0 (by simp [])))) ?_
   show DP _ _ _ _ _ _ _ _ [_, _, ⟨nb3, [.slice ao3 zz3.length ca3, I64 ((eQ z0 (p + 56):Int))], 107, (0, 0)⟩, _]
   refine C2 ⟨[2, 3], [0, 1], [0, 1], [], []⟩ rfl rfl (by decide +kernel) rfl trivial ?_
   refine CB (F' := [(2, Ptr nb2 0), (3, Ptr nb3 0)]) (by kernel_rfl) ?_
   refine AC (BH (B5 [false, true, true, false] ?_))
   show JQ _ _ _ _ [_, _]
   refine BI (.tuple #[.agg ([U64 (vQ z0 p 8)] ++ cu8 (bQ z0 (p + 8) 32) ++ cu8 (bQ z0 (p + 40) 16)).toArray, .agg #[.slice ao3 zz3.length ca3, I64 ((eQ z0 (p + 56):Int))]]) (res2 Tryd.results124 (CQ rfl (A5 EW CS (by simp [(BJ _ _ _), (BJ _ _ _)]) (AT 0 rfl (AJ _)))) (CQ rfl (A5 AQ AK rfl (AT 1 rfl (AJ _))))) fun w1 hw1 => ?_
   first | (exfalso; omega) | exact ⟨_, _, rfl, ⟨rfl, ao3, zz3, ca3, hq3, ⟨(by intro w M h; first | exact (hA3 _ _ (hA2 _ _ (hA1 _ _ h)))), by omega, by omega, by omega⟩, rfl⟩, hw1.sub (by simp) (by simp)⟩
  ·
   show JL _ _ _ _ ((20, .tuple #[.slice ax2 0 cx2, .agg #[.slice ao3 zz3.length ca3, I64 ((eQ z0 (p + 56):Int))]]) :: _) [_, _, _, _]
   refine AA _ (AE rfl) rfl ?_
   refine AA _ (BB rfl rfl) rfl ?_
   refine AA _ (BB rfl rfl) rfl ?_
   refine AA _ (AH rfl) rfl ?_
   refine AY (AU 0 nb1 2 ([.slice ao2 zz2.length ca2, I64 ((eQ z0 (p + 40):Int))]) 107 ([.slice ao3 zz3.length ca3, I64 ((eQ z0 (p + 56):Int))]) rfl rfl rfl AK rfl (by simp [Value.oneCell']) (Nat.le_of_ble_eq_true rfl) (A0 (by simp []))) rfl ?_
   show JL _ _ _ _ _ [⟨nb1, [.slice ao3 zz3.length ca3, I64 ((eQ z0 (p + 56):Int))], 107, (0, 0)⟩, _, _, _]
   refine AL (AC (AG (AB (AA _ (AE rfl) rfl ?_))))
   refine AA (Ptr nb4 0) (AD 0 22 1 DH rfl A1 rfl rfl) rfl ?_
   refine AY (C0 3 nb4 0 1 ([U64 0] ++ cu8 (zr8 32) ++ cu8 (zr8 16)) 164 (U64 (vQ z0 p 8)) ([U64 (vQ z0 p 8)]) ([U64 (vQ z0 p 8)] ++ cu8 (zr8 32) ++ cu8 (zr8 16)) rfl rfl rfl rfl A1 rfl (by simp [Value.oneCell']) (by simp [(AN 32), (AN 16)]) (EV (p := [U64 0] ++ cu8 (zr8 32)) (vs := [U64 (vQ z0 p 8)]) (o := 0) (by simp [(AN 32)]) (EV (p := [U64 0]) (vs := [U64 (vQ z0 p 8)]) (o := 0) (by simp []) (A0 (by simp []))))) rfl ?_
   show JL _ _ _ _ _ [_, _, _, ⟨nb4, [U64 (vQ z0 p 8)] ++ cu8 (zr8 32) ++ cu8 (zr8 16), 164, (0, 0)⟩]
   refine AL (AC (AG (AB (AA (Ptr nb4 1) (AD 1 159 32 DH rfl EN rfl rfl) rfl ?_))))
   refine AA (Slc nb4 1 32 32) (CI 32 5 1 0 32 1 32 D5 BC rfl rfl rfl (by omega) (by omega) (by omega) (by omega) (by omega) 32 (by omega)) rfl ?_
   refine AA _ (AE rfl) rfl ?_
   refine AY (DX 43 43 5 3 nb4 1 32 32 ([U64 (vQ z0 p 8)] ++ cu8 (zr8 32) ++ cu8 (zr8 16)) 164 ax1 32 cx1 32 (cu8 (bQ z0 (p + 8) 32)) ([U64 (vQ z0 p 8)] ++ cu8 (bQ z0 (p + 8) 32) ++ cu8 (zr8 16)) AR C6 rfl rfl rfl rfl (by simp [(BJ _ _ _)]; try omega) ((hX1 _ _ (hA1 _ _ hr)).src) (by simp [(AN 32), (AN 16)]; try omega) (by first | exact CF | exact EI | exact EE | (simp [cu8, cu32, cu64, Value.oneCell']; done)) (EV (p := [U64 (vQ z0 p 8)] ++ cu8 (zr8 32)) (vs := cu8 (bQ z0 (p + 8) 32)) (o := 1) (by simp [(AN 32), (BJ _ _ _)]) (FO 1 0 rfl rfl (A0 (by simp [(AN 32), (BJ _ _ _)]))))) rfl ?_
   show JL _ _ _ _ ((28, I64 32) :: _) [_, _, _, ⟨nb4, [U64 (vQ z0 p 8)] ++ cu8 (bQ z0 (p + 8) 32) ++ cu8 (zr8 16), 164, (0, 0)⟩]
   refine AL (AC (AG (AB (AA (Ptr nb4 33) (AD 33 27 16 DH rfl BV rfl rfl) rfl ?_))))
   refine AA (Slc nb4 33 16 16) (CI 16 5 1 0 16 33 16 BX BC rfl rfl rfl (by omega) (by omega) (by omega) (by omega) (by omega) 16 (by omega)) rfl ?_
   refine AA _ (AE rfl) rfl ?_
   refine AY (DX 43 43 5 3 nb4 33 16 16 ([U64 (vQ z0 p 8)] ++ cu8 (bQ z0 (p + 8) 32) ++ cu8 (zr8 16)) 164 ax2 0 cx2 0 [] ([U64 (vQ z0 p 8)] ++ cu8 (bQ z0 (p + 8) 32) ++ cu8 (zr8 16)) AR C6 rfl rfl rfl rfl rfl SrcAt.nil (by simp [(BJ _ _ _), (AN 16)]) GE (GF _ _)) rfl ?_
   show JL _ _ _ _ ((32, I64 0) :: _) [_, _, _, _]
   refine AL (AC (AG (CH 35 3 [(0, .agg ([U64 (vQ z0 p 8)] ++ cu8 (bQ z0 (p + 8) 32) ++ cu8 (zr8 16)).toArray), (1, .agg #[.slice ao3 zz3.length ca3, I64 ((eQ z0 (p + 56):Int))])] BP rfl (by decide +kernel) ?_)))
   refine B6 ⟨[], [0, 1], [], [0, 1], [2]⟩ 2 rfl rfl (by decide +kernel) rfl ⟨⟨_, rfl, AI rfl (AM rfl (A5 EW CS (by simp [(BJ _ _ _), (AN 16)]) (AT 3 rfl (AJ _))))⟩, ⟨_, rfl, AI rfl (AM rfl (A5 AQ AK rfl (AT 0 rfl (AJ _))))⟩, trivial⟩ rfl (A7 rfl (AU 1 nb2 49 ([U64 0] ++ cu8 (zr8 32) ++ cu8 (zr8 16)) 164 ([U64 (vQ z0 p 8)] ++ cu8 (bQ z0 (p + 8) 32) ++ cu8 (zr8 16)) rfl rfl rfl CS (by simp [(BJ _ _ _), (AN 16)]) (CK (CK (by simp [Value.oneCell']) CF) CF) (by simp [(AN 32), (AN 16)]) (A0 (by simp [(AN 32), (AN 16), (BJ _ _ _), (AN 16)])))) ?_
   show DP _ _ _ _ _ _ _ _ [_, ⟨nb2, [U64 (vQ z0 p 8)] ++ cu8 (bQ z0 (p + 8) 32) ++ cu8 (zr8 16), 164, (0, 0)⟩, _, _]
   refine B6 ⟨[2], [0, 1], [0], [1], [3]⟩ 3 rfl rfl (by decide +kernel) rfl ⟨⟨_, rfl, AI rfl (AM rfl (A5 AQ AK rfl (AT 0 rfl (AJ _))))⟩, trivial⟩ rfl (A7 rfl (AU 2 nb3 2 ([.slice none 0 0, I64 0]) 107 ([.slice ao3 zz3.length ca3, I64 ((eQ z0 (p + 56):Int))]) rfl rfl rfl AK rfl (by simp [Value.oneCell']) (Nat.le_of_ble_eq_true rfl) (A0 (by simp [])))) ?_
   show DP _ _ _ _ _ _ _ _ [_, _, ⟨nb3, [.slice ao3 zz3.length ca3, I64 ((eQ z0 (p + 56):Int))], 107, (0, 0)⟩, _]
   refine C2 ⟨[2, 3], [0, 1], [0, 1], [], []⟩ rfl rfl (by decide +kernel) rfl trivial ?_
   refine CB (F' := [(2, Ptr nb2 0), (3, Ptr nb3 0)]) (by kernel_rfl) ?_
   refine AC (BH (B5 [false, true, true, false] ?_))
   show JQ _ _ _ _ [_, _]
   refine BI (.tuple #[.agg ([U64 (vQ z0 p 8)] ++ cu8 (bQ z0 (p + 8) 32) ++ cu8 (zr8 16)).toArray, .agg #[.slice ao3 zz3.length ca3, I64 ((eQ z0 (p + 56):Int))]]) (res2 Tryd.results124 (CQ rfl (A5 EW CS (by simp [(BJ _ _ _), (AN 16)]) (AT 0 rfl (AJ _)))) (CQ rfl (A5 AQ AK rfl (AT 1 rfl (AJ _))))) fun w1 hw1 => ?_
   first | (exfalso; omega) | exact ⟨_, _, rfl, ⟨rfl, ao3, zz3, ca3, hq3, ⟨(by intro w M h; first | exact (hA3 _ _ (hA2 _ _ (hA1 _ _ h)))), by omega, by omega, by omega⟩, by rw [show bQ z0 (p + 40) 16 = zr8 16 from bQ_neg (by omega)]⟩, hw1.sub (by simp) (by simp)⟩
 ·
  show JL _ _ _ _ ((15, .tuple #[.slice ax1 0 cx1, .agg #[.slice ao2 zz2.length ca2, I64 ((eQ z0 (p + 40):Int))]]) :: _) [_, _, _, _]
  refine AA _ (AE rfl) rfl ?_
  refine AA _ (BB rfl rfl) rfl ?_
  refine AA _ (BB rfl rfl) rfl ?_
  refine AA _ (AH rfl) rfl ?_
  refine AY (AU 0 nb1 2 ([.slice ao1 zz1.length ca1, I64 ((eQ z0 (p + 8):Int))]) 107 ([.slice ao2 zz2.length ca2, I64 ((eQ z0 (p + 40):Int))]) rfl rfl rfl AK rfl (by simp [Value.oneCell']) (Nat.le_of_ble_eq_true rfl) (A0 (by simp []))) rfl ?_
  show JL _ _ _ _ _ [⟨nb1, [.slice ao2 zz2.length ca2, I64 ((eQ z0 (p + 40):Int))], 107, (0, 0)⟩, _, _, _]
  refine AL (AC (AG (AB (AA (.agg #[.slice ao2 zz2.length ca2, I64 ((eQ z0 (p + 40):Int))]) (AM rfl (A5 AQ AK rfl (AT 0 rfl (AJ _)))) rfl ?_))))
  have hz4 : (zz2).length = zz2.length := rfl
  refine A2 (B3 126 [.agg #[.slice ao2 zz2.length ca2, I64 ((eQ z0 (p + 40):Int))], I64 16] _ (AZ _ D2 rfl) (fun w1 hw1 => rtakeA_w (p + 40) 16 ao2 zz2.length ca2 z0 zz2 w1 rfl (by omega) (by omega) (by omega) ((hA2 _ _ (hA1 _ _ hr)).at (M' := []) hw1 (by simp)) hq2)) rfl ?_
  rintro v1 L1 ⟨_, ⟨rfl, ao4, zz4, ca4, hq4, ⟨hA4, hb10, hb11, hb12⟩, (⟨hg3, ax3, cx3, hX3, rfl⟩ | ⟨hg3, ax3, cx3, rfl⟩)⟩, rfl⟩
  ·
   show JL _ _ _ _ ((20, .tuple #[.slice ax3 16 cx3, .agg #[.slice ao4 zz4.length ca4, I64 ((eQ z0 (p + 56):Int))]]) :: _) [_, _, _, _]
   refine AA _ (AE rfl) rfl ?_
   refine AA _ (BB rfl rfl) rfl ?_
   refine AA _ (BB rfl rfl) rfl ?_
   refine AA _ (AH rfl) rfl ?_
   refine AY (AU 0 nb1 2 ([.slice ao2 zz2.length ca2, I64 ((eQ z0 (p + 40):Int))]) 107 ([.slice ao4 zz4.length ca4, I64 ((eQ z0 (p + 56):Int))]) rfl rfl rfl AK rfl (by simp [Value.oneCell']) (Nat.le_of_ble_eq_true rfl) (A0 (by simp []))) rfl ?_
   show JL _ _ _ _ _ [⟨nb1, [.slice ao4 zz4.length ca4, I64 ((eQ z0 (p + 56):Int))], 107, (0, 0)⟩, _, _, _]
   refine AL (AC (AG (AB (AA _ (AE rfl) rfl ?_))))
   refine AA (Ptr nb4 0) (AD 0 22 1 DH rfl A1 rfl rfl) rfl ?_
   refine AY (C0 3 nb4 0 1 ([U64 0] ++ cu8 (zr8 32) ++ cu8 (zr8 16)) 164 (U64 (vQ z0 p 8)) ([U64 (vQ z0 p 8)]) ([U64 (vQ z0 p 8)] ++ cu8 (zr8 32) ++ cu8 (zr8 16)) rfl rfl rfl rfl A1 rfl (by simp [Value.oneCell']) (by simp [(AN 32), (AN 16)]) (EV (p := [U64 0] ++ cu8 (zr8 32)) (vs := [U64 (vQ z0 p 8)]) (o := 0) (by simp [(AN 32)]) (EV (p := [U64 0]) (vs := [U64 (vQ z0 p 8)]) (o := 0) (by simp []) (A0 (by simp []))))) rfl ?_
   show JL _ _ _ _ _ [_, _, _, ⟨nb4, [U64 (vQ z0 p 8)] ++ cu8 (zr8 32) ++ cu8 (zr8 16), 164, (0, 0)⟩]
   refine AL (AC (AG (AB (AA (Ptr nb4 1) (AD 1 159 32 DH rfl EN rfl rfl) rfl ?_))))
   refine AA (Slc nb4 1 32 32) (CI 32 5 1 0 32 1 32 D5 BC rfl rfl rfl (by omega) (by omega) (by omega) (by omega) (by omega) 32 (by omega)) rfl ?_
   refine AA _ (AE rfl) rfl ?_
   refine AY (DX 43 43 5 3 nb4 1 32 32 ([U64 (vQ z0 p 8)] ++ cu8 (zr8 32) ++ cu8 (zr8 16)) 164 ax1 0 cx1 0 [] ([U64 (vQ z0 p 8)] ++ cu8 (zr8 32) ++ cu8 (zr8 16)) AR C6 rfl rfl rfl rfl rfl SrcAt.nil (by simp [(AN 32), (AN 16)]) GE (GF _ _)) rfl ?_
   show JL _ _ _ _ ((28, I64 0) :: _) [_, _, _, _]
   refine AL (AC (AG (AB (AA (Ptr nb4 33) (AD 33 27 16 DH rfl BV rfl rfl) rfl ?_))))
   refine AA (Slc nb4 33 16 16) (CI 16 5 1 0 16 33 16 BX BC rfl rfl rfl (by omega) (by omega) (by omega) (by omega) (by omega) 16 (by omega)) rfl ?_
   refine AA _ (AE rfl) rfl ?_
   refine AY (DX 43 43 5 3 nb4 33 16 16 ([U64 (vQ z0 p 8)] ++ cu8 (zr8 32) ++ cu8 (zr8 16)) 164 ax3 16 cx3 16 (cu8 (bQ z0 (p + 40) 16)) ([U64 (vQ z0 p 8)] ++ cu8 (zr8 32) ++ cu8 (bQ z0 (p + 40) 16)) AR C6 rfl rfl rfl rfl (by simp [(BJ _ _ _)]; try omega) ((hX3 _ _ (hA2 _ _ (hA1 _ _ hr))).src) (by simp [(AN 32), (AN 16)]; try omega) (by first | exact CF | exact EI | exact EE | (simp [cu8, cu32, cu64, Value.oneCell']; done)) (FO 33 0 (by simp [(AN 32)]) rfl (A0 (by simp [(AN 16), (BJ _ _ _)])))) rfl ?_
   show JL _ _ _ _ ((32, I64 16) :: _) [_, _, _, ⟨nb4, [U64 (vQ z0 p 8)] ++ cu8 (zr8 32) ++ cu8 (bQ z0 (p + 40) 16), 164, (0, 0)⟩]
   refine AL (AC (AG (CH 35 3 [(0, .agg ([U64 (vQ z0 p 8)] ++ cu8 (zr8 32) ++ cu8 (bQ z0 (p + 40) 16)).toArray), (1, .agg #[.slice ao4 zz4.length ca4, I64 ((eQ z0 (p + 56):Int))])] BP rfl (by decide +kernel) ?_)))
   refine B6 ⟨[], [0, 1], [], [0, 1], [2]⟩ 2 rfl rfl (by decide +kernel) rfl ⟨⟨_, rfl, AI rfl (AM rfl (A5 EW CS (by simp [(AN 32), (BJ _ _ _)]) (AT 3 rfl (AJ _))))⟩, ⟨_, rfl, AI rfl (AM rfl (A5 AQ AK rfl (AT 0 rfl (AJ _))))⟩, trivial⟩ rfl (A7 rfl (AU 1 nb2 49 ([U64 0] ++ cu8 (zr8 32) ++ cu8 (zr8 16)) 164 ([U64 (vQ z0 p 8)] ++ cu8 (zr8 32) ++ cu8 (bQ z0 (p + 40) 16)) rfl rfl rfl CS (by simp [(AN 32), (BJ _ _ _)]) (CK (CK (by simp [Value.oneCell']) CF) CF) (by simp [(AN 32), (AN 16)]) (A0 (by simp [(AN 32), (AN 16), (AN 32), (BJ _ _ _)])))) ?_
   show DP _ _ _ _ _ _ _ _ [_, ⟨nb2, [U64 (vQ z0 p 8)] ++ cu8 (zr8 32) ++ cu8 (bQ z0 (p + 40) 16), 164, (0, 0)⟩, _, _]
   refine B6 ⟨[2], [0, 1], [0], [1], [3]⟩ 3 rfl rfl (by decide +kernel) rfl ⟨⟨_, rfl, AI rfl (AM rfl (A5 AQ AK rfl (AT 0 rfl (AJ _))))⟩, trivial⟩ rfl (A7 rfl (AU 2 nb3 2 ([.slice none 0 0, I64 0]) 107 ([.slice ao4 zz4.length ca4, I64 ((eQ z0 (p + 56):Int))]) rfl rfl rfl AK rfl (by simp [Value.oneCell']) (Nat.le_of_ble_eq_true rfl) (A0 (by simp [])))) ?_
   show DP _ _ _ _ _ _ _ _ [_, _, ⟨nb3, [.slice ao4 zz4.length ca4, I64 ((eQ z0 (p + 56):Int))], 107, (0, 0)⟩, _]
   refine C2 ⟨[2, 3], [0, 1], [0, 1], [], []⟩ rfl rfl (by decide +kernel) rfl trivial ?_
   refine CB (F' := [(2, Ptr nb2 0), (3, Ptr nb3 0)]) (by kernel_rfl) ?_
   refine AC (BH (B5 [false, true, true, false] ?_))
   show JQ _ _ _ _ [_, _]
   refine BI (.tuple #[.agg ([U64 (vQ z0 p 8)] ++ cu8 (zr8 32) ++ cu8 (bQ z0 (p + 40) 16)).toArray, .agg #[.slice ao4 zz4.length ca4, I64 ((eQ z0 (p + 56):Int))]]) (res2 Tryd.results124 (CQ rfl (A5 EW CS (by simp [(AN 32), (BJ _ _ _)]) (AT 0 rfl (AJ _)))) (CQ rfl (A5 AQ AK rfl (AT 1 rfl (AJ _))))) fun w1 hw1 => ?_
   first | (exfalso; omega) | exact ⟨_, _, rfl, ⟨rfl, ao4, zz4, ca4, hq4, ⟨(by intro w M h; first | exact (hA4 _ _ (hA2 _ _ (hA1 _ _ h)))), by omega, by omega, by omega⟩, by rw [show bQ z0 (p + 8) 32 = zr8 32 from bQ_neg (by omega)]⟩, hw1.sub (by simp) (by simp)⟩
  ·
   show JL _ _ _ _ ((20, .tuple #[.slice ax3 0 cx3, .agg #[.slice ao4 zz4.length ca4, I64 ((eQ z0 (p + 56):Int))]]) :: _) [_, _, _, _]
   refine AA _ (AE rfl) rfl ?_
   refine AA _ (BB rfl rfl) rfl ?_
   refine AA _ (BB rfl rfl) rfl ?_
   refine AA _ (AH rfl) rfl ?_
   refine AY (AU 0 nb1 2 ([.slice ao2 zz2.length ca2, I64 ((eQ z0 (p + 40):Int))]) 107 ([.slice ao4 zz4.length ca4, I64 ((eQ z0 (p + 56):Int))]) rfl rfl rfl AK rfl (by simp [Value.oneCell']) (Nat.le_of_ble_eq_true rfl) (A0 (by simp []))) rfl ?_
   show JL _ _ _ _ _ [⟨nb1, [.slice ao4 zz4.length ca4, I64 ((eQ z0 (p + 56):Int))], 107, (0, 0)⟩, _, _, _]
   refine AL (AC (AG (AB (AA _ (AE rfl) rfl ?_))))
   refine AA (Ptr nb4 0) (AD 0 22 1 DH rfl A1 rfl rfl) rfl ?_
   refine AY (C0 3 nb4 0 1 ([U64 0] ++ cu8 (zr8 32) ++ cu8 (zr8 16)) 164 (U64 (vQ z0 p 8)) ([U64 (vQ z0 p 8)]) ([U64 (vQ z0 p 8)] ++ cu8 (zr8 32) ++ cu8 (zr8 16)) rfl rfl rfl rfl A1 rfl (by simp [Value.oneCell']) (by simp [(AN 32), (AN 16)]) (EV (p := [U64 0] ++ cu8 (zr8 32)) (vs := [U64 (vQ z0 p 8)]) (o := 0) (by simp [(AN 32)]) (EV (p := [U64 0]) (vs := [U64 (vQ z0 p 8)]) (o := 0) (by simp []) (A0 (by simp []))))) rfl ?_
   show JL _ _ _ _ _ [_, _, _, ⟨nb4, [U64 (vQ z0 p 8)] ++ cu8 (zr8 32) ++ cu8 (zr8 16), 164, (0, 0)⟩]
   refine AL (AC (AG (AB (AA (Ptr nb4 1) (AD 1 159 32 DH rfl EN rfl rfl) rfl ?_))))
   refine AA (Slc nb4 1 32 32) (CI 32 5 1 0 32 1 32 D5 BC rfl rfl rfl (by omega) (by omega) (by omega) (by omega) (by omega) 32 (by omega)) rfl ?_
   refine AA _ (AE rfl) rfl ?_
   refine AY (DX 43 43 5 3 nb4 1 32 32 ([U64 (vQ z0 p 8)] ++ cu8 (zr8 32) ++ cu8 (zr8 16)) 164 ax1 0 cx1 0 [] ([U64 (vQ z0 p 8)] ++ cu8 (zr8 32) ++ cu8 (zr8 16)) AR C6 rfl rfl rfl rfl rfl SrcAt.nil (by simp [(AN 32), (AN 16)]) GE (GF _ _)) rfl ?_
   show JL _ _ _ _ ((28, I64 0) :: _) [_, _, _, _]
   refine AL (AC (AG (AB (AA (Ptr nb4 33) (AD 33 27 16 DH rfl BV rfl rfl) rfl ?_))))
   refine AA (Slc nb4 33 16 16) (CI 16 5 1 0 16 33 16 BX BC rfl rfl rfl (by omega) (by omega) (by omega) (by omega) (by omega) 16 (by omega)) rfl ?_
   refine AA _ (AE rfl) rfl ?_
   refine AY (DX 43 43 5 3 nb4 33 16 16 ([U64 (vQ z0 p 8)] ++ cu8 (zr8 32) ++ cu8 (zr8 16)) 164 ax3 0 cx3 0 [] ([U64 (vQ z0 p 8)] ++ cu8 (zr8 32) ++ cu8 (zr8 16)) AR C6 rfl rfl rfl rfl rfl SrcAt.nil (by simp [(AN 32), (AN 16)]) GE (GF _ _)) rfl ?_
   show JL _ _ _ _ ((32, I64 0) :: _) [_, _, _, _]
   refine AL (AC (AG (CH 35 3 [(0, .agg ([U64 (vQ z0 p 8)] ++ cu8 (zr8 32) ++ cu8 (zr8 16)).toArray), (1, .agg #[.slice ao4 zz4.length ca4, I64 ((eQ z0 (p + 56):Int))])] BP rfl (by decide +kernel) ?_)))
   refine B6 ⟨[], [0, 1], [], [0, 1], [2]⟩ 2 rfl rfl (by decide +kernel) rfl ⟨⟨_, rfl, AI rfl (AM rfl (A5 EW CS (by simp [(AN 32), (AN 16)]) (AT 3 rfl (AJ _))))⟩, ⟨_, rfl, AI rfl (AM rfl (A5 AQ AK rfl (AT 0 rfl (AJ _))))⟩, trivial⟩ rfl (A7 rfl (AU 1 nb2 49 ([U64 0] ++ cu8 (zr8 32) ++ cu8 (zr8 16)) 164 ([U64 (vQ z0 p 8)] ++ cu8 (zr8 32) ++ cu8 (zr8 16)) rfl rfl rfl CS (by simp [(AN 32), (AN 16)]) (CK (CK (by simp [Value.oneCell']) CF) CF) (by simp [(AN 32), (AN 16)]) (A0 (by simp [(AN 32), (AN 16), (AN 32), (AN 16)])))) ?_
   show DP _ _ _ _ _ _ _ _ [_, ⟨nb2, [U64 (vQ z0 p 8)] ++ cu8 (zr8 32) ++ cu8 (zr8 16), 164, (0, 0)⟩, _, _]
   refine B6 ⟨[2], [0, 1], [0], [1], [3]⟩ 3 rfl rfl (by decide +kernel) rfl ⟨⟨_, rfl, AI rfl (AM rfl (A5 AQ AK rfl (AT 0 rfl (AJ _))))⟩, trivial⟩ rfl (A7 rfl (AU 2 nb3 2 ([.slice none 0 0, I64 0]) 107 ([.slice ao4 zz4.length ca4, I64 ((eQ z0 (p + 56):Int))]) rfl rfl rfl AK rfl (by simp [Value.oneCell']) (Nat.le_of_ble_eq_true rfl) (A0 (by simp [])))) ?_
   show DP _ _ _ _ _ _ _ _ [_, _, ⟨nb3, [.slice ao4 zz4.length ca4, I64 ((eQ z0 (p + 56):Int))], 107, (0, 0)⟩, _]
   refine C2 ⟨[2, 3], [0, 1], [0, 1], [], []⟩ rfl rfl (by decide +kernel) rfl trivial ?_
   refine CB (F' := [(2, Ptr nb2 0), (3, Ptr nb3 0)]) (by kernel_rfl) ?_
   refine AC (BH (B5 [false, true, true, false] ?_))
   show JQ _ _ _ _ [_, _]
   refine BI (.tuple #[.agg ([U64 (vQ z0 p 8)] ++ cu8 (zr8 32) ++ cu8 (zr8 16)).toArray, .agg #[.slice ao4 zz4.length ca4, I64 ((eQ z0 (p + 56):Int))]]) (res2 Tryd.results124 (CQ rfl (A5 EW CS (by simp [(AN 32), (AN 16)]) (AT 0 rfl (AJ _)))) (CQ rfl (A5 AQ AK rfl (AT 1 rfl (AJ _))))) fun w1 hw1 => ?_
   first | (exfalso; omega) | exact ⟨_, _, rfl, ⟨rfl, ao4, zz4, ca4, hq4, ⟨(by intro w M h; first | exact (hA4 _ _ (hA2 _ _ (hA1 _ _ h)))), by omega, by omega, by omega⟩, by rw [show bQ z0 (p + 8) 32 = zr8 32 from bQ_neg (by omega), show bQ z0 (p + 40) 16 = zr8 16 from bQ_neg (by omega)]⟩, hw1.sub (by simp) (by simp)⟩
end Go.Proofs.YtkdpdgpphpngeaaDoor
namespace Go.Proofs.YtkdpdgpphpngeaaDoor
open Go Go.Sx
theorem valK_lt (z : List UInt8) : ∀ k, k ≤ 8 → (valK z k).toNat < 256 ^ k ∧ (k + 1 ≤ 8 → (valK z (k + 1)).toNat = (valK z k).toNat * 256 + (g8 z k).toNat)
 | 0, _ => ⟨Nat.zero_lt_one, fun _ => by
  have hb := UInt8.toNat_lt (g8 z 0)
  have h0 : (valK z 0).toNat = 0 := rfl
  have h1 : valK z (0 + 1) = (valK z 0 <<< 8) ||| (g8 z 0).toUInt64 := rfl
  rw [h1, shl_or, UInt64.toNat_add, UInt64.toNat_mul, UInt8.toNat_toUInt64, h0]
  show (0 * 256 % 2 ^ 64 + (g8 z 0).toNat) % 2 ^ 64 = _
  omega⟩
 | k + 1, h => by
  obtain ⟨h1, h2⟩ := valK_lt z k (by omega)
  have h3 := h2 h
  have hb := UInt8.toNat_lt (g8 z k)
  have hb' := UInt8.toNat_lt (g8 z (k + 1))
  have hp : 256 ^ (k + 1) = 256 ^ k * 256 := Nat.pow_succ ..
  have h4 : (valK z (k + 1)).toNat < 256 ^ (k + 1) := by omega
  refine ⟨h4, fun h5 => ?_⟩
  have hq : 256 ^ (k + 1) ≤ 256 ^ 7 := Nat.pow_le_pow_right (by omega) (by omega)
  rw [valK, shl_or, UInt64.toNat_add, UInt64.toNat_mul, UInt8.toNat_toUInt64]
  show ((valK z (k + 1)).toNat * 256 % 2 ^ 64 + (g8 z (k + 1)).toNat) % 2 ^ 64 = _
  omega
theorem valK_pre (z : List UInt8) (i : Nat) : ∀ d, i + d ≤ 8 → (valK z (i + d)).toNat / 256 ^ d = (valK z i).toNat
 | 0, _ => by simp
 | d + 1, h => by
  have h1 := (valK_lt z (i + d) (by omega)).2 (by omega)
  have hb := UInt8.toNat_lt (g8 z (i + d))
  have ih := valK_pre z i d (by omega)
  rw [show i + (d + 1) = i + d + 1 from rfl, h1, Nat.pow_succ, Nat.mul_comm (256 ^ d) 256, ← Nat.div_div_eq_div_mul]
  rw [show ((valK z (i + d)).toNat * 256 + (g8 z (i + d)).toNat) / 256 = (valK z (i + d)).toNat by omega]
  exact ih
theorem g8_mid {z : List UInt8} {o n i : Nat} (h : i < n) : g8 (mid z o n) i = g8 z (o + i) := by
 simp [g8, mid, List.getD_eq_getElem?_getD, List.getElem?_take, h]
theorem numK_val {z : List UInt8} {k : Nat} (hk : k ≤ 8) (hz : k ≤ z.length) : numK k (valK z k) k = mid z 0 k := by
 refine ext8n (by rw [EA, FE (by omega)]) (fun i hi => ?_)
 rw [EA] at hi
 rw [g8_mid hi, Nat.zero_add, numK, g8_mr hi]
 apply UInt8.toNat_inj.1
 rw [UInt64.toNat_toUInt8, show 8*k - 8*i - 8 = 8*(k - 1 - i) by omega, shr_divK _ _ (by omega)]
 have h1 := valK_pre z (i + 1) (k - 1 - i) (by omega)
 rw [show i + 1 + (k - 1 - i) = k by omega] at h1
 rw [h1, (valK_lt z i (by omega)).2 (by omega)]
 have hb := UInt8.toNat_lt (g8 z i)
 omega
theorem take_mid (z : List UInt8) (p s : Nat) : z.take (p + s) = z.take p ++ mid (z.drop p) 0 s := by
 rw [List.take_add]; rfl
theorem numK_q {z0 : List UInt8} {p s : Nat} (hs : s ≤ 8) (h : p + s ≤ z0.length) : z0.take p ++ numK s (vQ z0 p s) s = z0.take (p + s) := by
 rw [vQ, if_pos h, numK_val hs (by rw [List.length_drop]; omega), take_mid]
theorem bQ_q {z0 : List UInt8} {p s : Nat} (h : p + s ≤ z0.length) : z0.take p ++ bQ z0 p s = z0.take (p + s) := by rw [bQ, if_pos h, take_mid]
theorem g64_app {a b : List UInt64} {i : Nat} (h : i < a.length) : g64 (a ++ b) i = g64 a i := by simp [g64, List.getD_eq_getElem?_getD, List.getElem?_append_left h]
theorem g64_end {a : List UInt64} {x : UInt64} : g64 (a ++ [x]) a.length = x := by simp [g64, List.getD_eq_getElem?_getD]
theorem ixQ_get {z0 : List UInt8} {p : Nat} : ∀ {m i : Nat}, i < m → g64 (ixQ z0 p m) i = vQ z0 (p + 4*i) 4
  | m + 1, i, h => by
    rw [ixQ_succ]
    by_cases hi : i < m
    · rw [g64_app (by rw [FF]; exact hi), ixQ_get hi]
    · obtain rfl : i = m := by omega
      have e : g64 (ixQ z0 p i ++ [vQ z0 (p + 4*i) 4]) (ixQ z0 p i).length = vQ z0 (p + 4*i) 4 := g64_end
      rwa [FF] at e
theorem idxT_q {z0 : List UInt8} {p m : Nat} (h : p + 4*m ≤ z0.length) : ∀ i, i ≤ m → z0.take p ++ idxT (ixQ z0 p m) i = z0.take (p + 4*i)
 | 0, _ => by rw [idxT_zero, List.append_nil]; rfl
 | i + 1, hi => by
  rw [idxT_succ, ← List.append_assoc, idxT_q h i (by omega), ixQ_get (by omega), numK_q (by omega) (by omega)]; rfl
theorem selT_q {z0 : List UInt8} {p : Nat} : ∀ m, p + 56*m ≤ z0.length → z0.take p ++ selT (seQ z0 p m) = z0.take (p + 56*m)
 | 0, _ => by rw [seQ, selT_nil, List.append_nil]; rfl
 | m + 1, h => by
  rw [seQ_succ, selT_app, ← List.append_assoc, selT_q m (by omega)]
  show z0.take (p + 56*m) ++ ((numK 8 (vQ z0 (p + 56*m) 8) 8 ++ bQ z0 (p + 56*m + 8) 32) ++ bQ z0 (p + 56*m + 40) 16) = _
  rw [← List.append_assoc, ← List.append_assoc, numK_q (by omega) (by omega), bQ_q (by omega), show p + 56*m + 8 + 32 = p + 56*m + 40 by omega, bQ_q (by omega)]
  congr 1
def mQ (z0 : List UInt8) : Nat := (vQ z0 17 1).toNat + 1
def Ok1 (z0 : List UInt8) : Prop := vQ z0 16 1 = 1 ∧ 60*mQ z0 + 34 ≤ z0.length ∧ mayN (vQ z0 0 8) (vQ z0 8 8) (((vQ z0 16 1).toNat:Int)) (ixQ z0 18 (mQ z0)) (seQ z0 (4*mQ z0 + 18) (mQ z0)) (0:UInt64) = 0
def Ok2 (z0 : List UInt8) : Prop := vQ z0 16 1 = 2 ∧ 4*mQ z0 + 34 ≤ z0.length ∧ mayN (vQ z0 0 8) (vQ z0 8 8) (((vQ z0 16 1).toNat:Int)) (ixQ z0 18 (mQ z0)) ([] : List SealR) (0:UInt64) = 0
def Ok3 (z0 : List UInt8) : Prop := vQ z0 16 1 = 3 ∧ 41 ≤ z0.length ∧ mayN (vQ z0 0 8) (vQ z0 8 8) (((vQ z0 16 1).toNat:Int)) ([] : List UInt64) ([] : List SealR) (vQ z0 17 8) = 0
theorem erQ_ne {e k : Nat} (hk : k ≠ 0) : erN e k ≠ 0 := by unfold erN; split <;> omega
theorem endN_z {k : Nat} (h : endN 0 k = 0) : k = 0 := by unfold endN at h; rw [if_pos rfl] at h; split at h <;> omega
theorem endN_b {k : Nat} (h : ¬ endN 0 k = 0) : endN 0 k = 2 := by unfold endN at h ⊢; rw [if_pos rfl] at h ⊢; split at h <;> simp_all
theorem endN_k {k : Nat} (h : k ≠ 0) : endN 0 k = 2 := by rw [endN, if_pos rfl, if_neg h]
def BadQ (z0 : List UInt8) : Prop := ¬ Ok1 z0 ∧ ¬ Ok2 z0 ∧ ¬ Ok3 z0
theorem mQ_eq (z0 : List UInt8) : mQ z0 = (vQ z0 17 1).toNat + 1 := rfl
theorem kdn {x : UInt64} {k : Nat} (hk : k < 18446744073709551616) (h : ((x.toNat:Int)) = (k:Int)) : x = UInt64.ofNat k := UInt64.toNat_inj.1 (by rw [UInt64.toNat_ofNat']; omega)
theorem kd12 {x : UInt64} (h : (decide (((x.toNat:Int)) = (1:Int)) || decide (((x.toNat:Int)) = (2:Int))) = true) : x = 1 ∨ x = 2 := by
  rcases Bool.or_eq_true .. ▸ h with h | h
  · exact .inl (kdn (k := 1) (by decide) (of_decide_eq_true h))
  · exact .inr (kdn (k := 2) (by decide) (of_decide_eq_true h))
theorem kd3 {x : UInt64} (h : decide (((x.toNat:Int)) = (3:Int)) = true) : x = 3 := kdn (k := 3) (by decide) (of_decide_eq_true h)
theorem minQ {z0 z : List UInt8} (hq : Lq z0 z 18) : ∃ m : Nat, min (((vQ z0 17 1).toNat:Int) + 1) ((leftN (eQ z0 18) z.length : Nat) : Int) = (m:Int) ∧ m ≤ 256 ∧ (m = mQ z0 ∨ (m < mQ z0 ∧ z0.length ≤ m + 18)) := by
  have h9 := vQ_lt1 z0 17
  have hm := mQ_eq z0
  refine ⟨min (mQ z0) (leftN (eQ z0 18) z.length), by omega, by omega, ?_⟩
  by_cases h : 18 ≤ z0.length
  · have hl := hq.len h
    rw [F7 h, leftN, if_pos rfl]
    omega
  · rw [eQ_bad h, leftN, if_neg (by decide)]
    omega
theorem bad1 {z0 : List UInt8} (hk : vQ z0 16 1 = 1) (h : ¬ (60*mQ z0 + 34 ≤ z0.length ∧ mayN (vQ z0 0 8) (vQ z0 8 8) (((vQ z0 16 1).toNat:Int)) (ixQ z0 18 (mQ z0)) (seQ z0 (4*mQ z0 + 18) (mQ z0)) (0:UInt64) = 0)) : BadQ z0 :=
 ⟨fun e => h e.2, fun e => absurd (hk.symm.trans e.1) (by decide), fun e => absurd (hk.symm.trans e.1) (by decide)⟩
theorem bad2 {z0 : List UInt8} (hk : vQ z0 16 1 = 2) (h : ¬ (4*mQ z0 + 34 ≤ z0.length ∧ mayN (vQ z0 0 8) (vQ z0 8 8) (((vQ z0 16 1).toNat:Int)) (ixQ z0 18 (mQ z0)) ([] : List SealR) (0:UInt64) = 0)) : BadQ z0 :=
 ⟨fun e => absurd (hk.symm.trans e.1) (by decide), fun e => h e.2, fun e => absurd (hk.symm.trans e.1) (by decide)⟩
theorem bad3 {z0 : List UInt8} (hk : vQ z0 16 1 = 3) (h : ¬ (41 ≤ z0.length ∧ mayN (vQ z0 0 8) (vQ z0 8 8) (((vQ z0 16 1).toNat:Int)) ([] : List UInt64) ([] : List SealR) (vQ z0 17 8) = 0)) : BadQ z0 :=
 ⟨fun e => absurd (hk.symm.trans e.1) (by decide), fun e => absurd (hk.symm.trans e.1) (by decide), fun e => h e.2⟩
theorem bad_nil : BadQ [] := ⟨fun e => by have := e.2.1; simp at this, fun e => by have := e.2.1; simp at this, fun e => by have := e.2.1; simp at this⟩
theorem may_nil {pv ep : UInt64} {kd : Int} {bl : UInt64} (h : kd ≠ 3) : mayN pv ep kd ([] : List UInt64) ([] : List SealR) bl ≠ 0 := fun e => by
  have hR := mayN_right e
  by_cases h1 : kd = 1 ∨ kd = 2
  · have := (RightO_idx hR h1).1
    simp at this
  · rw [mayN_kd ⟨fun e => h1 (.inl e), fun e => h1 (.inr e), h⟩] at e
    omega
theorem bad0 {z0 : List UInt8} {bl : UInt64} (h3 : decide ((((vQ z0 16 1).toNat:Int)) = (3:Int)) = false) (h : (decide ((((vQ z0 16 1).toNat:Int)) = (1:Int)) || decide ((((vQ z0 16 1).toNat:Int)) = (2:Int))) = false) :
  BadQ z0 ∧ mayN (vQ z0 0 8) (vQ z0 8 8) (((vQ z0 16 1).toNat:Int)) ([] : List UInt64) ([] : List SealR) bl ≠ 0 := by
 obtain ⟨h1, h2⟩ := Bool.or_eq_false_iff.1 h
 have h1 := of_decide_eq_false h1
 have h2 := of_decide_eq_false h2
 have h3 := of_decide_eq_false h3
 exact ⟨⟨fun e => h1 (by rw [e.1]; rfl), fun e => h2 (by rw [e.1]; rfl), fun e => h3 (by rw [e.1]; rfl)⟩, may_nil h3⟩
theorem bad12 {z0 : List UInt8} {bl : UInt64} (hk : vQ z0 16 1 = 1 ∨ vQ z0 16 1 = 2) (h : z0.length < mQ z0 + 18) :
    BadQ z0 ∧ mayN (vQ z0 0 8) (vQ z0 8 8) (((vQ z0 16 1).toNat:Int)) ([] : List UInt64) ([] : List SealR) bl ≠ 0 := by
  rcases hk with hk | hk
  · exact ⟨bad1 hk (fun e => by omega), may_nil (by rw [hk]; decide)⟩
  · exact ⟨bad2 hk (fun e => by omega), may_nil (by rw [hk]; decide)⟩
theorem kd12U {x : UInt64} (h : (decide (x = 1) || decide (x = 2)) = true) : x = 1 ∨ x = 2 := by simpa using h
theorem kd3U {x : UInt64} (h : x = 1 ∨ x = 2) (h3 : x = 3) : False := by rcases h with h | h <;> exact absurd (h.symm.trans h3) (by decide)
theorem bad0U {z0 : List UInt8} {bl : UInt64} (h3 : vQ z0 16 1 ≠ 3) (h : (decide (vQ z0 16 1 = 1) || decide (vQ z0 16 1 = 2)) = false) :
  BadQ z0 ∧ mayN (vQ z0 0 8) (vQ z0 8 8) (((vQ z0 16 1).toNat:Int)) ([] : List UInt64) ([] : List SealR) bl ≠ 0 := by
 obtain ⟨h1, h2⟩ := Bool.or_eq_false_iff.1 h
 have h1 := of_decide_eq_false h1
 have h2 := of_decide_eq_false h2
 exact ⟨⟨fun e => h1 e.1, fun e => h2 e.1, fun e => h3 e.1⟩, may_nil (fun e => h3 (kdn (k := 3) (by decide) e))⟩
theorem bad12b {z0 : List UInt8} (hk : vQ z0 16 1 = 1 ∨ vQ z0 16 1 = 2) (h : z0.length < 4*mQ z0 + 34) : BadQ z0 := by
  rcases hk with hk | hk
  · exact bad1 hk (fun e => by have := e.1; omega)
  · exact bad2 hk (fun e => by have := e.1; omega)
theorem head_q {z0 : List UInt8} (h : 17 ≤ z0.length) : (numK 8 (vQ z0 0 8) 8 ++ numK 8 (vQ z0 8 8) 8) ++ numK 1 (UInt64.ofNat (vQ z0 16 1).toNat) 1 = z0.take 17 := by
 have e0 : numK 8 (vQ z0 0 8) 8 = z0.take 8 := by
  have := numK_q (z0 := z0) (p := 0) (s := 8) (by omega) (by omega)
  rwa [List.take_zero, List.nil_append] at this
 rw [UInt64.ofNat_toNat, e0, numK_q (by omega) (by omega), numK_q (by omega) (by omega)]
theorem text3_q {z0 : List UInt8} (h : 25 ≤ z0.length) (hk : vQ z0 16 1 = 3) : tktT (vQ z0 0 8) (vQ z0 8 8) (vQ z0 16 1).toNat [] [] (vQ z0 17 8) = z0.take 25 := by
 unfold tktT
 rw [if_pos (by rw [hk]; rfl), head_q (by omega), numK_q (by omega) (by omega)]
theorem head2_q {z0 : List UInt8} {m : Nat} (hm : m = mQ z0) (h : 4*m + 18 ≤ z0.length) : ((((numK 8 (vQ z0 0 8) 8 ++ numK 8 (vQ z0 8 8) 8) ++ numK 1 (UInt64.ofNat (vQ z0 16 1).toNat) 1) ++ numK 1 (UInt64.ofNat ((ixQ z0 18 m).length - 1)) 1) ++ idxT (ixQ z0 18 m) (ixQ z0 18 m).length) = z0.take (4*m + 18) := by
 rw [head_q (by omega), FF, show m - 1 = (vQ z0 17 1).toNat by rw [hm]; unfold mQ; omega, UInt64.ofNat_toNat, numK_q (by omega) (by omega), idxT_q (by omega) m (Nat.le_refl _), Nat.add_comm 18]
theorem text2_q {z0 : List UInt8} (h : 4*mQ z0 + 18 ≤ z0.length) (hk : vQ z0 16 1 = 2) : tktT (vQ z0 0 8) (vQ z0 8 8) (vQ z0 16 1).toNat (ixQ z0 18 (mQ z0)) [] 0 = z0.take (4*mQ z0 + 18) := by
 unfold tktT
 rw [if_neg (by rw [hk]; decide), head2_q rfl h, selT_nil, List.append_nil]
theorem text1_q {z0 : List UInt8} (h : 60*mQ z0 + 18 ≤ z0.length) (hk : vQ z0 16 1 = 1) : tktT (vQ z0 0 8) (vQ z0 8 8) (vQ z0 16 1).toNat (ixQ z0 18 (mQ z0)) (seQ z0 (4*mQ z0 + 18) (mQ z0)) 0 = z0.take (60*mQ z0 + 18) := by
 unfold tktT
 rw [if_neg (by rw [hk]; decide), head2_q rfl (by omega), selT_q (mQ z0) (by omega)]
 congr 1
 omega
theorem put3_q {z0 : List UInt8} (h : z0.length = 41) (hk : vQ z0 16 1 = 3) : tktT (vQ z0 0 8) (vQ z0 8 8) (vQ z0 16 1).toNat [] [] (vQ z0 17 8) ++ bQ z0 25 16 = z0 := by
 rw [text3_q (by omega) hk, bQ_q (by omega), List.take_of_length_le (by omega)]
theorem put2_q {z0 : List UInt8} (h : z0.length = 4*mQ z0 + 34) (hk : vQ z0 16 1 = 2) : tktT (vQ z0 0 8) (vQ z0 8 8) (vQ z0 16 1).toNat (ixQ z0 18 (mQ z0)) [] 0 ++ bQ z0 (4*mQ z0 + 18) 16 = z0 := by
 rw [text2_q (by omega) hk, bQ_q (by omega), List.take_of_length_le (by omega)]
theorem put1_q {z0 : List UInt8} (h : z0.length = 60*mQ z0 + 34) (hk : vQ z0 16 1 = 1) : tktT (vQ z0 0 8) (vQ z0 8 8) (vQ z0 16 1).toNat (ixQ z0 18 (mQ z0)) (seQ z0 (4*mQ z0 + 18) (mQ z0)) 0 ++ bQ z0 (60*mQ z0 + 18) 16 = z0 := by
 rw [text1_q (by omega) hk, bQ_q (by omega), List.take_of_length_le (by omega)]
attribute [local irreducible] mid zr8 zr32 numK valK rvalK rotr wordL spreadL comprL cpN adN spN constL initL padL stN outN sumG putL RightB tktT mayN idxT selT macL eQ vQ tQ bQ sQ ixQ seQ
set_option maxHeartbeats 8000000 in
theorem rread_c (ao : Option Addr) (n c : Nat) (z0 z : List UInt8) (m : Nat)  (w : World) (hz : z.length = n) (hn : n ≤ 2000000000) (hc : n ≤ c) (hcm : c ≤ maxLen) (hr : RdB w [] ao z) (hq : Lq z0 z 0) (hm : m = mQ z0)  : Calls Tryd.prog 58 #[.agg #[.slice ao n c, I64 ((eQ z0 0:Int))]] w (Post w [] (fun v L => (Ok3 z0 ∧ ∃ ao' z' c', Lq z0 z' (41) ∧ Adv ao z c ao' z' c' ∧ v = .tuple #[.agg ([U64 (vQ z0 0 8), U64 (vQ z0 8 8), I64 (((vQ z0 16 1).toNat:Int)), .slice none 0 0, .slice none 0 0, U64 (vQ z0 17 8)] ++ cu8 (bQ z0 25 16)).toArray, .agg #[.slice ao' z'.length c', I64 0]] ∧ L = []) ∨ (Ok2 z0 ∧ ∃ ao' z' c' g sp cap, Lq z0 z' (4*mQ z0 + 34) ∧ Adv ao z c ao' z' c' ∧ v = .tuple #[.agg ([U64 (vQ z0 0 8), U64 (vQ z0 8 8), I64 (((vQ z0 16 1).toNat:Int)), Slc g 0 (mQ z0) cap, .slice none 0 0, U64 0] ++ cu8 (bQ z0 (4*mQ z0 + 18) 16)).toArray, .agg #[.slice ao' z'.length c', I64 0]] ∧ L = [⟨g, cu64 (ixQ z0 18 (mQ z0)) ++ sp, 22, (0, 0)⟩] ∧ sp.length = cap - mQ z0 ∧ mQ z0 ≤ cap ∧ cap ≤ maxLen) ∨ (Ok1 z0 ∧ ∃ ao' z' c' g sp cap g2 sp2 cap2, Lq z0 z' (60*mQ z0 + 34) ∧ Adv ao z c ao' z' c' ∧ v = .tuple #[.agg ([U64 (vQ z0 0 8), U64 (vQ z0 8 8), I64 (((vQ z0 16 1).toNat:Int)), Slc g 0 (mQ z0) cap, Slc g2 0 (mQ z0) cap2, U64 0] ++ cu8 (bQ z0 (60*mQ z0 + 18) 16)).toArray, .agg #[.slice ao' z'.length c', I64 0]] ∧ L = [⟨g, cu64 (ixQ z0 18 (mQ z0)) ++ sp, 22, (0, 0)⟩, ⟨g2, (seQ z0 (4*mQ z0 + 18) (mQ z0)).flatMap sealC ++ sp2, 164, (0, 0)⟩] ∧ sp.length = cap - mQ z0 ∧ mQ z0 ≤ cap ∧ cap ≤ maxLen ∧ sp2.length = cap2 * 49 - mQ z0 * 49 ∧ mQ z0 ≤ cap2 ∧ cap2 ≤ maxLen) ∨ (BadQ z0 ∧ ∃ ax nx cx, v = .tuple #[.agg ([U64 0, U64 0, I64 0, .slice none 0 0, .slice none 0 0, U64 0] ++ cu8 (zr8 16)).toArray, .agg #[.slice ax nx cx, I64 2]] ∧ L = []))) := by
  have hmx : maxLen = 9223372036854775807 := rfl
  have hk8 := vQ_lt1 z0 16
  have hk9 := vQ_lt1 z0 17
  have hmQ : mQ z0 = (vQ z0 17 1).toNat + 1 := rfl
  refine enter (P := Tryd.prog) (f := 58) (fn := Tryd.f58) w [] 144 [] [.agg #[.slice ao n c, I64 ((eQ z0 0:Int))]] Tryd.func58 rfl rfl (by simp) (BY (by simp) (by simp) (by simp)) ?_
  show JC _ _ _ [(0, .agg #[.slice ao n c, I64 ((eQ z0 0:Int))])] _
  refine AG (AB (A2 (DN (.agg #[.slice ao n c, I64 ((eQ z0 0:Int))]) ([.slice ao n c, I64 ((eQ z0 0:Int))]) rfl (by first | rfl | simp)) rfl ?_))
  rintro v1 L1 ⟨nb1, hnb1, rfl, rfl⟩
  show JL _ _ _ _ ((1, Ptr nb1 0) :: _) [⟨nb1, [.slice ao n c, I64 ((eQ z0 0:Int))], 107, (0, 0)⟩]
  refine A2 (BN _ ([U64 0, U64 0, I64 0, .slice none 0 0, .slice none 0 0, U64 0] ++ cu8 (zr8 16)) Tryd.zeroValue38 (by kernel_rfl)) rfl ?_
  rintro v1 L1 ⟨nb2, hnb2, rfl, rfl⟩
  show JL _ _ _ _ ((2, Ptr nb2 0) :: _) [_, ⟨nb2, [U64 0, U64 0, I64 0, .slice none 0 0, .slice none 0 0, U64 0] ++ cu8 (zr8 16), 38, (0, 0)⟩]
  refine A2 (BN _ ([.slice none 0 0, I64 0]) C7 (by kernel_rfl)) rfl ?_
  rintro v1 L1 ⟨nb3, hnb3, rfl, rfl⟩
  show JL _ _ _ _ ((3, Ptr nb3 0) :: _) [_, _, ⟨nb3, [.slice none 0 0, I64 0], 107, (0, 0)⟩]
  refine AL (AC (AG (AB (A2 (BN _ ([U64 0, U64 0, I64 0, .slice none 0 0, .slice none 0 0, U64 0] ++ cu8 (zr8 16)) Tryd.zeroValue38 (by kernel_rfl)) rfl ?_))))
  rintro v1 L1 ⟨nb4, hnb4, rfl, rfl⟩
  show JL _ _ _ _ ((4, Ptr nb4 0) :: _) [_, _, _, ⟨nb4, [U64 0, U64 0, I64 0, .slice none 0 0, .slice none 0 0, U64 0] ++ cu8 (zr8 16), 38, (0, 0)⟩]
  refine AL (AC (AG (AB (AA (.agg #[.slice ao n c, I64 ((eQ z0 0:Int))]) (AM rfl (A5 AQ AK rfl (AT 0 rfl (AJ _)))) rfl ?_))))
  have hz1 : (z).length = n := hz
  refine A2 (B3 118 [.agg #[.slice ao n c, I64 ((eQ z0 0:Int))], I64 8] _ (AZ _ Tryd.call118 rfl) (fun w1 hw1 => rreadQ_w 0 8 ao n c z0 z w1 hz (by omega) (by omega) (by omega) (hr.at (M' := []) hw1 (by simp)) hq (by unfold Szd; omega))) rfl ?_
  rintro v1 L1 ⟨_, ⟨rfl, ao1, zz1, ca1, hq1, ⟨hA1, hb1, hb2, hb3⟩, rfl⟩, rfl⟩
  show JL _ _ _ _ ((21, .tuple #[U64 (vQ z0 0 8), .agg #[.slice ao1 zz1.length ca1, I64 ((eQ z0 8:Int))]]) :: _) [_, _, _, _]
  refine AA _ (AE rfl) rfl ?_
  refine AA _ (BB rfl rfl) rfl ?_
  refine AA _ (BB rfl rfl) rfl ?_
  refine AA _ (AH rfl) rfl ?_
  refine AY (AU 0 nb1 2 ([.slice ao n c, I64 ((eQ z0 0:Int))]) 107 ([.slice ao1 zz1.length ca1, I64 ((eQ z0 8:Int))]) rfl rfl rfl AK rfl (by simp [Value.oneCell']) (Nat.le_of_ble_eq_true rfl) (A0 (by simp []))) rfl ?_
  show JL _ _ _ _ _ [⟨nb1, [.slice ao1 zz1.length ca1, I64 ((eQ z0 8:Int))], 107, (0, 0)⟩, _, _, _]
  refine AL (AC (AG (AB (AA (.agg #[.slice ao1 zz1.length ca1, I64 ((eQ z0 8:Int))]) (AM rfl (A5 AQ AK rfl (AT 0 rfl (AJ _)))) rfl ?_))))
  have hz2 : (zz1).length = zz1.length := rfl
  refine A2 (B3 118 [.agg #[.slice ao1 zz1.length ca1, I64 ((eQ z0 8:Int))], I64 8] _ (AZ _ Tryd.call118 rfl) (fun w1 hw1 => rreadQ_w 8 8 ao1 zz1.length ca1 z0 zz1 w1 rfl (by omega) (by omega) (by omega) ((hA1 _ _ hr).at (M' := []) hw1 (by simp)) hq1 (by unfold Szd; omega))) rfl ?_
  rintro v1 L1 ⟨_, ⟨rfl, ao2, zz2, ca2, hq2, ⟨hA2, hb4, hb5, hb6⟩, rfl⟩, rfl⟩
  show JL _ _ _ _ ((26, .tuple #[U64 (vQ z0 8 8), .agg #[.slice ao2 zz2.length ca2, I64 ((eQ z0 16:Int))]]) :: _) [_, _, _, _]
  refine AA _ (AE rfl) rfl ?_
  refine AA _ (BB rfl rfl) rfl ?_
  refine AA _ (BB rfl rfl) rfl ?_
  refine AA _ (AH rfl) rfl ?_
  refine AY (AU 0 nb1 2 ([.slice ao1 zz1.length ca1, I64 ((eQ z0 8:Int))]) 107 ([.slice ao2 zz2.length ca2, I64 ((eQ z0 16:Int))]) rfl rfl rfl AK rfl (by simp [Value.oneCell']) (Nat.le_of_ble_eq_true rfl) (A0 (by simp []))) rfl ?_
  show JL _ _ _ _ _ [⟨nb1, [.slice ao2 zz2.length ca2, I64 ((eQ z0 16:Int))], 107, (0, 0)⟩, _, _, _]
  refine AL (AC (AG (AB (AA (.agg #[.slice ao2 zz2.length ca2, I64 ((eQ z0 16:Int))]) (AM rfl (A5 AQ AK rfl (AT 0 rfl (AJ _)))) rfl ?_))))
  have hz3 : (zz2).length = zz2.length := rfl
  refine A2 (B3 118 [.agg #[.slice ao2 zz2.length ca2, I64 ((eQ z0 16:Int))], I64 1] _ (AZ _ Tryd.call118 rfl) (fun w1 hw1 => rreadQ_w 16 1 ao2 zz2.length ca2 z0 zz2 w1 rfl (by omega) (by omega) (by omega) ((hA2 _ _ (hA1 _ _ hr)).at (M' := []) hw1 (by simp)) hq2 (by unfold Szd; omega))) rfl ?_
  rintro v1 L1 ⟨_, ⟨rfl, ao3, zz3, ca3, hq3, ⟨hA3, hb7, hb8, hb9⟩, rfl⟩, rfl⟩
  show JL _ _ _ _ ((31, .tuple #[U64 (vQ z0 16 1), .agg #[.slice ao3 zz3.length ca3, I64 ((eQ z0 17:Int))]]) :: _) [_, _, _, _]
  refine AA _ (AE rfl) rfl ?_
  refine AA _ (BB rfl rfl) rfl ?_
  refine AA _ (BB rfl rfl) rfl ?_
  refine AA _ (AH rfl) rfl ?_
  refine AY (AU 0 nb1 2 ([.slice ao2 zz2.length ca2, I64 ((eQ z0 16:Int))]) 107 ([.slice ao3 zz3.length ca3, I64 ((eQ z0 17:Int))]) rfl rfl rfl AK rfl (by simp [Value.oneCell']) (Nat.le_of_ble_eq_true rfl) (A0 (by simp []))) rfl ?_
  show JL _ _ _ _ _ [⟨nb1, [.slice ao3 zz3.length ca3, I64 ((eQ z0 17:Int))], 107, (0, 0)⟩, _, _, _]
  refine AL (AC (AG (AB (AA _ (AE rfl) rfl ?_))))
  refine AA (Ptr nb4 0) (AD 0 22 1 BK rfl A1 rfl rfl) rfl ?_
  refine AY (C0 3 nb4 0 1 ([U64 0, U64 0, I64 0, .slice none 0 0, .slice none 0 0, U64 0] ++ cu8 (zr8 16)) 38 (U64 (vQ z0 0 8)) ([U64 (vQ z0 0 8)]) ([U64 (vQ z0 0 8), U64 0, I64 0, .slice none 0 0, .slice none 0 0, U64 0] ++ cu8 (zr8 16)) rfl rfl rfl rfl A1 rfl (by simp [Value.oneCell']) (by simp [(AN 16)]) (EV (p := [U64 0, U64 0, I64 0, .slice none 0 0, .slice none 0 0, U64 0]) (vs := [U64 (vQ z0 0 8)]) (o := 0) (by simp []) (rfl))) rfl ?_
  show JL _ _ _ _ _ [_, _, _, ⟨nb4, [U64 (vQ z0 0 8), U64 0, I64 0, .slice none 0 0, .slice none 0 0, U64 0] ++ cu8 (zr8 16), 38, (0, 0)⟩]
  refine AL (AC (AG (AB (AA _ (AE rfl) rfl ?_))))
  refine AA (Ptr nb4 1) (AD 1 22 1 BK rfl A1 rfl rfl) rfl ?_
  refine AY (C0 3 nb4 1 1 ([U64 (vQ z0 0 8), U64 0, I64 0, .slice none 0 0, .slice none 0 0, U64 0] ++ cu8 (zr8 16)) 38 (U64 (vQ z0 8 8)) ([U64 (vQ z0 8 8)]) ([U64 (vQ z0 0 8), U64 (vQ z0 8 8), I64 0, .slice none 0 0, .slice none 0 0, U64 0] ++ cu8 (zr8 16)) rfl rfl rfl rfl A1 rfl (by simp [Value.oneCell']) (by simp [(AN 16)]) (EV (p := [U64 (vQ z0 0 8), U64 0, I64 0, .slice none 0 0, .slice none 0 0, U64 0]) (vs := [U64 (vQ z0 8 8)]) (o := 1) (by simp []) (rfl))) rfl ?_
  show JL _ _ _ _ _ [_, _, _, ⟨nb4, [U64 (vQ z0 0 8), U64 (vQ z0 8 8), I64 0, .slice none 0 0, .slice none 0 0, U64 0] ++ cu8 (zr8 16), 38, (0, 0)⟩]
  refine AL (AC (AG (AB (AA _ (AE rfl) rfl ?_))))
  refine AA (I64 (((vQ z0 16 1).toNat:Int))) (EG _ _ rfl fun _ => FP (by rw [B8]; rfl) DK (vQ z0 16 1) _ rfl (by omega)) rfl ?_
  refine AA (Ptr nb4 2) (AD 2 36 4 BK rfl CJ rfl rfl) rfl ?_
  refine AA (Ptr nb4 2) (AD 0 3 1 BE rfl BA rfl rfl) rfl ?_
  refine AY (C0 3 nb4 2 1 ([U64 (vQ z0 0 8), U64 (vQ z0 8 8), I64 0, .slice none 0 0, .slice none 0 0, U64 0] ++ cu8 (zr8 16)) 38 (I64 (((vQ z0 16 1).toNat:Int))) ([I64 (((vQ z0 16 1).toNat:Int))]) ([U64 (vQ z0 0 8), U64 (vQ z0 8 8), I64 (((vQ z0 16 1).toNat:Int)), .slice none 0 0, .slice none 0 0, U64 0] ++ cu8 (zr8 16)) rfl rfl rfl rfl BA rfl (by simp [Value.oneCell']) (by simp [(AN 16)]) (EV (p := [U64 (vQ z0 0 8), U64 (vQ z0 8 8), I64 0, .slice none 0 0, .slice none 0 0, U64 0]) (vs := [I64 (((vQ z0 16 1).toNat:Int))]) (o := 2) (by simp []) (rfl))) rfl ?_
  show JL _ _ _ _ _ [_, _, _, ⟨nb4, [U64 (vQ z0 0 8), U64 (vQ z0 8 8), I64 (((vQ z0 16 1).toNat:Int)), .slice none 0 0, .slice none 0 0, U64 0] ++ cu8 (zr8 16), 38, (0, 0)⟩]
  refine AL (AC (AG (AG (AB (AA _ (AE rfl) rfl ?_)))))
  refine AA (.bool (decide ((vQ z0 16 1) = (3:UInt64)))) (AP rfl rfl fun _ => E6 (vQ z0 16 1) (3:UInt64)) rfl ?_
  refine AL (AC (JC_cut (ι := UInt64 × Nat × Option Addr × List UInt8 × Nat) (fun ⟨bl, pp, aa, zz, cc⟩ => [(1, Ptr nb1 0), (2, Ptr nb2 0), (3, Ptr nb3 0), (4, Ptr nb4 0), (7, U64 (vQ z0 16 1))]) (fun ⟨bl, pp, aa, zz, cc⟩ => [⟨nb1, [.slice aa zz.length cc, I64 ((eQ z0 pp:Int))], 107, (0, 0)⟩, ⟨nb2, [U64 0, U64 0, I64 0, .slice none 0 0, .slice none 0 0, U64 0] ++ cu8 (zr8 16), 38, (0, 0)⟩, ⟨nb3, [.slice none 0 0, I64 0], 107, (0, 0)⟩, ⟨nb4, [U64 (vQ z0 0 8), U64 (vQ z0 8 8), I64 (((vQ z0 16 1).toNat:Int)), .slice none 0 0, .slice none 0 0, U64 bl] ++ cu8 (zr8 16), 38, (0, 0)⟩]) (fun ⟨bl, pp, aa, zz, cc⟩ => ((vQ z0 16 1 = 3 ∧ bl = vQ z0 17 8 ∧ pp = 25) ∨ (vQ z0 16 1 ≠ 3 ∧ bl = 0 ∧ pp = 17)) ∧ Lq z0 zz pp ∧ (∀ w M, RdB w M ao z → RdB w M aa zz) ∧ zz.length ≤ cc ∧ cc ≤ maxLen ∧ zz.length ≤ n) ?_ ?_))
  ·
    refine CL (decide ((vQ z0 16 1) = (3:UInt64))) rfl (fun hb10 => ?_) (fun hb10 => ?_)
    ·
      have hp10 : (vQ z0 16 1) = (3:UInt64) := of_decide_eq_true hb10
      refine AG (AB (AA (.agg #[.slice ao3 zz3.length ca3, I64 ((eQ z0 17:Int))]) (AM rfl (A5 AQ AK rfl (AT 0 rfl (AJ _)))) rfl ?_))
      have hz4 : (zz3).length = zz3.length := rfl
      refine A2 (B3 118 [.agg #[.slice ao3 zz3.length ca3, I64 ((eQ z0 17:Int))], I64 8] _ (AZ _ Tryd.call118 rfl) (fun w1 hw1 => rreadQ_w 17 8 ao3 zz3.length ca3 z0 zz3 w1 rfl (by omega) (by omega) (by omega) ((hA3 _ _ (hA2 _ _ (hA1 _ _ hr))).at (M' := []) hw1 (by simp)) hq3 (by unfold Szd; omega))) rfl ?_
      rintro v1 L1 ⟨_, ⟨rfl, ao4, zz4, ca4, hq4, ⟨hA4, hb11, hb12, hb13⟩, rfl⟩, rfl⟩
      show JL _ _ _ _ ((46, .tuple #[U64 (vQ z0 17 8), .agg #[.slice ao4 zz4.length ca4, I64 ((eQ z0 25:Int))]]) :: _) [_, _, _, _]
      refine AA _ (AE rfl) rfl ?_
      refine AA _ (BB rfl rfl) rfl ?_
      refine AA _ (BB rfl rfl) rfl ?_
      refine A2 (BN _ ([.slice none 0 0, I64 0]) C7 (by kernel_rfl)) rfl ?_
      rintro v1 L1 ⟨nb5, hnb5, rfl, rfl⟩
      show JL _ _ _ _ ((9, Ptr nb5 0) :: _) [_, _, _, _, ⟨nb5, [.slice none 0 0, I64 0], 107, (0, 0)⟩]
      refine AA _ (AH rfl) rfl ?_
      refine AY (AU 4 nb5 2 ([.slice none 0 0, I64 0]) 107 ([.slice ao4 zz4.length ca4, I64 ((eQ z0 25:Int))]) rfl rfl rfl AK rfl (by simp [Value.oneCell']) (Nat.le_of_ble_eq_true rfl) (A0 (by simp []))) rfl ?_
      show JL _ _ _ _ _ [_, _, _, _, ⟨nb5, [.slice ao4 zz4.length ca4, I64 ((eQ z0 25:Int))], 107, (0, 0)⟩]
      refine AL (AC (AG (AB (AA (.agg #[.slice ao4 zz4.length ca4, I64 ((eQ z0 25:Int))]) (AM rfl (A5 AQ AK rfl (AT 4 rfl (AJ _)))) rfl ?_))))
      refine AY (AU 0 nb1 2 ([.slice ao3 zz3.length ca3, I64 ((eQ z0 17:Int))]) 107 ([.slice ao4 zz4.length ca4, I64 ((eQ z0 25:Int))]) rfl rfl rfl AK rfl (by simp [Value.oneCell']) (Nat.le_of_ble_eq_true rfl) (A0 (by simp []))) rfl ?_
      show JL _ _ _ _ _ [⟨nb1, [.slice ao4 zz4.length ca4, I64 ((eQ z0 25:Int))], 107, (0, 0)⟩, _, _, _, _]
      refine AL (AC (AB (AA _ (AE rfl) rfl ?_)))
      refine AA (Ptr nb4 2) (AD 2 36 4 BK rfl CJ rfl rfl) rfl ?_
      refine AA (Ptr nb4 5) (AD 3 22 1 BE rfl A1 rfl rfl) rfl ?_
      refine AY (C0 3 nb4 5 1 ([U64 (vQ z0 0 8), U64 (vQ z0 8 8), I64 (((vQ z0 16 1).toNat:Int)), .slice none 0 0, .slice none 0 0, U64 0] ++ cu8 (zr8 16)) 38 (U64 (vQ z0 17 8)) ([U64 (vQ z0 17 8)]) ([U64 (vQ z0 0 8), U64 (vQ z0 8 8), I64 (((vQ z0 16 1).toNat:Int)), .slice none 0 0, .slice none 0 0, U64 (vQ z0 17 8)] ++ cu8 (zr8 16)) rfl rfl rfl rfl A1 rfl (by simp [Value.oneCell']) (by simp [(AN 16)]) (EV (p := [U64 (vQ z0 0 8), U64 (vQ z0 8 8), I64 (((vQ z0 16 1).toNat:Int)), .slice none 0 0, .slice none 0 0, U64 0]) (vs := [U64 (vQ z0 17 8)]) (o := 5) (by simp []) (rfl))) rfl ?_
      show JL _ _ _ _ _ [_, _, _, ⟨nb4, [U64 (vQ z0 0 8), U64 (vQ z0 8 8), I64 (((vQ z0 16 1).toNat:Int)), .slice none 0 0, .slice none 0 0, U64 (vQ z0 17 8)] ++ cu8 (zr8 16), 38, (0, 0)⟩, _]
      refine AL (GA [0, 1, 2, 3] (by decide) ?_)
      show JQ _ _ _ _ [_, _, _, _]
      refine FG ((vQ z0 17 8, 25, ao4, zz4, ca4)) ⟨.inl ⟨of_decide_eq_true hb10, rfl, rfl⟩, hq4, (by intro w M hr; exact (hA4 _ _ (hA3 _ _ (hA2 _ _ (hA1 _ _ hr))))), by omega, by omega, by omega⟩ (Sub.all rfl) rfl
    ·
      have hp10 : ¬ ((vQ z0 16 1) = (3:UInt64)) := of_decide_eq_false hb10
      refine BL (FG ((0, 17, ao3, zz3, ca3)) ⟨.inr ⟨of_decide_eq_false hb10, rfl, rfl⟩, hq3, (by intro w M hr; exact (hA3 _ _ (hA2 _ _ (hA1 _ _ hr)))), by omega, by omega, by omega⟩ (Sub.all rfl) rfl)
  ·
    rintro ⟨bl, pp, aa, zz, cc⟩ hx
    obtain ⟨hP, hu5, hu6, hu10, hu11, hu12⟩ := hx
    show JQ _ _ _ [(1, Ptr nb1 0), (2, Ptr nb2 0), (3, Ptr nb3 0), (4, Ptr nb4 0), (7, U64 (vQ z0 16 1))] [⟨nb1, [.slice aa zz.length cc, I64 ((eQ z0 pp:Int))], 107, (0, 0)⟩, ⟨nb2, [U64 0, U64 0, I64 0, .slice none 0 0, .slice none 0 0, U64 0] ++ cu8 (zr8 16), 38, (0, 0)⟩, ⟨nb3, [.slice none 0 0, I64 0], 107, (0, 0)⟩, ⟨nb4, [U64 (vQ z0 0 8), U64 (vQ z0 8 8), I64 (((vQ z0 16 1).toNat:Int)), .slice none 0 0, .slice none 0 0, U64 bl] ++ cu8 (zr8 16), 38, (0, 0)⟩]
    refine AC (AG (JC_cut (ι := (UInt64 × Nat × Option Addr × List UInt8 × Nat) ⊕ (Nat × List Value × Nat × Option Addr × List UInt8 × Nat × Nat) ⊕ (Nat × Nat × List Value × Nat × Nat × List Value × Nat × Option Addr × List UInt8 × Nat) ⊕ (Option Addr × List UInt8 × Nat × Option Addr × Nat × Nat × Option Addr × Nat × Nat)) (fun x => match x with | .inl ⟨bl, pp, aa, zz, cc⟩ => [(1, Ptr nb1 0), (2, Ptr nb2 0), (3, Ptr nb3 0), (4, Ptr nb4 0)] | .inr (.inl ⟨gb, sp, cp, aa, zz, cc, pp⟩) => [(1, Ptr nb1 0), (2, Ptr nb2 0), (3, Ptr nb3 0), (4, Ptr nb4 0)] | .inr (.inr (.inl ⟨pp, gs, sp2, cp2, gb, sp, cp, aa, zz, cc⟩)) => [(1, Ptr nb1 0), (2, Ptr nb2 0), (3, Ptr nb3 0), (4, Ptr nb4 0)] | .inr (.inr (.inr ⟨ab, zb, cb, a1, n1, c1, a2, n2, c2⟩)) => [(1, Ptr nb1 0), (2, Ptr nb2 0), (3, Ptr nb3 0), (4, Ptr nb4 0)]) (fun x => match x with | .inl ⟨bl, pp, aa, zz, cc⟩ => [⟨nb1, [.slice aa zz.length cc, I64 ((eQ z0 pp:Int))], 107, (0, 0)⟩, ⟨nb2, [U64 0, U64 0, I64 0, .slice none 0 0, .slice none 0 0, U64 0] ++ cu8 (zr8 16), 38, (0, 0)⟩, ⟨nb3, [.slice none 0 0, I64 0], 107, (0, 0)⟩, ⟨nb4, [U64 (vQ z0 0 8), U64 (vQ z0 8 8), I64 (((vQ z0 16 1).toNat:Int)), .slice none 0 0, .slice none 0 0, U64 bl] ++ cu8 (zr8 16), 38, (0, 0)⟩] | .inr (.inl ⟨gb, sp, cp, aa, zz, cc, pp⟩) => [⟨nb1, [.slice aa zz.length cc, I64 ((eQ z0 pp:Int))], 107, (0, 0)⟩, ⟨nb2, [U64 0, U64 0, I64 0, .slice none 0 0, .slice none 0 0, U64 0] ++ cu8 (zr8 16), 38, (0, 0)⟩, ⟨nb3, [.slice none 0 0, I64 0], 107, (0, 0)⟩, ⟨nb4, [U64 (vQ z0 0 8), U64 (vQ z0 8 8), I64 (((vQ z0 16 1).toNat:Int)), Slc gb 0 m cp, .slice none 0 0, U64 0] ++ cu8 (zr8 16), 38, (0, 0)⟩, ⟨gb, cu64 (ixQ z0 18 m) ++ sp, 22, (0, 0)⟩] | .inr (.inr (.inl ⟨pp, gs, sp2, cp2, gb, sp, cp, aa, zz, cc⟩)) => [⟨nb1, [.slice aa zz.length cc, I64 ((eQ z0 pp:Int))], 107, (0, 0)⟩, ⟨nb2, [U64 0, U64 0, I64 0, .slice none 0 0, .slice none 0 0, U64 0] ++ cu8 (zr8 16), 38, (0, 0)⟩, ⟨nb3, [.slice none 0 0, I64 0], 107, (0, 0)⟩, ⟨nb4, [U64 (vQ z0 0 8), U64 (vQ z0 8 8), I64 (((vQ z0 16 1).toNat:Int)), Slc gb 0 m cp, Slc gs 0 m cp2, U64 0] ++ cu8 (zr8 16), 38, (0, 0)⟩, ⟨gb, cu64 (ixQ z0 18 m) ++ sp, 22, (0, 0)⟩, ⟨gs, (seQ z0 (4*m + 18) m).flatMap sealC ++ sp2, 164, (0, 0)⟩] | .inr (.inr (.inr ⟨ab, zb, cb, a1, n1, c1, a2, n2, c2⟩)) => [⟨nb1, [.slice ab zb.length cb, I64 2], 107, (0, 0)⟩, ⟨nb2, [U64 0, U64 0, I64 0, .slice none 0 0, .slice none 0 0, U64 0] ++ cu8 (zr8 16), 38, (0, 0)⟩, ⟨nb3, [.slice none 0 0, I64 0], 107, (0, 0)⟩, ⟨nb4, [U64 (vQ z0 0 8), U64 (vQ z0 8 8), I64 (((vQ z0 16 1).toNat:Int)), .slice a1 n1 c1, .slice a2 n2 c2, U64 0] ++ cu8 (zr8 16), 38, (0, 0)⟩]) (fun x => match x with | .inl ⟨bl, pp, aa, zz, cc⟩ => ((vQ z0 16 1 = 3 ∧ bl = vQ z0 17 8 ∧ pp = 25) ∨ (BadQ z0 ∧ mayN (vQ z0 0 8) (vQ z0 8 8) (((vQ z0 16 1).toNat:Int)) ([] : List UInt64) ([] : List SealR) bl ≠ 0)) ∧ Lq z0 zz pp ∧ (∀ w M, RdB w M ao z → RdB w M aa zz) ∧ zz.length ≤ cc ∧ cc ≤ maxLen ∧ zz.length ≤ n | .inr (.inl ⟨gb, sp, cp, aa, zz, cc, pp⟩) => vQ z0 16 1 = 2 ∧ pp = 4*m + 18 ∧ sp.length = cp - m ∧ m ≤ cp ∧ cp ≤ maxLen ∧ Lq z0 zz pp ∧ (∀ w M, RdB w M ao z → RdB w M aa zz) ∧ zz.length ≤ cc ∧ cc ≤ maxLen ∧ zz.length ≤ n | .inr (.inr (.inl ⟨pp, gs, sp2, cp2, gb, sp, cp, aa, zz, cc⟩)) => vQ z0 16 1 = 1 ∧ pp = 60*m + 18 ∧ sp2.length = cp2 * 49 - m * 49 ∧ m ≤ cp2 ∧ cp2 ≤ maxLen ∧ sp.length = cp - m ∧ m ≤ cp ∧ cp ≤ maxLen ∧ Lq z0 zz pp ∧ (∀ w M, RdB w M ao z → RdB w M aa zz) ∧ zz.length ≤ cc ∧ cc ≤ maxLen ∧ zz.length ≤ n | .inr (.inr (.inr ⟨ab, zb, cb, a1, n1, c1, a2, n2, c2⟩)) => BadQ z0 ∧ (∀ w M, RdB w M ao z → RdB w M ab zb) ∧ zb.length ≤ cb ∧ cb ≤ maxLen ∧ zb.length ≤ n) ?_ ?_))
    ·
      refine AG (JC_cut (ι := Unit) (fun _ => [(1, Ptr nb1 0), (2, Ptr nb2 0), (3, Ptr nb3 0), (4, Ptr nb4 0), (7, U64 (vQ z0 16 1)), (58, .bool (decide ((vQ z0 16 1) = (1:UInt64)) || decide ((vQ z0 16 1) = (2:UInt64))))]) (fun _ => [⟨nb1, [.slice aa zz.length cc, I64 ((eQ z0 pp:Int))], 107, (0, 0)⟩, ⟨nb2, [U64 0, U64 0, I64 0, .slice none 0 0, .slice none 0 0, U64 0] ++ cu8 (zr8 16), 38, (0, 0)⟩, ⟨nb3, [.slice none 0 0, I64 0], 107, (0, 0)⟩, ⟨nb4, [U64 (vQ z0 0 8), U64 (vQ z0 8 8), I64 (((vQ z0 16 1).toNat:Int)), .slice none 0 0, .slice none 0 0, U64 bl] ++ cu8 (zr8 16), 38, (0, 0)⟩]) (fun _ => True) ?_ ?_)
      ·
        refine AB (AA _ (AE rfl) rfl ?_)
        refine AA (.bool (decide ((vQ z0 16 1) = (1:UInt64)))) (AP rfl rfl fun _ => E6 (vQ z0 16 1) (1:UInt64)) rfl ?_
        refine AA _ (AE rfl) rfl ?_
        rcases Bool.eq_false_or_eq_true (decide ((vQ z0 16 1) = (1:UInt64))) with hb14 | hb14
        ·
          have hp14 : (vQ z0 16 1) = (1:UInt64) := of_decide_eq_true hb14
          refine AF 2 55 false _ rfl rfl hb14 rfl ?_
          refine AF 2 55 false _ rfl rfl hb14 rfl ?_
          refine AA _ (BO _ rfl hb14 rfl) rfl ?_
          refine AL (FG (()) trivial (Sub.cons rfl (Sub.cons rfl (Sub.cons rfl (Sub.cons rfl (Sub.cons rfl (Sub.cons (congrArg (fun b => some (Value.bool b)) (by rw [hb14]; rfl : true = (decide ((vQ z0 16 1) = (1:UInt64)) || decide ((vQ z0 16 1) = (2:UInt64))))) (Sub.nil))))))) rfl)
        ·
          have hp14 : ¬ ((vQ z0 16 1) = (1:UInt64)) := of_decide_eq_false hb14
          refine AS 2 55 false _ _ rfl rfl hb14 (AE rfl) rfl ?_
          refine AS 2 55 false _ (.bool (decide ((vQ z0 16 1) = (2:UInt64)))) rfl rfl hb14 (AP rfl rfl fun _ => E6 (vQ z0 16 1) (2:UInt64)) rfl ?_
          refine AA _ (BF _ rfl hb14 rfl) rfl ?_
          refine AL (FG (()) trivial (Sub.cons rfl (Sub.cons rfl (Sub.cons rfl (Sub.cons rfl (Sub.cons rfl (Sub.cons (congrArg (fun b => some (Value.bool b)) (by rw [hb14]; rfl : decide ((vQ z0 16 1) = (2:UInt64)) = (decide ((vQ z0 16 1) = (1:UInt64)) || decide ((vQ z0 16 1) = (2:UInt64))))) (Sub.nil))))))) rfl)
      ·
        rintro _ hx
        obtain _ := hx
        show JQ _ _ _ [(1, Ptr nb1 0), (2, Ptr nb2 0), (3, Ptr nb3 0), (4, Ptr nb4 0), (7, U64 (vQ z0 16 1)), (58, .bool (decide ((vQ z0 16 1) = (1:UInt64)) || decide ((vQ z0 16 1) = (2:UInt64))))] [⟨nb1, [.slice aa zz.length cc, I64 ((eQ z0 pp:Int))], 107, (0, 0)⟩, ⟨nb2, [U64 0, U64 0, I64 0, .slice none 0 0, .slice none 0 0, U64 0] ++ cu8 (zr8 16), 38, (0, 0)⟩, ⟨nb3, [.slice none 0 0, I64 0], 107, (0, 0)⟩, ⟨nb4, [U64 (vQ z0 0 8), U64 (vQ z0 8 8), I64 (((vQ z0 16 1).toNat:Int)), .slice none 0 0, .slice none 0 0, U64 bl] ++ cu8 (zr8 16), 38, (0, 0)⟩]
        refine AC (CL ((decide ((vQ z0 16 1) = (1:UInt64)) || decide ((vQ z0 16 1) = (2:UInt64)))) rfl (fun hb15 => ?_) (fun hb15 => ?_))
        ·
          refine AG ?_
          have hk12 := kd12U hb15
          obtain ⟨hk3, rfl, rfl⟩ := hP.resolve_left (fun h => kd3U hk12 h.1)
          show JC _ _ _ _ [⟨nb1, [.slice aa zz.length cc, I64 ((eQ z0 17:Int))], 107, (0, 0)⟩, ⟨nb2, [U64 0, U64 0, I64 0, .slice none 0 0, .slice none 0 0, U64 0] ++ cu8 (zr8 16), 38, (0, 0)⟩, ⟨nb3, [.slice none 0 0, I64 0], 107, (0, 0)⟩, ⟨nb4, [U64 (vQ z0 0 8), U64 (vQ z0 8 8), I64 (((vQ z0 16 1).toNat:Int)), .slice none 0 0, .slice none 0 0, U64 0] ++ cu8 (zr8 16), 38, (0, 0)⟩]
          refine AB (AA (.agg #[.slice aa zz.length cc, I64 ((eQ z0 17:Int))]) (AM rfl (A5 AQ AK rfl (AT 0 rfl (AJ _)))) rfl ?_)
          have hz5 : (zz).length = zz.length := rfl
          refine A2 (B3 118 [.agg #[.slice aa zz.length cc, I64 ((eQ z0 17:Int))], I64 1] _ (AZ _ Tryd.call118 rfl) (fun w1 hw1 => rreadQ_w 17 1 aa zz.length cc z0 zz w1 rfl (by omega) (by omega) (by omega) ((hu6 _ _ hr).at (M' := []) hw1 (by simp)) hu5 (by unfold Szd; omega))) rfl ?_
          rintro v1 L1 ⟨_, ⟨rfl, ao5, zz5, ca5, hq5, ⟨hA5, hb16, hb17, hb18⟩, rfl⟩, rfl⟩
          show JL _ _ _ _ ((61, .tuple #[U64 (vQ z0 17 1), .agg #[.slice ao5 zz5.length ca5, I64 ((eQ z0 18:Int))]]) :: _) [_, _, _, _]
          refine AA _ (AE rfl) rfl ?_
          refine AA _ (BB rfl rfl) rfl ?_
          refine AA _ (BB rfl rfl) rfl ?_
          refine A2 (BN _ ([.slice none 0 0, I64 0]) C7 (by kernel_rfl)) rfl ?_
          rintro v1 L1 ⟨nb6, hnb6, rfl, rfl⟩
          show JL _ _ _ _ ((11, Ptr nb6 0) :: _) [_, _, _, _, ⟨nb6, [.slice none 0 0, I64 0], 107, (0, 0)⟩]
          refine AA _ (AH rfl) rfl ?_
          refine AY (AU 4 nb6 2 ([.slice none 0 0, I64 0]) 107 ([.slice ao5 zz5.length ca5, I64 ((eQ z0 18:Int))]) rfl rfl rfl AK rfl (by simp [Value.oneCell']) (Nat.le_of_ble_eq_true rfl) (A0 (by simp []))) rfl ?_
          show JL _ _ _ _ _ [_, _, _, _, ⟨nb6, [.slice ao5 zz5.length ca5, I64 ((eQ z0 18:Int))], 107, (0, 0)⟩]
          refine AL (AC (AG (AB (AA (.agg #[.slice ao5 zz5.length ca5, I64 ((eQ z0 18:Int))]) (AM rfl (A5 AQ AK rfl (AT 4 rfl (AJ _)))) rfl ?_))))
          refine AY (AU 0 nb1 2 ([.slice aa zz.length cc, I64 ((eQ z0 17:Int))]) 107 ([.slice ao5 zz5.length ca5, I64 ((eQ z0 18:Int))]) rfl rfl rfl AK rfl (by simp [Value.oneCell']) (Nat.le_of_ble_eq_true rfl) (A0 (by simp []))) rfl ?_
          show JL _ _ _ _ _ [⟨nb1, [.slice ao5 zz5.length ca5, I64 ((eQ z0 18:Int))], 107, (0, 0)⟩, _, _, _, _]
          refine AL (AC (AG (AG (AB (AA _ (AH rfl) rfl ?_)))))
          refine AL (AC (B5 [true, true, true, true, false] ?_))
          show JC _ _ _ _ [_, _, _, _]
          refine JC_cut (ι := (Option Addr × List UInt8 × Nat × Option Addr × Nat × Nat) ⊕ (Nat × List Value × Nat × Option Addr × List UInt8 × Nat × Nat)) (fun x => match x with | .inl ⟨ab, zb, cb, a1, n1, c1⟩ => [(1, Ptr nb1 0), (2, Ptr nb2 0), (3, Ptr nb3 0), (4, Ptr nb4 0), (7, U64 (vQ z0 16 1)), (10, U64 (vQ z0 17 1))] | .inr ⟨gb, sp, cp, aa, zz, cc, aq⟩ => [(1, Ptr nb1 0), (2, Ptr nb2 0), (3, Ptr nb3 0), (4, Ptr nb4 0), (7, U64 (vQ z0 16 1)), (10, U64 (vQ z0 17 1))]) (fun x => match x with | .inl ⟨ab, zb, cb, a1, n1, c1⟩ => [⟨nb1, [.slice ab zb.length cb, I64 2], 107, (0, 0)⟩, ⟨nb2, [U64 0, U64 0, I64 0, .slice none 0 0, .slice none 0 0, U64 0] ++ cu8 (zr8 16), 38, (0, 0)⟩, ⟨nb3, [.slice none 0 0, I64 0], 107, (0, 0)⟩, ⟨nb4, [U64 (vQ z0 0 8), U64 (vQ z0 8 8), I64 (((vQ z0 16 1).toNat:Int)), .slice a1 n1 c1, .slice none 0 0, U64 0] ++ cu8 (zr8 16), 38, (0, 0)⟩] | .inr ⟨gb, sp, cp, aa, zz, cc, aq⟩ => [⟨nb1, [.slice aa zz.length cc, I64 ((eQ z0 aq:Int))], 107, (0, 0)⟩, ⟨nb2, [U64 0, U64 0, I64 0, .slice none 0 0, .slice none 0 0, U64 0] ++ cu8 (zr8 16), 38, (0, 0)⟩, ⟨nb3, [.slice none 0 0, I64 0], 107, (0, 0)⟩, ⟨nb4, [U64 (vQ z0 0 8), U64 (vQ z0 8 8), I64 (((vQ z0 16 1).toNat:Int)), Slc gb 0 m cp, .slice none 0 0, U64 0] ++ cu8 (zr8 16), 38, (0, 0)⟩, ⟨gb, cu64 (ixQ z0 18 m) ++ sp, 22, (0, 0)⟩]) (fun x => match x with | .inl ⟨ab, zb, cb, a1, n1, c1⟩ => z0.length < 4*m + 34 ∧ (∀ w M, RdB w M ao z → RdB w M ab zb) ∧ zb.length ≤ cb ∧ cb ≤ maxLen ∧ zb.length ≤ n | .inr ⟨gb, sp, cp, aa, zz, cc, aq⟩ => aq = 4*m + 18 ∧ sp.length = cp - m ∧ m ≤ cp ∧ cp ≤ maxLen ∧ Lq z0 zz aq ∧ (∀ w M, RdB w M ao z → RdB w M aa zz) ∧ zz.length ≤ cc ∧ cc ≤ maxLen ∧ zz.length ≤ n) ?_ ?_
          ·
            refine B4 (D4 (ι := (Unit) ⊕ (Nat × List UInt64 × Nat × List Value × Nat × Option Addr × List UInt8 × Nat)) (fun x => match x with | .inl _ => [(1, Ptr nb1 0), (2, Ptr nb2 0), (3, Ptr nb3 0), (4, Ptr nb4 0), (7, U64 (vQ z0 16 1)), (10, U64 (vQ z0 17 1)), (12, I64 0)] | .inr ⟨i, ll, gb, sp, cp, aa1, zz1, cc1⟩ => [(1, Ptr nb1 0), (2, Ptr nb2 0), (3, Ptr nb3 0), (4, Ptr nb4 0), (7, U64 (vQ z0 16 1)), (10, U64 (vQ z0 17 1)), (12, I64 i)]) (fun x => match x with | .inl _ => [⟨nb1, [.slice ao5 zz5.length ca5, I64 ((eQ z0 18:Int))], 107, (0, 0)⟩, ⟨nb2, [U64 0, U64 0, I64 0, .slice none 0 0, .slice none 0 0, U64 0] ++ cu8 (zr8 16), 38, (0, 0)⟩, ⟨nb3, [.slice none 0 0, I64 0], 107, (0, 0)⟩, ⟨nb4, [U64 (vQ z0 0 8), U64 (vQ z0 8 8), I64 (((vQ z0 16 1).toNat:Int)), .slice none 0 0, .slice none 0 0, U64 0] ++ cu8 (zr8 16), 38, (0, 0)⟩] | .inr ⟨i, ll, gb, sp, cp, aa1, zz1, cc1⟩ => [⟨nb1, [.slice aa1 zz1.length cc1, I64 ((eQ z0 (4*i + 18):Int))], 107, (0, 0)⟩, ⟨nb2, [U64 0, U64 0, I64 0, .slice none 0 0, .slice none 0 0, U64 0] ++ cu8 (zr8 16), 38, (0, 0)⟩, ⟨nb3, [.slice none 0 0, I64 0], 107, (0, 0)⟩, ⟨nb4, [U64 (vQ z0 0 8), U64 (vQ z0 8 8), I64 (((vQ z0 16 1).toNat:Int)), Slc gb 0 i cp, .slice none 0 0, U64 0] ++ cu8 (zr8 16), 38, (0, 0)⟩, ⟨gb, cu64 ll ++ sp, 22, (0, 0)⟩]) (fun x => match x with | .inl _ => True | .inr ⟨i, ll, gb, sp, cp, aa1, zz1, cc1⟩ => 0 < i ∧ i ≤ m ∧ ll = ixQ z0 18 i ∧ ll.length = i ∧ sp.length = cp - i ∧ i ≤ cp ∧ cp ≤ maxLen ∧ Lq z0 zz1 (4*i + 18) ∧ (∀ w M, RdB w M ao z → RdB w M aa1 zz1) ∧ zz1.length ≤ cc1 ∧ cc1 ≤ maxLen ∧ zz1.length ≤ n) (fun x => match x with | .inl _ => m + 2 | .inr ⟨i, ll, gb, sp, cp, aa1, zz1, cc1⟩ => m + 1 - i) (.inl ()) trivial (Sub.all rfl) rfl ?_)
            rintro (_ | ⟨i, ll, gb, sp, cp, aa1, zz1, cc1⟩) hx
            ·
              obtain _ := hx
              show JC _ _ _ [(1, Ptr nb1 0), (2, Ptr nb2 0), (3, Ptr nb3 0), (4, Ptr nb4 0), (7, U64 (vQ z0 16 1)), (10, U64 (vQ z0 17 1)), (12, I64 0)] [⟨nb1, [.slice ao5 zz5.length ca5, I64 ((eQ z0 18:Int))], 107, (0, 0)⟩, ⟨nb2, [U64 0, U64 0, I64 0, .slice none 0 0, .slice none 0 0, U64 0] ++ cu8 (zr8 16), 38, (0, 0)⟩, ⟨nb3, [.slice none 0 0, I64 0], 107, (0, 0)⟩, ⟨nb4, [U64 (vQ z0 0 8), U64 (vQ z0 8 8), I64 (((vQ z0 16 1).toNat:Int)), .slice none 0 0, .slice none 0 0, U64 0] ++ cu8 (zr8 16), 38, (0, 0)⟩]
              refine AG (AG (AB (AA _ (AE rfl) rfl ?_)))
              refine AA _ (AE rfl) rfl ?_
              refine AA (I64 (((vQ z0 17 1).toNat:Int))) (EG _ _ rfl fun _ => FP (by rw [B8]; rfl) DK (vQ z0 17 1) _ rfl (by omega)) rfl ?_
              refine AA (.bool (decide ((0:Int) ≤ (((vQ z0 17 1).toNat:Int))))) (AP rfl rfl fun _ => bin_leq_i _ _) rfl ?_
              refine AA _ (AE rfl) rfl ?_
              refine AS 4 69 true _ (Ptr nb1 1) rfl rfl (decide_eq_true (by omega)) (AD 1 3 1 BG rfl BA rfl rfl) rfl ?_
              refine AS 4 69 true _ (I64 ((eQ z0 18:Int))) rfl rfl (decide_eq_true (by omega)) (AM rfl (A6 BS (AT 0 rfl (AO (Seg.head))))) rfl ?_
              refine AS 4 69 true _ (.bool (decide (((eQ z0 18:Int)) = (0:Int)))) rfl rfl (decide_eq_true (by omega)) (AP rfl rfl fun _ => CA _ _) rfl ?_
              refine AA _ (BO _ rfl (decide_eq_true (by omega)) rfl) rfl ?_
              refine AL (AC (CL (decide (((eQ z0 18:Int)) = (0:Int))) rfl (fun hb19 => ?_) (fun hb19 => ?_)))
              ·
                have hp19 : ((eQ z0 18:Int)) = (0:Int) := of_decide_eq_true hb19
                refine BL (AC (AG (B4 (AG (AB (AA (.agg #[.slice ao5 zz5.length ca5, I64 ((eQ z0 18:Int))]) (AM rfl (A5 AQ AK rfl (AT 0 rfl (AJ _)))) rfl ?_))))))
                have hz6 : (zz5).length = zz5.length := rfl
                refine A2 (B3 118 [.agg #[.slice ao5 zz5.length ca5, I64 ((eQ z0 18:Int))], I64 4] _ (AZ _ Tryd.call118 rfl) (fun w1 hw1 => rreadQ_w 18 4 ao5 zz5.length ca5 z0 zz5 w1 rfl (by omega) (by omega) (by omega) ((hA5 _ _ (hu6 _ _ hr)).at (M' := []) hw1 (by simp)) hq5 (by unfold Szd; omega))) rfl ?_
                rintro v1 L1 ⟨_, ⟨rfl, ao6, zz6, ca6, hq6, ⟨hA6, hb20, hb21, hb22⟩, rfl⟩, rfl⟩
                show JL _ _ _ _ ((78, .tuple #[U64 (vQ z0 18 4), .agg #[.slice ao6 zz6.length ca6, I64 ((eQ z0 22:Int))]]) :: _) [_, _, _, _]
                refine AA _ (AE rfl) rfl ?_
                refine AA _ (BB rfl rfl) rfl ?_
                refine AA _ (BB rfl rfl) rfl ?_
                refine A2 (BN _ ([.slice none 0 0, I64 0]) C7 (by kernel_rfl)) rfl ?_
                rintro v1 L1 ⟨nb7, hnb7, rfl, rfl⟩
                show JL _ _ _ _ ((14, Ptr nb7 0) :: _) [_, _, _, _, ⟨nb7, [.slice none 0 0, I64 0], 107, (0, 0)⟩]
                refine AA _ (AH rfl) rfl ?_
                refine AY (AU 4 nb7 2 ([.slice none 0 0, I64 0]) 107 ([.slice ao6 zz6.length ca6, I64 ((eQ z0 22:Int))]) rfl rfl rfl AK rfl (by simp [Value.oneCell']) (Nat.le_of_ble_eq_true rfl) (A0 (by simp []))) rfl ?_
                show JL _ _ _ _ _ [_, _, _, _, ⟨nb7, [.slice ao6 zz6.length ca6, I64 ((eQ z0 22:Int))], 107, (0, 0)⟩]
                refine AL (AC (AG (AB (AA (.agg #[.slice ao6 zz6.length ca6, I64 ((eQ z0 22:Int))]) (AM rfl (A5 AQ AK rfl (AT 4 rfl (AJ _)))) rfl ?_))))
                refine AY (AU 0 nb1 2 ([.slice ao5 zz5.length ca5, I64 ((eQ z0 18:Int))]) 107 ([.slice ao6 zz6.length ca6, I64 ((eQ z0 22:Int))]) rfl rfl rfl AK rfl (by simp [Value.oneCell']) (Nat.le_of_ble_eq_true rfl) (A0 (by simp []))) rfl ?_
                show JL _ _ _ _ _ [⟨nb1, [.slice ao6 zz6.length ca6, I64 ((eQ z0 22:Int))], 107, (0, 0)⟩, _, _, _, _]
                refine AL (AC (AB (AA (Ptr nb4 2) (AD 2 36 4 BK rfl CJ rfl rfl) rfl ?_)))
                refine AA (Ptr nb4 3) (AD 1 23 1 BE rfl B9 rfl rfl) rfl ?_
                refine AA (.slice none 0 0) (AM rfl (A6 C1 (AT 3 rfl (A8 (AO (AO (AO (Seg.head)))))))) rfl ?_
                refine AA _ (AE rfl) rfl ?_
                refine A2 (CP 22 1 _ [(0, U64 (vQ z0 18 4))] ([U64 (vQ z0 18 4)]) BR A1 Tryd.zeroValue22 rfl rfl rfl (by kernel_rfl)) rfl ?_
                rintro v1 L1 ⟨nb8, hnb8, rfl, rfl⟩
                show JL _ _ _ _ ((86, Slc nb8 0 1 1) :: _) [_, _, _, _, _, ⟨nb8, [U64 (vQ z0 18 4)], 22, (0, 0)⟩]
                refine A2 (Step_appM64 23 22 [false, false, false, false, false, false] (.slice none 0 0) 0 ([] : List UInt64) ([vQ z0 18 4]) (some ⟨nb8, 0, none⟩) 1 1 1 BR Tryd.info22 rfl (.inl ⟨rfl, rfl, rfl, rfl, by omega⟩) rfl (by simp) (SrcAt.mem (AT 5 rfl (Seg.head))) (by omega) (by unfold maxLen; omega) (by omega)) rfl ?_
                rintro v1 L1 ⟨nb9, sp1, cp1, hg1, rfl, rfl, ha1, ha2, ha3, ha4⟩
                show JL _ _ _ _ ((87, Slc nb9 0 1 cp1) :: _) [_, _, _, _, _, _, ⟨nb9, cu64 (([] : List UInt64) ++ ([vQ z0 18 4])) ++ sp1, 22, (0, 0)⟩]
                refine AA (Ptr nb4 2) (AD 2 36 4 BK rfl CJ rfl rfl) rfl ?_
                refine AA (Ptr nb4 3) (AD 1 23 1 BE rfl B9 rfl rfl) rfl ?_
                refine AY (C0 3 nb4 3 1 ([U64 (vQ z0 0 8), U64 (vQ z0 8 8), I64 (((vQ z0 16 1).toNat:Int)), .slice none 0 0, .slice none 0 0, U64 0] ++ cu8 (zr8 16)) 38 (Slc nb9 0 1 cp1) ([Slc nb9 0 1 cp1]) ([U64 (vQ z0 0 8), U64 (vQ z0 8 8), I64 (((vQ z0 16 1).toNat:Int)), Slc nb9 0 1 cp1, .slice none 0 0, U64 0] ++ cu8 (zr8 16)) rfl rfl rfl rfl B9 rfl (by simp [Value.oneCell']) (by simp [(AN 16)]) (EV (p := [U64 (vQ z0 0 8), U64 (vQ z0 8 8), I64 (((vQ z0 16 1).toNat:Int)), .slice none 0 0, .slice none 0 0, U64 0]) (vs := [Slc nb9 0 1 cp1]) (o := 3) (by simp []) (rfl))) rfl ?_
                show JL _ _ _ _ _ [_, _, _, ⟨nb4, [U64 (vQ z0 0 8), U64 (vQ z0 8 8), I64 (((vQ z0 16 1).toNat:Int)), Slc nb9 0 1 cp1, .slice none 0 0, U64 0] ++ cu8 (zr8 16), 38, (0, 0)⟩, _, _, _]
                refine AL (B0 (AC (AB (AA _ (AE rfl) rfl ?_))))
                refine AA (I64 1) (AP rfl rfl fun _ => DL _ _ (1:Int) (by omega) (by omega)) rfl ?_
                refine AA _ (AH rfl) rfl ?_
                refine AL (DO (B5 [true, true, true, true, false, false, true] ?_))
                show K _ _ [_, _, _, _, _] _
                refine ER (.inr (1, ([] : List UInt64) ++ ([vQ z0 18 4]), nb9, sp1, cp1, ao6, zz6, ca6)) ⟨by omega, by omega, by rw [ixQ_one]; rfl, (ha1).trans (by first | rfl | simp +arith), (ha2).trans (by first | rfl | omega), by omega, by omega, hq6, (by intro w M hr; exact (hA6 _ _ (hA5 _ _ (hu6 _ _ hr)))), by omega, by omega, by omega⟩ (by dsimp only; omega) (Sub.all rfl) rfl
              ·
                have hp19 : ¬ (((eQ z0 18:Int)) = (0:Int)) := of_decide_eq_false hb19
                refine DU (A9 (A9 (CR ?_)))
                have hne : ¬ 18 ≤ z0.length := fun h => (of_decide_eq_false hb19) (by rw [F7 h]; rfl)
                rw [eQ_bad hne]
                refine FG (.inl (ao5, zz5, ca5, none, 0, 0)) ⟨by omega, (by intro w M hr; exact (hA5 _ _ (hu6 _ _ hr))), by omega, by omega, by omega⟩ (Sub.all rfl) rfl
            ·
              obtain ⟨hi1, hi2, hi3, hi4, hi5, hi6, hi7, hi8, hi9, hi10, hi11, hi12⟩ := hx
              show JC _ _ _ [(1, Ptr nb1 0), (2, Ptr nb2 0), (3, Ptr nb3 0), (4, Ptr nb4 0), (7, U64 (vQ z0 16 1)), (10, U64 (vQ z0 17 1)), (12, I64 i)] [⟨nb1, [.slice aa1 zz1.length cc1, I64 ((eQ z0 (4*i + 18):Int))], 107, (0, 0)⟩, ⟨nb2, [U64 0, U64 0, I64 0, .slice none 0 0, .slice none 0 0, U64 0] ++ cu8 (zr8 16), 38, (0, 0)⟩, ⟨nb3, [.slice none 0 0, I64 0], 107, (0, 0)⟩, ⟨nb4, [U64 (vQ z0 0 8), U64 (vQ z0 8 8), I64 (((vQ z0 16 1).toNat:Int)), Slc gb 0 i cp, .slice none 0 0, U64 0] ++ cu8 (zr8 16), 38, (0, 0)⟩, ⟨gb, cu64 ll ++ sp, 22, (0, 0)⟩]
              refine AG (AG (AB (AA _ (AE rfl) rfl ?_)))
              refine AA _ (AE rfl) rfl ?_
              refine AA (I64 (((vQ z0 17 1).toNat:Int))) (EG _ _ rfl fun _ => FP (by rw [B8]; rfl) DK (vQ z0 17 1) _ rfl (by omega)) rfl ?_
              refine AA (.bool (decide (((i:Int)) ≤ (((vQ z0 17 1).toNat:Int))))) (AP rfl rfl fun _ => bin_leq_i _ _) rfl ?_
              refine AA _ (AE rfl) rfl ?_
              rcases Bool.eq_false_or_eq_true (decide (((i:Int)) ≤ (((vQ z0 17 1).toNat:Int)))) with hb23 | hb23
              ·
                have hp23 : ((i:Int)) ≤ (((vQ z0 17 1).toNat:Int)) := of_decide_eq_true hb23
                refine AS 4 69 true _ (Ptr nb1 1) rfl rfl hb23 (AD 1 3 1 BG rfl BA rfl rfl) rfl ?_
                refine AS 4 69 true _ (I64 ((eQ z0 (4*i + 18):Int))) rfl rfl hb23 (AM rfl (A6 BS (AT 0 rfl (AO (Seg.head))))) rfl ?_
                refine AS 4 69 true _ (.bool (decide (((eQ z0 (4*i + 18):Int)) = (0:Int)))) rfl rfl hb23 (AP rfl rfl fun _ => CA _ _) rfl ?_
                refine AA _ (BO _ rfl hb23 rfl) rfl ?_
                refine AL (AC (CL (decide (((eQ z0 (4*i + 18):Int)) = (0:Int))) rfl (fun hb24 => ?_) (fun hb24 => ?_)))
                ·
                  have hp24 : ((eQ z0 (4*i + 18):Int)) = (0:Int) := of_decide_eq_true hb24
                  refine BL (AC (AG (B4 (AG (AB (AA (.agg #[.slice aa1 zz1.length cc1, I64 ((eQ z0 (4*i + 18):Int))]) (AM rfl (A5 AQ AK rfl (AT 0 rfl (AJ _)))) rfl ?_))))))
                  have hz7 : (zz1).length = zz1.length := rfl
                  refine A2 (B3 118 [.agg #[.slice aa1 zz1.length cc1, I64 ((eQ z0 (4*i + 18):Int))], I64 4] _ (AZ _ Tryd.call118 rfl) (fun w1 hw1 => rreadQ_w (4*i + 18) 4 aa1 zz1.length cc1 z0 zz1 w1 rfl (by omega) (by omega) (by omega) ((hi9 _ _ hr).at (M' := []) hw1 (by simp)) hi8 (by unfold Szd; omega))) rfl ?_
                  rintro v1 L1 ⟨_, ⟨rfl, ao7, zz7, ca7, hq7, ⟨hA7, hb25, hb26, hb27⟩, rfl⟩, rfl⟩
                  show JL _ _ _ _ ((78, .tuple #[U64 (vQ z0 (4*i + 18) 4), .agg #[.slice ao7 zz7.length ca7, I64 ((eQ z0 (4*i + 22):Int))]]) :: _) [_, _, _, _, _]
                  refine AA _ (AE rfl) rfl ?_
                  refine AA _ (BB rfl rfl) rfl ?_
                  refine AA _ (BB rfl rfl) rfl ?_
                  refine A2 (BN _ ([.slice none 0 0, I64 0]) C7 (by kernel_rfl)) rfl ?_
                  rintro v1 L1 ⟨nb10, hnb10, rfl, rfl⟩
                  show JL _ _ _ _ ((14, Ptr nb10 0) :: _) [_, _, _, _, _, ⟨nb10, [.slice none 0 0, I64 0], 107, (0, 0)⟩]
                  refine AA _ (AH rfl) rfl ?_
                  refine AY (AU 5 nb10 2 ([.slice none 0 0, I64 0]) 107 ([.slice ao7 zz7.length ca7, I64 ((eQ z0 (4*i + 22):Int))]) rfl rfl rfl AK rfl (by simp [Value.oneCell']) (Nat.le_of_ble_eq_true rfl) (A0 (by simp []))) rfl ?_
                  show JL _ _ _ _ _ [_, _, _, _, _, ⟨nb10, [.slice ao7 zz7.length ca7, I64 ((eQ z0 (4*i + 22):Int))], 107, (0, 0)⟩]
                  refine AL (AC (AG (AB (AA (.agg #[.slice ao7 zz7.length ca7, I64 ((eQ z0 (4*i + 22):Int))]) (AM rfl (A5 AQ AK rfl (AT 5 rfl (AJ _)))) rfl ?_))))
                  refine AY (AU 0 nb1 2 ([.slice aa1 zz1.length cc1, I64 ((eQ z0 (4*i + 18):Int))]) 107 ([.slice ao7 zz7.length ca7, I64 ((eQ z0 (4*i + 22):Int))]) rfl rfl rfl AK rfl (by simp [Value.oneCell']) (Nat.le_of_ble_eq_true rfl) (A0 (by simp []))) rfl ?_
                  show JL _ _ _ _ _ [⟨nb1, [.slice ao7 zz7.length ca7, I64 ((eQ z0 (4*i + 22):Int))], 107, (0, 0)⟩, _, _, _, _, _]
                  refine AL (AC (AB (AA (Ptr nb4 2) (AD 2 36 4 BK rfl CJ rfl rfl) rfl ?_)))
                  refine AA (Ptr nb4 3) (AD 1 23 1 BE rfl B9 rfl rfl) rfl ?_
                  refine AA (Slc gb 0 i cp) (AM rfl (A6 C1 (AT 3 rfl (A8 (AO (AO (AO (Seg.head)))))))) rfl ?_
                  refine AA _ (AE rfl) rfl ?_
                  refine A2 (CP 22 1 _ [(0, U64 (vQ z0 (4*i + 18) 4))] ([U64 (vQ z0 (4*i + 18) 4)]) BR A1 Tryd.zeroValue22 rfl rfl rfl (by kernel_rfl)) rfl ?_
                  rintro v1 L1 ⟨nb11, hnb11, rfl, rfl⟩
                  show JL _ _ _ _ ((86, Slc nb11 0 1 1) :: _) [_, _, _, _, _, _, ⟨nb11, [U64 (vQ z0 (4*i + 18) 4)], 22, (0, 0)⟩]
                  refine A2 (Step_appM64 23 22 [false, false, false, false, true, false, false] (Slc gb 0 i cp) i ll ([vQ z0 (4*i + 18) 4]) (some ⟨nb11, 0, none⟩) 1 1 (i + 1) BR Tryd.info22 rfl (.inr ⟨gb, sp, cp, rfl, rfl, (by first | exact hi4 | simp [hi4]), hi5, (by omega), (by omega)⟩) rfl (by simp) (SrcAt.mem (AT 6 rfl (Seg.head))) (by omega) (by unfold maxLen; omega) (by omega)) rfl ?_
                  rintro v1 L1 ⟨nb12, sp2, cp2, hg2, rfl, rfl, ha5, ha6, ha7, ha8⟩
                  show JL _ _ _ _ ((87, Slc nb12 0 (i + 1) cp2) :: _) [_, _, _, _, _, _, ⟨nb12, cu64 (ll ++ ([vQ z0 (4*i + 18) 4])) ++ sp2, 22, (0, 0)⟩]
                  refine AA (Ptr nb4 2) (AD 2 36 4 BK rfl CJ rfl rfl) rfl ?_
                  refine AA (Ptr nb4 3) (AD 1 23 1 BE rfl B9 rfl rfl) rfl ?_
                  refine AY (C0 3 nb4 3 1 ([U64 (vQ z0 0 8), U64 (vQ z0 8 8), I64 (((vQ z0 16 1).toNat:Int)), Slc gb 0 i cp, .slice none 0 0, U64 0] ++ cu8 (zr8 16)) 38 (Slc nb12 0 (i + 1) cp2) ([Slc nb12 0 (i + 1) cp2]) ([U64 (vQ z0 0 8), U64 (vQ z0 8 8), I64 (((vQ z0 16 1).toNat:Int)), Slc nb12 0 (i + 1) cp2, .slice none 0 0, U64 0] ++ cu8 (zr8 16)) rfl rfl rfl rfl B9 rfl (by simp [Value.oneCell']) (by simp [(AN 16)]) (EV (p := [U64 (vQ z0 0 8), U64 (vQ z0 8 8), I64 (((vQ z0 16 1).toNat:Int)), Slc gb 0 i cp, .slice none 0 0, U64 0]) (vs := [Slc nb12 0 (i + 1) cp2]) (o := 3) (by simp []) (rfl))) rfl ?_
                  show JL _ _ _ _ _ [_, _, _, ⟨nb4, [U64 (vQ z0 0 8), U64 (vQ z0 8 8), I64 (((vQ z0 16 1).toNat:Int)), Slc nb12 0 (i + 1) cp2, .slice none 0 0, U64 0] ++ cu8 (zr8 16), 38, (0, 0)⟩, _, _, _]
                  refine AL (B0 (AC (AB (AA _ (AE rfl) rfl ?_))))
                  refine AA (I64 ((i:Int) + 1)) (AP rfl rfl fun _ => DL _ _ ((i:Int) + 1) (by omega) (by omega)) rfl ?_
                  refine AA _ (AH rfl) rfl ?_
                  refine AL (DO (B5 [true, true, true, true, false, false, true] ?_))
                  show K _ _ [_, _, _, _, _] _
                  refine ER (.inr (i + 1, ll ++ ([vQ z0 (4*i + 18) 4]), nb12, sp2, cp2, ao7, zz7, ca7)) ⟨by omega, by omega, by rw [ixQ_succ, ← hi3, Nat.add_comm 18 (4*i)], (ha5).trans (by first | rfl | simp +arith), (ha6).trans (by first | rfl | omega), by omega, by omega, hq7, (by intro w M hr; exact (hA7 _ _ (hi9 _ _ hr))), by omega, by omega, by omega⟩ (by dsimp only; omega) (Sub.all rfl) rfl
                ·
                  have hp24 : ¬ (((eQ z0 (4*i + 18):Int)) = (0:Int)) := of_decide_eq_false hb24
                  refine DU (A9 (A9 (CR ?_)))
                  have hne : ¬ (4*i + 18) ≤ z0.length := fun h => (of_decide_eq_false hb24) (by rw [F7 h]; rfl)
                  rw [eQ_bad hne]
                  refine GA [0, 1, 2, 3] (by decide) ?_
                  show JQ _ _ _ _ [_, _, _, _]
                  refine FG (.inl (aa1, zz1, cc1, (some ⟨gb, 0, none⟩), i, cp)) ⟨by omega, (by intro w M hr; exact (hi9 _ _ hr)), by omega, by omega, by omega⟩ (Sub.all rfl) rfl
              ·
                have hp23 : ¬ (((i:Int)) ≤ (((vQ z0 17 1).toNat:Int))) := of_decide_eq_false hb23
                refine AF 4 69 true _ rfl rfl hb23 rfl ?_
                refine AF 4 69 true _ rfl rfl hb23 rfl ?_
                refine AF 4 69 true _ rfl rfl hb23 rfl ?_
                refine AA _ (BF _ rfl hb23 rfl) rfl ?_
                refine AL (AC (BZ _ rfl rfl ?_))
                refine DU (A9 (A9 (CR ?_)))
                have ei : m = i := by omega
                subst ei
                subst hi3
                refine FG (.inr (gb, sp, cp, aa1, zz1, cc1, 4*m + 18)) ⟨rfl, hi5, hi6, hi7, hi8, hi9, hi10, hi11, hi12⟩ (Sub.all rfl) rfl
          ·
            rintro (⟨ab, zb, cb, a1, n1, c1⟩ | ⟨gb, sp, cp, aa, zz, cc, aq⟩) hx
            ·
              obtain ⟨hlen, hA, hb7, hb8, hb9⟩ := hx
              show JQ _ _ _ [(1, Ptr nb1 0), (2, Ptr nb2 0), (3, Ptr nb3 0), (4, Ptr nb4 0), (7, U64 (vQ z0 16 1)), (10, U64 (vQ z0 17 1))] [⟨nb1, [.slice ab zb.length cb, I64 2], 107, (0, 0)⟩, ⟨nb2, [U64 0, U64 0, I64 0, .slice none 0 0, .slice none 0 0, U64 0] ++ cu8 (zr8 16), 38, (0, 0)⟩, ⟨nb3, [.slice none 0 0, I64 0], 107, (0, 0)⟩, ⟨nb4, [U64 (vQ z0 0 8), U64 (vQ z0 8 8), I64 (((vQ z0 16 1).toNat:Int)), .slice a1 n1 c1, .slice none 0 0, U64 0] ++ cu8 (zr8 16), 38, (0, 0)⟩]
              refine AC (AG (AB (AA _ (AH rfl) rfl ?_)))
              refine AL (AC (B4 (D4 (ι := Unit) (fun _ => [(1, Ptr nb1 0), (2, Ptr nb2 0), (3, Ptr nb3 0), (4, Ptr nb4 0), (7, U64 (vQ z0 16 1)), (10, U64 (vQ z0 17 1)), (15, I64 0)]) (fun _ => [⟨nb1, [.slice ab zb.length cb, I64 2], 107, (0, 0)⟩, ⟨nb2, [U64 0, U64 0, I64 0, .slice none 0 0, .slice none 0 0, U64 0] ++ cu8 (zr8 16), 38, (0, 0)⟩, ⟨nb3, [.slice none 0 0, I64 0], 107, (0, 0)⟩, ⟨nb4, [U64 (vQ z0 0 8), U64 (vQ z0 8 8), I64 (((vQ z0 16 1).toNat:Int)), .slice a1 n1 c1, .slice none 0 0, U64 0] ++ cu8 (zr8 16), 38, (0, 0)⟩]) (fun _ => True) (fun _ => 1) () trivial (Sub.all rfl) rfl ?_)))
              rintro _ _
              show JC _ _ _ [(1, Ptr nb1 0), (2, Ptr nb2 0), (3, Ptr nb3 0), (4, Ptr nb4 0), (7, U64 (vQ z0 16 1)), (10, U64 (vQ z0 17 1)), (15, I64 0)] [⟨nb1, [.slice ab zb.length cb, I64 2], 107, (0, 0)⟩, ⟨nb2, [U64 0, U64 0, I64 0, .slice none 0 0, .slice none 0 0, U64 0] ++ cu8 (zr8 16), 38, (0, 0)⟩, ⟨nb3, [.slice none 0 0, I64 0], 107, (0, 0)⟩, ⟨nb4, [U64 (vQ z0 0 8), U64 (vQ z0 8 8), I64 (((vQ z0 16 1).toNat:Int)), .slice a1 n1 c1, .slice none 0 0, U64 0] ++ cu8 (zr8 16), 38, (0, 0)⟩]
              refine AG (AG (AB (AA _ (AE rfl) rfl ?_)))
              refine AA _ (AE rfl) rfl ?_
              refine AA (I64 (((vQ z0 17 1).toNat:Int))) (EG _ _ rfl fun _ => FP (by rw [B8]; rfl) DK (vQ z0 17 1) _ rfl (by omega)) rfl ?_
              refine AA (.bool (decide ((0:Int) ≤ (((vQ z0 17 1).toNat:Int))))) (AP rfl rfl fun _ => bin_leq_i _ _) rfl ?_
              refine AA _ (AE rfl) rfl ?_
              refine AS 4 94 true _ (Ptr nb1 1) rfl rfl (decide_eq_true (by omega)) (AD 1 3 1 BG rfl BA rfl rfl) rfl ?_
              refine AS 4 94 true _ (I64 2) rfl rfl (decide_eq_true (by omega)) (AM rfl (A6 BS (AT 0 rfl (AO (Seg.head))))) rfl ?_
              refine AS 4 94 true _ (.bool (decide ((2:Int) = (0:Int)))) rfl rfl (decide_eq_true (by omega)) (AP rfl rfl fun _ => CA _ _) rfl ?_
              refine AA _ (BO _ rfl (decide_eq_true (by omega)) rfl) rfl ?_
              refine AA _ (AE rfl) rfl ?_
              refine AF 9 99 true _ rfl rfl (by decide) rfl ?_
              refine AF 9 99 true _ rfl rfl (by decide) rfl ?_
              refine AA _ (BF _ rfl (by decide) rfl) rfl ?_
              refine AL (AC (BZ _ rfl rfl ?_))
              refine DU (A9 (A9 (CR (FG (.inr (.inr (.inr (ab, zb, cb, a1, n1, c1, none, 0, 0)))) ⟨bad12b hk12 (by omega), (by intro w M hr; exact (hA _ _ hr)), by omega, by omega, by omega⟩ (Sub.all rfl) rfl))))
            ·
              obtain ⟨hy1, hy2, hy3, hy4, hy5, hy6, hy7, hy8, hy9⟩ := hx
              show JQ _ _ _ [(1, Ptr nb1 0), (2, Ptr nb2 0), (3, Ptr nb3 0), (4, Ptr nb4 0), (7, U64 (vQ z0 16 1)), (10, U64 (vQ z0 17 1))] [⟨nb1, [.slice aa zz.length cc, I64 ((eQ z0 aq:Int))], 107, (0, 0)⟩, ⟨nb2, [U64 0, U64 0, I64 0, .slice none 0 0, .slice none 0 0, U64 0] ++ cu8 (zr8 16), 38, (0, 0)⟩, ⟨nb3, [.slice none 0 0, I64 0], 107, (0, 0)⟩, ⟨nb4, [U64 (vQ z0 0 8), U64 (vQ z0 8 8), I64 (((vQ z0 16 1).toNat:Int)), Slc gb 0 m cp, .slice none 0 0, U64 0] ++ cu8 (zr8 16), 38, (0, 0)⟩, ⟨gb, cu64 (ixQ z0 18 m) ++ sp, 22, (0, 0)⟩]
              refine AC (AG ?_)
              by_cases hk1 : vQ z0 16 1 = 1
              ·
                refine AB (AA _ (AH rfl) rfl ?_)
                refine AL (AC (B4 (D4 (ι := (Unit) ⊕ (Nat × List SealR × Nat × List Value × Nat × Option Addr × List UInt8 × Nat)) (fun x => match x with | .inl _ => [(1, Ptr nb1 0), (2, Ptr nb2 0), (3, Ptr nb3 0), (4, Ptr nb4 0), (7, U64 (vQ z0 16 1)), (10, U64 (vQ z0 17 1)), (15, I64 0)] | .inr ⟨j, rr, gs, sp2, cp2, aa2, zz2, cc2⟩ => [(1, Ptr nb1 0), (2, Ptr nb2 0), (3, Ptr nb3 0), (4, Ptr nb4 0), (7, U64 (vQ z0 16 1)), (10, U64 (vQ z0 17 1)), (15, I64 j)]) (fun x => match x with | .inl _ => [⟨nb1, [.slice aa zz.length cc, I64 ((eQ z0 aq:Int))], 107, (0, 0)⟩, ⟨nb2, [U64 0, U64 0, I64 0, .slice none 0 0, .slice none 0 0, U64 0] ++ cu8 (zr8 16), 38, (0, 0)⟩, ⟨nb3, [.slice none 0 0, I64 0], 107, (0, 0)⟩, ⟨nb4, [U64 (vQ z0 0 8), U64 (vQ z0 8 8), I64 (((vQ z0 16 1).toNat:Int)), Slc gb 0 m cp, .slice none 0 0, U64 0] ++ cu8 (zr8 16), 38, (0, 0)⟩, ⟨gb, cu64 (ixQ z0 18 m) ++ sp, 22, (0, 0)⟩] | .inr ⟨j, rr, gs, sp2, cp2, aa2, zz2, cc2⟩ => [⟨nb1, [.slice aa2 zz2.length cc2, I64 ((eQ z0 (aq + 56*j):Int))], 107, (0, 0)⟩, ⟨nb2, [U64 0, U64 0, I64 0, .slice none 0 0, .slice none 0 0, U64 0] ++ cu8 (zr8 16), 38, (0, 0)⟩, ⟨nb3, [.slice none 0 0, I64 0], 107, (0, 0)⟩, ⟨nb4, [U64 (vQ z0 0 8), U64 (vQ z0 8 8), I64 (((vQ z0 16 1).toNat:Int)), Slc gb 0 m cp, Slc gs 0 j cp2, U64 0] ++ cu8 (zr8 16), 38, (0, 0)⟩, ⟨gb, cu64 (ixQ z0 18 m) ++ sp, 22, (0, 0)⟩, ⟨gs, (rr).flatMap sealC ++ sp2, 164, (0, 0)⟩]) (fun x => match x with | .inl _ => True | .inr ⟨j, rr, gs, sp2, cp2, aa2, zz2, cc2⟩ => 0 < j ∧ j ≤ m ∧ rr = seQ z0 aq j ∧ rr.length = j ∧ sp2.length = cp2 * 49 - j * 49 ∧ j ≤ cp2 ∧ cp2 ≤ maxLen ∧ Lq z0 zz2 (aq + 56*j) ∧ (∀ w M, RdB w M ao z → RdB w M aa2 zz2) ∧ zz2.length ≤ cc2 ∧ cc2 ≤ maxLen ∧ zz2.length ≤ n) (fun x => match x with | .inl _ => m + 2 | .inr ⟨j, rr, gs, sp2, cp2, aa2, zz2, cc2⟩ => m + 1 - j) (.inl ()) trivial (Sub.all rfl) rfl ?_)))
                rintro (_ | ⟨j, rr, gs, sp2, cp2, aa2, zz2, cc2⟩) hx
                ·
                  obtain _ := hx
                  show JC _ _ _ [(1, Ptr nb1 0), (2, Ptr nb2 0), (3, Ptr nb3 0), (4, Ptr nb4 0), (7, U64 (vQ z0 16 1)), (10, U64 (vQ z0 17 1)), (15, I64 0)] [⟨nb1, [.slice aa zz.length cc, I64 ((eQ z0 aq:Int))], 107, (0, 0)⟩, ⟨nb2, [U64 0, U64 0, I64 0, .slice none 0 0, .slice none 0 0, U64 0] ++ cu8 (zr8 16), 38, (0, 0)⟩, ⟨nb3, [.slice none 0 0, I64 0], 107, (0, 0)⟩, ⟨nb4, [U64 (vQ z0 0 8), U64 (vQ z0 8 8), I64 (((vQ z0 16 1).toNat:Int)), Slc gb 0 m cp, .slice none 0 0, U64 0] ++ cu8 (zr8 16), 38, (0, 0)⟩, ⟨gb, cu64 (ixQ z0 18 m) ++ sp, 22, (0, 0)⟩]
                  refine AG (AG (AB (AA _ (AE rfl) rfl ?_)))
                  refine AA _ (AE rfl) rfl ?_
                  refine AA (I64 (((vQ z0 17 1).toNat:Int))) (EG _ _ rfl fun _ => FP (by rw [B8]; rfl) DK (vQ z0 17 1) _ rfl (by omega)) rfl ?_
                  refine AA (.bool (decide ((0:Int) ≤ (((vQ z0 17 1).toNat:Int))))) (AP rfl rfl fun _ => bin_leq_i _ _) rfl ?_
                  refine AA _ (AE rfl) rfl ?_
                  refine AS 4 94 true _ (Ptr nb1 1) rfl rfl (decide_eq_true (by omega)) (AD 1 3 1 BG rfl BA rfl rfl) rfl ?_
                  refine AS 4 94 true _ (I64 ((eQ z0 aq:Int))) rfl rfl (decide_eq_true (by omega)) (AM rfl (A6 BS (AT 0 rfl (AO (Seg.head))))) rfl ?_
                  refine AS 4 94 true _ (.bool (decide (((eQ z0 aq:Int)) = (0:Int)))) rfl rfl (decide_eq_true (by omega)) (AP rfl rfl fun _ => CA _ _) rfl ?_
                  refine AA _ (BO _ rfl (decide_eq_true (by omega)) rfl) rfl ?_
                  refine AA _ (AE rfl) rfl ?_
                  rcases Bool.eq_false_or_eq_true (decide (((eQ z0 aq:Int)) = (0:Int))) with hb28 | hb28
                  ·
                    have hp28 : ((eQ z0 aq:Int)) = (0:Int) := of_decide_eq_true hb28
                    refine AS 9 99 true _ _ rfl rfl hb28 (AE rfl) rfl ?_
                    refine AS 9 99 true _ (.bool (decide ((vQ z0 16 1) = (1:UInt64)))) rfl rfl hb28 (AP rfl rfl fun _ => E6 (vQ z0 16 1) (1:UInt64)) rfl ?_
                    refine AA _ (BO _ rfl hb28 rfl) rfl ?_
                    refine AL (AC (CM _ rfl (decide_eq_true hk1) ?_))
                    refine BL (AC (AG (B4 (AG (AB (AA (.agg #[.slice aa zz.length cc, I64 ((eQ z0 aq:Int))]) (AM rfl (A5 AQ AK rfl (AT 0 rfl (AJ _)))) rfl ?_))))))
                    have hz8 : (zz).length = zz.length := rfl
                    refine A2 (B3 124 [.agg #[.slice aa zz.length cc, I64 ((eQ z0 aq:Int))]] _ (AZ _ Tryd.call124 rfl) (fun w1 hw1 => rsreadQ_c aq aa zz.length cc z0 zz w1 rfl (by omega) (by omega) (by omega) ((hy6 _ _ hr).at (M' := []) hw1 (by simp)) hy5)) rfl ?_
                    rintro v1 L1 ⟨_, ⟨rfl, ao8, zz8, ca8, hq8, ⟨hA8, hb29, hb30, hb31⟩, rfl⟩, rfl⟩
                    show JL _ _ _ _ ((107, .tuple #[.agg ([U64 (vQ z0 aq 8)] ++ cu8 (bQ z0 (aq + 8) 32) ++ cu8 (bQ z0 (aq + 40) 16)).toArray, .agg #[.slice ao8 zz8.length ca8, I64 ((eQ z0 (aq + 56):Int))]]) :: _) [_, _, _, _, _]
                    refine AA _ (AE rfl) rfl ?_
                    refine AA _ (BB rfl rfl) rfl ?_
                    refine AA _ (BB rfl rfl) rfl ?_
                    refine A2 (BN _ ([U64 0] ++ cu8 (zr8 32) ++ cu8 (zr8 16)) E1 (by kernel_rfl)) rfl ?_
                    rintro v1 L1 ⟨nb13, hnb13, rfl, rfl⟩
                    show JL _ _ _ _ ((16, Ptr nb13 0) :: _) [_, _, _, _, _, ⟨nb13, [U64 0] ++ cu8 (zr8 32) ++ cu8 (zr8 16), 164, (0, 0)⟩]
                    refine A2 (BN _ ([.slice none 0 0, I64 0]) C7 (by kernel_rfl)) rfl ?_
                    rintro v1 L1 ⟨nb14, hnb14, rfl, rfl⟩
                    show JL _ _ _ _ ((17, Ptr nb14 0) :: _) [_, _, _, _, _, _, ⟨nb14, [.slice none 0 0, I64 0], 107, (0, 0)⟩]
                    refine AY (AU 5 nb13 49 ([U64 0] ++ cu8 (zr8 32) ++ cu8 (zr8 16)) 164 ([U64 (vQ z0 aq 8)] ++ cu8 (bQ z0 (aq + 8) 32) ++ cu8 (bQ z0 (aq + 40) 16)) rfl rfl rfl CS (by simp [(BJ _ _ _), (BJ _ _ _)]) (CK (CK (by simp [Value.oneCell']) CF) CF) (by simp [(AN 32), (AN 16)]) (A0 (by simp [(AN 32), (AN 16), (BJ _ _ _), (BJ _ _ _)]))) rfl ?_
                    show JL _ _ _ _ _ [_, _, _, _, _, ⟨nb13, [U64 (vQ z0 aq 8)] ++ cu8 (bQ z0 (aq + 8) 32) ++ cu8 (bQ z0 (aq + 40) 16), 164, (0, 0)⟩, _]
                    refine AY (AU 6 nb14 2 ([.slice none 0 0, I64 0]) 107 ([.slice ao8 zz8.length ca8, I64 ((eQ z0 (aq + 56):Int))]) rfl rfl rfl AK rfl (by simp [Value.oneCell']) (Nat.le_of_ble_eq_true rfl) (A0 (by simp []))) rfl ?_
                    show JL _ _ _ _ _ [_, _, _, _, _, _, ⟨nb14, [.slice ao8 zz8.length ca8, I64 ((eQ z0 (aq + 56):Int))], 107, (0, 0)⟩]
                    refine AL (AC (AG (AB (AA (.agg #[.slice ao8 zz8.length ca8, I64 ((eQ z0 (aq + 56):Int))]) (AM rfl (A5 AQ AK rfl (AT 6 rfl (AJ _)))) rfl ?_))))
                    refine AY (AU 0 nb1 2 ([.slice aa zz.length cc, I64 ((eQ z0 aq:Int))]) 107 ([.slice ao8 zz8.length ca8, I64 ((eQ z0 (aq + 56):Int))]) rfl rfl rfl AK rfl (by simp [Value.oneCell']) (Nat.le_of_ble_eq_true rfl) (A0 (by simp []))) rfl ?_
                    show JL _ _ _ _ _ [⟨nb1, [.slice ao8 zz8.length ca8, I64 ((eQ z0 (aq + 56):Int))], 107, (0, 0)⟩, _, _, _, _, _, _]
                    refine AL (AC (AB (AA (Ptr nb4 2) (AD 2 36 4 BK rfl CJ rfl rfl) rfl ?_)))
                    refine AA (Ptr nb4 4) (AD 2 34 1 BE rfl CY rfl rfl) rfl ?_
                    refine AA (.slice none 0 0) (AM rfl (A6 DR (AT 3 rfl (A8 (AO (AO (AO (AO (Seg.head))))))))) rfl ?_
                    refine AA (.agg ([U64 (vQ z0 aq 8)] ++ cu8 (bQ z0 (aq + 8) 32) ++ cu8 (bQ z0 (aq + 40) 16)).toArray) (AM rfl (A5 EW CS (by simp [(BJ _ _ _), (BJ _ _ _)]) (AT 5 rfl (AJ _)))) rfl ?_
                    refine A2 (CP 164 49 _ [(0, .agg ([U64 (vQ z0 aq 8)] ++ cu8 (bQ z0 (aq + 8) 32) ++ cu8 (bQ z0 (aq + 40) 16)).toArray)] ([U64 (vQ z0 aq 8)] ++ cu8 (bQ z0 (aq + 8) 32) ++ cu8 (bQ z0 (aq + 40) 16)) CU CS E1 rfl rfl rfl (fill_one (Z := [U64 0] ++ cu8 (zr8 32) ++ cu8 (zr8 16)) (by simp [(BJ _ _ _), (BJ _ _ _)]) (by kernel_rfl) (by simp [zr8]))) rfl ?_
                    rintro v1 L1 ⟨nb15, hnb15, rfl, rfl⟩
                    show JL _ _ _ _ ((115, Slc nb15 0 1 1) :: _) [_, _, _, _, _, _, _, ⟨nb15, [U64 (vQ z0 aq 8)] ++ cu8 (bQ z0 (aq + 8) 32) ++ cu8 (bQ z0 (aq + 40) 16), 164, (0, 0)⟩]
                    refine A2 (Step_appS 34 164 56 (.agg ([U64 0] ++ cu8 (zr8 32) ++ cu8 (zr8 16)).toArray) [false, false, false, false, false, false, false, false] (.slice none 0 0) 0 ([] : List SealR) (SealR.mk (vQ z0 aq 8) (bQ z0 (aq + 8) 32) (bQ z0 (aq + 40) 16) (BJ _ _ _) (BJ _ _ _)) (some ⟨nb15, 0, none⟩) 1 1 CU (by kernel_rfl) (by kernel_rfl) rfl (.inl ⟨rfl, rfl, rfl, rfl⟩) rfl (SrcAt.mem (AT 7 rfl (AJ _))) (by omega) (by unfold maxLen; omega) (by omega)) rfl ?_
                    rintro v1 L1 ⟨nb16, sp3, cp3, hg3, rfl, rfl, ha9, ha10, ha11, ha12⟩
                    show JL _ _ _ _ ((116, Slc nb16 0 1 cp3) :: _) [_, _, _, _, _, _, _, _, ⟨nb16, (([] : List SealR) ++ [(SealR.mk (vQ z0 aq 8) (bQ z0 (aq + 8) 32) (bQ z0 (aq + 40) 16) (BJ _ _ _) (BJ _ _ _))]).flatMap sealC ++ sp3, 164, (0, 0)⟩]
                    refine AA (Ptr nb4 2) (AD 2 36 4 BK rfl CJ rfl rfl) rfl ?_
                    refine AA (Ptr nb4 4) (AD 2 34 1 BE rfl CY rfl rfl) rfl ?_
                    refine AY (C0 3 nb4 4 1 ([U64 (vQ z0 0 8), U64 (vQ z0 8 8), I64 (((vQ z0 16 1).toNat:Int)), Slc gb 0 m cp, .slice none 0 0, U64 0] ++ cu8 (zr8 16)) 38 (Slc nb16 0 1 cp3) ([Slc nb16 0 1 cp3]) ([U64 (vQ z0 0 8), U64 (vQ z0 8 8), I64 (((vQ z0 16 1).toNat:Int)), Slc gb 0 m cp, Slc nb16 0 1 cp3, U64 0] ++ cu8 (zr8 16)) rfl rfl rfl rfl CY rfl (by simp [Value.oneCell']) (by simp [(AN 16)]) (EV (p := [U64 (vQ z0 0 8), U64 (vQ z0 8 8), I64 (((vQ z0 16 1).toNat:Int)), Slc gb 0 m cp, .slice none 0 0, U64 0]) (vs := [Slc nb16 0 1 cp3]) (o := 4) (by simp []) (rfl))) rfl ?_
                    show JL _ _ _ _ _ [_, _, _, ⟨nb4, [U64 (vQ z0 0 8), U64 (vQ z0 8 8), I64 (((vQ z0 16 1).toNat:Int)), Slc gb 0 m cp, Slc nb16 0 1 cp3, U64 0] ++ cu8 (zr8 16), 38, (0, 0)⟩, _, _, _, _, _]
                    refine AL (B0 (AC (AB (AA _ (AE rfl) rfl ?_))))
                    refine AA (I64 1) (AP rfl rfl fun _ => DL _ _ (1:Int) (by omega) (by omega)) rfl ?_
                    refine AA _ (AH rfl) rfl ?_
                    refine AL (DO (B5 [true, true, true, true, true, false, false, false, true] ?_))
                    show K _ _ [_, _, _, _, _, _] _
                    refine ER (.inr (1, ([] : List SealR) ++ [(SealR.mk (vQ z0 aq 8) (bQ z0 (aq + 8) 32) (bQ z0 (aq + 40) 16) (BJ _ _ _) (BJ _ _ _))], nb16, sp3, cp3, ao8, zz8, ca8)) ⟨by omega, by omega, by rw [seQ_one]; exact congrArg (fun x => [x]) (sQ_eq _ _ _ _), (ha9).trans (by first | rfl | simp +arith), (ha10).trans (by first | rfl | omega), by omega, by omega, (fun h8 => (hq8 (by omega)).trans (by congr 1 <;> omega)), (by intro w M hr; exact (hA8 _ _ (hy6 _ _ hr))), by omega, by omega, by omega⟩ (by dsimp only; omega) (Sub.all rfl) rfl
                  ·
                    have hp28 : ¬ (((eQ z0 aq:Int)) = (0:Int)) := of_decide_eq_false hb28
                    refine AF 9 99 true _ rfl rfl hb28 rfl ?_
                    refine AF 9 99 true _ rfl rfl hb28 rfl ?_
                    refine AA _ (BF _ rfl hb28 rfl) rfl ?_
                    refine AL (AC (BZ _ rfl rfl ?_))
                    refine DU (A9 (A9 (CR ?_)))
                    have hne : ¬ aq ≤ z0.length := fun h => (of_decide_eq_false hb28) (by rw [F7 h]; rfl)
                    rw [eQ_bad hne]
                    refine GA [0, 1, 2, 3] (by decide) ?_
                    show JQ _ _ _ _ [_, _, _, _]
                    refine FG (.inr (.inr (.inr (aa, zz, cc, (some ⟨gb, 0, none⟩), m, cp, none, 0, 0)))) ⟨bad1 hk1 (fun e => by have := e.1; omega), (by intro w M hr; exact (hy6 _ _ hr)), by omega, by omega, by omega⟩ (Sub.all rfl) rfl
                ·
                  obtain ⟨hj1, hj2, hj3, hj4, hj5, hj6, hj7, hj8, hj9, hj10, hj11, hj12⟩ := hx
                  show JC _ _ _ [(1, Ptr nb1 0), (2, Ptr nb2 0), (3, Ptr nb3 0), (4, Ptr nb4 0), (7, U64 (vQ z0 16 1)), (10, U64 (vQ z0 17 1)), (15, I64 j)] [⟨nb1, [.slice aa2 zz2.length cc2, I64 ((eQ z0 (aq + 56*j):Int))], 107, (0, 0)⟩, ⟨nb2, [U64 0, U64 0, I64 0, .slice none 0 0, .slice none 0 0, U64 0] ++ cu8 (zr8 16), 38, (0, 0)⟩, ⟨nb3, [.slice none 0 0, I64 0], 107, (0, 0)⟩, ⟨nb4, [U64 (vQ z0 0 8), U64 (vQ z0 8 8), I64 (((vQ z0 16 1).toNat:Int)), Slc gb 0 m cp, Slc gs 0 j cp2, U64 0] ++ cu8 (zr8 16), 38, (0, 0)⟩, ⟨gb, cu64 (ixQ z0 18 m) ++ sp, 22, (0, 0)⟩, ⟨gs, (rr).flatMap sealC ++ sp2, 164, (0, 0)⟩]
                  refine AG (AG (AB (AA _ (AE rfl) rfl ?_)))
                  refine AA _ (AE rfl) rfl ?_
                  refine AA (I64 (((vQ z0 17 1).toNat:Int))) (EG _ _ rfl fun _ => FP (by rw [B8]; rfl) DK (vQ z0 17 1) _ rfl (by omega)) rfl ?_
                  refine AA (.bool (decide (((j:Int)) ≤ (((vQ z0 17 1).toNat:Int))))) (AP rfl rfl fun _ => bin_leq_i _ _) rfl ?_
                  refine AA _ (AE rfl) rfl ?_
                  rcases Bool.eq_false_or_eq_true (decide (((j:Int)) ≤ (((vQ z0 17 1).toNat:Int)))) with hb32 | hb32
                  ·
                    have hp32 : ((j:Int)) ≤ (((vQ z0 17 1).toNat:Int)) := of_decide_eq_true hb32
                    refine AS 4 94 true _ (Ptr nb1 1) rfl rfl hb32 (AD 1 3 1 BG rfl BA rfl rfl) rfl ?_
                    refine AS 4 94 true _ (I64 ((eQ z0 (aq + 56*j):Int))) rfl rfl hb32 (AM rfl (A6 BS (AT 0 rfl (AO (Seg.head))))) rfl ?_
                    refine AS 4 94 true _ (.bool (decide (((eQ z0 (aq + 56*j):Int)) = (0:Int)))) rfl rfl hb32 (AP rfl rfl fun _ => CA _ _) rfl ?_
                    refine AA _ (BO _ rfl hb32 rfl) rfl ?_
                    refine AA _ (AE rfl) rfl ?_
                    rcases Bool.eq_false_or_eq_true (decide (((eQ z0 (aq + 56*j):Int)) = (0:Int))) with hb33 | hb33
                    ·
                      have hp33 : ((eQ z0 (aq + 56*j):Int)) = (0:Int) := of_decide_eq_true hb33
                      refine AS 9 99 true _ _ rfl rfl hb33 (AE rfl) rfl ?_
                      refine AS 9 99 true _ (.bool (decide ((vQ z0 16 1) = (1:UInt64)))) rfl rfl hb33 (AP rfl rfl fun _ => E6 (vQ z0 16 1) (1:UInt64)) rfl ?_
                      refine AA _ (BO _ rfl hb33 rfl) rfl ?_
                      refine AL (AC (CM _ rfl (decide_eq_true hk1) ?_))
                      refine BL (AC (AG (B4 (AG (AB (AA (.agg #[.slice aa2 zz2.length cc2, I64 ((eQ z0 (aq + 56*j):Int))]) (AM rfl (A5 AQ AK rfl (AT 0 rfl (AJ _)))) rfl ?_))))))
                      have hz9 : (zz2).length = zz2.length := rfl
                      refine A2 (B3 124 [.agg #[.slice aa2 zz2.length cc2, I64 ((eQ z0 (aq + 56*j):Int))]] _ (AZ _ Tryd.call124 rfl) (fun w1 hw1 => rsreadQ_c (aq + 56*j) aa2 zz2.length cc2 z0 zz2 w1 rfl (by omega) (by omega) (by omega) ((hj9 _ _ hr).at (M' := []) hw1 (by simp)) hj8)) rfl ?_
                      rintro v1 L1 ⟨_, ⟨rfl, ao9, zz9, ca9, hq9, ⟨hA9, hb34, hb35, hb36⟩, rfl⟩, rfl⟩
                      show JL _ _ _ _ ((107, .tuple #[.agg ([U64 (vQ z0 (aq + 56*j) 8)] ++ cu8 (bQ z0 (aq + 56*j + 8) 32) ++ cu8 (bQ z0 (aq + 56*j + 40) 16)).toArray, .agg #[.slice ao9 zz9.length ca9, I64 ((eQ z0 (aq + 56*j + 56):Int))]]) :: _) [_, _, _, _, _, _]
                      refine AA _ (AE rfl) rfl ?_
                      refine AA _ (BB rfl rfl) rfl ?_
                      refine AA _ (BB rfl rfl) rfl ?_
                      refine A2 (BN _ ([U64 0] ++ cu8 (zr8 32) ++ cu8 (zr8 16)) E1 (by kernel_rfl)) rfl ?_
                      rintro v1 L1 ⟨nb17, hnb17, rfl, rfl⟩
                      show JL _ _ _ _ ((16, Ptr nb17 0) :: _) [_, _, _, _, _, _, ⟨nb17, [U64 0] ++ cu8 (zr8 32) ++ cu8 (zr8 16), 164, (0, 0)⟩]
                      refine A2 (BN _ ([.slice none 0 0, I64 0]) C7 (by kernel_rfl)) rfl ?_
                      rintro v1 L1 ⟨nb18, hnb18, rfl, rfl⟩
                      show JL _ _ _ _ ((17, Ptr nb18 0) :: _) [_, _, _, _, _, _, _, ⟨nb18, [.slice none 0 0, I64 0], 107, (0, 0)⟩]
                      refine AY (AU 6 nb17 49 ([U64 0] ++ cu8 (zr8 32) ++ cu8 (zr8 16)) 164 ([U64 (vQ z0 (aq + 56*j) 8)] ++ cu8 (bQ z0 (aq + 56*j + 8) 32) ++ cu8 (bQ z0 (aq + 56*j + 40) 16)) rfl rfl rfl CS (by simp [(BJ _ _ _), (BJ _ _ _)]) (CK (CK (by simp [Value.oneCell']) CF) CF) (by simp [(AN 32), (AN 16)]) (A0 (by simp [(AN 32), (AN 16), (BJ _ _ _), (BJ _ _ _)]))) rfl ?_
                      show JL _ _ _ _ _ [_, _, _, _, _, _, ⟨nb17, [U64 (vQ z0 (aq + 56*j) 8)] ++ cu8 (bQ z0 (aq + 56*j + 8) 32) ++ cu8 (bQ z0 (aq + 56*j + 40) 16), 164, (0, 0)⟩, _]
                      refine AY (AU 7 nb18 2 ([.slice none 0 0, I64 0]) 107 ([.slice ao9 zz9.length ca9, I64 ((eQ z0 (aq + 56*j + 56):Int))]) rfl rfl rfl AK rfl (by simp [Value.oneCell']) (Nat.le_of_ble_eq_true rfl) (A0 (by simp []))) rfl ?_
                      show JL _ _ _ _ _ [_, _, _, _, _, _, _, ⟨nb18, [.slice ao9 zz9.length ca9, I64 ((eQ z0 (aq + 56*j + 56):Int))], 107, (0, 0)⟩]
                      refine AL (AC (AG (AB (AA (.agg #[.slice ao9 zz9.length ca9, I64 ((eQ z0 (aq + 56*j + 56):Int))]) (AM rfl (A5 AQ AK rfl (AT 7 rfl (AJ _)))) rfl ?_))))
                      refine AY (AU 0 nb1 2 ([.slice aa2 zz2.length cc2, I64 ((eQ z0 (aq + 56*j):Int))]) 107 ([.slice ao9 zz9.length ca9, I64 ((eQ z0 (aq + 56*j + 56):Int))]) rfl rfl rfl AK rfl (by simp [Value.oneCell']) (Nat.le_of_ble_eq_true rfl) (A0 (by simp []))) rfl ?_
                      show JL _ _ _ _ _ [⟨nb1, [.slice ao9 zz9.length ca9, I64 ((eQ z0 (aq + 56*j + 56):Int))], 107, (0, 0)⟩, _, _, _, _, _, _, _]
                      refine AL (AC (AB (AA (Ptr nb4 2) (AD 2 36 4 BK rfl CJ rfl rfl) rfl ?_)))
                      refine AA (Ptr nb4 4) (AD 2 34 1 BE rfl CY rfl rfl) rfl ?_
                      refine AA (Slc gs 0 j cp2) (AM rfl (A6 DR (AT 3 rfl (A8 (AO (AO (AO (AO (Seg.head))))))))) rfl ?_
                      refine AA (.agg ([U64 (vQ z0 (aq + 56*j) 8)] ++ cu8 (bQ z0 (aq + 56*j + 8) 32) ++ cu8 (bQ z0 (aq + 56*j + 40) 16)).toArray) (AM rfl (A5 EW CS (by simp [(BJ _ _ _), (BJ _ _ _)]) (AT 6 rfl (AJ _)))) rfl ?_
                      refine A2 (CP 164 49 _ [(0, .agg ([U64 (vQ z0 (aq + 56*j) 8)] ++ cu8 (bQ z0 (aq + 56*j + 8) 32) ++ cu8 (bQ z0 (aq + 56*j + 40) 16)).toArray)] ([U64 (vQ z0 (aq + 56*j) 8)] ++ cu8 (bQ z0 (aq + 56*j + 8) 32) ++ cu8 (bQ z0 (aq + 56*j + 40) 16)) CU CS E1 rfl rfl rfl (fill_one (Z := [U64 0] ++ cu8 (zr8 32) ++ cu8 (zr8 16)) (by simp [(BJ _ _ _), (BJ _ _ _)]) (by kernel_rfl) (by simp [zr8]))) rfl ?_
                      rintro v1 L1 ⟨nb19, hnb19, rfl, rfl⟩
                      show JL _ _ _ _ ((115, Slc nb19 0 1 1) :: _) [_, _, _, _, _, _, _, _, ⟨nb19, [U64 (vQ z0 (aq + 56*j) 8)] ++ cu8 (bQ z0 (aq + 56*j + 8) 32) ++ cu8 (bQ z0 (aq + 56*j + 40) 16), 164, (0, 0)⟩]
                      refine A2 (Step_appS 34 164 56 (.agg ([U64 0] ++ cu8 (zr8 32) ++ cu8 (zr8 16)).toArray) [false, false, false, false, false, true, false, false, false] (Slc gs 0 j cp2) j rr (SealR.mk (vQ z0 (aq + 56*j) 8) (bQ z0 (aq + 56*j + 8) 32) (bQ z0 (aq + 56*j + 40) 16) (BJ _ _ _) (BJ _ _ _)) (some ⟨nb19, 0, none⟩) 1 (j + 1) CU (by kernel_rfl) (by kernel_rfl) rfl (.inr ⟨gs, sp2, cp2, rfl, rfl, (by have h : (rr).length = j := hj4; omega), (by first | exact hj5 | omega), (by omega), (by omega)⟩) rfl (SrcAt.mem (AT 8 rfl (AJ _))) (by omega) (by unfold maxLen; omega) (by omega)) rfl ?_
                      rintro v1 L1 ⟨nb20, sp4, cp4, hg4, rfl, rfl, ha13, ha14, ha15, ha16⟩
                      show JL _ _ _ _ ((116, Slc nb20 0 (j + 1) cp4) :: _) [_, _, _, _, _, _, _, _, ⟨nb20, (rr ++ [(SealR.mk (vQ z0 (aq + 56*j) 8) (bQ z0 (aq + 56*j + 8) 32) (bQ z0 (aq + 56*j + 40) 16) (BJ _ _ _) (BJ _ _ _))]).flatMap sealC ++ sp4, 164, (0, 0)⟩]
                      refine AA (Ptr nb4 2) (AD 2 36 4 BK rfl CJ rfl rfl) rfl ?_
                      refine AA (Ptr nb4 4) (AD 2 34 1 BE rfl CY rfl rfl) rfl ?_
                      refine AY (C0 3 nb4 4 1 ([U64 (vQ z0 0 8), U64 (vQ z0 8 8), I64 (((vQ z0 16 1).toNat:Int)), Slc gb 0 m cp, Slc gs 0 j cp2, U64 0] ++ cu8 (zr8 16)) 38 (Slc nb20 0 (j + 1) cp4) ([Slc nb20 0 (j + 1) cp4]) ([U64 (vQ z0 0 8), U64 (vQ z0 8 8), I64 (((vQ z0 16 1).toNat:Int)), Slc gb 0 m cp, Slc nb20 0 (j + 1) cp4, U64 0] ++ cu8 (zr8 16)) rfl rfl rfl rfl CY rfl (by simp [Value.oneCell']) (by simp [(AN 16)]) (EV (p := [U64 (vQ z0 0 8), U64 (vQ z0 8 8), I64 (((vQ z0 16 1).toNat:Int)), Slc gb 0 m cp, Slc gs 0 j cp2, U64 0]) (vs := [Slc nb20 0 (j + 1) cp4]) (o := 4) (by simp []) (rfl))) rfl ?_
                      show JL _ _ _ _ _ [_, _, _, ⟨nb4, [U64 (vQ z0 0 8), U64 (vQ z0 8 8), I64 (((vQ z0 16 1).toNat:Int)), Slc gb 0 m cp, Slc nb20 0 (j + 1) cp4, U64 0] ++ cu8 (zr8 16), 38, (0, 0)⟩, _, _, _, _, _]
                      refine AL (B0 (AC (AB (AA _ (AE rfl) rfl ?_))))
                      refine AA (I64 ((j:Int) + 1)) (AP rfl rfl fun _ => DL _ _ ((j:Int) + 1) (by omega) (by omega)) rfl ?_
                      refine AA _ (AH rfl) rfl ?_
                      refine AL (DO (B5 [true, true, true, true, true, false, false, false, true] ?_))
                      show K _ _ [_, _, _, _, _, _] _
                      refine ER (.inr (j + 1, rr ++ [(SealR.mk (vQ z0 (aq + 56*j) 8) (bQ z0 (aq + 56*j + 8) 32) (bQ z0 (aq + 56*j + 40) 16) (BJ _ _ _) (BJ _ _ _))], nb20, sp4, cp4, ao9, zz9, ca9)) ⟨by omega, by omega, by rw [seQ_succ, ← hj3]; exact congrArg (fun x => rr ++ [x]) (sQ_eq _ _ _ _), (ha13).trans (by first | rfl | simp +arith), (ha14).trans (by first | rfl | omega), by omega, by omega, (fun h8 => (hq9 (by omega)).trans (by congr 1 <;> omega)), (by intro w M hr; exact (hA9 _ _ (hj9 _ _ hr))), by omega, by omega, by omega⟩ (by dsimp only; omega) (Sub.all rfl) rfl
                    ·
                      have hp33 : ¬ (((eQ z0 (aq + 56*j):Int)) = (0:Int)) := of_decide_eq_false hb33
                      refine AF 9 99 true _ rfl rfl hb33 rfl ?_
                      refine AF 9 99 true _ rfl rfl hb33 rfl ?_
                      refine AA _ (BF _ rfl hb33 rfl) rfl ?_
                      refine AL (AC (BZ _ rfl rfl ?_))
                      refine DU (A9 (A9 (CR ?_)))
                      have hne : ¬ (aq + 56*j) ≤ z0.length := fun h => (of_decide_eq_false hb33) (by rw [F7 h]; rfl)
                      rw [eQ_bad hne]
                      refine GA [0, 1, 2, 3] (by decide) ?_
                      show JQ _ _ _ _ [_, _, _, _]
                      refine FG (.inr (.inr (.inr (aa2, zz2, cc2, (some ⟨gb, 0, none⟩), m, cp, (some ⟨gs, 0, none⟩), j, cp2)))) ⟨bad1 hk1 (fun e => by have := e.1; omega), (by intro w M hr; exact (hj9 _ _ hr)), by omega, by omega, by omega⟩ (Sub.all rfl) rfl
                  ·
                    have hp32 : ¬ (((j:Int)) ≤ (((vQ z0 17 1).toNat:Int))) := of_decide_eq_false hb32
                    refine AF 4 94 true _ rfl rfl hb32 rfl ?_
                    refine AF 4 94 true _ rfl rfl hb32 rfl ?_
                    refine AF 4 94 true _ rfl rfl hb32 rfl ?_
                    refine AA _ (BF _ rfl hb32 rfl) rfl ?_
                    refine AA _ (AE rfl) rfl ?_
                    refine AF 9 99 true _ rfl rfl rfl rfl ?_
                    refine AF 9 99 true _ rfl rfl rfl rfl ?_
                    refine AA _ (BF _ rfl rfl rfl) rfl ?_
                    refine AL (AC (BZ _ rfl rfl ?_))
                    refine DU (A9 (A9 (CR ?_)))
                    have ei : m = j := by omega
                    subst ei
                    subst hj3
                    subst hy1
                    refine FG (.inr (.inr (.inl (4*m + 18 + 56*m, gs, sp2, cp2, gb, sp, cp, aa2, zz2, cc2)))) ⟨hk1, by omega, hj5, hj6, hj7, hy2, hy3, hy4, hj8, hj9, hj10, hj11, hj12⟩ (Sub.all rfl) rfl
              ·
                refine AB (AA _ (AH rfl) rfl ?_)
                refine AL (AC (B4 (D4 (ι := Unit) (fun _ => [(1, Ptr nb1 0), (2, Ptr nb2 0), (3, Ptr nb3 0), (4, Ptr nb4 0), (7, U64 (vQ z0 16 1)), (10, U64 (vQ z0 17 1)), (15, I64 0)]) (fun _ => [⟨nb1, [.slice aa zz.length cc, I64 ((eQ z0 aq:Int))], 107, (0, 0)⟩, ⟨nb2, [U64 0, U64 0, I64 0, .slice none 0 0, .slice none 0 0, U64 0] ++ cu8 (zr8 16), 38, (0, 0)⟩, ⟨nb3, [.slice none 0 0, I64 0], 107, (0, 0)⟩, ⟨nb4, [U64 (vQ z0 0 8), U64 (vQ z0 8 8), I64 (((vQ z0 16 1).toNat:Int)), Slc gb 0 m cp, .slice none 0 0, U64 0] ++ cu8 (zr8 16), 38, (0, 0)⟩, ⟨gb, cu64 (ixQ z0 18 m) ++ sp, 22, (0, 0)⟩]) (fun _ => True) (fun _ => 1) () trivial (Sub.all rfl) rfl ?_)))
                rintro _ _
                show JC _ _ _ [(1, Ptr nb1 0), (2, Ptr nb2 0), (3, Ptr nb3 0), (4, Ptr nb4 0), (7, U64 (vQ z0 16 1)), (10, U64 (vQ z0 17 1)), (15, I64 0)] [⟨nb1, [.slice aa zz.length cc, I64 ((eQ z0 aq:Int))], 107, (0, 0)⟩, ⟨nb2, [U64 0, U64 0, I64 0, .slice none 0 0, .slice none 0 0, U64 0] ++ cu8 (zr8 16), 38, (0, 0)⟩, ⟨nb3, [.slice none 0 0, I64 0], 107, (0, 0)⟩, ⟨nb4, [U64 (vQ z0 0 8), U64 (vQ z0 8 8), I64 (((vQ z0 16 1).toNat:Int)), Slc gb 0 m cp, .slice none 0 0, U64 0] ++ cu8 (zr8 16), 38, (0, 0)⟩, ⟨gb, cu64 (ixQ z0 18 m) ++ sp, 22, (0, 0)⟩]
                refine AG (AG (AB (AA _ (AE rfl) rfl ?_)))
                refine AA _ (AE rfl) rfl ?_
                refine AA (I64 (((vQ z0 17 1).toNat:Int))) (EG _ _ rfl fun _ => FP (by rw [B8]; rfl) DK (vQ z0 17 1) _ rfl (by omega)) rfl ?_
                refine AA (.bool (decide ((0:Int) ≤ (((vQ z0 17 1).toNat:Int))))) (AP rfl rfl fun _ => bin_leq_i _ _) rfl ?_
                refine AA _ (AE rfl) rfl ?_
                refine AS 4 94 true _ (Ptr nb1 1) rfl rfl (decide_eq_true (by omega)) (AD 1 3 1 BG rfl BA rfl rfl) rfl ?_
                refine AS 4 94 true _ (I64 ((eQ z0 aq:Int))) rfl rfl (decide_eq_true (by omega)) (AM rfl (A6 BS (AT 0 rfl (AO (Seg.head))))) rfl ?_
                refine AS 4 94 true _ (.bool (decide (((eQ z0 aq:Int)) = (0:Int)))) rfl rfl (decide_eq_true (by omega)) (AP rfl rfl fun _ => CA _ _) rfl ?_
                refine AA _ (BO _ rfl (decide_eq_true (by omega)) rfl) rfl ?_
                refine AA _ (AE rfl) rfl ?_
                rcases Bool.eq_false_or_eq_true (decide (((eQ z0 aq:Int)) = (0:Int))) with hb37 | hb37
                ·
                  have hp37 : ((eQ z0 aq:Int)) = (0:Int) := of_decide_eq_true hb37
                  refine AS 9 99 true _ _ rfl rfl hb37 (AE rfl) rfl ?_
                  refine AS 9 99 true _ (.bool (decide ((vQ z0 16 1) = (1:UInt64)))) rfl rfl hb37 (AP rfl rfl fun _ => E6 (vQ z0 16 1) (1:UInt64)) rfl ?_
                  refine AA _ (BO _ rfl hb37 rfl) rfl ?_
                  refine AL (AC (BZ _ rfl (decide_eq_false hk1) ?_))
                  refine DU (A9 (A9 (CR (FG (.inr (.inl (gb, sp, cp, aa, zz, cc, aq))) ⟨hk12.resolve_left hk1, hy1, hy2, hy3, hy4, hy5, hy6, hy7, hy8, hy9⟩ (Sub.all rfl) rfl))))
                ·
                  have hp37 : ¬ (((eQ z0 aq:Int)) = (0:Int)) := of_decide_eq_false hb37
                  refine AF 9 99 true _ rfl rfl hb37 rfl ?_
                  refine AF 9 99 true _ rfl rfl hb37 rfl ?_
                  refine AA _ (BF _ rfl hb37 rfl) rfl ?_
                  refine AL (AC (BZ _ rfl rfl ?_))
                  refine DU (A9 (A9 (CR (FG (.inr (.inl (gb, sp, cp, aa, zz, cc, aq))) ⟨hk12.resolve_left hk1, hy1, hy2, hy3, hy4, hy5, hy6, hy7, hy8, hy9⟩ (Sub.all rfl) rfl))))
        ·
          refine BL (FG (.inl (bl, pp, aa, zz, cc)) ⟨hP.imp id (fun h => bad0U h.1 hb15), hu5, hu6, hu10, hu11, hu12⟩ (Sub.all rfl) rfl)
    ·
      rintro (⟨bl, pp, aa, zz, cc⟩ | ⟨gb, sp, cp, aa, zz, cc, pp⟩ | ⟨pp, gs, sp2, cp2, gb, sp, cp, aa, zz, cc⟩ | ⟨ab, zb, cb, a1, n1, c1, a2, n2, c2⟩) hx
      ·
        obtain ⟨hu1, hu5, hu6, hu10, hu11, hu12⟩ := hx
        show JQ _ _ _ [(1, Ptr nb1 0), (2, Ptr nb2 0), (3, Ptr nb3 0), (4, Ptr nb4 0)] [⟨nb1, [.slice aa zz.length cc, I64 ((eQ z0 pp:Int))], 107, (0, 0)⟩, ⟨nb2, [U64 0, U64 0, I64 0, .slice none 0 0, .slice none 0 0, U64 0] ++ cu8 (zr8 16), 38, (0, 0)⟩, ⟨nb3, [.slice none 0 0, I64 0], 107, (0, 0)⟩, ⟨nb4, [U64 (vQ z0 0 8), U64 (vQ z0 8 8), I64 (((vQ z0 16 1).toNat:Int)), .slice none 0 0, .slice none 0 0, U64 bl] ++ cu8 (zr8 16), 38, (0, 0)⟩]
        refine AC (AG (AB (AA (.agg #[.slice aa zz.length cc, I64 ((eQ z0 pp:Int))]) (AM rfl (A5 AQ AK rfl (AT 0 rfl (AJ _)))) rfl ?_)))
        have hz10 : (zz).length = zz.length := rfl
        refine A2 (B3 126 [.agg #[.slice aa zz.length cc, I64 ((eQ z0 pp:Int))], I64 16] _ (AZ _ D2 rfl) (fun w1 hw1 => rtakeL_w pp 16 aa zz.length cc z0 zz w1 rfl (by omega) (by omega) (by omega) ((hu6 _ _ hr).at (M' := []) hw1 (by simp)) hu5)) rfl ?_
        rintro v1 L1 ⟨_, ⟨rfl, ao10, zz10, ca10, hq10, ⟨hA10, hb38, hb39, hb40⟩, (⟨hg5, ax1, cx1, hX1, rfl⟩ | ⟨hg5, ax1, cx1, rfl⟩)⟩, rfl⟩
        ·
          show JL _ _ _ _ ((121, .tuple #[.slice ax1 16 cx1, .agg #[.slice ao10 zz10.length ca10, I64 0]]) :: _) [_, _, _, _]
          refine AA _ (AE rfl) rfl ?_
          refine AA _ (BB rfl rfl) rfl ?_
          refine AA _ (BB rfl rfl) rfl ?_
          refine AA _ (AH rfl) rfl ?_
          refine AY (AU 0 nb1 2 ([.slice aa zz.length cc, I64 ((eQ z0 pp:Int))]) 107 ([.slice ao10 zz10.length ca10, I64 0]) rfl rfl rfl AK rfl (by simp [Value.oneCell']) (Nat.le_of_ble_eq_true rfl) (A0 (by simp []))) rfl ?_
          show JL _ _ _ _ _ [⟨nb1, [.slice ao10 zz10.length ca10, I64 0], 107, (0, 0)⟩, _, _, _]
          refine AL (AC (AG (AB (AA (Ptr nb4 6) (AD 6 27 16 BK rfl BV rfl rfl) rfl ?_))))
          refine AA (Slc nb4 6 16 16) (CI 16 5 1 0 16 6 16 BX BC rfl rfl rfl (by omega) (by omega) (by omega) (by omega) (by omega) 16 (by omega)) rfl ?_
          refine AA _ (AE rfl) rfl ?_
          refine AY (DX 43 43 5 3 nb4 6 16 16 ([U64 (vQ z0 0 8), U64 (vQ z0 8 8), I64 (((vQ z0 16 1).toNat:Int)), .slice none 0 0, .slice none 0 0, U64 bl] ++ cu8 (zr8 16)) 38 ax1 16 cx1 16 (cu8 (bQ z0 pp 16)) ([U64 (vQ z0 0 8), U64 (vQ z0 8 8), I64 (((vQ z0 16 1).toNat:Int)), .slice none 0 0, .slice none 0 0, U64 bl] ++ cu8 (bQ z0 pp 16)) AR C6 rfl rfl rfl rfl (by simp [(BJ _ _ _)]; try omega) ((hX1 _ _ (hu6 _ _ hr)).src) (by simp [(AN 16)]; try omega) (by first | exact CF | exact EI | exact EE | (simp [cu8, cu32, cu64, Value.oneCell']; done)) (FO 6 0 rfl rfl (A0 (by simp [(AN 16), (BJ _ _ _)])))) rfl ?_
          show JL _ _ _ _ ((127, I64 16) :: _) [_, _, _, ⟨nb4, [U64 (vQ z0 0 8), U64 (vQ z0 8 8), I64 (((vQ z0 16 1).toNat:Int)), .slice none 0 0, .slice none 0 0, U64 bl] ++ cu8 (bQ z0 pp 16), 38, (0, 0)⟩]
          refine AL (AC (AG (AG (AB (AA (Ptr nb1 1) (AD 1 3 1 BG rfl BA rfl rfl) rfl ?_)))))
          refine AA (I64 0) (AM rfl (A6 BS (AT 0 rfl (AO (Seg.head))))) rfl ?_
          refine AA (.bool (decide ((0:Int) = (0:Int)))) (AP rfl rfl fun _ => CA _ _) rfl ?_
          refine AA _ (AE rfl) rfl ?_
          refine AS 3 131 true _ (.agg ([U64 (vQ z0 0 8), U64 (vQ z0 8 8), I64 (((vQ z0 16 1).toNat:Int)), .slice none 0 0, .slice none 0 0, U64 bl] ++ cu8 (bQ z0 pp 16)).toArray) rfl rfl (by decide) (AM rfl (A5 DJ B7 (by simp [(BJ _ _ _)]) (AT 3 rfl (AJ _)))) rfl ?_
          refine DZ 3 131 true _ rfl rfl (by decide) (AX 45 [.agg ([U64 (vQ z0 0 8), U64 (vQ z0 8 8), I64 (((vQ z0 16 1).toNat:Int)), .slice none 0 0, .slice none 0 0, U64 bl] ++ cu8 (bQ z0 pp 16)).toArray] (I64 (((mayN (vQ z0 0 8) (vQ z0 8 8) (((vQ z0 16 1).toNat:Int)) ([] : List UInt64) ([] : List SealR) bl):Int))) (AZ _ Tryd.call45 rfl) (fun w1 hw1 => rmay13_c (vQ z0 0 8) (vQ z0 8 8) (((vQ z0 16 1).toNat:Int)) none 0 0 ([] : List UInt64) none 0 0 ([] : List SealR) bl (bQ z0 pp 16) w1 rfl (by omega) (by omega) (by omega) RdV.nil rfl (by omega) (by omega) (by omega) RdV.nil (BJ _ _ _))) rfl ?_
          rintro v1 L1 ⟨rfl, rfl⟩
          show JL _ _ _ _ ((133, I64 (((mayN (vQ z0 0 8) (vQ z0 8 8) (((vQ z0 16 1).toNat:Int)) ([] : List UInt64) ([] : List SealR) bl):Int))) :: _) [_, _, _, _]
          refine AS 3 131 true _ (.bool (decide ((((mayN (vQ z0 0 8) (vQ z0 8 8) (((vQ z0 16 1).toNat:Int)) ([] : List UInt64) ([] : List SealR) bl):Int)) ≠ (0:Int)))) rfl rfl (by decide) (AP rfl rfl fun _ => CE _ _) rfl ?_
          refine AA _ (BO _ rfl (by decide) rfl) rfl ?_
          refine AL (AC (CL (decide ((((mayN (vQ z0 0 8) (vQ z0 8 8) (((vQ z0 16 1).toNat:Int)) ([] : List UInt64) ([] : List SealR) bl):Int)) ≠ (0:Int))) rfl (fun hb41 => ?_) (fun hb41 => ?_)))
          ·
            have hp41 : (((mayN (vQ z0 0 8) (vQ z0 8 8) (((vQ z0 16 1).toNat:Int)) ([] : List UInt64) ([] : List SealR) bl):Int)) ≠ (0:Int) := of_decide_eq_true hb41
            refine AB (AA (Ptr nb1 1) (AD 1 3 1 BG rfl BA rfl rfl) rfl ?_)
            refine AY (C0 0 nb1 1 1 ([.slice ao10 zz10.length ca10, I64 0]) 107 (I64 2) ([I64 2]) ([.slice ao10 zz10.length ca10, I64 2]) rfl rfl rfl rfl BA rfl (by simp [Value.oneCell']) (Nat.le_of_ble_eq_true rfl) (rfl)) rfl ?_
            show JL _ _ _ _ _ [⟨nb1, [.slice ao10 zz10.length ca10, I64 2], 107, (0, 0)⟩, _, _, _]
            refine AL (AC (AG (AG (AB (AA (Ptr nb1 1) (AD 1 3 1 BG rfl BA rfl rfl) rfl ?_)))))
            refine AA (I64 2) (AM rfl (A6 BS (AT 0 rfl (AO (Seg.head))))) rfl ?_
            refine AA (.bool (decide ((2:Int) ≠ (0:Int)))) (AP rfl rfl fun _ => CE _ _) rfl ?_
            refine AL (AC (CM _ rfl (by decide) ?_))
            refine AG (CH 144 3 [(0, .agg ([U64 0, U64 0, I64 0, .slice none 0 0, .slice none 0 0, U64 0] ++ cu8 (zr8 16)).toArray), (1, .agg #[.slice ao10 zz10.length ca10, I64 2])] BP rfl (by decide +kernel) ?_)
            refine B6 ⟨[], [0, 1], [], [0, 1], [2]⟩ 2 rfl rfl (by decide +kernel) rfl ⟨⟨_, rfl, AI rfl (DG [] _ rfl (fun _ => by kernel_rfl))⟩, ⟨_, rfl, AI rfl (AM rfl (A5 AQ AK rfl (AT 0 rfl (AJ _))))⟩, trivial⟩ rfl (A7 rfl (AU 1 nb2 22 ([U64 0, U64 0, I64 0, .slice none 0 0, .slice none 0 0, U64 0] ++ cu8 (zr8 16)) 38 ([U64 0, U64 0, I64 0, .slice none 0 0, .slice none 0 0, U64 0] ++ cu8 (zr8 16)) rfl rfl rfl B7 (by simp [(AN 16)]) (CK (by simp [Value.oneCell']) CF) (by simp [(AN 16)]) (A0 (by simp [(AN 16), (AN 16)])))) ?_
            show DP _ _ _ _ _ _ _ _ [_, ⟨nb2, [U64 0, U64 0, I64 0, .slice none 0 0, .slice none 0 0, U64 0] ++ cu8 (zr8 16), 38, (0, 0)⟩, _, _]
            refine B6 ⟨[2], [0, 1], [0], [1], [3]⟩ 3 rfl rfl (by decide +kernel) rfl ⟨⟨_, rfl, AI rfl (AM rfl (A5 AQ AK rfl (AT 0 rfl (AJ _))))⟩, trivial⟩ rfl (A7 rfl (AU 2 nb3 2 ([.slice none 0 0, I64 0]) 107 ([.slice ao10 zz10.length ca10, I64 2]) rfl rfl rfl AK rfl (by simp [Value.oneCell']) (Nat.le_of_ble_eq_true rfl) (A0 (by simp [])))) ?_
            show DP _ _ _ _ _ _ _ _ [_, _, ⟨nb3, [.slice ao10 zz10.length ca10, I64 2], 107, (0, 0)⟩, _]
            refine C2 ⟨[2, 3], [0, 1], [0, 1], [], []⟩ rfl rfl (by decide +kernel) rfl trivial ?_
            refine CB (F' := [(1, Ptr nb1 0), (2, Ptr nb2 0), (3, Ptr nb3 0), (4, Ptr nb4 0)]) (by kernel_rfl) ?_
            refine AC (BH (A4 (B5 [false, true, true, false] ?_)))
            show JQ _ _ _ _ [_, _]
            refine BI (.tuple #[.agg ([U64 0, U64 0, I64 0, .slice none 0 0, .slice none 0 0, U64 0] ++ cu8 (zr8 16)).toArray, .agg #[.slice ao10 zz10.length ca10, I64 2]]) (res2 Tryd.results58 (CQ rfl (A5 DJ B7 (by simp [(AN 16)]) (AT 0 rfl (AJ _)))) (CQ rfl (A5 AQ AK rfl (AT 1 rfl (AJ _))))) fun w1 hw1 => ?_
            refine ⟨_, [], rfl, .inr (.inr (.inr ⟨?_, ao10, zz10.length, ca10, rfl, rfl⟩)), hw1.sub (by simp) (by simp)⟩
            rcases hu1 with ⟨h3, rfl, rfl⟩ | ⟨hb, _⟩
            · exact bad3 h3 (fun e => by have h9 := of_decide_eq_true hb41; have h8 := e.2; omega)
            · exact hb
          ·
            have hp41 : ¬ ((((mayN (vQ z0 0 8) (vQ z0 8 8) (((vQ z0 16 1).toNat:Int)) ([] : List UInt64) ([] : List SealR) bl):Int)) ≠ (0:Int)) := of_decide_eq_false hb41
            refine BL (AC (AG (AG (AB (AA (Ptr nb1 1) (AD 1 3 1 BG rfl BA rfl rfl) rfl ?_)))))
            refine AA (I64 0) (AM rfl (A6 BS (AT 0 rfl (AO (Seg.head))))) rfl ?_
            refine AA (.bool (decide ((0:Int) ≠ (0:Int)))) (AP rfl rfl fun _ => CE _ _) rfl ?_
            refine AL (AC (BZ _ rfl (by decide) ?_))
            refine BL (AC (AG (CH 144 3 [(0, .agg ([U64 (vQ z0 0 8), U64 (vQ z0 8 8), I64 (((vQ z0 16 1).toNat:Int)), .slice none 0 0, .slice none 0 0, U64 bl] ++ cu8 (bQ z0 pp 16)).toArray), (1, .agg #[.slice ao10 zz10.length ca10, I64 0])] BP rfl (by decide +kernel) ?_)))
            refine B6 ⟨[], [0, 1], [], [0, 1], [2]⟩ 2 rfl rfl (by decide +kernel) rfl ⟨⟨_, rfl, AI rfl (AM rfl (A5 DJ B7 (by simp [(BJ _ _ _)]) (AT 3 rfl (AJ _))))⟩, ⟨_, rfl, AI rfl (AM rfl (A5 AQ AK rfl (AT 0 rfl (AJ _))))⟩, trivial⟩ rfl (A7 rfl (AU 1 nb2 22 ([U64 0, U64 0, I64 0, .slice none 0 0, .slice none 0 0, U64 0] ++ cu8 (zr8 16)) 38 ([U64 (vQ z0 0 8), U64 (vQ z0 8 8), I64 (((vQ z0 16 1).toNat:Int)), .slice none 0 0, .slice none 0 0, U64 bl] ++ cu8 (bQ z0 pp 16)) rfl rfl rfl B7 (by simp [(BJ _ _ _)]) (CK (by simp [Value.oneCell']) CF) (by simp [(AN 16)]) (A0 (by simp [(AN 16), (BJ _ _ _)])))) ?_
            show DP _ _ _ _ _ _ _ _ [_, ⟨nb2, [U64 (vQ z0 0 8), U64 (vQ z0 8 8), I64 (((vQ z0 16 1).toNat:Int)), .slice none 0 0, .slice none 0 0, U64 bl] ++ cu8 (bQ z0 pp 16), 38, (0, 0)⟩, _, _]
            refine B6 ⟨[2], [0, 1], [0], [1], [3]⟩ 3 rfl rfl (by decide +kernel) rfl ⟨⟨_, rfl, AI rfl (AM rfl (A5 AQ AK rfl (AT 0 rfl (AJ _))))⟩, trivial⟩ rfl (A7 rfl (AU 2 nb3 2 ([.slice none 0 0, I64 0]) 107 ([.slice ao10 zz10.length ca10, I64 0]) rfl rfl rfl AK rfl (by simp [Value.oneCell']) (Nat.le_of_ble_eq_true rfl) (A0 (by simp [])))) ?_
            show DP _ _ _ _ _ _ _ _ [_, _, ⟨nb3, [.slice ao10 zz10.length ca10, I64 0], 107, (0, 0)⟩, _]
            refine C2 ⟨[2, 3], [0, 1], [0, 1], [], []⟩ rfl rfl (by decide +kernel) rfl trivial ?_
            refine CB (F' := [(2, Ptr nb2 0), (3, Ptr nb3 0)]) (by kernel_rfl) ?_
            refine AC (BH (B5 [false, true, true, false] ?_))
            show JQ _ _ _ _ [_, _]
            refine BI (.tuple #[.agg ([U64 (vQ z0 0 8), U64 (vQ z0 8 8), I64 (((vQ z0 16 1).toNat:Int)), .slice none 0 0, .slice none 0 0, U64 bl] ++ cu8 (bQ z0 pp 16)).toArray, .agg #[.slice ao10 zz10.length ca10, I64 0]]) (res2 Tryd.results58 (CQ rfl (A5 DJ B7 (by simp [(BJ _ _ _)]) (AT 0 rfl (AJ _)))) (CQ rfl (A5 AQ AK rfl (AT 1 rfl (AJ _))))) fun w1 hw1 => ?_
            rcases hu1 with ⟨h3, rfl, rfl⟩ | ⟨_, hm⟩
            · exact ⟨_, _, rfl, .inl ⟨⟨h3, by omega, (by have h9 := of_decide_eq_false hb41; omega)⟩, ao10, zz10, ca10, (fun h8 => (hq10 (by omega)).trans (by congr 1 <;> omega)), ⟨(by intro w M hr; exact (hA10 _ _ (hu6 _ _ hr))), by omega, by omega, by omega⟩, rfl, rfl⟩, hw1.sub (by simp) (by simp)⟩
            · exact absurd (by have h9 := of_decide_eq_false hb41; omega) hm
        ·
          show JL _ _ _ _ ((121, .tuple #[.slice ax1 0 cx1, .agg #[.slice ao10 zz10.length ca10, I64 2]]) :: _) [_, _, _, _]
          refine AA _ (AE rfl) rfl ?_
          refine AA _ (BB rfl rfl) rfl ?_
          refine AA _ (BB rfl rfl) rfl ?_
          refine AA _ (AH rfl) rfl ?_
          refine AY (AU 0 nb1 2 ([.slice aa zz.length cc, I64 ((eQ z0 pp:Int))]) 107 ([.slice ao10 zz10.length ca10, I64 2]) rfl rfl rfl AK rfl (by simp [Value.oneCell']) (Nat.le_of_ble_eq_true rfl) (A0 (by simp []))) rfl ?_
          show JL _ _ _ _ _ [⟨nb1, [.slice ao10 zz10.length ca10, I64 2], 107, (0, 0)⟩, _, _, _]
          refine AL (AC (AG (AB (AA (Ptr nb4 6) (AD 6 27 16 BK rfl BV rfl rfl) rfl ?_))))
          refine AA (Slc nb4 6 16 16) (CI 16 5 1 0 16 6 16 BX BC rfl rfl rfl (by omega) (by omega) (by omega) (by omega) (by omega) 16 (by omega)) rfl ?_
          refine AA _ (AE rfl) rfl ?_
          refine AY (DX 43 43 5 3 nb4 6 16 16 ([U64 (vQ z0 0 8), U64 (vQ z0 8 8), I64 (((vQ z0 16 1).toNat:Int)), .slice none 0 0, .slice none 0 0, U64 bl] ++ cu8 (zr8 16)) 38 ax1 0 cx1 0 [] ([U64 (vQ z0 0 8), U64 (vQ z0 8 8), I64 (((vQ z0 16 1).toNat:Int)), .slice none 0 0, .slice none 0 0, U64 bl] ++ cu8 (zr8 16)) AR C6 rfl rfl rfl rfl rfl SrcAt.nil (by simp [(AN 16)]) GE (GF _ _)) rfl ?_
          show JL _ _ _ _ ((127, I64 0) :: _) [_, _, _, _]
          refine AL (AC (AG (AG (AB (AA (Ptr nb1 1) (AD 1 3 1 BG rfl BA rfl rfl) rfl ?_)))))
          refine AA (I64 2) (AM rfl (A6 BS (AT 0 rfl (AO (Seg.head))))) rfl ?_
          refine AA (.bool (decide ((2:Int) = (0:Int)))) (AP rfl rfl fun _ => CA _ _) rfl ?_
          refine AA _ (AE rfl) rfl ?_
          refine AF 3 131 true _ rfl rfl (by decide) rfl ?_
          refine AF 3 131 true _ rfl rfl (by decide) rfl ?_
          refine AF 3 131 true _ rfl rfl (by decide) rfl ?_
          refine AA _ (BF _ rfl (by decide) rfl) rfl ?_
          refine AL (AC (BZ _ rfl rfl ?_))
          refine BL (AC (AG (AG (AB (AA (Ptr nb1 1) (AD 1 3 1 BG rfl BA rfl rfl) rfl ?_)))))
          refine AA (I64 2) (AM rfl (A6 BS (AT 0 rfl (AO (Seg.head))))) rfl ?_
          refine AA (.bool (decide ((2:Int) ≠ (0:Int)))) (AP rfl rfl fun _ => CE _ _) rfl ?_
          refine AL (AC (CM _ rfl (by decide) ?_))
          refine AG (CH 144 3 [(0, .agg ([U64 0, U64 0, I64 0, .slice none 0 0, .slice none 0 0, U64 0] ++ cu8 (zr8 16)).toArray), (1, .agg #[.slice ao10 zz10.length ca10, I64 2])] BP rfl (by decide +kernel) ?_)
          refine B6 ⟨[], [0, 1], [], [0, 1], [2]⟩ 2 rfl rfl (by decide +kernel) rfl ⟨⟨_, rfl, AI rfl (DG [] _ rfl (fun _ => by kernel_rfl))⟩, ⟨_, rfl, AI rfl (AM rfl (A5 AQ AK rfl (AT 0 rfl (AJ _))))⟩, trivial⟩ rfl (A7 rfl (AU 1 nb2 22 ([U64 0, U64 0, I64 0, .slice none 0 0, .slice none 0 0, U64 0] ++ cu8 (zr8 16)) 38 ([U64 0, U64 0, I64 0, .slice none 0 0, .slice none 0 0, U64 0] ++ cu8 (zr8 16)) rfl rfl rfl B7 (by simp [(AN 16)]) (CK (by simp [Value.oneCell']) CF) (by simp [(AN 16)]) (A0 (by simp [(AN 16), (AN 16)])))) ?_
          show DP _ _ _ _ _ _ _ _ [_, ⟨nb2, [U64 0, U64 0, I64 0, .slice none 0 0, .slice none 0 0, U64 0] ++ cu8 (zr8 16), 38, (0, 0)⟩, _, _]
          refine B6 ⟨[2], [0, 1], [0], [1], [3]⟩ 3 rfl rfl (by decide +kernel) rfl ⟨⟨_, rfl, AI rfl (AM rfl (A5 AQ AK rfl (AT 0 rfl (AJ _))))⟩, trivial⟩ rfl (A7 rfl (AU 2 nb3 2 ([.slice none 0 0, I64 0]) 107 ([.slice ao10 zz10.length ca10, I64 2]) rfl rfl rfl AK rfl (by simp [Value.oneCell']) (Nat.le_of_ble_eq_true rfl) (A0 (by simp [])))) ?_
          show DP _ _ _ _ _ _ _ _ [_, _, ⟨nb3, [.slice ao10 zz10.length ca10, I64 2], 107, (0, 0)⟩, _]
          refine C2 ⟨[2, 3], [0, 1], [0, 1], [], []⟩ rfl rfl (by decide +kernel) rfl trivial ?_
          refine CB (F' := [(1, Ptr nb1 0), (2, Ptr nb2 0), (3, Ptr nb3 0), (4, Ptr nb4 0)]) (by kernel_rfl) ?_
          refine AC (BH (A4 (B5 [false, true, true, false] ?_)))
          show JQ _ _ _ _ [_, _]
          refine BI (.tuple #[.agg ([U64 0, U64 0, I64 0, .slice none 0 0, .slice none 0 0, U64 0] ++ cu8 (zr8 16)).toArray, .agg #[.slice ao10 zz10.length ca10, I64 2]]) (res2 Tryd.results58 (CQ rfl (A5 DJ B7 (by simp [(AN 16)]) (AT 0 rfl (AJ _)))) (CQ rfl (A5 AQ AK rfl (AT 1 rfl (AJ _))))) fun w1 hw1 => ?_
          refine ⟨_, [], rfl, .inr (.inr (.inr ⟨?_, ao10, zz10.length, ca10, rfl, rfl⟩)), hw1.sub (by simp) (by simp)⟩
          rcases hu1 with ⟨h3, rfl, rfl⟩ | ⟨hb, _⟩
          · exact bad3 h3 (fun e => by have := e.1; omega)
          · exact hb
      ·
        obtain ⟨hk, hpp, hu2, hu3, hu4, hu5, hu6, hu10, hu11, hu12⟩ := hx
        show JQ _ _ _ [(1, Ptr nb1 0), (2, Ptr nb2 0), (3, Ptr nb3 0), (4, Ptr nb4 0)] [⟨nb1, [.slice aa zz.length cc, I64 ((eQ z0 pp:Int))], 107, (0, 0)⟩, ⟨nb2, [U64 0, U64 0, I64 0, .slice none 0 0, .slice none 0 0, U64 0] ++ cu8 (zr8 16), 38, (0, 0)⟩, ⟨nb3, [.slice none 0 0, I64 0], 107, (0, 0)⟩, ⟨nb4, [U64 (vQ z0 0 8), U64 (vQ z0 8 8), I64 (((vQ z0 16 1).toNat:Int)), Slc gb 0 m cp, .slice none 0 0, U64 0] ++ cu8 (zr8 16), 38, (0, 0)⟩, ⟨gb, cu64 (ixQ z0 18 m) ++ sp, 22, (0, 0)⟩]
        refine AC (AG (AB (AA (.agg #[.slice aa zz.length cc, I64 ((eQ z0 pp:Int))]) (AM rfl (A5 AQ AK rfl (AT 0 rfl (AJ _)))) rfl ?_)))
        have hz11 : (zz).length = zz.length := rfl
        refine A2 (B3 126 [.agg #[.slice aa zz.length cc, I64 ((eQ z0 pp:Int))], I64 16] _ (AZ _ D2 rfl) (fun w1 hw1 => rtakeL_w pp 16 aa zz.length cc z0 zz w1 rfl (by omega) (by omega) (by omega) ((hu6 _ _ hr).at (M' := []) hw1 (by simp)) hu5)) rfl ?_
        rintro v1 L1 ⟨_, ⟨rfl, ao11, zz11, ca11, hq11, ⟨hA11, hb42, hb43, hb44⟩, (⟨hg6, ax2, cx2, hX2, rfl⟩ | ⟨hg6, ax2, cx2, rfl⟩)⟩, rfl⟩
        ·
          show JL _ _ _ _ ((121, .tuple #[.slice ax2 16 cx2, .agg #[.slice ao11 zz11.length ca11, I64 0]]) :: _) [_, _, _, _, _]
          refine AA _ (AE rfl) rfl ?_
          refine AA _ (BB rfl rfl) rfl ?_
          refine AA _ (BB rfl rfl) rfl ?_
          refine AA _ (AH rfl) rfl ?_
          refine AY (AU 0 nb1 2 ([.slice aa zz.length cc, I64 ((eQ z0 pp:Int))]) 107 ([.slice ao11 zz11.length ca11, I64 0]) rfl rfl rfl AK rfl (by simp [Value.oneCell']) (Nat.le_of_ble_eq_true rfl) (A0 (by simp []))) rfl ?_
          show JL _ _ _ _ _ [⟨nb1, [.slice ao11 zz11.length ca11, I64 0], 107, (0, 0)⟩, _, _, _, _]
          refine AL (AC (AG (AB (AA (Ptr nb4 6) (AD 6 27 16 BK rfl BV rfl rfl) rfl ?_))))
          refine AA (Slc nb4 6 16 16) (CI 16 5 1 0 16 6 16 BX BC rfl rfl rfl (by omega) (by omega) (by omega) (by omega) (by omega) 16 (by omega)) rfl ?_
          refine AA _ (AE rfl) rfl ?_
          refine AY (DX 43 43 5 3 nb4 6 16 16 ([U64 (vQ z0 0 8), U64 (vQ z0 8 8), I64 (((vQ z0 16 1).toNat:Int)), Slc gb 0 m cp, .slice none 0 0, U64 0] ++ cu8 (zr8 16)) 38 ax2 16 cx2 16 (cu8 (bQ z0 pp 16)) ([U64 (vQ z0 0 8), U64 (vQ z0 8 8), I64 (((vQ z0 16 1).toNat:Int)), Slc gb 0 m cp, .slice none 0 0, U64 0] ++ cu8 (bQ z0 pp 16)) AR C6 rfl rfl rfl rfl (by simp [(BJ _ _ _)]; try omega) ((hX2 _ _ (hu6 _ _ hr)).src) (by simp [(AN 16)]; try omega) (by first | exact CF | exact EI | exact EE | (simp [cu8, cu32, cu64, Value.oneCell']; done)) (FO 6 0 rfl rfl (A0 (by simp [(AN 16), (BJ _ _ _)])))) rfl ?_
          show JL _ _ _ _ ((127, I64 16) :: _) [_, _, _, ⟨nb4, [U64 (vQ z0 0 8), U64 (vQ z0 8 8), I64 (((vQ z0 16 1).toNat:Int)), Slc gb 0 m cp, .slice none 0 0, U64 0] ++ cu8 (bQ z0 pp 16), 38, (0, 0)⟩, _]
          refine AL (AC (AG (AG (AB (AA (Ptr nb1 1) (AD 1 3 1 BG rfl BA rfl rfl) rfl ?_)))))
          refine AA (I64 0) (AM rfl (A6 BS (AT 0 rfl (AO (Seg.head))))) rfl ?_
          refine AA (.bool (decide ((0:Int) = (0:Int)))) (AP rfl rfl fun _ => CA _ _) rfl ?_
          refine AA _ (AE rfl) rfl ?_
          refine AS 3 131 true _ (.agg ([U64 (vQ z0 0 8), U64 (vQ z0 8 8), I64 (((vQ z0 16 1).toNat:Int)), Slc gb 0 m cp, .slice none 0 0, U64 0] ++ cu8 (bQ z0 pp 16)).toArray) rfl rfl (by decide) (AM rfl (A5 DJ B7 (by simp [(BJ _ _ _)]) (AT 3 rfl (AJ _)))) rfl ?_
          refine DZ 3 131 true _ rfl rfl (by decide) (AX 45 [.agg ([U64 (vQ z0 0 8), U64 (vQ z0 8 8), I64 (((vQ z0 16 1).toNat:Int)), Slc gb 0 m cp, .slice none 0 0, U64 0] ++ cu8 (bQ z0 pp 16)).toArray] (I64 (((mayN (vQ z0 0 8) (vQ z0 8 8) (((vQ z0 16 1).toNat:Int)) (ixQ z0 18 m) ([] : List SealR) (0:UInt64)):Int))) (AZ _ Tryd.call45 rfl) (fun w1 hw1 => rmay13_c (vQ z0 0 8) (vQ z0 8 8) (((vQ z0 16 1).toNat:Int)) (some ⟨gb, 0, none⟩) m cp (ixQ z0 18 m) none 0 0 ([] : List SealR) (0:UInt64) (bQ z0 pp 16) w1 (FF _ _ _) (by omega) (by omega) (by omega) (RdV.of hw1 (AT 4 rfl (A8 (AJ _)))) rfl (by omega) (by omega) (by omega) RdV.nil (BJ _ _ _))) rfl ?_
          rintro v1 L1 ⟨rfl, rfl⟩
          show JL _ _ _ _ ((133, I64 (((mayN (vQ z0 0 8) (vQ z0 8 8) (((vQ z0 16 1).toNat:Int)) (ixQ z0 18 m) ([] : List SealR) (0:UInt64)):Int))) :: _) [_, _, _, _, _]
          refine AS 3 131 true _ (.bool (decide ((((mayN (vQ z0 0 8) (vQ z0 8 8) (((vQ z0 16 1).toNat:Int)) (ixQ z0 18 m) ([] : List SealR) (0:UInt64)):Int)) ≠ (0:Int)))) rfl rfl (by decide) (AP rfl rfl fun _ => CE _ _) rfl ?_
          refine AA _ (BO _ rfl (by decide) rfl) rfl ?_
          refine AL (AC (CL (decide ((((mayN (vQ z0 0 8) (vQ z0 8 8) (((vQ z0 16 1).toNat:Int)) (ixQ z0 18 m) ([] : List SealR) (0:UInt64)):Int)) ≠ (0:Int))) rfl (fun hb45 => ?_) (fun hb45 => ?_)))
          ·
            have hp45 : (((mayN (vQ z0 0 8) (vQ z0 8 8) (((vQ z0 16 1).toNat:Int)) (ixQ z0 18 m) ([] : List SealR) (0:UInt64)):Int)) ≠ (0:Int) := of_decide_eq_true hb45
            refine AB (AA (Ptr nb1 1) (AD 1 3 1 BG rfl BA rfl rfl) rfl ?_)
            refine AY (C0 0 nb1 1 1 ([.slice ao11 zz11.length ca11, I64 0]) 107 (I64 2) ([I64 2]) ([.slice ao11 zz11.length ca11, I64 2]) rfl rfl rfl rfl BA rfl (by simp [Value.oneCell']) (Nat.le_of_ble_eq_true rfl) (rfl)) rfl ?_
            show JL _ _ _ _ _ [⟨nb1, [.slice ao11 zz11.length ca11, I64 2], 107, (0, 0)⟩, _, _, _, _]
            refine AL (AC (AG (AG (AB (AA (Ptr nb1 1) (AD 1 3 1 BG rfl BA rfl rfl) rfl ?_)))))
            refine AA (I64 2) (AM rfl (A6 BS (AT 0 rfl (AO (Seg.head))))) rfl ?_
            refine AA (.bool (decide ((2:Int) ≠ (0:Int)))) (AP rfl rfl fun _ => CE _ _) rfl ?_
            refine AL (AC (CM _ rfl (by decide) ?_))
            refine AG (CH 144 3 [(0, .agg ([U64 0, U64 0, I64 0, .slice none 0 0, .slice none 0 0, U64 0] ++ cu8 (zr8 16)).toArray), (1, .agg #[.slice ao11 zz11.length ca11, I64 2])] BP rfl (by decide +kernel) ?_)
            refine B6 ⟨[], [0, 1], [], [0, 1], [2]⟩ 2 rfl rfl (by decide +kernel) rfl ⟨⟨_, rfl, AI rfl (DG [] _ rfl (fun _ => by kernel_rfl))⟩, ⟨_, rfl, AI rfl (AM rfl (A5 AQ AK rfl (AT 0 rfl (AJ _))))⟩, trivial⟩ rfl (A7 rfl (AU 1 nb2 22 ([U64 0, U64 0, I64 0, .slice none 0 0, .slice none 0 0, U64 0] ++ cu8 (zr8 16)) 38 ([U64 0, U64 0, I64 0, .slice none 0 0, .slice none 0 0, U64 0] ++ cu8 (zr8 16)) rfl rfl rfl B7 (by simp [(AN 16)]) (CK (by simp [Value.oneCell']) CF) (by simp [(AN 16)]) (A0 (by simp [(AN 16), (AN 16)])))) ?_
            show DP _ _ _ _ _ _ _ _ [_, ⟨nb2, [U64 0, U64 0, I64 0, .slice none 0 0, .slice none 0 0, U64 0] ++ cu8 (zr8 16), 38, (0, 0)⟩, _, _, _]
            refine B6 ⟨[2], [0, 1], [0], [1], [3]⟩ 3 rfl rfl (by decide +kernel) rfl ⟨⟨_, rfl, AI rfl (AM rfl (A5 AQ AK rfl (AT 0 rfl (AJ _))))⟩, trivial⟩ rfl (A7 rfl (AU 2 nb3 2 ([.slice none 0 0, I64 0]) 107 ([.slice ao11 zz11.length ca11, I64 2]) rfl rfl rfl AK rfl (by simp [Value.oneCell']) (Nat.le_of_ble_eq_true rfl) (A0 (by simp [])))) ?_
            show DP _ _ _ _ _ _ _ _ [_, _, ⟨nb3, [.slice ao11 zz11.length ca11, I64 2], 107, (0, 0)⟩, _, _]
            refine C2 ⟨[2, 3], [0, 1], [0, 1], [], []⟩ rfl rfl (by decide +kernel) rfl trivial ?_
            refine CB (F' := [(1, Ptr nb1 0), (2, Ptr nb2 0), (3, Ptr nb3 0), (4, Ptr nb4 0)]) (by kernel_rfl) ?_
            refine AC (BH (A4 (B5 [false, true, true, false, false] ?_)))
            show JQ _ _ _ _ [_, _]
            refine BI (.tuple #[.agg ([U64 0, U64 0, I64 0, .slice none 0 0, .slice none 0 0, U64 0] ++ cu8 (zr8 16)).toArray, .agg #[.slice ao11 zz11.length ca11, I64 2]]) (res2 Tryd.results58 (CQ rfl (A5 DJ B7 (by simp [(AN 16)]) (AT 0 rfl (AJ _)))) (CQ rfl (A5 AQ AK rfl (AT 1 rfl (AJ _))))) fun w1 hw1 => ?_
            refine ⟨_, [], rfl, .inr (.inr (.inr ⟨?_, ao11, zz11.length, ca11, rfl, rfl⟩)), hw1.sub (by simp) (by simp)⟩
            subst hm
            exact bad2 hk (fun e => by have h9 := of_decide_eq_true hb45; have h8 := e.2; omega)
          ·
            have hp45 : ¬ ((((mayN (vQ z0 0 8) (vQ z0 8 8) (((vQ z0 16 1).toNat:Int)) (ixQ z0 18 m) ([] : List SealR) (0:UInt64)):Int)) ≠ (0:Int)) := of_decide_eq_false hb45
            refine BL (AC (AG (AG (AB (AA (Ptr nb1 1) (AD 1 3 1 BG rfl BA rfl rfl) rfl ?_)))))
            refine AA (I64 0) (AM rfl (A6 BS (AT 0 rfl (AO (Seg.head))))) rfl ?_
            refine AA (.bool (decide ((0:Int) ≠ (0:Int)))) (AP rfl rfl fun _ => CE _ _) rfl ?_
            refine AL (AC (BZ _ rfl (by decide) ?_))
            refine BL (AC (AG (CH 144 3 [(0, .agg ([U64 (vQ z0 0 8), U64 (vQ z0 8 8), I64 (((vQ z0 16 1).toNat:Int)), Slc gb 0 m cp, .slice none 0 0, U64 0] ++ cu8 (bQ z0 pp 16)).toArray), (1, .agg #[.slice ao11 zz11.length ca11, I64 0])] BP rfl (by decide +kernel) ?_)))
            refine B6 ⟨[], [0, 1], [], [0, 1], [2]⟩ 2 rfl rfl (by decide +kernel) rfl ⟨⟨_, rfl, AI rfl (AM rfl (A5 DJ B7 (by simp [(BJ _ _ _)]) (AT 3 rfl (AJ _))))⟩, ⟨_, rfl, AI rfl (AM rfl (A5 AQ AK rfl (AT 0 rfl (AJ _))))⟩, trivial⟩ rfl (A7 rfl (AU 1 nb2 22 ([U64 0, U64 0, I64 0, .slice none 0 0, .slice none 0 0, U64 0] ++ cu8 (zr8 16)) 38 ([U64 (vQ z0 0 8), U64 (vQ z0 8 8), I64 (((vQ z0 16 1).toNat:Int)), Slc gb 0 m cp, .slice none 0 0, U64 0] ++ cu8 (bQ z0 pp 16)) rfl rfl rfl B7 (by simp [(BJ _ _ _)]) (CK (by simp [Value.oneCell']) CF) (by simp [(AN 16)]) (A0 (by simp [(AN 16), (BJ _ _ _)])))) ?_
            show DP _ _ _ _ _ _ _ _ [_, ⟨nb2, [U64 (vQ z0 0 8), U64 (vQ z0 8 8), I64 (((vQ z0 16 1).toNat:Int)), Slc gb 0 m cp, .slice none 0 0, U64 0] ++ cu8 (bQ z0 pp 16), 38, (0, 0)⟩, _, _, _]
            refine B6 ⟨[2], [0, 1], [0], [1], [3]⟩ 3 rfl rfl (by decide +kernel) rfl ⟨⟨_, rfl, AI rfl (AM rfl (A5 AQ AK rfl (AT 0 rfl (AJ _))))⟩, trivial⟩ rfl (A7 rfl (AU 2 nb3 2 ([.slice none 0 0, I64 0]) 107 ([.slice ao11 zz11.length ca11, I64 0]) rfl rfl rfl AK rfl (by simp [Value.oneCell']) (Nat.le_of_ble_eq_true rfl) (A0 (by simp [])))) ?_
            show DP _ _ _ _ _ _ _ _ [_, _, ⟨nb3, [.slice ao11 zz11.length ca11, I64 0], 107, (0, 0)⟩, _, _]
            refine C2 ⟨[2, 3], [0, 1], [0, 1], [], []⟩ rfl rfl (by decide +kernel) rfl trivial ?_
            refine CB (F' := [(2, Ptr nb2 0), (3, Ptr nb3 0)]) (by kernel_rfl) ?_
            refine AC (BH (B5 [false, true, true, false, true] ?_))
            show JQ _ _ _ _ [_, _, _]
            refine BI (.tuple #[.agg ([U64 (vQ z0 0 8), U64 (vQ z0 8 8), I64 (((vQ z0 16 1).toNat:Int)), Slc gb 0 m cp, .slice none 0 0, U64 0] ++ cu8 (bQ z0 pp 16)).toArray, .agg #[.slice ao11 zz11.length ca11, I64 0]]) (res2 Tryd.results58 (CQ rfl (A5 DJ B7 (by simp [(BJ _ _ _)]) (AT 0 rfl (AJ _)))) (CQ rfl (A5 AQ AK rfl (AT 1 rfl (AJ _))))) fun w1 hw1 => ?_
            subst hm
            subst hpp
            exact ⟨_, _, rfl, .inr (.inl ⟨⟨hk, by omega, (by have h9 := of_decide_eq_false hb45; omega)⟩, ao11, zz11, ca11, gb, sp, cp, (fun h8 => (hq11 (by omega)).trans (by congr 1 <;> omega)), ⟨(by intro w M hr; exact (hA11 _ _ (hu6 _ _ hr))), by omega, by omega, by omega⟩, rfl, rfl, hu2, hu3, hu4⟩), hw1.sub (by simp) (by simp)⟩
        ·
          show JL _ _ _ _ ((121, .tuple #[.slice ax2 0 cx2, .agg #[.slice ao11 zz11.length ca11, I64 2]]) :: _) [_, _, _, _, _]
          refine AA _ (AE rfl) rfl ?_
          refine AA _ (BB rfl rfl) rfl ?_
          refine AA _ (BB rfl rfl) rfl ?_
          refine AA _ (AH rfl) rfl ?_
          refine AY (AU 0 nb1 2 ([.slice aa zz.length cc, I64 ((eQ z0 pp:Int))]) 107 ([.slice ao11 zz11.length ca11, I64 2]) rfl rfl rfl AK rfl (by simp [Value.oneCell']) (Nat.le_of_ble_eq_true rfl) (A0 (by simp []))) rfl ?_
          show JL _ _ _ _ _ [⟨nb1, [.slice ao11 zz11.length ca11, I64 2], 107, (0, 0)⟩, _, _, _, _]
          refine AL (AC (AG (AB (AA (Ptr nb4 6) (AD 6 27 16 BK rfl BV rfl rfl) rfl ?_))))
          refine AA (Slc nb4 6 16 16) (CI 16 5 1 0 16 6 16 BX BC rfl rfl rfl (by omega) (by omega) (by omega) (by omega) (by omega) 16 (by omega)) rfl ?_
          refine AA _ (AE rfl) rfl ?_
          refine AY (DX 43 43 5 3 nb4 6 16 16 ([U64 (vQ z0 0 8), U64 (vQ z0 8 8), I64 (((vQ z0 16 1).toNat:Int)), Slc gb 0 m cp, .slice none 0 0, U64 0] ++ cu8 (zr8 16)) 38 ax2 0 cx2 0 [] ([U64 (vQ z0 0 8), U64 (vQ z0 8 8), I64 (((vQ z0 16 1).toNat:Int)), Slc gb 0 m cp, .slice none 0 0, U64 0] ++ cu8 (zr8 16)) AR C6 rfl rfl rfl rfl rfl SrcAt.nil (by simp [(AN 16)]) GE (GF _ _)) rfl ?_
          show JL _ _ _ _ ((127, I64 0) :: _) [_, _, _, _, _]
          refine AL (AC (AG (AG (AB (AA (Ptr nb1 1) (AD 1 3 1 BG rfl BA rfl rfl) rfl ?_)))))
          refine AA (I64 2) (AM rfl (A6 BS (AT 0 rfl (AO (Seg.head))))) rfl ?_
          refine AA (.bool (decide ((2:Int) = (0:Int)))) (AP rfl rfl fun _ => CA _ _) rfl ?_
          refine AA _ (AE rfl) rfl ?_
          refine AF 3 131 true _ rfl rfl (by decide) rfl ?_
          refine AF 3 131 true _ rfl rfl (by decide) rfl ?_
          refine AF 3 131 true _ rfl rfl (by decide) rfl ?_
          refine AA _ (BF _ rfl (by decide) rfl) rfl ?_
          refine AL (AC (BZ _ rfl rfl ?_))
          refine BL (AC (AG (AG (AB (AA (Ptr nb1 1) (AD 1 3 1 BG rfl BA rfl rfl) rfl ?_)))))
          refine AA (I64 2) (AM rfl (A6 BS (AT 0 rfl (AO (Seg.head))))) rfl ?_
          refine AA (.bool (decide ((2:Int) ≠ (0:Int)))) (AP rfl rfl fun _ => CE _ _) rfl ?_
          refine AL (AC (CM _ rfl (by decide) ?_))
          refine AG (CH 144 3 [(0, .agg ([U64 0, U64 0, I64 0, .slice none 0 0, .slice none 0 0, U64 0] ++ cu8 (zr8 16)).toArray), (1, .agg #[.slice ao11 zz11.length ca11, I64 2])] BP rfl (by decide +kernel) ?_)
          refine B6 ⟨[], [0, 1], [], [0, 1], [2]⟩ 2 rfl rfl (by decide +kernel) rfl ⟨⟨_, rfl, AI rfl (DG [] _ rfl (fun _ => by kernel_rfl))⟩, ⟨_, rfl, AI rfl (AM rfl (A5 AQ AK rfl (AT 0 rfl (AJ _))))⟩, trivial⟩ rfl (A7 rfl (AU 1 nb2 22 ([U64 0, U64 0, I64 0, .slice none 0 0, .slice none 0 0, U64 0] ++ cu8 (zr8 16)) 38 ([U64 0, U64 0, I64 0, .slice none 0 0, .slice none 0 0, U64 0] ++ cu8 (zr8 16)) rfl rfl rfl B7 (by simp [(AN 16)]) (CK (by simp [Value.oneCell']) CF) (by simp [(AN 16)]) (A0 (by simp [(AN 16), (AN 16)])))) ?_
          show DP _ _ _ _ _ _ _ _ [_, ⟨nb2, [U64 0, U64 0, I64 0, .slice none 0 0, .slice none 0 0, U64 0] ++ cu8 (zr8 16), 38, (0, 0)⟩, _, _, _]
          refine B6 ⟨[2], [0, 1], [0], [1], [3]⟩ 3 rfl rfl (by decide +kernel) rfl ⟨⟨_, rfl, AI rfl (AM rfl (A5 AQ AK rfl (AT 0 rfl (AJ _))))⟩, trivial⟩ rfl (A7 rfl (AU 2 nb3 2 ([.slice none 0 0, I64 0]) 107 ([.slice ao11 zz11.length ca11, I64 2]) rfl rfl rfl AK rfl (by simp [Value.oneCell']) (Nat.le_of_ble_eq_true rfl) (A0 (by simp [])))) ?_
          show DP _ _ _ _ _ _ _ _ [_, _, ⟨nb3, [.slice ao11 zz11.length ca11, I64 2], 107, (0, 0)⟩, _, _]
          refine C2 ⟨[2, 3], [0, 1], [0, 1], [], []⟩ rfl rfl (by decide +kernel) rfl trivial ?_
          refine CB (F' := [(1, Ptr nb1 0), (2, Ptr nb2 0), (3, Ptr nb3 0), (4, Ptr nb4 0)]) (by kernel_rfl) ?_
          refine AC (BH (A4 (B5 [false, true, true, false, false] ?_)))
          show JQ _ _ _ _ [_, _]
          refine BI (.tuple #[.agg ([U64 0, U64 0, I64 0, .slice none 0 0, .slice none 0 0, U64 0] ++ cu8 (zr8 16)).toArray, .agg #[.slice ao11 zz11.length ca11, I64 2]]) (res2 Tryd.results58 (CQ rfl (A5 DJ B7 (by simp [(AN 16)]) (AT 0 rfl (AJ _)))) (CQ rfl (A5 AQ AK rfl (AT 1 rfl (AJ _))))) fun w1 hw1 => ?_
          refine ⟨_, [], rfl, .inr (.inr (.inr ⟨?_, ao11, zz11.length, ca11, rfl, rfl⟩)), hw1.sub (by simp) (by simp)⟩
          subst hm
          exact bad2 hk (fun e => by have := e.1; omega)
      ·
        obtain ⟨hk, hpp, hu7, hu8, hu9, hu2, hu3, hu4, hu5, hu6, hu10, hu11, hu12⟩ := hx
        show JQ _ _ _ [(1, Ptr nb1 0), (2, Ptr nb2 0), (3, Ptr nb3 0), (4, Ptr nb4 0)] [⟨nb1, [.slice aa zz.length cc, I64 ((eQ z0 pp:Int))], 107, (0, 0)⟩, ⟨nb2, [U64 0, U64 0, I64 0, .slice none 0 0, .slice none 0 0, U64 0] ++ cu8 (zr8 16), 38, (0, 0)⟩, ⟨nb3, [.slice none 0 0, I64 0], 107, (0, 0)⟩, ⟨nb4, [U64 (vQ z0 0 8), U64 (vQ z0 8 8), I64 (((vQ z0 16 1).toNat:Int)), Slc gb 0 m cp, Slc gs 0 m cp2, U64 0] ++ cu8 (zr8 16), 38, (0, 0)⟩, ⟨gb, cu64 (ixQ z0 18 m) ++ sp, 22, (0, 0)⟩, ⟨gs, (seQ z0 (4*m + 18) m).flatMap sealC ++ sp2, 164, (0, 0)⟩]
        refine AC (AG (AB (AA (.agg #[.slice aa zz.length cc, I64 ((eQ z0 pp:Int))]) (AM rfl (A5 AQ AK rfl (AT 0 rfl (AJ _)))) rfl ?_)))
        have hz12 : (zz).length = zz.length := rfl
        refine A2 (B3 126 [.agg #[.slice aa zz.length cc, I64 ((eQ z0 pp:Int))], I64 16] _ (AZ _ D2 rfl) (fun w1 hw1 => rtakeL_w pp 16 aa zz.length cc z0 zz w1 rfl (by omega) (by omega) (by omega) ((hu6 _ _ hr).at (M' := []) hw1 (by simp)) hu5)) rfl ?_
        rintro v1 L1 ⟨_, ⟨rfl, ao12, zz12, ca12, hq12, ⟨hA12, hb46, hb47, hb48⟩, (⟨hg7, ax3, cx3, hX3, rfl⟩ | ⟨hg7, ax3, cx3, rfl⟩)⟩, rfl⟩
        ·
          show JL _ _ _ _ ((121, .tuple #[.slice ax3 16 cx3, .agg #[.slice ao12 zz12.length ca12, I64 0]]) :: _) [_, _, _, _, _, _]
          refine AA _ (AE rfl) rfl ?_
          refine AA _ (BB rfl rfl) rfl ?_
          refine AA _ (BB rfl rfl) rfl ?_
          refine AA _ (AH rfl) rfl ?_
          refine AY (AU 0 nb1 2 ([.slice aa zz.length cc, I64 ((eQ z0 pp:Int))]) 107 ([.slice ao12 zz12.length ca12, I64 0]) rfl rfl rfl AK rfl (by simp [Value.oneCell']) (Nat.le_of_ble_eq_true rfl) (A0 (by simp []))) rfl ?_
          show JL _ _ _ _ _ [⟨nb1, [.slice ao12 zz12.length ca12, I64 0], 107, (0, 0)⟩, _, _, _, _, _]
          refine AL (AC (AG (AB (AA (Ptr nb4 6) (AD 6 27 16 BK rfl BV rfl rfl) rfl ?_))))
          refine AA (Slc nb4 6 16 16) (CI 16 5 1 0 16 6 16 BX BC rfl rfl rfl (by omega) (by omega) (by omega) (by omega) (by omega) 16 (by omega)) rfl ?_
          refine AA _ (AE rfl) rfl ?_
          refine AY (DX 43 43 5 3 nb4 6 16 16 ([U64 (vQ z0 0 8), U64 (vQ z0 8 8), I64 (((vQ z0 16 1).toNat:Int)), Slc gb 0 m cp, Slc gs 0 m cp2, U64 0] ++ cu8 (zr8 16)) 38 ax3 16 cx3 16 (cu8 (bQ z0 pp 16)) ([U64 (vQ z0 0 8), U64 (vQ z0 8 8), I64 (((vQ z0 16 1).toNat:Int)), Slc gb 0 m cp, Slc gs 0 m cp2, U64 0] ++ cu8 (bQ z0 pp 16)) AR C6 rfl rfl rfl rfl (by simp [(BJ _ _ _)]; try omega) ((hX3 _ _ (hu6 _ _ hr)).src) (by simp [(AN 16)]; try omega) (by first | exact CF | exact EI | exact EE | (simp [cu8, cu32, cu64, Value.oneCell']; done)) (FO 6 0 rfl rfl (A0 (by simp [(AN 16), (BJ _ _ _)])))) rfl ?_
          show JL _ _ _ _ ((127, I64 16) :: _) [_, _, _, ⟨nb4, [U64 (vQ z0 0 8), U64 (vQ z0 8 8), I64 (((vQ z0 16 1).toNat:Int)), Slc gb 0 m cp, Slc gs 0 m cp2, U64 0] ++ cu8 (bQ z0 pp 16), 38, (0, 0)⟩, _, _]
          refine AL (AC (AG (AG (AB (AA (Ptr nb1 1) (AD 1 3 1 BG rfl BA rfl rfl) rfl ?_)))))
          refine AA (I64 0) (AM rfl (A6 BS (AT 0 rfl (AO (Seg.head))))) rfl ?_
          refine AA (.bool (decide ((0:Int) = (0:Int)))) (AP rfl rfl fun _ => CA _ _) rfl ?_
          refine AA _ (AE rfl) rfl ?_
          refine AS 3 131 true _ (.agg ([U64 (vQ z0 0 8), U64 (vQ z0 8 8), I64 (((vQ z0 16 1).toNat:Int)), Slc gb 0 m cp, Slc gs 0 m cp2, U64 0] ++ cu8 (bQ z0 pp 16)).toArray) rfl rfl (by decide) (AM rfl (A5 DJ B7 (by simp [(BJ _ _ _)]) (AT 3 rfl (AJ _)))) rfl ?_
          refine DZ 3 131 true _ rfl rfl (by decide) (AX 45 [.agg ([U64 (vQ z0 0 8), U64 (vQ z0 8 8), I64 (((vQ z0 16 1).toNat:Int)), Slc gb 0 m cp, Slc gs 0 m cp2, U64 0] ++ cu8 (bQ z0 pp 16)).toArray] (I64 (((mayN (vQ z0 0 8) (vQ z0 8 8) (((vQ z0 16 1).toNat:Int)) (ixQ z0 18 m) (seQ z0 (4*m + 18) m) (0:UInt64)):Int))) (AZ _ Tryd.call45 rfl) (fun w1 hw1 => rmay13_c (vQ z0 0 8) (vQ z0 8 8) (((vQ z0 16 1).toNat:Int)) (some ⟨gb, 0, none⟩) m cp (ixQ z0 18 m) (some ⟨gs, 0, none⟩) m cp2 (seQ z0 (4*m + 18) m) (0:UInt64) (bQ z0 pp 16) w1 (FF _ _ _) (by omega) (by omega) (by omega) (RdV.of hw1 (AT 4 rfl (A8 (AJ _)))) (seQ_len _ _ _) (by omega) (by omega) (by omega) (RdV.of hw1 (AT 5 rfl (A8 (AJ _)))) (BJ _ _ _))) rfl ?_
          rintro v1 L1 ⟨rfl, rfl⟩
          show JL _ _ _ _ ((133, I64 (((mayN (vQ z0 0 8) (vQ z0 8 8) (((vQ z0 16 1).toNat:Int)) (ixQ z0 18 m) (seQ z0 (4*m + 18) m) (0:UInt64)):Int))) :: _) [_, _, _, _, _, _]
          refine AS 3 131 true _ (.bool (decide ((((mayN (vQ z0 0 8) (vQ z0 8 8) (((vQ z0 16 1).toNat:Int)) (ixQ z0 18 m) (seQ z0 (4*m + 18) m) (0:UInt64)):Int)) ≠ (0:Int)))) rfl rfl (by decide) (AP rfl rfl fun _ => CE _ _) rfl ?_
          refine AA _ (BO _ rfl (by decide) rfl) rfl ?_
          refine AL (AC (CL (decide ((((mayN (vQ z0 0 8) (vQ z0 8 8) (((vQ z0 16 1).toNat:Int)) (ixQ z0 18 m) (seQ z0 (4*m + 18) m) (0:UInt64)):Int)) ≠ (0:Int))) rfl (fun hb49 => ?_) (fun hb49 => ?_)))
          ·
            have hp49 : (((mayN (vQ z0 0 8) (vQ z0 8 8) (((vQ z0 16 1).toNat:Int)) (ixQ z0 18 m) (seQ z0 (4*m + 18) m) (0:UInt64)):Int)) ≠ (0:Int) := of_decide_eq_true hb49
            refine AB (AA (Ptr nb1 1) (AD 1 3 1 BG rfl BA rfl rfl) rfl ?_)
            refine AY (C0 0 nb1 1 1 ([.slice ao12 zz12.length ca12, I64 0]) 107 (I64 2) ([I64 2]) ([.slice ao12 zz12.length ca12, I64 2]) rfl rfl rfl rfl BA rfl (by simp [Value.oneCell']) (Nat.le_of_ble_eq_true rfl) (rfl)) rfl ?_
            show JL _ _ _ _ _ [⟨nb1, [.slice ao12 zz12.length ca12, I64 2], 107, (0, 0)⟩, _, _, _, _, _]
            refine AL (AC (AG (AG (AB (AA (Ptr nb1 1) (AD 1 3 1 BG rfl BA rfl rfl) rfl ?_)))))
            refine AA (I64 2) (AM rfl (A6 BS (AT 0 rfl (AO (Seg.head))))) rfl ?_
            refine AA (.bool (decide ((2:Int) ≠ (0:Int)))) (AP rfl rfl fun _ => CE _ _) rfl ?_
            refine AL (AC (CM _ rfl (by decide) ?_))
            refine AG (CH 144 3 [(0, .agg ([U64 0, U64 0, I64 0, .slice none 0 0, .slice none 0 0, U64 0] ++ cu8 (zr8 16)).toArray), (1, .agg #[.slice ao12 zz12.length ca12, I64 2])] BP rfl (by decide +kernel) ?_)
            refine B6 ⟨[], [0, 1], [], [0, 1], [2]⟩ 2 rfl rfl (by decide +kernel) rfl ⟨⟨_, rfl, AI rfl (DG [] _ rfl (fun _ => by kernel_rfl))⟩, ⟨_, rfl, AI rfl (AM rfl (A5 AQ AK rfl (AT 0 rfl (AJ _))))⟩, trivial⟩ rfl (A7 rfl (AU 1 nb2 22 ([U64 0, U64 0, I64 0, .slice none 0 0, .slice none 0 0, U64 0] ++ cu8 (zr8 16)) 38 ([U64 0, U64 0, I64 0, .slice none 0 0, .slice none 0 0, U64 0] ++ cu8 (zr8 16)) rfl rfl rfl B7 (by simp [(AN 16)]) (CK (by simp [Value.oneCell']) CF) (by simp [(AN 16)]) (A0 (by simp [(AN 16), (AN 16)])))) ?_
            show DP _ _ _ _ _ _ _ _ [_, ⟨nb2, [U64 0, U64 0, I64 0, .slice none 0 0, .slice none 0 0, U64 0] ++ cu8 (zr8 16), 38, (0, 0)⟩, _, _, _, _]
            refine B6 ⟨[2], [0, 1], [0], [1], [3]⟩ 3 rfl rfl (by decide +kernel) rfl ⟨⟨_, rfl, AI rfl (AM rfl (A5 AQ AK rfl (AT 0 rfl (AJ _))))⟩, trivial⟩ rfl (A7 rfl (AU 2 nb3 2 ([.slice none 0 0, I64 0]) 107 ([.slice ao12 zz12.length ca12, I64 2]) rfl rfl rfl AK rfl (by simp [Value.oneCell']) (Nat.le_of_ble_eq_true rfl) (A0 (by simp [])))) ?_
            show DP _ _ _ _ _ _ _ _ [_, _, ⟨nb3, [.slice ao12 zz12.length ca12, I64 2], 107, (0, 0)⟩, _, _, _]
            refine C2 ⟨[2, 3], [0, 1], [0, 1], [], []⟩ rfl rfl (by decide +kernel) rfl trivial ?_
            refine CB (F' := [(1, Ptr nb1 0), (2, Ptr nb2 0), (3, Ptr nb3 0), (4, Ptr nb4 0)]) (by kernel_rfl) ?_
            refine AC (BH (A4 (B5 [false, true, true, false, false, false] ?_)))
            show JQ _ _ _ _ [_, _]
            refine BI (.tuple #[.agg ([U64 0, U64 0, I64 0, .slice none 0 0, .slice none 0 0, U64 0] ++ cu8 (zr8 16)).toArray, .agg #[.slice ao12 zz12.length ca12, I64 2]]) (res2 Tryd.results58 (CQ rfl (A5 DJ B7 (by simp [(AN 16)]) (AT 0 rfl (AJ _)))) (CQ rfl (A5 AQ AK rfl (AT 1 rfl (AJ _))))) fun w1 hw1 => ?_
            refine ⟨_, [], rfl, .inr (.inr (.inr ⟨?_, ao12, zz12.length, ca12, rfl, rfl⟩)), hw1.sub (by simp) (by simp)⟩
            subst hm
            exact bad1 hk (fun e => by have h9 := of_decide_eq_true hb49; have h8 := e.2; omega)
          ·
            have hp49 : ¬ ((((mayN (vQ z0 0 8) (vQ z0 8 8) (((vQ z0 16 1).toNat:Int)) (ixQ z0 18 m) (seQ z0 (4*m + 18) m) (0:UInt64)):Int)) ≠ (0:Int)) := of_decide_eq_false hb49
            refine BL (AC (AG (AG (AB (AA (Ptr nb1 1) (AD 1 3 1 BG rfl BA rfl rfl) rfl ?_)))))
            refine AA (I64 0) (AM rfl (A6 BS (AT 0 rfl (AO (Seg.head))))) rfl ?_
            refine AA (.bool (decide ((0:Int) ≠ (0:Int)))) (AP rfl rfl fun _ => CE _ _) rfl ?_
            refine AL (AC (BZ _ rfl (by decide) ?_))
            refine BL (AC (AG (CH 144 3 [(0, .agg ([U64 (vQ z0 0 8), U64 (vQ z0 8 8), I64 (((vQ z0 16 1).toNat:Int)), Slc gb 0 m cp, Slc gs 0 m cp2, U64 0] ++ cu8 (bQ z0 pp 16)).toArray), (1, .agg #[.slice ao12 zz12.length ca12, I64 0])] BP rfl (by decide +kernel) ?_)))
            refine B6 ⟨[], [0, 1], [], [0, 1], [2]⟩ 2 rfl rfl (by decide +kernel) rfl ⟨⟨_, rfl, AI rfl (AM rfl (A5 DJ B7 (by simp [(BJ _ _ _)]) (AT 3 rfl (AJ _))))⟩, ⟨_, rfl, AI rfl (AM rfl (A5 AQ AK rfl (AT 0 rfl (AJ _))))⟩, trivial⟩ rfl (A7 rfl (AU 1 nb2 22 ([U64 0, U64 0, I64 0, .slice none 0 0, .slice none 0 0, U64 0] ++ cu8 (zr8 16)) 38 ([U64 (vQ z0 0 8), U64 (vQ z0 8 8), I64 (((vQ z0 16 1).toNat:Int)), Slc gb 0 m cp, Slc gs 0 m cp2, U64 0] ++ cu8 (bQ z0 pp 16)) rfl rfl rfl B7 (by simp [(BJ _ _ _)]) (CK (by simp [Value.oneCell']) CF) (by simp [(AN 16)]) (A0 (by simp [(AN 16), (BJ _ _ _)])))) ?_
            show DP _ _ _ _ _ _ _ _ [_, ⟨nb2, [U64 (vQ z0 0 8), U64 (vQ z0 8 8), I64 (((vQ z0 16 1).toNat:Int)), Slc gb 0 m cp, Slc gs 0 m cp2, U64 0] ++ cu8 (bQ z0 pp 16), 38, (0, 0)⟩, _, _, _, _]
            refine B6 ⟨[2], [0, 1], [0], [1], [3]⟩ 3 rfl rfl (by decide +kernel) rfl ⟨⟨_, rfl, AI rfl (AM rfl (A5 AQ AK rfl (AT 0 rfl (AJ _))))⟩, trivial⟩ rfl (A7 rfl (AU 2 nb3 2 ([.slice none 0 0, I64 0]) 107 ([.slice ao12 zz12.length ca12, I64 0]) rfl rfl rfl AK rfl (by simp [Value.oneCell']) (Nat.le_of_ble_eq_true rfl) (A0 (by simp [])))) ?_
            show DP _ _ _ _ _ _ _ _ [_, _, ⟨nb3, [.slice ao12 zz12.length ca12, I64 0], 107, (0, 0)⟩, _, _, _]
            refine C2 ⟨[2, 3], [0, 1], [0, 1], [], []⟩ rfl rfl (by decide +kernel) rfl trivial ?_
            refine CB (F' := [(2, Ptr nb2 0), (3, Ptr nb3 0)]) (by kernel_rfl) ?_
            refine AC (BH (B5 [false, true, true, false, true, true] ?_))
            show JQ _ _ _ _ [_, _, _, _]
            refine BI (.tuple #[.agg ([U64 (vQ z0 0 8), U64 (vQ z0 8 8), I64 (((vQ z0 16 1).toNat:Int)), Slc gb 0 m cp, Slc gs 0 m cp2, U64 0] ++ cu8 (bQ z0 pp 16)).toArray, .agg #[.slice ao12 zz12.length ca12, I64 0]]) (res2 Tryd.results58 (CQ rfl (A5 DJ B7 (by simp [(BJ _ _ _)]) (AT 0 rfl (AJ _)))) (CQ rfl (A5 AQ AK rfl (AT 1 rfl (AJ _))))) fun w1 hw1 => ?_
            subst hm
            subst hpp
            exact ⟨_, _, rfl, .inr (.inr (.inl ⟨⟨hk, by omega, (by have h9 := of_decide_eq_false hb49; omega)⟩, ao12, zz12, ca12, gb, sp, cp, gs, sp2, cp2, (fun h8 => (hq12 (by omega)).trans (by congr 1 <;> omega)), ⟨(by intro w M hr; exact (hA12 _ _ (hu6 _ _ hr))), by omega, by omega, by omega⟩, rfl, rfl, hu2, hu3, hu4, hu7, hu8, hu9⟩)), hw1.sub (by simp) (by have hd0 : gb ≠ gs := hw1.ne (i := 2) (j := 3) rfl rfl (by decide); simp [hd0])⟩
        ·
          show JL _ _ _ _ ((121, .tuple #[.slice ax3 0 cx3, .agg #[.slice ao12 zz12.length ca12, I64 2]]) :: _) [_, _, _, _, _, _]
          refine AA _ (AE rfl) rfl ?_
          refine AA _ (BB rfl rfl) rfl ?_
          refine AA _ (BB rfl rfl) rfl ?_
          refine AA _ (AH rfl) rfl ?_
          refine AY (AU 0 nb1 2 ([.slice aa zz.length cc, I64 ((eQ z0 pp:Int))]) 107 ([.slice ao12 zz12.length ca12, I64 2]) rfl rfl rfl AK rfl (by simp [Value.oneCell']) (Nat.le_of_ble_eq_true rfl) (A0 (by simp []))) rfl ?_
          show JL _ _ _ _ _ [⟨nb1, [.slice ao12 zz12.length ca12, I64 2], 107, (0, 0)⟩, _, _, _, _, _]
          refine AL (AC (AG (AB (AA (Ptr nb4 6) (AD 6 27 16 BK rfl BV rfl rfl) rfl ?_))))
          refine AA (Slc nb4 6 16 16) (CI 16 5 1 0 16 6 16 BX BC rfl rfl rfl (by omega) (by omega) (by omega) (by omega) (by omega) 16 (by omega)) rfl ?_
          refine AA _ (AE rfl) rfl ?_
          refine AY (DX 43 43 5 3 nb4 6 16 16 ([U64 (vQ z0 0 8), U64 (vQ z0 8 8), I64 (((vQ z0 16 1).toNat:Int)), Slc gb 0 m cp, Slc gs 0 m cp2, U64 0] ++ cu8 (zr8 16)) 38 ax3 0 cx3 0 [] ([U64 (vQ z0 0 8), U64 (vQ z0 8 8), I64 (((vQ z0 16 1).toNat:Int)), Slc gb 0 m cp, Slc gs 0 m cp2, U64 0] ++ cu8 (zr8 16)) AR C6 rfl rfl rfl rfl rfl SrcAt.nil (by simp [(AN 16)]) GE (GF _ _)) rfl ?_
          show JL _ _ _ _ ((127, I64 0) :: _) [_, _, _, _, _, _]
          refine AL (AC (AG (AG (AB (AA (Ptr nb1 1) (AD 1 3 1 BG rfl BA rfl rfl) rfl ?_)))))
          refine AA (I64 2) (AM rfl (A6 BS (AT 0 rfl (AO (Seg.head))))) rfl ?_
          refine AA (.bool (decide ((2:Int) = (0:Int)))) (AP rfl rfl fun _ => CA _ _) rfl ?_
          refine AA _ (AE rfl) rfl ?_
          refine AF 3 131 true _ rfl rfl (by decide) rfl ?_
          refine AF 3 131 true _ rfl rfl (by decide) rfl ?_
          refine AF 3 131 true _ rfl rfl (by decide) rfl ?_
          refine AA _ (BF _ rfl (by decide) rfl) rfl ?_
          refine AL (AC (BZ _ rfl rfl ?_))
          refine BL (AC (AG (AG (AB (AA (Ptr nb1 1) (AD 1 3 1 BG rfl BA rfl rfl) rfl ?_)))))
          refine AA (I64 2) (AM rfl (A6 BS (AT 0 rfl (AO (Seg.head))))) rfl ?_
          refine AA (.bool (decide ((2:Int) ≠ (0:Int)))) (AP rfl rfl fun _ => CE _ _) rfl ?_
          refine AL (AC (CM _ rfl (by decide) ?_))
          refine AG (CH 144 3 [(0, .agg ([U64 0, U64 0, I64 0, .slice none 0 0, .slice none 0 0, U64 0] ++ cu8 (zr8 16)).toArray), (1, .agg #[.slice ao12 zz12.length ca12, I64 2])] BP rfl (by decide +kernel) ?_)
          refine B6 ⟨[], [0, 1], [], [0, 1], [2]⟩ 2 rfl rfl (by decide +kernel) rfl ⟨⟨_, rfl, AI rfl (DG [] _ rfl (fun _ => by kernel_rfl))⟩, ⟨_, rfl, AI rfl (AM rfl (A5 AQ AK rfl (AT 0 rfl (AJ _))))⟩, trivial⟩ rfl (A7 rfl (AU 1 nb2 22 ([U64 0, U64 0, I64 0, .slice none 0 0, .slice none 0 0, U64 0] ++ cu8 (zr8 16)) 38 ([U64 0, U64 0, I64 0, .slice none 0 0, .slice none 0 0, U64 0] ++ cu8 (zr8 16)) rfl rfl rfl B7 (by simp [(AN 16)]) (CK (by simp [Value.oneCell']) CF) (by simp [(AN 16)]) (A0 (by simp [(AN 16), (AN 16)])))) ?_
          show DP _ _ _ _ _ _ _ _ [_, ⟨nb2, [U64 0, U64 0, I64 0, .slice none 0 0, .slice none 0 0, U64 0] ++ cu8 (zr8 16), 38, (0, 0)⟩, _, _, _, _]
          refine B6 ⟨[2], [0, 1], [0], [1], [3]⟩ 3 rfl rfl (by decide +kernel) rfl ⟨⟨_, rfl, AI rfl (AM rfl (A5 AQ AK rfl (AT 0 rfl (AJ _))))⟩, trivial⟩ rfl (A7 rfl (AU 2 nb3 2 ([.slice none 0 0, I64 0]) 107 ([.slice ao12 zz12.length ca12, I64 2]) rfl rfl rfl AK rfl (by simp [Value.oneCell']) (Nat.le_of_ble_eq_true rfl) (A0 (by simp [])))) ?_
          show DP _ _ _ _ _ _ _ _ [_, _, ⟨nb3, [.slice ao12 zz12.length ca12, I64 2], 107, (0, 0)⟩, _, _, _]
          refine C2 ⟨[2, 3], [0, 1], [0, 1], [], []⟩ rfl rfl (by decide +kernel) rfl trivial ?_
          refine CB (F' := [(1, Ptr nb1 0), (2, Ptr nb2 0), (3, Ptr nb3 0), (4, Ptr nb4 0)]) (by kernel_rfl) ?_
          refine AC (BH (A4 (B5 [false, true, true, false, false, false] ?_)))
          show JQ _ _ _ _ [_, _]
          refine BI (.tuple #[.agg ([U64 0, U64 0, I64 0, .slice none 0 0, .slice none 0 0, U64 0] ++ cu8 (zr8 16)).toArray, .agg #[.slice ao12 zz12.length ca12, I64 2]]) (res2 Tryd.results58 (CQ rfl (A5 DJ B7 (by simp [(AN 16)]) (AT 0 rfl (AJ _)))) (CQ rfl (A5 AQ AK rfl (AT 1 rfl (AJ _))))) fun w1 hw1 => ?_
          refine ⟨_, [], rfl, .inr (.inr (.inr ⟨?_, ao12, zz12.length, ca12, rfl, rfl⟩)), hw1.sub (by simp) (by simp)⟩
          subst hm
          exact bad1 hk (fun e => by have := e.1; omega)
      ·
        obtain ⟨hbad, hA, hb7, hb8, hb9⟩ := hx
        show JQ _ _ _ [(1, Ptr nb1 0), (2, Ptr nb2 0), (3, Ptr nb3 0), (4, Ptr nb4 0)] [⟨nb1, [.slice ab zb.length cb, I64 2], 107, (0, 0)⟩, ⟨nb2, [U64 0, U64 0, I64 0, .slice none 0 0, .slice none 0 0, U64 0] ++ cu8 (zr8 16), 38, (0, 0)⟩, ⟨nb3, [.slice none 0 0, I64 0], 107, (0, 0)⟩, ⟨nb4, [U64 (vQ z0 0 8), U64 (vQ z0 8 8), I64 (((vQ z0 16 1).toNat:Int)), .slice a1 n1 c1, .slice a2 n2 c2, U64 0] ++ cu8 (zr8 16), 38, (0, 0)⟩]
        refine AC (AG (AB (AA (.agg #[.slice ab zb.length cb, I64 2]) (AM rfl (A5 AQ AK rfl (AT 0 rfl (AJ _)))) rfl ?_)))
        refine A2 (B3 126 [.agg #[.slice ab zb.length cb, I64 2], I64 16] _ (AZ _ D2 rfl) (fun w1 hw1 => rtakeB_w 16 ab zb.length cb zb w1 rfl (by omega) (by omega) (by omega) ((hA _ _ hr).at (M' := []) hw1 (by simp)))) rfl ?_
        rintro v1 L1 ⟨_, ⟨rfl, ax4, cx4, ao13, zz13, ca13, ⟨hA13, hb50, hb51, hb52⟩, rfl⟩, rfl⟩
        show JL _ _ _ _ ((121, .tuple #[.slice ax4 0 cx4, .agg #[.slice ao13 zz13.length ca13, I64 2]]) :: _) [_, _, _, _]
        refine AA _ (AE rfl) rfl ?_
        refine AA _ (BB rfl rfl) rfl ?_
        refine AA _ (BB rfl rfl) rfl ?_
        refine AA _ (AH rfl) rfl ?_
        refine AY (AU 0 nb1 2 ([.slice ab zb.length cb, I64 2]) 107 ([.slice ao13 zz13.length ca13, I64 2]) rfl rfl rfl AK rfl (by simp [Value.oneCell']) (Nat.le_of_ble_eq_true rfl) (A0 (by simp []))) rfl ?_
        show JL _ _ _ _ _ [⟨nb1, [.slice ao13 zz13.length ca13, I64 2], 107, (0, 0)⟩, _, _, _]
        refine AL (AC (AG (AB (AA (Ptr nb4 6) (AD 6 27 16 BK rfl BV rfl rfl) rfl ?_))))
        refine AA (Slc nb4 6 16 16) (CI 16 5 1 0 16 6 16 BX BC rfl rfl rfl (by omega) (by omega) (by omega) (by omega) (by omega) 16 (by omega)) rfl ?_
        refine AA _ (AE rfl) rfl ?_
        refine AY (DX 43 43 5 3 nb4 6 16 16 ([U64 (vQ z0 0 8), U64 (vQ z0 8 8), I64 (((vQ z0 16 1).toNat:Int)), .slice a1 n1 c1, .slice a2 n2 c2, U64 0] ++ cu8 (zr8 16)) 38 ax4 0 cx4 0 [] ([U64 (vQ z0 0 8), U64 (vQ z0 8 8), I64 (((vQ z0 16 1).toNat:Int)), .slice a1 n1 c1, .slice a2 n2 c2, U64 0] ++ cu8 (zr8 16)) AR C6 rfl rfl rfl rfl rfl SrcAt.nil (by simp [(AN 16)]) GE (GF _ _)) rfl ?_
        show JL _ _ _ _ ((127, I64 0) :: _) [_, _, _, _]
        refine AL (AC (AG (AG (AB (AA (Ptr nb1 1) (AD 1 3 1 BG rfl BA rfl rfl) rfl ?_)))))
        refine AA (I64 2) (AM rfl (A6 BS (AT 0 rfl (AO (Seg.head))))) rfl ?_
        refine AA (.bool (decide ((2:Int) = (0:Int)))) (AP rfl rfl fun _ => CA _ _) rfl ?_
        refine AA _ (AE rfl) rfl ?_
        refine AF 3 131 true _ rfl rfl (by decide) rfl ?_
        refine AF 3 131 true _ rfl rfl (by decide) rfl ?_
        refine AF 3 131 true _ rfl rfl (by decide) rfl ?_
        refine AA _ (BF _ rfl (by decide) rfl) rfl ?_
        refine AL (AC (BZ _ rfl rfl ?_))
        refine BL (AC (AG (AG (AB (AA (Ptr nb1 1) (AD 1 3 1 BG rfl BA rfl rfl) rfl ?_)))))
        refine AA (I64 2) (AM rfl (A6 BS (AT 0 rfl (AO (Seg.head))))) rfl ?_
        refine AA (.bool (decide ((2:Int) ≠ (0:Int)))) (AP rfl rfl fun _ => CE _ _) rfl ?_
        refine AL (AC (CM _ rfl (by decide) ?_))
        refine AG (CH 144 3 [(0, .agg ([U64 0, U64 0, I64 0, .slice none 0 0, .slice none 0 0, U64 0] ++ cu8 (zr8 16)).toArray), (1, .agg #[.slice ao13 zz13.length ca13, I64 2])] BP rfl (by decide +kernel) ?_)
        refine B6 ⟨[], [0, 1], [], [0, 1], [2]⟩ 2 rfl rfl (by decide +kernel) rfl ⟨⟨_, rfl, AI rfl (DG [] _ rfl (fun _ => by kernel_rfl))⟩, ⟨_, rfl, AI rfl (AM rfl (A5 AQ AK rfl (AT 0 rfl (AJ _))))⟩, trivial⟩ rfl (A7 rfl (AU 1 nb2 22 ([U64 0, U64 0, I64 0, .slice none 0 0, .slice none 0 0, U64 0] ++ cu8 (zr8 16)) 38 ([U64 0, U64 0, I64 0, .slice none 0 0, .slice none 0 0, U64 0] ++ cu8 (zr8 16)) rfl rfl rfl B7 (by simp [(AN 16)]) (CK (by simp [Value.oneCell']) CF) (by simp [(AN 16)]) (A0 (by simp [(AN 16), (AN 16)])))) ?_
        show DP _ _ _ _ _ _ _ _ [_, ⟨nb2, [U64 0, U64 0, I64 0, .slice none 0 0, .slice none 0 0, U64 0] ++ cu8 (zr8 16), 38, (0, 0)⟩, _, _]
        refine B6 ⟨[2], [0, 1], [0], [1], [3]⟩ 3 rfl rfl (by decide +kernel) rfl ⟨⟨_, rfl, AI rfl (AM rfl (A5 AQ AK rfl (AT 0 rfl (AJ _))))⟩, trivial⟩ rfl (A7 rfl (AU 2 nb3 2 ([.slice none 0 0, I64 0]) 107 ([.slice ao13 zz13.length ca13, I64 2]) rfl rfl rfl AK rfl (by simp [Value.oneCell']) (Nat.le_of_ble_eq_true rfl) (A0 (by simp [])))) ?_
        show DP _ _ _ _ _ _ _ _ [_, _, ⟨nb3, [.slice ao13 zz13.length ca13, I64 2], 107, (0, 0)⟩, _]
        refine C2 ⟨[2, 3], [0, 1], [0, 1], [], []⟩ rfl rfl (by decide +kernel) rfl trivial ?_
        refine CB (F' := [(1, Ptr nb1 0), (2, Ptr nb2 0), (3, Ptr nb3 0), (4, Ptr nb4 0)]) (by kernel_rfl) ?_
        refine AC (BH (A4 (B5 [false, true, true, false] ?_)))
        show JQ _ _ _ _ [_, _]
        refine BI (.tuple #[.agg ([U64 0, U64 0, I64 0, .slice none 0 0, .slice none 0 0, U64 0] ++ cu8 (zr8 16)).toArray, .agg #[.slice ao13 zz13.length ca13, I64 2]]) (res2 Tryd.results58 (CQ rfl (A5 DJ B7 (by simp [(AN 16)]) (AT 0 rfl (AJ _)))) (CQ rfl (A5 AQ AK rfl (AT 1 rfl (AJ _))))) fun w1 hw1 => ?_
        refine ⟨_, [], rfl, .inr (.inr (.inr ⟨?_, ao13, zz13.length, ca13, rfl, rfl⟩)), hw1.sub (by simp) (by simp)⟩
        exact hbad
end Go.Proofs.YtkdpdgpphpngeaaDoor
