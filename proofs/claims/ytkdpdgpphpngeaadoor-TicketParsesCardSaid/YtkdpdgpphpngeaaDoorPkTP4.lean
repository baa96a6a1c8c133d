import Derived.Test.YtkdpdgpphpngeaaDoorPkTP3
set_option linter.unusedVariables false
set_option linter.unusedSimpArgs false
set_option maxRecDepth 100000
namespace Go.Proofs.YtkdpdgpphpngeaaDoor
open Go Go.Sx
attribute [local irreducible] mid zr8 zr32 numK valK rvalK rotr wordL spreadL comprL cpN adN spN constL initL padL stN outN sumG putL RightB
theorem same13_c (pv ep : UInt64) (kd : Int) (ai : Option Addr) (ni ci : Nat) (l : List UInt64) (sa : Option Addr) (ns sc : Nat) (ls : List SealR) (bl : UInt64) (tg : List UInt8) (pv2 ep2 : UInt64) (kd2 : Int) (ai2 : Option Addr) (ni2 ci2 : Nat) (l2 : List UInt64) (sa2 : Option Addr) (ns2 sc2 : Nat) (ls2 : List SealR) (bl2 : UInt64) (tg2 : List UInt8)  (w : World) (hl : l.length = ni) (hnm : ni ≤ 2000000) (hnc : ni ≤ ci) (hcm : ci ≤ maxLen) (hv : RdV w ai (cu64 l)) (hls : ls.length = ns) (hnn : ns ≤ 2000000) (hnd : ns ≤ sc) (hcn : sc ≤ maxLen) (hs : RdV w sa (ls.flatMap sealC)) (htg : tg.length = 16) (hl2 : l2.length = ni2) (hnm2 : ni2 ≤ 2000000) (hnc2 : ni2 ≤ ci2) (hcm2 : ci2 ≤ maxLen) (hv2 : RdV w ai2 (cu64 l2)) (hls2 : ls2.length = ns2) (hnn2 : ns2 ≤ 2000000) (hnd2 : ns2 ≤ sc2) (hcn2 : sc2 ≤ maxLen) (hs2 : RdV w sa2 (ls2.flatMap sealC)) (htg2 : tg2.length = 16)  : Calls Tryd.prog 49 #[.agg ([U64 pv, U64 ep, I64 (kd), .slice ai ni ci, .slice sa ns sc, U64 bl] ++ cu8 tg).toArray, .agg ([U64 pv2, U64 ep2, I64 (kd2), .slice ai2 ni2 ci2, .slice sa2 ns2 sc2, U64 bl2] ++ cu8 tg2).toArray] w (Post w [] (fun v L => v = .bool (decide (pv = pv2 ∧ ep = ep2 ∧ tg = tg2 ∧ kd = kd2 ∧ bl = bl2 ∧ l = l2 ∧ ls = ls2)) ∧ L = [])) := by
 have hmx : maxLen = 9223372036854775807 := rfl
 refine enter (P := Tryd.prog) (f := 49) (fn := Tryd.f49) w [] 58 [] [.agg ([U64 pv, U64 ep, I64 (kd), .slice ai ni ci, .slice sa ns sc, U64 bl] ++ cu8 tg).toArray, .agg ([U64 pv2, U64 ep2, I64 (kd2), .slice ai2 ni2 ci2, .slice sa2 ns2 sc2, U64 bl2] ++ cu8 tg2).toArray] Tryd.func49 rfl rfl (by simp) (BY (by simp) (by simp) (by simp)) ?_
 show JC _ _ _ [(0, .agg ([U64 pv, U64 ep, I64 (kd), .slice ai ni ci, .slice sa ns sc, U64 bl] ++ cu8 tg).toArray), (1, .agg ([U64 pv2, U64 ep2, I64 (kd2), .slice ai2 ni2 ci2, .slice sa2 ns2 sc2, U64 bl2] ++ cu8 tg2).toArray)] _
 refine AG (AB (A2 (DN (.agg ([U64 pv, U64 ep, I64 (kd), .slice ai ni ci, .slice sa ns sc, U64 bl] ++ cu8 tg).toArray) ([U64 pv, U64 ep, I64 (kd), .slice ai ni ci, .slice sa ns sc, U64 bl] ++ cu8 tg) rfl (by first | rfl | simp)) rfl ?_))
 rintro v1 L1 ⟨nb1, hnb1, rfl, rfl⟩
 show JL _ _ _ _ ((2, Ptr nb1 0) :: _) [⟨nb1, [U64 pv, U64 ep, I64 (kd), .slice ai ni ci, .slice sa ns sc, U64 bl] ++ cu8 tg, 29, (0, 0)⟩]
 refine A2 (DN (.agg ([U64 pv2, U64 ep2, I64 (kd2), .slice ai2 ni2 ci2, .slice sa2 ns2 sc2, U64 bl2] ++ cu8 tg2).toArray) ([U64 pv2, U64 ep2, I64 (kd2), .slice ai2 ni2 ci2, .slice sa2 ns2 sc2, U64 bl2] ++ cu8 tg2) rfl (by first | rfl | simp)) rfl ?_
 rintro v1 L1 ⟨nb2, hnb2, rfl, rfl⟩
 show JL _ _ _ _ ((3, Ptr nb2 0) :: _) [_, ⟨nb2, [U64 pv2, U64 ep2, I64 (kd2), .slice ai2 ni2 ci2, .slice sa2 ns2 sc2, U64 bl2] ++ cu8 tg2, 29, (0, 0)⟩]
 refine AA _ (AH rfl) rfl ?_
 refine AL (AC (AG (CH 58 5 [(0, Ptr nb1 2), (1, .agg #[I64 (kd), .slice ai ni ci, .slice sa ns sc, U64 bl]), (2, Ptr nb2 2), (3, .agg #[I64 (kd2), .slice ai2 ni2 ci2, .slice sa2 ns2 sc2, U64 bl2])] BP rfl (by decide +kernel) ?_)))
 refine DP_two ⟨[], [0, 1, 2, 3], [], [0, 1, 2, 3], [4, 5]⟩ 4 5 _ _ rfl rfl (by decide +kernel) rfl ⟨⟨_, rfl, AI rfl (AD 2 26 4 AW rfl BM rfl rfl)⟩, ⟨_, rfl, AI rfl (AM rfl (A5 ED BM rfl (AT 0 rfl (E9 (p := [U64 pv, U64 ep]) (q := cu8 tg) (vs := [I64 (kd), .slice ai ni ci, .slice sa ns sc, U64 bl]) (by first | rfl | (simp only [List.append_assoc, List.nil_append, List.append_nil, List.cons_append]; done)) rfl))))⟩, ⟨_, rfl, AI rfl (AD 2 26 4 AW rfl BM rfl rfl)⟩, ⟨_, rfl, AI rfl (AM rfl (A5 ED BM rfl (AT 1 rfl (E9 (p := [U64 pv2, U64 ep2]) (q := cu8 tg2) (vs := [I64 (kd2), .slice ai2 ni2 ci2, .slice sa2 ns2 sc2, U64 bl2]) (by first | rfl | (simp only [List.append_assoc, List.nil_append, List.append_nil, List.cons_append]; done)) rfl))))⟩, trivial⟩ rfl rfl (A7 rfl (BN _ ([I64 0, .slice none 0 0, .slice none 0 0, U64 0]) Tryd.zeroValue26 (by kernel_rfl))) (A7 rfl (BN _ ([I64 0, .slice none 0 0, .slice none 0 0, U64 0]) Tryd.zeroValue26 (by kernel_rfl))) ?_ ?_
 ·
  rintro v1 L1 ⟨nb3, hnb3, rfl, rfl⟩
  refine ⟨[], ?_⟩
  show DP _ _ _ _ _ _ _ _ [_, _, ⟨nb3, [I64 0, .slice none 0 0, .slice none 0 0, U64 0], 26, (0, 0)⟩]
  refine C5 ⟨[4], [0, 1, 2, 3], [], [0, 1, 2, 3], [5]⟩ 5 _ rfl rfl (by decide +kernel) rfl ⟨⟨_, rfl, AI rfl (AD 2 26 4 AW rfl BM rfl rfl)⟩, ⟨_, rfl, AI rfl (AM rfl (A5 ED BM rfl (AT 0 rfl (E9 (p := [U64 pv, U64 ep]) (q := cu8 tg) (vs := [I64 (kd), .slice ai ni ci, .slice sa ns sc, U64 bl]) (by first | rfl | (simp only [List.append_assoc, List.nil_append, List.append_nil, List.cons_append]; done)) rfl))))⟩, ⟨_, rfl, AI rfl (AD 2 26 4 AW rfl BM rfl rfl)⟩, ⟨_, rfl, AI rfl (AM rfl (A5 ED BM rfl (AT 1 rfl (E9 (p := [U64 pv2, U64 ep2]) (q := cu8 tg2) (vs := [I64 (kd2), .slice ai2 ni2 ci2, .slice sa2 ns2 sc2, U64 bl2]) (by first | rfl | (simp only [List.append_assoc, List.nil_append, List.append_nil, List.cons_append]; done)) rfl))))⟩, trivial⟩ rfl (A7 rfl (BN _ ([I64 0, .slice none 0 0, .slice none 0 0, U64 0]) Tryd.zeroValue26 (by kernel_rfl))) ?_
  rintro v1 L1 ⟨nb5, hnb5, rfl, rfl⟩
  refine ⟨[], ?_⟩
  show DP _ _ _ _ _ _ _ _ [_, _, _, ⟨nb5, [I64 0, .slice none 0 0, .slice none 0 0, U64 0], 26, (0, 0)⟩]
  refine B6 ⟨[4, 5], [0, 1, 2, 3], [], [0, 1, 2, 3], [6]⟩ 6 rfl rfl (by decide +kernel) rfl ⟨⟨_, rfl, AI rfl (AD 2 26 4 AW rfl BM rfl rfl)⟩, ⟨_, rfl, AI rfl (AM rfl (A5 ED BM rfl (AT 0 rfl (E9 (p := [U64 pv, U64 ep]) (q := cu8 tg) (vs := [I64 (kd), .slice ai ni ci, .slice sa ns sc, U64 bl]) (by first | rfl | (simp only [List.append_assoc, List.nil_append, List.append_nil, List.cons_append]; done)) rfl))))⟩, ⟨_, rfl, AI rfl (AD 2 26 4 AW rfl BM rfl rfl)⟩, ⟨_, rfl, AI rfl (AM rfl (A5 ED BM rfl (AT 1 rfl (E9 (p := [U64 pv2, U64 ep2]) (q := cu8 tg2) (vs := [I64 (kd2), .slice ai2 ni2 ci2, .slice sa2 ns2 sc2, U64 bl2]) (by first | rfl | (simp only [List.append_assoc, List.nil_append, List.append_nil, List.cons_append]; done)) rfl))))⟩, trivial⟩ rfl (A7 rfl (AU 2 nb3 4 ([I64 0, .slice none 0 0, .slice none 0 0, U64 0]) 26 ([I64 (kd), .slice ai ni ci, .slice sa ns sc, U64 bl]) rfl rfl rfl BM rfl (by simp [Value.oneCell']) (Nat.le_of_ble_eq_true rfl) (A0 (by simp [])))) ?_
  show DP _ _ _ _ _ _ _ _ [_, _, ⟨nb3, [I64 (kd), .slice ai ni ci, .slice sa ns sc, U64 bl], 26, (0, 0)⟩, _]
  refine B6 ⟨[4, 5, 6], [0, 1, 2, 3], [0, 1], [2, 3], [7]⟩ 7 rfl rfl (by decide +kernel) rfl ⟨⟨_, rfl, AI rfl (AD 2 26 4 AW rfl BM rfl rfl)⟩, ⟨_, rfl, AI rfl (AM rfl (A5 ED BM rfl (AT 1 rfl (E9 (p := [U64 pv2, U64 ep2]) (q := cu8 tg2) (vs := [I64 (kd2), .slice ai2 ni2 ci2, .slice sa2 ns2 sc2, U64 bl2]) (by first | rfl | (simp only [List.append_assoc, List.nil_append, List.append_nil, List.cons_append]; done)) rfl))))⟩, trivial⟩ rfl (A7 rfl (AU 3 nb5 4 ([I64 0, .slice none 0 0, .slice none 0 0, U64 0]) 26 ([I64 (kd2), .slice ai2 ni2 ci2, .slice sa2 ns2 sc2, U64 bl2]) rfl rfl rfl BM rfl (by simp [Value.oneCell']) (Nat.le_of_ble_eq_true rfl) (A0 (by simp [])))) ?_
  show DP _ _ _ _ _ _ _ _ [_, _, _, ⟨nb5, [I64 (kd2), .slice ai2 ni2 ci2, .slice sa2 ns2 sc2, U64 bl2], 26, (0, 0)⟩]
  refine C2 ⟨[4, 5, 6, 7], [0, 1, 2, 3], [0, 1, 2, 3], [], []⟩ rfl rfl (by decide +kernel) rfl trivial ?_
  refine CB (F' := [(5, Ptr nb3 0), (6, Ptr nb5 0), (2, Ptr nb1 0), (3, Ptr nb2 0), (4, .bool false)]) (by kernel_rfl) ?_
  refine AC (AG (AB (AA (Ptr nb1 0) (AD 0 22 1 AW rfl A1 rfl rfl) rfl ?_)))
  refine AA (U64 pv) (AM rfl (A6 BD (AT 0 rfl (A8 (Seg.head))))) rfl ?_
  refine AA (Ptr nb2 0) (AD 0 22 1 AW rfl A1 rfl rfl) rfl ?_
  refine AA (U64 pv2) (AM rfl (A6 BD (AT 1 rfl (A8 (Seg.head))))) rfl ?_
  refine AA (.bool (decide (pv = pv2))) (AP rfl rfl fun _ => E6 pv pv2) rfl ?_
  refine AA _ (AE rfl) rfl ?_
  rcases Bool.eq_false_or_eq_true (decide (pv = pv2)) with hb1 | hb1
  ·
   have hp1 : pv = pv2 := of_decide_eq_true hb1
   refine AS 5 16 true _ (Ptr nb1 1) rfl rfl hb1 (AD 1 22 1 AW rfl A1 rfl rfl) rfl ?_
   refine AS 5 16 true _ (U64 ep) rfl rfl hb1 (AM rfl (A6 BD (AT 0 rfl (A8 (AO (Seg.head)))))) rfl ?_
   refine AS 5 16 true _ (Ptr nb2 1) rfl rfl hb1 (AD 1 22 1 AW rfl A1 rfl rfl) rfl ?_
   refine AS 5 16 true _ (U64 ep2) rfl rfl hb1 (AM rfl (A6 BD (AT 1 rfl (A8 (AO (Seg.head)))))) rfl ?_
   refine AS 5 16 true _ (.bool (decide (ep = ep2))) rfl rfl hb1 (AP rfl rfl fun _ => E6 ep ep2) rfl ?_
   refine AA _ (BO _ rfl hb1 rfl) rfl ?_
   refine AA _ (AE rfl) rfl ?_
   rcases Bool.eq_false_or_eq_true (decide (ep = ep2)) with hb2 | hb2
   ·
    have hp2 : ep = ep2 := of_decide_eq_true hb2
    refine AS 12 23 true _ (Ptr nb1 6) rfl rfl hb2 (AD 6 27 16 AW rfl BV rfl rfl) rfl ?_
    refine AS 12 23 true _ (.agg (cu8 tg).toArray) rfl rfl hb2 (AM rfl (A5 E2 BV (DY htg) (AT 0 rfl (Seg.right 6 0 rfl rfl (AJ _))))) rfl ?_
    refine AS 12 23 true _ (Ptr nb2 6) rfl rfl hb2 (AD 6 27 16 AW rfl BV rfl rfl) rfl ?_
    refine AS 12 23 true _ (.agg (cu8 tg2).toArray) rfl rfl hb2 (AM rfl (A5 E2 BV (DY htg2) (AT 1 rfl (Seg.right 6 0 rfl rfl (AJ _))))) rfl ?_
    refine AS 12 23 true _ (.bool (decide (tg = tg2))) rfl rfl hb2 (DT _ _ _ rfl rfl (fun _ => eqGuard_agg _ _ _ _ _ _ (by kernel_rfl)) fun _ => eql_arr8 BX CN EP GC Tryd.has5 (by simp [htg]) (by simp [htg2])) rfl ?_
    refine AA _ (BO _ rfl hb2 rfl) rfl ?_
    refine AA _ (AE rfl) rfl ?_
    rcases Bool.eq_false_or_eq_true (decide (tg = tg2)) with hb3 | hb3
    ·
     have hp3 : tg = tg2 := of_decide_eq_true hb3
     refine AS 19 30 true _ (Ptr nb3 0) rfl rfl hb3 (AD 0 3 1 AV rfl BA rfl rfl) rfl ?_
     refine AS 19 30 true _ (I64 (kd)) rfl rfl hb3 (AM rfl (A6 BS (AT 2 rfl (Seg.head)))) rfl ?_
     refine AS 19 30 true _ (Ptr nb5 0) rfl rfl hb3 (AD 0 3 1 AV rfl BA rfl rfl) rfl ?_
     refine AS 19 30 true _ (I64 (kd2)) rfl rfl hb3 (AM rfl (A6 BS (AT 3 rfl (Seg.head)))) rfl ?_
     refine AS 19 30 true _ (.bool (decide ((kd) = (kd2)))) rfl rfl hb3 (AP rfl rfl fun _ => CA _ _) rfl ?_
     refine AA _ (BO _ rfl hb3 rfl) rfl ?_
     refine AA _ (AE rfl) rfl ?_
     rcases Bool.eq_false_or_eq_true (decide ((kd) = (kd2))) with hb4 | hb4
     ·
      have hp4 : (kd) = (kd2) := of_decide_eq_true hb4
      refine AS 26 37 true _ (Ptr nb3 3) rfl rfl hb4 (AD 3 22 1 AV rfl A1 rfl rfl) rfl ?_
      refine AS 26 37 true _ (U64 bl) rfl rfl hb4 (AM rfl (A6 BD (AT 2 rfl (AO (AO (AO (Seg.head))))))) rfl ?_
      refine AS 26 37 true _ (Ptr nb5 3) rfl rfl hb4 (AD 3 22 1 AV rfl A1 rfl rfl) rfl ?_
      refine AS 26 37 true _ (U64 bl2) rfl rfl hb4 (AM rfl (A6 BD (AT 3 rfl (AO (AO (AO (Seg.head))))))) rfl ?_
      refine AS 26 37 true _ (.bool (decide (bl = bl2))) rfl rfl hb4 (AP rfl rfl fun _ => E6 bl bl2) rfl ?_
      refine AA _ (BO _ rfl hb4 rfl) rfl ?_
      refine AA _ (AE rfl) rfl ?_
      rcases Bool.eq_false_or_eq_true (decide (bl = bl2)) with hb5 | hb5
      ·
       have hp5 : bl = bl2 := of_decide_eq_true hb5
       refine AS 33 44 true _ (Ptr nb3 1) rfl rfl hb5 (AD 1 23 1 AV rfl B9 rfl rfl) rfl ?_
       refine AS 33 44 true _ (.slice ai ni ci) rfl rfl hb5 (AM rfl (A6 C1 (AT 2 rfl (AO (Seg.head))))) rfl ?_
       refine AS 33 44 true _ (Ptr nb5 1) rfl rfl hb5 (AD 1 23 1 AV rfl B9 rfl rfl) rfl ?_
       refine AS 33 44 true _ (.slice ai2 ni2 ci2) rfl rfl hb5 (AM rfl (A6 C1 (AT 3 rfl (AO (Seg.head))))) rfl ?_
       refine DZ 33 44 true _ rfl rfl hb5 (AX 115 [.slice ai ni ci, .slice ai2 ni2 ci2] (.bool (decide (l = l2))) (AZ _ Tryd.call115 rfl) (fun w1 hw1 => eq64_c ai ni ci l ai2 ni2 ci2 l2 w1 hl (by omega) (by omega) (by omega) (FM hw1 rfl hv) hl2 (by omega) (by omega) (by omega) (FM hw1 rfl hv2))) rfl ?_
       rintro v1 L1 ⟨rfl, rfl⟩
       show JL _ _ _ _ ((49, .bool (decide (l = l2))) :: _) [_, _, _, _]
       refine AA _ (BO _ rfl hb5 rfl) rfl ?_
       refine AA _ (AE rfl) rfl ?_
       rcases Bool.eq_false_or_eq_true (decide (l = l2)) with hb6 | hb6
       ·
        have hp6 : l = l2 := of_decide_eq_true hb6
        refine AS 40 51 true _ (Ptr nb3 2) rfl rfl hb6 (AD 2 24 1 AV rfl C8 rfl rfl) rfl ?_
        refine AS 40 51 true _ (.slice sa ns sc) rfl rfl hb6 (AM rfl (A6 DQ (AT 2 rfl (AO (AO (Seg.head)))))) rfl ?_
        refine AS 40 51 true _ (Ptr nb5 2) rfl rfl hb6 (AD 2 24 1 AV rfl C8 rfl rfl) rfl ?_
        refine AS 40 51 true _ (.slice sa2 ns2 sc2) rfl rfl hb6 (AM rfl (A6 DQ (AT 3 rfl (AO (AO (Seg.head)))))) rfl ?_
        refine DZ 40 51 true _ rfl rfl hb6 (AX 116 [.slice sa ns sc, .slice sa2 ns2 sc2] (.bool (decide (ls = ls2))) (AZ _ Tryd.call116 rfl) (fun w1 hw1 => eqS_c sa ns sc ls sa2 ns2 sc2 ls2 w1 hls (by omega) (by omega) (by omega) (FM hw1 rfl hs) hls2 (by omega) (by omega) (by omega) (FM hw1 rfl hs2))) rfl ?_
        rintro v1 L1 ⟨rfl, rfl⟩
        show JL _ _ _ _ ((56, .bool (decide (ls = ls2))) :: _) [_, _, _, _]
        refine AA _ (BO _ rfl hb6 rfl) rfl ?_
        refine AA _ (AH rfl) rfl ?_
        refine AL (AC (BH (B5 [false, false, false, false] ?_)))
        show JQ _ _ _ _ []
        refine BI (.bool (decide (ls = ls2))) (res1 EC (BU rfl)) fun w1 hw1 => ?_
        refine ⟨_, [], rfl, ⟨congrArg Value.bool ?_, rfl⟩, hw1.sub (by simp) (by simp)⟩
        first | (simp [*]; done) | (simp_all; done)
       ·
        have hp6 : ¬ (l = l2) := of_decide_eq_false hb6
        refine AF 40 51 true _ rfl rfl hb6 rfl ?_
        refine AF 40 51 true _ rfl rfl hb6 rfl ?_
        refine AF 40 51 true _ rfl rfl hb6 rfl ?_
        refine AF 40 51 true _ rfl rfl hb6 rfl ?_
        refine AF 40 51 true _ rfl rfl hb6 rfl ?_
        refine AA _ (BF _ rfl hb6 rfl) rfl ?_
        refine AA _ (AH rfl) rfl ?_
        refine AL (AC (BH (B5 [false, false, false, false] ?_)))
        show JQ _ _ _ _ []
        refine BI (.bool false) (res1 EC (BU rfl)) fun w1 hw1 => ?_
        refine ⟨_, [], rfl, ⟨congrArg Value.bool ?_, rfl⟩, hw1.sub (by simp) (by simp)⟩
        first | (simp [*]; done) | (simp_all; done)
      ·
       have hp5 : ¬ (bl = bl2) := of_decide_eq_false hb5
       refine AF 33 44 true _ rfl rfl hb5 rfl ?_
       refine AF 33 44 true _ rfl rfl hb5 rfl ?_
       refine AF 33 44 true _ rfl rfl hb5 rfl ?_
       refine AF 33 44 true _ rfl rfl hb5 rfl ?_
       refine AF 33 44 true _ rfl rfl hb5 rfl ?_
       refine AA _ (BF _ rfl hb5 rfl) rfl ?_
       refine AA _ (AE rfl) rfl ?_
       refine AF 40 51 true _ rfl rfl rfl rfl ?_
       refine AF 40 51 true _ rfl rfl rfl rfl ?_
       refine AF 40 51 true _ rfl rfl rfl rfl ?_
       refine AF 40 51 true _ rfl rfl rfl rfl ?_
       refine AF 40 51 true _ rfl rfl rfl rfl ?_
       refine AA _ (BF _ rfl rfl rfl) rfl ?_
       refine AA _ (AH rfl) rfl ?_
       refine AL (AC (BH (B5 [false, false, false, false] ?_)))
       show JQ _ _ _ _ []
       refine BI (.bool false) (res1 EC (BU rfl)) fun w1 hw1 => ?_
       refine ⟨_, [], rfl, ⟨congrArg Value.bool ?_, rfl⟩, hw1.sub (by simp) (by simp)⟩
       first | (simp [*]; done) | (simp_all; done)
     ·
      have hp4 : ¬ ((kd) = (kd2)) := of_decide_eq_false hb4
      refine AF 26 37 true _ rfl rfl hb4 rfl ?_
      refine AF 26 37 true _ rfl rfl hb4 rfl ?_
      refine AF 26 37 true _ rfl rfl hb4 rfl ?_
      refine AF 26 37 true _ rfl rfl hb4 rfl ?_
      refine AF 26 37 true _ rfl rfl hb4 rfl ?_
      refine AA _ (BF _ rfl hb4 rfl) rfl ?_
      refine AA _ (AE rfl) rfl ?_
      refine AF 33 44 true _ rfl rfl rfl rfl ?_
      refine AF 33 44 true _ rfl rfl rfl rfl ?_
      refine AF 33 44 true _ rfl rfl rfl rfl ?_
      refine AF 33 44 true _ rfl rfl rfl rfl ?_
      refine AF 33 44 true _ rfl rfl rfl rfl ?_
      refine AA _ (BF _ rfl rfl rfl) rfl ?_
      refine AA _ (AE rfl) rfl ?_
      refine AF 40 51 true _ rfl rfl rfl rfl ?_
      refine AF 40 51 true _ rfl rfl rfl rfl ?_
      refine AF 40 51 true _ rfl rfl rfl rfl ?_
      refine AF 40 51 true _ rfl rfl rfl rfl ?_
      refine AF 40 51 true _ rfl rfl rfl rfl ?_
      refine AA _ (BF _ rfl rfl rfl) rfl ?_
      refine AA _ (AH rfl) rfl ?_
      refine AL (AC (BH (B5 [false, false, false, false] ?_)))
      show JQ _ _ _ _ []
      refine BI (.bool false) (res1 EC (BU rfl)) fun w1 hw1 => ?_
      refine ⟨_, [], rfl, ⟨congrArg Value.bool ?_, rfl⟩, hw1.sub (by simp) (by simp)⟩
      first | (simp [*]; done) | (simp_all; done)
    ·
     have hp3 : ¬ (tg = tg2) := of_decide_eq_false hb3
     refine AF 19 30 true _ rfl rfl hb3 rfl ?_
     refine AF 19 30 true _ rfl rfl hb3 rfl ?_
     refine AF 19 30 true _ rfl rfl hb3 rfl ?_
     refine AF 19 30 true _ rfl rfl hb3 rfl ?_
     refine AF 19 30 true _ rfl rfl hb3 rfl ?_
     refine AA _ (BF _ rfl hb3 rfl) rfl ?_
     refine AA _ (AE rfl) rfl ?_
     refine AF 26 37 true _ rfl rfl rfl rfl ?_
     refine AF 26 37 true _ rfl rfl rfl rfl ?_
     refine AF 26 37 true _ rfl rfl rfl rfl ?_
     refine AF 26 37 true _ rfl rfl rfl rfl ?_
     refine AF 26 37 true _ rfl rfl rfl rfl ?_
     refine AA _ (BF _ rfl rfl rfl) rfl ?_
     refine AA _ (AE rfl) rfl ?_
     refine AF 33 44 true _ rfl rfl rfl rfl ?_
     refine AF 33 44 true _ rfl rfl rfl rfl ?_
     refine AF 33 44 true _ rfl rfl rfl rfl ?_
     refine AF 33 44 true _ rfl rfl rfl rfl ?_
     refine AF 33 44 true _ rfl rfl rfl rfl ?_
     refine AA _ (BF _ rfl rfl rfl) rfl ?_
     refine AA _ (AE rfl) rfl ?_
     refine AF 40 51 true _ rfl rfl rfl rfl ?_
     refine AF 40 51 true _ rfl rfl rfl rfl ?_
     refine AF 40 51 true _ rfl rfl rfl rfl ?_
     refine AF 40 51 true _ rfl rfl rfl rfl ?_
     refine AF 40 51 true _ rfl rfl rfl rfl ?_
     refine AA _ (BF _ rfl rfl rfl) rfl ?_
     refine AA _ (AH rfl) rfl ?_
     refine AL (AC (BH (B5 [false, false, false, false] ?_)))
     show JQ _ _ _ _ []
     refine BI (.bool false) (res1 EC (BU rfl)) fun w1 hw1 => ?_
     refine ⟨_, [], rfl, ⟨congrArg Value.bool ?_, rfl⟩, hw1.sub (by simp) (by simp)⟩
     first | (simp [*]; done) | (simp_all; done)
   ·
    have hp2 : ¬ (ep = ep2) := of_decide_eq_false hb2
    refine AF 12 23 true _ rfl rfl hb2 rfl ?_
    refine AF 12 23 true _ rfl rfl hb2 rfl ?_
    refine AF 12 23 true _ rfl rfl hb2 rfl ?_
    refine AF 12 23 true _ rfl rfl hb2 rfl ?_
    refine AF 12 23 true _ rfl rfl hb2 rfl ?_
    refine AA _ (BF _ rfl hb2 rfl) rfl ?_
    refine AA _ (AE rfl) rfl ?_
    refine AF 19 30 true _ rfl rfl rfl rfl ?_
    refine AF 19 30 true _ rfl rfl rfl rfl ?_
    refine AF 19 30 true _ rfl rfl rfl rfl ?_
    refine AF 19 30 true _ rfl rfl rfl rfl ?_
    refine AF 19 30 true _ rfl rfl rfl rfl ?_
    refine AA _ (BF _ rfl rfl rfl) rfl ?_
    refine AA _ (AE rfl) rfl ?_
    refine AF 26 37 true _ rfl rfl rfl rfl ?_
    refine AF 26 37 true _ rfl rfl rfl rfl ?_
    refine AF 26 37 true _ rfl rfl rfl rfl ?_
    refine AF 26 37 true _ rfl rfl rfl rfl ?_
    refine AF 26 37 true _ rfl rfl rfl rfl ?_
    refine AA _ (BF _ rfl rfl rfl) rfl ?_
    refine AA _ (AE rfl) rfl ?_
    refine AF 33 44 true _ rfl rfl rfl rfl ?_
    refine AF 33 44 true _ rfl rfl rfl rfl ?_
    refine AF 33 44 true _ rfl rfl rfl rfl ?_
    refine AF 33 44 true _ rfl rfl rfl rfl ?_
    refine AF 33 44 true _ rfl rfl rfl rfl ?_
    refine AA _ (BF _ rfl rfl rfl) rfl ?_
    refine AA _ (AE rfl) rfl ?_
    refine AF 40 51 true _ rfl rfl rfl rfl ?_
    refine AF 40 51 true _ rfl rfl rfl rfl ?_
    refine AF 40 51 true _ rfl rfl rfl rfl ?_
    refine AF 40 51 true _ rfl rfl rfl rfl ?_
    refine AF 40 51 true _ rfl rfl rfl rfl ?_
    refine AA _ (BF _ rfl rfl rfl) rfl ?_
    refine AA _ (AH rfl) rfl ?_
    refine AL (AC (BH (B5 [false, false, false, false] ?_)))
    show JQ _ _ _ _ []
    refine BI (.bool false) (res1 EC (BU rfl)) fun w1 hw1 => ?_
    refine ⟨_, [], rfl, ⟨congrArg Value.bool ?_, rfl⟩, hw1.sub (by simp) (by simp)⟩
    first | (simp [*]; done) | (simp_all; done)
  ·
   have hp1 : ¬ (pv = pv2) := of_decide_eq_false hb1
   refine AF 5 16 true _ rfl rfl hb1 rfl ?_
   refine AF 5 16 true _ rfl rfl hb1 rfl ?_
   refine AF 5 16 true _ rfl rfl hb1 rfl ?_
   refine AF 5 16 true _ rfl rfl hb1 rfl ?_
   refine AF 5 16 true _ rfl rfl hb1 rfl ?_
   refine AA _ (BF _ rfl hb1 rfl) rfl ?_
   refine AA _ (AE rfl) rfl ?_
   refine AF 12 23 true _ rfl rfl rfl rfl ?_
   refine AF 12 23 true _ rfl rfl rfl rfl ?_
   refine AF 12 23 true _ rfl rfl rfl rfl ?_
   refine AF 12 23 true _ rfl rfl rfl rfl ?_
   refine AF 12 23 true _ rfl rfl rfl rfl ?_
   refine AA _ (BF _ rfl rfl rfl) rfl ?_
   refine AA _ (AE rfl) rfl ?_
   refine AF 19 30 true _ rfl rfl rfl rfl ?_
   refine AF 19 30 true _ rfl rfl rfl rfl ?_
   refine AF 19 30 true _ rfl rfl rfl rfl ?_
   refine AF 19 30 true _ rfl rfl rfl rfl ?_
   refine AF 19 30 true _ rfl rfl rfl rfl ?_
   refine AA _ (BF _ rfl rfl rfl) rfl ?_
   refine AA _ (AE rfl) rfl ?_
   refine AF 26 37 true _ rfl rfl rfl rfl ?_
   refine AF 26 37 true _ rfl rfl rfl rfl ?_
   refine AF 26 37 true _ rfl rfl rfl rfl ?_
   refine AF 26 37 true _ rfl rfl rfl rfl ?_
   refine AF 26 37 true _ rfl rfl rfl rfl ?_
   refine AA _ (BF _ rfl rfl rfl) rfl ?_
   refine AA _ (AE rfl) rfl ?_
   refine AF 33 44 true _ rfl rfl rfl rfl ?_
   refine AF 33 44 true _ rfl rfl rfl rfl ?_
   refine AF 33 44 true _ rfl rfl rfl rfl ?_
   refine AF 33 44 true _ rfl rfl rfl rfl ?_
   refine AF 33 44 true _ rfl rfl rfl rfl ?_
   refine AA _ (BF _ rfl rfl rfl) rfl ?_
   refine AA _ (AE rfl) rfl ?_
   refine AF 40 51 true _ rfl rfl rfl rfl ?_
   refine AF 40 51 true _ rfl rfl rfl rfl ?_
   refine AF 40 51 true _ rfl rfl rfl rfl ?_
   refine AF 40 51 true _ rfl rfl rfl rfl ?_
   refine AF 40 51 true _ rfl rfl rfl rfl ?_
   refine AA _ (BF _ rfl rfl rfl) rfl ?_
   refine AA _ (AH rfl) rfl ?_
   refine AL (AC (BH (B5 [false, false, false, false] ?_)))
   show JQ _ _ _ _ []
   refine BI (.bool false) (res1 EC (BU rfl)) fun w1 hw1 => ?_
   refine ⟨_, [], rfl, ⟨congrArg Value.bool ?_, rfl⟩, hw1.sub (by simp) (by simp)⟩
   first | (simp [*]; done) | (simp_all; done)
 ·
  rintro v1 L1 ⟨nb4, hnb4, rfl, rfl⟩
  refine ⟨[], ?_⟩
  show DP _ _ _ _ _ _ _ _ [_, _, ⟨nb4, [I64 0, .slice none 0 0, .slice none 0 0, U64 0], 26, (0, 0)⟩]
  refine C5 ⟨[5], [0, 1, 2, 3], [], [0, 1, 2, 3], [4]⟩ 4 _ rfl rfl (by decide +kernel) rfl ⟨⟨_, rfl, AI rfl (AD 2 26 4 AW rfl BM rfl rfl)⟩, ⟨_, rfl, AI rfl (AM rfl (A5 ED BM rfl (AT 0 rfl (E9 (p := [U64 pv, U64 ep]) (q := cu8 tg) (vs := [I64 (kd), .slice ai ni ci, .slice sa ns sc, U64 bl]) (by first | rfl | (simp only [List.append_assoc, List.nil_append, List.append_nil, List.cons_append]; done)) rfl))))⟩, ⟨_, rfl, AI rfl (AD 2 26 4 AW rfl BM rfl rfl)⟩, ⟨_, rfl, AI rfl (AM rfl (A5 ED BM rfl (AT 1 rfl (E9 (p := [U64 pv2, U64 ep2]) (q := cu8 tg2) (vs := [I64 (kd2), .slice ai2 ni2 ci2, .slice sa2 ns2 sc2, U64 bl2]) (by first | rfl | (simp only [List.append_assoc, List.nil_append, List.append_nil, List.cons_append]; done)) rfl))))⟩, trivial⟩ rfl (A7 rfl (BN _ ([I64 0, .slice none 0 0, .slice none 0 0, U64 0]) Tryd.zeroValue26 (by kernel_rfl))) ?_
  rintro v1 L1 ⟨nb6, hnb6, rfl, rfl⟩
  refine ⟨[], ?_⟩
  show DP _ _ _ _ _ _ _ _ [_, _, _, ⟨nb6, [I64 0, .slice none 0 0, .slice none 0 0, U64 0], 26, (0, 0)⟩]
  refine B6 ⟨[5, 4], [0, 1, 2, 3], [], [0, 1, 2, 3], [6]⟩ 6 rfl rfl (by decide +kernel) rfl ⟨⟨_, rfl, AI rfl (AD 2 26 4 AW rfl BM rfl rfl)⟩, ⟨_, rfl, AI rfl (AM rfl (A5 ED BM rfl (AT 0 rfl (E9 (p := [U64 pv, U64 ep]) (q := cu8 tg) (vs := [I64 (kd), .slice ai ni ci, .slice sa ns sc, U64 bl]) (by first | rfl | (simp only [List.append_assoc, List.nil_append, List.append_nil, List.cons_append]; done)) rfl))))⟩, ⟨_, rfl, AI rfl (AD 2 26 4 AW rfl BM rfl rfl)⟩, ⟨_, rfl, AI rfl (AM rfl (A5 ED BM rfl (AT 1 rfl (E9 (p := [U64 pv2, U64 ep2]) (q := cu8 tg2) (vs := [I64 (kd2), .slice ai2 ni2 ci2, .slice sa2 ns2 sc2, U64 bl2]) (by first | rfl | (simp only [List.append_assoc, List.nil_append, List.append_nil, List.cons_append]; done)) rfl))))⟩, trivial⟩ rfl (A7 rfl (AU 3 nb6 4 ([I64 0, .slice none 0 0, .slice none 0 0, U64 0]) 26 ([I64 (kd), .slice ai ni ci, .slice sa ns sc, U64 bl]) rfl rfl rfl BM rfl (by simp [Value.oneCell']) (Nat.le_of_ble_eq_true rfl) (A0 (by simp [])))) ?_
  show DP _ _ _ _ _ _ _ _ [_, _, _, ⟨nb6, [I64 (kd), .slice ai ni ci, .slice sa ns sc, U64 bl], 26, (0, 0)⟩]
  refine B6 ⟨[5, 4, 6], [0, 1, 2, 3], [0, 1], [2, 3], [7]⟩ 7 rfl rfl (by decide +kernel) rfl ⟨⟨_, rfl, AI rfl (AD 2 26 4 AW rfl BM rfl rfl)⟩, ⟨_, rfl, AI rfl (AM rfl (A5 ED BM rfl (AT 1 rfl (E9 (p := [U64 pv2, U64 ep2]) (q := cu8 tg2) (vs := [I64 (kd2), .slice ai2 ni2 ci2, .slice sa2 ns2 sc2, U64 bl2]) (by first | rfl | (simp only [List.append_assoc, List.nil_append, List.append_nil, List.cons_append]; done)) rfl))))⟩, trivial⟩ rfl (A7 rfl (AU 2 nb4 4 ([I64 0, .slice none 0 0, .slice none 0 0, U64 0]) 26 ([I64 (kd2), .slice ai2 ni2 ci2, .slice sa2 ns2 sc2, U64 bl2]) rfl rfl rfl BM rfl (by simp [Value.oneCell']) (Nat.le_of_ble_eq_true rfl) (A0 (by simp [])))) ?_
  show DP _ _ _ _ _ _ _ _ [_, _, ⟨nb4, [I64 (kd2), .slice ai2 ni2 ci2, .slice sa2 ns2 sc2, U64 bl2], 26, (0, 0)⟩, _]
  refine C2 ⟨[5, 4, 6, 7], [0, 1, 2, 3], [0, 1, 2, 3], [], []⟩ rfl rfl (by decide +kernel) rfl trivial ?_
  refine CB (F' := [(5, Ptr nb6 0), (6, Ptr nb4 0), (2, Ptr nb1 0), (3, Ptr nb2 0), (4, .bool false)]) (by kernel_rfl) ?_
  refine AC (AG (AB (AA (Ptr nb1 0) (AD 0 22 1 AW rfl A1 rfl rfl) rfl ?_)))
  refine AA (U64 pv) (AM rfl (A6 BD (AT 0 rfl (A8 (Seg.head))))) rfl ?_
  refine AA (Ptr nb2 0) (AD 0 22 1 AW rfl A1 rfl rfl) rfl ?_
  refine AA (U64 pv2) (AM rfl (A6 BD (AT 1 rfl (A8 (Seg.head))))) rfl ?_
  refine AA (.bool (decide (pv = pv2))) (AP rfl rfl fun _ => E6 pv pv2) rfl ?_
  refine AA _ (AE rfl) rfl ?_
  rcases Bool.eq_false_or_eq_true (decide (pv = pv2)) with hb7 | hb7
  ·
   have hp7 : pv = pv2 := of_decide_eq_true hb7
   refine AS 5 16 true _ (Ptr nb1 1) rfl rfl hb7 (AD 1 22 1 AW rfl A1 rfl rfl) rfl ?_
   refine AS 5 16 true _ (U64 ep) rfl rfl hb7 (AM rfl (A6 BD (AT 0 rfl (A8 (AO (Seg.head)))))) rfl ?_
   refine AS 5 16 true _ (Ptr nb2 1) rfl rfl hb7 (AD 1 22 1 AW rfl A1 rfl rfl) rfl ?_
   refine AS 5 16 true _ (U64 ep2) rfl rfl hb7 (AM rfl (A6 BD (AT 1 rfl (A8 (AO (Seg.head)))))) rfl ?_
   refine AS 5 16 true _ (.bool (decide (ep = ep2))) rfl rfl hb7 (AP rfl rfl fun _ => E6 ep ep2) rfl ?_
   refine AA _ (BO _ rfl hb7 rfl) rfl ?_
   refine AA _ (AE rfl) rfl ?_
   rcases Bool.eq_false_or_eq_true (decide (ep = ep2)) with hb8 | hb8
   ·
    have hp8 : ep = ep2 := of_decide_eq_true hb8
    refine AS 12 23 true _ (Ptr nb1 6) rfl rfl hb8 (AD 6 27 16 AW rfl BV rfl rfl) rfl ?_
    refine AS 12 23 true _ (.agg (cu8 tg).toArray) rfl rfl hb8 (AM rfl (A5 E2 BV (DY htg) (AT 0 rfl (Seg.right 6 0 rfl rfl (AJ _))))) rfl ?_
    refine AS 12 23 true _ (Ptr nb2 6) rfl rfl hb8 (AD 6 27 16 AW rfl BV rfl rfl) rfl ?_
    refine AS 12 23 true _ (.agg (cu8 tg2).toArray) rfl rfl hb8 (AM rfl (A5 E2 BV (DY htg2) (AT 1 rfl (Seg.right 6 0 rfl rfl (AJ _))))) rfl ?_
    refine AS 12 23 true _ (.bool (decide (tg = tg2))) rfl rfl hb8 (DT _ _ _ rfl rfl (fun _ => eqGuard_agg _ _ _ _ _ _ (by kernel_rfl)) fun _ => eql_arr8 BX CN EP GC Tryd.has5 (by simp [htg]) (by simp [htg2])) rfl ?_
    refine AA _ (BO _ rfl hb8 rfl) rfl ?_
    refine AA _ (AE rfl) rfl ?_
    rcases Bool.eq_false_or_eq_true (decide (tg = tg2)) with hb9 | hb9
    ·
     have hp9 : tg = tg2 := of_decide_eq_true hb9
     refine AS 19 30 true _ (Ptr nb6 0) rfl rfl hb9 (AD 0 3 1 AV rfl BA rfl rfl) rfl ?_
     refine AS 19 30 true _ (I64 (kd)) rfl rfl hb9 (AM rfl (A6 BS (AT 3 rfl (Seg.head)))) rfl ?_
     refine AS 19 30 true _ (Ptr nb4 0) rfl rfl hb9 (AD 0 3 1 AV rfl BA rfl rfl) rfl ?_
     refine AS 19 30 true _ (I64 (kd2)) rfl rfl hb9 (AM rfl (A6 BS (AT 2 rfl (Seg.head)))) rfl ?_
     refine AS 19 30 true _ (.bool (decide ((kd) = (kd2)))) rfl rfl hb9 (AP rfl rfl fun _ => CA _ _) rfl ?_
     refine AA _ (BO _ rfl hb9 rfl) rfl ?_
     refine AA _ (AE rfl) rfl ?_
     rcases Bool.eq_false_or_eq_true (decide ((kd) = (kd2))) with hb10 | hb10
     ·
      have hp10 : (kd) = (kd2) := of_decide_eq_true hb10
      refine AS 26 37 true _ (Ptr nb6 3) rfl rfl hb10 (AD 3 22 1 AV rfl A1 rfl rfl) rfl ?_
      refine AS 26 37 true _ (U64 bl) rfl rfl hb10 (AM rfl (A6 BD (AT 3 rfl (AO (AO (AO (Seg.head))))))) rfl ?_
      refine AS 26 37 true _ (Ptr nb4 3) rfl rfl hb10 (AD 3 22 1 AV rfl A1 rfl rfl) rfl ?_
      refine AS 26 37 true _ (U64 bl2) rfl rfl hb10 (AM rfl (A6 BD (AT 2 rfl (AO (AO (AO (Seg.head))))))) rfl ?_
      refine AS 26 37 true _ (.bool (decide (bl = bl2))) rfl rfl hb10 (AP rfl rfl fun _ => E6 bl bl2) rfl ?_
      refine AA _ (BO _ rfl hb10 rfl) rfl ?_
      refine AA _ (AE rfl) rfl ?_
      rcases Bool.eq_false_or_eq_true (decide (bl = bl2)) with hb11 | hb11
      ·
       have hp11 : bl = bl2 := of_decide_eq_true hb11
       refine AS 33 44 true _ (Ptr nb6 1) rfl rfl hb11 (AD 1 23 1 AV rfl B9 rfl rfl) rfl ?_
       refine AS 33 44 true _ (.slice ai ni ci) rfl rfl hb11 (AM rfl (A6 C1 (AT 3 rfl (AO (Seg.head))))) rfl ?_
       refine AS 33 44 true _ (Ptr nb4 1) rfl rfl hb11 (AD 1 23 1 AV rfl B9 rfl rfl) rfl ?_
       refine AS 33 44 true _ (.slice ai2 ni2 ci2) rfl rfl hb11 (AM rfl (A6 C1 (AT 2 rfl (AO (Seg.head))))) rfl ?_
       refine DZ 33 44 true _ rfl rfl hb11 (AX 115 [.slice ai ni ci, .slice ai2 ni2 ci2] (.bool (decide (l = l2))) (AZ _ Tryd.call115 rfl) (fun w1 hw1 => eq64_c ai ni ci l ai2 ni2 ci2 l2 w1 hl (by omega) (by omega) (by omega) (FM hw1 rfl hv) hl2 (by omega) (by omega) (by omega) (FM hw1 rfl hv2))) rfl ?_
       rintro v1 L1 ⟨rfl, rfl⟩
       show JL _ _ _ _ ((49, .bool (decide (l = l2))) :: _) [_, _, _, _]
       refine AA _ (BO _ rfl hb11 rfl) rfl ?_
       refine AA _ (AE rfl) rfl ?_
       rcases Bool.eq_false_or_eq_true (decide (l = l2)) with hb12 | hb12
       ·
        have hp12 : l = l2 := of_decide_eq_true hb12
        refine AS 40 51 true _ (Ptr nb6 2) rfl rfl hb12 (AD 2 24 1 AV rfl C8 rfl rfl) rfl ?_
        refine AS 40 51 true _ (.slice sa ns sc) rfl rfl hb12 (AM rfl (A6 DQ (AT 3 rfl (AO (AO (Seg.head)))))) rfl ?_
        refine AS 40 51 true _ (Ptr nb4 2) rfl rfl hb12 (AD 2 24 1 AV rfl C8 rfl rfl) rfl ?_
        refine AS 40 51 true _ (.slice sa2 ns2 sc2) rfl rfl hb12 (AM rfl (A6 DQ (AT 2 rfl (AO (AO (Seg.head)))))) rfl ?_
        refine DZ 40 51 true _ rfl rfl hb12 (AX 116 [.slice sa ns sc, .slice sa2 ns2 sc2] (.bool (decide (ls = ls2))) (AZ _ Tryd.call116 rfl) (fun w1 hw1 => eqS_c sa ns sc ls sa2 ns2 sc2 ls2 w1 hls (by omega) (by omega) (by omega) (FM hw1 rfl hs) hls2 (by omega) (by omega) (by omega) (FM hw1 rfl hs2))) rfl ?_
        rintro v1 L1 ⟨rfl, rfl⟩
        show JL _ _ _ _ ((56, .bool (decide (ls = ls2))) :: _) [_, _, _, _]
        refine AA _ (BO _ rfl hb12 rfl) rfl ?_
        refine AA _ (AH rfl) rfl ?_
        refine AL (AC (BH (B5 [false, false, false, false] ?_)))
        show JQ _ _ _ _ []
        refine BI (.bool (decide (ls = ls2))) (res1 EC (BU rfl)) fun w1 hw1 => ?_
        refine ⟨_, [], rfl, ⟨congrArg Value.bool ?_, rfl⟩, hw1.sub (by simp) (by simp)⟩
        first | (simp [*]; done) | (simp_all; done)
       ·
        have hp12 : ¬ (l = l2) := of_decide_eq_false hb12
        refine AF 40 51 true _ rfl rfl hb12 rfl ?_
        refine AF 40 51 true _ rfl rfl hb12 rfl ?_
        refine AF 40 51 true _ rfl rfl hb12 rfl ?_
        refine AF 40 51 true _ rfl rfl hb12 rfl ?_
        refine AF 40 51 true _ rfl rfl hb12 rfl ?_
        refine AA _ (BF _ rfl hb12 rfl) rfl ?_
        refine AA _ (AH rfl) rfl ?_
        refine AL (AC (BH (B5 [false, false, false, false] ?_)))
        show JQ _ _ _ _ []
        refine BI (.bool false) (res1 EC (BU rfl)) fun w1 hw1 => ?_
        refine ⟨_, [], rfl, ⟨congrArg Value.bool ?_, rfl⟩, hw1.sub (by simp) (by simp)⟩
        first | (simp [*]; done) | (simp_all; done)
      ·
       have hp11 : ¬ (bl = bl2) := of_decide_eq_false hb11
       refine AF 33 44 true _ rfl rfl hb11 rfl ?_
       refine AF 33 44 true _ rfl rfl hb11 rfl ?_
       refine AF 33 44 true _ rfl rfl hb11 rfl ?_
       refine AF 33 44 true _ rfl rfl hb11 rfl ?_
       refine AF 33 44 true _ rfl rfl hb11 rfl ?_
       refine AA _ (BF _ rfl hb11 rfl) rfl ?_
       refine AA _ (AE rfl) rfl ?_
       refine AF 40 51 true _ rfl rfl rfl rfl ?_
       refine AF 40 51 true _ rfl rfl rfl rfl ?_
       refine AF 40 51 true _ rfl rfl rfl rfl ?_
       refine AF 40 51 true _ rfl rfl rfl rfl ?_
       refine AF 40 51 true _ rfl rfl rfl rfl ?_
       refine AA _ (BF _ rfl rfl rfl) rfl ?_
       refine AA _ (AH rfl) rfl ?_
       refine AL (AC (BH (B5 [false, false, false, false] ?_)))
       show JQ _ _ _ _ []
       refine BI (.bool false) (res1 EC (BU rfl)) fun w1 hw1 => ?_
       refine ⟨_, [], rfl, ⟨congrArg Value.bool ?_, rfl⟩, hw1.sub (by simp) (by simp)⟩
       first | (simp [*]; done) | (simp_all; done)
     ·
      have hp10 : ¬ ((kd) = (kd2)) := of_decide_eq_false hb10
      refine AF 26 37 true _ rfl rfl hb10 rfl ?_
      refine AF 26 37 true _ rfl rfl hb10 rfl ?_
      refine AF 26 37 true _ rfl rfl hb10 rfl ?_
      refine AF 26 37 true _ rfl rfl hb10 rfl ?_
      refine AF 26 37 true _ rfl rfl hb10 rfl ?_
      refine AA _ (BF _ rfl hb10 rfl) rfl ?_
      refine AA _ (AE rfl) rfl ?_
      refine AF 33 44 true _ rfl rfl rfl rfl ?_
      refine AF 33 44 true _ rfl rfl rfl rfl ?_
      refine AF 33 44 true _ rfl rfl rfl rfl ?_
      refine AF 33 44 true _ rfl rfl rfl rfl ?_
      refine AF 33 44 true _ rfl rfl rfl rfl ?_
      refine AA _ (BF _ rfl rfl rfl) rfl ?_
      refine AA _ (AE rfl) rfl ?_
      refine AF 40 51 true _ rfl rfl rfl rfl ?_
      refine AF 40 51 true _ rfl rfl rfl rfl ?_
      refine AF 40 51 true _ rfl rfl rfl rfl ?_
      refine AF 40 51 true _ rfl rfl rfl rfl ?_
      refine AF 40 51 true _ rfl rfl rfl rfl ?_
      refine AA _ (BF _ rfl rfl rfl) rfl ?_
      refine AA _ (AH rfl) rfl ?_
      refine AL (AC (BH (B5 [false, false, false, false] ?_)))
      show JQ _ _ _ _ []
      refine BI (.bool false) (res1 EC (BU rfl)) fun w1 hw1 => ?_
      refine ⟨_, [], rfl, ⟨congrArg Value.bool ?_, rfl⟩, hw1.sub (by simp) (by simp)⟩
      first | (simp [*]; done) | (simp_all; done)
    ·
     have hp9 : ¬ (tg = tg2) := of_decide_eq_false hb9
     refine AF 19 30 true _ rfl rfl hb9 rfl ?_
     refine AF 19 30 true _ rfl rfl hb9 rfl ?_
     refine AF 19 30 true _ rfl rfl hb9 rfl ?_
     refine AF 19 30 true _ rfl rfl hb9 rfl ?_
     refine AF 19 30 true _ rfl rfl hb9 rfl ?_
     refine AA _ (BF _ rfl hb9 rfl) rfl ?_
     refine AA _ (AE rfl) rfl ?_
     refine AF 26 37 true _ rfl rfl rfl rfl ?_
     refine AF 26 37 true _ rfl rfl rfl rfl ?_
     refine AF 26 37 true _ rfl rfl rfl rfl ?_
     refine AF 26 37 true _ rfl rfl rfl rfl ?_
     refine AF 26 37 true _ rfl rfl rfl rfl ?_
     refine AA _ (BF _ rfl rfl rfl) rfl ?_
     refine AA _ (AE rfl) rfl ?_
     refine AF 33 44 true _ rfl rfl rfl rfl ?_
     refine AF 33 44 true _ rfl rfl rfl rfl ?_
     refine AF 33 44 true _ rfl rfl rfl rfl ?_
     refine AF 33 44 true _ rfl rfl rfl rfl ?_
     refine AF 33 44 true _ rfl rfl rfl rfl ?_
     refine AA _ (BF _ rfl rfl rfl) rfl ?_
     refine AA _ (AE rfl) rfl ?_
     refine AF 40 51 true _ rfl rfl rfl rfl ?_
     refine AF 40 51 true _ rfl rfl rfl rfl ?_
     refine AF 40 51 true _ rfl rfl rfl rfl ?_
     refine AF 40 51 true _ rfl rfl rfl rfl ?_
     refine AF 40 51 true _ rfl rfl rfl rfl ?_
     refine AA _ (BF _ rfl rfl rfl) rfl ?_
     refine AA _ (AH rfl) rfl ?_
     refine AL (AC (BH (B5 [false, false, false, false] ?_)))
     show JQ _ _ _ _ []
     refine BI (.bool false) (res1 EC (BU rfl)) fun w1 hw1 => ?_
     refine ⟨_, [], rfl, ⟨congrArg Value.bool ?_, rfl⟩, hw1.sub (by simp) (by simp)⟩
     first | (simp [*]; done) | (simp_all; done)
   ·
    have hp8 : ¬ (ep = ep2) := of_decide_eq_false hb8
    refine AF 12 23 true _ rfl rfl hb8 rfl ?_
    refine AF 12 23 true _ rfl rfl hb8 rfl ?_
    refine AF 12 23 true _ rfl rfl hb8 rfl ?_
    refine AF 12 23 true _ rfl rfl hb8 rfl ?_
    refine AF 12 23 true _ rfl rfl hb8 rfl ?_
    refine AA _ (BF _ rfl hb8 rfl) rfl ?_
    refine AA _ (AE rfl) rfl ?_
    refine AF 19 30 true _ rfl rfl rfl rfl ?_
    refine AF 19 30 true _ rfl rfl rfl rfl ?_
    refine AF 19 30 true _ rfl rfl rfl rfl ?_
    refine AF 19 30 true _ rfl rfl rfl rfl ?_
    refine AF 19 30 true _ rfl rfl rfl rfl ?_
    refine AA _ (BF _ rfl rfl rfl) rfl ?_
    refine AA _ (AE rfl) rfl ?_
    refine AF 26 37 true _ rfl rfl rfl rfl ?_
    refine AF 26 37 true _ rfl rfl rfl rfl ?_
    refine AF 26 37 true _ rfl rfl rfl rfl ?_
    refine AF 26 37 true _ rfl rfl rfl rfl ?_
    refine AF 26 37 true _ rfl rfl rfl rfl ?_
    refine AA _ (BF _ rfl rfl rfl) rfl ?_
    refine AA _ (AE rfl) rfl ?_
    refine AF 33 44 true _ rfl rfl rfl rfl ?_
    refine AF 33 44 true _ rfl rfl rfl rfl ?_
    refine AF 33 44 true _ rfl rfl rfl rfl ?_
    refine AF 33 44 true _ rfl rfl rfl rfl ?_
    refine AF 33 44 true _ rfl rfl rfl rfl ?_
    refine AA _ (BF _ rfl rfl rfl) rfl ?_
    refine AA _ (AE rfl) rfl ?_
    refine AF 40 51 true _ rfl rfl rfl rfl ?_
    refine AF 40 51 true _ rfl rfl rfl rfl ?_
    refine AF 40 51 true _ rfl rfl rfl rfl ?_
    refine AF 40 51 true _ rfl rfl rfl rfl ?_
    refine AF 40 51 true _ rfl rfl rfl rfl ?_
    refine AA _ (BF _ rfl rfl rfl) rfl ?_
    refine AA _ (AH rfl) rfl ?_
    refine AL (AC (BH (B5 [false, false, false, false] ?_)))
    show JQ _ _ _ _ []
    refine BI (.bool false) (res1 EC (BU rfl)) fun w1 hw1 => ?_
    refine ⟨_, [], rfl, ⟨congrArg Value.bool ?_, rfl⟩, hw1.sub (by simp) (by simp)⟩
    first | (simp [*]; done) | (simp_all; done)
  ·
   have hp7 : ¬ (pv = pv2) := of_decide_eq_false hb7
   refine AF 5 16 true _ rfl rfl hb7 rfl ?_
   refine AF 5 16 true _ rfl rfl hb7 rfl ?_
   refine AF 5 16 true _ rfl rfl hb7 rfl ?_
   refine AF 5 16 true _ rfl rfl hb7 rfl ?_
   refine AF 5 16 true _ rfl rfl hb7 rfl ?_
   refine AA _ (BF _ rfl hb7 rfl) rfl ?_
   refine AA _ (AE rfl) rfl ?_
   refine AF 12 23 true _ rfl rfl rfl rfl ?_
   refine AF 12 23 true _ rfl rfl rfl rfl ?_
   refine AF 12 23 true _ rfl rfl rfl rfl ?_
   refine AF 12 23 true _ rfl rfl rfl rfl ?_
   refine AF 12 23 true _ rfl rfl rfl rfl ?_
   refine AA _ (BF _ rfl rfl rfl) rfl ?_
   refine AA _ (AE rfl) rfl ?_
   refine AF 19 30 true _ rfl rfl rfl rfl ?_
   refine AF 19 30 true _ rfl rfl rfl rfl ?_
   refine AF 19 30 true _ rfl rfl rfl rfl ?_
   refine AF 19 30 true _ rfl rfl rfl rfl ?_
   refine AF 19 30 true _ rfl rfl rfl rfl ?_
   refine AA _ (BF _ rfl rfl rfl) rfl ?_
   refine AA _ (AE rfl) rfl ?_
   refine AF 26 37 true _ rfl rfl rfl rfl ?_
   refine AF 26 37 true _ rfl rfl rfl rfl ?_
   refine AF 26 37 true _ rfl rfl rfl rfl ?_
   refine AF 26 37 true _ rfl rfl rfl rfl ?_
   refine AF 26 37 true _ rfl rfl rfl rfl ?_
   refine AA _ (BF _ rfl rfl rfl) rfl ?_
   refine AA _ (AE rfl) rfl ?_
   refine AF 33 44 true _ rfl rfl rfl rfl ?_
   refine AF 33 44 true _ rfl rfl rfl rfl ?_
   refine AF 33 44 true _ rfl rfl rfl rfl ?_
   refine AF 33 44 true _ rfl rfl rfl rfl ?_
   refine AF 33 44 true _ rfl rfl rfl rfl ?_
   refine AA _ (BF _ rfl rfl rfl) rfl ?_
   refine AA _ (AE rfl) rfl ?_
   refine AF 40 51 true _ rfl rfl rfl rfl ?_
   refine AF 40 51 true _ rfl rfl rfl rfl ?_
   refine AF 40 51 true _ rfl rfl rfl rfl ?_
   refine AF 40 51 true _ rfl rfl rfl rfl ?_
   refine AF 40 51 true _ rfl rfl rfl rfl ?_
   refine AA _ (BF _ rfl rfl rfl) rfl ?_
   refine AA _ (AH rfl) rfl ?_
   refine AL (AC (BH (B5 [false, false, false, false] ?_)))
   show JQ _ _ _ _ []
   refine BI (.bool false) (res1 EC (BU rfl)) fun w1 hw1 => ?_
   refine ⟨_, [], rfl, ⟨congrArg Value.bool ?_, rfl⟩, hw1.sub (by simp) (by simp)⟩
   first | (simp [*]; done) | (simp_all; done)
theorem rsame13_c (pv ep : UInt64) (kd : Int) (ai : Option Addr) (ni ci : Nat) (l : List UInt64) (sa : Option Addr) (ns sc : Nat) (ls : List SealR) (bl : UInt64) (tg : List UInt8) (pv2 ep2 : UInt64) (kd2 : Int) (ai2 : Option Addr) (ni2 ci2 : Nat) (l2 : List UInt64) (sa2 : Option Addr) (ns2 sc2 : Nat) (ls2 : List SealR) (bl2 : UInt64) (tg2 : List UInt8)  (w : World) (hl : l.length = ni) (hnm : ni ≤ 2000000) (hnc : ni ≤ ci) (hcm : ci ≤ maxLen) (hv : RdV w ai (cu64 l)) (hls : ls.length = ns) (hnn : ns ≤ 2000000) (hnd : ns ≤ sc) (hcn : sc ≤ maxLen) (hs : RdV w sa (ls.flatMap sealC)) (htg : tg.length = 16) (hl2 : l2.length = ni2) (hnm2 : ni2 ≤ 2000000) (hnc2 : ni2 ≤ ci2) (hcm2 : ci2 ≤ maxLen) (hv2 : RdV w ai2 (cu64 l2)) (hls2 : ls2.length = ns2) (hnn2 : ns2 ≤ 2000000) (hnd2 : ns2 ≤ sc2) (hcn2 : sc2 ≤ maxLen) (hs2 : RdV w sa2 (ls2.flatMap sealC)) (htg2 : tg2.length = 16)  : Calls Tryd.prog 51 #[.agg ([U64 pv, U64 ep, I64 (kd), .slice ai ni ci, .slice sa ns sc, U64 bl] ++ cu8 tg).toArray, .agg ([U64 pv2, U64 ep2, I64 (kd2), .slice ai2 ni2 ci2, .slice sa2 ns2 sc2, U64 bl2] ++ cu8 tg2).toArray] w (Post w [] (fun v L => v = .bool (decide (pv = pv2 ∧ ep = ep2 ∧ tg = tg2 ∧ kd = kd2 ∧ bl = bl2 ∧ l = l2 ∧ ls = ls2)) ∧ L = [])) := by
 have hmx : maxLen = 9223372036854775807 := rfl
 refine enter (P := Tryd.prog) (f := 51) (fn := Tryd.f51) w [] 108 [] [.agg ([U64 pv, U64 ep, I64 (kd), .slice ai ni ci, .slice sa ns sc, U64 bl] ++ cu8 tg).toArray, .agg ([U64 pv2, U64 ep2, I64 (kd2), .slice ai2 ni2 ci2, .slice sa2 ns2 sc2, U64 bl2] ++ cu8 tg2).toArray] Tryd.func51 rfl rfl (by simp) (BY (by simp) (by simp) (by simp)) ?_
 show JC _ _ _ [(0, .agg ([U64 pv, U64 ep, I64 (kd), .slice ai ni ci, .slice sa ns sc, U64 bl] ++ cu8 tg).toArray), (1, .agg ([U64 pv2, U64 ep2, I64 (kd2), .slice ai2 ni2 ci2, .slice sa2 ns2 sc2, U64 bl2] ++ cu8 tg2).toArray)] _
 refine AG (AB (A2 (DN (.agg ([U64 pv, U64 ep, I64 (kd), .slice ai ni ci, .slice sa ns sc, U64 bl] ++ cu8 tg).toArray) ([U64 pv, U64 ep, I64 (kd), .slice ai ni ci, .slice sa ns sc, U64 bl] ++ cu8 tg) rfl (by first | rfl | simp)) rfl ?_))
 rintro v1 L1 ⟨nb1, hnb1, rfl, rfl⟩
 show JL _ _ _ _ ((2, Ptr nb1 0) :: _) [⟨nb1, [U64 pv, U64 ep, I64 (kd), .slice ai ni ci, .slice sa ns sc, U64 bl] ++ cu8 tg, 38, (0, 0)⟩]
 refine A2 (DN (.agg ([U64 pv2, U64 ep2, I64 (kd2), .slice ai2 ni2 ci2, .slice sa2 ns2 sc2, U64 bl2] ++ cu8 tg2).toArray) ([U64 pv2, U64 ep2, I64 (kd2), .slice ai2 ni2 ci2, .slice sa2 ns2 sc2, U64 bl2] ++ cu8 tg2) rfl (by first | rfl | simp)) rfl ?_
 rintro v1 L1 ⟨nb2, hnb2, rfl, rfl⟩
 show JL _ _ _ _ ((3, Ptr nb2 0) :: _) [_, ⟨nb2, [U64 pv2, U64 ep2, I64 (kd2), .slice ai2 ni2 ci2, .slice sa2 ns2 sc2, U64 bl2] ++ cu8 tg2, 38, (0, 0)⟩]
 refine AA _ (AH rfl) rfl ?_
 refine AL (AC (AG (AG (AB (AA (Ptr nb1 0) (AD 0 22 1 BK rfl A1 rfl rfl) rfl ?_)))))
 refine AA (U64 pv) (AM rfl (A6 BD (AT 0 rfl (A8 (Seg.head))))) rfl ?_
 refine AA (Ptr nb2 0) (AD 0 22 1 BK rfl A1 rfl rfl) rfl ?_
 refine AA (U64 pv2) (AM rfl (A6 BD (AT 1 rfl (A8 (Seg.head))))) rfl ?_
 refine AA (.bool (decide (pv ≠ pv2))) (AP rfl rfl fun _ => EO pv pv2) rfl ?_
 refine AA _ (AE rfl) rfl ?_
 rcases Bool.eq_false_or_eq_true (decide (pv ≠ pv2)) with hb1 | hb1
 ·
  have hp1 : pv ≠ pv2 := of_decide_eq_true hb1
  refine AF 5 12 false _ rfl rfl hb1 rfl ?_
  refine AF 5 12 false _ rfl rfl hb1 rfl ?_
  refine AF 5 12 false _ rfl rfl hb1 rfl ?_
  refine AF 5 12 false _ rfl rfl hb1 rfl ?_
  refine AF 5 12 false _ rfl rfl hb1 rfl ?_
  refine AA _ (BO _ rfl hb1 rfl) rfl ?_
  refine AA _ (AE rfl) rfl ?_
  refine AF 12 19 false _ rfl rfl rfl rfl ?_
  refine AF 12 19 false _ rfl rfl rfl rfl ?_
  refine AF 12 19 false _ rfl rfl rfl rfl ?_
  refine AF 12 19 false _ rfl rfl rfl rfl ?_
  refine AF 12 19 false _ rfl rfl rfl rfl ?_
  refine AA _ (BO _ rfl rfl rfl) rfl ?_
  refine AA _ (AE rfl) rfl ?_
  refine AF 19 26 false _ rfl rfl rfl rfl ?_
  refine AF 19 26 false _ rfl rfl rfl rfl ?_
  refine AF 19 26 false _ rfl rfl rfl rfl ?_
  refine AF 19 26 false _ rfl rfl rfl rfl ?_
  refine AF 19 26 false _ rfl rfl rfl rfl ?_
  refine AF 19 26 false _ rfl rfl rfl rfl ?_
  refine AF 19 26 false _ rfl rfl rfl rfl ?_
  refine AA _ (BO _ rfl rfl rfl) rfl ?_
  refine AA _ (AE rfl) rfl ?_
  refine AF 28 35 false _ rfl rfl rfl rfl ?_
  refine AF 28 35 false _ rfl rfl rfl rfl ?_
  refine AF 28 35 false _ rfl rfl rfl rfl ?_
  refine AF 28 35 false _ rfl rfl rfl rfl ?_
  refine AF 28 35 false _ rfl rfl rfl rfl ?_
  refine AF 28 35 false _ rfl rfl rfl rfl ?_
  refine AF 28 35 false _ rfl rfl rfl rfl ?_
  refine AA _ (BO _ rfl rfl rfl) rfl ?_
  refine AA _ (AE rfl) rfl ?_
  refine AF 37 44 false _ rfl rfl rfl rfl ?_
  refine AF 37 44 false _ rfl rfl rfl rfl ?_
  refine AF 37 44 false _ rfl rfl rfl rfl ?_
  refine AF 37 44 false _ rfl rfl rfl rfl ?_
  refine AF 37 44 false _ rfl rfl rfl rfl ?_
  refine AF 37 44 false _ rfl rfl rfl rfl ?_
  refine AF 37 44 false _ rfl rfl rfl rfl ?_
  refine AF 37 44 false _ rfl rfl rfl rfl ?_
  refine AF 37 44 false _ rfl rfl rfl rfl ?_
  refine AA _ (BO _ rfl rfl rfl) rfl ?_
  refine AA _ (AE rfl) rfl ?_
  refine AF 48 55 false _ rfl rfl rfl rfl ?_
  refine AF 48 55 false _ rfl rfl rfl rfl ?_
  refine AF 48 55 false _ rfl rfl rfl rfl ?_
  refine AF 48 55 false _ rfl rfl rfl rfl ?_
  refine AF 48 55 false _ rfl rfl rfl rfl ?_
  refine AF 48 55 false _ rfl rfl rfl rfl ?_
  refine AF 48 55 false _ rfl rfl rfl rfl ?_
  refine AF 48 55 false _ rfl rfl rfl rfl ?_
  refine AF 48 55 false _ rfl rfl rfl rfl ?_
  refine AA _ (BO _ rfl rfl rfl) rfl ?_
  refine AL (AC (CM _ rfl rfl ?_))
  refine AG (AB (AA _ (AH rfl) rfl ?_))
  refine AL (AC (BH (A4 (B5 [false, false] ?_))))
  show JQ _ _ _ _ []
  refine BI (.bool false) (res1 Tryd.results51 (BU rfl)) fun w1 hw1 => ?_
  refine ⟨_, [], rfl, ⟨congrArg Value.bool ?_, rfl⟩, hw1.sub (by simp) (by simp)⟩
  refine (decide_eq_false (fun h => ?_)).symm
  obtain ⟨h1, h2, h3, h4, h5, h6, h7⟩ := h
  have h8 := congrArg List.length h6
  have h9 := congrArg List.length h7
  first | omega | contradiction | exact list_ne (FZ (i := i) (by omega)) (FZ (i := i) (by omega)) (by assumption) h6 | (simp_all; done)
 ·
  have hp1 : ¬ (pv ≠ pv2) := of_decide_eq_false hb1
  refine AS 5 12 false _ (Ptr nb1 1) rfl rfl hb1 (AD 1 22 1 BK rfl A1 rfl rfl) rfl ?_
  refine AS 5 12 false _ (U64 ep) rfl rfl hb1 (AM rfl (A6 BD (AT 0 rfl (A8 (AO (Seg.head)))))) rfl ?_
  refine AS 5 12 false _ (Ptr nb2 1) rfl rfl hb1 (AD 1 22 1 BK rfl A1 rfl rfl) rfl ?_
  refine AS 5 12 false _ (U64 ep2) rfl rfl hb1 (AM rfl (A6 BD (AT 1 rfl (A8 (AO (Seg.head)))))) rfl ?_
  refine AS 5 12 false _ (.bool (decide (ep ≠ ep2))) rfl rfl hb1 (AP rfl rfl fun _ => EO ep ep2) rfl ?_
  refine AA _ (BF _ rfl hb1 rfl) rfl ?_
  refine AA _ (AE rfl) rfl ?_
  rcases Bool.eq_false_or_eq_true (decide (ep ≠ ep2)) with hb2 | hb2
  ·
   have hp2 : ep ≠ ep2 := of_decide_eq_true hb2
   refine AF 12 19 false _ rfl rfl hb2 rfl ?_
   refine AF 12 19 false _ rfl rfl hb2 rfl ?_
   refine AF 12 19 false _ rfl rfl hb2 rfl ?_
   refine AF 12 19 false _ rfl rfl hb2 rfl ?_
   refine AF 12 19 false _ rfl rfl hb2 rfl ?_
   refine AA _ (BO _ rfl hb2 rfl) rfl ?_
   refine AA _ (AE rfl) rfl ?_
   refine AF 19 26 false _ rfl rfl rfl rfl ?_
   refine AF 19 26 false _ rfl rfl rfl rfl ?_
   refine AF 19 26 false _ rfl rfl rfl rfl ?_
   refine AF 19 26 false _ rfl rfl rfl rfl ?_
   refine AF 19 26 false _ rfl rfl rfl rfl ?_
   refine AF 19 26 false _ rfl rfl rfl rfl ?_
   refine AF 19 26 false _ rfl rfl rfl rfl ?_
   refine AA _ (BO _ rfl rfl rfl) rfl ?_
   refine AA _ (AE rfl) rfl ?_
   refine AF 28 35 false _ rfl rfl rfl rfl ?_
   refine AF 28 35 false _ rfl rfl rfl rfl ?_
   refine AF 28 35 false _ rfl rfl rfl rfl ?_
   refine AF 28 35 false _ rfl rfl rfl rfl ?_
   refine AF 28 35 false _ rfl rfl rfl rfl ?_
   refine AF 28 35 false _ rfl rfl rfl rfl ?_
   refine AF 28 35 false _ rfl rfl rfl rfl ?_
   refine AA _ (BO _ rfl rfl rfl) rfl ?_
   refine AA _ (AE rfl) rfl ?_
   refine AF 37 44 false _ rfl rfl rfl rfl ?_
   refine AF 37 44 false _ rfl rfl rfl rfl ?_
   refine AF 37 44 false _ rfl rfl rfl rfl ?_
   refine AF 37 44 false _ rfl rfl rfl rfl ?_
   refine AF 37 44 false _ rfl rfl rfl rfl ?_
   refine AF 37 44 false _ rfl rfl rfl rfl ?_
   refine AF 37 44 false _ rfl rfl rfl rfl ?_
   refine AF 37 44 false _ rfl rfl rfl rfl ?_
   refine AF 37 44 false _ rfl rfl rfl rfl ?_
   refine AA _ (BO _ rfl rfl rfl) rfl ?_
   refine AA _ (AE rfl) rfl ?_
   refine AF 48 55 false _ rfl rfl rfl rfl ?_
   refine AF 48 55 false _ rfl rfl rfl rfl ?_
   refine AF 48 55 false _ rfl rfl rfl rfl ?_
   refine AF 48 55 false _ rfl rfl rfl rfl ?_
   refine AF 48 55 false _ rfl rfl rfl rfl ?_
   refine AF 48 55 false _ rfl rfl rfl rfl ?_
   refine AF 48 55 false _ rfl rfl rfl rfl ?_
   refine AF 48 55 false _ rfl rfl rfl rfl ?_
   refine AF 48 55 false _ rfl rfl rfl rfl ?_
   refine AA _ (BO _ rfl rfl rfl) rfl ?_
   refine AL (AC (CM _ rfl rfl ?_))
   refine AG (AB (AA _ (AH rfl) rfl ?_))
   refine AL (AC (BH (A4 (B5 [false, false] ?_))))
   show JQ _ _ _ _ []
   refine BI (.bool false) (res1 Tryd.results51 (BU rfl)) fun w1 hw1 => ?_
   refine ⟨_, [], rfl, ⟨congrArg Value.bool ?_, rfl⟩, hw1.sub (by simp) (by simp)⟩
   refine (decide_eq_false (fun h => ?_)).symm
   obtain ⟨h1, h2, h3, h4, h5, h6, h7⟩ := h
   have h8 := congrArg List.length h6
   have h9 := congrArg List.length h7
   first | omega | contradiction | exact list_ne (FZ (i := i) (by omega)) (FZ (i := i) (by omega)) (by assumption) h6 | (simp_all; done)
  ·
   have hp2 : ¬ (ep ≠ ep2) := of_decide_eq_false hb2
   refine AS 12 19 false _ (Ptr nb1 6) rfl rfl hb2 (AD 6 27 16 BK rfl BV rfl rfl) rfl ?_
   refine AS 12 19 false _ (.agg (cu8 tg).toArray) rfl rfl hb2 (AM rfl (A5 E2 BV (DY htg) (AT 0 rfl (Seg.right 6 0 rfl rfl (AJ _))))) rfl ?_
   refine AS 12 19 false _ (Ptr nb2 6) rfl rfl hb2 (AD 6 27 16 BK rfl BV rfl rfl) rfl ?_
   refine AS 12 19 false _ (.agg (cu8 tg2).toArray) rfl rfl hb2 (AM rfl (A5 E2 BV (DY htg2) (AT 1 rfl (Seg.right 6 0 rfl rfl (AJ _))))) rfl ?_
   refine AS 12 19 false _ (.bool (!(decide (tg = tg2)))) rfl rfl hb2 (DT _ _ _ rfl rfl (fun _ => eqGuard_agg _ _ _ _ _ _ (by kernel_rfl)) fun _ => neq_arr8 BX CN EP GC Tryd.has5 (by simp [htg]) (by simp [htg2])) rfl ?_
   refine AA _ (BF _ rfl hb2 rfl) rfl ?_
   refine AA _ (AE rfl) rfl ?_
   rcases Bool.eq_false_or_eq_true (decide (tg = tg2)) with hb3 | hb3
   ·
    have hp3 : tg = tg2 := of_decide_eq_true hb3
    refine AS 19 26 false _ (Ptr nb1 2) rfl rfl (by rw [show (decide (tg = tg2)) = true from hb3] <;> rfl) (AD 2 36 4 BK rfl CJ rfl rfl) rfl ?_
    refine AS 19 26 false _ (Ptr nb1 2) rfl rfl (by rw [show (decide (tg = tg2)) = true from hb3] <;> rfl) (AD 0 3 1 BE rfl BA rfl rfl) rfl ?_
    refine AS 19 26 false _ (I64 (kd)) rfl rfl (by rw [show (decide (tg = tg2)) = true from hb3] <;> rfl) (AM rfl (A6 BS (AT 0 rfl (A8 (AO (AO (Seg.head))))))) rfl ?_
    refine AS 19 26 false _ (Ptr nb2 2) rfl rfl (by rw [show (decide (tg = tg2)) = true from hb3] <;> rfl) (AD 2 36 4 BK rfl CJ rfl rfl) rfl ?_
    refine AS 19 26 false _ (Ptr nb2 2) rfl rfl (by rw [show (decide (tg = tg2)) = true from hb3] <;> rfl) (AD 0 3 1 BE rfl BA rfl rfl) rfl ?_
    refine AS 19 26 false _ (I64 (kd2)) rfl rfl (by rw [show (decide (tg = tg2)) = true from hb3] <;> rfl) (AM rfl (A6 BS (AT 1 rfl (A8 (AO (AO (Seg.head))))))) rfl ?_
    refine AS 19 26 false _ (.bool (decide ((kd) ≠ (kd2)))) rfl rfl (by rw [show (decide (tg = tg2)) = true from hb3] <;> rfl) (AP rfl rfl fun _ => CE _ _) rfl ?_
    refine AA _ (BF _ rfl (by rw [show (decide (tg = tg2)) = true from hb3] <;> rfl) rfl) rfl ?_
    refine AA _ (AE rfl) rfl ?_
    rcases Bool.eq_false_or_eq_true (decide ((kd) ≠ (kd2))) with hb4 | hb4
    ·
     have hp4 : (kd) ≠ (kd2) := of_decide_eq_true hb4
     refine AF 28 35 false _ rfl rfl hb4 rfl ?_
     refine AF 28 35 false _ rfl rfl hb4 rfl ?_
     refine AF 28 35 false _ rfl rfl hb4 rfl ?_
     refine AF 28 35 false _ rfl rfl hb4 rfl ?_
     refine AF 28 35 false _ rfl rfl hb4 rfl ?_
     refine AF 28 35 false _ rfl rfl hb4 rfl ?_
     refine AF 28 35 false _ rfl rfl hb4 rfl ?_
     refine AA _ (BO _ rfl hb4 rfl) rfl ?_
     refine AA _ (AE rfl) rfl ?_
     refine AF 37 44 false _ rfl rfl rfl rfl ?_
     refine AF 37 44 false _ rfl rfl rfl rfl ?_
     refine AF 37 44 false _ rfl rfl rfl rfl ?_
     refine AF 37 44 false _ rfl rfl rfl rfl ?_
     refine AF 37 44 false _ rfl rfl rfl rfl ?_
     refine AF 37 44 false _ rfl rfl rfl rfl ?_
     refine AF 37 44 false _ rfl rfl rfl rfl ?_
     refine AF 37 44 false _ rfl rfl rfl rfl ?_
     refine AF 37 44 false _ rfl rfl rfl rfl ?_
     refine AA _ (BO _ rfl rfl rfl) rfl ?_
     refine AA _ (AE rfl) rfl ?_
     refine AF 48 55 false _ rfl rfl rfl rfl ?_
     refine AF 48 55 false _ rfl rfl rfl rfl ?_
     refine AF 48 55 false _ rfl rfl rfl rfl ?_
     refine AF 48 55 false _ rfl rfl rfl rfl ?_
     refine AF 48 55 false _ rfl rfl rfl rfl ?_
     refine AF 48 55 false _ rfl rfl rfl rfl ?_
     refine AF 48 55 false _ rfl rfl rfl rfl ?_
     refine AF 48 55 false _ rfl rfl rfl rfl ?_
     refine AF 48 55 false _ rfl rfl rfl rfl ?_
     refine AA _ (BO _ rfl rfl rfl) rfl ?_
     refine AL (AC (CM _ rfl rfl ?_))
     refine AG (AB (AA _ (AH rfl) rfl ?_))
     refine AL (AC (BH (A4 (B5 [false, false] ?_))))
     show JQ _ _ _ _ []
     refine BI (.bool false) (res1 Tryd.results51 (BU rfl)) fun w1 hw1 => ?_
     refine ⟨_, [], rfl, ⟨congrArg Value.bool ?_, rfl⟩, hw1.sub (by simp) (by simp)⟩
     refine (decide_eq_false (fun h => ?_)).symm
     obtain ⟨h1, h2, h3, h4, h5, h6, h7⟩ := h
     have h8 := congrArg List.length h6
     have h9 := congrArg List.length h7
     first | omega | contradiction | exact list_ne (FZ (i := i) (by omega)) (FZ (i := i) (by omega)) (by assumption) h6 | (simp_all; done)
    ·
     have hp4 : ¬ ((kd) ≠ (kd2)) := of_decide_eq_false hb4
     refine AS 28 35 false _ (Ptr nb1 2) rfl rfl hb4 (AD 2 36 4 BK rfl CJ rfl rfl) rfl ?_
     refine AS 28 35 false _ (Ptr nb1 5) rfl rfl hb4 (AD 3 22 1 BE rfl A1 rfl rfl) rfl ?_
     refine AS 28 35 false _ (U64 bl) rfl rfl hb4 (AM rfl (A6 BD (AT 0 rfl (A8 (AO (AO (AO (AO (AO (Seg.head)))))))))) rfl ?_
     refine AS 28 35 false _ (Ptr nb2 2) rfl rfl hb4 (AD 2 36 4 BK rfl CJ rfl rfl) rfl ?_
     refine AS 28 35 false _ (Ptr nb2 5) rfl rfl hb4 (AD 3 22 1 BE rfl A1 rfl rfl) rfl ?_
     refine AS 28 35 false _ (U64 bl2) rfl rfl hb4 (AM rfl (A6 BD (AT 1 rfl (A8 (AO (AO (AO (AO (AO (Seg.head)))))))))) rfl ?_
     refine AS 28 35 false _ (.bool (decide (bl ≠ bl2))) rfl rfl hb4 (AP rfl rfl fun _ => EO bl bl2) rfl ?_
     refine AA _ (BF _ rfl hb4 rfl) rfl ?_
     refine AA _ (AE rfl) rfl ?_
     rcases Bool.eq_false_or_eq_true (decide (bl ≠ bl2)) with hb5 | hb5
     ·
      have hp5 : bl ≠ bl2 := of_decide_eq_true hb5
      refine AF 37 44 false _ rfl rfl hb5 rfl ?_
      refine AF 37 44 false _ rfl rfl hb5 rfl ?_
      refine AF 37 44 false _ rfl rfl hb5 rfl ?_
      refine AF 37 44 false _ rfl rfl hb5 rfl ?_
      refine AF 37 44 false _ rfl rfl hb5 rfl ?_
      refine AF 37 44 false _ rfl rfl hb5 rfl ?_
      refine AF 37 44 false _ rfl rfl hb5 rfl ?_
      refine AF 37 44 false _ rfl rfl hb5 rfl ?_
      refine AF 37 44 false _ rfl rfl hb5 rfl ?_
      refine AA _ (BO _ rfl hb5 rfl) rfl ?_
      refine AA _ (AE rfl) rfl ?_
      refine AF 48 55 false _ rfl rfl rfl rfl ?_
      refine AF 48 55 false _ rfl rfl rfl rfl ?_
      refine AF 48 55 false _ rfl rfl rfl rfl ?_
      refine AF 48 55 false _ rfl rfl rfl rfl ?_
      refine AF 48 55 false _ rfl rfl rfl rfl ?_
      refine AF 48 55 false _ rfl rfl rfl rfl ?_
      refine AF 48 55 false _ rfl rfl rfl rfl ?_
      refine AF 48 55 false _ rfl rfl rfl rfl ?_
      refine AF 48 55 false _ rfl rfl rfl rfl ?_
      refine AA _ (BO _ rfl rfl rfl) rfl ?_
      refine AL (AC (CM _ rfl rfl ?_))
      refine AG (AB (AA _ (AH rfl) rfl ?_))
      refine AL (AC (BH (A4 (B5 [false, false] ?_))))
      show JQ _ _ _ _ []
      refine BI (.bool false) (res1 Tryd.results51 (BU rfl)) fun w1 hw1 => ?_
      refine ⟨_, [], rfl, ⟨congrArg Value.bool ?_, rfl⟩, hw1.sub (by simp) (by simp)⟩
      refine (decide_eq_false (fun h => ?_)).symm
      obtain ⟨h1, h2, h3, h4, h5, h6, h7⟩ := h
      have h8 := congrArg List.length h6
      have h9 := congrArg List.length h7
      first | omega | contradiction | exact list_ne (FZ (i := i) (by omega)) (FZ (i := i) (by omega)) (by assumption) h6 | (simp_all; done)
     ·
      have hp5 : ¬ (bl ≠ bl2) := of_decide_eq_false hb5
      refine AS 37 44 false _ (Ptr nb1 2) rfl rfl hb5 (AD 2 36 4 BK rfl CJ rfl rfl) rfl ?_
      refine AS 37 44 false _ (Ptr nb1 3) rfl rfl hb5 (AD 1 23 1 BE rfl B9 rfl rfl) rfl ?_
      refine AS 37 44 false _ (.slice ai ni ci) rfl rfl hb5 (AM rfl (A6 C1 (AT 0 rfl (A8 (AO (AO (AO (Seg.head)))))))) rfl ?_
      refine AS 37 44 false _ (I64 ni) rfl rfl hb5 (DS BR rfl) rfl ?_
      refine AS 37 44 false _ (Ptr nb2 2) rfl rfl hb5 (AD 2 36 4 BK rfl CJ rfl rfl) rfl ?_
      refine AS 37 44 false _ (Ptr nb2 3) rfl rfl hb5 (AD 1 23 1 BE rfl B9 rfl rfl) rfl ?_
      refine AS 37 44 false _ (.slice ai2 ni2 ci2) rfl rfl hb5 (AM rfl (A6 C1 (AT 1 rfl (A8 (AO (AO (AO (Seg.head)))))))) rfl ?_
      refine AS 37 44 false _ (I64 ni2) rfl rfl hb5 (DS BR rfl) rfl ?_
      refine AS 37 44 false _ (.bool (decide (((ni:Int)) ≠ ((ni2:Int))))) rfl rfl hb5 (AP rfl rfl fun _ => CE _ _) rfl ?_
      refine AA _ (BF _ rfl hb5 rfl) rfl ?_
      refine AA _ (AE rfl) rfl ?_
      rcases Bool.eq_false_or_eq_true (decide (((ni:Int)) ≠ ((ni2:Int)))) with hb6 | hb6
      ·
       have hp6 : ((ni:Int)) ≠ ((ni2:Int)) := of_decide_eq_true hb6
       refine AF 48 55 false _ rfl rfl hb6 rfl ?_
       refine AF 48 55 false _ rfl rfl hb6 rfl ?_
       refine AF 48 55 false _ rfl rfl hb6 rfl ?_
       refine AF 48 55 false _ rfl rfl hb6 rfl ?_
       refine AF 48 55 false _ rfl rfl hb6 rfl ?_
       refine AF 48 55 false _ rfl rfl hb6 rfl ?_
       refine AF 48 55 false _ rfl rfl hb6 rfl ?_
       refine AF 48 55 false _ rfl rfl hb6 rfl ?_
       refine AF 48 55 false _ rfl rfl hb6 rfl ?_
       refine AA _ (BO _ rfl hb6 rfl) rfl ?_
       refine AL (AC (CM _ rfl rfl ?_))
       refine AG (AB (AA _ (AH rfl) rfl ?_))
       refine AL (AC (BH (A4 (B5 [false, false] ?_))))
       show JQ _ _ _ _ []
       refine BI (.bool false) (res1 Tryd.results51 (BU rfl)) fun w1 hw1 => ?_
       refine ⟨_, [], rfl, ⟨congrArg Value.bool ?_, rfl⟩, hw1.sub (by simp) (by simp)⟩
       refine (decide_eq_false (fun h => ?_)).symm
       obtain ⟨h1, h2, h3, h4, h5, h6, h7⟩ := h
       have h8 := congrArg List.length h6
       have h9 := congrArg List.length h7
       first | omega | contradiction | exact list_ne (FZ (i := i) (by omega)) (FZ (i := i) (by omega)) (by assumption) h6 | (simp_all; done)
      ·
       have hp6 : ¬ (((ni:Int)) ≠ ((ni2:Int))) := of_decide_eq_false hb6
       refine AS 48 55 false _ (Ptr nb1 2) rfl rfl hb6 (AD 2 36 4 BK rfl CJ rfl rfl) rfl ?_
       refine AS 48 55 false _ (Ptr nb1 4) rfl rfl hb6 (AD 2 34 1 BE rfl CY rfl rfl) rfl ?_
       refine AS 48 55 false _ (.slice sa ns sc) rfl rfl hb6 (AM rfl (A6 DR (AT 0 rfl (A8 (AO (AO (AO (AO (Seg.head))))))))) rfl ?_
       refine AS 48 55 false _ (I64 ns) rfl rfl hb6 (DS CU rfl) rfl ?_
       refine AS 48 55 false _ (Ptr nb2 2) rfl rfl hb6 (AD 2 36 4 BK rfl CJ rfl rfl) rfl ?_
       refine AS 48 55 false _ (Ptr nb2 4) rfl rfl hb6 (AD 2 34 1 BE rfl CY rfl rfl) rfl ?_
       refine AS 48 55 false _ (.slice sa2 ns2 sc2) rfl rfl hb6 (AM rfl (A6 DR (AT 1 rfl (A8 (AO (AO (AO (AO (Seg.head))))))))) rfl ?_
       refine AS 48 55 false _ (I64 ns2) rfl rfl hb6 (DS CU rfl) rfl ?_
       refine AS 48 55 false _ (.bool (decide (((ns:Int)) ≠ ((ns2:Int))))) rfl rfl hb6 (AP rfl rfl fun _ => CE _ _) rfl ?_
       refine AA _ (BF _ rfl hb6 rfl) rfl ?_
       refine AL (AC (CL (decide (((ns:Int)) ≠ ((ns2:Int)))) rfl (fun hb7 => ?_) (fun hb7 => ?_)))
       ·
        have hp7 : ((ns:Int)) ≠ ((ns2:Int)) := of_decide_eq_true hb7
        refine AG (AB (AA _ (AH rfl) rfl ?_))
        refine AL (AC (BH (A4 (B5 [false, false] ?_))))
        show JQ _ _ _ _ []
        refine BI (.bool false) (res1 Tryd.results51 (BU rfl)) fun w1 hw1 => ?_
        refine ⟨_, [], rfl, ⟨congrArg Value.bool ?_, rfl⟩, hw1.sub (by simp) (by simp)⟩
        refine (decide_eq_false (fun h => ?_)).symm
        obtain ⟨h1, h2, h3, h4, h5, h6, h7⟩ := h
        have h8 := congrArg List.length h6
        have h9 := congrArg List.length h7
        first | omega | contradiction | exact list_ne (FZ (i := i) (by omega)) (FZ (i := i) (by omega)) (by assumption) h6 | (simp_all; done)
       ·
        have hp7 : ¬ (((ns:Int)) ≠ ((ns2:Int))) := of_decide_eq_false hb7
        refine BL (AC (AG (AG (AB (AA _ (AH rfl) rfl ?_)))))
        refine AL (AC (B4 (D4 (ι := Nat) (fun i => [(2, Ptr nb1 0), (3, Ptr nb2 0), (5, I64 i)]) (fun i => [⟨nb1, [U64 pv, U64 ep, I64 (kd), .slice ai ni ci, .slice sa ns sc, U64 bl] ++ cu8 tg, 38, (0, 0)⟩, ⟨nb2, [U64 pv2, U64 ep2, I64 (kd2), .slice ai2 ni2 ci2, .slice sa2 ns2 sc2, U64 bl2] ++ cu8 tg2, 38, (0, 0)⟩]) (fun i => i ≤ ni ∧ ∀ k, k < i → ∀ x y, l[k]? = some x → l2[k]? = some y → x = y) (fun i => ni - i) 0 ⟨by omega, fun k hk => absurd hk (by omega)⟩ (Sub.all rfl) rfl ?_)))
        rintro i ⟨hi1, hi2⟩
        show JC _ _ _ [(2, Ptr nb1 0), (3, Ptr nb2 0), (5, I64 i)] [⟨nb1, [U64 pv, U64 ep, I64 (kd), .slice ai ni ci, .slice sa ns sc, U64 bl] ++ cu8 tg, 38, (0, 0)⟩, ⟨nb2, [U64 pv2, U64 ep2, I64 (kd2), .slice ai2 ni2 ci2, .slice sa2 ns2 sc2, U64 bl2] ++ cu8 tg2, 38, (0, 0)⟩]
        refine AG (AG (AB (AA _ (AE rfl) rfl ?_)))
        refine AA (Ptr nb1 2) (AD 2 36 4 BK rfl CJ rfl rfl) rfl ?_
        refine AA (Ptr nb1 3) (AD 1 23 1 BE rfl B9 rfl rfl) rfl ?_
        refine AA (.slice ai ni ci) (AM rfl (A6 C1 (AT 0 rfl (A8 (AO (AO (AO (Seg.head)))))))) rfl ?_
        refine AA (I64 ni) (DS BR rfl) rfl ?_
        refine AA (.bool (decide (((i:Int)) < ((ni:Int))))) (AP rfl rfl fun _ => DC _ _) rfl ?_
        refine AL (AC (CL (decide (((i:Int)) < ((ni:Int)))) rfl (fun hb8 => ?_) (fun hb8 => ?_)))
        ·
         have hp8 : ((i:Int)) < ((ni:Int)) := of_decide_eq_true hb8
         refine BL (AC (AG (B4 (AG ?_))))
         obtain ⟨bz1, oz1, hz1, hm1⟩ := RdV.pos hv (by rw [FX, hl]; omega)
         obtain ⟨bz2, oz2, hz2, hm2⟩ := RdV.pos hv2 (by rw [FX, hl2]; omega)
         refine CH 108 1 [(0, Ptr nb1 2), (1, Ptr nb1 3), (2, .slice ai ni ci), (3, I64 i), (4, Ptr bz1 (i + oz1)), (5, U64 (g64 l i)), (6, Ptr nb2 2), (7, Ptr nb2 3), (8, .slice ai2 ni2 ci2), (9, I64 i), (10, Ptr bz2 (i + oz2)), (11, U64 (g64 l2 i)), (12, .bool (decide ((g64 l i) ≠ (g64 l2 i))))] BP rfl (by decide +kernel) ?_
         refine C2 ⟨[], [0, 1, 2, 3, 4, 5, 6, 7, 8, 9, 10, 11, 12], [], [0, 1, 2, 3, 4, 5, 6, 7, 8, 9, 10, 11, 12], []⟩ rfl rfl (by decide +kernel) rfl ⟨⟨_, rfl, AI rfl (AD 2 36 4 BK rfl CJ rfl rfl)⟩, ⟨_, rfl, AI rfl (AD 1 23 1 BE rfl B9 rfl rfl)⟩, ⟨_, rfl, AI rfl (AM rfl (A6 C1 (AT 0 rfl (A8 (AO (AO (AO (Seg.head))))))))⟩, BQ rfl rfl rfl, ⟨_, rfl, AI rfl (C9 22 1 (i + oz1) BR A1 rfl hz1 rfl (by omega) (by omega) (by omega))⟩, ⟨_, rfl, AI rfl (AM rfl (A6 BD (CW (hm1.mem (by simp)) (Seg.get (g64_get (i := i) (by rw [hl]; omega))) (by omega))))⟩, ⟨_, rfl, AI rfl (AD 2 36 4 BK rfl CJ rfl rfl)⟩, ⟨_, rfl, AI rfl (AD 1 23 1 BE rfl B9 rfl rfl)⟩, ⟨_, rfl, AI rfl (AM rfl (A6 C1 (AT 1 rfl (A8 (AO (AO (AO (Seg.head))))))))⟩, BQ rfl rfl rfl, ⟨_, rfl, AI rfl (C9 22 1 (i + oz2) BR A1 rfl hz2 rfl (by omega) (by omega) (by omega))⟩, ⟨_, rfl, AI rfl (AM rfl (A6 BD (CW (hm2.mem (by simp)) (Seg.get (g64_get (i := i) (by rw [hl2]; omega))) (by omega))))⟩, ⟨_, rfl, AI rfl (AP rfl rfl fun _ => EO (g64 l i) (g64 l2 i))⟩, trivial⟩ ?_
         refine CB (F' := [(74, Ptr nb1 2), (75, Ptr nb1 3), (76, .slice ai ni ci), (77, I64 i), (78, Ptr bz1 (i + oz1)), (79, U64 (g64 l i)), (80, Ptr nb2 2), (81, Ptr nb2 3), (82, .slice ai2 ni2 ci2), (83, I64 i), (84, Ptr bz2 (i + oz2)), (85, U64 (g64 l2 i)), (86, .bool (decide ((g64 l i) ≠ (g64 l2 i)))), (2, Ptr nb1 0), (3, Ptr nb2 0), (5, I64 i), (66, I64 i), (67, Ptr nb1 2), (68, Ptr nb1 3), (69, .slice ai ni ci), (70, I64 ni), (71, .bool (decide (((i:Int)) < ((ni:Int)))))]) (by kernel_rfl) ?_
         refine AC (CL (decide ((g64 l i) ≠ (g64 l2 i))) rfl (fun hb9 => ?_) (fun hb9 => ?_))
         ·
          have hp9 : (g64 l i) ≠ (g64 l2 i) := of_decide_eq_true hb9
          refine AG (AB (AA _ (AH rfl) rfl ?_))
          refine AL (AC (BH (DD (A4 (A4 (DD (A4 (B5 [false, false] ?_))))))))
          show JQ _ _ _ _ []
          refine BI (.bool false) (res1 Tryd.results51 (BU rfl)) fun w1 hw1 => ?_
          refine ⟨_, [], rfl, ⟨congrArg Value.bool ?_, rfl⟩, hw1.sub (by simp) (by simp)⟩
          refine (decide_eq_false (fun h => ?_)).symm
          obtain ⟨h1, h2, h3, h4, h5, h6, h7⟩ := h
          have h8 := congrArg List.length h6
          have h9 := congrArg List.length h7
          first | omega | contradiction | exact list_ne (FZ (i := i) (by omega)) (FZ (i := i) (by omega)) (by assumption) h6 | (simp_all; done)
         ·
          have hp9 : ¬ ((g64 l i) ≠ (g64 l2 i)) := of_decide_eq_false hb9
          refine BL (B0 (AC (AB (AA _ (AE rfl) rfl ?_))))
          refine AA (I64 ((i:Int) + 1)) (AP rfl rfl fun _ => DL _ _ ((i:Int) + 1) (by omega) (by omega)) rfl ?_
          refine AA _ (AH rfl) rfl ?_
          refine AL (DO (ER (i + 1) ⟨by omega, eq_step (FZ (i := i) (by omega)) (FZ (i := i) (by omega)) (Classical.not_not.1 (by assumption)) hi2⟩ (by first | (simp; omega) | simp | (dsimp only; omega) | omega) (Sub.all rfl) rfl))
        ·
         have hp8 : ¬ (((i:Int)) < ((ni:Int))) := of_decide_eq_false hb8
         refine DU (A9 (A9 (CR (AC (AG (AG (AB (AA _ (AH rfl) rfl ?_))))))))
         refine AL (AC (B4 (D4 (ι := Nat) (fun j => [(2, Ptr nb1 0), (3, Ptr nb2 0), (6, I64 j)]) (fun j => [⟨nb1, [U64 pv, U64 ep, I64 (kd), .slice ai ni ci, .slice sa ns sc, U64 bl] ++ cu8 tg, 38, (0, 0)⟩, ⟨nb2, [U64 pv2, U64 ep2, I64 (kd2), .slice ai2 ni2 ci2, .slice sa2 ns2 sc2, U64 bl2] ++ cu8 tg2, 38, (0, 0)⟩]) (fun j => j ≤ ns ∧ ∀ k, k < j → ∀ x y, ls[k]? = some x → ls2[k]? = some y → x = y) (fun j => ns - j) 0 ⟨by omega, fun k hk => absurd hk (by omega)⟩ (Sub.all rfl) rfl ?_)))
         rintro j ⟨hj1, hj2⟩
         show JC _ _ _ [(2, Ptr nb1 0), (3, Ptr nb2 0), (6, I64 j)] [⟨nb1, [U64 pv, U64 ep, I64 (kd), .slice ai ni ci, .slice sa ns sc, U64 bl] ++ cu8 tg, 38, (0, 0)⟩, ⟨nb2, [U64 pv2, U64 ep2, I64 (kd2), .slice ai2 ni2 ci2, .slice sa2 ns2 sc2, U64 bl2] ++ cu8 tg2, 38, (0, 0)⟩]
         refine AG (AG (AB (AA _ (AE rfl) rfl ?_)))
         refine AA (Ptr nb1 2) (AD 2 36 4 BK rfl CJ rfl rfl) rfl ?_
         refine AA (Ptr nb1 4) (AD 2 34 1 BE rfl CY rfl rfl) rfl ?_
         refine AA (.slice sa ns sc) (AM rfl (A6 DR (AT 0 rfl (A8 (AO (AO (AO (AO (Seg.head))))))))) rfl ?_
         refine AA (I64 ns) (DS CU rfl) rfl ?_
         refine AA (.bool (decide (((j:Int)) < ((ns:Int))))) (AP rfl rfl fun _ => DC _ _) rfl ?_
         refine AL (AC (CL (decide (((j:Int)) < ((ns:Int)))) rfl (fun hb10 => ?_) (fun hb10 => ?_)))
         ·
          have hp10 : ((j:Int)) < ((ns:Int)) := of_decide_eq_true hb10
          refine BL (AC (AG (B4 (AG ?_))))
          obtain ⟨x1, hx1⟩ : ∃ x, ls[j]? = some x := ⟨_, List.getElem?_eq_getElem (by rw [hls]; omega)⟩
          obtain ⟨bz3, oz3, hz3, hm3⟩ := rows_at FH (by decide) hs hx1
          obtain ⟨x2, hx2⟩ : ∃ x, ls2[j]? = some x := ⟨_, List.getElem?_eq_getElem (by rw [hls2]; omega)⟩
          obtain ⟨bz4, oz4, hz4, hm4⟩ := rows_at FH (by decide) hs2 hx2
          refine CH 108 1 [(0, Ptr nb1 2), (1, Ptr nb1 4), (2, .slice sa ns sc), (3, I64 j), (4, Ptr bz3 (49*j + oz3)), (5, .agg ([U64 x1.e] ++ cu8 x1.d ++ cu8 x1.t).toArray), (6, Ptr nb2 2), (7, Ptr nb2 4), (8, .slice sa2 ns2 sc2), (9, I64 j), (10, Ptr bz4 (49*j + oz4)), (11, .agg ([U64 x2.e] ++ cu8 x2.d ++ cu8 x2.t).toArray), (12, .bool (!(decide (x1.e = x2.e ∧ x1.d = x2.d ∧ x1.t = x2.t))))] BP rfl (by decide +kernel) ?_
          refine C2 ⟨[], [0, 1, 2, 3, 4, 5, 6, 7, 8, 9, 10, 11, 12], [], [0, 1, 2, 3, 4, 5, 6, 7, 8, 9, 10, 11, 12], []⟩ rfl rfl (by decide +kernel) rfl ⟨⟨_, rfl, AI rfl (AD 2 36 4 BK rfl CJ rfl rfl)⟩, ⟨_, rfl, AI rfl (AD 2 34 1 BE rfl CY rfl rfl)⟩, ⟨_, rfl, AI rfl (AM rfl (A6 DR (AT 0 rfl (A8 (AO (AO (AO (AO (Seg.head)))))))))⟩, BQ rfl rfl rfl, ⟨_, rfl, AI rfl (C9 164 49 (49*j + oz3) CU CS rfl hz3 rfl (by omega) (by omega) (by omega))⟩, ⟨_, rfl, AI rfl (AM rfl (A5 EW CS (by simp [x1.hd, x1.ht]) (CW (hm3.mem (by simp)) (AJ _) (by omega))))⟩, ⟨_, rfl, AI rfl (AD 2 36 4 BK rfl CJ rfl rfl)⟩, ⟨_, rfl, AI rfl (AD 2 34 1 BE rfl CY rfl rfl)⟩, ⟨_, rfl, AI rfl (AM rfl (A6 DR (AT 1 rfl (A8 (AO (AO (AO (AO (Seg.head)))))))))⟩, BQ rfl rfl rfl, ⟨_, rfl, AI rfl (C9 164 49 (49*j + oz4) CU CS rfl hz4 rfl (by omega) (by omega) (by omega))⟩, ⟨_, rfl, AI rfl (AM rfl (A5 EW CS (by simp [x2.hd, x2.ht]) (CW (hm4.mem (by simp)) (AJ _) (by omega))))⟩, ⟨_, rfl, AI rfl (DT _ _ _ rfl rfl (fun _ => eqGuard_agg _ _ _ _ _ _ (by kernel_rfl)) (neq_struct (x1.e = x2.e ∧ x1.d = x2.d ∧ x1.t = x2.t) (EqV.struct (d := 9999) (by kernel_rfl) (by kernel_rfl) (by kernel_rfl) (EqRs.cons 22 0 (U64 x1.e) (U64 x2.e) _ _ _ (PartV.one BD (A8 (A8 (Seg.head)))) (PartV.one BD (A8 (A8 (Seg.head)))) (EqV.u64 (d := 9998) B8 x1.e x2.e) (EqRs.cons 159 1 (.agg (cu8 x1.d).toArray) (.agg (cu8 x2.d).toArray) _ _ _ (PartV.agg Tryd.isAgg159 EN (Seg.cut (A8 (Seg.right 1 0 rfl rfl (AJ _))) (DY x1.hd) (by omega))) (PartV.agg Tryd.isAgg159 EN (Seg.cut (A8 (Seg.right 1 0 rfl rfl (AJ _))) (DY x2.hd) (by omega))) (EqV.arr8 (d := 9997) D5 CN EP GC Tryd.has5 (by simp [x1.hd]) (by simp [x2.hd])) (EqRs.last 27 33 (.agg (cu8 x1.t).toArray) (.agg (cu8 x2.t).toArray) _ (PartV.agg E2 BV (Seg.cut (Seg.right 33 0 (by simp [x1.hd]) rfl (AJ _)) (DY x1.ht) (by omega))) (PartV.agg E2 BV (Seg.cut (Seg.right 33 0 (by simp [x2.hd]) rfl (AJ _)) (DY x2.ht) (by omega))) (EqV.arr8 (d := 9997) BX CN EP GC Tryd.has5 (by simp [x1.ht]) (by simp [x2.ht])))))) (by first | rfl | (simp only [Bool.decide_and, Bool.and_assoc]; done) | (simp [Bool.and_assoc]; done))))⟩, trivial⟩ ?_
          refine CB (F' := [(95, Ptr nb1 2), (96, Ptr nb1 4), (97, .slice sa ns sc), (98, I64 j), (99, Ptr bz3 (49*j + oz3)), (100, .agg ([U64 x1.e] ++ cu8 x1.d ++ cu8 x1.t).toArray), (101, Ptr nb2 2), (102, Ptr nb2 4), (103, .slice sa2 ns2 sc2), (104, I64 j), (105, Ptr bz4 (49*j + oz4)), (106, .agg ([U64 x2.e] ++ cu8 x2.d ++ cu8 x2.t).toArray), (107, .bool (!(decide (x1.e = x2.e ∧ x1.d = x2.d ∧ x1.t = x2.t)))), (2, Ptr nb1 0), (3, Ptr nb2 0), (6, I64 j), (87, I64 j), (88, Ptr nb1 2), (89, Ptr nb1 4), (90, .slice sa ns sc), (91, I64 ns), (92, .bool (decide (((j:Int)) < ((ns:Int)))))]) (by kernel_rfl) ?_
          refine AC (CL (!(decide (x1.e = x2.e ∧ x1.d = x2.d ∧ x1.t = x2.t))) rfl (fun hb11 => ?_) (fun hb11 => ?_))
          ·
           have hb12 : (decide (x1.e = x2.e ∧ x1.d = x2.d ∧ x1.t = x2.t)) = false := by first | simpa using hb11 | exact Eq.mp (Bool.not_eq_true' _) hb11
           have hp12 : ¬ (x1.e = x2.e ∧ x1.d = x2.d ∧ x1.t = x2.t) := of_decide_eq_false hb12
           refine AG (AB (AA _ (AH rfl) rfl ?_))
           refine AL (AC (BH (DD (A4 (A4 (DD (A4 (B5 [false, false] ?_))))))))
           show JQ _ _ _ _ []
           refine BI (.bool false) (res1 Tryd.results51 (BU rfl)) fun w1 hw1 => ?_
           refine ⟨_, [], rfl, ⟨congrArg Value.bool ?_, rfl⟩, hw1.sub (by simp) (by simp)⟩
           refine (decide_eq_false (fun h => ?_)).symm
           obtain ⟨h1, h2, h3, h4, h5, h6, h7⟩ := h
           exact list_ne hx1 hx2 (fun e => (by assumption : ¬ _) ((SealR.eq_iff _ _).1 e)) h7
          ·
           have hb13 : (decide (x1.e = x2.e ∧ x1.d = x2.d ∧ x1.t = x2.t)) = true := by first | simpa using hb11 | exact Eq.mp (Bool.not_eq_false' _) hb11
           have hp13 : x1.e = x2.e ∧ x1.d = x2.d ∧ x1.t = x2.t := of_decide_eq_true hb13
           refine BL (B0 (AC (AB (AA _ (AE rfl) rfl ?_))))
           refine AA (I64 ((j:Int) + 1)) (AP rfl rfl fun _ => DL _ _ ((j:Int) + 1) (by omega) (by omega)) rfl ?_
           refine AA _ (AH rfl) rfl ?_
           refine AL (DO (ER (j + 1) ⟨by omega, eq_step hx1 hx2 ((SealR.eq_iff _ _).2 (by first | assumption | exact Classical.not_not.1 (by assumption))) hj2⟩ (by first | (simp; omega) | simp | (dsimp only; omega) | omega) (Sub.all rfl) rfl))
         ·
          have hp10 : ¬ (((j:Int)) < ((ns:Int))) := of_decide_eq_false hb10
          refine DU (A9 (A9 (CR (AC (AG (AB (AA _ (AH rfl) rfl ?_)))))))
          refine AL (AC (BH (B5 [false, false] ?_)))
          show JQ _ _ _ _ []
          refine BI (.bool true) (res1 Tryd.results51 (BU rfl)) fun w1 hw1 => ?_
          refine ⟨_, [], rfl, ⟨congrArg Value.bool ?_, rfl⟩, hw1.sub (by simp) (by simp)⟩
          have e1 : l = l2 := list_eq (by omega) (by rw [hl]; intro k hk; exact hi2 k (by omega))
          have e2 : ls = ls2 := list_eq (by omega) (by rw [hls]; intro k hk; exact hj2 k (by omega))
          exact (decide_eq_true (by simp_all)).symm
   ·
    have hp3 : ¬ (tg = tg2) := of_decide_eq_false hb3
    refine AF 19 26 false _ rfl rfl (by rw [show (decide (tg = tg2)) = false from hb3] <;> rfl) rfl ?_
    refine AF 19 26 false _ rfl rfl (by rw [show (decide (tg = tg2)) = false from hb3] <;> rfl) rfl ?_
    refine AF 19 26 false _ rfl rfl (by rw [show (decide (tg = tg2)) = false from hb3] <;> rfl) rfl ?_
    refine AF 19 26 false _ rfl rfl (by rw [show (decide (tg = tg2)) = false from hb3] <;> rfl) rfl ?_
    refine AF 19 26 false _ rfl rfl (by rw [show (decide (tg = tg2)) = false from hb3] <;> rfl) rfl ?_
    refine AF 19 26 false _ rfl rfl (by rw [show (decide (tg = tg2)) = false from hb3] <;> rfl) rfl ?_
    refine AF 19 26 false _ rfl rfl (by rw [show (decide (tg = tg2)) = false from hb3] <;> rfl) rfl ?_
    refine AA _ (BO _ rfl (by rw [show (decide (tg = tg2)) = false from hb3] <;> rfl) rfl) rfl ?_
    refine AA _ (AE rfl) rfl ?_
    refine AF 28 35 false _ rfl rfl rfl rfl ?_
    refine AF 28 35 false _ rfl rfl rfl rfl ?_
    refine AF 28 35 false _ rfl rfl rfl rfl ?_
    refine AF 28 35 false _ rfl rfl rfl rfl ?_
    refine AF 28 35 false _ rfl rfl rfl rfl ?_
    refine AF 28 35 false _ rfl rfl rfl rfl ?_
    refine AF 28 35 false _ rfl rfl rfl rfl ?_
    refine AA _ (BO _ rfl rfl rfl) rfl ?_
    refine AA _ (AE rfl) rfl ?_
    refine AF 37 44 false _ rfl rfl rfl rfl ?_
    refine AF 37 44 false _ rfl rfl rfl rfl ?_
    refine AF 37 44 false _ rfl rfl rfl rfl ?_
    refine AF 37 44 false _ rfl rfl rfl rfl ?_
    refine AF 37 44 false _ rfl rfl rfl rfl ?_
    refine AF 37 44 false _ rfl rfl rfl rfl ?_
    refine AF 37 44 false _ rfl rfl rfl rfl ?_
    refine AF 37 44 false _ rfl rfl rfl rfl ?_
    refine AF 37 44 false _ rfl rfl rfl rfl ?_
    refine AA _ (BO _ rfl rfl rfl) rfl ?_
    refine AA _ (AE rfl) rfl ?_
    refine AF 48 55 false _ rfl rfl rfl rfl ?_
    refine AF 48 55 false _ rfl rfl rfl rfl ?_
    refine AF 48 55 false _ rfl rfl rfl rfl ?_
    refine AF 48 55 false _ rfl rfl rfl rfl ?_
    refine AF 48 55 false _ rfl rfl rfl rfl ?_
    refine AF 48 55 false _ rfl rfl rfl rfl ?_
    refine AF 48 55 false _ rfl rfl rfl rfl ?_
    refine AF 48 55 false _ rfl rfl rfl rfl ?_
    refine AF 48 55 false _ rfl rfl rfl rfl ?_
    refine AA _ (BO _ rfl rfl rfl) rfl ?_
    refine AL (AC (CM _ rfl rfl ?_))
    refine AG (AB (AA _ (AH rfl) rfl ?_))
    refine AL (AC (BH (A4 (B5 [false, false] ?_))))
    show JQ _ _ _ _ []
    refine BI (.bool false) (res1 Tryd.results51 (BU rfl)) fun w1 hw1 => ?_
    refine ⟨_, [], rfl, ⟨congrArg Value.bool ?_, rfl⟩, hw1.sub (by simp) (by simp)⟩
    refine (decide_eq_false (fun h => ?_)).symm
    obtain ⟨h1, h2, h3, h4, h5, h6, h7⟩ := h
    have h8 := congrArg List.length h6
    have h9 := congrArg List.length h7
    first | omega | contradiction | exact list_ne (FZ (i := i) (by omega)) (FZ (i := i) (by omega)) (by assumption) h6 | (simp_all; done)
theorem rmay13_c (pv ep : UInt64) (kd : Int) (ai : Option Addr) (ni ci : Nat) (l : List UInt64) (sa : Option Addr) (ns sc : Nat) (ls : List SealR) (bl : UInt64) (tg : List UInt8)  (w : World) (hl : l.length = ni) (hnm : ni ≤ 2000000) (hnc : ni ≤ ci) (hcm : ci ≤ maxLen) (hv : RdV w ai (cu64 l)) (hls : ls.length = ns) (hnn : ns ≤ 2000000) (hnd : ns ≤ sc) (hcn : sc ≤ maxLen) (hs : RdV w sa (ls.flatMap sealC)) (htg : tg.length = 16)  : Calls Tryd.prog 45 #[.agg ([U64 pv, U64 ep, I64 (kd), .slice ai ni ci, .slice sa ns sc, U64 bl] ++ cu8 tg).toArray] w (Post w [] (fun v L => v = I64 ((mayN pv ep kd l ls bl : Nat) : Int) ∧ L = [])) := by
 have hmx : maxLen = 9223372036854775807 := rfl
 refine enter (P := Tryd.prog) (f := 45) (fn := Tryd.f45) w [] 33 [] [.agg ([U64 pv, U64 ep, I64 (kd), .slice ai ni ci, .slice sa ns sc, U64 bl] ++ cu8 tg).toArray] Tryd.func45 rfl rfl (by simp) (BY (by simp) (by simp) (by simp)) ?_
 show JC _ _ _ [(0, .agg ([U64 pv, U64 ep, I64 (kd), .slice ai ni ci, .slice sa ns sc, U64 bl] ++ cu8 tg).toArray)] _
 refine AG (AB (A2 (DN (.agg ([U64 pv, U64 ep, I64 (kd), .slice ai ni ci, .slice sa ns sc, U64 bl] ++ cu8 tg).toArray) ([U64 pv, U64 ep, I64 (kd), .slice ai ni ci, .slice sa ns sc, U64 bl] ++ cu8 tg) rfl (by first | rfl | simp)) rfl ?_))
 rintro v1 L1 ⟨nb1, hnb1, rfl, rfl⟩
 show JL _ _ _ _ ((1, Ptr nb1 0) :: _) [⟨nb1, [U64 pv, U64 ep, I64 (kd), .slice ai ni ci, .slice sa ns sc, U64 bl] ++ cu8 tg, 38, (0, 0)⟩]
 refine AA _ (AH rfl) rfl ?_
 refine AL (AC (AG (AG (AB (AA (Ptr nb1 2) (AD 2 36 4 BK rfl CJ rfl rfl) rfl ?_)))))
 refine AA (.agg #[I64 (kd), .slice ai ni ci, .slice sa ns sc, U64 bl]) (AM rfl (A5 Tryd.isAgg36 CJ rfl (AT 0 rfl (E9 (p := [U64 pv, U64 ep]) (q := cu8 tg) (vs := [I64 (kd), .slice ai ni ci, .slice sa ns sc, U64 bl]) (by first | rfl | (simp only [List.append_assoc, List.nil_append, List.append_nil, List.cons_append]; done)) rfl)))) rfl ?_
 refine AY (AX 67 [.agg #[I64 (kd), .slice ai ni ci, .slice sa ns sc, U64 bl]] (.bool (RightO (kd) l ls bl)) (AZ _ Tryd.call67 rfl) (fun w1 hw1 => rright13_c (kd) ai ni ci l sa ns sc ls bl w1 hl (by omega) (by omega) (by omega) (FM hw1 rfl hv) hls (by omega) (by omega) (by omega) (FM hw1 rfl hs))) rfl ?_
 show JL _ _ _ _ ((5, .bool (RightO (kd) l ls bl)) :: _) [_]
 refine AA (.bool (!(RightO (kd) l ls bl))) (FD rfl) rfl ?_
 refine AL (AC (CL (!(RightO (kd) l ls bl)) rfl (fun hb1 => ?_) (fun hb1 => ?_)))
 ·
  have hb2 : (RightO (kd) l ls bl) = false := by simpa using hb1
  refine AG (AB (AA _ (AH rfl) rfl ?_))
  refine AL (AC (BH (A4 (B5 [false] ?_))))
  show JQ _ _ _ _ []
  refine BI (I64 2) (res1 Tryd.results45 (BU rfl)) fun w1 hw1 => ?_
  have e1 : mayN pv ep kd l ls bl = 2 := by
   unfold mayN
   first | rw [if_pos ‹RightO kd l ls bl = true›] | rw [if_neg (by simp [*])]
   all_goals simp [*]
  rw [e1]
  exact ⟨_, [], rfl, ⟨rfl, rfl⟩, hw1.sub (by simp) (by simp)⟩
 ·
  have hb3 : (RightO (kd) l ls bl) = true := by simpa using hb1
  refine BL (AC (AG (AG ?_)))
  by_cases hk1 : kd = 1
  ·
   have hpos := RightO_pos hb3 hk1
   rw [hls, hl] at hpos
   obtain ⟨x1, hx1⟩ : ∃ x, ls[0]? = some x := ⟨_, List.getElem?_eq_getElem (by rw [hls]; omega)⟩
   obtain ⟨bz1, oz1, hz1, hm1⟩ := rows_at FH (by decide) hs hx1
   refine CH 33 1 [(0, Ptr nb1 2), (1, Ptr nb1 2), (2, I64 (kd)), (3, .bool (decide ((kd) = (1:Int)))), (4, .bool (decide ((kd) = (1:Int)))), (5, Ptr nb1 2), (6, Ptr nb1 4), (7, .slice sa ns sc), (8, Ptr bz1 oz1), (9, Ptr bz1 oz1), (10, U64 x1.e), (11, Ptr nb1 1), (12, U64 ep), (13, .bool (decide (x1.e ≠ ep))), (14, .bool (decide (x1.e ≠ ep)))] BP rfl (by decide +kernel) ?_
   refine C2 ⟨[], [0, 1, 2, 3, 4, 5, 6, 7, 8, 9, 10, 11, 12, 13, 14], [], [0, 1, 2, 3, 4, 5, 6, 7, 8, 9, 10, 11, 12, 13, 14], []⟩ rfl rfl (by decide +kernel) rfl ⟨⟨_, rfl, AI rfl (AD 2 36 4 BK rfl CJ rfl rfl)⟩, ⟨_, rfl, AI rfl (AD 0 3 1 BE rfl BA rfl rfl)⟩, ⟨_, rfl, AI rfl (AM rfl (A6 BS (AT 0 rfl (A8 (AO (AO (Seg.head)))))))⟩, ⟨_, rfl, AI rfl (AP rfl rfl fun _ => CA _ _)⟩, BQ rfl rfl rfl, ⟨_, rfl, B1 4 11 true _ rfl rfl rfl (decide_eq_true hk1) (AD 2 36 4 BK rfl CJ rfl rfl)⟩, ⟨_, rfl, B1 4 11 true _ rfl rfl rfl (decide_eq_true hk1) (AD 2 34 1 BE rfl CY rfl rfl)⟩, ⟨_, rfl, B1 4 11 true _ rfl rfl rfl (decide_eq_true hk1) (AM rfl (A6 DR (AT 0 rfl (A8 (AO (AO (AO (AO (Seg.head)))))))))⟩, ⟨_, rfl, B1 4 11 true _ rfl rfl rfl (decide_eq_true hk1) (C9 164 49 oz1 CU CS rfl hz1 rfl (by omega) (by omega) (by omega))⟩, ⟨_, rfl, B1 4 11 true _ rfl rfl rfl (decide_eq_true hk1) (AD 0 22 1 DH rfl A1 rfl rfl)⟩, ⟨_, rfl, B1 4 11 true _ rfl rfl rfl (decide_eq_true hk1) (AM rfl (A6 BD (CW (hm1.mem (by simp)) (A8 (A8 (Seg.head))) (by omega))))⟩, ⟨_, rfl, B1 4 11 true _ rfl rfl rfl (decide_eq_true hk1) (AD 1 22 1 BK rfl A1 rfl rfl)⟩, ⟨_, rfl, B1 4 11 true _ rfl rfl rfl (decide_eq_true hk1) (AM rfl (A6 BD (AT 0 rfl (A8 (AO (Seg.head))))))⟩, ⟨_, rfl, B1 4 11 true _ rfl rfl rfl (decide_eq_true hk1) (AP rfl rfl fun _ => EO x1.e ep)⟩, ⟨_, rfl, AI rfl (BO _ rfl (decide_eq_true hk1) rfl)⟩, trivial⟩ ?_
   refine CB (F' := [(21, .bool (decide (x1.e ≠ ep))), (1, Ptr nb1 0), (2, I64 0)]) (by kernel_rfl) ?_
   refine AC (CL (decide (x1.e ≠ ep)) rfl (fun hb4 => ?_) (fun hb4 => ?_))
   ·
    have hp4 : x1.e ≠ ep := of_decide_eq_true hb4
    refine AG (AB (AA _ (AH rfl) rfl ?_))
    refine AL (AC (BH (A4 (B5 [false] ?_))))
    show JQ _ _ _ _ []
    refine BI (I64 2) (res1 Tryd.results45 (BU rfl)) fun w1 hw1 => ?_
    have e1 : mayN pv ep kd l ls bl = 2 := by
     unfold mayN
     first | rw [if_pos ‹RightO kd l ls bl = true›] | rw [if_neg (by simp [*])]
     rw [F5 hx1]
     all_goals simp [*]
    rw [e1]
    exact ⟨_, [], rfl, ⟨rfl, rfl⟩, hw1.sub (by simp) (by simp)⟩
   ·
    have hp4 : ¬ (x1.e ≠ ep) := of_decide_eq_false hb4
    refine BL (AC (AG (AG (AB (AA (Ptr nb1 1) (AD 1 22 1 BK rfl A1 rfl rfl) rfl ?_)))))
    refine AA (U64 ep) (AM rfl (A6 BD (AT 0 rfl (A8 (AO (Seg.head)))))) rfl ?_
    refine AY (AX 111 [U64 0, U64 ep] (.bool (RightB (0:UInt64) ep)) (AZ _ Tryd.call111 rfl) (fun w1 hw1 => rright_c (0:UInt64) ep w1 )) rfl ?_
    show JL _ _ _ _ ((24, .bool (RightB (0:UInt64) ep)) :: _) [_]
    refine AA (.bool (!(RightB (0:UInt64) ep))) (FD rfl) rfl ?_
    refine AA _ (AE rfl) rfl ?_
    rcases Bool.eq_false_or_eq_true (RightB (0:UInt64) ep) with hb5 | hb5
    ·
     refine AS 4 26 false _ (Ptr nb1 0) rfl rfl (by rw [show (RightB (0:UInt64) ep) = true from hb5] <;> rfl) (AD 0 22 1 BK rfl A1 rfl rfl) rfl ?_
     refine AS 4 26 false _ (U64 pv) rfl rfl (by rw [show (RightB (0:UInt64) ep) = true from hb5] <;> rfl) (AM rfl (A6 BD (AT 0 rfl (A8 (Seg.head))))) rfl ?_
     refine AS 4 26 false _ (Ptr nb1 1) rfl rfl (by rw [show (RightB (0:UInt64) ep) = true from hb5] <;> rfl) (AD 1 22 1 BK rfl A1 rfl rfl) rfl ?_
     refine AS 4 26 false _ (U64 ep) rfl rfl (by rw [show (RightB (0:UInt64) ep) = true from hb5] <;> rfl) (AM rfl (A6 BD (AT 0 rfl (A8 (AO (Seg.head)))))) rfl ?_
     refine AS 4 26 false _ (.bool (decide (ep ≤ pv))) rfl rfl (by rw [show (RightB (0:UInt64) ep) = true from hb5] <;> rfl) (AP rfl rfl fun _ => FR pv ep) rfl ?_
     refine AA _ (BF _ rfl (by rw [show (RightB (0:UInt64) ep) = true from hb5] <;> rfl) rfl) rfl ?_
     refine AL (AC (CL (decide (ep ≤ pv)) rfl (fun hb6 => ?_) (fun hb6 => ?_)))
     ·
      have hp6 : ep ≤ pv := of_decide_eq_true hb6
      refine AG (AB (AA _ (AH rfl) rfl ?_))
      refine AL (AC (BH (A4 (B5 [false] ?_))))
      show JQ _ _ _ _ []
      refine BI (I64 1) (res1 Tryd.results45 (BU rfl)) fun w1 hw1 => ?_
      have e1 : mayN pv ep kd l ls bl = 1 := by
       unfold mayN
       first | rw [if_pos ‹RightO kd l ls bl = true›] | rw [if_neg (by simp [*])]
       rw [F5 hx1]
       all_goals simp [*]
      rw [e1]
      exact ⟨_, [], rfl, ⟨rfl, rfl⟩, hw1.sub (by simp) (by simp)⟩
     ·
      have hp6 : ¬ (ep ≤ pv) := of_decide_eq_false hb6
      refine BL (AC (AG (AB (AA _ (AH rfl) rfl ?_))))
      refine AL (AC (BH (B5 [false] ?_)))
      show JQ _ _ _ _ []
      refine BI (I64 0) (res1 Tryd.results45 (BU rfl)) fun w1 hw1 => ?_
      have e1 : mayN pv ep kd l ls bl = 0 := by
       unfold mayN
       first | rw [if_pos ‹RightO kd l ls bl = true›] | rw [if_neg (by simp [*])]
       rw [F5 hx1]
       all_goals simp [*]
      rw [e1]
      exact ⟨_, [], rfl, ⟨rfl, rfl⟩, hw1.sub (by simp) (by simp)⟩
    ·
     refine AF 4 26 false _ rfl rfl (by rw [show (RightB (0:UInt64) ep) = false from hb5] <;> rfl) rfl ?_
     refine AF 4 26 false _ rfl rfl (by rw [show (RightB (0:UInt64) ep) = false from hb5] <;> rfl) rfl ?_
     refine AF 4 26 false _ rfl rfl (by rw [show (RightB (0:UInt64) ep) = false from hb5] <;> rfl) rfl ?_
     refine AF 4 26 false _ rfl rfl (by rw [show (RightB (0:UInt64) ep) = false from hb5] <;> rfl) rfl ?_
     refine AF 4 26 false _ rfl rfl (by rw [show (RightB (0:UInt64) ep) = false from hb5] <;> rfl) rfl ?_
     refine AA _ (BO _ rfl (by rw [show (RightB (0:UInt64) ep) = false from hb5] <;> rfl) rfl) rfl ?_
     refine AL (AC (CM _ rfl rfl ?_))
     refine AG (AB (AA _ (AH rfl) rfl ?_))
     refine AL (AC (BH (A4 (B5 [false] ?_))))
     show JQ _ _ _ _ []
     refine BI (I64 1) (res1 Tryd.results45 (BU rfl)) fun w1 hw1 => ?_
     have e1 : mayN pv ep kd l ls bl = 1 := by
      unfold mayN
      first | rw [if_pos ‹RightO kd l ls bl = true›] | rw [if_neg (by simp [*])]
      rw [F5 hx1]
      all_goals simp [*]
     rw [e1]
     exact ⟨_, [], rfl, ⟨rfl, rfl⟩, hw1.sub (by simp) (by simp)⟩
  ·
   refine CH 33 1 [(0, Ptr nb1 2), (1, Ptr nb1 2), (2, I64 (kd)), (3, .bool (decide ((kd) = (1:Int)))), (4, .bool (decide ((kd) = (1:Int)))), (5, undef), (6, undef), (7, undef), (8, undef), (9, undef), (10, undef), (11, undef), (12, undef), (13, undef), (14, .bool false)] BP rfl (by decide +kernel) ?_
   refine C2 ⟨[], [0, 1, 2, 3, 4, 5, 6, 7, 8, 9, 10, 11, 12, 13, 14], [], [0, 1, 2, 3, 4, 5, 6, 7, 8, 9, 10, 11, 12, 13, 14], []⟩ rfl rfl (by decide +kernel) rfl ⟨⟨_, rfl, AI rfl (AD 2 36 4 BK rfl CJ rfl rfl)⟩, ⟨_, rfl, AI rfl (AD 0 3 1 BE rfl BA rfl rfl)⟩, ⟨_, rfl, AI rfl (AM rfl (A6 BS (AT 0 rfl (A8 (AO (AO (Seg.head)))))))⟩, ⟨_, rfl, AI rfl (AP rfl rfl fun _ => CA _ _)⟩, BQ rfl rfl rfl, ⟨_, rfl, CV 4 11 true _ rfl rfl rfl (decide_eq_false hk1)⟩, ⟨_, rfl, CV 4 11 true _ rfl rfl rfl (decide_eq_false hk1)⟩, ⟨_, rfl, CV 4 11 true _ rfl rfl rfl (decide_eq_false hk1)⟩, ⟨_, rfl, CV 4 11 true _ rfl rfl rfl (decide_eq_false hk1)⟩, ⟨_, rfl, CV 4 11 true _ rfl rfl rfl (decide_eq_false hk1)⟩, ⟨_, rfl, CV 4 11 true _ rfl rfl rfl (decide_eq_false hk1)⟩, ⟨_, rfl, CV 4 11 true _ rfl rfl rfl (decide_eq_false hk1)⟩, ⟨_, rfl, CV 4 11 true _ rfl rfl rfl (decide_eq_false hk1)⟩, ⟨_, rfl, CV 4 11 true _ rfl rfl rfl (decide_eq_false hk1)⟩, ⟨_, rfl, AI rfl (BF _ rfl (decide_eq_false hk1) rfl)⟩, trivial⟩ ?_
   refine CB (F' := [(21, .bool false), (1, Ptr nb1 0), (2, I64 0)]) (by kernel_rfl) ?_
   refine AC (BZ _ rfl rfl ?_)
   refine BL (AC (AG (AG (AB (AA (Ptr nb1 1) (AD 1 22 1 BK rfl A1 rfl rfl) rfl ?_)))))
   refine AA (U64 ep) (AM rfl (A6 BD (AT 0 rfl (A8 (AO (Seg.head)))))) rfl ?_
   refine AY (AX 111 [U64 0, U64 ep] (.bool (RightB (0:UInt64) ep)) (AZ _ Tryd.call111 rfl) (fun w1 hw1 => rright_c (0:UInt64) ep w1 )) rfl ?_
   show JL _ _ _ _ ((24, .bool (RightB (0:UInt64) ep)) :: _) [_]
   refine AA (.bool (!(RightB (0:UInt64) ep))) (FD rfl) rfl ?_
   refine AA _ (AE rfl) rfl ?_
   rcases Bool.eq_false_or_eq_true (RightB (0:UInt64) ep) with hb7 | hb7
   ·
    refine AS 4 26 false _ (Ptr nb1 0) rfl rfl (by rw [show (RightB (0:UInt64) ep) = true from hb7] <;> rfl) (AD 0 22 1 BK rfl A1 rfl rfl) rfl ?_
    refine AS 4 26 false _ (U64 pv) rfl rfl (by rw [show (RightB (0:UInt64) ep) = true from hb7] <;> rfl) (AM rfl (A6 BD (AT 0 rfl (A8 (Seg.head))))) rfl ?_
    refine AS 4 26 false _ (Ptr nb1 1) rfl rfl (by rw [show (RightB (0:UInt64) ep) = true from hb7] <;> rfl) (AD 1 22 1 BK rfl A1 rfl rfl) rfl ?_
    refine AS 4 26 false _ (U64 ep) rfl rfl (by rw [show (RightB (0:UInt64) ep) = true from hb7] <;> rfl) (AM rfl (A6 BD (AT 0 rfl (A8 (AO (Seg.head)))))) rfl ?_
    refine AS 4 26 false _ (.bool (decide (ep ≤ pv))) rfl rfl (by rw [show (RightB (0:UInt64) ep) = true from hb7] <;> rfl) (AP rfl rfl fun _ => FR pv ep) rfl ?_
    refine AA _ (BF _ rfl (by rw [show (RightB (0:UInt64) ep) = true from hb7] <;> rfl) rfl) rfl ?_
    refine AL (AC (CL (decide (ep ≤ pv)) rfl (fun hb8 => ?_) (fun hb8 => ?_)))
    ·
     have hp8 : ep ≤ pv := of_decide_eq_true hb8
     refine AG (AB (AA _ (AH rfl) rfl ?_))
     refine AL (AC (BH (A4 (B5 [false] ?_))))
     show JQ _ _ _ _ []
     refine BI (I64 1) (res1 Tryd.results45 (BU rfl)) fun w1 hw1 => ?_
     have e1 : mayN pv ep kd l ls bl = 1 := by
      unfold mayN
      first | rw [if_pos ‹RightO kd l ls bl = true›] | rw [if_neg (by simp [*])]
      all_goals simp [*]
     rw [e1]
     exact ⟨_, [], rfl, ⟨rfl, rfl⟩, hw1.sub (by simp) (by simp)⟩
    ·
     have hp8 : ¬ (ep ≤ pv) := of_decide_eq_false hb8
     refine BL (AC (AG (AB (AA _ (AH rfl) rfl ?_))))
     refine AL (AC (BH (B5 [false] ?_)))
     show JQ _ _ _ _ []
     refine BI (I64 0) (res1 Tryd.results45 (BU rfl)) fun w1 hw1 => ?_
     have e1 : mayN pv ep kd l ls bl = 0 := by
      unfold mayN
      first | rw [if_pos ‹RightO kd l ls bl = true›] | rw [if_neg (by simp [*])]
      all_goals simp [*]
     rw [e1]
     exact ⟨_, [], rfl, ⟨rfl, rfl⟩, hw1.sub (by simp) (by simp)⟩
   ·
    refine AF 4 26 false _ rfl rfl (by rw [show (RightB (0:UInt64) ep) = false from hb7] <;> rfl) rfl ?_
    refine AF 4 26 false _ rfl rfl (by rw [show (RightB (0:UInt64) ep) = false from hb7] <;> rfl) rfl ?_
    refine AF 4 26 false _ rfl rfl (by rw [show (RightB (0:UInt64) ep) = false from hb7] <;> rfl) rfl ?_
    refine AF 4 26 false _ rfl rfl (by rw [show (RightB (0:UInt64) ep) = false from hb7] <;> rfl) rfl ?_
    refine AF 4 26 false _ rfl rfl (by rw [show (RightB (0:UInt64) ep) = false from hb7] <;> rfl) rfl ?_
    refine AA _ (BO _ rfl (by rw [show (RightB (0:UInt64) ep) = false from hb7] <;> rfl) rfl) rfl ?_
    refine AL (AC (CM _ rfl rfl ?_))
    refine AG (AB (AA _ (AH rfl) rfl ?_))
    refine AL (AC (BH (A4 (B5 [false] ?_))))
    show JQ _ _ _ _ []
    refine BI (I64 1) (res1 Tryd.results45 (BU rfl)) fun w1 hw1 => ?_
    have e1 : mayN pv ep kd l ls bl = 1 := by
     unfold mayN
     first | rw [if_pos ‹RightO kd l ls bl = true›] | rw [if_neg (by simp [*])]
     all_goals simp [*]
    rw [e1]
    exact ⟨_, [], rfl, ⟨rfl, rfl⟩, hw1.sub (by simp) (by simp)⟩
theorem may13_c (pv ep : UInt64) (kd : Int) (ai : Option Addr) (ni ci : Nat) (l : List UInt64) (sa : Option Addr) (ns sc : Nat) (ls : List SealR) (bl : UInt64) (tg : List UInt8)  (w : World) (hl : l.length = ni) (hnm : ni ≤ 2000000) (hnc : ni ≤ ci) (hcm : ci ≤ maxLen) (hv : RdV w ai (cu64 l)) (hls : ls.length = ns) (hnn : ns ≤ 2000000) (hnd : ns ≤ sc) (hcn : sc ≤ maxLen) (hs : RdV w sa (ls.flatMap sealC)) (htg : tg.length = 16)  : Calls Tryd.prog 128 #[.agg ([U64 pv, U64 ep, I64 (kd), .slice ai ni ci, .slice sa ns sc, U64 bl] ++ cu8 tg).toArray] w (Post w [] (fun v L => v = errV 50 (mayN pv ep kd l ls bl) ∧ L = [])) := by
 have hmx : maxLen = 9223372036854775807 := rfl
 refine enter (P := Tryd.prog) (f := 128) (fn := Tryd.f128) w [] 37 [] [.agg ([U64 pv, U64 ep, I64 (kd), .slice ai ni ci, .slice sa ns sc, U64 bl] ++ cu8 tg).toArray] Tryd.func128 rfl rfl (by simp) (BY (by simp) (by simp) (by simp)) ?_
 show JC _ _ _ [(0, .agg ([U64 pv, U64 ep, I64 (kd), .slice ai ni ci, .slice sa ns sc, U64 bl] ++ cu8 tg).toArray)] _
 refine AG (AB (A2 (DN (.agg ([U64 pv, U64 ep, I64 (kd), .slice ai ni ci, .slice sa ns sc, U64 bl] ++ cu8 tg).toArray) ([U64 pv, U64 ep, I64 (kd), .slice ai ni ci, .slice sa ns sc, U64 bl] ++ cu8 tg) rfl (by first | rfl | simp)) rfl ?_))
 rintro v1 L1 ⟨nb1, hnb1, rfl, rfl⟩
 show JL _ _ _ _ ((1, Ptr nb1 0) :: _) [⟨nb1, [U64 pv, U64 ep, I64 (kd), .slice ai ni ci, .slice sa ns sc, U64 bl] ++ cu8 tg, 29, (0, 0)⟩]
 refine AA _ (AH rfl) rfl ?_
 refine AL (AC (AG (B4 (AG (AG (AB (AA (Ptr nb1 2) (AD 2 26 4 AW rfl BM rfl rfl) rfl ?_)))))))
 refine AA (.agg #[I64 (kd), .slice ai ni ci, .slice sa ns sc, U64 bl]) (AM rfl (A5 ED BM rfl (AT 0 rfl (E9 (p := [U64 pv, U64 ep]) (q := cu8 tg) (vs := [I64 (kd), .slice ai ni ci, .slice sa ns sc, U64 bl]) (by first | rfl | (simp only [List.append_assoc, List.nil_append, List.append_nil, List.cons_append]; done)) rfl)))) rfl ?_
 refine AY (AX 69 [.agg #[I64 (kd), .slice ai ni ci, .slice sa ns sc, U64 bl]] (.bool (RightO (kd) l ls bl)) (AZ _ Tryd.call69 rfl) (fun w1 hw1 => right13_c (kd) ai ni ci l sa ns sc ls bl w1 hl (by omega) (by omega) (by omega) (FM hw1 rfl hv) hls (by omega) (by omega) (by omega) (FM hw1 rfl hs))) rfl ?_
 show JL _ _ _ _ ((6, .bool (RightO (kd) l ls bl)) :: _) [_]
 refine AA (.bool (!(RightO (kd) l ls bl))) (FD rfl) rfl ?_
 refine AA _ (AH rfl) rfl ?_
 refine AL (AC (CL (!(RightO (kd) l ls bl)) rfl (fun hb1 => ?_) (fun hb1 => ?_)))
 ·
  have hb2 : (RightO (kd) l ls bl) = false := by simpa using hb1
  refine BL (AC (CM _ rfl hb1 ?_))
  refine AG (AB (AA (.iface 50 (I64 2)) (FL DI rfl rfl) rfl ?_))
  refine AA _ (AH rfl) rfl ?_
  refine AL (AC (BH (DD (A4 (B5 [false] ?_)))))
  show JQ _ _ _ _ []
  refine BI (.iface 50 (I64 2)) (res1 Tryd.results128 (BU rfl)) fun w1 hw1 => ?_
  have e1 : mayN pv ep kd l ls bl = 2 := by
   unfold mayN
   first | rw [if_pos ‹RightO kd l ls bl = true›] | rw [if_neg (by simp [*])]
   all_goals simp [*]
  rw [e1]
  exact ⟨_, [], rfl, ⟨rfl, rfl⟩, hw1.sub (by simp) (by simp)⟩
 ·
  have hb3 : (RightO (kd) l ls bl) = true := by simpa using hb1
  by_cases hk1 : kd = 1
  ·
   have hpos := RightO_pos hb3 hk1
   rw [hls, hl] at hpos
   obtain ⟨x1, hx1⟩ : ∃ x, ls[0]? = some x := ⟨_, List.getElem?_eq_getElem (by rw [hls]; omega)⟩
   obtain ⟨bz1, oz1, hz1, hm1⟩ := rows_at FH (by decide) hs hx1
   refine CH 37 1 [(0, Ptr nb1 2), (1, Ptr nb1 2), (2, I64 (kd)), (3, .bool (decide ((kd) = (1:Int)))), (4, .bool (decide ((kd) = (1:Int)))), (5, Ptr nb1 2), (6, Ptr nb1 4), (7, .slice sa ns sc), (8, Ptr bz1 oz1), (9, Ptr bz1 oz1), (10, U64 x1.e), (11, Ptr nb1 1), (12, U64 ep), (13, .bool (decide (x1.e ≠ ep))), (14, .bool (decide (x1.e ≠ ep))), (15, .bool (decide (x1.e ≠ ep)))] BP rfl (by decide +kernel) ?_
   refine C2 ⟨[], [0, 1, 2, 3, 4, 5, 6, 7, 8, 9, 10, 11, 12, 13, 14, 15], [], [0, 1, 2, 3, 4, 5, 6, 7, 8, 9, 10, 11, 12, 13, 14, 15], []⟩ rfl rfl (by decide +kernel) rfl ⟨⟨_, rfl, AI rfl (AD 2 26 4 AW rfl BM rfl rfl)⟩, ⟨_, rfl, AI rfl (AD 0 3 1 AV rfl BA rfl rfl)⟩, ⟨_, rfl, AI rfl (AM rfl (A6 BS (AT 0 rfl (A8 (AO (AO (Seg.head)))))))⟩, ⟨_, rfl, AI rfl (AP rfl rfl fun _ => CA _ _)⟩, BQ rfl rfl rfl, ⟨_, rfl, B1 4 12 true _ rfl rfl rfl (decide_eq_true hk1) (AD 2 26 4 AW rfl BM rfl rfl)⟩, ⟨_, rfl, B1 4 12 true _ rfl rfl rfl (decide_eq_true hk1) (AD 2 24 1 AV rfl C8 rfl rfl)⟩, ⟨_, rfl, B1 4 12 true _ rfl rfl rfl (decide_eq_true hk1) (AM rfl (A6 DQ (AT 0 rfl (A8 (AO (AO (AO (AO (Seg.head)))))))))⟩, ⟨_, rfl, B1 4 12 true _ rfl rfl rfl (decide_eq_true hk1) (C9 161 49 oz1 CO CD rfl hz1 rfl (by omega) (by omega) (by omega))⟩, ⟨_, rfl, B1 4 12 true _ rfl rfl rfl (decide_eq_true hk1) (AD 0 22 1 CX rfl A1 rfl rfl)⟩, ⟨_, rfl, B1 4 12 true _ rfl rfl rfl (decide_eq_true hk1) (AM rfl (A6 BD (CW (hm1.mem (by simp)) (A8 (A8 (Seg.head))) (by omega))))⟩, ⟨_, rfl, B1 4 12 true _ rfl rfl rfl (decide_eq_true hk1) (AD 1 22 1 AW rfl A1 rfl rfl)⟩, ⟨_, rfl, B1 4 12 true _ rfl rfl rfl (decide_eq_true hk1) (AM rfl (A6 BD (AT 0 rfl (A8 (AO (Seg.head))))))⟩, ⟨_, rfl, B1 4 12 true _ rfl rfl rfl (decide_eq_true hk1) (AP rfl rfl fun _ => EO x1.e ep)⟩, ⟨_, rfl, AI rfl (BO _ rfl (decide_eq_true hk1) rfl)⟩, ⟨_, rfl, AI rfl (AH rfl)⟩, trivial⟩ ?_
   refine CB (F' := [(3, .bool (decide (x1.e ≠ ep))), (1, Ptr nb1 0), (2, .nilIface)]) (by kernel_rfl) ?_
   refine AC (CL (decide (x1.e ≠ ep)) rfl (fun hb4 => ?_) (fun hb4 => ?_))
   ·
    have hp4 : x1.e ≠ ep := of_decide_eq_true hb4
    refine AG (AB (AA (.iface 50 (I64 2)) (FL DI rfl rfl) rfl ?_))
    refine AA _ (AH rfl) rfl ?_
    refine AL (AC (BH (DD (A4 (B5 [false] ?_)))))
    show JQ _ _ _ _ []
    refine BI (.iface 50 (I64 2)) (res1 Tryd.results128 (BU rfl)) fun w1 hw1 => ?_
    have e1 : mayN pv ep kd l ls bl = 2 := by
     unfold mayN
     first | rw [if_pos ‹RightO kd l ls bl = true›] | rw [if_neg (by simp [*])]
     rw [F5 hx1]
     all_goals simp [*]
    rw [e1]
    exact ⟨_, [], rfl, ⟨rfl, rfl⟩, hw1.sub (by simp) (by simp)⟩
   ·
    have hp4 : ¬ (x1.e ≠ ep) := of_decide_eq_false hb4
    refine AG (AB (AA (Ptr nb1 1) (AD 1 22 1 AW rfl A1 rfl rfl) rfl ?_))
    refine AA (U64 ep) (AM rfl (A6 BD (AT 0 rfl (A8 (AO (Seg.head)))))) rfl ?_
    refine AY (AX 133 [U64 0, U64 ep] (.bool (RightB (0:UInt64) ep)) (AZ _ Tryd.call133 rfl) (fun w1 hw1 => right_c (0:UInt64) ep w1 )) rfl ?_
    show JL _ _ _ _ ((27, .bool (RightB (0:UInt64) ep)) :: _) [_]
    refine AA (.bool (!(RightB (0:UInt64) ep))) (FD rfl) rfl ?_
    refine AA _ (AE rfl) rfl ?_
    rcases Bool.eq_false_or_eq_true (RightB (0:UInt64) ep) with hb5 | hb5
    ·
     refine AS 4 29 false _ (Ptr nb1 0) rfl rfl (by rw [show (RightB (0:UInt64) ep) = true from hb5] <;> rfl) (AD 0 22 1 AW rfl A1 rfl rfl) rfl ?_
     refine AS 4 29 false _ (U64 pv) rfl rfl (by rw [show (RightB (0:UInt64) ep) = true from hb5] <;> rfl) (AM rfl (A6 BD (AT 0 rfl (A8 (Seg.head))))) rfl ?_
     refine AS 4 29 false _ (Ptr nb1 1) rfl rfl (by rw [show (RightB (0:UInt64) ep) = true from hb5] <;> rfl) (AD 1 22 1 AW rfl A1 rfl rfl) rfl ?_
     refine AS 4 29 false _ (U64 ep) rfl rfl (by rw [show (RightB (0:UInt64) ep) = true from hb5] <;> rfl) (AM rfl (A6 BD (AT 0 rfl (A8 (AO (Seg.head)))))) rfl ?_
     refine AS 4 29 false _ (.bool (decide (ep ≤ pv))) rfl rfl (by rw [show (RightB (0:UInt64) ep) = true from hb5] <;> rfl) (AP rfl rfl fun _ => FR pv ep) rfl ?_
     refine AA _ (BF _ rfl (by rw [show (RightB (0:UInt64) ep) = true from hb5] <;> rfl) rfl) rfl ?_
     refine AA _ (AH rfl) rfl ?_
     refine AL (AC (CL (decide (ep ≤ pv)) rfl (fun hb6 => ?_) (fun hb6 => ?_)))
     ·
      have hp6 : ep ≤ pv := of_decide_eq_true hb6
      refine AG (AB (AA (.iface 50 (I64 1)) (FL DI rfl rfl) rfl ?_))
      refine AA _ (AH rfl) rfl ?_
      refine AL (AC (BH (DD (A4 (B5 [false] ?_)))))
      show JQ _ _ _ _ []
      refine BI (.iface 50 (I64 1)) (res1 Tryd.results128 (BU rfl)) fun w1 hw1 => ?_
      have e1 : mayN pv ep kd l ls bl = 1 := by
       unfold mayN
       first | rw [if_pos ‹RightO kd l ls bl = true›] | rw [if_neg (by simp [*])]
       rw [F5 hx1]
       all_goals simp [*]
      rw [e1]
      exact ⟨_, [], rfl, ⟨rfl, rfl⟩, hw1.sub (by simp) (by simp)⟩
     ·
      have hp6 : ¬ (ep ≤ pv) := of_decide_eq_false hb6
      refine BL (B0 (AC (AG (AB (AA _ (AH rfl) rfl ?_)))))
      refine AL (AC (BH (B5 [false] ?_)))
      show JQ _ _ _ _ []
      refine BI (.nilIface) (res1 Tryd.results128 (BU rfl)) fun w1 hw1 => ?_
      have e1 : mayN pv ep kd l ls bl = 0 := by
       unfold mayN
       first | rw [if_pos ‹RightO kd l ls bl = true›] | rw [if_neg (by simp [*])]
       rw [F5 hx1]
       all_goals simp [*]
      rw [e1]
      exact ⟨_, [], rfl, ⟨rfl, rfl⟩, hw1.sub (by simp) (by simp)⟩
    ·
     refine AF 4 29 false _ rfl rfl (by rw [show (RightB (0:UInt64) ep) = false from hb5] <;> rfl) rfl ?_
     refine AF 4 29 false _ rfl rfl (by rw [show (RightB (0:UInt64) ep) = false from hb5] <;> rfl) rfl ?_
     refine AF 4 29 false _ rfl rfl (by rw [show (RightB (0:UInt64) ep) = false from hb5] <;> rfl) rfl ?_
     refine AF 4 29 false _ rfl rfl (by rw [show (RightB (0:UInt64) ep) = false from hb5] <;> rfl) rfl ?_
     refine AF 4 29 false _ rfl rfl (by rw [show (RightB (0:UInt64) ep) = false from hb5] <;> rfl) rfl ?_
     refine AA _ (BO _ rfl (by rw [show (RightB (0:UInt64) ep) = false from hb5] <;> rfl) rfl) rfl ?_
     refine AA _ (AH rfl) rfl ?_
     refine AL (AC (CM _ rfl rfl ?_))
     refine AG (AB (AA (.iface 50 (I64 1)) (FL DI rfl rfl) rfl ?_))
     refine AA _ (AH rfl) rfl ?_
     refine AL (AC (BH (DD (A4 (B5 [false] ?_)))))
     show JQ _ _ _ _ []
     refine BI (.iface 50 (I64 1)) (res1 Tryd.results128 (BU rfl)) fun w1 hw1 => ?_
     have e1 : mayN pv ep kd l ls bl = 1 := by
      unfold mayN
      first | rw [if_pos ‹RightO kd l ls bl = true›] | rw [if_neg (by simp [*])]
      rw [F5 hx1]
      all_goals simp [*]
     rw [e1]
     exact ⟨_, [], rfl, ⟨rfl, rfl⟩, hw1.sub (by simp) (by simp)⟩
  ·
   refine CH 37 1 [(0, Ptr nb1 2), (1, Ptr nb1 2), (2, I64 (kd)), (3, .bool (decide ((kd) = (1:Int)))), (4, .bool (decide ((kd) = (1:Int)))), (5, undef), (6, undef), (7, undef), (8, undef), (9, undef), (10, undef), (11, undef), (12, undef), (13, undef), (14, .bool false), (15, .bool false)] BP rfl (by decide +kernel) ?_
   refine C2 ⟨[], [0, 1, 2, 3, 4, 5, 6, 7, 8, 9, 10, 11, 12, 13, 14, 15], [], [0, 1, 2, 3, 4, 5, 6, 7, 8, 9, 10, 11, 12, 13, 14, 15], []⟩ rfl rfl (by decide +kernel) rfl ⟨⟨_, rfl, AI rfl (AD 2 26 4 AW rfl BM rfl rfl)⟩, ⟨_, rfl, AI rfl (AD 0 3 1 AV rfl BA rfl rfl)⟩, ⟨_, rfl, AI rfl (AM rfl (A6 BS (AT 0 rfl (A8 (AO (AO (Seg.head)))))))⟩, ⟨_, rfl, AI rfl (AP rfl rfl fun _ => CA _ _)⟩, BQ rfl rfl rfl, ⟨_, rfl, CV 4 12 true _ rfl rfl rfl (decide_eq_false hk1)⟩, ⟨_, rfl, CV 4 12 true _ rfl rfl rfl (decide_eq_false hk1)⟩, ⟨_, rfl, CV 4 12 true _ rfl rfl rfl (decide_eq_false hk1)⟩, ⟨_, rfl, CV 4 12 true _ rfl rfl rfl (decide_eq_false hk1)⟩, ⟨_, rfl, CV 4 12 true _ rfl rfl rfl (decide_eq_false hk1)⟩, ⟨_, rfl, CV 4 12 true _ rfl rfl rfl (decide_eq_false hk1)⟩, ⟨_, rfl, CV 4 12 true _ rfl rfl rfl (decide_eq_false hk1)⟩, ⟨_, rfl, CV 4 12 true _ rfl rfl rfl (decide_eq_false hk1)⟩, ⟨_, rfl, CV 4 12 true _ rfl rfl rfl (decide_eq_false hk1)⟩, ⟨_, rfl, AI rfl (BF _ rfl (decide_eq_false hk1) rfl)⟩, ⟨_, rfl, AI rfl (AH rfl)⟩, trivial⟩ ?_
   refine CB (F' := [(3, .bool false), (1, Ptr nb1 0), (2, .nilIface)]) (by kernel_rfl) ?_
   refine AC (BZ _ rfl rfl ?_)
   refine AG (AB (AA (Ptr nb1 1) (AD 1 22 1 AW rfl A1 rfl rfl) rfl ?_))
   refine AA (U64 ep) (AM rfl (A6 BD (AT 0 rfl (A8 (AO (Seg.head)))))) rfl ?_
   refine AY (AX 133 [U64 0, U64 ep] (.bool (RightB (0:UInt64) ep)) (AZ _ Tryd.call133 rfl) (fun w1 hw1 => right_c (0:UInt64) ep w1 )) rfl ?_
   show JL _ _ _ _ ((27, .bool (RightB (0:UInt64) ep)) :: _) [_]
   refine AA (.bool (!(RightB (0:UInt64) ep))) (FD rfl) rfl ?_
   refine AA _ (AE rfl) rfl ?_
   rcases Bool.eq_false_or_eq_true (RightB (0:UInt64) ep) with hb7 | hb7
   ·
    refine AS 4 29 false _ (Ptr nb1 0) rfl rfl (by rw [show (RightB (0:UInt64) ep) = true from hb7] <;> rfl) (AD 0 22 1 AW rfl A1 rfl rfl) rfl ?_
    refine AS 4 29 false _ (U64 pv) rfl rfl (by rw [show (RightB (0:UInt64) ep) = true from hb7] <;> rfl) (AM rfl (A6 BD (AT 0 rfl (A8 (Seg.head))))) rfl ?_
    refine AS 4 29 false _ (Ptr nb1 1) rfl rfl (by rw [show (RightB (0:UInt64) ep) = true from hb7] <;> rfl) (AD 1 22 1 AW rfl A1 rfl rfl) rfl ?_
    refine AS 4 29 false _ (U64 ep) rfl rfl (by rw [show (RightB (0:UInt64) ep) = true from hb7] <;> rfl) (AM rfl (A6 BD (AT 0 rfl (A8 (AO (Seg.head)))))) rfl ?_
    refine AS 4 29 false _ (.bool (decide (ep ≤ pv))) rfl rfl (by rw [show (RightB (0:UInt64) ep) = true from hb7] <;> rfl) (AP rfl rfl fun _ => FR pv ep) rfl ?_
    refine AA _ (BF _ rfl (by rw [show (RightB (0:UInt64) ep) = true from hb7] <;> rfl) rfl) rfl ?_
    refine AA _ (AH rfl) rfl ?_
    refine AL (AC (CL (decide (ep ≤ pv)) rfl (fun hb8 => ?_) (fun hb8 => ?_)))
    ·
     have hp8 : ep ≤ pv := of_decide_eq_true hb8
     refine AG (AB (AA (.iface 50 (I64 1)) (FL DI rfl rfl) rfl ?_))
     refine AA _ (AH rfl) rfl ?_
     refine AL (AC (BH (DD (A4 (B5 [false] ?_)))))
     show JQ _ _ _ _ []
     refine BI (.iface 50 (I64 1)) (res1 Tryd.results128 (BU rfl)) fun w1 hw1 => ?_
     have e1 : mayN pv ep kd l ls bl = 1 := by
      unfold mayN
      first | rw [if_pos ‹RightO kd l ls bl = true›] | rw [if_neg (by simp [*])]
      all_goals simp [*]
     rw [e1]
     exact ⟨_, [], rfl, ⟨rfl, rfl⟩, hw1.sub (by simp) (by simp)⟩
    ·
     have hp8 : ¬ (ep ≤ pv) := of_decide_eq_false hb8
     refine BL (B0 (AC (AG (AB (AA _ (AH rfl) rfl ?_)))))
     refine AL (AC (BH (B5 [false] ?_)))
     show JQ _ _ _ _ []
     refine BI (.nilIface) (res1 Tryd.results128 (BU rfl)) fun w1 hw1 => ?_
     have e1 : mayN pv ep kd l ls bl = 0 := by
      unfold mayN
      first | rw [if_pos ‹RightO kd l ls bl = true›] | rw [if_neg (by simp [*])]
      all_goals simp [*]
     rw [e1]
     exact ⟨_, [], rfl, ⟨rfl, rfl⟩, hw1.sub (by simp) (by simp)⟩
   ·
    refine AF 4 29 false _ rfl rfl (by rw [show (RightB (0:UInt64) ep) = false from hb7] <;> rfl) rfl ?_
    refine AF 4 29 false _ rfl rfl (by rw [show (RightB (0:UInt64) ep) = false from hb7] <;> rfl) rfl ?_
    refine AF 4 29 false _ rfl rfl (by rw [show (RightB (0:UInt64) ep) = false from hb7] <;> rfl) rfl ?_
    refine AF 4 29 false _ rfl rfl (by rw [show (RightB (0:UInt64) ep) = false from hb7] <;> rfl) rfl ?_
    refine AF 4 29 false _ rfl rfl (by rw [show (RightB (0:UInt64) ep) = false from hb7] <;> rfl) rfl ?_
    refine AA _ (BO _ rfl (by rw [show (RightB (0:UInt64) ep) = false from hb7] <;> rfl) rfl) rfl ?_
    refine AA _ (AH rfl) rfl ?_
    refine AL (AC (CM _ rfl rfl ?_))
    refine AG (AB (AA (.iface 50 (I64 1)) (FL DI rfl rfl) rfl ?_))
    refine AA _ (AH rfl) rfl ?_
    refine AL (AC (BH (DD (A4 (B5 [false] ?_)))))
    show JQ _ _ _ _ []
    refine BI (.iface 50 (I64 1)) (res1 Tryd.results128 (BU rfl)) fun w1 hw1 => ?_
    have e1 : mayN pv ep kd l ls bl = 1 := by
     unfold mayN
     first | rw [if_pos ‹RightO kd l ls bl = true›] | rw [if_neg (by simp [*])]
     all_goals simp [*]
    rw [e1]
    exact ⟨_, [], rfl, ⟨rfl, rfl⟩, hw1.sub (by simp) (by simp)⟩
theorem clone64N_c  (w : World) : Calls Tryd.prog 112 #[.slice none 0 0] w (Post w [] (fun v L => v = .slice none 0 0 ∧ L = [])) := by
 refine enter w [] 8 [] [.slice none 0 0] Tryd.func112 rfl rfl (by simp) (BY (by simp) (by simp) (by simp)) ?_
 show JC _ _ _ [(0, .slice none 0 0)] _
 refine AG (AB (AA _ (AH rfl) rfl ?_))
 refine AL (AC (AG (AG (AB (AA _ (AE rfl) rfl ?_)))))
 refine AA (.bool true) (DT _ _ _ rfl rfl (fun _ => eqGuard_sl ..) fun _ => eql_sl_nil_nil BR) rfl ?_
 refine AL (AC (CM _ rfl rfl ?_))
 refine AG (AB (AA _ (AH rfl) rfl ?_))
 refine AL (AC (BH (A4 (BI (.slice none 0 0) (res1 Tryd.results112 (BU rfl)) fun w1 hw1 => ?_))))
 exact ⟨_, [], rfl, ⟨rfl, rfl⟩, hw1.sub (by simp) (by simp)⟩
theorem clone64_c (ai : Option Addr) (ni ci : Nat) (l : List UInt64)  (w : World) (hl : l.length = ni) (hnm : ni ≤ 2000000) (hnc : ni ≤ ci) (hcm : ci ≤ maxLen) (hv : RdV w ai (cu64 l)) (ha : ai.isNone = false)  : Calls Tryd.prog 112 #[.slice ai ni ci] w (Post w [] (fun v L => ∃ g sp cap, v = Slc g 0 ni cap ∧ L = [⟨g, cu64 l ++ sp, 22, (0, 0)⟩] ∧ sp.length = cap - ni ∧ ni ≤ cap ∧ cap ≤ maxLen)) := by
 have hmx : maxLen = 9223372036854775807 := rfl
 refine enter w [] 8 [] [.slice ai ni ci] Tryd.func112 rfl rfl (by simp) (BY (by simp) (by simp) (by simp)) ?_
 show JC _ _ _ [(0, .slice ai ni ci)] _
 refine AG (AB (AA _ (AH rfl) rfl ?_))
 refine AL (AC (AG (AG (AB (AA _ (AE rfl) rfl ?_)))))
 refine AA (.bool ai.isNone) (DT _ _ _ rfl rfl (fun _ => eqGuard_sl ..) fun _ => eql_sl_any BR) rfl ?_
 refine AL (AC (BZ _ rfl ha ?_))
 refine BL (AC (AG (AB (A2 (GB 22 1 BR A1) rfl ?_))))
 rintro v1 L1 ⟨nb1, hnb1, rfl, rfl⟩
 show JL _ _ _ _ ((5, Slc nb1 0 0 0) :: _) [⟨nb1, [], 22, (0, 0)⟩]
 refine AA _ (AE rfl) rfl ?_
 refine A2 (Step_appM64 23 22 [true] (Slc nb1 0 0 0) 0 ([] : List UInt64) l ai ni ci ni BR Tryd.info22 rfl (.inr ⟨nb1, [], 0, rfl, (by simp [take?, cu8, cu32, cu64]), rfl, (by simp), (by omega), (by unfold maxLen; omega)⟩) rfl (by first | exact hl | simp [hl]; try omega) (RdV.src hv rfl) (by omega) (by unfold maxLen; omega) (by omega)) rfl ?_
 rintro v1 L1 ⟨nb2, sp1, cp1, hg1, rfl, rfl, ha1, ha2, ha3, ha4⟩
 show JL _ _ _ _ ((7, Slc nb2 0 ni cp1) :: _) [⟨nb2, cu64 (([] : List UInt64) ++ l) ++ sp1, 22, (0, 0)⟩]
 refine AA _ (AH rfl) rfl ?_
 refine AL (AC (BH (BI (Slc nb2 0 ni cp1) (res1 Tryd.results112 (BU rfl)) fun w1 hw1 => ?_)))
 exact ⟨_, _, rfl, ⟨nb2, sp1, cp1, rfl, rfl, ha2, ha3, ha4⟩, hw1.sub (by simp) (by simp)⟩
theorem put7_c (e : UInt64) (d t : List UInt8) (w : World) (hd : d.length = 32) (ht : t.length = 16) : Calls Tryd.prog 97 #[.agg ([U64 e] ++ cu8 d ++ cu8 t).toArray] w (Post w [] (fun v L => ∃ g sp cap, v = Slc g 0 56 cap ∧ L = [⟨g, cu8 (putL e d t) ++ sp, 5, (0, 0)⟩] ∧ sp.length = cap - 56 ∧ 56 ≤ cap ∧ cap ≤ maxLen)) := by
 have hmx : maxLen = 9223372036854775807 := rfl
 refine enter (P := Tryd.prog) (f := 97) (fn := Tryd.f97) w [] 25 [] [.agg ([U64 e] ++ cu8 d ++ cu8 t).toArray] Tryd.func97 rfl rfl (by simp) (BY (by simp) (by simp) (by simp)) ?_
 show JC _ _ _ [(0, .agg ([U64 e] ++ cu8 d ++ cu8 t).toArray)] _
 refine AG (AB (A2 (DN (.agg ([U64 e] ++ cu8 d ++ cu8 t).toArray) ([U64 e] ++ cu8 d ++ cu8 t) rfl (by first | rfl | simp)) rfl ?_))
 rintro v1 L1 ⟨nb1, hnb1, rfl, rfl⟩
 show JL _ _ _ _ ((1, Ptr nb1 0) :: _) [⟨nb1, [U64 e] ++ cu8 d ++ cu8 t, 161, (0, 0)⟩]
 refine AA _ (AH rfl) rfl ?_
 refine AL (AC (AG (AB (AA (.agg #[.nilIface, .slice none 0 0]) (DG [] _ rfl (fun _ => by kernel_rfl)) rfl ?_))))
 refine A2 (DN (.agg #[.nilIface, .slice none 0 0]) ([.nilIface, .slice none 0 0]) rfl (by first | rfl | simp)) rfl ?_
 rintro v1 L1 ⟨nb2, hnb2, rfl, rfl⟩
 show JL _ _ _ _ ((7, Ptr nb2 0) :: _) [_, ⟨nb2, [.nilIface, .slice none 0 0], 149, (0, 0)⟩]
 refine AA _ (AH rfl) rfl ?_
 refine AL (AC (AG (CH 25 5 [(0, Ptr nb2 0), (1, Ptr nb1 0), (2, U64 e), (4, Ptr nb1 1), (5, Slc nb1 1 32 32), (7, Ptr nb1 33), (8, Slc nb1 33 16 16)] BP rfl (by decide +kernel) ?_)))
 refine C5 ⟨[], [0, 1, 2, 4, 5, 7, 8], [], [0, 1, 2, 4, 5, 7, 8], [3]⟩ 3 _ rfl rfl (by decide +kernel) rfl ⟨BQ rfl rfl rfl, ⟨_, rfl, AI rfl (AD 0 22 1 CX rfl A1 rfl rfl)⟩, ⟨_, rfl, AI rfl (AM rfl (A6 BD (AT 0 rfl (A8 (A8 (Seg.head))))))⟩, ⟨_, rfl, AI rfl (AD 1 159 32 CX rfl EN rfl rfl)⟩, ⟨_, rfl, AI rfl (CI 32 5 1 0 32 1 32 D5 BC rfl rfl rfl (by omega) (by omega) (by omega) (by omega) (by omega) 32 (by omega))⟩, ⟨_, rfl, AI rfl (AD 33 27 16 CX rfl BV rfl rfl)⟩, ⟨_, rfl, AI rfl (CI 16 5 1 0 16 33 16 BX BC rfl rfl rfl (by omega) (by omega) (by omega) (by omega) (by omega) 16 (by omega))⟩, trivial⟩ rfl (A7 rfl (DE 81 _ [false, true] [nb2] _ (AZ [Ptr nb2 0, U64 e, I64 8] Tryd.call81 rfl) rfl (fun w1 hw1 => numN_c nb2 8 .nilIface e 8 w1 (hw1.ent _ (List.mem_of_getElem? (i := 1) rfl)) (by unfold Szd; omega) (fun h => absurd h (by omega)) (by omega)))) ?_
 rintro v1 L1 ⟨_, ⟨rfl, nb3, sp1, cp1, rfl, hc1, hc2, hc3⟩, rfl⟩
 refine ⟨[], ?_⟩
 show DP _ _ _ _ _ _ _ _ [_, ⟨nb2, [.nilIface, Slc nb3 0 8 cp1], 149, (0, 0)⟩, ⟨nb3, cu8 (numK 8 e 8) ++ sp1, 5, (0, 0)⟩]
 refine C5 ⟨[3], [0, 1, 2, 4, 5, 7, 8], [0, 1, 2], [4, 5, 7, 8], [6]⟩ 6 _ rfl rfl (by decide +kernel) rfl ⟨⟨_, rfl, AI rfl (AD 1 159 32 CX rfl EN rfl rfl)⟩, ⟨_, rfl, AI rfl (CI 32 5 1 0 32 1 32 D5 BC rfl rfl rfl (by omega) (by omega) (by omega) (by omega) (by omega) 32 (by omega))⟩, ⟨_, rfl, AI rfl (AD 33 27 16 CX rfl BV rfl rfl)⟩, ⟨_, rfl, AI rfl (CI 16 5 1 0 16 33 16 BX BC rfl rfl rfl (by omega) (by omega) (by omega) (by omega) (by omega) 16 (by omega))⟩, trivial⟩ rfl (A7 rfl (DE 82 _ [false, true, true] [nb2, nb3] _ (AZ [Ptr nb2 0, Slc nb1 1 32 32] Tryd.call82 rfl) rfl (fun w1 hw1 => rawO_c nb2 nb3 8 cp1 40 .nilIface (numK 8 e 8) sp1 (some ⟨nb1, 1, none⟩) 32 32 d w1 (hw1.ent _ (List.mem_of_getElem? (i := 1) rfl)) (hw1.ent _ (List.mem_of_getElem? (i := 2) rfl)) (hw1.ne (i := 1) (j := 2) rfl rfl (by decide)) (show (numK 8 e 8).length = 8 from (EA _ _ _)) hc1 hc2 hc3 (by omega) hd (by omega) (RdB.of hw1 (AT 0 rfl (A8 (Seg.right 1 0 rfl rfl (AJ _)))) (by intro _; simp only [List.mem_cons, List.not_mem_nil, or_false, not_or]; exact ⟨hw1.ne (i := 0) (j := 1) rfl rfl (by decide), hw1.ne (i := 0) (j := 2) rfl rfl (by decide)⟩)) (by omega)))) ?_
 rintro v1 L1 ⟨_, ⟨rfl, nb4, sp2, cp2, rfl, hc4, hc5, hc6⟩, rfl⟩
 refine ⟨[], ?_⟩
 show DP _ _ _ _ _ _ _ _ [_, ⟨nb2, [.nilIface, Slc nb4 0 40 cp2], 149, (0, 0)⟩, ⟨nb4, cu8 ((numK 8 e 8) ++ d) ++ sp2, 5, (0, 0)⟩]
 refine C5 ⟨[3, 6], [0, 1, 2, 4, 5, 7, 8], [0, 1, 2, 4, 5], [7, 8], [9]⟩ 9 _ rfl rfl (by decide +kernel) rfl ⟨⟨_, rfl, AI rfl (AD 33 27 16 CX rfl BV rfl rfl)⟩, ⟨_, rfl, AI rfl (CI 16 5 1 0 16 33 16 BX BC rfl rfl rfl (by omega) (by omega) (by omega) (by omega) (by omega) 16 (by omega))⟩, trivial⟩ rfl (A7 rfl (DE 82 _ [false, true, true] [nb2, nb4] _ (AZ [Ptr nb2 0, Slc nb1 33 16 16] Tryd.call82 rfl) rfl (fun w1 hw1 => rawO_c nb2 nb4 40 cp2 56 .nilIface ((numK 8 e 8) ++ d) sp2 (some ⟨nb1, 33, none⟩) 16 16 t w1 (hw1.ent _ (List.mem_of_getElem? (i := 1) rfl)) (hw1.ent _ (List.mem_of_getElem? (i := 2) rfl)) (hw1.ne (i := 1) (j := 2) rfl rfl (by decide)) (show ((numK 8 e 8) ++ d).length = 40 from (by rw [List.length_append, (show (numK 8 e 8).length = 8 from (EA _ _ _)), hd] <;> omega)) hc4 hc5 hc6 (by omega) ht (by omega) (RdB.of hw1 (AT 0 rfl (Seg.right 33 0 (by simp [hd]) rfl (AJ _))) (by intro _; simp only [List.mem_cons, List.not_mem_nil, or_false, not_or]; exact ⟨hw1.ne (i := 0) (j := 1) rfl rfl (by decide), hw1.ne (i := 0) (j := 2) rfl rfl (by decide)⟩)) (by omega)))) ?_
 rintro v1 L1 ⟨_, ⟨rfl, nb5, sp3, cp3, rfl, hc7, hc8, hc9⟩, rfl⟩
 refine ⟨[], ?_⟩
 show DP _ _ _ _ _ _ _ _ [_, ⟨nb2, [.nilIface, Slc nb5 0 56 cp3], 149, (0, 0)⟩, ⟨nb5, cu8 (((numK 8 e 8) ++ d) ++ t) ++ sp3, 5, (0, 0)⟩]
 refine C5 ⟨[3, 6, 9], [0, 1, 2, 4, 5, 7, 8], [0, 1, 2, 4, 5, 7, 8], [], [10]⟩ 10 _ rfl rfl (by decide +kernel) rfl trivial rfl (A7 rfl (B3 83 [Ptr nb2 0] _ (AZ _ Tryd.call83 rfl) (fun w1 hw1 => doneO_c nb2 0 nb5 56 cp3 (((numK 8 e 8) ++ d) ++ t) w1 (RdA.of hw1 (AT 1 rfl (AJ _)) (by simp)) rfl (show (((numK 8 e 8) ++ d) ++ t).length = 56 from (by rw [List.length_append, (show ((numK 8 e 8) ++ d).length = 40 from (by rw [List.length_append, (show (numK 8 e 8).length = 8 from (EA _ _ _)), hd] <;> omega)), ht] <;> omega)) (by omega) (RdB.of hw1 (AT 2 rfl (A8 (AJ _))) (by simp))))) ?_
 rintro v1 L1 ⟨_, ⟨nb6, sp4, cp4, rfl, rfl, hc10, hc11, hc12⟩, rfl⟩
 refine ⟨[(11, .tuple #[Slc nb6 0 56 cp4, .nilIface]), (12, Slc nb6 0 56 cp4), (13, .nilIface), (14, Slc nb6 0 56 cp4), (15, .nilIface)], ?_⟩
 show DP _ _ _ _ _ _ _ _ [_, _, _, ⟨nb6, cu8 (((numK 8 e 8) ++ d) ++ t) ++ sp4, 5, (0, 0)⟩]
 refine C2 ⟨[3, 6, 9, 10], [0, 1, 2, 4, 5, 7, 8, 11, 12, 13, 14, 15], [0, 1, 2, 4, 5, 7, 8], [11, 12, 13, 14, 15], []⟩ rfl rfl (by decide +kernel) rfl ⟨BQ rfl rfl rfl, ⟨_, rfl, AI rfl (BB rfl rfl)⟩, ⟨_, rfl, AI rfl (BB rfl rfl)⟩, ⟨_, rfl, AI rfl (AH rfl)⟩, ⟨_, rfl, AI rfl (AH rfl)⟩, trivial⟩ ?_
 refine CB (F' := [(4, Slc nb6 0 56 cp4), (5, .nilIface), (2, .slice none 0 0)]) (by kernel_rfl) ?_
 refine AC (AG (AG (AB (AA _ (AE rfl) rfl ?_))))
 refine AA (.bool false) (DT _ _ _ rfl rfl (fun _ => FB ..) fun _ => F9 BT) rfl ?_
 refine AL (AC (BZ _ rfl rfl ?_))
 refine BL (AC (AG (AB (AA _ (AE rfl) rfl ?_))))
 refine AA _ (AH rfl) rfl ?_
 refine AL (AC (BH (B5 [false, false, false, true] ?_)))
 show JQ _ _ _ _ [_]
 refine BI (Slc nb6 0 56 cp4) (res1 Tryd.results97 (BU rfl)) fun w1 hw1 => ?_
 have hq : ((numK 8 e 8) ++ d) ++ t = putL e d t := by rw [putL]
 rw [hq] at hw1
 exact ⟨_, _, rfl, ⟨nb6, sp4, cp4, rfl, rfl, hc10, hc11, hc12⟩, hw1.sub (by simp) (by simp)⟩
theorem text3_c (pv ep : UInt64) (k : Nat) (ai : Option Addr) (ni ci : Nat) (l : List UInt64) (sa : Option Addr) (ns sc : Nat) (ls : List SealR) (bl : UInt64) (tg : List UInt8)  (w : World) (hl : l.length = ni) (hnm : ni ≤ 2000000) (hnc : ni ≤ ci) (hcm : ci ≤ maxLen) (hv : RdV w ai (cu64 l)) (hls : ls.length = ns) (hnn : ns ≤ 2000000) (hnd : ns ≤ sc) (hcn : sc ≤ maxLen) (hs : RdV w sa (ls.flatMap sealC)) (htg : tg.length = 16) (hmay : mayN pv ep (k:Int) l ls bl = 0) (hk : k = 3)  : Calls Tryd.prog 114 #[.agg ([U64 pv, U64 ep, I64 k, .slice ai ni ci, .slice sa ns sc, U64 bl] ++ cu8 tg).toArray] w (Post w [] (fun v L => ∃ g sp cap, v = .tuple #[Slc g 0 25 cap, .nilIface] ∧ L = [⟨g, cu8 (tktT pv ep k l ls bl) ++ sp, 5, (0, 0)⟩] ∧ sp.length = cap - 25 ∧ 25 ≤ cap ∧ cap ≤ maxLen)) := by
 have hmx : maxLen = 9223372036854775807 := rfl
 refine enter (P := Tryd.prog) (f := 114) (fn := Tryd.f114) w [] 75 [] [.agg ([U64 pv, U64 ep, I64 k, .slice ai ni ci, .slice sa ns sc, U64 bl] ++ cu8 tg).toArray] Tryd.func114 rfl rfl (by simp) (BY (by simp) (by simp) (by simp)) ?_
 show JC _ _ _ [(0, .agg ([U64 pv, U64 ep, I64 k, .slice ai ni ci, .slice sa ns sc, U64 bl] ++ cu8 tg).toArray)] _
 refine AG (AB (A2 (DN (.agg ([U64 pv, U64 ep, I64 k, .slice ai ni ci, .slice sa ns sc, U64 bl] ++ cu8 tg).toArray) ([U64 pv, U64 ep, I64 k, .slice ai ni ci, .slice sa ns sc, U64 bl] ++ cu8 tg) rfl (by first | rfl | simp)) rfl ?_))
 rintro v1 L1 ⟨nb1, hnb1, rfl, rfl⟩
 show JL _ _ _ _ ((1, Ptr nb1 0) :: _) [⟨nb1, [U64 pv, U64 ep, I64 k, .slice ai ni ci, .slice sa ns sc, U64 bl] ++ cu8 tg, 29, (0, 0)⟩]
 refine AA _ (AH rfl) rfl ?_
 refine AA _ (AH rfl) rfl ?_
 refine AL (AC (AG (AG (AB (AA (.agg ([U64 pv, U64 ep, I64 k, .slice ai ni ci, .slice sa ns sc, U64 bl] ++ cu8 tg).toArray) (AM rfl (A5 BW A3 (by simp [htg]) (AT 0 rfl (AJ _)))) rfl ?_)))))
 refine AY (AX 128 [.agg ([U64 pv, U64 ep, I64 k, .slice ai ni ci, .slice sa ns sc, U64 bl] ++ cu8 tg).toArray] (errV 50 (mayN pv ep ((k:Int)) l ls bl)) (AZ _ Tryd.call128 rfl) (fun w1 hw1 => may13_c pv ep ((k:Int)) ai ni ci l sa ns sc ls bl tg w1 hl (by omega) (by omega) (by omega) (FM hw1 rfl hv) hls (by omega) (by omega) (by omega) (FM hw1 rfl hs) htg)) rfl ?_
 show JL _ _ _ _ ((12, errV 50 (mayN pv ep ((k:Int)) l ls bl)) :: _) [_]
 refine AA _ (AH rfl) rfl ?_
 refine AL (AC (AG (AB (AA _ (AE rfl) rfl ?_))))
 refine AA (.bool (!(decide (mayN pv ep ((k:Int)) l ls bl = 0)))) (DT _ _ _ rfl rfl (fun _ => DB ..) fun _ => EK BT _ _) rfl ?_
 refine AL (AC (BZ _ rfl (by rw [show (decide (mayN pv ep ((k:Int)) l ls bl = 0)) = true from (decide_eq_true hmay)] <;> rfl) ?_))
 refine BL (AC (AG (AB (AA (Ptr nb1 2) (AD 2 26 4 AW rfl BM rfl rfl) rfl ?_))))
 refine AA (.agg #[I64 k, .slice ai ni ci, .slice sa ns sc, U64 bl]) (AM rfl (A5 ED BM rfl (AT 0 rfl (E9 (p := [U64 pv, U64 ep]) (q := cu8 tg) (vs := [I64 k, .slice ai ni ci, .slice sa ns sc, U64 bl]) (by first | rfl | (simp only [List.append_assoc, List.nil_append, List.append_nil, List.cons_append]; done)) rfl)))) rfl ?_
 refine A2 (BN _ ([I64 0, .slice none 0 0, .slice none 0 0, U64 0]) Tryd.zeroValue26 (by kernel_rfl)) rfl ?_
 rintro v1 L1 ⟨nb2, hnb2, rfl, rfl⟩
 show JL _ _ _ _ ((5, Ptr nb2 0) :: _) [_, ⟨nb2, [I64 0, .slice none 0 0, .slice none 0 0, U64 0], 26, (0, 0)⟩]
 refine AY (AU 1 nb2 4 ([I64 0, .slice none 0 0, .slice none 0 0, U64 0]) 26 ([I64 k, .slice ai ni ci, .slice sa ns sc, U64 bl]) rfl rfl rfl BM rfl (by simp [Value.oneCell']) (Nat.le_of_ble_eq_true rfl) (A0 (by simp []))) rfl ?_
 show JL _ _ _ _ _ [_, ⟨nb2, [I64 k, .slice ai ni ci, .slice sa ns sc, U64 bl], 26, (0, 0)⟩]
 refine AL (AC (AG (AB (AA (.agg #[.nilIface, .slice none 0 0]) (DG [] _ rfl (fun _ => by kernel_rfl)) rfl ?_))))
 refine A2 (DN (.agg #[.nilIface, .slice none 0 0]) ([.nilIface, .slice none 0 0]) rfl (by first | rfl | simp)) rfl ?_
 rintro v1 L1 ⟨nb3, hnb3, rfl, rfl⟩
 show JL _ _ _ _ ((19, Ptr nb3 0) :: _) [_, _, ⟨nb3, [.nilIface, .slice none 0 0], 149, (0, 0)⟩]
 refine AA _ (AH rfl) rfl ?_
 refine AL (AC (AG (CH 75 4 [(0, Ptr nb3 0), (1, Ptr nb1 0), (2, U64 pv), (4, Ptr nb1 1), (5, U64 ep), (7, Ptr nb2 0), (8, I64 k), (9, U64 (UInt64.ofNat k))] BP rfl (by decide +kernel) ?_)))
 refine C5 ⟨[], [0, 1, 2, 4, 5, 7, 8, 9], [], [0, 1, 2, 4, 5, 7, 8, 9], [3]⟩ 3 _ rfl rfl (by decide +kernel) rfl ⟨BQ rfl rfl rfl, ⟨_, rfl, AI rfl (AD 0 22 1 AW rfl A1 rfl rfl)⟩, ⟨_, rfl, AI rfl (AM rfl (A6 BD (AT 0 rfl (A8 (Seg.head)))))⟩, ⟨_, rfl, AI rfl (AD 1 22 1 AW rfl A1 rfl rfl)⟩, ⟨_, rfl, AI rfl (AM rfl (A6 BD (AT 0 rfl (A8 (AO (Seg.head))))))⟩, ⟨_, rfl, AI rfl (AD 0 3 1 AV rfl BA rfl rfl)⟩, ⟨_, rfl, AI rfl (AM rfl (A6 BS (AT 1 rfl (Seg.head))))⟩, ⟨_, rfl, AI rfl (EG _ _ rfl fun _ => FV (by rw [DK]; rfl) B8 k _ (by omega))⟩, trivial⟩ rfl (A7 rfl (DE 81 _ [false, false, true] [nb3] _ (AZ [Ptr nb3 0, U64 pv, I64 8] Tryd.call81 rfl) rfl (fun w1 hw1 => numN_c nb3 8 .nilIface pv 8 w1 (hw1.ent _ (List.mem_of_getElem? (i := 2) rfl)) (by unfold Szd; omega) (fun h => absurd h (by omega)) (by omega)))) ?_
 rintro v1 L1 ⟨_, ⟨rfl, nb4, sp1, cp1, rfl, hc1, hc2, hc3⟩, rfl⟩
 refine ⟨[], ?_⟩
 show DP _ _ _ _ _ _ _ _ [_, _, ⟨nb3, [.nilIface, Slc nb4 0 8 cp1], 149, (0, 0)⟩, ⟨nb4, cu8 (numK 8 pv 8) ++ sp1, 5, (0, 0)⟩]
 refine C5 ⟨[3], [0, 1, 2, 4, 5, 7, 8, 9], [0, 1, 2], [4, 5, 7, 8, 9], [6]⟩ 6 _ rfl rfl (by decide +kernel) rfl ⟨⟨_, rfl, AI rfl (AD 1 22 1 AW rfl A1 rfl rfl)⟩, ⟨_, rfl, AI rfl (AM rfl (A6 BD (AT 0 rfl (A8 (AO (Seg.head))))))⟩, ⟨_, rfl, AI rfl (AD 0 3 1 AV rfl BA rfl rfl)⟩, ⟨_, rfl, AI rfl (AM rfl (A6 BS (AT 1 rfl (Seg.head))))⟩, ⟨_, rfl, AI rfl (EG _ _ rfl fun _ => FV (by rw [DK]; rfl) B8 k _ (by omega))⟩, trivial⟩ rfl (A7 rfl (DE 81 _ [false, false, true, true] [nb3, nb4] _ (AZ [Ptr nb3 0, U64 ep, I64 8] Tryd.call81 rfl) rfl (fun w1 hw1 => numO_c nb3 nb4 8 cp1 16 .nilIface (numK 8 pv 8) sp1 ep 8 w1 (hw1.ent _ (List.mem_of_getElem? (i := 2) rfl)) (hw1.ent _ (List.mem_of_getElem? (i := 3) rfl)) (hw1.ne (i := 2) (j := 3) rfl rfl (by decide)) (show (numK 8 pv 8).length = 8 from (EA _ _ _)) hc1 hc2 hc3 (by omega) (by unfold Szd; omega) (fun h => absurd h (by omega)) (by omega)))) ?_
 rintro v1 L1 ⟨_, ⟨rfl, nb5, sp2, cp2, rfl, hc4, hc5, hc6⟩, rfl⟩
 refine ⟨[], ?_⟩
 show DP _ _ _ _ _ _ _ _ [_, _, ⟨nb3, [.nilIface, Slc nb5 0 16 cp2], 149, (0, 0)⟩, ⟨nb5, cu8 ((numK 8 pv 8) ++ numK 8 ep 8) ++ sp2, 5, (0, 0)⟩]
 refine C5 ⟨[3, 6], [0, 1, 2, 4, 5, 7, 8, 9], [0, 1, 2, 4, 5], [7, 8, 9], [10]⟩ 10 _ rfl rfl (by decide +kernel) rfl ⟨⟨_, rfl, AI rfl (AD 0 3 1 AV rfl BA rfl rfl)⟩, ⟨_, rfl, AI rfl (AM rfl (A6 BS (AT 1 rfl (Seg.head))))⟩, ⟨_, rfl, AI rfl (EG _ _ rfl fun _ => FV (by rw [DK]; rfl) B8 k _ (by omega))⟩, trivial⟩ rfl (A7 rfl (DE 81 _ [false, false, true, true] [nb3, nb5] _ (AZ [Ptr nb3 0, U64 (UInt64.ofNat k), I64 1] Tryd.call81 rfl) rfl (fun w1 hw1 => numO_c nb3 nb5 16 cp2 17 .nilIface ((numK 8 pv 8) ++ numK 8 ep 8) sp2 (UInt64.ofNat k) 1 w1 (hw1.ent _ (List.mem_of_getElem? (i := 2) rfl)) (hw1.ent _ (List.mem_of_getElem? (i := 3) rfl)) (hw1.ne (i := 2) (j := 3) rfl rfl (by decide)) (show ((numK 8 pv 8) ++ numK 8 ep 8).length = 16 from (by rw [List.length_append, (show (numK 8 pv 8).length = 8 from (EA _ _ _)), EA] <;> omega)) hc4 hc5 hc6 (by omega) (by unfold Szd; omega) (fun _ => shr8n (by omega)) (by omega)))) ?_
 rintro v1 L1 ⟨_, ⟨rfl, nb6, sp3, cp3, rfl, hc7, hc8, hc9⟩, rfl⟩
 refine ⟨[], ?_⟩
 show DP _ _ _ _ _ _ _ _ [_, _, ⟨nb3, [.nilIface, Slc nb6 0 17 cp3], 149, (0, 0)⟩, ⟨nb6, cu8 (((numK 8 pv 8) ++ numK 8 ep 8) ++ numK 1 (UInt64.ofNat k) 1) ++ sp3, 5, (0, 0)⟩]
 refine C2 ⟨[3, 6, 10], [0, 1, 2, 4, 5, 7, 8, 9], [0, 1, 2, 4, 5, 7, 8, 9], [], []⟩ rfl rfl (by decide +kernel) rfl trivial ?_
 refine CB (F' := [(2, .slice none 0 0), (3, .nilIface), (5, Ptr nb2 0), (6, Ptr nb3 0)]) (by kernel_rfl) ?_
 refine AC (AG (AG (AB (AA (Ptr nb2 0) (AD 0 3 1 AV rfl BA rfl rfl) rfl ?_))))
 refine AA (I64 k) (AM rfl (A6 BS (AT 1 rfl (Seg.head)))) rfl ?_
 refine AA (.bool (decide (((k:Int)) = (3:Int)))) (AP rfl rfl fun _ => CA _ _) rfl ?_
 refine AL (AC (CM _ rfl (decide_eq_true (by omega)) ?_))
 refine AG (AB (AA _ (AE rfl) rfl ?_))
 refine AA (Ptr nb2 3) (AD 3 22 1 AV rfl A1 rfl rfl) rfl ?_
 refine AA (U64 bl) (AM rfl (A6 BD (AT 1 rfl (AO (AO (AO (Seg.head))))))) rfl ?_
 refine A2 (DE 81 _ [false, false, true, true] [nb3, nb6] _ (AZ [Ptr nb3 0, U64 bl, I64 8] Tryd.call81 rfl) rfl (fun w1 hw1 => numO_c nb3 nb6 17 cp3 25 .nilIface (((numK 8 pv 8) ++ numK 8 ep 8) ++ numK 1 (UInt64.ofNat k) 1) sp3 bl 8 w1 (hw1.ent _ (List.mem_of_getElem? (i := 2) rfl)) (hw1.ent _ (List.mem_of_getElem? (i := 3) rfl)) (hw1.ne (i := 2) (j := 3) rfl rfl (by decide)) (show (((numK 8 pv 8) ++ numK 8 ep 8) ++ numK 1 (UInt64.ofNat k) 1).length = 17 from (by rw [List.length_append, (show ((numK 8 pv 8) ++ numK 8 ep 8).length = 16 from (by rw [List.length_append, (show (numK 8 pv 8).length = 8 from (EA _ _ _)), EA] <;> omega)), EA] <;> omega)) hc7 hc8 hc9 (by omega) (by unfold Szd; omega) (fun h => absurd h (by omega)) (by omega))) rfl ?_
 rintro v1 L1 ⟨_, ⟨rfl, nb7, sp4, cp4, rfl, hc10, hc11, hc12⟩, rfl⟩
 show JL _ _ _ _ ((37, Ptr nb3 0) :: _) [_, _, ⟨nb3, [.nilIface, Slc nb7 0 25 cp4], 149, (0, 0)⟩, ⟨nb7, cu8 ((((numK 8 pv 8) ++ numK 8 ep 8) ++ numK 1 (UInt64.ofNat k) 1) ++ numK 8 bl 8) ++ sp4, 5, (0, 0)⟩]
 refine A2 (B3 83 [Ptr nb3 0] _ (AZ _ Tryd.call83 rfl) (fun w1 hw1 => doneO_c nb3 0 nb7 25 cp4 ((((numK 8 pv 8) ++ numK 8 ep 8) ++ numK 1 (UInt64.ofNat k) 1) ++ numK 8 bl 8) w1 (RdA.of hw1 (AT 2 rfl (AJ _)) (by simp)) rfl (show ((((numK 8 pv 8) ++ numK 8 ep 8) ++ numK 1 (UInt64.ofNat k) 1) ++ numK 8 bl 8).length = 25 from (by rw [List.length_append, (show (((numK 8 pv 8) ++ numK 8 ep 8) ++ numK 1 (UInt64.ofNat k) 1).length = 17 from (by rw [List.length_append, (show ((numK 8 pv 8) ++ numK 8 ep 8).length = 16 from (by rw [List.length_append, (show (numK 8 pv 8).length = 8 from (EA _ _ _)), EA] <;> omega)), EA] <;> omega)), EA] <;> omega)) (by omega) (RdB.of hw1 (AT 3 rfl (A8 (AJ _))) (by simp)))) rfl ?_
 rintro v1 L1 ⟨_, ⟨nb8, sp5, cp5, rfl, rfl, hc13, hc14, hc15⟩, rfl⟩
 show JL _ _ _ _ ((38, .tuple #[Slc nb8 0 25 cp5, .nilIface]) :: _) [_, _, _, _, ⟨nb8, cu8 ((((numK 8 pv 8) ++ numK 8 ep 8) ++ numK 1 (UInt64.ofNat k) 1) ++ numK 8 bl 8) ++ sp5, 5, (0, 0)⟩]
 refine AA _ (BB rfl rfl) rfl ?_
 refine AA _ (BB rfl rfl) rfl ?_
 refine AA _ (AH rfl) rfl ?_
 refine AA _ (AH rfl) rfl ?_
 refine AL (AC (BH (A4 (B5 [false, false, false, false, true] ?_))))
 show JQ _ _ _ _ [_]
 refine BI (.tuple #[Slc nb8 0 25 cp5, .nilIface]) (res2 Tryd.results114 (BU rfl) (BU rfl)) fun w1 hw1 => ?_
 have hq : (((numK 8 pv 8) ++ numK 8 ep 8) ++ numK 1 (UInt64.ofNat k) 1) ++ numK 8 bl 8 = tktT pv ep k l ls bl := by
  unfold tktT
  rw [if_pos hk]
 rw [hq] at hw1
 exact ⟨_, _, rfl, ⟨nb8, sp5, cp5, rfl, rfl, hc13, hc14, hc15⟩, hw1.sub (by simp) (by simp)⟩
theorem text12_c (pv ep : UInt64) (k : Nat) (ai : Option Addr) (ni ci : Nat) (l : List UInt64) (sa : Option Addr) (ns sc : Nat) (ls : List SealR) (bl : UInt64) (tg : List UInt8) (tot : Nat)  (w : World) (hl : l.length = ni) (hnm : ni ≤ 2000000) (hnc : ni ≤ ci) (hcm : ci ≤ maxLen) (hv : RdV w ai (cu64 l)) (hls : ls.length = ns) (hnn : ns ≤ 2000000) (hnd : ns ≤ sc) (hcn : sc ≤ maxLen) (hs : RdV w sa (ls.flatMap sealC)) (htg : tg.length = 16) (hmay : mayN pv ep (k:Int) l ls bl = 0) (hk : k = 1 ∨ k = 2) (hsm : ns ≤ 300) (htot : 18 + 4*ni + 56*ns = tot)  : Calls Tryd.prog 114 #[.agg ([U64 pv, U64 ep, I64 k, .slice ai ni ci, .slice sa ns sc, U64 bl] ++ cu8 tg).toArray] w (Post w [] (fun v L => ∃ g sp cap, v = .tuple #[Slc g 0 tot cap, .nilIface] ∧ L = [⟨g, cu8 (tktT pv ep k l ls bl) ++ sp, 5, (0, 0)⟩] ∧ sp.length = cap - tot ∧ tot ≤ cap ∧ cap ≤ maxLen)) := by
 have hmx : maxLen = 9223372036854775807 := rfl
 have hRO := mayN_right hmay
 have hRI := RightO_idx hRO (by omega)
 have hRp := RightI_pos hRI
 rw [hl] at hRp
 refine enter (P := Tryd.prog) (f := 114) (fn := Tryd.f114) w [] 75 [] [.agg ([U64 pv, U64 ep, I64 k, .slice ai ni ci, .slice sa ns sc, U64 bl] ++ cu8 tg).toArray] Tryd.func114 rfl rfl (by simp) (BY (by simp) (by simp) (by simp)) ?_
 show JC _ _ _ [(0, .agg ([U64 pv, U64 ep, I64 k, .slice ai ni ci, .slice sa ns sc, U64 bl] ++ cu8 tg).toArray)] _
 refine AG (AB (A2 (DN (.agg ([U64 pv, U64 ep, I64 k, .slice ai ni ci, .slice sa ns sc, U64 bl] ++ cu8 tg).toArray) ([U64 pv, U64 ep, I64 k, .slice ai ni ci, .slice sa ns sc, U64 bl] ++ cu8 tg) rfl (by first | rfl | simp)) rfl ?_))
 rintro v1 L1 ⟨nb1, hnb1, rfl, rfl⟩
 show JL _ _ _ _ ((1, Ptr nb1 0) :: _) [⟨nb1, [U64 pv, U64 ep, I64 k, .slice ai ni ci, .slice sa ns sc, U64 bl] ++ cu8 tg, 29, (0, 0)⟩]
 refine AA _ (AH rfl) rfl ?_
 refine AA _ (AH rfl) rfl ?_
 refine AL (AC (AG (AG (AB (AA (.agg ([U64 pv, U64 ep, I64 k, .slice ai ni ci, .slice sa ns sc, U64 bl] ++ cu8 tg).toArray) (AM rfl (A5 BW A3 (by simp [htg]) (AT 0 rfl (AJ _)))) rfl ?_)))))
 refine AY (AX 128 [.agg ([U64 pv, U64 ep, I64 k, .slice ai ni ci, .slice sa ns sc, U64 bl] ++ cu8 tg).toArray] (errV 50 (mayN pv ep ((k:Int)) l ls bl)) (AZ _ Tryd.call128 rfl) (fun w1 hw1 => may13_c pv ep ((k:Int)) ai ni ci l sa ns sc ls bl tg w1 hl (by omega) (by omega) (by omega) (FM hw1 rfl hv) hls (by omega) (by omega) (by omega) (FM hw1 rfl hs) htg)) rfl ?_
 show JL _ _ _ _ ((12, errV 50 (mayN pv ep ((k:Int)) l ls bl)) :: _) [_]
 refine AA _ (AH rfl) rfl ?_
 refine AL (AC (AG (AB (AA _ (AE rfl) rfl ?_))))
 refine AA (.bool (!(decide (mayN pv ep ((k:Int)) l ls bl = 0)))) (DT _ _ _ rfl rfl (fun _ => DB ..) fun _ => EK BT _ _) rfl ?_
 refine AL (AC (BZ _ rfl (by rw [show (decide (mayN pv ep ((k:Int)) l ls bl = 0)) = true from (decide_eq_true hmay)] <;> rfl) ?_))
 refine BL (AC (AG (AB (AA (Ptr nb1 2) (AD 2 26 4 AW rfl BM rfl rfl) rfl ?_))))
 refine AA (.agg #[I64 k, .slice ai ni ci, .slice sa ns sc, U64 bl]) (AM rfl (A5 ED BM rfl (AT 0 rfl (E9 (p := [U64 pv, U64 ep]) (q := cu8 tg) (vs := [I64 k, .slice ai ni ci, .slice sa ns sc, U64 bl]) (by first | rfl | (simp only [List.append_assoc, List.nil_append, List.append_nil, List.cons_append]; done)) rfl)))) rfl ?_
 refine A2 (BN _ ([I64 0, .slice none 0 0, .slice none 0 0, U64 0]) Tryd.zeroValue26 (by kernel_rfl)) rfl ?_
 rintro v1 L1 ⟨nb2, hnb2, rfl, rfl⟩
 show JL _ _ _ _ ((5, Ptr nb2 0) :: _) [_, ⟨nb2, [I64 0, .slice none 0 0, .slice none 0 0, U64 0], 26, (0, 0)⟩]
 refine AY (AU 1 nb2 4 ([I64 0, .slice none 0 0, .slice none 0 0, U64 0]) 26 ([I64 k, .slice ai ni ci, .slice sa ns sc, U64 bl]) rfl rfl rfl BM rfl (by simp [Value.oneCell']) (Nat.le_of_ble_eq_true rfl) (A0 (by simp []))) rfl ?_
 show JL _ _ _ _ _ [_, ⟨nb2, [I64 k, .slice ai ni ci, .slice sa ns sc, U64 bl], 26, (0, 0)⟩]
 refine AL (AC (AG (AB (AA (.agg #[.nilIface, .slice none 0 0]) (DG [] _ rfl (fun _ => by kernel_rfl)) rfl ?_))))
 refine A2 (DN (.agg #[.nilIface, .slice none 0 0]) ([.nilIface, .slice none 0 0]) rfl (by first | rfl | simp)) rfl ?_
 rintro v1 L1 ⟨nb3, hnb3, rfl, rfl⟩
 show JL _ _ _ _ ((19, Ptr nb3 0) :: _) [_, _, ⟨nb3, [.nilIface, .slice none 0 0], 149, (0, 0)⟩]
 refine AA _ (AH rfl) rfl ?_
 refine AL (AC (AG (CH 75 4 [(0, Ptr nb3 0), (1, Ptr nb1 0), (2, U64 pv), (4, Ptr nb1 1), (5, U64 ep), (7, Ptr nb2 0), (8, I64 k), (9, U64 (UInt64.ofNat k))] BP rfl (by decide +kernel) ?_)))
 refine C5 ⟨[], [0, 1, 2, 4, 5, 7, 8, 9], [], [0, 1, 2, 4, 5, 7, 8, 9], [3]⟩ 3 _ rfl rfl (by decide +kernel) rfl ⟨BQ rfl rfl rfl, ⟨_, rfl, AI rfl (AD 0 22 1 AW rfl A1 rfl rfl)⟩, ⟨_, rfl, AI rfl (AM rfl (A6 BD (AT 0 rfl (A8 (Seg.head)))))⟩, ⟨_, rfl, AI rfl (AD 1 22 1 AW rfl A1 rfl rfl)⟩, ⟨_, rfl, AI rfl (AM rfl (A6 BD (AT 0 rfl (A8 (AO (Seg.head))))))⟩, ⟨_, rfl, AI rfl (AD 0 3 1 AV rfl BA rfl rfl)⟩, ⟨_, rfl, AI rfl (AM rfl (A6 BS (AT 1 rfl (Seg.head))))⟩, ⟨_, rfl, AI rfl (EG _ _ rfl fun _ => FV (by rw [DK]; rfl) B8 k _ (by omega))⟩, trivial⟩ rfl (A7 rfl (DE 81 _ [false, false, true] [nb3] _ (AZ [Ptr nb3 0, U64 pv, I64 8] Tryd.call81 rfl) rfl (fun w1 hw1 => numN_c nb3 8 .nilIface pv 8 w1 (hw1.ent _ (List.mem_of_getElem? (i := 2) rfl)) (by unfold Szd; omega) (fun h => absurd h (by omega)) (by omega)))) ?_
 rintro v1 L1 ⟨_, ⟨rfl, nb4, sp1, cp1, rfl, hc1, hc2, hc3⟩, rfl⟩
 refine ⟨[], ?_⟩
 show DP _ _ _ _ _ _ _ _ [_, _, ⟨nb3, [.nilIface, Slc nb4 0 8 cp1], 149, (0, 0)⟩, ⟨nb4, cu8 (numK 8 pv 8) ++ sp1, 5, (0, 0)⟩]
 refine C5 ⟨[3], [0, 1, 2, 4, 5, 7, 8, 9], [0, 1, 2], [4, 5, 7, 8, 9], [6]⟩ 6 _ rfl rfl (by decide +kernel) rfl ⟨⟨_, rfl, AI rfl (AD 1 22 1 AW rfl A1 rfl rfl)⟩, ⟨_, rfl, AI rfl (AM rfl (A6 BD (AT 0 rfl (A8 (AO (Seg.head))))))⟩, ⟨_, rfl, AI rfl (AD 0 3 1 AV rfl BA rfl rfl)⟩, ⟨_, rfl, AI rfl (AM rfl (A6 BS (AT 1 rfl (Seg.head))))⟩, ⟨_, rfl, AI rfl (EG _ _ rfl fun _ => FV (by rw [DK]; rfl) B8 k _ (by omega))⟩, trivial⟩ rfl (A7 rfl (DE 81 _ [false, false, true, true] [nb3, nb4] _ (AZ [Ptr nb3 0, U64 ep, I64 8] Tryd.call81 rfl) rfl (fun w1 hw1 => numO_c nb3 nb4 8 cp1 16 .nilIface (numK 8 pv 8) sp1 ep 8 w1 (hw1.ent _ (List.mem_of_getElem? (i := 2) rfl)) (hw1.ent _ (List.mem_of_getElem? (i := 3) rfl)) (hw1.ne (i := 2) (j := 3) rfl rfl (by decide)) (show (numK 8 pv 8).length = 8 from (EA _ _ _)) hc1 hc2 hc3 (by omega) (by unfold Szd; omega) (fun h => absurd h (by omega)) (by omega)))) ?_
 rintro v1 L1 ⟨_, ⟨rfl, nb5, sp2, cp2, rfl, hc4, hc5, hc6⟩, rfl⟩
 refine ⟨[], ?_⟩
 show DP _ _ _ _ _ _ _ _ [_, _, ⟨nb3, [.nilIface, Slc nb5 0 16 cp2], 149, (0, 0)⟩, ⟨nb5, cu8 ((numK 8 pv 8) ++ numK 8 ep 8) ++ sp2, 5, (0, 0)⟩]
 refine C5 ⟨[3, 6], [0, 1, 2, 4, 5, 7, 8, 9], [0, 1, 2, 4, 5], [7, 8, 9], [10]⟩ 10 _ rfl rfl (by decide +kernel) rfl ⟨⟨_, rfl, AI rfl (AD 0 3 1 AV rfl BA rfl rfl)⟩, ⟨_, rfl, AI rfl (AM rfl (A6 BS (AT 1 rfl (Seg.head))))⟩, ⟨_, rfl, AI rfl (EG _ _ rfl fun _ => FV (by rw [DK]; rfl) B8 k _ (by omega))⟩, trivial⟩ rfl (A7 rfl (DE 81 _ [false, false, true, true] [nb3, nb5] _ (AZ [Ptr nb3 0, U64 (UInt64.ofNat k), I64 1] Tryd.call81 rfl) rfl (fun w1 hw1 => numO_c nb3 nb5 16 cp2 17 .nilIface ((numK 8 pv 8) ++ numK 8 ep 8) sp2 (UInt64.ofNat k) 1 w1 (hw1.ent _ (List.mem_of_getElem? (i := 2) rfl)) (hw1.ent _ (List.mem_of_getElem? (i := 3) rfl)) (hw1.ne (i := 2) (j := 3) rfl rfl (by decide)) (show ((numK 8 pv 8) ++ numK 8 ep 8).length = 16 from (by rw [List.length_append, (show (numK 8 pv 8).length = 8 from (EA _ _ _)), EA] <;> omega)) hc4 hc5 hc6 (by omega) (by unfold Szd; omega) (fun _ => shr8n (by omega)) (by omega)))) ?_
 rintro v1 L1 ⟨_, ⟨rfl, nb6, sp3, cp3, rfl, hc7, hc8, hc9⟩, rfl⟩
 refine ⟨[], ?_⟩
 show DP _ _ _ _ _ _ _ _ [_, _, ⟨nb3, [.nilIface, Slc nb6 0 17 cp3], 149, (0, 0)⟩, ⟨nb6, cu8 (((numK 8 pv 8) ++ numK 8 ep 8) ++ numK 1 (UInt64.ofNat k) 1) ++ sp3, 5, (0, 0)⟩]
 refine C2 ⟨[3, 6, 10], [0, 1, 2, 4, 5, 7, 8, 9], [0, 1, 2, 4, 5, 7, 8, 9], [], []⟩ rfl rfl (by decide +kernel) rfl trivial ?_
 refine CB (F' := [(2, .slice none 0 0), (3, .nilIface), (5, Ptr nb2 0), (6, Ptr nb3 0)]) (by kernel_rfl) ?_
 refine AC (AG (AG (AB (AA (Ptr nb2 0) (AD 0 3 1 AV rfl BA rfl rfl) rfl ?_))))
 refine AA (I64 k) (AM rfl (A6 BS (AT 1 rfl (Seg.head)))) rfl ?_
 refine AA (.bool (decide (((k:Int)) = (3:Int)))) (AP rfl rfl fun _ => CA _ _) rfl ?_
 refine AL (AC (BZ _ rfl (decide_eq_false (by omega)) ?_))
 refine BL (AC (AG (AB (AA _ (AE rfl) rfl ?_))))
 refine AA (Ptr nb2 1) (AD 1 23 1 AV rfl B9 rfl rfl) rfl ?_
 refine AA (.slice ai ni ci) (AM rfl (A6 C1 (AT 1 rfl (AO (Seg.head))))) rfl ?_
 refine AA (I64 ni) (DS BR rfl) rfl ?_
 refine AA (I64 ((ni:Int) - 1)) (AP rfl rfl fun _ => D3 _ _ ((ni:Int) - 1) (by omega) (by omega)) rfl ?_
 refine AA (U64 (UInt64.ofNat (ni - 1))) (EG _ _ rfl fun _ => FV (by rw [DK]; rfl) B8 (ni - 1) _ (by omega)) rfl ?_
 refine A2 (DE 81 _ [false, false, true, true] [nb3, nb6] _ (AZ [Ptr nb3 0, U64 (UInt64.ofNat (ni - 1)), I64 1] Tryd.call81 rfl) rfl (fun w1 hw1 => numO_c nb3 nb6 17 cp3 18 .nilIface (((numK 8 pv 8) ++ numK 8 ep 8) ++ numK 1 (UInt64.ofNat k) 1) sp3 (UInt64.ofNat (ni - 1)) 1 w1 (hw1.ent _ (List.mem_of_getElem? (i := 2) rfl)) (hw1.ent _ (List.mem_of_getElem? (i := 3) rfl)) (hw1.ne (i := 2) (j := 3) rfl rfl (by decide)) (show (((numK 8 pv 8) ++ numK 8 ep 8) ++ numK 1 (UInt64.ofNat k) 1).length = 17 from (by rw [List.length_append, (show ((numK 8 pv 8) ++ numK 8 ep 8).length = 16 from (by rw [List.length_append, (show (numK 8 pv 8).length = 8 from (EA _ _ _)), EA] <;> omega)), EA] <;> omega)) hc7 hc8 hc9 (by omega) (by unfold Szd; omega) (fun _ => shr8n (by omega)) (by omega))) rfl ?_
 rintro v1 L1 ⟨_, ⟨rfl, nb7, sp4, cp4, rfl, hc10, hc11, hc12⟩, rfl⟩
 show JL _ _ _ _ ((47, Ptr nb3 0) :: _) [_, _, ⟨nb3, [.nilIface, Slc nb7 0 18 cp4], 149, (0, 0)⟩, ⟨nb7, cu8 ((((numK 8 pv 8) ++ numK 8 ep 8) ++ numK 1 (UInt64.ofNat k) 1) ++ numK 1 (UInt64.ofNat (ni - 1)) 1) ++ sp4, 5, (0, 0)⟩]
 refine AL (AC (AG (AG (AB (AA (Ptr nb2 1) (AD 1 23 1 AV rfl B9 rfl rfl) rfl ?_)))))
 refine AA (.slice ai ni ci) (AM rfl (A6 C1 (AT 1 rfl (AO (Seg.head))))) rfl ?_
 refine AA (I64 ni) (DS BR rfl) rfl ?_
 refine AA _ (AE rfl) rfl ?_
 refine AL (AC (B4 ?_))
 skip
 refine B5 [false, true, true, true] ?_
 show JC _ _ _ _ [_, _, _]
 refine D4 (ι := Nat × List UInt8 × Nat × List Value × Nat) (fun ⟨i, oqi, gqi, spqi, cpqi⟩ => [(2, .slice none 0 0), (3, .nilIface), (5, Ptr nb2 0), (6, Ptr nb3 0), (49, .slice ai ni ci), (50, I64 ni), (51, I64 i)]) (fun ⟨i, oqi, gqi, spqi, cpqi⟩ => [⟨nb2, [I64 k, .slice ai ni ci, .slice sa ns sc, U64 bl], 26, (0, 0)⟩, ⟨nb3, [.nilIface, Slc gqi 0 (4*i + 18) cpqi], 149, (0, 0)⟩, ⟨gqi, cu8 oqi ++ spqi, 5, (0, 0)⟩]) (fun ⟨i, oqi, gqi, spqi, cpqi⟩ => i ≤ ni ∧ oqi = (((numK 8 pv 8 ++ numK 8 ep 8) ++ numK 1 (UInt64.ofNat k) 1) ++ numK 1 (UInt64.ofNat (ni - 1)) 1) ++ idxT l i ∧ oqi.length = (4*i + 18) ∧ spqi.length = cpqi - ((4*i + 18)) ∧ (4*i + 18) ≤ cpqi ∧ cpqi ≤ maxLen) (fun ⟨i, oqi, gqi, spqi, cpqi⟩ => ni - i) (0, (((numK 8 pv 8) ++ numK 8 ep 8) ++ numK 1 (UInt64.ofNat k) 1) ++ numK 1 (UInt64.ofNat (ni - 1)) 1, nb7, sp4, cp4) ⟨by omega, by rw [idxT_zero, List.append_nil], (by have h := (show ((((numK 8 pv 8) ++ numK 8 ep 8) ++ numK 1 (UInt64.ofNat k) 1) ++ numK 1 (UInt64.ofNat (ni - 1)) 1).length = 18 from (by rw [List.length_append, (show (((numK 8 pv 8) ++ numK 8 ep 8) ++ numK 1 (UInt64.ofNat k) 1).length = 17 from (by rw [List.length_append, (show ((numK 8 pv 8) ++ numK 8 ep 8).length = 16 from (by rw [List.length_append, (show (numK 8 pv 8).length = 8 from (EA _ _ _)), EA] <;> omega)), EA] <;> omega)), EA] <;> omega)); omega), (by have h := hc10; omega), by omega, by omega⟩ (Sub.all rfl) (by first | rfl | (simp; done)) ?_
 rintro ⟨i, oqi, gqi, spqi, cpqi⟩ ⟨hi1, hi2, hi3, hi4, hi5, hi6⟩
 show JC _ _ _ [(2, .slice none 0 0), (3, .nilIface), (5, Ptr nb2 0), (6, Ptr nb3 0), (49, .slice ai ni ci), (50, I64 ni), (51, I64 i)] [⟨nb2, [I64 k, .slice ai ni ci, .slice sa ns sc, U64 bl], 26, (0, 0)⟩, ⟨nb3, [.nilIface, Slc gqi 0 (4*i + 18) cpqi], 149, (0, 0)⟩, ⟨gqi, cu8 oqi ++ spqi, 5, (0, 0)⟩]
 refine AG (AB (AA (.bool (decide (((i:Int)) < ((ni:Int))))) (AP rfl rfl fun _ => DC _ _) rfl ?_))
 refine AL (AC (AG (CL (decide (((i:Int)) < ((ni:Int)))) rfl (fun hb1 => ?_) (fun hb1 => ?_))))
 ·
  have hp1 : ((i:Int)) < ((ni:Int)) := of_decide_eq_true hb1
  refine BL (AC (AG (B4 (AG (AB ?_)))))
  obtain ⟨bz1, oz1, hz1, hm1⟩ := RdV.pos hv (by rw [FX, hl]; omega)
  refine AA (Ptr bz1 (i + oz1)) (C9 22 1 (i + oz1) BR A1 rfl hz1 rfl (by omega) (by omega) (by omega)) rfl ?_
  refine AA (U64 (g64 l i)) (AM rfl (A6 BD (CW (hm1.mem (by simp)) (Seg.get (g64_get (i := i) (by rw [hl]; omega))) (by omega)))) rfl ?_
  refine AA _ (AH rfl) rfl ?_
  refine AL (AC (AB (AA _ (AE rfl) rfl ?_)))
  refine AA _ (AE rfl) rfl ?_
  refine A2 (DE 81 _ [false, true, true] [nb3, gqi] _ (AZ [Ptr nb3 0, U64 (g64 l i), I64 4] Tryd.call81 rfl) rfl (fun w1 hw1 => numO_c nb3 gqi (4*i + 18) cpqi (4*i + 22) .nilIface oqi spqi (g64 l i) 4 w1 (hw1.ent _ (List.mem_of_getElem? (i := 1) rfl)) (hw1.ent _ (List.mem_of_getElem? (i := 2) rfl)) (hw1.ne (i := 1) (j := 2) rfl rfl (by decide)) hi3 hi4 hi5 hi6 (by omega) (by unfold Szd; omega) (fun _ => idx_fit hRI (by omega)) (by omega))) rfl ?_
  rintro v1 L1 ⟨_, ⟨rfl, nb8, sp5, cp5, rfl, hc13, hc14, hc15⟩, rfl⟩
  show JL _ _ _ _ ((57, Ptr nb3 0) :: _) [_, ⟨nb3, [.nilIface, Slc nb8 0 (4*i + 22) cp5], 149, (0, 0)⟩, ⟨nb8, cu8 (oqi ++ numK 4 (g64 l i) 4) ++ sp5, 5, (0, 0)⟩]
  refine AL (B0 (AC (AB (AA (I64 ((i:Int) + 1)) (AP rfl rfl fun _ => DL _ _ ((i:Int) + 1) (by omega) (by omega)) rfl ?_))))
  refine AA _ (AE rfl) rfl ?_
  refine AL (DO (ER (i + 1, oqi ++ numK 4 (g64 l i) 4, nb8, sp5, cp5) ⟨by omega, by rw [hi2, idxT_succ, List.append_assoc], (by have h := (show (oqi ++ numK 4 (g64 l i) 4).length = (4*i + 22) from (by rw [List.length_append, hi3, EA] <;> omega)); omega), (by have h := hc13; omega), by omega, by omega⟩ (by first | (simp; omega) | simp | (dsimp only; omega) | omega) (Sub.all rfl) (by first | rfl | rw [show (4*i + 22) = (4*(i + 1) + 18) by omega])))
 ·
  have hp1 : ¬ (((i:Int)) < ((ni:Int))) := of_decide_eq_false hb1
  refine DU (A9 (A9 (CR (AC (AG (AG (AB (AA (Ptr nb2 2) (AD 2 24 1 AV rfl C8 rfl rfl) rfl ?_))))))))
  refine AA (.slice sa ns sc) (AM rfl (A6 DQ (AT 0 rfl (AO (AO (Seg.head)))))) rfl ?_
  refine AA (I64 ns) (DS CO rfl) rfl ?_
  refine AA _ (AE rfl) rfl ?_
  refine AL (AC (B4 ?_))
  have ei : ni = i := by omega
  subst ei
  show JC _ _ _ _ [⟨nb2, [I64 k, .slice ai ni ci, .slice sa ns sc, U64 bl], 26, (0, 0)⟩, ⟨nb3, [.nilIface, Slc gqi 0 (4*ni + 18) cpqi], 149, (0, 0)⟩, ⟨gqi, cu8 oqi ++ spqi, 5, (0, 0)⟩]
  refine B5 [false, true, true] ?_
  show JC _ _ _ _ [_, _]
  refine D4 (ι := Nat × List UInt8 × Nat × List Value × Nat) (fun ⟨j, oqj, gqj, spqj, cpqj⟩ => [(2, .slice none 0 0), (3, .nilIface), (6, Ptr nb3 0), (60, .slice sa ns sc), (61, I64 ns), (62, I64 j)]) (fun ⟨j, oqj, gqj, spqj, cpqj⟩ => [⟨nb3, [.nilIface, Slc gqj 0 (56*j + 4*ni + 18) cpqj], 149, (0, 0)⟩, ⟨gqj, cu8 oqj ++ spqj, 5, (0, 0)⟩]) (fun ⟨j, oqj, gqj, spqj, cpqj⟩ => j ≤ ns ∧ oqj = ((((numK 8 pv 8 ++ numK 8 ep 8) ++ numK 1 (UInt64.ofNat k) 1) ++ numK 1 (UInt64.ofNat (ni - 1)) 1) ++ idxT l ni) ++ selT (ls.take j) ∧ oqj.length = (56*j + 4*ni + 18) ∧ spqj.length = cpqj - ((56*j + 4*ni + 18)) ∧ (56*j + 4*ni + 18) ≤ cpqj ∧ cpqj ≤ maxLen) (fun ⟨j, oqj, gqj, spqj, cpqj⟩ => ns - j) (0, oqi, gqi, spqi, cpqi) ⟨by omega, by rw [hi2]; simp [selT_nil], (by have h := hi3; omega), (by have h := hi4; omega), by omega, by omega⟩ (Sub.all rfl) (by first | rfl | (simp; done)) ?_
  rintro ⟨j, oqj, gqj, spqj, cpqj⟩ ⟨hj1, hj2, hj3, hj4, hj5, hj6⟩
  show JC _ _ _ [(2, .slice none 0 0), (3, .nilIface), (6, Ptr nb3 0), (60, .slice sa ns sc), (61, I64 ns), (62, I64 j)] [⟨nb3, [.nilIface, Slc gqj 0 (56*j + 4*ni + 18) cpqj], 149, (0, 0)⟩, ⟨gqj, cu8 oqj ++ spqj, 5, (0, 0)⟩]
  refine AG (AB (AA (.bool (decide (((j:Int)) < ((ns:Int))))) (AP rfl rfl fun _ => DC _ _) rfl ?_))
  refine AL (AC (AG (CL (decide (((j:Int)) < ((ns:Int)))) rfl (fun hb2 => ?_) (fun hb2 => ?_))))
  ·
   have hp2 : ((j:Int)) < ((ns:Int)) := of_decide_eq_true hb2
   refine BL (AC (AG (B4 (AG (AB ?_)))))
   obtain ⟨x1, hx1⟩ : ∃ x, ls[j]? = some x := ⟨_, List.getElem?_eq_getElem (by rw [hls]; omega)⟩
   obtain ⟨bz2, oz2, hz2, hm2⟩ := rows_at FH (by decide) hs hx1
   refine AA (Ptr bz2 (49*j + oz2)) (C9 161 49 (49*j + oz2) CO CD rfl hz2 rfl (by omega) (by omega) (by omega)) rfl ?_
   refine AA (.agg ([U64 x1.e] ++ cu8 x1.d ++ cu8 x1.t).toArray) (AM rfl (A5 D1 CD (by simp [x1.hd, x1.ht]) (CW (hm2.mem (by simp)) (AJ _) (by omega)))) rfl ?_
   refine A2 (BN _ ([U64 0] ++ cu8 (zr8 32) ++ cu8 (zr8 16)) Tryd.zeroValue161 (by kernel_rfl)) rfl ?_
   rintro v1 L1 ⟨nb9, hnb9, rfl, rfl⟩
   show JL _ _ _ _ ((10, Ptr nb9 0) :: _) [_, _, ⟨nb9, [U64 0] ++ cu8 (zr8 32) ++ cu8 (zr8 16), 161, (0, 0)⟩]
   refine AY (AU 2 nb9 49 ([U64 0] ++ cu8 (zr8 32) ++ cu8 (zr8 16)) 161 ([U64 x1.e] ++ cu8 x1.d ++ cu8 x1.t) rfl rfl rfl CD (by simp [x1.hd, x1.ht]) (CK (CK (by simp [Value.oneCell']) CF) CF) (by simp [(AN 32), (AN 16)]) (A0 (by simp [(AN 32), (AN 16), x1.hd, x1.ht]))) rfl ?_
   show JL _ _ _ _ _ [_, _, ⟨nb9, [U64 x1.e] ++ cu8 x1.d ++ cu8 x1.t, 161, (0, 0)⟩]
   refine AL (AC (AB (AA _ (AE rfl) rfl ?_)))
   refine AA (.agg ([U64 x1.e] ++ cu8 x1.d ++ cu8 x1.t).toArray) (AM rfl (A5 D1 CD (by simp [x1.hd, x1.ht]) (AT 2 rfl (AJ _)))) rfl ?_
   refine A2 (B3 97 [.agg ([U64 x1.e] ++ cu8 x1.d ++ cu8 x1.t).toArray] _ (AZ _ Tryd.call97 rfl) (fun w1 hw1 => put7_c x1.e x1.d x1.t w1 x1.hd x1.ht)) rfl ?_
   rintro v1 L1 ⟨_, ⟨nb10, sp6, cp6, rfl, rfl, hc16, hc17, hc18⟩, rfl⟩
   show JL _ _ _ _ ((68, Slc nb10 0 56 cp6) :: _) [_, _, _, ⟨nb10, cu8 (putL x1.e x1.d x1.t) ++ sp6, 5, (0, 0)⟩]
   refine A2 (DE 82 _ [true, true, false, false] [nb3, gqj] _ (AZ [Ptr nb3 0, Slc nb10 0 56 cp6] Tryd.call82 rfl) rfl (fun w1 hw1 => rawO_c nb3 gqj (56*j + 4*ni + 18) cpqj (56*j + 4*ni + 74) .nilIface oqj spqj (some ⟨nb10, 0, none⟩) 56 cp6 (putL x1.e x1.d x1.t) w1 (hw1.ent _ (List.mem_of_getElem? (i := 0) rfl)) (hw1.ent _ (List.mem_of_getElem? (i := 1) rfl)) (hw1.ne (i := 0) (j := 1) rfl rfl (by decide)) hj3 hj4 hj5 hj6 (by omega) (show (putL x1.e x1.d x1.t).length = 56 from (putL_len x1.hd x1.ht)) (by omega) (RdB.of hw1 (AT 3 rfl (A8 (AJ _))) (by intro _; simp only [List.mem_cons, List.not_mem_nil, or_false, not_or]; exact ⟨hw1.ne (i := 3) (j := 0) rfl rfl (by decide), hw1.ne (i := 3) (j := 1) rfl rfl (by decide)⟩)) (by omega))) rfl ?_
   rintro v1 L1 ⟨_, ⟨rfl, nb11, sp7, cp7, rfl, hc19, hc20, hc21⟩, rfl⟩
   show JL _ _ _ _ ((69, Ptr nb3 0) :: _) [_, _, ⟨nb3, [.nilIface, Slc nb11 0 (56*j + 4*ni + 74) cp7], 149, (0, 0)⟩, ⟨nb11, cu8 (oqj ++ (putL x1.e x1.d x1.t)) ++ sp7, 5, (0, 0)⟩]
   refine AL (B0 (AC (AB (AA (I64 ((j:Int) + 1)) (AP rfl rfl fun _ => DL _ _ ((j:Int) + 1) (by omega) (by omega)) rfl ?_))))
   refine AA _ (AE rfl) rfl ?_
   refine AL (DO (B5 [false, false, true, true] ?_))
   show K _ _ [_, _] _
   refine ER (j + 1, oqj ++ (putL x1.e x1.d x1.t), nb11, sp7, cp7) ⟨by omega, by rw [hj2, ← take_step hx1, selT_app, List.append_assoc], (by have h := (show (oqj ++ (putL x1.e x1.d x1.t)).length = (56*j + 4*ni + 74) from (by rw [List.length_append, hj3, (show (putL x1.e x1.d x1.t).length = 56 from (putL_len x1.hd x1.ht))] <;> omega)); omega), (by have h := hc19; omega), by omega, by omega⟩ (by first | (simp; omega) | simp | (dsimp only; omega) | omega) (Sub.all rfl) (by first | rfl | rw [show (56*j + 4*ni + 74) = (56*(j + 1) + 4*ni + 18) by omega])
  ·
   have hp2 : ¬ (((j:Int)) < ((ns:Int))) := of_decide_eq_false hb2
   refine DU (A9 (A9 (CR (AC (AG (AB (AA _ (AE rfl) rfl ?_)))))))
   refine A2 (B3 83 [Ptr nb3 0] _ (AZ _ Tryd.call83 rfl) (fun w1 hw1 => doneO_c nb3 0 gqj (56*j + 4*ni + 18) cpqj oqj w1 (RdA.of hw1 (AT 0 rfl (AJ _)) (by simp)) rfl hj3 (by omega) (RdB.of hw1 (AT 1 rfl (A8 (AJ _))) (by simp)))) rfl ?_
   rintro v1 L1 ⟨_, ⟨nb12, sp8, cp8, rfl, rfl, hc22, hc23, hc24⟩, rfl⟩
   show JL _ _ _ _ ((72, .tuple #[Slc nb12 0 (56*j + 4*ni + 18) cp8, .nilIface]) :: _) [_, _, ⟨nb12, cu8 oqj ++ sp8, 5, (0, 0)⟩]
   refine AA _ (BB rfl rfl) rfl ?_
   refine AA _ (BB rfl rfl) rfl ?_
   refine AA _ (AH rfl) rfl ?_
   refine AA _ (AH rfl) rfl ?_
   refine AL (AC (BH (B5 [false, false, true] ?_)))
   show JQ _ _ _ _ [_]
   refine BI (.tuple #[Slc nb12 0 (56*j + 4*ni + 18) cp8, .nilIface]) (res2 Tryd.results114 (BU rfl) (BU rfl)) fun w1 hw1 => ?_
   obtain rfl : j = ns := by omega
   have hq : oqj = tktT pv ep k l ls bl := by
    unfold tktT
    rw [if_neg (by omega), hl, hj2, List.take_of_length_le (by omega)]
   rw [hq] at hw1
   obtain rfl : tot = (56*j + 4*ni + 18) := by omega
   exact ⟨_, _, rfl, ⟨nb12, sp8, cp8, rfl, rfl, hc22, hc23, hc24⟩, hw1.sub (by simp) (by simp)⟩
attribute [local irreducible] tktT mayN idxT selT macL
theorem text_w (pv ep : UInt64) (k : Nat) (ai : Option Addr) (ni ci : Nat) (l : List UInt64) (sa : Option Addr) (ns sc : Nat) (ls : List SealR) (bl : UInt64) (tg : List UInt8) (tot : Nat) (w : World) (hl : l.length = ni) (hnm : ni ≤ 2000000) (hnc : ni ≤ ci) (hcm : ci ≤ maxLen) (hv : RdV w ai (cu64 l)) (hls : ls.length = ns) (hnn : ns ≤ 2000000) (hnd : ns ≤ sc) (hcn : sc ≤ maxLen) (hs : RdV w sa (ls.flatMap sealC)) (htg : tg.length = 16) (hmay : mayN pv ep (k:Int) l ls bl = 0) (hk : k = 1 ∨ k = 2 ∨ k = 3) (hsm : ns ≤ 300) (htot : tktN k ni ns = tot) : Calls Tryd.prog 114 #[.agg ([U64 pv, U64 ep, I64 k, .slice ai ni ci, .slice sa ns sc, U64 bl] ++ cu8 tg).toArray] w (Post w [] (fun v L => ∃ g sp cap, v = .tuple #[Slc g 0 tot cap, .nilIface] ∧ L = [⟨g, cu8 (tktT pv ep k l ls bl) ++ sp, 5, (0, 0)⟩] ∧ sp.length = cap - tot ∧ tot ≤ cap ∧ cap ≤ maxLen)) := by
  by_cases h3 : k = 3
  · have e : tot = 25 := by rw [← htot]; unfold tktN; rw [if_pos h3]
    subst e
    exact text3_c pv ep k ai ni ci l sa ns sc ls bl tg w hl hnm hnc hcm hv hls hnn hnd hcn hs htg hmay h3
  · exact text12_c pv ep k ai ni ci l sa ns sc ls bl tg tot w hl hnm hnc hcm hv hls hnn hnd hcn hs htg hmay (by omega) hsm (by rw [← htot]; unfold tktN; rw [if_neg h3])
theorem put13_c (pv ep : UInt64) (k : Nat) (ai : Option Addr) (ni ci : Nat) (l : List UInt64) (sa : Option Addr) (ns sc : Nat) (ls : List SealR) (bl : UInt64) (tg : List UInt8) (tot : Nat)  (w : World) (hl : l.length = ni) (hnm : ni ≤ 2000000) (hnc : ni ≤ ci) (hcm : ci ≤ maxLen) (hv : RdV w ai (cu64 l)) (hls : ls.length = ns) (hnn : ns ≤ 2000000) (hnd : ns ≤ sc) (hcn : sc ≤ maxLen) (hs : RdV w sa (ls.flatMap sealC)) (htg : tg.length = 16) (hmay : mayN pv ep (k:Int) l ls bl = 0) (hk : k = 1 ∨ k = 2 ∨ k = 3) (hsm : ns ≤ 300) (htot : tktN k ni ns = tot) (htb : tot ≤ 30000)  : Calls Tryd.prog 47 #[.agg ([U64 pv, U64 ep, I64 k, .slice ai ni ci, .slice sa ns sc, U64 bl] ++ cu8 tg).toArray] w (Post w [] (fun v L => ∃ g sp cap, v = .tuple #[Slc g 0 (tot + 16) cap, .nilIface] ∧ L = [⟨g, cu8 ((tktT pv ep k l ls bl) ++ tg) ++ sp, 5, (0, 0)⟩] ∧ sp.length = cap - (tot + 16) ∧ (tot + 16) ≤ cap ∧ cap ≤ maxLen)) := by
 have hmx : maxLen = 9223372036854775807 := rfl
 refine enter (P := Tryd.prog) (f := 47) (fn := Tryd.f47) w [] 18 [] [.agg ([U64 pv, U64 ep, I64 k, .slice ai ni ci, .slice sa ns sc, U64 bl] ++ cu8 tg).toArray] Tryd.func47 rfl rfl (by simp) (BY (by simp) (by simp) (by simp)) ?_
 show JC _ _ _ [(0, .agg ([U64 pv, U64 ep, I64 k, .slice ai ni ci, .slice sa ns sc, U64 bl] ++ cu8 tg).toArray)] _
 refine AG (AB (A2 (DN (.agg ([U64 pv, U64 ep, I64 k, .slice ai ni ci, .slice sa ns sc, U64 bl] ++ cu8 tg).toArray) ([U64 pv, U64 ep, I64 k, .slice ai ni ci, .slice sa ns sc, U64 bl] ++ cu8 tg) rfl (by first | rfl | simp)) rfl ?_))
 rintro v1 L1 ⟨nb1, hnb1, rfl, rfl⟩
 show JL _ _ _ _ ((1, Ptr nb1 0) :: _) [⟨nb1, [U64 pv, U64 ep, I64 k, .slice ai ni ci, .slice sa ns sc, U64 bl] ++ cu8 tg, 29, (0, 0)⟩]
 refine AA _ (AH rfl) rfl ?_
 refine AA _ (AH rfl) rfl ?_
 refine AL (AC (AG (AB (AA (.agg ([U64 pv, U64 ep, I64 k, .slice ai ni ci, .slice sa ns sc, U64 bl] ++ cu8 tg).toArray) (AM rfl (A5 BW A3 (by simp [htg]) (AT 0 rfl (AJ _)))) rfl ?_))))
 refine A2 (B3 114 [.agg ([U64 pv, U64 ep, I64 k, .slice ai ni ci, .slice sa ns sc, U64 bl] ++ cu8 tg).toArray] _ (AZ _ Tryd.call114 rfl) (fun w1 hw1 => text_w pv ep k ai ni ci l sa ns sc ls bl tg tot w1 hl (by omega) (by omega) (by omega) (FM hw1 rfl hv) hls (by omega) (by omega) (by omega) (FM hw1 rfl hs) htg hmay hk hsm htot)) rfl ?_
 rintro v1 L1 ⟨_, ⟨nb2, sp1, cp1, rfl, rfl, hc1, hc2, hc3⟩, rfl⟩
 show JL _ _ _ _ ((8, .tuple #[Slc nb2 0 tot cp1, .nilIface]) :: _) [_, ⟨nb2, cu8 (tktT pv ep k l ls bl) ++ sp1, 5, (0, 0)⟩]
 refine AA _ (AE rfl) rfl ?_
 refine AA _ (BB rfl rfl) rfl ?_
 refine AA _ (BB rfl rfl) rfl ?_
 refine AA _ (AH rfl) rfl ?_
 refine AA _ (AH rfl) rfl ?_
 refine AL (AC (AG (AG (AB (AA _ (AE rfl) rfl ?_)))))
 refine AA (.bool false) (DT _ _ _ rfl rfl (fun _ => FB ..) fun _ => F9 BT) rfl ?_
 refine AL (AC (BZ _ rfl rfl ?_))
 refine BL (AC (AG (AB (AA _ (AE rfl) rfl ?_))))
 refine AA (Ptr nb1 6) (AD 6 27 16 AW rfl BV rfl rfl) rfl ?_
 refine AA (Slc nb1 6 16 16) (CI 16 5 1 0 16 6 16 BX BC rfl rfl rfl (by omega) (by omega) (by omega) (by omega) (by omega) 16 (by omega)) rfl ?_
 refine A2 (E8 43 5 [false, true] (Slc nb2 0 tot cp1) tot (tktT pv ep k l ls bl) tg (some ⟨nb1, 6, none⟩) 16 16 (tot + 16) AR E7 rfl (.inr ⟨nb2, sp1, cp1, rfl, rfl, (by first | exact (show (tktT pv ep k l ls bl).length = tot from ((tktT_len hl hls).trans htot)) | simp [(show (tktT pv ep k l ls bl).length = tot from ((tktT_len hl hls).trans htot))]), hc1, (by omega), (by omega)⟩) rfl (by first | exact htg | simp [htg]; try omega) (SrcAt.mem (AT 0 rfl (Seg.right 6 0 rfl rfl (AJ _)))) (by omega) (by unfold maxLen; omega) (by omega)) rfl ?_
 rintro v1 L1 ⟨nb3, sp2, cp2, hg1, rfl, rfl, ha1, ha2, ha3, ha4⟩
 show JL _ _ _ _ ((17, Slc nb3 0 (tot + 16) cp2) :: _) [_, ⟨nb3, cu8 ((tktT pv ep k l ls bl) ++ tg) ++ sp2, 5, (0, 0)⟩]
 refine AA _ (AH rfl) rfl ?_
 refine AA _ (AH rfl) rfl ?_
 refine AL (AC (BH (B5 [false, true] ?_)))
 show JQ _ _ _ _ [_]
 refine BI (.tuple #[Slc nb3 0 (tot + 16) cp2, .nilIface]) (res2 Tryd.results47 (BU rfl) (BU rfl)) fun w1 hw1 => ?_
 exact ⟨_, _, rfl, ⟨nb3, sp2, cp2, rfl, rfl, ha2, ha3, ha4⟩, hw1.sub (by simp) (by simp)⟩
end Go.Proofs.YtkdpdgpphpngeaaDoor
namespace Go.Proofs.YtkdpdgpphpngeaaDoor
open Go Go.Sx
attribute [local irreducible] mid zr8 zr32 rotr wordL spreadL comprL cpN adN spN constL initL padL stN outN hashL sumG blkL xbN macL orN
theorem block_c (ao : Option Addr) (n cb : Nat) (b : List UInt8) (w : World) (hb : b.length = n) (hcb : ao = none → cb = 0) (hn : n ≤ 17592186044416) (hr : RdB w [] ao b) (hG : GLs w) : Calls Tryd.prog 171 #[.slice ao n cb] w (Post w [] (fun v L => v = .agg (cu8 (blkL b)).toArray ∧ L = [])) := by
 refine enter w [] 15 [] [.slice ao n cb] Tryd.func171 rfl rfl (by simp) (BY (by simp) (by simp) (by simp)) ?_
 show JC _ _ _ [(0, .slice ao n cb)] _
 refine AG (AB (A2 (BN _ (cu8 (zr8 64)) Tryd.zeroValue262 (by kernel_rfl)) rfl ?_))
 rintro v1 L1 ⟨nb1, hnb1, rfl, rfl⟩
 show JL _ _ _ _ ((2, Ptr nb1 0) :: _) [⟨nb1, cu8 (zr8 64), 262, (0, 0)⟩]
 refine AL (AC (AG (AB (A2 (BN _ (cu8 (zr8 64)) Tryd.zeroValue262 (by kernel_rfl)) rfl ?_))))
 rintro v1 L1 ⟨nb2, hnb2, rfl, rfl⟩
 show JL _ _ _ _ ((3, Ptr nb2 0) :: _) [_, ⟨nb2, cu8 (zr8 64), 262, (0, 0)⟩]
 refine AL (AC (AG (AG (AB (AA _ (AE rfl) rfl ?_)))))
 refine AA (I64 n) (DS AR rfl) rfl ?_
 refine AA (.bool (decide ((64:Int) < ((n:Int))))) (AP rfl rfl fun _ => EL _ _) rfl ?_
 refine AL (AC (CL (decide ((64:Int) < ((n:Int)))) rfl (fun hb1 => ?_) (fun hb1 => ?_)))
 ·
  have hp1 : (64:Int) < ((n:Int)) := of_decide_eq_true hb1
  refine AG (AB (AA _ (AE rfl) rfl ?_))
  refine AY (AX 177 [.slice ao n cb] (.agg (cu8 (sumG constL initL b)).toArray) (AZ _ Tryd.call177 rfl) (fun w1 hw1 => sum_c ao n cb b w1 hb hcb (by omega) (hr.at (M' := []) hw1 (by simp)) (hG.at hw1))) rfl ?_
  show JL _ _ _ _ ((9, .agg (cu8 (sumG constL initL b)).toArray) :: _) [_, _]
  refine A2 (BN _ (cu8 (zr8 32)) Tryd.zeroValue54 (by kernel_rfl)) rfl ?_
  rintro v1 L1 ⟨nb3, hnb3, rfl, rfl⟩
  show JL _ _ _ _ ((4, Ptr nb3 0) :: _) [_, _, ⟨nb3, cu8 (zr8 32), 54, (0, 0)⟩]
  refine AY (AU 2 nb3 32 (cu8 (zr8 32)) 54 (cu8 (sumG constL initL b)) rfl rfl rfl D7 (DY (EJ _ _ _)) (by first | exact CF | exact EI | exact EE | (simp [cu8, cu32, cu64, Value.oneCell']; done)) (by simp [(AN 32)]) (A0 (by simp [(AN 32), (EJ _ _ _)]))) rfl ?_
  show JL _ _ _ _ _ [_, _, ⟨nb3, cu8 (sumG constL initL b), 54, (0, 0)⟩]
  refine AL (AC (AB (AA (Slc nb3 0 32 32) (CI 32 5 1 0 32 0 32 D0 BC rfl rfl rfl (by omega) (by omega) (by omega) (by omega) (by omega) 32 (by omega)) rfl ?_)))
  refine AA _ (AH rfl) rfl ?_
  refine AL (AC (AG (AB (AA (Slc nb2 0 64 64) (CI 64 5 1 0 64 0 64 Tryd.underlying262 BC rfl rfl rfl (by omega) (by omega) (by omega) (by omega) (by omega) 64 (by omega)) rfl ?_))))
  refine AA _ (AE rfl) rfl ?_
  have hl1 : (spl (zr8 64) 0 (sumG constL initL b)).length = 64 := by rw [spl_len (by simp [(AN 64), (EJ _ _ _)])]; simp [(AN 64), (EJ _ _ _)]
  refine AY (DX 43 43 5 1 nb2 0 64 64 (cu8 (zr8 64)) 262 (some ⟨nb3, 0, none⟩) 32 32 32 (cu8 (sumG constL initL b)) (cu8 (spl (zr8 64) 0 (sumG constL initL b))) AR C6 rfl rfl rfl (Nat.min_eq_left (by omega)) (by simp [(EJ _ _ _)]; try omega) (SrcAt.mem (AT 2 rfl (AJ _))) (by simp [(AN 64)]; try omega) (by first | exact CF | exact EI | exact EE | (simp [cu8, cu32, cu64, Value.oneCell']; done)) (laySpl8 _ _ _ (by simp [(AN 64), (EJ _ _ _)]))) rfl ?_
  show JL _ _ _ _ ((13, I64 32) :: _) [_, ⟨nb2, cu8 (spl (zr8 64) 0 (sumG constL initL b)), 262, (0, 0)⟩, _]
  refine AL (AC (AG (AB (AA (.agg (cu8 (spl (zr8 64) 0 (sumG constL initL b))).toArray) (AM rfl (A5 Tryd.isAgg262 ET (DY hl1) (AT 1 rfl (AJ _)))) rfl ?_))))
  refine AY (AU 0 nb1 64 (cu8 (zr8 64)) 262 (cu8 (spl (zr8 64) 0 (sumG constL initL b))) rfl rfl rfl ET (DY hl1) (by first | exact CF | exact EI | exact EE | (simp [cu8, cu32, cu64, Value.oneCell']; done)) (by simp [(AN 64)]) (A0 (by simp [(AN 64), hl1]))) rfl ?_
  show JL _ _ _ _ _ [⟨nb1, cu8 (spl (zr8 64) 0 (sumG constL initL b)), 262, (0, 0)⟩, _, _]
  refine AL (AC (BH (BI (.agg (cu8 (spl (zr8 64) 0 (sumG constL initL b))).toArray) (res1 Tryd.results171 (CQ rfl (A5 Tryd.isAgg262 ET (DY hl1) (AT 0 rfl (AJ _))))) fun w1 hw1 => ?_)))
  refine ⟨_, [], rfl, ⟨?_, rfl⟩, hw1.sub (by simp) (by simp)⟩
  first | (rw [blkL, if_pos (by omega)]; done) | (rw [blkL, if_neg (by omega)]; done)
 ·
  have hp1 : ¬ ((64:Int) < ((n:Int))) := of_decide_eq_false hb1
  refine BL (AC (AG (AB (AA (Slc nb2 0 64 64) (CI 64 5 1 0 64 0 64 Tryd.underlying262 BC rfl rfl rfl (by omega) (by omega) (by omega) (by omega) (by omega) 64 (by omega)) rfl ?_))))
  refine AA _ (AE rfl) rfl ?_
  have hl2 : (spl (zr8 64) 0 b).length = 64 := (spl_len (by rw [hb, (AN 64)]; omega)).trans (AN 64)
  refine AY (DX 43 43 5 1 nb2 0 64 64 (cu8 (zr8 64)) 262 ao n cb n (cu8 b) (cu8 (spl (zr8 64) 0 b)) AR C6 rfl rfl rfl (Nat.min_eq_left (by omega)) (by simp [hb]; try omega) (hr.src) (by simp [(AN 64)]; try omega) (by first | exact CF | exact EI | exact EE | (simp [cu8, cu32, cu64, Value.oneCell']; done)) (laySpl8 _ _ _ (by rw [hb, (AN 64)]; omega))) rfl ?_
  show JL _ _ _ _ ((13, I64 n) :: _) [_, ⟨nb2, cu8 (spl (zr8 64) 0 b), 262, (0, 0)⟩]
  refine AL (AC (AG (AB (AA (.agg (cu8 (spl (zr8 64) 0 b)).toArray) (AM rfl (A5 Tryd.isAgg262 ET (DY hl2) (AT 1 rfl (AJ _)))) rfl ?_))))
  refine AY (AU 0 nb1 64 (cu8 (zr8 64)) 262 (cu8 (spl (zr8 64) 0 b)) rfl rfl rfl ET (DY hl2) (by first | exact CF | exact EI | exact EE | (simp [cu8, cu32, cu64, Value.oneCell']; done)) (by simp [(AN 64)]) (A0 (by simp [(AN 64), hl2]))) rfl ?_
  show JL _ _ _ _ _ [⟨nb1, cu8 (spl (zr8 64) 0 b), 262, (0, 0)⟩, _]
  refine AL (AC (BH (BI (.agg (cu8 (spl (zr8 64) 0 b)).toArray) (res1 Tryd.results171 (CQ rfl (A5 Tryd.isAgg262 ET (DY hl2) (AT 0 rfl (AJ _))))) fun w1 hw1 => ?_)))
  refine ⟨_, [], rfl, ⟨?_, rfl⟩, hw1.sub (by simp) (by simp)⟩
  first | (rw [blkL, if_pos (by omega)]; done) | (rw [blkL, if_neg (by omega)]; done)
theorem with_c (b : List UInt8) (x : UInt8) (w : World) (hb : b.length = 64) : Calls Tryd.prog 173 #[.agg (cu8 b).toArray, U8 x] w (Post w [] (fun v L => ∃ g T, v = Slc g 0 64 64 ∧ L = [⟨g, cu8 (xbN b x 64), T, (0, 0)⟩])) := by
 refine enter w [] 17 [] [.agg (cu8 b).toArray, U8 x] Tryd.func173 rfl rfl (by simp) (BY (by simp) (by simp) (by simp)) ?_
 show JC _ _ _ [(0, .agg (cu8 b).toArray), (1, U8 x)] _
 refine AG (AB (A2 (DN (.agg (cu8 b).toArray) (cu8 b) rfl (by first | rfl | simp)) rfl ?_))
 rintro v1 L1 ⟨nb1, hnb1, rfl, rfl⟩
 show JL _ _ _ _ ((2, Ptr nb1 0) :: _) [⟨nb1, cu8 b, 262, (0, 0)⟩]
 refine AA _ (AH rfl) rfl ?_
 refine AL (AC (AG (AG (AB (AA _ (AE rfl) rfl ?_)))))
 refine AL (AC (B4 (D4 (ι := Nat × List UInt8) (fun ⟨k, o⟩ => [(1, U8 x), (2, Ptr nb1 0), (4, .slice none 0 0), (6, I64 k)]) (fun ⟨k, o⟩ => [⟨nb1, cu8 o, 262, (0, 0)⟩]) (fun ⟨k, o⟩ => k ≤ 64 ∧ o = xbN b x k ∧ o.length = 64) (fun ⟨k, o⟩ => 64 - k) (0, b) ⟨by omega, by rw [xbN], hb⟩ (Sub.all rfl) rfl ?_)))
 rintro ⟨k, o⟩ ⟨hx1, hx2, ho⟩
 show JC _ _ _ [(1, U8 x), (2, Ptr nb1 0), (4, .slice none 0 0), (6, I64 k)] [⟨nb1, cu8 o, 262, (0, 0)⟩]
 refine AG (AB (AA (.bool (decide (((k:Int)) < (64:Int)))) (AP rfl rfl fun _ => DC _ _) rfl ?_))
 refine AL (AC (AG (CL (decide (((k:Int)) < (64:Int))) rfl (fun hb1 => ?_) (fun hb1 => ?_))))
 ·
  have hp1 : ((k:Int)) < (64:Int) := of_decide_eq_true hb1
  refine BL (AC (AG (B4 (AG (AB (AA _ (AE rfl) rfl ?_))))))
  refine AA _ (AH rfl) rfl ?_
  refine AL (AC (AB (AA _ (AE rfl) rfl ?_)))
  refine AA (Ptr nb1 k) (DA 64 5 1 k Tryd.underlying262 BC rfl rfl (by omega) (by omega) (by omega)) rfl ?_
  refine AA (U8 (g8 o k)) (AM rfl (A6 EP (AT 0 rfl (Seg.get (g8_get (i := k) (by rw [ho]; omega)))))) rfl ?_
  refine AA _ (AE rfl) rfl ?_
  refine AA (U8 ((g8 o k) ^^^ x)) (AP rfl rfl fun _ => bin_xor_u8 (g8 o k) x) rfl ?_
  refine AA (Ptr nb1 k) (DA 64 5 1 k Tryd.underlying262 BC rfl rfl (by omega) (by omega) (by omega)) rfl ?_
  have hl1 : (o.set k ((g8 o k) ^^^ x)).length = 64 := by first | (rw [List.length_set]; exact ho) | simp [ho]
  refine AY (C0 0 nb1 k 1 (cu8 o) 262 (U8 ((g8 o k) ^^^ x)) ([U8 ((g8 o k) ^^^ x)]) (cu8 (o.set k ((g8 o k) ^^^ x))) rfl rfl rfl rfl BC rfl (by simp [Value.oneCell']) (by simp [ho]; try omega) (lay8 _ _ _ (by rw [ho]; omega))) rfl ?_
  show JL _ _ _ _ _ [⟨nb1, cu8 (o.set k ((g8 o k) ^^^ x)), 262, (0, 0)⟩]
  refine AL (B0 (AC (AB (AA (I64 ((k:Int) + 1)) (AP rfl rfl fun _ => DL _ _ ((k:Int) + 1) (by omega) (by omega)) rfl ?_))))
  refine AA _ (AE rfl) rfl ?_
  refine AL (DO (ER (k + 1, o.set k ((g8 o k) ^^^ x)) ⟨by omega, by rw [xbN, ← hx2], hl1⟩ (by first | (simp; omega) | simp | (dsimp only; omega) | omega) (Sub.all rfl) rfl))
 ·
  have hp1 : ¬ (((k:Int)) < (64:Int)) := of_decide_eq_false hb1
  refine DU (A9 (A9 (CR (AC (AG (AB (AA (Slc nb1 0 64 64) (CI 64 5 1 0 64 0 64 Tryd.underlying262 BC rfl rfl rfl (by omega) (by omega) (by omega) (by omega) (by omega) 64 (by omega)) rfl ?_)))))))
  refine AA _ (AH rfl) rfl ?_
  refine AL (AC (BH (BI (Slc nb1 0 64 64) (res1 Tryd.results173 (BU rfl)) fun w1 hw1 => ?_)))
  have e1 : k = 64 := by omega
  subst e1
  rw [hx2] at hw1
  exact ⟨_, _, rfl, ⟨nb1, 262, rfl, rfl⟩, hw1.sub (by simp) (by simp)⟩
theorem mac_c (ao : Option Addr) (n cb : Nat) (key : List UInt8) (b c : Nat) (vs : List Value) (ls : List (List UInt8)) (w : World) (hb : key.length = n) (hcb : ao = none → cb = 0) (hn : n ≤ 17592186044416) (hr : RdB w [] ao key) (hk : 1 ≤ ls.length) (hc : ls.length ≤ c) (hk2 : ls.length ≤ 1000) (hp : Parts w b vs ls) (hs : ls.flatten.length ≤ 100000000) (hG : GLs w) : Calls Tryd.prog 145 #[.slice ao n cb, .slice (some ⟨b, 0, none⟩) ls.length c] w (Post w [] (fun v L => v = .agg (cu8 (macL key ls.flatten)).toArray ∧ L = [])) := by
 refine enter w [] 20 [] [.slice ao n cb, .slice (some ⟨b, 0, none⟩) ls.length c] Tryd.func145 rfl rfl (by simp) (BY (by simp) (by simp) (by simp)) ?_
 show JC _ _ _ [(0, .slice ao n cb), (1, .slice (some ⟨b, 0, none⟩) ls.length c)] _
 refine AG (AB (A2 (BN _ (cu8 (zr8 32)) Tryd.zeroValue54 (by kernel_rfl)) rfl ?_))
 rintro v1 L1 ⟨nb1, hnb1, rfl, rfl⟩
 show JL _ _ _ _ ((4, Ptr nb1 0) :: _) [⟨nb1, cu8 (zr8 32), 54, (0, 0)⟩]
 refine AL (AC (AG (AB (AA _ (AE rfl) rfl ?_))))
 refine AY (AX 171 [.slice ao n cb] (.agg (cu8 (blkL key)).toArray) (AZ _ Tryd.call171 rfl) (fun w1 hw1 => block_c ao n cb key w1 hb hcb (by omega) (hr.at (M' := []) hw1 (by simp)) (hG.at hw1))) rfl ?_
 show JL _ _ _ _ ((8, .agg (cu8 (blkL key)).toArray) :: _) [_]
 refine A2 (BN _ (cu8 (zr8 64)) Tryd.zeroValue262 (by kernel_rfl)) rfl ?_
 rintro v1 L1 ⟨nb2, hnb2, rfl, rfl⟩
 show JL _ _ _ _ ((5, Ptr nb2 0) :: _) [_, ⟨nb2, cu8 (zr8 64), 262, (0, 0)⟩]
 refine AY (AU 1 nb2 64 (cu8 (zr8 64)) 262 (cu8 (blkL key)) rfl rfl rfl ET (DY (FS _)) (by first | exact CF | exact EI | exact EE | (simp [cu8, cu32, cu64, Value.oneCell']; done)) (by simp [(AN 64)]) (A0 (by simp [(AN 64), (FS _)]))) rfl ?_
 show JL _ _ _ _ _ [_, ⟨nb2, cu8 (blkL key), 262, (0, 0)⟩]
 refine AL (AC (AG (AB (AA (.agg (cu8 (blkL key)).toArray) (AM rfl (A5 Tryd.isAgg262 ET (DY (FS _)) (AT 1 rfl (AJ _)))) rfl ?_))))
 refine A2 (B3 173 [.agg (cu8 (blkL key)).toArray, U8 54] _ (AZ _ Tryd.call173 rfl) (fun w1 hw1 => with_c (blkL key) (54:UInt8) w1 (FS _))) rfl ?_
 rintro v1 L1 ⟨_, ⟨nb3, tw1, rfl, rfl⟩, rfl⟩
 show JL _ _ _ _ ((10, Slc nb3 0 64 64) :: _) [_, _, ⟨nb3, cu8 (xbN (blkL key) (54:UInt8) 64), tw1, (0, 0)⟩]
 refine AA _ (AE rfl) rfl ?_
 refine A2 (B3 174 [.slice (some ⟨b, 0, none⟩) ls.length c, .slice none 0 0] _ (AZ _ Tryd.call174 rfl) (fun w1 hw1 => join_c b c vs ls w1 hk hc hk2 (hp.at hw1 rfl (by omega)) (by omega))) rfl ?_
 rintro v1 L1 ⟨_, (⟨he1, ao1, ca1, rfl, rfl, hn1⟩ | ⟨hp1, nb4, sp1, cp1, tj1, fj1, rfl, rfl, hl1, hm1⟩), rfl⟩
 ·
  show JL _ _ _ _ ((12, .slice ao1 0 ca1) :: _) [_, _, _]
  refine A2 (CP 43 1 _ [(0, Slc nb3 0 64 64), (1, .slice ao1 0 ca1)] ([Slc nb3 0 64 64, .slice ao1 0 ca1]) Tryd.underlying230 B2 Tryd.zeroValue43 rfl rfl rfl (by kernel_rfl)) rfl ?_
  rintro v1 L1 ⟨nb5, hnb5, rfl, rfl⟩
  show JL _ _ _ _ ((13, Slc nb5 0 2 2) :: _) [_, _, _, ⟨nb5, [Slc nb3 0 64 64, .slice ao1 0 ca1], 43, (0, 0)⟩]
  refine AY (AX 172 [Slc nb5 0 2 2] (.agg (cu8 (sumG constL initL ([xbN (blkL key) (54:UInt8) 64, ([] : List UInt8)].flatten))).toArray) (AZ _ Tryd.call172 rfl) (fun w1 hw1 => of_c nb5 2 [Slc nb3 0 64 64, .slice ao1 0 ca1] [xbN (blkL key) (54:UInt8) 64, ([] : List UInt8)] w1 (by simp) (by simp) (by simp) ⟨RdA.of hw1 (AT 3 rfl (AJ _)) (by simp), ⟨⟨(some ⟨nb3, 0, none⟩), 64, congrArg (fun n => Value.slice (some ⟨nb3, 0, none⟩) n 64) ((xbN_len64 _ 64 (FS _))).symm, (RdB.of hw1 (AT 2 rfl (AJ _)) (by simp))⟩, ⟨⟨ao1, ca1, congrArg (fun n => Value.slice ao1 n ca1) (rfl).symm, RdB.nil⟩, trivial⟩⟩⟩ (by simp only [List.flatten_cons, List.flatten_nil, List.length_append, List.length_nil, (xbN_len64 _ 64 (FS _))]; omega) (hG.at hw1))) rfl ?_
  show JL _ _ _ _ ((14, .agg (cu8 (sumG constL initL ([xbN (blkL key) (54:UInt8) 64, ([] : List UInt8)].flatten))).toArray) :: _) [_, _, _, _]
  refine A2 (BN _ (cu8 (zr8 32)) Tryd.zeroValue54 (by kernel_rfl)) rfl ?_
  rintro v1 L1 ⟨nb6, hnb6, rfl, rfl⟩
  show JL _ _ _ _ ((6, Ptr nb6 0) :: _) [_, _, _, _, ⟨nb6, cu8 (zr8 32), 54, (0, 0)⟩]
  refine AY (AU 4 nb6 32 (cu8 (zr8 32)) 54 (cu8 (sumG constL initL ([xbN (blkL key) (54:UInt8) 64, ([] : List UInt8)].flatten))) rfl rfl rfl D7 (DY (EJ _ _ _)) (by first | exact CF | exact EI | exact EE | (simp [cu8, cu32, cu64, Value.oneCell']; done)) (by simp [(AN 32)]) (A0 (by simp [(AN 32), (EJ _ _ _)]))) rfl ?_
  show JL _ _ _ _ _ [_, _, _, _, ⟨nb6, cu8 (sumG constL initL ([xbN (blkL key) (54:UInt8) 64, ([] : List UInt8)].flatten)), 54, (0, 0)⟩]
  refine AL (AC (AG (CH 20 5 [(0, .agg (cu8 (blkL key)).toArray), (2, Slc nb6 0 32 32)] BP rfl (by decide +kernel) ?_)))
  refine C5 ⟨[], [0, 2], [], [0, 2], [1]⟩ 1 _ rfl rfl (by decide +kernel) rfl ⟨⟨_, rfl, AI rfl (AM rfl (A5 Tryd.isAgg262 ET (DY (FS _)) (AT 1 rfl (AJ _))))⟩, ⟨_, rfl, AI rfl (CI 32 5 1 0 32 0 32 D0 BC rfl rfl rfl (by omega) (by omega) (by omega) (by omega) (by omega) 32 (by omega))⟩, trivial⟩ rfl (A7 rfl (B3 173 [.agg (cu8 (blkL key)).toArray, U8 92] _ (AZ _ Tryd.call173 rfl) (fun w1 hw1 => with_c (blkL key) (92:UInt8) w1 (FS _)))) ?_
  rintro v1 L1 ⟨_, ⟨nb7, tw2, rfl, rfl⟩, rfl⟩
  refine ⟨[], ?_⟩
  show DP _ _ _ _ _ _ _ _ [_, _, _, _, _, ⟨nb7, cu8 (xbN (blkL key) (92:UInt8) 64), tw2, (0, 0)⟩]
  refine C5 ⟨[1], [0, 2], [0], [2], [3]⟩ 3 _ rfl rfl (by decide +kernel) rfl ⟨⟨_, rfl, AI rfl (CI 32 5 1 0 32 0 32 D0 BC rfl rfl rfl (by omega) (by omega) (by omega) (by omega) (by omega) 32 (by omega))⟩, trivial⟩ rfl (A7 rfl (CP 43 1 _ [(0, Slc nb7 0 64 64), (1, Slc nb6 0 32 32)] ([Slc nb7 0 64 64, Slc nb6 0 32 32]) Tryd.underlying230 B2 Tryd.zeroValue43 rfl rfl rfl (by kernel_rfl))) ?_
  rintro v1 L1 ⟨nb8, hnb8, rfl, rfl⟩
  refine ⟨[], ?_⟩
  show DP _ _ _ _ _ _ _ _ [_, _, _, _, _, _, ⟨nb8, [Slc nb7 0 64 64, Slc nb6 0 32 32], 43, (0, 0)⟩]
  refine B6 ⟨[1, 3], [0, 2], [0, 2], [], [4]⟩ 4 rfl rfl (by decide +kernel) rfl trivial rfl (A7 rfl (AX 172 [Slc nb8 0 2 2] (.agg (cu8 (sumG constL initL ([xbN (blkL key) (92:UInt8) 64, sumG constL initL ([xbN (blkL key) (54:UInt8) 64, ([] : List UInt8)].flatten)].flatten))).toArray) (AZ _ Tryd.call172 rfl) (fun w1 hw1 => of_c nb8 2 [Slc nb7 0 64 64, Slc nb6 0 32 32] [xbN (blkL key) (92:UInt8) 64, sumG constL initL ([xbN (blkL key) (54:UInt8) 64, ([] : List UInt8)].flatten)] w1 (by simp) (by simp) (by simp) ⟨RdA.of hw1 (AT 6 rfl (AJ _)) (by simp), ⟨⟨(some ⟨nb7, 0, none⟩), 64, congrArg (fun n => Value.slice (some ⟨nb7, 0, none⟩) n 64) ((xbN_len64 _ 64 (FS _))).symm, (RdB.of hw1 (AT 5 rfl (AJ _)) (by simp))⟩, ⟨⟨(some ⟨nb6, 0, none⟩), 32, congrArg (fun n => Value.slice (some ⟨nb6, 0, none⟩) n 32) ((EJ _ _ _)).symm, (RdB.of hw1 (AT 4 rfl (AJ _)) (by simp))⟩, trivial⟩⟩⟩ (by simp only [List.flatten_cons, List.flatten_nil, List.length_append, List.length_nil, (xbN_len64 _ 64 (FS _)), (EJ _ _ _)]; omega) (hG.at hw1)))) ?_
  show DP _ _ _ _ _ _ _ _ [_, _, _, _, _, _, _]
  refine B6 ⟨[1, 3, 4], [0, 2], [0, 2], [], [5]⟩ 5 rfl rfl (by decide +kernel) rfl trivial rfl (A7 rfl (AU 0 nb1 32 (cu8 (zr8 32)) 54 (cu8 (sumG constL initL ([xbN (blkL key) (92:UInt8) 64, sumG constL initL ([xbN (blkL key) (54:UInt8) 64, ([] : List UInt8)].flatten)].flatten))) rfl rfl rfl D7 (DY (EJ _ _ _)) (by first | exact CF | exact EI | exact EE | (simp [cu8, cu32, cu64, Value.oneCell']; done)) (by simp [(AN 32)]) (A0 (by simp [(AN 32), (EJ _ _ _)])))) ?_
  show DP _ _ _ _ _ _ _ _ [⟨nb1, cu8 (sumG constL initL ([xbN (blkL key) (92:UInt8) 64, sumG constL initL ([xbN (blkL key) (54:UInt8) 64, ([] : List UInt8)].flatten)].flatten)), 54, (0, 0)⟩, _, _, _, _, _, _]
  refine C2 ⟨[1, 3, 4, 5], [0, 2], [0, 2], [], []⟩ rfl rfl (by decide +kernel) rfl trivial ?_
  refine CB (F' := [(4, Ptr nb1 0)]) (by kernel_rfl) ?_
  refine AC (BH (BI (.agg (cu8 (sumG constL initL ([xbN (blkL key) (92:UInt8) 64, sumG constL initL ([xbN (blkL key) (54:UInt8) 64, ([] : List UInt8)].flatten)].flatten))).toArray) (res1 Tryd.results145 (CQ rfl (A5 Tryd.isAgg54 D7 (DY (EJ _ _ _)) (AT 0 rfl (AJ _))))) fun w1 hw1 => ?_))
  refine ⟨_, [], rfl, ⟨?_, rfl⟩, hw1.sub (by simp) (by simp)⟩
  rw [macL]
  first | (simp; done) | (rw [he1]; simp; done)
 ·
  show JL _ _ _ _ ((12, Slc nb4 0 ls.flatten.length cp1) :: _) [_, _, _, ⟨nb4, cu8 ls.flatten ++ sp1, tj1, fj1⟩]
  refine A2 (CP 43 1 _ [(0, Slc nb3 0 64 64), (1, Slc nb4 0 ls.flatten.length cp1)] ([Slc nb3 0 64 64, Slc nb4 0 ls.flatten.length cp1]) Tryd.underlying230 B2 Tryd.zeroValue43 rfl rfl rfl (by kernel_rfl)) rfl ?_
  rintro v1 L1 ⟨nb9, hnb9, rfl, rfl⟩
  show JL _ _ _ _ ((13, Slc nb9 0 2 2) :: _) [_, _, _, _, ⟨nb9, [Slc nb3 0 64 64, Slc nb4 0 ls.flatten.length cp1], 43, (0, 0)⟩]
  refine AY (AX 172 [Slc nb9 0 2 2] (.agg (cu8 (sumG constL initL ([xbN (blkL key) (54:UInt8) 64, ls.flatten].flatten))).toArray) (AZ _ Tryd.call172 rfl) (fun w1 hw1 => of_c nb9 2 [Slc nb3 0 64 64, Slc nb4 0 ls.flatten.length cp1] [xbN (blkL key) (54:UInt8) 64, ls.flatten] w1 (by simp) (by simp) (by simp) ⟨RdA.of hw1 (AT 4 rfl (AJ _)) (by simp), ⟨⟨(some ⟨nb3, 0, none⟩), 64, congrArg (fun n => Value.slice (some ⟨nb3, 0, none⟩) n 64) ((xbN_len64 _ 64 (FS _))).symm, (RdB.of hw1 (AT 2 rfl (AJ _)) (by simp))⟩, ⟨⟨(some ⟨nb4, 0, none⟩), cp1, congrArg (fun n => Value.slice (some ⟨nb4, 0, none⟩) n cp1) ((rfl : ls.flatten.length = _)).symm, (RdB.of hw1 (AT 3 rfl (A8 (AJ _))) (by simp))⟩, trivial⟩⟩⟩ (by simp only [List.flatten_cons, List.flatten_nil, List.length_append, List.length_nil, (xbN_len64 _ 64 (FS _))]; omega) (hG.at hw1))) rfl ?_
  show JL _ _ _ _ ((14, .agg (cu8 (sumG constL initL ([xbN (blkL key) (54:UInt8) 64, ls.flatten].flatten))).toArray) :: _) [_, _, _, _, _]
  refine A2 (BN _ (cu8 (zr8 32)) Tryd.zeroValue54 (by kernel_rfl)) rfl ?_
  rintro v1 L1 ⟨nb10, hnb10, rfl, rfl⟩
  show JL _ _ _ _ ((6, Ptr nb10 0) :: _) [_, _, _, _, _, ⟨nb10, cu8 (zr8 32), 54, (0, 0)⟩]
  refine AY (AU 5 nb10 32 (cu8 (zr8 32)) 54 (cu8 (sumG constL initL ([xbN (blkL key) (54:UInt8) 64, ls.flatten].flatten))) rfl rfl rfl D7 (DY (EJ _ _ _)) (by first | exact CF | exact EI | exact EE | (simp [cu8, cu32, cu64, Value.oneCell']; done)) (by simp [(AN 32)]) (A0 (by simp [(AN 32), (EJ _ _ _)]))) rfl ?_
  show JL _ _ _ _ _ [_, _, _, _, _, ⟨nb10, cu8 (sumG constL initL ([xbN (blkL key) (54:UInt8) 64, ls.flatten].flatten)), 54, (0, 0)⟩]
  refine AL (AC (AG (CH 20 5 [(0, .agg (cu8 (blkL key)).toArray), (2, Slc nb10 0 32 32)] BP rfl (by decide +kernel) ?_)))
  refine C5 ⟨[], [0, 2], [], [0, 2], [1]⟩ 1 _ rfl rfl (by decide +kernel) rfl ⟨⟨_, rfl, AI rfl (AM rfl (A5 Tryd.isAgg262 ET (DY (FS _)) (AT 1 rfl (AJ _))))⟩, ⟨_, rfl, AI rfl (CI 32 5 1 0 32 0 32 D0 BC rfl rfl rfl (by omega) (by omega) (by omega) (by omega) (by omega) 32 (by omega))⟩, trivial⟩ rfl (A7 rfl (B3 173 [.agg (cu8 (blkL key)).toArray, U8 92] _ (AZ _ Tryd.call173 rfl) (fun w1 hw1 => with_c (blkL key) (92:UInt8) w1 (FS _)))) ?_
  rintro v1 L1 ⟨_, ⟨nb11, tw3, rfl, rfl⟩, rfl⟩
  refine ⟨[], ?_⟩
  show DP _ _ _ _ _ _ _ _ [_, _, _, _, _, _, ⟨nb11, cu8 (xbN (blkL key) (92:UInt8) 64), tw3, (0, 0)⟩]
  refine C5 ⟨[1], [0, 2], [0], [2], [3]⟩ 3 _ rfl rfl (by decide +kernel) rfl ⟨⟨_, rfl, AI rfl (CI 32 5 1 0 32 0 32 D0 BC rfl rfl rfl (by omega) (by omega) (by omega) (by omega) (by omega) 32 (by omega))⟩, trivial⟩ rfl (A7 rfl (CP 43 1 _ [(0, Slc nb11 0 64 64), (1, Slc nb10 0 32 32)] ([Slc nb11 0 64 64, Slc nb10 0 32 32]) Tryd.underlying230 B2 Tryd.zeroValue43 rfl rfl rfl (by kernel_rfl))) ?_
  rintro v1 L1 ⟨nb12, hnb12, rfl, rfl⟩
  refine ⟨[], ?_⟩
  show DP _ _ _ _ _ _ _ _ [_, _, _, _, _, _, _, ⟨nb12, [Slc nb11 0 64 64, Slc nb10 0 32 32], 43, (0, 0)⟩]
  refine B6 ⟨[1, 3], [0, 2], [0, 2], [], [4]⟩ 4 rfl rfl (by decide +kernel) rfl trivial rfl (A7 rfl (AX 172 [Slc nb12 0 2 2] (.agg (cu8 (sumG constL initL ([xbN (blkL key) (92:UInt8) 64, sumG constL initL ([xbN (blkL key) (54:UInt8) 64, ls.flatten].flatten)].flatten))).toArray) (AZ _ Tryd.call172 rfl) (fun w1 hw1 => of_c nb12 2 [Slc nb11 0 64 64, Slc nb10 0 32 32] [xbN (blkL key) (92:UInt8) 64, sumG constL initL ([xbN (blkL key) (54:UInt8) 64, ls.flatten].flatten)] w1 (by simp) (by simp) (by simp) ⟨RdA.of hw1 (AT 7 rfl (AJ _)) (by simp), ⟨⟨(some ⟨nb11, 0, none⟩), 64, congrArg (fun n => Value.slice (some ⟨nb11, 0, none⟩) n 64) ((xbN_len64 _ 64 (FS _))).symm, (RdB.of hw1 (AT 6 rfl (AJ _)) (by simp))⟩, ⟨⟨(some ⟨nb10, 0, none⟩), 32, congrArg (fun n => Value.slice (some ⟨nb10, 0, none⟩) n 32) ((EJ _ _ _)).symm, (RdB.of hw1 (AT 5 rfl (AJ _)) (by simp))⟩, trivial⟩⟩⟩ (by simp only [List.flatten_cons, List.flatten_nil, List.length_append, List.length_nil, (xbN_len64 _ 64 (FS _)), (EJ _ _ _)]; omega) (hG.at hw1)))) ?_
  show DP _ _ _ _ _ _ _ _ [_, _, _, _, _, _, _, _]
  refine B6 ⟨[1, 3, 4], [0, 2], [0, 2], [], [5]⟩ 5 rfl rfl (by decide +kernel) rfl trivial rfl (A7 rfl (AU 0 nb1 32 (cu8 (zr8 32)) 54 (cu8 (sumG constL initL ([xbN (blkL key) (92:UInt8) 64, sumG constL initL ([xbN (blkL key) (54:UInt8) 64, ls.flatten].flatten)].flatten))) rfl rfl rfl D7 (DY (EJ _ _ _)) (by first | exact CF | exact EI | exact EE | (simp [cu8, cu32, cu64, Value.oneCell']; done)) (by simp [(AN 32)]) (A0 (by simp [(AN 32), (EJ _ _ _)])))) ?_
  show DP _ _ _ _ _ _ _ _ [⟨nb1, cu8 (sumG constL initL ([xbN (blkL key) (92:UInt8) 64, sumG constL initL ([xbN (blkL key) (54:UInt8) 64, ls.flatten].flatten)].flatten)), 54, (0, 0)⟩, _, _, _, _, _, _, _]
  refine C2 ⟨[1, 3, 4, 5], [0, 2], [0, 2], [], []⟩ rfl rfl (by decide +kernel) rfl trivial ?_
  refine CB (F' := [(4, Ptr nb1 0)]) (by kernel_rfl) ?_
  refine AC (BH (BI (.agg (cu8 (sumG constL initL ([xbN (blkL key) (92:UInt8) 64, sumG constL initL ([xbN (blkL key) (54:UInt8) 64, ls.flatten].flatten)].flatten))).toArray) (res1 Tryd.results145 (CQ rfl (A5 Tryd.isAgg54 D7 (DY (EJ _ _ _)) (AT 0 rfl (AJ _))))) fun w1 hw1 => ?_))
  refine ⟨_, [], rfl, ⟨?_, rfl⟩, hw1.sub (by simp) (by simp)⟩
  rw [macL]
  first | (simp; done) | (rw [he1]; simp; done)
theorem short_c (ao : Option Addr) (n cb : Nat) (key : List UInt8) (b c : Nat) (vs : List Value) (ls : List (List UInt8)) (w : World) (hb : key.length = n) (hcb : ao = none → cb = 0) (hn : n ≤ 17592186044416) (hr : RdB w [] ao key) (hk : 1 ≤ ls.length) (hc : ls.length ≤ c) (hk2 : ls.length ≤ 1000) (hp : Parts w b vs ls) (hs : ls.flatten.length ≤ 100000000) (hG : GLs w) : Calls Tryd.prog 90 #[.slice ao n cb, .slice (some ⟨b, 0, none⟩) ls.length c] w (Post w [] (fun v L => ∃ g sp cap, v = Slc g 0 16 cap ∧ L = [⟨g, cu8 (mid (macL key ls.flatten) 0 16) ++ sp, 5, (0, 0)⟩] ∧ sp.length = cap - 16 ∧ 16 ≤ cap ∧ cap ≤ maxLen)) := by
 refine enter w [] 11 [] [.slice ao n cb, .slice (some ⟨b, 0, none⟩) ls.length c] Tryd.func90 rfl rfl (by simp) (BY (by simp) (by simp) (by simp)) ?_
 show JC _ _ _ [(0, .slice ao n cb), (1, .slice (some ⟨b, 0, none⟩) ls.length c)] _
 refine AG (AB (AA _ (AH rfl) rfl ?_))
 refine AL (AC (AG (AB (AA _ (AE rfl) rfl ?_))))
 refine AA _ (AE rfl) rfl ?_
 refine AY (AX 145 [.slice ao n cb, .slice (some ⟨b, 0, none⟩) ls.length c] (.agg (cu8 (macL key ls.flatten)).toArray) (AZ _ Tryd.call145 rfl) (fun w1 hw1 => mac_c ao n cb key b c vs ls w1 hb hcb (by omega) (hr.at (M' := []) hw1 (by simp)) hk hc hk2 (hp.at hw1 rfl (by omega)) hs (hG.at hw1))) rfl ?_
 show JL _ _ _ _ ((8, .agg (cu8 (macL key ls.flatten)).toArray) :: _) []
 refine A2 (BN _ (cu8 (zr8 32)) Tryd.zeroValue54 (by kernel_rfl)) rfl ?_
 rintro v1 L1 ⟨nb1, hnb1, rfl, rfl⟩
 show JL _ _ _ _ ((5, Ptr nb1 0) :: _) [⟨nb1, cu8 (zr8 32), 54, (0, 0)⟩]
 refine AY (AU 0 nb1 32 (cu8 (zr8 32)) 54 (cu8 (macL key ls.flatten)) rfl rfl rfl D7 (DY (FN _ _)) (by first | exact CF | exact EI | exact EE | (simp [cu8, cu32, cu64, Value.oneCell']; done)) (by simp [(AN 32)]) (A0 (by simp [(AN 32), (FN _ _)]))) rfl ?_
 show JL _ _ _ _ _ [⟨nb1, cu8 (macL key ls.flatten), 54, (0, 0)⟩]
 refine AL (AC (AG (AB (AA (Slc nb1 0 16 32) (CI 32 5 1 0 16 0 32 D0 BC rfl rfl rfl (by omega) (by omega) (by omega) (by omega) (by omega) 16 (by omega)) rfl ?_))))
 have hl1 : (mid (macL key ls.flatten) 0 16).length = 16 := FE (by rw [(FN _ _)]; omega)
 refine A2 (B3 146 [Slc nb1 0 16 32] _ (AZ _ Tryd.call146 rfl) (fun w1 hw1 => bclone_c (some ⟨nb1, 0, none⟩) 16 32 (mid (macL key ls.flatten) 0 16) w1 rfl hl1 (by omega) (RdB.of hw1 (AT 0 rfl (segm_u8 0 16 (by rw [(FN _ _)]; omega))) (by simp)))) rfl ?_
 rintro v1 L1 ⟨_, ⟨nb2, sp1, cp1, rfl, rfl, hc1, hc2, hc3⟩, rfl⟩
 show JL _ _ _ _ ((10, Slc nb2 0 16 cp1) :: _) [_, ⟨nb2, cu8 (mid (macL key ls.flatten) 0 16) ++ sp1, 5, (0, 0)⟩]
 refine AA _ (AH rfl) rfl ?_
 refine AL (AC (BH (BI (Slc nb2 0 16 cp1) (res1 Tryd.results90 (BU rfl)) fun w1 hw1 => ?_)))
 exact ⟨_, _, rfl, ⟨nb2, sp1, cp1, rfl, rfl, hc1, hc2, hc3⟩, hw1.sub (by simp) (by simp)⟩
theorem same_c (a1 a2 : Option Addr) (n1 n2 c1 c2 : Nat) (x y : List UInt8) (w : World) (hx : x.length = n1) (hy : y.length = n2) (h1 : RdB w [] a1 x) (h2 : RdB w [] a2 y) (hi1 : n1 ≤ 9223372036854775807) (hi2 : n2 ≤ 9223372036854775807) : Calls Tryd.prog 151 #[.slice a1 n1 c1, .slice a2 n2 c2] w (Post w [] (fun v L => v = .bool (decide (x = y)) ∧ L = [])) := by
 refine enter w [] 31 [] [.slice a1 n1 c1, .slice a2 n2 c2] Tryd.func151 rfl rfl (by simp) (BY (by simp) (by simp) (by simp)) ?_
 show JC _ _ _ [(0, .slice a1 n1 c1), (1, .slice a2 n2 c2)] _
 refine AG (AB (AA _ (AH rfl) rfl ?_))
 refine AL (AC (AG (AG (AB (AA _ (AE rfl) rfl ?_)))))
 refine AA (I64 n1) (DS AR rfl) rfl ?_
 refine AA _ (AE rfl) rfl ?_
 refine AA (I64 n2) (DS AR rfl) rfl ?_
 refine AA (.bool (decide (((n1:Int)) ≠ ((n2:Int))))) (AP rfl rfl fun _ => CE _ _) rfl ?_
 refine AL (AC (CL (decide (((n1:Int)) ≠ ((n2:Int)))) rfl (fun hb1 => ?_) (fun hb1 => ?_)))
 ·
  have hp1 : ((n1:Int)) ≠ ((n2:Int)) := of_decide_eq_true hb1
  refine AG (AB (AA _ (AH rfl) rfl ?_))
  refine AL (AC (BH (A4 (BI (.bool false) (res1 Tryd.results151 (BU rfl)) fun w1 hw1 => ?_))))
  refine ⟨_, [], rfl, ⟨?_, rfl⟩, hw1.sub (by simp) (by simp)⟩
  have hne : x ≠ y := fun h => by subst h; omega
  rw [decide_eq_false hne]
 ·
  have hp1 : ¬ (((n1:Int)) ≠ ((n2:Int))) := of_decide_eq_false hb1
  refine BL (AC (AG (AB (AA _ (AH rfl) rfl ?_))))
  refine AL (AC (AG (AG (AB (AA _ (AE rfl) rfl ?_)))))
  refine AA (I64 n1) (DS AR rfl) rfl ?_
  refine AA _ (AE rfl) rfl ?_
  refine AL (AC (B4 (D4 (ι := Nat × UInt8) (fun ⟨i, a⟩ => [(0, .slice a1 n1 c1), (1, .slice a2 n2 c2), (4, .bool false), (13, I64 n1), (14, I64 i), (5, U8 a)]) (fun ⟨i, a⟩ => []) (fun ⟨i, a⟩ => i ≤ n1 ∧ a = orN x y i) (fun ⟨i, a⟩ => n1 - i) (0, 0) ⟨by omega, by rw [orN]⟩ (Sub.all rfl) rfl ?_)))
  rintro ⟨i, a⟩ ⟨hx1, hx2⟩
  show JC _ _ _ [(0, .slice a1 n1 c1), (1, .slice a2 n2 c2), (4, .bool false), (13, I64 n1), (14, I64 i), (5, U8 a)] []
  refine AG (AB (AA (.bool (decide (((i:Int)) < ((n1:Int))))) (AP rfl rfl fun _ => DC _ _) rfl ?_))
  refine AL (AC (AG (CL (decide (((i:Int)) < ((n1:Int)))) rfl (fun hb2 => ?_) (fun hb2 => ?_))))
  ·
   have hp2 : ((i:Int)) < ((n1:Int)) := of_decide_eq_true hb2
   refine BL (AC (AG (B4 (AG (AB (AA _ (AE rfl) rfl ?_))))))
   refine AA _ (AH rfl) rfl ?_
   refine AL (AC ?_)
   obtain ⟨bz1, oz1, hz1, hm1⟩ := h1.pos (by rw [hx]; omega)
   obtain ⟨bz2, oz2, hz2, hm2⟩ := h2.pos (by rw [hy]; omega)
   refine CH 31 1 [(0, U8 a), (1, .slice a1 n1 c1), (2, I64 i), (3, Ptr bz1 (i + oz1)), (4, U8 (g8 x i)), (5, .slice a2 n2 c2), (6, I64 i), (7, Ptr bz2 (i + oz2)), (8, U8 (g8 y i)), (9, U8 ((g8 x i) ^^^ (g8 y i))), (10, U8 (a ||| ((g8 x i) ^^^ (g8 y i)))), (11, U8 (a ||| ((g8 x i) ^^^ (g8 y i))))] BP rfl (by decide +kernel) ?_
   refine C2 ⟨[], [0, 1, 2, 3, 4, 5, 6, 7, 8, 9, 10, 11], [], [0, 1, 2, 3, 4, 5, 6, 7, 8, 9, 10, 11], []⟩ rfl rfl (by decide +kernel) rfl ⟨BQ rfl rfl rfl, BQ rfl rfl rfl, BQ rfl rfl rfl, ⟨_, rfl, AI rfl (C9 5 1 (i + oz1) AR BC rfl hz1 rfl (by omega) (by omega) (by omega))⟩, ⟨_, rfl, AI rfl (AM rfl (A6 EP (CW (MemAt.base hm1.1 hm1.2.1 hm1.2.2) (Seg.get (g8_get (i := i) (by rw [hx]; omega))) (by omega))))⟩, BQ rfl rfl rfl, BQ rfl rfl rfl, ⟨_, rfl, AI rfl (C9 5 1 (i + oz2) AR BC rfl hz2 rfl (by omega) (by omega) (by omega))⟩, ⟨_, rfl, AI rfl (AM rfl (A6 EP (CW (MemAt.base hm2.1 hm2.2.1 hm2.2.2) (Seg.get (g8_get (i := i) (by rw [hy]; omega))) (by omega))))⟩, ⟨_, rfl, AI rfl (AP rfl rfl fun _ => bin_xor_u8 (g8 x i) (g8 y i))⟩, ⟨_, rfl, AI rfl (AP rfl rfl fun _ => bin_or_u8 a ((g8 x i) ^^^ (g8 y i)))⟩, ⟨_, rfl, AI rfl (AH rfl)⟩, trivial⟩ ?_
   refine CB (F' := [(17, U8 a), (18, .slice a1 n1 c1), (19, I64 i), (20, Ptr bz1 (i + oz1)), (21, U8 (g8 x i)), (22, .slice a2 n2 c2), (23, I64 i), (24, Ptr bz2 (i + oz2)), (25, U8 (g8 y i)), (26, U8 ((g8 x i) ^^^ (g8 y i))), (27, U8 (a ||| ((g8 x i) ^^^ (g8 y i)))), (5, U8 (a ||| ((g8 x i) ^^^ (g8 y i)))), (0, .slice a1 n1 c1), (1, .slice a2 n2 c2), (4, .bool false), (13, I64 n1), (14, I64 i), (15, .bool (decide (((i:Int)) < ((n1:Int))))), (16, I64 i), (6, I64 i)]) (by kernel_rfl) ?_
   refine B0 (AC (AB (AA (I64 ((i:Int) + 1)) (AP rfl rfl fun _ => DL _ _ ((i:Int) + 1) (by omega) (by omega)) rfl ?_)))
   refine AA _ (AE rfl) rfl ?_
   refine AL (DO (ER (i + 1, a ||| ((g8 x i) ^^^ (g8 y i))) ⟨by omega, by rw [orN, ← hx2]⟩ (by first | (simp; omega) | simp | (dsimp only; omega) | omega) (Sub.all rfl) rfl))
  ·
   have hp2 : ¬ (((i:Int)) < ((n1:Int))) := of_decide_eq_false hb2
   refine DU (A9 (A9 (CR (AC (AG (AB (AA _ (AE rfl) rfl ?_)))))))
   refine AA (.bool (decide (a = (0:UInt8)))) (AP rfl rfl fun _ => bin_eql_u8 a (0:UInt8)) rfl ?_
   refine AA _ (AH rfl) rfl ?_
   refine AL (AC (BH (BI (.bool (decide (a = (0:UInt8)))) (res1 Tryd.results151 (BU rfl)) fun w1 hw1 => ?_)))
   refine ⟨_, [], rfl, ⟨?_, rfl⟩, hw1.sub (by simp) (by simp)⟩
   have e1 : i = n1 := by omega
   rw [hx2, e1, orN_same hx (by omega)]
theorem check_c (am : Option Addr) (m cm : Nat) (mm : List UInt8) (ao : Option Addr) (n cb : Nat) (key : List UInt8) (b c : Nat) (vs : List Value) (ls : List (List UInt8)) (w : World) (hm : mm.length = m) (hmi : m ≤ 9223372036854775807) (hrm : RdB w [] am mm) (hb : key.length = n) (hcb : ao = none → cb = 0) (hn : n ≤ 17592186044416) (hr : RdB w [] ao key) (hk : 1 ≤ ls.length) (hc : ls.length ≤ c) (hk2 : ls.length ≤ 1000) (hp : Parts w b vs ls) (hs : ls.flatten.length ≤ 100000000) (hG : GLs w) : Calls Tryd.prog 107 #[.slice am m cm, .slice ao n cb, .slice (some ⟨b, 0, none⟩) ls.length c] w (Post w [] (fun v L => v = .bool (decide (mm = macL key ls.flatten) || decide (mm = mid (macL key ls.flatten) 0 16)) ∧ L = [])) := by
  refine enter w [] 23 [] [.slice am m cm, .slice ao n cb, .slice (some ⟨b, 0, none⟩) ls.length c] Tryd.func107 rfl rfl (by simp) (BY (by simp) (by simp) (by simp)) ?_
  show JC _ _ _ [(0, .slice am m cm), (1, .slice ao n cb), (2, .slice (some ⟨b, 0, none⟩) ls.length c)] _
  refine AG (AB (AA _ (AH rfl) rfl ?_))
  refine AL (AC (AG (AB (AA _ (AE rfl) rfl ?_))))
  refine AA _ (AE rfl) rfl ?_
  refine AY (AX 145 [.slice ao n cb, .slice (some ⟨b, 0, none⟩) ls.length c] (.agg (cu8 (macL key ls.flatten)).toArray) (AZ _ Tryd.call145 rfl) (fun w1 hw1 => mac_c ao n cb key b c vs ls w1 hb hcb (by omega) (hr.at (M' := []) hw1 (by simp)) hk hc hk2 (hp.at hw1 rfl (by omega)) hs (hG.at hw1))) rfl ?_
  show JL _ _ _ _ ((10, .agg (cu8 (macL key ls.flatten)).toArray) :: _) []
  refine A2 (BN _ (cu8 (zr8 32)) Tryd.zeroValue54 (by kernel_rfl)) rfl ?_
  rintro v1 L1 ⟨nb1, hnb1, rfl, rfl⟩
  show JL _ _ _ _ ((7, Ptr nb1 0) :: _) [⟨nb1, cu8 (zr8 32), 54, (0, 0)⟩]
  refine AY (AU 0 nb1 32 (cu8 (zr8 32)) 54 (cu8 (macL key ls.flatten)) rfl rfl rfl D7 (DY (FN _ _)) (by first | exact CF | exact EI | exact EE | (simp [cu8, cu32, cu64, Value.oneCell']; done)) (by simp [(AN 32)]) (A0 (by simp [(AN 32), (FN _ _)]))) rfl ?_
  show JL _ _ _ _ _ [⟨nb1, cu8 (macL key ls.flatten), 54, (0, 0)⟩]
  refine AL (AC (AG (AG (AB (AA _ (AE rfl) rfl ?_)))))
  refine AA (I64 m) (DS AR rfl) rfl ?_
  refine AL (AC (B4 (AG (AB (AA (.bool (decide (((m:Int)) = (16:Int)))) (AP rfl rfl fun _ => CA _ _) rfl ?_)))))
  refine AA _ (AH rfl) rfl ?_
  refine AL (AC (CL (decide (((m:Int)) = (16:Int))) rfl (fun hb1 => ?_) (fun hb1 => ?_)))
  ·
    have hp1 : ((m:Int)) = (16:Int) := of_decide_eq_true hb1
    refine AG (AB (AA _ (AE rfl) rfl ?_))
    refine AA (Slc nb1 0 16 32) (CI 32 5 1 0 16 0 32 D0 BC rfl rfl rfl (by omega) (by omega) (by omega) (by omega) (by omega) 16 (by omega)) rfl ?_
    have hl1 : (mid (macL key ls.flatten) 0 16).length = 16 := FE (by rw [(FN _ _)]; omega)
    refine AY (AX 151 [.slice am m cm, Slc nb1 0 16 32] (.bool (decide (mm = (mid (macL key ls.flatten) 0 16)))) (AZ _ Tryd.call151 rfl) (fun w1 hw1 => same_c am (some ⟨nb1, 0, none⟩) m 16 cm 32 mm (mid (macL key ls.flatten) 0 16) w1 hm hl1 (hrm.at (M' := []) hw1 (by simp)) (RdB.of hw1 (AT 0 rfl (segm_u8 0 16 (by rw [(FN _ _)]; omega))) (by simp)) (by omega) (by omega))) rfl ?_
    show JL _ _ _ _ ((17, .bool (decide (mm = (mid (macL key ls.flatten) 0 16)))) :: _) [_]
    refine AA _ (AH rfl) rfl ?_
    refine AL (AC (BH (DD (A4 (BI (.bool (decide (mm = (mid (macL key ls.flatten) 0 16)))) (res1 Tryd.results107 (BU rfl)) fun w1 hw1 => ?_)))))
    refine ⟨_, [], rfl, ⟨?_, rfl⟩, hw1.sub (by simp) (by simp)⟩
    have hl1 : (macL key ls.flatten).length = 32 := FN _ _
    have hl2 : (mid (macL key ls.flatten) 0 16).length = 16 := FE (by rw [hl1]; omega)
    first
    | (have hne : ¬ mm = macL key ls.flatten := fun h => by rw [← h] at hl1; omega
       rw [decide_eq_false hne, Bool.false_or]; done)
    | (have hne : ¬ mm = mid (macL key ls.flatten) 0 16 := fun h => by rw [← h] at hl2; omega
       rw [decide_eq_false hne, Bool.or_false]; done)
    | (have hne : ¬ mm = macL key ls.flatten := fun h => by rw [← h] at hl1; omega
       have hne2 : ¬ mm = mid (macL key ls.flatten) 0 16 := fun h => by rw [← h] at hl2; omega
       rw [decide_eq_false hne, decide_eq_false hne2]; rfl)
  ·
    have hp1 : ¬ (((m:Int)) = (16:Int)) := of_decide_eq_false hb1
    refine AG (AB (AA (.bool (decide (((m:Int)) = (32:Int)))) (AP rfl rfl fun _ => CA _ _) rfl ?_))
    refine AA _ (AH rfl) rfl ?_
    refine AL (AC (CL (decide (((m:Int)) = (32:Int))) rfl (fun hb2 => ?_) (fun hb2 => ?_)))
    ·
      have hp2 : ((m:Int)) = (32:Int) := of_decide_eq_true hb2
      refine AG (AB (AA _ (AE rfl) rfl ?_))
      refine AA (Slc nb1 0 32 32) (CI 32 5 1 0 32 0 32 D0 BC rfl rfl rfl (by omega) (by omega) (by omega) (by omega) (by omega) 32 (by omega)) rfl ?_
      refine AY (AX 151 [.slice am m cm, Slc nb1 0 32 32] (.bool (decide (mm = (macL key ls.flatten)))) (AZ _ Tryd.call151 rfl) (fun w1 hw1 => same_c am (some ⟨nb1, 0, none⟩) m 32 cm 32 mm (macL key ls.flatten) w1 hm (FN _ _) (hrm.at (M' := []) hw1 (by simp)) (RdB.of hw1 (AT 0 rfl (AJ _)) (by simp)) (by omega) (by omega))) rfl ?_
      show JL _ _ _ _ ((22, .bool (decide (mm = (macL key ls.flatten)))) :: _) [_]
      refine AA _ (AH rfl) rfl ?_
      refine AL (AC (BH (DD (A4 (BI (.bool (decide (mm = (macL key ls.flatten)))) (res1 Tryd.results107 (BU rfl)) fun w1 hw1 => ?_)))))
      refine ⟨_, [], rfl, ⟨?_, rfl⟩, hw1.sub (by simp) (by simp)⟩
      have hl1 : (macL key ls.flatten).length = 32 := FN _ _
      have hl2 : (mid (macL key ls.flatten) 0 16).length = 16 := FE (by rw [hl1]; omega)
      first
      | (have hne : ¬ mm = macL key ls.flatten := fun h => by rw [← h] at hl1; omega
         rw [decide_eq_false hne, Bool.false_or]; done)
      | (have hne : ¬ mm = mid (macL key ls.flatten) 0 16 := fun h => by rw [← h] at hl2; omega
         rw [decide_eq_false hne, Bool.or_false]; done)
      | (have hne : ¬ mm = macL key ls.flatten := fun h => by rw [← h] at hl1; omega
         have hne2 : ¬ mm = mid (macL key ls.flatten) 0 16 := fun h => by rw [← h] at hl2; omega
         rw [decide_eq_false hne, decide_eq_false hne2]; rfl)
    ·
      have hp2 : ¬ (((m:Int)) = (32:Int)) := of_decide_eq_false hb2
      refine BL (B0 (AC (AG (AB (AA _ (AH rfl) rfl ?_)))))
      refine AL (AC (BH (BI (.bool false) (res1 Tryd.results107 (BU rfl)) fun w1 hw1 => ?_)))
      refine ⟨_, [], rfl, ⟨?_, rfl⟩, hw1.sub (by simp) (by simp)⟩
      have hl1 : (macL key ls.flatten).length = 32 := FN _ _
      have hl2 : (mid (macL key ls.flatten) 0 16).length = 16 := FE (by rw [hl1]; omega)
      first
      | (have hne : ¬ mm = macL key ls.flatten := fun h => by rw [← h] at hl1; omega
         rw [decide_eq_false hne, Bool.false_or]; done)
      | (have hne : ¬ mm = mid (macL key ls.flatten) 0 16 := fun h => by rw [← h] at hl2; omega
         rw [decide_eq_false hne, Bool.or_false]; done)
      | (have hne : ¬ mm = macL key ls.flatten := fun h => by rw [← h] at hl1; omega
         have hne2 : ¬ mm = mid (macL key ls.flatten) 0 16 := fun h => by rw [← h] at hl2; omega
         rw [decide_eq_false hne, decide_eq_false hne2]; rfl)
end Go.Proofs.YtkdpdgpphpngeaaDoor
namespace Go.Proofs.YtkdpdgpphpngeaaDoor
open Go Go.Sx
attribute [local irreducible] mid zr8 zr32 numK valK rvalK rotr wordL spreadL comprL cpN adN spN constL initL padL stN outN sumG putL RightB tktT mayN idxT selT macL
theorem cloneSN_c  (w : World) : Calls Tryd.prog 113 #[.slice none 0 0] w (Post w [] (fun v L => v = .slice none 0 0 ∧ L = [])) := by
 refine enter w [] 8 [] [.slice none 0 0] Tryd.func113 rfl rfl (by simp) (BY (by simp) (by simp) (by simp)) ?_
 show JC _ _ _ [(0, .slice none 0 0)] _
 refine AG (AB (AA _ (AH rfl) rfl ?_))
 refine AL (AC (AG (AG (AB (AA _ (AE rfl) rfl ?_)))))
 refine AA (.bool true) (DT _ _ _ rfl rfl (fun _ => eqGuard_sl ..) fun _ => eql_sl_nil_nil CO) rfl ?_
 refine AL (AC (CM _ rfl rfl ?_))
 refine AG (AB (AA _ (AH rfl) rfl ?_))
 refine AL (AC (BH (A4 (BI (.slice none 0 0) (res1 Tryd.results113 (BU rfl)) fun w1 hw1 => ?_))))
 exact ⟨_, [], rfl, ⟨rfl, rfl⟩, hw1.sub (by simp) (by simp)⟩
theorem cloneS_c (sa : Option Addr) (ns sc : Nat) (ls : List SealR)  (w : World) (hls : ls.length = ns) (hnn : ns ≤ 2000000) (hnd : ns ≤ sc) (hcn : sc ≤ maxLen) (hs : RdV w sa (ls.flatMap sealC)) (ha : sa.isNone = false)  : Calls Tryd.prog 113 #[.slice sa ns sc] w (Post w [] (fun v L => ∃ g sp cap, v = Slc g 0 ns cap ∧ L = [⟨g, ls.flatMap sealC ++ sp, 161, (0, 0)⟩] ∧ sp.length = cap * 49 - ns * 49 ∧ ns ≤ cap ∧ cap ≤ maxLen)) := by
 have hmx : maxLen = 9223372036854775807 := rfl
 refine enter w [] 8 [] [.slice sa ns sc] Tryd.func113 rfl rfl (by simp) (BY (by simp) (by simp) (by simp)) ?_
 show JC _ _ _ [(0, .slice sa ns sc)] _
 refine AG (AB (AA _ (AH rfl) rfl ?_))
 refine AL (AC (AG (AG (AB (AA _ (AE rfl) rfl ?_)))))
 refine AA (.bool sa.isNone) (DT _ _ _ rfl rfl (fun _ => eqGuard_sl ..) fun _ => eql_sl_any CO) rfl ?_
 refine AL (AC (BZ _ rfl ha ?_))
 refine BL (AC (AG (AB (A2 (GB 161 49 CO CD) rfl ?_))))
 rintro v1 L1 ⟨nb1, hnb1, rfl, rfl⟩
 show JL _ _ _ _ ((5, Slc nb1 0 0 0) :: _) [⟨nb1, [], 161, (0, 0)⟩]
 refine AA _ (AE rfl) rfl ?_
 refine A2 (Step_cloneS 24 161 56 (.agg ([U64 0] ++ cu8 (zr8 32) ++ cu8 (zr8 16)).toArray) [true] nb1 ls sa ns sc CO (by kernel_rfl) (by kernel_rfl) rfl rfl rfl hls (RdV.src hs rfl) (by omega) (by unfold maxLen; omega)) rfl ?_
 rintro v1 L1 ⟨nb2, sp1, cp1, hg1, rfl, rfl, ha1, ha2, ha3⟩
 show JL _ _ _ _ ((7, Slc nb2 0 ns cp1) :: _) [⟨nb2, ls.flatMap sealC ++ sp1, 161, (0, 0)⟩]
 refine AA _ (AH rfl) rfl ?_
 refine AL (AC (BH (BI (Slc nb2 0 ns cp1) (res1 Tryd.results113 (BU rfl)) fun w1 hw1 => ?_)))
 exact ⟨_, _, rfl, ⟨nb2, sp1, cp1, rfl, rfl, ha1, ha2, ha3⟩, hw1.sub (by simp) (by simp)⟩
theorem clone64Z_w (ai : Option Addr) (ci : Nat) (w : World) (hc : ci ≤ maxLen) (hn : ai = none → ci = 0) : Calls Tryd.prog 112 #[.slice ai 0 ci] w (Post w [] (fun v L => ∃ ao c, v = .slice ao 0 c ∧ L = [] ∧ c ≤ maxLen ∧ (ao = none → c = 0))) := by
  by_cases ha : ai = none
  · subst ha
    rw [hn rfl]
    refine (clone64N_c w).mono ?_
    rintro E W ⟨v, L, rfl, ⟨rfl, rfl⟩, hw⟩
    exact ⟨_, _, rfl, ⟨none, 0, rfl, rfl, Nat.zero_le _, fun _ => rfl⟩, hw⟩
  · have ha' : ai.isNone = false := by cases ai with
      | none => exact absurd rfl ha
      | some x => rfl
    refine (clone64_c ai 0 ci ([] : List UInt64) w rfl (by omega) (by omega) hc RdV.nil ha').mono ?_
    rintro E W ⟨v, L, rfl, ⟨g, sp, cap, rfl, rfl, h1, h2, h3⟩, hw⟩
    exact ⟨_, [], rfl, ⟨_, _, rfl, rfl, h3, fun h => by cases h⟩, hw.sub (by simp) (by simp)⟩
theorem cloneSZ_w (sa : Option Addr) (sc : Nat) (w : World) (hc : sc ≤ maxLen) (hn : sa = none → sc = 0) : Calls Tryd.prog 113 #[.slice sa 0 sc] w (Post w [] (fun v L => ∃ ao c, v = .slice ao 0 c ∧ L = [] ∧ c ≤ maxLen ∧ (ao = none → c = 0))) := by
  by_cases ha : sa = none
  · subst ha
    rw [hn rfl]
    refine (cloneSN_c w).mono ?_
    rintro E W ⟨v, L, rfl, ⟨rfl, rfl⟩, hw⟩
    exact ⟨_, _, rfl, ⟨none, 0, rfl, rfl, Nat.zero_le _, fun _ => rfl⟩, hw⟩
  · have ha' : sa.isNone = false := by cases sa with
      | none => exact absurd rfl ha
      | some x => rfl
    refine (cloneS_c sa 0 sc ([] : List SealR) w rfl (by omega) (by omega) hc RdV.nil ha').mono ?_
    rintro E W ⟨v, L, rfl, ⟨g, sp, cap, rfl, rfl, h1, h2, h3⟩, hw⟩
    exact ⟨_, [], rfl, ⟨_, _, rfl, rfl, h3, fun h => by cases h⟩, hw.sub (by simp) (by simp)⟩
attribute [local irreducible] tkG
theorem chkK_c (key : List UInt8) (pv ep : UInt64) (k : Nat) (ai : Option Addr) (ni ci : Nat) (l : List UInt64) (sa : Option Addr) (ns sc : Nat) (ls : List SealR) (bl : UInt64) (tg : List UInt8) (tot : Nat)  (w : World) (hk32 : key.length = 32) (hl : l.length = ni) (hnm : ni ≤ 2000000) (hnc : ni ≤ ci) (hcm : ci ≤ maxLen) (hv : RdV w ai (cu64 l)) (hls : ls.length = ns) (hnn : ns ≤ 2000000) (hnd : ns ≤ sc) (hcn : sc ≤ maxLen) (hs : RdV w sa (ls.flatMap sealC)) (htg : tg.length = 16) (hmay : mayN pv ep (k:Int) l ls bl = 0) (hk : k = 1 ∨ k = 2 ∨ k = 3) (hsm : ns ≤ 300) (htot : tktN k ni ns = tot) (htb : tot ≤ 30000) (hG : GLs w) (hau : tg = tkG key pv ep k l ls bl)  : Calls Tryd.prog 48 #[.agg (cu8 key).toArray, .agg ([U64 pv, U64 ep, I64 k, .slice ai ni ci, .slice sa ns sc, U64 bl] ++ cu8 tg).toArray] w (Post w [] (fun v L => v = .nilIface ∧ L = [])) := by
 have hmx : maxLen = 9223372036854775807 := rfl
 refine enter (P := Tryd.prog) (f := 48) (fn := Tryd.f48) w [] 25 [] [.agg (cu8 key).toArray, .agg ([U64 pv, U64 ep, I64 k, .slice ai ni ci, .slice sa ns sc, U64 bl] ++ cu8 tg).toArray] Tryd.func48 rfl rfl (by simp) (BY (by simp) (by simp) (by simp)) ?_
 show JC _ _ _ [(0, .agg (cu8 key).toArray), (1, .agg ([U64 pv, U64 ep, I64 k, .slice ai ni ci, .slice sa ns sc, U64 bl] ++ cu8 tg).toArray)] _
 refine AG (AB (A2 (DN (.agg (cu8 key).toArray) (cu8 key) rfl (by first | rfl | simp)) rfl ?_))
 rintro v1 L1 ⟨nb1, hnb1, rfl, rfl⟩
 show JL _ _ _ _ ((2, Ptr nb1 0) :: _) [⟨nb1, cu8 key, 54, (0, 0)⟩]
 refine A2 (DN (.agg ([U64 pv, U64 ep, I64 k, .slice ai ni ci, .slice sa ns sc, U64 bl] ++ cu8 tg).toArray) ([U64 pv, U64 ep, I64 k, .slice ai ni ci, .slice sa ns sc, U64 bl] ++ cu8 tg) rfl (by first | rfl | simp)) rfl ?_
 rintro v1 L1 ⟨nb2, hnb2, rfl, rfl⟩
 show JL _ _ _ _ ((3, Ptr nb2 0) :: _) [_, ⟨nb2, [U64 pv, U64 ep, I64 k, .slice ai ni ci, .slice sa ns sc, U64 bl] ++ cu8 tg, 29, (0, 0)⟩]
 refine AA _ (AH rfl) rfl ?_
 refine AL (AC (AG (AB (AA (.agg ([U64 pv, U64 ep, I64 k, .slice ai ni ci, .slice sa ns sc, U64 bl] ++ cu8 tg).toArray) (AM rfl (A5 BW A3 (by simp [htg]) (AT 1 rfl (AJ _)))) rfl ?_))))
 refine A2 (B3 114 [.agg ([U64 pv, U64 ep, I64 k, .slice ai ni ci, .slice sa ns sc, U64 bl] ++ cu8 tg).toArray] _ (AZ _ Tryd.call114 rfl) (fun w1 hw1 => text_w pv ep k ai ni ci l sa ns sc ls bl tg tot w1 hl (by omega) (by omega) (by omega) (FM hw1 rfl hv) hls (by omega) (by omega) (by omega) (FM hw1 rfl hs) htg hmay hk hsm htot)) rfl ?_
 rintro v1 L1 ⟨_, ⟨nb3, sp1, cp1, rfl, rfl, hc1, hc2, hc3⟩, rfl⟩
 show JL _ _ _ _ ((9, .tuple #[Slc nb3 0 tot cp1, .nilIface]) :: _) [_, _, ⟨nb3, cu8 (tktT pv ep k l ls bl) ++ sp1, 5, (0, 0)⟩]
 refine AA _ (AE rfl) rfl ?_
 refine AA _ (BB rfl rfl) rfl ?_
 refine AA _ (BB rfl rfl) rfl ?_
 refine AA _ (AH rfl) rfl ?_
 refine AA _ (AH rfl) rfl ?_
 refine AL (AC (AG (B4 (AG (AB (AA _ (AE rfl) rfl ?_))))))
 refine AA (.bool false) (DT _ _ _ rfl rfl (fun _ => FB ..) fun _ => F9 BT) rfl ?_
 refine AA _ (AH rfl) rfl ?_
 refine AL (AC (BZ _ rfl rfl ?_))
 refine AG (CH 25 3 [(0, Ptr nb2 6), (1, Slc nb2 6 16 16), (2, Slc nb1 0 32 32), (3, Slc nb3 0 tot cp1)] BP rfl (by decide +kernel) ?_)
 refine C5 ⟨[], [0, 1, 2, 3], [], [0, 1, 2, 3], [4]⟩ 4 _ rfl rfl (by decide +kernel) rfl ⟨⟨_, rfl, AI rfl (AD 6 27 16 AW rfl BV rfl rfl)⟩, ⟨_, rfl, AI rfl (CI 16 5 1 0 16 6 16 BX BC rfl rfl rfl (by omega) (by omega) (by omega) (by omega) (by omega) 16 (by omega))⟩, ⟨_, rfl, AI rfl (CI 32 5 1 0 32 0 32 D0 BC rfl rfl rfl (by omega) (by omega) (by omega) (by omega) (by omega) 32 (by omega))⟩, BQ rfl rfl rfl, trivial⟩ rfl (A7 rfl (CP 43 1 _ [(0, Slc nb3 0 tot cp1)] ([Slc nb3 0 tot cp1]) Tryd.underlying230 B2 Tryd.zeroValue43 rfl rfl rfl (by kernel_rfl))) ?_
 rintro v1 L1 ⟨nb4, hnb4, rfl, rfl⟩
 refine ⟨[], ?_⟩
 show DP _ _ _ _ _ _ _ _ [_, _, _, ⟨nb4, [Slc nb3 0 tot cp1], 43, (0, 0)⟩]
 refine C5 ⟨[4], [0, 1, 2, 3], [3], [0, 1, 2], [5]⟩ 5 _ rfl rfl (by decide +kernel) rfl ⟨⟨_, rfl, AI rfl (AD 6 27 16 AW rfl BV rfl rfl)⟩, ⟨_, rfl, AI rfl (CI 16 5 1 0 16 6 16 BX BC rfl rfl rfl (by omega) (by omega) (by omega) (by omega) (by omega) 16 (by omega))⟩, ⟨_, rfl, AI rfl (CI 32 5 1 0 32 0 32 D0 BC rfl rfl rfl (by omega) (by omega) (by omega) (by omega) (by omega) 32 (by omega))⟩, trivial⟩ rfl (A7 rfl (AX 107 [Slc nb2 6 16 16, Slc nb1 0 32 32, Slc nb4 0 1 1] (.bool (decide (tg = macL key ([tktT pv ep k l ls bl].flatten)) || decide (tg = mid (macL key ([tktT pv ep k l ls bl].flatten)) 0 16))) (AZ _ Tryd.call107 rfl) (fun w1 hw1 => check_c (some ⟨nb2, 6, none⟩) 16 16 tg (some ⟨nb1, 0, none⟩) 32 32 key nb4 1 [Slc nb3 0 tot cp1] [tktT pv ep k l ls bl] w1 htg (by omega) (RdB.of hw1 (AT 1 rfl (Seg.right 6 0 rfl rfl (AJ _))) (by simp)) hk32 (fun h => by cases h) (by omega) (RdB.of hw1 (AT 0 rfl (AJ _)) (by simp)) (by simp) (by simp) (by simp) ⟨RdA.of hw1 (AT 3 rfl (Seg.head)) (by simp), ⟨⟨(some ⟨nb3, 0, none⟩), cp1, congrArg (fun n => Value.slice (some ⟨nb3, 0, none⟩) n cp1) ((show (tktT pv ep k l ls bl).length = tot from ((tktT_len hl hls).trans htot))).symm, (RdB.of hw1 (AT 2 rfl (A8 (AJ _))) (by simp))⟩, trivial⟩⟩ (by simp only [List.flatten_cons, List.flatten_nil, List.length_append, List.length_nil, (show (tktT pv ep k l ls bl).length = tot from ((tktT_len hl hls).trans htot))]; omega) (hG.at hw1)))) ?_
 rintro v1 L1 ⟨rfl, rfl⟩
 refine ⟨[(6, .bool (!(decide (tg = macL key ([tktT pv ep k l ls bl].flatten)) || decide (tg = mid (macL key ([tktT pv ep k l ls bl].flatten)) 0 16)))), (7, .bool (!(decide (tg = macL key ([tktT pv ep k l ls bl].flatten)) || decide (tg = mid (macL key ([tktT pv ep k l ls bl].flatten)) 0 16))))], ?_⟩
 show DP _ _ _ _ _ _ _ _ [_, _, _, _]
 refine C2 ⟨[4, 5], [0, 1, 2, 3, 6, 7], [0, 1, 2, 3], [6, 7], []⟩ rfl rfl (by decide +kernel) rfl ⟨⟨_, rfl, AI rfl (FD rfl)⟩, ⟨_, rfl, AI rfl (AH rfl)⟩, trivial⟩ ?_
 refine CB (F' := [(16, .bool (!(decide (tg = macL key ([tktT pv ep k l ls bl].flatten)) || decide (tg = mid (macL key ([tktT pv ep k l ls bl].flatten)) 0 16)))), (4, .nilIface)]) (by kernel_rfl) ?_
 refine AC (BZ _ rfl (by rw [show ((decide (tg = macL key ([tktT pv ep k l ls bl].flatten)) || decide (tg = mid (macL key ([tktT pv ep k l ls bl].flatten)) 0 16))) = true from (by rw [chk_tk _ _ _ _ _ _ _ htg]; exact decide_eq_true hau)] <;> rfl) ?_)
 refine BL (B0 (AC (AG (AB (AA _ (AH rfl) rfl ?_)))))
 refine AL (AC (BH (B5 [false, false, false, false] ?_)))
 show JQ _ _ _ _ []
 refine BI (.nilIface) (res1 Tryd.results48 (BU rfl)) fun w1 hw1 => ?_
 exact ⟨_, [], rfl, ⟨rfl, rfl⟩, hw1.sub (by simp) (by simp)⟩
theorem bld26_0123 {w : World} {v0 : Value} {v1 : Value} {v2 : Value} {v3 : Value} (h0 : v0.cells = [v0].toArray) (h1 : v1.cells = [v1].toArray) (h2 : v2.cells = [v2].toArray) (h3 : v3.cells = [v3].toArray) : (Instr.build 26 ([(0, v0), (1, v1), (2, v2), (3, v3)] : List (Nat × Value)).toArray).run Tryd.prog w = .ok (.agg (((([v0] : List Value) ++ ([v1] : List Value)) ++ ([v2] : List Value)) ++ ([v3] : List Value)).toArray) w :=
 EZ (places := #[(0, 1), (1, 1), (2, 1), (3, 1)]) (Z := (([I64 0] : List Value) ++ (([.slice none 0 0] : List Value) ++ (([.slice none 0 0] : List Value) ++ (([U64 0] : List Value) ++ []))))) (fun _ => by kernel_rfl) AV (fun _ => by kernel_rfl) ((F6 ([I64 0] : List Value) (([.slice none 0 0] : List Value) ++ (([.slice none 0 0] : List Value) ++ (([U64 0] : List Value) ++ []))) ([v0] : List Value) h0 (by simp [AN]) rfl).trans ((FU ([v0] : List Value) ([.slice none 0 0] : List Value) (([.slice none 0 0] : List Value) ++ (([U64 0] : List Value) ++ [])) ([v1] : List Value) h1 (by simp [AN]) rfl).trans ((FU (([v0] : List Value) ++ ([v1] : List Value)) ([.slice none 0 0] : List Value) (([U64 0] : List Value) ++ []) ([v2] : List Value) h2 (by simp [AN]) rfl).trans ((FU ((([v0] : List Value) ++ ([v1] : List Value)) ++ ([v2] : List Value)) ([U64 0] : List Value) [] ([v3] : List Value) h3 (by simp [AN]) rfl).trans (by simp [Instr.fill])))))
theorem bld29_012 {w : World} {v0 : Value} {v1 : Value} {c2 : List Value} (h0 : v0.cells = [v0].toArray) (h1 : v1.cells = [v1].toArray) (h2 : c2.length = 4) : (Instr.build 29 ([(0, v0), (1, v1), (2, .agg c2.toArray)] : List (Nat × Value)).toArray).run Tryd.prog w = .ok (.agg (((([v0] : List Value) ++ ([v1] : List Value)) ++ c2) ++ (cu8 (zr8 16) : List Value)).toArray) w :=
 EZ (places := #[(0, 1), (1, 1), (2, 4), (6, 16)]) (Z := (([U64 0] : List Value) ++ (([U64 0] : List Value) ++ (([I64 0, .slice none 0 0, .slice none 0 0, U64 0] : List Value) ++ ((cu8 (zr8 16) : List Value) ++ []))))) (fun _ => by kernel_rfl) AW (fun _ => by kernel_rfl) ((F6 ([U64 0] : List Value) (([U64 0] : List Value) ++ (([I64 0, .slice none 0 0, .slice none 0 0, U64 0] : List Value) ++ ((cu8 (zr8 16) : List Value) ++ []))) ([v0] : List Value) h0 (by simp [AN]) rfl).trans ((FU ([v0] : List Value) ([U64 0] : List Value) (([I64 0, .slice none 0 0, .slice none 0 0, U64 0] : List Value) ++ ((cu8 (zr8 16) : List Value) ++ [])) ([v1] : List Value) h1 (by simp [AN]) rfl).trans ((FU (([v0] : List Value) ++ ([v1] : List Value)) ([I64 0, .slice none 0 0, .slice none 0 0, U64 0] : List Value) ((cu8 (zr8 16) : List Value) ++ []) c2 rfl (by simp [AN, h2]) (by simp [h2, AN])).trans ((GG ((([v0] : List Value) ++ ([v1] : List Value)) ++ c2) (cu8 (zr8 16) : List Value) []).trans (by simp [Instr.fill])))))
theorem sign3_c (key : List UInt8) (pv ep : UInt64) (k : Nat) (ai : Option Addr) (ci : Nat) (sa : Option Addr) (sc : Nat) (bl : UInt64) (tot : Nat)  (w : World) (hk32 : key.length = 32) (hci : ci ≤ maxLen) (hnI : ai = none → ci = 0) (hcs : sc ≤ maxLen) (hnS : sa = none → sc = 0) (hmay : mayN pv ep (k:Int) ([] : List UInt64) ([] : List SealR) bl = 0) (hk : k = 3) (htot : tktN k 0 0 = tot) (htb : tot ≤ 30000) (hG : GLs w)  : Calls Tryd.prog 46 #[.agg (cu8 key).toArray, U64 pv, U64 ep, .agg #[I64 k, .slice ai 0 ci, .slice sa 0 sc, U64 bl]] w (Post w [] (fun v L => ∃ a1 c1 a2 c2, v = .tuple #[.agg ([U64 pv, U64 ep, I64 k, .slice a1 0 c1, .slice a2 0 c2, U64 bl] ++ cu8 (tkG key pv ep k ([] : List UInt64) ([] : List SealR) bl)).toArray, .nilIface] ∧ L = [] ∧ c1 ≤ maxLen ∧ (a1 = none → c1 = 0) ∧ c2 ≤ maxLen ∧ (a2 = none → c2 = 0))) := by
 have hmx : maxLen = 9223372036854775807 := rfl
 refine enter (P := Tryd.prog) (f := 46) (fn := Tryd.f46) w [] 44 [] [.agg (cu8 key).toArray, U64 pv, U64 ep, .agg #[I64 k, .slice ai 0 ci, .slice sa 0 sc, U64 bl]] Tryd.func46 rfl rfl (by simp) (BY (by simp) (by simp) (by simp)) ?_
 show JC _ _ _ [(0, .agg (cu8 key).toArray), (1, U64 pv), (2, U64 ep), (3, .agg #[I64 k, .slice ai 0 ci, .slice sa 0 sc, U64 bl])] _
 refine AG (AB (A2 (DN (.agg (cu8 key).toArray) (cu8 key) rfl (by first | rfl | simp)) rfl ?_))
 rintro v1 L1 ⟨nb1, hnb1, rfl, rfl⟩
 show JL _ _ _ _ ((4, Ptr nb1 0) :: _) [⟨nb1, cu8 key, 54, (0, 0)⟩]
 refine A2 (DN (.agg #[I64 k, .slice ai 0 ci, .slice sa 0 sc, U64 bl]) ([I64 k, .slice ai 0 ci, .slice sa 0 sc, U64 bl]) rfl (by first | rfl | simp)) rfl ?_
 rintro v1 L1 ⟨nb2, hnb2, rfl, rfl⟩
 show JL _ _ _ _ ((7, Ptr nb2 0) :: _) [_, ⟨nb2, [I64 k, .slice ai 0 ci, .slice sa 0 sc, U64 bl], 26, (0, 0)⟩]
 refine A2 (BN _ ([U64 0, U64 0, I64 0, .slice none 0 0, .slice none 0 0, U64 0] ++ cu8 (zr8 16)) CG (by kernel_rfl)) rfl ?_
 rintro v1 L1 ⟨nb3, hnb3, rfl, rfl⟩
 show JL _ _ _ _ ((8, Ptr nb3 0) :: _) [_, _, ⟨nb3, [U64 0, U64 0, I64 0, .slice none 0 0, .slice none 0 0, U64 0] ++ cu8 (zr8 16), 29, (0, 0)⟩]
 refine AA _ (AH rfl) rfl ?_
 refine AL (AC (AG (JC_cut (ι := Nat × Option Addr × Nat × Option Addr × Nat) (fun ⟨ynb0, yao1, yca2, yao3, yca4⟩ => [(4, Ptr nb1 0), (8, Ptr nb3 0), (9, .nilIface), (10, Ptr ynb0 0)]) (fun ⟨ynb0, yao1, yca2, yao3, yca4⟩ => [⟨nb1, cu8 key, 54, (0, 0)⟩, ⟨nb3, [U64 0, U64 0, I64 0, .slice none 0 0, .slice none 0 0, U64 0] ++ cu8 (zr8 16), 29, (0, 0)⟩, ⟨ynb0, [U64 pv, U64 ep, I64 k, .slice yao1 0 yca2, .slice yao3 0 yca4, U64 bl] ++ cu8 (zr8 16), 29, (0, 0)⟩]) (fun ⟨ynb0, yao1, yca2, yao3, yca4⟩ => yca2 ≤ maxLen ∧ (yao1 = none → yca2 = 0) ∧ yca4 ≤ maxLen ∧ (yao3 = none → yca4 = 0)) ?_ ?_)))
 ·
  refine CH 44 5 [(0, U64 pv), (1, U64 ep), (2, Ptr nb2 0), (3, I64 k), (4, Ptr nb2 1), (5, .slice ai 0 ci), (7, Ptr nb2 2), (8, .slice sa 0 sc), (10, Ptr nb2 3), (11, U64 bl)] BP rfl (by decide +kernel) ?_
  refine DP_two ⟨[], [0, 1, 2, 3, 4, 5, 7, 8, 10, 11], [], [0, 1, 2, 3, 4, 5, 7, 8, 10, 11], [6, 14]⟩ 6 14 _ _ rfl rfl (by decide +kernel) rfl ⟨BQ rfl rfl rfl, BQ rfl rfl rfl, ⟨_, rfl, AI rfl (AD 0 3 1 AV rfl BA rfl rfl)⟩, ⟨_, rfl, AI rfl (AM rfl (A6 BS (AT 1 rfl (Seg.head))))⟩, ⟨_, rfl, AI rfl (AD 1 23 1 AV rfl B9 rfl rfl)⟩, ⟨_, rfl, AI rfl (AM rfl (A6 C1 (AT 1 rfl (AO (Seg.head)))))⟩, ⟨_, rfl, AI rfl (AD 2 24 1 AV rfl C8 rfl rfl)⟩, ⟨_, rfl, AI rfl (AM rfl (A6 DQ (AT 1 rfl (AO (AO (Seg.head))))))⟩, ⟨_, rfl, AI rfl (AD 3 22 1 AV rfl A1 rfl rfl)⟩, ⟨_, rfl, AI rfl (AM rfl (A6 BD (AT 1 rfl (AO (AO (AO (Seg.head)))))))⟩, trivial⟩ rfl rfl (A7 rfl (B3 112 [.slice ai 0 ci] _ (AZ _ Tryd.call112 rfl) (fun w1 hw1 => clone64Z_w ai ci w1 (by omega) hnI))) (A7 rfl (BN _ ([U64 0, U64 0, I64 0, .slice none 0 0, .slice none 0 0, U64 0] ++ cu8 (zr8 16)) CG (by kernel_rfl))) ?_ ?_
  ·
   rintro v1 L1 ⟨_, ⟨ao1, ca1, rfl, rfl, hc1, hc2⟩, rfl⟩
   refine ⟨[], ?_⟩
   show DP _ _ _ _ _ _ _ _ [_, _, _]
   refine DP_two ⟨[6], [0, 1, 2, 3, 4, 5, 7, 8, 10, 11], [4, 5], [0, 1, 2, 3, 7, 8, 10, 11], [9, 14]⟩ 9 14 _ _ rfl rfl (by decide +kernel) rfl ⟨BQ rfl rfl rfl, BQ rfl rfl rfl, ⟨_, rfl, AI rfl (AD 0 3 1 AV rfl BA rfl rfl)⟩, ⟨_, rfl, AI rfl (AM rfl (A6 BS (AT 1 rfl (Seg.head))))⟩, ⟨_, rfl, AI rfl (AD 2 24 1 AV rfl C8 rfl rfl)⟩, ⟨_, rfl, AI rfl (AM rfl (A6 DQ (AT 1 rfl (AO (AO (Seg.head))))))⟩, ⟨_, rfl, AI rfl (AD 3 22 1 AV rfl A1 rfl rfl)⟩, ⟨_, rfl, AI rfl (AM rfl (A6 BD (AT 1 rfl (AO (AO (AO (Seg.head)))))))⟩, trivial⟩ rfl rfl (A7 rfl (B3 113 [.slice sa 0 sc] _ (AZ _ Tryd.call113 rfl) (fun w1 hw1 => cloneSZ_w sa sc w1 (by omega) hnS))) (A7 rfl (BN _ ([U64 0, U64 0, I64 0, .slice none 0 0, .slice none 0 0, U64 0] ++ cu8 (zr8 16)) CG (by kernel_rfl))) ?_ ?_
   ·
    rintro v1 L1 ⟨_, ⟨ao2, ca2, rfl, rfl, hc3, hc4⟩, rfl⟩
    refine ⟨[(12, .agg #[I64 k, .slice ao1 0 ca1, .slice ao2 0 ca2, U64 bl]), (13, .agg ([U64 pv, U64 ep, I64 k, .slice ao1 0 ca1, .slice ao2 0 ca2, U64 bl] ++ cu8 (zr8 16)).toArray)], ?_⟩
    show DP _ _ _ _ _ _ _ _ [_, _, _]
    refine C5 ⟨[6, 9], [0, 1, 2, 3, 4, 5, 7, 8, 10, 11, 12, 13], [4, 5, 7, 8], [0, 1, 2, 3, 10, 11, 12, 13], [14]⟩ 14 _ rfl rfl (by decide +kernel) rfl ⟨BQ rfl rfl rfl, BQ rfl rfl rfl, ⟨_, rfl, AI rfl (AD 0 3 1 AV rfl BA rfl rfl)⟩, ⟨_, rfl, AI rfl (AM rfl (A6 BS (AT 1 rfl (Seg.head))))⟩, ⟨_, rfl, AI rfl (AD 3 22 1 AV rfl A1 rfl rfl)⟩, ⟨_, rfl, AI rfl (AM rfl (A6 BD (AT 1 rfl (AO (AO (AO (Seg.head)))))))⟩, ⟨_, rfl, AI rfl (DG [(0, I64 k), (1, .slice ao1 0 ca1), (2, .slice ao2 0 ca2), (3, U64 bl)] _ rfl (fun _ => bld26_0123 rfl rfl rfl rfl))⟩, ⟨_, rfl, AI rfl (DG [(0, U64 pv), (1, U64 ep), (2, .agg #[I64 k, .slice ao1 0 ca1, .slice ao2 0 ca2, U64 bl])] _ rfl (fun _ => bld29_012 rfl rfl (by simp [AN])))⟩, trivial⟩ rfl (A7 rfl (BN _ ([U64 0, U64 0, I64 0, .slice none 0 0, .slice none 0 0, U64 0] ++ cu8 (zr8 16)) CG (by kernel_rfl))) ?_
    rintro v1 L1 ⟨nb6, hnb6, rfl, rfl⟩
    refine ⟨[], ?_⟩
    show DP _ _ _ _ _ _ _ _ [_, _, _, ⟨nb6, [U64 0, U64 0, I64 0, .slice none 0 0, .slice none 0 0, U64 0] ++ cu8 (zr8 16), 29, (0, 0)⟩]
    refine B6 ⟨[6, 9, 14], [0, 1, 2, 3, 4, 5, 7, 8, 10, 11, 12, 13], [4, 5, 7, 8], [0, 1, 2, 3, 10, 11, 12, 13], [15]⟩ 15 rfl rfl (by decide +kernel) rfl ⟨BQ rfl rfl rfl, BQ rfl rfl rfl, ⟨_, rfl, AI rfl (AD 0 3 1 AV rfl BA rfl rfl)⟩, ⟨_, rfl, AI rfl (AM rfl (A6 BS (AT 1 rfl (Seg.head))))⟩, ⟨_, rfl, AI rfl (AD 3 22 1 AV rfl A1 rfl rfl)⟩, ⟨_, rfl, AI rfl (AM rfl (A6 BD (AT 1 rfl (AO (AO (AO (Seg.head)))))))⟩, ⟨_, rfl, AI rfl (DG [(0, I64 k), (1, .slice ao1 0 ca1), (2, .slice ao2 0 ca2), (3, U64 bl)] _ rfl (fun _ => bld26_0123 rfl rfl rfl rfl))⟩, ⟨_, rfl, AI rfl (DG [(0, U64 pv), (1, U64 ep), (2, .agg #[I64 k, .slice ao1 0 ca1, .slice ao2 0 ca2, U64 bl])] _ rfl (fun _ => bld29_012 rfl rfl (by simp [AN])))⟩, trivial⟩ rfl (A7 rfl (AU 3 nb6 22 ([U64 0, U64 0, I64 0, .slice none 0 0, .slice none 0 0, U64 0] ++ cu8 (zr8 16)) 29 ([U64 pv, U64 ep, I64 k, .slice ao1 0 ca1, .slice ao2 0 ca2, U64 bl] ++ cu8 (zr8 16)) rfl rfl rfl A3 (by simp [(AN 16)]) (CK (by simp [Value.oneCell']) CF) (by simp [(AN 16)]) (A0 (by simp [(AN 16), (AN 16)])))) ?_
    show DP _ _ _ _ _ _ _ _ [_, _, _, ⟨nb6, [U64 pv, U64 ep, I64 k, .slice ao1 0 ca1, .slice ao2 0 ca2, U64 bl] ++ cu8 (zr8 16), 29, (0, 0)⟩]
    refine C2 ⟨[6, 9, 14, 15], [0, 1, 2, 3, 4, 5, 7, 8, 10, 11, 12, 13], [0, 1, 2, 3, 4, 5, 7, 8, 10, 11, 12, 13], [], []⟩ rfl rfl (by decide +kernel) rfl trivial ?_
    refine CB (F' := [(10, Ptr nb6 0), (4, Ptr nb1 0), (8, Ptr nb3 0), (9, .nilIface)]) (by kernel_rfl) ?_
    refine GA [0, 2, 3] (by decide) ?_
    show JQ _ _ _ _ [_, _, _]
    refine FG (nb6, ao1, ca1, ao2, ca2) ⟨(by first | omega | (simp; done)), (by first | exact hc2 | omega | (simp; done)), (by first | omega | (simp; done)), (by first | exact hc4 | omega | (simp; done))⟩ (Sub.all rfl) rfl
   ·
    rintro v1 L1 ⟨nb5, hnb5, rfl, rfl⟩
    refine ⟨[], ?_⟩
    show DP _ _ _ _ _ _ _ _ [_, _, _, ⟨nb5, [U64 0, U64 0, I64 0, .slice none 0 0, .slice none 0 0, U64 0] ++ cu8 (zr8 16), 29, (0, 0)⟩]
    refine C5 ⟨[6, 14], [0, 1, 2, 3, 4, 5, 7, 8, 10, 11], [4, 5], [0, 1, 2, 3, 7, 8, 10, 11], [9]⟩ 9 _ rfl rfl (by decide +kernel) rfl ⟨BQ rfl rfl rfl, BQ rfl rfl rfl, ⟨_, rfl, AI rfl (AD 0 3 1 AV rfl BA rfl rfl)⟩, ⟨_, rfl, AI rfl (AM rfl (A6 BS (AT 1 rfl (Seg.head))))⟩, ⟨_, rfl, AI rfl (AD 2 24 1 AV rfl C8 rfl rfl)⟩, ⟨_, rfl, AI rfl (AM rfl (A6 DQ (AT 1 rfl (AO (AO (Seg.head))))))⟩, ⟨_, rfl, AI rfl (AD 3 22 1 AV rfl A1 rfl rfl)⟩, ⟨_, rfl, AI rfl (AM rfl (A6 BD (AT 1 rfl (AO (AO (AO (Seg.head)))))))⟩, trivial⟩ rfl (A7 rfl (B3 113 [.slice sa 0 sc] _ (AZ _ Tryd.call113 rfl) (fun w1 hw1 => cloneSZ_w sa sc w1 (by omega) hnS))) ?_
    rintro v1 L1 ⟨_, ⟨ao3, ca3, rfl, rfl, hc5, hc6⟩, rfl⟩
    refine ⟨[(12, .agg #[I64 k, .slice ao1 0 ca1, .slice ao3 0 ca3, U64 bl]), (13, .agg ([U64 pv, U64 ep, I64 k, .slice ao1 0 ca1, .slice ao3 0 ca3, U64 bl] ++ cu8 (zr8 16)).toArray)], ?_⟩
    show DP _ _ _ _ _ _ _ _ [_, _, _, _]
    refine B6 ⟨[6, 14, 9], [0, 1, 2, 3, 4, 5, 7, 8, 10, 11, 12, 13], [4, 5, 7, 8], [0, 1, 2, 3, 10, 11, 12, 13], [15]⟩ 15 rfl rfl (by decide +kernel) rfl ⟨BQ rfl rfl rfl, BQ rfl rfl rfl, ⟨_, rfl, AI rfl (AD 0 3 1 AV rfl BA rfl rfl)⟩, ⟨_, rfl, AI rfl (AM rfl (A6 BS (AT 1 rfl (Seg.head))))⟩, ⟨_, rfl, AI rfl (AD 3 22 1 AV rfl A1 rfl rfl)⟩, ⟨_, rfl, AI rfl (AM rfl (A6 BD (AT 1 rfl (AO (AO (AO (Seg.head)))))))⟩, ⟨_, rfl, AI rfl (DG [(0, I64 k), (1, .slice ao1 0 ca1), (2, .slice ao3 0 ca3), (3, U64 bl)] _ rfl (fun _ => bld26_0123 rfl rfl rfl rfl))⟩, ⟨_, rfl, AI rfl (DG [(0, U64 pv), (1, U64 ep), (2, .agg #[I64 k, .slice ao1 0 ca1, .slice ao3 0 ca3, U64 bl])] _ rfl (fun _ => bld29_012 rfl rfl (by simp [AN])))⟩, trivial⟩ rfl (A7 rfl (AU 3 nb5 22 ([U64 0, U64 0, I64 0, .slice none 0 0, .slice none 0 0, U64 0] ++ cu8 (zr8 16)) 29 ([U64 pv, U64 ep, I64 k, .slice ao1 0 ca1, .slice ao3 0 ca3, U64 bl] ++ cu8 (zr8 16)) rfl rfl rfl A3 (by simp [(AN 16)]) (CK (by simp [Value.oneCell']) CF) (by simp [(AN 16)]) (A0 (by simp [(AN 16), (AN 16)])))) ?_
    show DP _ _ _ _ _ _ _ _ [_, _, _, ⟨nb5, [U64 pv, U64 ep, I64 k, .slice ao1 0 ca1, .slice ao3 0 ca3, U64 bl] ++ cu8 (zr8 16), 29, (0, 0)⟩]
    refine C2 ⟨[6, 14, 9, 15], [0, 1, 2, 3, 4, 5, 7, 8, 10, 11, 12, 13], [0, 1, 2, 3, 4, 5, 7, 8, 10, 11, 12, 13], [], []⟩ rfl rfl (by decide +kernel) rfl trivial ?_
    refine CB (F' := [(10, Ptr nb5 0), (4, Ptr nb1 0), (8, Ptr nb3 0), (9, .nilIface)]) (by kernel_rfl) ?_
    refine GA [0, 2, 3] (by decide) ?_
    show JQ _ _ _ _ [_, _, _]
    refine FG (nb5, ao1, ca1, ao3, ca3) ⟨(by first | omega | (simp; done)), (by first | exact hc2 | omega | (simp; done)), (by first | omega | (simp; done)), (by first | exact hc6 | omega | (simp; done))⟩ (Sub.all rfl) rfl
  ·
   rintro v1 L1 ⟨nb4, hnb4, rfl, rfl⟩
   refine ⟨[], ?_⟩
   show DP _ _ _ _ _ _ _ _ [_, _, _, ⟨nb4, [U64 0, U64 0, I64 0, .slice none 0 0, .slice none 0 0, U64 0] ++ cu8 (zr8 16), 29, (0, 0)⟩]
   refine C5 ⟨[14], [0, 1, 2, 3, 4, 5, 7, 8, 10, 11], [], [0, 1, 2, 3, 4, 5, 7, 8, 10, 11], [6]⟩ 6 _ rfl rfl (by decide +kernel) rfl ⟨BQ rfl rfl rfl, BQ rfl rfl rfl, ⟨_, rfl, AI rfl (AD 0 3 1 AV rfl BA rfl rfl)⟩, ⟨_, rfl, AI rfl (AM rfl (A6 BS (AT 1 rfl (Seg.head))))⟩, ⟨_, rfl, AI rfl (AD 1 23 1 AV rfl B9 rfl rfl)⟩, ⟨_, rfl, AI rfl (AM rfl (A6 C1 (AT 1 rfl (AO (Seg.head)))))⟩, ⟨_, rfl, AI rfl (AD 2 24 1 AV rfl C8 rfl rfl)⟩, ⟨_, rfl, AI rfl (AM rfl (A6 DQ (AT 1 rfl (AO (AO (Seg.head))))))⟩, ⟨_, rfl, AI rfl (AD 3 22 1 AV rfl A1 rfl rfl)⟩, ⟨_, rfl, AI rfl (AM rfl (A6 BD (AT 1 rfl (AO (AO (AO (Seg.head)))))))⟩, trivial⟩ rfl (A7 rfl (B3 112 [.slice ai 0 ci] _ (AZ _ Tryd.call112 rfl) (fun w1 hw1 => clone64Z_w ai ci w1 (by omega) hnI))) ?_
   rintro v1 L1 ⟨_, ⟨ao4, ca4, rfl, rfl, hc7, hc8⟩, rfl⟩
   refine ⟨[], ?_⟩
   show DP _ _ _ _ _ _ _ _ [_, _, _, _]
   refine C5 ⟨[14, 6], [0, 1, 2, 3, 4, 5, 7, 8, 10, 11], [4, 5], [0, 1, 2, 3, 7, 8, 10, 11], [9]⟩ 9 _ rfl rfl (by decide +kernel) rfl ⟨BQ rfl rfl rfl, BQ rfl rfl rfl, ⟨_, rfl, AI rfl (AD 0 3 1 AV rfl BA rfl rfl)⟩, ⟨_, rfl, AI rfl (AM rfl (A6 BS (AT 1 rfl (Seg.head))))⟩, ⟨_, rfl, AI rfl (AD 2 24 1 AV rfl C8 rfl rfl)⟩, ⟨_, rfl, AI rfl (AM rfl (A6 DQ (AT 1 rfl (AO (AO (Seg.head))))))⟩, ⟨_, rfl, AI rfl (AD 3 22 1 AV rfl A1 rfl rfl)⟩, ⟨_, rfl, AI rfl (AM rfl (A6 BD (AT 1 rfl (AO (AO (AO (Seg.head)))))))⟩, trivial⟩ rfl (A7 rfl (B3 113 [.slice sa 0 sc] _ (AZ _ Tryd.call113 rfl) (fun w1 hw1 => cloneSZ_w sa sc w1 (by omega) hnS))) ?_
   rintro v1 L1 ⟨_, ⟨ao5, ca5, rfl, rfl, hc9, hc10⟩, rfl⟩
   refine ⟨[(12, .agg #[I64 k, .slice ao4 0 ca4, .slice ao5 0 ca5, U64 bl]), (13, .agg ([U64 pv, U64 ep, I64 k, .slice ao4 0 ca4, .slice ao5 0 ca5, U64 bl] ++ cu8 (zr8 16)).toArray)], ?_⟩
   show DP _ _ _ _ _ _ _ _ [_, _, _, _]
   refine B6 ⟨[14, 6, 9], [0, 1, 2, 3, 4, 5, 7, 8, 10, 11, 12, 13], [4, 5, 7, 8], [0, 1, 2, 3, 10, 11, 12, 13], [15]⟩ 15 rfl rfl (by decide +kernel) rfl ⟨BQ rfl rfl rfl, BQ rfl rfl rfl, ⟨_, rfl, AI rfl (AD 0 3 1 AV rfl BA rfl rfl)⟩, ⟨_, rfl, AI rfl (AM rfl (A6 BS (AT 1 rfl (Seg.head))))⟩, ⟨_, rfl, AI rfl (AD 3 22 1 AV rfl A1 rfl rfl)⟩, ⟨_, rfl, AI rfl (AM rfl (A6 BD (AT 1 rfl (AO (AO (AO (Seg.head)))))))⟩, ⟨_, rfl, AI rfl (DG [(0, I64 k), (1, .slice ao4 0 ca4), (2, .slice ao5 0 ca5), (3, U64 bl)] _ rfl (fun _ => bld26_0123 rfl rfl rfl rfl))⟩, ⟨_, rfl, AI rfl (DG [(0, U64 pv), (1, U64 ep), (2, .agg #[I64 k, .slice ao4 0 ca4, .slice ao5 0 ca5, U64 bl])] _ rfl (fun _ => bld29_012 rfl rfl (by simp [AN])))⟩, trivial⟩ rfl (A7 rfl (AU 3 nb4 22 ([U64 0, U64 0, I64 0, .slice none 0 0, .slice none 0 0, U64 0] ++ cu8 (zr8 16)) 29 ([U64 pv, U64 ep, I64 k, .slice ao4 0 ca4, .slice ao5 0 ca5, U64 bl] ++ cu8 (zr8 16)) rfl rfl rfl A3 (by simp [(AN 16)]) (CK (by simp [Value.oneCell']) CF) (by simp [(AN 16)]) (A0 (by simp [(AN 16), (AN 16)])))) ?_
   show DP _ _ _ _ _ _ _ _ [_, _, _, ⟨nb4, [U64 pv, U64 ep, I64 k, .slice ao4 0 ca4, .slice ao5 0 ca5, U64 bl] ++ cu8 (zr8 16), 29, (0, 0)⟩]
   refine C2 ⟨[14, 6, 9, 15], [0, 1, 2, 3, 4, 5, 7, 8, 10, 11, 12, 13], [0, 1, 2, 3, 4, 5, 7, 8, 10, 11, 12, 13], [], []⟩ rfl rfl (by decide +kernel) rfl trivial ?_
   refine CB (F' := [(10, Ptr nb4 0), (4, Ptr nb1 0), (8, Ptr nb3 0), (9, .nilIface)]) (by kernel_rfl) ?_
   refine GA [0, 2, 3] (by decide) ?_
   show JQ _ _ _ _ [_, _, _]
   refine FG (nb4, ao4, ca4, ao5, ca5) ⟨(by first | omega | (simp; done)), (by first | exact hc8 | omega | (simp; done)), (by first | omega | (simp; done)), (by first | exact hc10 | omega | (simp; done))⟩ (Sub.all rfl) rfl
 ·
  rintro ⟨ynb0, yao1, yca2, yao3, yca4⟩ ⟨hy1, hy2, hy3, hy4⟩
  show JQ _ _ _ [(4, Ptr nb1 0), (8, Ptr nb3 0), (9, .nilIface), (10, Ptr ynb0 0)] [⟨nb1, cu8 key, 54, (0, 0)⟩, ⟨nb3, [U64 0, U64 0, I64 0, .slice none 0 0, .slice none 0 0, U64 0] ++ cu8 (zr8 16), 29, (0, 0)⟩, ⟨ynb0, [U64 pv, U64 ep, I64 k, .slice yao1 0 yca2, .slice yao3 0 yca4, U64 bl] ++ cu8 (zr8 16), 29, (0, 0)⟩]
  refine AC (AG (AB (AA (.agg ([U64 pv, U64 ep, I64 k, .slice yao1 0 yca2, .slice yao3 0 yca4, U64 bl] ++ cu8 (zr8 16)).toArray) (AM rfl (A5 BW A3 (by simp [(AN 16)]) (AT 2 rfl (AJ _)))) rfl ?_)))
  refine A2 (B3 114 [.agg ([U64 pv, U64 ep, I64 k, .slice yao1 0 yca2, .slice yao3 0 yca4, U64 bl] ++ cu8 (zr8 16)).toArray] _ (AZ _ Tryd.call114 rfl) (fun w1 hw1 => text_w pv ep k yao1 0 yca2 ([] : List UInt64) yao3 0 yca4 ([] : List SealR) bl (zr8 16) tot w1 rfl (by omega) (by omega) (by omega) RdV.nil rfl (by omega) (by omega) (by omega) RdV.nil (AN 16) hmay (by omega) (by omega) htot)) rfl ?_
  rintro v1 L1 ⟨_, ⟨nb7, sp1, cp1, rfl, rfl, hc11, hc12, hc13⟩, rfl⟩
  show JL _ _ _ _ ((29, .tuple #[Slc nb7 0 tot cp1, .nilIface]) :: _) [_, _, _, ⟨nb7, cu8 (tktT pv ep k ([] : List UInt64) ([] : List SealR) bl) ++ sp1, 5, (0, 0)⟩]
  refine AA _ (AE rfl) rfl ?_
  refine AA _ (BB rfl rfl) rfl ?_
  refine AA _ (BB rfl rfl) rfl ?_
  refine AA _ (AH rfl) rfl ?_
  refine AA _ (AH rfl) rfl ?_
  refine AL (AC (AG (AG (AB (AA _ (AE rfl) rfl ?_)))))
  refine AA (.bool false) (DT _ _ _ rfl rfl (fun _ => FB ..) fun _ => F9 BT) rfl ?_
  refine AL (AC (BZ _ rfl rfl ?_))
  refine BL (AC (AG (CH 44 4 [(0, Ptr ynb0 6), (1, Slc ynb0 6 16 16), (2, Slc nb1 0 32 32), (3, Slc nb7 0 tot cp1)] BP rfl (by decide +kernel) ?_)))
  refine C5 ⟨[], [0, 1, 2, 3], [], [0, 1, 2, 3], [4]⟩ 4 _ rfl rfl (by decide +kernel) rfl ⟨⟨_, rfl, AI rfl (AD 6 27 16 AW rfl BV rfl rfl)⟩, ⟨_, rfl, AI rfl (CI 16 5 1 0 16 6 16 BX BC rfl rfl rfl (by omega) (by omega) (by omega) (by omega) (by omega) 16 (by omega))⟩, ⟨_, rfl, AI rfl (CI 32 5 1 0 32 0 32 D0 BC rfl rfl rfl (by omega) (by omega) (by omega) (by omega) (by omega) 32 (by omega))⟩, BQ rfl rfl rfl, trivial⟩ rfl (A7 rfl (CP 43 1 _ [(0, Slc nb7 0 tot cp1)] ([Slc nb7 0 tot cp1]) Tryd.underlying230 B2 Tryd.zeroValue43 rfl rfl rfl (by kernel_rfl))) ?_
  rintro v1 L1 ⟨nb8, hnb8, rfl, rfl⟩
  refine ⟨[], ?_⟩
  show DP _ _ _ _ _ _ _ _ [_, _, _, _, ⟨nb8, [Slc nb7 0 tot cp1], 43, (0, 0)⟩]
  refine C5 ⟨[4], [0, 1, 2, 3], [3], [0, 1, 2], [5]⟩ 5 _ rfl rfl (by decide +kernel) rfl ⟨⟨_, rfl, AI rfl (AD 6 27 16 AW rfl BV rfl rfl)⟩, ⟨_, rfl, AI rfl (CI 16 5 1 0 16 6 16 BX BC rfl rfl rfl (by omega) (by omega) (by omega) (by omega) (by omega) 16 (by omega))⟩, ⟨_, rfl, AI rfl (CI 32 5 1 0 32 0 32 D0 BC rfl rfl rfl (by omega) (by omega) (by omega) (by omega) (by omega) 32 (by omega))⟩, trivial⟩ rfl (A7 rfl (B3 90 [Slc nb1 0 32 32, Slc nb8 0 1 1] _ (AZ _ Tryd.call90 rfl) (fun w1 hw1 => short_c (some ⟨nb1, 0, none⟩) 32 32 key nb8 1 [Slc nb7 0 tot cp1] [tktT pv ep k ([] : List UInt64) ([] : List SealR) bl] w1 hk32 (fun h => by cases h) (by omega) (RdB.of hw1 (AT 0 rfl (AJ _)) (by simp)) (by simp) (by simp) (by simp) ⟨RdA.of hw1 (AT 4 rfl (Seg.head)) (by simp), ⟨⟨(some ⟨nb7, 0, none⟩), cp1, congrArg (fun n => Value.slice (some ⟨nb7, 0, none⟩) n cp1) ((show (tktT pv ep k ([] : List UInt64) ([] : List SealR) bl).length = tot from ((tktT_len rfl rfl).trans htot))).symm, (RdB.of hw1 (AT 3 rfl (A8 (AJ _))) (by simp))⟩, trivial⟩⟩ (by simp only [List.flatten_cons, List.flatten_nil, List.length_append, List.length_nil, (show (tktT pv ep k ([] : List UInt64) ([] : List SealR) bl).length = tot from ((tktT_len rfl rfl).trans htot))]; omega) (hG.at hw1)))) ?_
  rintro v1 L1 ⟨_, ⟨nb9, sp2, cp2, rfl, rfl, hc14, hc15, hc16⟩, rfl⟩
  refine ⟨[], ?_⟩
  show DP _ _ _ _ _ _ _ _ [_, _, _, _, _, ⟨nb9, cu8 (mid (macL key ([tktT pv ep k ([] : List UInt64) ([] : List SealR) bl].flatten)) 0 16) ++ sp2, 5, (0, 0)⟩]
  refine B6 ⟨[4, 5], [0, 1, 2, 3], [2, 3], [0, 1], [6]⟩ 6 rfl rfl (by decide +kernel) rfl ⟨⟨_, rfl, AI rfl (AD 6 27 16 AW rfl BV rfl rfl)⟩, ⟨_, rfl, AI rfl (CI 16 5 1 0 16 6 16 BX BC rfl rfl rfl (by omega) (by omega) (by omega) (by omega) (by omega) 16 (by omega))⟩, trivial⟩ rfl (A7 rfl (DX 43 43 5 2 ynb0 6 16 16 ([U64 pv, U64 ep, I64 k, .slice yao1 0 yca2, .slice yao3 0 yca4, U64 bl] ++ cu8 (zr8 16)) 29 (some ⟨nb9, 0, none⟩) 16 cp2 16 (cu8 (mid (macL key ([tktT pv ep k ([] : List UInt64) ([] : List SealR) bl].flatten)) 0 16)) ([U64 pv, U64 ep, I64 k, .slice yao1 0 yca2, .slice yao3 0 yca4, U64 bl] ++ cu8 (mid (macL key ([tktT pv ep k ([] : List UInt64) ([] : List SealR) bl].flatten)) 0 16)) AR C6 rfl rfl rfl rfl (by rw [cu8_length]; exact (show (mid (macL key ([tktT pv ep k ([] : List UInt64) ([] : List SealR) bl].flatten)) 0 16).length = 16 from FE (by rw [FN]; omega))) (SrcAt.mem (AT 5 rfl (A8 (AJ _)))) (by simp [(AN 16)]; try omega) (by first | exact CF | exact EI | exact EE | (simp [cu8, cu32, cu64, Value.oneCell']; done)) (FO 6 0 rfl rfl (A0 (by rw [cu8_length, cu8_length]; first | exact ((show (mid (macL key ([tktT pv ep k ([] : List UInt64) ([] : List SealR) bl].flatten)) 0 16).length = 16 from FE (by rw [FN]; omega))).trans ((AN 16)).symm | exact ((AN 16)).trans ((show (mid (macL key ([tktT pv ep k ([] : List UInt64) ([] : List SealR) bl].flatten)) 0 16).length = 16 from FE (by rw [FN]; omega))).symm))))) ?_
  show DP _ _ _ _ _ _ _ _ [_, _, ⟨ynb0, [U64 pv, U64 ep, I64 k, .slice yao1 0 yca2, .slice yao3 0 yca4, U64 bl] ++ cu8 (mid (macL key ([tktT pv ep k ([] : List UInt64) ([] : List SealR) bl].flatten)) 0 16), 29, (0, 0)⟩, _, _, _]
  refine C2 ⟨[4, 5, 6], [0, 1, 2, 3], [0, 1, 2, 3], [], []⟩ rfl rfl (by decide +kernel) rfl trivial ?_
  refine CB (F' := [(8, Ptr nb3 0), (9, .nilIface), (10, Ptr ynb0 0)]) (by kernel_rfl) ?_
  refine AC (AG ?_)
  rw [tkG_of key pv ep k ([] : List UInt64) ([] : List SealR) bl]
  show JC _ _ _ _ [⟨nb1, cu8 key, 54, (0, 0)⟩, ⟨nb3, [U64 0, U64 0, I64 0, .slice none 0 0, .slice none 0 0, U64 0] ++ cu8 (zr8 16), 29, (0, 0)⟩, ⟨ynb0, [U64 pv, U64 ep, I64 k, .slice yao1 0 yca2, .slice yao3 0 yca4, U64 bl] ++ cu8 (tkG key pv ep k ([] : List UInt64) ([] : List SealR) bl), 29, (0, 0)⟩, ⟨nb7, cu8 (tktT pv ep k ([] : List UInt64) ([] : List SealR) bl) ++ sp1, 5, (0, 0)⟩, ⟨nb8, [Slc nb7 0 tot cp1], 43, (0, 0)⟩, ⟨nb9, cu8 (tkG key pv ep k ([] : List UInt64) ([] : List SealR) bl) ++ sp2, 5, (0, 0)⟩]
  refine AB (AA (.agg ([U64 pv, U64 ep, I64 k, .slice yao1 0 yca2, .slice yao3 0 yca4, U64 bl] ++ cu8 (tkG key pv ep k ([] : List UInt64) ([] : List SealR) bl)).toArray) (AM rfl (A5 BW A3 (by simp [(tkG_len _ _ _ _ _ _ _)]) (AT 2 rfl (AJ _)))) rfl ?_)
  refine AY (AU 1 nb3 22 ([U64 0, U64 0, I64 0, .slice none 0 0, .slice none 0 0, U64 0] ++ cu8 (zr8 16)) 29 ([U64 pv, U64 ep, I64 k, .slice yao1 0 yca2, .slice yao3 0 yca4, U64 bl] ++ cu8 (tkG key pv ep k ([] : List UInt64) ([] : List SealR) bl)) rfl rfl rfl A3 (by simp [(tkG_len _ _ _ _ _ _ _)]) (CK (by simp [Value.oneCell']) CF) (by simp [(AN 16)]) (A0 (by simp [(AN 16), (tkG_len _ _ _ _ _ _ _)]))) rfl ?_
  show JL _ _ _ _ _ [_, ⟨nb3, [U64 pv, U64 ep, I64 k, .slice yao1 0 yca2, .slice yao3 0 yca4, U64 bl] ++ cu8 (tkG key pv ep k ([] : List UInt64) ([] : List SealR) bl), 29, (0, 0)⟩, _, _, _, _]
  refine AA _ (AH rfl) rfl ?_
  refine AL (AC (BH (B5 [false, true, false, false, false, false] ?_)))
  show JQ _ _ _ _ [_]
  refine BI (.tuple #[.agg ([U64 pv, U64 ep, I64 k, .slice yao1 0 yca2, .slice yao3 0 yca4, U64 bl] ++ cu8 (tkG key pv ep k ([] : List UInt64) ([] : List SealR) bl)).toArray, .nilIface]) (res2 Tryd.results46 (CQ rfl (A5 BW A3 (by simp [(tkG_len _ _ _ _ _ _ _)]) (AT 0 rfl (AJ _)))) (BU rfl)) fun w1 hw1 => ?_
  exact ⟨_, _, rfl, ⟨yao1, yca2, yao3, yca4, rfl, rfl, (by omega), hy2, (by omega), hy4⟩, hw1.sub (by simp) (by simp)⟩
end Go.Proofs.YtkdpdgpphpngeaaDoor
