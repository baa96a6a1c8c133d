import Derived.Test.YtkdpdgpphpngeaaDoorPkWp4
set_option maxHeartbeats 8000000
set_option linter.unusedVariables false
set_option linter.unusedSimpArgs false
set_option maxRecDepth 100000
namespace Go.Proofs.YtkdpdgpphpngeaaDoor
open Go Go.Sx
open Go.Value renaming slice → SL
attribute [local irreducible] mid zr8 numK valK rvalK constL initL putL RightB tktT mayN idxT selT blankB spanB reqR plainV itB chB bB aB c1B c2B c3B c4B repR repT LargeQ eQ vQ tQ bQ sQ ixQ seQ fQ fN hQ JL JC JQ DP Ev Ld MemAt Seg Step Cl RV Qok Cok
theorem listQ_c (rb p : Nat) (ao : Option Addr) (n c : Nat) (z0 z : List UInt8)  (w : World) (h0 : w.heap[rb]? = some (.cells [errV 50 (eQ z0 p), SL ao n c].toArray 204 (0, 0))) (hz : z.length = n) (hn : n ≤ 2000000000) (hc : n ≤ c) (hcm : c ≤ maxLen) (hr : RdB w [rb] ao z) (hq : Lq z0 z p)  : Calls Tryd.prog 122 #[Ptr rb 0] w (Post w [rb] (fun v L => ∃ q ao' z' c' m, q = p + 2 + 32*hN z0 p ∧ Lq z0 z' q ∧ Adv ao z c ao' z' c' ∧ m ≤ 65535 ∧ (q ≤ z0.length → m = hN z0 p) ∧ ((m = 0 ∧ v = SL none 0 0 ∧ L = [(Ez rb [errV 50 (eQ z0 q), SL ao' z'.length c'] 204)]) ∨ (0 < m ∧ ∃ g sp cap, v = Slc g 0 m cap ∧ L = [(Ez rb [errV 50 (eQ z0 q), SL ao' z'.length c'] 204), (Ez g (cu8 (hQ z0 (p + 2) m) ++ sp) 54)] ∧ sp.length = 32*cap - 32*m ∧ m ≤ cap ∧ cap ≤ maxLen)))) := by
 have hmx : maxLen = 9223372036854775807 := rfl
 have hh2 := vQ_lt2 z0 p
 have hhN : hN z0 p = (vQ z0 p 2).toNat := rfl
 refine enter w [rb] 21 [(Ez rb [errV 50 (eQ z0 p), SL ao n c] 204)] [Ptr rb 0] Tryd.func122 rfl rfl ZM (A2 (by simpa using h0) ZM ZM) ?_
 show JC _ _ _ [_] _
 refine Z2 14 ?_
 have hz1 : (z).length = n := hz
 refine AF (BE 109 _ [true] [rb] _ (AH _ CA rfl) rfl (fun w1 hw1 => EM rb p 2 ao n c z0 z w1 (hw1.en 0 rfl) hz ZO ZO ZO ((fun _ _ h => h) _ _ (hr.at (M' := [rb]) hw1 (hw1.apart [0] _ rfl))) hq ZU)) rfl ?_
 rintro v1 L1 ⟨_, ⟨rfl, ao1, zz1, ca1, hq1, ⟨hA1, hb1, hb2, hb3⟩, rfl⟩, rfl⟩
 show JL _ _ _ _ (_ :: _) [_]
 refine Z2 4 ?_
 refine C3 (ι := (Unit) ⊕ (Nat × Nat × List UInt8 × Nat × List Value × Nat × Option Addr × List UInt8 × Nat)) (fun x => match x with | .inl _ => [(0, Ptr rb 0), (2, SL none 0 0), (5, U64 (vQ z0 p 2)), (6, U64 0), (3, SL none 0 0)] | .inr ⟨pp, i, xx, gb, sp, cp, aa, zz, cc⟩ => [(0, Ptr rb 0), (2, SL none 0 0), (5, U64 (vQ z0 p 2)), (6, U64 (UInt64.ofNat i)), (3, Slc gb 0 i cp)]) (fun x => match x with | .inl _ => [(Ez rb [errV 50 (eQ z0 (p + 2)), SL ao1 zz1.length ca1] 204)] | .inr ⟨pp, i, xx, gb, sp, cp, aa, zz, cc⟩ => [(Ez rb [errV 50 (eQ z0 pp), SL aa zz.length cc] 204), (Ez gb (cu8 xx ++ sp) 54)]) (fun x => match x with | .inl _ => True | .inr ⟨pp, i, xx, gb, sp, cp, aa, zz, cc⟩ => pp = p + 2 + 32*i ∧ 0 < i ∧ i ≤ hN z0 p ∧ xx = hQ z0 (p + 2) i ∧ xx.length = 32*i ∧ sp.length = 32*cp - 32*i ∧ i ≤ cp ∧ cp ≤ maxLen ∧ Lq z0 zz (pp) ∧ (∀ w M, RdB w M ao z → RdB w M aa zz) ∧ zz.length ≤ cc ∧ cc ≤ maxLen ∧ zz.length ≤ n) (fun x => match x with | .inl _ => hN z0 p + 2 | .inr ⟨pp, i, xx, gb, sp, cp, aa, zz, cc⟩ => hN z0 p + 1 - i) (.inl ()) trivial (Sub.all rfl) rfl ?_
 rintro (_ | ⟨pp, i, xx, gb, sp, cp, aa, zz, cc⟩) hx
 ·
  obtain _ := hx
  show JC _ _ _ [_, _, _, _, _] [_]
  refine A4 (AO (AE (.bool (decide ((0:UInt64) < (vQ z0 p 2)))) (AT rfl rfl fun _ => bin_lss_u64 (0:UInt64) (vQ z0 p 2)) rfl ?_))
  refine A1 (AK (A4 (AX _ rfl (fun hb4 => ?_) (fun hb4 => ?_))))
  ·
   have hp4 := of_decide_eq_true hb4
   refine Z2 6 ?_
   have hlt : 0 < hN z0 p := u64_lt (i := 0) ZO (of_decide_eq_true hb4)
   refine Z2 2 ?_
   refine AC (AJ 61 _ (I64 ((leftN (eQ z0 (p + 2)) zz1.length:Int))) (AH _ C7 rfl) (fun w1 hw1 => left_w rb (eQ z0 (p + 2)) ao1 zz1.length ca1 w1 (RdA.of hw1 (A0 0 rfl (AG _)) ZM))) rfl ?_
   show JL _ _ _ _ (_ :: _) [_]
   refine Z2 3 ?_
   refine AX _ rfl (fun hb5 => ?_) (fun hb5 => ?_)
   ·
    have hp5 := of_decide_eq_true hb5
    refine Z2 4 ?_
    refine AF (C5 121 [Ptr rb 0, .iface 50 (I64 2)] 0 (Ez rb [errV 50 (eQ z0 (p + 2)), SL ao1 zz1.length ca1] 204) _ (fun v e' l' => v = .tuple #[] ∧ e' = (Ez rb [errV 50 (erN (eQ z0 (p + 2)) 2), SL ao1 zz1.length ca1] 204) ∧ l' = []) (AH _ DE rfl) rfl (by rintro v l ⟨rfl, rfl⟩; exact ⟨_, _, rfl, rfl, rfl, rfl, rfl⟩) (fun w1 hw1 => D5 rb (eQ z0 (p + 2)) 2 (SL ao1 zz1.length ca1) w1 ZD (hw1.en 0 rfl))) rfl ?_
    rintro v1 L1 ⟨_, _, ⟨rfl, rfl, rfl⟩, rfl⟩
    show JL _ _ _ _ (_ :: _) [_]
    refine A1 (AK (JC_exit (DV (JQ_in_other rfl ?_))))
    refine Z2 11 ?_
    refine Z1 fun w1 hw1 => ?_
    have hb0 : z0.length < p + 2 + 32*hN z0 p := brk_lt hq1 (by have h9 := of_decide_eq_true hb5; omega) ZO
    rw [show erN (eQ z0 (p + 2)) 2 = eQ z0 (p + 2 + 32*hN z0 p) from brk_q hq1 (by have h9 := of_decide_eq_true hb5; omega) ZO] at hw1
    exact ⟨_, _, rfl, ⟨p + 2 + 32*hN z0 p, ao1, zz1, ca1, 0, rfl, (fun h => absurd h ZO), ⟨hA1, ZO, ZO, ZO⟩, ZO, (fun h => absurd h ZO), .inl ⟨rfl, rfl, rfl⟩⟩, hw1⟩
   have hp5 := of_decide_eq_false hb5
   refine Z2 5 ?_
   refine AF (BE 152 _ [true] [rb] _ (AH _ Tryd.call152 rfl) rfl (fun w1 hw1 => hasQ_w rb (p + 2) ao1 zz1.length ca1 z0 zz1 w1 (hw1.en 0 rfl) rfl ZO ZO ZO (hA1 _ _ (hr.at (M' := [rb]) hw1 (hw1.apart [0] _ rfl))) hq1)) rfl ?_
   rintro v1 L1 ⟨_, ⟨rfl, ao2, zz2, ca2, hq2, ⟨hA2, hb6, hb7, hb8⟩, rfl⟩, rfl⟩
   show JL _ _ _ _ (_ :: _) [_]
   refine AF (BF 54 32 _ [(0, .agg (cu8 (bQ z0 (p + 2) 32)).toArray)] (cu8 (bQ z0 (p + 2) 32)) C9 BY CK rfl rfl rfl (fill_firstS (BG _ _ _) ZR)) rfl ?_
   rintro v1 L1 ⟨nb1, hnb1, rfl, rfl⟩
   show JL _ _ _ _ (_ :: _) [_, _]
   refine AF (Step_appH 65 54 32 32 (.agg (cu8 (zr8 32)).toArray) [false, false] (SL none 0 0) 0 ([] : List UInt8) (bQ z0 (p + 2) 32) (some ⟨nb1, 0, none⟩) 1 1 1 32 C9 ZR ZR ZD rfl (.inl ⟨rfl, rfl, rfl, rfl, ZO⟩) rfl (by have h : (bQ z0 (p + 2) 32).length = 32 := (BG _ _ _); omega) (SrcAt.mem (A0 1 rfl (AG _))) ZO ZX ZO ZO) rfl ?_
   rintro v1 L1 ⟨nb2, sp1, cp1, hg1, rfl, rfl, ha1, ha2, ha3, ha4⟩
   show JL _ _ _ _ (_ :: _) [_, _, _]
   refine Z2 5 ?_
   refine AE (U64 ((0:UInt64) + (1:UInt64))) (AT rfl rfl fun _ => bin_add_u64 (0:UInt64) (1:UInt64)) rfl ?_
   refine Z2 2 ?_
   refine B5 (D7 [true, false, true] ?_)
   show K _ _ [_, _] _
   refine C1 (.inr ((p + 34), 1, ([] : List UInt8) ++ (bQ z0 (p + 2) 32), nb2, sp1, cp1, ao2, zz2, ca2)) ⟨ZO, ZO, ZO, hQ_one _ _, (by have h := ha1; omega), (by have h := ha2; omega), ZO, ZO, (fun h8 => (hq2 ZO).trans (by congr 1 <;> omega)), (fun w M h => hA2 w M (hA1 w M h)), ZO, ZO, ZO⟩ (by dsimp only; omega) (Sub.cons rfl (Sub.cons rfl (Sub.cons rfl (Sub.cons (congrArg (fun x => some (U64 x)) (rfl)) (Sub.all rfl))))) (by first | rfl | (simp; done))
  have hp4 := of_decide_eq_false hb4
  refine Z2 12 ?_
  refine Z1 fun w1 hw1 => ?_
  have hge : hN z0 p ≤ 0 := u64_ge (i := 0) ZO (of_decide_eq_false hb4)
  have hQ9 : (p + 2) = p + 2 + 32*hN z0 p := by omega
  rw [hQ9] at hw1
  exact ⟨_, _, rfl, ⟨p + 2 + 32*hN z0 p, ao1, zz1, ca1, 0, rfl, (by rw [← hQ9]; exact hq1), ⟨hA1, ZO, ZO, ZO⟩, ZO, (fun _ => by omega), .inl ⟨rfl, rfl, rfl⟩⟩, hw1⟩
 obtain ⟨hip, hi1, hi2, hi3, hi4, hi5, hi6, hi7, hi8, hi9, hi10, hi11, hi12⟩ := hx
 show JC _ _ _ [_, _, _, _, _] [_, _]
 refine A4 (AO (AE (.bool (decide ((UInt64.ofNat i) < (vQ z0 p 2)))) (AT rfl rfl fun _ => bin_lss_u64 (UInt64.ofNat i) (vQ z0 p 2)) rfl ?_))
 refine A1 (AK (A4 (AX _ rfl (fun hb9 => ?_) (fun hb9 => ?_))))
 ·
  have hp9 := of_decide_eq_true hb9
  refine Z2 6 ?_
  have hlt : i < hN z0 p := u64_lt (i := i) ZO (of_decide_eq_true hb9)
  refine Z2 2 ?_
  refine AC (AJ 61 _ (I64 ((leftN (eQ z0 pp) zz.length:Int))) (AH _ C7 rfl) (fun w1 hw1 => left_w rb (eQ z0 pp) aa zz.length cc w1 (RdA.of hw1 (A0 0 rfl (AG _)) ZM))) rfl ?_
  show JL _ _ _ _ (_ :: _) [_, _]
  refine Z2 3 ?_
  refine AX _ rfl (fun hb10 => ?_) (fun hb10 => ?_)
  ·
   have hp10 := of_decide_eq_true hb10
   refine Z2 4 ?_
   refine AF (C5 121 [Ptr rb 0, .iface 50 (I64 2)] 0 (Ez rb [errV 50 (eQ z0 pp), SL aa zz.length cc] 204) _ (fun v e' l' => v = .tuple #[] ∧ e' = (Ez rb [errV 50 (erN (eQ z0 pp) 2), SL aa zz.length cc] 204) ∧ l' = []) (AH _ DE rfl) rfl (by rintro v l ⟨rfl, rfl⟩; exact ⟨_, _, rfl, rfl, rfl, rfl, rfl⟩) (fun w1 hw1 => D5 rb (eQ z0 pp) 2 (SL aa zz.length cc) w1 ZD (hw1.en 0 rfl))) rfl ?_
   rintro v1 L1 ⟨_, _, ⟨rfl, rfl, rfl⟩, rfl⟩
   show JL _ _ _ _ (_ :: _) [_, _]
   refine A1 (AK (JC_exit (DV (JQ_in_other rfl ?_))))
   refine Z2 11 ?_
   refine Z1 fun w1 hw1 => ?_
   have hb0 : z0.length < p + 2 + 32*hN z0 p := brk_lt hi8 (by have h9 := of_decide_eq_true hb10; omega) ZO
   rw [show erN (eQ z0 pp) 2 = eQ z0 (p + 2 + 32*hN z0 p) from brk_q hi8 (by have h9 := of_decide_eq_true hb10; omega) ZO] at hw1
   exact ⟨_, _, rfl, ⟨p + 2 + 32*hN z0 p, aa, zz, cc, i, rfl, (fun h => absurd h ZO), ⟨hi9, ZO, ZO, ZO⟩, ZO, (fun h => absurd h ZO), .inr ⟨hi1, gb, sp, cp, rfl, (by rw [hi3]), hi5, hi6, hi7⟩⟩, hw1⟩
  have hp10 := of_decide_eq_false hb10
  refine Z2 5 ?_
  refine AF (BE 152 _ [true, false] [rb] _ (AH _ Tryd.call152 rfl) rfl (fun w1 hw1 => hasQ_w rb pp aa zz.length cc z0 zz w1 (hw1.en 0 rfl) rfl ZO ZO ZO (hi9 _ _ (hr.at (M' := [rb]) hw1 (hw1.apart [0] _ rfl))) hi8)) rfl ?_
  rintro v1 L1 ⟨_, ⟨rfl, ao3, zz3, ca3, hq3, ⟨hA3, hb11, hb12, hb13⟩, rfl⟩, rfl⟩
  show JL _ _ _ _ (_ :: _) [_, _]
  refine AF (BF 54 32 _ [(0, .agg (cu8 (bQ z0 pp 32)).toArray)] (cu8 (bQ z0 pp 32)) C9 BY CK rfl rfl rfl (fill_firstS (BG _ _ _) ZR)) rfl ?_
  rintro v1 L1 ⟨nb3, hnb3, rfl, rfl⟩
  show JL _ _ _ _ (_ :: _) [_, _, _]
  refine AF (Step_appH 65 54 32 32 (.agg (cu8 (zr8 32)).toArray) [true, false, false] (Slc gb 0 i cp) i xx (bQ z0 pp 32) (some ⟨nb3, 0, none⟩) 1 1 (i + 1) (32*i + 32) C9 ZR ZR ZD rfl (.inr ⟨gb, sp, cp, rfl, rfl, (by have h : (xx).length = (32*i) := hi4; omega), (by first | exact hi5 | omega), ZO, ZO⟩) rfl (by have h : (bQ z0 pp 32).length = 32 := (BG _ _ _); omega) (SrcAt.mem (A0 2 rfl (AG _))) ZO ZX ZO ZO) rfl ?_
  rintro v1 L1 ⟨nb4, sp2, cp2, hg2, rfl, rfl, ha5, ha6, ha7, ha8⟩
  show JL _ _ _ _ (_ :: _) [_, _, _]
  refine Z2 5 ?_
  refine AE (U64 ((UInt64.ofNat i) + (1:UInt64))) (AT rfl rfl fun _ => bin_add_u64 (UInt64.ofNat i) (1:UInt64)) rfl ?_
  refine Z2 2 ?_
  refine B5 (D7 [true, false, true] ?_)
  show K _ _ [_, _] _
  refine C1 (.inr ((pp + 32), i + 1, xx ++ (bQ z0 pp 32), nb4, sp2, cp2, ao3, zz3, ca3)) ⟨ZO, ZO, ZO, (by rw [hQ_succ, hi3, ← hip]), (by have h := ha5; omega), (by have h := ha6; omega), ZO, ZO, (fun h8 => (hq3 ZO).trans (by congr 1 <;> omega)), (fun w M h => hA3 w M (hi9 w M h)), ZO, ZO, ZO⟩ (by dsimp only; omega) (Sub.cons rfl (Sub.cons rfl (Sub.cons rfl (Sub.cons (congrArg (fun x => some (U64 x)) (u64_suc i)) (Sub.all rfl))))) (by first | rfl | (simp; done))
 have hp9 := of_decide_eq_false hb9
 refine Z2 12 ?_
 refine Z1 fun w1 hw1 => ?_
 have hge : hN z0 p ≤ i := u64_ge (i := i) ZO (of_decide_eq_false hb9)
 have hQ9 : pp = p + 2 + 32*hN z0 p := by omega
 rw [hQ9] at hw1
 exact ⟨_, _, rfl, ⟨p + 2 + 32*hN z0 p, aa, zz, cc, i, rfl, (by rw [← hQ9]; exact hi8), ⟨hi9, ZO, ZO, ZO⟩, ZO, (fun _ => by omega), .inr ⟨hi1, gb, sp, cp, rfl, (by rw [hi3]), hi5, hi6, hi7⟩⟩, hw1⟩
theorem rboolQ_w (p : Nat) (ao : Option Addr) (n c : Nat) (z0 z : List UInt8) (w : World) (hz : z.length = n) (hn : n ≤ 2000000000) (hc : n ≤ c) (hcm : c ≤ maxLen) (hr : RdB w [] ao z) (hq : Lq z0 z p) : Calls Tryd.prog 123 #[.agg #[SL ao n c, I64 (eQ z0 p : Nat)]] w (Post w [] (fun v L => L = [] ∧ ∃ q ao' z' c', q = p + fN z0 p ∧ Lq z0 z' q ∧ Adv ao z c ao' z' c' ∧ v = .tuple #[.bool (fQ z0 p), .agg #[(SL ao' z'.length c'), I64 (eQ z0 q : Nat)]])) := by
 refine (rbool_w ao n c (eQ z0 p) z w hz hn hc hcm hr).mono ?_
 rintro E W ⟨v, L, rfl, ⟨hL, ao', c', hv, hA⟩, hw⟩
 exact ⟨v, L, rfl, ⟨hL, _, ao', _, c', rfl, fgZ_q hq, hA, by rw [hv, fgV_q hq, okE_q (FgOk_q hq)]⟩, hw⟩
theorem rhashQ_w (p : Nat) (ao : Option Addr) (n c : Nat) (z0 z : List UInt8) (w : World) (hz : z.length = n) (hn : n ≤ 2000000000) (hc : n ≤ c) (hcm : c ≤ maxLen) (hr : RdB w [] ao z) (hq : Lq z0 z p) : Calls Tryd.prog 153 #[.agg #[SL ao n c, I64 (eQ z0 p : Nat)]] w (Post w [] (fun v L => L = [] ∧ ∃ q ao' z' c', q = p + 32 ∧ Lq z0 z' q ∧ Adv ao z c ao' z' c' ∧ v = .tuple #[.agg (cu8 (bQ z0 p 32)).toArray, .agg #[(SL ao' z'.length c'), I64 (eQ z0 q : Nat)]])) := by
 refine (rhash_w ao n c (eQ z0 p) z w hz hn hc hcm hr).mono ?_
 rintro E W ⟨v, L, rfl, ⟨hL, ao', c', hv, hA⟩, hw⟩
 exact ⟨v, L, rfl, ⟨hL, _, ao', _, c', rfl, hsZ_q hq, hA, by rw [hv, hsV_q hq, okE_q (HsOk_q hq)]⟩, hw⟩
theorem rowQ_c (p : Nat) (ao : Option Addr) (n c : Nat) (z0 z : List UInt8)  (w : World) (hz : z.length = n) (hn : n ≤ 2000000000) (hc : n ≤ c) (hcm : c ≤ maxLen) (hr : RdB w [] ao z) (hq : Lq z0 z p)  : Calls Tryd.prog 125 #[.agg #[SL ao n c, I64 ((eQ z0 p:Int))]] w (Post w [] (fun v L => ∃ q ao' z' c' m g cs T a k, q = p + 2 + 32*hN z0 p ∧ Lq z0 z' q ∧ Adv ao z c ao' z' c' ∧ m ≤ 65535 ∧ (q ≤ z0.length → m = hN z0 p) ∧ v = .tuple #[SL a m k, .agg #[(SL ao' z'.length c'), I64 (eQ z0 q : Nat)]] ∧ L = [(Ez g cs T)] ∧ Gh (cu8 (hQ z0 (p + 2) m)) g cs a ∧ m ≤ k ∧ k ≤ maxLen)) := by
 have hmx : maxLen = 9223372036854775807 := rfl
 have hh2 := vQ_lt2 z0 p
 have hhN : hN z0 p = (vQ z0 p 2).toNat := rfl
 refine enter (P := Tryd.prog) (f := 125) (fn := Tryd.f125) w [] 37 [] [.agg #[SL ao n c, I64 ((eQ z0 p:Int))]] Tryd.func125 rfl rfl ZM (A2 ZM ZM ZM) ?_
 show JC _ _ _ [_] _
 refine A4 (AO (AF (B2 (.agg #[SL ao n c, I64 ((eQ z0 p:Int))]) ([SL ao n c, I64 ((eQ z0 p:Int))]) rfl (by first | rfl | simp)) rfl ?_))
 rintro v1 L1 ⟨nb1, hnb1, rfl, rfl⟩
 show JL _ _ _ _ (_ :: _) [_]
 refine Z2 1 ?_
 refine AF (AS _ ([SL none 0 0, I64 0]) A3 ZR) rfl ?_
 rintro v1 L1 ⟨nb2, hnb2, rfl, rfl⟩
 show JL _ _ _ _ (_ :: _) [_, _]
 refine Z2 5 ?_
 have hz1 : (z).length = n := hz
 refine AF (A5 118 _ _ (AH _ CR rfl) (fun w1 hw1 => D6 p 2 ao n c z0 z w1 hz ZO ZO ZO (hr.at (M' := []) hw1 ZM) hq ZU)) rfl ?_
 rintro v1 L1 ⟨_, ⟨rfl, ao1, zz1, ca1, hq1, ⟨hA1, hb1, hb2, hb3⟩, rfl⟩, rfl⟩
 show JL _ _ _ _ (_ :: _) [_, _]
 refine Z2 19 ?_
 refine C3 (ι := (Unit) ⊕ (Nat × Nat × List UInt8 × Nat × List Value × Nat × Option Addr × List UInt8 × Nat)) (fun x => match x with | .inl _ => [(1, Ptr nb1 0), (2, SL none 0 0), (3, Ptr nb2 0), (4, U64 (vQ z0 p 2)), (6, I64 0), (5, SL none 0 0)] | .inr ⟨pp, i, xx, gb, sp, cp, aa, zz, cc⟩ => [(1, Ptr nb1 0), (2, SL none 0 0), (3, Ptr nb2 0), (4, U64 (vQ z0 p 2)), (6, I64 i), (5, Slc gb 0 i cp)]) (fun x => match x with | .inl _ => [(Ez nb1 [SL ao1 zz1.length ca1, I64 ((eQ z0 (p + 2):Int))] 107), (Ez nb2 [SL none 0 0, I64 0] 107)] | .inr ⟨pp, i, xx, gb, sp, cp, aa, zz, cc⟩ => [(Ez nb1 [SL aa zz.length cc, I64 ((eQ z0 pp:Int))] 107), (Ez nb2 [SL none 0 0, I64 0] 107), (Ez gb (cu8 xx ++ sp) 54)]) (fun x => match x with | .inl _ => True | .inr ⟨pp, i, xx, gb, sp, cp, aa, zz, cc⟩ => pp = p + 2 + 32*i ∧ 0 < i ∧ i ≤ hN z0 p ∧ xx = hQ z0 (p + 2) i ∧ xx.length = 32*i ∧ sp.length = 32*cp - 32*i ∧ i ≤ cp ∧ cp ≤ maxLen ∧ Lq z0 zz pp ∧ (∀ w M, RdB w M ao z → RdB w M aa zz) ∧ zz.length ≤ cc ∧ cc ≤ maxLen ∧ zz.length ≤ n) (fun x => match x with | .inl _ => hN z0 p + 2 | .inr ⟨pp, i, xx, gb, sp, cp, aa, zz, cc⟩ => hN z0 p + 1 - i) (.inl ()) trivial (Sub.all rfl) rfl ?_
 rintro (_ | ⟨pp, i, xx, gb, sp, cp, aa, zz, cc⟩) hx
 ·
  obtain _ := hx
  show JC _ _ _ [_, _, _, _, _, _] [_, _]
  refine Z2 5 ?_
  refine AE (I64 (((vQ z0 p 2).toNat:Int))) Ze rfl ?_
  refine Z2 2 ?_
  rcases Bool.eq_false_or_eq_true (decide ((0:Int) < (((vQ z0 p 2).toNat:Int)))) with hb4 | hb4
  ·
   have hp4 := of_decide_eq_true hb4
   refine Z2 6 ?_
   refine AX _ rfl (fun hb5 => ?_) (fun hb5 => ?_)
   ·
    have hp5 := of_decide_eq_true hb5
    refine Z2 7 ?_
    refine AF (A5 153 _ _ (AH _ Tryd.call153 rfl) (fun w1 hw1 => rhashQ_w (p + 2) ao1 zz1.length ca1 z0 zz1 w1 rfl ZO ZO ZO ((hA1 _ _ hr).at (M' := []) hw1 ZM) hq1)) rfl ?_
    rintro v1 L1 ⟨_, ⟨rfl, _, ao2, zz2, ca2, rfl, hq2, ⟨hA2, hb6, hb7, hb8⟩, rfl⟩, rfl⟩
    show JL _ _ _ _ (_ :: _) [_, _]
    refine Z2 3 ?_
    refine AF (AS _ (cu8 (zr8 32)) CK ZR) rfl ?_
    rintro v1 L1 ⟨nb3, hnb3, rfl, rfl⟩
    show JL _ _ _ _ (_ :: _) [_, _, _]
    refine AF (AS _ ([SL none 0 0, I64 0]) A3 ZR) rfl ?_
    rintro v1 L1 ⟨nb4, hnb4, rfl, rfl⟩
    show JL _ _ _ _ (_ :: _) [_, _, _, _]
    refine AC (AB 2 nb3 32 _ 54 (cu8 (bQ z0 (p + 2) 32)) rfl rfl rfl BY (CI (BG _ _ _)) (by first | exact A6 | exact EF | exact EB | (simp [cu8, cu32, cu64, Value.oneCell']; done)) ZS (AI ZS)) rfl ?_
    show JL _ _ _ _ _ [_, _, _, _]
    refine Z2 11 ?_
    refine AE _ (AR rfl (BV DG BY (CI (BG _ _ _)) (A0 2 rfl (AG _)))) rfl ?_
    refine AF (BF 54 32 _ [(0, .agg (cu8 (bQ z0 (p + 2) 32)).toArray)] (cu8 (bQ z0 (p + 2) 32)) C9 BY CK rfl rfl rfl (fill_firstS (BG _ _ _) ZR)) rfl ?_
    rintro v1 L1 ⟨nb5, hnb5, rfl, rfl⟩
    show JL _ _ _ _ (_ :: _) [_, _, _, _, _]
    refine AF (Step_appH 65 54 32 32 (.agg (cu8 (zr8 32)).toArray) [false, false, false, false, false] (SL none 0 0) 0 ([] : List UInt8) (bQ z0 (p + 2) 32) (some ⟨nb5, 0, none⟩) 1 1 1 32 C9 ZR ZR ZD rfl (.inl ⟨rfl, rfl, rfl, rfl, ZO⟩) rfl (by have h : (bQ z0 (p + 2) 32).length = 32 := (BG _ _ _); omega) (SrcAt.mem (A0 4 rfl (AG _))) ZO ZX ZO ZO) rfl ?_
    rintro v1 L1 ⟨nb6, sp1, cp1, hg1, rfl, rfl, ha1, ha2, ha3, ha4⟩
    show JL _ _ _ _ (_ :: _) [_, _, _, _, _, _]
    refine Z2 6 ?_
    refine AE (I64 1) (AT rfl rfl fun _ => BR _ _ (1:Int) ZO ZO) rfl ?_
    refine Z2 2 ?_
    refine B5 (D7 [true, true, false, false, false, true] ?_)
    show K _ _ [_, _, _] _
    refine C1 (.inr ((p + 34), 1, ([] : List UInt8) ++ (bQ z0 (p + 2) 32), nb6, sp1, cp1, ao2, zz2, ca2)) ⟨ZO, ZO, ZO, hQ_one _ _, (by have h := ha1; omega), (by have h := ha2; omega), ZO, ZO, hq2, (by intro w M hr; exact (hA2 _ _ (hA1 _ _ hr))), ZO, ZO, ZO⟩ (by dsimp only; omega) (Sub.all rfl) rfl
   have hp5 := of_decide_eq_false hb5
   refine Z2 6 ?_
   refine Z8 37 2 [(0, SL none 0 0), (1, .agg #[SL ao1 zz1.length ca1, I64 ((eQ z0 (p + 2):Int))]), (2, SL none 0 0)] ?_
   refine Z6 ⟨[], [0, 1, 2], [], [0, 1, 2], [3]⟩ 3 (AL rfl ZW) ?_
   show DP _ _ _ _ _ _ _ _ [_, _]
   refine Z5 ⟨[3], [0, 1, 2], [0, 1, 2], [], []⟩ ?_
   refine A9 (F' := [(2, SL none 0 0), (3, Ptr nb2 0)]) ZR ?_
   refine AK (CH (Z1 fun w1 hw1 => ?_))
   have hhN : hN z0 p = (vQ z0 p 2).toNat := rfl
   have hP : ¬ (p + 2) ≤ z0.length := fun h => (of_decide_eq_false hb5) (by rw [E5 h]; rfl)
   have hE : eQ z0 (p + 2) = eQ z0 (p + 2 + 32*hN z0 p) := (DJ hP).trans (DJ ZO).symm
   exact ⟨_, _, rfl, ⟨p + 2 + 32*hN z0 p, ao1, zz1, ca1, 0, _, _, _, none, 0, rfl, (fun h => absurd h ZO), ⟨(by intro w M hr; exact (hA1 _ _ hr)), ZO, ZO, ZO⟩, ZO, (fun h => absurd h ZO), by rw [hE], rfl, Gh.h0, ZO, by first | omega | (unfold maxLen; omega)⟩, Hp.one hw1 0 rfl⟩
  have hp4 := of_decide_eq_false hb4
  refine Z2 6 ?_
  refine AY _ rfl rfl ?_
  refine Z2 6 ?_
  refine Z8 37 2 [(0, SL none 0 0), (1, .agg #[SL ao1 zz1.length ca1, I64 ((eQ z0 (p + 2):Int))]), (2, SL none 0 0)] ?_
  refine Z6 ⟨[], [0, 1, 2], [], [0, 1, 2], [3]⟩ 3 (AL rfl ZW) ?_
  show DP _ _ _ _ _ _ _ _ [_, _]
  refine Z5 ⟨[3], [0, 1, 2], [0, 1, 2], [], []⟩ ?_
  refine A9 (F' := [(2, SL none 0 0), (3, Ptr nb2 0)]) ZR ?_
  refine AK (CH (Z1 fun w1 hw1 => ?_))
  have hhN : hN z0 p = (vQ z0 p 2).toNat := rfl
  have hE : eQ z0 (p + 2) = eQ z0 (p + 2 + 32*hN z0 p) := by congr 1; omega
  exact ⟨_, _, rfl, ⟨p + 2 + 32*hN z0 p, ao1, zz1, ca1, 0, _, _, _, none, 0, rfl, (fun h => (hq1 ZO).trans (by congr 1; omega)), ⟨(by intro w M hr; exact (hA1 _ _ hr)), ZO, ZO, ZO⟩, ZO, (fun _ => by omega), by rw [hE], rfl, Gh.h0, ZO, by first | omega | (unfold maxLen; omega)⟩, Hp.one hw1 0 rfl⟩
 obtain ⟨hip, hi1, hi2, hi3, hi4, hi5, hi6, hi7, hi8, hi9, hi10, hi11, hi12⟩ := hx
 show JC _ _ _ [_, _, _, _, _, _] [_, _, _]
 refine Z2 5 ?_
 refine AE (I64 (((vQ z0 p 2).toNat:Int))) Ze rfl ?_
 refine Z2 2 ?_
 rcases Bool.eq_false_or_eq_true (decide (((i:Int)) < (((vQ z0 p 2).toNat:Int)))) with hb9 | hb9
 ·
  have hp9 := of_decide_eq_true hb9
  refine Z2 6 ?_
  refine AX _ rfl (fun hb10 => ?_) (fun hb10 => ?_)
  ·
   have hp10 := of_decide_eq_true hb10
   refine Z2 7 ?_
   refine AF (A5 153 _ _ (AH _ Tryd.call153 rfl) (fun w1 hw1 => rhashQ_w pp aa zz.length cc z0 zz w1 rfl ZO ZO ZO ((hi9 _ _ hr).at (M' := []) hw1 ZM) hi8)) rfl ?_
   rintro v1 L1 ⟨_, ⟨rfl, _, ao3, zz3, ca3, rfl, hq3, ⟨hA3, hb11, hb12, hb13⟩, rfl⟩, rfl⟩
   show JL _ _ _ _ (_ :: _) [_, _, _]
   refine Z2 3 ?_
   refine AF (AS _ (cu8 (zr8 32)) CK ZR) rfl ?_
   rintro v1 L1 ⟨nb7, hnb7, rfl, rfl⟩
   show JL _ _ _ _ (_ :: _) [_, _, _, _]
   refine AF (AS _ ([SL none 0 0, I64 0]) A3 ZR) rfl ?_
   rintro v1 L1 ⟨nb8, hnb8, rfl, rfl⟩
   show JL _ _ _ _ (_ :: _) [_, _, _, _, _]
   refine AC (AB 3 nb7 32 _ 54 (cu8 (bQ z0 pp 32)) rfl rfl rfl BY (CI (BG _ _ _)) (by first | exact A6 | exact EF | exact EB | (simp [cu8, cu32, cu64, Value.oneCell']; done)) ZS (AI ZS)) rfl ?_
   show JL _ _ _ _ _ [_, _, _, _, _]
   refine Z2 11 ?_
   refine AE _ (AR rfl (BV DG BY (CI (BG _ _ _)) (A0 3 rfl (AG _)))) rfl ?_
   refine AF (BF 54 32 _ [(0, .agg (cu8 (bQ z0 pp 32)).toArray)] (cu8 (bQ z0 pp 32)) C9 BY CK rfl rfl rfl (fill_firstS (BG _ _ _) ZR)) rfl ?_
   rintro v1 L1 ⟨nb9, hnb9, rfl, rfl⟩
   show JL _ _ _ _ (_ :: _) [_, _, _, _, _, _]
   refine AF (Step_appH 65 54 32 32 (.agg (cu8 (zr8 32)).toArray) [false, false, true, false, false, false] (Slc gb 0 i cp) i xx (bQ z0 pp 32) (some ⟨nb9, 0, none⟩) 1 1 (i + 1) (32*i + 32) C9 ZR ZR ZD rfl (.inr ⟨gb, sp, cp, rfl, rfl, (by have h : (xx).length = (32*i) := hi4; omega), (by first | exact hi5 | omega), ZO, ZO⟩) rfl (by have h : (bQ z0 pp 32).length = 32 := (BG _ _ _); omega) (SrcAt.mem (A0 5 rfl (AG _))) ZO ZX ZO ZO) rfl ?_
   rintro v1 L1 ⟨nb10, sp2, cp2, hg2, rfl, rfl, ha5, ha6, ha7, ha8⟩
   show JL _ _ _ _ (_ :: _) [_, _, _, _, _, _]
   refine Z2 6 ?_
   refine AE (I64 ((i:Int) + 1)) (AT rfl rfl fun _ => BR _ _ ((i:Int) + 1) ZO ZO) rfl ?_
   refine Z2 2 ?_
   refine B5 (D7 [true, true, false, false, false, true] ?_)
   show K _ _ [_, _, _] _
   refine C1 (.inr ((pp + 32), i + 1, xx ++ (bQ z0 pp 32), nb10, sp2, cp2, ao3, zz3, ca3)) ⟨ZO, ZO, ZO, (by rw [hQ_succ, hi3, ← hip]), (by have h := ha5; omega), (by have h := ha6; omega), ZO, ZO, hq3, (by intro w M hr; exact (hA3 _ _ (hi9 _ _ hr))), ZO, ZO, ZO⟩ (by dsimp only; omega) (Sub.all rfl) rfl
  have hp10 := of_decide_eq_false hb10
  refine Z2 6 ?_
  refine Z8 37 2 [(0, Slc gb 0 i cp), (1, .agg #[SL aa zz.length cc, I64 ((eQ z0 pp:Int))]), (2, Slc gb 0 i cp)] ?_
  refine Z6 ⟨[], [0, 1, 2], [], [0, 1, 2], [3]⟩ 3 (AL rfl ZW) ?_
  show DP _ _ _ _ _ _ _ _ [_, _, _]
  refine Z5 ⟨[3], [0, 1, 2], [0, 1, 2], [], []⟩ ?_
  refine A9 (F' := [(2, Slc gb 0 i cp), (3, Ptr nb2 0)]) ZR ?_
  refine AK (CH (Z1 fun w1 hw1 => ?_))
  have hhN : hN z0 p = (vQ z0 p 2).toNat := rfl
  have hP : ¬ pp ≤ z0.length := fun h => (of_decide_eq_false hb10) (by rw [E5 h]; rfl)
  have hE : eQ z0 pp = eQ z0 (p + 2 + 32*hN z0 p) := (DJ hP).trans (DJ ZO).symm
  exact ⟨_, _, rfl, ⟨p + 2 + 32*hN z0 p, aa, zz, cc, i, _, _, _, (some ⟨gb, 0, none⟩), cp, rfl, (fun h => absurd h ZO), ⟨(by intro w M hr; exact (hi9 _ _ hr)), ZO, ZO, ZO⟩, ZO, (fun h => absurd h ZO), by rw [hE], rfl, .inr ⟨rfl, _, by rw [hi3]⟩, ZO, by first | omega | (unfold maxLen; omega)⟩, Hp.one hw1 2 rfl⟩
 have hp9 := of_decide_eq_false hb9
 refine Z2 6 ?_
 refine AY _ rfl rfl ?_
 refine Z2 6 ?_
 refine Z8 37 2 [(0, Slc gb 0 i cp), (1, .agg #[SL aa zz.length cc, I64 ((eQ z0 pp:Int))]), (2, Slc gb 0 i cp)] ?_
 refine Z6 ⟨[], [0, 1, 2], [], [0, 1, 2], [3]⟩ 3 (AL rfl ZW) ?_
 show DP _ _ _ _ _ _ _ _ [_, _, _]
 refine Z5 ⟨[3], [0, 1, 2], [0, 1, 2], [], []⟩ ?_
 refine A9 (F' := [(2, Slc gb 0 i cp), (3, Ptr nb2 0)]) ZR ?_
 refine AK (CH (Z1 fun w1 hw1 => ?_))
 have hhN : hN z0 p = (vQ z0 p 2).toNat := rfl
 have hE : eQ z0 pp = eQ z0 (p + 2 + 32*hN z0 p) := by congr 1; omega
 exact ⟨_, _, rfl, ⟨p + 2 + 32*hN z0 p, aa, zz, cc, i, _, _, _, (some ⟨gb, 0, none⟩), cp, rfl, (fun h => (hi8 ZO).trans (by congr 1; omega)), ⟨(by intro w M hr; exact (hi9 _ _ hr)), ZO, ZO, ZO⟩, ZO, (fun _ => by omega), by rw [hE], rfl, .inr ⟨rfl, _, by rw [hi3]⟩, ZO, by first | omega | (unfold maxLen; omega)⟩, Hp.one hw1 2 rfl⟩
end Go.Proofs.YtkdpdgpphpngeaaDoor
namespace Go.Proofs.YtkdpdgpphpngeaaDoor
open Go Go.Sx
open Go.Value renaming slice → SL
attribute [local irreducible] mid zr8 numK valK rvalK constL initL putL RightB tktT mayN idxT selT blankB spanB reqR plainV itB chB bB aB c1B c2B c3B c4B repR repT LargeQ eQ vQ tQ bQ sQ ixQ seQ fQ fN JL JC JQ DP Ev Ld MemAt Seg Step Cl RV Qok Cok
theorem rreadG_c (ao : Option Addr) (n c : Nat) (z0 z : List UInt8) (m : Nat)  (w : World) (hz : z.length = n) (hn : n ≤ 2000000000) (hc : n ≤ c) (hcm : c ≤ maxLen) (hr : RdB w [] ao z) (hq : Lq z0 z 0) (hm : m = mQ z0)  : Calls Tryd.prog 58 #[.agg #[SL ao n c, I64 ((eQ z0 0:Int))]] w (Post w [] (fun v L => ∃ pv ep kd ni l ns ls bl tg tot ao' z' c' g1 cs1 T1 a1 c1 g2 cs2 T2 a2 c2, TkR z0 pv ep kd l ls bl tg tot ∧ l.length = ni ∧ ls.length = ns ∧ tg.length = 16 ∧ ni ≤ 256 ∧ ns ≤ 256 ∧ Lq z0 z' tot ∧ Adv ao z c ao' z' c' ∧ v = .tuple #[.agg (V2 pv ep kd a1 ni c1 a2 ns c2 bl tg).toArray, .agg #[SL ao' z'.length c', I64 (eQ z0 tot : Nat)]] ∧ L = [(Ez g1 cs1 T1), (Ez g2 cs2 T2)] ∧ Gh (cu64 l) g1 cs1 a1 ∧ ni ≤ c1 ∧ c1 ≤ maxLen ∧ Gh (ls.flatMap sealC) g2 cs2 a2 ∧ ns ≤ c2 ∧ c2 ≤ maxLen)) := by
 have hmx : maxLen = 9223372036854775807 := rfl
 have hk8 := E6 z0 16
 have hk9 := E6 z0 17
 have hmQ : mQ z0 = (vQ z0 17 1).toNat + 1 := rfl
 refine enter (P := Tryd.prog) (f := 58) (fn := Tryd.f58) w [] 144 [] [.agg #[SL ao n c, I64 ((eQ z0 0:Int))]] Tryd.func58 rfl rfl ZM (A2 ZM ZM ZM) ?_
 show JC _ _ _ [(0, .agg #[SL ao n c, I64 ((eQ z0 0:Int))])] _
 refine A4 (AO (AF (B2 (.agg #[SL ao n c, I64 ((eQ z0 0:Int))]) ([SL ao n c, I64 ((eQ z0 0:Int))]) rfl (by first | rfl | simp)) rfl ?_))
 rintro v1 L1 ⟨nb1, hnb1, rfl, rfl⟩
 show JL _ _ _ _ (_ :: _) [_]
 refine AF (AS _ (V4) Tryd.zeroValue38 ZR) rfl ?_
 rintro v1 L1 ⟨nb2, hnb2, rfl, rfl⟩
 show JL _ _ _ _ (_ :: _) [_, _]
 refine AF (AS _ ([SL none 0 0, I64 0]) A3 ZR) rfl ?_
 rintro v1 L1 ⟨nb3, hnb3, rfl, rfl⟩
 show JL _ _ _ _ (_ :: _) [_, _, _]
 refine Z2 4 ?_
 refine AF (AS _ (V4) Tryd.zeroValue38 ZR) rfl ?_
 rintro v1 L1 ⟨nb4, hnb4, rfl, rfl⟩
 show JL _ _ _ _ (_ :: _) [_, _, _, _]
 refine Z2 5 ?_
 have hz1 : (z).length = n := hz
 refine AF (A5 118 _ _ (AH _ CR rfl) (fun w1 hw1 => D6 0 8 ao n c z0 z w1 hz ZO ZO ZO (hr.at (M' := []) hw1 ZM) hq ZU)) rfl ?_
 rintro v1 L1 ⟨_, ⟨rfl, ao1, zz1, ca1, hq1, ⟨hA1, hb1, hb2, hb3⟩, rfl⟩, rfl⟩
 show JL _ _ _ _ ((21, .tuple #[U64 (vQ z0 0 8), .agg #[SL ao1 zz1.length ca1, I64 ((eQ z0 8:Int))]]) :: _) [_, _, _, _]
 refine Z2 4 ?_
 refine AC (AB 0 nb1 2 _ 107 ([SL ao1 zz1.length ca1, I64 ((eQ z0 8:Int))]) rfl rfl rfl AP rfl ZC (Nat.le_of_ble_eq_true rfl) (AI ZM)) rfl ?_
 show JL _ _ _ _ _ [_, _, _, _]
 refine Z2 5 ?_
 have hz2 : (zz1).length = zz1.length := rfl
 refine AF (A5 118 _ _ (AH _ CR rfl) (fun w1 hw1 => D6 8 8 ao1 zz1.length ca1 z0 zz1 w1 rfl ZO ZO ZO ((hA1 _ _ hr).at (M' := []) hw1 ZM) hq1 ZU)) rfl ?_
 rintro v1 L1 ⟨_, ⟨rfl, ao2, zz2, ca2, hq2, ⟨hA2, hb4, hb5, hb6⟩, rfl⟩, rfl⟩
 show JL _ _ _ _ ((26, .tuple #[U64 (vQ z0 8 8), .agg #[SL ao2 zz2.length ca2, I64 ((eQ z0 16:Int))]]) :: _) [_, _, _, _]
 refine Z2 4 ?_
 refine AC (AB 0 nb1 2 _ 107 ([SL ao2 zz2.length ca2, I64 ((eQ z0 16:Int))]) rfl rfl rfl AP rfl ZC (Nat.le_of_ble_eq_true rfl) (AI ZM)) rfl ?_
 show JL _ _ _ _ _ [_, _, _, _]
 refine Z2 5 ?_
 have hz3 : (zz2).length = zz2.length := rfl
 refine AF (A5 118 _ _ (AH _ CR rfl) (fun w1 hw1 => D6 16 1 ao2 zz2.length ca2 z0 zz2 w1 rfl ZO ZO ZO ((hA2 _ _ (hA1 _ _ hr)).at (M' := []) hw1 ZM) hq2 ZU)) rfl ?_
 rintro v1 L1 ⟨_, ⟨rfl, ao3, zz3, ca3, hq3, ⟨hA3, hb7, hb8, hb9⟩, rfl⟩, rfl⟩
 show JL _ _ _ _ ((31, .tuple #[U64 (vQ z0 16 1), .agg #[SL ao3 zz3.length ca3, I64 ((eQ z0 17:Int))]]) :: _) [_, _, _, _]
 refine Z2 4 ?_
 refine AC (AB 0 nb1 2 _ 107 ([SL ao3 zz3.length ca3, I64 ((eQ z0 17:Int))]) rfl rfl rfl AP rfl ZC (Nat.le_of_ble_eq_true rfl) (AI ZM)) rfl ?_
 show JL _ _ _ _ _ [_, _, _, _]
 refine Z2 6 ?_
 refine AC (BT 3 nb4 0 1 _ 38 (U64 (vQ z0 0 8)) ([U64 (vQ z0 0 8)]) (V2 (vQ z0 0 8) 0 0 none 0 0 none 0 0 0 (zr8 16)) rfl rfl rfl rfl BJ rfl ZC ZS (rfl)) rfl ?_
 show JL _ _ _ _ _ [_, _, _, _]
 refine Z2 6 ?_
 refine AC (BT 3 nb4 1 1 _ 38 (U64 (vQ z0 8 8)) ([U64 (vQ z0 8 8)]) (V2 (vQ z0 0 8) (vQ z0 8 8) 0 none 0 0 none 0 0 0 (zr8 16)) rfl rfl rfl rfl BJ rfl ZC ZS (rfl)) rfl ?_
 show JL _ _ _ _ _ [_, _, _, _]
 refine Z2 5 ?_
 refine AE (I64 (((vQ z0 16 1).toNat:Int))) Ze rfl ?_
 refine Z2 2 ?_
 refine AC (BT 3 nb4 2 1 _ 38 (I64 (((vQ z0 16 1).toNat:Int))) ([I64 (((vQ z0 16 1).toNat:Int))]) (V2 (vQ z0 0 8) (vQ z0 8 8) (((vQ z0 16 1).toNat:Int)) none 0 0 none 0 0 0 (zr8 16)) rfl rfl rfl rfl CZ rfl ZC ZS (rfl)) rfl ?_
 show JL _ _ _ _ _ [_, _, _, _]
 refine Z2 6 ?_
 refine AE (.bool (decide ((vQ z0 16 1) = (3:UInt64)))) (AT rfl rfl fun _ => DS (vQ z0 16 1) (3:UInt64)) rfl ?_
 refine A1 (AK (ED (ι := UInt64 × Nat × Option Addr × List UInt8 × Nat) (fun ⟨bl, pp, aa, zz, cc⟩ => [(1, Ptr nb1 0), (2, Ptr nb2 0), (3, Ptr nb3 0), (4, Ptr nb4 0), (7, U64 (vQ z0 16 1))]) (fun ⟨bl, pp, aa, zz, cc⟩ => [(Ez nb1 [SL aa zz.length cc, I64 ((eQ z0 pp:Int))] 107), (Ez nb2 (V4) 38), (Ez nb3 [SL none 0 0, I64 0] 107), (Ez nb4 (V2 (vQ z0 0 8) (vQ z0 8 8) (((vQ z0 16 1).toNat:Int)) none 0 0 none 0 0 bl (zr8 16)) 38)]) (fun ⟨bl, pp, aa, zz, cc⟩ => ((vQ z0 16 1 = 3 ∧ bl = vQ z0 17 8 ∧ pp = 25) ∨ (vQ z0 16 1 ≠ 3 ∧ bl = 0 ∧ pp = 17)) ∧ Lq z0 zz pp ∧ (∀ w M, RdB w M ao z → RdB w M aa zz) ∧ zz.length ≤ cc ∧ cc ≤ maxLen ∧ zz.length ≤ n) ?_ ?_))
 ·
  refine AX (decide ((vQ z0 16 1) = (3:UInt64))) rfl (fun hb10 => ?_) (fun hb10 => ?_)
  ·
   have hp10 := of_decide_eq_true hb10
   refine Z2 3 ?_
   have hz4 : (zz3).length = zz3.length := rfl
   refine AF (A5 118 _ _ (AH _ CR rfl) (fun w1 hw1 => D6 17 8 ao3 zz3.length ca3 z0 zz3 w1 rfl ZO ZO ZO ((hA3 _ _ (hA2 _ _ (hA1 _ _ hr))).at (M' := []) hw1 ZM) hq3 ZU)) rfl ?_
   rintro v1 L1 ⟨_, ⟨rfl, ao4, zz4, ca4, hq4, ⟨hA4, hb11, hb12, hb13⟩, rfl⟩, rfl⟩
   show JL _ _ _ _ ((46, .tuple #[U64 (vQ z0 17 8), .agg #[SL ao4 zz4.length ca4, I64 ((eQ z0 25:Int))]]) :: _) [_, _, _, _]
   refine Z2 3 ?_
   refine AF (AS _ ([SL none 0 0, I64 0]) A3 ZR) rfl ?_
   rintro v1 L1 ⟨nb5, hnb5, rfl, rfl⟩
   show JL _ _ _ _ (_ :: _) [_, _, _, _, _]
   refine Z2 1 ?_
   refine AC (AB 4 nb5 2 _ 107 ([SL ao4 zz4.length ca4, I64 ((eQ z0 25:Int))]) rfl rfl rfl AP rfl ZC (Nat.le_of_ble_eq_true rfl) (AI ZM)) rfl ?_
   show JL _ _ _ _ _ [_, _, _, _, _]
   refine Z2 5 ?_
   refine AC (AB 0 nb1 2 _ 107 ([SL ao4 zz4.length ca4, I64 ((eQ z0 25:Int))]) rfl rfl rfl AP rfl ZC (Nat.le_of_ble_eq_true rfl) (AI ZM)) rfl ?_
   show JL _ _ _ _ _ [_, _, _, _, _]
   refine Z2 6 ?_
   refine AC (BT 3 nb4 5 1 _ 38 (U64 (vQ z0 17 8)) ([U64 (vQ z0 17 8)]) (V2 (vQ z0 0 8) (vQ z0 8 8) (((vQ z0 16 1).toNat:Int)) none 0 0 none 0 0 (vQ z0 17 8) (zr8 16)) rfl rfl rfl rfl BJ rfl ZC ZS (rfl)) rfl ?_
   show JL _ _ _ _ _ [_, _, _, _, _]
   refine A1 (DZ [0, 1, 2, 3] ZD ?_)
   show JQ _ _ _ _ [_, _, _, _]
   refine BU ((vQ z0 17 8, 25, ao4, zz4, ca4)) ⟨.inl ⟨of_decide_eq_true hb10, rfl, rfl⟩, hq4, (by intro w M hr; exact (hA4 _ _ (hA3 _ _ (hA2 _ _ (hA1 _ _ hr))))), ZO, ZO, ZO⟩ (Sub.all rfl) rfl
  have hp10 := of_decide_eq_false hb10
  refine CY (BU ((0, 17, ao3, zz3, ca3)) ⟨.inr ⟨of_decide_eq_false hb10, rfl, rfl⟩, hq3, (by intro w M hr; exact (hA3 _ _ (hA2 _ _ (hA1 _ _ hr)))), ZO, ZO, ZO⟩ (Sub.all rfl) rfl)
 rintro ⟨bl, pp, aa, zz, cc⟩ hx
 obtain ⟨hP, hu5, hu6, hu10, hu11, hu12⟩ := hx
 show JQ _ _ _ [_, _, _, _, _] [_, _, _, _]
 refine AK (A4 (ED (ι := (UInt64 × Nat × Option Addr × List UInt8 × Nat) ⊕ (Nat × List Value × Nat × Option Addr × List UInt8 × Nat × Nat) ⊕ (Nat × Nat × List Value × Nat × Nat × List Value × Nat × Option Addr × List UInt8 × Nat) ⊕ (Option Addr × List UInt8 × Nat × Option Addr × Nat × Nat × Option Addr × Nat × Nat)) (fun x => match x with | .inl ⟨bl, pp, aa, zz, cc⟩ => [(1, Ptr nb1 0), (2, Ptr nb2 0), (3, Ptr nb3 0), (4, Ptr nb4 0)] | .inr (.inl ⟨gb, sp, cp, aa, zz, cc, pp⟩) => [(1, Ptr nb1 0), (2, Ptr nb2 0), (3, Ptr nb3 0), (4, Ptr nb4 0)] | .inr (.inr (.inl ⟨pp, gs, sp2, cp2, gb, sp, cp, aa, zz, cc⟩)) => [(1, Ptr nb1 0), (2, Ptr nb2 0), (3, Ptr nb3 0), (4, Ptr nb4 0)] | .inr (.inr (.inr ⟨ab, zb, cb, a1, n1, c1, a2, n2, c2⟩)) => [(1, Ptr nb1 0), (2, Ptr nb2 0), (3, Ptr nb3 0), (4, Ptr nb4 0)]) (fun x => match x with | .inl ⟨bl, pp, aa, zz, cc⟩ => [(Ez nb1 [SL aa zz.length cc, I64 ((eQ z0 pp:Int))] 107), (Ez nb2 (V4) 38), (Ez nb3 [SL none 0 0, I64 0] 107), (Ez nb4 (V2 (vQ z0 0 8) (vQ z0 8 8) (((vQ z0 16 1).toNat:Int)) none 0 0 none 0 0 bl (zr8 16)) 38)] | .inr (.inl ⟨gb, sp, cp, aa, zz, cc, pp⟩) => [(Ez nb1 [SL aa zz.length cc, I64 ((eQ z0 pp:Int))] 107), (Ez nb2 (V4) 38), (Ez nb3 [SL none 0 0, I64 0] 107), (Ez nb4 ([U64 (vQ z0 0 8), U64 (vQ z0 8 8), I64 (((vQ z0 16 1).toNat:Int)), Slc gb 0 m cp, SL none 0 0, U64 0] ++ cu8 (zr8 16)) 38), (Ez gb (cu64 (ixQ z0 18 m) ++ sp) 22)] | .inr (.inr (.inl ⟨pp, gs, sp2, cp2, gb, sp, cp, aa, zz, cc⟩)) => [(Ez nb1 [SL aa zz.length cc, I64 ((eQ z0 pp:Int))] 107), (Ez nb2 (V4) 38), (Ez nb3 [SL none 0 0, I64 0] 107), (Ez nb4 ([U64 (vQ z0 0 8), U64 (vQ z0 8 8), I64 (((vQ z0 16 1).toNat:Int)), Slc gb 0 m cp, Slc gs 0 m cp2, U64 0] ++ cu8 (zr8 16)) 38), (Ez gb (cu64 (ixQ z0 18 m) ++ sp) 22), (Ez gs ((seQ z0 (4*m + 18) m).flatMap sealC ++ sp2) 164)] | .inr (.inr (.inr ⟨ab, zb, cb, a1, n1, c1, a2, n2, c2⟩)) => [(Ez nb1 [SL ab zb.length cb, I64 2] 107), (Ez nb2 (V4) 38), (Ez nb3 [SL none 0 0, I64 0] 107), (Ez nb4 (V2 (vQ z0 0 8) (vQ z0 8 8) (((vQ z0 16 1).toNat:Int)) a1 n1 c1 a2 n2 c2 0 (zr8 16)) 38)]) (fun x => match x with | .inl ⟨bl, pp, aa, zz, cc⟩ => ((vQ z0 16 1 = 3 ∧ bl = vQ z0 17 8 ∧ pp = 25) ∨ (BadQ z0 ∧ mayN (vQ z0 0 8) (vQ z0 8 8) (((vQ z0 16 1).toNat:Int)) ([] : List UInt64) ([] : List SealR) bl ≠ 0)) ∧ Lq z0 zz pp ∧ (∀ w M, RdB w M ao z → RdB w M aa zz) ∧ zz.length ≤ cc ∧ cc ≤ maxLen ∧ zz.length ≤ n | .inr (.inl ⟨gb, sp, cp, aa, zz, cc, pp⟩) => vQ z0 16 1 = 2 ∧ pp = 4*m + 18 ∧ sp.length = cp - m ∧ m ≤ cp ∧ cp ≤ maxLen ∧ Lq z0 zz pp ∧ (∀ w M, RdB w M ao z → RdB w M aa zz) ∧ zz.length ≤ cc ∧ cc ≤ maxLen ∧ zz.length ≤ n | .inr (.inr (.inl ⟨pp, gs, sp2, cp2, gb, sp, cp, aa, zz, cc⟩)) => vQ z0 16 1 = 1 ∧ pp = 60*m + 18 ∧ sp2.length = cp2 * 49 - m * 49 ∧ m ≤ cp2 ∧ cp2 ≤ maxLen ∧ sp.length = cp - m ∧ m ≤ cp ∧ cp ≤ maxLen ∧ Lq z0 zz pp ∧ (∀ w M, RdB w M ao z → RdB w M aa zz) ∧ zz.length ≤ cc ∧ cc ≤ maxLen ∧ zz.length ≤ n | .inr (.inr (.inr ⟨ab, zb, cb, a1, n1, c1, a2, n2, c2⟩)) => BadQ z0 ∧ (∀ w M, RdB w M ao z → RdB w M ab zb) ∧ zb.length ≤ cb ∧ cb ≤ maxLen ∧ zb.length ≤ n) ?_ ?_))
 ·
  refine A4 (ED (ι := Unit) (fun _ => [(1, Ptr nb1 0), (2, Ptr nb2 0), (3, Ptr nb3 0), (4, Ptr nb4 0), (7, U64 (vQ z0 16 1)), (58, .bool (decide ((vQ z0 16 1) = (1:UInt64)) || decide ((vQ z0 16 1) = (2:UInt64))))]) (fun _ => [(Ez nb1 [SL aa zz.length cc, I64 ((eQ z0 pp:Int))] 107), (Ez nb2 (V4) 38), (Ez nb3 [SL none 0 0, I64 0] 107), (Ez nb4 (V2 (vQ z0 0 8) (vQ z0 8 8) (((vQ z0 16 1).toNat:Int)) none 0 0 none 0 0 bl (zr8 16)) 38)]) (fun _ => True) ?_ ?_)
  ·
   refine Z2 2 ?_
   refine AE (.bool (decide ((vQ z0 16 1) = (1:UInt64)))) (AT rfl rfl fun _ => DS (vQ z0 16 1) (1:UInt64)) rfl ?_
   refine Z2 1 ?_
   rcases Bool.eq_false_or_eq_true (decide ((vQ z0 16 1) = (1:UInt64))) with hb14 | hb14
   ·
    have hp14 := of_decide_eq_true hb14
    refine Z2 3 ?_
    refine A1 (BU (()) trivial (Sub.cons rfl (Sub.cons rfl (Sub.cons rfl (Sub.cons rfl (Sub.cons rfl (Sub.cons (congrArg (fun b => some (Value.bool b)) (by rw [hb14]; rfl : true = (decide ((vQ z0 16 1) = (1:UInt64)) || decide ((vQ z0 16 1) = (2:UInt64))))) (Sub.nil))))))) rfl)
   have hp14 := of_decide_eq_false hb14
   refine Z2 1 ?_
   refine AD 2 55 false _ (.bool (decide ((vQ z0 16 1) = (2:UInt64)))) rfl rfl hb14 (AT rfl rfl fun _ => DS (vQ z0 16 1) (2:UInt64)) rfl ?_
   refine Z2 1 ?_
   refine A1 (BU (()) trivial (Sub.cons rfl (Sub.cons rfl (Sub.cons rfl (Sub.cons rfl (Sub.cons rfl (Sub.cons (congrArg (fun b => some (Value.bool b)) (by rw [hb14]; rfl : decide ((vQ z0 16 1) = (2:UInt64)) = (decide ((vQ z0 16 1) = (1:UInt64)) || decide ((vQ z0 16 1) = (2:UInt64))))) (Sub.nil))))))) rfl)
  rintro _ hx
  obtain _ := hx
  show JQ _ _ _ [_, _, _, _, _, _] [_, _, _, _]
  refine AK (AX ((decide ((vQ z0 16 1) = (1:UInt64)) || decide ((vQ z0 16 1) = (2:UInt64)))) rfl (fun hb15 => ?_) (fun hb15 => ?_))
  ·
   refine A4 ?_
   have hk12 := kd12U hb15
   obtain ⟨hk3, rfl, rfl⟩ := hP.resolve_left (fun h => kd3U hk12 h.1)
   show JC _ _ _ _ [(Ez nb1 [SL aa zz.length cc, I64 ((eQ z0 17:Int))] 107), (Ez nb2 (V4) 38), (Ez nb3 [SL none 0 0, I64 0] 107), (Ez nb4 (V2 (vQ z0 0 8) (vQ z0 8 8) (((vQ z0 16 1).toNat:Int)) none 0 0 none 0 0 0 (zr8 16)) 38)]
   refine Z2 2 ?_
   have hz5 : (zz).length = zz.length := rfl
   refine AF (A5 118 _ _ (AH _ CR rfl) (fun w1 hw1 => D6 17 1 aa zz.length cc z0 zz w1 rfl ZO ZO ZO ((hu6 _ _ hr).at (M' := []) hw1 ZM) hu5 ZU)) rfl ?_
   rintro v1 L1 ⟨_, ⟨rfl, ao5, zz5, ca5, hq5, ⟨hA5, hb16, hb17, hb18⟩, rfl⟩, rfl⟩
   show JL _ _ _ _ ((61, .tuple #[U64 (vQ z0 17 1), .agg #[SL ao5 zz5.length ca5, I64 ((eQ z0 18:Int))]]) :: _) [_, _, _, _]
   refine Z2 3 ?_
   refine AF (AS _ ([SL none 0 0, I64 0]) A3 ZR) rfl ?_
   rintro v1 L1 ⟨nb6, hnb6, rfl, rfl⟩
   show JL _ _ _ _ (_ :: _) [_, _, _, _, _]
   refine Z2 1 ?_
   refine AC (AB 4 nb6 2 _ 107 ([SL ao5 zz5.length ca5, I64 ((eQ z0 18:Int))]) rfl rfl rfl AP rfl ZC (Nat.le_of_ble_eq_true rfl) (AI ZM)) rfl ?_
   show JL _ _ _ _ _ [_, _, _, _, _]
   refine Z2 5 ?_
   refine AC (AB 0 nb1 2 _ 107 ([SL ao5 zz5.length ca5, I64 ((eQ z0 18:Int))]) rfl rfl rfl AP rfl ZC (Nat.le_of_ble_eq_true rfl) (AI ZM)) rfl ?_
   show JL _ _ _ _ _ [_, _, _, _, _]
   refine Z2 8 ?_
   refine JC_mask [true, true, true, true, false] ?_
   show JC _ _ _ _ [_, _, _, _]
   refine ED (ι := (Option Addr × List UInt8 × Nat × Option Addr × Nat × Nat) ⊕ (Nat × List Value × Nat × Option Addr × List UInt8 × Nat × Nat)) (fun x => match x with | .inl ⟨ab, zb, cb, a1, n1, c1⟩ => [(1, Ptr nb1 0), (2, Ptr nb2 0), (3, Ptr nb3 0), (4, Ptr nb4 0), (7, U64 (vQ z0 16 1)), (10, U64 (vQ z0 17 1))] | .inr ⟨gb, sp, cp, aa, zz, cc, aq⟩ => [(1, Ptr nb1 0), (2, Ptr nb2 0), (3, Ptr nb3 0), (4, Ptr nb4 0), (7, U64 (vQ z0 16 1)), (10, U64 (vQ z0 17 1))]) (fun x => match x with | .inl ⟨ab, zb, cb, a1, n1, c1⟩ => [(Ez nb1 [SL ab zb.length cb, I64 2] 107), (Ez nb2 (V4) 38), (Ez nb3 [SL none 0 0, I64 0] 107), (Ez nb4 (V2 (vQ z0 0 8) (vQ z0 8 8) (((vQ z0 16 1).toNat:Int)) a1 n1 c1 none 0 0 0 (zr8 16)) 38)] | .inr ⟨gb, sp, cp, aa, zz, cc, aq⟩ => [(Ez nb1 [SL aa zz.length cc, I64 ((eQ z0 aq:Int))] 107), (Ez nb2 (V4) 38), (Ez nb3 [SL none 0 0, I64 0] 107), (Ez nb4 ([U64 (vQ z0 0 8), U64 (vQ z0 8 8), I64 (((vQ z0 16 1).toNat:Int)), Slc gb 0 m cp, SL none 0 0, U64 0] ++ cu8 (zr8 16)) 38), (Ez gb (cu64 (ixQ z0 18 m) ++ sp) 22)]) (fun x => match x with | .inl ⟨ab, zb, cb, a1, n1, c1⟩ => z0.length < 4*m + 34 ∧ (∀ w M, RdB w M ao z → RdB w M ab zb) ∧ zb.length ≤ cb ∧ cb ≤ maxLen ∧ zb.length ≤ n | .inr ⟨gb, sp, cp, aa, zz, cc, aq⟩ => aq = 4*m + 18 ∧ sp.length = cp - m ∧ m ≤ cp ∧ cp ≤ maxLen ∧ Lq z0 zz aq ∧ (∀ w M, RdB w M ao z → RdB w M aa zz) ∧ zz.length ≤ cc ∧ cc ≤ maxLen ∧ zz.length ≤ n) ?_ ?_
   ·
    refine JC_block (C3 (ι := (Unit) ⊕ (Nat × List UInt64 × Nat × List Value × Nat × Option Addr × List UInt8 × Nat)) (fun x => match x with | .inl _ => [(1, Ptr nb1 0), (2, Ptr nb2 0), (3, Ptr nb3 0), (4, Ptr nb4 0), (7, U64 (vQ z0 16 1)), (10, U64 (vQ z0 17 1)), (12, I64 0)] | .inr ⟨i, ll, gb, sp, cp, aa1, zz1, cc1⟩ => [(1, Ptr nb1 0), (2, Ptr nb2 0), (3, Ptr nb3 0), (4, Ptr nb4 0), (7, U64 (vQ z0 16 1)), (10, U64 (vQ z0 17 1)), (12, I64 i)]) (fun x => match x with | .inl _ => [(Ez nb1 [SL ao5 zz5.length ca5, I64 ((eQ z0 18:Int))] 107), (Ez nb2 (V4) 38), (Ez nb3 [SL none 0 0, I64 0] 107), (Ez nb4 (V2 (vQ z0 0 8) (vQ z0 8 8) (((vQ z0 16 1).toNat:Int)) none 0 0 none 0 0 0 (zr8 16)) 38)] | .inr ⟨i, ll, gb, sp, cp, aa1, zz1, cc1⟩ => [(Ez nb1 [SL aa1 zz1.length cc1, I64 ((eQ z0 (4*i + 18):Int))] 107), (Ez nb2 (V4) 38), (Ez nb3 [SL none 0 0, I64 0] 107), (Ez nb4 ([U64 (vQ z0 0 8), U64 (vQ z0 8 8), I64 (((vQ z0 16 1).toNat:Int)), Slc gb 0 i cp, SL none 0 0, U64 0] ++ cu8 (zr8 16)) 38), (Ez gb (cu64 ll ++ sp) 22)]) (fun x => match x with | .inl _ => True | .inr ⟨i, ll, gb, sp, cp, aa1, zz1, cc1⟩ => 0 < i ∧ i ≤ m ∧ ll = ixQ z0 18 i ∧ ll.length = i ∧ sp.length = cp - i ∧ i ≤ cp ∧ cp ≤ maxLen ∧ Lq z0 zz1 (4*i + 18) ∧ (∀ w M, RdB w M ao z → RdB w M aa1 zz1) ∧ zz1.length ≤ cc1 ∧ cc1 ≤ maxLen ∧ zz1.length ≤ n) (fun x => match x with | .inl _ => m + 2 | .inr ⟨i, ll, gb, sp, cp, aa1, zz1, cc1⟩ => m + 1 - i) (.inl ()) trivial (Sub.all rfl) rfl ?_)
    rintro (_ | ⟨i, ll, gb, sp, cp, aa1, zz1, cc1⟩) hx
    ·
     obtain _ := hx
     show JC _ _ _ [_, _, _, _, _, _, _] [_, _, _, _]
     refine Z2 5 ?_
     refine AE (I64 (((vQ z0 17 1).toNat:Int))) Ze rfl ?_
     refine Z2 2 ?_
     refine AD 4 69 true _ (Ptr nb1 1) rfl rfl (decide_eq_true ZO) ZE rfl ?_
     refine AD 4 69 true _ (I64 ((eQ z0 18:Int))) rfl rfl (decide_eq_true ZO) ZE rfl ?_
     refine AD 4 69 true _ (.bool (decide (((eQ z0 18:Int)) = (0:Int)))) rfl rfl (decide_eq_true ZO) ZE rfl ?_
     refine AE _ (CC _ rfl (decide_eq_true ZO) rfl) rfl ?_
     refine A1 (AK (AX (decide (((eQ z0 18:Int)) = (0:Int))) rfl (fun hb19 => ?_) (fun hb19 => ?_)))
     ·
      have hp19 := of_decide_eq_true hb19
      refine Z2 7 ?_
      have hz6 : (zz5).length = zz5.length := rfl
      refine AF (A5 118 _ _ (AH _ CR rfl) (fun w1 hw1 => D6 18 4 ao5 zz5.length ca5 z0 zz5 w1 rfl ZO ZO ZO ((hA5 _ _ (hu6 _ _ hr)).at (M' := []) hw1 ZM) hq5 ZU)) rfl ?_
      rintro v1 L1 ⟨_, ⟨rfl, ao6, zz6, ca6, hq6, ⟨hA6, hb20, hb21, hb22⟩, rfl⟩, rfl⟩
      show JL _ _ _ _ ((78, .tuple #[U64 (vQ z0 18 4), .agg #[SL ao6 zz6.length ca6, I64 ((eQ z0 22:Int))]]) :: _) [_, _, _, _]
      refine Z2 3 ?_
      refine AF (AS _ ([SL none 0 0, I64 0]) A3 ZR) rfl ?_
      rintro v1 L1 ⟨nb7, hnb7, rfl, rfl⟩
      show JL _ _ _ _ (_ :: _) [_, _, _, _, _]
      refine Z2 1 ?_
      refine AC (AB 4 nb7 2 _ 107 ([SL ao6 zz6.length ca6, I64 ((eQ z0 22:Int))]) rfl rfl rfl AP rfl ZC (Nat.le_of_ble_eq_true rfl) (AI ZM)) rfl ?_
      show JL _ _ _ _ _ [_, _, _, _, _]
      refine Z2 5 ?_
      refine AC (AB 0 nb1 2 _ 107 ([SL ao6 zz6.length ca6, I64 ((eQ z0 22:Int))]) rfl rfl rfl AP rfl ZC (Nat.le_of_ble_eq_true rfl) (AI ZM)) rfl ?_
      show JL _ _ _ _ _ [_, _, _, _, _]
      refine Z2 7 ?_
      refine AF (BF 22 1 _ [(0, U64 (vQ z0 18 4))] ([U64 (vQ z0 18 4)]) BB BJ Tryd.zeroValue22 rfl rfl rfl ZR) rfl ?_
      rintro v1 L1 ⟨nb8, hnb8, rfl, rfl⟩
      show JL _ _ _ _ ((86, Slc nb8 0 1 1) :: _) [_, _, _, _, _, (Ez nb8 [U64 (vQ z0 18 4)] 22)]
      refine AF (E9 23 22 [false, false, false, false, false, false] (SL none 0 0) 0 ([] : List UInt64) ([vQ z0 18 4]) (some ⟨nb8, 0, none⟩) 1 1 1 BB E8 rfl (.inl ⟨rfl, rfl, rfl, rfl, ZO⟩) rfl ZM (SrcAt.mem (A0 5 rfl (Seg.head))) ZO ZX ZO) rfl ?_
      rintro v1 L1 ⟨nb9, sp1, cp1, hg1, rfl, rfl, ha1, ha2, ha3, ha4⟩
      show JL _ _ _ _ ((87, Slc nb9 0 1 cp1) :: _) [_, _, _, _, _, _, (Ez nb9 (cu64 (([] : List UInt64) ++ ([vQ z0 18 4])) ++ sp1) 22)]
      refine Z2 2 ?_
      refine AC (BT 3 nb4 3 1 _ 38 (Slc nb9 0 1 cp1) ([Slc nb9 0 1 cp1]) ([U64 (vQ z0 0 8), U64 (vQ z0 8 8), I64 (((vQ z0 16 1).toNat:Int)), Slc nb9 0 1 cp1, SL none 0 0, U64 0] ++ cu8 (zr8 16)) rfl rfl rfl rfl Tryd.sizeOf23 rfl ZC ZS (rfl)) rfl ?_
      show JL _ _ _ _ _ [_, _, _, _, _, _, _]
      refine Z2 5 ?_
      refine AE (I64 1) (AT rfl rfl fun _ => BR _ _ (1:Int) ZO ZO) rfl ?_
      refine Z2 2 ?_
      refine B5 (D7 [true, true, true, true, false, false, true] ?_)
      show K _ _ [_, _, _, _, _] _
      refine C1 (.inr (1, ([] : List UInt64) ++ ([vQ z0 18 4]), nb9, sp1, cp1, ao6, zz6, ca6)) ⟨ZO, ZO, by rw [ixQ_one]; rfl, (ha1).trans (by first | rfl | simp +arith), (ha2).trans (by first | rfl | omega), ZO, ZO, hq6, (by intro w M hr; exact (hA6 _ _ (hA5 _ _ (hu6 _ _ hr)))), ZO, ZO, ZO⟩ (by dsimp only; omega) (Sub.all rfl) rfl
     have hp19 := of_decide_eq_false hb19
     refine Z2 4 ?_
     have hne : ¬ 18 ≤ z0.length := fun h => (of_decide_eq_false hb19) (by rw [E5 h]; rfl)
     rw [DJ hne]
     refine BU (.inl (ao5, zz5, ca5, none, 0, 0)) ⟨ZO, (by intro w M hr; exact (hA5 _ _ (hu6 _ _ hr))), ZO, ZO, ZO⟩ (Sub.all rfl) rfl
    obtain ⟨hi1, hi2, hi3, hi4, hi5, hi6, hi7, hi8, hi9, hi10, hi11, hi12⟩ := hx
    show JC _ _ _ [_, _, _, _, _, _, _] [_, _, _, _, _]
    refine Z2 5 ?_
    refine AE (I64 (((vQ z0 17 1).toNat:Int))) Ze rfl ?_
    refine Z2 2 ?_
    rcases Bool.eq_false_or_eq_true (decide (((i:Int)) ≤ (((vQ z0 17 1).toNat:Int)))) with hb23 | hb23
    ·
     have hp23 := of_decide_eq_true hb23
     refine Z2 6 ?_
     refine AX (decide (((eQ z0 (4*i + 18):Int)) = (0:Int))) rfl (fun hb24 => ?_) (fun hb24 => ?_)
     ·
      have hp24 := of_decide_eq_true hb24
      refine Z2 7 ?_
      have hz7 : (zz1).length = zz1.length := rfl
      refine AF (A5 118 _ _ (AH _ CR rfl) (fun w1 hw1 => D6 (4*i + 18) 4 aa1 zz1.length cc1 z0 zz1 w1 rfl ZO ZO ZO ((hi9 _ _ hr).at (M' := []) hw1 ZM) hi8 ZU)) rfl ?_
      rintro v1 L1 ⟨_, ⟨rfl, ao7, zz7, ca7, hq7, ⟨hA7, hb25, hb26, hb27⟩, rfl⟩, rfl⟩
      show JL _ _ _ _ ((78, .tuple #[U64 (vQ z0 (4*i + 18) 4), .agg #[SL ao7 zz7.length ca7, I64 ((eQ z0 (4*i + 22):Int))]]) :: _) [_, _, _, _, _]
      refine Z2 3 ?_
      refine AF (AS _ ([SL none 0 0, I64 0]) A3 ZR) rfl ?_
      rintro v1 L1 ⟨nb10, hnb10, rfl, rfl⟩
      show JL _ _ _ _ (_ :: _) [_, _, _, _, _, _]
      refine Z2 1 ?_
      refine AC (AB 5 nb10 2 _ 107 ([SL ao7 zz7.length ca7, I64 ((eQ z0 (4*i + 22):Int))]) rfl rfl rfl AP rfl ZC (Nat.le_of_ble_eq_true rfl) (AI ZM)) rfl ?_
      show JL _ _ _ _ _ [_, _, _, _, _, _]
      refine Z2 5 ?_
      refine AC (AB 0 nb1 2 _ 107 ([SL ao7 zz7.length ca7, I64 ((eQ z0 (4*i + 22):Int))]) rfl rfl rfl AP rfl ZC (Nat.le_of_ble_eq_true rfl) (AI ZM)) rfl ?_
      show JL _ _ _ _ _ [_, _, _, _, _, _]
      refine Z2 7 ?_
      refine AF (BF 22 1 _ [(0, U64 (vQ z0 (4*i + 18) 4))] ([U64 (vQ z0 (4*i + 18) 4)]) BB BJ Tryd.zeroValue22 rfl rfl rfl ZR) rfl ?_
      rintro v1 L1 ⟨nb11, hnb11, rfl, rfl⟩
      show JL _ _ _ _ ((86, Slc nb11 0 1 1) :: _) [_, _, _, _, _, _, (Ez nb11 [U64 (vQ z0 (4*i + 18) 4)] 22)]
      refine AF (E9 23 22 [false, false, false, false, true, false, false] (Slc gb 0 i cp) i ll ([vQ z0 (4*i + 18) 4]) (some ⟨nb11, 0, none⟩) 1 1 (i + 1) BB E8 rfl (.inr ⟨gb, sp, cp, rfl, rfl, (by first | exact hi4 | simp [hi4]), hi5, ZO, ZO⟩) rfl ZM (SrcAt.mem (A0 6 rfl (Seg.head))) ZO ZX ZO) rfl ?_
      rintro v1 L1 ⟨nb12, sp2, cp2, hg2, rfl, rfl, ha5, ha6, ha7, ha8⟩
      show JL _ _ _ _ ((87, Slc nb12 0 (i + 1) cp2) :: _) [_, _, _, _, _, _, (Ez nb12 (cu64 (ll ++ ([vQ z0 (4*i + 18) 4])) ++ sp2) 22)]
      refine Z2 2 ?_
      refine AC (BT 3 nb4 3 1 _ 38 (Slc nb12 0 (i + 1) cp2) ([Slc nb12 0 (i + 1) cp2]) ([U64 (vQ z0 0 8), U64 (vQ z0 8 8), I64 (((vQ z0 16 1).toNat:Int)), Slc nb12 0 (i + 1) cp2, SL none 0 0, U64 0] ++ cu8 (zr8 16)) rfl rfl rfl rfl Tryd.sizeOf23 rfl ZC ZS (rfl)) rfl ?_
      show JL _ _ _ _ _ [_, _, _, _, _, _, _]
      refine Z2 5 ?_
      refine AE (I64 ((i:Int) + 1)) (AT rfl rfl fun _ => BR _ _ ((i:Int) + 1) ZO ZO) rfl ?_
      refine Z2 2 ?_
      refine B5 (D7 [true, true, true, true, false, false, true] ?_)
      show K _ _ [_, _, _, _, _] _
      refine C1 (.inr (i + 1, ll ++ ([vQ z0 (4*i + 18) 4]), nb12, sp2, cp2, ao7, zz7, ca7)) ⟨ZO, ZO, by rw [ixQ_succ, ← hi3, Nat.add_comm 18 (4*i)], (ha5).trans (by first | rfl | simp +arith), (ha6).trans (by first | rfl | omega), ZO, ZO, hq7, (by intro w M hr; exact (hA7 _ _ (hi9 _ _ hr))), ZO, ZO, ZO⟩ (by dsimp only; omega) (Sub.all rfl) rfl
     have hp24 := of_decide_eq_false hb24
     refine Z2 4 ?_
     have hne : ¬ (4*i + 18) ≤ z0.length := fun h => (of_decide_eq_false hb24) (by rw [E5 h]; rfl)
     rw [DJ hne]
     refine DZ [0, 1, 2, 3] ZD ?_
     show JQ _ _ _ _ [_, _, _, _]
     refine BU (.inl (aa1, zz1, cc1, (some ⟨gb, 0, none⟩), i, cp)) ⟨ZO, (by intro w M hr; exact (hi9 _ _ hr)), ZO, ZO, ZO⟩ (Sub.all rfl) rfl
    have hp23 := of_decide_eq_false hb23
    refine Z2 6 ?_
    refine AY _ rfl rfl ?_
    refine Z2 4 ?_
    have ei : m = i := by omega
    subst ei
    subst hi3
    refine BU (.inr (gb, sp, cp, aa1, zz1, cc1, 4*m + 18)) ⟨rfl, hi5, hi6, hi7, hi8, hi9, hi10, hi11, hi12⟩ (Sub.all rfl) rfl
   rintro (⟨ab, zb, cb, a1, n1, c1⟩ | ⟨gb, sp, cp, aa, zz, cc, aq⟩) hx
   ·
    obtain ⟨hlen, hA, hb7, hb8, hb9⟩ := hx
    show JQ _ _ _ [_, _, _, _, _, _] [_, _, _, _]
    refine Z2 7 ?_
    refine C3 (ι := Unit) (fun _ => [(1, Ptr nb1 0), (2, Ptr nb2 0), (3, Ptr nb3 0), (4, Ptr nb4 0), (7, U64 (vQ z0 16 1)), (10, U64 (vQ z0 17 1)), (15, I64 0)]) (fun _ => [(Ez nb1 [SL ab zb.length cb, I64 2] 107), (Ez nb2 (V4) 38), (Ez nb3 [SL none 0 0, I64 0] 107), (Ez nb4 (V2 (vQ z0 0 8) (vQ z0 8 8) (((vQ z0 16 1).toNat:Int)) a1 n1 c1 none 0 0 0 (zr8 16)) 38)]) (fun _ => True) (fun _ => 1) () trivial (Sub.all rfl) rfl ?_
    rintro _ _
    show JC _ _ _ [_, _, _, _, _, _, _] [_, _, _, _]
    refine Z2 5 ?_
    refine AE (I64 (((vQ z0 17 1).toNat:Int))) Ze rfl ?_
    refine Z2 2 ?_
    refine AD 4 94 true _ (Ptr nb1 1) rfl rfl (decide_eq_true ZO) ZE rfl ?_
    refine AD 4 94 true _ (I64 2) rfl rfl (decide_eq_true ZO) ZE rfl ?_
    refine AD 4 94 true _ (.bool (decide ((2:Int) = (0:Int)))) rfl rfl (decide_eq_true ZO) ZE rfl ?_
    refine AE _ (CC _ rfl (decide_eq_true ZO) rfl) rfl ?_
    refine Z2 1 ?_
    refine D4 2 9 99 true _ rfl rfl ZD rfl (AE _ (BO _ rfl ZD rfl) rfl ?_)
    refine A1 (AK (AY _ rfl rfl ?_))
    refine JC_exit (DV (DV (JQ_in_same (BU (.inr (.inr (.inr (ab, zb, cb, a1, n1, c1, none, 0, 0)))) ⟨bad12b hk12 ZO, (by intro w M hr; exact (hA _ _ hr)), ZO, ZO, ZO⟩ (Sub.all rfl) rfl))))
   obtain ⟨hy1, hy2, hy3, hy4, hy5, hy6, hy7, hy8, hy9⟩ := hx
   show JQ _ _ _ [_, _, _, _, _, _] [_, _, _, _, _]
   refine Z2 2 ?_
   by_cases hk1 : vQ z0 16 1 = 1
   ·
    refine Z2 5 ?_
    refine C3 (ι := (Unit) ⊕ (Nat × List SealR × Nat × List Value × Nat × Option Addr × List UInt8 × Nat)) (fun x => match x with | .inl _ => [(1, Ptr nb1 0), (2, Ptr nb2 0), (3, Ptr nb3 0), (4, Ptr nb4 0), (7, U64 (vQ z0 16 1)), (10, U64 (vQ z0 17 1)), (15, I64 0)] | .inr ⟨j, rr, gs, sp2, cp2, aa2, zz2, cc2⟩ => [(1, Ptr nb1 0), (2, Ptr nb2 0), (3, Ptr nb3 0), (4, Ptr nb4 0), (7, U64 (vQ z0 16 1)), (10, U64 (vQ z0 17 1)), (15, I64 j)]) (fun x => match x with | .inl _ => [(Ez nb1 [SL aa zz.length cc, I64 ((eQ z0 aq:Int))] 107), (Ez nb2 (V4) 38), (Ez nb3 [SL none 0 0, I64 0] 107), (Ez nb4 ([U64 (vQ z0 0 8), U64 (vQ z0 8 8), I64 (((vQ z0 16 1).toNat:Int)), Slc gb 0 m cp, SL none 0 0, U64 0] ++ cu8 (zr8 16)) 38), (Ez gb (cu64 (ixQ z0 18 m) ++ sp) 22)] | .inr ⟨j, rr, gs, sp2, cp2, aa2, zz2, cc2⟩ => [(Ez nb1 [SL aa2 zz2.length cc2, I64 ((eQ z0 (aq + 56*j):Int))] 107), (Ez nb2 (V4) 38), (Ez nb3 [SL none 0 0, I64 0] 107), (Ez nb4 ([U64 (vQ z0 0 8), U64 (vQ z0 8 8), I64 (((vQ z0 16 1).toNat:Int)), Slc gb 0 m cp, Slc gs 0 j cp2, U64 0] ++ cu8 (zr8 16)) 38), (Ez gb (cu64 (ixQ z0 18 m) ++ sp) 22), (Ez gs ((rr).flatMap sealC ++ sp2) 164)]) (fun x => match x with | .inl _ => True | .inr ⟨j, rr, gs, sp2, cp2, aa2, zz2, cc2⟩ => 0 < j ∧ j ≤ m ∧ rr = seQ z0 aq j ∧ rr.length = j ∧ sp2.length = cp2 * 49 - j * 49 ∧ j ≤ cp2 ∧ cp2 ≤ maxLen ∧ Lq z0 zz2 (aq + 56*j) ∧ (∀ w M, RdB w M ao z → RdB w M aa2 zz2) ∧ zz2.length ≤ cc2 ∧ cc2 ≤ maxLen ∧ zz2.length ≤ n) (fun x => match x with | .inl _ => m + 2 | .inr ⟨j, rr, gs, sp2, cp2, aa2, zz2, cc2⟩ => m + 1 - j) (.inl ()) trivial (Sub.all rfl) rfl ?_
    rintro (_ | ⟨j, rr, gs, sp2, cp2, aa2, zz2, cc2⟩) hx
    ·
     obtain _ := hx
     show JC _ _ _ [_, _, _, _, _, _, _] [_, _, _, _, _]
     refine Z2 5 ?_
     refine AE (I64 (((vQ z0 17 1).toNat:Int))) Ze rfl ?_
     refine Z2 2 ?_
     refine AD 4 94 true _ (Ptr nb1 1) rfl rfl (decide_eq_true ZO) ZE rfl ?_
     refine AD 4 94 true _ (I64 ((eQ z0 aq:Int))) rfl rfl (decide_eq_true ZO) ZE rfl ?_
     refine AD 4 94 true _ (.bool (decide (((eQ z0 aq:Int)) = (0:Int)))) rfl rfl (decide_eq_true ZO) ZE rfl ?_
     refine AE _ (CC _ rfl (decide_eq_true ZO) rfl) rfl ?_
     refine Z2 1 ?_
     rcases Bool.eq_false_or_eq_true (decide (((eQ z0 aq:Int)) = (0:Int))) with hb28 | hb28
     ·
      have hp28 := of_decide_eq_true hb28
      refine Z2 1 ?_
      refine AD 9 99 true _ (.bool (decide ((vQ z0 16 1) = (1:UInt64)))) rfl rfl hb28 (AT rfl rfl fun _ => DS (vQ z0 16 1) (1:UInt64)) rfl ?_
      refine Z2 3 ?_
      refine A7 _ rfl (decide_eq_true hk1) ?_
      refine Z2 7 ?_
      have hz8 : (zz).length = zz.length := rfl
      refine AF (A5 124 _ _ (AH _ Tryd.call124 rfl) (fun w1 hw1 => rsreadQ_c aq aa zz.length cc z0 zz w1 rfl ZO ZO ZO ((hy6 _ _ hr).at (M' := []) hw1 ZM) hy5)) rfl ?_
      rintro v1 L1 ⟨_, ⟨rfl, ao8, zz8, ca8, hq8, ⟨hA8, hb29, hb30, hb31⟩, rfl⟩, rfl⟩
      show JL _ _ _ _ ((107, .tuple #[.agg ([U64 (vQ z0 aq 8)] ++ cu8 (bQ z0 (aq + 8) 32) ++ cu8 (bQ z0 (aq + 40) 16)).toArray, .agg #[SL ao8 zz8.length ca8, I64 ((eQ z0 (aq + 56):Int))]]) :: _) [_, _, _, _, _]
      refine Z2 3 ?_
      refine AF (AS _ ([U64 0] ++ cu8 (zr8 32) ++ cu8 (zr8 16)) DO ZR) rfl ?_
      rintro v1 L1 ⟨nb13, hnb13, rfl, rfl⟩
      show JL _ _ _ _ (_ :: _) [_, _, _, _, _, _]
      refine AF (AS _ ([SL none 0 0, I64 0]) A3 ZR) rfl ?_
      rintro v1 L1 ⟨nb14, hnb14, rfl, rfl⟩
      show JL _ _ _ _ (_ :: _) [_, _, _, _, _, _, _]
      refine AC (AB 5 nb13 49 _ 164 ([U64 (vQ z0 aq 8)] ++ cu8 (bQ z0 (aq + 8) 32) ++ cu8 (bQ z0 (aq + 40) 16)) rfl rfl rfl BW ZS (AQ (AQ ZC A6) A6) ZS (AI ZS)) rfl ?_
      show JL _ _ _ _ _ [_, _, _, _, _, _, _]
      refine AC (AB 6 nb14 2 _ 107 ([SL ao8 zz8.length ca8, I64 ((eQ z0 (aq + 56):Int))]) rfl rfl rfl AP rfl ZC (Nat.le_of_ble_eq_true rfl) (AI ZM)) rfl ?_
      show JL _ _ _ _ _ [_, _, _, _, _, _, _]
      refine Z2 5 ?_
      refine AC (AB 0 nb1 2 _ 107 ([SL ao8 zz8.length ca8, I64 ((eQ z0 (aq + 56):Int))]) rfl rfl rfl AP rfl ZC (Nat.le_of_ble_eq_true rfl) (AI ZM)) rfl ?_
      show JL _ _ _ _ _ [_, _, _, _, _, _, _]
      refine Z2 7 ?_
      refine AF (BF 164 49 _ [(0, .agg ([U64 (vQ z0 aq 8)] ++ cu8 (bQ z0 (aq + 8) 32) ++ cu8 (bQ z0 (aq + 40) 16)).toArray)] ([U64 (vQ z0 aq 8)] ++ cu8 (bQ z0 (aq + 8) 32) ++ cu8 (bQ z0 (aq + 40) 16)) CE BW DO rfl rfl rfl (EL (Z := [U64 0] ++ cu8 (zr8 32) ++ cu8 (zr8 16)) ZS ZR (by simp [zr8]))) rfl ?_
      rintro v1 L1 ⟨nb15, hnb15, rfl, rfl⟩
      show JL _ _ _ _ ((115, Slc nb15 0 1 1) :: _) [_, _, _, _, _, _, _, (Ez nb15 ([U64 (vQ z0 aq 8)] ++ cu8 (bQ z0 (aq + 8) 32) ++ cu8 (bQ z0 (aq + 40) 16)) 164)]
      refine AF (Step_appS 34 164 56 (.agg ([U64 0] ++ cu8 (zr8 32) ++ cu8 (zr8 16)).toArray) [false, false, false, false, false, false, false, false] (SL none 0 0) 0 ([] : List SealR) (SealR.mk (vQ z0 aq 8) (bQ z0 (aq + 8) 32) (bQ z0 (aq + 40) 16) (BG _ _ _) (BG _ _ _)) (some ⟨nb15, 0, none⟩) 1 1 CE ZR ZR rfl (.inl ⟨rfl, rfl, rfl, rfl⟩) rfl (SrcAt.mem (A0 7 rfl (AG _))) ZO ZX ZO) rfl ?_
      rintro v1 L1 ⟨nb16, sp3, cp3, hg3, rfl, rfl, ha9, ha10, ha11, ha12⟩
      show JL _ _ _ _ ((116, Slc nb16 0 1 cp3) :: _) [_, _, _, _, _, _, _, _, (Ez nb16 ((([] : List SealR) ++ [(SealR.mk (vQ z0 aq 8) (bQ z0 (aq + 8) 32) (bQ z0 (aq + 40) 16) (BG _ _ _) (BG _ _ _))]).flatMap sealC ++ sp3) 164)]
      refine Z2 2 ?_
      refine AC (BT 3 nb4 4 1 _ 38 (Slc nb16 0 1 cp3) ([Slc nb16 0 1 cp3]) ([U64 (vQ z0 0 8), U64 (vQ z0 8 8), I64 (((vQ z0 16 1).toNat:Int)), Slc gb 0 m cp, Slc nb16 0 1 cp3, U64 0] ++ cu8 (zr8 16)) rfl rfl rfl rfl Tryd.sizeOf34 rfl ZC ZS (rfl)) rfl ?_
      show JL _ _ _ _ _ [_, _, _, _, _, _, _, _, _]
      refine Z2 5 ?_
      refine AE (I64 1) (AT rfl rfl fun _ => BR _ _ (1:Int) ZO ZO) rfl ?_
      refine Z2 2 ?_
      refine B5 (D7 [true, true, true, true, true, false, false, false, true] ?_)
      show K _ _ [_, _, _, _, _, _] _
      refine C1 (.inr (1, ([] : List SealR) ++ [(SealR.mk (vQ z0 aq 8) (bQ z0 (aq + 8) 32) (bQ z0 (aq + 40) 16) (BG _ _ _) (BG _ _ _))], nb16, sp3, cp3, ao8, zz8, ca8)) ⟨ZO, ZO, by rw [seQ_one]; exact congrArg (fun x => [x]) (sQ_eq _ _ _ _), (ha9).trans (by first | rfl | simp +arith), (ha10).trans (by first | rfl | omega), ZO, ZO, (fun h8 => (hq8 ZO).trans (by congr 1 <;> omega)), (by intro w M hr; exact (hA8 _ _ (hy6 _ _ hr))), ZO, ZO, ZO⟩ (by dsimp only; omega) (Sub.all rfl) rfl
     have hp28 := of_decide_eq_false hb28
     refine Z2 5 ?_
     refine AY _ rfl rfl ?_
     refine Z2 4 ?_
     have hne : ¬ aq ≤ z0.length := fun h => (of_decide_eq_false hb28) (by rw [E5 h]; rfl)
     rw [DJ hne]
     refine DZ [0, 1, 2, 3] ZD ?_
     show JQ _ _ _ _ [_, _, _, _]
     refine BU (.inr (.inr (.inr (aa, zz, cc, (some ⟨gb, 0, none⟩), m, cp, none, 0, 0)))) ⟨bad1 hk1 (fun e => by have := e.1; omega), (by intro w M hr; exact (hy6 _ _ hr)), ZO, ZO, ZO⟩ (Sub.all rfl) rfl
    obtain ⟨hj1, hj2, hj3, hj4, hj5, hj6, hj7, hj8, hj9, hj10, hj11, hj12⟩ := hx
    show JC _ _ _ [_, _, _, _, _, _, _] [_, _, _, _, _, _]
    refine Z2 5 ?_
    refine AE (I64 (((vQ z0 17 1).toNat:Int))) Ze rfl ?_
    refine Z2 2 ?_
    rcases Bool.eq_false_or_eq_true (decide (((j:Int)) ≤ (((vQ z0 17 1).toNat:Int)))) with hb32 | hb32
    ·
     have hp32 := of_decide_eq_true hb32
     refine Z2 5 ?_
     rcases Bool.eq_false_or_eq_true (decide (((eQ z0 (aq + 56*j):Int)) = (0:Int))) with hb33 | hb33
     ·
      have hp33 := of_decide_eq_true hb33
      refine Z2 1 ?_
      refine AD 9 99 true _ (.bool (decide ((vQ z0 16 1) = (1:UInt64)))) rfl rfl hb33 (AT rfl rfl fun _ => DS (vQ z0 16 1) (1:UInt64)) rfl ?_
      refine Z2 3 ?_
      refine A7 _ rfl (decide_eq_true hk1) ?_
      refine Z2 7 ?_
      have hz9 : (zz2).length = zz2.length := rfl
      refine AF (A5 124 _ _ (AH _ Tryd.call124 rfl) (fun w1 hw1 => rsreadQ_c (aq + 56*j) aa2 zz2.length cc2 z0 zz2 w1 rfl ZO ZO ZO ((hj9 _ _ hr).at (M' := []) hw1 ZM) hj8)) rfl ?_
      rintro v1 L1 ⟨_, ⟨rfl, ao9, zz9, ca9, hq9, ⟨hA9, hb34, hb35, hb36⟩, rfl⟩, rfl⟩
      show JL _ _ _ _ ((107, .tuple #[.agg ([U64 (vQ z0 (aq + 56*j) 8)] ++ cu8 (bQ z0 (aq + 56*j + 8) 32) ++ cu8 (bQ z0 (aq + 56*j + 40) 16)).toArray, .agg #[SL ao9 zz9.length ca9, I64 ((eQ z0 (aq + 56*j + 56):Int))]]) :: _) [_, _, _, _, _, _]
      refine Z2 3 ?_
      refine AF (AS _ ([U64 0] ++ cu8 (zr8 32) ++ cu8 (zr8 16)) DO ZR) rfl ?_
      rintro v1 L1 ⟨nb17, hnb17, rfl, rfl⟩
      show JL _ _ _ _ (_ :: _) [_, _, _, _, _, _, _]
      refine AF (AS _ ([SL none 0 0, I64 0]) A3 ZR) rfl ?_
      rintro v1 L1 ⟨nb18, hnb18, rfl, rfl⟩
      show JL _ _ _ _ (_ :: _) [_, _, _, _, _, _, _, _]
      refine AC (AB 6 nb17 49 _ 164 ([U64 (vQ z0 (aq + 56*j) 8)] ++ cu8 (bQ z0 (aq + 56*j + 8) 32) ++ cu8 (bQ z0 (aq + 56*j + 40) 16)) rfl rfl rfl BW ZS (AQ (AQ ZC A6) A6) ZS (AI ZS)) rfl ?_
      show JL _ _ _ _ _ [_, _, _, _, _, _, _, _]
      refine AC (AB 7 nb18 2 _ 107 ([SL ao9 zz9.length ca9, I64 ((eQ z0 (aq + 56*j + 56):Int))]) rfl rfl rfl AP rfl ZC (Nat.le_of_ble_eq_true rfl) (AI ZM)) rfl ?_
      show JL _ _ _ _ _ [_, _, _, _, _, _, _, _]
      refine Z2 5 ?_
      refine AC (AB 0 nb1 2 _ 107 ([SL ao9 zz9.length ca9, I64 ((eQ z0 (aq + 56*j + 56):Int))]) rfl rfl rfl AP rfl ZC (Nat.le_of_ble_eq_true rfl) (AI ZM)) rfl ?_
      show JL _ _ _ _ _ [_, _, _, _, _, _, _, _]
      refine Z2 7 ?_
      refine AF (BF 164 49 _ [(0, .agg ([U64 (vQ z0 (aq + 56*j) 8)] ++ cu8 (bQ z0 (aq + 56*j + 8) 32) ++ cu8 (bQ z0 (aq + 56*j + 40) 16)).toArray)] ([U64 (vQ z0 (aq + 56*j) 8)] ++ cu8 (bQ z0 (aq + 56*j + 8) 32) ++ cu8 (bQ z0 (aq + 56*j + 40) 16)) CE BW DO rfl rfl rfl (EL (Z := [U64 0] ++ cu8 (zr8 32) ++ cu8 (zr8 16)) ZS ZR (by simp [zr8]))) rfl ?_
      rintro v1 L1 ⟨nb19, hnb19, rfl, rfl⟩
      show JL _ _ _ _ ((115, Slc nb19 0 1 1) :: _) [_, _, _, _, _, _, _, _, (Ez nb19 ([U64 (vQ z0 (aq + 56*j) 8)] ++ cu8 (bQ z0 (aq + 56*j + 8) 32) ++ cu8 (bQ z0 (aq + 56*j + 40) 16)) 164)]
      refine AF (Step_appS 34 164 56 (.agg ([U64 0] ++ cu8 (zr8 32) ++ cu8 (zr8 16)).toArray) [false, false, false, false, false, true, false, false, false] (Slc gs 0 j cp2) j rr (SealR.mk (vQ z0 (aq + 56*j) 8) (bQ z0 (aq + 56*j + 8) 32) (bQ z0 (aq + 56*j + 40) 16) (BG _ _ _) (BG _ _ _)) (some ⟨nb19, 0, none⟩) 1 (j + 1) CE ZR ZR rfl (.inr ⟨gs, sp2, cp2, rfl, rfl, (by have h : (rr).length = j := hj4; omega), (by first | exact hj5 | omega), ZO, ZO⟩) rfl (SrcAt.mem (A0 8 rfl (AG _))) ZO ZX ZO) rfl ?_
      rintro v1 L1 ⟨nb20, sp4, cp4, hg4, rfl, rfl, ha13, ha14, ha15, ha16⟩
      show JL _ _ _ _ ((116, Slc nb20 0 (j + 1) cp4) :: _) [_, _, _, _, _, _, _, _, (Ez nb20 ((rr ++ [(SealR.mk (vQ z0 (aq + 56*j) 8) (bQ z0 (aq + 56*j + 8) 32) (bQ z0 (aq + 56*j + 40) 16) (BG _ _ _) (BG _ _ _))]).flatMap sealC ++ sp4) 164)]
      refine Z2 2 ?_
      refine AC (BT 3 nb4 4 1 _ 38 (Slc nb20 0 (j + 1) cp4) ([Slc nb20 0 (j + 1) cp4]) ([U64 (vQ z0 0 8), U64 (vQ z0 8 8), I64 (((vQ z0 16 1).toNat:Int)), Slc gb 0 m cp, Slc nb20 0 (j + 1) cp4, U64 0] ++ cu8 (zr8 16)) rfl rfl rfl rfl Tryd.sizeOf34 rfl ZC ZS (rfl)) rfl ?_
      show JL _ _ _ _ _ [_, _, _, _, _, _, _, _, _]
      refine Z2 5 ?_
      refine AE (I64 ((j:Int) + 1)) (AT rfl rfl fun _ => BR _ _ ((j:Int) + 1) ZO ZO) rfl ?_
      refine Z2 2 ?_
      refine B5 (D7 [true, true, true, true, true, false, false, false, true] ?_)
      show K _ _ [_, _, _, _, _, _] _
      refine C1 (.inr (j + 1, rr ++ [(SealR.mk (vQ z0 (aq + 56*j) 8) (bQ z0 (aq + 56*j + 8) 32) (bQ z0 (aq + 56*j + 40) 16) (BG _ _ _) (BG _ _ _))], nb20, sp4, cp4, ao9, zz9, ca9)) ⟨ZO, ZO, by rw [seQ_succ, ← hj3]; exact congrArg (fun x => rr ++ [x]) (sQ_eq _ _ _ _), (ha13).trans (by first | rfl | simp +arith), (ha14).trans (by first | rfl | omega), ZO, ZO, (fun h8 => (hq9 ZO).trans (by congr 1 <;> omega)), (by intro w M hr; exact (hA9 _ _ (hj9 _ _ hr))), ZO, ZO, ZO⟩ (by dsimp only; omega) (Sub.all rfl) rfl
     have hp33 := of_decide_eq_false hb33
     refine Z2 5 ?_
     refine AY _ rfl rfl ?_
     refine Z2 4 ?_
     have hne : ¬ (aq + 56*j) ≤ z0.length := fun h => (of_decide_eq_false hb33) (by rw [E5 h]; rfl)
     rw [DJ hne]
     refine DZ [0, 1, 2, 3] ZD ?_
     show JQ _ _ _ _ [_, _, _, _]
     refine BU (.inr (.inr (.inr (aa2, zz2, cc2, (some ⟨gb, 0, none⟩), m, cp, (some ⟨gs, 0, none⟩), j, cp2)))) ⟨bad1 hk1 (fun e => by have := e.1; omega), (by intro w M hr; exact (hj9 _ _ hr)), ZO, ZO, ZO⟩ (Sub.all rfl) rfl
    have hp32 := of_decide_eq_false hb32
    refine Z2 10 ?_
    refine AY _ rfl rfl ?_
    refine Z2 4 ?_
    have ei : m = j := by omega
    subst ei
    subst hj3
    subst hy1
    refine BU (.inr (.inr (.inl (4*m + 18 + 56*m, gs, sp2, cp2, gb, sp, cp, aa2, zz2, cc2)))) ⟨hk1, ZO, hj5, hj6, hj7, hy2, hy3, hy4, hj8, hj9, hj10, hj11, hj12⟩ (Sub.all rfl) rfl
   refine Z2 5 ?_
   refine C3 (ι := Unit) (fun _ => [(1, Ptr nb1 0), (2, Ptr nb2 0), (3, Ptr nb3 0), (4, Ptr nb4 0), (7, U64 (vQ z0 16 1)), (10, U64 (vQ z0 17 1)), (15, I64 0)]) (fun _ => [(Ez nb1 [SL aa zz.length cc, I64 ((eQ z0 aq:Int))] 107), (Ez nb2 (V4) 38), (Ez nb3 [SL none 0 0, I64 0] 107), (Ez nb4 ([U64 (vQ z0 0 8), U64 (vQ z0 8 8), I64 (((vQ z0 16 1).toNat:Int)), Slc gb 0 m cp, SL none 0 0, U64 0] ++ cu8 (zr8 16)) 38), (Ez gb (cu64 (ixQ z0 18 m) ++ sp) 22)]) (fun _ => True) (fun _ => 1) () trivial (Sub.all rfl) rfl ?_
   rintro _ _
   show JC _ _ _ [_, _, _, _, _, _, _] [_, _, _, _, _]
   refine Z2 5 ?_
   refine AE (I64 (((vQ z0 17 1).toNat:Int))) Ze rfl ?_
   refine Z2 2 ?_
   refine AD 4 94 true _ (Ptr nb1 1) rfl rfl (decide_eq_true ZO) ZE rfl ?_
   refine AD 4 94 true _ (I64 ((eQ z0 aq:Int))) rfl rfl (decide_eq_true ZO) ZE rfl ?_
   refine AD 4 94 true _ (.bool (decide (((eQ z0 aq:Int)) = (0:Int)))) rfl rfl (decide_eq_true ZO) ZE rfl ?_
   refine AE _ (CC _ rfl (decide_eq_true ZO) rfl) rfl ?_
   refine Z2 1 ?_
   rcases Bool.eq_false_or_eq_true (decide (((eQ z0 aq:Int)) = (0:Int))) with hb37 | hb37
   ·
    have hp37 := of_decide_eq_true hb37
    refine Z2 1 ?_
    refine AD 9 99 true _ (.bool (decide ((vQ z0 16 1) = (1:UInt64)))) rfl rfl hb37 (AT rfl rfl fun _ => DS (vQ z0 16 1) (1:UInt64)) rfl ?_
    refine Z2 3 ?_
    refine AY _ rfl (decide_eq_false hk1) ?_
    refine JC_exit (DV (DV (JQ_in_same (BU (.inr (.inl (gb, sp, cp, aa, zz, cc, aq))) ⟨hk12.resolve_left hk1, hy1, hy2, hy3, hy4, hy5, hy6, hy7, hy8, hy9⟩ (Sub.all rfl) rfl))))
   have hp37 := of_decide_eq_false hb37
   refine Z2 5 ?_
   refine AY _ rfl rfl ?_
   refine JC_exit (DV (DV (JQ_in_same (BU (.inr (.inl (gb, sp, cp, aa, zz, cc, aq))) ⟨hk12.resolve_left hk1, hy1, hy2, hy3, hy4, hy5, hy6, hy7, hy8, hy9⟩ (Sub.all rfl) rfl))))
  refine CY (BU (.inl (bl, pp, aa, zz, cc)) ⟨hP.imp id (fun h => bad0U h.1 hb15), hu5, hu6, hu10, hu11, hu12⟩ (Sub.all rfl) rfl)
 rintro (⟨bl, pp, aa, zz, cc⟩ | ⟨gb, sp, cp, aa, zz, cc, pp⟩ | ⟨pp, gs, sp2, cp2, gb, sp, cp, aa, zz, cc⟩ | ⟨ab, zb, cb, a1, n1, c1, a2, n2, c2⟩) hx
 ·
  obtain ⟨hu1, hu5, hu6, hu10, hu11, hu12⟩ := hx
  show JQ _ _ _ [_, _, _, _] [_, _, _, _]
  refine Z2 4 ?_
  have hz10 : (zz).length = zz.length := rfl
  refine AF (A5 126 _ _ (AH _ CV rfl) (fun w1 hw1 => rtakeL_w pp 16 aa zz.length cc z0 zz w1 rfl ZO ZO ZO ((hu6 _ _ hr).at (M' := []) hw1 ZM) hu5)) rfl ?_
  rintro v1 L1 ⟨_, ⟨rfl, ao10, zz10, ca10, hq10, ⟨hA10, hb38, hb39, hb40⟩, (⟨hg5, ax1, cx1, hX1, rfl⟩ | ⟨hg5, ax1, cx1, rfl⟩)⟩, rfl⟩
  ·
   show JL _ _ _ _ ((121, .tuple #[SL ax1 16 cx1, .agg #[SL ao10 zz10.length ca10, I64 0]]) :: _) [_, _, _, _]
   refine Z2 4 ?_
   refine AC (AB 0 nb1 2 _ 107 ([SL ao10 zz10.length ca10, I64 0]) rfl rfl rfl AP rfl ZC (Nat.le_of_ble_eq_true rfl) (AI ZM)) rfl ?_
   show JL _ _ _ _ _ [_, _, _, _]
   refine Z2 5 ?_
   refine AE (Slc nb4 6 16 16) (B4 16 5 1 0 16 6 16 AZ AW rfl rfl rfl ZO ZO ZO ZO ZO 16 ZO) rfl ?_
   refine Z2 1 ?_
   refine AC (CP 43 43 5 3 nb4 6 16 16 (V2 (vQ z0 0 8) (vQ z0 8 8) (((vQ z0 16 1).toNat:Int)) none 0 0 none 0 0 bl (zr8 16)) 38 ax1 16 cx1 16 (cu8 (bQ z0 pp 16)) (V2 (vQ z0 0 8) (vQ z0 8 8) (((vQ z0 16 1).toNat:Int)) none 0 0 none 0 0 bl (bQ z0 pp 16)) AM BZ rfl rfl rfl rfl (by simp [(BG _ _ _)]; try omega) ((hX1 _ _ (hu6 _ _ hr)).src) (by simp [(AN 16)]; try omega) (by first | exact A6 | exact EF | exact EB | (simp [cu8, cu32, cu64, Value.oneCell']; done)) (DB 6 0 rfl rfl (AI ZS))) rfl ?_
   show JL _ _ _ _ ((127, I64 16) :: _) [_, _, _, (Ez nb4 (V2 (vQ z0 0 8) (vQ z0 8 8) (((vQ z0 16 1).toNat:Int)) none 0 0 none 0 0 bl (bQ z0 pp 16)) 38)]
   refine Z2 9 ?_
   refine AD 3 131 true _ _ rfl rfl ZD ZE rfl ?_
   refine B6 3 131 true _ rfl rfl ZD (AJ 45 _ (I64 (((mayN (vQ z0 0 8) (vQ z0 8 8) (((vQ z0 16 1).toNat:Int)) ([] : List UInt64) ([] : List SealR) bl):Int))) (AH _ Tryd.call45 rfl) (fun w1 hw1 => rmay13_c (vQ z0 0 8) (vQ z0 8 8) (((vQ z0 16 1).toNat:Int)) none 0 0 ([] : List UInt64) none 0 0 ([] : List SealR) bl (bQ z0 pp 16) w1 rfl ZO ZO ZO RdV.nil rfl ZO ZO ZO RdV.nil (BG _ _ _))) rfl ?_
   rintro v1 L1 ⟨rfl, rfl⟩
   show JL _ _ _ _ ((133, I64 (((mayN (vQ z0 0 8) (vQ z0 8 8) (((vQ z0 16 1).toNat:Int)) ([] : List UInt64) ([] : List SealR) bl):Int))) :: _) [_, _, _, _]
   refine AD 3 131 true _ (.bool (decide ((((mayN (vQ z0 0 8) (vQ z0 8 8) (((vQ z0 16 1).toNat:Int)) ([] : List UInt64) ([] : List SealR) bl):Int)) ≠ (0:Int)))) rfl rfl ZD ZE rfl ?_
   refine AE _ (CC _ rfl ZD rfl) rfl ?_
   refine A1 (AK (AX (decide ((((mayN (vQ z0 0 8) (vQ z0 8 8) (((vQ z0 16 1).toNat:Int)) ([] : List UInt64) ([] : List SealR) bl):Int)) ≠ (0:Int))) rfl (fun hb41 => ?_) (fun hb41 => ?_)))
   ·
    have hp41 := of_decide_eq_true hb41
    refine Z2 2 ?_
    refine AC (BT 0 nb1 1 1 _ 107 (I64 2) ([I64 2]) ([SL ao10 zz10.length ca10, I64 2]) rfl rfl rfl rfl CZ rfl ZC (Nat.le_of_ble_eq_true rfl) (rfl)) rfl ?_
    show JL _ _ _ _ _ [_, _, _, _]
    refine Z2 10 ?_
    refine A7 _ rfl ZD ?_
    refine A4 (Z8 144 3 [(0, .agg (V4).toArray), (1, .agg #[SL ao10 zz10.length ca10, I64 2])] ?_)
    refine Z6 ⟨[], [0, 1], [], [0, 1], [2]⟩ 2 (AL rfl (AB 1 nb2 22 _ 38 (V4) rfl rfl rfl B8 ZS (AQ ZC A6) ZS (AI ZS))) ?_
    show DP _ _ _ _ _ _ _ _ [_, (Ez nb2 (V4) 38), _, _]
    refine Z6 ⟨[2], [0, 1], [0], [1], [3]⟩ 3 (AL rfl (AB 2 nb3 2 _ 107 ([SL ao10 zz10.length ca10, I64 2]) rfl rfl rfl AP rfl ZC (Nat.le_of_ble_eq_true rfl) (AI ZM))) ?_
    show DP _ _ _ _ _ _ _ _ [_, _, (Ez nb3 [SL ao10 zz10.length ca10, I64 2] 107), _]
    refine Z5 ⟨[2, 3], [0, 1], [0, 1], [], []⟩ ?_
    refine A9 (F' := [(1, Ptr nb1 0), (2, Ptr nb2 0), (3, Ptr nb3 0), (4, Ptr nb4 0)]) ZR ?_
    refine AK (CH (C2 (DR (.tuple #[.agg (V4).toArray, .agg #[SL ao10 zz10.length ca10, I64 2]]) ZP fun w1 hw1 => ?_)))
    have hbq : BadQ z0 := by
     rcases hu1 with ⟨h3, rfl, rfl⟩ | ⟨hb, _⟩
     ·
      exact bad3 h3 (fun e => by have h9 := of_decide_eq_true hb41; have h8 := e.2; omega)
     exact hb
    exact ⟨_, _, rfl, ⟨_, _, _, 0, _, 0, _, _, _, _, ao10, zz10, ca10, _, _, _, none, 0, _, _, _, none, 0, FJ z0 hbq, rfl, rfl, (AN 16), ZO, ZO, (fun h => absurd h ZO), ⟨(by intro w M hr; exact (hA10 _ _ (hu6 _ _ hr))), ZO, ZO, ZO⟩, (by rw [DJ ZO]; rfl), rfl, .inl rfl, ZO, ZX, .inl rfl, ZO, ZX⟩, E2 hw1 1 2 rfl rfl ZD⟩
   have hp41 := of_decide_eq_false hb41
   refine Z2 10 ?_
   refine AY _ rfl ZD ?_
   refine CY (AK (A4 (Z8 144 3 [(0, .agg (V2 (vQ z0 0 8) (vQ z0 8 8) (((vQ z0 16 1).toNat:Int)) none 0 0 none 0 0 bl (bQ z0 pp 16)).toArray), (1, .agg #[SL ao10 zz10.length ca10, I64 0])] ?_)))
   refine Z6 ⟨[], [0, 1], [], [0, 1], [2]⟩ 2 (AL rfl (AB 1 nb2 22 _ 38 (V2 (vQ z0 0 8) (vQ z0 8 8) (((vQ z0 16 1).toNat:Int)) none 0 0 none 0 0 bl (bQ z0 pp 16)) rfl rfl rfl B8 ZS (AQ ZC A6) ZS (AI ZS))) ?_
   show DP _ _ _ _ _ _ _ _ [_, (Ez nb2 (V2 (vQ z0 0 8) (vQ z0 8 8) (((vQ z0 16 1).toNat:Int)) none 0 0 none 0 0 bl (bQ z0 pp 16)) 38), _, _]
   refine Z6 ⟨[2], [0, 1], [0], [1], [3]⟩ 3 (AL rfl (AB 2 nb3 2 _ 107 ([SL ao10 zz10.length ca10, I64 0]) rfl rfl rfl AP rfl ZC (Nat.le_of_ble_eq_true rfl) (AI ZM))) ?_
   show DP _ _ _ _ _ _ _ _ [_, _, (Ez nb3 [SL ao10 zz10.length ca10, I64 0] 107), _]
   refine Z5 ⟨[2, 3], [0, 1], [0, 1], [], []⟩ ?_
   refine A9 (F' := [(2, Ptr nb2 0), (3, Ptr nb3 0)]) ZR ?_
   refine AK (CH (DR (.tuple #[.agg (V2 (vQ z0 0 8) (vQ z0 8 8) (((vQ z0 16 1).toNat:Int)) none 0 0 none 0 0 bl (bQ z0 pp 16)).toArray, .agg #[SL ao10 zz10.length ca10, I64 0]]) ZP fun w1 hw1 => ?_))
   rcases hu1 with ⟨h3, rfl, rfl⟩ | ⟨_, hm⟩
   ·
    exact ⟨_, _, rfl, ⟨_, _, _, 0, _, 0, _, _, _, _, ao10, zz10, ca10, _, _, _, none, 0, _, _, _, none, 0, .inl ⟨⟨h3, ZO, (by have h9 := of_decide_eq_false hb41; omega)⟩, rfl, rfl, rfl, rfl, rfl, rfl, rfl, rfl⟩, rfl, rfl, (BG _ _ _), ZO, ZO, (fun h8 => (hq10 ZO).trans (by congr 1 <;> omega)), ⟨(by intro w M hr; exact (hA10 _ _ (hu6 _ _ hr))), ZO, ZO, ZO⟩, (by rw [E5 ZO]; rfl), rfl, .inl rfl, ZO, ZX, .inl rfl, ZO, ZX⟩, E2 hw1 1 2 rfl rfl ZD⟩
   exact absurd (by have h9 := of_decide_eq_false hb41; omega) hm
  show JL _ _ _ _ ((121, .tuple #[SL ax1 0 cx1, .agg #[SL ao10 zz10.length ca10, I64 2]]) :: _) [_, _, _, _]
  refine Z2 4 ?_
  refine AC (AB 0 nb1 2 _ 107 ([SL ao10 zz10.length ca10, I64 2]) rfl rfl rfl AP rfl ZC (Nat.le_of_ble_eq_true rfl) (AI ZM)) rfl ?_
  show JL _ _ _ _ _ [_, _, _, _]
  refine Z2 5 ?_
  refine AE (Slc nb4 6 16 16) (B4 16 5 1 0 16 6 16 AZ AW rfl rfl rfl ZO ZO ZO ZO ZO 16 ZO) rfl ?_
  refine Z2 1 ?_
  refine AC (CP 43 43 5 3 nb4 6 16 16 (V2 (vQ z0 0 8) (vQ z0 8 8) (((vQ z0 16 1).toNat:Int)) none 0 0 none 0 0 bl (zr8 16)) 38 ax1 0 cx1 0 [] (V2 (vQ z0 0 8) (vQ z0 8 8) (((vQ z0 16 1).toNat:Int)) none 0 0 none 0 0 bl (zr8 16)) AM BZ rfl rfl rfl rfl rfl SrcAt.nil ZS ES (ET _ _)) rfl ?_
  show JL _ _ _ _ ((127, I64 0) :: _) [_, _, _, _]
  refine Z2 9 ?_
  refine D4 3 3 131 true _ rfl rfl ZD rfl (AE _ (BO _ rfl ZD rfl) rfl ?_)
  refine A1 (AK (AY _ rfl rfl ?_))
  refine Z2 10 ?_
  refine A7 _ rfl ZD ?_
  refine A4 (Z8 144 3 [(0, .agg (V4).toArray), (1, .agg #[SL ao10 zz10.length ca10, I64 2])] ?_)
  refine Z6 ⟨[], [0, 1], [], [0, 1], [2]⟩ 2 (AL rfl (AB 1 nb2 22 _ 38 (V4) rfl rfl rfl B8 ZS (AQ ZC A6) ZS (AI ZS))) ?_
  show DP _ _ _ _ _ _ _ _ [_, (Ez nb2 (V4) 38), _, _]
  refine Z6 ⟨[2], [0, 1], [0], [1], [3]⟩ 3 (AL rfl (AB 2 nb3 2 _ 107 ([SL ao10 zz10.length ca10, I64 2]) rfl rfl rfl AP rfl ZC (Nat.le_of_ble_eq_true rfl) (AI ZM))) ?_
  show DP _ _ _ _ _ _ _ _ [_, _, (Ez nb3 [SL ao10 zz10.length ca10, I64 2] 107), _]
  refine Z5 ⟨[2, 3], [0, 1], [0, 1], [], []⟩ ?_
  refine A9 (F' := [(1, Ptr nb1 0), (2, Ptr nb2 0), (3, Ptr nb3 0), (4, Ptr nb4 0)]) ZR ?_
  refine AK (CH (C2 (DR (.tuple #[.agg (V4).toArray, .agg #[SL ao10 zz10.length ca10, I64 2]]) ZP fun w1 hw1 => ?_)))
  have hbq : BadQ z0 := by
   rcases hu1 with ⟨h3, rfl, rfl⟩ | ⟨hb, _⟩
   ·
    exact bad3 h3 (fun e => by have := e.1; omega)
   exact hb
  exact ⟨_, _, rfl, ⟨_, _, _, 0, _, 0, _, _, _, _, ao10, zz10, ca10, _, _, _, none, 0, _, _, _, none, 0, FJ z0 hbq, rfl, rfl, (AN 16), ZO, ZO, (fun h => absurd h ZO), ⟨(by intro w M hr; exact (hA10 _ _ (hu6 _ _ hr))), ZO, ZO, ZO⟩, (by rw [DJ ZO]; rfl), rfl, .inl rfl, ZO, ZX, .inl rfl, ZO, ZX⟩, E2 hw1 1 2 rfl rfl ZD⟩
 ·
  obtain ⟨hk, hpp, hu2, hu3, hu4, hu5, hu6, hu10, hu11, hu12⟩ := hx
  show JQ _ _ _ [_, _, _, _] [_, _, _, _, _]
  refine Z2 4 ?_
  have hz11 : (zz).length = zz.length := rfl
  refine AF (A5 126 _ _ (AH _ CV rfl) (fun w1 hw1 => rtakeL_w pp 16 aa zz.length cc z0 zz w1 rfl ZO ZO ZO ((hu6 _ _ hr).at (M' := []) hw1 ZM) hu5)) rfl ?_
  rintro v1 L1 ⟨_, ⟨rfl, ao11, zz11, ca11, hq11, ⟨hA11, hb42, hb43, hb44⟩, (⟨hg6, ax2, cx2, hX2, rfl⟩ | ⟨hg6, ax2, cx2, rfl⟩)⟩, rfl⟩
  ·
   show JL _ _ _ _ ((121, .tuple #[SL ax2 16 cx2, .agg #[SL ao11 zz11.length ca11, I64 0]]) :: _) [_, _, _, _, _]
   refine Z2 4 ?_
   refine AC (AB 0 nb1 2 _ 107 ([SL ao11 zz11.length ca11, I64 0]) rfl rfl rfl AP rfl ZC (Nat.le_of_ble_eq_true rfl) (AI ZM)) rfl ?_
   show JL _ _ _ _ _ [_, _, _, _, _]
   refine Z2 5 ?_
   refine AE (Slc nb4 6 16 16) (B4 16 5 1 0 16 6 16 AZ AW rfl rfl rfl ZO ZO ZO ZO ZO 16 ZO) rfl ?_
   refine Z2 1 ?_
   refine AC (CP 43 43 5 3 nb4 6 16 16 ([U64 (vQ z0 0 8), U64 (vQ z0 8 8), I64 (((vQ z0 16 1).toNat:Int)), Slc gb 0 m cp, SL none 0 0, U64 0] ++ cu8 (zr8 16)) 38 ax2 16 cx2 16 (cu8 (bQ z0 pp 16)) ([U64 (vQ z0 0 8), U64 (vQ z0 8 8), I64 (((vQ z0 16 1).toNat:Int)), Slc gb 0 m cp, SL none 0 0, U64 0] ++ cu8 (bQ z0 pp 16)) AM BZ rfl rfl rfl rfl (by simp [(BG _ _ _)]; try omega) ((hX2 _ _ (hu6 _ _ hr)).src) (by simp [(AN 16)]; try omega) (by first | exact A6 | exact EF | exact EB | (simp [cu8, cu32, cu64, Value.oneCell']; done)) (DB 6 0 rfl rfl (AI ZS))) rfl ?_
   show JL _ _ _ _ ((127, I64 16) :: _) [_, _, _, (Ez nb4 ([U64 (vQ z0 0 8), U64 (vQ z0 8 8), I64 (((vQ z0 16 1).toNat:Int)), Slc gb 0 m cp, SL none 0 0, U64 0] ++ cu8 (bQ z0 pp 16)) 38), _]
   refine Z2 9 ?_
   refine AD 3 131 true _ _ rfl rfl ZD ZE rfl ?_
   refine B6 3 131 true _ rfl rfl ZD (AJ 45 _ (I64 (((mayN (vQ z0 0 8) (vQ z0 8 8) (((vQ z0 16 1).toNat:Int)) (ixQ z0 18 m) ([] : List SealR) (0:UInt64)):Int))) (AH _ Tryd.call45 rfl) (fun w1 hw1 => rmay13_c (vQ z0 0 8) (vQ z0 8 8) (((vQ z0 16 1).toNat:Int)) (some ⟨gb, 0, none⟩) m cp (ixQ z0 18 m) none 0 0 ([] : List SealR) (0:UInt64) (bQ z0 pp 16) w1 (E7 _ _ _) ZO ZO ZO (RdV.of hw1 (A0 4 rfl (AU (AG _)))) rfl ZO ZO ZO RdV.nil (BG _ _ _))) rfl ?_
   rintro v1 L1 ⟨rfl, rfl⟩
   show JL _ _ _ _ ((133, I64 (((mayN (vQ z0 0 8) (vQ z0 8 8) (((vQ z0 16 1).toNat:Int)) (ixQ z0 18 m) ([] : List SealR) (0:UInt64)):Int))) :: _) [_, _, _, _, _]
   refine AD 3 131 true _ (.bool (decide ((((mayN (vQ z0 0 8) (vQ z0 8 8) (((vQ z0 16 1).toNat:Int)) (ixQ z0 18 m) ([] : List SealR) (0:UInt64)):Int)) ≠ (0:Int)))) rfl rfl ZD ZE rfl ?_
   refine AE _ (CC _ rfl ZD rfl) rfl ?_
   refine A1 (AK (AX (decide ((((mayN (vQ z0 0 8) (vQ z0 8 8) (((vQ z0 16 1).toNat:Int)) (ixQ z0 18 m) ([] : List SealR) (0:UInt64)):Int)) ≠ (0:Int))) rfl (fun hb45 => ?_) (fun hb45 => ?_)))
   ·
    have hp45 := of_decide_eq_true hb45
    refine Z2 2 ?_
    refine AC (BT 0 nb1 1 1 _ 107 (I64 2) ([I64 2]) ([SL ao11 zz11.length ca11, I64 2]) rfl rfl rfl rfl CZ rfl ZC (Nat.le_of_ble_eq_true rfl) (rfl)) rfl ?_
    show JL _ _ _ _ _ [_, _, _, _, _]
    refine Z2 10 ?_
    refine A7 _ rfl ZD ?_
    refine A4 (Z8 144 3 [(0, .agg (V4).toArray), (1, .agg #[SL ao11 zz11.length ca11, I64 2])] ?_)
    refine Z6 ⟨[], [0, 1], [], [0, 1], [2]⟩ 2 (AL rfl (AB 1 nb2 22 _ 38 (V4) rfl rfl rfl B8 ZS (AQ ZC A6) ZS (AI ZS))) ?_
    show DP _ _ _ _ _ _ _ _ [_, (Ez nb2 (V4) 38), _, _, _]
    refine Z6 ⟨[2], [0, 1], [0], [1], [3]⟩ 3 (AL rfl (AB 2 nb3 2 _ 107 ([SL ao11 zz11.length ca11, I64 2]) rfl rfl rfl AP rfl ZC (Nat.le_of_ble_eq_true rfl) (AI ZM))) ?_
    show DP _ _ _ _ _ _ _ _ [_, _, (Ez nb3 [SL ao11 zz11.length ca11, I64 2] 107), _, _]
    refine Z5 ⟨[2, 3], [0, 1], [0, 1], [], []⟩ ?_
    refine A9 (F' := [(1, Ptr nb1 0), (2, Ptr nb2 0), (3, Ptr nb3 0), (4, Ptr nb4 0)]) ZR ?_
    refine AK (CH (C2 (DR (.tuple #[.agg (V4).toArray, .agg #[SL ao11 zz11.length ca11, I64 2]]) ZP fun w1 hw1 => ?_)))
    have hbq : BadQ z0 := by
     subst hm
     exact bad2 hk (fun e => by have h9 := of_decide_eq_true hb45; have h8 := e.2; omega)
    exact ⟨_, _, rfl, ⟨_, _, _, 0, _, 0, _, _, _, _, ao11, zz11, ca11, _, _, _, none, 0, _, _, _, none, 0, FJ z0 hbq, rfl, rfl, (AN 16), ZO, ZO, (fun h => absurd h ZO), ⟨(by intro w M hr; exact (hA11 _ _ (hu6 _ _ hr))), ZO, ZO, ZO⟩, (by rw [DJ ZO]; rfl), rfl, .inl rfl, ZO, ZX, .inl rfl, ZO, ZX⟩, E2 hw1 1 2 rfl rfl ZD⟩
   have hp45 := of_decide_eq_false hb45
   refine Z2 10 ?_
   refine AY _ rfl ZD ?_
   refine CY (AK (A4 (Z8 144 3 [(0, .agg ([U64 (vQ z0 0 8), U64 (vQ z0 8 8), I64 (((vQ z0 16 1).toNat:Int)), Slc gb 0 m cp, SL none 0 0, U64 0] ++ cu8 (bQ z0 pp 16)).toArray), (1, .agg #[SL ao11 zz11.length ca11, I64 0])] ?_)))
   refine Z6 ⟨[], [0, 1], [], [0, 1], [2]⟩ 2 (AL rfl (AB 1 nb2 22 _ 38 ([U64 (vQ z0 0 8), U64 (vQ z0 8 8), I64 (((vQ z0 16 1).toNat:Int)), Slc gb 0 m cp, SL none 0 0, U64 0] ++ cu8 (bQ z0 pp 16)) rfl rfl rfl B8 ZS (AQ ZC A6) ZS (AI ZS))) ?_
   show DP _ _ _ _ _ _ _ _ [_, (Ez nb2 ([U64 (vQ z0 0 8), U64 (vQ z0 8 8), I64 (((vQ z0 16 1).toNat:Int)), Slc gb 0 m cp, SL none 0 0, U64 0] ++ cu8 (bQ z0 pp 16)) 38), _, _, _]
   refine Z6 ⟨[2], [0, 1], [0], [1], [3]⟩ 3 (AL rfl (AB 2 nb3 2 _ 107 ([SL ao11 zz11.length ca11, I64 0]) rfl rfl rfl AP rfl ZC (Nat.le_of_ble_eq_true rfl) (AI ZM))) ?_
   show DP _ _ _ _ _ _ _ _ [_, _, (Ez nb3 [SL ao11 zz11.length ca11, I64 0] 107), _, _]
   refine Z5 ⟨[2, 3], [0, 1], [0, 1], [], []⟩ ?_
   refine A9 (F' := [(2, Ptr nb2 0), (3, Ptr nb3 0)]) ZR ?_
   refine AK (CH (DR (.tuple #[.agg ([U64 (vQ z0 0 8), U64 (vQ z0 8 8), I64 (((vQ z0 16 1).toNat:Int)), Slc gb 0 m cp, SL none 0 0, U64 0] ++ cu8 (bQ z0 pp 16)).toArray, .agg #[SL ao11 zz11.length ca11, I64 0]]) ZP fun w1 hw1 => ?_))
   subst hm
   subst hpp
   exact ⟨_, _, rfl, ⟨_, _, _, (mQ z0), _, 0, _, _, _, _, ao11, zz11, ca11, _, _, _, (some ⟨gb, 0, none⟩), cp, _, _, _, none, 0, .inr (.inl ⟨⟨hk, ZO, (by have h9 := of_decide_eq_false hb45; omega)⟩, rfl, rfl, rfl, rfl, rfl, rfl, rfl, rfl⟩), E7 _ _ _, rfl, (BG _ _ _), ZO, ZO, (fun h8 => (hq11 ZO).trans (by congr 1 <;> omega)), ⟨(by intro w M hr; exact (hA11 _ _ (hu6 _ _ hr))), ZO, ZO, ZO⟩, (by rw [E5 ZO]; rfl), rfl, .inr ⟨rfl, _, rfl⟩, hu3, hu4, .inl rfl, ZO, ZX⟩, E2 hw1 4 1 rfl rfl ZD⟩
  show JL _ _ _ _ ((121, .tuple #[SL ax2 0 cx2, .agg #[SL ao11 zz11.length ca11, I64 2]]) :: _) [_, _, _, _, _]
  refine Z2 4 ?_
  refine AC (AB 0 nb1 2 _ 107 ([SL ao11 zz11.length ca11, I64 2]) rfl rfl rfl AP rfl ZC (Nat.le_of_ble_eq_true rfl) (AI ZM)) rfl ?_
  show JL _ _ _ _ _ [_, _, _, _, _]
  refine Z2 5 ?_
  refine AE (Slc nb4 6 16 16) (B4 16 5 1 0 16 6 16 AZ AW rfl rfl rfl ZO ZO ZO ZO ZO 16 ZO) rfl ?_
  refine Z2 1 ?_
  refine AC (CP 43 43 5 3 nb4 6 16 16 ([U64 (vQ z0 0 8), U64 (vQ z0 8 8), I64 (((vQ z0 16 1).toNat:Int)), Slc gb 0 m cp, SL none 0 0, U64 0] ++ cu8 (zr8 16)) 38 ax2 0 cx2 0 [] ([U64 (vQ z0 0 8), U64 (vQ z0 8 8), I64 (((vQ z0 16 1).toNat:Int)), Slc gb 0 m cp, SL none 0 0, U64 0] ++ cu8 (zr8 16)) AM BZ rfl rfl rfl rfl rfl SrcAt.nil ZS ES (ET _ _)) rfl ?_
  show JL _ _ _ _ ((127, I64 0) :: _) [_, _, _, _, _]
  refine Z2 9 ?_
  refine D4 3 3 131 true _ rfl rfl ZD rfl (AE _ (BO _ rfl ZD rfl) rfl ?_)
  refine A1 (AK (AY _ rfl rfl ?_))
  refine Z2 10 ?_
  refine A7 _ rfl ZD ?_
  refine A4 (Z8 144 3 [(0, .agg (V4).toArray), (1, .agg #[SL ao11 zz11.length ca11, I64 2])] ?_)
  refine Z6 ⟨[], [0, 1], [], [0, 1], [2]⟩ 2 (AL rfl (AB 1 nb2 22 _ 38 (V4) rfl rfl rfl B8 ZS (AQ ZC A6) ZS (AI ZS))) ?_
  show DP _ _ _ _ _ _ _ _ [_, (Ez nb2 (V4) 38), _, _, _]
  refine Z6 ⟨[2], [0, 1], [0], [1], [3]⟩ 3 (AL rfl (AB 2 nb3 2 _ 107 ([SL ao11 zz11.length ca11, I64 2]) rfl rfl rfl AP rfl ZC (Nat.le_of_ble_eq_true rfl) (AI ZM))) ?_
  show DP _ _ _ _ _ _ _ _ [_, _, (Ez nb3 [SL ao11 zz11.length ca11, I64 2] 107), _, _]
  refine Z5 ⟨[2, 3], [0, 1], [0, 1], [], []⟩ ?_
  refine A9 (F' := [(1, Ptr nb1 0), (2, Ptr nb2 0), (3, Ptr nb3 0), (4, Ptr nb4 0)]) ZR ?_
  refine AK (CH (C2 (DR (.tuple #[.agg (V4).toArray, .agg #[SL ao11 zz11.length ca11, I64 2]]) ZP fun w1 hw1 => ?_)))
  have hbq : BadQ z0 := by
   subst hm
   exact bad2 hk (fun e => by have := e.1; omega)
  exact ⟨_, _, rfl, ⟨_, _, _, 0, _, 0, _, _, _, _, ao11, zz11, ca11, _, _, _, none, 0, _, _, _, none, 0, FJ z0 hbq, rfl, rfl, (AN 16), ZO, ZO, (fun h => absurd h ZO), ⟨(by intro w M hr; exact (hA11 _ _ (hu6 _ _ hr))), ZO, ZO, ZO⟩, (by rw [DJ ZO]; rfl), rfl, .inl rfl, ZO, ZX, .inl rfl, ZO, ZX⟩, E2 hw1 1 2 rfl rfl ZD⟩
 ·
  obtain ⟨hk, hpp, hu7, hu8, hu9, hu2, hu3, hu4, hu5, hu6, hu10, hu11, hu12⟩ := hx
  show JQ _ _ _ [_, _, _, _] [_, _, _, _, _, _]
  refine Z2 4 ?_
  have hz12 : (zz).length = zz.length := rfl
  refine AF (A5 126 _ _ (AH _ CV rfl) (fun w1 hw1 => rtakeL_w pp 16 aa zz.length cc z0 zz w1 rfl ZO ZO ZO ((hu6 _ _ hr).at (M' := []) hw1 ZM) hu5)) rfl ?_
  rintro v1 L1 ⟨_, ⟨rfl, ao12, zz12, ca12, hq12, ⟨hA12, hb46, hb47, hb48⟩, (⟨hg7, ax3, cx3, hX3, rfl⟩ | ⟨hg7, ax3, cx3, rfl⟩)⟩, rfl⟩
  ·
   show JL _ _ _ _ ((121, .tuple #[SL ax3 16 cx3, .agg #[SL ao12 zz12.length ca12, I64 0]]) :: _) [_, _, _, _, _, _]
   refine Z2 4 ?_
   refine AC (AB 0 nb1 2 _ 107 ([SL ao12 zz12.length ca12, I64 0]) rfl rfl rfl AP rfl ZC (Nat.le_of_ble_eq_true rfl) (AI ZM)) rfl ?_
   show JL _ _ _ _ _ [_, _, _, _, _, _]
   refine Z2 5 ?_
   refine AE (Slc nb4 6 16 16) (B4 16 5 1 0 16 6 16 AZ AW rfl rfl rfl ZO ZO ZO ZO ZO 16 ZO) rfl ?_
   refine Z2 1 ?_
   refine AC (CP 43 43 5 3 nb4 6 16 16 ([U64 (vQ z0 0 8), U64 (vQ z0 8 8), I64 (((vQ z0 16 1).toNat:Int)), Slc gb 0 m cp, Slc gs 0 m cp2, U64 0] ++ cu8 (zr8 16)) 38 ax3 16 cx3 16 (cu8 (bQ z0 pp 16)) ([U64 (vQ z0 0 8), U64 (vQ z0 8 8), I64 (((vQ z0 16 1).toNat:Int)), Slc gb 0 m cp, Slc gs 0 m cp2, U64 0] ++ cu8 (bQ z0 pp 16)) AM BZ rfl rfl rfl rfl (by simp [(BG _ _ _)]; try omega) ((hX3 _ _ (hu6 _ _ hr)).src) (by simp [(AN 16)]; try omega) (by first | exact A6 | exact EF | exact EB | (simp [cu8, cu32, cu64, Value.oneCell']; done)) (DB 6 0 rfl rfl (AI ZS))) rfl ?_
   show JL _ _ _ _ ((127, I64 16) :: _) [_, _, _, (Ez nb4 ([U64 (vQ z0 0 8), U64 (vQ z0 8 8), I64 (((vQ z0 16 1).toNat:Int)), Slc gb 0 m cp, Slc gs 0 m cp2, U64 0] ++ cu8 (bQ z0 pp 16)) 38), _, _]
   refine Z2 9 ?_
   refine AD 3 131 true _ _ rfl rfl ZD ZE rfl ?_
   refine B6 3 131 true _ rfl rfl ZD (AJ 45 _ (I64 (((mayN (vQ z0 0 8) (vQ z0 8 8) (((vQ z0 16 1).toNat:Int)) (ixQ z0 18 m) (seQ z0 (4*m + 18) m) (0:UInt64)):Int))) (AH _ Tryd.call45 rfl) (fun w1 hw1 => rmay13_c (vQ z0 0 8) (vQ z0 8 8) (((vQ z0 16 1).toNat:Int)) (some ⟨gb, 0, none⟩) m cp (ixQ z0 18 m) (some ⟨gs, 0, none⟩) m cp2 (seQ z0 (4*m + 18) m) (0:UInt64) (bQ z0 pp 16) w1 (E7 _ _ _) ZO ZO ZO (RdV.of hw1 (A0 4 rfl (AU (AG _)))) (seQ_len _ _ _) ZO ZO ZO (RdV.of hw1 (A0 5 rfl (AU (AG _)))) (BG _ _ _))) rfl ?_
   rintro v1 L1 ⟨rfl, rfl⟩
   show JL _ _ _ _ ((133, I64 (((mayN (vQ z0 0 8) (vQ z0 8 8) (((vQ z0 16 1).toNat:Int)) (ixQ z0 18 m) (seQ z0 (4*m + 18) m) (0:UInt64)):Int))) :: _) [_, _, _, _, _, _]
   refine AD 3 131 true _ (.bool (decide ((((mayN (vQ z0 0 8) (vQ z0 8 8) (((vQ z0 16 1).toNat:Int)) (ixQ z0 18 m) (seQ z0 (4*m + 18) m) (0:UInt64)):Int)) ≠ (0:Int)))) rfl rfl ZD ZE rfl ?_
   refine AE _ (CC _ rfl ZD rfl) rfl ?_
   refine A1 (AK (AX (decide ((((mayN (vQ z0 0 8) (vQ z0 8 8) (((vQ z0 16 1).toNat:Int)) (ixQ z0 18 m) (seQ z0 (4*m + 18) m) (0:UInt64)):Int)) ≠ (0:Int))) rfl (fun hb49 => ?_) (fun hb49 => ?_)))
   ·
    have hp49 := of_decide_eq_true hb49
    refine Z2 2 ?_
    refine AC (BT 0 nb1 1 1 _ 107 (I64 2) ([I64 2]) ([SL ao12 zz12.length ca12, I64 2]) rfl rfl rfl rfl CZ rfl ZC (Nat.le_of_ble_eq_true rfl) (rfl)) rfl ?_
    show JL _ _ _ _ _ [_, _, _, _, _, _]
    refine Z2 10 ?_
    refine A7 _ rfl ZD ?_
    refine A4 (Z8 144 3 [(0, .agg (V4).toArray), (1, .agg #[SL ao12 zz12.length ca12, I64 2])] ?_)
    refine Z6 ⟨[], [0, 1], [], [0, 1], [2]⟩ 2 (AL rfl (AB 1 nb2 22 _ 38 (V4) rfl rfl rfl B8 ZS (AQ ZC A6) ZS (AI ZS))) ?_
    show DP _ _ _ _ _ _ _ _ [_, (Ez nb2 (V4) 38), _, _, _, _]
    refine Z6 ⟨[2], [0, 1], [0], [1], [3]⟩ 3 (AL rfl (AB 2 nb3 2 _ 107 ([SL ao12 zz12.length ca12, I64 2]) rfl rfl rfl AP rfl ZC (Nat.le_of_ble_eq_true rfl) (AI ZM))) ?_
    show DP _ _ _ _ _ _ _ _ [_, _, (Ez nb3 [SL ao12 zz12.length ca12, I64 2] 107), _, _, _]
    refine Z5 ⟨[2, 3], [0, 1], [0, 1], [], []⟩ ?_
    refine A9 (F' := [(1, Ptr nb1 0), (2, Ptr nb2 0), (3, Ptr nb3 0), (4, Ptr nb4 0)]) ZR ?_
    refine AK (CH (C2 (DR (.tuple #[.agg (V4).toArray, .agg #[SL ao12 zz12.length ca12, I64 2]]) ZP fun w1 hw1 => ?_)))
    have hbq : BadQ z0 := by
     subst hm
     exact bad1 hk (fun e => by have h9 := of_decide_eq_true hb49; have h8 := e.2; omega)
    exact ⟨_, _, rfl, ⟨_, _, _, 0, _, 0, _, _, _, _, ao12, zz12, ca12, _, _, _, none, 0, _, _, _, none, 0, FJ z0 hbq, rfl, rfl, (AN 16), ZO, ZO, (fun h => absurd h ZO), ⟨(by intro w M hr; exact (hA12 _ _ (hu6 _ _ hr))), ZO, ZO, ZO⟩, (by rw [DJ ZO]; rfl), rfl, .inl rfl, ZO, ZX, .inl rfl, ZO, ZX⟩, E2 hw1 1 2 rfl rfl ZD⟩
   have hp49 := of_decide_eq_false hb49
   refine Z2 10 ?_
   refine AY _ rfl ZD ?_
   refine CY (AK (A4 (Z8 144 3 [(0, .agg ([U64 (vQ z0 0 8), U64 (vQ z0 8 8), I64 (((vQ z0 16 1).toNat:Int)), Slc gb 0 m cp, Slc gs 0 m cp2, U64 0] ++ cu8 (bQ z0 pp 16)).toArray), (1, .agg #[SL ao12 zz12.length ca12, I64 0])] ?_)))
   refine Z6 ⟨[], [0, 1], [], [0, 1], [2]⟩ 2 (AL rfl (AB 1 nb2 22 _ 38 ([U64 (vQ z0 0 8), U64 (vQ z0 8 8), I64 (((vQ z0 16 1).toNat:Int)), Slc gb 0 m cp, Slc gs 0 m cp2, U64 0] ++ cu8 (bQ z0 pp 16)) rfl rfl rfl B8 ZS (AQ ZC A6) ZS (AI ZS))) ?_
   show DP _ _ _ _ _ _ _ _ [_, (Ez nb2 ([U64 (vQ z0 0 8), U64 (vQ z0 8 8), I64 (((vQ z0 16 1).toNat:Int)), Slc gb 0 m cp, Slc gs 0 m cp2, U64 0] ++ cu8 (bQ z0 pp 16)) 38), _, _, _, _]
   refine Z6 ⟨[2], [0, 1], [0], [1], [3]⟩ 3 (AL rfl (AB 2 nb3 2 _ 107 ([SL ao12 zz12.length ca12, I64 0]) rfl rfl rfl AP rfl ZC (Nat.le_of_ble_eq_true rfl) (AI ZM))) ?_
   show DP _ _ _ _ _ _ _ _ [_, _, (Ez nb3 [SL ao12 zz12.length ca12, I64 0] 107), _, _, _]
   refine Z5 ⟨[2, 3], [0, 1], [0, 1], [], []⟩ ?_
   refine A9 (F' := [(2, Ptr nb2 0), (3, Ptr nb3 0)]) ZR ?_
   refine AK (CH (DR (.tuple #[.agg ([U64 (vQ z0 0 8), U64 (vQ z0 8 8), I64 (((vQ z0 16 1).toNat:Int)), Slc gb 0 m cp, Slc gs 0 m cp2, U64 0] ++ cu8 (bQ z0 pp 16)).toArray, .agg #[SL ao12 zz12.length ca12, I64 0]]) ZP fun w1 hw1 => ?_))
   subst hm
   subst hpp
   exact ⟨_, _, rfl, ⟨_, _, _, (mQ z0), _, (mQ z0), _, _, _, _, ao12, zz12, ca12, _, _, _, (some ⟨gb, 0, none⟩), cp, _, _, _, (some ⟨gs, 0, none⟩), cp2, .inr (.inr (.inl ⟨⟨hk, ZO, (by have h9 := of_decide_eq_false hb49; omega)⟩, rfl, rfl, rfl, rfl, rfl, rfl, rfl, rfl⟩)), E7 _ _ _, seQ_len _ _ _, (BG _ _ _), ZO, ZO, (fun h8 => (hq12 ZO).trans (by congr 1 <;> omega)), ⟨(by intro w M hr; exact (hA12 _ _ (hu6 _ _ hr))), ZO, ZO, ZO⟩, (by rw [E5 ZO]; rfl), rfl, .inr ⟨rfl, _, rfl⟩, hu3, hu4, .inr ⟨rfl, _, rfl⟩, hu8, hu9⟩, E2 hw1 4 5 rfl rfl ZD⟩
  show JL _ _ _ _ ((121, .tuple #[SL ax3 0 cx3, .agg #[SL ao12 zz12.length ca12, I64 2]]) :: _) [_, _, _, _, _, _]
  refine Z2 4 ?_
  refine AC (AB 0 nb1 2 _ 107 ([SL ao12 zz12.length ca12, I64 2]) rfl rfl rfl AP rfl ZC (Nat.le_of_ble_eq_true rfl) (AI ZM)) rfl ?_
  show JL _ _ _ _ _ [_, _, _, _, _, _]
  refine Z2 5 ?_
  refine AE (Slc nb4 6 16 16) (B4 16 5 1 0 16 6 16 AZ AW rfl rfl rfl ZO ZO ZO ZO ZO 16 ZO) rfl ?_
  refine Z2 1 ?_
  refine AC (CP 43 43 5 3 nb4 6 16 16 ([U64 (vQ z0 0 8), U64 (vQ z0 8 8), I64 (((vQ z0 16 1).toNat:Int)), Slc gb 0 m cp, Slc gs 0 m cp2, U64 0] ++ cu8 (zr8 16)) 38 ax3 0 cx3 0 [] ([U64 (vQ z0 0 8), U64 (vQ z0 8 8), I64 (((vQ z0 16 1).toNat:Int)), Slc gb 0 m cp, Slc gs 0 m cp2, U64 0] ++ cu8 (zr8 16)) AM BZ rfl rfl rfl rfl rfl SrcAt.nil ZS ES (ET _ _)) rfl ?_
  show JL _ _ _ _ ((127, I64 0) :: _) [_, _, _, _, _, _]
  refine Z2 9 ?_
  refine D4 3 3 131 true _ rfl rfl ZD rfl (AE _ (BO _ rfl ZD rfl) rfl ?_)
  refine A1 (AK (AY _ rfl rfl ?_))
  refine Z2 10 ?_
  refine A7 _ rfl ZD ?_
  refine A4 (Z8 144 3 [(0, .agg (V4).toArray), (1, .agg #[SL ao12 zz12.length ca12, I64 2])] ?_)
  refine Z6 ⟨[], [0, 1], [], [0, 1], [2]⟩ 2 (AL rfl (AB 1 nb2 22 _ 38 (V4) rfl rfl rfl B8 ZS (AQ ZC A6) ZS (AI ZS))) ?_
  show DP _ _ _ _ _ _ _ _ [_, (Ez nb2 (V4) 38), _, _, _, _]
  refine Z6 ⟨[2], [0, 1], [0], [1], [3]⟩ 3 (AL rfl (AB 2 nb3 2 _ 107 ([SL ao12 zz12.length ca12, I64 2]) rfl rfl rfl AP rfl ZC (Nat.le_of_ble_eq_true rfl) (AI ZM))) ?_
  show DP _ _ _ _ _ _ _ _ [_, _, (Ez nb3 [SL ao12 zz12.length ca12, I64 2] 107), _, _, _]
  refine Z5 ⟨[2, 3], [0, 1], [0, 1], [], []⟩ ?_
  refine A9 (F' := [(1, Ptr nb1 0), (2, Ptr nb2 0), (3, Ptr nb3 0), (4, Ptr nb4 0)]) ZR ?_
  refine AK (CH (C2 (DR (.tuple #[.agg (V4).toArray, .agg #[SL ao12 zz12.length ca12, I64 2]]) ZP fun w1 hw1 => ?_)))
  have hbq : BadQ z0 := by
   subst hm
   exact bad1 hk (fun e => by have := e.1; omega)
  exact ⟨_, _, rfl, ⟨_, _, _, 0, _, 0, _, _, _, _, ao12, zz12, ca12, _, _, _, none, 0, _, _, _, none, 0, FJ z0 hbq, rfl, rfl, (AN 16), ZO, ZO, (fun h => absurd h ZO), ⟨(by intro w M hr; exact (hA12 _ _ (hu6 _ _ hr))), ZO, ZO, ZO⟩, (by rw [DJ ZO]; rfl), rfl, .inl rfl, ZO, ZX, .inl rfl, ZO, ZX⟩, E2 hw1 1 2 rfl rfl ZD⟩
 obtain ⟨hbad, hA, hb7, hb8, hb9⟩ := hx
 show JQ _ _ _ [_, _, _, _] [_, _, _, _]
 refine Z2 4 ?_
 refine AF (A5 126 _ _ (AH _ CV rfl) (fun w1 hw1 => rtakeB_w 16 ab zb.length cb zb w1 rfl ZO ZO ZO ((hA _ _ hr).at (M' := []) hw1 ZM))) rfl ?_
 rintro v1 L1 ⟨_, ⟨rfl, ax4, cx4, ao13, zz13, ca13, ⟨hA13, hb50, hb51, hb52⟩, rfl⟩, rfl⟩
 show JL _ _ _ _ ((121, .tuple #[SL ax4 0 cx4, .agg #[SL ao13 zz13.length ca13, I64 2]]) :: _) [_, _, _, _]
 refine Z2 4 ?_
 refine AC (AB 0 nb1 2 _ 107 ([SL ao13 zz13.length ca13, I64 2]) rfl rfl rfl AP rfl ZC (Nat.le_of_ble_eq_true rfl) (AI ZM)) rfl ?_
 show JL _ _ _ _ _ [_, _, _, _]
 refine Z2 5 ?_
 refine AE (Slc nb4 6 16 16) (B4 16 5 1 0 16 6 16 AZ AW rfl rfl rfl ZO ZO ZO ZO ZO 16 ZO) rfl ?_
 refine Z2 1 ?_
 refine AC (CP 43 43 5 3 nb4 6 16 16 (V2 (vQ z0 0 8) (vQ z0 8 8) (((vQ z0 16 1).toNat:Int)) a1 n1 c1 a2 n2 c2 0 (zr8 16)) 38 ax4 0 cx4 0 [] (V2 (vQ z0 0 8) (vQ z0 8 8) (((vQ z0 16 1).toNat:Int)) a1 n1 c1 a2 n2 c2 0 (zr8 16)) AM BZ rfl rfl rfl rfl rfl SrcAt.nil ZS ES (ET _ _)) rfl ?_
 show JL _ _ _ _ ((127, I64 0) :: _) [_, _, _, _]
 refine Z2 9 ?_
 refine D4 3 3 131 true _ rfl rfl ZD rfl (AE _ (BO _ rfl ZD rfl) rfl ?_)
 refine A1 (AK (AY _ rfl rfl ?_))
 refine Z2 10 ?_
 refine A7 _ rfl ZD ?_
 refine A4 (Z8 144 3 [(0, .agg (V4).toArray), (1, .agg #[SL ao13 zz13.length ca13, I64 2])] ?_)
 refine Z6 ⟨[], [0, 1], [], [0, 1], [2]⟩ 2 (AL rfl (AB 1 nb2 22 _ 38 (V4) rfl rfl rfl B8 ZS (AQ ZC A6) ZS (AI ZS))) ?_
 show DP _ _ _ _ _ _ _ _ [_, (Ez nb2 (V4) 38), _, _]
 refine Z6 ⟨[2], [0, 1], [0], [1], [3]⟩ 3 (AL rfl (AB 2 nb3 2 _ 107 ([SL ao13 zz13.length ca13, I64 2]) rfl rfl rfl AP rfl ZC (Nat.le_of_ble_eq_true rfl) (AI ZM))) ?_
 show DP _ _ _ _ _ _ _ _ [_, _, (Ez nb3 [SL ao13 zz13.length ca13, I64 2] 107), _]
 refine Z5 ⟨[2, 3], [0, 1], [0, 1], [], []⟩ ?_
 refine A9 (F' := [(1, Ptr nb1 0), (2, Ptr nb2 0), (3, Ptr nb3 0), (4, Ptr nb4 0)]) ZR ?_
 refine AK (CH (C2 (DR (.tuple #[.agg (V4).toArray, .agg #[SL ao13 zz13.length ca13, I64 2]]) ZP fun w1 hw1 => ?_)))
 have hbq : BadQ z0 := by
  exact hbad
 exact ⟨_, _, rfl, ⟨_, _, _, 0, _, 0, _, _, _, _, ao13, zz13, ca13, _, _, _, none, 0, _, _, _, none, 0, FJ z0 hbq, rfl, rfl, (AN 16), ZO, ZO, (fun h => absurd h ZO), ⟨(by intro w M hr; exact (hA13 _ _ (hA _ _ hr))), ZO, ZO, ZO⟩, (by rw [DJ ZO]; rfl), rfl, .inl rfl, ZO, ZX, .inl rfl, ZO, ZX⟩, E2 hw1 1 2 rfl rfl ZD⟩
attribute [local irreducible] hQ
theorem rreadE_c (p : Nat) (ao : Option Addr) (n c : Nat) (z0 z : List UInt8)  (w : World) (hz : z.length = n) (hn : n ≤ 2000000000) (hc : n ≤ c) (hcm : c ≤ maxLen) (hr : RdB w [] ao z) (hq : Lq z0 z p) (hp : ¬ p ≤ z0.length)  : Calls Tryd.prog 58 #[.agg #[SL ao n c, I64 ((eQ z0 p:Int))]] w (Post w [] (fun v L => ∃ ao' z' c' g1 cs1 T1 g2 cs2 T2, Adv ao z c ao' z' c' ∧ v = .tuple #[.agg (V4).toArray, .agg #[SL ao' z'.length c', I64 2]] ∧ L = [(Ez g1 cs1 T1), (Ez g2 cs2 T2)])) := by
 have hmx : maxLen = 9223372036854775807 := rfl
 have hk0 : vQ z0 (p + 16) 1 = 0 := vQ_neg ZO
 have hk8 := E6 z0 (p + 16)
 refine enter (P := Tryd.prog) (f := 58) (fn := Tryd.f58) w [] 144 [] [.agg #[SL ao n c, I64 ((eQ z0 p:Int))]] Tryd.func58 rfl rfl ZM (A2 ZM ZM ZM) ?_
 show JC _ _ _ [_] _
 refine A4 (AO (AF (B2 (.agg #[SL ao n c, I64 ((eQ z0 p:Int))]) ([SL ao n c, I64 ((eQ z0 p:Int))]) rfl (by first | rfl | simp)) rfl ?_))
 rintro v1 L1 ⟨nb1, hnb1, rfl, rfl⟩
 show JL _ _ _ _ (_ :: _) [_]
 refine AF (AS _ (V4) Tryd.zeroValue38 ZR) rfl ?_
 rintro v1 L1 ⟨nb2, hnb2, rfl, rfl⟩
 show JL _ _ _ _ (_ :: _) [_, _]
 refine AF (AS _ ([SL none 0 0, I64 0]) A3 ZR) rfl ?_
 rintro v1 L1 ⟨nb3, hnb3, rfl, rfl⟩
 show JL _ _ _ _ (_ :: _) [_, _, _]
 refine Z2 4 ?_
 refine AF (AS _ (V4) Tryd.zeroValue38 ZR) rfl ?_
 rintro v1 L1 ⟨nb4, hnb4, rfl, rfl⟩
 show JL _ _ _ _ (_ :: _) [_, _, _, _]
 refine Z2 5 ?_
 have hz1 : (z).length = n := hz
 refine AF (A5 118 _ _ (AH _ CR rfl) (fun w1 hw1 => D6 p 8 ao n c z0 z w1 hz ZO ZO ZO (hr.at (M' := []) hw1 ZM) hq ZU)) rfl ?_
 rintro v1 L1 ⟨_, ⟨rfl, ao1, zz1, ca1, hq1, ⟨hA1, hb1, hb2, hb3⟩, rfl⟩, rfl⟩
 show JL _ _ _ _ (_ :: _) [_, _, _, _]
 refine Z2 10 ?_
 have hz2 : (zz1).length = zz1.length := rfl
 refine AF (A5 118 _ _ (AH _ CR rfl) (fun w1 hw1 => D6 (p + 8) 8 ao1 zz1.length ca1 z0 zz1 w1 rfl ZO ZO ZO ((hA1 _ _ hr).at (M' := []) hw1 ZM) hq1 ZU)) rfl ?_
 rintro v1 L1 ⟨_, ⟨rfl, ao2, zz2, ca2, hq2, ⟨hA2, hb4, hb5, hb6⟩, rfl⟩, rfl⟩
 show JL _ _ _ _ (_ :: _) [_, _, _, _]
 refine Z2 10 ?_
 have hz3 : (zz2).length = zz2.length := rfl
 refine AF (A5 118 _ _ (AH _ CR rfl) (fun w1 hw1 => D6 (p + 16) 1 ao2 zz2.length ca2 z0 zz2 w1 rfl ZO ZO ZO ((hA2 _ _ (hA1 _ _ hr)).at (M' := []) hw1 ZM) hq2 ZU)) rfl ?_
 rintro v1 L1 ⟨_, ⟨rfl, ao3, zz3, ca3, hq3, ⟨hA3, hb7, hb8, hb9⟩, rfl⟩, rfl⟩
 show JL _ _ _ _ (_ :: _) [_, _, _, _]
 refine Z2 24 ?_
 refine AE (I64 (((vQ z0 (p + 16) 1).toNat:Int))) Ze rfl ?_
 refine Z2 9 ?_
 refine AE (.bool (decide ((vQ z0 (p + 16) 1) = (3:UInt64)))) (AT rfl rfl fun _ => DS (vQ z0 (p + 16) 1) (3:UInt64)) rfl ?_
 refine A1 (AK (AY _ rfl (decide_eq_false (by rw [hk0]; decide)) ?_))
 refine Z2 6 ?_
 refine AE (.bool (decide ((vQ z0 (p + 16) 1) = (1:UInt64)))) (AT rfl rfl fun _ => DS (vQ z0 (p + 16) 1) (1:UInt64)) rfl ?_
 refine Z2 1 ?_
 refine AD 2 55 false _ _ rfl rfl (decide_eq_false (by rw [hk0]; decide)) ZE rfl ?_
 refine AD 2 55 false _ (.bool (decide ((vQ z0 (p + 16) 1) = (2:UInt64)))) rfl rfl (decide_eq_false (by rw [hk0]; decide)) (AT rfl rfl fun _ => DS (vQ z0 (p + 16) 1) (2:UInt64)) rfl ?_
 refine AE _ (BO _ rfl (decide_eq_false (by rw [hk0]; decide)) rfl) rfl ?_
 refine A1 (AK (AY _ rfl (decide_eq_false (by rw [hk0]; decide)) ?_))
 refine Z2 5 ?_
 have hz4 : (zz3).length = zz3.length := rfl
 refine AF (A5 126 _ _ (AH _ CV rfl) (fun w1 hw1 => rtakeL_w (p + 17) 16 ao3 zz3.length ca3 z0 zz3 w1 rfl ZO ZO ZO ((hA3 _ _ (hA2 _ _ (hA1 _ _ hr))).at (M' := []) hw1 ZM) hq3)) rfl ?_
 rintro v1 L1 ⟨_, ⟨rfl, ao4, zz4, ca4, hq4, ⟨hA4, hb10, hb11, hb12⟩, (⟨hg1, ax1, cx1, hX1, rfl⟩ | ⟨hg1, ax1, cx1, rfl⟩)⟩, rfl⟩
 ·
  show JL _ _ _ _ (_ :: _) [_, _, _, _]
  refine Z2 10 ?_
  refine AE (Slc nb4 6 16 16) (B4 16 5 1 0 16 6 16 AZ AW rfl rfl rfl ZO ZO ZO ZO ZO 16 ZO) rfl ?_
  refine Z2 1 ?_
  refine AC (CP 43 43 5 3 nb4 6 16 16 (V2 (vQ z0 p 8) (vQ z0 (p + 8) 8) (((vQ z0 (p + 16) 1).toNat:Int)) none 0 0 none 0 0 0 (zr8 16)) 38 ax1 16 cx1 16 (cu8 (bQ z0 (p + 17) 16)) (V2 (vQ z0 p 8) (vQ z0 (p + 8) 8) (((vQ z0 (p + 16) 1).toNat:Int)) none 0 0 none 0 0 0 (bQ z0 (p + 17) 16)) AM BZ rfl rfl rfl rfl (by simp [(BG _ _ _)]; try omega) ((hX1 _ _ (hA3 _ _ (hA2 _ _ (hA1 _ _ hr)))).src) (by simp [(AN 16)]; try omega) (by first | exact A6 | exact EF | exact EB | (simp [cu8, cu32, cu64, Value.oneCell']; done)) (DB 6 0 rfl rfl (AI ZS))) rfl ?_
  show JL _ _ _ _ (_ :: _) [_, _, _, _]
  refine Z2 9 ?_
  refine AD 3 131 true _ _ rfl rfl ZD ZE rfl ?_
  refine B6 3 131 true _ rfl rfl ZD (AJ 45 _ (I64 (((mayN (vQ z0 p 8) (vQ z0 (p + 8) 8) (((vQ z0 (p + 16) 1).toNat:Int)) ([] : List UInt64) ([] : List SealR) (0:UInt64)):Int))) (AH _ Tryd.call45 rfl) (fun w1 hw1 => rmay13_c (vQ z0 p 8) (vQ z0 (p + 8) 8) (((vQ z0 (p + 16) 1).toNat:Int)) none 0 0 ([] : List UInt64) none 0 0 ([] : List SealR) (0:UInt64) (bQ z0 (p + 17) 16) w1 rfl ZO ZO ZO RdV.nil rfl ZO ZO ZO RdV.nil (BG _ _ _))) rfl ?_
  rintro v1 L1 ⟨rfl, rfl⟩
  show JL _ _ _ _ (_ :: _) [_, _, _, _]
  refine AD 3 131 true _ (.bool (decide ((((mayN (vQ z0 p 8) (vQ z0 (p + 8) 8) (((vQ z0 (p + 16) 1).toNat:Int)) ([] : List UInt64) ([] : List SealR) (0:UInt64)):Int)) ≠ (0:Int)))) rfl rfl ZD ZE rfl ?_
  refine AE _ (CC _ rfl ZD rfl) rfl ?_
  refine A1 (AK (A7 _ rfl (by exfalso; omega) ?_))
  refine Z2 13 ?_
  refine A7 _ rfl ZD ?_
  refine A4 (Z8 144 3 [(0, .agg (V4).toArray), (1, .agg #[SL ao4 zz4.length ca4, I64 2])] ?_)
  refine Z6 ⟨[], [0, 1], [], [0, 1], [2]⟩ 2 (AL rfl (AB 1 nb2 22 _ 38 (V4) rfl rfl rfl B8 ZS (AQ ZC A6) ZS (AI ZS))) ?_
  show DP _ _ _ _ _ _ _ _ [_, _, _, _]
  refine Z6 ⟨[2], [0, 1], [0], [1], [3]⟩ 3 (AL rfl ZW) ?_
  show DP _ _ _ _ _ _ _ _ [_, _, _, _]
  refine Z5 ⟨[2, 3], [0, 1], [0, 1], [], []⟩ ?_
  refine A9 (F' := [(1, Ptr nb1 0), (2, Ptr nb2 0), (3, Ptr nb3 0), (4, Ptr nb4 0)]) ZR ?_
  refine AK (CH (C2 (Z1 fun w1 hw1 => ?_)))
  exact ⟨_, _, rfl, ⟨ao4, zz4, ca4, _, _, _, _, _, _, ⟨(by intro w M hr; exact (hA4 _ _ (hA3 _ _ (hA2 _ _ (hA1 _ _ hr))))), ZO, ZO, ZO⟩, rfl, rfl⟩, E2 hw1 1 2 rfl rfl ZD⟩
 show JL _ _ _ _ (_ :: _) [_, _, _, _]
 refine Z2 10 ?_
 refine AE (Slc nb4 6 16 16) (B4 16 5 1 0 16 6 16 AZ AW rfl rfl rfl ZO ZO ZO ZO ZO 16 ZO) rfl ?_
 refine Z2 1 ?_
 refine AC (CP 43 43 5 3 nb4 6 16 16 (V2 (vQ z0 p 8) (vQ z0 (p + 8) 8) (((vQ z0 (p + 16) 1).toNat:Int)) none 0 0 none 0 0 0 (zr8 16)) 38 ax1 0 cx1 0 [] (V2 (vQ z0 p 8) (vQ z0 (p + 8) 8) (((vQ z0 (p + 16) 1).toNat:Int)) none 0 0 none 0 0 0 (zr8 16)) AM BZ rfl rfl rfl rfl rfl SrcAt.nil ZS ES (ET _ _)) rfl ?_
 show JL _ _ _ _ (_ :: _) [_, _, _, _]
 refine Z2 9 ?_
 refine D4 3 3 131 true _ rfl rfl ZD rfl (AE _ (BO _ rfl ZD rfl) rfl ?_)
 refine A1 (AK (AY _ rfl rfl ?_))
 refine Z2 10 ?_
 refine A7 _ rfl ZD ?_
 refine A4 (Z8 144 3 [(0, .agg (V4).toArray), (1, .agg #[SL ao4 zz4.length ca4, I64 2])] ?_)
 refine Z6 ⟨[], [0, 1], [], [0, 1], [2]⟩ 2 (AL rfl (AB 1 nb2 22 _ 38 (V4) rfl rfl rfl B8 ZS (AQ ZC A6) ZS (AI ZS))) ?_
 show DP _ _ _ _ _ _ _ _ [_, _, _, _]
 refine Z6 ⟨[2], [0, 1], [0], [1], [3]⟩ 3 (AL rfl ZW) ?_
 show DP _ _ _ _ _ _ _ _ [_, _, _, _]
 refine Z5 ⟨[2, 3], [0, 1], [0, 1], [], []⟩ ?_
 refine A9 (F' := [(1, Ptr nb1 0), (2, Ptr nb2 0), (3, Ptr nb3 0), (4, Ptr nb4 0)]) ZR ?_
 refine AK (CH (C2 (Z1 fun w1 hw1 => ?_)))
 exact ⟨_, _, rfl, ⟨ao4, zz4, ca4, _, _, _, _, _, _, ⟨(by intro w M hr; exact (hA4 _ _ (hA3 _ _ (hA2 _ _ (hA1 _ _ hr))))), ZO, ZO, ZO⟩, rfl, rfl⟩, E2 hw1 1 2 rfl rfl ZD⟩
theorem rreadU_w (p : Nat) (ao : Option Addr) (n c : Nat) (z0 z : List UInt8) (w : World) (hz : z.length = n) (hn : n ≤ 2000000000) (hc : n ≤ c) (hcm : c ≤ maxLen) (hr : RdB w [] ao z) (hq : Lq z0 z p) : Calls Tryd.prog 58 #[.agg #[SL ao n c, I64 (eQ z0 p : Nat)]] w (Post w [] (fun v L => ∃ pv ep kd ni l ns ls bl tg tot q ao' z' c' g1 cs1 T1 a1 c1 g2 cs2 T2 a2 c2, TkR (z0.drop p) pv ep kd l ls bl tg tot ∧ q = p + tot ∧ l.length = ni ∧ ls.length = ns ∧ tg.length = 16 ∧ ni ≤ 256 ∧ ns ≤ 256 ∧ Lq z0 z' q ∧ Adv ao z c ao' z' c' ∧ v = .tuple #[.agg (V2 pv ep kd a1 ni c1 a2 ns c2 bl tg).toArray, .agg #[(SL ao' z'.length c'), I64 (eQ z0 q : Nat)]] ∧ L = [(Ez g1 cs1 T1), (Ez g2 cs2 T2)] ∧ Gh (cu64 l) g1 cs1 a1 ∧ ni ≤ c1 ∧ c1 ≤ maxLen ∧ Gh (ls.flatMap sealC) g2 cs2 a2 ∧ ns ≤ c2 ∧ c2 ≤ maxLen)) := by
 by_cases hp : p ≤ z0.length
 ·
  have h := rreadG_c ao n c (z0.drop p) z (mQ (z0.drop p)) w hz hn hc hcm hr (fun _ => by rw [hq hp]; rfl) rfl
  rw [show eQ (z0.drop p) 0 = eQ z0 p from eQ_drop hp] at h
  refine h.mono ?_
  rintro E W ⟨v, L, rfl, ⟨pv, ep, kd, ni, l, ns, ls, bl, tg, tot, ao', z', c', g1, cs1, T1, a1, c1, g2, cs2, T2, a2, c2, hT, h1, h2, h3, h4, h5, h6, h7, rfl, rfl, h8⟩, hw⟩
  exact ⟨_, _, rfl, ⟨pv, ep, kd, ni, l, ns, ls, bl, tg, tot, p + tot, ao', z', c', g1, cs1, T1, a1, c1, g2, cs2, T2, a2, c2, hT, rfl, h1, h2, h3, h4, h5, Lq.drop hp h6, h7, by rw [eQ_drop hp], rfl, h8⟩, hw⟩
 ·
  refine (rreadE_c p ao n c z0 z w hz hn hc hcm hr hq hp).mono ?_
  rintro E W ⟨v, L, rfl, ⟨ao', z', c', g1, cs1, T1, g2, cs2, T2, hA, rfl, rfl⟩, hw⟩
  have hd : z0.drop p = [] := List.drop_eq_nil_of_le ZO
  refine ⟨_, _, rfl, ⟨0, 0, 0, 0, [], 0, [], 0, zr8 16, 1, p + 1, ao', z', c', g1, cs1, T1, none, 0, g2, cs2, T2, none, 0, by rw [hd]; exact FJ [] bad_nil, rfl, rfl, rfl, AN 16, ZO, ZO, fun h => absurd h ZO, hA, by rw [DJ ZO]; rfl, rfl, .inl rfl, ZO, by unfold maxLen; omega, .inl rfl, ZO, by unfold maxLen; omega⟩, hw⟩
theorem rreadZ_w (s : Nat) (ao : Option Addr) (n c : Nat) (z0 : List UInt8) (w : World) (hz : z0.length = n) (hn : n ≤ 2000000000) (hc : n ≤ c) (hcm : c ≤ maxLen) (hr : RdB w [] ao z0) (hs : Szd (s : Int)) : Calls Tryd.prog 118 #[.agg #[SL ao n c, I64 0], I64 (s : Int)] w (Post w [] (fun v L => L = [] ∧ ∃ ao' z' c', Lq z0 z' (0 + s) ∧ Adv ao z0 c ao' z' c' ∧ v = .tuple #[U64 (vQ z0 0 s), .agg #[SL ao' z'.length c', I64 (eQ z0 (0 + s) : Nat)]])) := by
 have h := D6 0 s ao n c z0 z0 w hz hn hc hcm hr (Lq.zero z0) hs
 rw [show eQ z0 0 = 0 from E5 (Nat.zero_le _)] at h
 exact h
theorem bld107_0 {w : World} {v0 : Value} (h0 : v0.cells = [v0].toArray) : (Instr.build 107 ([(0, v0)] : List (Nat × Value)).toArray).run Tryd.prog w = .ok (.agg (([v0] : List Value) ++ ([I64 0] : List Value)).toArray) w :=
 C8 (places := #[(0, 1), (1, 1)]) (Z := (([.slice none 0 0] : List Value) ++ (([I64 0] : List Value) ++ []))) (fun _ => by kernel_rfl) Tryd.underlying107 (fun _ => by kernel_rfl) ((EI ([.slice none 0 0] : List Value) (([I64 0] : List Value) ++ []) ([v0] : List Value) h0 (by simp [AN]) rfl).trans ((D0 ([v0] : List Value) ([I64 0] : List Value) []).trans (by simp [Instr.fill])))
theorem rparq_c (ax : Option Addr) (n c : Nat) (z0 : List UInt8)  (w : World) (hz : z0.length = n) (hn : n ≤ 2000000000) (hc : n ≤ c) (hcm : c ≤ maxLen) (hr : RdB w [] ax z0)  : Calls Tryd.prog 54 #[SL ax n c] w (Post w [] (fun v L => (∃ sq qk niq lq fs mn pv ep kd ni l ns ls bl tg eq g0 cs0 T0 a0 c0 g1 cs1 T1 a1 c1 g2 cs2 T2 a2 c2, GRq z0 sq qk lq fs mn pv ep kd l ls bl tg eq ∧ lq.length = niq ∧ l.length = ni ∧ ls.length = ns ∧ tg.length = 16 ∧ niq ≤ 256 ∧ ni ≤ 256 ∧ ns ≤ 256 ∧ v = .tuple #[.agg (V1 sq qk a0 niq c0 fs mn pv ep kd a1 ni c1 a2 ns c2 bl tg eq).toArray, .bool true] ∧ L = [(Ez g0 cs0 T0), (Ez g1 cs1 T1), (Ez g2 cs2 T2)] ∧ Gh (cu64 lq) g0 cs0 a0 ∧ niq ≤ c0 ∧ c0 ≤ maxLen ∧ Gh (cu64 l) g1 cs1 a1 ∧ ni ≤ c1 ∧ c1 ≤ maxLen ∧ Gh (ls.flatMap sealC) g2 cs2 a2 ∧ ns ≤ c2 ∧ c2 ≤ maxLen) ∨ (BadRq z0 ∧ v = .tuple #[.agg (V5).toArray, .bool false] ∧ ∃ g0 cs0 T0 g1 cs1 T1 g2 cs2 T2, L = [(Ez g0 cs0 T0), (Ez g1 cs1 T1), (Ez g2 cs2 T2)]))) := by
 have hmx : maxLen = 9223372036854775807 := rfl
 have hk8 := E6 z0 8
 have hk9 := E6 z0 17
 have hk10 := E6 z0 21
 have hmQ : mQ z0 = (vQ z0 17 1).toNat + 1 := rfl
 refine enter w [] 120 [] [SL ax n c] Tryd.func54 rfl rfl ZM (A2 ZM ZM ZM) ?_
 show JC _ _ _ [(0, SL ax n c)] _
 refine A4 (AO (AF (AS _ (V5) Tryd.zeroValue40 ZR) rfl ?_))
 rintro v1 L1 ⟨nb1, hnb1, rfl, rfl⟩
 show JL _ _ _ _ (_ :: _) [_]
 refine Z2 5 ?_
 refine AF (AS _ (V5) Tryd.zeroValue40 ZR) rfl ?_
 rintro v1 L1 ⟨nb2, hnb2, rfl, rfl⟩
 show JL _ _ _ _ (_ :: _) [_, _]
 refine Z2 5 ?_
 refine AE (.agg #[SL ax n c, I64 0]) (DN [(0, SL ax n c)] _ rfl (fun _ => bld107_0 rfl)) rfl ?_
 refine AF (AS _ ([SL none 0 0, I64 0]) A3 ZR) rfl ?_
 rintro v1 L1 ⟨nb3, hnb3, rfl, rfl⟩
 show JL _ _ _ _ (_ :: _) [_, _, _]
 refine AC (AB 2 nb3 2 _ 107 ([SL ax n c, I64 0]) rfl rfl rfl AP rfl ZC (Nat.le_of_ble_eq_true rfl) (AI ZM)) rfl ?_
 show JL _ _ _ _ _ [_, _, _]
 refine Z2 5 ?_
 refine AF (A5 118 _ _ (AH _ CR rfl) (fun w1 hw1 => rreadZ_w 8 ax n c z0 w1 hz ZO ZO ZO (hr.at (M' := []) hw1 ZM) ZU)) rfl ?_
 rintro v1 L1 ⟨_, ⟨rfl, ao1, zz1, ca1, hq1, ⟨hA1, hb1, hb2, hb3⟩, rfl⟩, rfl⟩
 show JL _ _ _ _ ((24, .tuple #[U64 (vQ z0 0 8), .agg #[SL ao1 zz1.length ca1, I64 ((eQ z0 8:Int))]]) :: _) [_, _, _]
 refine Z2 4 ?_
 refine AC (AB 2 nb3 2 _ 107 ([SL ao1 zz1.length ca1, I64 ((eQ z0 8:Int))]) rfl rfl rfl AP rfl ZC (Nat.le_of_ble_eq_true rfl) (AI ZM)) rfl ?_
 show JL _ _ _ _ _ [_, _, _]
 refine Z2 5 ?_
 have hz1 : (zz1).length = zz1.length := rfl
 refine AF (A5 118 _ _ (AH _ CR rfl) (fun w1 hw1 => D6 8 1 ao1 zz1.length ca1 z0 zz1 w1 rfl ZO ZO ZO ((hA1 _ _ hr).at (M' := []) hw1 ZM) hq1 ZU)) rfl ?_
 rintro v1 L1 ⟨_, ⟨rfl, ao2, zz2, ca2, hq2, ⟨hA2, hb4, hb5, hb6⟩, rfl⟩, rfl⟩
 show JL _ _ _ _ ((29, .tuple #[U64 (vQ z0 8 1), .agg #[SL ao2 zz2.length ca2, I64 ((eQ z0 9:Int))]]) :: _) [_, _, _]
 refine Z2 4 ?_
 refine AC (AB 2 nb3 2 _ 107 ([SL ao2 zz2.length ca2, I64 ((eQ z0 9:Int))]) rfl rfl rfl AP rfl ZC (Nat.le_of_ble_eq_true rfl) (AI ZM)) rfl ?_
 show JL _ _ _ _ _ [_, _, _]
 refine Z2 6 ?_
 refine AC (BT 1 nb2 0 1 _ 40 (U64 (vQ z0 0 8)) ([U64 (vQ z0 0 8)]) (V1 (vQ z0 0 8) 0 none 0 0 0 0 0 0 0 none 0 0 none 0 0 0 (zr8 16) 0) rfl rfl rfl rfl BJ rfl ZC ZS (rfl)) rfl ?_
 show JL _ _ _ _ _ [_, _, _]
 refine Z2 5 ?_
 refine AE (I64 (((vQ z0 8 1).toNat:Int))) Ze rfl ?_
 refine Z2 1 ?_
 refine AC (BT 1 nb2 1 1 _ 40 (I64 (((vQ z0 8 1).toNat:Int))) ([I64 (((vQ z0 8 1).toNat:Int))]) (V1 (vQ z0 0 8) (((vQ z0 8 1).toNat:Int)) none 0 0 0 0 0 0 0 none 0 0 none 0 0 0 (zr8 16) 0) rfl rfl rfl rfl CZ rfl ZC ZS (rfl)) rfl ?_
 show JL _ _ _ _ _ [_, _, _]
 refine Z2 10 ?_
 refine AX (decide ((((vQ z0 8 1).toNat:Int)) ≠ (3:Int))) rfl (fun hb7 => ?_) (fun hb7 => ?_)
 ·
  have hp7 := of_decide_eq_true hb7
  refine Z2 3 ?_
  have hz2 : (zz2).length = zz2.length := rfl
  refine AF (A5 118 _ _ (AH _ CR rfl) (fun w1 hw1 => D6 9 8 ao2 zz2.length ca2 z0 zz2 w1 rfl ZO ZO ZO ((hA2 _ _ (hA1 _ _ hr)).at (M' := []) hw1 ZM) hq2 ZU)) rfl ?_
  rintro v1 L1 ⟨_, ⟨rfl, ao3, zz3, ca3, hq3, ⟨hA3, hb8, hb9, hb10⟩, rfl⟩, rfl⟩
  show JL _ _ _ _ ((42, .tuple #[U64 (vQ z0 9 8), .agg #[SL ao3 zz3.length ca3, I64 ((eQ z0 17:Int))]]) :: _) [_, _, _]
  refine Z2 3 ?_
  refine AF (AS _ ([SL none 0 0, I64 0]) A3 ZR) rfl ?_
  rintro v1 L1 ⟨nb4, hnb4, rfl, rfl⟩
  show JL _ _ _ _ (_ :: _) [_, _, _, _]
  refine Z2 1 ?_
  refine AC (AB 3 nb4 2 _ 107 ([SL ao3 zz3.length ca3, I64 ((eQ z0 17:Int))]) rfl rfl rfl AP rfl ZC (Nat.le_of_ble_eq_true rfl) (AI ZM)) rfl ?_
  show JL _ _ _ _ _ [_, _, _, _]
  refine Z2 5 ?_
  refine AC (AB 2 nb3 2 _ 107 ([SL ao3 zz3.length ca3, I64 ((eQ z0 17:Int))]) rfl rfl rfl AP rfl ZC (Nat.le_of_ble_eq_true rfl) (AI ZM)) rfl ?_
  show JL _ _ _ _ _ [_, _, _, _]
  refine Z2 5 ?_
  refine AC (BT 1 nb2 27 1 _ 40 (U64 (vQ z0 9 8)) ([U64 (vQ z0 9 8)]) (V1 (vQ z0 0 8) (((vQ z0 8 1).toNat:Int)) none 0 0 0 0 0 0 0 none 0 0 none 0 0 0 (zr8 16) (vQ z0 9 8)) rfl rfl rfl rfl BJ rfl ZC ZS (DB 27 0 ZS rfl (AI ZM))) rfl ?_
  show JL _ _ _ _ _ [_, _, _, _]
  refine Z2 16 ?_
  refine AX (decide ((((vQ z0 8 1).toNat:Int)) = (1:Int))) rfl (fun hb11 => ?_) (fun hb11 => ?_)
  ·
   have hp11 := of_decide_eq_true hb11
   refine Z2 3 ?_
   have hz3 : (zz3).length = zz3.length := rfl
   refine AF (A5 118 _ _ (AH _ CR rfl) (fun w1 hw1 => D6 17 1 ao3 zz3.length ca3 z0 zz3 w1 rfl ZO ZO ZO ((hA3 _ _ (hA2 _ _ (hA1 _ _ hr))).at (M' := []) hw1 ZM) hq3 ZU)) rfl ?_
   rintro v1 L1 ⟨_, ⟨rfl, ao4, zz4, ca4, hq4, ⟨hA4, hb12, hb13, hb14⟩, rfl⟩, rfl⟩
   show JL _ _ _ _ ((54, .tuple #[U64 (vQ z0 17 1), .agg #[SL ao4 zz4.length ca4, I64 ((eQ z0 18:Int))]]) :: _) [_, _, _, _]
   refine Z2 3 ?_
   refine AF (AS _ ([SL none 0 0, I64 0]) A3 ZR) rfl ?_
   rintro v1 L1 ⟨nb5, hnb5, rfl, rfl⟩
   show JL _ _ _ _ (_ :: _) [_, _, _, _, _]
   refine Z2 1 ?_
   refine AC (AB 4 nb5 2 _ 107 ([SL ao4 zz4.length ca4, I64 ((eQ z0 18:Int))]) rfl rfl rfl AP rfl ZC (Nat.le_of_ble_eq_true rfl) (AI ZM)) rfl ?_
   show JL _ _ _ _ _ [_, _, _, _, _]
   refine Z2 9 ?_
   refine JC_mask [true, true, true, false, true] ?_
   show JC _ _ _ _ [_, _, _, _]
   refine C3 (ι := (Unit) ⊕ (Nat × List UInt64 × Nat × List Value × Nat × Option Addr × List UInt8 × Nat)) (fun x => match x with | .inl _ => [(2, Ptr nb1 0), (3, .bool false), (4, Ptr nb2 0), (5, Ptr nb3 0), (10, U64 (vQ z0 17 1)), (11, Ptr nb5 0), (12, I64 0)] | .inr ⟨i, ll, gb, sp, cp, aa, zz, cc⟩ => [(2, Ptr nb1 0), (3, .bool false), (4, Ptr nb2 0), (5, Ptr nb3 0), (10, U64 (vQ z0 17 1)), (11, Ptr nb5 0), (12, I64 i)]) (fun x => match x with | .inl _ => [(Ez nb1 (V5) 40), (Ez nb2 (V1 (vQ z0 0 8) (((vQ z0 8 1).toNat:Int)) none 0 0 0 0 0 0 0 none 0 0 none 0 0 0 (zr8 16) (vQ z0 9 8)) 40), (Ez nb3 [SL ao3 zz3.length ca3, I64 ((eQ z0 17:Int))] 107), (Ez nb5 [SL ao4 zz4.length ca4, I64 ((eQ z0 18:Int))] 107)] | .inr ⟨i, ll, gb, sp, cp, aa, zz, cc⟩ => [(Ez nb1 (V5) 40), (Ez nb2 ([U64 (vQ z0 0 8), I64 (((vQ z0 8 1).toNat:Int)), Slc gb 0 i cp, U64 0, I64 0, U64 0, U64 0, I64 0, SL none 0 0, SL none 0 0, U64 0] ++ cu8 (zr8 16) ++ [U64 (vQ z0 9 8)]) 40), (Ez nb3 [SL ao3 zz3.length ca3, I64 ((eQ z0 17:Int))] 107), (Ez nb5 [SL aa zz.length cc, I64 ((eQ z0 (4*i + 18):Int))] 107), (Ez gb (cu64 ll ++ sp) 22)]) (fun x => match x with | .inl _ => True | .inr ⟨i, ll, gb, sp, cp, aa, zz, cc⟩ => 0 < i ∧ i ≤ mQ z0 ∧ ll = ixQ z0 18 i ∧ ll.length = i ∧ sp.length = cp - i ∧ i ≤ cp ∧ cp ≤ maxLen ∧ Lq z0 zz (4*i + 18) ∧ (∀ w M, RdB w M ax z0 → RdB w M aa zz) ∧ zz.length ≤ cc ∧ cc ≤ maxLen ∧ zz.length ≤ n) (fun x => match x with | .inl _ => mQ z0 + 2 | .inr ⟨i, ll, gb, sp, cp, aa, zz, cc⟩ => mQ z0 + 1 - i) (.inl ()) trivial (Sub.all rfl) rfl ?_
   rintro (_ | ⟨i, ll, gb, sp, cp, aa, zz, cc⟩) hx
   ·
    obtain _ := hx
    show JC _ _ _ [_, _, _, _, _, _, _] [_, _, _, _]
    refine Z2 5 ?_
    refine AE (I64 (((vQ z0 17 1).toNat:Int))) Ze rfl ?_
    refine Z2 2 ?_
    refine AD 4 61 true _ (Ptr nb5 1) rfl rfl (decide_eq_true ZO) ZE rfl ?_
    refine AD 4 61 true _ (I64 ((eQ z0 18:Int))) rfl rfl (decide_eq_true ZO) ZE rfl ?_
    refine AD 4 61 true _ (.bool (decide (((eQ z0 18:Int)) = (0:Int)))) rfl rfl (decide_eq_true ZO) ZE rfl ?_
    refine AE _ (CC _ rfl (decide_eq_true ZO) rfl) rfl ?_
    refine A1 (AK (AX (decide (((eQ z0 18:Int)) = (0:Int))) rfl (fun hb15 => ?_) (fun hb15 => ?_)))
    ·
     have hp15 := of_decide_eq_true hb15
     refine Z2 7 ?_
     have hz4 : (zz4).length = zz4.length := rfl
     refine AF (A5 118 _ _ (AH _ CR rfl) (fun w1 hw1 => D6 18 4 ao4 zz4.length ca4 z0 zz4 w1 rfl ZO ZO ZO ((hA4 _ _ (hA3 _ _ (hA2 _ _ (hA1 _ _ hr)))).at (M' := []) hw1 ZM) hq4 ZU)) rfl ?_
     rintro v1 L1 ⟨_, ⟨rfl, ao5, zz5, ca5, hq5, ⟨hA5, hb16, hb17, hb18⟩, rfl⟩, rfl⟩
     show JL _ _ _ _ ((70, .tuple #[U64 (vQ z0 18 4), .agg #[SL ao5 zz5.length ca5, I64 ((eQ z0 22:Int))]]) :: _) [_, _, _, _]
     refine Z2 3 ?_
     refine AF (AS _ ([SL none 0 0, I64 0]) A3 ZR) rfl ?_
     rintro v1 L1 ⟨nb6, hnb6, rfl, rfl⟩
     show JL _ _ _ _ (_ :: _) [_, _, _, _, _]
     refine Z2 1 ?_
     refine AC (AB 4 nb6 2 _ 107 ([SL ao5 zz5.length ca5, I64 ((eQ z0 22:Int))]) rfl rfl rfl AP rfl ZC (Nat.le_of_ble_eq_true rfl) (AI ZM)) rfl ?_
     show JL _ _ _ _ _ [_, _, _, _, _]
     refine Z2 5 ?_
     refine AC (AB 3 nb5 2 _ 107 ([SL ao5 zz5.length ca5, I64 ((eQ z0 22:Int))]) rfl rfl rfl AP rfl ZC (Nat.le_of_ble_eq_true rfl) (AI ZM)) rfl ?_
     show JL _ _ _ _ _ [_, _, _, _, _]
     refine Z2 6 ?_
     refine AF (BF 22 1 _ [(0, U64 (vQ z0 18 4))] ([U64 (vQ z0 18 4)]) BB BJ Tryd.zeroValue22 rfl rfl rfl ZR) rfl ?_
     rintro v1 L1 ⟨nb7, hnb7, rfl, rfl⟩
     show JL _ _ _ _ ((77, Slc nb7 0 1 1) :: _) [_, _, _, _, _, (Ez nb7 [U64 (vQ z0 18 4)] 22)]
     refine AF (E9 23 22 [false, false, false, false, false, false] (SL none 0 0) 0 ([] : List UInt64) ([vQ z0 18 4]) (some ⟨nb7, 0, none⟩) 1 1 1 BB E8 rfl (.inl ⟨rfl, rfl, rfl, rfl, ZO⟩) rfl ZM (SrcAt.mem (A0 5 rfl (Seg.head))) ZO ZX ZO) rfl ?_
     rintro v1 L1 ⟨nb8, sp1, cp1, hg1, rfl, rfl, ha1, ha2, ha3, ha4⟩
     show JL _ _ _ _ ((78, Slc nb8 0 1 cp1) :: _) [_, _, _, _, _, _, (Ez nb8 (cu64 (([] : List UInt64) ++ ([vQ z0 18 4])) ++ sp1) 22)]
     refine Z2 1 ?_
     refine AC (BT 1 nb2 2 1 _ 40 (Slc nb8 0 1 cp1) ([Slc nb8 0 1 cp1]) ([U64 (vQ z0 0 8), I64 (((vQ z0 8 1).toNat:Int)), Slc nb8 0 1 cp1, U64 0, I64 0, U64 0, U64 0, I64 0, SL none 0 0, SL none 0 0, U64 0] ++ cu8 (zr8 16) ++ [U64 (vQ z0 9 8)]) rfl rfl rfl rfl Tryd.sizeOf23 rfl ZC ZS (rfl)) rfl ?_
     show JL _ _ _ _ _ [_, _, _, _, _, _, _]
     refine Z2 5 ?_
     refine AE (I64 1) (AT rfl rfl fun _ => BR _ _ (1:Int) ZO ZO) rfl ?_
     refine Z2 2 ?_
     refine B5 (D7 [true, true, true, true, false, false, true] ?_)
     show K _ _ [_, _, _, _, _] _
     refine C1 (.inr (1, ([] : List UInt64) ++ ([vQ z0 18 4]), nb8, sp1, cp1, ao5, zz5, ca5)) ⟨ZO, ZO, by rw [ixQ_one]; rfl, (ha1).trans (by first | rfl | simp +arith), (ha2).trans (by first | rfl | omega), ZO, ZO, hq5, (by intro w M hr; exact (hA5 _ _ (hA4 _ _ (hA3 _ _ (hA2 _ _ (hA1 _ _ hr)))))), ZO, ZO, ZO⟩ (by dsimp only; omega) (Sub.all rfl) rfl
    have hp15 := of_decide_eq_false hb15
    refine Z2 7 ?_
    refine AC (AB 2 nb3 2 _ 107 ([SL ao4 zz4.length ca4, I64 ((eQ z0 18:Int))]) rfl rfl rfl AP rfl ZC (Nat.le_of_ble_eq_true rfl) (AI ZM)) rfl ?_
    show JL _ _ _ _ _ [_, _, _, _]
    refine Z2 5 ?_
    have hbd : endN (eQ z0 18) zz4.length = 0 ↔ 18 = z0.length := E4 hq4
    have hP : ¬ 18 ≤ z0.length := fun h => (of_decide_eq_false hb15) (by rw [E5 h]; rfl)
    refine Z2 2 ?_
    refine AC (AJ 64 _ (I64 ((endN (eQ z0 18) zz4.length:Int))) (AH _ Tryd.call64 rfl) (fun w1 hw1 => rend_w ao4 zz4.length ca4 (eQ z0 18) w1 )) rfl ?_
    show JL _ _ _ _ ((111, I64 ((endN (eQ z0 18) zz4.length:Int))) :: _) [_, _, _, _]
    refine Z2 2 ?_
    refine D4 3 3 113 false _ rfl rfl (decide_eq_true (by rw [show eQ z0 18 = 2 from DJ hP, endN, if_neg ZD]; decide)) rfl (AE _ (CC _ rfl (decide_eq_true (by rw [show eQ z0 18 = 2 from DJ hP, endN, if_neg ZD]; decide)) rfl) rfl ?_)
    refine A1 (AK (A7 _ rfl rfl ?_))
    refine A4 (AO (AE (.agg (V5).toArray) Ze rfl ?_))
    refine AC (AB 0 nb1 28 _ 40 (V5) rfl rfl rfl DI ZS (AQ (AQ ZC A6) ZC) ZS (AI ZS)) rfl ?_
    show JL _ _ _ _ _ [_, _, _, _]
    refine Z2 5 ?_
    refine DR (.tuple #[.agg (V5).toArray, .bool false]) ZP fun w1 hw1 => ?_
    have hd1 : decide (((vQ z0 8 1).toNat:Int) = (1:Int)) = true := hb11
    have hR := RqR.k1 (kQT (k := 1) ZD hd1)
    have hne : 18 ≠ z0.length := by omega
    exact ⟨_, _, rfl, .inr ⟨BadRq.of hR (fun e => absurd e ZO), rfl, _, _, _, _, _, _, _, _, _, rfl⟩, CS hw1 0 1 2 rfl rfl rfl ZD ZD ZD⟩
   obtain ⟨hi1, hi2, hi3, hi4, hi5, hi6, hi7, hi8, hi9, hi10, hi11, hi12⟩ := hx
   show JC _ _ _ [_, _, _, _, _, _, _] [_, _, _, _, _]
   refine Z2 5 ?_
   refine AE (I64 (((vQ z0 17 1).toNat:Int))) Ze rfl ?_
   refine Z2 2 ?_
   rcases Bool.eq_false_or_eq_true (decide (((i:Int)) ≤ (((vQ z0 17 1).toNat:Int)))) with hb19 | hb19
   ·
    have hp19 := of_decide_eq_true hb19
    refine Z2 6 ?_
    refine AX (decide (((eQ z0 (4*i + 18):Int)) = (0:Int))) rfl (fun hb20 => ?_) (fun hb20 => ?_)
    ·
     have hp20 := of_decide_eq_true hb20
     refine Z2 7 ?_
     have hz5 : (zz).length = zz.length := rfl
     refine AF (A5 118 _ _ (AH _ CR rfl) (fun w1 hw1 => D6 (4*i + 18) 4 aa zz.length cc z0 zz w1 rfl ZO ZO ZO ((hi9 _ _ hr).at (M' := []) hw1 ZM) hi8 ZU)) rfl ?_
     rintro v1 L1 ⟨_, ⟨rfl, ao6, zz6, ca6, hq6, ⟨hA6, hb21, hb22, hb23⟩, rfl⟩, rfl⟩
     show JL _ _ _ _ ((70, .tuple #[U64 (vQ z0 (4*i + 18) 4), .agg #[SL ao6 zz6.length ca6, I64 ((eQ z0 (4*i + 22):Int))]]) :: _) [_, _, _, _, _]
     refine Z2 3 ?_
     refine AF (AS _ ([SL none 0 0, I64 0]) A3 ZR) rfl ?_
     rintro v1 L1 ⟨nb9, hnb9, rfl, rfl⟩
     show JL _ _ _ _ (_ :: _) [_, _, _, _, _, _]
     refine Z2 1 ?_
     refine AC (AB 5 nb9 2 _ 107 ([SL ao6 zz6.length ca6, I64 ((eQ z0 (4*i + 22):Int))]) rfl rfl rfl AP rfl ZC (Nat.le_of_ble_eq_true rfl) (AI ZM)) rfl ?_
     show JL _ _ _ _ _ [_, _, _, _, _, _]
     refine Z2 5 ?_
     refine AC (AB 3 nb5 2 _ 107 ([SL ao6 zz6.length ca6, I64 ((eQ z0 (4*i + 22):Int))]) rfl rfl rfl AP rfl ZC (Nat.le_of_ble_eq_true rfl) (AI ZM)) rfl ?_
     show JL _ _ _ _ _ [_, _, _, _, _, _]
     refine Z2 6 ?_
     refine AF (BF 22 1 _ [(0, U64 (vQ z0 (4*i + 18) 4))] ([U64 (vQ z0 (4*i + 18) 4)]) BB BJ Tryd.zeroValue22 rfl rfl rfl ZR) rfl ?_
     rintro v1 L1 ⟨nb10, hnb10, rfl, rfl⟩
     show JL _ _ _ _ ((77, Slc nb10 0 1 1) :: _) [_, _, _, _, _, _, (Ez nb10 [U64 (vQ z0 (4*i + 18) 4)] 22)]
     refine AF (E9 23 22 [false, false, false, false, true, false, false] (Slc gb 0 i cp) i ll ([vQ z0 (4*i + 18) 4]) (some ⟨nb10, 0, none⟩) 1 1 (i + 1) BB E8 rfl (.inr ⟨gb, sp, cp, rfl, rfl, (by first | exact hi4 | simp [hi4]), hi5, ZO, ZO⟩) rfl ZM (SrcAt.mem (A0 6 rfl (Seg.head))) ZO ZX ZO) rfl ?_
     rintro v1 L1 ⟨nb11, sp2, cp2, hg2, rfl, rfl, ha5, ha6, ha7, ha8⟩
     show JL _ _ _ _ ((78, Slc nb11 0 (i + 1) cp2) :: _) [_, _, _, _, _, _, (Ez nb11 (cu64 (ll ++ ([vQ z0 (4*i + 18) 4])) ++ sp2) 22)]
     refine Z2 1 ?_
     refine AC (BT 1 nb2 2 1 _ 40 (Slc nb11 0 (i + 1) cp2) ([Slc nb11 0 (i + 1) cp2]) ([U64 (vQ z0 0 8), I64 (((vQ z0 8 1).toNat:Int)), Slc nb11 0 (i + 1) cp2, U64 0, I64 0, U64 0, U64 0, I64 0, SL none 0 0, SL none 0 0, U64 0] ++ cu8 (zr8 16) ++ [U64 (vQ z0 9 8)]) rfl rfl rfl rfl Tryd.sizeOf23 rfl ZC ZS (rfl)) rfl ?_
     show JL _ _ _ _ _ [_, _, _, _, _, _, _]
     refine Z2 5 ?_
     refine AE (I64 ((i:Int) + 1)) (AT rfl rfl fun _ => BR _ _ ((i:Int) + 1) ZO ZO) rfl ?_
     refine Z2 2 ?_
     refine B5 (D7 [true, true, true, true, false, false, true] ?_)
     show K _ _ [_, _, _, _, _] _
     refine C1 (.inr (i + 1, ll ++ ([vQ z0 (4*i + 18) 4]), nb11, sp2, cp2, ao6, zz6, ca6)) ⟨ZO, ZO, by rw [ixQ_succ, ← hi3, Nat.add_comm 18 (4*i)], (ha5).trans (by first | rfl | simp +arith), (ha6).trans (by first | rfl | omega), ZO, ZO, hq6, (by intro w M hr; exact (hA6 _ _ (hi9 _ _ hr))), ZO, ZO, ZO⟩ (by dsimp only; omega) (Sub.all rfl) rfl
    have hp20 := of_decide_eq_false hb20
    refine Z2 7 ?_
    refine AC (AB 2 nb3 2 _ 107 ([SL aa zz.length cc, I64 ((eQ z0 (4*i + 18):Int))]) rfl rfl rfl AP rfl ZC (Nat.le_of_ble_eq_true rfl) (AI ZM)) rfl ?_
    show JL _ _ _ _ _ [_, _, _, _, _]
    refine Z2 5 ?_
    have hbd : endN (eQ z0 (4*i + 18)) zz.length = 0 ↔ (4*i + 18) = z0.length := E4 hi8
    have hP : ¬ (4*i + 18) ≤ z0.length := fun h => (of_decide_eq_false hb20) (by rw [E5 h]; rfl)
    refine Z2 2 ?_
    refine AC (AJ 64 _ (I64 ((endN (eQ z0 (4*i + 18)) zz.length:Int))) (AH _ Tryd.call64 rfl) (fun w1 hw1 => rend_w aa zz.length cc (eQ z0 (4*i + 18)) w1 )) rfl ?_
    show JL _ _ _ _ ((111, I64 ((endN (eQ z0 (4*i + 18)) zz.length:Int))) :: _) [_, _, _, _, _]
    refine Z2 2 ?_
    refine D4 3 3 113 false _ rfl rfl (decide_eq_true (by rw [show eQ z0 (4*i + 18) = 2 from DJ hP, endN, if_neg ZD]; decide)) rfl (AE _ (CC _ rfl (decide_eq_true (by rw [show eQ z0 (4*i + 18) = 2 from DJ hP, endN, if_neg ZD]; decide)) rfl) rfl ?_)
    refine A1 (AK (A7 _ rfl rfl ?_))
    refine A4 (AO (AE (.agg (V5).toArray) Ze rfl ?_))
    refine AC (AB 0 nb1 28 _ 40 (V5) rfl rfl rfl DI ZS (AQ (AQ ZC A6) ZC) ZS (AI ZS)) rfl ?_
    show JL _ _ _ _ _ [_, _, _, _, _]
    refine Z2 5 ?_
    refine DR (.tuple #[.agg (V5).toArray, .bool false]) ZP fun w1 hw1 => ?_
    have hd1 : decide (((vQ z0 8 1).toNat:Int) = (1:Int)) = true := hb11
    have hR := RqR.k1 (kQT (k := 1) ZD hd1)
    have hne : (4*i + 18) ≠ z0.length := by omega
    exact ⟨_, _, rfl, .inr ⟨BadRq.of hR (fun e => absurd e ZO), rfl, _, _, _, _, _, _, _, _, _, rfl⟩, CS hw1 0 1 2 rfl rfl rfl ZD ZD ZD⟩
   have hp19 := of_decide_eq_false hb19
   refine Z2 6 ?_
   refine AY _ rfl rfl ?_
   refine Z2 7 ?_
   refine AC (AB 2 nb3 2 _ 107 ([SL aa zz.length cc, I64 ((eQ z0 (4*i + 18):Int))]) rfl rfl rfl AP rfl ZC (Nat.le_of_ble_eq_true rfl) (AI ZM)) rfl ?_
   show JL _ _ _ _ _ [_, _, _, _, _]
   refine Z2 5 ?_
   have hbd : endN (eQ z0 (4*i + 18)) zz.length = 0 ↔ (4*i + 18) = z0.length := E4 hi8
   have ei : i = mQ z0 := by omega
   subst hi3
   show JC _ _ _ _ [(Ez nb1 (V5) 40), (Ez nb2 ([U64 (vQ z0 0 8), I64 (((vQ z0 8 1).toNat:Int)), Slc gb 0 i cp, U64 0, I64 0, U64 0, U64 0, I64 0, SL none 0 0, SL none 0 0, U64 0] ++ cu8 (zr8 16) ++ [U64 (vQ z0 9 8)]) 40), (Ez nb3 [SL aa zz.length cc, I64 ((eQ z0 (4*i + 18):Int))] 107), (Ez nb5 [SL aa zz.length cc, I64 ((eQ z0 (4*i + 18):Int))] 107), (Ez gb (cu64 (ixQ z0 18 i) ++ sp) 22)]
   refine Z2 2 ?_
   refine AC (AJ 64 _ (I64 ((endN (eQ z0 (4*i + 18)) zz.length:Int))) (AH _ Tryd.call64 rfl) (fun w1 hw1 => rend_w aa zz.length cc (eQ z0 (4*i + 18)) w1 )) rfl ?_
   show JL _ _ _ _ ((111, I64 ((endN (eQ z0 (4*i + 18)) zz.length:Int))) :: _) [_, _, _, _, _]
   refine Z2 2 ?_
   rcases Bool.eq_false_or_eq_true (decide (((endN (eQ z0 (4*i + 18)) zz.length:Int)) ≠ (0:Int))) with hb24 | hb24
   ·
    have hp24 := of_decide_eq_true hb24
    refine Z2 6 ?_
    refine A7 _ rfl rfl ?_
    refine A4 (AO (AE (.agg (V5).toArray) Ze rfl ?_))
    refine AC (AB 0 nb1 28 _ 40 (V5) rfl rfl rfl DI ZS (AQ (AQ ZC A6) ZC) ZS (AI ZS)) rfl ?_
    show JL _ _ _ _ _ [_, _, _, _, _]
    refine Z2 5 ?_
    refine DR (.tuple #[.agg (V5).toArray, .bool false]) ZP fun w1 hw1 => ?_
    have hd1 : decide (((vQ z0 8 1).toNat:Int) = (1:Int)) = true := hb11
    have hR := RqR.k1 (kQT (k := 1) ZD hd1)
    have hne : (4*i + 18) ≠ z0.length := fun e => (of_decide_eq_true hb24) (by have h9 := hbd.2 e; omega)
    subst ei
    exact ⟨_, _, rfl, .inr ⟨BadRq.of hR (fun e => absurd e ZO), rfl, _, _, _, _, _, _, _, _, _, rfl⟩, CS hw1 0 1 2 rfl rfl rfl ZD ZD ZD⟩
   have hp24 := of_decide_eq_false hb24
   refine Z2 1 ?_
   refine B6 3 113 false _ rfl rfl hb24 (AJ 20 _ (.bool (reqR (((vQ z0 8 1).toNat:Int)) (ixQ z0 18 i) (0:UInt64) (0:Int) (vQ z0 9 8) (blankB (0:UInt64) (0:UInt64) (0:Int) ([] : List UInt64) ([] : List SealR) (0:UInt64) (zr8 16)) (decide (mayN (0:UInt64) (0:UInt64) (0:Int) ([] : List UInt64) ([] : List SealR) (0:UInt64) = 0)))) (AH _ Tryd.call20 rfl) (fun w1 hw1 => rrightReq_c (vQ z0 0 8) (((vQ z0 8 1).toNat:Int)) (some ⟨gb, 0, none⟩) i cp (ixQ z0 18 i) (0:UInt64) (0:Int) (0:UInt64) (0:UInt64) (0:Int) none 0 0 ([] : List UInt64) none 0 0 ([] : List SealR) (0:UInt64) (zr8 16) (vQ z0 9 8) w1 (E7 _ _ _) ZO ZO ZO (RdV.of hw1 (A0 4 rfl (AU (AG _)))) rfl ZO ZO ZO RdV.nil rfl ZO ZO ZO RdV.nil (AN 16) ZO ZO)) rfl ?_
   rintro v1 L1 ⟨rfl, rfl⟩
   show JL _ _ _ _ ((115, .bool (reqR (((vQ z0 8 1).toNat:Int)) (ixQ z0 18 i) (0:UInt64) (0:Int) (vQ z0 9 8) (blankB (0:UInt64) (0:UInt64) (0:Int) ([] : List UInt64) ([] : List SealR) (0:UInt64) (zr8 16)) (decide (mayN (0:UInt64) (0:UInt64) (0:Int) ([] : List UInt64) ([] : List SealR) (0:UInt64) = 0)))) :: _) [_, _, _, _, _]
   refine Z2 4 ?_
   refine AX (!(reqR (((vQ z0 8 1).toNat:Int)) (ixQ z0 18 i) (0:UInt64) (0:Int) (vQ z0 9 8) (blankB (0:UInt64) (0:UInt64) (0:Int) ([] : List UInt64) ([] : List SealR) (0:UInt64) (zr8 16)) (decide (mayN (0:UInt64) (0:UInt64) (0:Int) ([] : List UInt64) ([] : List SealR) (0:UInt64) = 0)))) rfl (fun hb25 => ?_) (fun hb25 => ?_)
   ·
    have hb26 : (reqR (((vQ z0 8 1).toNat:Int)) (ixQ z0 18 i) (0:UInt64) (0:Int) (vQ z0 9 8) (blankB (0:UInt64) (0:UInt64) (0:Int) ([] : List UInt64) ([] : List SealR) (0:UInt64) (zr8 16)) (decide (mayN (0:UInt64) (0:UInt64) (0:Int) ([] : List UInt64) ([] : List SealR) (0:UInt64) = 0))) = false := by simpa using hb25
    refine A4 (AO (AE (.agg (V5).toArray) Ze rfl ?_))
    refine AC (AB 0 nb1 28 _ 40 (V5) rfl rfl rfl DI ZS (AQ (AQ ZC A6) ZC) ZS (AI ZS)) rfl ?_
    show JL _ _ _ _ _ [_, _, _, _, _]
    refine Z2 5 ?_
    refine DR (.tuple #[.agg (V5).toArray, .bool false]) ZP fun w1 hw1 => ?_
    have hd1 : decide (((vQ z0 8 1).toNat:Int) = (1:Int)) = true := hb11
    have hR := RqR.k1 (kQT (k := 1) ZD hd1)
    have he : (4*i + 18) = z0.length := hbd.1 (by have h9 := of_decide_eq_false hb24; omega)
    subst ei
    exact ⟨_, _, rfl, .inr ⟨BadRq.of hR (fun _ => hb26), rfl, _, _, _, _, _, _, _, _, _, rfl⟩, CS hw1 0 1 2 rfl rfl rfl ZD ZD ZD⟩
   have hb27 : (reqR (((vQ z0 8 1).toNat:Int)) (ixQ z0 18 i) (0:UInt64) (0:Int) (vQ z0 9 8) (blankB (0:UInt64) (0:UInt64) (0:Int) ([] : List UInt64) ([] : List SealR) (0:UInt64) (zr8 16)) (decide (mayN (0:UInt64) (0:UInt64) (0:Int) ([] : List UInt64) ([] : List SealR) (0:UInt64) = 0))) = true := by simpa using hb25
   refine Z2 5 ?_
   refine AC (AB 0 nb1 28 _ 40 ([U64 (vQ z0 0 8), I64 (((vQ z0 8 1).toNat:Int)), Slc gb 0 i cp, U64 0, I64 0, U64 0, U64 0, I64 0, SL none 0 0, SL none 0 0, U64 0] ++ cu8 (zr8 16) ++ [U64 (vQ z0 9 8)]) rfl rfl rfl DI ZS (AQ (AQ ZC A6) ZC) ZS (AI ZS)) rfl ?_
   show JL _ _ _ _ _ [_, _, _, _, _]
   refine Z2 4 ?_
   refine DR (.tuple #[.agg ([U64 (vQ z0 0 8), I64 (((vQ z0 8 1).toNat:Int)), Slc gb 0 i cp, U64 0, I64 0, U64 0, U64 0, I64 0, SL none 0 0, SL none 0 0, U64 0] ++ cu8 (zr8 16) ++ [U64 (vQ z0 9 8)]).toArray, .bool true]) ZP fun w1 hw1 => ?_
   have hd1 : decide (((vQ z0 8 1).toNat:Int) = (1:Int)) = true := hb11
   have hR := RqR.k1 (kQT (k := 1) ZD hd1)
   have he : (4*i + 18) = z0.length := hbd.1 (by have h9 := of_decide_eq_false hb24; omega)
   subst ei
   have hz9 : 4*mQ z0 + 18 = z0.length := by omega
   rw [hz9] at hR
   exact ⟨_, _, rfl, .inl ⟨_, _, (mQ z0), _, _, _, _, _, _, 0, _, 0, _, _, _, _, _, _, _, (some ⟨gb, 0, none⟩), cp, _, _, _, none, 0, _, _, _, none, 0, ⟨hR, hb27⟩, (E7 _ _ _), rfl, rfl, (AN 16), (mQ_le z0), ZO, ZO, rfl, rfl, .inr ⟨rfl, _, rfl⟩, by first | omega | (unfold maxLen; omega), by first | omega | (unfold maxLen; omega), .inl rfl, by first | omega | (unfold maxLen; omega), by first | omega | (unfold maxLen; omega), .inl rfl, by first | omega | (unfold maxLen; omega), by first | omega | (unfold maxLen; omega)⟩, CS hw1 4 2 1 rfl rfl rfl ZD ZD ZD⟩
  have hp11 := of_decide_eq_false hb11
  refine Z2 6 ?_
  refine AX (decide ((((vQ z0 8 1).toNat:Int)) = (2:Int))) rfl (fun hb28 => ?_) (fun hb28 => ?_)
  ·
   have hp28 := of_decide_eq_true hb28
   refine Z2 3 ?_
   have hz6 : (zz3).length = zz3.length := rfl
   refine AF (A5 118 _ _ (AH _ CR rfl) (fun w1 hw1 => D6 17 4 ao3 zz3.length ca3 z0 zz3 w1 rfl ZO ZO ZO ((hA3 _ _ (hA2 _ _ (hA1 _ _ hr))).at (M' := []) hw1 ZM) hq3 ZU)) rfl ?_
   rintro v1 L1 ⟨_, ⟨rfl, ao7, zz7, ca7, hq7, ⟨hA7, hb29, hb30, hb31⟩, rfl⟩, rfl⟩
   show JL _ _ _ _ ((85, .tuple #[U64 (vQ z0 17 4), .agg #[SL ao7 zz7.length ca7, I64 ((eQ z0 21:Int))]]) :: _) [_, _, _, _]
   refine Z2 3 ?_
   refine AF (AS _ ([SL none 0 0, I64 0]) A3 ZR) rfl ?_
   rintro v1 L1 ⟨nb12, hnb12, rfl, rfl⟩
   show JL _ _ _ _ (_ :: _) [_, _, _, _, _]
   refine Z2 1 ?_
   refine AC (AB 4 nb12 2 _ 107 ([SL ao7 zz7.length ca7, I64 ((eQ z0 21:Int))]) rfl rfl rfl AP rfl ZC (Nat.le_of_ble_eq_true rfl) (AI ZM)) rfl ?_
   show JL _ _ _ _ _ [_, _, _, _, _]
   refine Z2 5 ?_
   have hz7 : (zz7).length = zz7.length := rfl
   refine AF (A5 118 _ _ (AH _ CR rfl) (fun w1 hw1 => D6 21 1 ao7 zz7.length ca7 z0 zz7 w1 rfl ZO ZO ZO ((hA7 _ _ (hA3 _ _ (hA2 _ _ (hA1 _ _ hr)))).at (M' := []) hw1 ZM) hq7 ZU)) rfl ?_
   rintro v1 L1 ⟨_, ⟨rfl, ao8, zz8, ca8, hq8, ⟨hA8, hb32, hb33, hb34⟩, rfl⟩, rfl⟩
   show JL _ _ _ _ ((90, .tuple #[U64 (vQ z0 21 1), .agg #[SL ao8 zz8.length ca8, I64 ((eQ z0 22:Int))]]) :: _) [_, _, _, _, _]
   refine Z2 4 ?_
   refine AC (AB 4 nb12 2 _ 107 ([SL ao8 zz8.length ca8, I64 ((eQ z0 22:Int))]) rfl rfl rfl AP rfl ZC (Nat.le_of_ble_eq_true rfl) (AI ZM)) rfl ?_
   show JL _ _ _ _ _ [_, _, _, _, _]
   refine Z2 5 ?_
   refine AC (AB 2 nb3 2 _ 107 ([SL ao8 zz8.length ca8, I64 ((eQ z0 22:Int))]) rfl rfl rfl AP rfl ZC (Nat.le_of_ble_eq_true rfl) (AI ZM)) rfl ?_
   show JL _ _ _ _ _ [_, _, _, _, _]
   refine Z2 6 ?_
   refine AC (BT 1 nb2 3 1 _ 40 (U64 (vQ z0 17 4)) ([U64 (vQ z0 17 4)]) (V1 (vQ z0 0 8) (((vQ z0 8 1).toNat:Int)) none 0 0 (vQ z0 17 4) 0 0 0 0 none 0 0 none 0 0 0 (zr8 16) (vQ z0 9 8)) rfl rfl rfl rfl BJ rfl ZC ZS (rfl)) rfl ?_
   show JL _ _ _ _ _ [_, _, _, _, _]
   refine Z2 4 ?_
   refine AE (I64 (((vQ z0 21 1).toNat:Int))) Ze rfl ?_
   refine AE (I64 (((vQ z0 21 1).toNat:Int) + 1)) (AT rfl rfl fun _ => BR _ _ (((vQ z0 21 1).toNat:Int) + 1) ZO ZO) rfl ?_
   refine Z2 1 ?_
   refine AC (BT 1 nb2 4 1 _ 40 (I64 (((vQ z0 21 1).toNat:Int) + 1)) ([I64 (((vQ z0 21 1).toNat:Int) + 1)]) (V1 (vQ z0 0 8) (((vQ z0 8 1).toNat:Int)) none 0 0 (vQ z0 17 4) (((vQ z0 21 1).toNat:Int) + 1) 0 0 0 none 0 0 none 0 0 0 (zr8 16) (vQ z0 9 8)) rfl rfl rfl rfl CZ rfl ZC ZS (rfl)) rfl ?_
   show JL _ _ _ _ _ [_, _, _, _, _]
   refine Z2 5 ?_
   have hbd : endN (eQ z0 22) zz8.length = 0 ↔ 22 = z0.length := E4 hq8
   refine Z2 2 ?_
   refine AC (AJ 64 _ (I64 ((endN (eQ z0 22) zz8.length:Int))) (AH _ Tryd.call64 rfl) (fun w1 hw1 => rend_w ao8 zz8.length ca8 (eQ z0 22) w1 )) rfl ?_
   show JL _ _ _ _ ((111, I64 ((endN (eQ z0 22) zz8.length:Int))) :: _) [_, _, _, _, _]
   refine Z2 2 ?_
   rcases Bool.eq_false_or_eq_true (decide (((endN (eQ z0 22) zz8.length:Int)) ≠ (0:Int))) with hb35 | hb35
   ·
    have hp35 := of_decide_eq_true hb35
    refine Z2 6 ?_
    refine A7 _ rfl rfl ?_
    refine A4 (AO (AE (.agg (V5).toArray) Ze rfl ?_))
    refine AC (AB 0 nb1 28 _ 40 (V5) rfl rfl rfl DI ZS (AQ (AQ ZC A6) ZC) ZS (AI ZS)) rfl ?_
    show JL _ _ _ _ _ [_, _, _, _, _]
    refine Z2 5 ?_
    refine DR (.tuple #[.agg (V5).toArray, .bool false]) ZP fun w1 hw1 => ?_
    have hd2 : decide (((vQ z0 8 1).toNat:Int) = (2:Int)) = true := hb28
    have hR := RqR.k2 (kQT (k := 2) ZD hd2)
    have hne : 22 ≠ z0.length := fun e => (of_decide_eq_true hb35) (by have h9 := hbd.2 e; omega)
    exact ⟨_, _, rfl, .inr ⟨BadRq.of hR (fun e => absurd e ZO), rfl, _, _, _, _, _, _, _, _, _, rfl⟩, CS hw1 0 1 2 rfl rfl rfl ZD ZD ZD⟩
   have hp35 := of_decide_eq_false hb35
   refine Z2 1 ?_
   refine B6 3 113 false _ rfl rfl hb35 (AJ 20 _ (.bool (reqR (((vQ z0 8 1).toNat:Int)) ([] : List UInt64) (vQ z0 17 4) (((vQ z0 21 1).toNat:Int) + 1) (vQ z0 9 8) (blankB (0:UInt64) (0:UInt64) (0:Int) ([] : List UInt64) ([] : List SealR) (0:UInt64) (zr8 16)) (decide (mayN (0:UInt64) (0:UInt64) (0:Int) ([] : List UInt64) ([] : List SealR) (0:UInt64) = 0)))) (AH _ Tryd.call20 rfl) (fun w1 hw1 => rrightReq_c (vQ z0 0 8) (((vQ z0 8 1).toNat:Int)) none 0 0 ([] : List UInt64) (vQ z0 17 4) (((vQ z0 21 1).toNat:Int) + 1) (0:UInt64) (0:UInt64) (0:Int) none 0 0 ([] : List UInt64) none 0 0 ([] : List SealR) (0:UInt64) (zr8 16) (vQ z0 9 8) w1 rfl ZO ZO ZO RdV.nil rfl ZO ZO ZO RdV.nil rfl ZO ZO ZO RdV.nil (AN 16) ZO ZO)) rfl ?_
   rintro v1 L1 ⟨rfl, rfl⟩
   show JL _ _ _ _ ((115, .bool (reqR (((vQ z0 8 1).toNat:Int)) ([] : List UInt64) (vQ z0 17 4) (((vQ z0 21 1).toNat:Int) + 1) (vQ z0 9 8) (blankB (0:UInt64) (0:UInt64) (0:Int) ([] : List UInt64) ([] : List SealR) (0:UInt64) (zr8 16)) (decide (mayN (0:UInt64) (0:UInt64) (0:Int) ([] : List UInt64) ([] : List SealR) (0:UInt64) = 0)))) :: _) [_, _, _, _, _]
   refine Z2 4 ?_
   refine AX (!(reqR (((vQ z0 8 1).toNat:Int)) ([] : List UInt64) (vQ z0 17 4) (((vQ z0 21 1).toNat:Int) + 1) (vQ z0 9 8) (blankB (0:UInt64) (0:UInt64) (0:Int) ([] : List UInt64) ([] : List SealR) (0:UInt64) (zr8 16)) (decide (mayN (0:UInt64) (0:UInt64) (0:Int) ([] : List UInt64) ([] : List SealR) (0:UInt64) = 0)))) rfl (fun hb36 => ?_) (fun hb36 => ?_)
   ·
    have hb37 : (reqR (((vQ z0 8 1).toNat:Int)) ([] : List UInt64) (vQ z0 17 4) (((vQ z0 21 1).toNat:Int) + 1) (vQ z0 9 8) (blankB (0:UInt64) (0:UInt64) (0:Int) ([] : List UInt64) ([] : List SealR) (0:UInt64) (zr8 16)) (decide (mayN (0:UInt64) (0:UInt64) (0:Int) ([] : List UInt64) ([] : List SealR) (0:UInt64) = 0))) = false := by simpa using hb36
    refine A4 (AO (AE (.agg (V5).toArray) Ze rfl ?_))
    refine AC (AB 0 nb1 28 _ 40 (V5) rfl rfl rfl DI ZS (AQ (AQ ZC A6) ZC) ZS (AI ZS)) rfl ?_
    show JL _ _ _ _ _ [_, _, _, _, _]
    refine Z2 5 ?_
    refine DR (.tuple #[.agg (V5).toArray, .bool false]) ZP fun w1 hw1 => ?_
    have hd2 : decide (((vQ z0 8 1).toNat:Int) = (2:Int)) = true := hb28
    have hR := RqR.k2 (kQT (k := 2) ZD hd2)
    have he : 22 = z0.length := hbd.1 (by have h9 := of_decide_eq_false hb35; omega)
    exact ⟨_, _, rfl, .inr ⟨BadRq.of hR (fun _ => hb37), rfl, _, _, _, _, _, _, _, _, _, rfl⟩, CS hw1 0 1 2 rfl rfl rfl ZD ZD ZD⟩
   have hb38 : (reqR (((vQ z0 8 1).toNat:Int)) ([] : List UInt64) (vQ z0 17 4) (((vQ z0 21 1).toNat:Int) + 1) (vQ z0 9 8) (blankB (0:UInt64) (0:UInt64) (0:Int) ([] : List UInt64) ([] : List SealR) (0:UInt64) (zr8 16)) (decide (mayN (0:UInt64) (0:UInt64) (0:Int) ([] : List UInt64) ([] : List SealR) (0:UInt64) = 0))) = true := by simpa using hb36
   refine Z2 5 ?_
   refine AC (AB 0 nb1 28 _ 40 (V1 (vQ z0 0 8) (((vQ z0 8 1).toNat:Int)) none 0 0 (vQ z0 17 4) (((vQ z0 21 1).toNat:Int) + 1) 0 0 0 none 0 0 none 0 0 0 (zr8 16) (vQ z0 9 8)) rfl rfl rfl DI ZS (AQ (AQ ZC A6) ZC) ZS (AI ZS)) rfl ?_
   show JL _ _ _ _ _ [_, _, _, _, _]
   refine Z2 4 ?_
   refine DR (.tuple #[.agg (V1 (vQ z0 0 8) (((vQ z0 8 1).toNat:Int)) none 0 0 (vQ z0 17 4) (((vQ z0 21 1).toNat:Int) + 1) 0 0 0 none 0 0 none 0 0 0 (zr8 16) (vQ z0 9 8)).toArray, .bool true]) ZP fun w1 hw1 => ?_
   have hd2 : decide (((vQ z0 8 1).toNat:Int) = (2:Int)) = true := hb28
   have hR := RqR.k2 (kQT (k := 2) ZD hd2)
   have he : 22 = z0.length := hbd.1 (by have h9 := of_decide_eq_false hb35; omega)
   have hz9 : 22 = z0.length := by omega
   rw [hz9] at hR
   exact ⟨_, _, rfl, .inl ⟨_, _, 0, _, _, _, _, _, _, 0, _, 0, _, _, _, _, _, _, _, none, 0, _, _, _, none, 0, _, _, _, none, 0, ⟨hR, hb38⟩, rfl, rfl, rfl, (AN 16), ZO, ZO, ZO, rfl, rfl, .inl rfl, by first | omega | (unfold maxLen; omega), by first | omega | (unfold maxLen; omega), .inl rfl, by first | omega | (unfold maxLen; omega), by first | omega | (unfold maxLen; omega), .inl rfl, by first | omega | (unfold maxLen; omega), by first | omega | (unfold maxLen; omega)⟩, CS hw1 2 1 0 rfl rfl rfl ZD ZD ZD⟩
  have hp28 := of_decide_eq_false hb28
  refine Z2 6 ?_
  refine AY _ rfl (decide_eq_false (by have h9 := of_decide_eq_true hb7; omega)) ?_
  refine Z2 5 ?_
  have hbd : endN (eQ z0 17) zz3.length = 0 ↔ 17 = z0.length := E4 hq3
  refine Z2 2 ?_
  refine AC (AJ 64 _ (I64 ((endN (eQ z0 17) zz3.length:Int))) (AH _ Tryd.call64 rfl) (fun w1 hw1 => rend_w ao3 zz3.length ca3 (eQ z0 17) w1 )) rfl ?_
  show JL _ _ _ _ ((111, I64 ((endN (eQ z0 17) zz3.length:Int))) :: _) [_, _, _, _]
  refine Z2 2 ?_
  rcases Bool.eq_false_or_eq_true (decide (((endN (eQ z0 17) zz3.length:Int)) ≠ (0:Int))) with hb39 | hb39
  ·
   have hp39 := of_decide_eq_true hb39
   refine Z2 6 ?_
   refine A7 _ rfl rfl ?_
   refine A4 (AO (AE (.agg (V5).toArray) Ze rfl ?_))
   refine AC (AB 0 nb1 28 _ 40 (V5) rfl rfl rfl DI ZS (AQ (AQ ZC A6) ZC) ZS (AI ZS)) rfl ?_
   show JL _ _ _ _ _ [_, _, _, _]
   refine Z2 5 ?_
   refine DR (.tuple #[.agg (V5).toArray, .bool false]) ZP fun w1 hw1 => ?_
   have hd3 : decide (((vQ z0 8 1).toNat:Int) = (3:Int)) = false := (decide_eq_false (by have h9 := of_decide_eq_true hb7; omega))
   have hd1 : decide (((vQ z0 8 1).toNat:Int) = (1:Int)) = false := hb11
   have hd2 : decide (((vQ z0 8 1).toNat:Int) = (2:Int)) = false := hb28
   have hR := RqR.k0 (kQF (k := 3) ZD hd3) (kQF (k := 1) ZD hd1) (kQF (k := 2) ZD hd2)
   have hne : 17 ≠ z0.length := fun e => (of_decide_eq_true hb39) (by have h9 := hbd.2 e; omega)
   exact ⟨_, _, rfl, .inr ⟨BadRq.of hR (fun e => absurd e ZO), rfl, _, _, _, _, _, _, _, _, _, rfl⟩, CS hw1 0 1 2 rfl rfl rfl ZD ZD ZD⟩
  have hp39 := of_decide_eq_false hb39
  refine Z2 1 ?_
  refine B6 3 113 false _ rfl rfl hb39 (AJ 20 _ (.bool (reqR (((vQ z0 8 1).toNat:Int)) ([] : List UInt64) (0:UInt64) (0:Int) (vQ z0 9 8) (blankB (0:UInt64) (0:UInt64) (0:Int) ([] : List UInt64) ([] : List SealR) (0:UInt64) (zr8 16)) (decide (mayN (0:UInt64) (0:UInt64) (0:Int) ([] : List UInt64) ([] : List SealR) (0:UInt64) = 0)))) (AH _ Tryd.call20 rfl) (fun w1 hw1 => rrightReq_c (vQ z0 0 8) (((vQ z0 8 1).toNat:Int)) none 0 0 ([] : List UInt64) (0:UInt64) (0:Int) (0:UInt64) (0:UInt64) (0:Int) none 0 0 ([] : List UInt64) none 0 0 ([] : List SealR) (0:UInt64) (zr8 16) (vQ z0 9 8) w1 rfl ZO ZO ZO RdV.nil rfl ZO ZO ZO RdV.nil rfl ZO ZO ZO RdV.nil (AN 16) ZO ZO)) rfl ?_
  rintro v1 L1 ⟨rfl, rfl⟩
  show JL _ _ _ _ ((115, .bool (reqR (((vQ z0 8 1).toNat:Int)) ([] : List UInt64) (0:UInt64) (0:Int) (vQ z0 9 8) (blankB (0:UInt64) (0:UInt64) (0:Int) ([] : List UInt64) ([] : List SealR) (0:UInt64) (zr8 16)) (decide (mayN (0:UInt64) (0:UInt64) (0:Int) ([] : List UInt64) ([] : List SealR) (0:UInt64) = 0)))) :: _) [_, _, _, _]
  refine Z2 4 ?_
  refine AX (!(reqR (((vQ z0 8 1).toNat:Int)) ([] : List UInt64) (0:UInt64) (0:Int) (vQ z0 9 8) (blankB (0:UInt64) (0:UInt64) (0:Int) ([] : List UInt64) ([] : List SealR) (0:UInt64) (zr8 16)) (decide (mayN (0:UInt64) (0:UInt64) (0:Int) ([] : List UInt64) ([] : List SealR) (0:UInt64) = 0)))) rfl (fun hb40 => ?_) (fun hb40 => ?_)
  ·
   have hb41 : (reqR (((vQ z0 8 1).toNat:Int)) ([] : List UInt64) (0:UInt64) (0:Int) (vQ z0 9 8) (blankB (0:UInt64) (0:UInt64) (0:Int) ([] : List UInt64) ([] : List SealR) (0:UInt64) (zr8 16)) (decide (mayN (0:UInt64) (0:UInt64) (0:Int) ([] : List UInt64) ([] : List SealR) (0:UInt64) = 0))) = false := by simpa using hb40
   refine A4 (AO (AE (.agg (V5).toArray) Ze rfl ?_))
   refine AC (AB 0 nb1 28 _ 40 (V5) rfl rfl rfl DI ZS (AQ (AQ ZC A6) ZC) ZS (AI ZS)) rfl ?_
   show JL _ _ _ _ _ [_, _, _, _]
   refine Z2 5 ?_
   refine DR (.tuple #[.agg (V5).toArray, .bool false]) ZP fun w1 hw1 => ?_
   have hd3 : decide (((vQ z0 8 1).toNat:Int) = (3:Int)) = false := (decide_eq_false (by have h9 := of_decide_eq_true hb7; omega))
   have hd1 : decide (((vQ z0 8 1).toNat:Int) = (1:Int)) = false := hb11
   have hd2 : decide (((vQ z0 8 1).toNat:Int) = (2:Int)) = false := hb28
   have hR := RqR.k0 (kQF (k := 3) ZD hd3) (kQF (k := 1) ZD hd1) (kQF (k := 2) ZD hd2)
   have he : 17 = z0.length := hbd.1 (by have h9 := of_decide_eq_false hb39; omega)
   exact ⟨_, _, rfl, .inr ⟨BadRq.of hR (fun _ => hb41), rfl, _, _, _, _, _, _, _, _, _, rfl⟩, CS hw1 0 1 2 rfl rfl rfl ZD ZD ZD⟩
  have hb42 : (reqR (((vQ z0 8 1).toNat:Int)) ([] : List UInt64) (0:UInt64) (0:Int) (vQ z0 9 8) (blankB (0:UInt64) (0:UInt64) (0:Int) ([] : List UInt64) ([] : List SealR) (0:UInt64) (zr8 16)) (decide (mayN (0:UInt64) (0:UInt64) (0:Int) ([] : List UInt64) ([] : List SealR) (0:UInt64) = 0))) = true := by simpa using hb40
  refine Z2 5 ?_
  refine AC (AB 0 nb1 28 _ 40 (V1 (vQ z0 0 8) (((vQ z0 8 1).toNat:Int)) none 0 0 0 0 0 0 0 none 0 0 none 0 0 0 (zr8 16) (vQ z0 9 8)) rfl rfl rfl DI ZS (AQ (AQ ZC A6) ZC) ZS (AI ZS)) rfl ?_
  show JL _ _ _ _ _ [_, _, _, _]
  refine Z2 4 ?_
  refine DR (.tuple #[.agg (V1 (vQ z0 0 8) (((vQ z0 8 1).toNat:Int)) none 0 0 0 0 0 0 0 none 0 0 none 0 0 0 (zr8 16) (vQ z0 9 8)).toArray, .bool true]) ZP fun w1 hw1 => ?_
  have hd3 : decide (((vQ z0 8 1).toNat:Int) = (3:Int)) = false := (decide_eq_false (by have h9 := of_decide_eq_true hb7; omega))
  have hd1 : decide (((vQ z0 8 1).toNat:Int) = (1:Int)) = false := hb11
  have hd2 : decide (((vQ z0 8 1).toNat:Int) = (2:Int)) = false := hb28
  have hR := RqR.k0 (kQF (k := 3) ZD hd3) (kQF (k := 1) ZD hd1) (kQF (k := 2) ZD hd2)
  have he : 17 = z0.length := hbd.1 (by have h9 := of_decide_eq_false hb39; omega)
  have hz9 : 17 = z0.length := by omega
  rw [hz9] at hR
  exact ⟨_, _, rfl, .inl ⟨_, _, 0, _, _, _, _, _, _, 0, _, 0, _, _, _, _, _, _, _, none, 0, _, _, _, none, 0, _, _, _, none, 0, ⟨hR, hb42⟩, rfl, rfl, rfl, (AN 16), ZO, ZO, ZO, rfl, rfl, .inl rfl, by first | omega | (unfold maxLen; omega), by first | omega | (unfold maxLen; omega), .inl rfl, by first | omega | (unfold maxLen; omega), by first | omega | (unfold maxLen; omega), .inl rfl, by first | omega | (unfold maxLen; omega), by first | omega | (unfold maxLen; omega)⟩, CS hw1 2 1 0 rfl rfl rfl ZD ZD ZD⟩
 have hp7 := of_decide_eq_false hb7
 refine Z2 16 ?_
 refine AY _ rfl (decide_eq_false (by have h9 := of_decide_eq_false hb7; omega)) ?_
 refine Z2 6 ?_
 refine AY _ rfl (decide_eq_false (by have h9 := of_decide_eq_false hb7; omega)) ?_
 refine Z2 6 ?_
 refine A7 _ rfl (decide_eq_true (by have h9 := of_decide_eq_false hb7; omega)) ?_
 refine Z2 3 ?_
 refine AF (A5 58 _ _ (AH _ Tryd.call58 rfl) (fun w1 hw1 => rreadU_w 9 ao2 zz2.length ca2 z0 zz2 w1 rfl ZO ZO ZO ((hA2 _ _ (hA1 _ _ hr)).at (M' := []) hw1 ZM) hq2)) rfl ?_
 rintro v1 L1 ⟨_, ⟨tv1, te1, tk1, tn1, tl1, tm1, ts1, tb1, tg1, tt1, tq1, ao9, zz9, ca9, ng1, cs1, nT1, na1, nc1, ng2, cs2, nT2, na2, nc2, hT1, hpq1, hc1, hc2, hc3, hc4, hc5, hq9, ⟨hA9, hb43, hb44, hb45⟩, rfl, rfl, hc6, hc7, hc8, hc9, hc10, hc11⟩, rfl⟩
 show JL _ _ _ _ ((104, .tuple #[.agg (V2 tv1 te1 (tk1) na1 tn1 nc1 na2 tm1 nc2 tb1 tg1).toArray, .agg #[SL ao9 zz9.length ca9, I64 ((eQ z0 tq1:Int))]]) :: _) [_, _, _, (Ez ng1 cs1 nT1), (Ez ng2 cs2 nT2)]
 refine Z2 3 ?_
 refine AF (AS _ (V4) Tryd.zeroValue38 ZR) rfl ?_
 rintro v1 L1 ⟨nb13, hnb13, rfl, rfl⟩
 show JL _ _ _ _ (_ :: _) [_, _, _, _, _, _]
 refine AF (AS _ ([SL none 0 0, I64 0]) A3 ZR) rfl ?_
 rintro v1 L1 ⟨nb14, hnb14, rfl, rfl⟩
 show JL _ _ _ _ (_ :: _) [_, _, _, _, _, _, _]
 refine AC (AB 5 nb13 22 _ 38 (V2 tv1 te1 (tk1) na1 tn1 nc1 na2 tm1 nc2 tb1 tg1) rfl rfl rfl B8 (by simp [hc3]) (AQ ZC A6) ZS (AI (by simp [(AN 16), hc3]))) rfl ?_
 show JL _ _ _ _ _ [_, _, _, _, _, _, _]
 refine AC (AB 6 nb14 2 _ 107 ([SL ao9 zz9.length ca9, I64 ((eQ z0 tq1:Int))]) rfl rfl rfl AP rfl ZC (Nat.le_of_ble_eq_true rfl) (AI ZM)) rfl ?_
 show JL _ _ _ _ _ [_, _, _, _, _, _, _]
 refine Z2 5 ?_
 refine AC (AB 2 nb3 2 _ 107 ([SL ao9 zz9.length ca9, I64 ((eQ z0 tq1:Int))]) rfl rfl rfl AP rfl ZC (Nat.le_of_ble_eq_true rfl) (AI ZM)) rfl ?_
 show JL _ _ _ _ _ [_, _, _, _, _, _, _]
 refine Z2 5 ?_
 refine AC (BT 1 nb2 5 22 _ 40 (.agg (V2 tv1 te1 (tk1) na1 tn1 nc1 na2 tm1 nc2 tb1 tg1).toArray) (V2 tv1 te1 (tk1) na1 tn1 nc1 na2 tm1 nc2 tb1 tg1) (V1 (vQ z0 0 8) (((vQ z0 8 1).toNat:Int)) none 0 0 0 0 tv1 te1 (tk1) na1 tn1 nc1 na2 tm1 nc2 tb1 tg1 0) rfl rfl rfl (by first | rfl | simp) B8 (by simp [hc3]) (AQ ZC A6) ZS (FL (a := [U64 (vQ z0 0 8), I64 (((vQ z0 8 1).toNat:Int)), SL none 0 0, U64 0, I64 0]) (b := V4) (c := [U64 0]) (by simp only [List.append_assoc, List.cons_append, List.nil_append, List.append_nil]) (by simp [(AN 16), hc3]) (by simp [(AN 16), hc3]) (by simp only [List.append_assoc, List.cons_append, List.nil_append, List.append_nil]))) rfl ?_
 show JL _ _ _ _ _ [_, _, _, _, _, _, _]
 refine Z2 5 ?_
 have hbd : endN (eQ z0 tq1) zz9.length = 0 ↔ tq1 = z0.length := E4 hq9
 refine Z2 2 ?_
 refine AC (AJ 64 _ (I64 ((endN (eQ z0 tq1) zz9.length:Int))) (AH _ Tryd.call64 rfl) (fun w1 hw1 => rend_w ao9 zz9.length ca9 (eQ z0 tq1) w1 )) rfl ?_
 show JL _ _ _ _ ((111, I64 ((endN (eQ z0 tq1) zz9.length:Int))) :: _) [_, _, _, _, _, _, _]
 refine Z2 2 ?_
 rcases Bool.eq_false_or_eq_true (decide (((endN (eQ z0 tq1) zz9.length:Int)) ≠ (0:Int))) with hb46 | hb46
 ·
  have hp46 := of_decide_eq_true hb46
  refine Z2 6 ?_
  refine A7 _ rfl rfl ?_
  refine A4 (AO (AE (.agg (V5).toArray) Ze rfl ?_))
  refine AC (AB 0 nb1 28 _ 40 (V5) rfl rfl rfl DI ZS (AQ (AQ ZC A6) ZC) ZS (AI ZS)) rfl ?_
  show JL _ _ _ _ _ [_, _, _, _, _, _, _]
  refine Z2 5 ?_
  refine DR (.tuple #[.agg (V5).toArray, .bool false]) ZP fun w1 hw1 => ?_
  have hd3 : decide (((vQ z0 8 1).toNat:Int) = (3:Int)) = true := (decide_eq_true (by have h9 := of_decide_eq_false hb7; omega))
  have hR := RqR.k3 (kQT (k := 3) ZD hd3) hT1
  have hne : tq1 ≠ z0.length := fun e => (of_decide_eq_true hb46) (by have h9 := hbd.2 e; omega)
  exact ⟨_, _, rfl, .inr ⟨BadRq.of hR (fun e => absurd e ZO), rfl, _, _, _, _, _, _, _, _, _, rfl⟩, CS hw1 0 1 2 rfl rfl rfl ZD ZD ZD⟩
 have hp46 := of_decide_eq_false hb46
 refine Z2 1 ?_
 refine B6 3 113 false _ rfl rfl hb46 (AJ 20 _ (.bool (reqR (((vQ z0 8 1).toNat:Int)) ([] : List UInt64) (0:UInt64) (0:Int) (0:UInt64) (blankB tv1 te1 (tk1) tl1 ts1 tb1 tg1) (decide (mayN tv1 te1 (tk1) tl1 ts1 tb1 = 0)))) (AH _ Tryd.call20 rfl) (fun w1 hw1 => rrightReq_c (vQ z0 0 8) (((vQ z0 8 1).toNat:Int)) none 0 0 ([] : List UInt64) (0:UInt64) (0:Int) tv1 te1 (tk1) na1 tn1 nc1 tl1 na2 tm1 nc2 ts1 tb1 tg1 (0:UInt64) w1 rfl ZO ZO ZO RdV.nil hc1 ZO ZO ZO (Gh.at hw1 3 rfl hc6) hc2 ZO ZO ZO (Gh.at hw1 4 rfl hc9) hc3 ZO ZO)) rfl ?_
 rintro v1 L1 ⟨rfl, rfl⟩
 show JL _ _ _ _ ((115, .bool (reqR (((vQ z0 8 1).toNat:Int)) ([] : List UInt64) (0:UInt64) (0:Int) (0:UInt64) (blankB tv1 te1 (tk1) tl1 ts1 tb1 tg1) (decide (mayN tv1 te1 (tk1) tl1 ts1 tb1 = 0)))) :: _) [_, _, _, _, _, _, _]
 refine Z2 4 ?_
 refine AX (!(reqR (((vQ z0 8 1).toNat:Int)) ([] : List UInt64) (0:UInt64) (0:Int) (0:UInt64) (blankB tv1 te1 (tk1) tl1 ts1 tb1 tg1) (decide (mayN tv1 te1 (tk1) tl1 ts1 tb1 = 0)))) rfl (fun hb47 => ?_) (fun hb47 => ?_)
 ·
  have hb48 : (reqR (((vQ z0 8 1).toNat:Int)) ([] : List UInt64) (0:UInt64) (0:Int) (0:UInt64) (blankB tv1 te1 (tk1) tl1 ts1 tb1 tg1) (decide (mayN tv1 te1 (tk1) tl1 ts1 tb1 = 0))) = false := by simpa using hb47
  refine A4 (AO (AE (.agg (V5).toArray) Ze rfl ?_))
  refine AC (AB 0 nb1 28 _ 40 (V5) rfl rfl rfl DI ZS (AQ (AQ ZC A6) ZC) ZS (AI ZS)) rfl ?_
  show JL _ _ _ _ _ [_, _, _, _, _, _, _]
  refine Z2 5 ?_
  refine DR (.tuple #[.agg (V5).toArray, .bool false]) ZP fun w1 hw1 => ?_
  have hd3 : decide (((vQ z0 8 1).toNat:Int) = (3:Int)) = true := (decide_eq_true (by have h9 := of_decide_eq_false hb7; omega))
  have hR := RqR.k3 (kQT (k := 3) ZD hd3) hT1
  have he : tq1 = z0.length := hbd.1 (by have h9 := of_decide_eq_false hb46; omega)
  exact ⟨_, _, rfl, .inr ⟨BadRq.of hR (fun _ => hb48), rfl, _, _, _, _, _, _, _, _, _, rfl⟩, CS hw1 0 1 2 rfl rfl rfl ZD ZD ZD⟩
 have hb49 : (reqR (((vQ z0 8 1).toNat:Int)) ([] : List UInt64) (0:UInt64) (0:Int) (0:UInt64) (blankB tv1 te1 (tk1) tl1 ts1 tb1 tg1) (decide (mayN tv1 te1 (tk1) tl1 ts1 tb1 = 0))) = true := by simpa using hb47
 refine Z2 5 ?_
 refine AC (AB 0 nb1 28 _ 40 (V1 (vQ z0 0 8) (((vQ z0 8 1).toNat:Int)) none 0 0 0 0 tv1 te1 (tk1) na1 tn1 nc1 na2 tm1 nc2 tb1 tg1 0) rfl rfl rfl DI (by simp [hc3]) (AQ (AQ ZC A6) ZC) ZS (AI (by simp [(AN 16), hc3]))) rfl ?_
 show JL _ _ _ _ _ [_, _, _, _, _, _, _]
 refine Z2 4 ?_
 refine DR (.tuple #[.agg (V1 (vQ z0 0 8) (((vQ z0 8 1).toNat:Int)) none 0 0 0 0 tv1 te1 (tk1) na1 tn1 nc1 na2 tm1 nc2 tb1 tg1 0).toArray, .bool true]) ZP fun w1 hw1 => ?_
 have hd3 : decide (((vQ z0 8 1).toNat:Int) = (3:Int)) = true := (decide_eq_true (by have h9 := of_decide_eq_false hb7; omega))
 have hR := RqR.k3 (kQT (k := 3) ZD hd3) hT1
 have he : tq1 = z0.length := hbd.1 (by have h9 := of_decide_eq_false hb46; omega)
 have hz9 : 9 + tt1 = z0.length := by omega
 rw [hz9] at hR
 exact ⟨_, _, rfl, .inl ⟨_, _, 0, _, _, _, _, _, _, tn1, _, tm1, _, _, _, _, _, _, _, none, 0, _, _, _, na1, nc1, _, _, _, na2, nc2, ⟨hR, hb49⟩, rfl, hc1, hc2, hc3, ZO, hc4, hc5, rfl, rfl, .inl rfl, by first | omega | (unfold maxLen; omega), by first | omega | (unfold maxLen; omega), hc6, by first | omega | (unfold maxLen; omega), by first | omega | (unfold maxLen; omega), hc9, by first | omega | (unfold maxLen; omega), by first | omega | (unfold maxLen; omega)⟩, CS hw1 2 3 4 rfl rfl rfl ZD ZD ZD⟩
theorem rparp_c (ax : Option Addr) (n c : Nat) (z0 : List UInt8)  (w : World) (hz : z0.length = n) (hn : n ≤ 200000) (hc : n ≤ c) (hcm : c ≤ maxLen) (hr : RdB w [] ax z0)  : Calls Tryd.prog 56 #[SL ax n c] w (Post w [] (fun v L => (∃ rq rk er nj lj th pv ep kd ni l ns ls bl tg na xa nb xb g0 cs0 T0 a0 c0 g1 cs1 T1 a1 c1 g2 cs2 T2 a2 c2 g3 cs3 T3 a3 c3 g4 cs4 T4 a4 c4, GRp z0 rq rk er lj th pv ep kd l ls bl tg na xa nb xb ∧ lj.length = nj ∧ l.length = ni ∧ ls.length = ns ∧ tg.length = 16 ∧ nj ≤ 256 ∧ ni ≤ 256 ∧ ns ≤ 256 ∧ xa.length = na*32 ∧ xb.length = nb*32 ∧ v = .tuple #[.agg (V0 rq rk er a0 nj c0 th pv ep kd a1 ni c1 a2 ns c2 bl tg a3 na c3 a4 nb c4).toArray, .bool true] ∧ L = [(Ez g0 cs0 T0), (Ez g1 cs1 T1), (Ez g2 cs2 T2), (Ez g3 cs3 T3), (Ez g4 cs4 T4)] ∧ Gh (lj.flatMap itemC) g0 cs0 a0 ∧ nj ≤ c0 ∧ c0 ≤ maxLen ∧ Gh (cu64 l) g1 cs1 a1 ∧ ni ≤ c1 ∧ c1 ≤ maxLen ∧ Gh (ls.flatMap sealC) g2 cs2 a2 ∧ ns ≤ c2 ∧ c2 ≤ maxLen ∧ Gh (cu8 xa) g3 cs3 a3 ∧ na ≤ c3 ∧ c3 ≤ maxLen ∧ Gh (cu8 xb) g4 cs4 a4 ∧ nb ≤ c4 ∧ c4 ≤ maxLen) ∨ (BadRp z0 ∧ v = .tuple #[.agg (V6).toArray, .bool false] ∧ ∃ g0 cs0 T0 g1 cs1 T1 g2 cs2 T2 g3 cs3 T3 g4 cs4 T4, L = [(Ez g0 cs0 T0), (Ez g1 cs1 T1), (Ez g2 cs2 T2), (Ez g3 cs3 T3), (Ez g4 cs4 T4)]))) := by
 have hmx : maxLen = 9223372036854775807 := rfl
 have hk8 := E6 z0 8
 have hk9 := E6 z0 9
 have hk10 := E6 z0 10
 have hnI : nI z0 = (vQ z0 10 1).toNat + 1 := rfl
 refine enter w [] 153 [] [SL ax n c] Tryd.func56 rfl rfl ZM (A2 ZM ZM ZM) ?_
 show JC _ _ _ [(0, SL ax n c)] _
 refine A4 (AO (AF (AS _ (V6) Tryd.zeroValue71 ZR) rfl ?_))
 rintro v1 L1 ⟨nb1, hnb1, rfl, rfl⟩
 show JL _ _ _ _ (_ :: _) [_]
 refine Z2 5 ?_
 refine AF (AS _ (V6) Tryd.zeroValue71 ZR) rfl ?_
 rintro v1 L1 ⟨nb2, hnb2, rfl, rfl⟩
 show JL _ _ _ _ (_ :: _) [_, _]
 refine Z2 5 ?_
 refine AE (.agg #[SL ax n c, I64 0]) (DN [(0, SL ax n c)] _ rfl (fun _ => bld107_0 rfl)) rfl ?_
 refine AF (AS _ ([SL none 0 0, I64 0]) A3 ZR) rfl ?_
 rintro v1 L1 ⟨nb3, hnb3, rfl, rfl⟩
 show JL _ _ _ _ (_ :: _) [_, _, _]
 refine AC (AB 2 nb3 2 _ 107 ([SL ax n c, I64 0]) rfl rfl rfl AP rfl ZC (Nat.le_of_ble_eq_true rfl) (AI ZM)) rfl ?_
 show JL _ _ _ _ _ [_, _, _]
 refine Z2 5 ?_
 refine AF (A5 118 _ _ (AH _ CR rfl) (fun w1 hw1 => rreadZ_w 8 ax n c z0 w1 hz ZO ZO ZO (hr.at (M' := []) hw1 ZM) ZU)) rfl ?_
 rintro v1 L1 ⟨_, ⟨rfl, ao1, zz1, ca1, hq1, ⟨hA1, hb1, hb2, hb3⟩, rfl⟩, rfl⟩
 show JL _ _ _ _ ((29, .tuple #[U64 (vQ z0 0 8), .agg #[SL ao1 zz1.length ca1, I64 ((eQ z0 8:Int))]]) :: _) [_, _, _]
 refine Z2 4 ?_
 refine AC (AB 2 nb3 2 _ 107 ([SL ao1 zz1.length ca1, I64 ((eQ z0 8:Int))]) rfl rfl rfl AP rfl ZC (Nat.le_of_ble_eq_true rfl) (AI ZM)) rfl ?_
 show JL _ _ _ _ _ [_, _, _]
 refine Z2 5 ?_
 have hz1 : (zz1).length = zz1.length := rfl
 refine AF (A5 118 _ _ (AH _ CR rfl) (fun w1 hw1 => D6 8 1 ao1 zz1.length ca1 z0 zz1 w1 rfl ZO ZO ZO ((hA1 _ _ hr).at (M' := []) hw1 ZM) hq1 ZU)) rfl ?_
 rintro v1 L1 ⟨_, ⟨rfl, ao2, zz2, ca2, hq2, ⟨hA2, hb4, hb5, hb6⟩, rfl⟩, rfl⟩
 show JL _ _ _ _ ((34, .tuple #[U64 (vQ z0 8 1), .agg #[SL ao2 zz2.length ca2, I64 ((eQ z0 9:Int))]]) :: _) [_, _, _]
 refine Z2 4 ?_
 refine AC (AB 2 nb3 2 _ 107 ([SL ao2 zz2.length ca2, I64 ((eQ z0 9:Int))]) rfl rfl rfl AP rfl ZC (Nat.le_of_ble_eq_true rfl) (AI ZM)) rfl ?_
 show JL _ _ _ _ _ [_, _, _]
 refine Z2 5 ?_
 have hz2 : (zz2).length = zz2.length := rfl
 refine AF (A5 118 _ _ (AH _ CR rfl) (fun w1 hw1 => D6 9 1 ao2 zz2.length ca2 z0 zz2 w1 rfl ZO ZO ZO ((hA2 _ _ (hA1 _ _ hr)).at (M' := []) hw1 ZM) hq2 ZU)) rfl ?_
 rintro v1 L1 ⟨_, ⟨rfl, ao3, zz3, ca3, hq3, ⟨hA3, hb7, hb8, hb9⟩, rfl⟩, rfl⟩
 show JL _ _ _ _ ((39, .tuple #[U64 (vQ z0 9 1), .agg #[SL ao3 zz3.length ca3, I64 ((eQ z0 10:Int))]]) :: _) [_, _, _]
 refine Z2 4 ?_
 refine AC (AB 2 nb3 2 _ 107 ([SL ao3 zz3.length ca3, I64 ((eQ z0 10:Int))]) rfl rfl rfl AP rfl ZC (Nat.le_of_ble_eq_true rfl) (AI ZM)) rfl ?_
 show JL _ _ _ _ _ [_, _, _]
 refine Z2 6 ?_
 refine AC (BT 1 nb2 0 1 _ 71 (U64 (vQ z0 0 8)) ([U64 (vQ z0 0 8)]) (V0 (vQ z0 0 8) 0 0 none 0 0 false 0 0 0 none 0 0 none 0 0 0 (zr8 16) none 0 0 none 0 0) rfl rfl rfl rfl BJ rfl ZC ZS (rfl)) rfl ?_
 show JL _ _ _ _ _ [_, _, _]
 refine Z2 5 ?_
 refine AE (I64 (((vQ z0 8 1).toNat:Int))) Ze rfl ?_
 refine Z2 1 ?_
 refine AC (BT 1 nb2 1 1 _ 71 (I64 (((vQ z0 8 1).toNat:Int))) ([I64 (((vQ z0 8 1).toNat:Int))]) (V0 (vQ z0 0 8) (((vQ z0 8 1).toNat:Int)) 0 none 0 0 false 0 0 0 none 0 0 none 0 0 0 (zr8 16) none 0 0 none 0 0) rfl rfl rfl rfl CZ rfl ZC ZS (rfl)) rfl ?_
 show JL _ _ _ _ _ [_, _, _]
 refine Z2 5 ?_
 refine AE (I64 (((vQ z0 9 1).toNat:Int))) Ze rfl ?_
 refine Z2 1 ?_
 refine AC (BT 1 nb2 2 1 _ 71 (I64 (((vQ z0 9 1).toNat:Int))) ([I64 (((vQ z0 9 1).toNat:Int))]) (V0 (vQ z0 0 8) (((vQ z0 8 1).toNat:Int)) (((vQ z0 9 1).toNat:Int)) none 0 0 false 0 0 0 none 0 0 none 0 0 0 (zr8 16) none 0 0 none 0 0) rfl rfl rfl rfl CZ rfl ZC ZS (rfl)) rfl ?_
 show JL _ _ _ _ _ [_, _, _]
 refine A1 (AK (A4 (ED (ι := Nat × Option Addr × List ItemR × Nat × Nat × Nat × List Value × Nat × Option Addr × List UInt8 × Nat) (fun ⟨qa, ja, jl, jn, jc, jg, jcs, jT, ra, zr, rc⟩ => [(2, Ptr nb1 0), (3, .bool false), (4, Ptr nb2 0), (5, Ptr nb3 0)]) (fun ⟨qa, ja, jl, jn, jc, jg, jcs, jT, ra, zr, rc⟩ => [(Ez nb1 (V6) 71), (Ez nb2 (V0 (vQ z0 0 8) (((vQ z0 8 1).toNat:Int)) (((vQ z0 9 1).toNat:Int)) ja jn jc false 0 0 0 none 0 0 none 0 0 0 (zr8 16) none 0 0 none 0 0) 71), (Ez nb3 [SL ra zr.length rc, I64 ((eQ z0 qa:Int))] 107), (Ez jg jcs jT)]) (fun ⟨qa, ja, jl, jn, jc, jg, jcs, jT, ra, zr, rc⟩ => qa = P1 z0 ∧ (qa ≤ z0.length → jl = ljZ z0) ∧ jl.length = jn ∧ jn ≤ 256 ∧ Gh (jl.flatMap itemC) jg jcs ja ∧ jn ≤ jc ∧ jc ≤ maxLen ∧ Lq z0 zr qa ∧ (∀ w M, RdB w M ax z0 → RdB w M ra zr) ∧ zr.length ≤ rc ∧ rc ≤ maxLen ∧ zr.length ≤ n) ?_ ?_)))
 ·
  refine Z2 3 ?_
  refine AF (A5 94 _ _ (AH _ Tryd.call94 rfl) (fun w1 hw1 => hasG_c (vQ z0 0 8) (((vQ z0 8 1).toNat:Int)) (((vQ z0 9 1).toNat:Int)) none 0 0 ([] : List ItemR) false (0:UInt64) (0:UInt64) (0:Int) none 0 0 ([] : List UInt64) none 0 0 ([] : List SealR) (0:UInt64) (zr8 16) none 0 0 [] none 0 0 [] w1 (AN 16))) rfl ?_
  rintro v1 L1 ⟨_, ⟨sg1, cs1, nT1, sg2, cs2, nT2, rfl, rfl⟩, rfl⟩
  show JL _ _ _ _ ((51, .agg #[.bool (itB (((vQ z0 9 1).toNat:Int)) (((vQ z0 8 1).toNat:Int))), .bool (chB (((vQ z0 9 1).toNat:Int)) (((vQ z0 8 1).toNat:Int)) false), .bool (aB (((vQ z0 9 1).toNat:Int)) (((vQ z0 8 1).toNat:Int)) false), .bool (bB (((vQ z0 9 1).toNat:Int)) (((vQ z0 8 1).toNat:Int)) false)]) :: _) [_, _, _, (Ez sg1 cs1 nT1), (Ez sg2 cs2 nT2)]
  refine AE (.bool (itB (((vQ z0 9 1).toNat:Int)) (((vQ z0 8 1).toNat:Int)))) (Ev_index1 4 4 _ DC Tryd.isAgg4 DU rfl rfl ZO ZO (Seg.get1 (Seg.head) ZO)) rfl ?_
  refine A1 (AK (AX (itB (((vQ z0 9 1).toNat:Int)) (((vQ z0 8 1).toNat:Int))) rfl (fun hb10 => ?_) (fun hb10 => ?_)))
  ·
   refine Z2 3 ?_
   have hz3 : (zz3).length = zz3.length := rfl
   refine AF (A5 118 _ _ (AH _ CR rfl) (fun w1 hw1 => D6 10 1 ao3 zz3.length ca3 z0 zz3 w1 rfl ZO ZO ZO ((hA3 _ _ (hA2 _ _ (hA1 _ _ hr))).at (M' := []) hw1 ZM) hq3 ZU)) rfl ?_
   rintro v1 L1 ⟨_, ⟨rfl, ao4, zz4, ca4, hq4, ⟨hA4, hb11, hb12, hb13⟩, rfl⟩, rfl⟩
   show JL _ _ _ _ ((55, .tuple #[U64 (vQ z0 10 1), .agg #[SL ao4 zz4.length ca4, I64 ((eQ z0 11:Int))]]) :: _) [_, _, _, _, _]
   refine Z2 3 ?_
   refine AF (AS _ ([SL none 0 0, I64 0]) A3 ZR) rfl ?_
   rintro v1 L1 ⟨nb4, hnb4, rfl, rfl⟩
   show JL _ _ _ _ (_ :: _) [_, _, _, _, _, _]
   refine Z2 1 ?_
   refine AC (AB 5 nb4 2 _ 107 ([SL ao4 zz4.length ca4, I64 ((eQ z0 11:Int))]) rfl rfl rfl AP rfl ZC (Nat.le_of_ble_eq_true rfl) (AI ZM)) rfl ?_
   show JL _ _ _ _ _ [_, _, _, _, _, _]
   refine Z2 9 ?_
   refine C3 (ι := (Unit) ⊕ (Nat × Nat × List ItemR × Nat × List Value × Nat × Option Addr × List UInt8 × Nat)) (fun x => match x with | .inl _ => [(2, Ptr nb1 0), (3, .bool false), (4, Ptr nb2 0), (5, Ptr nb3 0), (9, U64 (vQ z0 10 1)), (10, Ptr nb4 0), (11, I64 0)] | .inr ⟨qi, i, ll, gb, sp, cp, aa, zz, cc⟩ => [(2, Ptr nb1 0), (3, .bool false), (4, Ptr nb2 0), (5, Ptr nb3 0), (9, U64 (vQ z0 10 1)), (10, Ptr nb4 0), (11, I64 i)]) (fun x => match x with | .inl _ => [(Ez nb1 (V6) 71), (Ez nb2 (V0 (vQ z0 0 8) (((vQ z0 8 1).toNat:Int)) (((vQ z0 9 1).toNat:Int)) none 0 0 false 0 0 0 none 0 0 none 0 0 0 (zr8 16) none 0 0 none 0 0) 71), (Ez nb3 [SL ao3 zz3.length ca3, I64 ((eQ z0 10:Int))] 107), (Ez sg1 cs1 nT1), (Ez sg2 cs2 nT2), (Ez nb4 [SL ao4 zz4.length ca4, I64 ((eQ z0 11:Int))] 107)] | .inr ⟨qi, i, ll, gb, sp, cp, aa, zz, cc⟩ => [(Ez nb1 (V6) 71), (Ez nb2 ([U64 (vQ z0 0 8), I64 (((vQ z0 8 1).toNat:Int)), I64 (((vQ z0 9 1).toNat:Int)), Slc gb 0 i cp, .bool false, U64 0, U64 0, I64 0, SL none 0 0, SL none 0 0, U64 0] ++ cu8 (zr8 16) ++ [SL none 0 0, SL none 0 0]) 71), (Ez nb3 [SL ao3 zz3.length ca3, I64 ((eQ z0 10:Int))] 107), (Ez sg1 cs1 nT1), (Ez sg2 cs2 nT2), (Ez nb4 [SL aa zz.length cc, I64 ((eQ z0 qi:Int))] 107), (Ez gb ((ll).flatMap itemC ++ sp) 167)]) (fun x => match x with | .inl _ => True | .inr ⟨qi, i, ll, gb, sp, cp, aa, zz, cc⟩ => qi = qI z0 11 i ∧ 0 < i ∧ i ≤ nI z0 ∧ ll = itQ z0 11 i ∧ ll.length = i ∧ sp.length = cp * 50 - i * 50 ∧ i ≤ cp ∧ cp ≤ maxLen ∧ Lq z0 zz qi ∧ (∀ w M, RdB w M ax z0 → RdB w M aa zz) ∧ zz.length ≤ cc ∧ cc ≤ maxLen ∧ zz.length ≤ n) (fun x => match x with | .inl _ => nI z0 + 2 | .inr ⟨qi, i, ll, gb, sp, cp, aa, zz, cc⟩ => nI z0 + 1 - i) (.inl ()) trivial (Sub.all rfl) rfl ?_
   rintro (_ | ⟨qi, i, ll, gb, sp, cp, aa, zz, cc⟩) hx
   ·
    obtain _ := hx
    show JC _ _ _ [_, _, _, _, _, _, _] [_, _, _, _, _, _]
    refine Z2 5 ?_
    refine AE (I64 (((vQ z0 10 1).toNat:Int))) Ze rfl ?_
    refine Z2 2 ?_
    refine AD 4 62 true _ (Ptr nb4 1) rfl rfl (decide_eq_true ZO) ZE rfl ?_
    refine AD 4 62 true _ (I64 ((eQ z0 11:Int))) rfl rfl (decide_eq_true ZO) ZE rfl ?_
    refine AD 4 62 true _ (.bool (decide (((eQ z0 11:Int)) = (0:Int)))) rfl rfl (decide_eq_true ZO) ZE rfl ?_
    refine AE _ (CC _ rfl (decide_eq_true ZO) rfl) rfl ?_
    refine A1 (AK (AX (decide (((eQ z0 11:Int)) = (0:Int))) rfl (fun hb14 => ?_) (fun hb14 => ?_)))
    ·
     have hp14 := of_decide_eq_true hb14
     refine Z2 6 ?_
     refine AE (.agg (List.toArray (α := Value) (V7))) Ze rfl ?_
     refine AF (AS _ (V7) DX ZR) rfl ?_
     rintro v1 L1 ⟨nb5, hnb5, rfl, rfl⟩
     show JL _ _ _ _ (_ :: _) [_, _, _, _, _, _, _]
     refine AC (AB 6 nb5 50 _ 167 (V7) rfl rfl rfl C6 ZS (AQ (AQ ZC A6) A6) ZS (AI ZS)) rfl ?_
     show JL _ _ _ _ _ [_, _, _, _, _, _, _]
     refine Z2 5 ?_
     refine AF (A5 123 _ _ (AH _ Tryd.call123 rfl) (fun w1 hw1 => rboolQ_w 11 ao4 zz4.length ca4 z0 zz4 w1 rfl ZO ZO ZO ((hA4 _ _ (hA3 _ _ (hA2 _ _ (hA1 _ _ hr)))).at (M' := []) hw1 ZM) hq4)) rfl ?_
     rintro v1 L1 ⟨_, ⟨rfl, pq1, ao5, zz5, ca5, hpq1, hq5, ⟨hA5, hb15, hb16, hb17⟩, rfl⟩, rfl⟩
     show JL _ _ _ _ ((72, .tuple #[.bool (fQ z0 11), .agg #[SL ao5 zz5.length ca5, I64 ((eQ z0 pq1:Int))]]) :: _) [_, _, _, _, _, _, _]
     refine Z2 3 ?_
     refine AF (AS _ ([SL none 0 0, I64 0]) A3 ZR) rfl ?_
     rintro v1 L1 ⟨nb6, hnb6, rfl, rfl⟩
     show JL _ _ _ _ (_ :: _) [_, _, _, _, _, _, _, _]
     refine Z2 1 ?_
     refine AC (AB 7 nb6 2 _ 107 ([SL ao5 zz5.length ca5, I64 ((eQ z0 pq1:Int))]) rfl rfl rfl AP rfl ZC (Nat.le_of_ble_eq_true rfl) (AI ZM)) rfl ?_
     show JL _ _ _ _ _ [_, _, _, _, _, _, _, _]
     refine Z2 5 ?_
     refine AC (AB 5 nb4 2 _ 107 ([SL ao5 zz5.length ca5, I64 ((eQ z0 pq1:Int))]) rfl rfl rfl AP rfl ZC (Nat.le_of_ble_eq_true rfl) (AI ZM)) rfl ?_
     show JL _ _ _ _ _ [_, _, _, _, _, _, _, _]
     refine Z2 6 ?_
     refine AC (BT 6 nb5 0 1 _ 167 (.bool (fQ z0 11)) ([.bool (fQ z0 11)]) (V3 (fQ z0 11) 0 (zr8 32) (zr8 16)) rfl rfl rfl rfl DU rfl ZC ZS (rfl)) rfl ?_
     show JL _ _ _ _ _ [_, _, _, _, _, _, _, _]
     refine Z2 8 ?_
     refine AX (fQ z0 11) rfl (fun hb18 => ?_) (fun hb18 => ?_)
     ·
      refine Z2 3 ?_
      have hz4 : (zz5).length = zz5.length := rfl
      refine AF (A5 124 _ _ (AH _ Tryd.call124 rfl) (fun w1 hw1 => rsreadQ_c pq1 ao5 zz5.length ca5 z0 zz5 w1 rfl ZO ZO ZO ((hA5 _ _ (hA4 _ _ (hA3 _ _ (hA2 _ _ (hA1 _ _ hr))))).at (M' := []) hw1 ZM) hq5)) rfl ?_
      rintro v1 L1 ⟨_, ⟨rfl, ao6, zz6, ca6, hq6, ⟨hA6, hb19, hb20, hb21⟩, rfl⟩, rfl⟩
      show JL _ _ _ _ ((81, .tuple #[.agg ([U64 (vQ z0 pq1 8)] ++ cu8 (bQ z0 (pq1 + 8) 32) ++ cu8 (bQ z0 (pq1 + 40) 16)).toArray, .agg #[SL ao6 zz6.length ca6, I64 ((eQ z0 (pq1 + 56):Int))]]) :: _) [_, _, _, _, _, _, _, _]
      refine Z2 3 ?_
      refine AF (AS _ ([U64 0] ++ cu8 (zr8 32) ++ cu8 (zr8 16)) DO ZR) rfl ?_
      rintro v1 L1 ⟨nb7, hnb7, rfl, rfl⟩
      show JL _ _ _ _ (_ :: _) [_, _, _, _, _, _, _, _, _]
      refine AF (AS _ ([SL none 0 0, I64 0]) A3 ZR) rfl ?_
      rintro v1 L1 ⟨nb8, hnb8, rfl, rfl⟩
      show JL _ _ _ _ (_ :: _) [_, _, _, _, _, _, _, _, _, _]
      refine AC (AB 8 nb7 49 _ 164 ([U64 (vQ z0 pq1 8)] ++ cu8 (bQ z0 (pq1 + 8) 32) ++ cu8 (bQ z0 (pq1 + 40) 16)) rfl rfl rfl BW ZS (AQ (AQ ZC A6) A6) ZS (AI ZS)) rfl ?_
      show JL _ _ _ _ _ [_, _, _, _, _, _, _, _, _, _]
      refine AC (AB 9 nb8 2 _ 107 ([SL ao6 zz6.length ca6, I64 ((eQ z0 (pq1 + 56):Int))]) rfl rfl rfl AP rfl ZC (Nat.le_of_ble_eq_true rfl) (AI ZM)) rfl ?_
      show JL _ _ _ _ _ [_, _, _, _, _, _, _, _, _, _]
      refine Z2 5 ?_
      refine AC (AB 5 nb4 2 _ 107 ([SL ao6 zz6.length ca6, I64 ((eQ z0 (pq1 + 56):Int))]) rfl rfl rfl AP rfl ZC (Nat.le_of_ble_eq_true rfl) (AI ZM)) rfl ?_
      show JL _ _ _ _ _ [_, _, _, _, _, _, _, _, _, _]
      refine Z2 5 ?_
      refine AC (BT 6 nb5 1 49 _ 167 (.agg ([U64 (vQ z0 pq1 8)] ++ cu8 (bQ z0 (pq1 + 8) 32) ++ cu8 (bQ z0 (pq1 + 40) 16)).toArray) ([U64 (vQ z0 pq1 8)] ++ cu8 (bQ z0 (pq1 + 8) 32) ++ cu8 (bQ z0 (pq1 + 40) 16)) (V3 (fQ z0 11) (vQ z0 pq1 8) (bQ z0 (pq1 + 8) 32) (bQ z0 (pq1 + 40) 16)) rfl rfl rfl (by first | rfl | simp) BW ZS (AQ (AQ ZC A6) A6) ZS (FL (a := [.bool (fQ z0 11)]) (b := [U64 0] ++ cu8 (zr8 32) ++ cu8 (zr8 16)) (c := ([] : List Value)) (by simp only [List.append_assoc, List.cons_append, List.nil_append, List.append_nil]) ZS ZS (by simp only [List.append_assoc, List.cons_append, List.nil_append, List.append_nil]))) rfl ?_
      show JL _ _ _ _ _ [_, _, _, _, _, _, _, _, _, _]
      refine Z2 6 ?_
      refine AF (BF 167 50 _ [(0, .agg (List.toArray (α := Value) (V3 (fQ z0 11) (vQ z0 pq1 8) (bQ z0 (pq1 + 8) 32) (bQ z0 (pq1 + 40) 16))))] (V3 (fQ z0 11) (vQ z0 pq1 8) (bQ z0 (pq1 + 8) 32) (bQ z0 (pq1 + 40) 16)) B7 C6 DX rfl rfl rfl (EL (Z := V7) ZS ZR (by simp [zr8]))) rfl ?_
      rintro v1 L1 ⟨nb9, hnb9, rfl, rfl⟩
      show JL _ _ _ _ ((90, Slc nb9 0 1 1) :: _) [_, _, _, _, _, _, _, _, _, _, (Ez nb9 (V3 (fQ z0 11) (vQ z0 pq1 8) (bQ z0 (pq1 + 8) 32) (bQ z0 (pq1 + 40) 16)) 167)]
      refine AF (E1 69 167 64 (.agg (List.toArray (α := Value) (V7))) [false, false, false, false, false, false, false, false, false, false, false] (SL none 0 0) 0 ([] : List ItemR) (ItemR.mk (fQ z0 11) (SealR.mk (vQ z0 pq1 8) (bQ z0 (pq1 + 8) 32) (bQ z0 (pq1 + 40) 16) (BG _ _ _) (BG _ _ _))) (some ⟨nb9, 0, none⟩) 1 1 B7 ZR ZR rfl (.inl ⟨rfl, rfl, rfl, rfl⟩) rfl (SrcAt.mem (A0 10 rfl (AG _))) ZO ZO ZO) rfl ?_
      rintro v1 L1 ⟨nb10, sp1, cp1, hg1, rfl, rfl, ha1, ha2, ha3, ha4⟩
      show JL _ _ _ _ ((91, Slc nb10 0 1 cp1) :: _) [_, _, _, _, _, _, _, _, _, _, _, (Ez nb10 ((([] : List ItemR) ++ [(ItemR.mk (fQ z0 11) (SealR.mk (vQ z0 pq1 8) (bQ z0 (pq1 + 8) 32) (bQ z0 (pq1 + 40) 16) (BG _ _ _) (BG _ _ _)))]).flatMap itemC ++ sp1) 167)]
      refine Z2 1 ?_
      refine AC (BT 1 nb2 3 1 _ 71 (Slc nb10 0 1 cp1) ([Slc nb10 0 1 cp1]) ([U64 (vQ z0 0 8), I64 (((vQ z0 8 1).toNat:Int)), I64 (((vQ z0 9 1).toNat:Int)), Slc nb10 0 1 cp1, .bool false, U64 0, U64 0, I64 0, SL none 0 0, SL none 0 0, U64 0] ++ cu8 (zr8 16) ++ [SL none 0 0, SL none 0 0]) rfl rfl rfl rfl Tryd.sizeOf69 rfl ZC ZS (rfl)) rfl ?_
      show JL _ _ _ _ _ [_, _, _, _, _, _, _, _, _, _, _, _]
      refine Z2 5 ?_
      refine AE (I64 1) (AT rfl rfl fun _ => BR _ _ (1:Int) ZO ZO) rfl ?_
      refine Z2 2 ?_
      refine B5 (D7 [true, true, true, true, true, true, false, false, false, false, false, true] ?_)
      show K _ _ [_, _, _, _, _, _, _] _
      refine C1 (.inr ((pq1 + 56), 1, ([] : List ItemR) ++ [(ItemR.mk (fQ z0 11) (SealR.mk (vQ z0 pq1 8) (bQ z0 (pq1 + 8) 32) (bQ z0 (pq1 + 40) 16) (BG _ _ _) (BG _ _ _)))], nb10, sp1, cp1, ao6, zz6, ca6)) ⟨qI_t (i := 0) (rfl : 11 = qI z0 11 0) hb18 hpq1, ZO, ZO, (congrArg (fun x => [x]) (iQ_t hb18 hpq1 _ _) : _ = itQ z0 11 1), (ha1).trans (by first | rfl | simp +arith), (ha2).trans (by first | rfl | simp +arith), ZO, ZO, hq6, (by intro w M hr; exact (hA6 _ _ (hA5 _ _ (hA4 _ _ (hA3 _ _ (hA2 _ _ (hA1 _ _ hr))))))), ZO, ZO, ZO⟩ (by dsimp only; omega) (Sub.all rfl) rfl
     refine Z2 6 ?_
     refine AF (BF 167 50 _ [(0, .agg (List.toArray (α := Value) (V3 (fQ z0 11) 0 (zr8 32) (zr8 16))))] (V3 (fQ z0 11) 0 (zr8 32) (zr8 16)) B7 C6 DX rfl rfl rfl (EL (Z := V7) ZS ZR (by simp [zr8]))) rfl ?_
     rintro v1 L1 ⟨nb11, hnb11, rfl, rfl⟩
     show JL _ _ _ _ ((90, Slc nb11 0 1 1) :: _) [_, _, _, _, _, _, _, _, (Ez nb11 (V3 (fQ z0 11) 0 (zr8 32) (zr8 16)) 167)]
     refine AF (E1 69 167 64 (.agg (List.toArray (α := Value) (V7))) [false, false, false, false, false, false, false, false, false] (SL none 0 0) 0 ([] : List ItemR) (ItemR.mk (fQ z0 11) (SealR.mk (0:UInt64) (zr8 32) (zr8 16) (AN 32) (AN 16))) (some ⟨nb11, 0, none⟩) 1 1 B7 ZR ZR rfl (.inl ⟨rfl, rfl, rfl, rfl⟩) rfl (SrcAt.mem (A0 8 rfl (AG _))) ZO ZO ZO) rfl ?_
     rintro v1 L1 ⟨nb12, sp2, cp2, hg2, rfl, rfl, ha5, ha6, ha7, ha8⟩
     show JL _ _ _ _ ((91, Slc nb12 0 1 cp2) :: _) [_, _, _, _, _, _, _, _, _, (Ez nb12 ((([] : List ItemR) ++ [(ItemR.mk (fQ z0 11) (SealR.mk (0:UInt64) (zr8 32) (zr8 16) (AN 32) (AN 16)))]).flatMap itemC ++ sp2) 167)]
     refine Z2 1 ?_
     refine AC (BT 1 nb2 3 1 _ 71 (Slc nb12 0 1 cp2) ([Slc nb12 0 1 cp2]) ([U64 (vQ z0 0 8), I64 (((vQ z0 8 1).toNat:Int)), I64 (((vQ z0 9 1).toNat:Int)), Slc nb12 0 1 cp2, .bool false, U64 0, U64 0, I64 0, SL none 0 0, SL none 0 0, U64 0] ++ cu8 (zr8 16) ++ [SL none 0 0, SL none 0 0]) rfl rfl rfl rfl Tryd.sizeOf69 rfl ZC ZS (rfl)) rfl ?_
     show JL _ _ _ _ _ [_, _, _, _, _, _, _, _, _, _]
     refine Z2 5 ?_
     refine AE (I64 1) (AT rfl rfl fun _ => BR _ _ (1:Int) ZO ZO) rfl ?_
     refine Z2 2 ?_
     refine B5 (D7 [true, true, true, true, true, true, false, false, false, true] ?_)
     show K _ _ [_, _, _, _, _, _, _] _
     refine C1 (.inr (pq1, 1, ([] : List ItemR) ++ [(ItemR.mk (fQ z0 11) (SealR.mk (0:UInt64) (zr8 32) (zr8 16) (AN 32) (AN 16)))], nb12, sp2, cp2, ao5, zz5, ca5)) ⟨qI_f (i := 0) (rfl : 11 = qI z0 11 0) hb18 hpq1, ZO, ZO, (congrArg (fun x => [x]) (iQ_f hb18 _ _) : _ = itQ z0 11 1), (ha5).trans (by first | rfl | simp +arith), (ha6).trans (by first | rfl | simp +arith), ZO, ZO, hq5, (by intro w M hr; exact (hA5 _ _ (hA4 _ _ (hA3 _ _ (hA2 _ _ (hA1 _ _ hr)))))), ZO, ZO, ZO⟩ (by dsimp only; omega) (Sub.all rfl) rfl
    have hp14 := of_decide_eq_false hb14
    refine Z2 7 ?_
    refine AC (AB 2 nb3 2 _ 107 ([SL ao4 zz4.length ca4, I64 ((eQ z0 11:Int))]) rfl rfl rfl AP rfl ZC (Nat.le_of_ble_eq_true rfl) (AI ZM)) rfl ?_
    show JL _ _ _ _ _ [_, _, _, _, _, _]
    refine A1 ?_
    have hit : itZ z0 = true := hb10
    have hP : ¬ 11 ≤ z0.length := fun h => (of_decide_eq_false hb14) (by rw [E5 h]; rfl)
    have hgl : z0.length < qI z0 11 (nI z0) := by have h9 := qI_ge z0 11 (nI z0); omega
    rw [show eQ z0 11 = eQ z0 (qI z0 11 (nI z0)) from (DJ hP).trans (DJ ZO).symm]
    refine DZ [0, 1, 2, 3] ZD ?_
    show JQ _ _ _ _ [_, _, _, _]
    refine BU ((qI z0 11 (nI z0), none, ([] : List ItemR), 0, 0, sg1, cs1, nT1, ao4, zz4, ca4)) ⟨(P1_t hit).symm, (fun h => absurd h ZO), rfl, ZO, .inl rfl, ZO, by first | omega | (unfold maxLen; omega), (fun h => absurd h ZO), (by intro w M hr; exact (hA4 _ _ (hA3 _ _ (hA2 _ _ (hA1 _ _ hr))))), ZO, ZO, ZO⟩ (Sub.all rfl) rfl
   obtain ⟨hiq, hi1, hi2, hi3, hi4, hi5, hi6, hi7, hi8, hi9, hi10, hi11, hi12⟩ := hx
   show JC _ _ _ [_, _, _, _, _, _, _] [_, _, _, _, _, _, _]
   refine Z2 5 ?_
   refine AE (I64 (((vQ z0 10 1).toNat:Int))) Ze rfl ?_
   refine Z2 2 ?_
   rcases Bool.eq_false_or_eq_true (decide (((i:Int)) ≤ (((vQ z0 10 1).toNat:Int)))) with hb22 | hb22
   ·
    have hp22 := of_decide_eq_true hb22
    refine Z2 6 ?_
    refine AX (decide (((eQ z0 qi:Int)) = (0:Int))) rfl (fun hb23 => ?_) (fun hb23 => ?_)
    ·
     have hp23 := of_decide_eq_true hb23
     refine Z2 6 ?_
     refine AE (.agg (List.toArray (α := Value) (V7))) Ze rfl ?_
     refine AF (AS _ (V7) DX ZR) rfl ?_
     rintro v1 L1 ⟨nb13, hnb13, rfl, rfl⟩
     show JL _ _ _ _ (_ :: _) [_, _, _, _, _, _, _, _]
     refine AC (AB 7 nb13 50 _ 167 (V7) rfl rfl rfl C6 ZS (AQ (AQ ZC A6) A6) ZS (AI ZS)) rfl ?_
     show JL _ _ _ _ _ [_, _, _, _, _, _, _, _]
     refine Z2 5 ?_
     refine AF (A5 123 _ _ (AH _ Tryd.call123 rfl) (fun w1 hw1 => rboolQ_w qi aa zz.length cc z0 zz w1 rfl ZO ZO ZO ((hi9 _ _ hr).at (M' := []) hw1 ZM) hi8)) rfl ?_
     rintro v1 L1 ⟨_, ⟨rfl, pq2, ao7, zz7, ca7, hpq2, hq7, ⟨hA7, hb24, hb25, hb26⟩, rfl⟩, rfl⟩
     show JL _ _ _ _ ((72, .tuple #[.bool (fQ z0 qi), .agg #[SL ao7 zz7.length ca7, I64 ((eQ z0 pq2:Int))]]) :: _) [_, _, _, _, _, _, _, _]
     refine Z2 3 ?_
     refine AF (AS _ ([SL none 0 0, I64 0]) A3 ZR) rfl ?_
     rintro v1 L1 ⟨nb14, hnb14, rfl, rfl⟩
     show JL _ _ _ _ (_ :: _) [_, _, _, _, _, _, _, _, _]
     refine Z2 1 ?_
     refine AC (AB 8 nb14 2 _ 107 ([SL ao7 zz7.length ca7, I64 ((eQ z0 pq2:Int))]) rfl rfl rfl AP rfl ZC (Nat.le_of_ble_eq_true rfl) (AI ZM)) rfl ?_
     show JL _ _ _ _ _ [_, _, _, _, _, _, _, _, _]
     refine Z2 5 ?_
     refine AC (AB 5 nb4 2 _ 107 ([SL ao7 zz7.length ca7, I64 ((eQ z0 pq2:Int))]) rfl rfl rfl AP rfl ZC (Nat.le_of_ble_eq_true rfl) (AI ZM)) rfl ?_
     show JL _ _ _ _ _ [_, _, _, _, _, _, _, _, _]
     refine Z2 6 ?_
     refine AC (BT 7 nb13 0 1 _ 167 (.bool (fQ z0 qi)) ([.bool (fQ z0 qi)]) (V3 (fQ z0 qi) 0 (zr8 32) (zr8 16)) rfl rfl rfl rfl DU rfl ZC ZS (rfl)) rfl ?_
     show JL _ _ _ _ _ [_, _, _, _, _, _, _, _, _]
     refine Z2 8 ?_
     refine AX (fQ z0 qi) rfl (fun hb27 => ?_) (fun hb27 => ?_)
     ·
      refine Z2 3 ?_
      have hz5 : (zz7).length = zz7.length := rfl
      refine AF (A5 124 _ _ (AH _ Tryd.call124 rfl) (fun w1 hw1 => rsreadQ_c pq2 ao7 zz7.length ca7 z0 zz7 w1 rfl ZO ZO ZO ((hA7 _ _ (hi9 _ _ hr)).at (M' := []) hw1 ZM) hq7)) rfl ?_
      rintro v1 L1 ⟨_, ⟨rfl, ao8, zz8, ca8, hq8, ⟨hA8, hb28, hb29, hb30⟩, rfl⟩, rfl⟩
      show JL _ _ _ _ ((81, .tuple #[.agg ([U64 (vQ z0 pq2 8)] ++ cu8 (bQ z0 (pq2 + 8) 32) ++ cu8 (bQ z0 (pq2 + 40) 16)).toArray, .agg #[SL ao8 zz8.length ca8, I64 ((eQ z0 (pq2 + 56):Int))]]) :: _) [_, _, _, _, _, _, _, _, _]
      refine Z2 3 ?_
      refine AF (AS _ ([U64 0] ++ cu8 (zr8 32) ++ cu8 (zr8 16)) DO ZR) rfl ?_
      rintro v1 L1 ⟨nb15, hnb15, rfl, rfl⟩
      show JL _ _ _ _ (_ :: _) [_, _, _, _, _, _, _, _, _, _]
      refine AF (AS _ ([SL none 0 0, I64 0]) A3 ZR) rfl ?_
      rintro v1 L1 ⟨nb16, hnb16, rfl, rfl⟩
      show JL _ _ _ _ (_ :: _) [_, _, _, _, _, _, _, _, _, _, _]
      refine AC (AB 9 nb15 49 _ 164 ([U64 (vQ z0 pq2 8)] ++ cu8 (bQ z0 (pq2 + 8) 32) ++ cu8 (bQ z0 (pq2 + 40) 16)) rfl rfl rfl BW ZS (AQ (AQ ZC A6) A6) ZS (AI ZS)) rfl ?_
      show JL _ _ _ _ _ [_, _, _, _, _, _, _, _, _, _, _]
      refine AC (AB 10 nb16 2 _ 107 ([SL ao8 zz8.length ca8, I64 ((eQ z0 (pq2 + 56):Int))]) rfl rfl rfl AP rfl ZC (Nat.le_of_ble_eq_true rfl) (AI ZM)) rfl ?_
      show JL _ _ _ _ _ [_, _, _, _, _, _, _, _, _, _, _]
      refine Z2 5 ?_
      refine AC (AB 5 nb4 2 _ 107 ([SL ao8 zz8.length ca8, I64 ((eQ z0 (pq2 + 56):Int))]) rfl rfl rfl AP rfl ZC (Nat.le_of_ble_eq_true rfl) (AI ZM)) rfl ?_
      show JL _ _ _ _ _ [_, _, _, _, _, _, _, _, _, _, _]
      refine Z2 5 ?_
      refine AC (BT 7 nb13 1 49 _ 167 (.agg ([U64 (vQ z0 pq2 8)] ++ cu8 (bQ z0 (pq2 + 8) 32) ++ cu8 (bQ z0 (pq2 + 40) 16)).toArray) ([U64 (vQ z0 pq2 8)] ++ cu8 (bQ z0 (pq2 + 8) 32) ++ cu8 (bQ z0 (pq2 + 40) 16)) (V3 (fQ z0 qi) (vQ z0 pq2 8) (bQ z0 (pq2 + 8) 32) (bQ z0 (pq2 + 40) 16)) rfl rfl rfl (by first | rfl | simp) BW ZS (AQ (AQ ZC A6) A6) ZS (FL (a := [.bool (fQ z0 qi)]) (b := [U64 0] ++ cu8 (zr8 32) ++ cu8 (zr8 16)) (c := ([] : List Value)) (by simp only [List.append_assoc, List.cons_append, List.nil_append, List.append_nil]) ZS ZS (by simp only [List.append_assoc, List.cons_append, List.nil_append, List.append_nil]))) rfl ?_
      show JL _ _ _ _ _ [_, _, _, _, _, _, _, _, _, _, _]
      refine Z2 6 ?_
      refine AF (BF 167 50 _ [(0, .agg (List.toArray (α := Value) (V3 (fQ z0 qi) (vQ z0 pq2 8) (bQ z0 (pq2 + 8) 32) (bQ z0 (pq2 + 40) 16))))] (V3 (fQ z0 qi) (vQ z0 pq2 8) (bQ z0 (pq2 + 8) 32) (bQ z0 (pq2 + 40) 16)) B7 C6 DX rfl rfl rfl (EL (Z := V7) ZS ZR (by simp [zr8]))) rfl ?_
      rintro v1 L1 ⟨nb17, hnb17, rfl, rfl⟩
      show JL _ _ _ _ ((90, Slc nb17 0 1 1) :: _) [_, _, _, _, _, _, _, _, _, _, _, (Ez nb17 (V3 (fQ z0 qi) (vQ z0 pq2 8) (bQ z0 (pq2 + 8) 32) (bQ z0 (pq2 + 40) 16)) 167)]
      refine AF (E1 69 167 64 (.agg (List.toArray (α := Value) (V7))) [false, false, false, false, false, false, true, false, false, false, false, false] (Slc gb 0 i cp) i ll (ItemR.mk (fQ z0 qi) (SealR.mk (vQ z0 pq2 8) (bQ z0 (pq2 + 8) 32) (bQ z0 (pq2 + 40) 16) (BG _ _ _) (BG _ _ _))) (some ⟨nb17, 0, none⟩) 1 (i + 1) B7 ZR ZR rfl (.inr ⟨gb, sp, cp, rfl, rfl, (by have h : (ll).length = i := hi4; omega), (by first | exact hi5 | omega), ZO, ZO⟩) rfl (SrcAt.mem (A0 11 rfl (AG _))) ZO ZO ZO) rfl ?_
      rintro v1 L1 ⟨nb18, sp3, cp3, hg3, rfl, rfl, ha9, ha10, ha11, ha12⟩
      show JL _ _ _ _ ((91, Slc nb18 0 (i + 1) cp3) :: _) [_, _, _, _, _, _, _, _, _, _, _, (Ez nb18 ((ll ++ [(ItemR.mk (fQ z0 qi) (SealR.mk (vQ z0 pq2 8) (bQ z0 (pq2 + 8) 32) (bQ z0 (pq2 + 40) 16) (BG _ _ _) (BG _ _ _)))]).flatMap itemC ++ sp3) 167)]
      refine Z2 1 ?_
      refine AC (BT 1 nb2 3 1 _ 71 (Slc nb18 0 (i + 1) cp3) ([Slc nb18 0 (i + 1) cp3]) ([U64 (vQ z0 0 8), I64 (((vQ z0 8 1).toNat:Int)), I64 (((vQ z0 9 1).toNat:Int)), Slc nb18 0 (i + 1) cp3, .bool false, U64 0, U64 0, I64 0, SL none 0 0, SL none 0 0, U64 0] ++ cu8 (zr8 16) ++ [SL none 0 0, SL none 0 0]) rfl rfl rfl rfl Tryd.sizeOf69 rfl ZC ZS (rfl)) rfl ?_
      show JL _ _ _ _ _ [_, _, _, _, _, _, _, _, _, _, _, _]
      refine Z2 5 ?_
      refine AE (I64 ((i:Int) + 1)) (AT rfl rfl fun _ => BR _ _ ((i:Int) + 1) ZO ZO) rfl ?_
      refine Z2 2 ?_
      refine B5 (D7 [true, true, true, true, true, true, false, false, false, false, false, true] ?_)
      show K _ _ [_, _, _, _, _, _, _] _
      refine C1 (.inr ((pq2 + 56), i + 1, ll ++ [(ItemR.mk (fQ z0 qi) (SealR.mk (vQ z0 pq2 8) (bQ z0 (pq2 + 8) 32) (bQ z0 (pq2 + 40) 16) (BG _ _ _) (BG _ _ _)))], nb18, sp3, cp3, ao8, zz8, ca8)) ⟨qI_t (i := i) hiq hb27 hpq2, ZO, ZO, (by rw [itQ_suc, ← hiq, ← hi3]; exact congrArg (fun x => ll ++ [x]) (iQ_t hb27 hpq2 _ _)), (ha9).trans (by first | rfl | simp +arith), (ha10).trans (by first | rfl | simp +arith), ZO, ZO, hq8, (by intro w M hr; exact (hA8 _ _ (hA7 _ _ (hi9 _ _ hr)))), ZO, ZO, ZO⟩ (by dsimp only; omega) (Sub.all rfl) rfl
     refine Z2 6 ?_
     refine AF (BF 167 50 _ [(0, .agg (List.toArray (α := Value) (V3 (fQ z0 qi) 0 (zr8 32) (zr8 16))))] (V3 (fQ z0 qi) 0 (zr8 32) (zr8 16)) B7 C6 DX rfl rfl rfl (EL (Z := V7) ZS ZR (by simp [zr8]))) rfl ?_
     rintro v1 L1 ⟨nb19, hnb19, rfl, rfl⟩
     show JL _ _ _ _ ((90, Slc nb19 0 1 1) :: _) [_, _, _, _, _, _, _, _, _, (Ez nb19 (V3 (fQ z0 qi) 0 (zr8 32) (zr8 16)) 167)]
     refine AF (E1 69 167 64 (.agg (List.toArray (α := Value) (V7))) [false, false, false, false, false, false, true, false, false, false] (Slc gb 0 i cp) i ll (ItemR.mk (fQ z0 qi) (SealR.mk (0:UInt64) (zr8 32) (zr8 16) (AN 32) (AN 16))) (some ⟨nb19, 0, none⟩) 1 (i + 1) B7 ZR ZR rfl (.inr ⟨gb, sp, cp, rfl, rfl, (by have h : (ll).length = i := hi4; omega), (by first | exact hi5 | omega), ZO, ZO⟩) rfl (SrcAt.mem (A0 9 rfl (AG _))) ZO ZO ZO) rfl ?_
     rintro v1 L1 ⟨nb20, sp4, cp4, hg4, rfl, rfl, ha13, ha14, ha15, ha16⟩
     show JL _ _ _ _ ((91, Slc nb20 0 (i + 1) cp4) :: _) [_, _, _, _, _, _, _, _, _, (Ez nb20 ((ll ++ [(ItemR.mk (fQ z0 qi) (SealR.mk (0:UInt64) (zr8 32) (zr8 16) (AN 32) (AN 16)))]).flatMap itemC ++ sp4) 167)]
     refine Z2 1 ?_
     refine AC (BT 1 nb2 3 1 _ 71 (Slc nb20 0 (i + 1) cp4) ([Slc nb20 0 (i + 1) cp4]) ([U64 (vQ z0 0 8), I64 (((vQ z0 8 1).toNat:Int)), I64 (((vQ z0 9 1).toNat:Int)), Slc nb20 0 (i + 1) cp4, .bool false, U64 0, U64 0, I64 0, SL none 0 0, SL none 0 0, U64 0] ++ cu8 (zr8 16) ++ [SL none 0 0, SL none 0 0]) rfl rfl rfl rfl Tryd.sizeOf69 rfl ZC ZS (rfl)) rfl ?_
     show JL _ _ _ _ _ [_, _, _, _, _, _, _, _, _, _]
     refine Z2 5 ?_
     refine AE (I64 ((i:Int) + 1)) (AT rfl rfl fun _ => BR _ _ ((i:Int) + 1) ZO ZO) rfl ?_
     refine Z2 2 ?_
     refine B5 (D7 [true, true, true, true, true, true, false, false, false, true] ?_)
     show K _ _ [_, _, _, _, _, _, _] _
     refine C1 (.inr (pq2, i + 1, ll ++ [(ItemR.mk (fQ z0 qi) (SealR.mk (0:UInt64) (zr8 32) (zr8 16) (AN 32) (AN 16)))], nb20, sp4, cp4, ao7, zz7, ca7)) ⟨qI_f (i := i) hiq hb27 hpq2, ZO, ZO, (by rw [itQ_suc, ← hiq, ← hi3]; exact congrArg (fun x => ll ++ [x]) (iQ_f hb27 _ _)), (ha13).trans (by first | rfl | simp +arith), (ha14).trans (by first | rfl | simp +arith), ZO, ZO, hq7, (by intro w M hr; exact (hA7 _ _ (hi9 _ _ hr))), ZO, ZO, ZO⟩ (by dsimp only; omega) (Sub.all rfl) rfl
    have hp23 := of_decide_eq_false hb23
    refine Z2 7 ?_
    refine AC (AB 2 nb3 2 _ 107 ([SL aa zz.length cc, I64 ((eQ z0 qi:Int))]) rfl rfl rfl AP rfl ZC (Nat.le_of_ble_eq_true rfl) (AI ZM)) rfl ?_
    show JL _ _ _ _ _ [_, _, _, _, _, _, _]
    refine A1 ?_
    have hit : itZ z0 = true := hb10
    have hP : ¬ qi ≤ z0.length := fun h => (of_decide_eq_false hb23) (by rw [E5 h]; rfl)
    have hgl : z0.length < qI z0 11 (nI z0) := by have h9 := qI_le z0 11 i (nI z0 - i); rw [show i + (nI z0 - i) = nI z0 by omega, ← hiq] at h9; omega
    rw [show eQ z0 qi = eQ z0 (qI z0 11 (nI z0)) from (DJ hP).trans (DJ ZO).symm]
    refine DZ [0, 1, 2, 6] ZD ?_
    show JQ _ _ _ _ [_, _, _, _]
    refine BU ((qI z0 11 (nI z0), (some ⟨gb, 0, none⟩), ll, i, cp, gb, (ll).flatMap itemC ++ sp, 167, aa, zz, cc)) ⟨(P1_t hit).symm, (fun h => absurd h ZO), hi4, ZO, .inr ⟨rfl, _, rfl⟩, ZO, by first | omega | (unfold maxLen; omega), (fun h => absurd h ZO), (by intro w M hr; exact (hi9 _ _ hr)), ZO, ZO, ZO⟩ (Sub.all rfl) rfl
   have hp22 := of_decide_eq_false hb22
   refine Z2 6 ?_
   refine AY _ rfl rfl ?_
   refine Z2 7 ?_
   refine AC (AB 2 nb3 2 _ 107 ([SL aa zz.length cc, I64 ((eQ z0 qi:Int))]) rfl rfl rfl AP rfl ZC (Nat.le_of_ble_eq_true rfl) (AI ZM)) rfl ?_
   show JL _ _ _ _ _ [_, _, _, _, _, _, _]
   refine A1 ?_
   have hit : itZ z0 = true := hb10
   have ei : i = nI z0 := by omega
   subst ei
   refine DZ [0, 1, 2, 6] ZD ?_
   show JQ _ _ _ _ [_, _, _, _]
   refine BU ((qi, (some ⟨gb, 0, none⟩), ll, nI z0, cp, gb, (ll).flatMap itemC ++ sp, 167, aa, zz, cc)) ⟨(hiq.trans (P1_t hit).symm), (fun _ => hi3.trans (ljZ_t hit).symm), hi4, ZO, .inr ⟨rfl, _, rfl⟩, ZO, by first | omega | (unfold maxLen; omega), hi8, (by intro w M hr; exact (hi9 _ _ hr)), ZO, ZO, ZO⟩ (Sub.all rfl) rfl
  refine CY ?_
  have hit : itZ z0 = false := hb10
  refine DZ [0, 1, 2, 3] ZD ?_
  show JQ _ _ _ _ [_, _, _, _]
  refine BU ((10, none, ([] : List ItemR), 0, 0, sg1, cs1, nT1, ao3, zz3, ca3)) ⟨(P1_f hit).symm, (fun _ => (ljZ_f hit).symm), rfl, ZO, .inl rfl, ZO, by first | omega | (unfold maxLen; omega), hq3, (by intro w M hr; exact (hA3 _ _ (hA2 _ _ (hA1 _ _ hr)))), ZO, ZO, ZO⟩ (Sub.all rfl) rfl
 rintro ⟨qa, ja, jl, jn, jc, jg, jcs, jT, ra, zr, rc⟩ hx
 obtain ⟨hqa, hja, hjl, hjn, hjg, hjc, hjm, hrq, hrA, hr1, hr2, hr3⟩ := hx
 show JQ _ _ _ [_, _, _, _] [_, _, _, _]
 refine AK (A4 (ED (ι := Nat × Bool × Option Addr × List UInt8 × Nat) (fun ⟨qb, th, rb, zb, sb⟩ => [(2, Ptr nb1 0), (3, .bool false), (4, Ptr nb2 0), (5, Ptr nb3 0)]) (fun ⟨qb, th, rb, zb, sb⟩ => [(Ez nb1 (V6) 71), (Ez nb2 (V0 (vQ z0 0 8) (((vQ z0 8 1).toNat:Int)) (((vQ z0 9 1).toNat:Int)) ja jn jc th 0 0 0 none 0 0 none 0 0 0 (zr8 16) none 0 0 none 0 0) 71), (Ez nb3 [SL rb zb.length sb, I64 ((eQ z0 qb:Int))] 107), (Ez jg jcs jT)]) (fun ⟨qb, th, rb, zb, sb⟩ => qb = P2 z0 ∧ th = thZ z0 ∧ Lq z0 zb qb ∧ (∀ w M, RdB w M ax z0 → RdB w M rb zb) ∧ zb.length ≤ sb ∧ sb ≤ maxLen ∧ zb.length ≤ n) ?_ ?_))
 ·
  refine Z2 6 ?_
  rcases Bool.eq_false_or_eq_true (decide ((((vQ z0 9 1).toNat:Int)) = (0:Int))) with hb31 | hb31
  ·
   have hp31 := of_decide_eq_true hb31
   refine Z2 6 ?_
   refine AX (decide ((((vQ z0 8 1).toNat:Int)) = (4:Int))) rfl (fun hb32 => ?_) (fun hb32 => ?_)
   ·
    have hp32 := of_decide_eq_true hb32
    refine Z2 3 ?_
    refine AF (A5 123 _ _ (AH _ Tryd.call123 rfl) (fun w1 hw1 => rboolQ_w qa ra zr.length rc z0 zr w1 rfl ZO ZO ZO ((hrA _ _ hr).at (M' := []) hw1 ZM) hrq)) rfl ?_
    rintro v1 L1 ⟨_, ⟨rfl, pq3, ao9, zz9, ca9, hpq3, hq9, ⟨hA9, hb33, hb34, hb35⟩, rfl⟩, rfl⟩
    show JL _ _ _ _ ((104, .tuple #[.bool (fQ z0 qa), .agg #[SL ao9 zz9.length ca9, I64 ((eQ z0 pq3:Int))]]) :: _) [_, _, _, _]
    refine Z2 3 ?_
    refine AF (AS _ ([SL none 0 0, I64 0]) A3 ZR) rfl ?_
    rintro v1 L1 ⟨nb21, hnb21, rfl, rfl⟩
    show JL _ _ _ _ (_ :: _) [_, _, _, _, _]
    refine Z2 1 ?_
    refine AC (AB 4 nb21 2 _ 107 ([SL ao9 zz9.length ca9, I64 ((eQ z0 pq3:Int))]) rfl rfl rfl AP rfl ZC (Nat.le_of_ble_eq_true rfl) (AI ZM)) rfl ?_
    show JL _ _ _ _ _ [_, _, _, _, _]
    refine Z2 5 ?_
    refine AC (AB 2 nb3 2 _ 107 ([SL ao9 zz9.length ca9, I64 ((eQ z0 pq3:Int))]) rfl rfl rfl AP rfl ZC (Nat.le_of_ble_eq_true rfl) (AI ZM)) rfl ?_
    show JL _ _ _ _ _ [_, _, _, _, _]
    refine Z2 5 ?_
    refine AC (BT 1 nb2 4 1 _ 71 (.bool (fQ z0 qa)) ([.bool (fQ z0 qa)]) (V0 (vQ z0 0 8) (((vQ z0 8 1).toNat:Int)) (((vQ z0 9 1).toNat:Int)) ja jn jc (fQ z0 qa) 0 0 0 none 0 0 none 0 0 0 (zr8 16) none 0 0 none 0 0) rfl rfl rfl rfl DU rfl ZC ZS (rfl)) rfl ?_
    show JL _ _ _ _ _ [_, _, _, _, _]
    refine A1 ?_
    have hf4 : F4 z0 = true := F4_t hb31 hb32
    refine DZ [0, 1, 2, 3] ZD ?_
    show JQ _ _ _ _ [_, _, _, _]
    refine BU ((pq3, fQ z0 qa, ao9, zz9, ca9)) ⟨by rw [P2_t hf4, ← hqa]; exact hpq3, by rw [thZ_t hf4, ← hqa], hq9, (by intro w M hr; exact (hA9 _ _ (hrA _ _ hr))), ZO, ZO, ZO⟩ (Sub.all rfl) rfl
   have hp32 := of_decide_eq_false hb32
   refine CY ?_
   have hf4 : F4 z0 = false := F4_n4 hb32
   refine BU ((qa, false, ra, zr, rc)) ⟨hqa.trans (P2_f hf4).symm, (thZ_f hf4).symm, hrq, (by intro w M hr; exact (hrA _ _ hr)), ZO, ZO, ZO⟩ (Sub.all rfl) rfl
  have hp31 := of_decide_eq_false hb31
  refine Z2 6 ?_
  refine AY _ rfl rfl ?_
  refine CY ?_
  have hf4 : F4 z0 = false := F4_n0 hb31
  refine BU ((qa, false, ra, zr, rc)) ⟨hqa.trans (P2_f hf4).symm, (thZ_f hf4).symm, hrq, (by intro w M hr; exact (hrA _ _ hr)), ZO, ZO, ZO⟩ (Sub.all rfl) rfl
 rintro ⟨qb, th, rb, zb, sb⟩ hx
 obtain ⟨hqb, hth, hsq, hsA, hs1, hs2, hs3⟩ := hx
 show JQ _ _ _ [_, _, _, _] [_, _, _, _]
 refine AK (A4 (ED (ι := Nat × UInt64 × UInt64 × Int × Nat × List UInt64 × Nat × List SealR × UInt64 × List UInt8 × Option Addr × Nat × Nat × List Value × Nat × Option Addr × Nat × Nat × List Value × Nat × Option Addr × List UInt8 × Nat) (fun ⟨qt, pv, ep, kd, ni, l, ns, ls, bl, tg, ka, kc, kg, kcs, kT, ma, mc, mg, mcs, mT, ta, zt, tc⟩ => [(2, Ptr nb1 0), (3, .bool false), (4, Ptr nb2 0), (5, Ptr nb3 0)]) (fun ⟨qt, pv, ep, kd, ni, l, ns, ls, bl, tg, ka, kc, kg, kcs, kT, ma, mc, mg, mcs, mT, ta, zt, tc⟩ => [(Ez nb1 (V6) 71), (Ez nb2 (V0 (vQ z0 0 8) (((vQ z0 8 1).toNat:Int)) (((vQ z0 9 1).toNat:Int)) ja jn jc th pv ep (kd) ka ni kc ma ns mc bl tg none 0 0 none 0 0) 71), (Ez nb3 [SL ta zt.length tc, I64 ((eQ z0 qt:Int))] 107), (Ez jg jcs jT), (Ez kg kcs kT), (Ez mg mcs mT)]) (fun ⟨qt, pv, ep, kd, ni, l, ns, ls, bl, tg, ka, kc, kg, kcs, kT, ma, mc, mg, mcs, mT, ta, zt, tc⟩ => qt = P3 z0 ∧ TkZ z0 pv ep kd l ls bl tg ∧ l.length = ni ∧ ls.length = ns ∧ tg.length = 16 ∧ ni ≤ 256 ∧ ns ≤ 256 ∧ Gh (cu64 l) kg kcs ka ∧ ni ≤ kc ∧ kc ≤ maxLen ∧ Gh (ls.flatMap sealC) mg mcs ma ∧ ns ≤ mc ∧ mc ≤ maxLen ∧ Lq z0 zt qt ∧ (∀ w M, RdB w M ax z0 → RdB w M ta zt) ∧ zt.length ≤ tc ∧ tc ≤ maxLen ∧ zt.length ≤ n) ?_ ?_))
 ·
  refine Z2 3 ?_
  refine AF (A5 94 _ _ (AH _ Tryd.call94 rfl) (fun w1 hw1 => hasG_c (vQ z0 0 8) (((vQ z0 8 1).toNat:Int)) (((vQ z0 9 1).toNat:Int)) ja jn jc jl th (0:UInt64) (0:UInt64) (0:Int) none 0 0 ([] : List UInt64) none 0 0 ([] : List SealR) (0:UInt64) (zr8 16) none 0 0 [] none 0 0 [] w1 (AN 16))) rfl ?_
  rintro v1 L1 ⟨_, ⟨sg3, cs3, nT3, sg4, cs4, nT4, rfl, rfl⟩, rfl⟩
  show JL _ _ _ _ ((111, .agg #[.bool (itB (((vQ z0 9 1).toNat:Int)) (((vQ z0 8 1).toNat:Int))), .bool (chB (((vQ z0 9 1).toNat:Int)) (((vQ z0 8 1).toNat:Int)) th), .bool (aB (((vQ z0 9 1).toNat:Int)) (((vQ z0 8 1).toNat:Int)) th), .bool (bB (((vQ z0 9 1).toNat:Int)) (((vQ z0 8 1).toNat:Int)) th)]) :: _) [_, _, _, _, (Ez sg3 cs3 nT3), (Ez sg4 cs4 nT4)]
  refine AE (.bool (chB (((vQ z0 9 1).toNat:Int)) (((vQ z0 8 1).toNat:Int)) th)) (Ev_index1 4 4 _ DC Tryd.isAgg4 DU rfl rfl ZO ZO (Seg.get1 (B0 (Seg.head)) ZO)) rfl ?_
  refine A1 (AK (AX (chB (((vQ z0 9 1).toNat:Int)) (((vQ z0 8 1).toNat:Int)) th) rfl (fun hb36 => ?_) (fun hb36 => ?_)))
  ·
   refine Z2 3 ?_
   refine AF (A5 58 _ _ (AH _ Tryd.call58 rfl) (fun w1 hw1 => rreadU_w qb rb zb.length sb z0 zb w1 rfl ZO ZO ZO ((hsA _ _ hr).at (M' := []) hw1 ZM) hsq)) rfl ?_
   rintro v1 L1 ⟨_, ⟨tv1, te1, tk1, tn1, tl1, tm1, ts1, tb1, tg1, tt1, tq1, ao10, zz10, ca10, ng1, cs5, nT5, na1, nc1, ng2, cs6, nT6, na2, nc2, hT1, hpq4, hc1, hc2, hc3, hc4, hc5, hq10, ⟨hA10, hb37, hb38, hb39⟩, rfl, rfl, hc6, hc7, hc8, hc9, hc10, hc11⟩, rfl⟩
   show JL _ _ _ _ ((115, .tuple #[.agg (V2 tv1 te1 (tk1) na1 tn1 nc1 na2 tm1 nc2 tb1 tg1).toArray, .agg #[SL ao10 zz10.length ca10, I64 ((eQ z0 tq1:Int))]]) :: _) [_, _, _, _, _, _, (Ez ng1 cs5 nT5), (Ez ng2 cs6 nT6)]
   refine Z2 3 ?_
   refine AF (AS _ (V4) Tryd.zeroValue38 ZR) rfl ?_
   rintro v1 L1 ⟨nb22, hnb22, rfl, rfl⟩
   show JL _ _ _ _ (_ :: _) [_, _, _, _, _, _, _, _, _]
   refine AF (AS _ ([SL none 0 0, I64 0]) A3 ZR) rfl ?_
   rintro v1 L1 ⟨nb23, hnb23, rfl, rfl⟩
   show JL _ _ _ _ (_ :: _) [_, _, _, _, _, _, _, _, _, _]
   refine AC (AB 8 nb22 22 _ 38 (V2 tv1 te1 (tk1) na1 tn1 nc1 na2 tm1 nc2 tb1 tg1) rfl rfl rfl B8 (by simp [hc3]) (AQ ZC A6) ZS (AI (by simp [(AN 16), hc3]))) rfl ?_
   show JL _ _ _ _ _ [_, _, _, _, _, _, _, _, _, _]
   refine AC (AB 9 nb23 2 _ 107 ([SL ao10 zz10.length ca10, I64 ((eQ z0 tq1:Int))]) rfl rfl rfl AP rfl ZC (Nat.le_of_ble_eq_true rfl) (AI ZM)) rfl ?_
   show JL _ _ _ _ _ [_, _, _, _, _, _, _, _, _, _]
   refine Z2 5 ?_
   refine AC (AB 2 nb3 2 _ 107 ([SL ao10 zz10.length ca10, I64 ((eQ z0 tq1:Int))]) rfl rfl rfl AP rfl ZC (Nat.le_of_ble_eq_true rfl) (AI ZM)) rfl ?_
   show JL _ _ _ _ _ [_, _, _, _, _, _, _, _, _, _]
   refine Z2 5 ?_
   refine AC (BT 1 nb2 5 22 _ 71 (.agg (V2 tv1 te1 (tk1) na1 tn1 nc1 na2 tm1 nc2 tb1 tg1).toArray) (V2 tv1 te1 (tk1) na1 tn1 nc1 na2 tm1 nc2 tb1 tg1) (V0 (vQ z0 0 8) (((vQ z0 8 1).toNat:Int)) (((vQ z0 9 1).toNat:Int)) ja jn jc th tv1 te1 (tk1) na1 tn1 nc1 na2 tm1 nc2 tb1 tg1 none 0 0 none 0 0) rfl rfl rfl (by first | rfl | simp) B8 (by simp [hc3]) (AQ ZC A6) ZS (FL (a := [U64 (vQ z0 0 8), I64 (((vQ z0 8 1).toNat:Int)), I64 (((vQ z0 9 1).toNat:Int)), SL ja jn jc, .bool th]) (b := V4) (c := [SL none 0 0, SL none 0 0]) (by simp only [List.append_assoc, List.cons_append, List.nil_append, List.append_nil]) (by simp [(AN 16), hc3]) (by simp [(AN 16), hc3]) (by simp only [List.append_assoc, List.cons_append, List.nil_append, List.append_nil]))) rfl ?_
   show JL _ _ _ _ _ [_, _, _, _, _, _, _, _, _, _]
   refine A1 ?_
   have hch : chZ z0 = true := by unfold chZ; rw [← hth]; exact hb36
   have htn : tt1 = tkN (z0.drop qb) := TkR.tot hT1
   refine DZ [0, 1, 2, 3, 6, 7] ZD ?_
   show JQ _ _ _ _ [_, _, _, _, _, _]
   refine BU ((tq1, tv1, te1, tk1, tn1, tl1, tm1, ts1, tb1, tg1, na1, nc1, ng1, cs5, nT5, na2, nc2, ng2, cs6, nT6, ao10, zz10, ca10)) ⟨by rw [P3_t hch, ← hqb, ← htn]; exact hpq4, .inl ⟨hch, by rw [← hqb, ← htn]; exact hT1⟩, hc1, hc2, hc3, ZO, ZO, hc6, ZO, ZO, hc9, ZO, ZO, hq10, (by intro w M hr; exact (hA10 _ _ (hsA _ _ hr))), ZO, ZO, ZO⟩ (Sub.all rfl) rfl
  refine CY ?_
  have hch : chZ z0 = false := by unfold chZ; rw [← hth]; exact hb36
  refine BU ((qb, 0, 0, 0, 0, [], 0, [], 0, zr8 16, none, 0, sg3, cs3, nT3, none, 0, sg4, cs4, nT4, rb, zb, sb)) ⟨hqb.trans (P3_f hch).symm, .inr ⟨hch, rfl, rfl, rfl, rfl, rfl, rfl, rfl⟩, rfl, rfl, AN 16, ZO, ZO, .inl rfl, ZO, by unfold maxLen; omega, .inl rfl, ZO, by unfold maxLen; omega, hsq, (by intro w M hr; exact (hsA _ _ hr)), ZO, ZO, ZO⟩ (Sub.all rfl) rfl
 rintro ⟨qt, pv, ep, kd, ni, l, ns, ls, bl, tg, ka, kc, kg, kcs, kT, ma, mc, mg, mcs, mT, ta, zt, tc⟩ hx
 obtain ⟨hqt, htk, hkl, hml, htgl, hni, hns, hkg, hkc, hkm, hmg, hmc, hmm, htq, htA, ht1, ht2, ht3⟩ := hx
 show JQ _ _ _ [_, _, _, _] [_, _, _, _, _, _]
 refine AK (A4 (ED (ι := Nat × Option Addr × Nat × Nat × List UInt8 × Nat × List Value × Nat × Option Addr × List UInt8 × Nat) (fun ⟨qhA, haA, hnA, hkA, hxA, hAg, hAcs, hAT, raA, zrA, rcA⟩ => [(2, Ptr nb1 0), (3, .bool false), (4, Ptr nb2 0), (5, Ptr nb3 0)]) (fun ⟨qhA, haA, hnA, hkA, hxA, hAg, hAcs, hAT, raA, zrA, rcA⟩ => [(Ez nb1 (V6) 71), (Ez nb2 (V0 (vQ z0 0 8) (((vQ z0 8 1).toNat:Int)) (((vQ z0 9 1).toNat:Int)) ja jn jc th pv ep (kd) ka ni kc ma ns mc bl tg haA hnA hkA none 0 0) 71), (Ez nb3 [SL raA zrA.length rcA, I64 ((eQ z0 qhA:Int))] 107), (Ez jg jcs jT), (Ez kg kcs kT), (Ez mg mcs mT), (Ez hAg hAcs hAT)]) (fun ⟨qhA, haA, hnA, hkA, hxA, hAg, hAcs, hAT, raA, zrA, rcA⟩ => qhA = P4 z0 ∧ (qhA ≤ z0.length → (hnA = naZ z0 ∧ hxA = xaZ z0) ∧ 32 * hnA ≤ qhA) ∧ hxA.length = hnA*32 ∧ Gh (cu8 hxA) hAg hAcs haA ∧ hnA ≤ hkA ∧ hkA ≤ maxLen ∧ hnA ≤ 65535 ∧ Lq z0 zrA qhA ∧ (∀ w M, RdB w M ax z0 → RdB w M raA zrA) ∧ zrA.length ≤ rcA ∧ rcA ≤ maxLen ∧ zrA.length ≤ n) ?_ ?_))
 ·
  refine Z2 3 ?_
  refine AF (A5 94 _ _ (AH _ Tryd.call94 rfl) (fun w1 hw1 => hasG_c (vQ z0 0 8) (((vQ z0 8 1).toNat:Int)) (((vQ z0 9 1).toNat:Int)) ja jn jc jl th pv ep (kd) ka ni kc l ma ns mc ls bl tg none 0 0 [] none 0 0 [] w1 htgl)) rfl ?_
  rintro v1 L1 ⟨_, ⟨sg5, cs7, nT7, sg6, cs8, nT8, rfl, rfl⟩, rfl⟩
  show JL _ _ _ _ ((122, .agg #[.bool (itB (((vQ z0 9 1).toNat:Int)) (((vQ z0 8 1).toNat:Int))), .bool (chB (((vQ z0 9 1).toNat:Int)) (((vQ z0 8 1).toNat:Int)) th), .bool (aB (((vQ z0 9 1).toNat:Int)) (((vQ z0 8 1).toNat:Int)) th), .bool (bB (((vQ z0 9 1).toNat:Int)) (((vQ z0 8 1).toNat:Int)) th)]) :: _) [_, _, _, _, _, _, (Ez sg5 cs7 nT7), (Ez sg6 cs8 nT8)]
  refine AE (.bool (aB (((vQ z0 9 1).toNat:Int)) (((vQ z0 8 1).toNat:Int)) th)) (Ev_index1 4 4 _ DC Tryd.isAgg4 DU rfl rfl ZO ZO (Seg.get1 (B0 (B0 (Seg.head))) ZO)) rfl ?_
  refine A1 (AK (AX (aB (((vQ z0 9 1).toNat:Int)) (((vQ z0 8 1).toNat:Int)) th) rfl (fun hb40 => ?_) (fun hb40 => ?_)))
  ·
   refine Z2 3 ?_
   refine AF (A5 125 _ _ (AH _ Tryd.call125 rfl) (fun w1 hw1 => rowQ_c qt ta zt.length tc z0 zt w1 rfl ZO ZO ZO ((htA _ _ hr).at (M' := []) hw1 ZM) htq)) rfl ?_
   rintro v1 L1 ⟨_, ⟨pq4, ao11, zz11, ca11, nm1, ng3, cs9, nT9, na3, nc3, hpq5, hq11, ⟨hA11, hb41, hb42, hb43⟩, hm1, hme1, rfl, rfl, hc12, hc13, hc14⟩, rfl⟩
   show JL _ _ _ _ ((126, .tuple #[SL na3 nm1 nc3, .agg #[SL ao11 zz11.length ca11, I64 ((eQ z0 pq4:Int))]]) :: _) [_, _, _, _, _, _, _, _, (Ez ng3 cs9 nT9)]
   refine Z2 3 ?_
   refine AF (AS _ ([SL none 0 0, I64 0]) A3 ZR) rfl ?_
   rintro v1 L1 ⟨nb24, hnb24, rfl, rfl⟩
   show JL _ _ _ _ (_ :: _) [_, _, _, _, _, _, _, _, _, _]
   refine Z2 1 ?_
   refine AC (AB 9 nb24 2 _ 107 ([SL ao11 zz11.length ca11, I64 ((eQ z0 pq4:Int))]) rfl rfl rfl AP rfl ZC (Nat.le_of_ble_eq_true rfl) (AI ZM)) rfl ?_
   show JL _ _ _ _ _ [_, _, _, _, _, _, _, _, _, _]
   refine Z2 5 ?_
   refine AC (AB 2 nb3 2 _ 107 ([SL ao11 zz11.length ca11, I64 ((eQ z0 pq4:Int))]) rfl rfl rfl AP rfl ZC (Nat.le_of_ble_eq_true rfl) (AI ZM)) rfl ?_
   show JL _ _ _ _ _ [_, _, _, _, _, _, _, _, _, _]
   refine Z2 5 ?_
   refine AC (BT 1 nb2 27 1 _ 71 (SL na3 nm1 nc3) ([SL na3 nm1 nc3]) (V0 (vQ z0 0 8) (((vQ z0 8 1).toNat:Int)) (((vQ z0 9 1).toNat:Int)) ja jn jc th pv ep (kd) ka ni kc ma ns mc bl tg na3 nm1 nc3 none 0 0) rfl rfl rfl rfl D2 rfl ZC (by simp [htgl]) (DB 27 0 (by simp [htgl]) rfl (rfl))) rfl ?_
   show JL _ _ _ _ _ [_, _, _, _, _, _, _, _, _, _]
   refine A1 ?_
   have hzA : aZ z0 = true := by unfold aZ; rw [← hth]; exact hb40
   refine DZ [0, 1, 2, 3, 4, 5, 8] ZD ?_
   show JQ _ _ _ _ [_, _, _, _, _, _, _]
   refine BU ((pq4, na3, nm1, nc3, hQ z0 (qt + 2) nm1, ng3, cs9, nT9, ao11, zz11, ca11)) ⟨by rw [P4_t hzA, ← hqt]; exact hpq5, (fun h => by have h9 := hme1 h; rw [(A_t hzA).1, (A_t hzA).2, ← hqt, ← h9]; exact ⟨⟨rfl, rfl⟩, ZO⟩), (hQ_len _ _ _), hc12, ZO, by first | omega | (unfold maxLen; omega), ZO, hq11, (by intro w M hr; exact (hA11 _ _ (htA _ _ hr))), ZO, ZO, ZO⟩ (Sub.all rfl) rfl
  refine CY ?_
  have hzA : aZ z0 = false := by unfold aZ; rw [← hth]; exact hb40
  refine DZ [0, 1, 2, 3, 4, 5, 6] ZD ?_
  show JQ _ _ _ _ [_, _, _, _, _, _, _]
  refine BU ((qt, none, 0, 0, [], sg5, cs7, nT7, ta, zt, tc)) ⟨hqt.trans (P4_f hzA).symm, (fun _ => ⟨⟨(A_f hzA).1.symm, (A_f hzA).2.symm⟩, ZO⟩), rfl, .inl rfl, ZO, by first | omega | (unfold maxLen; omega), ZO, htq, (by intro w M hr; exact (htA _ _ hr)), ZO, ZO, ZO⟩ (Sub.all rfl) rfl
 rintro ⟨qhA, haA, hnA, hkA, hxA, hAg, hAcs, hAT, raA, zrA, rcA⟩ hx
 obtain ⟨hqhA, hnhA, hxlA, hghA, hnkA, hkmA, hn6A, hrqA, hrAA, hr1A, hr2A, hr3A⟩ := hx
 show JQ _ _ _ [_, _, _, _] [_, _, _, _, _, _, _]
 refine AK (A4 (ED (ι := Nat × Option Addr × Nat × Nat × List UInt8 × Nat × List Value × Nat × Option Addr × List UInt8 × Nat) (fun ⟨qhB, haB, hnB, hkB, hxB, hBg, hBcs, hBT, raB, zrB, rcB⟩ => [(2, Ptr nb1 0), (3, .bool false), (4, Ptr nb2 0), (5, Ptr nb3 0)]) (fun ⟨qhB, haB, hnB, hkB, hxB, hBg, hBcs, hBT, raB, zrB, rcB⟩ => [(Ez nb1 (V6) 71), (Ez nb2 (V0 (vQ z0 0 8) (((vQ z0 8 1).toNat:Int)) (((vQ z0 9 1).toNat:Int)) ja jn jc th pv ep (kd) ka ni kc ma ns mc bl tg haA hnA hkA haB hnB hkB) 71), (Ez nb3 [SL raB zrB.length rcB, I64 ((eQ z0 qhB:Int))] 107), (Ez jg jcs jT), (Ez kg kcs kT), (Ez mg mcs mT), (Ez hAg hAcs hAT), (Ez hBg hBcs hBT)]) (fun ⟨qhB, haB, hnB, hkB, hxB, hBg, hBcs, hBT, raB, zrB, rcB⟩ => qhB = P5 z0 ∧ (qhB ≤ z0.length → (hnB = nbZ z0 ∧ hxB = xbZ z0) ∧ 32 * hnB ≤ qhB) ∧ hxB.length = hnB*32 ∧ Gh (cu8 hxB) hBg hBcs haB ∧ hnB ≤ hkB ∧ hkB ≤ maxLen ∧ hnB ≤ 65535 ∧ Lq z0 zrB qhB ∧ (∀ w M, RdB w M ax z0 → RdB w M raB zrB) ∧ zrB.length ≤ rcB ∧ rcB ≤ maxLen ∧ zrB.length ≤ n) ?_ ?_))
 ·
  refine Z2 3 ?_
  refine AF (A5 94 _ _ (AH _ Tryd.call94 rfl) (fun w1 hw1 => hasG_c (vQ z0 0 8) (((vQ z0 8 1).toNat:Int)) (((vQ z0 9 1).toNat:Int)) ja jn jc jl th pv ep (kd) ka ni kc l ma ns mc ls bl tg haA hnA hkA hxA none 0 0 [] w1 htgl)) rfl ?_
  rintro v1 L1 ⟨_, ⟨sg7, cs10, nT10, sg8, cs11, nT11, rfl, rfl⟩, rfl⟩
  show JL _ _ _ _ ((133, .agg #[.bool (itB (((vQ z0 9 1).toNat:Int)) (((vQ z0 8 1).toNat:Int))), .bool (chB (((vQ z0 9 1).toNat:Int)) (((vQ z0 8 1).toNat:Int)) th), .bool (aB (((vQ z0 9 1).toNat:Int)) (((vQ z0 8 1).toNat:Int)) th), .bool (bB (((vQ z0 9 1).toNat:Int)) (((vQ z0 8 1).toNat:Int)) th)]) :: _) [_, _, _, _, _, _, _, (Ez sg7 cs10 nT10), (Ez sg8 cs11 nT11)]
  refine AE (.bool (bB (((vQ z0 9 1).toNat:Int)) (((vQ z0 8 1).toNat:Int)) th)) (Ev_index1 4 4 _ DC Tryd.isAgg4 DU rfl rfl ZO ZO (Seg.get1 (B0 (B0 (B0 (Seg.head)))) ZO)) rfl ?_
  refine A1 (AK (AX (bB (((vQ z0 9 1).toNat:Int)) (((vQ z0 8 1).toNat:Int)) th) rfl (fun hb44 => ?_) (fun hb44 => ?_)))
  ·
   refine Z2 3 ?_
   refine AF (A5 125 _ _ (AH _ Tryd.call125 rfl) (fun w1 hw1 => rowQ_c qhA raA zrA.length rcA z0 zrA w1 rfl ZO ZO ZO ((hrAA _ _ hr).at (M' := []) hw1 ZM) hrqA)) rfl ?_
   rintro v1 L1 ⟨_, ⟨pq5, ao12, zz12, ca12, nm2, ng4, cs12, nT12, na4, nc4, hpq6, hq12, ⟨hA12, hb45, hb46, hb47⟩, hm2, hme2, rfl, rfl, hc15, hc16, hc17⟩, rfl⟩
   show JL _ _ _ _ ((137, .tuple #[SL na4 nm2 nc4, .agg #[SL ao12 zz12.length ca12, I64 ((eQ z0 pq5:Int))]]) :: _) [_, _, _, _, _, _, _, _, _, (Ez ng4 cs12 nT12)]
   refine Z2 3 ?_
   refine AF (AS _ ([SL none 0 0, I64 0]) A3 ZR) rfl ?_
   rintro v1 L1 ⟨nb25, hnb25, rfl, rfl⟩
   show JL _ _ _ _ (_ :: _) [_, _, _, _, _, _, _, _, _, _, _]
   refine Z2 1 ?_
   refine AC (AB 10 nb25 2 _ 107 ([SL ao12 zz12.length ca12, I64 ((eQ z0 pq5:Int))]) rfl rfl rfl AP rfl ZC (Nat.le_of_ble_eq_true rfl) (AI ZM)) rfl ?_
   show JL _ _ _ _ _ [_, _, _, _, _, _, _, _, _, _, _]
   refine Z2 5 ?_
   refine AC (AB 2 nb3 2 _ 107 ([SL ao12 zz12.length ca12, I64 ((eQ z0 pq5:Int))]) rfl rfl rfl AP rfl ZC (Nat.le_of_ble_eq_true rfl) (AI ZM)) rfl ?_
   show JL _ _ _ _ _ [_, _, _, _, _, _, _, _, _, _, _]
   refine Z2 5 ?_
   refine AC (BT 1 nb2 28 1 _ 71 (SL na4 nm2 nc4) ([SL na4 nm2 nc4]) (V0 (vQ z0 0 8) (((vQ z0 8 1).toNat:Int)) (((vQ z0 9 1).toNat:Int)) ja jn jc th pv ep (kd) ka ni kc ma ns mc bl tg haA hnA hkA na4 nm2 nc4) rfl rfl rfl rfl D2 rfl ZC (by simp [htgl]) (DB 27 1 (by simp [htgl]) rfl (rfl))) rfl ?_
   show JL _ _ _ _ _ [_, _, _, _, _, _, _, _, _, _, _]
   refine A1 ?_
   have hzB : bZ z0 = true := by unfold bZ; rw [← hth]; exact hb44
   refine DZ [0, 1, 2, 3, 4, 5, 6, 9] ZD ?_
   show JQ _ _ _ _ [_, _, _, _, _, _, _, _]
   refine BU ((pq5, na4, nm2, nc4, hQ z0 (qhA + 2) nm2, ng4, cs12, nT12, ao12, zz12, ca12)) ⟨by rw [P5_t hzB, ← hqhA]; exact hpq6, (fun h => by have h9 := hme2 h; rw [(B_t hzB).1, (B_t hzB).2, ← hqhA, ← h9]; exact ⟨⟨rfl, rfl⟩, ZO⟩), (hQ_len _ _ _), hc15, ZO, by first | omega | (unfold maxLen; omega), ZO, hq12, (by intro w M hr; exact (hA12 _ _ (hrAA _ _ hr))), ZO, ZO, ZO⟩ (Sub.all rfl) rfl
  refine CY ?_
  have hzB : bZ z0 = false := by unfold bZ; rw [← hth]; exact hb44
  refine DZ [0, 1, 2, 3, 4, 5, 6, 7] ZD ?_
  show JQ _ _ _ _ [_, _, _, _, _, _, _, _]
  refine BU ((qhA, none, 0, 0, [], sg7, cs10, nT10, raA, zrA, rcA)) ⟨hqhA.trans (P5_f hzB).symm, (fun _ => ⟨⟨(B_f hzB).1.symm, (B_f hzB).2.symm⟩, ZO⟩), rfl, .inl rfl, ZO, by first | omega | (unfold maxLen; omega), ZO, hrqA, (by intro w M hr; exact (hrAA _ _ hr)), ZO, ZO, ZO⟩ (Sub.all rfl) rfl
 rintro ⟨qhB, haB, hnB, hkB, hxB, hBg, hBcs, hBT, raB, zrB, rcB⟩ hx
 obtain ⟨hqhB, hnhB, hxlB, hghB, hnkB, hkmB, hn6B, hrqB, hrAB, hr1B, hr2B, hr3B⟩ := hx
 show JQ _ _ _ [_, _, _, _] [_, _, _, _, _, _, _, _]
 refine Z2 3 ?_
 have hbd : endN (eQ z0 qhB) zrB.length = 0 ↔ qhB = z0.length := E4 hrqB
 have g1 := P2_ge z0
 have g2 := P3_ge z0
 have g3 := P4_ge z0
 have g4 := P5_ge z0
 refine Z2 2 ?_
 refine AC (AJ 64 _ (I64 ((endN (eQ z0 qhB) zrB.length:Int))) (AH _ Tryd.call64 rfl) (fun w1 hw1 => rend_w raB zrB.length rcB (eQ z0 qhB) w1 )) rfl ?_
 show JL _ _ _ _ ((144, I64 ((endN (eQ z0 qhB) zrB.length:Int))) :: _) [_, _, _, _, _, _, _, _]
 refine Z2 2 ?_
 rcases Bool.eq_false_or_eq_true (decide (((endN (eQ z0 qhB) zrB.length:Int)) ≠ (0:Int))) with hb48 | hb48
 ·
  have hp48 := of_decide_eq_true hb48
  refine Z2 6 ?_
  refine A7 _ rfl rfl ?_
  refine A4 (AO (AE (.agg (V6).toArray) Ze rfl ?_))
  refine AC (AB 0 nb1 29 _ 71 (V6) rfl rfl rfl D1 ZS (AQ (AQ ZC A6) ZC) ZS (AI ZS)) rfl ?_
  show JL _ _ _ _ _ [_, _, _, _, _, _, _, _]
  refine Z2 5 ?_
  refine DR (.tuple #[.agg (V6).toArray, .bool false]) ZP fun w1 hw1 => ?_
  exact ⟨_, _, rfl, .inr ⟨BadRp.far (fun e => (of_decide_eq_true hb48) (by have h9 := hbd.2 (hqhB.trans e); omega)), rfl, _, _, _, _, _, _, _, _, _, _, _, _, _, _, _, rfl⟩, Hp.pick hw1 [3, 4, 5, 6, 7] ⟨rfl, rfl, rfl, rfl, rfl, trivial⟩ ZD⟩
 have hp48 := of_decide_eq_false hb48
 refine Z2 1 ?_
 refine B6 3 146 false _ rfl rfl hb48 (AJ 33 _ (.bool (repR (((vQ z0 8 1).toNat:Int)) (((vQ z0 9 1).toNat:Int)) th jl (blankB pv ep (kd) l ls bl tg) (decide (mayN pv ep (kd) l ls bl = 0)) hnA hnB)) (AH _ Tryd.call33 rfl) (fun w1 hw1 => rrightRep_c (vQ z0 0 8) (((vQ z0 8 1).toNat:Int)) (((vQ z0 9 1).toNat:Int)) ja jn jc jl th pv ep (kd) ka ni kc l ma ns mc ls bl tg haA hnA hkA hxA haB hnB hkB hxB w1 hjl ZO ZO ZO (Gh.at hw1 3 rfl hjg) hkl ZO ZO ZO (Gh.at hw1 4 rfl hkg) hml ZO ZO ZO (Gh.at hw1 5 rfl hmg) htgl hxlA ZO ZO ZO (Gh.rdB hw1 6 rfl hghA) hxlB ZO ZO ZO (Gh.rdB hw1 7 rfl hghB) ZO ZO)) rfl ?_
 rintro v1 L1 ⟨rfl, rfl⟩
 show JL _ _ _ _ ((148, .bool (repR (((vQ z0 8 1).toNat:Int)) (((vQ z0 9 1).toNat:Int)) th jl (blankB pv ep (kd) l ls bl tg) (decide (mayN pv ep (kd) l ls bl = 0)) hnA hnB)) :: _) [_, _, _, _, _, _, _, _]
 refine Z2 4 ?_
 refine AX (!(repR (((vQ z0 8 1).toNat:Int)) (((vQ z0 9 1).toNat:Int)) th jl (blankB pv ep (kd) l ls bl tg) (decide (mayN pv ep (kd) l ls bl = 0)) hnA hnB)) rfl (fun hb49 => ?_) (fun hb49 => ?_)
 ·
  have hb50 : (repR (((vQ z0 8 1).toNat:Int)) (((vQ z0 9 1).toNat:Int)) th jl (blankB pv ep (kd) l ls bl tg) (decide (mayN pv ep (kd) l ls bl = 0)) hnA hnB) = false := by simpa using hb49
  refine A4 (AO (AE (.agg (V6).toArray) Ze rfl ?_))
  refine AC (AB 0 nb1 29 _ 71 (V6) rfl rfl rfl D1 ZS (AQ (AQ ZC A6) ZC) ZS (AI ZS)) rfl ?_
  show JL _ _ _ _ _ [_, _, _, _, _, _, _, _]
  refine Z2 5 ?_
  refine DR (.tuple #[.agg (V6).toArray, .bool false]) ZP fun w1 hw1 => ?_
  have he : qhB = z0.length := hbd.1 (by have h9 := of_decide_eq_false hb48; omega)
  have hA := hnhA ZO
  have hB := hnhB ZO
  exact ⟨_, _, rfl, .inr ⟨BadRp.of ⟨hqhB.symm.trans he, rfl, rfl, rfl, hja ZO, hth, htk, hA.1.1, hA.1.2, hB.1.1, hB.1.2⟩ hb50, rfl, _, _, _, _, _, _, _, _, _, _, _, _, _, _, _, rfl⟩, Hp.pick hw1 [3, 4, 5, 6, 7] ⟨rfl, rfl, rfl, rfl, rfl, trivial⟩ ZD⟩
 have hb51 : (repR (((vQ z0 8 1).toNat:Int)) (((vQ z0 9 1).toNat:Int)) th jl (blankB pv ep (kd) l ls bl tg) (decide (mayN pv ep (kd) l ls bl = 0)) hnA hnB) = true := by simpa using hb49
 refine Z2 5 ?_
 refine AC (AB 0 nb1 29 _ 71 (V0 (vQ z0 0 8) (((vQ z0 8 1).toNat:Int)) (((vQ z0 9 1).toNat:Int)) ja jn jc th pv ep (kd) ka ni kc ma ns mc bl tg haA hnA hkA haB hnB hkB) rfl rfl rfl D1 (by simp [htgl]) (AQ (AQ ZC A6) ZC) ZS (AI (by simp [(AN 16), htgl]))) rfl ?_
 show JL _ _ _ _ _ [_, _, _, _, _, _, _, _]
 refine Z2 4 ?_
 refine DR (.tuple #[.agg (V0 (vQ z0 0 8) (((vQ z0 8 1).toNat:Int)) (((vQ z0 9 1).toNat:Int)) ja jn jc th pv ep (kd) ka ni kc ma ns mc bl tg haA hnA hkA haB hnB hkB).toArray, .bool true]) ZP fun w1 hw1 => ?_
 have he : qhB = z0.length := hbd.1 (by have h9 := of_decide_eq_false hb48; omega)
 have hA := hnhA ZO
 have hB := hnhB ZO
 exact ⟨_, _, rfl, .inl ⟨_, _, _, jn, _, _, _, _, _, ni, _, ns, _, _, _, hnA, _, hnB, _, _, _, _, ja, jc, _, _, _, ka, kc, _, _, _, ma, mc, _, _, _, haA, hkA, _, _, _, haB, hkB, ⟨⟨hqhB.symm.trans he, rfl, rfl, rfl, hja ZO, hth, htk, hA.1.1, hA.1.2, hB.1.1, hB.1.2⟩, hb51⟩, hjl, hkl, hml, htgl, ZO, hni, hns, hxlA, hxlB, rfl, rfl, hjg, by first | omega | (unfold maxLen; omega), by first | omega | (unfold maxLen; omega), hkg, by first | omega | (unfold maxLen; omega), by first | omega | (unfold maxLen; omega), hmg, by first | omega | (unfold maxLen; omega), by first | omega | (unfold maxLen; omega), hghA, by first | omega | (unfold maxLen; omega), by first | omega | (unfold maxLen; omega), hghB, by first | omega | (unfold maxLen; omega), by first | omega | (unfold maxLen; omega)⟩, Hp.pick hw1 [3, 4, 5, 6, 7] ⟨rfl, rfl, rfl, rfl, rfl, trivial⟩ ZD⟩
end Go.Proofs.YtkdpdgpphpngeaaDoor
