import Derived.JoinedOf
import Derived.SevenTiedAt
import Derived.Test.YtkdpdgpphpngeaaDoorPkTkq5
set_option linter.unusedVariables false
set_option linter.unusedSimpArgs false
set_option maxRecDepth 100000
namespace Go.Proofs.YtkdpdgpphpngeaaDoor
open Go Go.Sx
attribute [local irreducible] mid zr8 zr32 numK rnK rotr wordL spreadL comprL cpN adN spN wrdN constL initL padL stN outN routN sumG putL blkL xbN raN macL rkeysL rencL encL rkL thereL backL nextL rnextL strT xorN eBlk rBlk encK tgK placeT turnP tagP RightB sealN sE sD sT tktT mayN idxT selT tkG RightO
theorem tsealA_c (sb cb : Nat) (k : List UInt8) (e : UInt64) (ai : Option Addr) (ni ci : Nat) (l : List UInt64) (ab : Option Addr) (nb cb2 : Nat) (xb : List UInt8)  (w : World) (hk : k.length = 16) (hS : w.heap[sb]? = some (.cells (cu8 (encK k) ++ cu8 (tgK k) ++ cu8 (macL k ([101, 110, 116, 114, 117, 115, 116, 32, 116, 105, 99, 107, 101, 116] : List UInt8)) ++ cu8 (macL k ([101, 110, 116, 114, 117, 115, 116, 32, 108, 105, 110, 107] : List UInt8)) ++ [Ptr cb 0]).toArray 226 (0, 0))) (hC : w.heap[cb]? = some (.cells (cu8 (rkL (encK k)) ++ cu8 thereL ++ cu8 backL).toArray 255 (0, 0))) (hne : ni ≠ nb)  : Calls Tryd.prog 75 #[Ptr sb 0, U64 e, .slice ai ni ci, .slice ab nb cb2] w (Post w [] (fun v L => v = .tuple #[.agg #[I64 0, .slice none 0 0, .slice none 0 0, U64 0], .iface 50 (I64 2)] ∧ L = [])) := by
 refine enter w [] 60 [] [Ptr sb 0, U64 e, .slice ai ni ci, .slice ab nb cb2] Tryd.func75 rfl rfl (by simp) (BR (by simp) (by simp) (by simp)) ?_
 show JC _ _ _ [(0, Ptr sb 0), (1, U64 e), (2, .slice ai ni ci), (3, .slice ab nb cb2)] _
 refine AF (AB (AV (A7 _ ([I64 0, .slice none 0 0, .slice none 0 0, U64 0]) EN (by kernel_rfl)) rfl ?_))
 rintro v1 L1 ⟨nb1, hnb1, rfl, rfl⟩
 show JL _ _ _ _ ((8, Ptr nb1 0) :: _) [⟨nb1, [I64 0, .slice none 0 0, .slice none 0 0, U64 0], 26, (0, 0)⟩]
 refine AA _ (AE rfl) rfl ?_
 refine AI (AC (AF (AF (AB (AA _ (AG rfl) rfl ?_)))))
 refine AA (I64 ni) (DW BI rfl) rfl ?_
 refine AA _ (AG rfl) rfl ?_
 refine AA (I64 nb) (DW C3 rfl) rfl ?_
 refine AA (.bool (decide (((ni:Int)) ≠ ((nb:Int))))) (AJ rfl rfl fun _ => FU _ _) rfl ?_
 refine AI (AC (D1 _ rfl (decide_eq_true (by omega)) ?_))
 refine AF (AB (AA (.agg #[I64 0, .slice none 0 0, .slice none 0 0, U64 0]) (DG [] _ rfl (fun _ => by kernel_rfl)) rfl ?_))
 refine AA (.iface 50 (I64 2)) (Ev_iface E2 rfl rfl) rfl ?_
 refine A0 (AX 0 nb1 4 ([I64 0, .slice none 0 0, .slice none 0 0, U64 0]) 26 ([I64 0, .slice none 0 0, .slice none 0 0, U64 0]) rfl rfl rfl B7 rfl (by simp [Value.oneCell']) (Nat.le_of_ble_eq_true rfl) (A6 (by simp []))) rfl ?_
 show JL _ _ _ _ _ [⟨nb1, [I64 0, .slice none 0 0, .slice none 0 0, U64 0], 26, (0, 0)⟩]
 refine AA _ (AE rfl) rfl ?_
 refine AI (AC (BO (A3 (BQ (.tuple #[.agg #[I64 0, .slice none 0 0, .slice none 0 0, U64 0], .iface 50 (I64 2)]) (res2 Tryd.results75 (DY rfl (BH EQ B7 rfl (AR 0 rfl (AN _)))) (B2 rfl)) fun w1 hw1 => ?_))))
 exact ⟨_, [], rfl, ⟨rfl, rfl⟩, hw1.sub (by simp) (by simp)⟩
theorem bld26_01 {w : World} {v0 : Value} {v1 : Value} (h0 : v0.cells = [v0].toArray) (h1 : v1.cells = [v1].toArray) : (Instr.build 26 ([(0, v0), (1, v1)] : List (Nat × Value)).toArray).run Tryd.prog w = .ok (.agg (((([v0] : List Value) ++ ([v1] : List Value)) ++ ([.slice none 0 0] : List Value)) ++ ([U64 0] : List Value)).toArray) w :=
 EH (places := #[(0, 1), (1, 1), (2, 1), (3, 1)]) (Z := (([I64 0] : List Value) ++ (([.slice none 0 0] : List Value) ++ (([.slice none 0 0] : List Value) ++ (([U64 0] : List Value) ++ []))))) (fun _ => by kernel_rfl) A2 (fun _ => by kernel_rfl) ((F1 ([I64 0] : List Value) (([.slice none 0 0] : List Value) ++ (([.slice none 0 0] : List Value) ++ (([U64 0] : List Value) ++ []))) ([v0] : List Value) h0 (by simp [AP]) rfl).trans ((EW ([v0] : List Value) ([.slice none 0 0] : List Value) (([.slice none 0 0] : List Value) ++ (([U64 0] : List Value) ++ [])) ([v1] : List Value) h1 (by simp [AP]) rfl).trans ((F2 (([v0] : List Value) ++ ([v1] : List Value)) ([.slice none 0 0] : List Value) (([U64 0] : List Value) ++ [])).trans ((F2 ((([v0] : List Value) ++ ([v1] : List Value)) ++ ([.slice none 0 0] : List Value)) ([U64 0] : List Value) []).trans (by simp [Instr.fill])))))
theorem tsealZ_c (sb cb : Nat) (k : List UInt8) (e : UInt64) (ai : Option Addr) (ci : Nat) (ab : Option Addr) (cb2 : Nat)  (w : World) (hk : k.length = 16) (hS : w.heap[sb]? = some (.cells (cu8 (encK k) ++ cu8 (tgK k) ++ cu8 (macL k ([101, 110, 116, 114, 117, 115, 116, 32, 116, 105, 99, 107, 101, 116] : List UInt8)) ++ cu8 (macL k ([101, 110, 116, 114, 117, 115, 116, 32, 108, 105, 110, 107] : List UInt8)) ++ [Ptr cb 0]).toArray 226 (0, 0))) (hC : w.heap[cb]? = some (.cells (cu8 (rkL (encK k)) ++ cu8 thereL ++ cu8 backL).toArray 255 (0, 0))) (hci : ci ≤ maxLen) (hnI : ai = none → ci = 0)  : Calls Tryd.prog 75 #[Ptr sb 0, U64 e, .slice ai 0 ci, .slice ab 0 cb2] w (Post w [] (fun v L => v = .tuple #[.agg #[I64 0, .slice none 0 0, .slice none 0 0, U64 0], .iface 50 (I64 2)] ∧ L = [])) := by
 have hmx : maxLen = 9223372036854775807 := rfl
 refine enter w [] 60 [] [Ptr sb 0, U64 e, .slice ai 0 ci, .slice ab 0 cb2] Tryd.func75 rfl rfl (by simp) (BR (by simp) (by simp) (by simp)) ?_
 show JC _ _ _ [(0, Ptr sb 0), (1, U64 e), (2, .slice ai 0 ci), (3, .slice ab 0 cb2)] _
 refine AF (AB (AV (A7 _ ([I64 0, .slice none 0 0, .slice none 0 0, U64 0]) EN (by kernel_rfl)) rfl ?_))
 rintro v1 L1 ⟨nb1, hnb1, rfl, rfl⟩
 show JL _ _ _ _ ((8, Ptr nb1 0) :: _) [⟨nb1, [I64 0, .slice none 0 0, .slice none 0 0, U64 0], 26, (0, 0)⟩]
 refine AA _ (AE rfl) rfl ?_
 refine AI (AC (AF (AF (AB (AA _ (AG rfl) rfl ?_)))))
 refine AA (I64 0) (DW BI rfl) rfl ?_
 refine AA _ (AG rfl) rfl ?_
 refine AA (I64 0) (DW C3 rfl) rfl ?_
 refine AA (.bool (decide ((0:Int) ≠ (0:Int)))) (AJ rfl rfl fun _ => FU _ _) rfl ?_
 refine AI (AC (DV _ rfl (by decide) ?_))
 refine BJ (AC (AF (AB (AA _ (AG rfl) rfl ?_))))
 refine AV (CH 112 [.slice ai 0 ci] _ (A4 _ Tryd.call112 rfl) (fun w1 hw1 => clone64Z_w ai ci w1 (by omega) hnI)) rfl ?_
 rintro v1 L1 ⟨_, ⟨ao1, ca1, rfl, rfl, hc1, hc2⟩, rfl⟩
 show JL _ _ _ _ ((23, .slice ao1 0 ca1) :: _) [_]
 refine AA (.agg #[I64 1, .slice ao1 0 ca1, .slice none 0 0, U64 0]) (DG [(0, I64 1), (1, .slice ao1 0 ca1)] _ rfl (fun _ => bld26_01 rfl rfl)) rfl ?_
 refine AV (A7 _ ([I64 0, .slice none 0 0, .slice none 0 0, U64 0]) EN (by kernel_rfl)) rfl ?_
 rintro v1 L1 ⟨nb2, hnb2, rfl, rfl⟩
 show JL _ _ _ _ ((10, Ptr nb2 0) :: _) [_, ⟨nb2, [I64 0, .slice none 0 0, .slice none 0 0, U64 0], 26, (0, 0)⟩]
 refine A0 (AX 1 nb2 4 ([I64 0, .slice none 0 0, .slice none 0 0, U64 0]) 26 ([I64 1, .slice ao1 0 ca1, .slice none 0 0, U64 0]) rfl rfl rfl B7 rfl (by simp [Value.oneCell']) (Nat.le_of_ble_eq_true rfl) (A6 (by simp []))) rfl ?_
 show JL _ _ _ _ _ [_, ⟨nb2, [I64 1, .slice ao1 0 ca1, .slice none 0 0, U64 0], 26, (0, 0)⟩]
 refine AI (AC (AF (AF (AB (AA _ (AG rfl) rfl ?_)))))
 refine AA (I64 0) (DW C3 rfl) rfl ?_
 refine AA _ (AG rfl) rfl ?_
 refine AI (AC (A9 (DI (ι := Unit) (fun _ => [(0, Ptr sb 0), (1, U64 e), (2, .slice ai 0 ci), (8, Ptr nb1 0), (10, Ptr nb2 0), (25, .slice ab 0 cb2), (26, I64 0), (27, I64 0)]) (fun _ => [⟨nb1, [I64 0, .slice none 0 0, .slice none 0 0, U64 0], 26, (0, 0)⟩, ⟨nb2, [I64 1, .slice ao1 0 ca1, .slice none 0 0, U64 0], 26, (0, 0)⟩]) (fun _ => True) (fun _ => 1) () trivial (Sub.all rfl) rfl ?_)))
 rintro _ _
 show JC _ _ _ [(0, Ptr sb 0), (1, U64 e), (2, .slice ai 0 ci), (8, Ptr nb1 0), (10, Ptr nb2 0), (25, .slice ab 0 cb2), (26, I64 0), (27, I64 0)] [⟨nb1, [I64 0, .slice none 0 0, .slice none 0 0, U64 0], 26, (0, 0)⟩, ⟨nb2, [I64 1, .slice ao1 0 ca1, .slice none 0 0, U64 0], 26, (0, 0)⟩]
 refine AF (AB (AA (.bool (decide ((0:Int) < (0:Int)))) (AJ rfl rfl fun _ => B9 _ _) rfl ?_))
 refine AI (AC (AF (DV _ rfl (by decide) ?_)))
 refine DA (AQ (AQ (BV (AC (AF (AF (AB (AA (.agg #[I64 1, .slice ao1 0 ca1, .slice none 0 0, U64 0]) (AL rfl (BH EQ B7 rfl (AR 1 rfl (AN _)))) rfl ?_))))))))
 refine A0 (AY 69 [.agg #[I64 1, .slice ao1 0 ca1, .slice none 0 0, U64 0]] (.bool (RightO (1:Int) ([] : List UInt64) ([] : List SealR) (0:UInt64))) (A4 _ Tryd.call69 rfl) (fun w1 hw1 => right13_c (1:Int) ao1 0 ca1 ([] : List UInt64) none 0 0 ([] : List SealR) (0:UInt64) w1 rfl (by omega) (by omega) (by omega) RdV.nil rfl (by omega) (by omega) (by omega) RdV.nil)) rfl ?_
 show JL _ _ _ _ ((55, .bool (RightO (1:Int) ([] : List UInt64) ([] : List SealR) (0:UInt64))) :: _) [_, _]
 refine AA (.bool (!(RightO (1:Int) ([] : List UInt64) ([] : List SealR) (0:UInt64)))) (FV rfl) rfl ?_
 refine AI (AC (D1 _ rfl (by rw [show (RightO (1:Int) ([] : List UInt64) ([] : List SealR) (0:UInt64)) = false from (by decide +kernel)] <;> rfl) ?_))
 refine AF (AB (AA (.agg #[I64 0, .slice none 0 0, .slice none 0 0, U64 0]) (DG [] _ rfl (fun _ => by kernel_rfl)) rfl ?_))
 refine AA (.iface 50 (I64 2)) (Ev_iface E2 rfl rfl) rfl ?_
 refine A0 (AX 0 nb1 4 ([I64 0, .slice none 0 0, .slice none 0 0, U64 0]) 26 ([I64 0, .slice none 0 0, .slice none 0 0, U64 0]) rfl rfl rfl B7 rfl (by simp [Value.oneCell']) (Nat.le_of_ble_eq_true rfl) (A6 (by simp []))) rfl ?_
 show JL _ _ _ _ _ [⟨nb1, [I64 0, .slice none 0 0, .slice none 0 0, U64 0], 26, (0, 0)⟩, _]
 refine AA _ (AE rfl) rfl ?_
 refine AI (AC (BO (A3 (CA [true, false] ?_))))
 show JQ _ _ _ _ [_]
 refine BQ (.tuple #[.agg #[I64 0, .slice none 0 0, .slice none 0 0, U64 0], .iface 50 (I64 2)]) (res2 Tryd.results75 (DY rfl (BH EQ B7 rfl (AR 0 rfl (AN _)))) (B2 rfl)) fun w1 hw1 => ?_
 exact ⟨_, [], rfl, ⟨rfl, rfl⟩, hw1.sub (by simp) (by simp)⟩
theorem tsealW_c (sb cb : Nat) (k : List UInt8) (e : UInt64) (ai : Option Addr) (ni ci : Nat) (l : List UInt64) (ab : Option Addr) (cb2 : Nat) (xb : List UInt8)  (w : World) (hk : k.length = 16) (hS : w.heap[sb]? = some (.cells (cu8 (encK k) ++ cu8 (tgK k) ++ cu8 (macL k ([101, 110, 116, 114, 117, 115, 116, 32, 116, 105, 99, 107, 101, 116] : List UInt8)) ++ cu8 (macL k ([101, 110, 116, 114, 117, 115, 116, 32, 108, 105, 110, 107] : List UInt8)) ++ [Ptr cb 0]).toArray 226 (0, 0))) (hC : w.heap[cb]? = some (.cells (cu8 (rkL (encK k)) ++ cu8 thereL ++ cu8 backL).toArray 255 (0, 0))) (hl : l.length = ni) (hnm : ni ≤ 2000000) (hnc : ni ≤ ci) (hcm : ci ≤ maxLen) (hv : RdV w ai (cu64 l)) (hxl : xb.length = 32*ni) (hrx : RdB w [] ab xb) (hp1 : 0 < ni) (hn3 : ni ≤ 20) (hG : GLs w)  : Calls Tryd.prog 75 #[Ptr sb 0, U64 e, .slice ai ni ci, .slice ab ni cb2] w (Post w [] (fun v L => (¬ (∀ j, j < ni → RightB (g64 l j) e = true) ∧ v = .tuple #[.agg #[I64 0, .slice none 0 0, .slice none 0 0, U64 0], .iface 50 (I64 1)] ∧ L = []) ∨ ((∀ j, j < ni → RightB (g64 l j) e = true) ∧ RightO 1 l (slS k e l xb ni) 0 = false ∧ v = .tuple #[.agg #[I64 0, .slice none 0 0, .slice none 0 0, U64 0], .iface 50 (I64 2)] ∧ L = []) ∨ ((∀ j, j < ni → RightB (g64 l j) e = true) ∧ RightO 1 l (slS k e l xb ni) 0 = true ∧ ∃ g1 sp1 cp1 g2 sp2 cp2, v = .tuple #[.agg #[I64 1, Slc g1 0 ni cp1, Slc g2 0 ni cp2, U64 0], .nilIface] ∧ L = [⟨g1, cu64 l ++ sp1, 22, (0, 0)⟩, ⟨g2, (slS k e l xb ni).flatMap sealC ++ sp2, 161, (0, 0)⟩] ∧ sp1.length = cp1 - ni ∧ ni ≤ cp1 ∧ cp1 ≤ maxLen ∧ sp2.length = cp2 * 49 - ni * 49 ∧ ni ≤ cp2 ∧ cp2 ≤ maxLen))) := by
 have hmx : maxLen = 9223372036854775807 := rfl
 refine enter w [] 60 [] [Ptr sb 0, U64 e, .slice ai ni ci, .slice ab ni cb2] Tryd.func75 rfl rfl (by simp) (BR (by simp) (by simp) (by simp)) ?_
 show JC _ _ _ [(0, Ptr sb 0), (1, U64 e), (2, .slice ai ni ci), (3, .slice ab ni cb2)] _
 refine AF (AB (AV (A7 _ ([I64 0, .slice none 0 0, .slice none 0 0, U64 0]) EN (by kernel_rfl)) rfl ?_))
 rintro v1 L1 ⟨nb1, hnb1, rfl, rfl⟩
 show JL _ _ _ _ ((8, Ptr nb1 0) :: _) [⟨nb1, [I64 0, .slice none 0 0, .slice none 0 0, U64 0], 26, (0, 0)⟩]
 refine AA _ (AE rfl) rfl ?_
 refine AI (AC (AF (AF (AB (AA _ (AG rfl) rfl ?_)))))
 refine AA (I64 ni) (DW BI rfl) rfl ?_
 refine AA _ (AG rfl) rfl ?_
 refine AA (I64 ni) (DW C3 rfl) rfl ?_
 refine AA (.bool (decide (((ni:Int)) ≠ ((ni:Int))))) (AJ rfl rfl fun _ => FU _ _) rfl ?_
 refine AI (AC (DV _ rfl (by simp) ?_))
 refine BJ (AC (AF (AB (AA _ (AG rfl) rfl ?_))))
 refine AV (CH 112 [.slice ai ni ci] _ (A4 _ Tryd.call112 rfl) (fun w1 hw1 => clone64P_w ai ni ci l w1 hl (by omega) (by omega) (by omega) (FT hw1 rfl hv) (by omega))) rfl ?_
 rintro v1 L1 ⟨_, ⟨nb2, sp1, cp1, rfl, rfl, hc1, hc2, hc3⟩, rfl⟩
 show JL _ _ _ _ ((23, Slc nb2 0 ni cp1) :: _) [_, ⟨nb2, cu64 l ++ sp1, 22, (0, 0)⟩]
 refine AA (.agg #[I64 1, Slc nb2 0 ni cp1, .slice none 0 0, U64 0]) (DG [(0, I64 1), (1, Slc nb2 0 ni cp1)] _ rfl (fun _ => bld26_01 rfl rfl)) rfl ?_
 refine AV (A7 _ ([I64 0, .slice none 0 0, .slice none 0 0, U64 0]) EN (by kernel_rfl)) rfl ?_
 rintro v1 L1 ⟨nb3, hnb3, rfl, rfl⟩
 show JL _ _ _ _ ((10, Ptr nb3 0) :: _) [_, _, ⟨nb3, [I64 0, .slice none 0 0, .slice none 0 0, U64 0], 26, (0, 0)⟩]
 refine A0 (AX 2 nb3 4 ([I64 0, .slice none 0 0, .slice none 0 0, U64 0]) 26 ([I64 1, Slc nb2 0 ni cp1, .slice none 0 0, U64 0]) rfl rfl rfl B7 rfl (by simp [Value.oneCell']) (Nat.le_of_ble_eq_true rfl) (A6 (by simp []))) rfl ?_
 show JL _ _ _ _ _ [_, _, ⟨nb3, [I64 1, Slc nb2 0 ni cp1, .slice none 0 0, U64 0], 26, (0, 0)⟩]
 refine AI (AC (AF (AF (AB (AA _ (AG rfl) rfl ?_)))))
 refine AA (I64 ni) (DW C3 rfl) rfl ?_
 refine AA _ (AG rfl) rfl ?_
 refine AI (AC (A9 (DI (ι := (Unit) ⊕ (Nat × List SealR × Nat × List Value × Nat)) (fun x => match x with | .inl _ => [(0, Ptr sb 0), (1, U64 e), (2, .slice ai ni ci), (8, Ptr nb1 0), (10, Ptr nb3 0), (25, .slice ab ni cb2), (26, I64 ni), (27, I64 0)] | .inr ⟨i, rr, gb, sp, cp⟩ => [(0, Ptr sb 0), (1, U64 e), (2, .slice ai ni ci), (8, Ptr nb1 0), (10, Ptr nb3 0), (25, .slice ab ni cb2), (26, I64 ni), (27, I64 i)]) (fun x => match x with | .inl _ => [⟨nb1, [I64 0, .slice none 0 0, .slice none 0 0, U64 0], 26, (0, 0)⟩, ⟨nb2, cu64 l ++ sp1, 22, (0, 0)⟩, ⟨nb3, [I64 1, Slc nb2 0 ni cp1, .slice none 0 0, U64 0], 26, (0, 0)⟩] | .inr ⟨i, rr, gb, sp, cp⟩ => [⟨nb1, [I64 0, .slice none 0 0, .slice none 0 0, U64 0], 26, (0, 0)⟩, ⟨nb2, cu64 l ++ sp1, 22, (0, 0)⟩, ⟨nb3, [I64 1, Slc nb2 0 ni cp1, Slc gb 0 i cp, U64 0], 26, (0, 0)⟩, ⟨gb, (rr).flatMap sealC ++ sp, 161, (0, 0)⟩]) (fun x => match x with | .inl _ => True | .inr ⟨i, rr, gb, sp, cp⟩ => 0 < i ∧ i ≤ ni ∧ rr = slS k e l xb i ∧ rr.length = i ∧ sp.length = cp * 49 - i * 49 ∧ i ≤ cp ∧ cp ≤ maxLen ∧ ∀ j, j < i → RightB (g64 l j) e = true) (fun x => match x with | .inl _ => ni + 2 | .inr ⟨i, rr, gb, sp, cp⟩ => ni + 1 - i) (.inl ()) trivial (Sub.all rfl) rfl ?_)))
 rintro (_ | ⟨i, rr, gb, sp, cp⟩) hx
 ·
  obtain _ := hx
  show JC _ _ _ [(0, Ptr sb 0), (1, U64 e), (2, .slice ai ni ci), (8, Ptr nb1 0), (10, Ptr nb3 0), (25, .slice ab ni cb2), (26, I64 ni), (27, I64 0)] [⟨nb1, [I64 0, .slice none 0 0, .slice none 0 0, U64 0], 26, (0, 0)⟩, ⟨nb2, cu64 l ++ sp1, 22, (0, 0)⟩, ⟨nb3, [I64 1, Slc nb2 0 ni cp1, .slice none 0 0, U64 0], 26, (0, 0)⟩]
  refine AF (AB (AA (.bool (decide ((0:Int) < ((ni:Int))))) (AJ rfl rfl fun _ => B9 _ _) rfl ?_))
  refine AI (AC (AF (D1 _ rfl (decide_eq_true (by omega)) ?_)))
  refine BJ (AC (AF (A9 (AF (AB (AA _ (AG rfl) rfl ?_))))))
  obtain ⟨bz1, oz1, hz1, hm1⟩ := hrx.pos (by rw [hxl]; omega)
  refine AA (Ptr bz1 oz1) (CL 159 32 oz1 C3 CF rfl hz1 rfl (by omega) (by omega) (by omega)) rfl ?_
  have hl1 : (mid xb 0 32).length = 32 := D8 (by rw [hxl]; omega)
  refine AA (.agg (cu8 (mid xb 0 32)).toArray) (AL rfl (BH D3 CF (A8 hl1) (BW (MemAt.base hm1.1 hm1.2.1 hm1.2.2) (FB 0 32 (by rw [hxl]; omega)) (by omega)))) rfl ?_
  refine AV (A7 _ (cu8 (zr8 32)) Tryd.zeroValue159 (by kernel_rfl)) rfl ?_
  rintro v1 L1 ⟨nb4, hnb4, rfl, rfl⟩
  show JL _ _ _ _ ((12, Ptr nb4 0) :: _) [_, _, _, ⟨nb4, cu8 (zr8 32), 159, (0, 0)⟩]
  refine AA _ (AE rfl) rfl ?_
  refine A0 (AX 3 nb4 32 (cu8 (zr8 32)) 159 (cu8 (mid xb 0 32)) rfl rfl rfl CF (A8 hl1) (by first | exact CD | exact CS | exact CR | (simp [cu8, cu32, cu64, Value.oneCell']; done)) (by simp [(AP 32)]) (A6 (by simp [(AP 32), hl1]))) rfl ?_
  show JL _ _ _ _ _ [_, _, _, ⟨nb4, cu8 (mid xb 0 32), 159, (0, 0)⟩]
  refine AI (AC (AF ?_))
  obtain ⟨bz2, oz2, hz2, hm2⟩ := RdV.pos hv (by rw [FO, hl]; omega)
  refine CT 60 4 [(0, Ptr sb 0), (1, .slice ai ni ci), (2, I64 0), (3, Ptr bz2 oz2), (4, U64 (g64 l 0)), (5, U64 e), (6, .agg (cu8 (mid xb 0 32)).toArray)] BL rfl (by decide +kernel) ?_
  refine DP_two ⟨[], [0, 1, 2, 3, 4, 5, 6], [], [0, 1, 2, 3, 4, 5, 6], [7, 11]⟩ 7 11 _ _ rfl rfl (by decide +kernel) rfl ⟨AU rfl rfl rfl, AU rfl rfl rfl, AU rfl rfl rfl, ⟨_, rfl, AD rfl (CL 22 1 oz2 BI BC rfl hz2 rfl (by omega) (by omega) (by omega))⟩, ⟨_, rfl, AD rfl (AL rfl (AZ BG (BW (hm2.mem (by simp)) (Seg.get (F9 (i := 0) (by rw [hl]; omega))) (by omega))))⟩, AU rfl rfl rfl, ⟨_, rfl, AD rfl (AL rfl (BH D3 CF (A8 hl1) (AR 3 rfl (AN _))))⟩, trivial⟩ rfl rfl (AW rfl (AY 139 [Ptr sb 0, U64 (g64 l 0), U64 e, .agg (cu8 (mid xb 0 32)).toArray] (.tuple #[.agg ([U64 (sE (g64 l 0) e)] ++ cu8 (sD k (g64 l 0) e (mid xb 0 32)) ++ cu8 (sT k (g64 l 0) e (mid xb 0 32))).toArray, errV 50 (sealN (g64 l 0) e)]) (A4 _ Tryd.call139 rfl) (fun w1 hw1 => seal_w sb cb k (g64 l 0) e (mid xb 0 32) w1 hk (hw1.heap hS (by simp)) (hw1.heap hC (by simp)) hl1 (hG.at hw1)))) (AW rfl (A7 _ ([U64 0] ++ cu8 (zr8 32) ++ cu8 (zr8 16)) D9 (by kernel_rfl))) ?_ ?_
  ·
   rintro v1 L1 ⟨rfl, rfl⟩
   refine ⟨[(8, .tuple #[.agg ([U64 (sE (g64 l 0) e)] ++ cu8 (sD k (g64 l 0) e (mid xb 0 32)) ++ cu8 (sT k (g64 l 0) e (mid xb 0 32))).toArray, errV 50 (sealN (g64 l 0) e)]), (9, .agg ([U64 (sE (g64 l 0) e)] ++ cu8 (sD k (g64 l 0) e (mid xb 0 32)) ++ cu8 (sT k (g64 l 0) e (mid xb 0 32))).toArray), (10, errV 50 (sealN (g64 l 0) e))], ?_⟩
   show DP _ _ _ _ _ _ _ _ [_, _, _, _]
   refine CU ⟨[7], [0, 1, 2, 3, 4, 5, 6, 8, 9, 10], [0, 1, 2, 3, 4, 5, 6], [8, 9, 10], [11]⟩ 11 _ rfl rfl (by decide +kernel) rfl ⟨AU rfl rfl rfl, ⟨_, rfl, AD rfl (BS rfl rfl)⟩, ⟨_, rfl, AD rfl (BS rfl rfl)⟩, trivial⟩ rfl (AW rfl (A7 _ ([U64 0] ++ cu8 (zr8 32) ++ cu8 (zr8 16)) D9 (by kernel_rfl))) ?_
   rintro v1 L1 ⟨nb6, hnb6, rfl, rfl⟩
   refine ⟨[], ?_⟩
   show DP _ _ _ _ _ _ _ _ [_, _, _, _, ⟨nb6, [U64 0] ++ cu8 (zr8 32) ++ cu8 (zr8 16), 161, (0, 0)⟩]
   refine CU ⟨[7, 11], [0, 1, 2, 3, 4, 5, 6, 8, 9, 10], [0, 1, 2, 3, 4, 5, 6], [8, 9, 10], [12]⟩ 12 _ rfl rfl (by decide +kernel) rfl ⟨AU rfl rfl rfl, ⟨_, rfl, AD rfl (BS rfl rfl)⟩, ⟨_, rfl, AD rfl (BS rfl rfl)⟩, trivial⟩ rfl (AW rfl (AX 4 nb6 49 ([U64 0] ++ cu8 (zr8 32) ++ cu8 (zr8 16)) 161 ([U64 (sE (g64 l 0) e)] ++ cu8 (sD k (g64 l 0) e (mid xb 0 32)) ++ cu8 (sT k (g64 l 0) e (mid xb 0 32))) rfl rfl rfl CE (by simp [(EK _ _ _ _), (EJ _ _ _ _)]) (EO (EO (by simp [Value.oneCell']) CD) CD) (by simp [(AP 32), (AP 16)]) (A6 (by simp [(AP 32), (AP 16), (EK _ _ _ _), (EJ _ _ _ _)])))) ?_
   rintro v1 L1 ⟨rfl, rfl⟩
   refine ⟨[(13, errV 50 (sealN (g64 l 0) e))], ?_⟩
   show DP _ _ _ _ _ _ _ _ [_, _, _, _, ⟨nb6, [U64 (sE (g64 l 0) e)] ++ cu8 (sD k (g64 l 0) e (mid xb 0 32)) ++ cu8 (sT k (g64 l 0) e (mid xb 0 32)), 161, (0, 0)⟩]
   refine DE ⟨[7, 11, 12], [0, 1, 2, 3, 4, 5, 6, 8, 9, 10, 13], [0, 1, 2, 3, 4, 5, 6, 8, 9], [10, 13], []⟩ rfl rfl (by decide +kernel) rfl ⟨⟨_, rfl, AD rfl (BS rfl rfl)⟩, ⟨_, rfl, AD rfl (AE rfl)⟩, trivial⟩ ?_
   refine CC (F' := [(33, Ptr sb 0), (34, .slice ai ni ci), (35, I64 0), (36, Ptr bz2 oz2), (37, U64 (g64 l 0)), (38, U64 e), (39, .agg (cu8 (mid xb 0 32)).toArray), (40, .tuple #[.agg ([U64 (sE (g64 l 0) e)] ++ cu8 (sD k (g64 l 0) e (mid xb 0 32)) ++ cu8 (sT k (g64 l 0) e (mid xb 0 32))).toArray, errV 50 (sealN (g64 l 0) e)]), (32, .tuple #[.agg ([U64 (sE (g64 l 0) e)] ++ cu8 (sD k (g64 l 0) e (mid xb 0 32)) ++ cu8 (sT k (g64 l 0) e (mid xb 0 32))).toArray, errV 50 (sealN (g64 l 0) e)]), (41, .agg ([U64 (sE (g64 l 0) e)] ++ cu8 (sD k (g64 l 0) e (mid xb 0 32)) ++ cu8 (sT k (g64 l 0) e (mid xb 0 32))).toArray), (42, errV 50 (sealN (g64 l 0) e)), (13, Ptr nb6 0), (14, errV 50 (sealN (g64 l 0) e)), (0, Ptr sb 0), (1, U64 e), (2, .slice ai ni ci), (8, Ptr nb1 0), (10, Ptr nb3 0), (25, .slice ab ni cb2), (26, I64 ni), (27, I64 0), (28, .bool (decide ((0:Int) < ((ni:Int))))), (29, I64 0), (30, Ptr bz1 oz1), (31, .agg (cu8 (mid xb 0 32)).toArray), (12, Ptr nb4 0), (11, I64 0)]) (by kernel_rfl) ?_
   refine AC (AF (AF (AB (AA _ (AG rfl) rfl ?_))))
   refine AA (.bool (!(decide (sealN (g64 l 0) e = 0)))) (FQ _ _ _ rfl rfl (fun _ => GC ..) fun _ => neq_errV DU _ _) rfl ?_
   refine AI (AC (B5 (!(decide (sealN (g64 l 0) e = 0))) rfl (fun hb1 => ?_) (fun hb1 => ?_)))
   ·
    have hb2 : (decide (sealN (g64 l 0) e = 0)) = false := by simpa using hb1
    have hp2 : ¬ (sealN (g64 l 0) e = 0) := of_decide_eq_false hb2
    refine AF (AB (AA (.agg #[I64 0, .slice none 0 0, .slice none 0 0, U64 0]) (DG [] _ rfl (fun _ => by kernel_rfl)) rfl ?_))
    refine AA _ (AG rfl) rfl ?_
    refine A0 (AX 0 nb1 4 ([I64 0, .slice none 0 0, .slice none 0 0, U64 0]) 26 ([I64 0, .slice none 0 0, .slice none 0 0, U64 0]) rfl rfl rfl B7 rfl (by simp [Value.oneCell']) (Nat.le_of_ble_eq_true rfl) (A6 (by simp []))) rfl ?_
    show JL _ _ _ _ _ [⟨nb1, [I64 0, .slice none 0 0, .slice none 0 0, U64 0], 26, (0, 0)⟩, _, _, _, _]
    refine AA _ (AE rfl) rfl ?_
    refine AI (AC (BO (A3 (CZ (A3 (A3 (CZ (A3 ?_))))))))
    refine CA [true, false, false, false, false] ?_
    show JQ _ _ _ _ [_]
    refine BQ (.tuple #[.agg #[I64 0, .slice none 0 0, .slice none 0 0, U64 0], errV 50 (sealN (g64 l 0) e)]) (res2 Tryd.results75 (DY rfl (BH EQ B7 rfl (AR 0 rfl (AN _)))) (B2 rfl)) fun w1 hw1 => ?_
    have e1 := seal_one (of_decide_eq_false hb2)
    rw [e1]
    exact ⟨_, [], rfl, .inl ⟨fun h => (of_decide_eq_false hb2) (seal_ok (h 0 (by omega))), rfl, rfl⟩, hw1.sub (by simp) (by simp)⟩
   ·
    have hb3 : (decide (sealN (g64 l 0) e = 0)) = true := by simpa using hb1
    have hp3 : sealN (g64 l 0) e = 0 := of_decide_eq_true hb3
    refine BJ (AC (AB (AA (Ptr nb3 2) (AH 2 24 1 A2 rfl DS rfl rfl) rfl ?_)))
    refine AA (.slice none 0 0) (AL rfl (AZ ER (AR 2 rfl (AS (AS (Seg.head)))))) rfl ?_
    refine AA (.agg ([U64 (sE (g64 l 0) e)] ++ cu8 (sD k (g64 l 0) e (mid xb 0 32)) ++ cu8 (sT k (g64 l 0) e (mid xb 0 32))).toArray) (AL rfl (BH EY CE (by simp [(EK _ _ _ _), (EJ _ _ _ _)]) (AR 4 rfl (AN _)))) rfl ?_
    refine AV (BT 161 49 _ [(0, .agg ([U64 (sE (g64 l 0) e)] ++ cu8 (sD k (g64 l 0) e (mid xb 0 32)) ++ cu8 (sT k (g64 l 0) e (mid xb 0 32))).toArray)] ([U64 (sE (g64 l 0) e)] ++ cu8 (sD k (g64 l 0) e (mid xb 0 32)) ++ cu8 (sT k (g64 l 0) e (mid xb 0 32))) CQ CE D9 rfl rfl rfl (fill_one (Z := [U64 0] ++ cu8 (zr8 32) ++ cu8 (zr8 16)) (by simp [(EK _ _ _ _), (EJ _ _ _ _)]) (by kernel_rfl) (by simp [zr8]))) rfl ?_
    rintro v1 L1 ⟨nb7, hnb7, rfl, rfl⟩
    show JL _ _ _ _ ((50, Slc nb7 0 1 1) :: _) [_, _, _, _, _, ⟨nb7, [U64 (sE (g64 l 0) e)] ++ cu8 (sD k (g64 l 0) e (mid xb 0 32)) ++ cu8 (sT k (g64 l 0) e (mid xb 0 32)), 161, (0, 0)⟩]
    refine AV (GK 24 161 56 (.agg ([U64 0] ++ cu8 (zr8 32) ++ cu8 (zr8 16)).toArray) [false, false, false, false, false, false] (.slice none 0 0) 0 ([] : List SealR) (SealR.mk (sE (g64 l 0) e) (sD k (g64 l 0) e (mid xb 0 32)) (sT k (g64 l 0) e (mid xb 0 32)) (EK _ _ _ _) (EJ _ _ _ _)) (some ⟨nb7, 0, none⟩) 1 1 CQ (by kernel_rfl) (by kernel_rfl) rfl (.inl ⟨rfl, rfl, rfl, rfl⟩) rfl (SrcAt.mem (AR 5 rfl (AN _))) (by omega) (by unfold maxLen; omega) (by omega)) rfl ?_
    rintro v1 L1 ⟨nb8, sp2, cp2, hg1, rfl, rfl, ha1, ha2, ha3, ha4⟩
    show JL _ _ _ _ ((51, Slc nb8 0 1 cp2) :: _) [_, _, _, _, _, _, ⟨nb8, (([] : List SealR) ++ [(SealR.mk (sE (g64 l 0) e) (sD k (g64 l 0) e (mid xb 0 32)) (sT k (g64 l 0) e (mid xb 0 32)) (EK _ _ _ _) (EJ _ _ _ _))]).flatMap sealC ++ sp2, 161, (0, 0)⟩]
    refine AA (Ptr nb3 2) (AH 2 24 1 A2 rfl DS rfl rfl) rfl ?_
    refine A0 (CN 2 nb3 2 1 ([I64 1, Slc nb2 0 ni cp1, .slice none 0 0, U64 0]) 26 (Slc nb8 0 1 cp2) ([Slc nb8 0 1 cp2]) ([I64 1, Slc nb2 0 ni cp1, Slc nb8 0 1 cp2, U64 0]) rfl rfl rfl rfl DS rfl (by simp [Value.oneCell']) (Nat.le_of_ble_eq_true rfl) (rfl)) rfl ?_
    show JL _ _ _ _ _ [_, _, ⟨nb3, [I64 1, Slc nb2 0 ni cp1, Slc nb8 0 1 cp2, U64 0], 26, (0, 0)⟩, _, _, _, _]
    refine AI (A5 (AC (AB (AA (I64 1) (AJ rfl rfl fun _ => BP _ _ (1:Int) (by omega) (by omega)) rfl ?_))))
    refine AA _ (AG rfl) rfl ?_
    refine AI (B6 (CA [true, true, true, false, false, false, true] ?_))
    show K _ _ [_, _, _, _] _
    refine DN (.inr (1, ([] : List SealR) ++ [(SealR.mk (sE (g64 l 0) e) (sD k (g64 l 0) e (mid xb 0 32)) (sT k (g64 l 0) e (mid xb 0 32)) (EK _ _ _ _) (EJ _ _ _ _))], nb8, sp2, cp2)) ⟨by omega, by omega, by rw [slS_succ, slS_zero]; rfl, (ha1).trans (by first | rfl | simp +arith), (ha2).trans (by first | rfl | simp +arith), by omega, by omega, all_step (i := 0) (fun j hj => by omega) (seal_right (of_decide_eq_true hb3))⟩ (by dsimp only; omega) (Sub.all rfl) rfl
  ·
   rintro v1 L1 ⟨nb5, hnb5, rfl, rfl⟩
   refine ⟨[], ?_⟩
   show DP _ _ _ _ _ _ _ _ [_, _, _, _, ⟨nb5, [U64 0] ++ cu8 (zr8 32) ++ cu8 (zr8 16), 161, (0, 0)⟩]
   refine CU ⟨[11], [0, 1, 2, 3, 4, 5, 6], [], [0, 1, 2, 3, 4, 5, 6], [7]⟩ 7 _ rfl rfl (by decide +kernel) rfl ⟨AU rfl rfl rfl, AU rfl rfl rfl, AU rfl rfl rfl, ⟨_, rfl, AD rfl (CL 22 1 oz2 BI BC rfl hz2 rfl (by omega) (by omega) (by omega))⟩, ⟨_, rfl, AD rfl (AL rfl (AZ BG (BW (hm2.mem (by simp)) (Seg.get (F9 (i := 0) (by rw [hl]; omega))) (by omega))))⟩, AU rfl rfl rfl, ⟨_, rfl, AD rfl (AL rfl (BH D3 CF (A8 hl1) (AR 3 rfl (AN _))))⟩, trivial⟩ rfl (AW rfl (AY 139 [Ptr sb 0, U64 (g64 l 0), U64 e, .agg (cu8 (mid xb 0 32)).toArray] (.tuple #[.agg ([U64 (sE (g64 l 0) e)] ++ cu8 (sD k (g64 l 0) e (mid xb 0 32)) ++ cu8 (sT k (g64 l 0) e (mid xb 0 32))).toArray, errV 50 (sealN (g64 l 0) e)]) (A4 _ Tryd.call139 rfl) (fun w1 hw1 => seal_w sb cb k (g64 l 0) e (mid xb 0 32) w1 hk (hw1.heap hS (by simp)) (hw1.heap hC (by simp)) hl1 (hG.at hw1)))) ?_
   rintro v1 L1 ⟨rfl, rfl⟩
   refine ⟨[(8, .tuple #[.agg ([U64 (sE (g64 l 0) e)] ++ cu8 (sD k (g64 l 0) e (mid xb 0 32)) ++ cu8 (sT k (g64 l 0) e (mid xb 0 32))).toArray, errV 50 (sealN (g64 l 0) e)]), (9, .agg ([U64 (sE (g64 l 0) e)] ++ cu8 (sD k (g64 l 0) e (mid xb 0 32)) ++ cu8 (sT k (g64 l 0) e (mid xb 0 32))).toArray), (10, errV 50 (sealN (g64 l 0) e))], ?_⟩
   show DP _ _ _ _ _ _ _ _ [_, _, _, _, _]
   refine CU ⟨[11, 7], [0, 1, 2, 3, 4, 5, 6, 8, 9, 10], [0, 1, 2, 3, 4, 5, 6], [8, 9, 10], [12]⟩ 12 _ rfl rfl (by decide +kernel) rfl ⟨AU rfl rfl rfl, ⟨_, rfl, AD rfl (BS rfl rfl)⟩, ⟨_, rfl, AD rfl (BS rfl rfl)⟩, trivial⟩ rfl (AW rfl (AX 4 nb5 49 ([U64 0] ++ cu8 (zr8 32) ++ cu8 (zr8 16)) 161 ([U64 (sE (g64 l 0) e)] ++ cu8 (sD k (g64 l 0) e (mid xb 0 32)) ++ cu8 (sT k (g64 l 0) e (mid xb 0 32))) rfl rfl rfl CE (by simp [(EK _ _ _ _), (EJ _ _ _ _)]) (EO (EO (by simp [Value.oneCell']) CD) CD) (by simp [(AP 32), (AP 16)]) (A6 (by simp [(AP 32), (AP 16), (EK _ _ _ _), (EJ _ _ _ _)])))) ?_
   rintro v1 L1 ⟨rfl, rfl⟩
   refine ⟨[(13, errV 50 (sealN (g64 l 0) e))], ?_⟩
   show DP _ _ _ _ _ _ _ _ [_, _, _, _, ⟨nb5, [U64 (sE (g64 l 0) e)] ++ cu8 (sD k (g64 l 0) e (mid xb 0 32)) ++ cu8 (sT k (g64 l 0) e (mid xb 0 32)), 161, (0, 0)⟩]
   refine DE ⟨[11, 7, 12], [0, 1, 2, 3, 4, 5, 6, 8, 9, 10, 13], [0, 1, 2, 3, 4, 5, 6, 8, 9], [10, 13], []⟩ rfl rfl (by decide +kernel) rfl ⟨⟨_, rfl, AD rfl (BS rfl rfl)⟩, ⟨_, rfl, AD rfl (AE rfl)⟩, trivial⟩ ?_
   refine CC (F' := [(33, Ptr sb 0), (34, .slice ai ni ci), (35, I64 0), (36, Ptr bz2 oz2), (37, U64 (g64 l 0)), (38, U64 e), (39, .agg (cu8 (mid xb 0 32)).toArray), (40, .tuple #[.agg ([U64 (sE (g64 l 0) e)] ++ cu8 (sD k (g64 l 0) e (mid xb 0 32)) ++ cu8 (sT k (g64 l 0) e (mid xb 0 32))).toArray, errV 50 (sealN (g64 l 0) e)]), (32, .tuple #[.agg ([U64 (sE (g64 l 0) e)] ++ cu8 (sD k (g64 l 0) e (mid xb 0 32)) ++ cu8 (sT k (g64 l 0) e (mid xb 0 32))).toArray, errV 50 (sealN (g64 l 0) e)]), (41, .agg ([U64 (sE (g64 l 0) e)] ++ cu8 (sD k (g64 l 0) e (mid xb 0 32)) ++ cu8 (sT k (g64 l 0) e (mid xb 0 32))).toArray), (42, errV 50 (sealN (g64 l 0) e)), (13, Ptr nb5 0), (14, errV 50 (sealN (g64 l 0) e)), (0, Ptr sb 0), (1, U64 e), (2, .slice ai ni ci), (8, Ptr nb1 0), (10, Ptr nb3 0), (25, .slice ab ni cb2), (26, I64 ni), (27, I64 0), (28, .bool (decide ((0:Int) < ((ni:Int))))), (29, I64 0), (30, Ptr bz1 oz1), (31, .agg (cu8 (mid xb 0 32)).toArray), (12, Ptr nb4 0), (11, I64 0)]) (by kernel_rfl) ?_
   refine AC (AF (AF (AB (AA _ (AG rfl) rfl ?_))))
   refine AA (.bool (!(decide (sealN (g64 l 0) e = 0)))) (FQ _ _ _ rfl rfl (fun _ => GC ..) fun _ => neq_errV DU _ _) rfl ?_
   refine AI (AC (B5 (!(decide (sealN (g64 l 0) e = 0))) rfl (fun hb4 => ?_) (fun hb4 => ?_)))
   ·
    have hb5 : (decide (sealN (g64 l 0) e = 0)) = false := by simpa using hb4
    have hp5 : ¬ (sealN (g64 l 0) e = 0) := of_decide_eq_false hb5
    refine AF (AB (AA (.agg #[I64 0, .slice none 0 0, .slice none 0 0, U64 0]) (DG [] _ rfl (fun _ => by kernel_rfl)) rfl ?_))
    refine AA _ (AG rfl) rfl ?_
    refine A0 (AX 0 nb1 4 ([I64 0, .slice none 0 0, .slice none 0 0, U64 0]) 26 ([I64 0, .slice none 0 0, .slice none 0 0, U64 0]) rfl rfl rfl B7 rfl (by simp [Value.oneCell']) (Nat.le_of_ble_eq_true rfl) (A6 (by simp []))) rfl ?_
    show JL _ _ _ _ _ [⟨nb1, [I64 0, .slice none 0 0, .slice none 0 0, U64 0], 26, (0, 0)⟩, _, _, _, _]
    refine AA _ (AE rfl) rfl ?_
    refine AI (AC (BO (A3 (CZ (A3 (A3 (CZ (A3 ?_))))))))
    refine CA [true, false, false, false, false] ?_
    show JQ _ _ _ _ [_]
    refine BQ (.tuple #[.agg #[I64 0, .slice none 0 0, .slice none 0 0, U64 0], errV 50 (sealN (g64 l 0) e)]) (res2 Tryd.results75 (DY rfl (BH EQ B7 rfl (AR 0 rfl (AN _)))) (B2 rfl)) fun w1 hw1 => ?_
    have e1 := seal_one (of_decide_eq_false hb5)
    rw [e1]
    exact ⟨_, [], rfl, .inl ⟨fun h => (of_decide_eq_false hb5) (seal_ok (h 0 (by omega))), rfl, rfl⟩, hw1.sub (by simp) (by simp)⟩
   ·
    have hb6 : (decide (sealN (g64 l 0) e = 0)) = true := by simpa using hb4
    have hp6 : sealN (g64 l 0) e = 0 := of_decide_eq_true hb6
    refine BJ (AC (AB (AA (Ptr nb3 2) (AH 2 24 1 A2 rfl DS rfl rfl) rfl ?_)))
    refine AA (.slice none 0 0) (AL rfl (AZ ER (AR 2 rfl (AS (AS (Seg.head)))))) rfl ?_
    refine AA (.agg ([U64 (sE (g64 l 0) e)] ++ cu8 (sD k (g64 l 0) e (mid xb 0 32)) ++ cu8 (sT k (g64 l 0) e (mid xb 0 32))).toArray) (AL rfl (BH EY CE (by simp [(EK _ _ _ _), (EJ _ _ _ _)]) (AR 4 rfl (AN _)))) rfl ?_
    refine AV (BT 161 49 _ [(0, .agg ([U64 (sE (g64 l 0) e)] ++ cu8 (sD k (g64 l 0) e (mid xb 0 32)) ++ cu8 (sT k (g64 l 0) e (mid xb 0 32))).toArray)] ([U64 (sE (g64 l 0) e)] ++ cu8 (sD k (g64 l 0) e (mid xb 0 32)) ++ cu8 (sT k (g64 l 0) e (mid xb 0 32))) CQ CE D9 rfl rfl rfl (fill_one (Z := [U64 0] ++ cu8 (zr8 32) ++ cu8 (zr8 16)) (by simp [(EK _ _ _ _), (EJ _ _ _ _)]) (by kernel_rfl) (by simp [zr8]))) rfl ?_
    rintro v1 L1 ⟨nb9, hnb9, rfl, rfl⟩
    show JL _ _ _ _ ((50, Slc nb9 0 1 1) :: _) [_, _, _, _, _, ⟨nb9, [U64 (sE (g64 l 0) e)] ++ cu8 (sD k (g64 l 0) e (mid xb 0 32)) ++ cu8 (sT k (g64 l 0) e (mid xb 0 32)), 161, (0, 0)⟩]
    refine AV (GK 24 161 56 (.agg ([U64 0] ++ cu8 (zr8 32) ++ cu8 (zr8 16)).toArray) [false, false, false, false, false, false] (.slice none 0 0) 0 ([] : List SealR) (SealR.mk (sE (g64 l 0) e) (sD k (g64 l 0) e (mid xb 0 32)) (sT k (g64 l 0) e (mid xb 0 32)) (EK _ _ _ _) (EJ _ _ _ _)) (some ⟨nb9, 0, none⟩) 1 1 CQ (by kernel_rfl) (by kernel_rfl) rfl (.inl ⟨rfl, rfl, rfl, rfl⟩) rfl (SrcAt.mem (AR 5 rfl (AN _))) (by omega) (by unfold maxLen; omega) (by omega)) rfl ?_
    rintro v1 L1 ⟨nb10, sp3, cp3, hg2, rfl, rfl, ha5, ha6, ha7, ha8⟩
    show JL _ _ _ _ ((51, Slc nb10 0 1 cp3) :: _) [_, _, _, _, _, _, ⟨nb10, (([] : List SealR) ++ [(SealR.mk (sE (g64 l 0) e) (sD k (g64 l 0) e (mid xb 0 32)) (sT k (g64 l 0) e (mid xb 0 32)) (EK _ _ _ _) (EJ _ _ _ _))]).flatMap sealC ++ sp3, 161, (0, 0)⟩]
    refine AA (Ptr nb3 2) (AH 2 24 1 A2 rfl DS rfl rfl) rfl ?_
    refine A0 (CN 2 nb3 2 1 ([I64 1, Slc nb2 0 ni cp1, .slice none 0 0, U64 0]) 26 (Slc nb10 0 1 cp3) ([Slc nb10 0 1 cp3]) ([I64 1, Slc nb2 0 ni cp1, Slc nb10 0 1 cp3, U64 0]) rfl rfl rfl rfl DS rfl (by simp [Value.oneCell']) (Nat.le_of_ble_eq_true rfl) (rfl)) rfl ?_
    show JL _ _ _ _ _ [_, _, ⟨nb3, [I64 1, Slc nb2 0 ni cp1, Slc nb10 0 1 cp3, U64 0], 26, (0, 0)⟩, _, _, _, _]
    refine AI (A5 (AC (AB (AA (I64 1) (AJ rfl rfl fun _ => BP _ _ (1:Int) (by omega) (by omega)) rfl ?_))))
    refine AA _ (AG rfl) rfl ?_
    refine AI (B6 (CA [true, true, true, false, false, false, true] ?_))
    show K _ _ [_, _, _, _] _
    refine DN (.inr (1, ([] : List SealR) ++ [(SealR.mk (sE (g64 l 0) e) (sD k (g64 l 0) e (mid xb 0 32)) (sT k (g64 l 0) e (mid xb 0 32)) (EK _ _ _ _) (EJ _ _ _ _))], nb10, sp3, cp3)) ⟨by omega, by omega, by rw [slS_succ, slS_zero]; rfl, (ha5).trans (by first | rfl | simp +arith), (ha6).trans (by first | rfl | simp +arith), by omega, by omega, all_step (i := 0) (fun j hj => by omega) (seal_right (of_decide_eq_true hb6))⟩ (by dsimp only; omega) (Sub.all rfl) rfl
 ·
  obtain ⟨hi1, hi2, hi3, hi4, hi5, hi6, hi7, hi8⟩ := hx
  show JC _ _ _ [(0, Ptr sb 0), (1, U64 e), (2, .slice ai ni ci), (8, Ptr nb1 0), (10, Ptr nb3 0), (25, .slice ab ni cb2), (26, I64 ni), (27, I64 i)] [⟨nb1, [I64 0, .slice none 0 0, .slice none 0 0, U64 0], 26, (0, 0)⟩, ⟨nb2, cu64 l ++ sp1, 22, (0, 0)⟩, ⟨nb3, [I64 1, Slc nb2 0 ni cp1, Slc gb 0 i cp, U64 0], 26, (0, 0)⟩, ⟨gb, (rr).flatMap sealC ++ sp, 161, (0, 0)⟩]
  refine AF (AB (AA (.bool (decide (((i:Int)) < ((ni:Int))))) (AJ rfl rfl fun _ => B9 _ _) rfl ?_))
  refine AI (AC (AF (B5 (decide (((i:Int)) < ((ni:Int)))) rfl (fun hb7 => ?_) (fun hb7 => ?_))))
  ·
   have hp7 : ((i:Int)) < ((ni:Int)) := of_decide_eq_true hb7
   refine BJ (AC (AF (A9 (AF (AB (AA _ (AG rfl) rfl ?_))))))
   obtain ⟨bz3, oz3, hz3, hm3⟩ := hrx.pos (by rw [hxl]; omega)
   refine AA (Ptr bz3 (32*i + oz3)) (CL 159 32 (32*i + oz3) C3 CF rfl hz3 rfl (by omega) (by omega) (by omega)) rfl ?_
   have hl2 : (mid xb (32*i) 32).length = 32 := D8 (by rw [hxl]; omega)
   refine AA (.agg (cu8 (mid xb (32*i) 32)).toArray) (AL rfl (BH D3 CF (A8 hl2) (BW (MemAt.base hm3.1 hm3.2.1 hm3.2.2) (FB (32*i) 32 (by rw [hxl]; omega)) (by omega)))) rfl ?_
   refine AV (A7 _ (cu8 (zr8 32)) Tryd.zeroValue159 (by kernel_rfl)) rfl ?_
   rintro v1 L1 ⟨nb11, hnb11, rfl, rfl⟩
   show JL _ _ _ _ ((12, Ptr nb11 0) :: _) [_, _, _, _, ⟨nb11, cu8 (zr8 32), 159, (0, 0)⟩]
   refine AA _ (AE rfl) rfl ?_
   refine A0 (AX 4 nb11 32 (cu8 (zr8 32)) 159 (cu8 (mid xb (32*i) 32)) rfl rfl rfl CF (A8 hl2) (by first | exact CD | exact CS | exact CR | (simp [cu8, cu32, cu64, Value.oneCell']; done)) (by simp [(AP 32)]) (A6 (by simp [(AP 32), hl2]))) rfl ?_
   show JL _ _ _ _ _ [_, _, _, _, ⟨nb11, cu8 (mid xb (32*i) 32), 159, (0, 0)⟩]
   refine AI (AC (AF ?_))
   obtain ⟨bz4, oz4, hz4, hm4⟩ := RdV.pos hv (by rw [FO, hl]; omega)
   refine CT 60 4 [(0, Ptr sb 0), (1, .slice ai ni ci), (2, I64 i), (3, Ptr bz4 (i + oz4)), (4, U64 (g64 l i)), (5, U64 e), (6, .agg (cu8 (mid xb (32*i) 32)).toArray)] BL rfl (by decide +kernel) ?_
   refine DP_two ⟨[], [0, 1, 2, 3, 4, 5, 6], [], [0, 1, 2, 3, 4, 5, 6], [7, 11]⟩ 7 11 _ _ rfl rfl (by decide +kernel) rfl ⟨AU rfl rfl rfl, AU rfl rfl rfl, AU rfl rfl rfl, ⟨_, rfl, AD rfl (CL 22 1 (i + oz4) BI BC rfl hz4 rfl (by omega) (by omega) (by omega))⟩, ⟨_, rfl, AD rfl (AL rfl (AZ BG (BW (hm4.mem (by simp)) (Seg.get (F9 (i := i) (by rw [hl]; omega))) (by omega))))⟩, AU rfl rfl rfl, ⟨_, rfl, AD rfl (AL rfl (BH D3 CF (A8 hl2) (AR 4 rfl (AN _))))⟩, trivial⟩ rfl rfl (AW rfl (AY 139 [Ptr sb 0, U64 (g64 l i), U64 e, .agg (cu8 (mid xb (32*i) 32)).toArray] (.tuple #[.agg ([U64 (sE (g64 l i) e)] ++ cu8 (sD k (g64 l i) e (mid xb (32*i) 32)) ++ cu8 (sT k (g64 l i) e (mid xb (32*i) 32))).toArray, errV 50 (sealN (g64 l i) e)]) (A4 _ Tryd.call139 rfl) (fun w1 hw1 => seal_w sb cb k (g64 l i) e (mid xb (32*i) 32) w1 hk (hw1.heap hS (by simp)) (hw1.heap hC (by simp)) hl2 (hG.at hw1)))) (AW rfl (A7 _ ([U64 0] ++ cu8 (zr8 32) ++ cu8 (zr8 16)) D9 (by kernel_rfl))) ?_ ?_
   ·
    rintro v1 L1 ⟨rfl, rfl⟩
    refine ⟨[(8, .tuple #[.agg ([U64 (sE (g64 l i) e)] ++ cu8 (sD k (g64 l i) e (mid xb (32*i) 32)) ++ cu8 (sT k (g64 l i) e (mid xb (32*i) 32))).toArray, errV 50 (sealN (g64 l i) e)]), (9, .agg ([U64 (sE (g64 l i) e)] ++ cu8 (sD k (g64 l i) e (mid xb (32*i) 32)) ++ cu8 (sT k (g64 l i) e (mid xb (32*i) 32))).toArray), (10, errV 50 (sealN (g64 l i) e))], ?_⟩
    show DP _ _ _ _ _ _ _ _ [_, _, _, _, _]
    refine CU ⟨[7], [0, 1, 2, 3, 4, 5, 6, 8, 9, 10], [0, 1, 2, 3, 4, 5, 6], [8, 9, 10], [11]⟩ 11 _ rfl rfl (by decide +kernel) rfl ⟨AU rfl rfl rfl, ⟨_, rfl, AD rfl (BS rfl rfl)⟩, ⟨_, rfl, AD rfl (BS rfl rfl)⟩, trivial⟩ rfl (AW rfl (A7 _ ([U64 0] ++ cu8 (zr8 32) ++ cu8 (zr8 16)) D9 (by kernel_rfl))) ?_
    rintro v1 L1 ⟨nb13, hnb13, rfl, rfl⟩
    refine ⟨[], ?_⟩
    show DP _ _ _ _ _ _ _ _ [_, _, _, _, _, ⟨nb13, [U64 0] ++ cu8 (zr8 32) ++ cu8 (zr8 16), 161, (0, 0)⟩]
    refine CU ⟨[7, 11], [0, 1, 2, 3, 4, 5, 6, 8, 9, 10], [0, 1, 2, 3, 4, 5, 6], [8, 9, 10], [12]⟩ 12 _ rfl rfl (by decide +kernel) rfl ⟨AU rfl rfl rfl, ⟨_, rfl, AD rfl (BS rfl rfl)⟩, ⟨_, rfl, AD rfl (BS rfl rfl)⟩, trivial⟩ rfl (AW rfl (AX 5 nb13 49 ([U64 0] ++ cu8 (zr8 32) ++ cu8 (zr8 16)) 161 ([U64 (sE (g64 l i) e)] ++ cu8 (sD k (g64 l i) e (mid xb (32*i) 32)) ++ cu8 (sT k (g64 l i) e (mid xb (32*i) 32))) rfl rfl rfl CE (by simp [(EK _ _ _ _), (EJ _ _ _ _)]) (EO (EO (by simp [Value.oneCell']) CD) CD) (by simp [(AP 32), (AP 16)]) (A6 (by simp [(AP 32), (AP 16), (EK _ _ _ _), (EJ _ _ _ _)])))) ?_
    rintro v1 L1 ⟨rfl, rfl⟩
    refine ⟨[(13, errV 50 (sealN (g64 l i) e))], ?_⟩
    show DP _ _ _ _ _ _ _ _ [_, _, _, _, _, ⟨nb13, [U64 (sE (g64 l i) e)] ++ cu8 (sD k (g64 l i) e (mid xb (32*i) 32)) ++ cu8 (sT k (g64 l i) e (mid xb (32*i) 32)), 161, (0, 0)⟩]
    refine DE ⟨[7, 11, 12], [0, 1, 2, 3, 4, 5, 6, 8, 9, 10, 13], [0, 1, 2, 3, 4, 5, 6, 8, 9], [10, 13], []⟩ rfl rfl (by decide +kernel) rfl ⟨⟨_, rfl, AD rfl (BS rfl rfl)⟩, ⟨_, rfl, AD rfl (AE rfl)⟩, trivial⟩ ?_
    refine CC (F' := [(33, Ptr sb 0), (34, .slice ai ni ci), (35, I64 i), (36, Ptr bz4 (i + oz4)), (37, U64 (g64 l i)), (38, U64 e), (39, .agg (cu8 (mid xb (32*i) 32)).toArray), (40, .tuple #[.agg ([U64 (sE (g64 l i) e)] ++ cu8 (sD k (g64 l i) e (mid xb (32*i) 32)) ++ cu8 (sT k (g64 l i) e (mid xb (32*i) 32))).toArray, errV 50 (sealN (g64 l i) e)]), (32, .tuple #[.agg ([U64 (sE (g64 l i) e)] ++ cu8 (sD k (g64 l i) e (mid xb (32*i) 32)) ++ cu8 (sT k (g64 l i) e (mid xb (32*i) 32))).toArray, errV 50 (sealN (g64 l i) e)]), (41, .agg ([U64 (sE (g64 l i) e)] ++ cu8 (sD k (g64 l i) e (mid xb (32*i) 32)) ++ cu8 (sT k (g64 l i) e (mid xb (32*i) 32))).toArray), (42, errV 50 (sealN (g64 l i) e)), (13, Ptr nb13 0), (14, errV 50 (sealN (g64 l i) e)), (0, Ptr sb 0), (1, U64 e), (2, .slice ai ni ci), (8, Ptr nb1 0), (10, Ptr nb3 0), (25, .slice ab ni cb2), (26, I64 ni), (27, I64 i), (28, .bool (decide (((i:Int)) < ((ni:Int))))), (29, I64 i), (30, Ptr bz3 (32*i + oz3)), (31, .agg (cu8 (mid xb (32*i) 32)).toArray), (12, Ptr nb11 0), (11, I64 i)]) (by kernel_rfl) ?_
    refine AC (AF (AF (AB (AA _ (AG rfl) rfl ?_))))
    refine AA (.bool (!(decide (sealN (g64 l i) e = 0)))) (FQ _ _ _ rfl rfl (fun _ => GC ..) fun _ => neq_errV DU _ _) rfl ?_
    refine AI (AC (B5 (!(decide (sealN (g64 l i) e = 0))) rfl (fun hb8 => ?_) (fun hb8 => ?_)))
    ·
     have hb9 : (decide (sealN (g64 l i) e = 0)) = false := by simpa using hb8
     have hp9 : ¬ (sealN (g64 l i) e = 0) := of_decide_eq_false hb9
     refine AF (AB (AA (.agg #[I64 0, .slice none 0 0, .slice none 0 0, U64 0]) (DG [] _ rfl (fun _ => by kernel_rfl)) rfl ?_))
     refine AA _ (AG rfl) rfl ?_
     refine A0 (AX 0 nb1 4 ([I64 0, .slice none 0 0, .slice none 0 0, U64 0]) 26 ([I64 0, .slice none 0 0, .slice none 0 0, U64 0]) rfl rfl rfl B7 rfl (by simp [Value.oneCell']) (Nat.le_of_ble_eq_true rfl) (A6 (by simp []))) rfl ?_
     show JL _ _ _ _ _ [⟨nb1, [I64 0, .slice none 0 0, .slice none 0 0, U64 0], 26, (0, 0)⟩, _, _, _, _, _]
     refine AA _ (AE rfl) rfl ?_
     refine AI (AC (BO (A3 (CZ (A3 (A3 (CZ (A3 ?_))))))))
     refine CA [true, false, false, false, false, false] ?_
     show JQ _ _ _ _ [_]
     refine BQ (.tuple #[.agg #[I64 0, .slice none 0 0, .slice none 0 0, U64 0], errV 50 (sealN (g64 l i) e)]) (res2 Tryd.results75 (DY rfl (BH EQ B7 rfl (AR 0 rfl (AN _)))) (B2 rfl)) fun w1 hw1 => ?_
     have e1 := seal_one (of_decide_eq_false hb9)
     rw [e1]
     exact ⟨_, [], rfl, .inl ⟨fun h => (of_decide_eq_false hb9) (seal_ok (h i (by omega))), rfl, rfl⟩, hw1.sub (by simp) (by simp)⟩
    ·
     have hb10 : (decide (sealN (g64 l i) e = 0)) = true := by simpa using hb8
     have hp10 : sealN (g64 l i) e = 0 := of_decide_eq_true hb10
     refine BJ (AC (AB (AA (Ptr nb3 2) (AH 2 24 1 A2 rfl DS rfl rfl) rfl ?_)))
     refine AA (Slc gb 0 i cp) (AL rfl (AZ ER (AR 2 rfl (AS (AS (Seg.head)))))) rfl ?_
     refine AA (.agg ([U64 (sE (g64 l i) e)] ++ cu8 (sD k (g64 l i) e (mid xb (32*i) 32)) ++ cu8 (sT k (g64 l i) e (mid xb (32*i) 32))).toArray) (AL rfl (BH EY CE (by simp [(EK _ _ _ _), (EJ _ _ _ _)]) (AR 5 rfl (AN _)))) rfl ?_
     refine AV (BT 161 49 _ [(0, .agg ([U64 (sE (g64 l i) e)] ++ cu8 (sD k (g64 l i) e (mid xb (32*i) 32)) ++ cu8 (sT k (g64 l i) e (mid xb (32*i) 32))).toArray)] ([U64 (sE (g64 l i) e)] ++ cu8 (sD k (g64 l i) e (mid xb (32*i) 32)) ++ cu8 (sT k (g64 l i) e (mid xb (32*i) 32))) CQ CE D9 rfl rfl rfl (fill_one (Z := [U64 0] ++ cu8 (zr8 32) ++ cu8 (zr8 16)) (by simp [(EK _ _ _ _), (EJ _ _ _ _)]) (by kernel_rfl) (by simp [zr8]))) rfl ?_
     rintro v1 L1 ⟨nb14, hnb14, rfl, rfl⟩
     show JL _ _ _ _ ((50, Slc nb14 0 1 1) :: _) [_, _, _, _, _, _, ⟨nb14, [U64 (sE (g64 l i) e)] ++ cu8 (sD k (g64 l i) e (mid xb (32*i) 32)) ++ cu8 (sT k (g64 l i) e (mid xb (32*i) 32)), 161, (0, 0)⟩]
     refine AV (GK 24 161 56 (.agg ([U64 0] ++ cu8 (zr8 32) ++ cu8 (zr8 16)).toArray) [false, false, false, true, false, false, false] (Slc gb 0 i cp) i rr (SealR.mk (sE (g64 l i) e) (sD k (g64 l i) e (mid xb (32*i) 32)) (sT k (g64 l i) e (mid xb (32*i) 32)) (EK _ _ _ _) (EJ _ _ _ _)) (some ⟨nb14, 0, none⟩) 1 (i + 1) CQ (by kernel_rfl) (by kernel_rfl) rfl (.inr ⟨gb, sp, cp, rfl, rfl, (by have h : (rr).length = i := hi4; omega), (by first | exact hi5 | omega), (by omega), (by omega)⟩) rfl (SrcAt.mem (AR 6 rfl (AN _))) (by omega) (by unfold maxLen; omega) (by omega)) rfl ?_
     rintro v1 L1 ⟨nb15, sp4, cp4, hg3, rfl, rfl, ha9, ha10, ha11, ha12⟩
     show JL _ _ _ _ ((51, Slc nb15 0 (i + 1) cp4) :: _) [_, _, _, _, _, _, ⟨nb15, (rr ++ [(SealR.mk (sE (g64 l i) e) (sD k (g64 l i) e (mid xb (32*i) 32)) (sT k (g64 l i) e (mid xb (32*i) 32)) (EK _ _ _ _) (EJ _ _ _ _))]).flatMap sealC ++ sp4, 161, (0, 0)⟩]
     refine AA (Ptr nb3 2) (AH 2 24 1 A2 rfl DS rfl rfl) rfl ?_
     refine A0 (CN 2 nb3 2 1 ([I64 1, Slc nb2 0 ni cp1, Slc gb 0 i cp, U64 0]) 26 (Slc nb15 0 (i + 1) cp4) ([Slc nb15 0 (i + 1) cp4]) ([I64 1, Slc nb2 0 ni cp1, Slc nb15 0 (i + 1) cp4, U64 0]) rfl rfl rfl rfl DS rfl (by simp [Value.oneCell']) (Nat.le_of_ble_eq_true rfl) (rfl)) rfl ?_
     show JL _ _ _ _ _ [_, _, ⟨nb3, [I64 1, Slc nb2 0 ni cp1, Slc nb15 0 (i + 1) cp4, U64 0], 26, (0, 0)⟩, _, _, _, _]
     refine AI (A5 (AC (AB (AA (I64 ((i:Int) + 1)) (AJ rfl rfl fun _ => BP _ _ ((i:Int) + 1) (by omega) (by omega)) rfl ?_))))
     refine AA _ (AG rfl) rfl ?_
     refine AI (B6 (CA [true, true, true, false, false, false, true] ?_))
     show K _ _ [_, _, _, _] _
     refine DN (.inr (i + 1, rr ++ [(SealR.mk (sE (g64 l i) e) (sD k (g64 l i) e (mid xb (32*i) 32)) (sT k (g64 l i) e (mid xb (32*i) 32)) (EK _ _ _ _) (EJ _ _ _ _))], nb15, sp4, cp4)) ⟨by omega, by omega, by rw [slS_succ, ← hi3]; rfl, (ha9).trans (by first | rfl | simp +arith), (ha10).trans (by first | rfl | simp +arith), by omega, by omega, all_step hi8 (seal_right (of_decide_eq_true hb10))⟩ (by dsimp only; omega) (Sub.all rfl) rfl
   ·
    rintro v1 L1 ⟨nb12, hnb12, rfl, rfl⟩
    refine ⟨[], ?_⟩
    show DP _ _ _ _ _ _ _ _ [_, _, _, _, _, ⟨nb12, [U64 0] ++ cu8 (zr8 32) ++ cu8 (zr8 16), 161, (0, 0)⟩]
    refine CU ⟨[11], [0, 1, 2, 3, 4, 5, 6], [], [0, 1, 2, 3, 4, 5, 6], [7]⟩ 7 _ rfl rfl (by decide +kernel) rfl ⟨AU rfl rfl rfl, AU rfl rfl rfl, AU rfl rfl rfl, ⟨_, rfl, AD rfl (CL 22 1 (i + oz4) BI BC rfl hz4 rfl (by omega) (by omega) (by omega))⟩, ⟨_, rfl, AD rfl (AL rfl (AZ BG (BW (hm4.mem (by simp)) (Seg.get (F9 (i := i) (by rw [hl]; omega))) (by omega))))⟩, AU rfl rfl rfl, ⟨_, rfl, AD rfl (AL rfl (BH D3 CF (A8 hl2) (AR 4 rfl (AN _))))⟩, trivial⟩ rfl (AW rfl (AY 139 [Ptr sb 0, U64 (g64 l i), U64 e, .agg (cu8 (mid xb (32*i) 32)).toArray] (.tuple #[.agg ([U64 (sE (g64 l i) e)] ++ cu8 (sD k (g64 l i) e (mid xb (32*i) 32)) ++ cu8 (sT k (g64 l i) e (mid xb (32*i) 32))).toArray, errV 50 (sealN (g64 l i) e)]) (A4 _ Tryd.call139 rfl) (fun w1 hw1 => seal_w sb cb k (g64 l i) e (mid xb (32*i) 32) w1 hk (hw1.heap hS (by simp)) (hw1.heap hC (by simp)) hl2 (hG.at hw1)))) ?_
    rintro v1 L1 ⟨rfl, rfl⟩
    refine ⟨[(8, .tuple #[.agg ([U64 (sE (g64 l i) e)] ++ cu8 (sD k (g64 l i) e (mid xb (32*i) 32)) ++ cu8 (sT k (g64 l i) e (mid xb (32*i) 32))).toArray, errV 50 (sealN (g64 l i) e)]), (9, .agg ([U64 (sE (g64 l i) e)] ++ cu8 (sD k (g64 l i) e (mid xb (32*i) 32)) ++ cu8 (sT k (g64 l i) e (mid xb (32*i) 32))).toArray), (10, errV 50 (sealN (g64 l i) e))], ?_⟩
    show DP _ _ _ _ _ _ _ _ [_, _, _, _, _, _]
    refine CU ⟨[11, 7], [0, 1, 2, 3, 4, 5, 6, 8, 9, 10], [0, 1, 2, 3, 4, 5, 6], [8, 9, 10], [12]⟩ 12 _ rfl rfl (by decide +kernel) rfl ⟨AU rfl rfl rfl, ⟨_, rfl, AD rfl (BS rfl rfl)⟩, ⟨_, rfl, AD rfl (BS rfl rfl)⟩, trivial⟩ rfl (AW rfl (AX 5 nb12 49 ([U64 0] ++ cu8 (zr8 32) ++ cu8 (zr8 16)) 161 ([U64 (sE (g64 l i) e)] ++ cu8 (sD k (g64 l i) e (mid xb (32*i) 32)) ++ cu8 (sT k (g64 l i) e (mid xb (32*i) 32))) rfl rfl rfl CE (by simp [(EK _ _ _ _), (EJ _ _ _ _)]) (EO (EO (by simp [Value.oneCell']) CD) CD) (by simp [(AP 32), (AP 16)]) (A6 (by simp [(AP 32), (AP 16), (EK _ _ _ _), (EJ _ _ _ _)])))) ?_
    rintro v1 L1 ⟨rfl, rfl⟩
    refine ⟨[(13, errV 50 (sealN (g64 l i) e))], ?_⟩
    show DP _ _ _ _ _ _ _ _ [_, _, _, _, _, ⟨nb12, [U64 (sE (g64 l i) e)] ++ cu8 (sD k (g64 l i) e (mid xb (32*i) 32)) ++ cu8 (sT k (g64 l i) e (mid xb (32*i) 32)), 161, (0, 0)⟩]
    refine DE ⟨[11, 7, 12], [0, 1, 2, 3, 4, 5, 6, 8, 9, 10, 13], [0, 1, 2, 3, 4, 5, 6, 8, 9], [10, 13], []⟩ rfl rfl (by decide +kernel) rfl ⟨⟨_, rfl, AD rfl (BS rfl rfl)⟩, ⟨_, rfl, AD rfl (AE rfl)⟩, trivial⟩ ?_
    refine CC (F' := [(33, Ptr sb 0), (34, .slice ai ni ci), (35, I64 i), (36, Ptr bz4 (i + oz4)), (37, U64 (g64 l i)), (38, U64 e), (39, .agg (cu8 (mid xb (32*i) 32)).toArray), (40, .tuple #[.agg ([U64 (sE (g64 l i) e)] ++ cu8 (sD k (g64 l i) e (mid xb (32*i) 32)) ++ cu8 (sT k (g64 l i) e (mid xb (32*i) 32))).toArray, errV 50 (sealN (g64 l i) e)]), (32, .tuple #[.agg ([U64 (sE (g64 l i) e)] ++ cu8 (sD k (g64 l i) e (mid xb (32*i) 32)) ++ cu8 (sT k (g64 l i) e (mid xb (32*i) 32))).toArray, errV 50 (sealN (g64 l i) e)]), (41, .agg ([U64 (sE (g64 l i) e)] ++ cu8 (sD k (g64 l i) e (mid xb (32*i) 32)) ++ cu8 (sT k (g64 l i) e (mid xb (32*i) 32))).toArray), (42, errV 50 (sealN (g64 l i) e)), (13, Ptr nb12 0), (14, errV 50 (sealN (g64 l i) e)), (0, Ptr sb 0), (1, U64 e), (2, .slice ai ni ci), (8, Ptr nb1 0), (10, Ptr nb3 0), (25, .slice ab ni cb2), (26, I64 ni), (27, I64 i), (28, .bool (decide (((i:Int)) < ((ni:Int))))), (29, I64 i), (30, Ptr bz3 (32*i + oz3)), (31, .agg (cu8 (mid xb (32*i) 32)).toArray), (12, Ptr nb11 0), (11, I64 i)]) (by kernel_rfl) ?_
    refine AC (AF (AF (AB (AA _ (AG rfl) rfl ?_))))
    refine AA (.bool (!(decide (sealN (g64 l i) e = 0)))) (FQ _ _ _ rfl rfl (fun _ => GC ..) fun _ => neq_errV DU _ _) rfl ?_
    refine AI (AC (B5 (!(decide (sealN (g64 l i) e = 0))) rfl (fun hb11 => ?_) (fun hb11 => ?_)))
    ·
     have hb12 : (decide (sealN (g64 l i) e = 0)) = false := by simpa using hb11
     have hp12 : ¬ (sealN (g64 l i) e = 0) := of_decide_eq_false hb12
     refine AF (AB (AA (.agg #[I64 0, .slice none 0 0, .slice none 0 0, U64 0]) (DG [] _ rfl (fun _ => by kernel_rfl)) rfl ?_))
     refine AA _ (AG rfl) rfl ?_
     refine A0 (AX 0 nb1 4 ([I64 0, .slice none 0 0, .slice none 0 0, U64 0]) 26 ([I64 0, .slice none 0 0, .slice none 0 0, U64 0]) rfl rfl rfl B7 rfl (by simp [Value.oneCell']) (Nat.le_of_ble_eq_true rfl) (A6 (by simp []))) rfl ?_
     show JL _ _ _ _ _ [⟨nb1, [I64 0, .slice none 0 0, .slice none 0 0, U64 0], 26, (0, 0)⟩, _, _, _, _, _]
     refine AA _ (AE rfl) rfl ?_
     refine AI (AC (BO (A3 (CZ (A3 (A3 (CZ (A3 ?_))))))))
     refine CA [true, false, false, false, false, false] ?_
     show JQ _ _ _ _ [_]
     refine BQ (.tuple #[.agg #[I64 0, .slice none 0 0, .slice none 0 0, U64 0], errV 50 (sealN (g64 l i) e)]) (res2 Tryd.results75 (DY rfl (BH EQ B7 rfl (AR 0 rfl (AN _)))) (B2 rfl)) fun w1 hw1 => ?_
     have e1 := seal_one (of_decide_eq_false hb12)
     rw [e1]
     exact ⟨_, [], rfl, .inl ⟨fun h => (of_decide_eq_false hb12) (seal_ok (h i (by omega))), rfl, rfl⟩, hw1.sub (by simp) (by simp)⟩
    ·
     have hb13 : (decide (sealN (g64 l i) e = 0)) = true := by simpa using hb11
     have hp13 : sealN (g64 l i) e = 0 := of_decide_eq_true hb13
     refine BJ (AC (AB (AA (Ptr nb3 2) (AH 2 24 1 A2 rfl DS rfl rfl) rfl ?_)))
     refine AA (Slc gb 0 i cp) (AL rfl (AZ ER (AR 2 rfl (AS (AS (Seg.head)))))) rfl ?_
     refine AA (.agg ([U64 (sE (g64 l i) e)] ++ cu8 (sD k (g64 l i) e (mid xb (32*i) 32)) ++ cu8 (sT k (g64 l i) e (mid xb (32*i) 32))).toArray) (AL rfl (BH EY CE (by simp [(EK _ _ _ _), (EJ _ _ _ _)]) (AR 5 rfl (AN _)))) rfl ?_
     refine AV (BT 161 49 _ [(0, .agg ([U64 (sE (g64 l i) e)] ++ cu8 (sD k (g64 l i) e (mid xb (32*i) 32)) ++ cu8 (sT k (g64 l i) e (mid xb (32*i) 32))).toArray)] ([U64 (sE (g64 l i) e)] ++ cu8 (sD k (g64 l i) e (mid xb (32*i) 32)) ++ cu8 (sT k (g64 l i) e (mid xb (32*i) 32))) CQ CE D9 rfl rfl rfl (fill_one (Z := [U64 0] ++ cu8 (zr8 32) ++ cu8 (zr8 16)) (by simp [(EK _ _ _ _), (EJ _ _ _ _)]) (by kernel_rfl) (by simp [zr8]))) rfl ?_
     rintro v1 L1 ⟨nb16, hnb16, rfl, rfl⟩
     show JL _ _ _ _ ((50, Slc nb16 0 1 1) :: _) [_, _, _, _, _, _, ⟨nb16, [U64 (sE (g64 l i) e)] ++ cu8 (sD k (g64 l i) e (mid xb (32*i) 32)) ++ cu8 (sT k (g64 l i) e (mid xb (32*i) 32)), 161, (0, 0)⟩]
     refine AV (GK 24 161 56 (.agg ([U64 0] ++ cu8 (zr8 32) ++ cu8 (zr8 16)).toArray) [false, false, false, true, false, false, false] (Slc gb 0 i cp) i rr (SealR.mk (sE (g64 l i) e) (sD k (g64 l i) e (mid xb (32*i) 32)) (sT k (g64 l i) e (mid xb (32*i) 32)) (EK _ _ _ _) (EJ _ _ _ _)) (some ⟨nb16, 0, none⟩) 1 (i + 1) CQ (by kernel_rfl) (by kernel_rfl) rfl (.inr ⟨gb, sp, cp, rfl, rfl, (by have h : (rr).length = i := hi4; omega), (by first | exact hi5 | omega), (by omega), (by omega)⟩) rfl (SrcAt.mem (AR 6 rfl (AN _))) (by omega) (by unfold maxLen; omega) (by omega)) rfl ?_
     rintro v1 L1 ⟨nb17, sp5, cp5, hg4, rfl, rfl, ha13, ha14, ha15, ha16⟩
     show JL _ _ _ _ ((51, Slc nb17 0 (i + 1) cp5) :: _) [_, _, _, _, _, _, ⟨nb17, (rr ++ [(SealR.mk (sE (g64 l i) e) (sD k (g64 l i) e (mid xb (32*i) 32)) (sT k (g64 l i) e (mid xb (32*i) 32)) (EK _ _ _ _) (EJ _ _ _ _))]).flatMap sealC ++ sp5, 161, (0, 0)⟩]
     refine AA (Ptr nb3 2) (AH 2 24 1 A2 rfl DS rfl rfl) rfl ?_
     refine A0 (CN 2 nb3 2 1 ([I64 1, Slc nb2 0 ni cp1, Slc gb 0 i cp, U64 0]) 26 (Slc nb17 0 (i + 1) cp5) ([Slc nb17 0 (i + 1) cp5]) ([I64 1, Slc nb2 0 ni cp1, Slc nb17 0 (i + 1) cp5, U64 0]) rfl rfl rfl rfl DS rfl (by simp [Value.oneCell']) (Nat.le_of_ble_eq_true rfl) (rfl)) rfl ?_
     show JL _ _ _ _ _ [_, _, ⟨nb3, [I64 1, Slc nb2 0 ni cp1, Slc nb17 0 (i + 1) cp5, U64 0], 26, (0, 0)⟩, _, _, _, _]
     refine AI (A5 (AC (AB (AA (I64 ((i:Int) + 1)) (AJ rfl rfl fun _ => BP _ _ ((i:Int) + 1) (by omega) (by omega)) rfl ?_))))
     refine AA _ (AG rfl) rfl ?_
     refine AI (B6 (CA [true, true, true, false, false, false, true] ?_))
     show K _ _ [_, _, _, _] _
     refine DN (.inr (i + 1, rr ++ [(SealR.mk (sE (g64 l i) e) (sD k (g64 l i) e (mid xb (32*i) 32)) (sT k (g64 l i) e (mid xb (32*i) 32)) (EK _ _ _ _) (EJ _ _ _ _))], nb17, sp5, cp5)) ⟨by omega, by omega, by rw [slS_succ, ← hi3]; rfl, (ha13).trans (by first | rfl | simp +arith), (ha14).trans (by first | rfl | simp +arith), by omega, by omega, all_step hi8 (seal_right (of_decide_eq_true hb13))⟩ (by dsimp only; omega) (Sub.all rfl) rfl
  ·
   have hp7 : ¬ (((i:Int)) < ((ni:Int))) := of_decide_eq_false hb7
   refine DA (AQ (AQ (BV (AC (AF (AF ?_))))))
   have ei : ni = i := by omega
   subst ei
   subst hi3
   show JC _ _ _ _ [⟨nb1, [I64 0, .slice none 0 0, .slice none 0 0, U64 0], 26, (0, 0)⟩, ⟨nb2, cu64 l ++ sp1, 22, (0, 0)⟩, ⟨nb3, [I64 1, Slc nb2 0 ni cp1, Slc gb 0 ni cp, U64 0], 26, (0, 0)⟩, ⟨gb, (slS k e l xb ni).flatMap sealC ++ sp, 161, (0, 0)⟩]
   refine AB (AA (.agg #[I64 1, Slc nb2 0 ni cp1, Slc gb 0 ni cp, U64 0]) (AL rfl (BH EQ B7 rfl (AR 2 rfl (AN _)))) rfl ?_)
   refine A0 (AY 69 [.agg #[I64 1, Slc nb2 0 ni cp1, Slc gb 0 ni cp, U64 0]] (.bool (RightO (1:Int) l (slS k e l xb ni) (0:UInt64))) (A4 _ Tryd.call69 rfl) (fun w1 hw1 => right13_c (1:Int) (some ⟨nb2, 0, none⟩) ni cp1 l (some ⟨gb, 0, none⟩) ni cp (slS k e l xb ni) (0:UInt64) w1 hl (by omega) (by omega) (by omega) (RdV.of hw1 (AR 1 rfl (BE (AN _)))) hi4 (by omega) (by omega) (by omega) (RdV.of hw1 (AR 3 rfl (BE (AN _)))))) rfl ?_
   show JL _ _ _ _ ((55, .bool (RightO (1:Int) l (slS k e l xb ni) (0:UInt64))) :: _) [_, _, _, _]
   refine AA (.bool (!(RightO (1:Int) l (slS k e l xb ni) (0:UInt64)))) (FV rfl) rfl ?_
   refine AI (AC (B5 (!(RightO (1:Int) l (slS k e l xb ni) (0:UInt64))) rfl (fun hb14 => ?_) (fun hb14 => ?_)))
   ·
    have hb15 : (RightO (1:Int) l (slS k e l xb ni) (0:UInt64)) = false := by simpa using hb14
    refine AF (AB (AA (.agg #[I64 0, .slice none 0 0, .slice none 0 0, U64 0]) (DG [] _ rfl (fun _ => by kernel_rfl)) rfl ?_))
    refine AA (.iface 50 (I64 2)) (Ev_iface E2 rfl rfl) rfl ?_
    refine A0 (AX 0 nb1 4 ([I64 0, .slice none 0 0, .slice none 0 0, U64 0]) 26 ([I64 0, .slice none 0 0, .slice none 0 0, U64 0]) rfl rfl rfl B7 rfl (by simp [Value.oneCell']) (Nat.le_of_ble_eq_true rfl) (A6 (by simp []))) rfl ?_
    show JL _ _ _ _ _ [⟨nb1, [I64 0, .slice none 0 0, .slice none 0 0, U64 0], 26, (0, 0)⟩, _, _, _]
    refine AA _ (AE rfl) rfl ?_
    refine AI (AC (BO (A3 (CA [true, false, false, false] ?_))))
    show JQ _ _ _ _ [_]
    refine BQ (.tuple #[.agg #[I64 0, .slice none 0 0, .slice none 0 0, U64 0], .iface 50 (I64 2)]) (res2 Tryd.results75 (DY rfl (BH EQ B7 rfl (AR 0 rfl (AN _)))) (B2 rfl)) fun w1 hw1 => ?_
    exact ⟨_, [], rfl, .inr (.inl ⟨hi8, hb15, rfl, rfl⟩), hw1.sub (by simp) (by simp)⟩
   ·
    have hb16 : (RightO (1:Int) l (slS k e l xb ni) (0:UInt64)) = true := by simpa using hb14
    refine BJ (AC (AF (AB (AA (.agg #[I64 1, Slc nb2 0 ni cp1, Slc gb 0 ni cp, U64 0]) (AL rfl (BH EQ B7 rfl (AR 2 rfl (AN _)))) rfl ?_))))
    refine A0 (AX 0 nb1 4 ([I64 0, .slice none 0 0, .slice none 0 0, U64 0]) 26 ([I64 1, Slc nb2 0 ni cp1, Slc gb 0 ni cp, U64 0]) rfl rfl rfl B7 rfl (by simp [Value.oneCell']) (Nat.le_of_ble_eq_true rfl) (A6 (by simp []))) rfl ?_
    show JL _ _ _ _ _ [⟨nb1, [I64 1, Slc nb2 0 ni cp1, Slc gb 0 ni cp, U64 0], 26, (0, 0)⟩, _, _, _]
    refine AA _ (AE rfl) rfl ?_
    refine AI (AC (BO (CA [true, true, false, true] ?_)))
    show JQ _ _ _ _ [_, _, _]
    refine BQ (.tuple #[.agg #[I64 1, Slc nb2 0 ni cp1, Slc gb 0 ni cp, U64 0], .nilIface]) (res2 Tryd.results75 (DY rfl (BH EQ B7 rfl (AR 0 rfl (AN _)))) (B2 rfl)) fun w1 hw1 => ?_
    exact ⟨_, _, rfl, .inr (.inr ⟨hi8, hb16, nb2, sp1, cp1, gb, sp, cp, rfl, rfl, (hc1.trans (by omega)), hc2, hc3, (hi5.trans (by omega)), hi6, hi7⟩), hw1.sub (by simp) (by simpa using hw1.ne (i := 1) (j := 2) rfl rfl (by decide))⟩
theorem rtsealA_c (k : List UInt8) (e : UInt64) (ai : Option Addr) (ni ci : Nat) (l : List UInt64) (ab : Option Addr) (nb cb2 : Nat) (xb : List UInt8)  (w : World) (hk : k.length = 16) (hne : ni ≠ nb)  : Calls Tryd.prog 77 #[.agg (cu8 k).toArray, U64 e, .slice ai ni ci, .slice ab nb cb2] w (Post w [] (fun v L => v = .tuple #[.agg #[I64 0, .slice none 0 0, .slice none 0 0, U64 0], I64 2] ∧ L = [])) := by
 refine enter w [] 56 [] [.agg (cu8 k).toArray, U64 e, .slice ai ni ci, .slice ab nb cb2] Tryd.func77 rfl rfl (by simp) (BR (by simp) (by simp) (by simp)) ?_
 show JC _ _ _ [(0, .agg (cu8 k).toArray), (1, U64 e), (2, .slice ai ni ci), (3, .slice ab nb cb2)] _
 refine AF (AB (AV (CG (.agg (cu8 k).toArray) (cu8 k) rfl (by first | rfl | simp)) rfl ?_))
 rintro v1 L1 ⟨nb1, hnb1, rfl, rfl⟩
 show JL _ _ _ _ ((4, Ptr nb1 0) :: _) [⟨nb1, cu8 k, 131, (0, 0)⟩]
 refine AV (A7 _ ([I64 0, .slice none 0 0, .slice none 0 0, U64 0]) E1 (by kernel_rfl)) rfl ?_
 rintro v1 L1 ⟨nb2, hnb2, rfl, rfl⟩
 show JL _ _ _ _ ((8, Ptr nb2 0) :: _) [_, ⟨nb2, [I64 0, .slice none 0 0, .slice none 0 0, U64 0], 36, (0, 0)⟩]
 refine AA _ (AE rfl) rfl ?_
 refine AI (AC (AF (AF (AB (AA _ (AG rfl) rfl ?_)))))
 refine AA (I64 ni) (DW BI rfl) rfl ?_
 refine AA _ (AG rfl) rfl ?_
 refine AA (I64 nb) (DW C3 rfl) rfl ?_
 refine AA (.bool (decide (((ni:Int)) ≠ ((nb:Int))))) (AJ rfl rfl fun _ => FU _ _) rfl ?_
 refine AI (AC (D1 _ rfl (decide_eq_true (by omega)) ?_))
 refine AF (AB (AA (.agg #[I64 0, .slice none 0 0, .slice none 0 0, U64 0]) (DG [] _ rfl (fun _ => by kernel_rfl)) rfl ?_))
 refine A0 (AX 1 nb2 4 ([I64 0, .slice none 0 0, .slice none 0 0, U64 0]) 36 ([I64 0, .slice none 0 0, .slice none 0 0, U64 0]) rfl rfl rfl B0 rfl (by simp [Value.oneCell']) (Nat.le_of_ble_eq_true rfl) (A6 (by simp []))) rfl ?_
 show JL _ _ _ _ _ [_, ⟨nb2, [I64 0, .slice none 0 0, .slice none 0 0, U64 0], 36, (0, 0)⟩]
 refine AA _ (AE rfl) rfl ?_
 refine AI (AC (BO (A3 (CA [false, true] ?_))))
 show JQ _ _ _ _ [_]
 refine BQ (.tuple #[.agg #[I64 0, .slice none 0 0, .slice none 0 0, U64 0], I64 2]) (res2 Tryd.results77 (DY rfl (BH EL B0 rfl (AR 0 rfl (AN _)))) (B2 rfl)) fun w1 hw1 => ?_
 exact ⟨_, [], rfl, ⟨rfl, rfl⟩, hw1.sub (by simp) (by simp)⟩
theorem bld36_01 {w : World} {v0 : Value} {v1 : Value} (h0 : v0.cells = [v0].toArray) (h1 : v1.cells = [v1].toArray) : (Instr.build 36 ([(0, v0), (1, v1)] : List (Nat × Value)).toArray).run Tryd.prog w = .ok (.agg (((([v0] : List Value) ++ ([v1] : List Value)) ++ ([.slice none 0 0] : List Value)) ++ ([U64 0] : List Value)).toArray) w :=
 EH (places := #[(0, 1), (1, 1), (2, 1), (3, 1)]) (Z := (([I64 0] : List Value) ++ (([.slice none 0 0] : List Value) ++ (([.slice none 0 0] : List Value) ++ (([U64 0] : List Value) ++ []))))) (fun _ => by kernel_rfl) BD (fun _ => by kernel_rfl) ((F1 ([I64 0] : List Value) (([.slice none 0 0] : List Value) ++ (([.slice none 0 0] : List Value) ++ (([U64 0] : List Value) ++ []))) ([v0] : List Value) h0 (by simp [AP]) rfl).trans ((EW ([v0] : List Value) ([.slice none 0 0] : List Value) (([.slice none 0 0] : List Value) ++ (([U64 0] : List Value) ++ [])) ([v1] : List Value) h1 (by simp [AP]) rfl).trans ((F2 (([v0] : List Value) ++ ([v1] : List Value)) ([.slice none 0 0] : List Value) (([U64 0] : List Value) ++ [])).trans ((F2 ((([v0] : List Value) ++ ([v1] : List Value)) ++ ([.slice none 0 0] : List Value)) ([U64 0] : List Value) []).trans (by simp [Instr.fill])))))
theorem rtsealZ_c (k : List UInt8) (e : UInt64) (ai : Option Addr) (ci : Nat) (ab : Option Addr) (cb2 : Nat)  (w : World) (hk : k.length = 16) (hci : ci ≤ maxLen) (hnI : ai = none → ci = 0)  : Calls Tryd.prog 77 #[.agg (cu8 k).toArray, U64 e, .slice ai 0 ci, .slice ab 0 cb2] w (Post w [] (fun v L => v = .tuple #[.agg #[I64 0, .slice none 0 0, .slice none 0 0, U64 0], I64 2] ∧ L = [])) := by
 have hmx : maxLen = 9223372036854775807 := rfl
 refine enter w [] 56 [] [.agg (cu8 k).toArray, U64 e, .slice ai 0 ci, .slice ab 0 cb2] Tryd.func77 rfl rfl (by simp) (BR (by simp) (by simp) (by simp)) ?_
 show JC _ _ _ [(0, .agg (cu8 k).toArray), (1, U64 e), (2, .slice ai 0 ci), (3, .slice ab 0 cb2)] _
 refine AF (AB (AV (CG (.agg (cu8 k).toArray) (cu8 k) rfl (by first | rfl | simp)) rfl ?_))
 rintro v1 L1 ⟨nb1, hnb1, rfl, rfl⟩
 show JL _ _ _ _ ((4, Ptr nb1 0) :: _) [⟨nb1, cu8 k, 131, (0, 0)⟩]
 refine AV (A7 _ ([I64 0, .slice none 0 0, .slice none 0 0, U64 0]) E1 (by kernel_rfl)) rfl ?_
 rintro v1 L1 ⟨nb2, hnb2, rfl, rfl⟩
 show JL _ _ _ _ ((8, Ptr nb2 0) :: _) [_, ⟨nb2, [I64 0, .slice none 0 0, .slice none 0 0, U64 0], 36, (0, 0)⟩]
 refine AA _ (AE rfl) rfl ?_
 refine AI (AC (AF (AF (AB (AA _ (AG rfl) rfl ?_)))))
 refine AA (I64 0) (DW BI rfl) rfl ?_
 refine AA _ (AG rfl) rfl ?_
 refine AA (I64 0) (DW C3 rfl) rfl ?_
 refine AA (.bool (decide ((0:Int) ≠ (0:Int)))) (AJ rfl rfl fun _ => FU _ _) rfl ?_
 refine AI (AC (DV _ rfl (by decide) ?_))
 refine BJ (AC (AF (AB (AA _ (AG rfl) rfl ?_))))
 refine AA (.agg #[I64 1, .slice ai 0 ci, .slice none 0 0, U64 0]) (DG [(0, I64 1), (1, .slice ai 0 ci)] _ rfl (fun _ => bld36_01 rfl rfl)) rfl ?_
 refine AV (A7 _ ([I64 0, .slice none 0 0, .slice none 0 0, U64 0]) E1 (by kernel_rfl)) rfl ?_
 rintro v1 L1 ⟨nb3, hnb3, rfl, rfl⟩
 show JL _ _ _ _ ((10, Ptr nb3 0) :: _) [_, _, ⟨nb3, [I64 0, .slice none 0 0, .slice none 0 0, U64 0], 36, (0, 0)⟩]
 refine A0 (AX 2 nb3 4 ([I64 0, .slice none 0 0, .slice none 0 0, U64 0]) 36 ([I64 1, .slice ai 0 ci, .slice none 0 0, U64 0]) rfl rfl rfl B0 rfl (by simp [Value.oneCell']) (Nat.le_of_ble_eq_true rfl) (A6 (by simp []))) rfl ?_
 show JL _ _ _ _ _ [_, _, ⟨nb3, [I64 1, .slice ai 0 ci, .slice none 0 0, U64 0], 36, (0, 0)⟩]
 refine AI (AC (AF (AF (AB (AA _ (AE rfl) rfl ?_)))))
 refine AI (AC (A9 (DI (ι := Unit) (fun _ => [(1, U64 e), (2, .slice ai 0 ci), (3, .slice ab 0 cb2), (4, Ptr nb1 0), (8, Ptr nb2 0), (10, Ptr nb3 0), (11, I64 0)]) (fun _ => [⟨nb1, cu8 k, 131, (0, 0)⟩, ⟨nb2, [I64 0, .slice none 0 0, .slice none 0 0, U64 0], 36, (0, 0)⟩, ⟨nb3, [I64 1, .slice ai 0 ci, .slice none 0 0, U64 0], 36, (0, 0)⟩]) (fun _ => True) (fun _ => 1) () trivial (Sub.all rfl) rfl ?_)))
 rintro _ _
 show JC _ _ _ [(1, U64 e), (2, .slice ai 0 ci), (3, .slice ab 0 cb2), (4, Ptr nb1 0), (8, Ptr nb2 0), (10, Ptr nb3 0), (11, I64 0)] [⟨nb1, cu8 k, 131, (0, 0)⟩, ⟨nb2, [I64 0, .slice none 0 0, .slice none 0 0, U64 0], 36, (0, 0)⟩, ⟨nb3, [I64 1, .slice ai 0 ci, .slice none 0 0, U64 0], 36, (0, 0)⟩]
 refine AF (AF (AB (AA _ (AG rfl) rfl ?_)))
 refine AA _ (AG rfl) rfl ?_
 refine AA (I64 0) (DW C3 rfl) rfl ?_
 refine AA (.bool (decide ((0:Int) < (0:Int)))) (AJ rfl rfl fun _ => B9 _ _) rfl ?_
 refine AI (AC (DV _ rfl (by decide) ?_))
 refine DA (AQ (AQ (BV (AC (AF (AF (AB (AA (.agg #[I64 1, .slice ai 0 ci, .slice none 0 0, U64 0]) (AL rfl (BH EL B0 rfl (AR 2 rfl (AN _)))) rfl ?_))))))))
 refine A0 (AY 67 [.agg #[I64 1, .slice ai 0 ci, .slice none 0 0, U64 0]] (.bool (RightO (1:Int) ([] : List UInt64) ([] : List SealR) (0:UInt64))) (A4 _ Tryd.call67 rfl) (fun w1 hw1 => rright13_c (1:Int) ai 0 ci ([] : List UInt64) none 0 0 ([] : List SealR) (0:UInt64) w1 rfl (by omega) (by omega) (by omega) RdV.nil rfl (by omega) (by omega) (by omega) RdV.nil)) rfl ?_
 show JL _ _ _ _ ((52, .bool (RightO (1:Int) ([] : List UInt64) ([] : List SealR) (0:UInt64))) :: _) [_, _, _]
 refine AA (.bool (!(RightO (1:Int) ([] : List UInt64) ([] : List SealR) (0:UInt64)))) (FV rfl) rfl ?_
 refine AI (AC (D1 _ rfl (by rw [show (RightO (1:Int) ([] : List UInt64) ([] : List SealR) (0:UInt64)) = false from (by decide +kernel)] <;> rfl) ?_))
 refine AF (AB (AA (.agg #[I64 0, .slice none 0 0, .slice none 0 0, U64 0]) (DG [] _ rfl (fun _ => by kernel_rfl)) rfl ?_))
 refine A0 (AX 1 nb2 4 ([I64 0, .slice none 0 0, .slice none 0 0, U64 0]) 36 ([I64 0, .slice none 0 0, .slice none 0 0, U64 0]) rfl rfl rfl B0 rfl (by simp [Value.oneCell']) (Nat.le_of_ble_eq_true rfl) (A6 (by simp []))) rfl ?_
 show JL _ _ _ _ _ [_, ⟨nb2, [I64 0, .slice none 0 0, .slice none 0 0, U64 0], 36, (0, 0)⟩, _]
 refine AA _ (AE rfl) rfl ?_
 refine AI (AC (BO (A3 (CA [false, true, false] ?_))))
 show JQ _ _ _ _ [_]
 refine BQ (.tuple #[.agg #[I64 0, .slice none 0 0, .slice none 0 0, U64 0], I64 2]) (res2 Tryd.results77 (DY rfl (BH EL B0 rfl (AR 0 rfl (AN _)))) (B2 rfl)) fun w1 hw1 => ?_
 exact ⟨_, [], rfl, ⟨rfl, rfl⟩, hw1.sub (by simp) (by simp)⟩
theorem rtsealW_c (k : List UInt8) (e : UInt64) (ai : Option Addr) (ni ci : Nat) (l : List UInt64) (ab : Option Addr) (cb2 : Nat) (xb : List UInt8)  (w : World) (hk : k.length = 16) (hl : l.length = ni) (hnm : ni ≤ 2000000) (hnc : ni ≤ ci) (hcm : ci ≤ maxLen) (hv : RdV w ai (cu64 l)) (hxl : xb.length = 32*ni) (hrx : RdB w [] ab xb) (hp1 : 0 < ni) (hn3 : ni ≤ 20) (hGr : GLr w) (hGi : GLi w)  : Calls Tryd.prog 77 #[.agg (cu8 k).toArray, U64 e, .slice ai ni ci, .slice ab ni cb2] w (Post w [] (fun v L => (¬ (∀ j, j < ni → RightB (g64 l j) e = true) ∧ v = .tuple #[.agg #[I64 0, .slice none 0 0, .slice none 0 0, U64 0], I64 1] ∧ L = []) ∨ ((∀ j, j < ni → RightB (g64 l j) e = true) ∧ RightO 1 l (slS k e l xb ni) 0 = false ∧ v = .tuple #[.agg #[I64 0, .slice none 0 0, .slice none 0 0, U64 0], I64 2] ∧ L = []) ∨ ((∀ j, j < ni → RightB (g64 l j) e = true) ∧ RightO 1 l (slS k e l xb ni) 0 = true ∧ ∃ g sp cap, v = .tuple #[.agg #[I64 1, .slice ai ni ci, Slc g 0 ni cap, U64 0], I64 0] ∧ L = [⟨g, (slS k e l xb ni).flatMap sealC ++ sp, 164, (0, 0)⟩] ∧ sp.length = cap * 49 - ni * 49 ∧ ni ≤ cap ∧ cap ≤ maxLen))) := by
 have hmx : maxLen = 9223372036854775807 := rfl
 refine enter w [] 56 [] [.agg (cu8 k).toArray, U64 e, .slice ai ni ci, .slice ab ni cb2] Tryd.func77 rfl rfl (by simp) (BR (by simp) (by simp) (by simp)) ?_
 show JC _ _ _ [(0, .agg (cu8 k).toArray), (1, U64 e), (2, .slice ai ni ci), (3, .slice ab ni cb2)] _
 refine AF (AB (AV (CG (.agg (cu8 k).toArray) (cu8 k) rfl (by first | rfl | simp)) rfl ?_))
 rintro v1 L1 ⟨nb1, hnb1, rfl, rfl⟩
 show JL _ _ _ _ ((4, Ptr nb1 0) :: _) [⟨nb1, cu8 k, 131, (0, 0)⟩]
 refine AV (A7 _ ([I64 0, .slice none 0 0, .slice none 0 0, U64 0]) E1 (by kernel_rfl)) rfl ?_
 rintro v1 L1 ⟨nb2, hnb2, rfl, rfl⟩
 show JL _ _ _ _ ((8, Ptr nb2 0) :: _) [_, ⟨nb2, [I64 0, .slice none 0 0, .slice none 0 0, U64 0], 36, (0, 0)⟩]
 refine AA _ (AE rfl) rfl ?_
 refine AI (AC (AF (AF (AB (AA _ (AG rfl) rfl ?_)))))
 refine AA (I64 ni) (DW BI rfl) rfl ?_
 refine AA _ (AG rfl) rfl ?_
 refine AA (I64 ni) (DW C3 rfl) rfl ?_
 refine AA (.bool (decide (((ni:Int)) ≠ ((ni:Int))))) (AJ rfl rfl fun _ => FU _ _) rfl ?_
 refine AI (AC (DV _ rfl (by simp) ?_))
 refine BJ (AC (AF (AB (AA _ (AG rfl) rfl ?_))))
 refine AA (.agg #[I64 1, .slice ai ni ci, .slice none 0 0, U64 0]) (DG [(0, I64 1), (1, .slice ai ni ci)] _ rfl (fun _ => bld36_01 rfl rfl)) rfl ?_
 refine AV (A7 _ ([I64 0, .slice none 0 0, .slice none 0 0, U64 0]) E1 (by kernel_rfl)) rfl ?_
 rintro v1 L1 ⟨nb3, hnb3, rfl, rfl⟩
 show JL _ _ _ _ ((10, Ptr nb3 0) :: _) [_, _, ⟨nb3, [I64 0, .slice none 0 0, .slice none 0 0, U64 0], 36, (0, 0)⟩]
 refine A0 (AX 2 nb3 4 ([I64 0, .slice none 0 0, .slice none 0 0, U64 0]) 36 ([I64 1, .slice ai ni ci, .slice none 0 0, U64 0]) rfl rfl rfl B0 rfl (by simp [Value.oneCell']) (Nat.le_of_ble_eq_true rfl) (A6 (by simp []))) rfl ?_
 show JL _ _ _ _ _ [_, _, ⟨nb3, [I64 1, .slice ai ni ci, .slice none 0 0, U64 0], 36, (0, 0)⟩]
 refine AI (AC (AF (AF (AB (AA _ (AE rfl) rfl ?_)))))
 refine AI (AC (A9 (DI (ι := (Unit) ⊕ (Nat × List SealR × Nat × List Value × Nat)) (fun x => match x with | .inl _ => [(1, U64 e), (2, .slice ai ni ci), (3, .slice ab ni cb2), (4, Ptr nb1 0), (8, Ptr nb2 0), (10, Ptr nb3 0), (11, I64 0)] | .inr ⟨i, rr, gb, sp, cp⟩ => [(1, U64 e), (2, .slice ai ni ci), (3, .slice ab ni cb2), (4, Ptr nb1 0), (8, Ptr nb2 0), (10, Ptr nb3 0), (11, I64 i)]) (fun x => match x with | .inl _ => [⟨nb1, cu8 k, 131, (0, 0)⟩, ⟨nb2, [I64 0, .slice none 0 0, .slice none 0 0, U64 0], 36, (0, 0)⟩, ⟨nb3, [I64 1, .slice ai ni ci, .slice none 0 0, U64 0], 36, (0, 0)⟩] | .inr ⟨i, rr, gb, sp, cp⟩ => [⟨nb1, cu8 k, 131, (0, 0)⟩, ⟨nb2, [I64 0, .slice none 0 0, .slice none 0 0, U64 0], 36, (0, 0)⟩, ⟨nb3, [I64 1, .slice ai ni ci, Slc gb 0 i cp, U64 0], 36, (0, 0)⟩, ⟨gb, (rr).flatMap sealC ++ sp, 164, (0, 0)⟩]) (fun x => match x with | .inl _ => True | .inr ⟨i, rr, gb, sp, cp⟩ => 0 < i ∧ i ≤ ni ∧ rr = slS k e l xb i ∧ rr.length = i ∧ sp.length = cp * 49 - i * 49 ∧ i ≤ cp ∧ cp ≤ maxLen ∧ ∀ j, j < i → RightB (g64 l j) e = true) (fun x => match x with | .inl _ => ni + 2 | .inr ⟨i, rr, gb, sp, cp⟩ => ni + 1 - i) (.inl ()) trivial (Sub.all rfl) rfl ?_)))
 rintro (_ | ⟨i, rr, gb, sp, cp⟩) hx
 ·
  obtain _ := hx
  show JC _ _ _ [(1, U64 e), (2, .slice ai ni ci), (3, .slice ab ni cb2), (4, Ptr nb1 0), (8, Ptr nb2 0), (10, Ptr nb3 0), (11, I64 0)] [⟨nb1, cu8 k, 131, (0, 0)⟩, ⟨nb2, [I64 0, .slice none 0 0, .slice none 0 0, U64 0], 36, (0, 0)⟩, ⟨nb3, [I64 1, .slice ai ni ci, .slice none 0 0, U64 0], 36, (0, 0)⟩]
  refine AF (AF (AB (AA _ (AG rfl) rfl ?_)))
  refine AA _ (AG rfl) rfl ?_
  refine AA (I64 ni) (DW C3 rfl) rfl ?_
  refine AA (.bool (decide ((0:Int) < ((ni:Int))))) (AJ rfl rfl fun _ => B9 _ _) rfl ?_
  refine AI (AC (D1 _ rfl (decide_eq_true (by omega)) ?_))
  refine BJ (AC (AF (A9 (AF ?_))))
  obtain ⟨bz1, oz1, hz1, hm1⟩ := RdV.pos hv (by rw [FO, hl]; omega)
  obtain ⟨bz2, oz2, hz2, hm2⟩ := hrx.pos (by rw [hxl]; omega)
  have hl1 : (mid xb 0 32).length = 32 := D8 (by rw [hxl]; omega)
  refine CT 56 4 [(0, .agg (cu8 k).toArray), (1, .slice ai ni ci), (2, I64 0), (3, Ptr bz1 oz1), (4, U64 (g64 l 0)), (5, U64 e), (6, .slice ab ni cb2), (7, I64 0), (8, Ptr bz2 oz2), (9, .agg (cu8 (mid xb 0 32)).toArray)] BL rfl (by decide +kernel) ?_
  have hl2 : (mid xb 0 32).length = 32 := D8 (by rw [hxl]; omega)
  refine DP_two ⟨[], [0, 1, 2, 3, 4, 5, 6, 7, 8, 9], [], [0, 1, 2, 3, 4, 5, 6, 7, 8, 9], [10, 14]⟩ 10 14 _ _ rfl rfl (by decide +kernel) rfl ⟨⟨_, rfl, AD rfl (AL rfl (BH C7 CO (A8 hk) (AR 0 rfl (AN _))))⟩, AU rfl rfl rfl, AU rfl rfl rfl, ⟨_, rfl, AD rfl (CL 22 1 oz1 BI BC rfl hz1 rfl (by omega) (by omega) (by omega))⟩, ⟨_, rfl, AD rfl (AL rfl (AZ BG (BW (hm1.mem (by simp)) (Seg.get (F9 (i := 0) (by rw [hl]; omega))) (by omega))))⟩, AU rfl rfl rfl, AU rfl rfl rfl, AU rfl rfl rfl, ⟨_, rfl, AD rfl (CL 159 32 oz2 C3 CF rfl hz2 rfl (by omega) (by omega) (by omega))⟩, ⟨_, rfl, AD rfl (AL rfl (BH D3 CF (A8 hl2) (BW (MemAt.base hm2.1 hm2.2.1 hm2.2.2) (FB 0 32 (by rw [hxl]; omega)) (by omega))))⟩, trivial⟩ rfl rfl (AW rfl (AY 142 [.agg (cu8 k).toArray, U64 (g64 l 0), U64 e, .agg (cu8 (mid xb 0 32)).toArray] (.tuple #[.agg ([U64 (sE (g64 l 0) e)] ++ cu8 (sD k (g64 l 0) e (mid xb 0 32)) ++ cu8 (sT k (g64 l 0) e (mid xb 0 32))).toArray, .bool (RightB (g64 l 0) e)]) (A4 _ Tryd.call142 rfl) (fun w1 hw1 => rseal_w k (g64 l 0) e (mid xb 0 32) w1 hk hl1 (GLr.at hw1 hGr) (GLi.at hw1 hGi)))) (AW rfl (A7 _ ([U64 0] ++ cu8 (zr8 32) ++ cu8 (zr8 16)) EI (by kernel_rfl))) ?_ ?_
  ·
   rintro v1 L1 ⟨rfl, rfl⟩
   refine ⟨[(11, .tuple #[.agg ([U64 (sE (g64 l 0) e)] ++ cu8 (sD k (g64 l 0) e (mid xb 0 32)) ++ cu8 (sT k (g64 l 0) e (mid xb 0 32))).toArray, .bool (RightB (g64 l 0) e)]), (12, .agg ([U64 (sE (g64 l 0) e)] ++ cu8 (sD k (g64 l 0) e (mid xb 0 32)) ++ cu8 (sT k (g64 l 0) e (mid xb 0 32))).toArray), (13, .bool (RightB (g64 l 0) e))], ?_⟩
   show DP _ _ _ _ _ _ _ _ [_, _, _]
   refine CU ⟨[10], [0, 1, 2, 3, 4, 5, 6, 7, 8, 9, 11, 12, 13], [0, 1, 2, 3, 4, 5, 6, 7, 8, 9], [11, 12, 13], [14]⟩ 14 _ rfl rfl (by decide +kernel) rfl ⟨AU rfl rfl rfl, ⟨_, rfl, AD rfl (BS rfl rfl)⟩, ⟨_, rfl, AD rfl (BS rfl rfl)⟩, trivial⟩ rfl (AW rfl (A7 _ ([U64 0] ++ cu8 (zr8 32) ++ cu8 (zr8 16)) EI (by kernel_rfl))) ?_
   rintro v1 L1 ⟨nb5, hnb5, rfl, rfl⟩
   refine ⟨[], ?_⟩
   show DP _ _ _ _ _ _ _ _ [_, _, _, ⟨nb5, [U64 0] ++ cu8 (zr8 32) ++ cu8 (zr8 16), 164, (0, 0)⟩]
   refine CU ⟨[10, 14], [0, 1, 2, 3, 4, 5, 6, 7, 8, 9, 11, 12, 13], [0, 1, 2, 3, 4, 5, 6, 7, 8, 9], [11, 12, 13], [15]⟩ 15 _ rfl rfl (by decide +kernel) rfl ⟨AU rfl rfl rfl, ⟨_, rfl, AD rfl (BS rfl rfl)⟩, ⟨_, rfl, AD rfl (BS rfl rfl)⟩, trivial⟩ rfl (AW rfl (AX 3 nb5 49 ([U64 0] ++ cu8 (zr8 32) ++ cu8 (zr8 16)) 164 ([U64 (sE (g64 l 0) e)] ++ cu8 (sD k (g64 l 0) e (mid xb 0 32)) ++ cu8 (sT k (g64 l 0) e (mid xb 0 32))) rfl rfl rfl C9 (by simp [(EK _ _ _ _), (EJ _ _ _ _)]) (EO (EO (by simp [Value.oneCell']) CD) CD) (by simp [(AP 32), (AP 16)]) (A6 (by simp [(AP 32), (AP 16), (EK _ _ _ _), (EJ _ _ _ _)])))) ?_
   rintro v1 L1 ⟨rfl, rfl⟩
   refine ⟨[(16, .bool (RightB (g64 l 0) e))], ?_⟩
   show DP _ _ _ _ _ _ _ _ [_, _, _, ⟨nb5, [U64 (sE (g64 l 0) e)] ++ cu8 (sD k (g64 l 0) e (mid xb 0 32)) ++ cu8 (sT k (g64 l 0) e (mid xb 0 32)), 164, (0, 0)⟩]
   refine DE ⟨[10, 14, 15], [0, 1, 2, 3, 4, 5, 6, 7, 8, 9, 11, 12, 13, 16], [0, 1, 2, 3, 4, 5, 6, 7, 8, 9, 11, 12], [13, 16], []⟩ rfl rfl (by decide +kernel) rfl ⟨⟨_, rfl, AD rfl (BS rfl rfl)⟩, ⟨_, rfl, AD rfl (AE rfl)⟩, trivial⟩ ?_
   refine CC (F' := [(29, .agg (cu8 k).toArray), (30, .slice ai ni ci), (31, I64 0), (32, Ptr bz1 oz1), (33, U64 (g64 l 0)), (34, U64 e), (35, .slice ab ni cb2), (36, I64 0), (37, Ptr bz2 oz2), (38, .agg (cu8 (mid xb 0 32)).toArray), (39, .tuple #[.agg ([U64 (sE (g64 l 0) e)] ++ cu8 (sD k (g64 l 0) e (mid xb 0 32)) ++ cu8 (sT k (g64 l 0) e (mid xb 0 32))).toArray, .bool (RightB (g64 l 0) e)]), (28, .tuple #[.agg ([U64 (sE (g64 l 0) e)] ++ cu8 (sD k (g64 l 0) e (mid xb 0 32)) ++ cu8 (sT k (g64 l 0) e (mid xb 0 32))).toArray, .bool (RightB (g64 l 0) e)]), (40, .agg ([U64 (sE (g64 l 0) e)] ++ cu8 (sD k (g64 l 0) e (mid xb 0 32)) ++ cu8 (sT k (g64 l 0) e (mid xb 0 32))).toArray), (41, .bool (RightB (g64 l 0) e)), (12, Ptr nb5 0), (13, .bool (RightB (g64 l 0) e)), (1, U64 e), (2, .slice ai ni ci), (3, .slice ab ni cb2), (4, Ptr nb1 0), (8, Ptr nb2 0), (10, Ptr nb3 0), (11, I64 0), (22, I64 0), (23, .slice ab ni cb2), (24, I64 ni), (25, .bool (decide ((0:Int) < ((ni:Int)))))]) (by kernel_rfl) ?_
   refine AC (AF (AF (AB (AA _ (AG rfl) rfl ?_))))
   refine AA (.bool (!(RightB (g64 l 0) e))) (FV rfl) rfl ?_
   refine AI (AC (B5 (!(RightB (g64 l 0) e)) rfl (fun hb1 => ?_) (fun hb1 => ?_)))
   ·
    have hb2 : (RightB (g64 l 0) e) = false := by simpa using hb1
    refine AF (AB (AA (.agg #[I64 0, .slice none 0 0, .slice none 0 0, U64 0]) (DG [] _ rfl (fun _ => by kernel_rfl)) rfl ?_))
    refine A0 (AX 1 nb2 4 ([I64 0, .slice none 0 0, .slice none 0 0, U64 0]) 36 ([I64 0, .slice none 0 0, .slice none 0 0, U64 0]) rfl rfl rfl B0 rfl (by simp [Value.oneCell']) (Nat.le_of_ble_eq_true rfl) (A6 (by simp []))) rfl ?_
    show JL _ _ _ _ _ [_, ⟨nb2, [I64 0, .slice none 0 0, .slice none 0 0, U64 0], 36, (0, 0)⟩, _, _]
    refine AA _ (AE rfl) rfl ?_
    refine AI (AC (BO (A3 (CZ (A3 (A3 (CZ (A3 ?_))))))))
    refine CA [false, true, false, false] ?_
    show JQ _ _ _ _ [_]
    refine BQ (.tuple #[.agg #[I64 0, .slice none 0 0, .slice none 0 0, U64 0], I64 1]) (res2 Tryd.results77 (DY rfl (BH EL B0 rfl (AR 0 rfl (AN _)))) (B2 rfl)) fun w1 hw1 => ?_
    exact ⟨_, [], rfl, .inl ⟨(fun h => by have h2 := h 0 (by omega); rw [hb2] at h2; cases h2), rfl, rfl⟩, hw1.sub (by simp) (by simp)⟩
   ·
    have hb3 : (RightB (g64 l 0) e) = true := by simpa using hb1
    refine BJ (AC (AB (AA (Ptr nb3 2) (AH 2 34 1 BD rfl CP rfl rfl) rfl ?_)))
    refine AA (.slice none 0 0) (AL rfl (AZ D4 (AR 2 rfl (AS (AS (Seg.head)))))) rfl ?_
    refine AA (.agg ([U64 (sE (g64 l 0) e)] ++ cu8 (sD k (g64 l 0) e (mid xb 0 32)) ++ cu8 (sT k (g64 l 0) e (mid xb 0 32))).toArray) (AL rfl (BH Tryd.isAgg164 C9 (by simp [(EK _ _ _ _), (EJ _ _ _ _)]) (AR 3 rfl (AN _)))) rfl ?_
    refine AV (BT 164 49 _ [(0, .agg ([U64 (sE (g64 l 0) e)] ++ cu8 (sD k (g64 l 0) e (mid xb 0 32)) ++ cu8 (sT k (g64 l 0) e (mid xb 0 32))).toArray)] ([U64 (sE (g64 l 0) e)] ++ cu8 (sD k (g64 l 0) e (mid xb 0 32)) ++ cu8 (sT k (g64 l 0) e (mid xb 0 32))) CM C9 EI rfl rfl rfl (fill_one (Z := [U64 0] ++ cu8 (zr8 32) ++ cu8 (zr8 16)) (by simp [(EK _ _ _ _), (EJ _ _ _ _)]) (by kernel_rfl) (by simp [zr8]))) rfl ?_
    rintro v1 L1 ⟨nb6, hnb6, rfl, rfl⟩
    show JL _ _ _ _ ((48, Slc nb6 0 1 1) :: _) [_, _, _, _, ⟨nb6, [U64 (sE (g64 l 0) e)] ++ cu8 (sD k (g64 l 0) e (mid xb 0 32)) ++ cu8 (sT k (g64 l 0) e (mid xb 0 32)), 164, (0, 0)⟩]
    refine AV (GK 34 164 56 (.agg ([U64 0] ++ cu8 (zr8 32) ++ cu8 (zr8 16)).toArray) [false, false, false, false, false] (.slice none 0 0) 0 ([] : List SealR) (SealR.mk (sE (g64 l 0) e) (sD k (g64 l 0) e (mid xb 0 32)) (sT k (g64 l 0) e (mid xb 0 32)) (EK _ _ _ _) (EJ _ _ _ _)) (some ⟨nb6, 0, none⟩) 1 1 CM (by kernel_rfl) (by kernel_rfl) rfl (.inl ⟨rfl, rfl, rfl, rfl⟩) rfl (SrcAt.mem (AR 4 rfl (AN _))) (by omega) (by unfold maxLen; omega) (by omega)) rfl ?_
    rintro v1 L1 ⟨nb7, sp1, cp1, hg1, rfl, rfl, ha1, ha2, ha3, ha4⟩
    show JL _ _ _ _ ((49, Slc nb7 0 1 cp1) :: _) [_, _, _, _, _, ⟨nb7, (([] : List SealR) ++ [(SealR.mk (sE (g64 l 0) e) (sD k (g64 l 0) e (mid xb 0 32)) (sT k (g64 l 0) e (mid xb 0 32)) (EK _ _ _ _) (EJ _ _ _ _))]).flatMap sealC ++ sp1, 164, (0, 0)⟩]
    refine AA (Ptr nb3 2) (AH 2 34 1 BD rfl CP rfl rfl) rfl ?_
    refine A0 (CN 2 nb3 2 1 ([I64 1, .slice ai ni ci, .slice none 0 0, U64 0]) 36 (Slc nb7 0 1 cp1) ([Slc nb7 0 1 cp1]) ([I64 1, .slice ai ni ci, Slc nb7 0 1 cp1, U64 0]) rfl rfl rfl rfl CP rfl (by simp [Value.oneCell']) (Nat.le_of_ble_eq_true rfl) (rfl)) rfl ?_
    show JL _ _ _ _ _ [_, _, ⟨nb3, [I64 1, .slice ai ni ci, Slc nb7 0 1 cp1, U64 0], 36, (0, 0)⟩, _, _, _]
    refine AI (A5 (AC (AB (AA _ (AG rfl) rfl ?_))))
    refine AA (I64 1) (AJ rfl rfl fun _ => BP _ _ (1:Int) (by omega) (by omega)) rfl ?_
    refine AA _ (AE rfl) rfl ?_
    refine AI (B6 (CA [true, true, true, false, false, true] ?_))
    show K _ _ [_, _, _, _] _
    refine DN (.inr (1, ([] : List SealR) ++ [(SealR.mk (sE (g64 l 0) e) (sD k (g64 l 0) e (mid xb 0 32)) (sT k (g64 l 0) e (mid xb 0 32)) (EK _ _ _ _) (EJ _ _ _ _))], nb7, sp1, cp1)) ⟨by omega, by omega, by rw [slS_succ, slS_zero]; rfl, (ha1).trans (by first | rfl | simp +arith), (ha2).trans (by first | rfl | simp +arith), by omega, by omega, all_step (i := 0) (fun j hj => by omega) hb3⟩ (by dsimp only; omega) (Sub.all rfl) rfl
  ·
   rintro v1 L1 ⟨nb4, hnb4, rfl, rfl⟩
   refine ⟨[], ?_⟩
   show DP _ _ _ _ _ _ _ _ [_, _, _, ⟨nb4, [U64 0] ++ cu8 (zr8 32) ++ cu8 (zr8 16), 164, (0, 0)⟩]
   have hl3 : (mid xb 0 32).length = 32 := D8 (by rw [hxl]; omega)
   refine CU ⟨[14], [0, 1, 2, 3, 4, 5, 6, 7, 8, 9], [], [0, 1, 2, 3, 4, 5, 6, 7, 8, 9], [10]⟩ 10 _ rfl rfl (by decide +kernel) rfl ⟨⟨_, rfl, AD rfl (AL rfl (BH C7 CO (A8 hk) (AR 0 rfl (AN _))))⟩, AU rfl rfl rfl, AU rfl rfl rfl, ⟨_, rfl, AD rfl (CL 22 1 oz1 BI BC rfl hz1 rfl (by omega) (by omega) (by omega))⟩, ⟨_, rfl, AD rfl (AL rfl (AZ BG (BW (hm1.mem (by simp)) (Seg.get (F9 (i := 0) (by rw [hl]; omega))) (by omega))))⟩, AU rfl rfl rfl, AU rfl rfl rfl, AU rfl rfl rfl, ⟨_, rfl, AD rfl (CL 159 32 oz2 C3 CF rfl hz2 rfl (by omega) (by omega) (by omega))⟩, ⟨_, rfl, AD rfl (AL rfl (BH D3 CF (A8 hl3) (BW (MemAt.base hm2.1 hm2.2.1 hm2.2.2) (FB 0 32 (by rw [hxl]; omega)) (by omega))))⟩, trivial⟩ rfl (AW rfl (AY 142 [.agg (cu8 k).toArray, U64 (g64 l 0), U64 e, .agg (cu8 (mid xb 0 32)).toArray] (.tuple #[.agg ([U64 (sE (g64 l 0) e)] ++ cu8 (sD k (g64 l 0) e (mid xb 0 32)) ++ cu8 (sT k (g64 l 0) e (mid xb 0 32))).toArray, .bool (RightB (g64 l 0) e)]) (A4 _ Tryd.call142 rfl) (fun w1 hw1 => rseal_w k (g64 l 0) e (mid xb 0 32) w1 hk hl1 (GLr.at hw1 hGr) (GLi.at hw1 hGi)))) ?_
   rintro v1 L1 ⟨rfl, rfl⟩
   refine ⟨[(11, .tuple #[.agg ([U64 (sE (g64 l 0) e)] ++ cu8 (sD k (g64 l 0) e (mid xb 0 32)) ++ cu8 (sT k (g64 l 0) e (mid xb 0 32))).toArray, .bool (RightB (g64 l 0) e)]), (12, .agg ([U64 (sE (g64 l 0) e)] ++ cu8 (sD k (g64 l 0) e (mid xb 0 32)) ++ cu8 (sT k (g64 l 0) e (mid xb 0 32))).toArray), (13, .bool (RightB (g64 l 0) e))], ?_⟩
   show DP _ _ _ _ _ _ _ _ [_, _, _, _]
   refine CU ⟨[14, 10], [0, 1, 2, 3, 4, 5, 6, 7, 8, 9, 11, 12, 13], [0, 1, 2, 3, 4, 5, 6, 7, 8, 9], [11, 12, 13], [15]⟩ 15 _ rfl rfl (by decide +kernel) rfl ⟨AU rfl rfl rfl, ⟨_, rfl, AD rfl (BS rfl rfl)⟩, ⟨_, rfl, AD rfl (BS rfl rfl)⟩, trivial⟩ rfl (AW rfl (AX 3 nb4 49 ([U64 0] ++ cu8 (zr8 32) ++ cu8 (zr8 16)) 164 ([U64 (sE (g64 l 0) e)] ++ cu8 (sD k (g64 l 0) e (mid xb 0 32)) ++ cu8 (sT k (g64 l 0) e (mid xb 0 32))) rfl rfl rfl C9 (by simp [(EK _ _ _ _), (EJ _ _ _ _)]) (EO (EO (by simp [Value.oneCell']) CD) CD) (by simp [(AP 32), (AP 16)]) (A6 (by simp [(AP 32), (AP 16), (EK _ _ _ _), (EJ _ _ _ _)])))) ?_
   rintro v1 L1 ⟨rfl, rfl⟩
   refine ⟨[(16, .bool (RightB (g64 l 0) e))], ?_⟩
   show DP _ _ _ _ _ _ _ _ [_, _, _, ⟨nb4, [U64 (sE (g64 l 0) e)] ++ cu8 (sD k (g64 l 0) e (mid xb 0 32)) ++ cu8 (sT k (g64 l 0) e (mid xb 0 32)), 164, (0, 0)⟩]
   refine DE ⟨[14, 10, 15], [0, 1, 2, 3, 4, 5, 6, 7, 8, 9, 11, 12, 13, 16], [0, 1, 2, 3, 4, 5, 6, 7, 8, 9, 11, 12], [13, 16], []⟩ rfl rfl (by decide +kernel) rfl ⟨⟨_, rfl, AD rfl (BS rfl rfl)⟩, ⟨_, rfl, AD rfl (AE rfl)⟩, trivial⟩ ?_
   refine CC (F' := [(29, .agg (cu8 k).toArray), (30, .slice ai ni ci), (31, I64 0), (32, Ptr bz1 oz1), (33, U64 (g64 l 0)), (34, U64 e), (35, .slice ab ni cb2), (36, I64 0), (37, Ptr bz2 oz2), (38, .agg (cu8 (mid xb 0 32)).toArray), (39, .tuple #[.agg ([U64 (sE (g64 l 0) e)] ++ cu8 (sD k (g64 l 0) e (mid xb 0 32)) ++ cu8 (sT k (g64 l 0) e (mid xb 0 32))).toArray, .bool (RightB (g64 l 0) e)]), (28, .tuple #[.agg ([U64 (sE (g64 l 0) e)] ++ cu8 (sD k (g64 l 0) e (mid xb 0 32)) ++ cu8 (sT k (g64 l 0) e (mid xb 0 32))).toArray, .bool (RightB (g64 l 0) e)]), (40, .agg ([U64 (sE (g64 l 0) e)] ++ cu8 (sD k (g64 l 0) e (mid xb 0 32)) ++ cu8 (sT k (g64 l 0) e (mid xb 0 32))).toArray), (41, .bool (RightB (g64 l 0) e)), (12, Ptr nb4 0), (13, .bool (RightB (g64 l 0) e)), (1, U64 e), (2, .slice ai ni ci), (3, .slice ab ni cb2), (4, Ptr nb1 0), (8, Ptr nb2 0), (10, Ptr nb3 0), (11, I64 0), (22, I64 0), (23, .slice ab ni cb2), (24, I64 ni), (25, .bool (decide ((0:Int) < ((ni:Int)))))]) (by kernel_rfl) ?_
   refine AC (AF (AF (AB (AA _ (AG rfl) rfl ?_))))
   refine AA (.bool (!(RightB (g64 l 0) e))) (FV rfl) rfl ?_
   refine AI (AC (B5 (!(RightB (g64 l 0) e)) rfl (fun hb4 => ?_) (fun hb4 => ?_)))
   ·
    have hb5 : (RightB (g64 l 0) e) = false := by simpa using hb4
    refine AF (AB (AA (.agg #[I64 0, .slice none 0 0, .slice none 0 0, U64 0]) (DG [] _ rfl (fun _ => by kernel_rfl)) rfl ?_))
    refine A0 (AX 1 nb2 4 ([I64 0, .slice none 0 0, .slice none 0 0, U64 0]) 36 ([I64 0, .slice none 0 0, .slice none 0 0, U64 0]) rfl rfl rfl B0 rfl (by simp [Value.oneCell']) (Nat.le_of_ble_eq_true rfl) (A6 (by simp []))) rfl ?_
    show JL _ _ _ _ _ [_, ⟨nb2, [I64 0, .slice none 0 0, .slice none 0 0, U64 0], 36, (0, 0)⟩, _, _]
    refine AA _ (AE rfl) rfl ?_
    refine AI (AC (BO (A3 (CZ (A3 (A3 (CZ (A3 ?_))))))))
    refine CA [false, true, false, false] ?_
    show JQ _ _ _ _ [_]
    refine BQ (.tuple #[.agg #[I64 0, .slice none 0 0, .slice none 0 0, U64 0], I64 1]) (res2 Tryd.results77 (DY rfl (BH EL B0 rfl (AR 0 rfl (AN _)))) (B2 rfl)) fun w1 hw1 => ?_
    exact ⟨_, [], rfl, .inl ⟨(fun h => by have h2 := h 0 (by omega); rw [hb5] at h2; cases h2), rfl, rfl⟩, hw1.sub (by simp) (by simp)⟩
   ·
    have hb6 : (RightB (g64 l 0) e) = true := by simpa using hb4
    refine BJ (AC (AB (AA (Ptr nb3 2) (AH 2 34 1 BD rfl CP rfl rfl) rfl ?_)))
    refine AA (.slice none 0 0) (AL rfl (AZ D4 (AR 2 rfl (AS (AS (Seg.head)))))) rfl ?_
    refine AA (.agg ([U64 (sE (g64 l 0) e)] ++ cu8 (sD k (g64 l 0) e (mid xb 0 32)) ++ cu8 (sT k (g64 l 0) e (mid xb 0 32))).toArray) (AL rfl (BH Tryd.isAgg164 C9 (by simp [(EK _ _ _ _), (EJ _ _ _ _)]) (AR 3 rfl (AN _)))) rfl ?_
    refine AV (BT 164 49 _ [(0, .agg ([U64 (sE (g64 l 0) e)] ++ cu8 (sD k (g64 l 0) e (mid xb 0 32)) ++ cu8 (sT k (g64 l 0) e (mid xb 0 32))).toArray)] ([U64 (sE (g64 l 0) e)] ++ cu8 (sD k (g64 l 0) e (mid xb 0 32)) ++ cu8 (sT k (g64 l 0) e (mid xb 0 32))) CM C9 EI rfl rfl rfl (fill_one (Z := [U64 0] ++ cu8 (zr8 32) ++ cu8 (zr8 16)) (by simp [(EK _ _ _ _), (EJ _ _ _ _)]) (by kernel_rfl) (by simp [zr8]))) rfl ?_
    rintro v1 L1 ⟨nb8, hnb8, rfl, rfl⟩
    show JL _ _ _ _ ((48, Slc nb8 0 1 1) :: _) [_, _, _, _, ⟨nb8, [U64 (sE (g64 l 0) e)] ++ cu8 (sD k (g64 l 0) e (mid xb 0 32)) ++ cu8 (sT k (g64 l 0) e (mid xb 0 32)), 164, (0, 0)⟩]
    refine AV (GK 34 164 56 (.agg ([U64 0] ++ cu8 (zr8 32) ++ cu8 (zr8 16)).toArray) [false, false, false, false, false] (.slice none 0 0) 0 ([] : List SealR) (SealR.mk (sE (g64 l 0) e) (sD k (g64 l 0) e (mid xb 0 32)) (sT k (g64 l 0) e (mid xb 0 32)) (EK _ _ _ _) (EJ _ _ _ _)) (some ⟨nb8, 0, none⟩) 1 1 CM (by kernel_rfl) (by kernel_rfl) rfl (.inl ⟨rfl, rfl, rfl, rfl⟩) rfl (SrcAt.mem (AR 4 rfl (AN _))) (by omega) (by unfold maxLen; omega) (by omega)) rfl ?_
    rintro v1 L1 ⟨nb9, sp2, cp2, hg2, rfl, rfl, ha5, ha6, ha7, ha8⟩
    show JL _ _ _ _ ((49, Slc nb9 0 1 cp2) :: _) [_, _, _, _, _, ⟨nb9, (([] : List SealR) ++ [(SealR.mk (sE (g64 l 0) e) (sD k (g64 l 0) e (mid xb 0 32)) (sT k (g64 l 0) e (mid xb 0 32)) (EK _ _ _ _) (EJ _ _ _ _))]).flatMap sealC ++ sp2, 164, (0, 0)⟩]
    refine AA (Ptr nb3 2) (AH 2 34 1 BD rfl CP rfl rfl) rfl ?_
    refine A0 (CN 2 nb3 2 1 ([I64 1, .slice ai ni ci, .slice none 0 0, U64 0]) 36 (Slc nb9 0 1 cp2) ([Slc nb9 0 1 cp2]) ([I64 1, .slice ai ni ci, Slc nb9 0 1 cp2, U64 0]) rfl rfl rfl rfl CP rfl (by simp [Value.oneCell']) (Nat.le_of_ble_eq_true rfl) (rfl)) rfl ?_
    show JL _ _ _ _ _ [_, _, ⟨nb3, [I64 1, .slice ai ni ci, Slc nb9 0 1 cp2, U64 0], 36, (0, 0)⟩, _, _, _]
    refine AI (A5 (AC (AB (AA _ (AG rfl) rfl ?_))))
    refine AA (I64 1) (AJ rfl rfl fun _ => BP _ _ (1:Int) (by omega) (by omega)) rfl ?_
    refine AA _ (AE rfl) rfl ?_
    refine AI (B6 (CA [true, true, true, false, false, true] ?_))
    show K _ _ [_, _, _, _] _
    refine DN (.inr (1, ([] : List SealR) ++ [(SealR.mk (sE (g64 l 0) e) (sD k (g64 l 0) e (mid xb 0 32)) (sT k (g64 l 0) e (mid xb 0 32)) (EK _ _ _ _) (EJ _ _ _ _))], nb9, sp2, cp2)) ⟨by omega, by omega, by rw [slS_succ, slS_zero]; rfl, (ha5).trans (by first | rfl | simp +arith), (ha6).trans (by first | rfl | simp +arith), by omega, by omega, all_step (i := 0) (fun j hj => by omega) hb6⟩ (by dsimp only; omega) (Sub.all rfl) rfl
 ·
  obtain ⟨hi1, hi2, hi3, hi4, hi5, hi6, hi7, hi8⟩ := hx
  show JC _ _ _ [(1, U64 e), (2, .slice ai ni ci), (3, .slice ab ni cb2), (4, Ptr nb1 0), (8, Ptr nb2 0), (10, Ptr nb3 0), (11, I64 i)] [⟨nb1, cu8 k, 131, (0, 0)⟩, ⟨nb2, [I64 0, .slice none 0 0, .slice none 0 0, U64 0], 36, (0, 0)⟩, ⟨nb3, [I64 1, .slice ai ni ci, Slc gb 0 i cp, U64 0], 36, (0, 0)⟩, ⟨gb, (rr).flatMap sealC ++ sp, 164, (0, 0)⟩]
  refine AF (AF (AB (AA _ (AG rfl) rfl ?_)))
  refine AA _ (AG rfl) rfl ?_
  refine AA (I64 ni) (DW C3 rfl) rfl ?_
  refine AA (.bool (decide (((i:Int)) < ((ni:Int))))) (AJ rfl rfl fun _ => B9 _ _) rfl ?_
  refine AI (AC (B5 (decide (((i:Int)) < ((ni:Int)))) rfl (fun hb7 => ?_) (fun hb7 => ?_)))
  ·
   have hp7 : ((i:Int)) < ((ni:Int)) := of_decide_eq_true hb7
   refine BJ (AC (AF (A9 (AF ?_))))
   obtain ⟨bz3, oz3, hz3, hm3⟩ := RdV.pos hv (by rw [FO, hl]; omega)
   obtain ⟨bz4, oz4, hz4, hm4⟩ := hrx.pos (by rw [hxl]; omega)
   have hl4 : (mid xb (32*i) 32).length = 32 := D8 (by rw [hxl]; omega)
   refine CT 56 4 [(0, .agg (cu8 k).toArray), (1, .slice ai ni ci), (2, I64 i), (3, Ptr bz3 (i + oz3)), (4, U64 (g64 l i)), (5, U64 e), (6, .slice ab ni cb2), (7, I64 i), (8, Ptr bz4 (32*i + oz4)), (9, .agg (cu8 (mid xb (32*i) 32)).toArray)] BL rfl (by decide +kernel) ?_
   have hl5 : (mid xb (32*i) 32).length = 32 := D8 (by rw [hxl]; omega)
   refine DP_two ⟨[], [0, 1, 2, 3, 4, 5, 6, 7, 8, 9], [], [0, 1, 2, 3, 4, 5, 6, 7, 8, 9], [10, 14]⟩ 10 14 _ _ rfl rfl (by decide +kernel) rfl ⟨⟨_, rfl, AD rfl (AL rfl (BH C7 CO (A8 hk) (AR 0 rfl (AN _))))⟩, AU rfl rfl rfl, AU rfl rfl rfl, ⟨_, rfl, AD rfl (CL 22 1 (i + oz3) BI BC rfl hz3 rfl (by omega) (by omega) (by omega))⟩, ⟨_, rfl, AD rfl (AL rfl (AZ BG (BW (hm3.mem (by simp)) (Seg.get (F9 (i := i) (by rw [hl]; omega))) (by omega))))⟩, AU rfl rfl rfl, AU rfl rfl rfl, AU rfl rfl rfl, ⟨_, rfl, AD rfl (CL 159 32 (32*i + oz4) C3 CF rfl hz4 rfl (by omega) (by omega) (by omega))⟩, ⟨_, rfl, AD rfl (AL rfl (BH D3 CF (A8 hl5) (BW (MemAt.base hm4.1 hm4.2.1 hm4.2.2) (FB (32*i) 32 (by rw [hxl]; omega)) (by omega))))⟩, trivial⟩ rfl rfl (AW rfl (AY 142 [.agg (cu8 k).toArray, U64 (g64 l i), U64 e, .agg (cu8 (mid xb (32*i) 32)).toArray] (.tuple #[.agg ([U64 (sE (g64 l i) e)] ++ cu8 (sD k (g64 l i) e (mid xb (32*i) 32)) ++ cu8 (sT k (g64 l i) e (mid xb (32*i) 32))).toArray, .bool (RightB (g64 l i) e)]) (A4 _ Tryd.call142 rfl) (fun w1 hw1 => rseal_w k (g64 l i) e (mid xb (32*i) 32) w1 hk hl4 (GLr.at hw1 hGr) (GLi.at hw1 hGi)))) (AW rfl (A7 _ ([U64 0] ++ cu8 (zr8 32) ++ cu8 (zr8 16)) EI (by kernel_rfl))) ?_ ?_
   ·
    rintro v1 L1 ⟨rfl, rfl⟩
    refine ⟨[(11, .tuple #[.agg ([U64 (sE (g64 l i) e)] ++ cu8 (sD k (g64 l i) e (mid xb (32*i) 32)) ++ cu8 (sT k (g64 l i) e (mid xb (32*i) 32))).toArray, .bool (RightB (g64 l i) e)]), (12, .agg ([U64 (sE (g64 l i) e)] ++ cu8 (sD k (g64 l i) e (mid xb (32*i) 32)) ++ cu8 (sT k (g64 l i) e (mid xb (32*i) 32))).toArray), (13, .bool (RightB (g64 l i) e))], ?_⟩
    show DP _ _ _ _ _ _ _ _ [_, _, _, _]
    refine CU ⟨[10], [0, 1, 2, 3, 4, 5, 6, 7, 8, 9, 11, 12, 13], [0, 1, 2, 3, 4, 5, 6, 7, 8, 9], [11, 12, 13], [14]⟩ 14 _ rfl rfl (by decide +kernel) rfl ⟨AU rfl rfl rfl, ⟨_, rfl, AD rfl (BS rfl rfl)⟩, ⟨_, rfl, AD rfl (BS rfl rfl)⟩, trivial⟩ rfl (AW rfl (A7 _ ([U64 0] ++ cu8 (zr8 32) ++ cu8 (zr8 16)) EI (by kernel_rfl))) ?_
    rintro v1 L1 ⟨nb11, hnb11, rfl, rfl⟩
    refine ⟨[], ?_⟩
    show DP _ _ _ _ _ _ _ _ [_, _, _, _, ⟨nb11, [U64 0] ++ cu8 (zr8 32) ++ cu8 (zr8 16), 164, (0, 0)⟩]
    refine CU ⟨[10, 14], [0, 1, 2, 3, 4, 5, 6, 7, 8, 9, 11, 12, 13], [0, 1, 2, 3, 4, 5, 6, 7, 8, 9], [11, 12, 13], [15]⟩ 15 _ rfl rfl (by decide +kernel) rfl ⟨AU rfl rfl rfl, ⟨_, rfl, AD rfl (BS rfl rfl)⟩, ⟨_, rfl, AD rfl (BS rfl rfl)⟩, trivial⟩ rfl (AW rfl (AX 4 nb11 49 ([U64 0] ++ cu8 (zr8 32) ++ cu8 (zr8 16)) 164 ([U64 (sE (g64 l i) e)] ++ cu8 (sD k (g64 l i) e (mid xb (32*i) 32)) ++ cu8 (sT k (g64 l i) e (mid xb (32*i) 32))) rfl rfl rfl C9 (by simp [(EK _ _ _ _), (EJ _ _ _ _)]) (EO (EO (by simp [Value.oneCell']) CD) CD) (by simp [(AP 32), (AP 16)]) (A6 (by simp [(AP 32), (AP 16), (EK _ _ _ _), (EJ _ _ _ _)])))) ?_
    rintro v1 L1 ⟨rfl, rfl⟩
    refine ⟨[(16, .bool (RightB (g64 l i) e))], ?_⟩
    show DP _ _ _ _ _ _ _ _ [_, _, _, _, ⟨nb11, [U64 (sE (g64 l i) e)] ++ cu8 (sD k (g64 l i) e (mid xb (32*i) 32)) ++ cu8 (sT k (g64 l i) e (mid xb (32*i) 32)), 164, (0, 0)⟩]
    refine DE ⟨[10, 14, 15], [0, 1, 2, 3, 4, 5, 6, 7, 8, 9, 11, 12, 13, 16], [0, 1, 2, 3, 4, 5, 6, 7, 8, 9, 11, 12], [13, 16], []⟩ rfl rfl (by decide +kernel) rfl ⟨⟨_, rfl, AD rfl (BS rfl rfl)⟩, ⟨_, rfl, AD rfl (AE rfl)⟩, trivial⟩ ?_
    refine CC (F' := [(29, .agg (cu8 k).toArray), (30, .slice ai ni ci), (31, I64 i), (32, Ptr bz3 (i + oz3)), (33, U64 (g64 l i)), (34, U64 e), (35, .slice ab ni cb2), (36, I64 i), (37, Ptr bz4 (32*i + oz4)), (38, .agg (cu8 (mid xb (32*i) 32)).toArray), (39, .tuple #[.agg ([U64 (sE (g64 l i) e)] ++ cu8 (sD k (g64 l i) e (mid xb (32*i) 32)) ++ cu8 (sT k (g64 l i) e (mid xb (32*i) 32))).toArray, .bool (RightB (g64 l i) e)]), (28, .tuple #[.agg ([U64 (sE (g64 l i) e)] ++ cu8 (sD k (g64 l i) e (mid xb (32*i) 32)) ++ cu8 (sT k (g64 l i) e (mid xb (32*i) 32))).toArray, .bool (RightB (g64 l i) e)]), (40, .agg ([U64 (sE (g64 l i) e)] ++ cu8 (sD k (g64 l i) e (mid xb (32*i) 32)) ++ cu8 (sT k (g64 l i) e (mid xb (32*i) 32))).toArray), (41, .bool (RightB (g64 l i) e)), (12, Ptr nb11 0), (13, .bool (RightB (g64 l i) e)), (1, U64 e), (2, .slice ai ni ci), (3, .slice ab ni cb2), (4, Ptr nb1 0), (8, Ptr nb2 0), (10, Ptr nb3 0), (11, I64 i), (22, I64 i), (23, .slice ab ni cb2), (24, I64 ni), (25, .bool (decide (((i:Int)) < ((ni:Int)))))]) (by kernel_rfl) ?_
    refine AC (AF (AF (AB (AA _ (AG rfl) rfl ?_))))
    refine AA (.bool (!(RightB (g64 l i) e))) (FV rfl) rfl ?_
    refine AI (AC (B5 (!(RightB (g64 l i) e)) rfl (fun hb8 => ?_) (fun hb8 => ?_)))
    ·
     have hb9 : (RightB (g64 l i) e) = false := by simpa using hb8
     refine AF (AB (AA (.agg #[I64 0, .slice none 0 0, .slice none 0 0, U64 0]) (DG [] _ rfl (fun _ => by kernel_rfl)) rfl ?_))
     refine A0 (AX 1 nb2 4 ([I64 0, .slice none 0 0, .slice none 0 0, U64 0]) 36 ([I64 0, .slice none 0 0, .slice none 0 0, U64 0]) rfl rfl rfl B0 rfl (by simp [Value.oneCell']) (Nat.le_of_ble_eq_true rfl) (A6 (by simp []))) rfl ?_
     show JL _ _ _ _ _ [_, ⟨nb2, [I64 0, .slice none 0 0, .slice none 0 0, U64 0], 36, (0, 0)⟩, _, _, _]
     refine AA _ (AE rfl) rfl ?_
     refine AI (AC (BO (A3 (CZ (A3 (A3 (CZ (A3 ?_))))))))
     refine CA [false, true, false, false, false] ?_
     show JQ _ _ _ _ [_]
     refine BQ (.tuple #[.agg #[I64 0, .slice none 0 0, .slice none 0 0, U64 0], I64 1]) (res2 Tryd.results77 (DY rfl (BH EL B0 rfl (AR 0 rfl (AN _)))) (B2 rfl)) fun w1 hw1 => ?_
     exact ⟨_, [], rfl, .inl ⟨(fun h => by have h2 := h i (by omega); rw [hb9] at h2; cases h2), rfl, rfl⟩, hw1.sub (by simp) (by simp)⟩
    ·
     have hb10 : (RightB (g64 l i) e) = true := by simpa using hb8
     refine BJ (AC (AB (AA (Ptr nb3 2) (AH 2 34 1 BD rfl CP rfl rfl) rfl ?_)))
     refine AA (Slc gb 0 i cp) (AL rfl (AZ D4 (AR 2 rfl (AS (AS (Seg.head)))))) rfl ?_
     refine AA (.agg ([U64 (sE (g64 l i) e)] ++ cu8 (sD k (g64 l i) e (mid xb (32*i) 32)) ++ cu8 (sT k (g64 l i) e (mid xb (32*i) 32))).toArray) (AL rfl (BH Tryd.isAgg164 C9 (by simp [(EK _ _ _ _), (EJ _ _ _ _)]) (AR 4 rfl (AN _)))) rfl ?_
     refine AV (BT 164 49 _ [(0, .agg ([U64 (sE (g64 l i) e)] ++ cu8 (sD k (g64 l i) e (mid xb (32*i) 32)) ++ cu8 (sT k (g64 l i) e (mid xb (32*i) 32))).toArray)] ([U64 (sE (g64 l i) e)] ++ cu8 (sD k (g64 l i) e (mid xb (32*i) 32)) ++ cu8 (sT k (g64 l i) e (mid xb (32*i) 32))) CM C9 EI rfl rfl rfl (fill_one (Z := [U64 0] ++ cu8 (zr8 32) ++ cu8 (zr8 16)) (by simp [(EK _ _ _ _), (EJ _ _ _ _)]) (by kernel_rfl) (by simp [zr8]))) rfl ?_
     rintro v1 L1 ⟨nb12, hnb12, rfl, rfl⟩
     show JL _ _ _ _ ((48, Slc nb12 0 1 1) :: _) [_, _, _, _, _, ⟨nb12, [U64 (sE (g64 l i) e)] ++ cu8 (sD k (g64 l i) e (mid xb (32*i) 32)) ++ cu8 (sT k (g64 l i) e (mid xb (32*i) 32)), 164, (0, 0)⟩]
     refine AV (GK 34 164 56 (.agg ([U64 0] ++ cu8 (zr8 32) ++ cu8 (zr8 16)).toArray) [false, false, false, true, false, false] (Slc gb 0 i cp) i rr (SealR.mk (sE (g64 l i) e) (sD k (g64 l i) e (mid xb (32*i) 32)) (sT k (g64 l i) e (mid xb (32*i) 32)) (EK _ _ _ _) (EJ _ _ _ _)) (some ⟨nb12, 0, none⟩) 1 (i + 1) CM (by kernel_rfl) (by kernel_rfl) rfl (.inr ⟨gb, sp, cp, rfl, rfl, (by have h : (rr).length = i := hi4; omega), (by first | exact hi5 | omega), (by omega), (by omega)⟩) rfl (SrcAt.mem (AR 5 rfl (AN _))) (by omega) (by unfold maxLen; omega) (by omega)) rfl ?_
     rintro v1 L1 ⟨nb13, sp3, cp3, hg3, rfl, rfl, ha9, ha10, ha11, ha12⟩
     show JL _ _ _ _ ((49, Slc nb13 0 (i + 1) cp3) :: _) [_, _, _, _, _, ⟨nb13, (rr ++ [(SealR.mk (sE (g64 l i) e) (sD k (g64 l i) e (mid xb (32*i) 32)) (sT k (g64 l i) e (mid xb (32*i) 32)) (EK _ _ _ _) (EJ _ _ _ _))]).flatMap sealC ++ sp3, 164, (0, 0)⟩]
     refine AA (Ptr nb3 2) (AH 2 34 1 BD rfl CP rfl rfl) rfl ?_
     refine A0 (CN 2 nb3 2 1 ([I64 1, .slice ai ni ci, Slc gb 0 i cp, U64 0]) 36 (Slc nb13 0 (i + 1) cp3) ([Slc nb13 0 (i + 1) cp3]) ([I64 1, .slice ai ni ci, Slc nb13 0 (i + 1) cp3, U64 0]) rfl rfl rfl rfl CP rfl (by simp [Value.oneCell']) (Nat.le_of_ble_eq_true rfl) (rfl)) rfl ?_
     show JL _ _ _ _ _ [_, _, ⟨nb3, [I64 1, .slice ai ni ci, Slc nb13 0 (i + 1) cp3, U64 0], 36, (0, 0)⟩, _, _, _]
     refine AI (A5 (AC (AB (AA _ (AG rfl) rfl ?_))))
     refine AA (I64 ((i:Int) + 1)) (AJ rfl rfl fun _ => BP _ _ ((i:Int) + 1) (by omega) (by omega)) rfl ?_
     refine AA _ (AE rfl) rfl ?_
     refine AI (B6 (CA [true, true, true, false, false, true] ?_))
     show K _ _ [_, _, _, _] _
     refine DN (.inr (i + 1, rr ++ [(SealR.mk (sE (g64 l i) e) (sD k (g64 l i) e (mid xb (32*i) 32)) (sT k (g64 l i) e (mid xb (32*i) 32)) (EK _ _ _ _) (EJ _ _ _ _))], nb13, sp3, cp3)) ⟨by omega, by omega, by rw [slS_succ, ← hi3]; rfl, (ha9).trans (by first | rfl | simp +arith), (ha10).trans (by first | rfl | simp +arith), by omega, by omega, all_step hi8 hb10⟩ (by dsimp only; omega) (Sub.all rfl) rfl
   ·
    rintro v1 L1 ⟨nb10, hnb10, rfl, rfl⟩
    refine ⟨[], ?_⟩
    show DP _ _ _ _ _ _ _ _ [_, _, _, _, ⟨nb10, [U64 0] ++ cu8 (zr8 32) ++ cu8 (zr8 16), 164, (0, 0)⟩]
    have hl6 : (mid xb (32*i) 32).length = 32 := D8 (by rw [hxl]; omega)
    refine CU ⟨[14], [0, 1, 2, 3, 4, 5, 6, 7, 8, 9], [], [0, 1, 2, 3, 4, 5, 6, 7, 8, 9], [10]⟩ 10 _ rfl rfl (by decide +kernel) rfl ⟨⟨_, rfl, AD rfl (AL rfl (BH C7 CO (A8 hk) (AR 0 rfl (AN _))))⟩, AU rfl rfl rfl, AU rfl rfl rfl, ⟨_, rfl, AD rfl (CL 22 1 (i + oz3) BI BC rfl hz3 rfl (by omega) (by omega) (by omega))⟩, ⟨_, rfl, AD rfl (AL rfl (AZ BG (BW (hm3.mem (by simp)) (Seg.get (F9 (i := i) (by rw [hl]; omega))) (by omega))))⟩, AU rfl rfl rfl, AU rfl rfl rfl, AU rfl rfl rfl, ⟨_, rfl, AD rfl (CL 159 32 (32*i + oz4) C3 CF rfl hz4 rfl (by omega) (by omega) (by omega))⟩, ⟨_, rfl, AD rfl (AL rfl (BH D3 CF (A8 hl6) (BW (MemAt.base hm4.1 hm4.2.1 hm4.2.2) (FB (32*i) 32 (by rw [hxl]; omega)) (by omega))))⟩, trivial⟩ rfl (AW rfl (AY 142 [.agg (cu8 k).toArray, U64 (g64 l i), U64 e, .agg (cu8 (mid xb (32*i) 32)).toArray] (.tuple #[.agg ([U64 (sE (g64 l i) e)] ++ cu8 (sD k (g64 l i) e (mid xb (32*i) 32)) ++ cu8 (sT k (g64 l i) e (mid xb (32*i) 32))).toArray, .bool (RightB (g64 l i) e)]) (A4 _ Tryd.call142 rfl) (fun w1 hw1 => rseal_w k (g64 l i) e (mid xb (32*i) 32) w1 hk hl4 (GLr.at hw1 hGr) (GLi.at hw1 hGi)))) ?_
    rintro v1 L1 ⟨rfl, rfl⟩
    refine ⟨[(11, .tuple #[.agg ([U64 (sE (g64 l i) e)] ++ cu8 (sD k (g64 l i) e (mid xb (32*i) 32)) ++ cu8 (sT k (g64 l i) e (mid xb (32*i) 32))).toArray, .bool (RightB (g64 l i) e)]), (12, .agg ([U64 (sE (g64 l i) e)] ++ cu8 (sD k (g64 l i) e (mid xb (32*i) 32)) ++ cu8 (sT k (g64 l i) e (mid xb (32*i) 32))).toArray), (13, .bool (RightB (g64 l i) e))], ?_⟩
    show DP _ _ _ _ _ _ _ _ [_, _, _, _, _]
    refine CU ⟨[14, 10], [0, 1, 2, 3, 4, 5, 6, 7, 8, 9, 11, 12, 13], [0, 1, 2, 3, 4, 5, 6, 7, 8, 9], [11, 12, 13], [15]⟩ 15 _ rfl rfl (by decide +kernel) rfl ⟨AU rfl rfl rfl, ⟨_, rfl, AD rfl (BS rfl rfl)⟩, ⟨_, rfl, AD rfl (BS rfl rfl)⟩, trivial⟩ rfl (AW rfl (AX 4 nb10 49 ([U64 0] ++ cu8 (zr8 32) ++ cu8 (zr8 16)) 164 ([U64 (sE (g64 l i) e)] ++ cu8 (sD k (g64 l i) e (mid xb (32*i) 32)) ++ cu8 (sT k (g64 l i) e (mid xb (32*i) 32))) rfl rfl rfl C9 (by simp [(EK _ _ _ _), (EJ _ _ _ _)]) (EO (EO (by simp [Value.oneCell']) CD) CD) (by simp [(AP 32), (AP 16)]) (A6 (by simp [(AP 32), (AP 16), (EK _ _ _ _), (EJ _ _ _ _)])))) ?_
    rintro v1 L1 ⟨rfl, rfl⟩
    refine ⟨[(16, .bool (RightB (g64 l i) e))], ?_⟩
    show DP _ _ _ _ _ _ _ _ [_, _, _, _, ⟨nb10, [U64 (sE (g64 l i) e)] ++ cu8 (sD k (g64 l i) e (mid xb (32*i) 32)) ++ cu8 (sT k (g64 l i) e (mid xb (32*i) 32)), 164, (0, 0)⟩]
    refine DE ⟨[14, 10, 15], [0, 1, 2, 3, 4, 5, 6, 7, 8, 9, 11, 12, 13, 16], [0, 1, 2, 3, 4, 5, 6, 7, 8, 9, 11, 12], [13, 16], []⟩ rfl rfl (by decide +kernel) rfl ⟨⟨_, rfl, AD rfl (BS rfl rfl)⟩, ⟨_, rfl, AD rfl (AE rfl)⟩, trivial⟩ ?_
    refine CC (F' := [(29, .agg (cu8 k).toArray), (30, .slice ai ni ci), (31, I64 i), (32, Ptr bz3 (i + oz3)), (33, U64 (g64 l i)), (34, U64 e), (35, .slice ab ni cb2), (36, I64 i), (37, Ptr bz4 (32*i + oz4)), (38, .agg (cu8 (mid xb (32*i) 32)).toArray), (39, .tuple #[.agg ([U64 (sE (g64 l i) e)] ++ cu8 (sD k (g64 l i) e (mid xb (32*i) 32)) ++ cu8 (sT k (g64 l i) e (mid xb (32*i) 32))).toArray, .bool (RightB (g64 l i) e)]), (28, .tuple #[.agg ([U64 (sE (g64 l i) e)] ++ cu8 (sD k (g64 l i) e (mid xb (32*i) 32)) ++ cu8 (sT k (g64 l i) e (mid xb (32*i) 32))).toArray, .bool (RightB (g64 l i) e)]), (40, .agg ([U64 (sE (g64 l i) e)] ++ cu8 (sD k (g64 l i) e (mid xb (32*i) 32)) ++ cu8 (sT k (g64 l i) e (mid xb (32*i) 32))).toArray), (41, .bool (RightB (g64 l i) e)), (12, Ptr nb10 0), (13, .bool (RightB (g64 l i) e)), (1, U64 e), (2, .slice ai ni ci), (3, .slice ab ni cb2), (4, Ptr nb1 0), (8, Ptr nb2 0), (10, Ptr nb3 0), (11, I64 i), (22, I64 i), (23, .slice ab ni cb2), (24, I64 ni), (25, .bool (decide (((i:Int)) < ((ni:Int)))))]) (by kernel_rfl) ?_
    refine AC (AF (AF (AB (AA _ (AG rfl) rfl ?_))))
    refine AA (.bool (!(RightB (g64 l i) e))) (FV rfl) rfl ?_
    refine AI (AC (B5 (!(RightB (g64 l i) e)) rfl (fun hb11 => ?_) (fun hb11 => ?_)))
    ·
     have hb12 : (RightB (g64 l i) e) = false := by simpa using hb11
     refine AF (AB (AA (.agg #[I64 0, .slice none 0 0, .slice none 0 0, U64 0]) (DG [] _ rfl (fun _ => by kernel_rfl)) rfl ?_))
     refine A0 (AX 1 nb2 4 ([I64 0, .slice none 0 0, .slice none 0 0, U64 0]) 36 ([I64 0, .slice none 0 0, .slice none 0 0, U64 0]) rfl rfl rfl B0 rfl (by simp [Value.oneCell']) (Nat.le_of_ble_eq_true rfl) (A6 (by simp []))) rfl ?_
     show JL _ _ _ _ _ [_, ⟨nb2, [I64 0, .slice none 0 0, .slice none 0 0, U64 0], 36, (0, 0)⟩, _, _, _]
     refine AA _ (AE rfl) rfl ?_
     refine AI (AC (BO (A3 (CZ (A3 (A3 (CZ (A3 ?_))))))))
     refine CA [false, true, false, false, false] ?_
     show JQ _ _ _ _ [_]
     refine BQ (.tuple #[.agg #[I64 0, .slice none 0 0, .slice none 0 0, U64 0], I64 1]) (res2 Tryd.results77 (DY rfl (BH EL B0 rfl (AR 0 rfl (AN _)))) (B2 rfl)) fun w1 hw1 => ?_
     exact ⟨_, [], rfl, .inl ⟨(fun h => by have h2 := h i (by omega); rw [hb12] at h2; cases h2), rfl, rfl⟩, hw1.sub (by simp) (by simp)⟩
    ·
     have hb13 : (RightB (g64 l i) e) = true := by simpa using hb11
     refine BJ (AC (AB (AA (Ptr nb3 2) (AH 2 34 1 BD rfl CP rfl rfl) rfl ?_)))
     refine AA (Slc gb 0 i cp) (AL rfl (AZ D4 (AR 2 rfl (AS (AS (Seg.head)))))) rfl ?_
     refine AA (.agg ([U64 (sE (g64 l i) e)] ++ cu8 (sD k (g64 l i) e (mid xb (32*i) 32)) ++ cu8 (sT k (g64 l i) e (mid xb (32*i) 32))).toArray) (AL rfl (BH Tryd.isAgg164 C9 (by simp [(EK _ _ _ _), (EJ _ _ _ _)]) (AR 4 rfl (AN _)))) rfl ?_
     refine AV (BT 164 49 _ [(0, .agg ([U64 (sE (g64 l i) e)] ++ cu8 (sD k (g64 l i) e (mid xb (32*i) 32)) ++ cu8 (sT k (g64 l i) e (mid xb (32*i) 32))).toArray)] ([U64 (sE (g64 l i) e)] ++ cu8 (sD k (g64 l i) e (mid xb (32*i) 32)) ++ cu8 (sT k (g64 l i) e (mid xb (32*i) 32))) CM C9 EI rfl rfl rfl (fill_one (Z := [U64 0] ++ cu8 (zr8 32) ++ cu8 (zr8 16)) (by simp [(EK _ _ _ _), (EJ _ _ _ _)]) (by kernel_rfl) (by simp [zr8]))) rfl ?_
     rintro v1 L1 ⟨nb14, hnb14, rfl, rfl⟩
     show JL _ _ _ _ ((48, Slc nb14 0 1 1) :: _) [_, _, _, _, _, ⟨nb14, [U64 (sE (g64 l i) e)] ++ cu8 (sD k (g64 l i) e (mid xb (32*i) 32)) ++ cu8 (sT k (g64 l i) e (mid xb (32*i) 32)), 164, (0, 0)⟩]
     refine AV (GK 34 164 56 (.agg ([U64 0] ++ cu8 (zr8 32) ++ cu8 (zr8 16)).toArray) [false, false, false, true, false, false] (Slc gb 0 i cp) i rr (SealR.mk (sE (g64 l i) e) (sD k (g64 l i) e (mid xb (32*i) 32)) (sT k (g64 l i) e (mid xb (32*i) 32)) (EK _ _ _ _) (EJ _ _ _ _)) (some ⟨nb14, 0, none⟩) 1 (i + 1) CM (by kernel_rfl) (by kernel_rfl) rfl (.inr ⟨gb, sp, cp, rfl, rfl, (by have h : (rr).length = i := hi4; omega), (by first | exact hi5 | omega), (by omega), (by omega)⟩) rfl (SrcAt.mem (AR 5 rfl (AN _))) (by omega) (by unfold maxLen; omega) (by omega)) rfl ?_
     rintro v1 L1 ⟨nb15, sp4, cp4, hg4, rfl, rfl, ha13, ha14, ha15, ha16⟩
     show JL _ _ _ _ ((49, Slc nb15 0 (i + 1) cp4) :: _) [_, _, _, _, _, ⟨nb15, (rr ++ [(SealR.mk (sE (g64 l i) e) (sD k (g64 l i) e (mid xb (32*i) 32)) (sT k (g64 l i) e (mid xb (32*i) 32)) (EK _ _ _ _) (EJ _ _ _ _))]).flatMap sealC ++ sp4, 164, (0, 0)⟩]
     refine AA (Ptr nb3 2) (AH 2 34 1 BD rfl CP rfl rfl) rfl ?_
     refine A0 (CN 2 nb3 2 1 ([I64 1, .slice ai ni ci, Slc gb 0 i cp, U64 0]) 36 (Slc nb15 0 (i + 1) cp4) ([Slc nb15 0 (i + 1) cp4]) ([I64 1, .slice ai ni ci, Slc nb15 0 (i + 1) cp4, U64 0]) rfl rfl rfl rfl CP rfl (by simp [Value.oneCell']) (Nat.le_of_ble_eq_true rfl) (rfl)) rfl ?_
     show JL _ _ _ _ _ [_, _, ⟨nb3, [I64 1, .slice ai ni ci, Slc nb15 0 (i + 1) cp4, U64 0], 36, (0, 0)⟩, _, _, _]
     refine AI (A5 (AC (AB (AA _ (AG rfl) rfl ?_))))
     refine AA (I64 ((i:Int) + 1)) (AJ rfl rfl fun _ => BP _ _ ((i:Int) + 1) (by omega) (by omega)) rfl ?_
     refine AA _ (AE rfl) rfl ?_
     refine AI (B6 (CA [true, true, true, false, false, true] ?_))
     show K _ _ [_, _, _, _] _
     refine DN (.inr (i + 1, rr ++ [(SealR.mk (sE (g64 l i) e) (sD k (g64 l i) e (mid xb (32*i) 32)) (sT k (g64 l i) e (mid xb (32*i) 32)) (EK _ _ _ _) (EJ _ _ _ _))], nb15, sp4, cp4)) ⟨by omega, by omega, by rw [slS_succ, ← hi3]; rfl, (ha13).trans (by first | rfl | simp +arith), (ha14).trans (by first | rfl | simp +arith), by omega, by omega, all_step hi8 hb13⟩ (by dsimp only; omega) (Sub.all rfl) rfl
  ·
   have hp7 : ¬ (((i:Int)) < ((ni:Int))) := of_decide_eq_false hb7
   refine DA (AQ (AQ (BV (AC (AF (AF ?_))))))
   have ei : ni = i := by omega
   subst ei
   subst hi3
   show JC _ _ _ _ [⟨nb1, cu8 k, 131, (0, 0)⟩, ⟨nb2, [I64 0, .slice none 0 0, .slice none 0 0, U64 0], 36, (0, 0)⟩, ⟨nb3, [I64 1, .slice ai ni ci, Slc gb 0 ni cp, U64 0], 36, (0, 0)⟩, ⟨gb, (slS k e l xb ni).flatMap sealC ++ sp, 164, (0, 0)⟩]
   refine AB (AA (.agg #[I64 1, .slice ai ni ci, Slc gb 0 ni cp, U64 0]) (AL rfl (BH EL B0 rfl (AR 2 rfl (AN _)))) rfl ?_)
   refine A0 (AY 67 [.agg #[I64 1, .slice ai ni ci, Slc gb 0 ni cp, U64 0]] (.bool (RightO (1:Int) l (slS k e l xb ni) (0:UInt64))) (A4 _ Tryd.call67 rfl) (fun w1 hw1 => rright13_c (1:Int) ai ni ci l (some ⟨gb, 0, none⟩) ni cp (slS k e l xb ni) (0:UInt64) w1 hl (by omega) (by omega) (by omega) (FT hw1 rfl hv) hi4 (by omega) (by omega) (by omega) (RdV.of hw1 (AR 3 rfl (BE (AN _)))))) rfl ?_
   show JL _ _ _ _ ((52, .bool (RightO (1:Int) l (slS k e l xb ni) (0:UInt64))) :: _) [_, _, _, _]
   refine AA (.bool (!(RightO (1:Int) l (slS k e l xb ni) (0:UInt64)))) (FV rfl) rfl ?_
   refine AI (AC (B5 (!(RightO (1:Int) l (slS k e l xb ni) (0:UInt64))) rfl (fun hb14 => ?_) (fun hb14 => ?_)))
   ·
    have hb15 : (RightO (1:Int) l (slS k e l xb ni) (0:UInt64)) = false := by simpa using hb14
    refine AF (AB (AA (.agg #[I64 0, .slice none 0 0, .slice none 0 0, U64 0]) (DG [] _ rfl (fun _ => by kernel_rfl)) rfl ?_))
    refine A0 (AX 1 nb2 4 ([I64 0, .slice none 0 0, .slice none 0 0, U64 0]) 36 ([I64 0, .slice none 0 0, .slice none 0 0, U64 0]) rfl rfl rfl B0 rfl (by simp [Value.oneCell']) (Nat.le_of_ble_eq_true rfl) (A6 (by simp []))) rfl ?_
    show JL _ _ _ _ _ [_, ⟨nb2, [I64 0, .slice none 0 0, .slice none 0 0, U64 0], 36, (0, 0)⟩, _, _]
    refine AA _ (AE rfl) rfl ?_
    refine AI (AC (BO (A3 (CA [false, true, false, false] ?_))))
    show JQ _ _ _ _ [_]
    refine BQ (.tuple #[.agg #[I64 0, .slice none 0 0, .slice none 0 0, U64 0], I64 2]) (res2 Tryd.results77 (DY rfl (BH EL B0 rfl (AR 0 rfl (AN _)))) (B2 rfl)) fun w1 hw1 => ?_
    exact ⟨_, [], rfl, .inr (.inl ⟨hi8, hb15, rfl, rfl⟩), hw1.sub (by simp) (by simp)⟩
   ·
    have hb16 : (RightO (1:Int) l (slS k e l xb ni) (0:UInt64)) = true := by simpa using hb14
    refine BJ (AC (AF (AB (AA (.agg #[I64 1, .slice ai ni ci, Slc gb 0 ni cp, U64 0]) (AL rfl (BH EL B0 rfl (AR 2 rfl (AN _)))) rfl ?_))))
    refine A0 (AX 1 nb2 4 ([I64 0, .slice none 0 0, .slice none 0 0, U64 0]) 36 ([I64 1, .slice ai ni ci, Slc gb 0 ni cp, U64 0]) rfl rfl rfl B0 rfl (by simp [Value.oneCell']) (Nat.le_of_ble_eq_true rfl) (A6 (by simp []))) rfl ?_
    show JL _ _ _ _ _ [_, ⟨nb2, [I64 1, .slice ai ni ci, Slc gb 0 ni cp, U64 0], 36, (0, 0)⟩, _, _]
    refine AA _ (AE rfl) rfl ?_
    refine AI (AC (BO (CA [false, true, false, true] ?_)))
    show JQ _ _ _ _ [_, _]
    refine BQ (.tuple #[.agg #[I64 1, .slice ai ni ci, Slc gb 0 ni cp, U64 0], I64 0]) (res2 Tryd.results77 (DY rfl (BH EL B0 rfl (AR 0 rfl (AN _)))) (B2 rfl)) fun w1 hw1 => ?_
    exact ⟨_, _, rfl, .inr (.inr ⟨hi8, hb16, gb, sp, cp, rfl, rfl, hi5, hi6, hi7⟩), hw1.sub (by simp) (by simp)⟩
theorem tsealB_c (sb cb : Nat) (k : List UInt8) (e : UInt64) (ai : Option Addr) (ni ci : Nat) (l : List UInt64) (ab : Option Addr) (cb2 : Nat) (xb : List UInt8) (w : World) (hk : k.length = 16) (hS : w.heap[sb]? = some (.cells (cu8 (encK k) ++ cu8 (tgK k) ++ cu8 (macL k ([101, 110, 116, 114, 117, 115, 116, 32, 116, 105, 99, 107, 101, 116] : List UInt8)) ++ cu8 (macL k ([101, 110, 116, 114, 117, 115, 116, 32, 108, 105, 110, 107] : List UInt8)) ++ [Ptr cb 0]).toArray 226 (0, 0))) (hC : w.heap[cb]? = some (.cells (cu8 (rkL (encK k)) ++ cu8 thereL ++ cu8 backL).toArray 255 (0, 0))) (hl : l.length = ni) (hnm : ni ≤ 2000000) (hnc : ni ≤ ci) (hcm : ci ≤ maxLen) (hv : RdV w ai (cu64 l)) (hxl : xb.length = 32*ni) (hrx : RdB w [] ab xb) (hp1 : 0 < ni) (hn3 : ni ≤ 20) (hbad : ¬ ∀ j, j < ni → RightB (g64 l j) e = true) (hG : GLs w) : Calls Tryd.prog 75 #[Ptr sb 0, U64 e, .slice ai ni ci, .slice ab ni cb2] w (Post w [] (fun v L => v = .tuple #[.agg #[I64 0, .slice none 0 0, .slice none 0 0, U64 0], .iface 50 (I64 1)] ∧ L = [])) := by
  refine (tsealW_c sb cb k e ai ni ci l ab cb2 xb w hk hS hC hl hnm hnc hcm hv hxl hrx hp1 hn3 hG).mono ?_
  rintro E W ⟨v, L, e1, h, hw⟩
  rcases h with h | h | h
  · exact ⟨v, L, e1, h.2, hw⟩
  · exact absurd h.1 hbad
  · exact absurd h.1 hbad
theorem tsealC_c (sb cb : Nat) (k : List UInt8) (e : UInt64) (ai : Option Addr) (ni ci : Nat) (l : List UInt64) (ab : Option Addr) (cb2 : Nat) (xb : List UInt8) (w : World) (hk : k.length = 16) (hS : w.heap[sb]? = some (.cells (cu8 (encK k) ++ cu8 (tgK k) ++ cu8 (macL k ([101, 110, 116, 114, 117, 115, 116, 32, 116, 105, 99, 107, 101, 116] : List UInt8)) ++ cu8 (macL k ([101, 110, 116, 114, 117, 115, 116, 32, 108, 105, 110, 107] : List UInt8)) ++ [Ptr cb 0]).toArray 226 (0, 0))) (hC : w.heap[cb]? = some (.cells (cu8 (rkL (encK k)) ++ cu8 thereL ++ cu8 backL).toArray 255 (0, 0))) (hl : l.length = ni) (hnm : ni ≤ 2000000) (hnc : ni ≤ ci) (hcm : ci ≤ maxLen) (hv : RdV w ai (cu64 l)) (hxl : xb.length = 32*ni) (hrx : RdB w [] ab xb) (hp1 : 0 < ni) (hn3 : ni ≤ 20) (hall : ∀ j, j < ni → RightB (g64 l j) e = true) (hR : RightO 1 l (slS k e l xb ni) 0 = false) (hG : GLs w) : Calls Tryd.prog 75 #[Ptr sb 0, U64 e, .slice ai ni ci, .slice ab ni cb2] w (Post w [] (fun v L => v = .tuple #[.agg #[I64 0, .slice none 0 0, .slice none 0 0, U64 0], .iface 50 (I64 2)] ∧ L = [])) := by
  refine (tsealW_c sb cb k e ai ni ci l ab cb2 xb w hk hS hC hl hnm hnc hcm hv hxl hrx hp1 hn3 hG).mono ?_
  rintro E W ⟨v, L, e1, h, hw⟩
  rcases h with h | h | h
  · exact absurd hall h.1
  · exact ⟨v, L, e1, h.2.2, hw⟩
  · rw [h.2.1] at hR; cases hR
theorem tsealD_c (sb cb : Nat) (k : List UInt8) (e : UInt64) (ai : Option Addr) (ni ci : Nat) (l : List UInt64) (ab : Option Addr) (cb2 : Nat) (xb : List UInt8) (w : World) (hk : k.length = 16) (hS : w.heap[sb]? = some (.cells (cu8 (encK k) ++ cu8 (tgK k) ++ cu8 (macL k ([101, 110, 116, 114, 117, 115, 116, 32, 116, 105, 99, 107, 101, 116] : List UInt8)) ++ cu8 (macL k ([101, 110, 116, 114, 117, 115, 116, 32, 108, 105, 110, 107] : List UInt8)) ++ [Ptr cb 0]).toArray 226 (0, 0))) (hC : w.heap[cb]? = some (.cells (cu8 (rkL (encK k)) ++ cu8 thereL ++ cu8 backL).toArray 255 (0, 0))) (hl : l.length = ni) (hnm : ni ≤ 2000000) (hnc : ni ≤ ci) (hcm : ci ≤ maxLen) (hv : RdV w ai (cu64 l)) (hxl : xb.length = 32*ni) (hrx : RdB w [] ab xb) (hp1 : 0 < ni) (hn3 : ni ≤ 20) (hall : ∀ j, j < ni → RightB (g64 l j) e = true) (hR : RightO 1 l (slS k e l xb ni) 0 = true) (hG : GLs w) : Calls Tryd.prog 75 #[Ptr sb 0, U64 e, .slice ai ni ci, .slice ab ni cb2] w (Post w [] (fun v L => ∃ g1 sp1 cp1 g2 sp2 cp2, v = .tuple #[.agg #[I64 1, Slc g1 0 ni cp1, Slc g2 0 ni cp2, U64 0], .nilIface] ∧ L = [⟨g1, cu64 l ++ sp1, 22, (0, 0)⟩, ⟨g2, (slS k e l xb ni).flatMap sealC ++ sp2, 161, (0, 0)⟩] ∧ sp1.length = cp1 - ni ∧ ni ≤ cp1 ∧ cp1 ≤ maxLen ∧ sp2.length = cp2 * 49 - ni * 49 ∧ ni ≤ cp2 ∧ cp2 ≤ maxLen)) := by
  refine (tsealW_c sb cb k e ai ni ci l ab cb2 xb w hk hS hC hl hnm hnc hcm hv hxl hrx hp1 hn3 hG).mono ?_
  rintro E W ⟨v, L, e1, h, hw⟩
  rcases h with h | h | h
  · exact absurd hall h.1
  · rw [h.2.1] at hR; cases hR
  · exact ⟨v, L, e1, h.2.2, hw⟩
theorem rtsealB_c (k : List UInt8) (e : UInt64) (ai : Option Addr) (ni ci : Nat) (l : List UInt64) (ab : Option Addr) (cb2 : Nat) (xb : List UInt8) (w : World) (hk : k.length = 16) (hl : l.length = ni) (hnm : ni ≤ 2000000) (hnc : ni ≤ ci) (hcm : ci ≤ maxLen) (hv : RdV w ai (cu64 l)) (hxl : xb.length = 32*ni) (hrx : RdB w [] ab xb) (hp1 : 0 < ni) (hn3 : ni ≤ 20) (hbad : ¬ ∀ j, j < ni → RightB (g64 l j) e = true) (hGr : GLr w) (hGi : GLi w) : Calls Tryd.prog 77 #[.agg (cu8 k).toArray, U64 e, .slice ai ni ci, .slice ab ni cb2] w (Post w [] (fun v L => v = .tuple #[.agg #[I64 0, .slice none 0 0, .slice none 0 0, U64 0], I64 1] ∧ L = [])) := by
  refine (rtsealW_c k e ai ni ci l ab cb2 xb w hk hl hnm hnc hcm hv hxl hrx hp1 hn3 hGr hGi).mono ?_
  rintro E W ⟨v, L, e1, h, hw⟩
  rcases h with h | h | h
  · exact ⟨v, L, e1, h.2, hw⟩
  · exact absurd h.1 hbad
  · exact absurd h.1 hbad
theorem rtsealC_c (k : List UInt8) (e : UInt64) (ai : Option Addr) (ni ci : Nat) (l : List UInt64) (ab : Option Addr) (cb2 : Nat) (xb : List UInt8) (w : World) (hk : k.length = 16) (hl : l.length = ni) (hnm : ni ≤ 2000000) (hnc : ni ≤ ci) (hcm : ci ≤ maxLen) (hv : RdV w ai (cu64 l)) (hxl : xb.length = 32*ni) (hrx : RdB w [] ab xb) (hp1 : 0 < ni) (hn3 : ni ≤ 20) (hall : ∀ j, j < ni → RightB (g64 l j) e = true) (hR : RightO 1 l (slS k e l xb ni) 0 = false) (hGr : GLr w) (hGi : GLi w) : Calls Tryd.prog 77 #[.agg (cu8 k).toArray, U64 e, .slice ai ni ci, .slice ab ni cb2] w (Post w [] (fun v L => v = .tuple #[.agg #[I64 0, .slice none 0 0, .slice none 0 0, U64 0], I64 2] ∧ L = [])) := by
  refine (rtsealW_c k e ai ni ci l ab cb2 xb w hk hl hnm hnc hcm hv hxl hrx hp1 hn3 hGr hGi).mono ?_
  rintro E W ⟨v, L, e1, h, hw⟩
  rcases h with h | h | h
  · exact absurd hall h.1
  · exact ⟨v, L, e1, h.2.2, hw⟩
  · rw [h.2.1] at hR; cases hR
theorem rtsealD_c (k : List UInt8) (e : UInt64) (ai : Option Addr) (ni ci : Nat) (l : List UInt64) (ab : Option Addr) (cb2 : Nat) (xb : List UInt8) (w : World) (hk : k.length = 16) (hl : l.length = ni) (hnm : ni ≤ 2000000) (hnc : ni ≤ ci) (hcm : ci ≤ maxLen) (hv : RdV w ai (cu64 l)) (hxl : xb.length = 32*ni) (hrx : RdB w [] ab xb) (hp1 : 0 < ni) (hn3 : ni ≤ 20) (hall : ∀ j, j < ni → RightB (g64 l j) e = true) (hR : RightO 1 l (slS k e l xb ni) 0 = true) (hGr : GLr w) (hGi : GLi w) : Calls Tryd.prog 77 #[.agg (cu8 k).toArray, U64 e, .slice ai ni ci, .slice ab ni cb2] w (Post w [] (fun v L => ∃ g sp cap, v = .tuple #[.agg #[I64 1, .slice ai ni ci, Slc g 0 ni cap, U64 0], I64 0] ∧ L = [⟨g, (slS k e l xb ni).flatMap sealC ++ sp, 164, (0, 0)⟩] ∧ sp.length = cap * 49 - ni * 49 ∧ ni ≤ cap ∧ cap ≤ maxLen)) := by
  refine (rtsealW_c k e ai ni ci l ab cb2 xb w hk hl hnm hnc hcm hv hxl hrx hp1 hn3 hGr hGi).mono ?_
  rintro E W ⟨v, L, e1, h, hw⟩
  rcases h with h | h | h
  · exact absurd hall h.1
  · rw [h.2.1] at hR; cases hR
  · exact ⟨v, L, e1, h.2.2, hw⟩
theorem tqL_c (k : List UInt8) (e : UInt64) (ai : Option Addr) (ni ci : Nat) (l : List UInt64) (ab : Option Addr) (nb cb2 : Nat) (xb : List UInt8)  (w : World) (hk : k.length = 16) (hG : GLs w) (hGr : GLr w) (hGi : GLi w) (hlg : 20 < ni ∨ 20 < nb)  : Calls Tryd.prog 16 #[.agg (cu8 k).toArray, U64 e, .agg #[.slice ai ni ci, .slice ab nb cb2]] w (Post w [] (fun v L => v = .bool true ∧ L = [])) := by
 have hmx : maxLen = 9223372036854775807 := rfl
 refine enter (P := Tryd.prog) (f := 16) (fn := Tryd.f16) w [] 56 [] [.agg (cu8 k).toArray, U64 e, .agg #[.slice ai ni ci, .slice ab nb cb2]] Tryd.func16 rfl rfl (by simp) (BR (by simp) (by simp) (by simp)) ?_
 show JC _ _ _ [(0, .agg (cu8 k).toArray), (1, U64 e), (2, .agg #[.slice ai ni ci, .slice ab nb cb2])] _
 refine AF (AB (AV (CG (.agg (cu8 k).toArray) (cu8 k) rfl (by first | rfl | simp)) rfl ?_))
 rintro v1 L1 ⟨nb1, hnb1, rfl, rfl⟩
 show JL _ _ _ _ ((3, Ptr nb1 0) :: _) [⟨nb1, cu8 k, 131, (0, 0)⟩]
 refine AV (CG (.agg #[.slice ai ni ci, .slice ab nb cb2]) ([.slice ai ni ci, .slice ab nb cb2]) rfl (by first | rfl | simp)) rfl ?_
 rintro v1 L1 ⟨nb2, hnb2, rfl, rfl⟩
 show JL _ _ _ _ ((5, Ptr nb2 0) :: _) [_, ⟨nb2, [.slice ai ni ci, .slice ab nb cb2], 134, (0, 0)⟩]
 refine AA _ (AE rfl) rfl ?_
 refine AI (AC (AF (AF (AB (AV (AY 43 [] (.bool true) (A4 _ Tryd.call43 rfl) (fun w1 hw1 => alive13_c  w1 (hG.at hw1))) rfl ?_)))))
 rintro v1 L1 ⟨rfl, rfl⟩
 show JL _ _ _ _ ((11, .bool true) :: _) [_, _]
 refine AA (.bool (!true)) (FV rfl) rfl ?_
 refine AI (AC (DV _ rfl rfl ?_))
 refine BJ (AC (AF (AF (AB (AA (Ptr nb2 0) (AH 0 23 1 BY rfl CV rfl rfl) rfl ?_)))))
 refine AA (.slice ai ni ci) (AL rfl (AZ DB (AR 1 rfl (Seg.head)))) rfl ?_
 refine AA (I64 ni) (DW BI rfl) rfl ?_
 refine AA (.bool (decide ((20:Int) < ((ni:Int))))) (AJ rfl rfl fun _ => FP _ _) rfl ?_
 refine AA _ (AG rfl) rfl ?_
 rcases Bool.eq_false_or_eq_true (decide ((20:Int) < ((ni:Int)))) with hb1 | hb1
 ·
  have hp1 : (20:Int) < ((ni:Int)) := of_decide_eq_true hb1
  refine AO 4 17 false _ rfl rfl hb1 rfl ?_
  refine AO 4 17 false _ rfl rfl hb1 rfl ?_
  refine AO 4 17 false _ rfl rfl hb1 rfl ?_
  refine AO 4 17 false _ rfl rfl hb1 rfl ?_
  refine AA _ (CW _ rfl hb1 rfl) rfl ?_
  refine AI (AC (D1 _ rfl rfl ?_))
  refine AF (AB (AA _ (AE rfl) rfl ?_))
  refine AI (AC (BO (A3 (CA [false, false] ?_))))
  show JQ _ _ _ _ []
  refine BQ (.bool true) (res1 Tryd.results16 (B2 rfl)) fun w1 hw1 => ?_
  exact ⟨_, [], rfl, ⟨by rw [show (true) = true from rfl], rfl⟩, hw1.sub (by simp) (by simp)⟩
 ·
  have hp1 : ¬ ((20:Int) < ((ni:Int))) := of_decide_eq_false hb1
  refine BB 4 17 false _ (Ptr nb2 1) rfl rfl hb1 (AH 1 132 1 BY rfl EP rfl rfl) rfl ?_
  refine BB 4 17 false _ (.slice ab nb cb2) rfl rfl hb1 (AL rfl (AZ EZ (AR 1 rfl (AS (Seg.head))))) rfl ?_
  refine BB 4 17 false _ (I64 nb) rfl rfl hb1 (DW C3 rfl) rfl ?_
  refine BB 4 17 false _ (.bool (decide ((20:Int) < ((nb:Int))))) rfl rfl hb1 (AJ rfl rfl fun _ => FP _ _) rfl ?_
  refine AA _ (C0 _ rfl hb1 rfl) rfl ?_
  refine AI (AC (D1 _ rfl (decide_eq_true (by omega)) ?_))
  refine AF (AB (AA _ (AE rfl) rfl ?_))
  refine AI (AC (BO (A3 (CA [false, false] ?_))))
  show JQ _ _ _ _ []
  refine BQ (.bool true) (res1 Tryd.results16 (B2 rfl)) fun w1 hw1 => ?_
  exact ⟨_, [], rfl, ⟨by rw [show (true) = true from rfl], rfl⟩, hw1.sub (by simp) (by simp)⟩
theorem bld29_2 {w : World} {c2 : List Value} (h2 : c2.length = 4) : (Instr.build 29 ([(2, .agg c2.toArray)] : List (Nat × Value)).toArray).run Tryd.prog w = .ok (.agg (((([U64 0] : List Value) ++ ([U64 0] : List Value)) ++ c2) ++ (cu8 (zr8 16) : List Value)).toArray) w :=
 EH (places := #[(0, 1), (1, 1), (2, 4), (6, 16)]) (Z := (([U64 0] : List Value) ++ (([U64 0] : List Value) ++ (([I64 0, .slice none 0 0, .slice none 0 0, U64 0] : List Value) ++ ((cu8 (zr8 16) : List Value) ++ []))))) (fun _ => by kernel_rfl) BN (fun _ => by kernel_rfl) ((F2 ([U64 0] : List Value) ([U64 0] : List Value) (([I64 0, .slice none 0 0, .slice none 0 0, U64 0] : List Value) ++ ((cu8 (zr8 16) : List Value) ++ []))).trans ((EW (([U64 0] : List Value) ++ ([U64 0] : List Value)) ([I64 0, .slice none 0 0, .slice none 0 0, U64 0] : List Value) ((cu8 (zr8 16) : List Value) ++ []) c2 rfl (by simp [AP, h2]) (by simp [h2, AP])).trans ((F2 ((([U64 0] : List Value) ++ ([U64 0] : List Value)) ++ c2) (cu8 (zr8 16) : List Value) []).trans (by simp [Instr.fill]))))
theorem bld38_2 {w : World} {c2 : List Value} (h2 : c2.length = 4) : (Instr.build 38 ([(2, .agg c2.toArray)] : List (Nat × Value)).toArray).run Tryd.prog w = .ok (.agg (((([U64 0] : List Value) ++ ([U64 0] : List Value)) ++ c2) ++ (cu8 (zr8 16) : List Value)).toArray) w :=
 EH (places := #[(0, 1), (1, 1), (2, 4), (6, 16)]) (Z := (([U64 0] : List Value) ++ (([U64 0] : List Value) ++ (([I64 0, .slice none 0 0, .slice none 0 0, U64 0] : List Value) ++ ((cu8 (zr8 16) : List Value) ++ []))))) (fun _ => by kernel_rfl) C8 (fun _ => by kernel_rfl) ((F2 ([U64 0] : List Value) ([U64 0] : List Value) (([I64 0, .slice none 0 0, .slice none 0 0, U64 0] : List Value) ++ ((cu8 (zr8 16) : List Value) ++ []))).trans ((EW (([U64 0] : List Value) ++ ([U64 0] : List Value)) ([I64 0, .slice none 0 0, .slice none 0 0, U64 0] : List Value) ((cu8 (zr8 16) : List Value) ++ []) c2 rfl (by simp [AP, h2]) (by simp [h2, AP])).trans ((F2 ((([U64 0] : List Value) ++ ([U64 0] : List Value)) ++ c2) (cu8 (zr8 16) : List Value) []).trans (by simp [Instr.fill]))))
theorem tqX_c (k : List UInt8) (e : UInt64) (ai : Option Addr) (ni ci : Nat) (l : List UInt64) (ab : Option Addr) (nb cb2 : Nat) (xb : List UInt8) (q : Nat)  (w : World) (hk : k.length = 16) (hG : GLs w) (hGr : GLr w) (hGi : GLi w) (h1 : ni ≤ 20) (h2 : nb ≤ 20) (hl : l.length = ni) (hxl : xb.length = 32*nb) (hv : RdV w ai (cu64 l)) (hrx : RdB w [] ab xb) (hP : ∀ (sb cb : Nat) (w1 : World), w1.heap[sb]? = some (.cells (cu8 (encK k) ++ cu8 (tgK k) ++ cu8 (macL k ([101, 110, 116, 114, 117, 115, 116, 32, 116, 105, 99, 107, 101, 116] : List UInt8)) ++ cu8 (macL k ([101, 110, 116, 114, 117, 115, 116, 32, 108, 105, 110, 107] : List UInt8)) ++ [Ptr cb 0]).toArray 226 (0, 0)) → w1.heap[cb]? = some (.cells (cu8 (rkL (encK k)) ++ cu8 thereL ++ cu8 backL).toArray 255 (0, 0)) → RdV w1 ai (cu64 l) → RdB w1 [] ab xb → GLs w1 → Calls Tryd.prog 75 #[Ptr sb 0, U64 e, .slice ai ni ci, .slice ab nb cb2] w1 (Post w1 [] (fun v L => v = .tuple #[.agg #[I64 0, .slice none 0 0, .slice none 0 0, U64 0], errV 50 q] ∧ L = []))) (hR : ∀ (w1 : World), RdV w1 ai (cu64 l) → RdB w1 [] ab xb → GLr w1 → GLi w1 → Calls Tryd.prog 77 #[.agg (cu8 k).toArray, U64 e, .slice ai ni ci, .slice ab nb cb2] w1 (Post w1 [] (fun v L => v = .tuple #[.agg #[I64 0, .slice none 0 0, .slice none 0 0, U64 0], I64 q] ∧ L = [])))  : Calls Tryd.prog 16 #[.agg (cu8 k).toArray, U64 e, .agg #[.slice ai ni ci, .slice ab nb cb2]] w (Post w [] (fun v L => v = .bool true ∧ L = [])) := by
 have hmx : maxLen = 9223372036854775807 := rfl
 refine enter (P := Tryd.prog) (f := 16) (fn := Tryd.f16) w [] 56 [] [.agg (cu8 k).toArray, U64 e, .agg #[.slice ai ni ci, .slice ab nb cb2]] Tryd.func16 rfl rfl (by simp) (BR (by simp) (by simp) (by simp)) ?_
 show JC _ _ _ [(0, .agg (cu8 k).toArray), (1, U64 e), (2, .agg #[.slice ai ni ci, .slice ab nb cb2])] _
 refine AF (AB (AV (CG (.agg (cu8 k).toArray) (cu8 k) rfl (by first | rfl | simp)) rfl ?_))
 rintro v1 L1 ⟨nb1, hnb1, rfl, rfl⟩
 show JL _ _ _ _ ((3, Ptr nb1 0) :: _) [⟨nb1, cu8 k, 131, (0, 0)⟩]
 refine AV (CG (.agg #[.slice ai ni ci, .slice ab nb cb2]) ([.slice ai ni ci, .slice ab nb cb2]) rfl (by first | rfl | simp)) rfl ?_
 rintro v1 L1 ⟨nb2, hnb2, rfl, rfl⟩
 show JL _ _ _ _ ((5, Ptr nb2 0) :: _) [_, ⟨nb2, [.slice ai ni ci, .slice ab nb cb2], 134, (0, 0)⟩]
 refine AA _ (AE rfl) rfl ?_
 refine AI (AC (AF (AF (AB (AV (AY 43 [] (.bool true) (A4 _ Tryd.call43 rfl) (fun w1 hw1 => alive13_c  w1 (hG.at hw1))) rfl ?_)))))
 rintro v1 L1 ⟨rfl, rfl⟩
 show JL _ _ _ _ ((11, .bool true) :: _) [_, _]
 refine AA (.bool (!true)) (FV rfl) rfl ?_
 refine AI (AC (DV _ rfl rfl ?_))
 refine BJ (AC (AF (AF (AB (AA (Ptr nb2 0) (AH 0 23 1 BY rfl CV rfl rfl) rfl ?_)))))
 refine AA (.slice ai ni ci) (AL rfl (AZ DB (AR 1 rfl (Seg.head)))) rfl ?_
 refine AA (I64 ni) (DW BI rfl) rfl ?_
 refine AA (.bool (decide ((20:Int) < ((ni:Int))))) (AJ rfl rfl fun _ => FP _ _) rfl ?_
 refine AA _ (AG rfl) rfl ?_
 refine BB 4 17 false _ (Ptr nb2 1) rfl rfl (decide_eq_false (by omega)) (AH 1 132 1 BY rfl EP rfl rfl) rfl ?_
 refine BB 4 17 false _ (.slice ab nb cb2) rfl rfl (decide_eq_false (by omega)) (AL rfl (AZ EZ (AR 1 rfl (AS (Seg.head))))) rfl ?_
 refine BB 4 17 false _ (I64 nb) rfl rfl (decide_eq_false (by omega)) (DW C3 rfl) rfl ?_
 refine BB 4 17 false _ (.bool (decide ((20:Int) < ((nb:Int))))) rfl rfl (decide_eq_false (by omega)) (AJ rfl rfl fun _ => FP _ _) rfl ?_
 refine AA _ (C0 _ rfl (decide_eq_false (by omega)) rfl) rfl ?_
 refine AI (AC (DV _ rfl (decide_eq_false (by omega)) ?_))
 refine BJ (AC (AF (JC_cut (ι := Nat) (fun ynb0 => [(1, U64 e), (3, Ptr nb1 0), (5, Ptr nb2 0), (6, .bool false), (7, Ptr ynb0 0), (8, errV 50 q)]) (fun ynb0 => [⟨nb1, cu8 k, 131, (0, 0)⟩, ⟨nb2, [.slice ai ni ci, .slice ab nb cb2], 134, (0, 0)⟩, ⟨ynb0, [I64 0, .slice none 0 0, .slice none 0 0, U64 0], 26, (0, 0)⟩]) (fun ynb0 => True) ?_ ?_)))
 ·
  refine CT 56 5 [(0, .agg (cu8 k).toArray), (2, U64 e), (3, Ptr nb2 0), (4, .slice ai ni ci), (5, Ptr nb2 1), (6, .slice ab nb cb2)] BL rfl (by decide +kernel) ?_
  refine DP_two ⟨[], [0, 2, 3, 4, 5, 6], [], [0, 2, 3, 4, 5, 6], [1, 11]⟩ 1 11 _ _ rfl rfl (by decide +kernel) rfl ⟨⟨_, rfl, AD rfl (AL rfl (BH C7 CO (A8 hk) (AR 0 rfl (AN _))))⟩, AU rfl rfl rfl, ⟨_, rfl, AD rfl (AH 0 23 1 BY rfl CV rfl rfl)⟩, ⟨_, rfl, AD rfl (AL rfl (AZ DB (AR 1 rfl (Seg.head))))⟩, ⟨_, rfl, AD rfl (AH 1 132 1 BY rfl EP rfl rfl)⟩, ⟨_, rfl, AD rfl (AL rfl (AZ EZ (AR 1 rfl (AS (Seg.head)))))⟩, trivial⟩ rfl rfl (AW rfl (CH 76 [.agg (cu8 k).toArray] _ (A4 _ Tryd.call76 rfl) (fun w1 hw1 => snew_c k w1 hk (hG.at hw1)))) (AW rfl (A7 _ ([I64 0, .slice none 0 0, .slice none 0 0, U64 0]) EN (by kernel_rfl))) ?_ ?_
  ·
   rintro v1 L1 ⟨_, ⟨nb3, nb4, rfl, rfl⟩, rfl⟩
   refine ⟨[], ?_⟩
   show DP _ _ _ _ _ _ _ _ [_, _, ⟨nb4, cu8 (rkL (encK k)) ++ cu8 thereL ++ cu8 backL, 255, (0, 0)⟩, ⟨nb3, cu8 (encK k) ++ cu8 (tgK k) ++ cu8 (macL k ([101, 110, 116, 114, 117, 115, 116, 32, 116, 105, 99, 107, 101, 116] : List UInt8)) ++ cu8 (macL k ([101, 110, 116, 114, 117, 115, 116, 32, 108, 105, 110, 107] : List UInt8)) ++ [Ptr nb4 0], 226, (0, 0)⟩]
   refine DP_two ⟨[1], [0, 2, 3, 4, 5, 6], [0], [2, 3, 4, 5, 6], [7, 11]⟩ 7 11 _ _ rfl rfl (by decide +kernel) rfl ⟨AU rfl rfl rfl, ⟨_, rfl, AD rfl (AH 0 23 1 BY rfl CV rfl rfl)⟩, ⟨_, rfl, AD rfl (AL rfl (AZ DB (AR 1 rfl (Seg.head))))⟩, ⟨_, rfl, AD rfl (AH 1 132 1 BY rfl EP rfl rfl)⟩, ⟨_, rfl, AD rfl (AL rfl (AZ EZ (AR 1 rfl (AS (Seg.head)))))⟩, trivial⟩ rfl rfl (AW rfl (AY 75 [Ptr nb3 0, U64 e, .slice ai ni ci, .slice ab nb cb2] (.tuple #[.agg #[I64 0, .slice none 0 0, .slice none 0 0, U64 0], errV 50 q]) (A4 _ Tryd.call75 rfl) (fun w1 hw1 => hP nb3 nb4 w1 (hw1.ent _ (List.mem_of_getElem? (i := 3) rfl)) (hw1.ent _ (List.mem_of_getElem? (i := 2) rfl)) (FT hw1 rfl hv) (hrx.at (M' := []) hw1 (by simp)) (hG.at hw1)))) (AW rfl (A7 _ ([I64 0, .slice none 0 0, .slice none 0 0, U64 0]) EN (by kernel_rfl))) ?_ ?_
   ·
    rintro v1 L1 ⟨rfl, rfl⟩
    refine ⟨[(8, .tuple #[.agg #[I64 0, .slice none 0 0, .slice none 0 0, U64 0], errV 50 q]), (9, .agg #[I64 0, .slice none 0 0, .slice none 0 0, U64 0]), (10, errV 50 q)], ?_⟩
    show DP _ _ _ _ _ _ _ _ [_, _, _, _]
    refine CU ⟨[1, 7], [0, 2, 3, 4, 5, 6, 8, 9, 10], [0, 2, 3, 4, 5, 6], [8, 9, 10], [11]⟩ 11 _ rfl rfl (by decide +kernel) rfl ⟨AU rfl rfl rfl, ⟨_, rfl, AD rfl (BS rfl rfl)⟩, ⟨_, rfl, AD rfl (BS rfl rfl)⟩, trivial⟩ rfl (AW rfl (A7 _ ([I64 0, .slice none 0 0, .slice none 0 0, U64 0]) EN (by kernel_rfl))) ?_
    rintro v1 L1 ⟨nb7, hnb7, rfl, rfl⟩
    refine ⟨[], ?_⟩
    show DP _ _ _ _ _ _ _ _ [_, _, _, _, ⟨nb7, [I64 0, .slice none 0 0, .slice none 0 0, U64 0], 26, (0, 0)⟩]
    refine CU ⟨[1, 7, 11], [0, 2, 3, 4, 5, 6, 8, 9, 10], [0, 2, 3, 4, 5, 6], [8, 9, 10], [12]⟩ 12 _ rfl rfl (by decide +kernel) rfl ⟨AU rfl rfl rfl, ⟨_, rfl, AD rfl (BS rfl rfl)⟩, ⟨_, rfl, AD rfl (BS rfl rfl)⟩, trivial⟩ rfl (AW rfl (AX 4 nb7 4 ([I64 0, .slice none 0 0, .slice none 0 0, U64 0]) 26 ([I64 0, .slice none 0 0, .slice none 0 0, U64 0]) rfl rfl rfl B7 rfl (by simp [Value.oneCell']) (Nat.le_of_ble_eq_true rfl) (A6 (by simp [])))) ?_
    rintro v1 L1 ⟨rfl, rfl⟩
    refine ⟨[(13, errV 50 q)], ?_⟩
    show DP _ _ _ _ _ _ _ _ [_, _, _, _, ⟨nb7, [I64 0, .slice none 0 0, .slice none 0 0, U64 0], 26, (0, 0)⟩]
    refine DE ⟨[1, 7, 11, 12], [0, 2, 3, 4, 5, 6, 8, 9, 10, 13], [0, 2, 3, 4, 5, 6, 8, 9], [10, 13], []⟩ rfl rfl (by decide +kernel) rfl ⟨⟨_, rfl, AD rfl (BS rfl rfl)⟩, ⟨_, rfl, AD rfl (AE rfl)⟩, trivial⟩ ?_
    refine CC (F' := [(7, Ptr nb7 0), (8, errV 50 q), (1, U64 e), (3, Ptr nb1 0), (5, Ptr nb2 0), (6, .bool false)]) (by kernel_rfl) ?_
    refine GP [0, 1, 4] (by decide) ?_
    show JQ _ _ _ _ [_, _, _]
    refine JQ_cut nb7 trivial (Sub.all rfl) rfl
   ·
    rintro v1 L1 ⟨nb6, hnb6, rfl, rfl⟩
    refine ⟨[], ?_⟩
    show DP _ _ _ _ _ _ _ _ [_, _, _, _, ⟨nb6, [I64 0, .slice none 0 0, .slice none 0 0, U64 0], 26, (0, 0)⟩]
    refine CU ⟨[1, 11], [0, 2, 3, 4, 5, 6], [0], [2, 3, 4, 5, 6], [7]⟩ 7 _ rfl rfl (by decide +kernel) rfl ⟨AU rfl rfl rfl, ⟨_, rfl, AD rfl (AH 0 23 1 BY rfl CV rfl rfl)⟩, ⟨_, rfl, AD rfl (AL rfl (AZ DB (AR 1 rfl (Seg.head))))⟩, ⟨_, rfl, AD rfl (AH 1 132 1 BY rfl EP rfl rfl)⟩, ⟨_, rfl, AD rfl (AL rfl (AZ EZ (AR 1 rfl (AS (Seg.head)))))⟩, trivial⟩ rfl (AW rfl (AY 75 [Ptr nb3 0, U64 e, .slice ai ni ci, .slice ab nb cb2] (.tuple #[.agg #[I64 0, .slice none 0 0, .slice none 0 0, U64 0], errV 50 q]) (A4 _ Tryd.call75 rfl) (fun w1 hw1 => hP nb3 nb4 w1 (hw1.ent _ (List.mem_of_getElem? (i := 3) rfl)) (hw1.ent _ (List.mem_of_getElem? (i := 2) rfl)) (FT hw1 rfl hv) (hrx.at (M' := []) hw1 (by simp)) (hG.at hw1)))) ?_
    rintro v1 L1 ⟨rfl, rfl⟩
    refine ⟨[(8, .tuple #[.agg #[I64 0, .slice none 0 0, .slice none 0 0, U64 0], errV 50 q]), (9, .agg #[I64 0, .slice none 0 0, .slice none 0 0, U64 0]), (10, errV 50 q)], ?_⟩
    show DP _ _ _ _ _ _ _ _ [_, _, _, _, _]
    refine CU ⟨[1, 11, 7], [0, 2, 3, 4, 5, 6, 8, 9, 10], [0, 2, 3, 4, 5, 6], [8, 9, 10], [12]⟩ 12 _ rfl rfl (by decide +kernel) rfl ⟨AU rfl rfl rfl, ⟨_, rfl, AD rfl (BS rfl rfl)⟩, ⟨_, rfl, AD rfl (BS rfl rfl)⟩, trivial⟩ rfl (AW rfl (AX 4 nb6 4 ([I64 0, .slice none 0 0, .slice none 0 0, U64 0]) 26 ([I64 0, .slice none 0 0, .slice none 0 0, U64 0]) rfl rfl rfl B7 rfl (by simp [Value.oneCell']) (Nat.le_of_ble_eq_true rfl) (A6 (by simp [])))) ?_
    rintro v1 L1 ⟨rfl, rfl⟩
    refine ⟨[(13, errV 50 q)], ?_⟩
    show DP _ _ _ _ _ _ _ _ [_, _, _, _, ⟨nb6, [I64 0, .slice none 0 0, .slice none 0 0, U64 0], 26, (0, 0)⟩]
    refine DE ⟨[1, 11, 7, 12], [0, 2, 3, 4, 5, 6, 8, 9, 10, 13], [0, 2, 3, 4, 5, 6, 8, 9], [10, 13], []⟩ rfl rfl (by decide +kernel) rfl ⟨⟨_, rfl, AD rfl (BS rfl rfl)⟩, ⟨_, rfl, AD rfl (AE rfl)⟩, trivial⟩ ?_
    refine CC (F' := [(7, Ptr nb6 0), (8, errV 50 q), (1, U64 e), (3, Ptr nb1 0), (5, Ptr nb2 0), (6, .bool false)]) (by kernel_rfl) ?_
    refine GP [0, 1, 4] (by decide) ?_
    show JQ _ _ _ _ [_, _, _]
    refine JQ_cut nb6 trivial (Sub.all rfl) rfl
  ·
   rintro v1 L1 ⟨nb5, hnb5, rfl, rfl⟩
   refine ⟨[], ?_⟩
   show DP _ _ _ _ _ _ _ _ [_, _, ⟨nb5, [I64 0, .slice none 0 0, .slice none 0 0, U64 0], 26, (0, 0)⟩]
   refine CU ⟨[11], [0, 2, 3, 4, 5, 6], [], [0, 2, 3, 4, 5, 6], [1]⟩ 1 _ rfl rfl (by decide +kernel) rfl ⟨⟨_, rfl, AD rfl (AL rfl (BH C7 CO (A8 hk) (AR 0 rfl (AN _))))⟩, AU rfl rfl rfl, ⟨_, rfl, AD rfl (AH 0 23 1 BY rfl CV rfl rfl)⟩, ⟨_, rfl, AD rfl (AL rfl (AZ DB (AR 1 rfl (Seg.head))))⟩, ⟨_, rfl, AD rfl (AH 1 132 1 BY rfl EP rfl rfl)⟩, ⟨_, rfl, AD rfl (AL rfl (AZ EZ (AR 1 rfl (AS (Seg.head)))))⟩, trivial⟩ rfl (AW rfl (CH 76 [.agg (cu8 k).toArray] _ (A4 _ Tryd.call76 rfl) (fun w1 hw1 => snew_c k w1 hk (hG.at hw1)))) ?_
   rintro v1 L1 ⟨_, ⟨nb8, nb9, rfl, rfl⟩, rfl⟩
   refine ⟨[], ?_⟩
   show DP _ _ _ _ _ _ _ _ [_, _, _, ⟨nb9, cu8 (rkL (encK k)) ++ cu8 thereL ++ cu8 backL, 255, (0, 0)⟩, ⟨nb8, cu8 (encK k) ++ cu8 (tgK k) ++ cu8 (macL k ([101, 110, 116, 114, 117, 115, 116, 32, 116, 105, 99, 107, 101, 116] : List UInt8)) ++ cu8 (macL k ([101, 110, 116, 114, 117, 115, 116, 32, 108, 105, 110, 107] : List UInt8)) ++ [Ptr nb9 0], 226, (0, 0)⟩]
   refine CU ⟨[11, 1], [0, 2, 3, 4, 5, 6], [0], [2, 3, 4, 5, 6], [7]⟩ 7 _ rfl rfl (by decide +kernel) rfl ⟨AU rfl rfl rfl, ⟨_, rfl, AD rfl (AH 0 23 1 BY rfl CV rfl rfl)⟩, ⟨_, rfl, AD rfl (AL rfl (AZ DB (AR 1 rfl (Seg.head))))⟩, ⟨_, rfl, AD rfl (AH 1 132 1 BY rfl EP rfl rfl)⟩, ⟨_, rfl, AD rfl (AL rfl (AZ EZ (AR 1 rfl (AS (Seg.head)))))⟩, trivial⟩ rfl (AW rfl (AY 75 [Ptr nb8 0, U64 e, .slice ai ni ci, .slice ab nb cb2] (.tuple #[.agg #[I64 0, .slice none 0 0, .slice none 0 0, U64 0], errV 50 q]) (A4 _ Tryd.call75 rfl) (fun w1 hw1 => hP nb8 nb9 w1 (hw1.ent _ (List.mem_of_getElem? (i := 4) rfl)) (hw1.ent _ (List.mem_of_getElem? (i := 3) rfl)) (FT hw1 rfl hv) (hrx.at (M' := []) hw1 (by simp)) (hG.at hw1)))) ?_
   rintro v1 L1 ⟨rfl, rfl⟩
   refine ⟨[(8, .tuple #[.agg #[I64 0, .slice none 0 0, .slice none 0 0, U64 0], errV 50 q]), (9, .agg #[I64 0, .slice none 0 0, .slice none 0 0, U64 0]), (10, errV 50 q)], ?_⟩
   show DP _ _ _ _ _ _ _ _ [_, _, _, _, _]
   refine CU ⟨[11, 1, 7], [0, 2, 3, 4, 5, 6, 8, 9, 10], [0, 2, 3, 4, 5, 6], [8, 9, 10], [12]⟩ 12 _ rfl rfl (by decide +kernel) rfl ⟨AU rfl rfl rfl, ⟨_, rfl, AD rfl (BS rfl rfl)⟩, ⟨_, rfl, AD rfl (BS rfl rfl)⟩, trivial⟩ rfl (AW rfl (AX 2 nb5 4 ([I64 0, .slice none 0 0, .slice none 0 0, U64 0]) 26 ([I64 0, .slice none 0 0, .slice none 0 0, U64 0]) rfl rfl rfl B7 rfl (by simp [Value.oneCell']) (Nat.le_of_ble_eq_true rfl) (A6 (by simp [])))) ?_
   rintro v1 L1 ⟨rfl, rfl⟩
   refine ⟨[(13, errV 50 q)], ?_⟩
   show DP _ _ _ _ _ _ _ _ [_, _, ⟨nb5, [I64 0, .slice none 0 0, .slice none 0 0, U64 0], 26, (0, 0)⟩, _, _]
   refine DE ⟨[11, 1, 7, 12], [0, 2, 3, 4, 5, 6, 8, 9, 10, 13], [0, 2, 3, 4, 5, 6, 8, 9], [10, 13], []⟩ rfl rfl (by decide +kernel) rfl ⟨⟨_, rfl, AD rfl (BS rfl rfl)⟩, ⟨_, rfl, AD rfl (AE rfl)⟩, trivial⟩ ?_
   refine CC (F' := [(7, Ptr nb5 0), (8, errV 50 q), (1, U64 e), (3, Ptr nb1 0), (5, Ptr nb2 0), (6, .bool false)]) (by kernel_rfl) ?_
   refine GP [0, 1, 2] (by decide) ?_
   show JQ _ _ _ _ [_, _, _]
   refine JQ_cut nb5 trivial (Sub.all rfl) rfl
 ·
  rintro ynb0 _
  show JQ _ _ _ [(1, U64 e), (3, Ptr nb1 0), (5, Ptr nb2 0), (6, .bool false), (7, Ptr ynb0 0), (8, errV 50 q)] [⟨nb1, cu8 k, 131, (0, 0)⟩, ⟨nb2, [.slice ai ni ci, .slice ab nb cb2], 134, (0, 0)⟩, ⟨ynb0, [I64 0, .slice none 0 0, .slice none 0 0, U64 0], 26, (0, 0)⟩]
  refine AC (AF (AB (AA (.agg (cu8 k).toArray) (AL rfl (BH C7 CO (A8 hk) (AR 0 rfl (AN _)))) rfl ?_)))
  refine AA _ (AG rfl) rfl ?_
  refine AA (Ptr nb2 0) (AH 0 23 1 BY rfl CV rfl rfl) rfl ?_
  refine AA (.slice ai ni ci) (AL rfl (AZ DB (AR 1 rfl (Seg.head)))) rfl ?_
  refine AA (Ptr nb2 1) (AH 1 132 1 BY rfl EP rfl rfl) rfl ?_
  refine AA (.slice ab nb cb2) (AL rfl (AZ EZ (AR 1 rfl (AS (Seg.head))))) rfl ?_
  refine A0 (AY 77 [.agg (cu8 k).toArray, U64 e, .slice ai ni ci, .slice ab nb cb2] (.tuple #[.agg #[I64 0, .slice none 0 0, .slice none 0 0, U64 0], I64 q]) (A4 _ Tryd.call77 rfl) (fun w1 hw1 => hR w1 (FT hw1 rfl hv) (hrx.at (M' := []) hw1 (by simp)) (GLr.at hw1 hGr) (GLi.at hw1 hGi))) rfl ?_
  show JL _ _ _ _ ((41, .tuple #[.agg #[I64 0, .slice none 0 0, .slice none 0 0, U64 0], I64 q]) :: _) [_, _, _]
  refine AA _ (AG rfl) rfl ?_
  refine AA _ (BS rfl rfl) rfl ?_
  refine AA _ (BS rfl rfl) rfl ?_
  refine AV (A7 _ ([I64 0, .slice none 0 0, .slice none 0 0, U64 0]) E1 (by kernel_rfl)) rfl ?_
  rintro v1 L1 ⟨nb10, hnb10, rfl, rfl⟩
  show JL _ _ _ _ ((9, Ptr nb10 0) :: _) [_, _, _, ⟨nb10, [I64 0, .slice none 0 0, .slice none 0 0, U64 0], 36, (0, 0)⟩]
  refine A0 (AX 3 nb10 4 ([I64 0, .slice none 0 0, .slice none 0 0, U64 0]) 36 ([I64 0, .slice none 0 0, .slice none 0 0, U64 0]) rfl rfl rfl B0 rfl (by simp [Value.oneCell']) (Nat.le_of_ble_eq_true rfl) (A6 (by simp []))) rfl ?_
  show JL _ _ _ _ _ [_, _, _, ⟨nb10, [I64 0, .slice none 0 0, .slice none 0 0, U64 0], 36, (0, 0)⟩]
  refine AA _ (AE rfl) rfl ?_
  refine AI (AC (AF (CT 56 4 [(0, errV 50 q), (2, I64 q)] BL rfl (by decide +kernel) ?_)))
  refine CU ⟨[], [0, 2], [], [0, 2], [1]⟩ 1 _ rfl rfl (by decide +kernel) rfl ⟨AU rfl rfl rfl, AU rfl rfl rfl, trivial⟩ rfl (AW rfl (AY 29 [errV 50 q] (I64 q) (A4 _ Tryd.call29 rfl) (fun w1 hw1 => errNum_w q w1))) ?_
  rintro v1 L1 ⟨rfl, rfl⟩
  refine ⟨[(3, .bool (decide (((q:Int)) = ((q:Int))))), (4, .bool (decide (((q:Int)) = ((q:Int))))), (5, .agg #[I64 0, .slice none 0 0, .slice none 0 0, U64 0]), (6, .agg ([U64 0, U64 0, I64 0, .slice none 0 0, .slice none 0 0, U64 0] ++ cu8 (zr8 16)).toArray), (8, .agg #[I64 0, .slice none 0 0, .slice none 0 0, U64 0]), (9, .agg ([U64 0, U64 0, I64 0, .slice none 0 0, .slice none 0 0, U64 0] ++ cu8 (zr8 16)).toArray)], ?_⟩
  show DP _ _ _ _ _ _ _ _ [_, _, _, _]
  refine C2 ⟨[1], [0, 2, 3, 4, 5, 6, 8, 9], [0], [2, 3, 4, 5, 6, 8, 9], [7]⟩ 7 rfl rfl (by decide +kernel) rfl ⟨AU rfl rfl rfl, ⟨_, rfl, AD rfl (AJ rfl rfl fun _ => D6 _ _)⟩, AU rfl rfl rfl, ⟨_, rfl, DD 4 48 true _ rfl rfl rfl (by simp) (AL rfl (BH EQ B7 rfl (AR 2 rfl (AN _))))⟩, ⟨_, rfl, DD 4 48 true _ rfl rfl rfl (by simp) (DG [(2, .agg #[I64 0, .slice none 0 0, .slice none 0 0, U64 0])] _ rfl (fun _ => bld29_2 (by simp [AP])))⟩, ⟨_, rfl, DD 4 48 true _ rfl rfl rfl (by simp) (AL rfl (BH EL B0 rfl (AR 3 rfl (AN _))))⟩, ⟨_, rfl, DD 4 48 true _ rfl rfl rfl (by simp) (DG [(2, .agg #[I64 0, .slice none 0 0, .slice none 0 0, U64 0])] _ rfl (fun _ => bld38_2 (by simp [AP])))⟩, trivial⟩ rfl (Cok_gstep 4 48 true _ rfl rfl rfl (by simp) (AY 44 [.agg ([U64 0, U64 0, I64 0, .slice none 0 0, .slice none 0 0, U64 0] ++ cu8 (zr8 16)).toArray] (.agg ([U64 0, U64 0, I64 0, .slice none 0 0, .slice none 0 0, U64 0] ++ cu8 (zr8 16)).toArray) (A4 _ Tryd.call44 rfl) (fun w1 hw1 => docTZ_c (0:UInt64) (0:UInt64) (0:Int) none 0 0 ([] : List UInt64) none 0 (0:UInt64) (zr8 16) w1 rfl (by omega) (by omega) (by omega) RdV.nil (by omega) (fun _ => rfl) (AP 16)))) ?_
  show DP _ _ _ _ _ _ _ _ [_, _, _, _]
  refine CU ⟨[1, 7], [0, 2, 3, 4, 5, 6, 8, 9], [0, 2, 3, 4, 5, 6], [8, 9], [10]⟩ 10 _ rfl rfl (by decide +kernel) rfl ⟨⟨_, rfl, DD 4 48 true _ rfl rfl rfl (by simp) (AL rfl (BH EL B0 rfl (AR 3 rfl (AN _))))⟩, ⟨_, rfl, DD 4 48 true _ rfl rfl rfl (by simp) (DG [(2, .agg #[I64 0, .slice none 0 0, .slice none 0 0, U64 0])] _ rfl (fun _ => bld38_2 (by simp [AP])))⟩, trivial⟩ rfl (Cok_gstep 4 48 true _ rfl rfl rfl (by simp) (AY 51 [.agg ([U64 0, U64 0, I64 0, .slice none 0 0, .slice none 0 0, U64 0] ++ cu8 (zr8 16)).toArray, .agg ([U64 0, U64 0, I64 0, .slice none 0 0, .slice none 0 0, U64 0] ++ cu8 (zr8 16)).toArray] (.bool (decide ((0:UInt64) = (0:UInt64) ∧ (0:UInt64) = (0:UInt64) ∧ (zr8 16) = (zr8 16) ∧ (0:Int) = (0:Int) ∧ (0:UInt64) = (0:UInt64) ∧ ([] : List UInt64) = ([] : List UInt64) ∧ ([] : List SealR) = ([] : List SealR)))) (A4 _ Tryd.call51 rfl) (fun w1 hw1 => rsame13_c (0:UInt64) (0:UInt64) (0:Int) none 0 0 ([] : List UInt64) none 0 0 ([] : List SealR) (0:UInt64) (zr8 16) (0:UInt64) (0:UInt64) (0:Int) none 0 0 ([] : List UInt64) none 0 0 ([] : List SealR) (0:UInt64) (zr8 16) w1 rfl (by omega) (by omega) (by omega) RdV.nil rfl (by omega) (by omega) (by omega) RdV.nil (AP 16) rfl (by omega) (by omega) (by omega) RdV.nil rfl (by omega) (by omega) (by omega) RdV.nil (AP 16)))) ?_
  rintro v1 L1 ⟨rfl, rfl⟩
  refine ⟨[(11, .bool (decide ((0:UInt64) = (0:UInt64) ∧ (0:UInt64) = (0:UInt64) ∧ (zr8 16) = (zr8 16) ∧ (0:Int) = (0:Int) ∧ (0:UInt64) = (0:UInt64) ∧ ([] : List UInt64) = ([] : List UInt64) ∧ ([] : List SealR) = ([] : List SealR)))), (12, .bool (decide ((0:UInt64) = (0:UInt64) ∧ (0:UInt64) = (0:UInt64) ∧ (zr8 16) = (zr8 16) ∧ (0:Int) = (0:Int) ∧ (0:UInt64) = (0:UInt64) ∧ ([] : List UInt64) = ([] : List UInt64) ∧ ([] : List SealR) = ([] : List SealR))))], ?_⟩
  show DP _ _ _ _ _ _ _ _ [_, _, _, _]
  refine DE ⟨[1, 7, 10], [0, 2, 3, 4, 5, 6, 8, 9, 11, 12], [0, 2, 3, 4, 5, 6, 8, 9], [11, 12], []⟩ rfl rfl (by decide +kernel) rfl ⟨⟨_, rfl, AD rfl (CW _ rfl (by simp) rfl)⟩, ⟨_, rfl, AD rfl (AE rfl)⟩, trivial⟩ ?_
  refine CC (F' := [(6, .bool (decide ((0:UInt64) = (0:UInt64) ∧ (0:UInt64) = (0:UInt64) ∧ (zr8 16) = (zr8 16) ∧ (0:Int) = (0:Int) ∧ (0:UInt64) = (0:UInt64) ∧ ([] : List UInt64) = ([] : List UInt64) ∧ ([] : List SealR) = ([] : List SealR))))]) (by kernel_rfl) ?_
  refine AC (BO (CA [false, false, false, false] ?_))
  show JQ _ _ _ _ []
  refine BQ (.bool (decide ((0:UInt64) = (0:UInt64) ∧ (0:UInt64) = (0:UInt64) ∧ (zr8 16) = (zr8 16) ∧ (0:Int) = (0:Int) ∧ (0:UInt64) = (0:UInt64) ∧ ([] : List UInt64) = ([] : List UInt64) ∧ ([] : List SealR) = ([] : List SealR)))) (res1 Tryd.results16 (B2 rfl)) fun w1 hw1 => ?_
  exact ⟨_, [], rfl, ⟨by rw [show (decide ((0:UInt64) = (0:UInt64) ∧ (0:UInt64) = (0:UInt64) ∧ (zr8 16) = (zr8 16) ∧ (0:Int) = (0:Int) ∧ (0:UInt64) = (0:UInt64) ∧ ([] : List UInt64) = ([] : List UInt64) ∧ ([] : List SealR) = ([] : List SealR))) = true from (decide_eq_true ⟨rfl, rfl, rfl, rfl, rfl, rfl, rfl⟩)], rfl⟩, hw1.sub (by simp) (by simp)⟩
theorem tqD_c (k : List UInt8) (e : UInt64) (ai : Option Addr) (ni ci : Nat) (l : List UInt64) (ab : Option Addr) (cb2 : Nat) (xb : List UInt8)  (w : World) (hk : k.length = 16) (hG : GLs w) (hGr : GLr w) (hGi : GLi w) (hl : l.length = ni) (hnm : ni ≤ 2000000) (hnc : ni ≤ ci) (hcm : ci ≤ maxLen) (hv : RdV w ai (cu64 l)) (hxl : xb.length = 32*ni) (hrx : RdB w [] ab xb) (hp1 : 0 < ni) (hn3 : ni ≤ 20) (hall : ∀ j, j < ni → RightB (g64 l j) e = true) (hR : RightO 1 l (slS k e l xb ni) 0 = true)  : Calls Tryd.prog 16 #[.agg (cu8 k).toArray, U64 e, .agg #[.slice ai ni ci, .slice ab ni cb2]] w (Post w [] (fun v L => v = .bool true ∧ L = [])) := by
 have hmx : maxLen = 9223372036854775807 := rfl
 refine enter (P := Tryd.prog) (f := 16) (fn := Tryd.f16) w [] 56 [] [.agg (cu8 k).toArray, U64 e, .agg #[.slice ai ni ci, .slice ab ni cb2]] Tryd.func16 rfl rfl (by simp) (BR (by simp) (by simp) (by simp)) ?_
 show JC _ _ _ [(0, .agg (cu8 k).toArray), (1, U64 e), (2, .agg #[.slice ai ni ci, .slice ab ni cb2])] _
 refine AF (AB (AV (CG (.agg (cu8 k).toArray) (cu8 k) rfl (by first | rfl | simp)) rfl ?_))
 rintro v1 L1 ⟨nb1, hnb1, rfl, rfl⟩
 show JL _ _ _ _ ((3, Ptr nb1 0) :: _) [⟨nb1, cu8 k, 131, (0, 0)⟩]
 refine AV (CG (.agg #[.slice ai ni ci, .slice ab ni cb2]) ([.slice ai ni ci, .slice ab ni cb2]) rfl (by first | rfl | simp)) rfl ?_
 rintro v1 L1 ⟨nb2, hnb2, rfl, rfl⟩
 show JL _ _ _ _ ((5, Ptr nb2 0) :: _) [_, ⟨nb2, [.slice ai ni ci, .slice ab ni cb2], 134, (0, 0)⟩]
 refine AA _ (AE rfl) rfl ?_
 refine AI (AC (AF (AF (AB (AV (AY 43 [] (.bool true) (A4 _ Tryd.call43 rfl) (fun w1 hw1 => alive13_c  w1 (hG.at hw1))) rfl ?_)))))
 rintro v1 L1 ⟨rfl, rfl⟩
 show JL _ _ _ _ ((11, .bool true) :: _) [_, _]
 refine AA (.bool (!true)) (FV rfl) rfl ?_
 refine AI (AC (DV _ rfl rfl ?_))
 refine BJ (AC (AF (AF (AB (AA (Ptr nb2 0) (AH 0 23 1 BY rfl CV rfl rfl) rfl ?_)))))
 refine AA (.slice ai ni ci) (AL rfl (AZ DB (AR 1 rfl (Seg.head)))) rfl ?_
 refine AA (I64 ni) (DW BI rfl) rfl ?_
 refine AA (.bool (decide ((20:Int) < ((ni:Int))))) (AJ rfl rfl fun _ => FP _ _) rfl ?_
 refine AA _ (AG rfl) rfl ?_
 refine BB 4 17 false _ (Ptr nb2 1) rfl rfl (decide_eq_false (by omega)) (AH 1 132 1 BY rfl EP rfl rfl) rfl ?_
 refine BB 4 17 false _ (.slice ab ni cb2) rfl rfl (decide_eq_false (by omega)) (AL rfl (AZ EZ (AR 1 rfl (AS (Seg.head))))) rfl ?_
 refine BB 4 17 false _ (I64 ni) rfl rfl (decide_eq_false (by omega)) (DW C3 rfl) rfl ?_
 refine BB 4 17 false _ (.bool (decide ((20:Int) < ((ni:Int))))) rfl rfl (decide_eq_false (by omega)) (AJ rfl rfl fun _ => FP _ _) rfl ?_
 refine AA _ (C0 _ rfl (decide_eq_false (by omega)) rfl) rfl ?_
 refine AI (AC (DV _ rfl (decide_eq_false (by omega)) ?_))
 refine BJ (AC (AF (JC_cut (ι := Nat × Nat × Nat × Nat × Nat × List Value × List Value) (fun ⟨ynb0, ynb1, ycp2, ynb3, ycp4, ysp5, ysp6⟩ => [(1, U64 e), (3, Ptr nb1 0), (5, Ptr nb2 0), (6, .bool false), (7, Ptr ynb0 0), (8, .nilIface)]) (fun ⟨ynb0, ynb1, ycp2, ynb3, ycp4, ysp5, ysp6⟩ => [⟨nb1, cu8 k, 131, (0, 0)⟩, ⟨nb2, [.slice ai ni ci, .slice ab ni cb2], 134, (0, 0)⟩, ⟨ynb1, cu64 l ++ ysp5, 22, (0, 0)⟩, ⟨ynb3, (slS k e l xb ni).flatMap sealC ++ ysp6, 161, (0, 0)⟩, ⟨ynb0, [I64 1, Slc ynb1 0 ni ycp2, Slc ynb3 0 ni ycp4, U64 0], 26, (0, 0)⟩]) (fun ⟨ynb0, ynb1, ycp2, ynb3, ycp4, ysp5, ysp6⟩ => ysp5.length = (ycp2 - ni) ∧ ni ≤ ycp2 ∧ ycp2 ≤ maxLen ∧ ysp6.length = (49*ycp4 - 49*ni) ∧ ni ≤ ycp4 ∧ ycp4 ≤ maxLen) ?_ ?_)))
 ·
  refine CT 56 5 [(0, .agg (cu8 k).toArray), (2, U64 e), (3, Ptr nb2 0), (4, .slice ai ni ci), (5, Ptr nb2 1), (6, .slice ab ni cb2)] BL rfl (by decide +kernel) ?_
  refine DP_two ⟨[], [0, 2, 3, 4, 5, 6], [], [0, 2, 3, 4, 5, 6], [1, 11]⟩ 1 11 _ _ rfl rfl (by decide +kernel) rfl ⟨⟨_, rfl, AD rfl (AL rfl (BH C7 CO (A8 hk) (AR 0 rfl (AN _))))⟩, AU rfl rfl rfl, ⟨_, rfl, AD rfl (AH 0 23 1 BY rfl CV rfl rfl)⟩, ⟨_, rfl, AD rfl (AL rfl (AZ DB (AR 1 rfl (Seg.head))))⟩, ⟨_, rfl, AD rfl (AH 1 132 1 BY rfl EP rfl rfl)⟩, ⟨_, rfl, AD rfl (AL rfl (AZ EZ (AR 1 rfl (AS (Seg.head)))))⟩, trivial⟩ rfl rfl (AW rfl (CH 76 [.agg (cu8 k).toArray] _ (A4 _ Tryd.call76 rfl) (fun w1 hw1 => snew_c k w1 hk (hG.at hw1)))) (AW rfl (A7 _ ([I64 0, .slice none 0 0, .slice none 0 0, U64 0]) EN (by kernel_rfl))) ?_ ?_
  ·
   rintro v1 L1 ⟨_, ⟨nb3, nb4, rfl, rfl⟩, rfl⟩
   refine ⟨[], ?_⟩
   show DP _ _ _ _ _ _ _ _ [_, _, ⟨nb4, cu8 (rkL (encK k)) ++ cu8 thereL ++ cu8 backL, 255, (0, 0)⟩, ⟨nb3, cu8 (encK k) ++ cu8 (tgK k) ++ cu8 (macL k ([101, 110, 116, 114, 117, 115, 116, 32, 116, 105, 99, 107, 101, 116] : List UInt8)) ++ cu8 (macL k ([101, 110, 116, 114, 117, 115, 116, 32, 108, 105, 110, 107] : List UInt8)) ++ [Ptr nb4 0], 226, (0, 0)⟩]
   refine DP_two ⟨[1], [0, 2, 3, 4, 5, 6], [0], [2, 3, 4, 5, 6], [7, 11]⟩ 7 11 _ _ rfl rfl (by decide +kernel) rfl ⟨AU rfl rfl rfl, ⟨_, rfl, AD rfl (AH 0 23 1 BY rfl CV rfl rfl)⟩, ⟨_, rfl, AD rfl (AL rfl (AZ DB (AR 1 rfl (Seg.head))))⟩, ⟨_, rfl, AD rfl (AH 1 132 1 BY rfl EP rfl rfl)⟩, ⟨_, rfl, AD rfl (AL rfl (AZ EZ (AR 1 rfl (AS (Seg.head)))))⟩, trivial⟩ rfl rfl (AW rfl (CH 75 [Ptr nb3 0, U64 e, .slice ai ni ci, .slice ab ni cb2] _ (A4 _ Tryd.call75 rfl) (fun w1 hw1 => tsealD_c nb3 nb4 k e ai ni ci l ab cb2 xb w1 hk (hw1.ent _ (List.mem_of_getElem? (i := 3) rfl)) (hw1.ent _ (List.mem_of_getElem? (i := 2) rfl)) hl (by omega) (by omega) (by omega) (FT hw1 rfl hv) hxl (hrx.at (M' := []) hw1 (by simp)) (by omega) (by omega) hall hR (hG.at hw1)))) (AW rfl (A7 _ ([I64 0, .slice none 0 0, .slice none 0 0, U64 0]) EN (by kernel_rfl))) ?_ ?_
   ·
    rintro v1 L1 ⟨_, ⟨nb6, sp1, cp1, nb7, sp2, cp2, rfl, rfl, hc1, hc2, hc3, hc4, hc5, hc6⟩, rfl⟩
    refine ⟨[(8, .tuple #[.agg #[I64 1, Slc nb6 0 ni cp1, Slc nb7 0 ni cp2, U64 0], .nilIface]), (9, .agg #[I64 1, Slc nb6 0 ni cp1, Slc nb7 0 ni cp2, U64 0]), (10, .nilIface)], ?_⟩
    show DP _ _ _ _ _ _ _ _ [_, _, _, _, ⟨nb6, cu64 l ++ sp1, 22, (0, 0)⟩, ⟨nb7, (slS k e l xb ni).flatMap sealC ++ sp2, 161, (0, 0)⟩]
    refine CU ⟨[1, 7], [0, 2, 3, 4, 5, 6, 8, 9, 10], [0, 2, 3, 4, 5, 6], [8, 9, 10], [11]⟩ 11 _ rfl rfl (by decide +kernel) rfl ⟨AU rfl rfl rfl, ⟨_, rfl, AD rfl (BS rfl rfl)⟩, ⟨_, rfl, AD rfl (BS rfl rfl)⟩, trivial⟩ rfl (AW rfl (A7 _ ([I64 0, .slice none 0 0, .slice none 0 0, U64 0]) EN (by kernel_rfl))) ?_
    rintro v1 L1 ⟨nb9, hnb9, rfl, rfl⟩
    refine ⟨[], ?_⟩
    show DP _ _ _ _ _ _ _ _ [_, _, _, _, _, _, ⟨nb9, [I64 0, .slice none 0 0, .slice none 0 0, U64 0], 26, (0, 0)⟩]
    refine CU ⟨[1, 7, 11], [0, 2, 3, 4, 5, 6, 8, 9, 10], [0, 2, 3, 4, 5, 6], [8, 9, 10], [12]⟩ 12 _ rfl rfl (by decide +kernel) rfl ⟨AU rfl rfl rfl, ⟨_, rfl, AD rfl (BS rfl rfl)⟩, ⟨_, rfl, AD rfl (BS rfl rfl)⟩, trivial⟩ rfl (AW rfl (AX 6 nb9 4 ([I64 0, .slice none 0 0, .slice none 0 0, U64 0]) 26 ([I64 1, Slc nb6 0 ni cp1, Slc nb7 0 ni cp2, U64 0]) rfl rfl rfl B7 rfl (by simp [Value.oneCell']) (Nat.le_of_ble_eq_true rfl) (A6 (by simp [])))) ?_
    rintro v1 L1 ⟨rfl, rfl⟩
    refine ⟨[(13, .nilIface)], ?_⟩
    show DP _ _ _ _ _ _ _ _ [_, _, _, _, _, _, ⟨nb9, [I64 1, Slc nb6 0 ni cp1, Slc nb7 0 ni cp2, U64 0], 26, (0, 0)⟩]
    refine DE ⟨[1, 7, 11, 12], [0, 2, 3, 4, 5, 6, 8, 9, 10, 13], [0, 2, 3, 4, 5, 6, 8, 9], [10, 13], []⟩ rfl rfl (by decide +kernel) rfl ⟨⟨_, rfl, AD rfl (BS rfl rfl)⟩, ⟨_, rfl, AD rfl (AE rfl)⟩, trivial⟩ ?_
    refine CC (F' := [(7, Ptr nb9 0), (8, .nilIface), (1, U64 e), (3, Ptr nb1 0), (5, Ptr nb2 0), (6, .bool false)]) (by kernel_rfl) ?_
    refine GP [0, 1, 4, 5, 6] (by decide) ?_
    show JQ _ _ _ _ [_, _, _, _, _]
    refine JQ_cut (nb9, nb6, cp1, nb7, cp2, sp1, sp2) ⟨(by first | exact hc1 | omega | (simp; done)), (by first | exact hc2 | omega | (simp; done)), (by first | exact hc3 | omega | (simp; done)), (by first | exact hc4 | omega | (simp; done)), (by first | exact hc5 | omega | (simp; done)), (by first | exact hc6 | omega | (simp; done))⟩ (Sub.all rfl) rfl
   ·
    rintro v1 L1 ⟨nb8, hnb8, rfl, rfl⟩
    refine ⟨[], ?_⟩
    show DP _ _ _ _ _ _ _ _ [_, _, _, _, ⟨nb8, [I64 0, .slice none 0 0, .slice none 0 0, U64 0], 26, (0, 0)⟩]
    refine CU ⟨[1, 11], [0, 2, 3, 4, 5, 6], [0], [2, 3, 4, 5, 6], [7]⟩ 7 _ rfl rfl (by decide +kernel) rfl ⟨AU rfl rfl rfl, ⟨_, rfl, AD rfl (AH 0 23 1 BY rfl CV rfl rfl)⟩, ⟨_, rfl, AD rfl (AL rfl (AZ DB (AR 1 rfl (Seg.head))))⟩, ⟨_, rfl, AD rfl (AH 1 132 1 BY rfl EP rfl rfl)⟩, ⟨_, rfl, AD rfl (AL rfl (AZ EZ (AR 1 rfl (AS (Seg.head)))))⟩, trivial⟩ rfl (AW rfl (CH 75 [Ptr nb3 0, U64 e, .slice ai ni ci, .slice ab ni cb2] _ (A4 _ Tryd.call75 rfl) (fun w1 hw1 => tsealD_c nb3 nb4 k e ai ni ci l ab cb2 xb w1 hk (hw1.ent _ (List.mem_of_getElem? (i := 3) rfl)) (hw1.ent _ (List.mem_of_getElem? (i := 2) rfl)) hl (by omega) (by omega) (by omega) (FT hw1 rfl hv) hxl (hrx.at (M' := []) hw1 (by simp)) (by omega) (by omega) hall hR (hG.at hw1)))) ?_
    rintro v1 L1 ⟨_, ⟨nb10, sp3, cp3, nb11, sp4, cp4, rfl, rfl, hc7, hc8, hc9, hc10, hc11, hc12⟩, rfl⟩
    refine ⟨[(8, .tuple #[.agg #[I64 1, Slc nb10 0 ni cp3, Slc nb11 0 ni cp4, U64 0], .nilIface]), (9, .agg #[I64 1, Slc nb10 0 ni cp3, Slc nb11 0 ni cp4, U64 0]), (10, .nilIface)], ?_⟩
    show DP _ _ _ _ _ _ _ _ [_, _, _, _, _, ⟨nb10, cu64 l ++ sp3, 22, (0, 0)⟩, ⟨nb11, (slS k e l xb ni).flatMap sealC ++ sp4, 161, (0, 0)⟩]
    refine CU ⟨[1, 11, 7], [0, 2, 3, 4, 5, 6, 8, 9, 10], [0, 2, 3, 4, 5, 6], [8, 9, 10], [12]⟩ 12 _ rfl rfl (by decide +kernel) rfl ⟨AU rfl rfl rfl, ⟨_, rfl, AD rfl (BS rfl rfl)⟩, ⟨_, rfl, AD rfl (BS rfl rfl)⟩, trivial⟩ rfl (AW rfl (AX 4 nb8 4 ([I64 0, .slice none 0 0, .slice none 0 0, U64 0]) 26 ([I64 1, Slc nb10 0 ni cp3, Slc nb11 0 ni cp4, U64 0]) rfl rfl rfl B7 rfl (by simp [Value.oneCell']) (Nat.le_of_ble_eq_true rfl) (A6 (by simp [])))) ?_
    rintro v1 L1 ⟨rfl, rfl⟩
    refine ⟨[(13, .nilIface)], ?_⟩
    show DP _ _ _ _ _ _ _ _ [_, _, _, _, ⟨nb8, [I64 1, Slc nb10 0 ni cp3, Slc nb11 0 ni cp4, U64 0], 26, (0, 0)⟩, _, _]
    refine DE ⟨[1, 11, 7, 12], [0, 2, 3, 4, 5, 6, 8, 9, 10, 13], [0, 2, 3, 4, 5, 6, 8, 9], [10, 13], []⟩ rfl rfl (by decide +kernel) rfl ⟨⟨_, rfl, AD rfl (BS rfl rfl)⟩, ⟨_, rfl, AD rfl (AE rfl)⟩, trivial⟩ ?_
    refine CC (F' := [(7, Ptr nb8 0), (8, .nilIface), (1, U64 e), (3, Ptr nb1 0), (5, Ptr nb2 0), (6, .bool false)]) (by kernel_rfl) ?_
    refine GP [0, 1, 5, 6, 4] (by decide) ?_
    show JQ _ _ _ _ [_, _, _, _, _]
    refine JQ_cut (nb8, nb10, cp3, nb11, cp4, sp3, sp4) ⟨(by first | exact hc7 | omega | (simp; done)), (by first | exact hc8 | omega | (simp; done)), (by first | exact hc9 | omega | (simp; done)), (by first | exact hc10 | omega | (simp; done)), (by first | exact hc11 | omega | (simp; done)), (by first | exact hc12 | omega | (simp; done))⟩ (Sub.all rfl) rfl
  ·
   rintro v1 L1 ⟨nb5, hnb5, rfl, rfl⟩
   refine ⟨[], ?_⟩
   show DP _ _ _ _ _ _ _ _ [_, _, ⟨nb5, [I64 0, .slice none 0 0, .slice none 0 0, U64 0], 26, (0, 0)⟩]
   refine CU ⟨[11], [0, 2, 3, 4, 5, 6], [], [0, 2, 3, 4, 5, 6], [1]⟩ 1 _ rfl rfl (by decide +kernel) rfl ⟨⟨_, rfl, AD rfl (AL rfl (BH C7 CO (A8 hk) (AR 0 rfl (AN _))))⟩, AU rfl rfl rfl, ⟨_, rfl, AD rfl (AH 0 23 1 BY rfl CV rfl rfl)⟩, ⟨_, rfl, AD rfl (AL rfl (AZ DB (AR 1 rfl (Seg.head))))⟩, ⟨_, rfl, AD rfl (AH 1 132 1 BY rfl EP rfl rfl)⟩, ⟨_, rfl, AD rfl (AL rfl (AZ EZ (AR 1 rfl (AS (Seg.head)))))⟩, trivial⟩ rfl (AW rfl (CH 76 [.agg (cu8 k).toArray] _ (A4 _ Tryd.call76 rfl) (fun w1 hw1 => snew_c k w1 hk (hG.at hw1)))) ?_
   rintro v1 L1 ⟨_, ⟨nb12, nb13, rfl, rfl⟩, rfl⟩
   refine ⟨[], ?_⟩
   show DP _ _ _ _ _ _ _ _ [_, _, _, ⟨nb13, cu8 (rkL (encK k)) ++ cu8 thereL ++ cu8 backL, 255, (0, 0)⟩, ⟨nb12, cu8 (encK k) ++ cu8 (tgK k) ++ cu8 (macL k ([101, 110, 116, 114, 117, 115, 116, 32, 116, 105, 99, 107, 101, 116] : List UInt8)) ++ cu8 (macL k ([101, 110, 116, 114, 117, 115, 116, 32, 108, 105, 110, 107] : List UInt8)) ++ [Ptr nb13 0], 226, (0, 0)⟩]
   refine CU ⟨[11, 1], [0, 2, 3, 4, 5, 6], [0], [2, 3, 4, 5, 6], [7]⟩ 7 _ rfl rfl (by decide +kernel) rfl ⟨AU rfl rfl rfl, ⟨_, rfl, AD rfl (AH 0 23 1 BY rfl CV rfl rfl)⟩, ⟨_, rfl, AD rfl (AL rfl (AZ DB (AR 1 rfl (Seg.head))))⟩, ⟨_, rfl, AD rfl (AH 1 132 1 BY rfl EP rfl rfl)⟩, ⟨_, rfl, AD rfl (AL rfl (AZ EZ (AR 1 rfl (AS (Seg.head)))))⟩, trivial⟩ rfl (AW rfl (CH 75 [Ptr nb12 0, U64 e, .slice ai ni ci, .slice ab ni cb2] _ (A4 _ Tryd.call75 rfl) (fun w1 hw1 => tsealD_c nb12 nb13 k e ai ni ci l ab cb2 xb w1 hk (hw1.ent _ (List.mem_of_getElem? (i := 4) rfl)) (hw1.ent _ (List.mem_of_getElem? (i := 3) rfl)) hl (by omega) (by omega) (by omega) (FT hw1 rfl hv) hxl (hrx.at (M' := []) hw1 (by simp)) (by omega) (by omega) hall hR (hG.at hw1)))) ?_
   rintro v1 L1 ⟨_, ⟨nb14, sp5, cp5, nb15, sp6, cp6, rfl, rfl, hc13, hc14, hc15, hc16, hc17, hc18⟩, rfl⟩
   refine ⟨[(8, .tuple #[.agg #[I64 1, Slc nb14 0 ni cp5, Slc nb15 0 ni cp6, U64 0], .nilIface]), (9, .agg #[I64 1, Slc nb14 0 ni cp5, Slc nb15 0 ni cp6, U64 0]), (10, .nilIface)], ?_⟩
   show DP _ _ _ _ _ _ _ _ [_, _, _, _, _, ⟨nb14, cu64 l ++ sp5, 22, (0, 0)⟩, ⟨nb15, (slS k e l xb ni).flatMap sealC ++ sp6, 161, (0, 0)⟩]
   refine CU ⟨[11, 1, 7], [0, 2, 3, 4, 5, 6, 8, 9, 10], [0, 2, 3, 4, 5, 6], [8, 9, 10], [12]⟩ 12 _ rfl rfl (by decide +kernel) rfl ⟨AU rfl rfl rfl, ⟨_, rfl, AD rfl (BS rfl rfl)⟩, ⟨_, rfl, AD rfl (BS rfl rfl)⟩, trivial⟩ rfl (AW rfl (AX 2 nb5 4 ([I64 0, .slice none 0 0, .slice none 0 0, U64 0]) 26 ([I64 1, Slc nb14 0 ni cp5, Slc nb15 0 ni cp6, U64 0]) rfl rfl rfl B7 rfl (by simp [Value.oneCell']) (Nat.le_of_ble_eq_true rfl) (A6 (by simp [])))) ?_
   rintro v1 L1 ⟨rfl, rfl⟩
   refine ⟨[(13, .nilIface)], ?_⟩
   show DP _ _ _ _ _ _ _ _ [_, _, ⟨nb5, [I64 1, Slc nb14 0 ni cp5, Slc nb15 0 ni cp6, U64 0], 26, (0, 0)⟩, _, _, _, _]
   refine DE ⟨[11, 1, 7, 12], [0, 2, 3, 4, 5, 6, 8, 9, 10, 13], [0, 2, 3, 4, 5, 6, 8, 9], [10, 13], []⟩ rfl rfl (by decide +kernel) rfl ⟨⟨_, rfl, AD rfl (BS rfl rfl)⟩, ⟨_, rfl, AD rfl (AE rfl)⟩, trivial⟩ ?_
   refine CC (F' := [(7, Ptr nb5 0), (8, .nilIface), (1, U64 e), (3, Ptr nb1 0), (5, Ptr nb2 0), (6, .bool false)]) (by kernel_rfl) ?_
   refine GP [0, 1, 5, 6, 2] (by decide) ?_
   show JQ _ _ _ _ [_, _, _, _, _]
   refine JQ_cut (nb5, nb14, cp5, nb15, cp6, sp5, sp6) ⟨(by first | exact hc13 | omega | (simp; done)), (by first | exact hc14 | omega | (simp; done)), (by first | exact hc15 | omega | (simp; done)), (by first | exact hc16 | omega | (simp; done)), (by first | exact hc17 | omega | (simp; done)), (by first | exact hc18 | omega | (simp; done))⟩ (Sub.all rfl) rfl
 ·
  rintro ⟨ynb0, ynb1, ycp2, ynb3, ycp4, ysp5, ysp6⟩ ⟨hy1, hy2, hy3, hy4, hy5, hy6⟩
  show JQ _ _ _ [(1, U64 e), (3, Ptr nb1 0), (5, Ptr nb2 0), (6, .bool false), (7, Ptr ynb0 0), (8, .nilIface)] [⟨nb1, cu8 k, 131, (0, 0)⟩, ⟨nb2, [.slice ai ni ci, .slice ab ni cb2], 134, (0, 0)⟩, ⟨ynb1, cu64 l ++ ysp5, 22, (0, 0)⟩, ⟨ynb3, (slS k e l xb ni).flatMap sealC ++ ysp6, 161, (0, 0)⟩, ⟨ynb0, [I64 1, Slc ynb1 0 ni ycp2, Slc ynb3 0 ni ycp4, U64 0], 26, (0, 0)⟩]
  refine AC (AF (AB (AA (.agg (cu8 k).toArray) (AL rfl (BH C7 CO (A8 hk) (AR 0 rfl (AN _)))) rfl ?_)))
  refine AA _ (AG rfl) rfl ?_
  refine AA (Ptr nb2 0) (AH 0 23 1 BY rfl CV rfl rfl) rfl ?_
  refine AA (.slice ai ni ci) (AL rfl (AZ DB (AR 1 rfl (Seg.head)))) rfl ?_
  refine AA (Ptr nb2 1) (AH 1 132 1 BY rfl EP rfl rfl) rfl ?_
  refine AA (.slice ab ni cb2) (AL rfl (AZ EZ (AR 1 rfl (AS (Seg.head))))) rfl ?_
  refine AV (CH 77 [.agg (cu8 k).toArray, U64 e, .slice ai ni ci, .slice ab ni cb2] _ (A4 _ Tryd.call77 rfl) (fun w1 hw1 => rtsealD_c k e ai ni ci l ab cb2 xb w1 hk hl (by omega) (by omega) (by omega) (FT hw1 rfl hv) hxl (hrx.at (M' := []) hw1 (by simp)) (by omega) (by omega) hall hR (GLr.at hw1 hGr) (GLi.at hw1 hGi))) rfl ?_
  rintro v1 L1 ⟨_, ⟨nb16, sp7, cp7, rfl, rfl, hc19, hc20, hc21⟩, rfl⟩
  show JL _ _ _ _ ((41, .tuple #[.agg #[I64 1, .slice ai ni ci, Slc nb16 0 ni cp7, U64 0], I64 0]) :: _) [_, _, _, _, _, ⟨nb16, (slS k e l xb ni).flatMap sealC ++ sp7, 164, (0, 0)⟩]
  refine AA _ (AG rfl) rfl ?_
  refine AA _ (BS rfl rfl) rfl ?_
  refine AA _ (BS rfl rfl) rfl ?_
  refine AV (A7 _ ([I64 0, .slice none 0 0, .slice none 0 0, U64 0]) E1 (by kernel_rfl)) rfl ?_
  rintro v1 L1 ⟨nb17, hnb17, rfl, rfl⟩
  show JL _ _ _ _ ((9, Ptr nb17 0) :: _) [_, _, _, _, _, _, ⟨nb17, [I64 0, .slice none 0 0, .slice none 0 0, U64 0], 36, (0, 0)⟩]
  refine A0 (AX 6 nb17 4 ([I64 0, .slice none 0 0, .slice none 0 0, U64 0]) 36 ([I64 1, .slice ai ni ci, Slc nb16 0 ni cp7, U64 0]) rfl rfl rfl B0 rfl (by simp [Value.oneCell']) (Nat.le_of_ble_eq_true rfl) (A6 (by simp []))) rfl ?_
  show JL _ _ _ _ _ [_, _, _, _, _, _, ⟨nb17, [I64 1, .slice ai ni ci, Slc nb16 0 ni cp7, U64 0], 36, (0, 0)⟩]
  refine AA _ (AE rfl) rfl ?_
  refine AI (AC (AF (CT 56 4 [(0, .nilIface), (2, I64 0)] BL rfl (by decide +kernel) ?_)))
  refine CU ⟨[], [0, 2], [], [0, 2], [1]⟩ 1 _ rfl rfl (by decide +kernel) rfl ⟨AU rfl rfl rfl, AU rfl rfl rfl, trivial⟩ rfl (AW rfl (AY 29 [.nilIface] (I64 0) (A4 _ Tryd.call29 rfl) (fun w1 hw1 => errNo_c w1))) ?_
  rintro v1 L1 ⟨rfl, rfl⟩
  refine ⟨[(3, .bool (decide ((0:Int) = (0:Int)))), (4, .bool (decide ((0:Int) = (0:Int)))), (5, .agg #[I64 1, Slc ynb1 0 ni ycp2, Slc ynb3 0 ni ycp4, U64 0]), (6, .agg ([U64 0, U64 0, I64 1, Slc ynb1 0 ni ycp2, Slc ynb3 0 ni ycp4, U64 0] ++ cu8 (zr8 16)).toArray), (8, .agg #[I64 1, .slice ai ni ci, Slc nb16 0 ni cp7, U64 0]), (9, .agg ([U64 0, U64 0, I64 1, .slice ai ni ci, Slc nb16 0 ni cp7, U64 0] ++ cu8 (zr8 16)).toArray)], ?_⟩
  show DP _ _ _ _ _ _ _ _ [_, _, _, _, _, _, _]
  refine CU ⟨[1], [0, 2, 3, 4, 5, 6, 8, 9], [0], [2, 3, 4, 5, 6, 8, 9], [7]⟩ 7 _ rfl rfl (by decide +kernel) rfl ⟨AU rfl rfl rfl, ⟨_, rfl, AD rfl (AJ rfl rfl fun _ => D6 _ _)⟩, AU rfl rfl rfl, ⟨_, rfl, DD 4 48 true _ rfl rfl rfl (by decide) (AL rfl (BH EQ B7 rfl (AR 4 rfl (AN _))))⟩, ⟨_, rfl, DD 4 48 true _ rfl rfl rfl (by decide) (DG [(2, .agg #[I64 1, Slc ynb1 0 ni ycp2, Slc ynb3 0 ni ycp4, U64 0])] _ rfl (fun _ => bld29_2 (by simp [AP])))⟩, ⟨_, rfl, DD 4 48 true _ rfl rfl rfl (by decide) (AL rfl (BH EL B0 rfl (AR 6 rfl (AN _))))⟩, ⟨_, rfl, DD 4 48 true _ rfl rfl rfl (by decide) (DG [(2, .agg #[I64 1, .slice ai ni ci, Slc nb16 0 ni cp7, U64 0])] _ rfl (fun _ => bld38_2 (by simp [AP])))⟩, trivial⟩ rfl (Cok_gstep 4 48 true _ rfl rfl rfl (by decide) (CH 44 [.agg ([U64 0, U64 0, I64 1, Slc ynb1 0 ni ycp2, Slc ynb3 0 ni ycp4, U64 0] ++ cu8 (zr8 16)).toArray] _ (A4 _ Tryd.call44 rfl) (fun w1 hw1 => docTP_c (0:UInt64) (0:UInt64) (1:Int) (some ⟨ynb1, 0, none⟩) ni ycp2 l (some ⟨ynb3, 0, none⟩) ni ycp4 (slS k e l xb ni) (0:UInt64) (zr8 16) w1 hl (by omega) (by omega) (by omega) (RdV.of hw1 (AR 2 rfl (BE (AN _)))) (slS_len _ _ _ _ _) (by omega) (by omega) (by omega) (RdV.of hw1 (AR 3 rfl (BE (AN _)))) (by omega) (AP 16)))) ?_
  rintro v1 L1 ⟨_, ⟨nb18, sp8, cp8, rfl, rfl, hc22, hc23, hc24⟩, rfl⟩
  refine ⟨[], ?_⟩
  show DP _ _ _ _ _ _ _ _ [_, _, _, _, _, _, _, ⟨nb18, (slS k e l xb ni).flatMap sealC ++ sp8, 164, (0, 0)⟩]
  refine CU ⟨[1, 7], [0, 2, 3, 4, 5, 6, 8, 9], [0, 2, 3, 4, 5, 6], [8, 9], [10]⟩ 10 _ rfl rfl (by decide +kernel) rfl ⟨⟨_, rfl, DD 4 48 true _ rfl rfl rfl (by decide) (AL rfl (BH EL B0 rfl (AR 6 rfl (AN _))))⟩, ⟨_, rfl, DD 4 48 true _ rfl rfl rfl (by decide) (DG [(2, .agg #[I64 1, .slice ai ni ci, Slc nb16 0 ni cp7, U64 0])] _ rfl (fun _ => bld38_2 (by simp [AP])))⟩, trivial⟩ rfl (Cok_gstep 4 48 true _ rfl rfl rfl (by decide) (AY 51 [.agg ([U64 0, U64 0, I64 1, Slc ynb1 0 ni ycp2, Slc nb18 0 ni cp8, U64 0] ++ cu8 (zr8 16)).toArray, .agg ([U64 0, U64 0, I64 1, .slice ai ni ci, Slc nb16 0 ni cp7, U64 0] ++ cu8 (zr8 16)).toArray] (.bool (decide ((0:UInt64) = (0:UInt64) ∧ (0:UInt64) = (0:UInt64) ∧ (zr8 16) = (zr8 16) ∧ (1:Int) = (1:Int) ∧ (0:UInt64) = (0:UInt64) ∧ l = l ∧ (slS k e l xb ni) = (slS k e l xb ni)))) (A4 _ Tryd.call51 rfl) (fun w1 hw1 => rsame13_c (0:UInt64) (0:UInt64) (1:Int) (some ⟨ynb1, 0, none⟩) ni ycp2 l (some ⟨nb18, 0, none⟩) ni cp8 (slS k e l xb ni) (0:UInt64) (zr8 16) (0:UInt64) (0:UInt64) (1:Int) ai ni ci l (some ⟨nb16, 0, none⟩) ni cp7 (slS k e l xb ni) (0:UInt64) (zr8 16) w1 hl (by omega) (by omega) (by omega) (RdV.of hw1 (AR 2 rfl (BE (AN _)))) (slS_len _ _ _ _ _) (by omega) (by omega) (by omega) (RdV.of hw1 (AR 7 rfl (BE (AN _)))) (AP 16) hl (by omega) (by omega) (by omega) (FT hw1 rfl hv) (slS_len _ _ _ _ _) (by omega) (by omega) (by omega) (RdV.of hw1 (AR 5 rfl (BE (AN _)))) (AP 16)))) ?_
  rintro v1 L1 ⟨rfl, rfl⟩
  refine ⟨[(11, .bool (decide ((0:UInt64) = (0:UInt64) ∧ (0:UInt64) = (0:UInt64) ∧ (zr8 16) = (zr8 16) ∧ (1:Int) = (1:Int) ∧ (0:UInt64) = (0:UInt64) ∧ l = l ∧ (slS k e l xb ni) = (slS k e l xb ni)))), (12, .bool (decide ((0:UInt64) = (0:UInt64) ∧ (0:UInt64) = (0:UInt64) ∧ (zr8 16) = (zr8 16) ∧ (1:Int) = (1:Int) ∧ (0:UInt64) = (0:UInt64) ∧ l = l ∧ (slS k e l xb ni) = (slS k e l xb ni))))], ?_⟩
  show DP _ _ _ _ _ _ _ _ [_, _, _, _, _, _, _, _]
  refine DE ⟨[1, 7, 10], [0, 2, 3, 4, 5, 6, 8, 9, 11, 12], [0, 2, 3, 4, 5, 6, 8, 9], [11, 12], []⟩ rfl rfl (by decide +kernel) rfl ⟨⟨_, rfl, AD rfl (CW _ rfl (by decide) rfl)⟩, ⟨_, rfl, AD rfl (AE rfl)⟩, trivial⟩ ?_
  refine CC (F' := [(6, .bool (decide ((0:UInt64) = (0:UInt64) ∧ (0:UInt64) = (0:UInt64) ∧ (zr8 16) = (zr8 16) ∧ (1:Int) = (1:Int) ∧ (0:UInt64) = (0:UInt64) ∧ l = l ∧ (slS k e l xb ni) = (slS k e l xb ni))))]) (by kernel_rfl) ?_
  refine AC (BO (CA [false, false, false, false, false, false, false, false] ?_))
  show JQ _ _ _ _ []
  refine BQ (.bool (decide ((0:UInt64) = (0:UInt64) ∧ (0:UInt64) = (0:UInt64) ∧ (zr8 16) = (zr8 16) ∧ (1:Int) = (1:Int) ∧ (0:UInt64) = (0:UInt64) ∧ l = l ∧ (slS k e l xb ni) = (slS k e l xb ni)))) (res1 Tryd.results16 (B2 rfl)) fun w1 hw1 => ?_
  exact ⟨_, [], rfl, ⟨by rw [show (decide ((0:UInt64) = (0:UInt64) ∧ (0:UInt64) = (0:UInt64) ∧ (zr8 16) = (zr8 16) ∧ (1:Int) = (1:Int) ∧ (0:UInt64) = (0:UInt64) ∧ l = l ∧ (slS k e l xb ni) = (slS k e l xb ni))) = true from (decide_eq_true ⟨rfl, rfl, rfl, rfl, rfl, rfl, rfl⟩)], rfl⟩, hw1.sub (by simp) (by simp)⟩
theorem ticketSeals_w (k : List UInt8) (e : UInt64) (ai : Option Addr) (ni ci : Nat) (l : List UInt64) (ab : Option Addr) (nb cb2 : Nat) (xb : List UInt8) (w : World) (hk : k.length = 16) (hl : l.length = ni) (hnI : ai = none → ci = 0) (hic : ni ≤ ci ∧ ci ≤ maxLen) (hv : RdV w ai (cu64 l)) (hxl : xb.length = 32*nb) (hnB : ab = none → cb2 = 0) (hbc : nb ≤ cb2 ∧ cb2 ≤ maxLen) (hrx : RdB w [] ab xb) (hG : GLs w) (hGr : GLr w) (hGi : GLi w) : Calls Tryd.prog 16 #[.agg (cu8 k).toArray, U64 e, .agg #[.slice ai ni ci, .slice ab nb cb2]] w (Post w [] (fun v L => v = .bool true ∧ L = [])) := by
  by_cases hlg : 20 < ni ∨ 20 < nb
  · exact tqL_c k e ai ni ci l ab nb cb2 xb w hk hG hGr hGi hlg
  by_cases hne : ni = nb
  case neg => exact tqX_c k e ai ni ci l ab nb cb2 xb 2 w hk hG hGr hGi (by omega) (by omega) hl hxl hv hrx (fun sb cb w1 hS hC hv1 hr1 hG1 => by rw [errV_pos (by decide)]; exact tsealA_c sb cb k e ai ni ci l ab nb cb2 xb w1 hk hS hC hne) (fun w1 hv1 hr1 hGr1 hGi1 => rtsealA_c k e ai ni ci l ab nb cb2 xb w1 hk hne)
  subst hne
  by_cases h0 : ni = 0
  · subst h0
    exact tqX_c k e ai 0 ci l ab 0 cb2 xb 2 w hk hG hGr hGi (by omega) (by omega) hl hxl hv hrx (fun sb cb w1 hS hC hv1 hr1 hG1 => by rw [errV_pos (by decide)]; exact tsealZ_c sb cb k e ai ci ab cb2 w1 hk hS hC hic.2 hnI) (fun w1 hv1 hr1 hGr1 hGi1 => rtsealZ_c k e ai ci ab cb2 w1 hk hic.2 hnI)
  by_cases hall : ∀ j, j < ni → RightB (g64 l j) e = true
  · cases hR : RightO 1 l (slS k e l xb ni) 0 with
    | true => exact tqD_c k e ai ni ci l ab cb2 xb w hk hG hGr hGi hl (by omega) hic.1 hic.2 hv hxl hrx (by omega) (by omega) hall hR
    | false => exact tqX_c k e ai ni ci l ab ni cb2 xb 2 w hk hG hGr hGi (by omega) (by omega) hl hxl hv hrx (fun sb cb w1 hS hC hv1 hr1 hG1 => by rw [errV_pos (by decide)]; exact tsealC_c sb cb k e ai ni ci l ab cb2 xb w1 hk hS hC hl (by omega) hic.1 hic.2 hv1 hxl hr1 (by omega) (by omega) hall hR hG1) (fun w1 hv1 hr1 hGr1 hGi1 => rtsealC_c k e ai ni ci l ab cb2 xb w1 hk hl (by omega) hic.1 hic.2 hv1 hxl hr1 (by omega) (by omega) hall hR hGr1 hGi1)
  · exact tqX_c k e ai ni ci l ab ni cb2 xb 1 w hk hG hGr hGi (by omega) (by omega) hl hxl hv hrx (fun sb cb w1 hS hC hv1 hr1 hG1 => by rw [errV_pos (by decide)]; exact tsealB_c sb cb k e ai ni ci l ab cb2 xb w1 hk hS hC hl (by omega) hic.1 hic.2 hv1 hxl hr1 (by omega) (by omega) hall hG1) (fun w1 hv1 hr1 hGr1 hGi1 => rtsealB_c k e ai ni ci l ab cb2 xb w1 hk hl (by omega) hic.1 hic.2 hv1 hxl hr1 (by omega) (by omega) hall hGr1 hGi1)
end Go.Proofs.YtkdpdgpphpngeaaDoor
namespace Go.Proofs.YtkdpdgpphpngeaaDoor
open Go
def headSigns : List Char := [Char.ofNat 104, Char.ofNat 97, Char.ofNat 114, Char.ofNat 110, Char.ofNat 101, Char.ofNat 115, Char.ofNat 115, Char.ofNat 32, Char.ofNat 50, Char.ofNat 100, Char.ofNat 55, Char.ofNat 48, Char.ofNat 102, Char.ofNat 53, Char.ofNat 99, Char.ofNat 56, Char.ofNat 51, Char.ofNat 51, Char.ofNat 98, Char.ofNat 102, Char.ofNat 98, Char.ofNat 55, Char.ofNat 98, Char.ofNat 99, Char.ofNat 56, Char.ofNat 100, Char.ofNat 101, Char.ofNat 50, Char.ofNat 52, Char.ofNat 51, Char.ofNat 50, Char.ofNat 51, Char.ofNat 48, Char.ofNat 101, Char.ofNat 101, Char.ofNat 48, Char.ofNat 52, Char.ofNat 55, Char.ofNat 57, Char.ofNat 55, Char.ofNat 51, Char.ofNat 101, Char.ofNat 57, Char.ofNat 54, Char.ofNat 57, Char.ofNat 51, Char.ofNat 101, Char.ofNat 100, Char.ofNat 101, Char.ofNat 55, Char.ofNat 53, Char.ofNat 51, Char.ofNat 52, Char.ofNat 48, Char.ofNat 54, Char.ofNat 50, Char.ofNat 55, Char.ofNat 99, Char.ofNat 57, Char.ofNat 57, Char.ofNat 52, Char.ofNat 50, Char.ofNat 54, Char.ofNat 50, Char.ofNat 100, Char.ofNat 102, Char.ofNat 102, Char.ofNat 56, Char.ofNat 48, Char.ofNat 54, Char.ofNat 100, Char.ofNat 50, Char.ofNat 32, Char.ofNat 99, Char.ofNat 117, Char.ofNat 116, Char.ofNat 32, Char.ofNat 97, Char.ofNat 116, Char.ofNat 32, Char.ofNat 101, Char.ofNat 110, Char.ofNat 116, Char.ofNat 114, Char.ofNat 117, Char.ofNat 115, Char.ofNat 116, Char.ofNat 47, Char.ofNat 101, Char.ofNat 110, Char.ofNat 116, Char.ofNat 114, Char.ofNat 117, Char.ofNat 115, Char.ofNat 116, Char.ofNat 108, Char.ofNat 97, Char.ofNat 119, Char.ofNat 49, Char.ofNat 52, Char.ofNat 46, Char.ofNat 87, Char.ofNat 105, Char.ofNat 114, Char.ofNat 101, Char.ofNat 82, Char.ofNat 101, Char.ofNat 113, Char.ofNat 117, Char.ofNat 101, Char.ofNat 115, Char.ofNat 116, Char.ofNat 115, Char.ofNat 32, Char.ofNat 101, Char.ofNat 110, Char.ofNat 116, Char.ofNat 114, Char.ofNat 117, Char.ofNat 115, Char.ofNat 116, Char.ofNat 47, Char.ofNat 101, Char.ofNat 110, Char.ofNat 116, Char.ofNat 114, Char.ofNat 117, Char.ofNat 115, Char.ofNat 116, Char.ofNat 108, Char.ofNat 97, Char.ofNat 119, Char.ofNat 49, Char.ofNat 53, Char.ofNat 46, Char.ofNat 76, Char.ofNat 105, Char.ofNat 110, Char.ofNat 107, Char.ofNat 83, Char.ofNat 101, Char.ofNat 97, Char.ofNat 108, Char.ofNat 115, Char.ofNat 32, Char.ofNat 101, Char.ofNat 110, Char.ofNat 116, Char.ofNat 114, Char.ofNat 117, Char.ofNat 115, Char.ofNat 116, Char.ofNat 47, Char.ofNat 101, Char.ofNat 110, Char.ofNat 116, Char.ofNat 114, Char.ofNat 117, Char.ofNat 115, Char.ofNat 116, Char.ofNat 108, Char.ofNat 97, Char.ofNat 119, Char.ofNat 49, Char.ofNat 53, Char.ofNat 46, Char.ofNat 76, Char.ofNat 105, Char.ofNat 110, Char.ofNat 107, Char.ofNat 83, Char.ofNat 105, Char.ofNat 122, Char.ofNat 101, Char.ofNat 115, Char.ofNat 32, Char.ofNat 101, Char.ofNat 110, Char.ofNat 116, Char.ofNat 114, Char.ofNat 117, Char.ofNat 115, Char.ofNat 116, Char.ofNat 47, Char.ofNat 101, Char.ofNat 110, Char.ofNat 116, Char.ofNat 114, Char.ofNat 117, Char.ofNat 115, Char.ofNat 116, Char.ofNat 108, Char.ofNat 97, Char.ofNat 119, Char.ofNat 49, Char.ofNat 52, Char.ofNat 46, Char.ofNat 87, Char.ofNat 105, Char.ofNat 114, Char.ofNat 101, Char.ofNat 82, Char.ofNat 101, Char.ofNat 112, Char.ofNat 108, Char.ofNat 105, Char.ofNat 101, Char.ofNat 115, Char.ofNat 32, Char.ofNat 101, Char.ofNat 110, Char.ofNat 116, Char.ofNat 114, Char.ofNat 117, Char.ofNat 115, Char.ofNat 116, Char.ofNat 47, Char.ofNat 101, Char.ofNat 110, Char.ofNat 116, Char.ofNat 114, Char.ofNat 117, Char.ofNat 115, Char.ofNat 116, Char.ofNat 108, Char.ofNat 97, Char.ofNat 119, Char.ofNat 49, Char.ofNat 53, Char.ofNat 46, Char.ofNat 76, Char.ofNat 105, Char.ofNat 110, Char.ofNat 107, Char.ofNat 79, Char.ofNat 112, Char.ofNat 101, Char.ofNat 110, Char.ofNat 115, Char.ofNat 32, Char.ofNat 101, Char.ofNat 110, Char.ofNat 116, Char.ofNat 114, Char.ofNat 117, Char.ofNat 115, Char.ofNat 116, Char.ofNat 47, Char.ofNat 101, Char.ofNat 110, Char.ofNat 116, Char.ofNat 114, Char.ofNat 117, Char.ofNat 115, Char.ofNat 116, Char.ofNat 108, Char.ofNat 97, Char.ofNat 119, Char.ofNat 49, Char.ofNat 53, Char.ofNat 46, Char.ofNat 76, Char.ofNat 105, Char.ofNat 110, Char.ofNat 107, Char.ofNat 66, Char.ofNat 97, Char.ofNat 99, Char.ofNat 107, Char.ofNat 32, Char.ofNat 101, Char.ofNat 110, Char.ofNat 116, Char.ofNat 114, Char.ofNat 117, Char.ofNat 115, Char.ofNat 116, Char.ofNat 47, Char.ofNat 101, Char.ofNat 110, Char.ofNat 116, Char.ofNat 114, Char.ofNat 117, Char.ofNat 115, Char.ofNat 116, Char.ofNat 108, Char.ofNat 97, Char.ofNat 119, Char.ofNat 49, Char.ofNat 51, Char.ofNat 46, Char.ofNat 84, Char.ofNat 105, Char.ofNat 99, Char.ofNat 107, Char.ofNat 101, Char.ofNat 116, Char.ofNat 83, Char.ofNat 105, Char.ofNat 103, Char.ofNat 110, Char.ofNat 115, Char.ofNat 32, Char.ofNat 101, Char.ofNat 110, Char.ofNat 116, Char.ofNat 114, Char.ofNat 117, Char.ofNat 115, Char.ofNat 116, Char.ofNat 47, Char.ofNat 101, Char.ofNat 110, Char.ofNat 116, Char.ofNat 114, Char.ofNat 117, Char.ofNat 115, Char.ofNat 116, Char.ofNat 108, Char.ofNat 97, Char.ofNat 119, Char.ofNat 49, Char.ofNat 52, Char.ofNat 46, Char.ofNat 87, Char.ofNat 105, Char.ofNat 114, Char.ofNat 101, Char.ofNat 80, Char.ofNat 97, Char.ofNat 114, Char.ofNat 115, Char.ofNat 101, Char.ofNat 115, Char.ofNat 32, Char.ofNat 101, Char.ofNat 110, Char.ofNat 116, Char.ofNat 114, Char.ofNat 117, Char.ofNat 115, Char.ofNat 116, Char.ofNat 47, Char.ofNat 101, Char.ofNat 110, Char.ofNat 116, Char.ofNat 114, Char.ofNat 117, Char.ofNat 115, Char.ofNat 116, Char.ofNat 108, Char.ofNat 97, Char.ofNat 119, Char.ofNat 49, Char.ofNat 51, Char.ofNat 46, Char.ofNat 84, Char.ofNat 105, Char.ofNat 99, Char.ofNat 107, Char.ofNat 101, Char.ofNat 116, Char.ofNat 80, Char.ofNat 97, Char.ofNat 114, Char.ofNat 115, Char.ofNat 101, Char.ofNat 115, Char.ofNat 32, Char.ofNat 101, Char.ofNat 110, Char.ofNat 116, Char.ofNat 114, Char.ofNat 117, Char.ofNat 115, Char.ofNat 116, Char.ofNat 47, Char.ofNat 101, Char.ofNat 110, Char.ofNat 116, Char.ofNat 114, Char.ofNat 117, Char.ofNat 115, Char.ofNat 116, Char.ofNat 108, Char.ofNat 97, Char.ofNat 119, Char.ofNat 49, Char.ofNat 51, Char.ofNat 46, Char.ofNat 84, Char.ofNat 105, Char.ofNat 99, Char.ofNat 107, Char.ofNat 101, Char.ofNat 116, Char.ofNat 66, Char.ofNat 97, Char.ofNat 99, Char.ofNat 107, Char.ofNat 32, Char.ofNat 101, Char.ofNat 110, Char.ofNat 116, Char.ofNat 114, Char.ofNat 117, Char.ofNat 115, Char.ofNat 116, Char.ofNat 47, Char.ofNat 101, Char.ofNat 110, Char.ofNat 116, Char.ofNat 114, Char.ofNat 117, Char.ofNat 115, Char.ofNat 116, Char.ofNat 108, Char.ofNat 97, Char.ofNat 119, Char.ofNat 49, Char.ofNat 51, Char.ofNat 46, Char.ofNat 84, Char.ofNat 105, Char.ofNat 99, Char.ofNat 107, Char.ofNat 101, Char.ofNat 116, Char.ofNat 79, Char.ofNat 114, Char.ofNat 100, Char.ofNat 101, Char.ofNat 114, Char.ofNat 115, Char.ofNat 32, Char.ofNat 101, Char.ofNat 110, Char.ofNat 116, Char.ofNat 114, Char.ofNat 117, Char.ofNat 115, Char.ofNat 116, Char.ofNat 47, Char.ofNat 101, Char.ofNat 110, Char.ofNat 116, Char.ofNat 114, Char.ofNat 117, Char.ofNat 115, Char.ofNat 116, Char.ofNat 108, Char.ofNat 97, Char.ofNat 119, Char.ofNat 49, Char.ofNat 52, Char.ofNat 46, Char.ofNat 87, Char.ofNat 105, Char.ofNat 114, Char.ofNat 101, Char.ofNat 87, Char.ofNat 111, Char.ofNat 114, Char.ofNat 100, Char.ofNat 115, Char.ofNat 32, Char.ofNat 101, Char.ofNat 110, Char.ofNat 116, Char.ofNat 114, Char.ofNat 117, Char.ofNat 115, Char.ofNat 116, Char.ofNat 47, Char.ofNat 101, Char.ofNat 110, Char.ofNat 116, Char.ofNat 114, Char.ofNat 117, Char.ofNat 115, Char.ofNat 116, Char.ofNat 108, Char.ofNat 97, Char.ofNat 119, Char.ofNat 49, Char.ofNat 52, Char.ofNat 46, Char.ofNat 87, Char.ofNat 105, Char.ofNat 114, Char.ofNat 101, Char.ofNat 66, Char.ofNat 97, Char.ofNat 99, Char.ofNat 107, Char.ofNat 32, Char.ofNat 101, Char.ofNat 110, Char.ofNat 116, Char.ofNat 114, Char.ofNat 117, Char.ofNat 115, Char.ofNat 116, Char.ofNat 47, Char.ofNat 101, Char.ofNat 110, Char.ofNat 116, Char.ofNat 114, Char.ofNat 117, Char.ofNat 115, Char.ofNat 116, Char.ofNat 108, Char.ofNat 97, Char.ofNat 119, Char.ofNat 49, Char.ofNat 51, Char.ofNat 46, Char.ofNat 84, Char.ofNat 105, Char.ofNat 99, Char.ofNat 107, Char.ofNat 101, Char.ofNat 116, Char.ofNat 83, Char.ofNat 101, Char.ofNat 97, Char.ofNat 108, Char.ofNat 115]
theorem headStr : Tryd.prog.initOrder = String.ofList headSigns := by kernel_rfl
theorem headIs : Tryd.prog.initOrder.toList = headSigns := by
 rw [headStr]
 exact String.toList_ofList
def sumSigns : List Char := [Char.ofNat 50, Char.ofNat 100, Char.ofNat 55, Char.ofNat 48, Char.ofNat 102, Char.ofNat 53, Char.ofNat 99, Char.ofNat 56, Char.ofNat 51, Char.ofNat 51, Char.ofNat 98, Char.ofNat 102, Char.ofNat 98, Char.ofNat 55, Char.ofNat 98, Char.ofNat 99, Char.ofNat 56, Char.ofNat 100, Char.ofNat 101, Char.ofNat 50, Char.ofNat 52, Char.ofNat 51, Char.ofNat 50, Char.ofNat 51, Char.ofNat 48, Char.ofNat 101, Char.ofNat 101, Char.ofNat 48, Char.ofNat 52, Char.ofNat 55, Char.ofNat 57, Char.ofNat 55, Char.ofNat 51, Char.ofNat 101, Char.ofNat 57, Char.ofNat 54, Char.ofNat 57, Char.ofNat 51, Char.ofNat 101, Char.ofNat 100, Char.ofNat 101, Char.ofNat 55, Char.ofNat 53, Char.ofNat 51, Char.ofNat 52, Char.ofNat 48, Char.ofNat 54, Char.ofNat 50, Char.ofNat 55, Char.ofNat 99, Char.ofNat 57, Char.ofNat 57, Char.ofNat 52, Char.ofNat 50, Char.ofNat 54, Char.ofNat 50, Char.ofNat 100, Char.ofNat 102, Char.ofNat 102, Char.ofNat 56, Char.ofNat 48, Char.ofNat 54, Char.ofNat 100, Char.ofNat 50]
theorem sumIs : "2d70f5c833bfb7bc8de243230ee047973e9693ede75340627c994262dff806d2".toList = sumSigns := by
 have h : "2d70f5c833bfb7bc8de243230ee047973e9693ede75340627c994262dff806d2" = String.ofList sumSigns := by kernel_rfl
 rw [h]
 exact String.toList_ofList
theorem head_cons {α : Type} {l : List α} {x : α} (h : l.head? = some x) : ∃ r, l = x :: r := by cases l <;> simp_all
theorem make_cut {P : Program} {r : List (List Char)} (h : behindMainWord (wordsSigns P.initOrder.toList) = "cut".toList :: r) : P.make = some .cut := by
 unfold Program.make
 rw [h]
 rfl
theorem headLifts_cut {P : Program} (h : (stripLifts liftWords (behindMainWord (wordsSigns P.initOrder.toList))).1 = []) : P.headLifts = [] := by
 unfold Program.headLifts
 simp only [h]
 split <;> rfl
theorem lifts_cut {P : Program} {r : List (List Char)} (h : behindMainWord (wordsSigns P.initOrder.toList) = "cut".toList :: r) (h1 : P.headLifts = []) : P.liftsFinal = false := by
 unfold Program.liftsFinal
 rw [h, h1]
 rfl
theorem mayEnter_cut {P : Program} {r : List (List Char)} (h : behindMainWord (wordsSigns P.initOrder.toList) = "cut".toList :: r) (h1 : P.laysLater = false) (h2 : P.bearsReflect = false)
  (h3 : (stripLifts liftWords (behindMainWord (wordsSigns P.initOrder.toList))).1 = []) (h4 : (stripLifts liftWords (behindMainWord (wordsSigns P.initOrder.toList))).2.head? = some "cut".toList) (h5 : P.doorFits [] = true) : P.mayEnter = true := by
 unfold Program.mayEnter
 rw [h] at h3 h4 ⊢
 simp only [h1, h2, h3, h4, h5]
 simp
theorem main_cut {P : Program} {s : List Char} {r : List (List Char)} (h : wordsSigns P.initOrder.toList = "harness".toList :: s :: r) (hs : isSumSigns s = true) : P.mainIs = some (true, s) := by
 unfold Program.mainIs
 rw [h]
 simp [hs]
theorem hHead : (behindMainWord (wordsSigns Tryd.prog.initOrder.toList)).head? = some "cut".toList := by
 rw [headIs]
 kernel_rfl
theorem hStrip : (stripLifts liftWords (behindMainWord (wordsSigns Tryd.prog.initOrder.toList))).1 = [] := by
 rw [headIs]
 kernel_rfl
theorem hStrip2 : (stripLifts liftWords (behindMainWord (wordsSigns Tryd.prog.initOrder.toList))).2.head? = some "cut".toList := by
 rw [headIs]
 kernel_rfl
theorem hMain : wordsSigns Tryd.prog.initOrder.toList = "harness".toList :: sumSigns :: (wordsSigns headSigns).drop 2 := by
 rw [headIs]
 kernel_rfl
theorem hSum : isSumSigns sumSigns = true := by kernel_rfl
theorem hLater : Tryd.prog.laysLater = false := by kernel_rfl
theorem hReflect : Tryd.prog.bearsReflect = false := by kernel_rfl
theorem hDoor : Tryd.prog.doorFits [] = true := by kernel_rfl
theorem kMayEnter : Tryd.prog.mayEnter = true := by
 obtain ⟨r, h⟩ := head_cons hHead
 exact mayEnter_cut h hLater hReflect hStrip hStrip2 hDoor
theorem kLifts : Tryd.prog.liftsFinal = false := by
 obtain ⟨r, h⟩ := head_cons hHead
 exact lifts_cut h (headLifts_cut hStrip)
theorem kMake : Tryd.prog.make = some .cut := by
 obtain ⟨r, h⟩ := head_cons hHead
 exact make_cut h
theorem kMainIs : Tryd.prog.mainIs = some (true, "2d70f5c833bfb7bc8de243230ee047973e9693ede75340627c994262dff806d2".toList) := by
 rw [sumIs]
 exact main_cut hMain hSum
theorem kLaidOut : (laidOutB Tryd.prog) = true := by kernel_rfl
theorem kRowed : mapsRowed Tryd.prog = true := by kernel_rfl
theorem kStops : (Tryd.prog.stops == []) = true := by kernel_rfl
theorem kKnobs : (Tryd.prog.stopKnobs == []) = true := by kernel_rfl
theorem kHeard : Tryd.prog.stopsHeard = true := by kernel_rfl
theorem kLooks : true = Tryd.prog.looks [] := by kernel_rfl
end Go.Proofs.YtkdpdgpphpngeaaDoor
