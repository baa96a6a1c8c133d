import Derived.JoinedOf
import Derived.SevenTiedAt
import Derived.Test.YtkdpdgpphpngeaaDoorPkLink4
namespace Go.Proofs.YtkdpdgpphpngeaaDoor
open Go Go.Sx
set_option linter.unusedVariables false
set_option linter.unusedSimpArgs false
set_option maxRecDepth 100000
attribute [local irreducible] mid zr8 zr32 numK valK rvalK numN rotr wordL spreadL comprL cpN adN spN wrdN constL initL padL stN outN routN sumG blkL xbN raN macL headT tagT frmT wayF seF flipB
theorem alive15_c  (w : World) (hG : GLs w) : Calls Tryd.prog 26 #[] w (Post w [] (fun v L => v = .bool true ∧ L = [])) := by
  refine enter w [] 36 [] [] Tryd.func26 rfl rfl (by simp) (Hp.start (by simp) (by simp) (by simp)) ?_
  show JC _ _ _ [] _
  refine JC_seq ?_
  refine JC_region ?_
  refine JL_val _ (Ev_assign rfl) rfl ?_
  refine JL_nil ?_
  refine JQ_then ?_
  refine JC_seq ?_
  refine JC_region ?_
  refine JL_val (.agg (cu8 (zr8 32)).toArray) (Ev_build [] _ rfl (fun _ => by kernel_rfl)) rfl ?_
  refine JL_step (Step_callN 27 [.agg (cu8 (zr8 32)).toArray, I64 (1:Int), U64 (3:UInt64), .slice none 0 0] _ (Cl_func [.agg (cu8 (zr8 32)).toArray, I64 (1:Int), U64 (3:UInt64), .slice none 0 0] Tryd.call27 rfl) (fun w1 hw1 => lseal_c (zr8 32) 1 (3:UInt64) none 0 0 ([] : List UInt8) 25 w1 (zr8_len 32) rfl (fun _ => rfl) (by omega) (by omega) RdB.nil (.inl rfl) (by omega) (by omega) (hG.at hw1))) rfl ?_
  rintro v1 L1 ⟨_, ⟨nb1, sp1, cp1, rfl, rfl, hc1, hc2, hc3⟩, rfl⟩
  show JL _ _ _ _ ((8, .tuple #[Slc nb1 0 25 cp1, .nilIface]) :: _) [⟨nb1, cu8 (frmT (zr8 32) 1 (3:UInt64) ([] : List UInt8)) ++ sp1, 5, (0, 0)⟩]
  refine JL_val _ (Ev_move rfl) rfl ?_
  refine JL_val _ (Ev_extract rfl rfl) rfl ?_
  refine JL_val _ (Ev_extract rfl rfl) rfl ?_
  refine JL_val _ (Ev_assign rfl) rfl ?_
  refine JL_val _ (Ev_assign rfl) rfl ?_
  refine JL_nil ?_
  refine JQ_then ?_
  refine JC_seq ?_
  refine JC_region ?_
  refine JL_val _ (Ev_move rfl) rfl ?_
  refine JL_step (Step_callP 41 [Slc nb1 0 25 cp1] (.tuple #[I64 (((wayF (frmT (zr8 32) 1 (3:UInt64) ([] : List UInt8))):Int)), U64 (seF (frmT (zr8 32) 1 (3:UInt64) ([] : List UInt8))), .nilIface]) (Cl_func [Slc nb1 0 25 cp1] Tryd.call41 rfl) (fun w1 hw1 => peek_c (some ⟨nb1, 0, none⟩) 25 cp1 (frmT (zr8 32) 1 (3:UInt64) ([] : List UInt8)) w1 (show (frmT (zr8 32) 1 (3:UInt64) ([] : List UInt8)).length = 25 from (frmT_len (n := 0) rfl)) (fun h => by cases h) (by omega) (by omega) (RdB.of hw1 (MemAt.ent 0 rfl (Seg.left (Seg.whole _))) (by simp)) (PkOk_frm (.inl rfl) (by simp)))) rfl ?_
  rintro v1 L1 ⟨rfl, rfl⟩
  show JL _ _ _ _ ((13, .tuple #[I64 (((wayF (frmT (zr8 32) 1 (3:UInt64) ([] : List UInt8))):Int)), U64 (seF (frmT (zr8 32) 1 (3:UInt64) ([] : List UInt8))), .nilIface]) :: _) [⟨nb1, cu8 (frmT (zr8 32) 1 (3:UInt64) ([] : List UInt8)) ++ sp1, 5, (0, 0)⟩]
  refine JL_val _ (Ev_move rfl) rfl ?_
  refine JL_val _ (Ev_extract rfl rfl) rfl ?_
  refine JL_val _ (Ev_extract rfl rfl) rfl ?_
  refine JL_val _ (Ev_extract rfl rfl) rfl ?_
  refine JL_val _ (Ev_assign rfl) rfl ?_
  refine JL_val _ (Ev_assign rfl) rfl ?_
  refine JL_val _ (Ev_assign rfl) rfl ?_
  refine JL_nil ?_
  refine JQ_then ?_
  refine JC_seq ?_
  refine JC_region ?_
  refine JL_val _ (Ev_move rfl) rfl ?_
  refine JL_val (.bool true) (Ev_bin _ _ _ rfl rfl (fun _ => eqGuard_nn ..) fun _ => eql_if_nil_nil Tryd.underlying45) rfl ?_
  refine JL_val _ (Ev_move rfl) rfl ?_
  refine JL_gval 2 19 true _ _ rfl rfl rfl (Ev_move rfl) rfl ?_
  refine JL_gval 2 19 true _ (.bool true) rfl rfl rfl (Ev_bin _ _ _ rfl rfl (fun _ => eqGuard_nn ..) fun _ => eql_if_nil_nil Tryd.underlying45) rfl ?_
  refine JL_val _ (Ev_pickT _ rfl rfl rfl) rfl ?_
  refine JL_val _ (Ev_move rfl) rfl ?_
  refine JL_gval 6 23 true _ _ rfl rfl rfl (Ev_move rfl) rfl ?_
  refine JL_gval 6 23 true _ (I64 (25:Int)) rfl rfl rfl (Ev_len Tryd.underlying43 rfl) rfl ?_
  refine JL_gval 6 23 true _ (.bool (decide ((25:Int) = (25:Int)))) rfl rfl rfl (Ev_bini rfl rfl fun _ => bin_eql_i _ _) rfl ?_
  refine JL_val _ (Ev_pickT _ rfl rfl rfl) rfl ?_
  refine JL_val _ (Ev_move rfl) rfl ?_
  refine JL_gval 11 28 true _ _ rfl rfl (by decide) (Ev_move rfl) rfl ?_
  refine JL_gval 11 28 true _ (.bool (decide ((((wayF (frmT (zr8 32) 1 (3:UInt64) ([] : List UInt8))):Int)) = (1:Int)))) rfl rfl (by decide) (Ev_bini rfl rfl fun _ => bin_eql_i _ _) rfl ?_
  refine JL_val _ (Ev_pickT _ rfl (by decide) rfl) rfl ?_
  refine JL_val _ (Ev_move rfl) rfl ?_
  refine JL_gval 15 32 true _ _ rfl rfl (decide_eq_true (by rw [wayF_frm (.inl rfl)]; rfl)) (Ev_move rfl) rfl ?_
  refine JL_gval 15 32 true _ (.bool (decide ((seF (frmT (zr8 32) 1 (3:UInt64) ([] : List UInt8))) = (3:UInt64)))) rfl rfl (decide_eq_true (by rw [wayF_frm (.inl rfl)]; rfl)) (Ev_bini rfl rfl fun _ => bin_eql_u64 (seF (frmT (zr8 32) 1 (3:UInt64) ([] : List UInt8))) (3:UInt64)) rfl ?_
  refine JL_val _ (Ev_pickT _ rfl (decide_eq_true (by rw [wayF_frm (.inl rfl)]; rfl)) rfl) rfl ?_
  refine JL_val _ (Ev_assign rfl) rfl ?_
  refine JL_nil ?_
  refine JQ_then ?_
  refine JC_ret ?_
  refine JQ_ret (.bool (decide ((seF (frmT (zr8 32) 1 (3:UInt64) ([] : List UInt8))) = (3:UInt64)))) (res1 Tryd.results26 (RV_tmp rfl)) fun w1 hw1 => ?_
  exact ⟨_, [], rfl, ⟨by rw [show (decide ((seF (frmT (zr8 32) 1 (3:UInt64) ([] : List UInt8))) = (3:UInt64))) = true from (decide_eq_true seF_frm)], rfl⟩, hw1.sub (by simp) (by simp)⟩

theorem linkSizesP_c (n : Nat) (w : World) (hG : GLs w) (hn : n ≤ 1099511627776) : Calls Tryd.prog 5 #[I64 ((n:Int))] w (Post w [] (fun v L => v = .bool true ∧ L = [])) := by
  refine enter w [] 13 [] [I64 ((n:Int))] Tryd.func5 rfl rfl (by simp) (Hp.start (by simp) (by simp) (by simp)) ?_
  show JC _ _ _ [(0, I64 ((n:Int)))] _
  refine JC_seq ?_
  refine JC_region ?_
  refine JL_val _ (Ev_assign rfl) rfl ?_
  refine JL_nil ?_
  refine JQ_then ?_
  refine JC_seq ?_
  refine JC_seq ?_
  refine JC_region ?_
  refine JL_step (Step_callP 26 [] (.bool true) (Cl_func [] Tryd.call26 rfl) (fun w1 hw1 => alive15_c  w1 (hG.at hw1))) rfl ?_
  rintro v1 L1 ⟨rfl, rfl⟩
  show JL _ _ _ _ ((3, .bool true) :: _) []
  refine JL_val (.bool (!true)) (Ev_not rfl) rfl ?_
  refine JL_nil ?_
  refine JQ_then ?_
  refine JC_condF _ rfl rfl ?_
  refine JC_skip ?_
  refine JQ_then ?_
  refine JC_seq ?_
  refine JC_seq ?_
  refine JC_region ?_
  refine JL_val _ (Ev_move rfl) rfl ?_
  refine JL_val (.bool (decide ((1099511627776:Int) < ((n:Int))))) (Ev_bini rfl rfl fun _ => bin_gtr_i _ _) rfl ?_
  refine JL_nil ?_
  refine JQ_then ?_
  refine JC_condF _ rfl (decide_eq_false (by omega)) ?_
  refine JC_skip ?_
  refine JQ_then ?_
  refine JC_seq ?_
  refine JC_region ?_
  refine JL_val _ (Ev_move rfl) rfl ?_
  refine JL_step (Step_callP 30 [I64 ((n:Int))] (I64 ((n:Int) + 25)) (Cl_func [I64 ((n:Int))] Tryd.call30 rfl) (fun w1 hw1 => lbytes_c n w1 (by omega))) rfl ?_
  rintro v1 L1 ⟨rfl, rfl⟩
  show JL _ _ _ _ ((8, I64 ((n:Int) + 25)) :: _) []
  refine JL_val _ (Ev_move rfl) rfl ?_
  refine JL_val (I64 ((n:Int))) (Ev_max rfl rfl (by have h : (decide ((0:Int) ≤ ((n:Int)))) = true := (decide_eq_true (by omega)); have := of_decide_eq_true h; omega)) rfl ?_
  refine JL_val (I64 ((n:Int) + 25)) (Ev_bini rfl rfl fun _ => bin_add_i _ _ ((n:Int) + 25) (by omega) (by omega)) rfl ?_
  refine JL_val (.bool (decide (((n:Int) + 25) = ((n:Int) + 25)))) (Ev_bini rfl rfl fun _ => bin_eql_i _ _) rfl ?_
  refine JL_val _ (Ev_assign rfl) rfl ?_
  refine JL_nil ?_
  refine JQ_then ?_
  refine JC_ret ?_
  refine JQ_ret (.bool (decide (((n:Int) + 25) = ((n:Int) + 25)))) (res1 Tryd.results5 (RV_tmp rfl)) fun w1 hw1 => ?_
  exact ⟨_, [], rfl, ⟨by rw [show (decide (((n:Int) + 25) = ((n:Int) + 25))) = true from (by simp)], rfl⟩, hw1.sub (by simp) (by simp)⟩

theorem linkSizesM_c (b : Int) (w : World) (hG : GLs w) (hb : b < 0) : Calls Tryd.prog 5 #[I64 (b)] w (Post w [] (fun v L => v = .bool true ∧ L = [])) := by
  refine enter w [] 13 [] [I64 (b)] Tryd.func5 rfl rfl (by simp) (Hp.start (by simp) (by simp) (by simp)) ?_
  show JC _ _ _ [(0, I64 (b))] _
  refine JC_seq ?_
  refine JC_region ?_
  refine JL_val _ (Ev_assign rfl) rfl ?_
  refine JL_nil ?_
  refine JQ_then ?_
  refine JC_seq ?_
  refine JC_seq ?_
  refine JC_region ?_
  refine JL_step (Step_callP 26 [] (.bool true) (Cl_func [] Tryd.call26 rfl) (fun w1 hw1 => alive15_c  w1 (hG.at hw1))) rfl ?_
  rintro v1 L1 ⟨rfl, rfl⟩
  show JL _ _ _ _ ((3, .bool true) :: _) []
  refine JL_val (.bool (!true)) (Ev_not rfl) rfl ?_
  refine JL_nil ?_
  refine JQ_then ?_
  refine JC_condF _ rfl rfl ?_
  refine JC_skip ?_
  refine JQ_then ?_
  refine JC_seq ?_
  refine JC_seq ?_
  refine JC_region ?_
  refine JL_val _ (Ev_move rfl) rfl ?_
  refine JL_val (.bool (decide ((1099511627776:Int) < (b)))) (Ev_bini rfl rfl fun _ => bin_gtr_i _ _) rfl ?_
  refine JL_nil ?_
  refine JQ_then ?_
  refine JC_condF _ rfl (decide_eq_false (by omega)) ?_
  refine JC_skip ?_
  refine JQ_then ?_
  refine JC_seq ?_
  refine JC_region ?_
  refine JL_val _ (Ev_move rfl) rfl ?_
  refine JL_step (Step_callP 30 [I64 (b)] (I64 (25:Int)) (Cl_func [I64 (b)] Tryd.call30 rfl) (fun w1 hw1 => lbytesM_c (b) w1 hb)) rfl ?_
  rintro v1 L1 ⟨rfl, rfl⟩
  show JL _ _ _ _ ((8, I64 (25:Int)) :: _) []
  refine JL_val _ (Ev_move rfl) rfl ?_
  refine JL_val (I64 (0:Int)) (Ev_max rfl rfl (by have h : (decide ((0:Int) ≤ (b))) = false := (decide_eq_false (by omega)); have := of_decide_eq_false h; omega)) rfl ?_
  refine JL_val (I64 (25:Int)) (Ev_bini rfl rfl fun _ => bin_add_i _ _ (25:Int) (by omega) (by omega)) rfl ?_
  refine JL_val (.bool (decide ((25:Int) = (25:Int)))) (Ev_bini rfl rfl fun _ => bin_eql_i _ _) rfl ?_
  refine JL_val _ (Ev_assign rfl) rfl ?_
  refine JL_nil ?_
  refine JQ_then ?_
  refine JC_ret ?_
  refine JQ_ret (.bool (decide ((25:Int) = (25:Int)))) (res1 Tryd.results5 (RV_tmp rfl)) fun w1 hw1 => ?_
  exact ⟨_, [], rfl, ⟨by rw [show (decide ((25:Int) = (25:Int))) = true from (by decide)], rfl⟩, hw1.sub (by simp) (by simp)⟩

theorem linkSizesB_c (b : Int) (w : World) (hG : GLs w) (hb : 1099511627776 < b) : Calls Tryd.prog 5 #[I64 (b)] w (Post w [] (fun v L => v = .bool true ∧ L = [])) := by
  refine enter w [] 13 [] [I64 (b)] Tryd.func5 rfl rfl (by simp) (Hp.start (by simp) (by simp) (by simp)) ?_
  show JC _ _ _ [(0, I64 (b))] _
  refine JC_seq ?_
  refine JC_region ?_
  refine JL_val _ (Ev_assign rfl) rfl ?_
  refine JL_nil ?_
  refine JQ_then ?_
  refine JC_seq ?_
  refine JC_seq ?_
  refine JC_region ?_
  refine JL_step (Step_callP 26 [] (.bool true) (Cl_func [] Tryd.call26 rfl) (fun w1 hw1 => alive15_c  w1 (hG.at hw1))) rfl ?_
  rintro v1 L1 ⟨rfl, rfl⟩
  show JL _ _ _ _ ((3, .bool true) :: _) []
  refine JL_val (.bool (!true)) (Ev_not rfl) rfl ?_
  refine JL_nil ?_
  refine JQ_then ?_
  refine JC_condF _ rfl rfl ?_
  refine JC_skip ?_
  refine JQ_then ?_
  refine JC_seq ?_
  refine JC_seq ?_
  refine JC_region ?_
  refine JL_val _ (Ev_move rfl) rfl ?_
  refine JL_val (.bool (decide ((1099511627776:Int) < (b)))) (Ev_bini rfl rfl fun _ => bin_gtr_i _ _) rfl ?_
  refine JL_nil ?_
  refine JQ_then ?_
  refine JC_condT _ rfl (decide_eq_true (by omega)) ?_
  refine JC_seq ?_
  refine JC_region ?_
  refine JL_val _ (Ev_assign rfl) rfl ?_
  refine JL_nil ?_
  refine JQ_then ?_
  refine JC_ret ?_
  refine JQ_then_ret ?_
  refine JQ_ret (.bool true) (res1 Tryd.results5 (RV_tmp rfl)) fun w1 hw1 => ?_
  exact ⟨_, [], rfl, ⟨by rw [show (true) = true from rfl], rfl⟩, hw1.sub (by simp) (by simp)⟩

theorem linkSizes_w (b : Int) (w : World) (hb : -9223372036854775808 ≤ b ∧ b ≤ 9223372036854775807) (hG : GLs w) : Calls Tryd.prog 5 #[I64 b] w (Post w [] (fun v L => v = .bool true ∧ L = [])) := by
  by_cases h1 : b < 0
  · exact linkSizesM_c b w hG h1
  · by_cases h2 : 1099511627776 < b
    · exact linkSizesB_c b w hG h2
    · obtain ⟨n, rfl⟩ : ∃ n : Nat, b = n := ⟨b.toNat, by omega⟩
      exact linkSizesP_c n w hG (by omega)

theorem linkSealsX_c (key : List UInt8) (way : Int) (s : UInt64) (az : Option Addr) (n cz : Nat) (z : List UInt8)  (w : World) (hk : key.length = 32) (hz : z.length = n) (hcb : az = none → cz = 0) (hnc : n ≤ cz) (hcm : cz ≤ maxLen) (hr : RdB w [] az z) (hG : GLs w) (hGr : GLr w) (hGi : GLi w) (hx : (3000 < n ∧ n < 262100) ∨ 300000 < n) : Calls Tryd.prog 4 #[.agg (cu8 key).toArray, .agg (List.toArray (α := Value) ([I64 (way), U64 s])), .slice az n cz] w (Post w [] (fun v L => v = .bool true ∧ L = [])) := by
  refine enter (P := Tryd.prog) (f := 4) (fn := Tryd.f4) w [] 67 [] [.agg (cu8 key).toArray, .agg (List.toArray (α := Value) ([I64 (way), U64 s])), .slice az n cz] Tryd.func4 rfl rfl (by simp) (Hp.start (by simp) (by simp) (by simp)) ?_
  show JC _ _ _ [(0, .agg (cu8 key).toArray), (1, .agg (List.toArray (α := Value) ([I64 (way), U64 s]))), (2, .slice az n cz)] _
  refine JC_seq ?_
  refine JC_region ?_
  refine JL_step (Step_box (.agg (cu8 key).toArray) (cu8 key) rfl (by first | rfl | simp)) rfl ?_
  rintro v1 L1 ⟨nb1, hnb1, rfl, rfl⟩
  show JL _ _ _ _ ((3, Ptr nb1 0) :: _) [⟨nb1, cu8 key, 54, (0, 0)⟩]
  refine JL_step (Step_box (.agg (List.toArray (α := Value) ([I64 (way), U64 s]))) ([I64 (way), U64 s]) rfl (by first | rfl | simp)) rfl ?_
  rintro v1 L1 ⟨nb2, hnb2, rfl, rfl⟩
  show JL _ _ _ _ ((4, Ptr nb2 0) :: _) [⟨nb1, cu8 key, 54, (0, 0)⟩, ⟨nb2, [I64 (way), U64 s], 56, (0, 0)⟩]
  refine JL_val _ (Ev_assign rfl) rfl ?_
  refine JL_nil ?_
  refine JQ_then ?_
  refine JC_seq ?_
  refine JC_seq ?_
  refine JC_region ?_
  refine JL_step (Step_callP 26 [] (.bool true) (Cl_func [] Tryd.call26 rfl) (fun w1 hw1 => alive15_c  w1 (hG.at hw1))) rfl ?_
  rintro v1 L1 ⟨rfl, rfl⟩
  show JL _ _ _ _ ((11, .bool true) :: _) [⟨nb1, cu8 key, 54, (0, 0)⟩, ⟨nb2, [I64 (way), U64 s], 56, (0, 0)⟩]
  refine JL_val (.bool (!true)) (Ev_not rfl) rfl ?_
  refine JL_nil ?_
  refine JQ_then ?_
  refine JC_condF _ rfl rfl ?_
  refine JC_skip ?_
  refine JQ_then ?_
  refine JC_seq ?_
  refine JC_seq ?_
  refine JC_region ?_
  refine JL_val _ (Ev_move rfl) rfl ?_
  refine JL_val (I64 ((n:Int))) (Ev_len Tryd.underlying43 rfl) rfl ?_
  refine JL_val (.bool (decide ((3000:Int) < ((n:Int))))) (Ev_bini rfl rfl fun _ => bin_gtr_i _ _) rfl ?_
  refine JL_val _ (Ev_move rfl) rfl ?_
  refine JL_gval 3 16 true _ _ rfl rfl (decide_eq_true (by omega)) (Ev_move rfl) rfl ?_
  refine JL_gval 3 16 true _ (I64 ((n:Int))) rfl rfl (decide_eq_true (by omega)) (Ev_len Tryd.underlying43 rfl) rfl ?_
  refine JL_gval 3 16 true _ (.bool (decide (((n:Int)) < (262100:Int)))) rfl rfl (decide_eq_true (by omega)) (Ev_bini rfl rfl fun _ => bin_lss_i _ _) rfl ?_
  refine JL_val _ (Ev_pickT _ rfl (decide_eq_true (by omega)) rfl) rfl ?_
  refine JL_val _ (Ev_move rfl) rfl ?_
  rcases Bool.eq_false_or_eq_true (decide (((n:Int)) < (262100:Int))) with hb1 | hb1
  ·
    have hp1 : ((n:Int)) < (262100:Int) := of_decide_eq_true hb1
    refine JL_gskip 8 21 false _ rfl rfl hb1 rfl ?_
    refine JL_gskip 8 21 false _ rfl rfl hb1 rfl ?_
    refine JL_gskip 8 21 false _ rfl rfl hb1 rfl ?_
    refine JL_val _ (Ev_pickT _ rfl hb1 rfl) rfl ?_
    refine JL_nil ?_
    refine JQ_then ?_
    refine JC_condT _ rfl rfl ?_
    refine JC_seq ?_
    refine JC_region ?_
    refine JL_val _ (Ev_assign rfl) rfl ?_
    refine JL_nil ?_
    refine JQ_then ?_
    refine JC_ret ?_
    refine JQ_then_ret ?_
    refine JQ_ret (.bool true) (res1 Tryd.results4 (RV_tmp rfl)) fun w1 hw1 => ?_
    exact ⟨_, [], rfl, ⟨by rw [show (true) = true from rfl], rfl⟩, hw1.sub (by simp) (by simp)⟩
  ·
    have hp1 : ¬ (((n:Int)) < (262100:Int)) := of_decide_eq_false hb1
    refine JL_gval 8 21 false _ _ rfl rfl hb1 (Ev_move rfl) rfl ?_
    refine JL_gval 8 21 false _ (I64 ((n:Int))) rfl rfl hb1 (Ev_len Tryd.underlying43 rfl) rfl ?_
    refine JL_gval 8 21 false _ (.bool (decide ((300000:Int) < ((n:Int))))) rfl rfl hb1 (Ev_bini rfl rfl fun _ => bin_gtr_i _ _) rfl ?_
    refine JL_val _ (Ev_pickF _ rfl hb1 rfl) rfl ?_
    refine JL_nil ?_
    refine JQ_then ?_
    refine JC_condT _ rfl (decide_eq_true (by omega)) ?_
    refine JC_seq ?_
    refine JC_region ?_
    refine JL_val _ (Ev_assign rfl) rfl ?_
    refine JL_nil ?_
    refine JQ_then ?_
    refine JC_ret ?_
    refine JQ_then_ret ?_
    refine JQ_ret (.bool true) (res1 Tryd.results4 (RV_tmp rfl)) fun w1 hw1 => ?_
    exact ⟨_, [], rfl, ⟨by rw [show (true) = true from rfl], rfl⟩, hw1.sub (by simp) (by simp)⟩

theorem linkSealsWS_c (key : List UInt8) (way : Int) (s : UInt64) (az : Option Addr) (n cz : Nat) (z : List UInt8)  (w : World) (hk : key.length = 32) (hz : z.length = n) (hcb : az = none → cz = 0) (hnc : n ≤ cz) (hcm : cz ≤ maxLen) (hr : RdB w [] az z) (hG : GLs w) (hGr : GLr w) (hGi : GLi w) (hn : n ≤ 3000) (hw : ¬ (way = 1 ∨ way = 2)) : Calls Tryd.prog 4 #[.agg (cu8 key).toArray, .agg (List.toArray (α := Value) ([I64 (way), U64 s])), .slice az n cz] w (Post w [] (fun v L => v = .bool true ∧ L = [])) := by
  have hmx : maxLen = 9223372036854775807 := rfl
  refine enter (P := Tryd.prog) (f := 4) (fn := Tryd.f4) w [] 67 [] [.agg (cu8 key).toArray, .agg (List.toArray (α := Value) ([I64 (way), U64 s])), .slice az n cz] Tryd.func4 rfl rfl (by simp) (Hp.start (by simp) (by simp) (by simp)) ?_
  show JC _ _ _ [(0, .agg (cu8 key).toArray), (1, .agg (List.toArray (α := Value) ([I64 (way), U64 s]))), (2, .slice az n cz)] _
  refine JC_seq ?_
  refine JC_region ?_
  refine JL_step (Step_box (.agg (cu8 key).toArray) (cu8 key) rfl (by first | rfl | simp)) rfl ?_
  rintro v1 L1 ⟨nb1, hnb1, rfl, rfl⟩
  show JL _ _ _ _ ((3, Ptr nb1 0) :: _) [⟨nb1, cu8 key, 54, (0, 0)⟩]
  refine JL_step (Step_box (.agg (List.toArray (α := Value) ([I64 (way), U64 s]))) ([I64 (way), U64 s]) rfl (by first | rfl | simp)) rfl ?_
  rintro v1 L1 ⟨nb2, hnb2, rfl, rfl⟩
  show JL _ _ _ _ ((4, Ptr nb2 0) :: _) [⟨nb1, cu8 key, 54, (0, 0)⟩, ⟨nb2, [I64 (way), U64 s], 56, (0, 0)⟩]
  refine JL_val _ (Ev_assign rfl) rfl ?_
  refine JL_nil ?_
  refine JQ_then ?_
  refine JC_seq ?_
  refine JC_seq ?_
  refine JC_region ?_
  refine JL_step (Step_callP 26 [] (.bool true) (Cl_func [] Tryd.call26 rfl) (fun w1 hw1 => alive15_c  w1 (hG.at hw1))) rfl ?_
  rintro v1 L1 ⟨rfl, rfl⟩
  show JL _ _ _ _ ((11, .bool true) :: _) [⟨nb1, cu8 key, 54, (0, 0)⟩, ⟨nb2, [I64 (way), U64 s], 56, (0, 0)⟩]
  refine JL_val (.bool (!true)) (Ev_not rfl) rfl ?_
  refine JL_nil ?_
  refine JQ_then ?_
  refine JC_condF _ rfl rfl ?_
  refine JC_skip ?_
  refine JQ_then ?_
  refine JC_seq ?_
  refine JC_seq ?_
  refine JC_region ?_
  refine JL_val _ (Ev_move rfl) rfl ?_
  refine JL_val (I64 ((n:Int))) (Ev_len Tryd.underlying43 rfl) rfl ?_
  refine JL_val (.bool (decide ((3000:Int) < ((n:Int))))) (Ev_bini rfl rfl fun _ => bin_gtr_i _ _) rfl ?_
  refine JL_val _ (Ev_move rfl) rfl ?_
  refine JL_gskip 3 16 true _ rfl rfl (decide_eq_false (by omega)) rfl ?_
  refine JL_gskip 3 16 true _ rfl rfl (decide_eq_false (by omega)) rfl ?_
  refine JL_gskip 3 16 true _ rfl rfl (decide_eq_false (by omega)) rfl ?_
  refine JL_val _ (Ev_pickF _ rfl (decide_eq_false (by omega)) rfl) rfl ?_
  refine JL_val _ (Ev_move rfl) rfl ?_
  refine JL_gval 8 21 false _ _ rfl rfl rfl (Ev_move rfl) rfl ?_
  refine JL_gval 8 21 false _ (I64 ((n:Int))) rfl rfl rfl (Ev_len Tryd.underlying43 rfl) rfl ?_
  refine JL_gval 8 21 false _ (.bool (decide ((300000:Int) < ((n:Int))))) rfl rfl rfl (Ev_bini rfl rfl fun _ => bin_gtr_i _ _) rfl ?_
  refine JL_val _ (Ev_pickF _ rfl rfl rfl) rfl ?_
  refine JL_nil ?_
  refine JQ_then ?_
  refine JC_condF _ rfl (decide_eq_false (by omega)) ?_
  refine JC_skip ?_
  refine JQ_then ?_
  refine JC_seq ?_
  refine JC_region ?_
  refine JL_val (.agg (cu8 key).toArray) (Ev_load rfl (Ld_agg Tryd.isAgg54 Tryd.sizeOf54 (len_cu8 hk) (MemAt.ent 0 rfl (Seg.whole _)))) rfl ?_
  refine JL_val (Ptr nb2 0) (Ev_fieldAddr 0 3 1 Tryd.underlying56 rfl Tryd.sizeOf3 rfl rfl) rfl ?_
  refine JL_val (I64 (way)) (Ev_load rfl (Ld_one Tryd.isAgg3 (MemAt.ent 1 rfl (Seg.head)))) rfl ?_
  refine JL_val (Ptr nb2 1) (Ev_fieldAddr 1 22 1 Tryd.underlying56 rfl Tryd.sizeOf22 rfl rfl) rfl ?_
  refine JL_val (U64 s) (Ev_load rfl (Ld_one Tryd.isAgg22 (MemAt.ent 1 rfl (Seg.tail (Seg.head))))) rfl ?_
  refine JL_val _ (Ev_move rfl) rfl ?_
  refine JL_step (Step_callP 27 [.agg (cu8 key).toArray, I64 (way), U64 s, .slice az n cz] (.tuple #[.slice none 0 0, .iface 50 (I64 (2:Int))]) (Cl_func [.agg (cu8 key).toArray, I64 (way), U64 s, .slice az n cz] Tryd.call27 rfl) (fun w1 hw1 => lsealW_c key (way) s az n cz z w1 hk hz hcb (by omega) (by omega) (hr.at (M' := []) hw1 (by simp)) hw)) rfl ?_
  rintro v1 L1 ⟨rfl, rfl⟩
  show JL _ _ _ _ ((33, .tuple #[.slice none 0 0, .iface 50 (I64 (2:Int))]) :: _) [⟨nb1, cu8 key, 54, (0, 0)⟩, ⟨nb2, [I64 (way), U64 s], 56, (0, 0)⟩]
  refine JL_val _ (Ev_move rfl) rfl ?_
  refine JL_val _ (Ev_extract rfl rfl) rfl ?_
  refine JL_val _ (Ev_extract rfl rfl) rfl ?_
  refine JL_val _ (Ev_assign rfl) rfl ?_
  refine JL_val _ (Ev_assign rfl) rfl ?_
  refine JL_nil ?_
  refine JQ_then ?_
  refine JC_seq ?_
  refine JC_region ?_
  refine JL_val (.agg (cu8 key).toArray) (Ev_load rfl (Ld_agg Tryd.isAgg54 Tryd.sizeOf54 (len_cu8 hk) (MemAt.ent 0 rfl (Seg.whole _)))) rfl ?_
  refine JL_val (Ptr nb2 0) (Ev_fieldAddr 0 3 1 Tryd.underlying56 rfl Tryd.sizeOf3 rfl rfl) rfl ?_
  refine JL_val (I64 (way)) (Ev_load rfl (Ld_one Tryd.isAgg3 (MemAt.ent 1 rfl (Seg.head)))) rfl ?_
  refine JL_val (Ptr nb2 1) (Ev_fieldAddr 1 22 1 Tryd.underlying56 rfl Tryd.sizeOf22 rfl rfl) rfl ?_
  refine JL_val (U64 s) (Ev_load rfl (Ld_one Tryd.isAgg22 (MemAt.ent 1 rfl (Seg.tail (Seg.head))))) rfl ?_
  refine JL_val _ (Ev_move rfl) rfl ?_
  refine JL_step (Step_callP 28 [.agg (cu8 key).toArray, I64 (way), U64 s, .slice az n cz] (.tuple #[.slice none 0 0, I64 (2:Int)]) (Cl_func [.agg (cu8 key).toArray, I64 (way), U64 s, .slice az n cz] Tryd.call28 rfl) (fun w1 hw1 => rsealW_c key (way) s az n cz z w1 hk hz hcb (by omega) (by omega) (hr.at (M' := []) hw1 (by simp)) hw)) rfl ?_
  rintro v1 L1 ⟨rfl, rfl⟩
  show JL _ _ _ _ ((43, .tuple #[.slice none 0 0, I64 (2:Int)]) :: _) [⟨nb1, cu8 key, 54, (0, 0)⟩, ⟨nb2, [I64 (way), U64 s], 56, (0, 0)⟩]
  refine JL_val _ (Ev_move rfl) rfl ?_
  refine JL_val _ (Ev_extract rfl rfl) rfl ?_
  refine JL_val _ (Ev_extract rfl rfl) rfl ?_
  refine JL_val _ (Ev_assign rfl) rfl ?_
  refine JL_val _ (Ev_assign rfl) rfl ?_
  refine JL_nil ?_
  refine JQ_then ?_
  refine JC_seq ?_
  refine JC_region ?_
  refine JL_val _ (Ev_move rfl) rfl ?_
  refine JL_step (Step_callP 29 [.iface 50 (I64 (2:Int))] (I64 (2:Int)) (Cl_func [.iface 50 (I64 (2:Int))] Tryd.call29 rfl) (fun w1 hw1 => errSome_c 2 w1 (by decide))) rfl ?_
  rintro v1 L1 ⟨rfl, rfl⟩
  show JL _ _ _ _ ((47, I64 (2:Int)) :: _) [⟨nb1, cu8 key, 54, (0, 0)⟩, ⟨nb2, [I64 (way), U64 s], 56, (0, 0)⟩]
  refine JL_val _ (Ev_move rfl) rfl ?_
  refine JL_val (.bool (decide ((2:Int) = (2:Int)))) (Ev_bini rfl rfl fun _ => bin_eql_i _ _) rfl ?_
  refine JL_val _ (Ev_move rfl) rfl ?_
  refine JL_gval 4 50 true _ _ rfl rfl (by decide) (Ev_move rfl) rfl ?_
  refine JL_gval 4 50 true _ _ rfl rfl (by decide) (Ev_move rfl) rfl ?_
  refine JL_gstep 4 50 true _ rfl rfl (by decide) (Step_callP 24 [.slice none 0 0, .slice none 0 0] (.bool (decide (([] : List UInt8) = ([] : List UInt8)))) (Cl_func [.slice none 0 0, .slice none 0 0] Tryd.call24 rfl) (fun w1 hw1 => bytes_c none none 0 0 0 0 ([] : List UInt8) ([] : List UInt8) w1 rfl rfl RdB.nil RdB.nil)) rfl ?_
  rintro v1 L1 ⟨rfl, rfl⟩
  show JL _ _ _ _ ((53, .bool (decide (([] : List UInt8) = ([] : List UInt8)))) :: _) [⟨nb1, cu8 key, 54, (0, 0)⟩, ⟨nb2, [I64 (way), U64 s], 56, (0, 0)⟩]
  refine JL_val _ (Ev_pickT _ rfl (by decide) rfl) rfl ?_
  refine JL_val _ (Ev_move rfl) rfl ?_
  refine JL_gval 9 55 true _ _ rfl rfl (decide_eq_true rfl) (Ev_move rfl) rfl ?_
  refine JL_gval 9 55 true _ (.bool true) rfl rfl (decide_eq_true rfl) (Ev_bin _ _ _ rfl rfl (fun _ => eqGuard_if ..) fun _ => neq_if_nil Tryd.underlying45) rfl ?_
  refine JL_gval 9 55 true _ _ rfl rfl (decide_eq_true rfl) (Ev_move rfl) rfl ?_
  refine JL_gskip 12 58 false _ rfl rfl rfl rfl ?_
  refine JL_gskip 12 58 false _ rfl rfl rfl rfl ?_
  refine JL_gskip 12 58 false _ rfl rfl rfl rfl ?_
  refine JL_gskip 12 58 false _ rfl rfl rfl rfl ?_
  refine JL_gskip 12 58 false _ rfl rfl rfl rfl ?_
  refine JL_gskip 12 58 false _ rfl rfl rfl rfl ?_
  refine JL_gval 9 55 true _ _ rfl rfl (decide_eq_true rfl) (Ev_pickT _ rfl rfl rfl) rfl ?_
  refine JL_val _ (Ev_pickT _ rfl (decide_eq_true rfl) rfl) rfl ?_
  refine JL_val _ (Ev_assign rfl) rfl ?_
  refine JL_nil ?_
  refine JQ_then ?_
  refine JC_ret ?_
  refine JQ_ret (.bool true) (res1 Tryd.results4 (RV_tmp rfl)) fun w1 hw1 => ?_
  exact ⟨_, [], rfl, ⟨by rw [show (true) = true from rfl], rfl⟩, hw1.sub (by simp) (by simp)⟩

theorem linkSealsKS_c (key : List UInt8) (k : Nat) (s : UInt64) (az : Option Addr) (n cz : Nat) (z : List UInt8)  (w : World) (hk : key.length = 32) (hz : z.length = n) (hcb : az = none → cz = 0) (hnc : n ≤ cz) (hcm : cz ≤ maxLen) (hr : RdB w [] az z) (hG : GLs w) (hGr : GLr w) (hGi : GLi w) (hn : n ≤ 3000) (hw : k = 1 ∨ k = 2) (hf : n + 25 ≤ 262144) : Calls Tryd.prog 4 #[.agg (cu8 key).toArray, .agg (List.toArray (α := Value) ([I64 ((k:Int)), U64 s])), .slice az n cz] w (Post w [] (fun v L => v = .bool true ∧ L = [])) := by
  have hmx : maxLen = 9223372036854775807 := rfl
  refine enter (P := Tryd.prog) (f := 4) (fn := Tryd.f4) w [] 67 [] [.agg (cu8 key).toArray, .agg (List.toArray (α := Value) ([I64 ((k:Int)), U64 s])), .slice az n cz] Tryd.func4 rfl rfl (by simp) (Hp.start (by simp) (by simp) (by simp)) ?_
  show JC _ _ _ [(0, .agg (cu8 key).toArray), (1, .agg (List.toArray (α := Value) ([I64 ((k:Int)), U64 s]))), (2, .slice az n cz)] _
  refine JC_seq ?_
  refine JC_region ?_
  refine JL_step (Step_box (.agg (cu8 key).toArray) (cu8 key) rfl (by first | rfl | simp)) rfl ?_
  rintro v1 L1 ⟨nb1, hnb1, rfl, rfl⟩
  show JL _ _ _ _ ((3, Ptr nb1 0) :: _) [⟨nb1, cu8 key, 54, (0, 0)⟩]
  refine JL_step (Step_box (.agg (List.toArray (α := Value) ([I64 ((k:Int)), U64 s]))) ([I64 ((k:Int)), U64 s]) rfl (by first | rfl | simp)) rfl ?_
  rintro v1 L1 ⟨nb2, hnb2, rfl, rfl⟩
  show JL _ _ _ _ ((4, Ptr nb2 0) :: _) [⟨nb1, cu8 key, 54, (0, 0)⟩, ⟨nb2, [I64 ((k:Int)), U64 s], 56, (0, 0)⟩]
  refine JL_val _ (Ev_assign rfl) rfl ?_
  refine JL_nil ?_
  refine JQ_then ?_
  refine JC_seq ?_
  refine JC_seq ?_
  refine JC_region ?_
  refine JL_step (Step_callP 26 [] (.bool true) (Cl_func [] Tryd.call26 rfl) (fun w1 hw1 => alive15_c  w1 (hG.at hw1))) rfl ?_
  rintro v1 L1 ⟨rfl, rfl⟩
  show JL _ _ _ _ ((11, .bool true) :: _) [⟨nb1, cu8 key, 54, (0, 0)⟩, ⟨nb2, [I64 ((k:Int)), U64 s], 56, (0, 0)⟩]
  refine JL_val (.bool (!true)) (Ev_not rfl) rfl ?_
  refine JL_nil ?_
  refine JQ_then ?_
  refine JC_condF _ rfl rfl ?_
  refine JC_skip ?_
  refine JQ_then ?_
  refine JC_seq ?_
  refine JC_seq ?_
  refine JC_region ?_
  refine JL_val _ (Ev_move rfl) rfl ?_
  refine JL_val (I64 ((n:Int))) (Ev_len Tryd.underlying43 rfl) rfl ?_
  refine JL_val (.bool (decide ((3000:Int) < ((n:Int))))) (Ev_bini rfl rfl fun _ => bin_gtr_i _ _) rfl ?_
  refine JL_val _ (Ev_move rfl) rfl ?_
  refine JL_gskip 3 16 true _ rfl rfl (decide_eq_false (by omega)) rfl ?_
  refine JL_gskip 3 16 true _ rfl rfl (decide_eq_false (by omega)) rfl ?_
  refine JL_gskip 3 16 true _ rfl rfl (decide_eq_false (by omega)) rfl ?_
  refine JL_val _ (Ev_pickF _ rfl (decide_eq_false (by omega)) rfl) rfl ?_
  refine JL_val _ (Ev_move rfl) rfl ?_
  refine JL_gval 8 21 false _ _ rfl rfl rfl (Ev_move rfl) rfl ?_
  refine JL_gval 8 21 false _ (I64 ((n:Int))) rfl rfl rfl (Ev_len Tryd.underlying43 rfl) rfl ?_
  refine JL_gval 8 21 false _ (.bool (decide ((300000:Int) < ((n:Int))))) rfl rfl rfl (Ev_bini rfl rfl fun _ => bin_gtr_i _ _) rfl ?_
  refine JL_val _ (Ev_pickF _ rfl rfl rfl) rfl ?_
  refine JL_nil ?_
  refine JQ_then ?_
  refine JC_condF _ rfl (decide_eq_false (by omega)) ?_
  refine JC_skip ?_
  refine JQ_then ?_
  refine JC_seq ?_
  refine JC_region ?_
  refine JL_val (.agg (cu8 key).toArray) (Ev_load rfl (Ld_agg Tryd.isAgg54 Tryd.sizeOf54 (len_cu8 hk) (MemAt.ent 0 rfl (Seg.whole _)))) rfl ?_
  refine JL_val (Ptr nb2 0) (Ev_fieldAddr 0 3 1 Tryd.underlying56 rfl Tryd.sizeOf3 rfl rfl) rfl ?_
  refine JL_val (I64 ((k:Int))) (Ev_load rfl (Ld_one Tryd.isAgg3 (MemAt.ent 1 rfl (Seg.head)))) rfl ?_
  refine JL_val (Ptr nb2 1) (Ev_fieldAddr 1 22 1 Tryd.underlying56 rfl Tryd.sizeOf22 rfl rfl) rfl ?_
  refine JL_val (U64 s) (Ev_load rfl (Ld_one Tryd.isAgg22 (MemAt.ent 1 rfl (Seg.tail (Seg.head))))) rfl ?_
  refine JL_val _ (Ev_move rfl) rfl ?_
  refine JL_step (Step_callN 27 [.agg (cu8 key).toArray, I64 ((k:Int)), U64 s, .slice az n cz] _ (Cl_func [.agg (cu8 key).toArray, I64 ((k:Int)), U64 s, .slice az n cz] Tryd.call27 rfl) (fun w1 hw1 => lseal_c key k s az n cz z (n + 25) w1 hk hz hcb (by omega) (by omega) (hr.at (M' := []) hw1 (by simp)) hw (by omega) (by omega) (hG.at hw1))) rfl ?_
  rintro v1 L1 ⟨_, ⟨nb3, sp1, cp1, rfl, rfl, hc1, hc2, hc3⟩, rfl⟩
  show JL _ _ _ _ ((33, .tuple #[Slc nb3 0 (n + 25) cp1, .nilIface]) :: _) [⟨nb1, cu8 key, 54, (0, 0)⟩, ⟨nb2, [I64 ((k:Int)), U64 s], 56, (0, 0)⟩, ⟨nb3, cu8 (frmT key k s z) ++ sp1, 5, (0, 0)⟩]
  refine JL_val _ (Ev_move rfl) rfl ?_
  refine JL_val _ (Ev_extract rfl rfl) rfl ?_
  refine JL_val _ (Ev_extract rfl rfl) rfl ?_
  refine JL_val _ (Ev_assign rfl) rfl ?_
  refine JL_val _ (Ev_assign rfl) rfl ?_
  refine JL_nil ?_
  refine JQ_then ?_
  refine JC_seq ?_
  refine JC_region ?_
  refine JL_val (.agg (cu8 key).toArray) (Ev_load rfl (Ld_agg Tryd.isAgg54 Tryd.sizeOf54 (len_cu8 hk) (MemAt.ent 0 rfl (Seg.whole _)))) rfl ?_
  refine JL_val (Ptr nb2 0) (Ev_fieldAddr 0 3 1 Tryd.underlying56 rfl Tryd.sizeOf3 rfl rfl) rfl ?_
  refine JL_val (I64 ((k:Int))) (Ev_load rfl (Ld_one Tryd.isAgg3 (MemAt.ent 1 rfl (Seg.head)))) rfl ?_
  refine JL_val (Ptr nb2 1) (Ev_fieldAddr 1 22 1 Tryd.underlying56 rfl Tryd.sizeOf22 rfl rfl) rfl ?_
  refine JL_val (U64 s) (Ev_load rfl (Ld_one Tryd.isAgg22 (MemAt.ent 1 rfl (Seg.tail (Seg.head))))) rfl ?_
  refine JL_val _ (Ev_move rfl) rfl ?_
  refine JL_step (Step_callN 28 [.agg (cu8 key).toArray, I64 ((k:Int)), U64 s, .slice az n cz] _ (Cl_func [.agg (cu8 key).toArray, I64 ((k:Int)), U64 s, .slice az n cz] Tryd.call28 rfl) (fun w1 hw1 => rseal_c key k s az n cz z (n + 25) w1 hk hz hcb (by omega) (by omega) (hr.at (M' := []) hw1 (by simp)) hw (by omega) (by omega) (GLr.at hw1 hGr) (GLi.at hw1 hGi))) rfl ?_
  rintro v1 L1 ⟨_, ⟨nb4, sp2, cp2, rfl, rfl, hc4, hc5, hc6⟩, rfl⟩
  show JL _ _ _ _ ((43, .tuple #[Slc nb4 0 (n + 25) cp2, I64 (0:Int)]) :: _) [⟨nb1, cu8 key, 54, (0, 0)⟩, ⟨nb2, [I64 ((k:Int)), U64 s], 56, (0, 0)⟩, ⟨nb3, cu8 (frmT key k s z) ++ sp1, 5, (0, 0)⟩, ⟨nb4, cu8 (frmT key k s z) ++ sp2, 5, (0, 0)⟩]
  refine JL_val _ (Ev_move rfl) rfl ?_
  refine JL_val _ (Ev_extract rfl rfl) rfl ?_
  refine JL_val _ (Ev_extract rfl rfl) rfl ?_
  refine JL_val _ (Ev_assign rfl) rfl ?_
  refine JL_val _ (Ev_assign rfl) rfl ?_
  refine JL_nil ?_
  refine JQ_then ?_
  refine JC_seq ?_
  refine JC_region ?_
  refine JL_val _ (Ev_move rfl) rfl ?_
  refine JL_step (Step_callP 29 [.nilIface] (I64 (0:Int)) (Cl_func [.nilIface] Tryd.call29 rfl) (fun w1 hw1 => errNo_c w1)) rfl ?_
  rintro v1 L1 ⟨rfl, rfl⟩
  show JL _ _ _ _ ((47, I64 (0:Int)) :: _) [⟨nb1, cu8 key, 54, (0, 0)⟩, ⟨nb2, [I64 ((k:Int)), U64 s], 56, (0, 0)⟩, ⟨nb3, cu8 (frmT key k s z) ++ sp1, 5, (0, 0)⟩, ⟨nb4, cu8 (frmT key k s z) ++ sp2, 5, (0, 0)⟩]
  refine JL_val _ (Ev_move rfl) rfl ?_
  refine JL_val (.bool (decide ((0:Int) = (0:Int)))) (Ev_bini rfl rfl fun _ => bin_eql_i _ _) rfl ?_
  refine JL_val _ (Ev_move rfl) rfl ?_
  refine JL_gval 4 50 true _ _ rfl rfl (by decide) (Ev_move rfl) rfl ?_
  refine JL_gval 4 50 true _ _ rfl rfl (by decide) (Ev_move rfl) rfl ?_
  refine JL_gstep 4 50 true _ rfl rfl (by decide) (Step_callP 24 [Slc nb3 0 (n + 25) cp1, Slc nb4 0 (n + 25) cp2] (.bool (decide ((frmT key k s z) = (frmT key k s z)))) (Cl_func [Slc nb3 0 (n + 25) cp1, Slc nb4 0 (n + 25) cp2] Tryd.call24 rfl) (fun w1 hw1 => bytes_c (some ⟨nb3, 0, none⟩) (some ⟨nb4, 0, none⟩) (n + 25) (n + 25) cp1 cp2 (frmT key k s z) (frmT key k s z) w1 (show (frmT key k s z).length = (n + 25) from (by rw [frmT_len hz] <;> omega)) (show (frmT key k s z).length = (n + 25) from (by rw [frmT_len hz] <;> omega)) (RdB.of hw1 (MemAt.ent 2 rfl (Seg.left (Seg.whole _))) (by simp)) (RdB.of hw1 (MemAt.ent 3 rfl (Seg.left (Seg.whole _))) (by simp)))) rfl ?_
  rintro v1 L1 ⟨rfl, rfl⟩
  show JL _ _ _ _ ((53, .bool (decide ((frmT key k s z) = (frmT key k s z)))) :: _) [⟨nb1, cu8 key, 54, (0, 0)⟩, ⟨nb2, [I64 ((k:Int)), U64 s], 56, (0, 0)⟩, ⟨nb3, cu8 (frmT key k s z) ++ sp1, 5, (0, 0)⟩, ⟨nb4, cu8 (frmT key k s z) ++ sp2, 5, (0, 0)⟩]
  refine JL_val _ (Ev_pickT _ rfl (by decide) rfl) rfl ?_
  refine JL_val _ (Ev_move rfl) rfl ?_
  refine JL_gval 9 55 true _ _ rfl rfl (decide_eq_true rfl) (Ev_move rfl) rfl ?_
  refine JL_gval 9 55 true _ (.bool false) rfl rfl (decide_eq_true rfl) (Ev_bin _ _ _ rfl rfl (fun _ => eqGuard_nn ..) fun _ => neq_if_nil_nil Tryd.underlying45) rfl ?_
  refine JL_gval 9 55 true _ _ rfl rfl (decide_eq_true rfl) (Ev_move rfl) rfl ?_
  refine JL_gval 12 58 false _ _ rfl rfl rfl (Ev_move rfl) rfl ?_
  refine JL_gval 12 58 false _ (I64 ((n:Int) + 25)) rfl rfl rfl (Ev_lenX Tryd.underlying43 rfl (by omega)) rfl ?_
  refine JL_gval 12 58 false _ _ rfl rfl rfl (Ev_move rfl) rfl ?_
  refine JL_gval 12 58 false _ (I64 ((n:Int))) rfl rfl rfl (Ev_len Tryd.underlying43 rfl) rfl ?_
  refine JL_gstep 12 58 false _ rfl rfl rfl (Step_callP 30 [I64 ((n:Int))] (I64 ((n:Int) + 25)) (Cl_func [I64 ((n:Int))] Tryd.call30 rfl) (fun w1 hw1 => lbytes_c n w1 (by omega))) rfl ?_
  rintro v1 L1 ⟨rfl, rfl⟩
  show JL _ _ _ _ ((63, I64 ((n:Int) + 25)) :: _) [⟨nb1, cu8 key, 54, (0, 0)⟩, ⟨nb2, [I64 ((k:Int)), U64 s], 56, (0, 0)⟩, ⟨nb3, cu8 (frmT key k s z) ++ sp1, 5, (0, 0)⟩, ⟨nb4, cu8 (frmT key k s z) ++ sp2, 5, (0, 0)⟩]
  refine JL_gval 12 58 false _ (.bool (decide (((n:Int) + 25) = ((n:Int) + 25)))) rfl rfl rfl (Ev_bini rfl rfl fun _ => bin_eql_i _ _) rfl ?_
  refine JL_gval 9 55 true _ _ rfl rfl (decide_eq_true rfl) (Ev_pickF _ rfl rfl rfl) rfl ?_
  refine JL_val _ (Ev_pickT _ rfl (decide_eq_true rfl) rfl) rfl ?_
  refine JL_val _ (Ev_assign rfl) rfl ?_
  refine JL_nil ?_
  refine JQ_then ?_
  refine JC_ret ?_
  refine JQ_ret (.bool (decide (((n:Int) + 25) = ((n:Int) + 25)))) (res1 Tryd.results4 (RV_tmp rfl)) fun w1 hw1 => ?_
  exact ⟨_, [], rfl, ⟨by rw [show (decide (((n:Int) + 25) = ((n:Int) + 25))) = true from (by simp)], rfl⟩, hw1.sub (by simp) (by simp)⟩

theorem linkSealsWL_c (key : List UInt8) (way : Int) (s : UInt64) (az : Option Addr) (n cz : Nat) (z : List UInt8)  (w : World) (hk : key.length = 32) (hz : z.length = n) (hcb : az = none → cz = 0) (hnc : n ≤ cz) (hcm : cz ≤ maxLen) (hr : RdB w [] az z) (hG : GLs w) (hGr : GLr w) (hGi : GLi w) (hn : 262100 ≤ n) (hn2 : n ≤ 300000) (hw : ¬ (way = 1 ∨ way = 2)) : Calls Tryd.prog 4 #[.agg (cu8 key).toArray, .agg (List.toArray (α := Value) ([I64 (way), U64 s])), .slice az n cz] w (Post w [] (fun v L => v = .bool true ∧ L = [])) := by
  have hmx : maxLen = 9223372036854775807 := rfl
  refine enter (P := Tryd.prog) (f := 4) (fn := Tryd.f4) w [] 67 [] [.agg (cu8 key).toArray, .agg (List.toArray (α := Value) ([I64 (way), U64 s])), .slice az n cz] Tryd.func4 rfl rfl (by simp) (Hp.start (by simp) (by simp) (by simp)) ?_
  show JC _ _ _ [(0, .agg (cu8 key).toArray), (1, .agg (List.toArray (α := Value) ([I64 (way), U64 s]))), (2, .slice az n cz)] _
  refine JC_seq ?_
  refine JC_region ?_
  refine JL_step (Step_box (.agg (cu8 key).toArray) (cu8 key) rfl (by first | rfl | simp)) rfl ?_
  rintro v1 L1 ⟨nb1, hnb1, rfl, rfl⟩
  show JL _ _ _ _ ((3, Ptr nb1 0) :: _) [⟨nb1, cu8 key, 54, (0, 0)⟩]
  refine JL_step (Step_box (.agg (List.toArray (α := Value) ([I64 (way), U64 s]))) ([I64 (way), U64 s]) rfl (by first | rfl | simp)) rfl ?_
  rintro v1 L1 ⟨nb2, hnb2, rfl, rfl⟩
  show JL _ _ _ _ ((4, Ptr nb2 0) :: _) [⟨nb1, cu8 key, 54, (0, 0)⟩, ⟨nb2, [I64 (way), U64 s], 56, (0, 0)⟩]
  refine JL_val _ (Ev_assign rfl) rfl ?_
  refine JL_nil ?_
  refine JQ_then ?_
  refine JC_seq ?_
  refine JC_seq ?_
  refine JC_region ?_
  refine JL_step (Step_callP 26 [] (.bool true) (Cl_func [] Tryd.call26 rfl) (fun w1 hw1 => alive15_c  w1 (hG.at hw1))) rfl ?_
  rintro v1 L1 ⟨rfl, rfl⟩
  show JL _ _ _ _ ((11, .bool true) :: _) [⟨nb1, cu8 key, 54, (0, 0)⟩, ⟨nb2, [I64 (way), U64 s], 56, (0, 0)⟩]
  refine JL_val (.bool (!true)) (Ev_not rfl) rfl ?_
  refine JL_nil ?_
  refine JQ_then ?_
  refine JC_condF _ rfl rfl ?_
  refine JC_skip ?_
  refine JQ_then ?_
  refine JC_seq ?_
  refine JC_seq ?_
  refine JC_region ?_
  refine JL_val _ (Ev_move rfl) rfl ?_
  refine JL_val (I64 ((n:Int))) (Ev_len Tryd.underlying43 rfl) rfl ?_
  refine JL_val (.bool (decide ((3000:Int) < ((n:Int))))) (Ev_bini rfl rfl fun _ => bin_gtr_i _ _) rfl ?_
  refine JL_val _ (Ev_move rfl) rfl ?_
  refine JL_gval 3 16 true _ _ rfl rfl (decide_eq_true (by omega)) (Ev_move rfl) rfl ?_
  refine JL_gval 3 16 true _ (I64 ((n:Int))) rfl rfl (decide_eq_true (by omega)) (Ev_len Tryd.underlying43 rfl) rfl ?_
  refine JL_gval 3 16 true _ (.bool (decide (((n:Int)) < (262100:Int)))) rfl rfl (decide_eq_true (by omega)) (Ev_bini rfl rfl fun _ => bin_lss_i _ _) rfl ?_
  refine JL_val _ (Ev_pickT _ rfl (decide_eq_true (by omega)) rfl) rfl ?_
  refine JL_val _ (Ev_move rfl) rfl ?_
  refine JL_gval 8 21 false _ _ rfl rfl (decide_eq_false (by omega)) (Ev_move rfl) rfl ?_
  refine JL_gval 8 21 false _ (I64 ((n:Int))) rfl rfl (decide_eq_false (by omega)) (Ev_len Tryd.underlying43 rfl) rfl ?_
  refine JL_gval 8 21 false _ (.bool (decide ((300000:Int) < ((n:Int))))) rfl rfl (decide_eq_false (by omega)) (Ev_bini rfl rfl fun _ => bin_gtr_i _ _) rfl ?_
  refine JL_val _ (Ev_pickF _ rfl (decide_eq_false (by omega)) rfl) rfl ?_
  refine JL_nil ?_
  refine JQ_then ?_
  refine JC_condF _ rfl (decide_eq_false (by omega)) ?_
  refine JC_skip ?_
  refine JQ_then ?_
  refine JC_seq ?_
  refine JC_region ?_
  refine JL_val (.agg (cu8 key).toArray) (Ev_load rfl (Ld_agg Tryd.isAgg54 Tryd.sizeOf54 (len_cu8 hk) (MemAt.ent 0 rfl (Seg.whole _)))) rfl ?_
  refine JL_val (Ptr nb2 0) (Ev_fieldAddr 0 3 1 Tryd.underlying56 rfl Tryd.sizeOf3 rfl rfl) rfl ?_
  refine JL_val (I64 (way)) (Ev_load rfl (Ld_one Tryd.isAgg3 (MemAt.ent 1 rfl (Seg.head)))) rfl ?_
  refine JL_val (Ptr nb2 1) (Ev_fieldAddr 1 22 1 Tryd.underlying56 rfl Tryd.sizeOf22 rfl rfl) rfl ?_
  refine JL_val (U64 s) (Ev_load rfl (Ld_one Tryd.isAgg22 (MemAt.ent 1 rfl (Seg.tail (Seg.head))))) rfl ?_
  refine JL_val _ (Ev_move rfl) rfl ?_
  refine JL_step (Step_callP 27 [.agg (cu8 key).toArray, I64 (way), U64 s, .slice az n cz] (.tuple #[.slice none 0 0, .iface 50 (I64 (2:Int))]) (Cl_func [.agg (cu8 key).toArray, I64 (way), U64 s, .slice az n cz] Tryd.call27 rfl) (fun w1 hw1 => lsealW_c key (way) s az n cz z w1 hk hz hcb (by omega) (by omega) (hr.at (M' := []) hw1 (by simp)) hw)) rfl ?_
  rintro v1 L1 ⟨rfl, rfl⟩
  show JL _ _ _ _ ((33, .tuple #[.slice none 0 0, .iface 50 (I64 (2:Int))]) :: _) [⟨nb1, cu8 key, 54, (0, 0)⟩, ⟨nb2, [I64 (way), U64 s], 56, (0, 0)⟩]
  refine JL_val _ (Ev_move rfl) rfl ?_
  refine JL_val _ (Ev_extract rfl rfl) rfl ?_
  refine JL_val _ (Ev_extract rfl rfl) rfl ?_
  refine JL_val _ (Ev_assign rfl) rfl ?_
  refine JL_val _ (Ev_assign rfl) rfl ?_
  refine JL_nil ?_
  refine JQ_then ?_
  refine JC_seq ?_
  refine JC_region ?_
  refine JL_val (.agg (cu8 key).toArray) (Ev_load rfl (Ld_agg Tryd.isAgg54 Tryd.sizeOf54 (len_cu8 hk) (MemAt.ent 0 rfl (Seg.whole _)))) rfl ?_
  refine JL_val (Ptr nb2 0) (Ev_fieldAddr 0 3 1 Tryd.underlying56 rfl Tryd.sizeOf3 rfl rfl) rfl ?_
  refine JL_val (I64 (way)) (Ev_load rfl (Ld_one Tryd.isAgg3 (MemAt.ent 1 rfl (Seg.head)))) rfl ?_
  refine JL_val (Ptr nb2 1) (Ev_fieldAddr 1 22 1 Tryd.underlying56 rfl Tryd.sizeOf22 rfl rfl) rfl ?_
  refine JL_val (U64 s) (Ev_load rfl (Ld_one Tryd.isAgg22 (MemAt.ent 1 rfl (Seg.tail (Seg.head))))) rfl ?_
  refine JL_val _ (Ev_move rfl) rfl ?_
  refine JL_step (Step_callP 28 [.agg (cu8 key).toArray, I64 (way), U64 s, .slice az n cz] (.tuple #[.slice none 0 0, I64 (2:Int)]) (Cl_func [.agg (cu8 key).toArray, I64 (way), U64 s, .slice az n cz] Tryd.call28 rfl) (fun w1 hw1 => rsealW_c key (way) s az n cz z w1 hk hz hcb (by omega) (by omega) (hr.at (M' := []) hw1 (by simp)) hw)) rfl ?_
  rintro v1 L1 ⟨rfl, rfl⟩
  show JL _ _ _ _ ((43, .tuple #[.slice none 0 0, I64 (2:Int)]) :: _) [⟨nb1, cu8 key, 54, (0, 0)⟩, ⟨nb2, [I64 (way), U64 s], 56, (0, 0)⟩]
  refine JL_val _ (Ev_move rfl) rfl ?_
  refine JL_val _ (Ev_extract rfl rfl) rfl ?_
  refine JL_val _ (Ev_extract rfl rfl) rfl ?_
  refine JL_val _ (Ev_assign rfl) rfl ?_
  refine JL_val _ (Ev_assign rfl) rfl ?_
  refine JL_nil ?_
  refine JQ_then ?_
  refine JC_seq ?_
  refine JC_region ?_
  refine JL_val _ (Ev_move rfl) rfl ?_
  refine JL_step (Step_callP 29 [.iface 50 (I64 (2:Int))] (I64 (2:Int)) (Cl_func [.iface 50 (I64 (2:Int))] Tryd.call29 rfl) (fun w1 hw1 => errSome_c 2 w1 (by decide))) rfl ?_
  rintro v1 L1 ⟨rfl, rfl⟩
  show JL _ _ _ _ ((47, I64 (2:Int)) :: _) [⟨nb1, cu8 key, 54, (0, 0)⟩, ⟨nb2, [I64 (way), U64 s], 56, (0, 0)⟩]
  refine JL_val _ (Ev_move rfl) rfl ?_
  refine JL_val (.bool (decide ((2:Int) = (2:Int)))) (Ev_bini rfl rfl fun _ => bin_eql_i _ _) rfl ?_
  refine JL_val _ (Ev_move rfl) rfl ?_
  refine JL_gval 4 50 true _ _ rfl rfl (by decide) (Ev_move rfl) rfl ?_
  refine JL_gval 4 50 true _ _ rfl rfl (by decide) (Ev_move rfl) rfl ?_
  refine JL_gstep 4 50 true _ rfl rfl (by decide) (Step_callP 24 [.slice none 0 0, .slice none 0 0] (.bool (decide (([] : List UInt8) = ([] : List UInt8)))) (Cl_func [.slice none 0 0, .slice none 0 0] Tryd.call24 rfl) (fun w1 hw1 => bytes_c none none 0 0 0 0 ([] : List UInt8) ([] : List UInt8) w1 rfl rfl RdB.nil RdB.nil)) rfl ?_
  rintro v1 L1 ⟨rfl, rfl⟩
  show JL _ _ _ _ ((53, .bool (decide (([] : List UInt8) = ([] : List UInt8)))) :: _) [⟨nb1, cu8 key, 54, (0, 0)⟩, ⟨nb2, [I64 (way), U64 s], 56, (0, 0)⟩]
  refine JL_val _ (Ev_pickT _ rfl (by decide) rfl) rfl ?_
  refine JL_val _ (Ev_move rfl) rfl ?_
  refine JL_gval 9 55 true _ _ rfl rfl (decide_eq_true rfl) (Ev_move rfl) rfl ?_
  refine JL_gval 9 55 true _ (.bool true) rfl rfl (decide_eq_true rfl) (Ev_bin _ _ _ rfl rfl (fun _ => eqGuard_if ..) fun _ => neq_if_nil Tryd.underlying45) rfl ?_
  refine JL_gval 9 55 true _ _ rfl rfl (decide_eq_true rfl) (Ev_move rfl) rfl ?_
  refine JL_gskip 12 58 false _ rfl rfl rfl rfl ?_
  refine JL_gskip 12 58 false _ rfl rfl rfl rfl ?_
  refine JL_gskip 12 58 false _ rfl rfl rfl rfl ?_
  refine JL_gskip 12 58 false _ rfl rfl rfl rfl ?_
  refine JL_gskip 12 58 false _ rfl rfl rfl rfl ?_
  refine JL_gskip 12 58 false _ rfl rfl rfl rfl ?_
  refine JL_gval 9 55 true _ _ rfl rfl (decide_eq_true rfl) (Ev_pickT _ rfl rfl rfl) rfl ?_
  refine JL_val _ (Ev_pickT _ rfl (decide_eq_true rfl) rfl) rfl ?_
  refine JL_val _ (Ev_assign rfl) rfl ?_
  refine JL_nil ?_
  refine JQ_then ?_
  refine JC_ret ?_
  refine JQ_ret (.bool true) (res1 Tryd.results4 (RV_tmp rfl)) fun w1 hw1 => ?_
  exact ⟨_, [], rfl, ⟨by rw [show (true) = true from rfl], rfl⟩, hw1.sub (by simp) (by simp)⟩

theorem linkSealsKL_c (key : List UInt8) (k : Nat) (s : UInt64) (az : Option Addr) (n cz : Nat) (z : List UInt8)  (w : World) (hk : key.length = 32) (hz : z.length = n) (hcb : az = none → cz = 0) (hnc : n ≤ cz) (hcm : cz ≤ maxLen) (hr : RdB w [] az z) (hG : GLs w) (hGr : GLr w) (hGi : GLi w) (hn : 262100 ≤ n) (hn2 : n ≤ 300000) (hw : k = 1 ∨ k = 2) (hf : n + 25 ≤ 262144) : Calls Tryd.prog 4 #[.agg (cu8 key).toArray, .agg (List.toArray (α := Value) ([I64 ((k:Int)), U64 s])), .slice az n cz] w (Post w [] (fun v L => v = .bool true ∧ L = [])) := by
  have hmx : maxLen = 9223372036854775807 := rfl
  refine enter (P := Tryd.prog) (f := 4) (fn := Tryd.f4) w [] 67 [] [.agg (cu8 key).toArray, .agg (List.toArray (α := Value) ([I64 ((k:Int)), U64 s])), .slice az n cz] Tryd.func4 rfl rfl (by simp) (Hp.start (by simp) (by simp) (by simp)) ?_
  show JC _ _ _ [(0, .agg (cu8 key).toArray), (1, .agg (List.toArray (α := Value) ([I64 ((k:Int)), U64 s]))), (2, .slice az n cz)] _
  refine JC_seq ?_
  refine JC_region ?_
  refine JL_step (Step_box (.agg (cu8 key).toArray) (cu8 key) rfl (by first | rfl | simp)) rfl ?_
  rintro v1 L1 ⟨nb1, hnb1, rfl, rfl⟩
  show JL _ _ _ _ ((3, Ptr nb1 0) :: _) [⟨nb1, cu8 key, 54, (0, 0)⟩]
  refine JL_step (Step_box (.agg (List.toArray (α := Value) ([I64 ((k:Int)), U64 s]))) ([I64 ((k:Int)), U64 s]) rfl (by first | rfl | simp)) rfl ?_
  rintro v1 L1 ⟨nb2, hnb2, rfl, rfl⟩
  show JL _ _ _ _ ((4, Ptr nb2 0) :: _) [⟨nb1, cu8 key, 54, (0, 0)⟩, ⟨nb2, [I64 ((k:Int)), U64 s], 56, (0, 0)⟩]
  refine JL_val _ (Ev_assign rfl) rfl ?_
  refine JL_nil ?_
  refine JQ_then ?_
  refine JC_seq ?_
  refine JC_seq ?_
  refine JC_region ?_
  refine JL_step (Step_callP 26 [] (.bool true) (Cl_func [] Tryd.call26 rfl) (fun w1 hw1 => alive15_c  w1 (hG.at hw1))) rfl ?_
  rintro v1 L1 ⟨rfl, rfl⟩
  show JL _ _ _ _ ((11, .bool true) :: _) [⟨nb1, cu8 key, 54, (0, 0)⟩, ⟨nb2, [I64 ((k:Int)), U64 s], 56, (0, 0)⟩]
  refine JL_val (.bool (!true)) (Ev_not rfl) rfl ?_
  refine JL_nil ?_
  refine JQ_then ?_
  refine JC_condF _ rfl rfl ?_
  refine JC_skip ?_
  refine JQ_then ?_
  refine JC_seq ?_
  refine JC_seq ?_
  refine JC_region ?_
  refine JL_val _ (Ev_move rfl) rfl ?_
  refine JL_val (I64 ((n:Int))) (Ev_len Tryd.underlying43 rfl) rfl ?_
  refine JL_val (.bool (decide ((3000:Int) < ((n:Int))))) (Ev_bini rfl rfl fun _ => bin_gtr_i _ _) rfl ?_
  refine JL_val _ (Ev_move rfl) rfl ?_
  refine JL_gval 3 16 true _ _ rfl rfl (decide_eq_true (by omega)) (Ev_move rfl) rfl ?_
  refine JL_gval 3 16 true _ (I64 ((n:Int))) rfl rfl (decide_eq_true (by omega)) (Ev_len Tryd.underlying43 rfl) rfl ?_
  refine JL_gval 3 16 true _ (.bool (decide (((n:Int)) < (262100:Int)))) rfl rfl (decide_eq_true (by omega)) (Ev_bini rfl rfl fun _ => bin_lss_i _ _) rfl ?_
  refine JL_val _ (Ev_pickT _ rfl (decide_eq_true (by omega)) rfl) rfl ?_
  refine JL_val _ (Ev_move rfl) rfl ?_
  refine JL_gval 8 21 false _ _ rfl rfl (decide_eq_false (by omega)) (Ev_move rfl) rfl ?_
  refine JL_gval 8 21 false _ (I64 ((n:Int))) rfl rfl (decide_eq_false (by omega)) (Ev_len Tryd.underlying43 rfl) rfl ?_
  refine JL_gval 8 21 false _ (.bool (decide ((300000:Int) < ((n:Int))))) rfl rfl (decide_eq_false (by omega)) (Ev_bini rfl rfl fun _ => bin_gtr_i _ _) rfl ?_
  refine JL_val _ (Ev_pickF _ rfl (decide_eq_false (by omega)) rfl) rfl ?_
  refine JL_nil ?_
  refine JQ_then ?_
  refine JC_condF _ rfl (decide_eq_false (by omega)) ?_
  refine JC_skip ?_
  refine JQ_then ?_
  refine JC_seq ?_
  refine JC_region ?_
  refine JL_val (.agg (cu8 key).toArray) (Ev_load rfl (Ld_agg Tryd.isAgg54 Tryd.sizeOf54 (len_cu8 hk) (MemAt.ent 0 rfl (Seg.whole _)))) rfl ?_
  refine JL_val (Ptr nb2 0) (Ev_fieldAddr 0 3 1 Tryd.underlying56 rfl Tryd.sizeOf3 rfl rfl) rfl ?_
  refine JL_val (I64 ((k:Int))) (Ev_load rfl (Ld_one Tryd.isAgg3 (MemAt.ent 1 rfl (Seg.head)))) rfl ?_
  refine JL_val (Ptr nb2 1) (Ev_fieldAddr 1 22 1 Tryd.underlying56 rfl Tryd.sizeOf22 rfl rfl) rfl ?_
  refine JL_val (U64 s) (Ev_load rfl (Ld_one Tryd.isAgg22 (MemAt.ent 1 rfl (Seg.tail (Seg.head))))) rfl ?_
  refine JL_val _ (Ev_move rfl) rfl ?_
  refine JL_step (Step_callN 27 [.agg (cu8 key).toArray, I64 ((k:Int)), U64 s, .slice az n cz] _ (Cl_func [.agg (cu8 key).toArray, I64 ((k:Int)), U64 s, .slice az n cz] Tryd.call27 rfl) (fun w1 hw1 => lseal_c key k s az n cz z (n + 25) w1 hk hz hcb (by omega) (by omega) (hr.at (M' := []) hw1 (by simp)) hw (by omega) (by omega) (hG.at hw1))) rfl ?_
  rintro v1 L1 ⟨_, ⟨nb3, sp1, cp1, rfl, rfl, hc1, hc2, hc3⟩, rfl⟩
  show JL _ _ _ _ ((33, .tuple #[Slc nb3 0 (n + 25) cp1, .nilIface]) :: _) [⟨nb1, cu8 key, 54, (0, 0)⟩, ⟨nb2, [I64 ((k:Int)), U64 s], 56, (0, 0)⟩, ⟨nb3, cu8 (frmT key k s z) ++ sp1, 5, (0, 0)⟩]
  refine JL_val _ (Ev_move rfl) rfl ?_
  refine JL_val _ (Ev_extract rfl rfl) rfl ?_
  refine JL_val _ (Ev_extract rfl rfl) rfl ?_
  refine JL_val _ (Ev_assign rfl) rfl ?_
  refine JL_val _ (Ev_assign rfl) rfl ?_
  refine JL_nil ?_
  refine JQ_then ?_
  refine JC_seq ?_
  refine JC_region ?_
  refine JL_val (.agg (cu8 key).toArray) (Ev_load rfl (Ld_agg Tryd.isAgg54 Tryd.sizeOf54 (len_cu8 hk) (MemAt.ent 0 rfl (Seg.whole _)))) rfl ?_
  refine JL_val (Ptr nb2 0) (Ev_fieldAddr 0 3 1 Tryd.underlying56 rfl Tryd.sizeOf3 rfl rfl) rfl ?_
  refine JL_val (I64 ((k:Int))) (Ev_load rfl (Ld_one Tryd.isAgg3 (MemAt.ent 1 rfl (Seg.head)))) rfl ?_
  refine JL_val (Ptr nb2 1) (Ev_fieldAddr 1 22 1 Tryd.underlying56 rfl Tryd.sizeOf22 rfl rfl) rfl ?_
  refine JL_val (U64 s) (Ev_load rfl (Ld_one Tryd.isAgg22 (MemAt.ent 1 rfl (Seg.tail (Seg.head))))) rfl ?_
  refine JL_val _ (Ev_move rfl) rfl ?_
  refine JL_step (Step_callN 28 [.agg (cu8 key).toArray, I64 ((k:Int)), U64 s, .slice az n cz] _ (Cl_func [.agg (cu8 key).toArray, I64 ((k:Int)), U64 s, .slice az n cz] Tryd.call28 rfl) (fun w1 hw1 => rseal_c key k s az n cz z (n + 25) w1 hk hz hcb (by omega) (by omega) (hr.at (M' := []) hw1 (by simp)) hw (by omega) (by omega) (GLr.at hw1 hGr) (GLi.at hw1 hGi))) rfl ?_
  rintro v1 L1 ⟨_, ⟨nb4, sp2, cp2, rfl, rfl, hc4, hc5, hc6⟩, rfl⟩
  show JL _ _ _ _ ((43, .tuple #[Slc nb4 0 (n + 25) cp2, I64 (0:Int)]) :: _) [⟨nb1, cu8 key, 54, (0, 0)⟩, ⟨nb2, [I64 ((k:Int)), U64 s], 56, (0, 0)⟩, ⟨nb3, cu8 (frmT key k s z) ++ sp1, 5, (0, 0)⟩, ⟨nb4, cu8 (frmT key k s z) ++ sp2, 5, (0, 0)⟩]
  refine JL_val _ (Ev_move rfl) rfl ?_
  refine JL_val _ (Ev_extract rfl rfl) rfl ?_
  refine JL_val _ (Ev_extract rfl rfl) rfl ?_
  refine JL_val _ (Ev_assign rfl) rfl ?_
  refine JL_val _ (Ev_assign rfl) rfl ?_
  refine JL_nil ?_
  refine JQ_then ?_
  refine JC_seq ?_
  refine JC_region ?_
  refine JL_val _ (Ev_move rfl) rfl ?_
  refine JL_step (Step_callP 29 [.nilIface] (I64 (0:Int)) (Cl_func [.nilIface] Tryd.call29 rfl) (fun w1 hw1 => errNo_c w1)) rfl ?_
  rintro v1 L1 ⟨rfl, rfl⟩
  show JL _ _ _ _ ((47, I64 (0:Int)) :: _) [⟨nb1, cu8 key, 54, (0, 0)⟩, ⟨nb2, [I64 ((k:Int)), U64 s], 56, (0, 0)⟩, ⟨nb3, cu8 (frmT key k s z) ++ sp1, 5, (0, 0)⟩, ⟨nb4, cu8 (frmT key k s z) ++ sp2, 5, (0, 0)⟩]
  refine JL_val _ (Ev_move rfl) rfl ?_
  refine JL_val (.bool (decide ((0:Int) = (0:Int)))) (Ev_bini rfl rfl fun _ => bin_eql_i _ _) rfl ?_
  refine JL_val _ (Ev_move rfl) rfl ?_
  refine JL_gval 4 50 true _ _ rfl rfl (by decide) (Ev_move rfl) rfl ?_
  refine JL_gval 4 50 true _ _ rfl rfl (by decide) (Ev_move rfl) rfl ?_
  refine JL_gstep 4 50 true _ rfl rfl (by decide) (Step_callP 24 [Slc nb3 0 (n + 25) cp1, Slc nb4 0 (n + 25) cp2] (.bool (decide ((frmT key k s z) = (frmT key k s z)))) (Cl_func [Slc nb3 0 (n + 25) cp1, Slc nb4 0 (n + 25) cp2] Tryd.call24 rfl) (fun w1 hw1 => bytes_c (some ⟨nb3, 0, none⟩) (some ⟨nb4, 0, none⟩) (n + 25) (n + 25) cp1 cp2 (frmT key k s z) (frmT key k s z) w1 (show (frmT key k s z).length = (n + 25) from (by rw [frmT_len hz] <;> omega)) (show (frmT key k s z).length = (n + 25) from (by rw [frmT_len hz] <;> omega)) (RdB.of hw1 (MemAt.ent 2 rfl (Seg.left (Seg.whole _))) (by simp)) (RdB.of hw1 (MemAt.ent 3 rfl (Seg.left (Seg.whole _))) (by simp)))) rfl ?_
  rintro v1 L1 ⟨rfl, rfl⟩
  show JL _ _ _ _ ((53, .bool (decide ((frmT key k s z) = (frmT key k s z)))) :: _) [⟨nb1, cu8 key, 54, (0, 0)⟩, ⟨nb2, [I64 ((k:Int)), U64 s], 56, (0, 0)⟩, ⟨nb3, cu8 (frmT key k s z) ++ sp1, 5, (0, 0)⟩, ⟨nb4, cu8 (frmT key k s z) ++ sp2, 5, (0, 0)⟩]
  refine JL_val _ (Ev_pickT _ rfl (by decide) rfl) rfl ?_
  refine JL_val _ (Ev_move rfl) rfl ?_
  refine JL_gval 9 55 true _ _ rfl rfl (decide_eq_true rfl) (Ev_move rfl) rfl ?_
  refine JL_gval 9 55 true _ (.bool false) rfl rfl (decide_eq_true rfl) (Ev_bin _ _ _ rfl rfl (fun _ => eqGuard_nn ..) fun _ => neq_if_nil_nil Tryd.underlying45) rfl ?_
  refine JL_gval 9 55 true _ _ rfl rfl (decide_eq_true rfl) (Ev_move rfl) rfl ?_
  refine JL_gval 12 58 false _ _ rfl rfl rfl (Ev_move rfl) rfl ?_
  refine JL_gval 12 58 false _ (I64 ((n:Int) + 25)) rfl rfl rfl (Ev_lenX Tryd.underlying43 rfl (by omega)) rfl ?_
  refine JL_gval 12 58 false _ _ rfl rfl rfl (Ev_move rfl) rfl ?_
  refine JL_gval 12 58 false _ (I64 ((n:Int))) rfl rfl rfl (Ev_len Tryd.underlying43 rfl) rfl ?_
  refine JL_gstep 12 58 false _ rfl rfl rfl (Step_callP 30 [I64 ((n:Int))] (I64 ((n:Int) + 25)) (Cl_func [I64 ((n:Int))] Tryd.call30 rfl) (fun w1 hw1 => lbytes_c n w1 (by omega))) rfl ?_
  rintro v1 L1 ⟨rfl, rfl⟩
  show JL _ _ _ _ ((63, I64 ((n:Int) + 25)) :: _) [⟨nb1, cu8 key, 54, (0, 0)⟩, ⟨nb2, [I64 ((k:Int)), U64 s], 56, (0, 0)⟩, ⟨nb3, cu8 (frmT key k s z) ++ sp1, 5, (0, 0)⟩, ⟨nb4, cu8 (frmT key k s z) ++ sp2, 5, (0, 0)⟩]
  refine JL_gval 12 58 false _ (.bool (decide (((n:Int) + 25) = ((n:Int) + 25)))) rfl rfl rfl (Ev_bini rfl rfl fun _ => bin_eql_i _ _) rfl ?_
  refine JL_gval 9 55 true _ _ rfl rfl (decide_eq_true rfl) (Ev_pickF _ rfl rfl rfl) rfl ?_
  refine JL_val _ (Ev_pickT _ rfl (decide_eq_true rfl) rfl) rfl ?_
  refine JL_val _ (Ev_assign rfl) rfl ?_
  refine JL_nil ?_
  refine JQ_then ?_
  refine JC_ret ?_
  refine JQ_ret (.bool (decide (((n:Int) + 25) = ((n:Int) + 25)))) (res1 Tryd.results4 (RV_tmp rfl)) fun w1 hw1 => ?_
  exact ⟨_, [], rfl, ⟨by rw [show (decide (((n:Int) + 25) = ((n:Int) + 25))) = true from (by simp)], rfl⟩, hw1.sub (by simp) (by simp)⟩

theorem linkSealsB_c (key : List UInt8) (k : Nat) (s : UInt64) (az : Option Addr) (n cz : Nat) (z : List UInt8)  (w : World) (hk : key.length = 32) (hz : z.length = n) (hcb : az = none → cz = 0) (hnc : n ≤ cz) (hcm : cz ≤ maxLen) (hr : RdB w [] az z) (hG : GLs w) (hGr : GLr w) (hGi : GLi w) (hn : 262100 ≤ n) (hn2 : n ≤ 300000) (hw : k = 1 ∨ k = 2) (hf : 262144 < n + 25) : Calls Tryd.prog 4 #[.agg (cu8 key).toArray, .agg (List.toArray (α := Value) ([I64 ((k:Int)), U64 s])), .slice az n cz] w (Post w [] (fun v L => v = .bool true ∧ L = [])) := by
  have hmx : maxLen = 9223372036854775807 := rfl
  refine enter (P := Tryd.prog) (f := 4) (fn := Tryd.f4) w [] 67 [] [.agg (cu8 key).toArray, .agg (List.toArray (α := Value) ([I64 ((k:Int)), U64 s])), .slice az n cz] Tryd.func4 rfl rfl (by simp) (Hp.start (by simp) (by simp) (by simp)) ?_
  show JC _ _ _ [(0, .agg (cu8 key).toArray), (1, .agg (List.toArray (α := Value) ([I64 ((k:Int)), U64 s]))), (2, .slice az n cz)] _
  refine JC_seq ?_
  refine JC_region ?_
  refine JL_step (Step_box (.agg (cu8 key).toArray) (cu8 key) rfl (by first | rfl | simp)) rfl ?_
  rintro v1 L1 ⟨nb1, hnb1, rfl, rfl⟩
  show JL _ _ _ _ ((3, Ptr nb1 0) :: _) [⟨nb1, cu8 key, 54, (0, 0)⟩]
  refine JL_step (Step_box (.agg (List.toArray (α := Value) ([I64 ((k:Int)), U64 s]))) ([I64 ((k:Int)), U64 s]) rfl (by first | rfl | simp)) rfl ?_
  rintro v1 L1 ⟨nb2, hnb2, rfl, rfl⟩
  show JL _ _ _ _ ((4, Ptr nb2 0) :: _) [⟨nb1, cu8 key, 54, (0, 0)⟩, ⟨nb2, [I64 ((k:Int)), U64 s], 56, (0, 0)⟩]
  refine JL_val _ (Ev_assign rfl) rfl ?_
  refine JL_nil ?_
  refine JQ_then ?_
  refine JC_seq ?_
  refine JC_seq ?_
  refine JC_region ?_
  refine JL_step (Step_callP 26 [] (.bool true) (Cl_func [] Tryd.call26 rfl) (fun w1 hw1 => alive15_c  w1 (hG.at hw1))) rfl ?_
  rintro v1 L1 ⟨rfl, rfl⟩
  show JL _ _ _ _ ((11, .bool true) :: _) [⟨nb1, cu8 key, 54, (0, 0)⟩, ⟨nb2, [I64 ((k:Int)), U64 s], 56, (0, 0)⟩]
  refine JL_val (.bool (!true)) (Ev_not rfl) rfl ?_
  refine JL_nil ?_
  refine JQ_then ?_
  refine JC_condF _ rfl rfl ?_
  refine JC_skip ?_
  refine JQ_then ?_
  refine JC_seq ?_
  refine JC_seq ?_
  refine JC_region ?_
  refine JL_val _ (Ev_move rfl) rfl ?_
  refine JL_val (I64 ((n:Int))) (Ev_len Tryd.underlying43 rfl) rfl ?_
  refine JL_val (.bool (decide ((3000:Int) < ((n:Int))))) (Ev_bini rfl rfl fun _ => bin_gtr_i _ _) rfl ?_
  refine JL_val _ (Ev_move rfl) rfl ?_
  refine JL_gval 3 16 true _ _ rfl rfl (decide_eq_true (by omega)) (Ev_move rfl) rfl ?_
  refine JL_gval 3 16 true _ (I64 ((n:Int))) rfl rfl (decide_eq_true (by omega)) (Ev_len Tryd.underlying43 rfl) rfl ?_
  refine JL_gval 3 16 true _ (.bool (decide (((n:Int)) < (262100:Int)))) rfl rfl (decide_eq_true (by omega)) (Ev_bini rfl rfl fun _ => bin_lss_i _ _) rfl ?_
  refine JL_val _ (Ev_pickT _ rfl (decide_eq_true (by omega)) rfl) rfl ?_
  refine JL_val _ (Ev_move rfl) rfl ?_
  refine JL_gval 8 21 false _ _ rfl rfl (decide_eq_false (by omega)) (Ev_move rfl) rfl ?_
  refine JL_gval 8 21 false _ (I64 ((n:Int))) rfl rfl (decide_eq_false (by omega)) (Ev_len Tryd.underlying43 rfl) rfl ?_
  refine JL_gval 8 21 false _ (.bool (decide ((300000:Int) < ((n:Int))))) rfl rfl (decide_eq_false (by omega)) (Ev_bini rfl rfl fun _ => bin_gtr_i _ _) rfl ?_
  refine JL_val _ (Ev_pickF _ rfl (decide_eq_false (by omega)) rfl) rfl ?_
  refine JL_nil ?_
  refine JQ_then ?_
  refine JC_condF _ rfl (decide_eq_false (by omega)) ?_
  refine JC_skip ?_
  refine JQ_then ?_
  refine JC_seq ?_
  refine JC_region ?_
  refine JL_val (.agg (cu8 key).toArray) (Ev_load rfl (Ld_agg Tryd.isAgg54 Tryd.sizeOf54 (len_cu8 hk) (MemAt.ent 0 rfl (Seg.whole _)))) rfl ?_
  refine JL_val (Ptr nb2 0) (Ev_fieldAddr 0 3 1 Tryd.underlying56 rfl Tryd.sizeOf3 rfl rfl) rfl ?_
  refine JL_val (I64 ((k:Int))) (Ev_load rfl (Ld_one Tryd.isAgg3 (MemAt.ent 1 rfl (Seg.head)))) rfl ?_
  refine JL_val (Ptr nb2 1) (Ev_fieldAddr 1 22 1 Tryd.underlying56 rfl Tryd.sizeOf22 rfl rfl) rfl ?_
  refine JL_val (U64 s) (Ev_load rfl (Ld_one Tryd.isAgg22 (MemAt.ent 1 rfl (Seg.tail (Seg.head))))) rfl ?_
  refine JL_val _ (Ev_move rfl) rfl ?_
  refine JL_step (Step_callP 27 [.agg (cu8 key).toArray, I64 ((k:Int)), U64 s, .slice az n cz] (.tuple #[.slice none 0 0, .iface 50 (I64 (3:Int))]) (Cl_func [.agg (cu8 key).toArray, I64 ((k:Int)), U64 s, .slice az n cz] Tryd.call27 rfl) (fun w1 hw1 => lsealB_c key k s az n cz z w1 hk hz hcb (by omega) (by omega) (hr.at (M' := []) hw1 (by simp)) hw (by omega) (by omega))) rfl ?_
  rintro v1 L1 ⟨rfl, rfl⟩
  show JL _ _ _ _ ((33, .tuple #[.slice none 0 0, .iface 50 (I64 (3:Int))]) :: _) [⟨nb1, cu8 key, 54, (0, 0)⟩, ⟨nb2, [I64 ((k:Int)), U64 s], 56, (0, 0)⟩]
  refine JL_val _ (Ev_move rfl) rfl ?_
  refine JL_val _ (Ev_extract rfl rfl) rfl ?_
  refine JL_val _ (Ev_extract rfl rfl) rfl ?_
  refine JL_val _ (Ev_assign rfl) rfl ?_
  refine JL_val _ (Ev_assign rfl) rfl ?_
  refine JL_nil ?_
  refine JQ_then ?_
  refine JC_seq ?_
  refine JC_region ?_
  refine JL_val (.agg (cu8 key).toArray) (Ev_load rfl (Ld_agg Tryd.isAgg54 Tryd.sizeOf54 (len_cu8 hk) (MemAt.ent 0 rfl (Seg.whole _)))) rfl ?_
  refine JL_val (Ptr nb2 0) (Ev_fieldAddr 0 3 1 Tryd.underlying56 rfl Tryd.sizeOf3 rfl rfl) rfl ?_
  refine JL_val (I64 ((k:Int))) (Ev_load rfl (Ld_one Tryd.isAgg3 (MemAt.ent 1 rfl (Seg.head)))) rfl ?_
  refine JL_val (Ptr nb2 1) (Ev_fieldAddr 1 22 1 Tryd.underlying56 rfl Tryd.sizeOf22 rfl rfl) rfl ?_
  refine JL_val (U64 s) (Ev_load rfl (Ld_one Tryd.isAgg22 (MemAt.ent 1 rfl (Seg.tail (Seg.head))))) rfl ?_
  refine JL_val _ (Ev_move rfl) rfl ?_
  refine JL_step (Step_callP 28 [.agg (cu8 key).toArray, I64 ((k:Int)), U64 s, .slice az n cz] (.tuple #[.slice none 0 0, I64 (3:Int)]) (Cl_func [.agg (cu8 key).toArray, I64 ((k:Int)), U64 s, .slice az n cz] Tryd.call28 rfl) (fun w1 hw1 => rsealB_c key k s az n cz z w1 hk hz hcb (by omega) (by omega) (hr.at (M' := []) hw1 (by simp)) hw (by omega) (by omega))) rfl ?_
  rintro v1 L1 ⟨rfl, rfl⟩
  show JL _ _ _ _ ((43, .tuple #[.slice none 0 0, I64 (3:Int)]) :: _) [⟨nb1, cu8 key, 54, (0, 0)⟩, ⟨nb2, [I64 ((k:Int)), U64 s], 56, (0, 0)⟩]
  refine JL_val _ (Ev_move rfl) rfl ?_
  refine JL_val _ (Ev_extract rfl rfl) rfl ?_
  refine JL_val _ (Ev_extract rfl rfl) rfl ?_
  refine JL_val _ (Ev_assign rfl) rfl ?_
  refine JL_val _ (Ev_assign rfl) rfl ?_
  refine JL_nil ?_
  refine JQ_then ?_
  refine JC_seq ?_
  refine JC_region ?_
  refine JL_val _ (Ev_move rfl) rfl ?_
  refine JL_step (Step_callP 29 [.iface 50 (I64 (3:Int))] (I64 (3:Int)) (Cl_func [.iface 50 (I64 (3:Int))] Tryd.call29 rfl) (fun w1 hw1 => errSome_c 3 w1 (by decide))) rfl ?_
  rintro v1 L1 ⟨rfl, rfl⟩
  show JL _ _ _ _ ((47, I64 (3:Int)) :: _) [⟨nb1, cu8 key, 54, (0, 0)⟩, ⟨nb2, [I64 ((k:Int)), U64 s], 56, (0, 0)⟩]
  refine JL_val _ (Ev_move rfl) rfl ?_
  refine JL_val (.bool (decide ((3:Int) = (3:Int)))) (Ev_bini rfl rfl fun _ => bin_eql_i _ _) rfl ?_
  refine JL_val _ (Ev_move rfl) rfl ?_
  refine JL_gval 4 50 true _ _ rfl rfl (by decide) (Ev_move rfl) rfl ?_
  refine JL_gval 4 50 true _ _ rfl rfl (by decide) (Ev_move rfl) rfl ?_
  refine JL_gstep 4 50 true _ rfl rfl (by decide) (Step_callP 24 [.slice none 0 0, .slice none 0 0] (.bool (decide (([] : List UInt8) = ([] : List UInt8)))) (Cl_func [.slice none 0 0, .slice none 0 0] Tryd.call24 rfl) (fun w1 hw1 => bytes_c none none 0 0 0 0 ([] : List UInt8) ([] : List UInt8) w1 rfl rfl RdB.nil RdB.nil)) rfl ?_
  rintro v1 L1 ⟨rfl, rfl⟩
  show JL _ _ _ _ ((53, .bool (decide (([] : List UInt8) = ([] : List UInt8)))) :: _) [⟨nb1, cu8 key, 54, (0, 0)⟩, ⟨nb2, [I64 ((k:Int)), U64 s], 56, (0, 0)⟩]
  refine JL_val _ (Ev_pickT _ rfl (by decide) rfl) rfl ?_
  refine JL_val _ (Ev_move rfl) rfl ?_
  refine JL_gval 9 55 true _ _ rfl rfl (decide_eq_true rfl) (Ev_move rfl) rfl ?_
  refine JL_gval 9 55 true _ (.bool true) rfl rfl (decide_eq_true rfl) (Ev_bin _ _ _ rfl rfl (fun _ => eqGuard_if ..) fun _ => neq_if_nil Tryd.underlying45) rfl ?_
  refine JL_gval 9 55 true _ _ rfl rfl (decide_eq_true rfl) (Ev_move rfl) rfl ?_
  refine JL_gskip 12 58 false _ rfl rfl rfl rfl ?_
  refine JL_gskip 12 58 false _ rfl rfl rfl rfl ?_
  refine JL_gskip 12 58 false _ rfl rfl rfl rfl ?_
  refine JL_gskip 12 58 false _ rfl rfl rfl rfl ?_
  refine JL_gskip 12 58 false _ rfl rfl rfl rfl ?_
  refine JL_gskip 12 58 false _ rfl rfl rfl rfl ?_
  refine JL_gval 9 55 true _ _ rfl rfl (decide_eq_true rfl) (Ev_pickT _ rfl rfl rfl) rfl ?_
  refine JL_val _ (Ev_pickT _ rfl (decide_eq_true rfl) rfl) rfl ?_
  refine JL_val _ (Ev_assign rfl) rfl ?_
  refine JL_nil ?_
  refine JQ_then ?_
  refine JC_ret ?_
  refine JQ_ret (.bool true) (res1 Tryd.results4 (RV_tmp rfl)) fun w1 hw1 => ?_
  exact ⟨_, [], rfl, ⟨by rw [show (true) = true from rfl], rfl⟩, hw1.sub (by simp) (by simp)⟩

theorem linkSeals_w (key : List UInt8) (way : Int) (s : UInt64) (az : Option Addr) (n cz : Nat) (z : List UInt8) (w : World) (hk : key.length = 32) (hwb : -9223372036854775808 ≤ way ∧ way ≤ 9223372036854775807) (hz : z.length = n) (hcb : az = none → cz = 0) (hc : n ≤ cz ∧ cz ≤ maxLen) (hr : RdB w [] az z) (hG : GLs w) (hGr : GLr w) (hGi : GLi w) : Calls Tryd.prog 4 #[.agg (cu8 key).toArray, .agg (List.toArray (α := Value) [I64 way, U64 s]), .slice az n cz] w (Post w [] (fun v L => v = .bool true ∧ L = [])) := by
  obtain ⟨hnc, hcm⟩ := hc
  by_cases hx : (3000 < n ∧ n < 262100) ∨ 300000 < n
  · exact linkSealsX_c key way s az n cz z w hk hz hcb hnc hcm hr hG hGr hGi hx
  · by_cases hw : way = 1 ∨ way = 2
    · obtain ⟨k, rfl⟩ : ∃ k : Nat, way = k := ⟨way.toNat, by omega⟩
      by_cases h3 : n ≤ 3000
      · exact linkSealsKS_c key k s az n cz z w hk hz hcb hnc hcm hr hG hGr hGi h3 (by omega) (by omega)
      · by_cases hf : n + 25 ≤ 262144
        · exact linkSealsKL_c key k s az n cz z w hk hz hcb hnc hcm hr hG hGr hGi (by omega) (by omega) (by omega) hf
        · exact linkSealsB_c key k s az n cz z w hk hz hcb hnc hcm hr hG hGr hGi (by omega) (by omega) (by omega) (by omega)
    · by_cases h3 : n ≤ 3000
      · exact linkSealsWS_c key way s az n cz z w hk hz hcb hnc hcm hr hG hGr hGi h3 hw
      · exact linkSealsWL_c key way s az n cz z w hk hz hcb hnc hcm hr hG hGr hGi (by omega) (by omega) hw

theorem linkOpensX_c (key : List UInt8) (way : Int) (s : UInt64) (az : Option Addr) (n cz : Nat) (z : List UInt8)  (w : World) (hk : key.length = 32) (hz : z.length = n) (hcb : az = none → cz = 0) (hnc : n ≤ cz) (hcm : cz ≤ maxLen) (hr : RdB w [] az z) (hG : GLs w) (hGr : GLr w) (hGi : GLi w) (hx : (3000 < n ∧ n ≤ 262144) ∨ 300000 < n) : Calls Tryd.prog 7 #[.agg (cu8 key).toArray, .agg (List.toArray (α := Value) ([I64 (way), U64 s])), .slice az n cz] w (Post w [] (fun v L => v = .bool true ∧ L = [])) := by
  refine enter (P := Tryd.prog) (f := 7) (fn := Tryd.f7) w [] 89 [] [.agg (cu8 key).toArray, .agg (List.toArray (α := Value) ([I64 (way), U64 s])), .slice az n cz] Tryd.func7 rfl rfl (by simp) (Hp.start (by simp) (by simp) (by simp)) ?_
  show JC _ _ _ [(0, .agg (cu8 key).toArray), (1, .agg (List.toArray (α := Value) ([I64 (way), U64 s]))), (2, .slice az n cz)] _
  refine JC_seq ?_
  refine JC_region ?_
  refine JL_step (Step_box (.agg (cu8 key).toArray) (cu8 key) rfl (by first | rfl | simp)) rfl ?_
  rintro v1 L1 ⟨nb1, hnb1, rfl, rfl⟩
  show JL _ _ _ _ ((3, Ptr nb1 0) :: _) [⟨nb1, cu8 key, 54, (0, 0)⟩]
  refine JL_step (Step_box (.agg (List.toArray (α := Value) ([I64 (way), U64 s]))) ([I64 (way), U64 s]) rfl (by first | rfl | simp)) rfl ?_
  rintro v1 L1 ⟨nb2, hnb2, rfl, rfl⟩
  show JL _ _ _ _ ((4, Ptr nb2 0) :: _) [⟨nb1, cu8 key, 54, (0, 0)⟩, ⟨nb2, [I64 (way), U64 s], 56, (0, 0)⟩]
  refine JL_val _ (Ev_assign rfl) rfl ?_
  refine JL_nil ?_
  refine JQ_then ?_
  refine JC_seq ?_
  refine JC_seq ?_
  refine JC_region ?_
  refine JL_step (Step_callP 26 [] (.bool true) (Cl_func [] Tryd.call26 rfl) (fun w1 hw1 => alive15_c  w1 (hG.at hw1))) rfl ?_
  rintro v1 L1 ⟨rfl, rfl⟩
  show JL _ _ _ _ ((17, .bool true) :: _) [⟨nb1, cu8 key, 54, (0, 0)⟩, ⟨nb2, [I64 (way), U64 s], 56, (0, 0)⟩]
  refine JL_val (.bool (!true)) (Ev_not rfl) rfl ?_
  refine JL_nil ?_
  refine JQ_then ?_
  refine JC_condF _ rfl rfl ?_
  refine JC_skip ?_
  refine JQ_then ?_
  refine JC_seq ?_
  refine JC_seq ?_
  refine JC_region ?_
  refine JL_val _ (Ev_move rfl) rfl ?_
  refine JL_val (I64 ((n:Int))) (Ev_len Tryd.underlying43 rfl) rfl ?_
  refine JL_val (.bool (decide ((3000:Int) < ((n:Int))))) (Ev_bini rfl rfl fun _ => bin_gtr_i _ _) rfl ?_
  refine JL_val _ (Ev_move rfl) rfl ?_
  refine JL_gval 3 22 true _ _ rfl rfl (decide_eq_true (by omega)) (Ev_move rfl) rfl ?_
  refine JL_gval 3 22 true _ (I64 ((n:Int))) rfl rfl (decide_eq_true (by omega)) (Ev_len Tryd.underlying43 rfl) rfl ?_
  refine JL_gval 3 22 true _ (.bool (decide (((n:Int)) ≤ (262144:Int)))) rfl rfl (decide_eq_true (by omega)) (Ev_bini rfl rfl fun _ => bin_leq_i _ _) rfl ?_
  refine JL_val _ (Ev_pickT _ rfl (decide_eq_true (by omega)) rfl) rfl ?_
  refine JL_val _ (Ev_move rfl) rfl ?_
  rcases Bool.eq_false_or_eq_true (decide (((n:Int)) ≤ (262144:Int))) with hb1 | hb1
  ·
    have hp1 : ((n:Int)) ≤ (262144:Int) := of_decide_eq_true hb1
    refine JL_gskip 8 27 false _ rfl rfl hb1 rfl ?_
    refine JL_gskip 8 27 false _ rfl rfl hb1 rfl ?_
    refine JL_gskip 8 27 false _ rfl rfl hb1 rfl ?_
    refine JL_val _ (Ev_pickT _ rfl hb1 rfl) rfl ?_
    refine JL_nil ?_
    refine JQ_then ?_
    refine JC_condT _ rfl rfl ?_
    refine JC_seq ?_
    refine JC_region ?_
    refine JL_val _ (Ev_assign rfl) rfl ?_
    refine JL_nil ?_
    refine JQ_then ?_
    refine JC_ret ?_
    refine JQ_then_ret ?_
    refine JQ_ret (.bool true) (res1 Tryd.results7 (RV_tmp rfl)) fun w1 hw1 => ?_
    exact ⟨_, [], rfl, ⟨by rw [show (true) = true from rfl], rfl⟩, hw1.sub (by simp) (by simp)⟩
  ·
    have hp1 : ¬ (((n:Int)) ≤ (262144:Int)) := of_decide_eq_false hb1
    refine JL_gval 8 27 false _ _ rfl rfl hb1 (Ev_move rfl) rfl ?_
    refine JL_gval 8 27 false _ (I64 ((n:Int))) rfl rfl hb1 (Ev_len Tryd.underlying43 rfl) rfl ?_
    refine JL_gval 8 27 false _ (.bool (decide ((300000:Int) < ((n:Int))))) rfl rfl hb1 (Ev_bini rfl rfl fun _ => bin_gtr_i _ _) rfl ?_
    refine JL_val _ (Ev_pickF _ rfl hb1 rfl) rfl ?_
    refine JL_nil ?_
    refine JQ_then ?_
    refine JC_condT _ rfl (decide_eq_true (by omega)) ?_
    refine JC_seq ?_
    refine JC_region ?_
    refine JL_val _ (Ev_assign rfl) rfl ?_
    refine JL_nil ?_
    refine JQ_then ?_
    refine JC_ret ?_
    refine JQ_then_ret ?_
    refine JQ_ret (.bool true) (res1 Tryd.results7 (RV_tmp rfl)) fun w1 hw1 => ?_
    exact ⟨_, [], rfl, ⟨by rw [show (true) = true from rfl], rfl⟩, hw1.sub (by simp) (by simp)⟩

theorem linkOpensPS_c (key : List UInt8) (way : Int) (s : UInt64) (az : Option Addr) (n cz : Nat) (z : List UInt8)  (w : World) (hk : key.length = 32) (hz : z.length = n) (hcb : az = none → cz = 0) (hnc : n ≤ cz) (hcm : cz ≤ maxLen) (hr : RdB w [] az z) (hG : GLs w) (hGr : GLr w) (hGi : GLi w) (hn : n ≤ 3000) (hp : ¬ PkOk z) (ho : openE key way s z ≠ 0) : Calls Tryd.prog 7 #[.agg (cu8 key).toArray, .agg (List.toArray (α := Value) ([I64 (way), U64 s])), .slice az n cz] w (Post w [] (fun v L => v = .bool true ∧ L = [])) := by
  have hmx : maxLen = 9223372036854775807 := rfl
  refine enter (P := Tryd.prog) (f := 7) (fn := Tryd.f7) w [] 89 [] [.agg (cu8 key).toArray, .agg (List.toArray (α := Value) ([I64 (way), U64 s])), .slice az n cz] Tryd.func7 rfl rfl (by simp) (Hp.start (by simp) (by simp) (by simp)) ?_
  show JC _ _ _ [(0, .agg (cu8 key).toArray), (1, .agg (List.toArray (α := Value) ([I64 (way), U64 s]))), (2, .slice az n cz)] _
  refine JC_seq ?_
  refine JC_region ?_
  refine JL_step (Step_box (.agg (cu8 key).toArray) (cu8 key) rfl (by first | rfl | simp)) rfl ?_
  rintro v1 L1 ⟨nb1, hnb1, rfl, rfl⟩
  show JL _ _ _ _ ((3, Ptr nb1 0) :: _) [⟨nb1, cu8 key, 54, (0, 0)⟩]
  refine JL_step (Step_box (.agg (List.toArray (α := Value) ([I64 (way), U64 s]))) ([I64 (way), U64 s]) rfl (by first | rfl | simp)) rfl ?_
  rintro v1 L1 ⟨nb2, hnb2, rfl, rfl⟩
  show JL _ _ _ _ ((4, Ptr nb2 0) :: _) [⟨nb1, cu8 key, 54, (0, 0)⟩, ⟨nb2, [I64 (way), U64 s], 56, (0, 0)⟩]
  refine JL_val _ (Ev_assign rfl) rfl ?_
  refine JL_nil ?_
  refine JQ_then ?_
  refine JC_seq ?_
  refine JC_seq ?_
  refine JC_region ?_
  refine JL_step (Step_callP 26 [] (.bool true) (Cl_func [] Tryd.call26 rfl) (fun w1 hw1 => alive15_c  w1 (hG.at hw1))) rfl ?_
  rintro v1 L1 ⟨rfl, rfl⟩
  show JL _ _ _ _ ((17, .bool true) :: _) [⟨nb1, cu8 key, 54, (0, 0)⟩, ⟨nb2, [I64 (way), U64 s], 56, (0, 0)⟩]
  refine JL_val (.bool (!true)) (Ev_not rfl) rfl ?_
  refine JL_nil ?_
  refine JQ_then ?_
  refine JC_condF _ rfl rfl ?_
  refine JC_skip ?_
  refine JQ_then ?_
  refine JC_seq ?_
  refine JC_seq ?_
  refine JC_region ?_
  refine JL_val _ (Ev_move rfl) rfl ?_
  refine JL_val (I64 ((n:Int))) (Ev_len Tryd.underlying43 rfl) rfl ?_
  refine JL_val (.bool (decide ((3000:Int) < ((n:Int))))) (Ev_bini rfl rfl fun _ => bin_gtr_i _ _) rfl ?_
  refine JL_val _ (Ev_move rfl) rfl ?_
  refine JL_gskip 3 22 true _ rfl rfl (decide_eq_false (by omega)) rfl ?_
  refine JL_gskip 3 22 true _ rfl rfl (decide_eq_false (by omega)) rfl ?_
  refine JL_gskip 3 22 true _ rfl rfl (decide_eq_false (by omega)) rfl ?_
  refine JL_val _ (Ev_pickF _ rfl (decide_eq_false (by omega)) rfl) rfl ?_
  refine JL_val _ (Ev_move rfl) rfl ?_
  refine JL_gval 8 27 false _ _ rfl rfl rfl (Ev_move rfl) rfl ?_
  refine JL_gval 8 27 false _ (I64 ((n:Int))) rfl rfl rfl (Ev_len Tryd.underlying43 rfl) rfl ?_
  refine JL_gval 8 27 false _ (.bool (decide ((300000:Int) < ((n:Int))))) rfl rfl rfl (Ev_bini rfl rfl fun _ => bin_gtr_i _ _) rfl ?_
  refine JL_val _ (Ev_pickF _ rfl rfl rfl) rfl ?_
  refine JL_nil ?_
  refine JQ_then ?_
  refine JC_condF _ rfl (decide_eq_false (by omega)) ?_
  refine JC_skip ?_
  refine JQ_then ?_
  refine JC_seq ?_
  refine JC_region ?_
  refine JL_val (.agg (cu8 key).toArray) (Ev_load rfl (Ld_agg Tryd.isAgg54 Tryd.sizeOf54 (len_cu8 hk) (MemAt.ent 0 rfl (Seg.whole _)))) rfl ?_
  refine JL_val (Ptr nb2 0) (Ev_fieldAddr 0 3 1 Tryd.underlying56 rfl Tryd.sizeOf3 rfl rfl) rfl ?_
  refine JL_val (I64 (way)) (Ev_load rfl (Ld_one Tryd.isAgg3 (MemAt.ent 1 rfl (Seg.head)))) rfl ?_
  refine JL_val (Ptr nb2 1) (Ev_fieldAddr 1 22 1 Tryd.underlying56 rfl Tryd.sizeOf22 rfl rfl) rfl ?_
  refine JL_val (U64 s) (Ev_load rfl (Ld_one Tryd.isAgg22 (MemAt.ent 1 rfl (Seg.tail (Seg.head))))) rfl ?_
  refine JL_val _ (Ev_move rfl) rfl ?_
  refine JL_step (Step_callP 39 [.agg (cu8 key).toArray, I64 (way), U64 s, .slice az n cz] (.tuple #[.slice none 0 0, errV 50 (openE key (way) s z)]) (Cl_func [.agg (cu8 key).toArray, I64 (way), U64 s, .slice az n cz] Tryd.call39 rfl) (fun w1 hw1 => lopenB_w key (way) s az n cz z w1 hk hz hcb (by omega) (by omega) (hr.at (M' := []) hw1 (by simp)) (hG.at hw1) ho)) rfl ?_
  rintro v1 L1 ⟨rfl, rfl⟩
  show JL _ _ _ _ ((39, .tuple #[.slice none 0 0, errV 50 (openE key (way) s z)]) :: _) [⟨nb1, cu8 key, 54, (0, 0)⟩, ⟨nb2, [I64 (way), U64 s], 56, (0, 0)⟩]
  refine JL_val _ (Ev_move rfl) rfl ?_
  refine JL_val _ (Ev_extract rfl rfl) rfl ?_
  refine JL_val _ (Ev_extract rfl rfl) rfl ?_
  refine JL_val _ (Ev_assign rfl) rfl ?_
  refine JL_val _ (Ev_assign rfl) rfl ?_
  refine JL_nil ?_
  refine JQ_then ?_
  refine JC_seq ?_
  refine JC_region ?_
  refine JL_val (.agg (cu8 key).toArray) (Ev_load rfl (Ld_agg Tryd.isAgg54 Tryd.sizeOf54 (len_cu8 hk) (MemAt.ent 0 rfl (Seg.whole _)))) rfl ?_
  refine JL_val (Ptr nb2 0) (Ev_fieldAddr 0 3 1 Tryd.underlying56 rfl Tryd.sizeOf3 rfl rfl) rfl ?_
  refine JL_val (I64 (way)) (Ev_load rfl (Ld_one Tryd.isAgg3 (MemAt.ent 1 rfl (Seg.head)))) rfl ?_
  refine JL_val (Ptr nb2 1) (Ev_fieldAddr 1 22 1 Tryd.underlying56 rfl Tryd.sizeOf22 rfl rfl) rfl ?_
  refine JL_val (U64 s) (Ev_load rfl (Ld_one Tryd.isAgg22 (MemAt.ent 1 rfl (Seg.tail (Seg.head))))) rfl ?_
  refine JL_val _ (Ev_move rfl) rfl ?_
  refine JL_step (Step_callP 40 [.agg (cu8 key).toArray, I64 (way), U64 s, .slice az n cz] (.tuple #[.slice none 0 0, I64 ((openE key (way) s z:Int))]) (Cl_func [.agg (cu8 key).toArray, I64 (way), U64 s, .slice az n cz] Tryd.call40 rfl) (fun w1 hw1 => ropenB_w key (way) s az n cz z w1 hk hz hcb (by omega) (by omega) (hr.at (M' := []) hw1 (by simp)) (GLr.at hw1 hGr) (GLi.at hw1 hGi) ho)) rfl ?_
  rintro v1 L1 ⟨rfl, rfl⟩
  show JL _ _ _ _ ((49, .tuple #[.slice none 0 0, I64 ((openE key (way) s z:Int))]) :: _) [⟨nb1, cu8 key, 54, (0, 0)⟩, ⟨nb2, [I64 (way), U64 s], 56, (0, 0)⟩]
  refine JL_val _ (Ev_move rfl) rfl ?_
  refine JL_val _ (Ev_extract rfl rfl) rfl ?_
  refine JL_val _ (Ev_extract rfl rfl) rfl ?_
  refine JL_val _ (Ev_assign rfl) rfl ?_
  refine JL_val _ (Ev_assign rfl) rfl ?_
  refine JL_nil ?_
  refine JQ_then ?_
  refine JC_seq ?_
  refine JC_region ?_
  refine JL_val _ (Ev_move rfl) rfl ?_
  refine JL_step (Step_callP 41 [.slice az n cz] (.tuple #[I64 (0:Int), U64 (0:UInt64), .iface 50 (I64 (2:Int))]) (Cl_func [.slice az n cz] Tryd.call41 rfl) (fun w1 hw1 => peekB_w az n cz z w1 hz hcb (by omega) (by omega) (hr.at (M' := []) hw1 (by simp)) hp)) rfl ?_
  rintro v1 L1 ⟨rfl, rfl⟩
  show JL _ _ _ _ ((54, .tuple #[I64 (0:Int), U64 (0:UInt64), .iface 50 (I64 (2:Int))]) :: _) [⟨nb1, cu8 key, 54, (0, 0)⟩, ⟨nb2, [I64 (way), U64 s], 56, (0, 0)⟩]
  refine JL_val _ (Ev_move rfl) rfl ?_
  refine JL_val _ (Ev_extract rfl rfl) rfl ?_
  refine JL_val _ (Ev_extract rfl rfl) rfl ?_
  refine JL_val _ (Ev_extract rfl rfl) rfl ?_
  refine JL_val _ (Ev_assign rfl) rfl ?_
  refine JL_val _ (Ev_assign rfl) rfl ?_
  refine JL_val _ (Ev_assign rfl) rfl ?_
  refine JL_nil ?_
  refine JQ_then ?_
  refine JC_seq ?_
  refine JC_region ?_
  refine JL_val _ (Ev_move rfl) rfl ?_
  refine JL_step (Step_callP 42 [.slice az n cz] (.tuple #[I64 (0:Int), U64 (0:UInt64), I64 (2:Int)]) (Cl_func [.slice az n cz] Tryd.call42 rfl) (fun w1 hw1 => rpeekB_w az n cz z w1 hz hcb (by omega) (by omega) (hr.at (M' := []) hw1 (by simp)) hp)) rfl ?_
  rintro v1 L1 ⟨rfl, rfl⟩
  show JL _ _ _ _ ((60, .tuple #[I64 (0:Int), U64 (0:UInt64), I64 (2:Int)]) :: _) [⟨nb1, cu8 key, 54, (0, 0)⟩, ⟨nb2, [I64 (way), U64 s], 56, (0, 0)⟩]
  refine JL_val _ (Ev_move rfl) rfl ?_
  refine JL_val _ (Ev_extract rfl rfl) rfl ?_
  refine JL_val _ (Ev_extract rfl rfl) rfl ?_
  refine JL_val _ (Ev_extract rfl rfl) rfl ?_
  refine JL_val _ (Ev_assign rfl) rfl ?_
  refine JL_val _ (Ev_assign rfl) rfl ?_
  refine JL_val _ (Ev_assign rfl) rfl ?_
  refine JL_nil ?_
  refine JQ_then ?_
  refine JC_seq ?_
  refine JC_region ?_
  refine JL_val _ (Ev_move rfl) rfl ?_
  refine JL_step (Step_callP 29 [errV 50 (openE key (way) s z)] (I64 ((openE key (way) s z:Int))) (Cl_func [errV 50 (openE key (way) s z)] Tryd.call29 rfl) (fun w1 hw1 => errNum_w (openE key (way) s z) w1)) rfl ?_
  rintro v1 L1 ⟨rfl, rfl⟩
  show JL _ _ _ _ ((65, I64 ((openE key (way) s z:Int))) :: _) [⟨nb1, cu8 key, 54, (0, 0)⟩, ⟨nb2, [I64 (way), U64 s], 56, (0, 0)⟩]
  refine JL_val _ (Ev_move rfl) rfl ?_
  refine JL_val (.bool (decide (((openE key (way) s z:Int)) = ((openE key (way) s z:Int))))) (Ev_bini rfl rfl fun _ => bin_eql_i _ _) rfl ?_
  refine JL_val _ (Ev_move rfl) rfl ?_
  refine JL_gval 4 68 true _ _ rfl rfl (by simp) (Ev_move rfl) rfl ?_
  refine JL_gval 4 68 true _ _ rfl rfl (by simp) (Ev_move rfl) rfl ?_
  refine JL_gstep 4 68 true _ rfl rfl (by simp) (Step_callP 24 [.slice none 0 0, .slice none 0 0] (.bool (decide (([] : List UInt8) = ([] : List UInt8)))) (Cl_func [.slice none 0 0, .slice none 0 0] Tryd.call24 rfl) (fun w1 hw1 => bytes_c none none 0 0 0 0 ([] : List UInt8) ([] : List UInt8) w1 rfl rfl RdB.nil RdB.nil)) rfl ?_
  rintro v1 L1 ⟨rfl, rfl⟩
  show JL _ _ _ _ ((71, .bool (decide (([] : List UInt8) = ([] : List UInt8)))) :: _) [⟨nb1, cu8 key, 54, (0, 0)⟩, ⟨nb2, [I64 (way), U64 s], 56, (0, 0)⟩]
  refine JL_val _ (Ev_pickT _ rfl (by simp) rfl) rfl ?_
  refine JL_val _ (Ev_move rfl) rfl ?_
  refine JL_gval 9 73 true _ _ rfl rfl (decide_eq_true rfl) (Ev_move rfl) rfl ?_
  refine JL_gval 9 73 true _ _ rfl rfl (decide_eq_true rfl) (Ev_move rfl) rfl ?_
  refine JL_gval 9 73 true _ (.bool (decide ((0:Int) = (0:Int)))) rfl rfl (decide_eq_true rfl) (Ev_bini rfl rfl fun _ => bin_eql_i _ _) rfl ?_
  refine JL_val _ (Ev_pickT _ rfl (decide_eq_true rfl) rfl) rfl ?_
  refine JL_val _ (Ev_move rfl) rfl ?_
  refine JL_gval 14 78 true _ _ rfl rfl (by decide) (Ev_move rfl) rfl ?_
  refine JL_gval 14 78 true _ _ rfl rfl (by decide) (Ev_move rfl) rfl ?_
  refine JL_gval 14 78 true _ (.bool (decide ((0:UInt64) = (0:UInt64)))) rfl rfl (by decide) (Ev_bini rfl rfl fun _ => bin_eql_u64 (0:UInt64) (0:UInt64)) rfl ?_
  refine JL_val _ (Ev_pickT _ rfl (by decide) rfl) rfl ?_
  refine JL_val _ (Ev_move rfl) rfl ?_
  refine JL_gval 19 83 true _ _ rfl rfl (by decide) (Ev_move rfl) rfl ?_
  refine JL_gstep 19 83 true _ rfl rfl (by decide) (Step_callP 29 [.iface 50 (I64 (2:Int))] (I64 (2:Int)) (Cl_func [.iface 50 (I64 (2:Int))] Tryd.call29 rfl) (fun w1 hw1 => errSome_c 2 w1 (by decide))) rfl ?_
  rintro v1 L1 ⟨rfl, rfl⟩
  show JL _ _ _ _ ((85, I64 (2:Int)) :: _) [⟨nb1, cu8 key, 54, (0, 0)⟩, ⟨nb2, [I64 (way), U64 s], 56, (0, 0)⟩]
  refine JL_gval 19 83 true _ _ rfl rfl (by decide) (Ev_move rfl) rfl ?_
  refine JL_gval 19 83 true _ (.bool (decide ((2:Int) = (2:Int)))) rfl rfl (by decide) (Ev_bini rfl rfl fun _ => bin_eql_i _ _) rfl ?_
  refine JL_val _ (Ev_pickT _ rfl (by decide) rfl) rfl ?_
  refine JL_val _ (Ev_assign rfl) rfl ?_
  refine JL_nil ?_
  refine JQ_then ?_
  refine JC_ret ?_
  refine JQ_ret (.bool (decide ((2:Int) = (2:Int)))) (res1 Tryd.results7 (RV_tmp rfl)) fun w1 hw1 => ?_
  exact ⟨_, [], rfl, ⟨by rw [show (decide ((2:Int) = (2:Int))) = true from (by decide)], rfl⟩, hw1.sub (by simp) (by simp)⟩

theorem linkOpensPL_c (key : List UInt8) (way : Int) (s : UInt64) (az : Option Addr) (n cz : Nat) (z : List UInt8)  (w : World) (hk : key.length = 32) (hz : z.length = n) (hcb : az = none → cz = 0) (hnc : n ≤ cz) (hcm : cz ≤ maxLen) (hr : RdB w [] az z) (hG : GLs w) (hGr : GLr w) (hGi : GLi w) (hn : 262144 < n) (hn2 : n ≤ 300000) (hp : ¬ PkOk z) (ho : openE key way s z ≠ 0) : Calls Tryd.prog 7 #[.agg (cu8 key).toArray, .agg (List.toArray (α := Value) ([I64 (way), U64 s])), .slice az n cz] w (Post w [] (fun v L => v = .bool true ∧ L = [])) := by
  have hmx : maxLen = 9223372036854775807 := rfl
  refine enter (P := Tryd.prog) (f := 7) (fn := Tryd.f7) w [] 89 [] [.agg (cu8 key).toArray, .agg (List.toArray (α := Value) ([I64 (way), U64 s])), .slice az n cz] Tryd.func7 rfl rfl (by simp) (Hp.start (by simp) (by simp) (by simp)) ?_
  show JC _ _ _ [(0, .agg (cu8 key).toArray), (1, .agg (List.toArray (α := Value) ([I64 (way), U64 s]))), (2, .slice az n cz)] _
  refine JC_seq ?_
  refine JC_region ?_
  refine JL_step (Step_box (.agg (cu8 key).toArray) (cu8 key) rfl (by first | rfl | simp)) rfl ?_
  rintro v1 L1 ⟨nb1, hnb1, rfl, rfl⟩
  show JL _ _ _ _ ((3, Ptr nb1 0) :: _) [⟨nb1, cu8 key, 54, (0, 0)⟩]
  refine JL_step (Step_box (.agg (List.toArray (α := Value) ([I64 (way), U64 s]))) ([I64 (way), U64 s]) rfl (by first | rfl | simp)) rfl ?_
  rintro v1 L1 ⟨nb2, hnb2, rfl, rfl⟩
  show JL _ _ _ _ ((4, Ptr nb2 0) :: _) [⟨nb1, cu8 key, 54, (0, 0)⟩, ⟨nb2, [I64 (way), U64 s], 56, (0, 0)⟩]
  refine JL_val _ (Ev_assign rfl) rfl ?_
  refine JL_nil ?_
  refine JQ_then ?_
  refine JC_seq ?_
  refine JC_seq ?_
  refine JC_region ?_
  refine JL_step (Step_callP 26 [] (.bool true) (Cl_func [] Tryd.call26 rfl) (fun w1 hw1 => alive15_c  w1 (hG.at hw1))) rfl ?_
  rintro v1 L1 ⟨rfl, rfl⟩
  show JL _ _ _ _ ((17, .bool true) :: _) [⟨nb1, cu8 key, 54, (0, 0)⟩, ⟨nb2, [I64 (way), U64 s], 56, (0, 0)⟩]
  refine JL_val (.bool (!true)) (Ev_not rfl) rfl ?_
  refine JL_nil ?_
  refine JQ_then ?_
  refine JC_condF _ rfl rfl ?_
  refine JC_skip ?_
  refine JQ_then ?_
  refine JC_seq ?_
  refine JC_seq ?_
  refine JC_region ?_
  refine JL_val _ (Ev_move rfl) rfl ?_
  refine JL_val (I64 ((n:Int))) (Ev_len Tryd.underlying43 rfl) rfl ?_
  refine JL_val (.bool (decide ((3000:Int) < ((n:Int))))) (Ev_bini rfl rfl fun _ => bin_gtr_i _ _) rfl ?_
  refine JL_val _ (Ev_move rfl) rfl ?_
  refine JL_gval 3 22 true _ _ rfl rfl (decide_eq_true (by omega)) (Ev_move rfl) rfl ?_
  refine JL_gval 3 22 true _ (I64 ((n:Int))) rfl rfl (decide_eq_true (by omega)) (Ev_len Tryd.underlying43 rfl) rfl ?_
  refine JL_gval 3 22 true _ (.bool (decide (((n:Int)) ≤ (262144:Int)))) rfl rfl (decide_eq_true (by omega)) (Ev_bini rfl rfl fun _ => bin_leq_i _ _) rfl ?_
  refine JL_val _ (Ev_pickT _ rfl (decide_eq_true (by omega)) rfl) rfl ?_
  refine JL_val _ (Ev_move rfl) rfl ?_
  refine JL_gval 8 27 false _ _ rfl rfl (decide_eq_false (by omega)) (Ev_move rfl) rfl ?_
  refine JL_gval 8 27 false _ (I64 ((n:Int))) rfl rfl (decide_eq_false (by omega)) (Ev_len Tryd.underlying43 rfl) rfl ?_
  refine JL_gval 8 27 false _ (.bool (decide ((300000:Int) < ((n:Int))))) rfl rfl (decide_eq_false (by omega)) (Ev_bini rfl rfl fun _ => bin_gtr_i _ _) rfl ?_
  refine JL_val _ (Ev_pickF _ rfl (decide_eq_false (by omega)) rfl) rfl ?_
  refine JL_nil ?_
  refine JQ_then ?_
  refine JC_condF _ rfl (decide_eq_false (by omega)) ?_
  refine JC_skip ?_
  refine JQ_then ?_
  refine JC_seq ?_
  refine JC_region ?_
  refine JL_val (.agg (cu8 key).toArray) (Ev_load rfl (Ld_agg Tryd.isAgg54 Tryd.sizeOf54 (len_cu8 hk) (MemAt.ent 0 rfl (Seg.whole _)))) rfl ?_
  refine JL_val (Ptr nb2 0) (Ev_fieldAddr 0 3 1 Tryd.underlying56 rfl Tryd.sizeOf3 rfl rfl) rfl ?_
  refine JL_val (I64 (way)) (Ev_load rfl (Ld_one Tryd.isAgg3 (MemAt.ent 1 rfl (Seg.head)))) rfl ?_
  refine JL_val (Ptr nb2 1) (Ev_fieldAddr 1 22 1 Tryd.underlying56 rfl Tryd.sizeOf22 rfl rfl) rfl ?_
  refine JL_val (U64 s) (Ev_load rfl (Ld_one Tryd.isAgg22 (MemAt.ent 1 rfl (Seg.tail (Seg.head))))) rfl ?_
  refine JL_val _ (Ev_move rfl) rfl ?_
  refine JL_step (Step_callP 39 [.agg (cu8 key).toArray, I64 (way), U64 s, .slice az n cz] (.tuple #[.slice none 0 0, errV 50 (openE key (way) s z)]) (Cl_func [.agg (cu8 key).toArray, I64 (way), U64 s, .slice az n cz] Tryd.call39 rfl) (fun w1 hw1 => lopenB_w key (way) s az n cz z w1 hk hz hcb (by omega) (by omega) (hr.at (M' := []) hw1 (by simp)) (hG.at hw1) ho)) rfl ?_
  rintro v1 L1 ⟨rfl, rfl⟩
  show JL _ _ _ _ ((39, .tuple #[.slice none 0 0, errV 50 (openE key (way) s z)]) :: _) [⟨nb1, cu8 key, 54, (0, 0)⟩, ⟨nb2, [I64 (way), U64 s], 56, (0, 0)⟩]
  refine JL_val _ (Ev_move rfl) rfl ?_
  refine JL_val _ (Ev_extract rfl rfl) rfl ?_
  refine JL_val _ (Ev_extract rfl rfl) rfl ?_
  refine JL_val _ (Ev_assign rfl) rfl ?_
  refine JL_val _ (Ev_assign rfl) rfl ?_
  refine JL_nil ?_
  refine JQ_then ?_
  refine JC_seq ?_
  refine JC_region ?_
  refine JL_val (.agg (cu8 key).toArray) (Ev_load rfl (Ld_agg Tryd.isAgg54 Tryd.sizeOf54 (len_cu8 hk) (MemAt.ent 0 rfl (Seg.whole _)))) rfl ?_
  refine JL_val (Ptr nb2 0) (Ev_fieldAddr 0 3 1 Tryd.underlying56 rfl Tryd.sizeOf3 rfl rfl) rfl ?_
  refine JL_val (I64 (way)) (Ev_load rfl (Ld_one Tryd.isAgg3 (MemAt.ent 1 rfl (Seg.head)))) rfl ?_
  refine JL_val (Ptr nb2 1) (Ev_fieldAddr 1 22 1 Tryd.underlying56 rfl Tryd.sizeOf22 rfl rfl) rfl ?_
  refine JL_val (U64 s) (Ev_load rfl (Ld_one Tryd.isAgg22 (MemAt.ent 1 rfl (Seg.tail (Seg.head))))) rfl ?_
  refine JL_val _ (Ev_move rfl) rfl ?_
  refine JL_step (Step_callP 40 [.agg (cu8 key).toArray, I64 (way), U64 s, .slice az n cz] (.tuple #[.slice none 0 0, I64 ((openE key (way) s z:Int))]) (Cl_func [.agg (cu8 key).toArray, I64 (way), U64 s, .slice az n cz] Tryd.call40 rfl) (fun w1 hw1 => ropenB_w key (way) s az n cz z w1 hk hz hcb (by omega) (by omega) (hr.at (M' := []) hw1 (by simp)) (GLr.at hw1 hGr) (GLi.at hw1 hGi) ho)) rfl ?_
  rintro v1 L1 ⟨rfl, rfl⟩
  show JL _ _ _ _ ((49, .tuple #[.slice none 0 0, I64 ((openE key (way) s z:Int))]) :: _) [⟨nb1, cu8 key, 54, (0, 0)⟩, ⟨nb2, [I64 (way), U64 s], 56, (0, 0)⟩]
  refine JL_val _ (Ev_move rfl) rfl ?_
  refine JL_val _ (Ev_extract rfl rfl) rfl ?_
  refine JL_val _ (Ev_extract rfl rfl) rfl ?_
  refine JL_val _ (Ev_assign rfl) rfl ?_
  refine JL_val _ (Ev_assign rfl) rfl ?_
  refine JL_nil ?_
  refine JQ_then ?_
  refine JC_seq ?_
  refine JC_region ?_
  refine JL_val _ (Ev_move rfl) rfl ?_
  refine JL_step (Step_callP 41 [.slice az n cz] (.tuple #[I64 (0:Int), U64 (0:UInt64), .iface 50 (I64 (2:Int))]) (Cl_func [.slice az n cz] Tryd.call41 rfl) (fun w1 hw1 => peekB_w az n cz z w1 hz hcb (by omega) (by omega) (hr.at (M' := []) hw1 (by simp)) hp)) rfl ?_
  rintro v1 L1 ⟨rfl, rfl⟩
  show JL _ _ _ _ ((54, .tuple #[I64 (0:Int), U64 (0:UInt64), .iface 50 (I64 (2:Int))]) :: _) [⟨nb1, cu8 key, 54, (0, 0)⟩, ⟨nb2, [I64 (way), U64 s], 56, (0, 0)⟩]
  refine JL_val _ (Ev_move rfl) rfl ?_
  refine JL_val _ (Ev_extract rfl rfl) rfl ?_
  refine JL_val _ (Ev_extract rfl rfl) rfl ?_
  refine JL_val _ (Ev_extract rfl rfl) rfl ?_
  refine JL_val _ (Ev_assign rfl) rfl ?_
  refine JL_val _ (Ev_assign rfl) rfl ?_
  refine JL_val _ (Ev_assign rfl) rfl ?_
  refine JL_nil ?_
  refine JQ_then ?_
  refine JC_seq ?_
  refine JC_region ?_
  refine JL_val _ (Ev_move rfl) rfl ?_
  refine JL_step (Step_callP 42 [.slice az n cz] (.tuple #[I64 (0:Int), U64 (0:UInt64), I64 (2:Int)]) (Cl_func [.slice az n cz] Tryd.call42 rfl) (fun w1 hw1 => rpeekB_w az n cz z w1 hz hcb (by omega) (by omega) (hr.at (M' := []) hw1 (by simp)) hp)) rfl ?_
  rintro v1 L1 ⟨rfl, rfl⟩
  show JL _ _ _ _ ((60, .tuple #[I64 (0:Int), U64 (0:UInt64), I64 (2:Int)]) :: _) [⟨nb1, cu8 key, 54, (0, 0)⟩, ⟨nb2, [I64 (way), U64 s], 56, (0, 0)⟩]
  refine JL_val _ (Ev_move rfl) rfl ?_
  refine JL_val _ (Ev_extract rfl rfl) rfl ?_
  refine JL_val _ (Ev_extract rfl rfl) rfl ?_
  refine JL_val _ (Ev_extract rfl rfl) rfl ?_
  refine JL_val _ (Ev_assign rfl) rfl ?_
  refine JL_val _ (Ev_assign rfl) rfl ?_
  refine JL_val _ (Ev_assign rfl) rfl ?_
  refine JL_nil ?_
  refine JQ_then ?_
  refine JC_seq ?_
  refine JC_region ?_
  refine JL_val _ (Ev_move rfl) rfl ?_
  refine JL_step (Step_callP 29 [errV 50 (openE key (way) s z)] (I64 ((openE key (way) s z:Int))) (Cl_func [errV 50 (openE key (way) s z)] Tryd.call29 rfl) (fun w1 hw1 => errNum_w (openE key (way) s z) w1)) rfl ?_
  rintro v1 L1 ⟨rfl, rfl⟩
  show JL _ _ _ _ ((65, I64 ((openE key (way) s z:Int))) :: _) [⟨nb1, cu8 key, 54, (0, 0)⟩, ⟨nb2, [I64 (way), U64 s], 56, (0, 0)⟩]
  refine JL_val _ (Ev_move rfl) rfl ?_
  refine JL_val (.bool (decide (((openE key (way) s z:Int)) = ((openE key (way) s z:Int))))) (Ev_bini rfl rfl fun _ => bin_eql_i _ _) rfl ?_
  refine JL_val _ (Ev_move rfl) rfl ?_
  refine JL_gval 4 68 true _ _ rfl rfl (by simp) (Ev_move rfl) rfl ?_
  refine JL_gval 4 68 true _ _ rfl rfl (by simp) (Ev_move rfl) rfl ?_
  refine JL_gstep 4 68 true _ rfl rfl (by simp) (Step_callP 24 [.slice none 0 0, .slice none 0 0] (.bool (decide (([] : List UInt8) = ([] : List UInt8)))) (Cl_func [.slice none 0 0, .slice none 0 0] Tryd.call24 rfl) (fun w1 hw1 => bytes_c none none 0 0 0 0 ([] : List UInt8) ([] : List UInt8) w1 rfl rfl RdB.nil RdB.nil)) rfl ?_
  rintro v1 L1 ⟨rfl, rfl⟩
  show JL _ _ _ _ ((71, .bool (decide (([] : List UInt8) = ([] : List UInt8)))) :: _) [⟨nb1, cu8 key, 54, (0, 0)⟩, ⟨nb2, [I64 (way), U64 s], 56, (0, 0)⟩]
  refine JL_val _ (Ev_pickT _ rfl (by simp) rfl) rfl ?_
  refine JL_val _ (Ev_move rfl) rfl ?_
  refine JL_gval 9 73 true _ _ rfl rfl (decide_eq_true rfl) (Ev_move rfl) rfl ?_
  refine JL_gval 9 73 true _ _ rfl rfl (decide_eq_true rfl) (Ev_move rfl) rfl ?_
  refine JL_gval 9 73 true _ (.bool (decide ((0:Int) = (0:Int)))) rfl rfl (decide_eq_true rfl) (Ev_bini rfl rfl fun _ => bin_eql_i _ _) rfl ?_
  refine JL_val _ (Ev_pickT _ rfl (decide_eq_true rfl) rfl) rfl ?_
  refine JL_val _ (Ev_move rfl) rfl ?_
  refine JL_gval 14 78 true _ _ rfl rfl (by decide) (Ev_move rfl) rfl ?_
  refine JL_gval 14 78 true _ _ rfl rfl (by decide) (Ev_move rfl) rfl ?_
  refine JL_gval 14 78 true _ (.bool (decide ((0:UInt64) = (0:UInt64)))) rfl rfl (by decide) (Ev_bini rfl rfl fun _ => bin_eql_u64 (0:UInt64) (0:UInt64)) rfl ?_
  refine JL_val _ (Ev_pickT _ rfl (by decide) rfl) rfl ?_
  refine JL_val _ (Ev_move rfl) rfl ?_
  refine JL_gval 19 83 true _ _ rfl rfl (by decide) (Ev_move rfl) rfl ?_
  refine JL_gstep 19 83 true _ rfl rfl (by decide) (Step_callP 29 [.iface 50 (I64 (2:Int))] (I64 (2:Int)) (Cl_func [.iface 50 (I64 (2:Int))] Tryd.call29 rfl) (fun w1 hw1 => errSome_c 2 w1 (by decide))) rfl ?_
  rintro v1 L1 ⟨rfl, rfl⟩
  show JL _ _ _ _ ((85, I64 (2:Int)) :: _) [⟨nb1, cu8 key, 54, (0, 0)⟩, ⟨nb2, [I64 (way), U64 s], 56, (0, 0)⟩]
  refine JL_gval 19 83 true _ _ rfl rfl (by decide) (Ev_move rfl) rfl ?_
  refine JL_gval 19 83 true _ (.bool (decide ((2:Int) = (2:Int)))) rfl rfl (by decide) (Ev_bini rfl rfl fun _ => bin_eql_i _ _) rfl ?_
  refine JL_val _ (Ev_pickT _ rfl (by decide) rfl) rfl ?_
  refine JL_val _ (Ev_assign rfl) rfl ?_
  refine JL_nil ?_
  refine JQ_then ?_
  refine JC_ret ?_
  refine JQ_ret (.bool (decide ((2:Int) = (2:Int)))) (res1 Tryd.results7 (RV_tmp rfl)) fun w1 hw1 => ?_
  exact ⟨_, [], rfl, ⟨by rw [show (decide ((2:Int) = (2:Int))) = true from (by decide)], rfl⟩, hw1.sub (by simp) (by simp)⟩

theorem linkOpensB_c (key : List UInt8) (way : Int) (s : UInt64) (az : Option Addr) (n cz : Nat) (z : List UInt8)  (w : World) (hk : key.length = 32) (hz : z.length = n) (hcb : az = none → cz = 0) (hnc : n ≤ cz) (hcm : cz ≤ maxLen) (hr : RdB w [] az z) (hG : GLs w) (hGr : GLr w) (hGi : GLi w) (hn : n ≤ 3000) (hp : PkOk z) (ho : openE key way s z ≠ 0) : Calls Tryd.prog 7 #[.agg (cu8 key).toArray, .agg (List.toArray (α := Value) ([I64 (way), U64 s])), .slice az n cz] w (Post w [] (fun v L => v = .bool true ∧ L = [])) := by
  have hmx : maxLen = 9223372036854775807 := rfl
  refine enter (P := Tryd.prog) (f := 7) (fn := Tryd.f7) w [] 89 [] [.agg (cu8 key).toArray, .agg (List.toArray (α := Value) ([I64 (way), U64 s])), .slice az n cz] Tryd.func7 rfl rfl (by simp) (Hp.start (by simp) (by simp) (by simp)) ?_
  show JC _ _ _ [(0, .agg (cu8 key).toArray), (1, .agg (List.toArray (α := Value) ([I64 (way), U64 s]))), (2, .slice az n cz)] _
  refine JC_seq ?_
  refine JC_region ?_
  refine JL_step (Step_box (.agg (cu8 key).toArray) (cu8 key) rfl (by first | rfl | simp)) rfl ?_
  rintro v1 L1 ⟨nb1, hnb1, rfl, rfl⟩
  show JL _ _ _ _ ((3, Ptr nb1 0) :: _) [⟨nb1, cu8 key, 54, (0, 0)⟩]
  refine JL_step (Step_box (.agg (List.toArray (α := Value) ([I64 (way), U64 s]))) ([I64 (way), U64 s]) rfl (by first | rfl | simp)) rfl ?_
  rintro v1 L1 ⟨nb2, hnb2, rfl, rfl⟩
  show JL _ _ _ _ ((4, Ptr nb2 0) :: _) [⟨nb1, cu8 key, 54, (0, 0)⟩, ⟨nb2, [I64 (way), U64 s], 56, (0, 0)⟩]
  refine JL_val _ (Ev_assign rfl) rfl ?_
  refine JL_nil ?_
  refine JQ_then ?_
  refine JC_seq ?_
  refine JC_seq ?_
  refine JC_region ?_
  refine JL_step (Step_callP 26 [] (.bool true) (Cl_func [] Tryd.call26 rfl) (fun w1 hw1 => alive15_c  w1 (hG.at hw1))) rfl ?_
  rintro v1 L1 ⟨rfl, rfl⟩
  show JL _ _ _ _ ((17, .bool true) :: _) [⟨nb1, cu8 key, 54, (0, 0)⟩, ⟨nb2, [I64 (way), U64 s], 56, (0, 0)⟩]
  refine JL_val (.bool (!true)) (Ev_not rfl) rfl ?_
  refine JL_nil ?_
  refine JQ_then ?_
  refine JC_condF _ rfl rfl ?_
  refine JC_skip ?_
  refine JQ_then ?_
  refine JC_seq ?_
  refine JC_seq ?_
  refine JC_region ?_
  refine JL_val _ (Ev_move rfl) rfl ?_
  refine JL_val (I64 ((n:Int))) (Ev_len Tryd.underlying43 rfl) rfl ?_
  refine JL_val (.bool (decide ((3000:Int) < ((n:Int))))) (Ev_bini rfl rfl fun _ => bin_gtr_i _ _) rfl ?_
  refine JL_val _ (Ev_move rfl) rfl ?_
  refine JL_gskip 3 22 true _ rfl rfl (decide_eq_false (by omega)) rfl ?_
  refine JL_gskip 3 22 true _ rfl rfl (decide_eq_false (by omega)) rfl ?_
  refine JL_gskip 3 22 true _ rfl rfl (decide_eq_false (by omega)) rfl ?_
  refine JL_val _ (Ev_pickF _ rfl (decide_eq_false (by omega)) rfl) rfl ?_
  refine JL_val _ (Ev_move rfl) rfl ?_
  refine JL_gval 8 27 false _ _ rfl rfl rfl (Ev_move rfl) rfl ?_
  refine JL_gval 8 27 false _ (I64 ((n:Int))) rfl rfl rfl (Ev_len Tryd.underlying43 rfl) rfl ?_
  refine JL_gval 8 27 false _ (.bool (decide ((300000:Int) < ((n:Int))))) rfl rfl rfl (Ev_bini rfl rfl fun _ => bin_gtr_i _ _) rfl ?_
  refine JL_val _ (Ev_pickF _ rfl rfl rfl) rfl ?_
  refine JL_nil ?_
  refine JQ_then ?_
  refine JC_condF _ rfl (decide_eq_false (by omega)) ?_
  refine JC_skip ?_
  refine JQ_then ?_
  refine JC_seq ?_
  refine JC_region ?_
  refine JL_val (.agg (cu8 key).toArray) (Ev_load rfl (Ld_agg Tryd.isAgg54 Tryd.sizeOf54 (len_cu8 hk) (MemAt.ent 0 rfl (Seg.whole _)))) rfl ?_
  refine JL_val (Ptr nb2 0) (Ev_fieldAddr 0 3 1 Tryd.underlying56 rfl Tryd.sizeOf3 rfl rfl) rfl ?_
  refine JL_val (I64 (way)) (Ev_load rfl (Ld_one Tryd.isAgg3 (MemAt.ent 1 rfl (Seg.head)))) rfl ?_
  refine JL_val (Ptr nb2 1) (Ev_fieldAddr 1 22 1 Tryd.underlying56 rfl Tryd.sizeOf22 rfl rfl) rfl ?_
  refine JL_val (U64 s) (Ev_load rfl (Ld_one Tryd.isAgg22 (MemAt.ent 1 rfl (Seg.tail (Seg.head))))) rfl ?_
  refine JL_val _ (Ev_move rfl) rfl ?_
  refine JL_step (Step_callP 39 [.agg (cu8 key).toArray, I64 (way), U64 s, .slice az n cz] (.tuple #[.slice none 0 0, errV 50 (openE key (way) s z)]) (Cl_func [.agg (cu8 key).toArray, I64 (way), U64 s, .slice az n cz] Tryd.call39 rfl) (fun w1 hw1 => lopenB_w key (way) s az n cz z w1 hk hz hcb (by omega) (by omega) (hr.at (M' := []) hw1 (by simp)) (hG.at hw1) ho)) rfl ?_
  rintro v1 L1 ⟨rfl, rfl⟩
  show JL _ _ _ _ ((39, .tuple #[.slice none 0 0, errV 50 (openE key (way) s z)]) :: _) [⟨nb1, cu8 key, 54, (0, 0)⟩, ⟨nb2, [I64 (way), U64 s], 56, (0, 0)⟩]
  refine JL_val _ (Ev_move rfl) rfl ?_
  refine JL_val _ (Ev_extract rfl rfl) rfl ?_
  refine JL_val _ (Ev_extract rfl rfl) rfl ?_
  refine JL_val _ (Ev_assign rfl) rfl ?_
  refine JL_val _ (Ev_assign rfl) rfl ?_
  refine JL_nil ?_
  refine JQ_then ?_
  refine JC_seq ?_
  refine JC_region ?_
  refine JL_val (.agg (cu8 key).toArray) (Ev_load rfl (Ld_agg Tryd.isAgg54 Tryd.sizeOf54 (len_cu8 hk) (MemAt.ent 0 rfl (Seg.whole _)))) rfl ?_
  refine JL_val (Ptr nb2 0) (Ev_fieldAddr 0 3 1 Tryd.underlying56 rfl Tryd.sizeOf3 rfl rfl) rfl ?_
  refine JL_val (I64 (way)) (Ev_load rfl (Ld_one Tryd.isAgg3 (MemAt.ent 1 rfl (Seg.head)))) rfl ?_
  refine JL_val (Ptr nb2 1) (Ev_fieldAddr 1 22 1 Tryd.underlying56 rfl Tryd.sizeOf22 rfl rfl) rfl ?_
  refine JL_val (U64 s) (Ev_load rfl (Ld_one Tryd.isAgg22 (MemAt.ent 1 rfl (Seg.tail (Seg.head))))) rfl ?_
  refine JL_val _ (Ev_move rfl) rfl ?_
  refine JL_step (Step_callP 40 [.agg (cu8 key).toArray, I64 (way), U64 s, .slice az n cz] (.tuple #[.slice none 0 0, I64 ((openE key (way) s z:Int))]) (Cl_func [.agg (cu8 key).toArray, I64 (way), U64 s, .slice az n cz] Tryd.call40 rfl) (fun w1 hw1 => ropenB_w key (way) s az n cz z w1 hk hz hcb (by omega) (by omega) (hr.at (M' := []) hw1 (by simp)) (GLr.at hw1 hGr) (GLi.at hw1 hGi) ho)) rfl ?_
  rintro v1 L1 ⟨rfl, rfl⟩
  show JL _ _ _ _ ((49, .tuple #[.slice none 0 0, I64 ((openE key (way) s z:Int))]) :: _) [⟨nb1, cu8 key, 54, (0, 0)⟩, ⟨nb2, [I64 (way), U64 s], 56, (0, 0)⟩]
  refine JL_val _ (Ev_move rfl) rfl ?_
  refine JL_val _ (Ev_extract rfl rfl) rfl ?_
  refine JL_val _ (Ev_extract rfl rfl) rfl ?_
  refine JL_val _ (Ev_assign rfl) rfl ?_
  refine JL_val _ (Ev_assign rfl) rfl ?_
  refine JL_nil ?_
  refine JQ_then ?_
  refine JC_seq ?_
  refine JC_region ?_
  refine JL_val _ (Ev_move rfl) rfl ?_
  refine JL_step (Step_callP 41 [.slice az n cz] (.tuple #[I64 (((wayF z):Int)), U64 (seF z), .nilIface]) (Cl_func [.slice az n cz] Tryd.call41 rfl) (fun w1 hw1 => peek_c az n cz z w1 hz hcb (by omega) (by omega) (hr.at (M' := []) hw1 (by simp)) hp)) rfl ?_
  rintro v1 L1 ⟨rfl, rfl⟩
  show JL _ _ _ _ ((54, .tuple #[I64 (((wayF z):Int)), U64 (seF z), .nilIface]) :: _) [⟨nb1, cu8 key, 54, (0, 0)⟩, ⟨nb2, [I64 (way), U64 s], 56, (0, 0)⟩]
  refine JL_val _ (Ev_move rfl) rfl ?_
  refine JL_val _ (Ev_extract rfl rfl) rfl ?_
  refine JL_val _ (Ev_extract rfl rfl) rfl ?_
  refine JL_val _ (Ev_extract rfl rfl) rfl ?_
  refine JL_val _ (Ev_assign rfl) rfl ?_
  refine JL_val _ (Ev_assign rfl) rfl ?_
  refine JL_val _ (Ev_assign rfl) rfl ?_
  refine JL_nil ?_
  refine JQ_then ?_
  refine JC_seq ?_
  refine JC_region ?_
  refine JL_val _ (Ev_move rfl) rfl ?_
  refine JL_step (Step_callP 42 [.slice az n cz] (.tuple #[I64 (((wayF z):Int)), U64 (seF z), I64 (0:Int)]) (Cl_func [.slice az n cz] Tryd.call42 rfl) (fun w1 hw1 => rpeek_c az n cz z w1 hz hcb (by omega) (by omega) (hr.at (M' := []) hw1 (by simp)) hp)) rfl ?_
  rintro v1 L1 ⟨rfl, rfl⟩
  show JL _ _ _ _ ((60, .tuple #[I64 (((wayF z):Int)), U64 (seF z), I64 (0:Int)]) :: _) [⟨nb1, cu8 key, 54, (0, 0)⟩, ⟨nb2, [I64 (way), U64 s], 56, (0, 0)⟩]
  refine JL_val _ (Ev_move rfl) rfl ?_
  refine JL_val _ (Ev_extract rfl rfl) rfl ?_
  refine JL_val _ (Ev_extract rfl rfl) rfl ?_
  refine JL_val _ (Ev_extract rfl rfl) rfl ?_
  refine JL_val _ (Ev_assign rfl) rfl ?_
  refine JL_val _ (Ev_assign rfl) rfl ?_
  refine JL_val _ (Ev_assign rfl) rfl ?_
  refine JL_nil ?_
  refine JQ_then ?_
  refine JC_seq ?_
  refine JC_region ?_
  refine JL_val _ (Ev_move rfl) rfl ?_
  refine JL_step (Step_callP 29 [errV 50 (openE key (way) s z)] (I64 ((openE key (way) s z:Int))) (Cl_func [errV 50 (openE key (way) s z)] Tryd.call29 rfl) (fun w1 hw1 => errNum_w (openE key (way) s z) w1)) rfl ?_
  rintro v1 L1 ⟨rfl, rfl⟩
  show JL _ _ _ _ ((65, I64 ((openE key (way) s z:Int))) :: _) [⟨nb1, cu8 key, 54, (0, 0)⟩, ⟨nb2, [I64 (way), U64 s], 56, (0, 0)⟩]
  refine JL_val _ (Ev_move rfl) rfl ?_
  refine JL_val (.bool (decide (((openE key (way) s z:Int)) = ((openE key (way) s z:Int))))) (Ev_bini rfl rfl fun _ => bin_eql_i _ _) rfl ?_
  refine JL_val _ (Ev_move rfl) rfl ?_
  refine JL_gval 4 68 true _ _ rfl rfl (by simp) (Ev_move rfl) rfl ?_
  refine JL_gval 4 68 true _ _ rfl rfl (by simp) (Ev_move rfl) rfl ?_
  refine JL_gstep 4 68 true _ rfl rfl (by simp) (Step_callP 24 [.slice none 0 0, .slice none 0 0] (.bool (decide (([] : List UInt8) = ([] : List UInt8)))) (Cl_func [.slice none 0 0, .slice none 0 0] Tryd.call24 rfl) (fun w1 hw1 => bytes_c none none 0 0 0 0 ([] : List UInt8) ([] : List UInt8) w1 rfl rfl RdB.nil RdB.nil)) rfl ?_
  rintro v1 L1 ⟨rfl, rfl⟩
  show JL _ _ _ _ ((71, .bool (decide (([] : List UInt8) = ([] : List UInt8)))) :: _) [⟨nb1, cu8 key, 54, (0, 0)⟩, ⟨nb2, [I64 (way), U64 s], 56, (0, 0)⟩]
  refine JL_val _ (Ev_pickT _ rfl (by simp) rfl) rfl ?_
  refine JL_val _ (Ev_move rfl) rfl ?_
  refine JL_gval 9 73 true _ _ rfl rfl (decide_eq_true rfl) (Ev_move rfl) rfl ?_
  refine JL_gval 9 73 true _ _ rfl rfl (decide_eq_true rfl) (Ev_move rfl) rfl ?_
  refine JL_gval 9 73 true _ (.bool (decide ((((wayF z):Int)) = (((wayF z):Int))))) rfl rfl (decide_eq_true rfl) (Ev_bini rfl rfl fun _ => bin_eql_i _ _) rfl ?_
  refine JL_val _ (Ev_pickT _ rfl (decide_eq_true rfl) rfl) rfl ?_
  refine JL_val _ (Ev_move rfl) rfl ?_
  refine JL_gval 14 78 true _ _ rfl rfl (by simp) (Ev_move rfl) rfl ?_
  refine JL_gval 14 78 true _ _ rfl rfl (by simp) (Ev_move rfl) rfl ?_
  refine JL_gval 14 78 true _ (.bool (decide ((seF z) = (seF z)))) rfl rfl (by simp) (Ev_bini rfl rfl fun _ => bin_eql_u64 (seF z) (seF z)) rfl ?_
  refine JL_val _ (Ev_pickT _ rfl (by simp) rfl) rfl ?_
  refine JL_val _ (Ev_move rfl) rfl ?_
  refine JL_gval 19 83 true _ _ rfl rfl (decide_eq_true rfl) (Ev_move rfl) rfl ?_
  refine JL_gstep 19 83 true _ rfl rfl (decide_eq_true rfl) (Step_callP 29 [.nilIface] (I64 (0:Int)) (Cl_func [.nilIface] Tryd.call29 rfl) (fun w1 hw1 => errNo_c w1)) rfl ?_
  rintro v1 L1 ⟨rfl, rfl⟩
  show JL _ _ _ _ ((85, I64 (0:Int)) :: _) [⟨nb1, cu8 key, 54, (0, 0)⟩, ⟨nb2, [I64 (way), U64 s], 56, (0, 0)⟩]
  refine JL_gval 19 83 true _ _ rfl rfl (decide_eq_true rfl) (Ev_move rfl) rfl ?_
  refine JL_gval 19 83 true _ (.bool (decide ((0:Int) = (0:Int)))) rfl rfl (decide_eq_true rfl) (Ev_bini rfl rfl fun _ => bin_eql_i _ _) rfl ?_
  refine JL_val _ (Ev_pickT _ rfl (decide_eq_true rfl) rfl) rfl ?_
  refine JL_val _ (Ev_assign rfl) rfl ?_
  refine JL_nil ?_
  refine JQ_then ?_
  refine JC_ret ?_
  refine JQ_ret (.bool (decide ((0:Int) = (0:Int)))) (res1 Tryd.results7 (RV_tmp rfl)) fun w1 hw1 => ?_
  exact ⟨_, [], rfl, ⟨by rw [show (decide ((0:Int) = (0:Int))) = true from (by decide)], rfl⟩, hw1.sub (by simp) (by simp)⟩

theorem linkOpensK_c (key : List UInt8) (way : Int) (s : UInt64) (az : Option Addr) (n cz : Nat) (z : List UInt8)  (w : World) (hk : key.length = 32) (hz : z.length = n) (hcb : az = none → cz = 0) (hnc : n ≤ cz) (hcm : cz ≤ maxLen) (hr : RdB w [] az z) (hG : GLs w) (hGr : GLr w) (hGi : GLi w) (hn : n ≤ 3000) (hn3 : 25 ≤ n) (hp : PkOk z) (ho : openE key way s z = 0) : Calls Tryd.prog 7 #[.agg (cu8 key).toArray, .agg (List.toArray (α := Value) ([I64 (way), U64 s])), .slice az n cz] w (Post w [] (fun v L => v = .bool true ∧ L = [])) := by
  have hmx : maxLen = 9223372036854775807 := rfl
  refine enter (P := Tryd.prog) (f := 7) (fn := Tryd.f7) w [] 89 [] [.agg (cu8 key).toArray, .agg (List.toArray (α := Value) ([I64 (way), U64 s])), .slice az n cz] Tryd.func7 rfl rfl (by simp) (Hp.start (by simp) (by simp) (by simp)) ?_
  show JC _ _ _ [(0, .agg (cu8 key).toArray), (1, .agg (List.toArray (α := Value) ([I64 (way), U64 s]))), (2, .slice az n cz)] _
  refine JC_seq ?_
  refine JC_region ?_
  refine JL_step (Step_box (.agg (cu8 key).toArray) (cu8 key) rfl (by first | rfl | simp)) rfl ?_
  rintro v1 L1 ⟨nb1, hnb1, rfl, rfl⟩
  show JL _ _ _ _ ((3, Ptr nb1 0) :: _) [⟨nb1, cu8 key, 54, (0, 0)⟩]
  refine JL_step (Step_box (.agg (List.toArray (α := Value) ([I64 (way), U64 s]))) ([I64 (way), U64 s]) rfl (by first | rfl | simp)) rfl ?_
  rintro v1 L1 ⟨nb2, hnb2, rfl, rfl⟩
  show JL _ _ _ _ ((4, Ptr nb2 0) :: _) [⟨nb1, cu8 key, 54, (0, 0)⟩, ⟨nb2, [I64 (way), U64 s], 56, (0, 0)⟩]
  refine JL_val _ (Ev_assign rfl) rfl ?_
  refine JL_nil ?_
  refine JQ_then ?_
  refine JC_seq ?_
  refine JC_seq ?_
  refine JC_region ?_
  refine JL_step (Step_callP 26 [] (.bool true) (Cl_func [] Tryd.call26 rfl) (fun w1 hw1 => alive15_c  w1 (hG.at hw1))) rfl ?_
  rintro v1 L1 ⟨rfl, rfl⟩
  show JL _ _ _ _ ((17, .bool true) :: _) [⟨nb1, cu8 key, 54, (0, 0)⟩, ⟨nb2, [I64 (way), U64 s], 56, (0, 0)⟩]
  refine JL_val (.bool (!true)) (Ev_not rfl) rfl ?_
  refine JL_nil ?_
  refine JQ_then ?_
  refine JC_condF _ rfl rfl ?_
  refine JC_skip ?_
  refine JQ_then ?_
  refine JC_seq ?_
  refine JC_seq ?_
  refine JC_region ?_
  refine JL_val _ (Ev_move rfl) rfl ?_
  refine JL_val (I64 ((n:Int))) (Ev_len Tryd.underlying43 rfl) rfl ?_
  refine JL_val (.bool (decide ((3000:Int) < ((n:Int))))) (Ev_bini rfl rfl fun _ => bin_gtr_i _ _) rfl ?_
  refine JL_val _ (Ev_move rfl) rfl ?_
  refine JL_gskip 3 22 true _ rfl rfl (decide_eq_false (by omega)) rfl ?_
  refine JL_gskip 3 22 true _ rfl rfl (decide_eq_false (by omega)) rfl ?_
  refine JL_gskip 3 22 true _ rfl rfl (decide_eq_false (by omega)) rfl ?_
  refine JL_val _ (Ev_pickF _ rfl (decide_eq_false (by omega)) rfl) rfl ?_
  refine JL_val _ (Ev_move rfl) rfl ?_
  refine JL_gval 8 27 false _ _ rfl rfl rfl (Ev_move rfl) rfl ?_
  refine JL_gval 8 27 false _ (I64 ((n:Int))) rfl rfl rfl (Ev_len Tryd.underlying43 rfl) rfl ?_
  refine JL_gval 8 27 false _ (.bool (decide ((300000:Int) < ((n:Int))))) rfl rfl rfl (Ev_bini rfl rfl fun _ => bin_gtr_i _ _) rfl ?_
  refine JL_val _ (Ev_pickF _ rfl rfl rfl) rfl ?_
  refine JL_nil ?_
  refine JQ_then ?_
  refine JC_condF _ rfl (decide_eq_false (by omega)) ?_
  refine JC_skip ?_
  refine JQ_then ?_
  refine JC_seq ?_
  refine JC_region ?_
  refine JL_val (.agg (cu8 key).toArray) (Ev_load rfl (Ld_agg Tryd.isAgg54 Tryd.sizeOf54 (len_cu8 hk) (MemAt.ent 0 rfl (Seg.whole _)))) rfl ?_
  refine JL_val (Ptr nb2 0) (Ev_fieldAddr 0 3 1 Tryd.underlying56 rfl Tryd.sizeOf3 rfl rfl) rfl ?_
  refine JL_val (I64 (way)) (Ev_load rfl (Ld_one Tryd.isAgg3 (MemAt.ent 1 rfl (Seg.head)))) rfl ?_
  refine JL_val (Ptr nb2 1) (Ev_fieldAddr 1 22 1 Tryd.underlying56 rfl Tryd.sizeOf22 rfl rfl) rfl ?_
  refine JL_val (U64 s) (Ev_load rfl (Ld_one Tryd.isAgg22 (MemAt.ent 1 rfl (Seg.tail (Seg.head))))) rfl ?_
  refine JL_val _ (Ev_move rfl) rfl ?_
  have hl1 : (mid (z.drop 9) 0 (n - 25)).length = (n - 25) := mid_len (by rw [List.length_drop, show (z).length = n from hz]; omega)
  refine JL_step (Step_callN 39 [.agg (cu8 key).toArray, I64 (way), U64 s, .slice az n cz] _ (Cl_func [.agg (cu8 key).toArray, I64 (way), U64 s, .slice az n cz] Tryd.call39 rfl) (fun w1 hw1 => lopenK_w key (way) s az n cz z w1 hk hz hcb (by omega) (by omega) (hr.at (M' := []) hw1 (by simp)) (hG.at hw1) ho)) rfl ?_
  rintro v1 L1 ⟨_, ⟨nb3, sp1, cp1, rfl, rfl, hc1, hc2, hc3⟩, rfl⟩
  show JL _ _ _ _ ((39, .tuple #[Slc nb3 0 (n - 25) cp1, .nilIface]) :: _) [⟨nb1, cu8 key, 54, (0, 0)⟩, ⟨nb2, [I64 (way), U64 s], 56, (0, 0)⟩, ⟨nb3, cu8 (mid (z.drop 9) 0 (n - 25)) ++ sp1, 5, (0, 0)⟩]
  refine JL_val _ (Ev_move rfl) rfl ?_
  refine JL_val _ (Ev_extract rfl rfl) rfl ?_
  refine JL_val _ (Ev_extract rfl rfl) rfl ?_
  refine JL_val _ (Ev_assign rfl) rfl ?_
  refine JL_val _ (Ev_assign rfl) rfl ?_
  refine JL_nil ?_
  refine JQ_then ?_
  refine JC_seq ?_
  refine JC_region ?_
  refine JL_val (.agg (cu8 key).toArray) (Ev_load rfl (Ld_agg Tryd.isAgg54 Tryd.sizeOf54 (len_cu8 hk) (MemAt.ent 0 rfl (Seg.whole _)))) rfl ?_
  refine JL_val (Ptr nb2 0) (Ev_fieldAddr 0 3 1 Tryd.underlying56 rfl Tryd.sizeOf3 rfl rfl) rfl ?_
  refine JL_val (I64 (way)) (Ev_load rfl (Ld_one Tryd.isAgg3 (MemAt.ent 1 rfl (Seg.head)))) rfl ?_
  refine JL_val (Ptr nb2 1) (Ev_fieldAddr 1 22 1 Tryd.underlying56 rfl Tryd.sizeOf22 rfl rfl) rfl ?_
  refine JL_val (U64 s) (Ev_load rfl (Ld_one Tryd.isAgg22 (MemAt.ent 1 rfl (Seg.tail (Seg.head))))) rfl ?_
  refine JL_val _ (Ev_move rfl) rfl ?_
  have hl2 : (mid (z.drop 9) 0 (n - 25)).length = (n - 25) := mid_len (by rw [List.length_drop, hz]; omega)
  have hr1 := RdB.pre (RdB.adv (c := cz) hr 9 (by rw [hz]; omega) (by rw [hz]; omega)) (n - 25)
  refine JL_step (Step_callP 40 [.agg (cu8 key).toArray, I64 (way), U64 s, .slice az n cz] (.tuple #[.slice (advA az cz 9) (n - 25) (cz - 9), I64 (0:Int)]) (Cl_func [.agg (cu8 key).toArray, I64 (way), U64 s, .slice az n cz] Tryd.call40 rfl) (fun w1 hw1 => ropenK_w key (way) s az n cz z w1 hk hz hcb (by omega) (by omega) (hr.at (M' := []) hw1 (by simp)) (GLr.at hw1 hGr) (GLi.at hw1 hGi) ho)) rfl ?_
  rintro v1 L1 ⟨rfl, rfl⟩
  show JL _ _ _ _ ((49, .tuple #[.slice (advA az cz 9) (n - 25) (cz - 9), I64 (0:Int)]) :: _) [⟨nb1, cu8 key, 54, (0, 0)⟩, ⟨nb2, [I64 (way), U64 s], 56, (0, 0)⟩, ⟨nb3, cu8 (mid (z.drop 9) 0 (n - 25)) ++ sp1, 5, (0, 0)⟩]
  refine JL_val _ (Ev_move rfl) rfl ?_
  refine JL_val _ (Ev_extract rfl rfl) rfl ?_
  refine JL_val _ (Ev_extract rfl rfl) rfl ?_
  refine JL_val _ (Ev_assign rfl) rfl ?_
  refine JL_val _ (Ev_assign rfl) rfl ?_
  refine JL_nil ?_
  refine JQ_then ?_
  refine JC_seq ?_
  refine JC_region ?_
  refine JL_val _ (Ev_move rfl) rfl ?_
  refine JL_step (Step_callP 41 [.slice az n cz] (.tuple #[I64 (((wayF z):Int)), U64 (seF z), .nilIface]) (Cl_func [.slice az n cz] Tryd.call41 rfl) (fun w1 hw1 => peek_c az n cz z w1 hz hcb (by omega) (by omega) (hr.at (M' := []) hw1 (by simp)) hp)) rfl ?_
  rintro v1 L1 ⟨rfl, rfl⟩
  show JL _ _ _ _ ((54, .tuple #[I64 (((wayF z):Int)), U64 (seF z), .nilIface]) :: _) [⟨nb1, cu8 key, 54, (0, 0)⟩, ⟨nb2, [I64 (way), U64 s], 56, (0, 0)⟩, ⟨nb3, cu8 (mid (z.drop 9) 0 (n - 25)) ++ sp1, 5, (0, 0)⟩]
  refine JL_val _ (Ev_move rfl) rfl ?_
  refine JL_val _ (Ev_extract rfl rfl) rfl ?_
  refine JL_val _ (Ev_extract rfl rfl) rfl ?_
  refine JL_val _ (Ev_extract rfl rfl) rfl ?_
  refine JL_val _ (Ev_assign rfl) rfl ?_
  refine JL_val _ (Ev_assign rfl) rfl ?_
  refine JL_val _ (Ev_assign rfl) rfl ?_
  refine JL_nil ?_
  refine JQ_then ?_
  refine JC_seq ?_
  refine JC_region ?_
  refine JL_val _ (Ev_move rfl) rfl ?_
  refine JL_step (Step_callP 42 [.slice az n cz] (.tuple #[I64 (((wayF z):Int)), U64 (seF z), I64 (0:Int)]) (Cl_func [.slice az n cz] Tryd.call42 rfl) (fun w1 hw1 => rpeek_c az n cz z w1 hz hcb (by omega) (by omega) (hr.at (M' := []) hw1 (by simp)) hp)) rfl ?_
  rintro v1 L1 ⟨rfl, rfl⟩
  show JL _ _ _ _ ((60, .tuple #[I64 (((wayF z):Int)), U64 (seF z), I64 (0:Int)]) :: _) [⟨nb1, cu8 key, 54, (0, 0)⟩, ⟨nb2, [I64 (way), U64 s], 56, (0, 0)⟩, ⟨nb3, cu8 (mid (z.drop 9) 0 (n - 25)) ++ sp1, 5, (0, 0)⟩]
  refine JL_val _ (Ev_move rfl) rfl ?_
  refine JL_val _ (Ev_extract rfl rfl) rfl ?_
  refine JL_val _ (Ev_extract rfl rfl) rfl ?_
  refine JL_val _ (Ev_extract rfl rfl) rfl ?_
  refine JL_val _ (Ev_assign rfl) rfl ?_
  refine JL_val _ (Ev_assign rfl) rfl ?_
  refine JL_val _ (Ev_assign rfl) rfl ?_
  refine JL_nil ?_
  refine JQ_then ?_
  refine JC_seq ?_
  refine JC_region ?_
  refine JL_val _ (Ev_move rfl) rfl ?_
  refine JL_step (Step_callP 29 [.nilIface] (I64 (0:Int)) (Cl_func [.nilIface] Tryd.call29 rfl) (fun w1 hw1 => errNo_c w1)) rfl ?_
  rintro v1 L1 ⟨rfl, rfl⟩
  show JL _ _ _ _ ((65, I64 (0:Int)) :: _) [⟨nb1, cu8 key, 54, (0, 0)⟩, ⟨nb2, [I64 (way), U64 s], 56, (0, 0)⟩, ⟨nb3, cu8 (mid (z.drop 9) 0 (n - 25)) ++ sp1, 5, (0, 0)⟩]
  refine JL_val _ (Ev_move rfl) rfl ?_
  refine JL_val (.bool (decide ((0:Int) = (0:Int)))) (Ev_bini rfl rfl fun _ => bin_eql_i _ _) rfl ?_
  refine JL_val _ (Ev_move rfl) rfl ?_
  refine JL_gval 4 68 true _ _ rfl rfl (by decide) (Ev_move rfl) rfl ?_
  refine JL_gval 4 68 true _ _ rfl rfl (by decide) (Ev_move rfl) rfl ?_
  refine JL_gstep 4 68 true _ rfl rfl (by decide) (Step_callP 24 [Slc nb3 0 (n - 25) cp1, .slice (advA az cz 9) (n - 25) (cz - 9)] (.bool (decide ((mid (z.drop 9) 0 (n - 25)) = (mid (z.drop 9) 0 (n - 25))))) (Cl_func [Slc nb3 0 (n - 25) cp1, .slice (advA az cz 9) (n - 25) (cz - 9)] Tryd.call24 rfl) (fun w1 hw1 => bytes_c (some ⟨nb3, 0, none⟩) (advA az cz 9) (n - 25) (n - 25) cp1 (cz - 9) (mid (z.drop 9) 0 (n - 25)) (mid (z.drop 9) 0 (n - 25)) w1 hl1 hl2 (RdB.of hw1 (MemAt.ent 2 rfl (Seg.left (Seg.whole _))) (by simp)) (hr1.at (M' := []) hw1 (by simp)))) rfl ?_
  rintro v1 L1 ⟨rfl, rfl⟩
  show JL _ _ _ _ ((71, .bool (decide ((mid (z.drop 9) 0 (n - 25)) = (mid (z.drop 9) 0 (n - 25))))) :: _) [⟨nb1, cu8 key, 54, (0, 0)⟩, ⟨nb2, [I64 (way), U64 s], 56, (0, 0)⟩, ⟨nb3, cu8 (mid (z.drop 9) 0 (n - 25)) ++ sp1, 5, (0, 0)⟩]
  refine JL_val _ (Ev_pickT _ rfl (by decide) rfl) rfl ?_
  refine JL_val _ (Ev_move rfl) rfl ?_
  refine JL_gval 9 73 true _ _ rfl rfl (decide_eq_true rfl) (Ev_move rfl) rfl ?_
  refine JL_gval 9 73 true _ _ rfl rfl (decide_eq_true rfl) (Ev_move rfl) rfl ?_
  refine JL_gval 9 73 true _ (.bool (decide ((((wayF z):Int)) = (((wayF z):Int))))) rfl rfl (decide_eq_true rfl) (Ev_bini rfl rfl fun _ => bin_eql_i _ _) rfl ?_
  refine JL_val _ (Ev_pickT _ rfl (decide_eq_true rfl) rfl) rfl ?_
  refine JL_val _ (Ev_move rfl) rfl ?_
  refine JL_gval 14 78 true _ _ rfl rfl (by simp) (Ev_move rfl) rfl ?_
  refine JL_gval 14 78 true _ _ rfl rfl (by simp) (Ev_move rfl) rfl ?_
  refine JL_gval 14 78 true _ (.bool (decide ((seF z) = (seF z)))) rfl rfl (by simp) (Ev_bini rfl rfl fun _ => bin_eql_u64 (seF z) (seF z)) rfl ?_
  refine JL_val _ (Ev_pickT _ rfl (by simp) rfl) rfl ?_
  refine JL_val _ (Ev_move rfl) rfl ?_
  refine JL_gval 19 83 true _ _ rfl rfl (decide_eq_true rfl) (Ev_move rfl) rfl ?_
  refine JL_gstep 19 83 true _ rfl rfl (decide_eq_true rfl) (Step_callP 29 [.nilIface] (I64 (0:Int)) (Cl_func [.nilIface] Tryd.call29 rfl) (fun w1 hw1 => errNo_c w1)) rfl ?_
  rintro v1 L1 ⟨rfl, rfl⟩
  show JL _ _ _ _ ((85, I64 (0:Int)) :: _) [⟨nb1, cu8 key, 54, (0, 0)⟩, ⟨nb2, [I64 (way), U64 s], 56, (0, 0)⟩, ⟨nb3, cu8 (mid (z.drop 9) 0 (n - 25)) ++ sp1, 5, (0, 0)⟩]
  refine JL_gval 19 83 true _ _ rfl rfl (decide_eq_true rfl) (Ev_move rfl) rfl ?_
  refine JL_gval 19 83 true _ (.bool (decide ((0:Int) = (0:Int)))) rfl rfl (decide_eq_true rfl) (Ev_bini rfl rfl fun _ => bin_eql_i _ _) rfl ?_
  refine JL_val _ (Ev_pickT _ rfl (decide_eq_true rfl) rfl) rfl ?_
  refine JL_val _ (Ev_assign rfl) rfl ?_
  refine JL_nil ?_
  refine JQ_then ?_
  refine JC_ret ?_
  refine JQ_ret (.bool (decide ((0:Int) = (0:Int)))) (res1 Tryd.results7 (RV_tmp rfl)) fun w1 hw1 => ?_
  exact ⟨_, [], rfl, ⟨by rw [show (decide ((0:Int) = (0:Int))) = true from (by decide)], rfl⟩, hw1.sub (by simp) (by simp)⟩

theorem linkOpens_w (key : List UInt8) (way : Int) (s : UInt64) (az : Option Addr) (n cz : Nat) (z : List UInt8) (w : World) (hk : key.length = 32) (hwb : -9223372036854775808 ≤ way ∧ way ≤ 9223372036854775807) (hz : z.length = n) (hcb : az = none → cz = 0) (hc : n ≤ cz ∧ cz ≤ maxLen) (hr : RdB w [] az z) (hG : GLs w) (hGr : GLr w) (hGi : GLi w) : Calls Tryd.prog 7 #[.agg (cu8 key).toArray, .agg (List.toArray (α := Value) [I64 way, U64 s]), .slice az n cz] w (Post w [] (fun v L => v = .bool true ∧ L = [])) := by
  obtain ⟨hnc, hcm⟩ := hc
  by_cases hx : (3000 < n ∧ n ≤ 262144) ∨ 300000 < n
  · exact linkOpensX_c key way s az n cz z w hk hz hcb hnc hcm hr hG hGr hGi hx
  · by_cases hp : PkOk z
    · have h1 := hp.1
      have h2 := hp.2.1
      by_cases ho : openE key way s z = 0
      · exact linkOpensK_c key way s az n cz z w hk hz hcb hnc hcm hr hG hGr hGi (by omega) (by omega) hp ho
      · exact linkOpensB_c key way s az n cz z w hk hz hcb hnc hcm hr hG hGr hGi (by omega) hp ho
    · have ho : openE key way s z ≠ 0 := by unfold openE; rw [if_neg hp]; decide
      by_cases h3 : n ≤ 3000
      · exact linkOpensPS_c key way s az n cz z w hk hz hcb hnc hcm hr hG hGr hGi h3 hp ho
      · exact linkOpensPL_c key way s az n cz z w hk hz hcb hnc hcm hr hG hGr hGi (by omega) (by omega) hp ho

end Go.Proofs.YtkdpdgpphpngeaaDoor
namespace Go.Proofs.YtkdpdgpphpngeaaDoor
open Go
def headSigns : List Char := [Char.ofNat 104, Char.ofNat 97, Char.ofNat 114, Char.ofNat 110, Char.ofNat 101, Char.ofNat 115, Char.ofNat 115, Char.ofNat 32, Char.ofNat 50, Char.ofNat 100, Char.ofNat 55, Char.ofNat 48, Char.ofNat 102, Char.ofNat 53, Char.ofNat 99, Char.ofNat 56, Char.ofNat 51, Char.ofNat 51, Char.ofNat 98, Char.ofNat 102, Char.ofNat 98, Char.ofNat 55, Char.ofNat 98, Char.ofNat 99, Char.ofNat 56, Char.ofNat 100, Char.ofNat 101, Char.ofNat 50, Char.ofNat 52, Char.ofNat 51, Char.ofNat 50, Char.ofNat 51, Char.ofNat 48, Char.ofNat 101, Char.ofNat 101, Char.ofNat 48, Char.ofNat 52, Char.ofNat 55, Char.ofNat 57, Char.ofNat 55, Char.ofNat 51, Char.ofNat 101, Char.ofNat 57, Char.ofNat 54, Char.ofNat 57, Char.ofNat 51, Char.ofNat 101, Char.ofNat 100, Char.ofNat 101, Char.ofNat 55, Char.ofNat 53, Char.ofNat 51, Char.ofNat 52, Char.ofNat 48, Char.ofNat 54, Char.ofNat 50, Char.ofNat 55, Char.ofNat 99, Char.ofNat 57, Char.ofNat 57, Char.ofNat 52, Char.ofNat 50, Char.ofNat 54, Char.ofNat 50, Char.ofNat 100, Char.ofNat 102, Char.ofNat 102, Char.ofNat 56, Char.ofNat 48, Char.ofNat 54, Char.ofNat 100, Char.ofNat 50, Char.ofNat 32, Char.ofNat 99, Char.ofNat 117, Char.ofNat 116, Char.ofNat 32, Char.ofNat 97, Char.ofNat 116, Char.ofNat 32, Char.ofNat 101, Char.ofNat 110, Char.ofNat 116, Char.ofNat 114, Char.ofNat 117, Char.ofNat 115, Char.ofNat 116, Char.ofNat 47, Char.ofNat 101, Char.ofNat 110, Char.ofNat 116, Char.ofNat 114, Char.ofNat 117, Char.ofNat 115, Char.ofNat 116, Char.ofNat 108, Char.ofNat 97, Char.ofNat 119, Char.ofNat 49, Char.ofNat 52, Char.ofNat 46, Char.ofNat 87, Char.ofNat 105, Char.ofNat 114, Char.ofNat 101, Char.ofNat 82, Char.ofNat 101, Char.ofNat 113, Char.ofNat 117, Char.ofNat 101, Char.ofNat 115, Char.ofNat 116, Char.ofNat 115, Char.ofNat 32, Char.ofNat 101, Char.ofNat 110, Char.ofNat 116, Char.ofNat 114, Char.ofNat 117, Char.ofNat 115, Char.ofNat 116, Char.ofNat 47, Char.ofNat 101, Char.ofNat 110, Char.ofNat 116, Char.ofNat 114, Char.ofNat 117, Char.ofNat 115, Char.ofNat 116, Char.ofNat 108, Char.ofNat 97, Char.ofNat 119, Char.ofNat 49, Char.ofNat 53, Char.ofNat 46, Char.ofNat 76, Char.ofNat 105, Char.ofNat 110, Char.ofNat 107, Char.ofNat 83, Char.ofNat 101, Char.ofNat 97, Char.ofNat 108, Char.ofNat 115, Char.ofNat 32, Char.ofNat 101, Char.ofNat 110, Char.ofNat 116, Char.ofNat 114, Char.ofNat 117, Char.ofNat 115, Char.ofNat 116, Char.ofNat 47, Char.ofNat 101, Char.ofNat 110, Char.ofNat 116, Char.ofNat 114, Char.ofNat 117, Char.ofNat 115, Char.ofNat 116, Char.ofNat 108, Char.ofNat 97, Char.ofNat 119, Char.ofNat 49, Char.ofNat 53, Char.ofNat 46, Char.ofNat 76, Char.ofNat 105, Char.ofNat 110, Char.ofNat 107, Char.ofNat 83, Char.ofNat 105, Char.ofNat 122, Char.ofNat 101, Char.ofNat 115, Char.ofNat 32, Char.ofNat 101, Char.ofNat 110, Char.ofNat 116, Char.ofNat 114, Char.ofNat 117, Char.ofNat 115, Char.ofNat 116, Char.ofNat 47, Char.ofNat 101, Char.ofNat 110, Char.ofNat 116, Char.ofNat 114, Char.ofNat 117, Char.ofNat 115, Char.ofNat 116, Char.ofNat 108, Char.ofNat 97, Char.ofNat 119, Char.ofNat 49, Char.ofNat 52, Char.ofNat 46, Char.ofNat 87, Char.ofNat 105, Char.ofNat 114, Char.ofNat 101, Char.ofNat 82, Char.ofNat 101, Char.ofNat 112, Char.ofNat 108, Char.ofNat 105, Char.ofNat 101, Char.ofNat 115, Char.ofNat 32, Char.ofNat 101, Char.ofNat 110, Char.ofNat 116, Char.ofNat 114, Char.ofNat 117, Char.ofNat 115, Char.ofNat 116, Char.ofNat 47, Char.ofNat 101, Char.ofNat 110, Char.ofNat 116, Char.ofNat 114, Char.ofNat 117, Char.ofNat 115, Char.ofNat 116, Char.ofNat 108, Char.ofNat 97, Char.ofNat 119, Char.ofNat 49, Char.ofNat 53, Char.ofNat 46, Char.ofNat 76, Char.ofNat 105, Char.ofNat 110, Char.ofNat 107, Char.ofNat 79, Char.ofNat 112, Char.ofNat 101, Char.ofNat 110, Char.ofNat 115, Char.ofNat 32, Char.ofNat 101, Char.ofNat 110, Char.ofNat 116, Char.ofNat 114, Char.ofNat 117, Char.ofNat 115, Char.ofNat 116, Char.ofNat 47, Char.ofNat 101, Char.ofNat 110, Char.ofNat 116, Char.ofNat 114, Char.ofNat 117, Char.ofNat 115, Char.ofNat 116, Char.ofNat 108, Char.ofNat 97, Char.ofNat 119, Char.ofNat 49, Char.ofNat 53, Char.ofNat 46, Char.ofNat 76, Char.ofNat 105, Char.ofNat 110, Char.ofNat 107, Char.ofNat 66, Char.ofNat 97, Char.ofNat 99, Char.ofNat 107, Char.ofNat 32, Char.ofNat 101, Char.ofNat 110, Char.ofNat 116, Char.ofNat 114, Char.ofNat 117, Char.ofNat 115, Char.ofNat 116, Char.ofNat 47, Char.ofNat 101, Char.ofNat 110, Char.ofNat 116, Char.ofNat 114, Char.ofNat 117, Char.ofNat 115, Char.ofNat 116, Char.ofNat 108, Char.ofNat 97, Char.ofNat 119, Char.ofNat 49, Char.ofNat 51, Char.ofNat 46, Char.ofNat 84, Char.ofNat 105, Char.ofNat 99, Char.ofNat 107, Char.ofNat 101, Char.ofNat 116, Char.ofNat 83, Char.ofNat 105, Char.ofNat 103, Char.ofNat 110, Char.ofNat 115, Char.ofNat 32, Char.ofNat 101, Char.ofNat 110, Char.ofNat 116, Char.ofNat 114, Char.ofNat 117, Char.ofNat 115, Char.ofNat 116, Char.ofNat 47, Char.ofNat 101, Char.ofNat 110, Char.ofNat 116, Char.ofNat 114, Char.ofNat 117, Char.ofNat 115, Char.ofNat 116, Char.ofNat 108, Char.ofNat 97, Char.ofNat 119, Char.ofNat 49, Char.ofNat 52, Char.ofNat 46, Char.ofNat 87, Char.ofNat 105, Char.ofNat 114, Char.ofNat 101, Char.ofNat 80, Char.ofNat 97, Char.ofNat 114, Char.ofNat 115, Char.ofNat 101, Char.ofNat 115, Char.ofNat 32, Char.ofNat 101, Char.ofNat 110, Char.ofNat 116, Char.ofNat 114, Char.ofNat 117, Char.ofNat 115, Char.ofNat 116, Char.ofNat 47, Char.ofNat 101, Char.ofNat 110, Char.ofNat 116, Char.ofNat 114, Char.ofNat 117, Char.ofNat 115, Char.ofNat 116, Char.ofNat 108, Char.ofNat 97, Char.ofNat 119, Char.ofNat 49, Char.ofNat 51, Char.ofNat 46, Char.ofNat 84, Char.ofNat 105, Char.ofNat 99, Char.ofNat 107, Char.ofNat 101, Char.ofNat 116, Char.ofNat 80, Char.ofNat 97, Char.ofNat 114, Char.ofNat 115, Char.ofNat 101, Char.ofNat 115, Char.ofNat 32, Char.ofNat 101, Char.ofNat 110, Char.ofNat 116, Char.ofNat 114, Char.ofNat 117, Char.ofNat 115, Char.ofNat 116, Char.ofNat 47, Char.ofNat 101, Char.ofNat 110, Char.ofNat 116, Char.ofNat 114, Char.ofNat 117, Char.ofNat 115, Char.ofNat 116, Char.ofNat 108, Char.ofNat 97, Char.ofNat 119, Char.ofNat 49, Char.ofNat 51, Char.ofNat 46, Char.ofNat 84, Char.ofNat 105, Char.ofNat 99, Char.ofNat 107, Char.ofNat 101, Char.ofNat 116, Char.ofNat 66, Char.ofNat 97, Char.ofNat 99, Char.ofNat 107, Char.ofNat 32, Char.ofNat 101, Char.ofNat 110, Char.ofNat 116, Char.ofNat 114, Char.ofNat 117, Char.ofNat 115, Char.ofNat 116, Char.ofNat 47, Char.ofNat 101, Char.ofNat 110, Char.ofNat 116, Char.ofNat 114, Char.ofNat 117, Char.ofNat 115, Char.ofNat 116, Char.ofNat 108, Char.ofNat 97, Char.ofNat 119, Char.ofNat 49, Char.ofNat 51, Char.ofNat 46, Char.ofNat 84, Char.ofNat 105, Char.ofNat 99, Char.ofNat 107, Char.ofNat 101, Char.ofNat 116, Char.ofNat 79, Char.ofNat 114, Char.ofNat 100, Char.ofNat 101, Char.ofNat 114, Char.ofNat 115, Char.ofNat 32, Char.ofNat 101, Char.ofNat 110, Char.ofNat 116, Char.ofNat 114, Char.ofNat 117, Char.ofNat 115, Char.ofNat 116, Char.ofNat 47, Char.ofNat 101, Char.ofNat 110, Char.ofNat 116, Char.ofNat 114, Char.ofNat 117, Char.ofNat 115, Char.ofNat 116, Char.ofNat 108, Char.ofNat 97, Char.ofNat 119, Char.ofNat 49, Char.ofNat 52, Char.ofNat 46, Char.ofNat 87, Char.ofNat 105, Char.ofNat 114, Char.ofNat 101, Char.ofNat 87, Char.ofNat 111, Char.ofNat 114, Char.ofNat 100, Char.ofNat 115, Char.ofNat 32, Char.ofNat 101, Char.ofNat 110, Char.ofNat 116, Char.ofNat 114, Char.ofNat 117, Char.ofNat 115, Char.ofNat 116, Char.ofNat 47, Char.ofNat 101, Char.ofNat 110, Char.ofNat 116, Char.ofNat 114, Char.ofNat 117, Char.ofNat 115, Char.ofNat 116, Char.ofNat 108, Char.ofNat 97, Char.ofNat 119, Char.ofNat 49, Char.ofNat 52, Char.ofNat 46, Char.ofNat 87, Char.ofNat 105, Char.ofNat 114, Char.ofNat 101, Char.ofNat 66, Char.ofNat 97, Char.ofNat 99, Char.ofNat 107, Char.ofNat 32, Char.ofNat 101, Char.ofNat 110, Char.ofNat 116, Char.ofNat 114, Char.ofNat 117, Char.ofNat 115, Char.ofNat 116, Char.ofNat 47, Char.ofNat 101, Char.ofNat 110, Char.ofNat 116, Char.ofNat 114, Char.ofNat 117, Char.ofNat 115, Char.ofNat 116, Char.ofNat 108, Char.ofNat 97, Char.ofNat 119, Char.ofNat 49, Char.ofNat 51, Char.ofNat 46, Char.ofNat 84, Char.ofNat 105, Char.ofNat 99, Char.ofNat 107, Char.ofNat 101, Char.ofNat 116, Char.ofNat 83, Char.ofNat 101, Char.ofNat 97, Char.ofNat 108, Char.ofNat 115]
theorem headStr : Tryd.prog.initOrder = String.ofList headSigns := by kernel_rfl
theorem headIs : Tryd.prog.initOrder.toList = headSigns := by
  rw [headStr]
  exact String.toList_ofList
def sumSigns : List Char := [Char.ofNat 50, Char.ofNat 100, Char.ofNat 55, Char.ofNat 48, Char.ofNat 102, Char.ofNat 53, Char.ofNat 99, Char.ofNat 56, Char.ofNat 51, Char.ofNat 51, Char.ofNat 98, Char.ofNat 102, Char.ofNat 98, Char.ofNat 55, Char.ofNat 98, Char.ofNat 99, Char.ofNat 56, Char.ofNat 100, Char.ofNat 101, Char.ofNat 50, Char.ofNat 52, Char.ofNat 51, Char.ofNat 50, Char.ofNat 51, Char.ofNat 48, Char.ofNat 101, Char.ofNat 101, Char.ofNat 48, Char.ofNat 52, Char.ofNat 55, Char.ofNat 57, Char.ofNat 55, Char.ofNat 51, Char.ofNat 101, Char.ofNat 57, Char.ofNat 54, Char.ofNat 57, Char.ofNat 51, Char.ofNat 101, Char.ofNat 100, Char.ofNat 101, Char.ofNat 55, Char.ofNat 53, Char.ofNat 51, Char.ofNat 52, Char.ofNat 48, Char.ofNat 54, Char.ofNat 50, Char.ofNat 55, Char.ofNat 99, Char.ofNat 57, Char.ofNat 57, Char.ofNat 52, Char.ofNat 50, Char.ofNat 54, Char.ofNat 50, Char.ofNat 100, Char.ofNat 102, Char.ofNat 102, Char.ofNat 56, Char.ofNat 48, Char.ofNat 54, Char.ofNat 100, Char.ofNat 50]
theorem sumIs : "2d70f5c833bfb7bc8de243230ee047973e9693ede75340627c994262dff806d2".toList = sumSigns := by
  have h : "2d70f5c833bfb7bc8de243230ee047973e9693ede75340627c994262dff806d2" = String.ofList sumSigns := by kernel_rfl
  rw [h]
  exact String.toList_ofList
theorem head_cons {α : Type} {l : List α} {x : α} (h : l.head? = some x) : ∃ r, l = x :: r := by cases l <;> simp_all
theorem make_cut {P : Program} {r : List (List Char)} (h : behindMainWord (wordsSigns P.initOrder.toList) = "cut".toList :: r) : P.make = some .cut := by
  unfold Program.make
  rw [h]
  rfl
theorem headLifts_cut {P : Program} (h : (stripLifts liftWords (behindMainWord (wordsSigns P.initOrder.toList))).1 = []) : P.headLifts = [] := by
  unfold Program.headLifts
  simp only [h]
  split <;> rfl
theorem lifts_cut {P : Program} {r : List (List Char)} (h : behindMainWord (wordsSigns P.initOrder.toList) = "cut".toList :: r) (h1 : P.headLifts = []) : P.liftsFinal = false := by
  unfold Program.liftsFinal
  rw [h, h1]
  rfl
theorem mayEnter_cut {P : Program} {r : List (List Char)} (h : behindMainWord (wordsSigns P.initOrder.toList) = "cut".toList :: r) (h1 : P.laysLater = false) (h2 : P.bearsReflect = false)
    (h3 : (stripLifts liftWords (behindMainWord (wordsSigns P.initOrder.toList))).1 = []) (h4 : (stripLifts liftWords (behindMainWord (wordsSigns P.initOrder.toList))).2.head? = some "cut".toList) (h5 : P.doorFits [] = true) : P.mayEnter = true := by
  unfold Program.mayEnter
  rw [h] at h3 h4 ⊢
  simp only [h1, h2, h3, h4, h5]
  simp
theorem main_cut {P : Program} {s : List Char} {r : List (List Char)} (h : wordsSigns P.initOrder.toList = "harness".toList :: s :: r) (hs : isSumSigns s = true) : P.mainIs = some (true, s) := by
  unfold Program.mainIs
  rw [h]
  simp [hs]
theorem hHead : (behindMainWord (wordsSigns Tryd.prog.initOrder.toList)).head? = some "cut".toList := by
  rw [headIs]
  kernel_rfl
theorem hStrip : (stripLifts liftWords (behindMainWord (wordsSigns Tryd.prog.initOrder.toList))).1 = [] := by
  rw [headIs]
  kernel_rfl
theorem hStrip2 : (stripLifts liftWords (behindMainWord (wordsSigns Tryd.prog.initOrder.toList))).2.head? = some "cut".toList := by
  rw [headIs]
  kernel_rfl
theorem hMain : wordsSigns Tryd.prog.initOrder.toList = "harness".toList :: sumSigns :: (wordsSigns headSigns).drop 2 := by
  rw [headIs]
  kernel_rfl
theorem hSum : isSumSigns sumSigns = true := by kernel_rfl
theorem hLater : Tryd.prog.laysLater = false := by kernel_rfl
theorem hReflect : Tryd.prog.bearsReflect = false := by kernel_rfl
theorem hDoor : Tryd.prog.doorFits [] = true := by kernel_rfl
theorem kMayEnter : Tryd.prog.mayEnter = true := by
  obtain ⟨r, h⟩ := head_cons hHead
  exact mayEnter_cut h hLater hReflect hStrip hStrip2 hDoor
theorem kLifts : Tryd.prog.liftsFinal = false := by
  obtain ⟨r, h⟩ := head_cons hHead
  exact lifts_cut h (headLifts_cut hStrip)
theorem kMake : Tryd.prog.make = some .cut := by
  obtain ⟨r, h⟩ := head_cons hHead
  exact make_cut h
theorem kMainIs : Tryd.prog.mainIs = some (true, "2d70f5c833bfb7bc8de243230ee047973e9693ede75340627c994262dff806d2".toList) := by
  rw [sumIs]
  exact main_cut hMain hSum
theorem kLaidOut : (laidOutB Tryd.prog) = true := by kernel_rfl
theorem kRowed : mapsRowed Tryd.prog = true := by kernel_rfl
theorem kStops : (Tryd.prog.stops == []) = true := by kernel_rfl
theorem kKnobs : (Tryd.prog.stopKnobs == []) = true := by kernel_rfl
theorem kHeard : Tryd.prog.stopsHeard = true := by kernel_rfl
theorem kLooks : true = Tryd.prog.looks [] := by kernel_rfl
end Go.Proofs.YtkdpdgpphpngeaaDoor
