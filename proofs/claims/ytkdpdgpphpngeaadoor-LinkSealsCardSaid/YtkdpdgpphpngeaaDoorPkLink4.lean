import Derived.Test.YtkdpdgpphpngeaaDoorPkLink3
namespace Go.Proofs.YtkdpdgpphpngeaaDoor
open Go Go.Sx
set_option linter.unusedVariables false
set_option linter.unusedSimpArgs false
set_option maxRecDepth 100000
attribute [local irreducible] mid zr8 zr32 numK valK rvalK numN rotr wordL spreadL comprL cpN adN spN wrdN constL initL padL stN outN routN sumG blkL xbN raN macL headT tagT frmT wayF seF flipB
theorem value_c (ao : Option Addr) (n c : Nat) (z : List UInt8) (w : World) (hz : z.length = n) (hn : n ≤ 2000000000) (hr : RdB w [] ao z) : Calls Tryd.prog 110 #[.slice ao n c] w (Post w [] (fun v L => v = U64 (rvalK z n) ∧ L = [])) := by
  refine enter w [] 20 [] [.slice ao n c] Tryd.func110 rfl rfl (by simp) (Hp.start (by simp) (by simp) (by simp)) ?_
  show JC _ _ _ [(0, .slice ao n c)] _
  refine JC_seq ?_
  refine JC_region ?_
  refine JL_val _ (Ev_assign rfl) rfl ?_
  refine JL_nil ?_
  refine JQ_then ?_
  refine JC_seq ?_
  refine JC_region ?_
  refine JL_val _ (Ev_assign rfl) rfl ?_
  refine JL_nil ?_
  refine JQ_then ?_
  refine JC_seq ?_
  refine JC_seq ?_
  refine JC_region ?_
  refine JL_val _ (Ev_assign rfl) rfl ?_
  refine JL_nil ?_
  refine JQ_then ?_
  refine JC_block ?_
  refine JC_loop (ι := Nat × UInt64) (fun ⟨j, y⟩ => [(0, .slice ao n c), (2, U64 (0:UInt64)), (4, I64 ((j:Int))), (3, U64 y)]) (fun ⟨j, y⟩ => []) (fun ⟨j, y⟩ => j ≤ n ∧ y = rvalK z j) (fun ⟨j, y⟩ => n - j) (0, 0) ⟨by omega, by rw [rvalK]⟩ (Sub.cons rfl (Sub.cons rfl (Sub.cons rfl (Sub.cons rfl (Sub.nil))))) rfl ?_
  rintro ⟨j, y⟩ ⟨hx1, hx2⟩
  show JC _ _ _ [(0, .slice ao n c), (2, U64 (0:UInt64)), (4, I64 ((j:Int))), (3, U64 y)] []
  refine JC_seq ?_
  refine JC_seq ?_
  refine JC_region ?_
  refine JL_val _ (Ev_move rfl) rfl ?_
  refine JL_val _ (Ev_move rfl) rfl ?_
  refine JL_val (I64 ((n:Int))) (Ev_len Tryd.underlying43 rfl) rfl ?_
  refine JL_val (.bool (decide (((j:Int)) < ((n:Int))))) (Ev_bini rfl rfl fun _ => bin_lss_i _ _) rfl ?_
  refine JL_nil ?_
  refine JQ_then ?_
  refine JC_cond (decide (((j:Int)) < ((n:Int)))) rfl (fun hb1 => ?_) (fun hb1 => ?_)
  ·
    have hp1 : ((j:Int)) < ((n:Int)) := of_decide_eq_true hb1
    refine JC_skip ?_
    refine JQ_then ?_
    refine JC_seq ?_
    refine JC_block ?_
    refine JC_region ?_
    refine JL_val _ (Ev_move rfl) rfl ?_
    refine JL_val (U64 (y * (256:UInt64))) (Ev_bini rfl rfl fun _ => bin_mul_u64 y (256:UInt64)) rfl ?_
    refine JL_val _ (Ev_move rfl) rfl ?_
    refine JL_val _ (Ev_move rfl) rfl ?_
    obtain ⟨bz1, oz1, hz1, hm1⟩ := hr.pos (by rw [hz]; omega)
    refine JL_val (Ptr bz1 (j + oz1)) (Ev_indexSlG 5 1 (j + oz1) Tryd.underlying43 Tryd.sizeOf5 rfl hz1 rfl (by omega) (by omega) (by omega)) rfl ?_
    refine JL_val (U8 (g8 z j)) (Ev_load rfl (Ld_one Tryd.isAgg5 (MemAt.seg (MemAt.base hm1.1 hm1.2.1 hm1.2.2) (Seg.get (g8_get (i := j) (by rw [hz]; omega))) (by omega)))) rfl ?_
    refine JL_val (U64 ((g8 z j).toUInt64)) (Ev_conv _ _ rfl fun _ => conv_u8_u64 (by rw [Tryd.underlying5]; rfl) Tryd.underlying22 _) rfl ?_
    refine JL_val (U64 ((y * (256:UInt64)) + ((g8 z j).toUInt64))) (Ev_bini rfl rfl fun _ => bin_add_u64 (y * (256:UInt64)) ((g8 z j).toUInt64)) rfl ?_
    refine JL_val _ (Ev_assign rfl) rfl ?_
    refine JL_nil ?_
    refine JQ_in_normal ?_
    refine JQ_then ?_
    refine JC_region ?_
    refine JL_val _ (Ev_move rfl) rfl ?_
    refine JL_val (I64 ((j:Int) + 1)) (Ev_bini rfl rfl fun _ => bin_add_i _ _ ((j:Int) + 1) (by omega) (by omega)) rfl ?_
    refine JL_val _ (Ev_assign rfl) rfl ?_
    refine JL_nil ?_
    refine JQ_thenK ?_
    refine K_next (j + 1, (y * (256:UInt64)) + ((g8 z j).toUInt64)) ⟨by omega, by rw [rvalK, ← hx2]⟩ (by first | (simp; omega) | simp | (dsimp only; omega) | omega) (Sub.cons rfl (Sub.cons rfl (Sub.cons rfl (Sub.cons rfl (Sub.nil))))) rfl
  ·
    have hp1 : ¬ (((j:Int)) < ((n:Int))) := of_decide_eq_false hb1
    refine JC_exit ?_
    refine JQ_then_exit ?_
    refine JQ_then_exit ?_
    refine JQ_in_same ?_
    refine JQ_then ?_
    refine JC_seq ?_
    refine JC_region ?_
    refine JL_val _ (Ev_move rfl) rfl ?_
    refine JL_val _ (Ev_assign rfl) rfl ?_
    refine JL_nil ?_
    refine JQ_then ?_
    refine JC_ret ?_
    refine JQ_ret (U64 y) (res1 Tryd.results110 (RV_tmp rfl)) fun w1 hw1 => ?_
    have e1 : j = n := by omega
    rw [hx2, e1] at *
    exact ⟨_, [], rfl, ⟨rfl, rfl⟩, hw1.sub (by simp) (by simp)⟩

theorem lbytes_c (n : Nat) (w : World) (hn : n ≤ 4000000000000) : Calls Tryd.prog 30 #[I64 ((n:Int))] w (Post w [] (fun v L => v = I64 ((n:Int) + 25) ∧ L = [])) := by
  refine enter w [] 7 [] [I64 ((n:Int))] Tryd.func30 rfl rfl (by simp) (Hp.start (by simp) (by simp) (by simp)) ?_
  show JC _ _ _ [(0, I64 ((n:Int)))] _
  refine JC_seq ?_
  refine JC_region ?_
  refine JL_val _ (Ev_assign rfl) rfl ?_
  refine JL_nil ?_
  refine JQ_then ?_
  refine JC_seq ?_
  refine JC_region ?_
  refine JL_val _ (Ev_move rfl) rfl ?_
  rcases Bool.eq_false_or_eq_true (decide (((n:Int)) ≤ (0:Int))) with hb1 | hb1
  ·
    have hp1 : ((n:Int)) ≤ (0:Int) := of_decide_eq_true hb1
    refine JL_val (I64 (0:Int)) (Ev_max rfl rfl (by have h : (decide (((n:Int)) ≤ (0:Int))) = true := hb1; have := of_decide_eq_true h; omega)) rfl ?_
    refine JL_val (I64 (9:Int)) (Ev_bini rfl rfl fun _ => bin_add_i _ _ (9:Int) (by omega) (by omega)) rfl ?_
    refine JL_val (I64 (25:Int)) (Ev_bini rfl rfl fun _ => bin_add_i _ _ (25:Int) (by omega) (by omega)) rfl ?_
    refine JL_val _ (Ev_assign rfl) rfl ?_
    refine JL_nil ?_
    refine JQ_then ?_
    refine JC_ret ?_
    refine JQ_ret (I64 (25:Int)) (res1 Tryd.results30 (RV_tmp rfl)) fun w1 hw1 => ?_
    refine ⟨_, [], rfl, ⟨?_, rfl⟩, hw1.sub (by simp) (by simp)⟩
    first | rfl | (congr 1; omega) | (exfalso; omega)
  ·
    have hp1 : ¬ (((n:Int)) ≤ (0:Int)) := of_decide_eq_false hb1
    refine JL_val (I64 ((n:Int))) (Ev_max rfl rfl (by have h : (decide (((n:Int)) ≤ (0:Int))) = false := hb1; have := of_decide_eq_false h; omega)) rfl ?_
    refine JL_val (I64 ((n:Int) + 9)) (Ev_bini rfl rfl fun _ => bin_add_i _ _ ((n:Int) + 9) (by omega) (by omega)) rfl ?_
    refine JL_val (I64 ((n:Int) + 25)) (Ev_bini rfl rfl fun _ => bin_add_i _ _ ((n:Int) + 25) (by omega) (by omega)) rfl ?_
    refine JL_val _ (Ev_assign rfl) rfl ?_
    refine JL_nil ?_
    refine JQ_then ?_
    refine JC_ret ?_
    refine JQ_ret (I64 ((n:Int) + 25)) (res1 Tryd.results30 (RV_tmp rfl)) fun w1 hw1 => ?_
    refine ⟨_, [], rfl, ⟨?_, rfl⟩, hw1.sub (by simp) (by simp)⟩
    first | rfl | (congr 1; omega) | (exfalso; omega)

theorem lbytesM_c (b : Int) (w : World) (hb : b < 0) : Calls Tryd.prog 30 #[I64 (b)] w (Post w [] (fun v L => v = I64 25 ∧ L = [])) := by
  refine enter w [] 7 [] [I64 (b)] Tryd.func30 rfl rfl (by simp) (Hp.start (by simp) (by simp) (by simp)) ?_
  show JC _ _ _ [(0, I64 (b))] _
  refine JC_seq ?_
  refine JC_region ?_
  refine JL_val _ (Ev_assign rfl) rfl ?_
  refine JL_nil ?_
  refine JQ_then ?_
  refine JC_seq ?_
  refine JC_region ?_
  refine JL_val _ (Ev_move rfl) rfl ?_
  refine JL_val (I64 (0:Int)) (Ev_max rfl rfl (by have h : (decide ((b) ≤ (0:Int))) = true := (decide_eq_true (by omega)); have := of_decide_eq_true h; omega)) rfl ?_
  refine JL_val (I64 (9:Int)) (Ev_bini rfl rfl fun _ => bin_add_i _ _ (9:Int) (by omega) (by omega)) rfl ?_
  refine JL_val (I64 (25:Int)) (Ev_bini rfl rfl fun _ => bin_add_i _ _ (25:Int) (by omega) (by omega)) rfl ?_
  refine JL_val _ (Ev_assign rfl) rfl ?_
  refine JL_nil ?_
  refine JQ_then ?_
  refine JC_ret ?_
  refine JQ_ret (I64 (25:Int)) (res1 Tryd.results30 (RV_tmp rfl)) fun w1 hw1 => ?_
  refine ⟨_, [], rfl, ⟨?_, rfl⟩, hw1.sub (by simp) (by simp)⟩
  first | rfl | (congr 1; omega) | (exfalso; omega)

theorem lseal_c (key : List UInt8) (k : Nat) (s : UInt64) (az : Option Addr) (n cz : Nat) (z : List UInt8) (tot : Nat)  (w : World) (hk : key.length = 32) (hz : z.length = n) (hcb : az = none → cz = 0) (hnc : n ≤ cz) (hcm : cz ≤ maxLen) (hr : RdB w [] az z) (hw : k = 1 ∨ k = 2) (hn : n + 25 ≤ 262144) (ht : n + 25 = tot) (hG : GLs w) : Calls Tryd.prog 27 #[.agg (cu8 key).toArray, I64 ((k:Int)), U64 s, .slice az n cz] w (Post w [] (fun v L => ∃ g sp cap, v = .tuple #[Slc g 0 tot cap, .nilIface] ∧ L = [⟨g, cu8 (frmT key k s z) ++ sp, 5, (0, 0)⟩] ∧ sp.length = cap - tot ∧ tot ≤ cap ∧ cap ≤ maxLen)) := by
  have hmx : maxLen = 9223372036854775807 := rfl
  refine enter w [] 54 [] [.agg (cu8 key).toArray, I64 ((k:Int)), U64 s, .slice az n cz] Tryd.func27 rfl rfl (by simp) (Hp.start (by simp) (by simp) (by simp)) ?_
  show JC _ _ _ [(0, .agg (cu8 key).toArray), (1, I64 ((k:Int))), (2, U64 s), (3, .slice az n cz)] _
  refine JC_seq ?_
  refine JC_region ?_
  refine JL_step (Step_box (.agg (cu8 key).toArray) (cu8 key) rfl (by first | rfl | simp)) rfl ?_
  rintro v1 L1 ⟨nb1, hnb1, rfl, rfl⟩
  show JL _ _ _ _ ((4, Ptr nb1 0) :: _) [⟨nb1, cu8 key, 54, (0, 0)⟩]
  refine JL_val _ (Ev_assign rfl) rfl ?_
  refine JL_val _ (Ev_assign rfl) rfl ?_
  refine JL_nil ?_
  refine JQ_then ?_
  refine JC_seq ?_
  refine JC_block ?_
  refine JC_seq ?_
  refine JC_region ?_
  refine JL_val _ (Ev_move rfl) rfl ?_
  refine JL_val (.bool (decide (((k:Int)) ≠ (1:Int)))) (Ev_bini rfl rfl fun _ => bin_neq_i _ _) rfl ?_
  refine JL_val _ (Ev_move rfl) rfl ?_
  rcases Bool.eq_false_or_eq_true (decide (((k:Int)) ≠ (1:Int))) with hb1 | hb1
  ·
    have hp1 : ((k:Int)) ≠ (1:Int) := of_decide_eq_true hb1
    refine JL_gval 2 17 true _ _ rfl rfl hb1 (Ev_move rfl) rfl ?_
    refine JL_gval 2 17 true _ (.bool (decide (((k:Int)) ≠ (2:Int)))) rfl rfl hb1 (Ev_bini rfl rfl fun _ => bin_neq_i _ _) rfl ?_
    refine JL_val _ (Ev_pickT _ rfl hb1 rfl) rfl ?_
    refine JL_val _ (Ev_assign rfl) rfl ?_
    refine JL_nil ?_
    refine JQ_then ?_
    refine JC_condF _ rfl (decide_eq_false (by omega)) ?_
    refine JC_seq ?_
    refine JC_region ?_
    refine JL_val _ (Ev_move rfl) rfl ?_
    refine JL_val (I64 ((n:Int))) (Ev_len Tryd.underlying43 rfl) rfl ?_
    refine JL_step (Step_callP 30 [I64 ((n:Int))] (I64 ((n:Int) + 25)) (Cl_func [I64 ((n:Int))] Tryd.call30 rfl) (fun w1 hw1 => lbytes_c n w1 (by omega))) rfl ?_
    rintro v1 L1 ⟨rfl, rfl⟩
    show JL _ _ _ _ ((25, I64 ((n:Int) + 25)) :: _) [⟨nb1, cu8 key, 54, (0, 0)⟩]
    refine JL_val (.bool (decide ((262144:Int) < ((n:Int) + 25)))) (Ev_bini rfl rfl fun _ => bin_gtr_i _ _) rfl ?_
    refine JL_val _ (Ev_assign rfl) rfl ?_
    refine JL_nil ?_
    refine JQ_then ?_
    refine JC_condF _ rfl (decide_eq_false (by omega)) ?_
    refine JC_skip ?_
    refine JQ_in_normal ?_
    refine JQ_then ?_
    refine JC_seq ?_
    refine JC_region ?_
    refine JL_val (.agg (List.toArray (α := Value) ([.nilIface, .slice none 0 0]))) (Ev_build [] _ rfl (fun _ => by kernel_rfl)) rfl ?_
    refine JL_step (Step_box (.agg (List.toArray (α := Value) ([.nilIface, .slice none 0 0]))) ([.nilIface, .slice none 0 0]) rfl (by first | rfl | simp)) rfl ?_
    rintro v1 L1 ⟨nb2, hnb2, rfl, rfl⟩
    show JL _ _ _ _ ((29, Ptr nb2 0) :: _) [⟨nb1, cu8 key, 54, (0, 0)⟩, ⟨nb2, [.nilIface, .slice none 0 0], 149, (0, 0)⟩]
    refine JL_val _ (Ev_assign rfl) rfl ?_
    refine JL_nil ?_
    refine JQ_then ?_
    refine JC_seq ?_
    refine JC_region ?_
    refine JL_val _ (Ev_move rfl) rfl ?_
    refine JL_val _ (Ev_move rfl) rfl ?_
    refine JL_val (U64 (UInt64.ofNat k)) (Ev_conv _ _ rfl fun _ => conv_i64_u64 (by rw [Tryd.underlying3]; rfl) Tryd.underlying22 k _ (by omega)) rfl ?_
    refine JL_step (Step_call 81 _ [false, true] [nb2] _ (Cl_func [Ptr nb2 0, U64 (UInt64.ofNat k), I64 (1:Int)] Tryd.call81 rfl) rfl (fun w1 hw1 => numN_c nb2 1 .nilIface (UInt64.ofNat k) 1 w1 (hw1.ent _ (List.mem_of_getElem? (i := 1) rfl)) (by unfold Szd; omega) (fun _ => shr8w hw) (by omega))) rfl ?_
    rintro v1 L1 ⟨_, ⟨rfl, nb3, sp1, cp1, rfl, hc1, hc2, hc3⟩, rfl⟩
    show JL _ _ _ _ ((34, Ptr nb2 0) :: _) [⟨nb1, cu8 key, 54, (0, 0)⟩, ⟨nb2, [.nilIface, Slc nb3 0 1 cp1], 149, (0, 0)⟩, ⟨nb3, cu8 (numK 1 (UInt64.ofNat k) 1) ++ sp1, 5, (0, 0)⟩]
    refine JL_val _ (Ev_move rfl) rfl ?_
    refine JL_step (Step_call 81 _ [false, true, true] [nb2, nb3] _ (Cl_func [Ptr nb2 0, U64 s, I64 (8:Int)] Tryd.call81 rfl) rfl (fun w1 hw1 => numO_c nb2 nb3 1 cp1 9 .nilIface (numK 1 (UInt64.ofNat k) 1) sp1 s 8 w1 (hw1.ent _ (List.mem_of_getElem? (i := 1) rfl)) (hw1.ent _ (List.mem_of_getElem? (i := 2) rfl)) (hw1.ne (i := 1) (j := 2) rfl rfl (by decide)) (show (numK 1 (UInt64.ofNat k) 1).length = 1 from (numK_len _ _ _)) hc1 hc2 hc3 (by omega) (by unfold Szd; omega) (fun h => absurd h (by omega)) (by omega))) rfl ?_
    rintro v1 L1 ⟨_, ⟨rfl, nb4, sp2, cp2, rfl, hc4, hc5, hc6⟩, rfl⟩
    show JL _ _ _ _ ((36, Ptr nb2 0) :: _) [⟨nb1, cu8 key, 54, (0, 0)⟩, ⟨nb2, [.nilIface, Slc nb4 0 9 cp2], 149, (0, 0)⟩, ⟨nb4, cu8 ((numK 1 (UInt64.ofNat k) 1) ++ numK 8 s 8) ++ sp2, 5, (0, 0)⟩]
    refine JL_val _ (Ev_move rfl) rfl ?_
    refine JL_step (Step_call 82 _ [false, true, true] [nb2, nb4] _ (Cl_func [Ptr nb2 0, .slice az n cz] Tryd.call82 rfl) rfl (fun w1 hw1 => rawO_c nb2 nb4 9 cp2 (n + 9) .nilIface ((numK 1 (UInt64.ofNat k) 1) ++ numK 8 s 8) sp2 az n cz z w1 (hw1.ent _ (List.mem_of_getElem? (i := 1) rfl)) (hw1.ent _ (List.mem_of_getElem? (i := 2) rfl)) (hw1.ne (i := 1) (j := 2) rfl rfl (by decide)) (show ((numK 1 (UInt64.ofNat k) 1) ++ numK 8 s 8).length = 9 from (by rw [List.length_append, (show (numK 1 (UInt64.ofNat k) 1).length = 1 from (numK_len _ _ _)), numK_len] <;> omega)) hc4 hc5 hc6 (by omega) hz (by omega) (hr.at (M' := [nb2, nb4]) hw1 (hw1.apart [1, 2] _ rfl)) (by omega))) rfl ?_
    rintro v1 L1 ⟨_, ⟨rfl, nb5, sp3, cp3, rfl, hc7, hc8, hc9⟩, rfl⟩
    show JL _ _ _ _ ((38, Ptr nb2 0) :: _) [⟨nb1, cu8 key, 54, (0, 0)⟩, ⟨nb2, [.nilIface, Slc nb5 0 (n + 9) cp3], 149, (0, 0)⟩, ⟨nb5, cu8 (((numK 1 (UInt64.ofNat k) 1) ++ numK 8 s 8) ++ z) ++ sp3, 5, (0, 0)⟩]
    refine JL_step (Step_callN 83 [Ptr nb2 0] _ (Cl_func [Ptr nb2 0] Tryd.call83 rfl) (fun w1 hw1 => doneO_c nb2 0 nb5 (n + 9) cp3 (((numK 1 (UInt64.ofNat k) 1) ++ numK 8 s 8) ++ z) w1 (RdA.of hw1 (MemAt.ent 1 rfl (Seg.whole _)) (by simp)) rfl (show (((numK 1 (UInt64.ofNat k) 1) ++ numK 8 s 8) ++ z).length = (n + 9) from (by rw [List.length_append, (show ((numK 1 (UInt64.ofNat k) 1) ++ numK 8 s 8).length = 9 from (by rw [List.length_append, (show (numK 1 (UInt64.ofNat k) 1).length = 1 from (numK_len _ _ _)), numK_len] <;> omega)), hz] <;> omega)) (by omega) (RdB.of hw1 (MemAt.ent 2 rfl (Seg.left (Seg.whole _))) (by simp)))) rfl ?_
    rintro v1 L1 ⟨_, ⟨nb6, sp4, cp4, rfl, rfl, hc10, hc11, hc12⟩, rfl⟩
    show JL _ _ _ _ ((39, .tuple #[Slc nb6 0 (n + 9) cp4, .nilIface]) :: _) [⟨nb1, cu8 key, 54, (0, 0)⟩, ⟨nb2, [.nilIface, Slc nb5 0 (n + 9) cp3], 149, (0, 0)⟩, ⟨nb5, cu8 (((numK 1 (UInt64.ofNat k) 1) ++ numK 8 s 8) ++ z) ++ sp3, 5, (0, 0)⟩, ⟨nb6, cu8 (((numK 1 (UInt64.ofNat k) 1) ++ numK 8 s 8) ++ z) ++ sp4, 5, (0, 0)⟩]
    refine JL_val _ (Ev_move rfl) rfl ?_
    refine JL_val _ (Ev_extract rfl rfl) rfl ?_
    refine JL_val _ (Ev_extract rfl rfl) rfl ?_
    refine JL_val _ (Ev_assign rfl) rfl ?_
    refine JL_val _ (Ev_assign rfl) rfl ?_
    refine JL_nil ?_
    refine JQ_then ?_
    refine JC_seq ?_
    refine JC_seq ?_
    refine JC_region ?_
    refine JL_val _ (Ev_move rfl) rfl ?_
    refine JL_val (.bool false) (Ev_bin _ _ _ rfl rfl (fun _ => eqGuard_nn ..) fun _ => neq_if_nil_nil Tryd.underlying45) rfl ?_
    refine JL_nil ?_
    refine JQ_then ?_
    refine JC_condF _ rfl rfl ?_
    refine JC_skip ?_
    refine JQ_then ?_
    refine JC_seq ?_
    refine JC_region ?_
    refine JL_val (.agg (cu8 key).toArray) (Ev_load rfl (Ld_agg Tryd.isAgg54 Tryd.sizeOf54 (len_cu8 hk) (MemAt.ent 0 rfl (Seg.whole _)))) rfl ?_
    refine JL_val _ (Ev_move rfl) rfl ?_
    refine JL_step (Step_callP 89 [.agg (cu8 key).toArray, U64 s] (.agg (cu8 (macL key (numN 8 s 8))).toArray) (Cl_func [.agg (cu8 key).toArray, U64 s] Tryd.call89 rfl) (fun w1 hw1 => session_c key s w1 hk (hG.at hw1))) rfl ?_
    rintro v1 L1 ⟨rfl, rfl⟩
    show JL _ _ _ _ ((47, .agg (cu8 (macL key (numN 8 s 8))).toArray) :: _) [⟨nb1, cu8 key, 54, (0, 0)⟩, ⟨nb2, [.nilIface, Slc nb5 0 (n + 9) cp3], 149, (0, 0)⟩, ⟨nb5, cu8 (((numK 1 (UInt64.ofNat k) 1) ++ numK 8 s 8) ++ z) ++ sp3, 5, (0, 0)⟩, ⟨nb6, cu8 (((numK 1 (UInt64.ofNat k) 1) ++ numK 8 s 8) ++ z) ++ sp4, 5, (0, 0)⟩]
    refine JL_step (Step_alloc _ (cu8 (zr8 32)) Tryd.zeroValue54 (by kernel_rfl)) rfl ?_
    rintro v1 L1 ⟨nb7, hnb7, rfl, rfl⟩
    show JL _ _ _ _ ((13, Ptr nb7 0) :: _) [⟨nb1, cu8 key, 54, (0, 0)⟩, ⟨nb2, [.nilIface, Slc nb5 0 (n + 9) cp3], 149, (0, 0)⟩, ⟨nb5, cu8 (((numK 1 (UInt64.ofNat k) 1) ++ numK 8 s 8) ++ z) ++ sp3, 5, (0, 0)⟩, ⟨nb6, cu8 (((numK 1 (UInt64.ofNat k) 1) ++ numK 8 s 8) ++ z) ++ sp4, 5, (0, 0)⟩, ⟨nb7, cu8 (zr8 32), 54, (0, 0)⟩]
    refine JL_step (Step_store 4 nb7 0 32 (cu8 (zr8 32)) 54 (.agg (cu8 (macL key (numN 8 s 8))).toArray) (cu8 (macL key (numN 8 s 8))) (cu8 (macL key (numN 8 s 8))) rfl rfl rfl (by first | rfl | simp) Tryd.sizeOf54 (len_cu8 (macL_len _ _)) (by first | exact one_u8 | exact one_u32 | exact one_u64 | (simp [cu8, cu32, cu64, Value.oneCell']; done)) (by simp [(zr8_len 32)]) (lay_whole (by simp [(zr8_len 32), (macL_len _ _)]))) rfl ?_
    rintro v1 L1 ⟨rfl, rfl⟩
    show JL _ _ _ _ _ [⟨nb1, cu8 key, 54, (0, 0)⟩, ⟨nb2, [.nilIface, Slc nb5 0 (n + 9) cp3], 149, (0, 0)⟩, ⟨nb5, cu8 (((numK 1 (UInt64.ofNat k) 1) ++ numK 8 s 8) ++ z) ++ sp3, 5, (0, 0)⟩, ⟨nb6, cu8 (((numK 1 (UInt64.ofNat k) 1) ++ numK 8 s 8) ++ z) ++ sp4, 5, (0, 0)⟩, ⟨nb7, cu8 (macL key (numN 8 s 8)), 54, (0, 0)⟩]
    refine JL_nil ?_
    refine JQ_then ?_
    refine JC_seq ?_
    refine JC_region ?_
    refine JL_val _ (Ev_move rfl) rfl ?_
    refine JL_val (Slc nb7 0 32 32) (Ev_sliceA 32 5 1 0 32 0 32 Tryd.underlying54 Tryd.sizeOf5 rfl rfl rfl (by omega) (by omega) (by omega) (by omega) (by omega) 32 (by omega)) rfl ?_
    refine JL_val _ (Ev_move rfl) rfl ?_
    refine JL_step (Step_buildSlice 43 1 _ [(0, Slc nb6 0 (n + 9) cp4)] ([Slc nb6 0 (n + 9) cp4]) Tryd.underlying230 Tryd.sizeOf43 Tryd.zeroValue43 rfl rfl rfl (by kernel_rfl)) rfl ?_
    rintro v1 L1 ⟨nb8, hnb8, rfl, rfl⟩
    show JL _ _ _ _ ((51, Slc nb8 0 1 1) :: _) [⟨nb1, cu8 key, 54, (0, 0)⟩, ⟨nb2, [.nilIface, Slc nb5 0 (n + 9) cp3], 149, (0, 0)⟩, ⟨nb5, cu8 (((numK 1 (UInt64.ofNat k) 1) ++ numK 8 s 8) ++ z) ++ sp3, 5, (0, 0)⟩, ⟨nb6, cu8 (((numK 1 (UInt64.ofNat k) 1) ++ numK 8 s 8) ++ z) ++ sp4, 5, (0, 0)⟩, ⟨nb7, cu8 (macL key (numN 8 s 8)), 54, (0, 0)⟩, ⟨nb8, [Slc nb6 0 (n + 9) cp4], 43, (0, 0)⟩]
    refine JL_step (Step_callN 90 [Slc nb7 0 32 32, Slc nb8 0 1 1] _ (Cl_func [Slc nb7 0 32 32, Slc nb8 0 1 1] Tryd.call90 rfl) (fun w1 hw1 => short_c (some ⟨nb7, 0, none⟩) 32 32 (macL key (numN 8 s 8)) nb8 1 [Slc nb6 0 (n + 9) cp4] [((numK 1 (UInt64.ofNat k) 1) ++ numK 8 s 8) ++ z] w1 (macL_len _ _) (fun h => by cases h) (by omega) (RdB.of hw1 (MemAt.ent 4 rfl (Seg.whole _)) (by simp)) (by simp) (by simp) (by simp) ⟨RdA.of hw1 (MemAt.ent 5 rfl (Seg.head)) (by simp), ⟨⟨(some ⟨nb6, 0, none⟩), cp4, congrArg (fun n => Value.slice (some ⟨nb6, 0, none⟩) n cp4) ((show (((numK 1 (UInt64.ofNat k) 1) ++ numK 8 s 8) ++ z).length = (n + 9) from (show (((numK 1 (UInt64.ofNat k) 1) ++ numK 8 s 8) ++ z).length = (n + 9) from (by rw [List.length_append, (show ((numK 1 (UInt64.ofNat k) 1) ++ numK 8 s 8).length = 9 from (by rw [List.length_append, (show (numK 1 (UInt64.ofNat k) 1).length = 1 from (numK_len _ _ _)), numK_len] <;> omega)), hz] <;> omega)))).symm, (RdB.of hw1 (MemAt.ent 3 rfl (Seg.left (Seg.whole _))) (by simp))⟩, trivial⟩⟩ (by simp only [List.flatten_cons, List.flatten_nil, List.length_append, List.length_nil, (show (((numK 1 (UInt64.ofNat k) 1) ++ numK 8 s 8) ++ z).length = (n + 9) from (show (((numK 1 (UInt64.ofNat k) 1) ++ numK 8 s 8) ++ z).length = (n + 9) from (by rw [List.length_append, (show ((numK 1 (UInt64.ofNat k) 1) ++ numK 8 s 8).length = 9 from (by rw [List.length_append, (show (numK 1 (UInt64.ofNat k) 1).length = 1 from (numK_len _ _ _)), numK_len] <;> omega)), hz] <;> omega)))]; omega) (hG.at hw1))) rfl ?_
    rintro v1 L1 ⟨_, ⟨nb9, sp5, cp5, rfl, rfl, hc13, hc14, hc15⟩, rfl⟩
    show JL _ _ _ _ ((52, Slc nb9 0 16 cp5) :: _) [⟨nb1, cu8 key, 54, (0, 0)⟩, ⟨nb2, [.nilIface, Slc nb5 0 (n + 9) cp3], 149, (0, 0)⟩, ⟨nb5, cu8 (((numK 1 (UInt64.ofNat k) 1) ++ numK 8 s 8) ++ z) ++ sp3, 5, (0, 0)⟩, ⟨nb6, cu8 (((numK 1 (UInt64.ofNat k) 1) ++ numK 8 s 8) ++ z) ++ sp4, 5, (0, 0)⟩, ⟨nb7, cu8 (macL key (numN 8 s 8)), 54, (0, 0)⟩, ⟨nb8, [Slc nb6 0 (n + 9) cp4], 43, (0, 0)⟩, ⟨nb9, cu8 (mid (macL (macL key (numN 8 s 8)) ([((numK 1 (UInt64.ofNat k) 1) ++ numK 8 s 8) ++ z].flatten)) 0 16) ++ sp5, 5, (0, 0)⟩]
    refine JL_step (Step_appM8 43 5 [false, false, false, true, false, false, false] (Slc nb6 0 (n + 9) cp4) (n + 9) (((numK 1 (UInt64.ofNat k) 1) ++ numK 8 s 8) ++ z) (mid (macL (macL key (numN 8 s 8)) ([((numK 1 (UInt64.ofNat k) 1) ++ numK 8 s 8) ++ z].flatten)) 0 16) (some ⟨nb9, 0, none⟩) 16 cp5 (n + 25) Tryd.underlying43 Tryd.info5 rfl (.inr ⟨nb6, sp4, cp4, rfl, rfl, (by first | exact (show (((numK 1 (UInt64.ofNat k) 1) ++ numK 8 s 8) ++ z).length = (n + 9) from (show (((numK 1 (UInt64.ofNat k) 1) ++ numK 8 s 8) ++ z).length = (n + 9) from (by rw [List.length_append, (show ((numK 1 (UInt64.ofNat k) 1) ++ numK 8 s 8).length = 9 from (by rw [List.length_append, (show (numK 1 (UInt64.ofNat k) 1).length = 1 from (numK_len _ _ _)), numK_len] <;> omega)), hz] <;> omega))) | simp [(show (((numK 1 (UInt64.ofNat k) 1) ++ numK 8 s 8) ++ z).length = (n + 9) from (show (((numK 1 (UInt64.ofNat k) 1) ++ numK 8 s 8) ++ z).length = (n + 9) from (by rw [List.length_append, (show ((numK 1 (UInt64.ofNat k) 1) ++ numK 8 s 8).length = 9 from (by rw [List.length_append, (show (numK 1 (UInt64.ofNat k) 1).length = 1 from (numK_len _ _ _)), numK_len] <;> omega)), hz] <;> omega)))]), hc10, (by omega), (by omega)⟩) rfl (by first | exact (show (mid (macL (macL key (numN 8 s 8)) ([((numK 1 (UInt64.ofNat k) 1) ++ numK 8 s 8) ++ z].flatten)) 0 16).length = 16 from mid_len (by rw [macL_len]; omega)) | simp [(show (mid (macL (macL key (numN 8 s 8)) ([((numK 1 (UInt64.ofNat k) 1) ++ numK 8 s 8) ++ z].flatten)) 0 16).length = 16 from mid_len (by rw [macL_len]; omega))]; try omega) (SrcAt.mem (MemAt.ent 6 rfl (Seg.left (Seg.whole _)))) (by omega) (by unfold maxLen; omega) (by omega)) rfl ?_
    rintro v1 L1 ⟨nb10, sp6, cp6, hg1, rfl, rfl, ha1, ha2, ha3, ha4⟩
    show JL _ _ _ _ ((53, Slc nb10 0 (n + 25) cp6) :: _) [⟨nb1, cu8 key, 54, (0, 0)⟩, ⟨nb2, [.nilIface, Slc nb5 0 (n + 9) cp3], 149, (0, 0)⟩, ⟨nb5, cu8 (((numK 1 (UInt64.ofNat k) 1) ++ numK 8 s 8) ++ z) ++ sp3, 5, (0, 0)⟩, ⟨nb7, cu8 (macL key (numN 8 s 8)), 54, (0, 0)⟩, ⟨nb8, [Slc nb6 0 (n + 9) cp4], 43, (0, 0)⟩, ⟨nb9, cu8 (mid (macL (macL key (numN 8 s 8)) ([((numK 1 (UInt64.ofNat k) 1) ++ numK 8 s 8) ++ z].flatten)) 0 16) ++ sp5, 5, (0, 0)⟩, ⟨nb10, cu8 ((((numK 1 (UInt64.ofNat k) 1) ++ numK 8 s 8) ++ z) ++ (mid (macL (macL key (numN 8 s 8)) ([((numK 1 (UInt64.ofNat k) 1) ++ numK 8 s 8) ++ z].flatten)) 0 16)) ++ sp6, 5, (0, 0)⟩]
    refine JL_val _ (Ev_assign rfl) rfl ?_
    refine JL_val _ (Ev_assign rfl) rfl ?_
    refine JL_nil ?_
    refine JQ_then ?_
    refine JC_ret ?_
    refine K_mask [false, false, false, false, false, false, true] ?_
    show JQ _ _ _ _ [⟨nb10, cu8 ((((numK 1 (UInt64.ofNat k) 1) ++ numK 8 s 8) ++ z) ++ (mid (macL (macL key (numN 8 s 8)) ([((numK 1 (UInt64.ofNat k) 1) ++ numK 8 s 8) ++ z].flatten)) 0 16)) ++ sp6, 5, (0, 0)⟩]
    refine JQ_ret (.tuple #[Slc nb10 0 (n + 25) cp6, .nilIface]) (res2 Tryd.results27 (RV_tmp rfl) (RV_tmp rfl)) fun w1 hw1 => ?_
    obtain rfl : tot = n + 25 := by omega
    have hq : (((numK 1 (UInt64.ofNat k) 1) ++ numK 8 s 8) ++ z) ++ (mid (macL (macL key (numN 8 s 8)) ([((numK 1 (UInt64.ofNat k) 1) ++ numK 8 s 8) ++ z].flatten)) 0 16) = frmT key k s z := by
      unfold frmT tagT headT
      simp [headT]
    rw [hq] at hw1
    exact ⟨_, _, rfl, ⟨nb10, sp6, cp6, rfl, rfl, ha2, ha3, ha4⟩, hw1.sub (by simp) (by simp)⟩
  ·
    have hp1 : ¬ (((k:Int)) ≠ (1:Int)) := of_decide_eq_false hb1
    refine JL_gskip 2 17 true _ rfl rfl hb1 rfl ?_
    refine JL_gskip 2 17 true _ rfl rfl hb1 rfl ?_
    refine JL_val _ (Ev_pickF _ rfl hb1 rfl) rfl ?_
    refine JL_val _ (Ev_assign rfl) rfl ?_
    refine JL_nil ?_
    refine JQ_then ?_
    refine JC_condF _ rfl rfl ?_
    refine JC_seq ?_
    refine JC_region ?_
    refine JL_val _ (Ev_move rfl) rfl ?_
    refine JL_val (I64 ((n:Int))) (Ev_len Tryd.underlying43 rfl) rfl ?_
    refine JL_step (Step_callP 30 [I64 ((n:Int))] (I64 ((n:Int) + 25)) (Cl_func [I64 ((n:Int))] Tryd.call30 rfl) (fun w1 hw1 => lbytes_c n w1 (by omega))) rfl ?_
    rintro v1 L1 ⟨rfl, rfl⟩
    show JL _ _ _ _ ((25, I64 ((n:Int) + 25)) :: _) [⟨nb1, cu8 key, 54, (0, 0)⟩]
    refine JL_val (.bool (decide ((262144:Int) < ((n:Int) + 25)))) (Ev_bini rfl rfl fun _ => bin_gtr_i _ _) rfl ?_
    refine JL_val _ (Ev_assign rfl) rfl ?_
    refine JL_nil ?_
    refine JQ_then ?_
    refine JC_condF _ rfl (decide_eq_false (by omega)) ?_
    refine JC_skip ?_
    refine JQ_in_normal ?_
    refine JQ_then ?_
    refine JC_seq ?_
    refine JC_region ?_
    refine JL_val (.agg (List.toArray (α := Value) ([.nilIface, .slice none 0 0]))) (Ev_build [] _ rfl (fun _ => by kernel_rfl)) rfl ?_
    refine JL_step (Step_box (.agg (List.toArray (α := Value) ([.nilIface, .slice none 0 0]))) ([.nilIface, .slice none 0 0]) rfl (by first | rfl | simp)) rfl ?_
    rintro v1 L1 ⟨nb11, hnb11, rfl, rfl⟩
    show JL _ _ _ _ ((29, Ptr nb11 0) :: _) [⟨nb1, cu8 key, 54, (0, 0)⟩, ⟨nb11, [.nilIface, .slice none 0 0], 149, (0, 0)⟩]
    refine JL_val _ (Ev_assign rfl) rfl ?_
    refine JL_nil ?_
    refine JQ_then ?_
    refine JC_seq ?_
    refine JC_region ?_
    refine JL_val _ (Ev_move rfl) rfl ?_
    refine JL_val _ (Ev_move rfl) rfl ?_
    refine JL_val (U64 (UInt64.ofNat k)) (Ev_conv _ _ rfl fun _ => conv_i64_u64 (by rw [Tryd.underlying3]; rfl) Tryd.underlying22 k _ (by omega)) rfl ?_
    refine JL_step (Step_call 81 _ [false, true] [nb11] _ (Cl_func [Ptr nb11 0, U64 (UInt64.ofNat k), I64 (1:Int)] Tryd.call81 rfl) rfl (fun w1 hw1 => numN_c nb11 1 .nilIface (UInt64.ofNat k) 1 w1 (hw1.ent _ (List.mem_of_getElem? (i := 1) rfl)) (by unfold Szd; omega) (fun _ => shr8w hw) (by omega))) rfl ?_
    rintro v1 L1 ⟨_, ⟨rfl, nb12, sp7, cp7, rfl, hc16, hc17, hc18⟩, rfl⟩
    show JL _ _ _ _ ((34, Ptr nb11 0) :: _) [⟨nb1, cu8 key, 54, (0, 0)⟩, ⟨nb11, [.nilIface, Slc nb12 0 1 cp7], 149, (0, 0)⟩, ⟨nb12, cu8 (numK 1 (UInt64.ofNat k) 1) ++ sp7, 5, (0, 0)⟩]
    refine JL_val _ (Ev_move rfl) rfl ?_
    refine JL_step (Step_call 81 _ [false, true, true] [nb11, nb12] _ (Cl_func [Ptr nb11 0, U64 s, I64 (8:Int)] Tryd.call81 rfl) rfl (fun w1 hw1 => numO_c nb11 nb12 1 cp7 9 .nilIface (numK 1 (UInt64.ofNat k) 1) sp7 s 8 w1 (hw1.ent _ (List.mem_of_getElem? (i := 1) rfl)) (hw1.ent _ (List.mem_of_getElem? (i := 2) rfl)) (hw1.ne (i := 1) (j := 2) rfl rfl (by decide)) (show (numK 1 (UInt64.ofNat k) 1).length = 1 from (numK_len _ _ _)) hc16 hc17 hc18 (by omega) (by unfold Szd; omega) (fun h => absurd h (by omega)) (by omega))) rfl ?_
    rintro v1 L1 ⟨_, ⟨rfl, nb13, sp8, cp8, rfl, hc19, hc20, hc21⟩, rfl⟩
    show JL _ _ _ _ ((36, Ptr nb11 0) :: _) [⟨nb1, cu8 key, 54, (0, 0)⟩, ⟨nb11, [.nilIface, Slc nb13 0 9 cp8], 149, (0, 0)⟩, ⟨nb13, cu8 ((numK 1 (UInt64.ofNat k) 1) ++ numK 8 s 8) ++ sp8, 5, (0, 0)⟩]
    refine JL_val _ (Ev_move rfl) rfl ?_
    refine JL_step (Step_call 82 _ [false, true, true] [nb11, nb13] _ (Cl_func [Ptr nb11 0, .slice az n cz] Tryd.call82 rfl) rfl (fun w1 hw1 => rawO_c nb11 nb13 9 cp8 (n + 9) .nilIface ((numK 1 (UInt64.ofNat k) 1) ++ numK 8 s 8) sp8 az n cz z w1 (hw1.ent _ (List.mem_of_getElem? (i := 1) rfl)) (hw1.ent _ (List.mem_of_getElem? (i := 2) rfl)) (hw1.ne (i := 1) (j := 2) rfl rfl (by decide)) (show ((numK 1 (UInt64.ofNat k) 1) ++ numK 8 s 8).length = 9 from (by rw [List.length_append, (show (numK 1 (UInt64.ofNat k) 1).length = 1 from (numK_len _ _ _)), numK_len] <;> omega)) hc19 hc20 hc21 (by omega) hz (by omega) (hr.at (M' := [nb11, nb13]) hw1 (hw1.apart [1, 2] _ rfl)) (by omega))) rfl ?_
    rintro v1 L1 ⟨_, ⟨rfl, nb14, sp9, cp9, rfl, hc22, hc23, hc24⟩, rfl⟩
    show JL _ _ _ _ ((38, Ptr nb11 0) :: _) [⟨nb1, cu8 key, 54, (0, 0)⟩, ⟨nb11, [.nilIface, Slc nb14 0 (n + 9) cp9], 149, (0, 0)⟩, ⟨nb14, cu8 (((numK 1 (UInt64.ofNat k) 1) ++ numK 8 s 8) ++ z) ++ sp9, 5, (0, 0)⟩]
    refine JL_step (Step_callN 83 [Ptr nb11 0] _ (Cl_func [Ptr nb11 0] Tryd.call83 rfl) (fun w1 hw1 => doneO_c nb11 0 nb14 (n + 9) cp9 (((numK 1 (UInt64.ofNat k) 1) ++ numK 8 s 8) ++ z) w1 (RdA.of hw1 (MemAt.ent 1 rfl (Seg.whole _)) (by simp)) rfl (show (((numK 1 (UInt64.ofNat k) 1) ++ numK 8 s 8) ++ z).length = (n + 9) from (by rw [List.length_append, (show ((numK 1 (UInt64.ofNat k) 1) ++ numK 8 s 8).length = 9 from (by rw [List.length_append, (show (numK 1 (UInt64.ofNat k) 1).length = 1 from (numK_len _ _ _)), numK_len] <;> omega)), hz] <;> omega)) (by omega) (RdB.of hw1 (MemAt.ent 2 rfl (Seg.left (Seg.whole _))) (by simp)))) rfl ?_
    rintro v1 L1 ⟨_, ⟨nb15, sp10, cp10, rfl, rfl, hc25, hc26, hc27⟩, rfl⟩
    show JL _ _ _ _ ((39, .tuple #[Slc nb15 0 (n + 9) cp10, .nilIface]) :: _) [⟨nb1, cu8 key, 54, (0, 0)⟩, ⟨nb11, [.nilIface, Slc nb14 0 (n + 9) cp9], 149, (0, 0)⟩, ⟨nb14, cu8 (((numK 1 (UInt64.ofNat k) 1) ++ numK 8 s 8) ++ z) ++ sp9, 5, (0, 0)⟩, ⟨nb15, cu8 (((numK 1 (UInt64.ofNat k) 1) ++ numK 8 s 8) ++ z) ++ sp10, 5, (0, 0)⟩]
    refine JL_val _ (Ev_move rfl) rfl ?_
    refine JL_val _ (Ev_extract rfl rfl) rfl ?_
    refine JL_val _ (Ev_extract rfl rfl) rfl ?_
    refine JL_val _ (Ev_assign rfl) rfl ?_
    refine JL_val _ (Ev_assign rfl) rfl ?_
    refine JL_nil ?_
    refine JQ_then ?_
    refine JC_seq ?_
    refine JC_seq ?_
    refine JC_region ?_
    refine JL_val _ (Ev_move rfl) rfl ?_
    refine JL_val (.bool false) (Ev_bin _ _ _ rfl rfl (fun _ => eqGuard_nn ..) fun _ => neq_if_nil_nil Tryd.underlying45) rfl ?_
    refine JL_nil ?_
    refine JQ_then ?_
    refine JC_condF _ rfl rfl ?_
    refine JC_skip ?_
    refine JQ_then ?_
    refine JC_seq ?_
    refine JC_region ?_
    refine JL_val (.agg (cu8 key).toArray) (Ev_load rfl (Ld_agg Tryd.isAgg54 Tryd.sizeOf54 (len_cu8 hk) (MemAt.ent 0 rfl (Seg.whole _)))) rfl ?_
    refine JL_val _ (Ev_move rfl) rfl ?_
    refine JL_step (Step_callP 89 [.agg (cu8 key).toArray, U64 s] (.agg (cu8 (macL key (numN 8 s 8))).toArray) (Cl_func [.agg (cu8 key).toArray, U64 s] Tryd.call89 rfl) (fun w1 hw1 => session_c key s w1 hk (hG.at hw1))) rfl ?_
    rintro v1 L1 ⟨rfl, rfl⟩
    show JL _ _ _ _ ((47, .agg (cu8 (macL key (numN 8 s 8))).toArray) :: _) [⟨nb1, cu8 key, 54, (0, 0)⟩, ⟨nb11, [.nilIface, Slc nb14 0 (n + 9) cp9], 149, (0, 0)⟩, ⟨nb14, cu8 (((numK 1 (UInt64.ofNat k) 1) ++ numK 8 s 8) ++ z) ++ sp9, 5, (0, 0)⟩, ⟨nb15, cu8 (((numK 1 (UInt64.ofNat k) 1) ++ numK 8 s 8) ++ z) ++ sp10, 5, (0, 0)⟩]
    refine JL_step (Step_alloc _ (cu8 (zr8 32)) Tryd.zeroValue54 (by kernel_rfl)) rfl ?_
    rintro v1 L1 ⟨nb16, hnb16, rfl, rfl⟩
    show JL _ _ _ _ ((13, Ptr nb16 0) :: _) [⟨nb1, cu8 key, 54, (0, 0)⟩, ⟨nb11, [.nilIface, Slc nb14 0 (n + 9) cp9], 149, (0, 0)⟩, ⟨nb14, cu8 (((numK 1 (UInt64.ofNat k) 1) ++ numK 8 s 8) ++ z) ++ sp9, 5, (0, 0)⟩, ⟨nb15, cu8 (((numK 1 (UInt64.ofNat k) 1) ++ numK 8 s 8) ++ z) ++ sp10, 5, (0, 0)⟩, ⟨nb16, cu8 (zr8 32), 54, (0, 0)⟩]
    refine JL_step (Step_store 4 nb16 0 32 (cu8 (zr8 32)) 54 (.agg (cu8 (macL key (numN 8 s 8))).toArray) (cu8 (macL key (numN 8 s 8))) (cu8 (macL key (numN 8 s 8))) rfl rfl rfl (by first | rfl | simp) Tryd.sizeOf54 (len_cu8 (macL_len _ _)) (by first | exact one_u8 | exact one_u32 | exact one_u64 | (simp [cu8, cu32, cu64, Value.oneCell']; done)) (by simp [(zr8_len 32)]) (lay_whole (by simp [(zr8_len 32), (macL_len _ _)]))) rfl ?_
    rintro v1 L1 ⟨rfl, rfl⟩
    show JL _ _ _ _ _ [⟨nb1, cu8 key, 54, (0, 0)⟩, ⟨nb11, [.nilIface, Slc nb14 0 (n + 9) cp9], 149, (0, 0)⟩, ⟨nb14, cu8 (((numK 1 (UInt64.ofNat k) 1) ++ numK 8 s 8) ++ z) ++ sp9, 5, (0, 0)⟩, ⟨nb15, cu8 (((numK 1 (UInt64.ofNat k) 1) ++ numK 8 s 8) ++ z) ++ sp10, 5, (0, 0)⟩, ⟨nb16, cu8 (macL key (numN 8 s 8)), 54, (0, 0)⟩]
    refine JL_nil ?_
    refine JQ_then ?_
    refine JC_seq ?_
    refine JC_region ?_
    refine JL_val _ (Ev_move rfl) rfl ?_
    refine JL_val (Slc nb16 0 32 32) (Ev_sliceA 32 5 1 0 32 0 32 Tryd.underlying54 Tryd.sizeOf5 rfl rfl rfl (by omega) (by omega) (by omega) (by omega) (by omega) 32 (by omega)) rfl ?_
    refine JL_val _ (Ev_move rfl) rfl ?_
    refine JL_step (Step_buildSlice 43 1 _ [(0, Slc nb15 0 (n + 9) cp10)] ([Slc nb15 0 (n + 9) cp10]) Tryd.underlying230 Tryd.sizeOf43 Tryd.zeroValue43 rfl rfl rfl (by kernel_rfl)) rfl ?_
    rintro v1 L1 ⟨nb17, hnb17, rfl, rfl⟩
    show JL _ _ _ _ ((51, Slc nb17 0 1 1) :: _) [⟨nb1, cu8 key, 54, (0, 0)⟩, ⟨nb11, [.nilIface, Slc nb14 0 (n + 9) cp9], 149, (0, 0)⟩, ⟨nb14, cu8 (((numK 1 (UInt64.ofNat k) 1) ++ numK 8 s 8) ++ z) ++ sp9, 5, (0, 0)⟩, ⟨nb15, cu8 (((numK 1 (UInt64.ofNat k) 1) ++ numK 8 s 8) ++ z) ++ sp10, 5, (0, 0)⟩, ⟨nb16, cu8 (macL key (numN 8 s 8)), 54, (0, 0)⟩, ⟨nb17, [Slc nb15 0 (n + 9) cp10], 43, (0, 0)⟩]
    refine JL_step (Step_callN 90 [Slc nb16 0 32 32, Slc nb17 0 1 1] _ (Cl_func [Slc nb16 0 32 32, Slc nb17 0 1 1] Tryd.call90 rfl) (fun w1 hw1 => short_c (some ⟨nb16, 0, none⟩) 32 32 (macL key (numN 8 s 8)) nb17 1 [Slc nb15 0 (n + 9) cp10] [((numK 1 (UInt64.ofNat k) 1) ++ numK 8 s 8) ++ z] w1 (macL_len _ _) (fun h => by cases h) (by omega) (RdB.of hw1 (MemAt.ent 4 rfl (Seg.whole _)) (by simp)) (by simp) (by simp) (by simp) ⟨RdA.of hw1 (MemAt.ent 5 rfl (Seg.head)) (by simp), ⟨⟨(some ⟨nb15, 0, none⟩), cp10, congrArg (fun n => Value.slice (some ⟨nb15, 0, none⟩) n cp10) ((show (((numK 1 (UInt64.ofNat k) 1) ++ numK 8 s 8) ++ z).length = (n + 9) from (show (((numK 1 (UInt64.ofNat k) 1) ++ numK 8 s 8) ++ z).length = (n + 9) from (by rw [List.length_append, (show ((numK 1 (UInt64.ofNat k) 1) ++ numK 8 s 8).length = 9 from (by rw [List.length_append, (show (numK 1 (UInt64.ofNat k) 1).length = 1 from (numK_len _ _ _)), numK_len] <;> omega)), hz] <;> omega)))).symm, (RdB.of hw1 (MemAt.ent 3 rfl (Seg.left (Seg.whole _))) (by simp))⟩, trivial⟩⟩ (by simp only [List.flatten_cons, List.flatten_nil, List.length_append, List.length_nil, (show (((numK 1 (UInt64.ofNat k) 1) ++ numK 8 s 8) ++ z).length = (n + 9) from (show (((numK 1 (UInt64.ofNat k) 1) ++ numK 8 s 8) ++ z).length = (n + 9) from (by rw [List.length_append, (show ((numK 1 (UInt64.ofNat k) 1) ++ numK 8 s 8).length = 9 from (by rw [List.length_append, (show (numK 1 (UInt64.ofNat k) 1).length = 1 from (numK_len _ _ _)), numK_len] <;> omega)), hz] <;> omega)))]; omega) (hG.at hw1))) rfl ?_
    rintro v1 L1 ⟨_, ⟨nb18, sp11, cp11, rfl, rfl, hc28, hc29, hc30⟩, rfl⟩
    show JL _ _ _ _ ((52, Slc nb18 0 16 cp11) :: _) [⟨nb1, cu8 key, 54, (0, 0)⟩, ⟨nb11, [.nilIface, Slc nb14 0 (n + 9) cp9], 149, (0, 0)⟩, ⟨nb14, cu8 (((numK 1 (UInt64.ofNat k) 1) ++ numK 8 s 8) ++ z) ++ sp9, 5, (0, 0)⟩, ⟨nb15, cu8 (((numK 1 (UInt64.ofNat k) 1) ++ numK 8 s 8) ++ z) ++ sp10, 5, (0, 0)⟩, ⟨nb16, cu8 (macL key (numN 8 s 8)), 54, (0, 0)⟩, ⟨nb17, [Slc nb15 0 (n + 9) cp10], 43, (0, 0)⟩, ⟨nb18, cu8 (mid (macL (macL key (numN 8 s 8)) ([((numK 1 (UInt64.ofNat k) 1) ++ numK 8 s 8) ++ z].flatten)) 0 16) ++ sp11, 5, (0, 0)⟩]
    refine JL_step (Step_appM8 43 5 [false, false, false, true, false, false, false] (Slc nb15 0 (n + 9) cp10) (n + 9) (((numK 1 (UInt64.ofNat k) 1) ++ numK 8 s 8) ++ z) (mid (macL (macL key (numN 8 s 8)) ([((numK 1 (UInt64.ofNat k) 1) ++ numK 8 s 8) ++ z].flatten)) 0 16) (some ⟨nb18, 0, none⟩) 16 cp11 (n + 25) Tryd.underlying43 Tryd.info5 rfl (.inr ⟨nb15, sp10, cp10, rfl, rfl, (by first | exact (show (((numK 1 (UInt64.ofNat k) 1) ++ numK 8 s 8) ++ z).length = (n + 9) from (show (((numK 1 (UInt64.ofNat k) 1) ++ numK 8 s 8) ++ z).length = (n + 9) from (by rw [List.length_append, (show ((numK 1 (UInt64.ofNat k) 1) ++ numK 8 s 8).length = 9 from (by rw [List.length_append, (show (numK 1 (UInt64.ofNat k) 1).length = 1 from (numK_len _ _ _)), numK_len] <;> omega)), hz] <;> omega))) | simp [(show (((numK 1 (UInt64.ofNat k) 1) ++ numK 8 s 8) ++ z).length = (n + 9) from (show (((numK 1 (UInt64.ofNat k) 1) ++ numK 8 s 8) ++ z).length = (n + 9) from (by rw [List.length_append, (show ((numK 1 (UInt64.ofNat k) 1) ++ numK 8 s 8).length = 9 from (by rw [List.length_append, (show (numK 1 (UInt64.ofNat k) 1).length = 1 from (numK_len _ _ _)), numK_len] <;> omega)), hz] <;> omega)))]), hc25, (by omega), (by omega)⟩) rfl (by first | exact (show (mid (macL (macL key (numN 8 s 8)) ([((numK 1 (UInt64.ofNat k) 1) ++ numK 8 s 8) ++ z].flatten)) 0 16).length = 16 from mid_len (by rw [macL_len]; omega)) | simp [(show (mid (macL (macL key (numN 8 s 8)) ([((numK 1 (UInt64.ofNat k) 1) ++ numK 8 s 8) ++ z].flatten)) 0 16).length = 16 from mid_len (by rw [macL_len]; omega))]; try omega) (SrcAt.mem (MemAt.ent 6 rfl (Seg.left (Seg.whole _)))) (by omega) (by unfold maxLen; omega) (by omega)) rfl ?_
    rintro v1 L1 ⟨nb19, sp12, cp12, hg2, rfl, rfl, ha5, ha6, ha7, ha8⟩
    show JL _ _ _ _ ((53, Slc nb19 0 (n + 25) cp12) :: _) [⟨nb1, cu8 key, 54, (0, 0)⟩, ⟨nb11, [.nilIface, Slc nb14 0 (n + 9) cp9], 149, (0, 0)⟩, ⟨nb14, cu8 (((numK 1 (UInt64.ofNat k) 1) ++ numK 8 s 8) ++ z) ++ sp9, 5, (0, 0)⟩, ⟨nb16, cu8 (macL key (numN 8 s 8)), 54, (0, 0)⟩, ⟨nb17, [Slc nb15 0 (n + 9) cp10], 43, (0, 0)⟩, ⟨nb18, cu8 (mid (macL (macL key (numN 8 s 8)) ([((numK 1 (UInt64.ofNat k) 1) ++ numK 8 s 8) ++ z].flatten)) 0 16) ++ sp11, 5, (0, 0)⟩, ⟨nb19, cu8 ((((numK 1 (UInt64.ofNat k) 1) ++ numK 8 s 8) ++ z) ++ (mid (macL (macL key (numN 8 s 8)) ([((numK 1 (UInt64.ofNat k) 1) ++ numK 8 s 8) ++ z].flatten)) 0 16)) ++ sp12, 5, (0, 0)⟩]
    refine JL_val _ (Ev_assign rfl) rfl ?_
    refine JL_val _ (Ev_assign rfl) rfl ?_
    refine JL_nil ?_
    refine JQ_then ?_
    refine JC_ret ?_
    refine K_mask [false, false, false, false, false, false, true] ?_
    show JQ _ _ _ _ [⟨nb19, cu8 ((((numK 1 (UInt64.ofNat k) 1) ++ numK 8 s 8) ++ z) ++ (mid (macL (macL key (numN 8 s 8)) ([((numK 1 (UInt64.ofNat k) 1) ++ numK 8 s 8) ++ z].flatten)) 0 16)) ++ sp12, 5, (0, 0)⟩]
    refine JQ_ret (.tuple #[Slc nb19 0 (n + 25) cp12, .nilIface]) (res2 Tryd.results27 (RV_tmp rfl) (RV_tmp rfl)) fun w1 hw1 => ?_
    obtain rfl : tot = n + 25 := by omega
    have hq : (((numK 1 (UInt64.ofNat k) 1) ++ numK 8 s 8) ++ z) ++ (mid (macL (macL key (numN 8 s 8)) ([((numK 1 (UInt64.ofNat k) 1) ++ numK 8 s 8) ++ z].flatten)) 0 16) = frmT key k s z := by
      unfold frmT tagT headT
      simp [headT]
    rw [hq] at hw1
    exact ⟨_, _, rfl, ⟨nb19, sp12, cp12, rfl, rfl, ha6, ha7, ha8⟩, hw1.sub (by simp) (by simp)⟩

theorem lsealW_c (key : List UInt8) (way : Int) (s : UInt64) (az : Option Addr) (n cz : Nat) (z : List UInt8)  (w : World) (hk : key.length = 32) (hz : z.length = n) (hcb : az = none → cz = 0) (hnc : n ≤ cz) (hcm : cz ≤ maxLen) (hr : RdB w [] az z) (hw : ¬ (way = 1 ∨ way = 2)) : Calls Tryd.prog 27 #[.agg (cu8 key).toArray, I64 (way), U64 s, .slice az n cz] w (Post w [] (fun v L => v = .tuple #[.slice none 0 0, .iface 50 (I64 2)] ∧ L = [])) := by
  refine enter w [] 54 [] [.agg (cu8 key).toArray, I64 (way), U64 s, .slice az n cz] Tryd.func27 rfl rfl (by simp) (Hp.start (by simp) (by simp) (by simp)) ?_
  show JC _ _ _ [(0, .agg (cu8 key).toArray), (1, I64 (way)), (2, U64 s), (3, .slice az n cz)] _
  refine JC_seq ?_
  refine JC_region ?_
  refine JL_step (Step_box (.agg (cu8 key).toArray) (cu8 key) rfl (by first | rfl | simp)) rfl ?_
  rintro v1 L1 ⟨nb1, hnb1, rfl, rfl⟩
  show JL _ _ _ _ ((4, Ptr nb1 0) :: _) [⟨nb1, cu8 key, 54, (0, 0)⟩]
  refine JL_val _ (Ev_assign rfl) rfl ?_
  refine JL_val _ (Ev_assign rfl) rfl ?_
  refine JL_nil ?_
  refine JQ_then ?_
  refine JC_seq ?_
  refine JC_block ?_
  refine JC_seq ?_
  refine JC_region ?_
  refine JL_val _ (Ev_move rfl) rfl ?_
  refine JL_val (.bool (decide ((way) ≠ (1:Int)))) (Ev_bini rfl rfl fun _ => bin_neq_i _ _) rfl ?_
  refine JL_val _ (Ev_move rfl) rfl ?_
  refine JL_gval 2 17 true _ _ rfl rfl (decide_eq_true (by omega)) (Ev_move rfl) rfl ?_
  refine JL_gval 2 17 true _ (.bool (decide ((way) ≠ (2:Int)))) rfl rfl (decide_eq_true (by omega)) (Ev_bini rfl rfl fun _ => bin_neq_i _ _) rfl ?_
  refine JL_val _ (Ev_pickT _ rfl (decide_eq_true (by omega)) rfl) rfl ?_
  refine JL_val _ (Ev_assign rfl) rfl ?_
  refine JL_nil ?_
  refine JQ_then ?_
  refine JC_condT _ rfl (decide_eq_true (by omega)) ?_
  refine JC_seq ?_
  refine JC_region ?_
  refine JL_val (.iface 50 (I64 (2:Int))) (Ev_iface Tryd.underlying50 rfl rfl) rfl ?_
  refine JL_val _ (Ev_assign rfl) rfl ?_
  refine JL_val _ (Ev_assign rfl) rfl ?_
  refine JL_nil ?_
  refine JQ_then ?_
  refine JC_ret ?_
  refine JQ_in_ret ?_
  refine JQ_then_ret ?_
  refine K_mask [false] ?_
  show JQ _ _ _ _ []
  refine JQ_ret (.tuple #[.slice none 0 0, .iface 50 (I64 (2:Int))]) (res2 Tryd.results27 (RV_tmp rfl) (RV_tmp rfl)) fun w1 hw1 => ?_
  exact ⟨_, [], rfl, ⟨rfl, rfl⟩, hw1.sub (by simp) (by simp)⟩

theorem lsealB_c (key : List UInt8) (k : Nat) (s : UInt64) (az : Option Addr) (n cz : Nat) (z : List UInt8)  (w : World) (hk : key.length = 32) (hz : z.length = n) (hcb : az = none → cz = 0) (hnc : n ≤ cz) (hcm : cz ≤ maxLen) (hr : RdB w [] az z) (hw : k = 1 ∨ k = 2) (hn : 262144 < n + 25) (hn2 : n ≤ 1000000) : Calls Tryd.prog 27 #[.agg (cu8 key).toArray, I64 ((k:Int)), U64 s, .slice az n cz] w (Post w [] (fun v L => v = .tuple #[.slice none 0 0, .iface 50 (I64 3)] ∧ L = [])) := by
  have hmx : maxLen = 9223372036854775807 := rfl
  refine enter w [] 54 [] [.agg (cu8 key).toArray, I64 ((k:Int)), U64 s, .slice az n cz] Tryd.func27 rfl rfl (by simp) (Hp.start (by simp) (by simp) (by simp)) ?_
  show JC _ _ _ [(0, .agg (cu8 key).toArray), (1, I64 ((k:Int))), (2, U64 s), (3, .slice az n cz)] _
  refine JC_seq ?_
  refine JC_region ?_
  refine JL_step (Step_box (.agg (cu8 key).toArray) (cu8 key) rfl (by first | rfl | simp)) rfl ?_
  rintro v1 L1 ⟨nb1, hnb1, rfl, rfl⟩
  show JL _ _ _ _ ((4, Ptr nb1 0) :: _) [⟨nb1, cu8 key, 54, (0, 0)⟩]
  refine JL_val _ (Ev_assign rfl) rfl ?_
  refine JL_val _ (Ev_assign rfl) rfl ?_
  refine JL_nil ?_
  refine JQ_then ?_
  refine JC_seq ?_
  refine JC_block ?_
  refine JC_seq ?_
  refine JC_region ?_
  refine JL_val _ (Ev_move rfl) rfl ?_
  refine JL_val (.bool (decide (((k:Int)) ≠ (1:Int)))) (Ev_bini rfl rfl fun _ => bin_neq_i _ _) rfl ?_
  refine JL_val _ (Ev_move rfl) rfl ?_
  rcases Bool.eq_false_or_eq_true (decide (((k:Int)) ≠ (1:Int))) with hb1 | hb1
  ·
    have hp1 : ((k:Int)) ≠ (1:Int) := of_decide_eq_true hb1
    refine JL_gval 2 17 true _ _ rfl rfl hb1 (Ev_move rfl) rfl ?_
    refine JL_gval 2 17 true _ (.bool (decide (((k:Int)) ≠ (2:Int)))) rfl rfl hb1 (Ev_bini rfl rfl fun _ => bin_neq_i _ _) rfl ?_
    refine JL_val _ (Ev_pickT _ rfl hb1 rfl) rfl ?_
    refine JL_val _ (Ev_assign rfl) rfl ?_
    refine JL_nil ?_
    refine JQ_then ?_
    refine JC_condF _ rfl (decide_eq_false (by omega)) ?_
    refine JC_seq ?_
    refine JC_region ?_
    refine JL_val _ (Ev_move rfl) rfl ?_
    refine JL_val (I64 ((n:Int))) (Ev_len Tryd.underlying43 rfl) rfl ?_
    refine JL_step (Step_callP 30 [I64 ((n:Int))] (I64 ((n:Int) + 25)) (Cl_func [I64 ((n:Int))] Tryd.call30 rfl) (fun w1 hw1 => lbytes_c n w1 (by omega))) rfl ?_
    rintro v1 L1 ⟨rfl, rfl⟩
    show JL _ _ _ _ ((25, I64 ((n:Int) + 25)) :: _) [⟨nb1, cu8 key, 54, (0, 0)⟩]
    refine JL_val (.bool (decide ((262144:Int) < ((n:Int) + 25)))) (Ev_bini rfl rfl fun _ => bin_gtr_i _ _) rfl ?_
    refine JL_val _ (Ev_assign rfl) rfl ?_
    refine JL_nil ?_
    refine JQ_then ?_
    refine JC_condT _ rfl (decide_eq_true (by omega)) ?_
    refine JC_seq ?_
    refine JC_region ?_
    refine JL_val (.iface 50 (I64 (3:Int))) (Ev_iface Tryd.underlying50 rfl rfl) rfl ?_
    refine JL_val _ (Ev_assign rfl) rfl ?_
    refine JL_val _ (Ev_assign rfl) rfl ?_
    refine JL_nil ?_
    refine JQ_then ?_
    refine JC_ret ?_
    refine JQ_in_ret ?_
    refine JQ_then_ret ?_
    refine K_mask [false] ?_
    show JQ _ _ _ _ []
    refine JQ_ret (.tuple #[.slice none 0 0, .iface 50 (I64 (3:Int))]) (res2 Tryd.results27 (RV_tmp rfl) (RV_tmp rfl)) fun w1 hw1 => ?_
    exact ⟨_, [], rfl, ⟨rfl, rfl⟩, hw1.sub (by simp) (by simp)⟩
  ·
    have hp1 : ¬ (((k:Int)) ≠ (1:Int)) := of_decide_eq_false hb1
    refine JL_gskip 2 17 true _ rfl rfl hb1 rfl ?_
    refine JL_gskip 2 17 true _ rfl rfl hb1 rfl ?_
    refine JL_val _ (Ev_pickF _ rfl hb1 rfl) rfl ?_
    refine JL_val _ (Ev_assign rfl) rfl ?_
    refine JL_nil ?_
    refine JQ_then ?_
    refine JC_condF _ rfl rfl ?_
    refine JC_seq ?_
    refine JC_region ?_
    refine JL_val _ (Ev_move rfl) rfl ?_
    refine JL_val (I64 ((n:Int))) (Ev_len Tryd.underlying43 rfl) rfl ?_
    refine JL_step (Step_callP 30 [I64 ((n:Int))] (I64 ((n:Int) + 25)) (Cl_func [I64 ((n:Int))] Tryd.call30 rfl) (fun w1 hw1 => lbytes_c n w1 (by omega))) rfl ?_
    rintro v1 L1 ⟨rfl, rfl⟩
    show JL _ _ _ _ ((25, I64 ((n:Int) + 25)) :: _) [⟨nb1, cu8 key, 54, (0, 0)⟩]
    refine JL_val (.bool (decide ((262144:Int) < ((n:Int) + 25)))) (Ev_bini rfl rfl fun _ => bin_gtr_i _ _) rfl ?_
    refine JL_val _ (Ev_assign rfl) rfl ?_
    refine JL_nil ?_
    refine JQ_then ?_
    refine JC_condT _ rfl (decide_eq_true (by omega)) ?_
    refine JC_seq ?_
    refine JC_region ?_
    refine JL_val (.iface 50 (I64 (3:Int))) (Ev_iface Tryd.underlying50 rfl rfl) rfl ?_
    refine JL_val _ (Ev_assign rfl) rfl ?_
    refine JL_val _ (Ev_assign rfl) rfl ?_
    refine JL_nil ?_
    refine JQ_then ?_
    refine JC_ret ?_
    refine JQ_in_ret ?_
    refine JQ_then_ret ?_
    refine K_mask [false] ?_
    show JQ _ _ _ _ []
    refine JQ_ret (.tuple #[.slice none 0 0, .iface 50 (I64 (3:Int))]) (res2 Tryd.results27 (RV_tmp rfl) (RV_tmp rfl)) fun w1 hw1 => ?_
    exact ⟨_, [], rfl, ⟨rfl, rfl⟩, hw1.sub (by simp) (by simp)⟩

theorem rseal_c (key : List UInt8) (k : Nat) (s : UInt64) (az : Option Addr) (n cz : Nat) (z : List UInt8) (tot : Nat)  (w : World) (hk : key.length = 32) (hz : z.length = n) (hcb : az = none → cz = 0) (hnc : n ≤ cz) (hcm : cz ≤ maxLen) (hr : RdB w [] az z) (hw : k = 1 ∨ k = 2) (hn : n + 25 ≤ 262144) (ht : n + 25 = tot) (hGr : GLr w) (hGi : GLi w) : Calls Tryd.prog 28 #[.agg (cu8 key).toArray, I64 ((k:Int)), U64 s, .slice az n cz] w (Post w [] (fun v L => ∃ g sp cap, v = .tuple #[Slc g 0 tot cap, I64 0] ∧ L = [⟨g, cu8 (frmT key k s z) ++ sp, 5, (0, 0)⟩] ∧ sp.length = cap - tot ∧ tot ≤ cap ∧ cap ≤ maxLen)) := by
  have hmx : maxLen = 9223372036854775807 := rfl
  refine enter w [] 41 [] [.agg (cu8 key).toArray, I64 ((k:Int)), U64 s, .slice az n cz] Tryd.func28 rfl rfl (by simp) (Hp.start (by simp) (by simp) (by simp)) ?_
  show JC _ _ _ [(0, .agg (cu8 key).toArray), (1, I64 ((k:Int))), (2, U64 s), (3, .slice az n cz)] _
  refine JC_seq ?_
  refine JC_region ?_
  refine JL_step (Step_box (.agg (cu8 key).toArray) (cu8 key) rfl (by first | rfl | simp)) rfl ?_
  rintro v1 L1 ⟨nb1, hnb1, rfl, rfl⟩
  show JL _ _ _ _ ((4, Ptr nb1 0) :: _) [⟨nb1, cu8 key, 54, (0, 0)⟩]
  refine JL_val _ (Ev_assign rfl) rfl ?_
  refine JL_val _ (Ev_assign rfl) rfl ?_
  refine JL_nil ?_
  refine JQ_then ?_
  refine JC_seq ?_
  refine JC_seq ?_
  refine JC_region ?_
  refine JL_val _ (Ev_move rfl) rfl ?_
  refine JL_val (.bool (decide (((k:Int)) ≠ (1:Int)))) (Ev_bini rfl rfl fun _ => bin_neq_i _ _) rfl ?_
  refine JL_val _ (Ev_move rfl) rfl ?_
  rcases Bool.eq_false_or_eq_true (decide (((k:Int)) ≠ (1:Int))) with hb1 | hb1
  ·
    have hp1 : ((k:Int)) ≠ (1:Int) := of_decide_eq_true hb1
    refine JL_gval 2 15 true _ _ rfl rfl hb1 (Ev_move rfl) rfl ?_
    refine JL_gval 2 15 true _ (.bool (decide (((k:Int)) ≠ (2:Int)))) rfl rfl hb1 (Ev_bini rfl rfl fun _ => bin_neq_i _ _) rfl ?_
    refine JL_val _ (Ev_pickT _ rfl hb1 rfl) rfl ?_
    refine JL_nil ?_
    refine JQ_then ?_
    refine JC_condF _ rfl (decide_eq_false (by omega)) ?_
    refine JC_skip ?_
    refine JQ_then ?_
    refine JC_seq ?_
    refine JC_seq ?_
    refine JC_region ?_
    refine JL_val _ (Ev_move rfl) rfl ?_
    refine JL_val (I64 ((n:Int))) (Ev_len Tryd.underlying43 rfl) rfl ?_
    refine JL_val (I64 ((n:Int) + 25)) (Ev_bini rfl rfl fun _ => bin_add_i _ _ ((n:Int) + 25) (by omega) (by omega)) rfl ?_
    refine JL_val (.bool (decide ((262144:Int) < ((n:Int) + 25)))) (Ev_bini rfl rfl fun _ => bin_gtr_i _ _) rfl ?_
    refine JL_nil ?_
    refine JQ_then ?_
    refine JC_condF _ rfl (decide_eq_false (by omega)) ?_
    refine JC_skip ?_
    refine JQ_then ?_
    refine JC_seq ?_
    refine JC_region ?_
    refine JL_val _ (Ev_move rfl) rfl ?_
    refine JL_val (U8 (UInt8.ofNat k)) (Ev_conv _ _ rfl fun _ => conv_i64_u8 (by rw [Tryd.underlying3]; rfl) Tryd.underlying5 k _ (by omega)) rfl ?_
    refine JL_step (Step_buildSlice 5 1 _ [(0, U8 (UInt8.ofNat k))] (cu8 ([UInt8.ofNat k])) Tryd.underlying43 Tryd.sizeOf5 Tryd.zeroValue5 rfl rfl rfl (by kernel_rfl)) rfl ?_
    rintro v1 L1 ⟨nb2, hnb2, rfl, rfl⟩
    show JL _ _ _ _ ((25, Slc nb2 0 1 1) :: _) [⟨nb1, cu8 key, 54, (0, 0)⟩, ⟨nb2, cu8 ([UInt8.ofNat k]), 5, (0, 0)⟩]
    refine JL_val _ (Ev_move rfl) rfl ?_
    refine JL_step (Step_callN 88 [U64 s, I64 (8:Int)] _ (Cl_func [U64 s, I64 (8:Int)] Tryd.call88 rfl) (fun w1 hw1 => rnum_c s w1)) rfl ?_
    rintro v1 L1 ⟨_, ⟨nb3, rfl, rfl⟩, rfl⟩
    show JL _ _ _ _ ((27, Slc nb3 0 8 8) :: _) [⟨nb1, cu8 key, 54, (0, 0)⟩, ⟨nb2, cu8 ([UInt8.ofNat k]), 5, (0, 0)⟩, ⟨nb3, cu8 (numN 8 s 8), 5, (0, 0)⟩]
    refine JL_step (Step_appM8 43 5 [false, true, false] (Slc nb2 0 1 1) 1 ([UInt8.ofNat k]) (numN 8 s 8) (some ⟨nb3, 0, none⟩) 8 8 9 Tryd.underlying43 Tryd.info5 rfl (.inr ⟨nb2, [], 1, rfl, (by simp [take?, cu8, cu32, cu64]), rfl, (by simp), (by omega), (by unfold maxLen; omega)⟩) rfl (by first | exact (numN_len _ _ _) | simp [(numN_len _ _ _)]; try omega) (SrcAt.mem (MemAt.ent 2 rfl (Seg.whole _))) (by omega) (by unfold maxLen; omega) (by omega)) rfl ?_
    rintro v1 L1 ⟨nb4, sp1, cp1, hg1, rfl, rfl, ha1, ha2, ha3, ha4⟩
    show JL _ _ _ _ ((28, Slc nb4 0 9 cp1) :: _) [⟨nb1, cu8 key, 54, (0, 0)⟩, ⟨nb3, cu8 (numN 8 s 8), 5, (0, 0)⟩, ⟨nb4, cu8 (([UInt8.ofNat k]) ++ (numN 8 s 8)) ++ sp1, 5, (0, 0)⟩]
    refine JL_val _ (Ev_assign rfl) rfl ?_
    refine JL_nil ?_
    refine JQ_then ?_
    refine JC_seq ?_
    refine JC_region ?_
    refine JL_val _ (Ev_move rfl) rfl ?_
    refine JL_val _ (Ev_move rfl) rfl ?_
    refine JL_step (Step_appM8 43 5 [false, false, true] (Slc nb4 0 9 cp1) 9 (([UInt8.ofNat k]) ++ (numN 8 s 8)) z az n cz (n + 9) Tryd.underlying43 Tryd.info5 rfl (.inr ⟨nb4, sp1, cp1, rfl, rfl, (by first | exact ha1 | simp [ha1]), ha2, (by omega), (by omega)⟩) rfl (by first | exact hz | simp [hz]; try omega) (hr.src) (by omega) (by unfold maxLen; omega) (by omega)) rfl ?_
    rintro v1 L1 ⟨nb5, sp2, cp2, hg2, rfl, rfl, ha5, ha6, ha7, ha8⟩
    show JL _ _ _ _ ((31, Slc nb5 0 (n + 9) cp2) :: _) [⟨nb1, cu8 key, 54, (0, 0)⟩, ⟨nb3, cu8 (numN 8 s 8), 5, (0, 0)⟩, ⟨nb5, cu8 ((([UInt8.ofNat k]) ++ (numN 8 s 8)) ++ z) ++ sp2, 5, (0, 0)⟩]
    refine JL_val _ (Ev_assign rfl) rfl ?_
    refine JL_nil ?_
    refine JQ_then ?_
    refine JC_seq ?_
    refine JC_region ?_
    refine JL_val (.agg (cu8 key).toArray) (Ev_load rfl (Ld_agg Tryd.isAgg54 Tryd.sizeOf54 (len_cu8 hk) (MemAt.ent 0 rfl (Seg.whole _)))) rfl ?_
    refine JL_val _ (Ev_move rfl) rfl ?_
    refine JL_step (Step_callP 91 [.agg (cu8 key).toArray, U64 s] (.agg (cu8 (macL key (numN 8 s 8))).toArray) (Cl_func [.agg (cu8 key).toArray, U64 s] Tryd.call91 rfl) (fun w1 hw1 => rsession_c key s w1 hk (GLr.at hw1 hGr) (GLi.at hw1 hGi))) rfl ?_
    rintro v1 L1 ⟨rfl, rfl⟩
    show JL _ _ _ _ ((34, .agg (cu8 (macL key (numN 8 s 8))).toArray) :: _) [⟨nb1, cu8 key, 54, (0, 0)⟩, ⟨nb3, cu8 (numN 8 s 8), 5, (0, 0)⟩, ⟨nb5, cu8 ((([UInt8.ofNat k]) ++ (numN 8 s 8)) ++ z) ++ sp2, 5, (0, 0)⟩]
    refine JL_step (Step_alloc _ (cu8 (zr8 32)) Tryd.zeroValue54 (by kernel_rfl)) rfl ?_
    rintro v1 L1 ⟨nb6, hnb6, rfl, rfl⟩
    show JL _ _ _ _ ((11, Ptr nb6 0) :: _) [⟨nb1, cu8 key, 54, (0, 0)⟩, ⟨nb3, cu8 (numN 8 s 8), 5, (0, 0)⟩, ⟨nb5, cu8 ((([UInt8.ofNat k]) ++ (numN 8 s 8)) ++ z) ++ sp2, 5, (0, 0)⟩, ⟨nb6, cu8 (zr8 32), 54, (0, 0)⟩]
    refine JL_step (Step_store 3 nb6 0 32 (cu8 (zr8 32)) 54 (.agg (cu8 (macL key (numN 8 s 8))).toArray) (cu8 (macL key (numN 8 s 8))) (cu8 (macL key (numN 8 s 8))) rfl rfl rfl (by first | rfl | simp) Tryd.sizeOf54 (len_cu8 (macL_len _ _)) (by first | exact one_u8 | exact one_u32 | exact one_u64 | (simp [cu8, cu32, cu64, Value.oneCell']; done)) (by simp [(zr8_len 32)]) (lay_whole (by simp [(zr8_len 32), (macL_len _ _)]))) rfl ?_
    rintro v1 L1 ⟨rfl, rfl⟩
    show JL _ _ _ _ _ [⟨nb1, cu8 key, 54, (0, 0)⟩, ⟨nb3, cu8 (numN 8 s 8), 5, (0, 0)⟩, ⟨nb5, cu8 ((([UInt8.ofNat k]) ++ (numN 8 s 8)) ++ z) ++ sp2, 5, (0, 0)⟩, ⟨nb6, cu8 (macL key (numN 8 s 8)), 54, (0, 0)⟩]
    refine JL_nil ?_
    refine JQ_then ?_
    refine JC_seq ?_
    refine JC_region ?_
    refine JL_val (Slc nb6 0 32 32) (Ev_sliceA 32 5 1 0 32 0 32 Tryd.underlying54 Tryd.sizeOf5 rfl rfl rfl (by omega) (by omega) (by omega) (by omega) (by omega) 32 (by omega)) rfl ?_
    refine JL_val _ (Ev_move rfl) rfl ?_
    refine JL_step (Step_callP 92 [Slc nb6 0 32 32, Slc nb5 0 (n + 9) cp2] (.agg (cu8 (macL (macL key (numN 8 s 8)) ((([UInt8.ofNat k]) ++ (numN 8 s 8)) ++ z))).toArray) (Cl_func [Slc nb6 0 32 32, Slc nb5 0 (n + 9) cp2] Tryd.call92 rfl) (fun w1 hw1 => rmac_c (some ⟨nb6, 0, none⟩) 32 32 (macL key (numN 8 s 8)) (some ⟨nb5, 0, none⟩) (n + 9) cp2 ((([UInt8.ofNat k]) ++ (numN 8 s 8)) ++ z) w1 (macL_len _ _) (fun h => by cases h) (by omega) (RdB.of hw1 (MemAt.ent 3 rfl (Seg.whole _)) (by simp)) ha5 (by omega) (RdB.of hw1 (MemAt.ent 2 rfl (Seg.left (Seg.whole _))) (by simp)) (GLr.at hw1 hGr) (GLi.at hw1 hGi))) rfl ?_
    rintro v1 L1 ⟨rfl, rfl⟩
    show JL _ _ _ _ ((37, .agg (cu8 (macL (macL key (numN 8 s 8)) ((([UInt8.ofNat k]) ++ (numN 8 s 8)) ++ z))).toArray) :: _) [⟨nb1, cu8 key, 54, (0, 0)⟩, ⟨nb3, cu8 (numN 8 s 8), 5, (0, 0)⟩, ⟨nb5, cu8 ((([UInt8.ofNat k]) ++ (numN 8 s 8)) ++ z) ++ sp2, 5, (0, 0)⟩, ⟨nb6, cu8 (macL key (numN 8 s 8)), 54, (0, 0)⟩]
    refine JL_step (Step_alloc _ (cu8 (zr8 32)) Tryd.zeroValue54 (by kernel_rfl)) rfl ?_
    rintro v1 L1 ⟨nb7, hnb7, rfl, rfl⟩
    show JL _ _ _ _ ((12, Ptr nb7 0) :: _) [⟨nb1, cu8 key, 54, (0, 0)⟩, ⟨nb3, cu8 (numN 8 s 8), 5, (0, 0)⟩, ⟨nb5, cu8 ((([UInt8.ofNat k]) ++ (numN 8 s 8)) ++ z) ++ sp2, 5, (0, 0)⟩, ⟨nb6, cu8 (macL key (numN 8 s 8)), 54, (0, 0)⟩, ⟨nb7, cu8 (zr8 32), 54, (0, 0)⟩]
    refine JL_step (Step_store 4 nb7 0 32 (cu8 (zr8 32)) 54 (.agg (cu8 (macL (macL key (numN 8 s 8)) ((([UInt8.ofNat k]) ++ (numN 8 s 8)) ++ z))).toArray) (cu8 (macL (macL key (numN 8 s 8)) ((([UInt8.ofNat k]) ++ (numN 8 s 8)) ++ z))) (cu8 (macL (macL key (numN 8 s 8)) ((([UInt8.ofNat k]) ++ (numN 8 s 8)) ++ z))) rfl rfl rfl (by first | rfl | simp) Tryd.sizeOf54 (len_cu8 (macL_len _ _)) (by first | exact one_u8 | exact one_u32 | exact one_u64 | (simp [cu8, cu32, cu64, Value.oneCell']; done)) (by simp [(zr8_len 32)]) (lay_whole (by simp [(zr8_len 32), (macL_len _ _)]))) rfl ?_
    rintro v1 L1 ⟨rfl, rfl⟩
    show JL _ _ _ _ _ [⟨nb1, cu8 key, 54, (0, 0)⟩, ⟨nb3, cu8 (numN 8 s 8), 5, (0, 0)⟩, ⟨nb5, cu8 ((([UInt8.ofNat k]) ++ (numN 8 s 8)) ++ z) ++ sp2, 5, (0, 0)⟩, ⟨nb6, cu8 (macL key (numN 8 s 8)), 54, (0, 0)⟩, ⟨nb7, cu8 (macL (macL key (numN 8 s 8)) ((([UInt8.ofNat k]) ++ (numN 8 s 8)) ++ z)), 54, (0, 0)⟩]
    refine JL_nil ?_
    refine JQ_then ?_
    refine JC_seq ?_
    refine JC_region ?_
    refine JL_val _ (Ev_move rfl) rfl ?_
    refine JL_val (Slc nb7 0 16 32) (Ev_sliceA 32 5 1 0 16 0 32 Tryd.underlying54 Tryd.sizeOf5 rfl rfl rfl (by omega) (by omega) (by omega) (by omega) (by omega) 16 (by omega)) rfl ?_
    have hl1 : (mid (macL (macL key (numN 8 s 8)) ((([UInt8.ofNat k]) ++ (numN 8 s 8)) ++ z)) 0 16).length = 16 := mid_len (by rw [(macL_len _ _)]; omega)
    refine JL_step (Step_appM8 43 5 [false, false, true, false, false] (Slc nb5 0 (n + 9) cp2) (n + 9) ((([UInt8.ofNat k]) ++ (numN 8 s 8)) ++ z) (mid (macL (macL key (numN 8 s 8)) ((([UInt8.ofNat k]) ++ (numN 8 s 8)) ++ z)) 0 16) (some ⟨nb7, 0, none⟩) 16 32 (n + 25) Tryd.underlying43 Tryd.info5 rfl (.inr ⟨nb5, sp2, cp2, rfl, rfl, (by first | exact ha5 | simp [ha5]), ha6, (by omega), (by omega)⟩) rfl (by first | exact hl1 | simp [hl1]; try omega) (SrcAt.mem (MemAt.ent 4 rfl (segm_u8 0 16 (by rw [(macL_len _ _)]; omega)))) (by omega) (by unfold maxLen; omega) (by omega)) rfl ?_
    rintro v1 L1 ⟨nb8, sp3, cp3, hg3, rfl, rfl, ha9, ha10, ha11, ha12⟩
    show JL _ _ _ _ ((40, Slc nb8 0 (n + 25) cp3) :: _) [⟨nb1, cu8 key, 54, (0, 0)⟩, ⟨nb3, cu8 (numN 8 s 8), 5, (0, 0)⟩, ⟨nb6, cu8 (macL key (numN 8 s 8)), 54, (0, 0)⟩, ⟨nb7, cu8 (macL (macL key (numN 8 s 8)) ((([UInt8.ofNat k]) ++ (numN 8 s 8)) ++ z)), 54, (0, 0)⟩, ⟨nb8, cu8 (((([UInt8.ofNat k]) ++ (numN 8 s 8)) ++ z) ++ (mid (macL (macL key (numN 8 s 8)) ((([UInt8.ofNat k]) ++ (numN 8 s 8)) ++ z)) 0 16)) ++ sp3, 5, (0, 0)⟩]
    refine JL_val _ (Ev_assign rfl) rfl ?_
    refine JL_val _ (Ev_assign rfl) rfl ?_
    refine JL_nil ?_
    refine JQ_then ?_
    refine JC_ret ?_
    refine K_mask [false, false, false, false, true] ?_
    show JQ _ _ _ _ [⟨nb8, cu8 (((([UInt8.ofNat k]) ++ (numN 8 s 8)) ++ z) ++ (mid (macL (macL key (numN 8 s 8)) ((([UInt8.ofNat k]) ++ (numN 8 s 8)) ++ z)) 0 16)) ++ sp3, 5, (0, 0)⟩]
    refine JQ_ret (.tuple #[Slc nb8 0 (n + 25) cp3, I64 (0:Int)]) (res2 Tryd.results28 (RV_tmp rfl) (RV_tmp rfl)) fun w1 hw1 => ?_
    obtain rfl : tot = n + 25 := by omega
    have hq : ((([UInt8.ofNat k]) ++ (numN 8 s 8)) ++ z) ++ (mid (macL (macL key (numN 8 s 8)) ((([UInt8.ofNat k]) ++ (numN 8 s 8)) ++ z)) 0 16) = frmT key k s z := by
      unfold frmT tagT
      simp [headT_ref, ← numN_numK]
    rw [hq] at hw1
    exact ⟨_, _, rfl, ⟨nb8, sp3, cp3, rfl, rfl, ha10, ha11, ha12⟩, hw1.sub (by simp) (by simp)⟩
  ·
    have hp1 : ¬ (((k:Int)) ≠ (1:Int)) := of_decide_eq_false hb1
    refine JL_gskip 2 15 true _ rfl rfl hb1 rfl ?_
    refine JL_gskip 2 15 true _ rfl rfl hb1 rfl ?_
    refine JL_val _ (Ev_pickF _ rfl hb1 rfl) rfl ?_
    refine JL_nil ?_
    refine JQ_then ?_
    refine JC_condF _ rfl rfl ?_
    refine JC_skip ?_
    refine JQ_then ?_
    refine JC_seq ?_
    refine JC_seq ?_
    refine JC_region ?_
    refine JL_val _ (Ev_move rfl) rfl ?_
    refine JL_val (I64 ((n:Int))) (Ev_len Tryd.underlying43 rfl) rfl ?_
    refine JL_val (I64 ((n:Int) + 25)) (Ev_bini rfl rfl fun _ => bin_add_i _ _ ((n:Int) + 25) (by omega) (by omega)) rfl ?_
    refine JL_val (.bool (decide ((262144:Int) < ((n:Int) + 25)))) (Ev_bini rfl rfl fun _ => bin_gtr_i _ _) rfl ?_
    refine JL_nil ?_
    refine JQ_then ?_
    refine JC_condF _ rfl (decide_eq_false (by omega)) ?_
    refine JC_skip ?_
    refine JQ_then ?_
    refine JC_seq ?_
    refine JC_region ?_
    refine JL_val _ (Ev_move rfl) rfl ?_
    refine JL_val (U8 (UInt8.ofNat k)) (Ev_conv _ _ rfl fun _ => conv_i64_u8 (by rw [Tryd.underlying3]; rfl) Tryd.underlying5 k _ (by omega)) rfl ?_
    refine JL_step (Step_buildSlice 5 1 _ [(0, U8 (UInt8.ofNat k))] (cu8 ([UInt8.ofNat k])) Tryd.underlying43 Tryd.sizeOf5 Tryd.zeroValue5 rfl rfl rfl (by kernel_rfl)) rfl ?_
    rintro v1 L1 ⟨nb9, hnb9, rfl, rfl⟩
    show JL _ _ _ _ ((25, Slc nb9 0 1 1) :: _) [⟨nb1, cu8 key, 54, (0, 0)⟩, ⟨nb9, cu8 ([UInt8.ofNat k]), 5, (0, 0)⟩]
    refine JL_val _ (Ev_move rfl) rfl ?_
    refine JL_step (Step_callN 88 [U64 s, I64 (8:Int)] _ (Cl_func [U64 s, I64 (8:Int)] Tryd.call88 rfl) (fun w1 hw1 => rnum_c s w1)) rfl ?_
    rintro v1 L1 ⟨_, ⟨nb10, rfl, rfl⟩, rfl⟩
    show JL _ _ _ _ ((27, Slc nb10 0 8 8) :: _) [⟨nb1, cu8 key, 54, (0, 0)⟩, ⟨nb9, cu8 ([UInt8.ofNat k]), 5, (0, 0)⟩, ⟨nb10, cu8 (numN 8 s 8), 5, (0, 0)⟩]
    refine JL_step (Step_appM8 43 5 [false, true, false] (Slc nb9 0 1 1) 1 ([UInt8.ofNat k]) (numN 8 s 8) (some ⟨nb10, 0, none⟩) 8 8 9 Tryd.underlying43 Tryd.info5 rfl (.inr ⟨nb9, [], 1, rfl, (by simp [take?, cu8, cu32, cu64]), rfl, (by simp), (by omega), (by unfold maxLen; omega)⟩) rfl (by first | exact (numN_len _ _ _) | simp [(numN_len _ _ _)]; try omega) (SrcAt.mem (MemAt.ent 2 rfl (Seg.whole _))) (by omega) (by unfold maxLen; omega) (by omega)) rfl ?_
    rintro v1 L1 ⟨nb11, sp4, cp4, hg4, rfl, rfl, ha13, ha14, ha15, ha16⟩
    show JL _ _ _ _ ((28, Slc nb11 0 9 cp4) :: _) [⟨nb1, cu8 key, 54, (0, 0)⟩, ⟨nb10, cu8 (numN 8 s 8), 5, (0, 0)⟩, ⟨nb11, cu8 (([UInt8.ofNat k]) ++ (numN 8 s 8)) ++ sp4, 5, (0, 0)⟩]
    refine JL_val _ (Ev_assign rfl) rfl ?_
    refine JL_nil ?_
    refine JQ_then ?_
    refine JC_seq ?_
    refine JC_region ?_
    refine JL_val _ (Ev_move rfl) rfl ?_
    refine JL_val _ (Ev_move rfl) rfl ?_
    refine JL_step (Step_appM8 43 5 [false, false, true] (Slc nb11 0 9 cp4) 9 (([UInt8.ofNat k]) ++ (numN 8 s 8)) z az n cz (n + 9) Tryd.underlying43 Tryd.info5 rfl (.inr ⟨nb11, sp4, cp4, rfl, rfl, (by first | exact ha13 | simp [ha13]), ha14, (by omega), (by omega)⟩) rfl (by first | exact hz | simp [hz]; try omega) (hr.src) (by omega) (by unfold maxLen; omega) (by omega)) rfl ?_
    rintro v1 L1 ⟨nb12, sp5, cp5, hg5, rfl, rfl, ha17, ha18, ha19, ha20⟩
    show JL _ _ _ _ ((31, Slc nb12 0 (n + 9) cp5) :: _) [⟨nb1, cu8 key, 54, (0, 0)⟩, ⟨nb10, cu8 (numN 8 s 8), 5, (0, 0)⟩, ⟨nb12, cu8 ((([UInt8.ofNat k]) ++ (numN 8 s 8)) ++ z) ++ sp5, 5, (0, 0)⟩]
    refine JL_val _ (Ev_assign rfl) rfl ?_
    refine JL_nil ?_
    refine JQ_then ?_
    refine JC_seq ?_
    refine JC_region ?_
    refine JL_val (.agg (cu8 key).toArray) (Ev_load rfl (Ld_agg Tryd.isAgg54 Tryd.sizeOf54 (len_cu8 hk) (MemAt.ent 0 rfl (Seg.whole _)))) rfl ?_
    refine JL_val _ (Ev_move rfl) rfl ?_
    refine JL_step (Step_callP 91 [.agg (cu8 key).toArray, U64 s] (.agg (cu8 (macL key (numN 8 s 8))).toArray) (Cl_func [.agg (cu8 key).toArray, U64 s] Tryd.call91 rfl) (fun w1 hw1 => rsession_c key s w1 hk (GLr.at hw1 hGr) (GLi.at hw1 hGi))) rfl ?_
    rintro v1 L1 ⟨rfl, rfl⟩
    show JL _ _ _ _ ((34, .agg (cu8 (macL key (numN 8 s 8))).toArray) :: _) [⟨nb1, cu8 key, 54, (0, 0)⟩, ⟨nb10, cu8 (numN 8 s 8), 5, (0, 0)⟩, ⟨nb12, cu8 ((([UInt8.ofNat k]) ++ (numN 8 s 8)) ++ z) ++ sp5, 5, (0, 0)⟩]
    refine JL_step (Step_alloc _ (cu8 (zr8 32)) Tryd.zeroValue54 (by kernel_rfl)) rfl ?_
    rintro v1 L1 ⟨nb13, hnb13, rfl, rfl⟩
    show JL _ _ _ _ ((11, Ptr nb13 0) :: _) [⟨nb1, cu8 key, 54, (0, 0)⟩, ⟨nb10, cu8 (numN 8 s 8), 5, (0, 0)⟩, ⟨nb12, cu8 ((([UInt8.ofNat k]) ++ (numN 8 s 8)) ++ z) ++ sp5, 5, (0, 0)⟩, ⟨nb13, cu8 (zr8 32), 54, (0, 0)⟩]
    refine JL_step (Step_store 3 nb13 0 32 (cu8 (zr8 32)) 54 (.agg (cu8 (macL key (numN 8 s 8))).toArray) (cu8 (macL key (numN 8 s 8))) (cu8 (macL key (numN 8 s 8))) rfl rfl rfl (by first | rfl | simp) Tryd.sizeOf54 (len_cu8 (macL_len _ _)) (by first | exact one_u8 | exact one_u32 | exact one_u64 | (simp [cu8, cu32, cu64, Value.oneCell']; done)) (by simp [(zr8_len 32)]) (lay_whole (by simp [(zr8_len 32), (macL_len _ _)]))) rfl ?_
    rintro v1 L1 ⟨rfl, rfl⟩
    show JL _ _ _ _ _ [⟨nb1, cu8 key, 54, (0, 0)⟩, ⟨nb10, cu8 (numN 8 s 8), 5, (0, 0)⟩, ⟨nb12, cu8 ((([UInt8.ofNat k]) ++ (numN 8 s 8)) ++ z) ++ sp5, 5, (0, 0)⟩, ⟨nb13, cu8 (macL key (numN 8 s 8)), 54, (0, 0)⟩]
    refine JL_nil ?_
    refine JQ_then ?_
    refine JC_seq ?_
    refine JC_region ?_
    refine JL_val (Slc nb13 0 32 32) (Ev_sliceA 32 5 1 0 32 0 32 Tryd.underlying54 Tryd.sizeOf5 rfl rfl rfl (by omega) (by omega) (by omega) (by omega) (by omega) 32 (by omega)) rfl ?_
    refine JL_val _ (Ev_move rfl) rfl ?_
    refine JL_step (Step_callP 92 [Slc nb13 0 32 32, Slc nb12 0 (n + 9) cp5] (.agg (cu8 (macL (macL key (numN 8 s 8)) ((([UInt8.ofNat k]) ++ (numN 8 s 8)) ++ z))).toArray) (Cl_func [Slc nb13 0 32 32, Slc nb12 0 (n + 9) cp5] Tryd.call92 rfl) (fun w1 hw1 => rmac_c (some ⟨nb13, 0, none⟩) 32 32 (macL key (numN 8 s 8)) (some ⟨nb12, 0, none⟩) (n + 9) cp5 ((([UInt8.ofNat k]) ++ (numN 8 s 8)) ++ z) w1 (macL_len _ _) (fun h => by cases h) (by omega) (RdB.of hw1 (MemAt.ent 3 rfl (Seg.whole _)) (by simp)) ha17 (by omega) (RdB.of hw1 (MemAt.ent 2 rfl (Seg.left (Seg.whole _))) (by simp)) (GLr.at hw1 hGr) (GLi.at hw1 hGi))) rfl ?_
    rintro v1 L1 ⟨rfl, rfl⟩
    show JL _ _ _ _ ((37, .agg (cu8 (macL (macL key (numN 8 s 8)) ((([UInt8.ofNat k]) ++ (numN 8 s 8)) ++ z))).toArray) :: _) [⟨nb1, cu8 key, 54, (0, 0)⟩, ⟨nb10, cu8 (numN 8 s 8), 5, (0, 0)⟩, ⟨nb12, cu8 ((([UInt8.ofNat k]) ++ (numN 8 s 8)) ++ z) ++ sp5, 5, (0, 0)⟩, ⟨nb13, cu8 (macL key (numN 8 s 8)), 54, (0, 0)⟩]
    refine JL_step (Step_alloc _ (cu8 (zr8 32)) Tryd.zeroValue54 (by kernel_rfl)) rfl ?_
    rintro v1 L1 ⟨nb14, hnb14, rfl, rfl⟩
    show JL _ _ _ _ ((12, Ptr nb14 0) :: _) [⟨nb1, cu8 key, 54, (0, 0)⟩, ⟨nb10, cu8 (numN 8 s 8), 5, (0, 0)⟩, ⟨nb12, cu8 ((([UInt8.ofNat k]) ++ (numN 8 s 8)) ++ z) ++ sp5, 5, (0, 0)⟩, ⟨nb13, cu8 (macL key (numN 8 s 8)), 54, (0, 0)⟩, ⟨nb14, cu8 (zr8 32), 54, (0, 0)⟩]
    refine JL_step (Step_store 4 nb14 0 32 (cu8 (zr8 32)) 54 (.agg (cu8 (macL (macL key (numN 8 s 8)) ((([UInt8.ofNat k]) ++ (numN 8 s 8)) ++ z))).toArray) (cu8 (macL (macL key (numN 8 s 8)) ((([UInt8.ofNat k]) ++ (numN 8 s 8)) ++ z))) (cu8 (macL (macL key (numN 8 s 8)) ((([UInt8.ofNat k]) ++ (numN 8 s 8)) ++ z))) rfl rfl rfl (by first | rfl | simp) Tryd.sizeOf54 (len_cu8 (macL_len _ _)) (by first | exact one_u8 | exact one_u32 | exact one_u64 | (simp [cu8, cu32, cu64, Value.oneCell']; done)) (by simp [(zr8_len 32)]) (lay_whole (by simp [(zr8_len 32), (macL_len _ _)]))) rfl ?_
    rintro v1 L1 ⟨rfl, rfl⟩
    show JL _ _ _ _ _ [⟨nb1, cu8 key, 54, (0, 0)⟩, ⟨nb10, cu8 (numN 8 s 8), 5, (0, 0)⟩, ⟨nb12, cu8 ((([UInt8.ofNat k]) ++ (numN 8 s 8)) ++ z) ++ sp5, 5, (0, 0)⟩, ⟨nb13, cu8 (macL key (numN 8 s 8)), 54, (0, 0)⟩, ⟨nb14, cu8 (macL (macL key (numN 8 s 8)) ((([UInt8.ofNat k]) ++ (numN 8 s 8)) ++ z)), 54, (0, 0)⟩]
    refine JL_nil ?_
    refine JQ_then ?_
    refine JC_seq ?_
    refine JC_region ?_
    refine JL_val _ (Ev_move rfl) rfl ?_
    refine JL_val (Slc nb14 0 16 32) (Ev_sliceA 32 5 1 0 16 0 32 Tryd.underlying54 Tryd.sizeOf5 rfl rfl rfl (by omega) (by omega) (by omega) (by omega) (by omega) 16 (by omega)) rfl ?_
    have hl2 : (mid (macL (macL key (numN 8 s 8)) ((([UInt8.ofNat k]) ++ (numN 8 s 8)) ++ z)) 0 16).length = 16 := mid_len (by rw [(macL_len _ _)]; omega)
    refine JL_step (Step_appM8 43 5 [false, false, true, false, false] (Slc nb12 0 (n + 9) cp5) (n + 9) ((([UInt8.ofNat k]) ++ (numN 8 s 8)) ++ z) (mid (macL (macL key (numN 8 s 8)) ((([UInt8.ofNat k]) ++ (numN 8 s 8)) ++ z)) 0 16) (some ⟨nb14, 0, none⟩) 16 32 (n + 25) Tryd.underlying43 Tryd.info5 rfl (.inr ⟨nb12, sp5, cp5, rfl, rfl, (by first | exact ha17 | simp [ha17]), ha18, (by omega), (by omega)⟩) rfl (by first | exact hl2 | simp [hl2]; try omega) (SrcAt.mem (MemAt.ent 4 rfl (segm_u8 0 16 (by rw [(macL_len _ _)]; omega)))) (by omega) (by unfold maxLen; omega) (by omega)) rfl ?_
    rintro v1 L1 ⟨nb15, sp6, cp6, hg6, rfl, rfl, ha21, ha22, ha23, ha24⟩
    show JL _ _ _ _ ((40, Slc nb15 0 (n + 25) cp6) :: _) [⟨nb1, cu8 key, 54, (0, 0)⟩, ⟨nb10, cu8 (numN 8 s 8), 5, (0, 0)⟩, ⟨nb13, cu8 (macL key (numN 8 s 8)), 54, (0, 0)⟩, ⟨nb14, cu8 (macL (macL key (numN 8 s 8)) ((([UInt8.ofNat k]) ++ (numN 8 s 8)) ++ z)), 54, (0, 0)⟩, ⟨nb15, cu8 (((([UInt8.ofNat k]) ++ (numN 8 s 8)) ++ z) ++ (mid (macL (macL key (numN 8 s 8)) ((([UInt8.ofNat k]) ++ (numN 8 s 8)) ++ z)) 0 16)) ++ sp6, 5, (0, 0)⟩]
    refine JL_val _ (Ev_assign rfl) rfl ?_
    refine JL_val _ (Ev_assign rfl) rfl ?_
    refine JL_nil ?_
    refine JQ_then ?_
    refine JC_ret ?_
    refine K_mask [false, false, false, false, true] ?_
    show JQ _ _ _ _ [⟨nb15, cu8 (((([UInt8.ofNat k]) ++ (numN 8 s 8)) ++ z) ++ (mid (macL (macL key (numN 8 s 8)) ((([UInt8.ofNat k]) ++ (numN 8 s 8)) ++ z)) 0 16)) ++ sp6, 5, (0, 0)⟩]
    refine JQ_ret (.tuple #[Slc nb15 0 (n + 25) cp6, I64 (0:Int)]) (res2 Tryd.results28 (RV_tmp rfl) (RV_tmp rfl)) fun w1 hw1 => ?_
    obtain rfl : tot = n + 25 := by omega
    have hq : ((([UInt8.ofNat k]) ++ (numN 8 s 8)) ++ z) ++ (mid (macL (macL key (numN 8 s 8)) ((([UInt8.ofNat k]) ++ (numN 8 s 8)) ++ z)) 0 16) = frmT key k s z := by
      unfold frmT tagT
      simp [headT_ref, ← numN_numK]
    rw [hq] at hw1
    exact ⟨_, _, rfl, ⟨nb15, sp6, cp6, rfl, rfl, ha22, ha23, ha24⟩, hw1.sub (by simp) (by simp)⟩

theorem rsealW_c (key : List UInt8) (way : Int) (s : UInt64) (az : Option Addr) (n cz : Nat) (z : List UInt8)  (w : World) (hk : key.length = 32) (hz : z.length = n) (hcb : az = none → cz = 0) (hnc : n ≤ cz) (hcm : cz ≤ maxLen) (hr : RdB w [] az z) (hw : ¬ (way = 1 ∨ way = 2)) : Calls Tryd.prog 28 #[.agg (cu8 key).toArray, I64 (way), U64 s, .slice az n cz] w (Post w [] (fun v L => v = .tuple #[.slice none 0 0, I64 2] ∧ L = [])) := by
  refine enter w [] 41 [] [.agg (cu8 key).toArray, I64 (way), U64 s, .slice az n cz] Tryd.func28 rfl rfl (by simp) (Hp.start (by simp) (by simp) (by simp)) ?_
  show JC _ _ _ [(0, .agg (cu8 key).toArray), (1, I64 (way)), (2, U64 s), (3, .slice az n cz)] _
  refine JC_seq ?_
  refine JC_region ?_
  refine JL_step (Step_box (.agg (cu8 key).toArray) (cu8 key) rfl (by first | rfl | simp)) rfl ?_
  rintro v1 L1 ⟨nb1, hnb1, rfl, rfl⟩
  show JL _ _ _ _ ((4, Ptr nb1 0) :: _) [⟨nb1, cu8 key, 54, (0, 0)⟩]
  refine JL_val _ (Ev_assign rfl) rfl ?_
  refine JL_val _ (Ev_assign rfl) rfl ?_
  refine JL_nil ?_
  refine JQ_then ?_
  refine JC_seq ?_
  refine JC_seq ?_
  refine JC_region ?_
  refine JL_val _ (Ev_move rfl) rfl ?_
  refine JL_val (.bool (decide ((way) ≠ (1:Int)))) (Ev_bini rfl rfl fun _ => bin_neq_i _ _) rfl ?_
  refine JL_val _ (Ev_move rfl) rfl ?_
  refine JL_gval 2 15 true _ _ rfl rfl (decide_eq_true (by omega)) (Ev_move rfl) rfl ?_
  refine JL_gval 2 15 true _ (.bool (decide ((way) ≠ (2:Int)))) rfl rfl (decide_eq_true (by omega)) (Ev_bini rfl rfl fun _ => bin_neq_i _ _) rfl ?_
  refine JL_val _ (Ev_pickT _ rfl (decide_eq_true (by omega)) rfl) rfl ?_
  refine JL_nil ?_
  refine JQ_then ?_
  refine JC_condT _ rfl (decide_eq_true (by omega)) ?_
  refine JC_seq ?_
  refine JC_region ?_
  refine JL_val _ (Ev_assign rfl) rfl ?_
  refine JL_val _ (Ev_assign rfl) rfl ?_
  refine JL_nil ?_
  refine JQ_then ?_
  refine JC_ret ?_
  refine JQ_then_ret ?_
  refine K_mask [false] ?_
  show JQ _ _ _ _ []
  refine JQ_ret (.tuple #[.slice none 0 0, I64 (2:Int)]) (res2 Tryd.results28 (RV_tmp rfl) (RV_tmp rfl)) fun w1 hw1 => ?_
  exact ⟨_, [], rfl, ⟨rfl, rfl⟩, hw1.sub (by simp) (by simp)⟩

theorem rsealB_c (key : List UInt8) (k : Nat) (s : UInt64) (az : Option Addr) (n cz : Nat) (z : List UInt8)  (w : World) (hk : key.length = 32) (hz : z.length = n) (hcb : az = none → cz = 0) (hnc : n ≤ cz) (hcm : cz ≤ maxLen) (hr : RdB w [] az z) (hw : k = 1 ∨ k = 2) (hn : 262144 < n + 25) (hn2 : n ≤ 1000000) : Calls Tryd.prog 28 #[.agg (cu8 key).toArray, I64 ((k:Int)), U64 s, .slice az n cz] w (Post w [] (fun v L => v = .tuple #[.slice none 0 0, I64 3] ∧ L = [])) := by
  have hmx : maxLen = 9223372036854775807 := rfl
  refine enter w [] 41 [] [.agg (cu8 key).toArray, I64 ((k:Int)), U64 s, .slice az n cz] Tryd.func28 rfl rfl (by simp) (Hp.start (by simp) (by simp) (by simp)) ?_
  show JC _ _ _ [(0, .agg (cu8 key).toArray), (1, I64 ((k:Int))), (2, U64 s), (3, .slice az n cz)] _
  refine JC_seq ?_
  refine JC_region ?_
  refine JL_step (Step_box (.agg (cu8 key).toArray) (cu8 key) rfl (by first | rfl | simp)) rfl ?_
  rintro v1 L1 ⟨nb1, hnb1, rfl, rfl⟩
  show JL _ _ _ _ ((4, Ptr nb1 0) :: _) [⟨nb1, cu8 key, 54, (0, 0)⟩]
  refine JL_val _ (Ev_assign rfl) rfl ?_
  refine JL_val _ (Ev_assign rfl) rfl ?_
  refine JL_nil ?_
  refine JQ_then ?_
  refine JC_seq ?_
  refine JC_seq ?_
  refine JC_region ?_
  refine JL_val _ (Ev_move rfl) rfl ?_
  refine JL_val (.bool (decide (((k:Int)) ≠ (1:Int)))) (Ev_bini rfl rfl fun _ => bin_neq_i _ _) rfl ?_
  refine JL_val _ (Ev_move rfl) rfl ?_
  rcases Bool.eq_false_or_eq_true (decide (((k:Int)) ≠ (1:Int))) with hb1 | hb1
  ·
    have hp1 : ((k:Int)) ≠ (1:Int) := of_decide_eq_true hb1
    refine JL_gval 2 15 true _ _ rfl rfl hb1 (Ev_move rfl) rfl ?_
    refine JL_gval 2 15 true _ (.bool (decide (((k:Int)) ≠ (2:Int)))) rfl rfl hb1 (Ev_bini rfl rfl fun _ => bin_neq_i _ _) rfl ?_
    refine JL_val _ (Ev_pickT _ rfl hb1 rfl) rfl ?_
    refine JL_nil ?_
    refine JQ_then ?_
    refine JC_condF _ rfl (decide_eq_false (by omega)) ?_
    refine JC_skip ?_
    refine JQ_then ?_
    refine JC_seq ?_
    refine JC_seq ?_
    refine JC_region ?_
    refine JL_val _ (Ev_move rfl) rfl ?_
    refine JL_val (I64 ((n:Int))) (Ev_len Tryd.underlying43 rfl) rfl ?_
    refine JL_val (I64 ((n:Int) + 25)) (Ev_bini rfl rfl fun _ => bin_add_i _ _ ((n:Int) + 25) (by omega) (by omega)) rfl ?_
    refine JL_val (.bool (decide ((262144:Int) < ((n:Int) + 25)))) (Ev_bini rfl rfl fun _ => bin_gtr_i _ _) rfl ?_
    refine JL_nil ?_
    refine JQ_then ?_
    refine JC_condT _ rfl (decide_eq_true (by omega)) ?_
    refine JC_seq ?_
    refine JC_region ?_
    refine JL_val _ (Ev_assign rfl) rfl ?_
    refine JL_val _ (Ev_assign rfl) rfl ?_
    refine JL_nil ?_
    refine JQ_then ?_
    refine JC_ret ?_
    refine JQ_then_ret ?_
    refine K_mask [false] ?_
    show JQ _ _ _ _ []
    refine JQ_ret (.tuple #[.slice none 0 0, I64 (3:Int)]) (res2 Tryd.results28 (RV_tmp rfl) (RV_tmp rfl)) fun w1 hw1 => ?_
    exact ⟨_, [], rfl, ⟨rfl, rfl⟩, hw1.sub (by simp) (by simp)⟩
  ·
    have hp1 : ¬ (((k:Int)) ≠ (1:Int)) := of_decide_eq_false hb1
    refine JL_gskip 2 15 true _ rfl rfl hb1 rfl ?_
    refine JL_gskip 2 15 true _ rfl rfl hb1 rfl ?_
    refine JL_val _ (Ev_pickF _ rfl hb1 rfl) rfl ?_
    refine JL_nil ?_
    refine JQ_then ?_
    refine JC_condF _ rfl rfl ?_
    refine JC_skip ?_
    refine JQ_then ?_
    refine JC_seq ?_
    refine JC_seq ?_
    refine JC_region ?_
    refine JL_val _ (Ev_move rfl) rfl ?_
    refine JL_val (I64 ((n:Int))) (Ev_len Tryd.underlying43 rfl) rfl ?_
    refine JL_val (I64 ((n:Int) + 25)) (Ev_bini rfl rfl fun _ => bin_add_i _ _ ((n:Int) + 25) (by omega) (by omega)) rfl ?_
    refine JL_val (.bool (decide ((262144:Int) < ((n:Int) + 25)))) (Ev_bini rfl rfl fun _ => bin_gtr_i _ _) rfl ?_
    refine JL_nil ?_
    refine JQ_then ?_
    refine JC_condT _ rfl (decide_eq_true (by omega)) ?_
    refine JC_seq ?_
    refine JC_region ?_
    refine JL_val _ (Ev_assign rfl) rfl ?_
    refine JL_val _ (Ev_assign rfl) rfl ?_
    refine JL_nil ?_
    refine JQ_then ?_
    refine JC_ret ?_
    refine JQ_then_ret ?_
    refine K_mask [false] ?_
    show JQ _ _ _ _ []
    refine JQ_ret (.tuple #[.slice none 0 0, I64 (3:Int)]) (res2 Tryd.results28 (RV_tmp rfl) (RV_tmp rfl)) fun w1 hw1 => ?_
    exact ⟨_, [], rfl, ⟨rfl, rfl⟩, hw1.sub (by simp) (by simp)⟩

end Go.Proofs.YtkdpdgpphpngeaaDoor
namespace Go.Proofs.YtkdpdgpphpngeaaDoor
open Go Go.Sx
set_option linter.unusedVariables false
set_option linter.unusedSimpArgs false
set_option maxRecDepth 100000
attribute [local irreducible] mid zr8 zr32 numK valK rvalK numN rotr wordL spreadL comprL cpN adN spN wrdN constL initL padL stN outN routN sumG blkL xbN raN macL headT tagT frmT wayF seF flipB
theorem peek_c (az : Option Addr) (n cz : Nat) (z : List UInt8)  (w : World) (hz : z.length = n) (hcb : az = none → cz = 0) (hnc : n ≤ cz) (hcm : cz ≤ maxLen) (hr : RdB w [] az z) (hp : PkOk z)  : Calls Tryd.prog 41 #[.slice az n cz] w (Post w [] (fun v L => v = .tuple #[I64 ((wayF z : Nat) : Int), U64 (seF z), .nilIface] ∧ L = [])) := by
  obtain ⟨hp1, hp2, hp3⟩ := id hp
  rw [hz] at hp1 hp2
  have hwy := way_eq z
  have hsome : az.isNone = false := by
    obtain ⟨_, _, ha, _⟩ := hr.pos (by omega)
    rw [ha]; rfl
  have hmx : maxLen = 9223372036854775807 := rfl
  refine enter w [] 33 [] [.slice az n cz] Tryd.func41 rfl rfl (by simp) (Hp.start (by simp) (by simp) (by simp)) ?_
  show JC _ _ _ [(0, .slice az n cz)] _
  refine JC_seq ?_
  refine JC_region ?_
  refine JL_val _ (Ev_assign rfl) rfl ?_
  refine JL_val _ (Ev_assign rfl) rfl ?_
  refine JL_val _ (Ev_assign rfl) rfl ?_
  refine JL_nil ?_
  refine JQ_then ?_
  refine JC_seq ?_
  refine JC_seq ?_
  refine JC_region ?_
  refine JL_val _ (Ev_move rfl) rfl ?_
  refine JL_val (I64 ((n:Int))) (Ev_len Tryd.underlying43 rfl) rfl ?_
  refine JL_step (Step_callP 30 [I64 (0:Int)] (I64 (25:Int)) (Cl_func [I64 (0:Int)] Tryd.call30 rfl) (fun w1 hw1 => lbytes_c 0 w1 (by omega))) rfl ?_
  rintro v1 L1 ⟨rfl, rfl⟩
  show JL _ _ _ _ ((8, I64 (25:Int)) :: _) []
  refine JL_val (.bool (decide (((n:Int)) < (25:Int)))) (Ev_bini rfl rfl fun _ => bin_lss_i _ _) rfl ?_
  refine JL_val _ (Ev_move rfl) rfl ?_
  refine JL_gval 4 10 false _ _ rfl rfl (decide_eq_false (by omega)) (Ev_move rfl) rfl ?_
  refine JL_gval 4 10 false _ (I64 ((n:Int))) rfl rfl (decide_eq_false (by omega)) (Ev_len Tryd.underlying43 rfl) rfl ?_
  refine JL_gval 4 10 false _ (.bool (decide ((262144:Int) < ((n:Int))))) rfl rfl (decide_eq_false (by omega)) (Ev_bini rfl rfl fun _ => bin_gtr_i _ _) rfl ?_
  refine JL_val _ (Ev_pickF _ rfl (decide_eq_false (by omega)) rfl) rfl ?_
  refine JL_nil ?_
  refine JQ_then ?_
  refine JC_condF _ rfl (decide_eq_false (by omega)) ?_
  refine JC_skip ?_
  refine JQ_then ?_
  refine JC_seq ?_
  refine JC_region ?_
  refine JL_val _ (Ev_move rfl) rfl ?_
  have hl1 : (mid z 0 9).length = 9 := mid_len (by rw [hz]; omega)
  have hr1 := RdB.pre hr 9
  refine JL_val (.slice az 9 cz) (Ev_sliceHi 5 1 9 Tryd.underlying43 Tryd.sizeOf5 rfl rfl (by omega)) rfl ?_
  refine JL_step (Step_callN 59 [.slice az 9 cz] _ (Cl_func [.slice az 9 cz] Tryd.call59 rfl) (fun w1 hw1 => from_c az 9 cz (mid z 0 9) w1 hsome hl1 (by omega) (hr1.at (M' := []) hw1 (by simp)))) rfl ?_
  rintro v1 L1 ⟨_, ⟨nb1, nb2, sp1, cp1, rfl, rfl, hc1, hc2, hc3⟩, rfl⟩
  show JL _ _ _ _ ((18, Ptr nb1 0) :: _) [⟨nb1, [.nilIface, Slc nb2 0 9 cp1], 204, (0, 0)⟩, ⟨nb2, cu8 (mid z 0 9) ++ sp1, 5, (0, 0)⟩]
  refine JL_val _ (Ev_assign rfl) rfl ?_
  refine JL_nil ?_
  refine JQ_then ?_
  refine JC_seq ?_
  refine JC_region ?_
  refine JL_val _ (Ev_move rfl) rfl ?_
  have hl2 : (mid z 0 9).length = 9 := hl1
  have hl3 : ((mid z 0 9).drop 1).length = 8 := by rw [List.length_drop, hl2] <;> omega
  refine JL_step (Step_callW 109 [Ptr nb1 0, I64 (1:Int)] 0 ⟨nb1, [.nilIface, Slc nb2 0 9 cp1], 204, (0, 0)⟩ _ (fun v e' l' => v = U64 (valK (mid z 0 9) 1) ∧ e' = ⟨nb1, [.nilIface, .slice (advA (some ⟨nb2, 0, none⟩) cp1 1) 8 (cp1 - 1)], 204, (0, 0)⟩ ∧ l' = []) (Cl_func [Ptr nb1 0, I64 (1:Int)] Tryd.call109 rfl) rfl (by rintro v l ⟨rfl, rfl⟩; exact ⟨_, _, rfl, rfl, rfl, rfl, rfl⟩) (fun w1 hw1 => numROk_c nb1 0 (some ⟨nb2, 0, none⟩) 9 cp1 (mid z 0 9) 1 8 (cp1 - 1) w1 (hw1.ent _ (List.mem_of_getElem? (i := 0) rfl)) hl2 (by omega) (by omega) (by omega) (RdB.of hw1 (MemAt.ent 1 rfl (Seg.left (Seg.whole _))) (by intro _; simp only [List.mem_cons, List.not_mem_nil, or_false, not_or]; exact hw1.ne (i := 1) (j := 0) rfl rfl (by decide))) rfl (by unfold Szd; omega) (by omega) (by omega) (by omega))) rfl ?_
  rintro v1 L1 ⟨_, _, ⟨rfl, rfl, rfl⟩, rfl⟩
  show JL _ _ _ _ ((20, U64 (valK (mid z 0 9) 1)) :: _) [⟨nb1, [.nilIface, .slice (advA (some ⟨nb2, 0, none⟩) cp1 1) 8 (cp1 - 1)], 204, (0, 0)⟩, ⟨nb2, cu8 (mid z 0 9) ++ sp1, 5, (0, 0)⟩]
  refine JL_val (I64 (((valK (mid z 0 9) 1).toNat:Int))) (Ev_conv _ _ rfl fun _ => conv_u64_i64 (by rw [Tryd.underlying22]; rfl) Tryd.underlying3 (valK (mid z 0 9) 1) _ rfl (by omega)) rfl ?_
  refine JL_val _ (Ev_move rfl) rfl ?_
  have hl4 : ((mid z 0 9).drop 1).length = 8 := hl3
  have hl5 : (((mid z 0 9).drop 1).drop 8).length = 0 := by rw [List.length_drop, hl4] <;> omega
  refine JL_step (Step_callW 109 [Ptr nb1 0, I64 (8:Int)] 0 ⟨nb1, [.nilIface, .slice (advA (some ⟨nb2, 0, none⟩) cp1 1) 8 (cp1 - 1)], 204, (0, 0)⟩ _ (fun v e' l' => v = U64 (valK ((mid z 0 9).drop 1) 8) ∧ e' = ⟨nb1, [.nilIface, .slice (advA (advA (some ⟨nb2, 0, none⟩) cp1 1) (cp1 - 1) 8) 0 (cp1 - 9)], 204, (0, 0)⟩ ∧ l' = []) (Cl_func [Ptr nb1 0, I64 (8:Int)] Tryd.call109 rfl) rfl (by rintro v l ⟨rfl, rfl⟩; exact ⟨_, _, rfl, rfl, rfl, rfl, rfl⟩) (fun w1 hw1 => numROk_c nb1 0 (advA (some ⟨nb2, 0, none⟩) cp1 1) 8 (cp1 - 1) ((mid z 0 9).drop 1) 8 0 (cp1 - 9) w1 (hw1.ent _ (List.mem_of_getElem? (i := 0) rfl)) hl4 (by omega) (by omega) (by omega) ((fun w M h => RdB.adv (z := mid z 0 9) (c := cp1) ((fun _ _ h => h) w M h) 1 (by rw [hl2]; omega) (by rw [hl2]; omega)) _ _ (RdB.of hw1 (MemAt.ent 1 rfl (Seg.left (Seg.whole _))) (by intro _; simp only [List.mem_cons, List.not_mem_nil, or_false, not_or]; exact hw1.ne (i := 1) (j := 0) rfl rfl (by decide)))) rfl (by unfold Szd; omega) (by omega) (by omega) (by omega))) rfl ?_
  rintro v1 L1 ⟨_, _, ⟨rfl, rfl, rfl⟩, rfl⟩
  show JL _ _ _ _ ((23, U64 (valK ((mid z 0 9).drop 1) 8)) :: _) [⟨nb1, [.nilIface, .slice (advA (advA (some ⟨nb2, 0, none⟩) cp1 1) (cp1 - 1) 8) 0 (cp1 - 9)], 204, (0, 0)⟩, ⟨nb2, cu8 (mid z 0 9) ++ sp1, 5, (0, 0)⟩]
  refine JL_val _ (Ev_assign rfl) rfl ?_
  refine JL_val _ (Ev_assign rfl) rfl ?_
  refine JL_nil ?_
  refine JQ_then ?_
  refine JC_seq ?_
  refine JC_seq ?_
  refine JC_region ?_
  refine JL_val _ (Ev_move rfl) rfl ?_
  refine JL_val (.bool (decide ((((valK (mid z 0 9) 1).toNat:Int)) ≠ (1:Int)))) (Ev_bini rfl rfl fun _ => bin_neq_i _ _) rfl ?_
  refine JL_val _ (Ev_move rfl) rfl ?_
  rcases Bool.eq_false_or_eq_true (decide ((((valK (mid z 0 9) 1).toNat:Int)) ≠ (1:Int))) with hb1 | hb1
  ·
    have hp1 : (((valK (mid z 0 9) 1).toNat:Int)) ≠ (1:Int) := of_decide_eq_true hb1
    refine JL_gval 2 26 true _ _ rfl rfl hb1 (Ev_move rfl) rfl ?_
    refine JL_gval 2 26 true _ (.bool (decide ((((valK (mid z 0 9) 1).toNat:Int)) ≠ (2:Int)))) rfl rfl hb1 (Ev_bini rfl rfl fun _ => bin_neq_i _ _) rfl ?_
    refine JL_val _ (Ev_pickT _ rfl hb1 rfl) rfl ?_
    refine JL_nil ?_
    refine JQ_then ?_
    refine JC_condF _ rfl (decide_eq_false (by omega)) ?_
    refine JC_skip ?_
    refine JQ_then ?_
    refine JC_seq ?_
    refine JC_region ?_
    refine JL_val _ (Ev_move rfl) rfl ?_
    refine JL_val _ (Ev_move rfl) rfl ?_
    refine JL_val _ (Ev_assign rfl) rfl ?_
    refine JL_val _ (Ev_assign rfl) rfl ?_
    refine JL_val _ (Ev_assign rfl) rfl ?_
    refine JL_nil ?_
    refine JQ_then ?_
    refine JC_ret ?_
    refine K_mask [false, false] ?_
    show JQ _ _ _ _ []
    refine JQ_ret (.tuple #[I64 (((valK (mid z 0 9) 1).toNat:Int)), U64 (valK ((mid z 0 9).drop 1) 8), .nilIface]) (res3 Tryd.results41 (RV_tmp rfl) (RV_tmp rfl) (RV_tmp rfl)) fun w1 hw1 => ?_
    exact ⟨_, [], rfl, ⟨by rw [way_eq, se_eq], rfl⟩, hw1.sub (by simp) (by simp)⟩
  ·
    have hp1 : ¬ ((((valK (mid z 0 9) 1).toNat:Int)) ≠ (1:Int)) := of_decide_eq_false hb1
    refine JL_gskip 2 26 true _ rfl rfl hb1 rfl ?_
    refine JL_gskip 2 26 true _ rfl rfl hb1 rfl ?_
    refine JL_val _ (Ev_pickF _ rfl hb1 rfl) rfl ?_
    refine JL_nil ?_
    refine JQ_then ?_
    refine JC_condF _ rfl rfl ?_
    refine JC_skip ?_
    refine JQ_then ?_
    refine JC_seq ?_
    refine JC_region ?_
    refine JL_val _ (Ev_move rfl) rfl ?_
    refine JL_val _ (Ev_move rfl) rfl ?_
    refine JL_val _ (Ev_assign rfl) rfl ?_
    refine JL_val _ (Ev_assign rfl) rfl ?_
    refine JL_val _ (Ev_assign rfl) rfl ?_
    refine JL_nil ?_
    refine JQ_then ?_
    refine JC_ret ?_
    refine K_mask [false, false] ?_
    show JQ _ _ _ _ []
    refine JQ_ret (.tuple #[I64 (((valK (mid z 0 9) 1).toNat:Int)), U64 (valK ((mid z 0 9).drop 1) 8), .nilIface]) (res3 Tryd.results41 (RV_tmp rfl) (RV_tmp rfl) (RV_tmp rfl)) fun w1 hw1 => ?_
    exact ⟨_, [], rfl, ⟨by rw [way_eq, se_eq], rfl⟩, hw1.sub (by simp) (by simp)⟩

theorem peekS_c (az : Option Addr) (n cz : Nat) (z : List UInt8)  (w : World) (hz : z.length = n) (hcb : az = none → cz = 0) (hnc : n ≤ cz) (hcm : cz ≤ maxLen) (hr : RdB w [] az z) (hs : n < 25 ∨ 262144 < n)  : Calls Tryd.prog 41 #[.slice az n cz] w (Post w [] (fun v L => v = .tuple #[I64 0, U64 0, .iface 50 (I64 2)] ∧ L = [])) := by
  refine enter w [] 33 [] [.slice az n cz] Tryd.func41 rfl rfl (by simp) (Hp.start (by simp) (by simp) (by simp)) ?_
  show JC _ _ _ [(0, .slice az n cz)] _
  refine JC_seq ?_
  refine JC_region ?_
  refine JL_val _ (Ev_assign rfl) rfl ?_
  refine JL_val _ (Ev_assign rfl) rfl ?_
  refine JL_val _ (Ev_assign rfl) rfl ?_
  refine JL_nil ?_
  refine JQ_then ?_
  refine JC_seq ?_
  refine JC_seq ?_
  refine JC_region ?_
  refine JL_val _ (Ev_move rfl) rfl ?_
  refine JL_val (I64 ((n:Int))) (Ev_len Tryd.underlying43 rfl) rfl ?_
  refine JL_step (Step_callP 30 [I64 (0:Int)] (I64 (25:Int)) (Cl_func [I64 (0:Int)] Tryd.call30 rfl) (fun w1 hw1 => lbytes_c 0 w1 (by omega))) rfl ?_
  rintro v1 L1 ⟨rfl, rfl⟩
  show JL _ _ _ _ ((8, I64 (25:Int)) :: _) []
  refine JL_val (.bool (decide (((n:Int)) < (25:Int)))) (Ev_bini rfl rfl fun _ => bin_lss_i _ _) rfl ?_
  refine JL_val _ (Ev_move rfl) rfl ?_
  rcases Bool.eq_false_or_eq_true (decide (((n:Int)) < (25:Int))) with hb1 | hb1
  ·
    have hp1 : ((n:Int)) < (25:Int) := of_decide_eq_true hb1
    refine JL_gskip 4 10 false _ rfl rfl hb1 rfl ?_
    refine JL_gskip 4 10 false _ rfl rfl hb1 rfl ?_
    refine JL_gskip 4 10 false _ rfl rfl hb1 rfl ?_
    refine JL_val _ (Ev_pickT _ rfl hb1 rfl) rfl ?_
    refine JL_nil ?_
    refine JQ_then ?_
    refine JC_condT _ rfl rfl ?_
    refine JC_seq ?_
    refine JC_region ?_
    refine JL_val (.iface 50 (I64 (2:Int))) (Ev_iface Tryd.underlying50 rfl rfl) rfl ?_
    refine JL_val _ (Ev_assign rfl) rfl ?_
    refine JL_val _ (Ev_assign rfl) rfl ?_
    refine JL_val _ (Ev_assign rfl) rfl ?_
    refine JL_nil ?_
    refine JQ_then ?_
    refine JC_ret ?_
    refine JQ_then_ret ?_
    refine JQ_ret (.tuple #[I64 (0:Int), U64 (0:UInt64), .iface 50 (I64 (2:Int))]) (res3 Tryd.results41 (RV_tmp rfl) (RV_tmp rfl) (RV_tmp rfl)) fun w1 hw1 => ?_
    exact ⟨_, [], rfl, ⟨rfl, rfl⟩, hw1.sub (by simp) (by simp)⟩
  ·
    have hp1 : ¬ (((n:Int)) < (25:Int)) := of_decide_eq_false hb1
    refine JL_gval 4 10 false _ _ rfl rfl hb1 (Ev_move rfl) rfl ?_
    refine JL_gval 4 10 false _ (I64 ((n:Int))) rfl rfl hb1 (Ev_len Tryd.underlying43 rfl) rfl ?_
    refine JL_gval 4 10 false _ (.bool (decide ((262144:Int) < ((n:Int))))) rfl rfl hb1 (Ev_bini rfl rfl fun _ => bin_gtr_i _ _) rfl ?_
    refine JL_val _ (Ev_pickF _ rfl hb1 rfl) rfl ?_
    refine JL_nil ?_
    refine JQ_then ?_
    refine JC_condT _ rfl (decide_eq_true (by omega)) ?_
    refine JC_seq ?_
    refine JC_region ?_
    refine JL_val (.iface 50 (I64 (2:Int))) (Ev_iface Tryd.underlying50 rfl rfl) rfl ?_
    refine JL_val _ (Ev_assign rfl) rfl ?_
    refine JL_val _ (Ev_assign rfl) rfl ?_
    refine JL_val _ (Ev_assign rfl) rfl ?_
    refine JL_nil ?_
    refine JQ_then ?_
    refine JC_ret ?_
    refine JQ_then_ret ?_
    refine JQ_ret (.tuple #[I64 (0:Int), U64 (0:UInt64), .iface 50 (I64 (2:Int))]) (res3 Tryd.results41 (RV_tmp rfl) (RV_tmp rfl) (RV_tmp rfl)) fun w1 hw1 => ?_
    exact ⟨_, [], rfl, ⟨rfl, rfl⟩, hw1.sub (by simp) (by simp)⟩

theorem peekW_c (az : Option Addr) (n cz : Nat) (z : List UInt8)  (w : World) (hz : z.length = n) (hcb : az = none → cz = 0) (hnc : n ≤ cz) (hcm : cz ≤ maxLen) (hr : RdB w [] az z) (h1 : 25 ≤ n) (h2 : n ≤ 262144) (hw : ¬ (wayF z = 1 ∨ wayF z = 2))  : Calls Tryd.prog 41 #[.slice az n cz] w (Post w [] (fun v L => v = .tuple #[I64 0, U64 0, .iface 50 (I64 2)] ∧ L = [])) := by
  have hwy := way_eq z
  have hw256 := wayF_lt z
  have hsome : az.isNone = false := by
    obtain ⟨_, _, ha, _⟩ := hr.pos (by omega)
    rw [ha]; rfl
  have hmx : maxLen = 9223372036854775807 := rfl
  refine enter w [] 33 [] [.slice az n cz] Tryd.func41 rfl rfl (by simp) (Hp.start (by simp) (by simp) (by simp)) ?_
  show JC _ _ _ [(0, .slice az n cz)] _
  refine JC_seq ?_
  refine JC_region ?_
  refine JL_val _ (Ev_assign rfl) rfl ?_
  refine JL_val _ (Ev_assign rfl) rfl ?_
  refine JL_val _ (Ev_assign rfl) rfl ?_
  refine JL_nil ?_
  refine JQ_then ?_
  refine JC_seq ?_
  refine JC_seq ?_
  refine JC_region ?_
  refine JL_val _ (Ev_move rfl) rfl ?_
  refine JL_val (I64 ((n:Int))) (Ev_len Tryd.underlying43 rfl) rfl ?_
  refine JL_step (Step_callP 30 [I64 (0:Int)] (I64 (25:Int)) (Cl_func [I64 (0:Int)] Tryd.call30 rfl) (fun w1 hw1 => lbytes_c 0 w1 (by omega))) rfl ?_
  rintro v1 L1 ⟨rfl, rfl⟩
  show JL _ _ _ _ ((8, I64 (25:Int)) :: _) []
  refine JL_val (.bool (decide (((n:Int)) < (25:Int)))) (Ev_bini rfl rfl fun _ => bin_lss_i _ _) rfl ?_
  refine JL_val _ (Ev_move rfl) rfl ?_
  refine JL_gval 4 10 false _ _ rfl rfl (decide_eq_false (by omega)) (Ev_move rfl) rfl ?_
  refine JL_gval 4 10 false _ (I64 ((n:Int))) rfl rfl (decide_eq_false (by omega)) (Ev_len Tryd.underlying43 rfl) rfl ?_
  refine JL_gval 4 10 false _ (.bool (decide ((262144:Int) < ((n:Int))))) rfl rfl (decide_eq_false (by omega)) (Ev_bini rfl rfl fun _ => bin_gtr_i _ _) rfl ?_
  refine JL_val _ (Ev_pickF _ rfl (decide_eq_false (by omega)) rfl) rfl ?_
  refine JL_nil ?_
  refine JQ_then ?_
  refine JC_condF _ rfl (decide_eq_false (by omega)) ?_
  refine JC_skip ?_
  refine JQ_then ?_
  refine JC_seq ?_
  refine JC_region ?_
  refine JL_val _ (Ev_move rfl) rfl ?_
  have hl1 : (mid z 0 9).length = 9 := mid_len (by rw [hz]; omega)
  have hr1 := RdB.pre hr 9
  refine JL_val (.slice az 9 cz) (Ev_sliceHi 5 1 9 Tryd.underlying43 Tryd.sizeOf5 rfl rfl (by omega)) rfl ?_
  refine JL_step (Step_callN 59 [.slice az 9 cz] _ (Cl_func [.slice az 9 cz] Tryd.call59 rfl) (fun w1 hw1 => from_c az 9 cz (mid z 0 9) w1 hsome hl1 (by omega) (hr1.at (M' := []) hw1 (by simp)))) rfl ?_
  rintro v1 L1 ⟨_, ⟨nb1, nb2, sp1, cp1, rfl, rfl, hc1, hc2, hc3⟩, rfl⟩
  show JL _ _ _ _ ((18, Ptr nb1 0) :: _) [⟨nb1, [.nilIface, Slc nb2 0 9 cp1], 204, (0, 0)⟩, ⟨nb2, cu8 (mid z 0 9) ++ sp1, 5, (0, 0)⟩]
  refine JL_val _ (Ev_assign rfl) rfl ?_
  refine JL_nil ?_
  refine JQ_then ?_
  refine JC_seq ?_
  refine JC_region ?_
  refine JL_val _ (Ev_move rfl) rfl ?_
  have hl2 : (mid z 0 9).length = 9 := hl1
  have hl3 : ((mid z 0 9).drop 1).length = 8 := by rw [List.length_drop, hl2] <;> omega
  refine JL_step (Step_callW 109 [Ptr nb1 0, I64 (1:Int)] 0 ⟨nb1, [.nilIface, Slc nb2 0 9 cp1], 204, (0, 0)⟩ _ (fun v e' l' => v = U64 (valK (mid z 0 9) 1) ∧ e' = ⟨nb1, [.nilIface, .slice (advA (some ⟨nb2, 0, none⟩) cp1 1) 8 (cp1 - 1)], 204, (0, 0)⟩ ∧ l' = []) (Cl_func [Ptr nb1 0, I64 (1:Int)] Tryd.call109 rfl) rfl (by rintro v l ⟨rfl, rfl⟩; exact ⟨_, _, rfl, rfl, rfl, rfl, rfl⟩) (fun w1 hw1 => numROk_c nb1 0 (some ⟨nb2, 0, none⟩) 9 cp1 (mid z 0 9) 1 8 (cp1 - 1) w1 (hw1.ent _ (List.mem_of_getElem? (i := 0) rfl)) hl2 (by omega) (by omega) (by omega) (RdB.of hw1 (MemAt.ent 1 rfl (Seg.left (Seg.whole _))) (by intro _; simp only [List.mem_cons, List.not_mem_nil, or_false, not_or]; exact hw1.ne (i := 1) (j := 0) rfl rfl (by decide))) rfl (by unfold Szd; omega) (by omega) (by omega) (by omega))) rfl ?_
  rintro v1 L1 ⟨_, _, ⟨rfl, rfl, rfl⟩, rfl⟩
  show JL _ _ _ _ ((20, U64 (valK (mid z 0 9) 1)) :: _) [⟨nb1, [.nilIface, .slice (advA (some ⟨nb2, 0, none⟩) cp1 1) 8 (cp1 - 1)], 204, (0, 0)⟩, ⟨nb2, cu8 (mid z 0 9) ++ sp1, 5, (0, 0)⟩]
  refine JL_val (I64 (((valK (mid z 0 9) 1).toNat:Int))) (Ev_conv _ _ rfl fun _ => conv_u64_i64 (by rw [Tryd.underlying22]; rfl) Tryd.underlying3 (valK (mid z 0 9) 1) _ rfl (by omega)) rfl ?_
  refine JL_val _ (Ev_move rfl) rfl ?_
  have hl4 : ((mid z 0 9).drop 1).length = 8 := hl3
  have hl5 : (((mid z 0 9).drop 1).drop 8).length = 0 := by rw [List.length_drop, hl4] <;> omega
  refine JL_step (Step_callW 109 [Ptr nb1 0, I64 (8:Int)] 0 ⟨nb1, [.nilIface, .slice (advA (some ⟨nb2, 0, none⟩) cp1 1) 8 (cp1 - 1)], 204, (0, 0)⟩ _ (fun v e' l' => v = U64 (valK ((mid z 0 9).drop 1) 8) ∧ e' = ⟨nb1, [.nilIface, .slice (advA (advA (some ⟨nb2, 0, none⟩) cp1 1) (cp1 - 1) 8) 0 (cp1 - 9)], 204, (0, 0)⟩ ∧ l' = []) (Cl_func [Ptr nb1 0, I64 (8:Int)] Tryd.call109 rfl) rfl (by rintro v l ⟨rfl, rfl⟩; exact ⟨_, _, rfl, rfl, rfl, rfl, rfl⟩) (fun w1 hw1 => numROk_c nb1 0 (advA (some ⟨nb2, 0, none⟩) cp1 1) 8 (cp1 - 1) ((mid z 0 9).drop 1) 8 0 (cp1 - 9) w1 (hw1.ent _ (List.mem_of_getElem? (i := 0) rfl)) hl4 (by omega) (by omega) (by omega) ((fun w M h => RdB.adv (z := mid z 0 9) (c := cp1) ((fun _ _ h => h) w M h) 1 (by rw [hl2]; omega) (by rw [hl2]; omega)) _ _ (RdB.of hw1 (MemAt.ent 1 rfl (Seg.left (Seg.whole _))) (by intro _; simp only [List.mem_cons, List.not_mem_nil, or_false, not_or]; exact hw1.ne (i := 1) (j := 0) rfl rfl (by decide)))) rfl (by unfold Szd; omega) (by omega) (by omega) (by omega))) rfl ?_
  rintro v1 L1 ⟨_, _, ⟨rfl, rfl, rfl⟩, rfl⟩
  show JL _ _ _ _ ((23, U64 (valK ((mid z 0 9).drop 1) 8)) :: _) [⟨nb1, [.nilIface, .slice (advA (advA (some ⟨nb2, 0, none⟩) cp1 1) (cp1 - 1) 8) 0 (cp1 - 9)], 204, (0, 0)⟩, ⟨nb2, cu8 (mid z 0 9) ++ sp1, 5, (0, 0)⟩]
  refine JL_val _ (Ev_assign rfl) rfl ?_
  refine JL_val _ (Ev_assign rfl) rfl ?_
  refine JL_nil ?_
  refine JQ_then ?_
  refine JC_seq ?_
  refine JC_seq ?_
  refine JC_region ?_
  refine JL_val _ (Ev_move rfl) rfl ?_
  refine JL_val (.bool (decide ((((valK (mid z 0 9) 1).toNat:Int)) ≠ (1:Int)))) (Ev_bini rfl rfl fun _ => bin_neq_i _ _) rfl ?_
  refine JL_val _ (Ev_move rfl) rfl ?_
  refine JL_gval 2 26 true _ _ rfl rfl (decide_eq_true (by omega)) (Ev_move rfl) rfl ?_
  refine JL_gval 2 26 true _ (.bool (decide ((((valK (mid z 0 9) 1).toNat:Int)) ≠ (2:Int)))) rfl rfl (decide_eq_true (by omega)) (Ev_bini rfl rfl fun _ => bin_neq_i _ _) rfl ?_
  refine JL_val _ (Ev_pickT _ rfl (decide_eq_true (by omega)) rfl) rfl ?_
  refine JL_nil ?_
  refine JQ_then ?_
  refine JC_condT _ rfl (decide_eq_true (by omega)) ?_
  refine JC_seq ?_
  refine JC_region ?_
  refine JL_val (.iface 50 (I64 (2:Int))) (Ev_iface Tryd.underlying50 rfl rfl) rfl ?_
  refine JL_val _ (Ev_assign rfl) rfl ?_
  refine JL_val _ (Ev_assign rfl) rfl ?_
  refine JL_val _ (Ev_assign rfl) rfl ?_
  refine JL_nil ?_
  refine JQ_then ?_
  refine JC_ret ?_
  refine JQ_then_ret ?_
  refine K_mask [false, false] ?_
  show JQ _ _ _ _ []
  refine JQ_ret (.tuple #[I64 (0:Int), U64 (0:UInt64), .iface 50 (I64 (2:Int))]) (res3 Tryd.results41 (RV_tmp rfl) (RV_tmp rfl) (RV_tmp rfl)) fun w1 hw1 => ?_
  exact ⟨_, [], rfl, ⟨rfl, rfl⟩, hw1.sub (by simp) (by simp)⟩

theorem rpeek_c (az : Option Addr) (n cz : Nat) (z : List UInt8)  (w : World) (hz : z.length = n) (hcb : az = none → cz = 0) (hnc : n ≤ cz) (hcm : cz ≤ maxLen) (hr : RdB w [] az z) (hp : PkOk z)  : Calls Tryd.prog 42 #[.slice az n cz] w (Post w [] (fun v L => v = .tuple #[I64 ((wayF z : Nat) : Int), U64 (seF z), I64 0] ∧ L = [])) := by
  obtain ⟨hp1, hp2, hp3⟩ := id hp
  rw [hz] at hp1 hp2
  have hmx : maxLen = 9223372036854775807 := rfl
  refine enter w [] 32 [] [.slice az n cz] Tryd.func42 rfl rfl (by simp) (Hp.start (by simp) (by simp) (by simp)) ?_
  show JC _ _ _ [(0, .slice az n cz)] _
  refine JC_seq ?_
  refine JC_region ?_
  refine JL_val _ (Ev_assign rfl) rfl ?_
  refine JL_val _ (Ev_assign rfl) rfl ?_
  refine JL_val _ (Ev_assign rfl) rfl ?_
  refine JL_nil ?_
  refine JQ_then ?_
  refine JC_seq ?_
  refine JC_seq ?_
  refine JC_region ?_
  refine JL_val _ (Ev_move rfl) rfl ?_
  refine JL_val (I64 ((n:Int))) (Ev_len Tryd.underlying43 rfl) rfl ?_
  refine JL_val (.bool (decide (((n:Int)) < (25:Int)))) (Ev_bini rfl rfl fun _ => bin_lss_i _ _) rfl ?_
  refine JL_val _ (Ev_move rfl) rfl ?_
  refine JL_gval 3 8 false _ _ rfl rfl (decide_eq_false (by omega)) (Ev_move rfl) rfl ?_
  refine JL_gval 3 8 false _ (I64 ((n:Int))) rfl rfl (decide_eq_false (by omega)) (Ev_len Tryd.underlying43 rfl) rfl ?_
  refine JL_gval 3 8 false _ (.bool (decide ((262144:Int) < ((n:Int))))) rfl rfl (decide_eq_false (by omega)) (Ev_bini rfl rfl fun _ => bin_gtr_i _ _) rfl ?_
  refine JL_val _ (Ev_pickF _ rfl (decide_eq_false (by omega)) rfl) rfl ?_
  refine JL_val _ (Ev_move rfl) rfl ?_
  refine JL_gval 8 13 false _ _ rfl rfl (decide_eq_false (by omega)) (Ev_move rfl) rfl ?_
  obtain ⟨bz1, oz1, hz1, hm1⟩ := hr.pos (by rw [hz]; omega)
  refine JL_gval 8 13 false _ (Ptr bz1 oz1) rfl rfl (decide_eq_false (by omega)) (Ev_indexSlG 5 1 oz1 Tryd.underlying43 Tryd.sizeOf5 rfl hz1 rfl (by omega) (by omega) (by omega)) rfl ?_
  refine JL_gval 8 13 false _ (U8 (g8 z 0)) rfl rfl (decide_eq_false (by omega)) (Ev_load rfl (Ld_one Tryd.isAgg5 (MemAt.seg (MemAt.base hm1.1 hm1.2.1 hm1.2.2) (Seg.get (g8_get (i := 0) (by rw [hz]; omega))) (by omega)))) rfl ?_
  refine JL_gval 8 13 false _ (.bool (decide ((g8 z 0) ≠ (1:UInt8)))) rfl rfl (decide_eq_false (by omega)) (Ev_bini rfl rfl fun _ => bin_neq_u8 (g8 z 0) (1:UInt8)) rfl ?_
  refine JL_gval 8 13 false _ _ rfl rfl (decide_eq_false (by omega)) (Ev_move rfl) rfl ?_
  rcases Bool.eq_false_or_eq_true (decide ((g8 z 0) ≠ (1:UInt8))) with hb1 | hb1
  ·
    have hp1 : (g8 z 0) ≠ (1:UInt8) := of_decide_eq_true hb1
    refine JL_gval 13 18 true _ _ rfl rfl hb1 (Ev_move rfl) rfl ?_
    refine JL_gval 13 18 true _ (Ptr bz1 oz1) rfl rfl hb1 (Ev_indexSlG 5 1 oz1 Tryd.underlying43 Tryd.sizeOf5 rfl hz1 rfl (by omega) (by omega) (by omega)) rfl ?_
    refine JL_gval 13 18 true _ (U8 (g8 z 0)) rfl rfl hb1 (Ev_load rfl (Ld_one Tryd.isAgg5 (MemAt.seg (MemAt.base hm1.1 hm1.2.1 hm1.2.2) (Seg.get (g8_get (i := 0) (by rw [hz]; omega))) (by omega)))) rfl ?_
    refine JL_gval 13 18 true _ (.bool (decide ((g8 z 0) ≠ (2:UInt8)))) rfl rfl hb1 (Ev_bini rfl rfl fun _ => bin_neq_u8 (g8 z 0) (2:UInt8)) rfl ?_
    refine JL_gval 8 13 false _ _ rfl rfl (decide_eq_false (by omega)) (Ev_pickT _ rfl hb1 rfl) rfl ?_
    refine JL_val _ (Ev_pickF _ rfl (decide_eq_false (by omega)) rfl) rfl ?_
    refine JL_nil ?_
    refine JQ_then ?_
    refine JC_condF _ rfl (decide_eq_false (fun h => h (way_u8 hp3 (of_decide_eq_true hb1)))) ?_
    refine JC_skip ?_
    refine JQ_then ?_
    refine JC_seq ?_
    have hl1 : (mid (z.drop 1) 0 8).length = 8 := mid_len (by rw [List.length_drop, hz]; omega)
    have hr1 := RdB.pre (RdB.adv (c := cz) hr 1 (by rw [hz]; omega) (by rw [hz]; omega)) 8
    refine JC_draw 32 2 [(0, .slice az n cz), (1, Ptr bz1 oz1), (2, U8 (g8 z 0)), (3, I64 (((g8 z 0).toNat:Int))), (4, .slice az n cz), (5, .slice (advA az cz 1) 8 (cz - 1))] Tryd.mixed rfl (by decide +kernel) ?_
    have hl3 : (mid (z.drop 1) 0 8).length = 8 := mid_len (by rw [List.length_drop, hz]; omega)
    have hr3 := RdB.pre (RdB.adv (c := cz) hr 1 (by rw [hz]; omega) (by rw [hz]; omega)) 8
    refine DP_one ⟨[], [0, 1, 2, 3, 4, 5], [], [0, 1, 2, 3, 4, 5], [6]⟩ 6 _ rfl rfl (by decide +kernel) rfl ⟨⟨_, rfl, Qok_val rfl (Ev_move rfl)⟩, ⟨_, rfl, Qok_val rfl (Ev_indexSlG 5 1 oz1 Tryd.underlying43 Tryd.sizeOf5 rfl hz1 rfl (by omega) (by omega) (by omega))⟩, ⟨_, rfl, Qok_val rfl (Ev_load rfl (Ld_one Tryd.isAgg5 (MemAt.seg (MemAt.base hm1.1 hm1.2.1 hm1.2.2) (Seg.get (g8_get (i := 0) (by rw [hz]; omega))) (by omega))))⟩, ⟨_, rfl, Qok_val rfl (Ev_conv _ _ rfl fun _ => conv_u8_i64 (by rw [Tryd.underlying5]; rfl) Tryd.underlying3 (g8 z 0) _ rfl)⟩, ⟨_, rfl, Qok_val rfl (Ev_move rfl)⟩, ⟨_, rfl, Qok_val rfl (Ev_sliceBoth 5 1 9 8 (cz - 1) Tryd.underlying43 Tryd.sizeOf5 rfl rfl rfl (by omega) (by omega) (by omega) (by omega))⟩, trivial⟩ rfl (Cok_step rfl (Step_callP 110 [.slice (advA az cz 1) 8 (cz - 1)] (U64 (rvalK (mid (z.drop 1) 0 8) 8)) (Cl_func [.slice (advA az cz 1) 8 (cz - 1)] Tryd.call110 rfl) (fun w1 hw1 => value_c (advA az cz 1) 8 (cz - 1) (mid (z.drop 1) 0 8) w1 hl1 (by omega) (hr1.at (M' := []) hw1 (by simp))))) ?_
    rintro v1 L1 ⟨rfl, rfl⟩
    refine ⟨[(7, I64 (((g8 z 0).toNat:Int))), (8, U64 (rvalK (mid (z.drop 1) 0 8) 8)), (9, I64 (0:Int))], ?_⟩
    show DP _ _ _ _ _ _ _ _ []
    refine DP_end ⟨[6], [0, 1, 2, 3, 4, 5, 7, 8, 9], [4, 5], [0, 1, 2, 3, 7, 8, 9], []⟩ rfl rfl (by decide +kernel) rfl ⟨⟨_, rfl, Qok_val rfl (Ev_move rfl)⟩, ⟨_, rfl, Qok_val rfl (Ev_indexSlG 5 1 oz1 Tryd.underlying43 Tryd.sizeOf5 rfl hz1 rfl (by omega) (by omega) (by omega))⟩, ⟨_, rfl, Qok_val rfl (Ev_load rfl (Ld_one Tryd.isAgg5 (MemAt.seg (MemAt.base hm1.1 hm1.2.1 hm1.2.2) (Seg.get (g8_get (i := 0) (by rw [hz]; omega))) (by omega))))⟩, ⟨_, rfl, Qok_val rfl (Ev_conv _ _ rfl fun _ => conv_u8_i64 (by rw [Tryd.underlying5]; rfl) Tryd.underlying3 (g8 z 0) _ rfl)⟩, ⟨_, rfl, Qok_val rfl (Ev_assign rfl)⟩, ⟨_, rfl, Qok_val rfl (Ev_assign rfl)⟩, ⟨_, rfl, Qok_val rfl (Ev_assign rfl)⟩, trivial⟩ ?_
    refine K_sub (F' := [(2, I64 (((g8 z 0).toNat:Int))), (3, U64 (rvalK (mid (z.drop 1) 0 8) 8)), (4, I64 (0:Int))]) (Sub.cons (by kernel_rfl) (Sub.cons (by kernel_rfl) (Sub.cons (by kernel_rfl) (Sub.nil)))) ?_
    show JQ _ _ _ [(2, I64 (((g8 z 0).toNat:Int))), (3, U64 (rvalK (mid (z.drop 1) 0 8) 8)), (4, I64 (0:Int))] _
    refine JQ_then ?_
    refine JC_ret ?_
    refine JQ_ret (.tuple #[I64 (((g8 z 0).toNat:Int)), U64 (rvalK (mid (z.drop 1) 0 8) 8), I64 (0:Int)]) (res3 Tryd.results42 (RV_tmp rfl) (RV_tmp rfl) (RV_tmp rfl)) fun w1 hw1 => ?_
    exact ⟨_, [], rfl, ⟨by rw [wayF_def, seF_def, rvalK_eq], rfl⟩, hw1.sub (by simp) (by simp)⟩
  ·
    have hp1 : ¬ ((g8 z 0) ≠ (1:UInt8)) := of_decide_eq_false hb1
    refine JL_gskip 13 18 true _ rfl rfl hb1 rfl ?_
    refine JL_gskip 13 18 true _ rfl rfl hb1 rfl ?_
    refine JL_gskip 13 18 true _ rfl rfl hb1 rfl ?_
    refine JL_gskip 13 18 true _ rfl rfl hb1 rfl ?_
    refine JL_gval 8 13 false _ _ rfl rfl (decide_eq_false (by omega)) (Ev_pickF _ rfl hb1 rfl) rfl ?_
    refine JL_val _ (Ev_pickF _ rfl (decide_eq_false (by omega)) rfl) rfl ?_
    refine JL_nil ?_
    refine JQ_then ?_
    refine JC_condF _ rfl rfl ?_
    refine JC_skip ?_
    refine JQ_then ?_
    refine JC_seq ?_
    have hl5 : (mid (z.drop 1) 0 8).length = 8 := mid_len (by rw [List.length_drop, hz]; omega)
    have hr5 := RdB.pre (RdB.adv (c := cz) hr 1 (by rw [hz]; omega) (by rw [hz]; omega)) 8
    refine JC_draw 32 2 [(0, .slice az n cz), (1, Ptr bz1 oz1), (2, U8 (g8 z 0)), (3, I64 (((g8 z 0).toNat:Int))), (4, .slice az n cz), (5, .slice (advA az cz 1) 8 (cz - 1))] Tryd.mixed rfl (by decide +kernel) ?_
    have hl7 : (mid (z.drop 1) 0 8).length = 8 := mid_len (by rw [List.length_drop, hz]; omega)
    have hr7 := RdB.pre (RdB.adv (c := cz) hr 1 (by rw [hz]; omega) (by rw [hz]; omega)) 8
    refine DP_one ⟨[], [0, 1, 2, 3, 4, 5], [], [0, 1, 2, 3, 4, 5], [6]⟩ 6 _ rfl rfl (by decide +kernel) rfl ⟨⟨_, rfl, Qok_val rfl (Ev_move rfl)⟩, ⟨_, rfl, Qok_val rfl (Ev_indexSlG 5 1 oz1 Tryd.underlying43 Tryd.sizeOf5 rfl hz1 rfl (by omega) (by omega) (by omega))⟩, ⟨_, rfl, Qok_val rfl (Ev_load rfl (Ld_one Tryd.isAgg5 (MemAt.seg (MemAt.base hm1.1 hm1.2.1 hm1.2.2) (Seg.get (g8_get (i := 0) (by rw [hz]; omega))) (by omega))))⟩, ⟨_, rfl, Qok_val rfl (Ev_conv _ _ rfl fun _ => conv_u8_i64 (by rw [Tryd.underlying5]; rfl) Tryd.underlying3 (g8 z 0) _ rfl)⟩, ⟨_, rfl, Qok_val rfl (Ev_move rfl)⟩, ⟨_, rfl, Qok_val rfl (Ev_sliceBoth 5 1 9 8 (cz - 1) Tryd.underlying43 Tryd.sizeOf5 rfl rfl rfl (by omega) (by omega) (by omega) (by omega))⟩, trivial⟩ rfl (Cok_step rfl (Step_callP 110 [.slice (advA az cz 1) 8 (cz - 1)] (U64 (rvalK (mid (z.drop 1) 0 8) 8)) (Cl_func [.slice (advA az cz 1) 8 (cz - 1)] Tryd.call110 rfl) (fun w1 hw1 => value_c (advA az cz 1) 8 (cz - 1) (mid (z.drop 1) 0 8) w1 hl5 (by omega) (hr5.at (M' := []) hw1 (by simp))))) ?_
    rintro v1 L1 ⟨rfl, rfl⟩
    refine ⟨[(7, I64 (((g8 z 0).toNat:Int))), (8, U64 (rvalK (mid (z.drop 1) 0 8) 8)), (9, I64 (0:Int))], ?_⟩
    show DP _ _ _ _ _ _ _ _ []
    refine DP_end ⟨[6], [0, 1, 2, 3, 4, 5, 7, 8, 9], [4, 5], [0, 1, 2, 3, 7, 8, 9], []⟩ rfl rfl (by decide +kernel) rfl ⟨⟨_, rfl, Qok_val rfl (Ev_move rfl)⟩, ⟨_, rfl, Qok_val rfl (Ev_indexSlG 5 1 oz1 Tryd.underlying43 Tryd.sizeOf5 rfl hz1 rfl (by omega) (by omega) (by omega))⟩, ⟨_, rfl, Qok_val rfl (Ev_load rfl (Ld_one Tryd.isAgg5 (MemAt.seg (MemAt.base hm1.1 hm1.2.1 hm1.2.2) (Seg.get (g8_get (i := 0) (by rw [hz]; omega))) (by omega))))⟩, ⟨_, rfl, Qok_val rfl (Ev_conv _ _ rfl fun _ => conv_u8_i64 (by rw [Tryd.underlying5]; rfl) Tryd.underlying3 (g8 z 0) _ rfl)⟩, ⟨_, rfl, Qok_val rfl (Ev_assign rfl)⟩, ⟨_, rfl, Qok_val rfl (Ev_assign rfl)⟩, ⟨_, rfl, Qok_val rfl (Ev_assign rfl)⟩, trivial⟩ ?_
    refine K_sub (F' := [(2, I64 (((g8 z 0).toNat:Int))), (3, U64 (rvalK (mid (z.drop 1) 0 8) 8)), (4, I64 (0:Int))]) (Sub.cons (by kernel_rfl) (Sub.cons (by kernel_rfl) (Sub.cons (by kernel_rfl) (Sub.nil)))) ?_
    show JQ _ _ _ [(2, I64 (((g8 z 0).toNat:Int))), (3, U64 (rvalK (mid (z.drop 1) 0 8) 8)), (4, I64 (0:Int))] _
    refine JQ_then ?_
    refine JC_ret ?_
    refine JQ_ret (.tuple #[I64 (((g8 z 0).toNat:Int)), U64 (rvalK (mid (z.drop 1) 0 8) 8), I64 (0:Int)]) (res3 Tryd.results42 (RV_tmp rfl) (RV_tmp rfl) (RV_tmp rfl)) fun w1 hw1 => ?_
    exact ⟨_, [], rfl, ⟨by rw [wayF_def, seF_def, rvalK_eq], rfl⟩, hw1.sub (by simp) (by simp)⟩

theorem rpeekS_c (az : Option Addr) (n cz : Nat) (z : List UInt8)  (w : World) (hz : z.length = n) (hcb : az = none → cz = 0) (hnc : n ≤ cz) (hcm : cz ≤ maxLen) (hr : RdB w [] az z) (hs : n < 25 ∨ 262144 < n)  : Calls Tryd.prog 42 #[.slice az n cz] w (Post w [] (fun v L => v = .tuple #[I64 0, U64 0, I64 2] ∧ L = [])) := by
  refine enter w [] 32 [] [.slice az n cz] Tryd.func42 rfl rfl (by simp) (Hp.start (by simp) (by simp) (by simp)) ?_
  show JC _ _ _ [(0, .slice az n cz)] _
  refine JC_seq ?_
  refine JC_region ?_
  refine JL_val _ (Ev_assign rfl) rfl ?_
  refine JL_val _ (Ev_assign rfl) rfl ?_
  refine JL_val _ (Ev_assign rfl) rfl ?_
  refine JL_nil ?_
  refine JQ_then ?_
  refine JC_seq ?_
  refine JC_seq ?_
  refine JC_region ?_
  refine JL_val _ (Ev_move rfl) rfl ?_
  refine JL_val (I64 ((n:Int))) (Ev_len Tryd.underlying43 rfl) rfl ?_
  refine JL_val (.bool (decide (((n:Int)) < (25:Int)))) (Ev_bini rfl rfl fun _ => bin_lss_i _ _) rfl ?_
  refine JL_val _ (Ev_move rfl) rfl ?_
  rcases Bool.eq_false_or_eq_true (decide (((n:Int)) < (25:Int))) with hb1 | hb1
  ·
    have hp1 : ((n:Int)) < (25:Int) := of_decide_eq_true hb1
    refine JL_gskip 3 8 false _ rfl rfl hb1 rfl ?_
    refine JL_gskip 3 8 false _ rfl rfl hb1 rfl ?_
    refine JL_gskip 3 8 false _ rfl rfl hb1 rfl ?_
    refine JL_val _ (Ev_pickT _ rfl hb1 rfl) rfl ?_
    refine JL_val _ (Ev_move rfl) rfl ?_
    refine JL_gskip 8 13 false _ rfl rfl rfl rfl ?_
    refine JL_gskip 8 13 false _ rfl rfl rfl rfl ?_
    refine JL_gskip 8 13 false _ rfl rfl rfl rfl ?_
    refine JL_gskip 8 13 false _ rfl rfl rfl rfl ?_
    refine JL_gskip 8 13 false _ rfl rfl rfl rfl ?_
    refine JL_gskipU 13 18 true rfl rfl rfl ?_
    refine JL_gskipU 13 18 true rfl rfl rfl ?_
    refine JL_gskipU 13 18 true rfl rfl rfl ?_
    refine JL_gskipU 13 18 true rfl rfl rfl ?_
    refine JL_gskip 8 13 false _ rfl rfl rfl rfl ?_
    refine JL_val _ (Ev_pickT _ rfl rfl rfl) rfl ?_
    refine JL_nil ?_
    refine JQ_then ?_
    refine JC_condT _ rfl rfl ?_
    refine JC_seq ?_
    refine JC_region ?_
    refine JL_val _ (Ev_assign rfl) rfl ?_
    refine JL_val _ (Ev_assign rfl) rfl ?_
    refine JL_val _ (Ev_assign rfl) rfl ?_
    refine JL_nil ?_
    refine JQ_then ?_
    refine JC_ret ?_
    refine JQ_then_ret ?_
    refine JQ_ret (.tuple #[I64 (0:Int), U64 (0:UInt64), I64 (2:Int)]) (res3 Tryd.results42 (RV_tmp rfl) (RV_tmp rfl) (RV_tmp rfl)) fun w1 hw1 => ?_
    exact ⟨_, [], rfl, ⟨rfl, rfl⟩, hw1.sub (by simp) (by simp)⟩
  ·
    have hp1 : ¬ (((n:Int)) < (25:Int)) := of_decide_eq_false hb1
    refine JL_gval 3 8 false _ _ rfl rfl hb1 (Ev_move rfl) rfl ?_
    refine JL_gval 3 8 false _ (I64 ((n:Int))) rfl rfl hb1 (Ev_len Tryd.underlying43 rfl) rfl ?_
    refine JL_gval 3 8 false _ (.bool (decide ((262144:Int) < ((n:Int))))) rfl rfl hb1 (Ev_bini rfl rfl fun _ => bin_gtr_i _ _) rfl ?_
    refine JL_val _ (Ev_pickF _ rfl hb1 rfl) rfl ?_
    refine JL_val _ (Ev_move rfl) rfl ?_
    refine JL_gskip 8 13 false _ rfl rfl (decide_eq_true (by omega)) rfl ?_
    refine JL_gskip 8 13 false _ rfl rfl (decide_eq_true (by omega)) rfl ?_
    refine JL_gskip 8 13 false _ rfl rfl (decide_eq_true (by omega)) rfl ?_
    refine JL_gskip 8 13 false _ rfl rfl (decide_eq_true (by omega)) rfl ?_
    refine JL_gskip 8 13 false _ rfl rfl (decide_eq_true (by omega)) rfl ?_
    refine JL_gskipU 13 18 true rfl rfl rfl ?_
    refine JL_gskipU 13 18 true rfl rfl rfl ?_
    refine JL_gskipU 13 18 true rfl rfl rfl ?_
    refine JL_gskipU 13 18 true rfl rfl rfl ?_
    refine JL_gskip 8 13 false _ rfl rfl (decide_eq_true (by omega)) rfl ?_
    refine JL_val _ (Ev_pickT _ rfl (decide_eq_true (by omega)) rfl) rfl ?_
    refine JL_nil ?_
    refine JQ_then ?_
    refine JC_condT _ rfl rfl ?_
    refine JC_seq ?_
    refine JC_region ?_
    refine JL_val _ (Ev_assign rfl) rfl ?_
    refine JL_val _ (Ev_assign rfl) rfl ?_
    refine JL_val _ (Ev_assign rfl) rfl ?_
    refine JL_nil ?_
    refine JQ_then ?_
    refine JC_ret ?_
    refine JQ_then_ret ?_
    refine JQ_ret (.tuple #[I64 (0:Int), U64 (0:UInt64), I64 (2:Int)]) (res3 Tryd.results42 (RV_tmp rfl) (RV_tmp rfl) (RV_tmp rfl)) fun w1 hw1 => ?_
    exact ⟨_, [], rfl, ⟨rfl, rfl⟩, hw1.sub (by simp) (by simp)⟩

theorem rpeekW_c (az : Option Addr) (n cz : Nat) (z : List UInt8)  (w : World) (hz : z.length = n) (hcb : az = none → cz = 0) (hnc : n ≤ cz) (hcm : cz ≤ maxLen) (hr : RdB w [] az z) (h1 : 25 ≤ n) (h2 : n ≤ 262144) (hw : ¬ (wayF z = 1 ∨ wayF z = 2))  : Calls Tryd.prog 42 #[.slice az n cz] w (Post w [] (fun v L => v = .tuple #[I64 0, U64 0, I64 2] ∧ L = [])) := by
  refine enter w [] 32 [] [.slice az n cz] Tryd.func42 rfl rfl (by simp) (Hp.start (by simp) (by simp) (by simp)) ?_
  show JC _ _ _ [(0, .slice az n cz)] _
  refine JC_seq ?_
  refine JC_region ?_
  refine JL_val _ (Ev_assign rfl) rfl ?_
  refine JL_val _ (Ev_assign rfl) rfl ?_
  refine JL_val _ (Ev_assign rfl) rfl ?_
  refine JL_nil ?_
  refine JQ_then ?_
  refine JC_seq ?_
  refine JC_seq ?_
  refine JC_region ?_
  refine JL_val _ (Ev_move rfl) rfl ?_
  refine JL_val (I64 ((n:Int))) (Ev_len Tryd.underlying43 rfl) rfl ?_
  refine JL_val (.bool (decide (((n:Int)) < (25:Int)))) (Ev_bini rfl rfl fun _ => bin_lss_i _ _) rfl ?_
  refine JL_val _ (Ev_move rfl) rfl ?_
  refine JL_gval 3 8 false _ _ rfl rfl (decide_eq_false (by omega)) (Ev_move rfl) rfl ?_
  refine JL_gval 3 8 false _ (I64 ((n:Int))) rfl rfl (decide_eq_false (by omega)) (Ev_len Tryd.underlying43 rfl) rfl ?_
  refine JL_gval 3 8 false _ (.bool (decide ((262144:Int) < ((n:Int))))) rfl rfl (decide_eq_false (by omega)) (Ev_bini rfl rfl fun _ => bin_gtr_i _ _) rfl ?_
  refine JL_val _ (Ev_pickF _ rfl (decide_eq_false (by omega)) rfl) rfl ?_
  refine JL_val _ (Ev_move rfl) rfl ?_
  refine JL_gval 8 13 false _ _ rfl rfl (decide_eq_false (by omega)) (Ev_move rfl) rfl ?_
  obtain ⟨bz1, oz1, hz1, hm1⟩ := hr.pos (by rw [hz]; omega)
  refine JL_gval 8 13 false _ (Ptr bz1 oz1) rfl rfl (decide_eq_false (by omega)) (Ev_indexSlG 5 1 oz1 Tryd.underlying43 Tryd.sizeOf5 rfl hz1 rfl (by omega) (by omega) (by omega)) rfl ?_
  refine JL_gval 8 13 false _ (U8 (g8 z 0)) rfl rfl (decide_eq_false (by omega)) (Ev_load rfl (Ld_one Tryd.isAgg5 (MemAt.seg (MemAt.base hm1.1 hm1.2.1 hm1.2.2) (Seg.get (g8_get (i := 0) (by rw [hz]; omega))) (by omega)))) rfl ?_
  refine JL_gval 8 13 false _ (.bool (decide ((g8 z 0) ≠ (1:UInt8)))) rfl rfl (decide_eq_false (by omega)) (Ev_bini rfl rfl fun _ => bin_neq_u8 (g8 z 0) (1:UInt8)) rfl ?_
  refine JL_gval 8 13 false _ _ rfl rfl (decide_eq_false (by omega)) (Ev_move rfl) rfl ?_
  refine JL_gval 13 18 true _ _ rfl rfl (decide_eq_true (way_ne hw).1) (Ev_move rfl) rfl ?_
  refine JL_gval 13 18 true _ (Ptr bz1 oz1) rfl rfl (decide_eq_true (way_ne hw).1) (Ev_indexSlG 5 1 oz1 Tryd.underlying43 Tryd.sizeOf5 rfl hz1 rfl (by omega) (by omega) (by omega)) rfl ?_
  refine JL_gval 13 18 true _ (U8 (g8 z 0)) rfl rfl (decide_eq_true (way_ne hw).1) (Ev_load rfl (Ld_one Tryd.isAgg5 (MemAt.seg (MemAt.base hm1.1 hm1.2.1 hm1.2.2) (Seg.get (g8_get (i := 0) (by rw [hz]; omega))) (by omega)))) rfl ?_
  refine JL_gval 13 18 true _ (.bool (decide ((g8 z 0) ≠ (2:UInt8)))) rfl rfl (decide_eq_true (way_ne hw).1) (Ev_bini rfl rfl fun _ => bin_neq_u8 (g8 z 0) (2:UInt8)) rfl ?_
  refine JL_gval 8 13 false _ _ rfl rfl (decide_eq_false (by omega)) (Ev_pickT _ rfl (decide_eq_true (way_ne hw).1) rfl) rfl ?_
  refine JL_val _ (Ev_pickF _ rfl (decide_eq_false (by omega)) rfl) rfl ?_
  refine JL_nil ?_
  refine JQ_then ?_
  refine JC_condT _ rfl (decide_eq_true (way_ne hw).2) ?_
  refine JC_seq ?_
  refine JC_region ?_
  refine JL_val _ (Ev_assign rfl) rfl ?_
  refine JL_val _ (Ev_assign rfl) rfl ?_
  refine JL_val _ (Ev_assign rfl) rfl ?_
  refine JL_nil ?_
  refine JQ_then ?_
  refine JC_ret ?_
  refine JQ_then_ret ?_
  refine JQ_ret (.tuple #[I64 (0:Int), U64 (0:UInt64), I64 (2:Int)]) (res3 Tryd.results42 (RV_tmp rfl) (RV_tmp rfl) (RV_tmp rfl)) fun w1 hw1 => ?_
  exact ⟨_, [], rfl, ⟨rfl, rfl⟩, hw1.sub (by simp) (by simp)⟩

theorem peekB_w (az : Option Addr) (n cz : Nat) (z : List UInt8) (w : World) (hz : z.length = n) (hcb : az = none → cz = 0) (hnc : n ≤ cz) (hcm : cz ≤ maxLen) (hr : RdB w [] az z) (hp : ¬ PkOk z) : Calls Tryd.prog 41 #[.slice az n cz] w (Post w [] (fun v L => v = .tuple #[I64 0, U64 0, .iface 50 (I64 2)] ∧ L = [])) := by
  by_cases hs : n < 25 ∨ 262144 < n
  · exact peekS_c az n cz z w hz hcb hnc hcm hr hs
  · exact peekW_c az n cz z w hz hcb hnc hcm hr (by omega) (by omega) (fun h => hp ⟨by omega, by omega, h⟩)

theorem rpeekB_w (az : Option Addr) (n cz : Nat) (z : List UInt8) (w : World) (hz : z.length = n) (hcb : az = none → cz = 0) (hnc : n ≤ cz) (hcm : cz ≤ maxLen) (hr : RdB w [] az z) (hp : ¬ PkOk z) : Calls Tryd.prog 42 #[.slice az n cz] w (Post w [] (fun v L => v = .tuple #[I64 0, U64 0, I64 2] ∧ L = [])) := by
  by_cases hs : n < 25 ∨ 262144 < n
  · exact rpeekS_c az n cz z w hz hcb hnc hcm hr hs
  · exact rpeekW_c az n cz z w hz hcb hnc hcm hr (by omega) (by omega) (fun h => hp ⟨by omega, by omega, h⟩)

theorem lopenP_c (key : List UInt8) (way : Int) (s : UInt64) (az : Option Addr) (n cz : Nat) (z : List UInt8)  (w : World) (hk : key.length = 32) (hz : z.length = n) (hcb : az = none → cz = 0) (hnc : n ≤ cz) (hcm : cz ≤ maxLen) (hr : RdB w [] az z) (hp : ¬ PkOk z) : Calls Tryd.prog 39 #[.agg (cu8 key).toArray, I64 (way), U64 s, .slice az n cz] w (Post w [] (fun v L => v = .tuple #[.slice none 0 0, .iface 50 (I64 2)] ∧ L = [])) := by
  have hmx : maxLen = 9223372036854775807 := rfl
  refine enter w [] 56 [] [.agg (cu8 key).toArray, I64 (way), U64 s, .slice az n cz] Tryd.func39 rfl rfl (by simp) (Hp.start (by simp) (by simp) (by simp)) ?_
  show JC _ _ _ [(0, .agg (cu8 key).toArray), (1, I64 (way)), (2, U64 s), (3, .slice az n cz)] _
  refine JC_seq ?_
  refine JC_region ?_
  refine JL_step (Step_box (.agg (cu8 key).toArray) (cu8 key) rfl (by first | rfl | simp)) rfl ?_
  rintro v1 L1 ⟨nb1, hnb1, rfl, rfl⟩
  show JL _ _ _ _ ((4, Ptr nb1 0) :: _) [⟨nb1, cu8 key, 54, (0, 0)⟩]
  refine JL_val _ (Ev_assign rfl) rfl ?_
  refine JL_val _ (Ev_assign rfl) rfl ?_
  refine JL_nil ?_
  refine JQ_then ?_
  refine JC_seq ?_
  refine JC_region ?_
  refine JL_val _ (Ev_move rfl) rfl ?_
  refine JL_step (Step_callP 41 [.slice az n cz] (.tuple #[I64 (0:Int), U64 (0:UInt64), .iface 50 (I64 (2:Int))]) (Cl_func [.slice az n cz] Tryd.call41 rfl) (fun w1 hw1 => peekB_w az n cz z w1 hz hcb (by omega) (by omega) (hr.at (M' := []) hw1 (by simp)) hp)) rfl ?_
  rintro v1 L1 ⟨rfl, rfl⟩
  show JL _ _ _ _ ((17, .tuple #[I64 (0:Int), U64 (0:UInt64), .iface 50 (I64 (2:Int))]) :: _) [⟨nb1, cu8 key, 54, (0, 0)⟩]
  refine JL_val _ (Ev_move rfl) rfl ?_
  refine JL_val _ (Ev_extract rfl rfl) rfl ?_
  refine JL_val _ (Ev_extract rfl rfl) rfl ?_
  refine JL_val _ (Ev_extract rfl rfl) rfl ?_
  refine JL_val _ (Ev_assign rfl) rfl ?_
  refine JL_val _ (Ev_assign rfl) rfl ?_
  refine JL_val _ (Ev_assign rfl) rfl ?_
  refine JL_nil ?_
  refine JQ_then ?_
  refine JC_seq ?_
  refine JC_block ?_
  refine JC_seq ?_
  refine JC_region ?_
  refine JL_val _ (Ev_move rfl) rfl ?_
  refine JL_val (.bool true) (Ev_bin _ _ _ rfl rfl (fun _ => eqGuard_if ..) fun _ => neq_if_nil Tryd.underlying45) rfl ?_
  refine JL_val _ (Ev_assign rfl) rfl ?_
  refine JL_nil ?_
  refine JQ_then ?_
  refine JC_condT _ rfl rfl ?_
  refine JC_seq ?_
  refine JC_region ?_
  refine JL_val _ (Ev_move rfl) rfl ?_
  refine JL_val _ (Ev_assign rfl) rfl ?_
  refine JL_val _ (Ev_assign rfl) rfl ?_
  refine JL_nil ?_
  refine JQ_then ?_
  refine JC_ret ?_
  refine JQ_in_ret ?_
  refine JQ_then_ret ?_
  refine K_mask [false] ?_
  show JQ _ _ _ _ []
  refine JQ_ret (.tuple #[.slice none 0 0, .iface 50 (I64 (2:Int))]) (res2 Tryd.results39 (RV_tmp rfl) (RV_tmp rfl)) fun w1 hw1 => ?_
  exact ⟨_, [], rfl, ⟨rfl, rfl⟩, hw1.sub (by simp) (by simp)⟩

theorem lopenS_c (key : List UInt8) (way : Int) (s : UInt64) (az : Option Addr) (n cz : Nat) (z : List UInt8)  (w : World) (hk : key.length = 32) (hz : z.length = n) (hcb : az = none → cz = 0) (hnc : n ≤ cz) (hcm : cz ≤ maxLen) (hr : RdB w [] az z) (hp : PkOk z) (hm : ¬ ((wayF z : Int) = way ∧ seF z = s))  : Calls Tryd.prog 39 #[.agg (cu8 key).toArray, I64 (way), U64 s, .slice az n cz] w (Post w [] (fun v L => v = .tuple #[.slice none 0 0, .iface 50 (I64 6)] ∧ L = [])) := by
  obtain ⟨hp1, hp2, hp3⟩ := id hp
  rw [hz] at hp1 hp2
  have hwy := way_eq z
  have hsome : az.isNone = false := by
    obtain ⟨_, _, ha, _⟩ := hr.pos (by omega)
    rw [ha]; rfl
  have hmx : maxLen = 9223372036854775807 := rfl
  refine enter w [] 56 [] [.agg (cu8 key).toArray, I64 (way), U64 s, .slice az n cz] Tryd.func39 rfl rfl (by simp) (Hp.start (by simp) (by simp) (by simp)) ?_
  show JC _ _ _ [(0, .agg (cu8 key).toArray), (1, I64 (way)), (2, U64 s), (3, .slice az n cz)] _
  refine JC_seq ?_
  refine JC_region ?_
  refine JL_step (Step_box (.agg (cu8 key).toArray) (cu8 key) rfl (by first | rfl | simp)) rfl ?_
  rintro v1 L1 ⟨nb1, hnb1, rfl, rfl⟩
  show JL _ _ _ _ ((4, Ptr nb1 0) :: _) [⟨nb1, cu8 key, 54, (0, 0)⟩]
  refine JL_val _ (Ev_assign rfl) rfl ?_
  refine JL_val _ (Ev_assign rfl) rfl ?_
  refine JL_nil ?_
  refine JQ_then ?_
  refine JC_seq ?_
  refine JC_region ?_
  refine JL_val _ (Ev_move rfl) rfl ?_
  refine JL_step (Step_callP 41 [.slice az n cz] (.tuple #[I64 (((wayF z):Int)), U64 (seF z), .nilIface]) (Cl_func [.slice az n cz] Tryd.call41 rfl) (fun w1 hw1 => peek_c az n cz z w1 hz hcb (by omega) (by omega) (hr.at (M' := []) hw1 (by simp)) hp)) rfl ?_
  rintro v1 L1 ⟨rfl, rfl⟩
  show JL _ _ _ _ ((17, .tuple #[I64 (((wayF z):Int)), U64 (seF z), .nilIface]) :: _) [⟨nb1, cu8 key, 54, (0, 0)⟩]
  refine JL_val _ (Ev_move rfl) rfl ?_
  refine JL_val _ (Ev_extract rfl rfl) rfl ?_
  refine JL_val _ (Ev_extract rfl rfl) rfl ?_
  refine JL_val _ (Ev_extract rfl rfl) rfl ?_
  refine JL_val _ (Ev_assign rfl) rfl ?_
  refine JL_val _ (Ev_assign rfl) rfl ?_
  refine JL_val _ (Ev_assign rfl) rfl ?_
  refine JL_nil ?_
  refine JQ_then ?_
  refine JC_seq ?_
  refine JC_block ?_
  refine JC_seq ?_
  refine JC_region ?_
  refine JL_val _ (Ev_move rfl) rfl ?_
  refine JL_val (.bool false) (Ev_bin _ _ _ rfl rfl (fun _ => eqGuard_nn ..) fun _ => neq_if_nil_nil Tryd.underlying45) rfl ?_
  refine JL_val _ (Ev_assign rfl) rfl ?_
  refine JL_nil ?_
  refine JQ_then ?_
  refine JC_condF _ rfl rfl ?_
  refine JC_seq ?_
  refine JC_region ?_
  refine JL_val _ (Ev_move rfl) rfl ?_
  refine JL_val _ (Ev_move rfl) rfl ?_
  refine JL_val (.bool (decide ((((wayF z):Int)) ≠ (way)))) (Ev_bini rfl rfl fun _ => bin_neq_i _ _) rfl ?_
  refine JL_val _ (Ev_move rfl) rfl ?_
  rcases Bool.eq_false_or_eq_true (decide ((((wayF z):Int)) ≠ (way))) with hb1 | hb1
  ·
    have hp1 : (((wayF z):Int)) ≠ (way) := of_decide_eq_true hb1
    refine JL_gskip 3 29 false _ rfl rfl hb1 rfl ?_
    refine JL_gskip 3 29 false _ rfl rfl hb1 rfl ?_
    refine JL_gskip 3 29 false _ rfl rfl hb1 rfl ?_
    refine JL_val _ (Ev_pickT _ rfl hb1 rfl) rfl ?_
    refine JL_val _ (Ev_assign rfl) rfl ?_
    refine JL_nil ?_
    refine JQ_then ?_
    refine JC_condT _ rfl rfl ?_
    refine JC_seq ?_
    refine JC_region ?_
    refine JL_val (.iface 50 (I64 (6:Int))) (Ev_iface Tryd.underlying50 rfl rfl) rfl ?_
    refine JL_val _ (Ev_assign rfl) rfl ?_
    refine JL_val _ (Ev_assign rfl) rfl ?_
    refine JL_nil ?_
    refine JQ_then ?_
    refine JC_ret ?_
    refine JQ_in_ret ?_
    refine JQ_then_ret ?_
    refine K_mask [false] ?_
    show JQ _ _ _ _ []
    refine JQ_ret (.tuple #[.slice none 0 0, .iface 50 (I64 (6:Int))]) (res2 Tryd.results39 (RV_tmp rfl) (RV_tmp rfl)) fun w1 hw1 => ?_
    exact ⟨_, [], rfl, ⟨rfl, rfl⟩, hw1.sub (by simp) (by simp)⟩
  ·
    have hp1 : ¬ ((((wayF z):Int)) ≠ (way)) := of_decide_eq_false hb1
    refine JL_gval 3 29 false _ _ rfl rfl hb1 (Ev_move rfl) rfl ?_
    refine JL_gval 3 29 false _ _ rfl rfl hb1 (Ev_move rfl) rfl ?_
    refine JL_gval 3 29 false _ (.bool (decide ((seF z) ≠ s))) rfl rfl hb1 (Ev_bini rfl rfl fun _ => bin_neq_u64 (seF z) s) rfl ?_
    refine JL_val _ (Ev_pickF _ rfl hb1 rfl) rfl ?_
    refine JL_val _ (Ev_assign rfl) rfl ?_
    refine JL_nil ?_
    refine JQ_then ?_
    refine JC_condT _ rfl (decide_eq_true (fun h => hm ⟨Classical.not_not.1 (of_decide_eq_false hb1), h⟩)) ?_
    refine JC_seq ?_
    refine JC_region ?_
    refine JL_val (.iface 50 (I64 (6:Int))) (Ev_iface Tryd.underlying50 rfl rfl) rfl ?_
    refine JL_val _ (Ev_assign rfl) rfl ?_
    refine JL_val _ (Ev_assign rfl) rfl ?_
    refine JL_nil ?_
    refine JQ_then ?_
    refine JC_ret ?_
    refine JQ_in_ret ?_
    refine JQ_then_ret ?_
    refine K_mask [false] ?_
    show JQ _ _ _ _ []
    refine JQ_ret (.tuple #[.slice none 0 0, .iface 50 (I64 (6:Int))]) (res2 Tryd.results39 (RV_tmp rfl) (RV_tmp rfl)) fun w1 hw1 => ?_
    exact ⟨_, [], rfl, ⟨rfl, rfl⟩, hw1.sub (by simp) (by simp)⟩

theorem lopenA_c (key : List UInt8) (az : Option Addr) (n cz : Nat) (z : List UInt8)  (w : World) (hk : key.length = 32) (hz : z.length = n) (hcb : az = none → cz = 0) (hnc : n ≤ cz) (hcm : cz ≤ maxLen) (hr : RdB w [] az z) (hp : PkOk z) (hau : ¬ AuthP key (seF z) z) (hG : GLs w)  : Calls Tryd.prog 39 #[.agg (cu8 key).toArray, I64 (((wayF z):Int)), U64 (seF z), .slice az n cz] w (Post w [] (fun v L => v = .tuple #[.slice none 0 0, .iface 50 (I64 4)] ∧ L = [])) := by
  obtain ⟨hp1, hp2, hp3⟩ := id hp
  rw [hz] at hp1 hp2
  have hwy := way_eq z
  have hsome : az.isNone = false := by
    obtain ⟨_, _, ha, _⟩ := hr.pos (by omega)
    rw [ha]; rfl
  have hmx : maxLen = 9223372036854775807 := rfl
  refine enter w [] 56 [] [.agg (cu8 key).toArray, I64 (((wayF z):Int)), U64 (seF z), .slice az n cz] Tryd.func39 rfl rfl (by simp) (Hp.start (by simp) (by simp) (by simp)) ?_
  show JC _ _ _ [(0, .agg (cu8 key).toArray), (1, I64 (((wayF z):Int))), (2, U64 (seF z)), (3, .slice az n cz)] _
  refine JC_seq ?_
  refine JC_region ?_
  refine JL_step (Step_box (.agg (cu8 key).toArray) (cu8 key) rfl (by first | rfl | simp)) rfl ?_
  rintro v1 L1 ⟨nb1, hnb1, rfl, rfl⟩
  show JL _ _ _ _ ((4, Ptr nb1 0) :: _) [⟨nb1, cu8 key, 54, (0, 0)⟩]
  refine JL_val _ (Ev_assign rfl) rfl ?_
  refine JL_val _ (Ev_assign rfl) rfl ?_
  refine JL_nil ?_
  refine JQ_then ?_
  refine JC_seq ?_
  refine JC_region ?_
  refine JL_val _ (Ev_move rfl) rfl ?_
  refine JL_step (Step_callP 41 [.slice az n cz] (.tuple #[I64 (((wayF z):Int)), U64 (seF z), .nilIface]) (Cl_func [.slice az n cz] Tryd.call41 rfl) (fun w1 hw1 => peek_c az n cz z w1 hz hcb (by omega) (by omega) (hr.at (M' := []) hw1 (by simp)) hp)) rfl ?_
  rintro v1 L1 ⟨rfl, rfl⟩
  show JL _ _ _ _ ((17, .tuple #[I64 (((wayF z):Int)), U64 (seF z), .nilIface]) :: _) [⟨nb1, cu8 key, 54, (0, 0)⟩]
  refine JL_val _ (Ev_move rfl) rfl ?_
  refine JL_val _ (Ev_extract rfl rfl) rfl ?_
  refine JL_val _ (Ev_extract rfl rfl) rfl ?_
  refine JL_val _ (Ev_extract rfl rfl) rfl ?_
  refine JL_val _ (Ev_assign rfl) rfl ?_
  refine JL_val _ (Ev_assign rfl) rfl ?_
  refine JL_val _ (Ev_assign rfl) rfl ?_
  refine JL_nil ?_
  refine JQ_then ?_
  refine JC_seq ?_
  refine JC_block ?_
  refine JC_seq ?_
  refine JC_region ?_
  refine JL_val _ (Ev_move rfl) rfl ?_
  refine JL_val (.bool false) (Ev_bin _ _ _ rfl rfl (fun _ => eqGuard_nn ..) fun _ => neq_if_nil_nil Tryd.underlying45) rfl ?_
  refine JL_val _ (Ev_assign rfl) rfl ?_
  refine JL_nil ?_
  refine JQ_then ?_
  refine JC_condF _ rfl rfl ?_
  refine JC_seq ?_
  refine JC_region ?_
  refine JL_val _ (Ev_move rfl) rfl ?_
  refine JL_val _ (Ev_move rfl) rfl ?_
  refine JL_val (.bool (decide ((((wayF z):Int)) ≠ (((wayF z):Int))))) (Ev_bini rfl rfl fun _ => bin_neq_i _ _) rfl ?_
  refine JL_val _ (Ev_move rfl) rfl ?_
  refine JL_gval 3 29 false _ _ rfl rfl (by simp) (Ev_move rfl) rfl ?_
  refine JL_gval 3 29 false _ _ rfl rfl (by simp) (Ev_move rfl) rfl ?_
  refine JL_gval 3 29 false _ (.bool (decide ((seF z) ≠ (seF z)))) rfl rfl (by simp) (Ev_bini rfl rfl fun _ => bin_neq_u64 (seF z) (seF z)) rfl ?_
  refine JL_val _ (Ev_pickF _ rfl (by simp) rfl) rfl ?_
  refine JL_val _ (Ev_assign rfl) rfl ?_
  refine JL_nil ?_
  refine JQ_then ?_
  refine JC_condF _ rfl (decide_eq_false (fun h => h rfl)) ?_
  refine JC_skip ?_
  refine JQ_in_normal ?_
  refine JQ_then ?_
  refine JC_seq ?_
  refine JC_region ?_
  refine JL_val (.agg (cu8 key).toArray) (Ev_load rfl (Ld_agg Tryd.isAgg54 Tryd.sizeOf54 (len_cu8 hk) (MemAt.ent 0 rfl (Seg.whole _)))) rfl ?_
  refine JL_val _ (Ev_move rfl) rfl ?_
  refine JL_step (Step_callP 89 [.agg (cu8 key).toArray, U64 (seF z)] (.agg (cu8 (macL key (numN 8 (seF z) 8))).toArray) (Cl_func [.agg (cu8 key).toArray, U64 (seF z)] Tryd.call89 rfl) (fun w1 hw1 => session_c key (seF z) w1 hk (hG.at hw1))) rfl ?_
  rintro v1 L1 ⟨rfl, rfl⟩
  show JL _ _ _ _ ((37, .agg (cu8 (macL key (numN 8 (seF z) 8))).toArray) :: _) [⟨nb1, cu8 key, 54, (0, 0)⟩]
  refine JL_step (Step_alloc _ (cu8 (zr8 32)) Tryd.zeroValue54 (by kernel_rfl)) rfl ?_
  rintro v1 L1 ⟨nb2, hnb2, rfl, rfl⟩
  show JL _ _ _ _ ((13, Ptr nb2 0) :: _) [⟨nb1, cu8 key, 54, (0, 0)⟩, ⟨nb2, cu8 (zr8 32), 54, (0, 0)⟩]
  refine JL_step (Step_store 1 nb2 0 32 (cu8 (zr8 32)) 54 (.agg (cu8 (macL key (numN 8 (seF z) 8))).toArray) (cu8 (macL key (numN 8 (seF z) 8))) (cu8 (macL key (numN 8 (seF z) 8))) rfl rfl rfl (by first | rfl | simp) Tryd.sizeOf54 (len_cu8 (macL_len _ _)) (by first | exact one_u8 | exact one_u32 | exact one_u64 | (simp [cu8, cu32, cu64, Value.oneCell']; done)) (by simp [(zr8_len 32)]) (lay_whole (by simp [(zr8_len 32), (macL_len _ _)]))) rfl ?_
  rintro v1 L1 ⟨rfl, rfl⟩
  show JL _ _ _ _ _ [⟨nb1, cu8 key, 54, (0, 0)⟩, ⟨nb2, cu8 (macL key (numN 8 (seF z) 8)), 54, (0, 0)⟩]
  refine JL_nil ?_
  refine JQ_then ?_
  refine JC_seq ?_
  refine JC_region ?_
  refine JL_val _ (Ev_move rfl) rfl ?_
  refine JL_val (I64 ((n:Int))) (Ev_len Tryd.underlying43 rfl) rfl ?_
  refine JL_val (I64 ((n:Int) - 16)) (Ev_bini rfl rfl fun _ => bin_sub_i _ _ ((n:Int) - 16) (by omega) (by omega)) rfl ?_
  refine JL_val _ (Ev_assign rfl) rfl ?_
  refine JL_nil ?_
  refine JQ_then ?_
  refine JC_seq ?_
  refine JC_seq ?_
  have hl1 : (z.drop (n - 16)).length = 16 := by rw [List.length_drop, hz] <;> omega
  have hr1 := RdB.adv (c := cz) hr (n - 16) (by rw [hz]; omega) (by rw [hz]; omega)
  have hl2 : (mid z 0 (n - 16)).length = (n - 16) := mid_len (by rw [hz]; omega)
  have hr2 := RdB.pre hr (n - 16)
  refine JC_draw 56 3 [(0, .slice az n cz), (1, I64 ((n:Int) - 16)), (2, .slice (advA az cz (n - 16)) 16 (cz + 16 - n)), (3, Slc nb2 0 32 32), (4, .slice az n cz), (5, I64 ((n:Int) - 16)), (6, .slice az (n - 16) cz)] Tryd.mixed rfl (by decide +kernel) ?_
  have hl3 : (z.drop (n - 16)).length = 16 := by rw [List.length_drop, hz] <;> omega
  have hr3 := RdB.adv (c := cz) hr (n - 16) (by rw [hz]; omega) (by rw [hz]; omega)
  have hl4 : (mid z 0 (n - 16)).length = (n - 16) := mid_len (by rw [hz]; omega)
  have hr4 := RdB.pre hr (n - 16)
  refine DP_one ⟨[], [0, 1, 2, 3, 4, 5, 6], [], [0, 1, 2, 3, 4, 5, 6], [7]⟩ 7 _ rfl rfl (by decide +kernel) rfl ⟨⟨_, rfl, Qok_val rfl (Ev_move rfl)⟩, ⟨_, rfl, Qok_val rfl (Ev_move rfl)⟩, ⟨_, rfl, Qok_val rfl (Ev_sliceLo 5 (n - 16) 16 (cz + 16 - n) Tryd.underlying43 Tryd.sizeOf5 rfl (some_i64 (by omega)) (by omega) (by omega) (by omega) (by omega))⟩, ⟨_, rfl, Qok_val rfl (Ev_sliceA 32 5 1 0 32 0 32 Tryd.underlying54 Tryd.sizeOf5 rfl rfl rfl (by omega) (by omega) (by omega) (by omega) (by omega) 32 (by omega))⟩, ⟨_, rfl, Qok_val rfl (Ev_move rfl)⟩, ⟨_, rfl, Qok_val rfl (Ev_move rfl)⟩, ⟨_, rfl, Qok_val rfl (Ev_sliceHi 5 1 (n - 16) Tryd.underlying43 Tryd.sizeOf5 rfl (some_i64 (by omega)) (by omega))⟩, trivial⟩ rfl (Cok_step rfl (Step_buildSlice 43 1 _ [(0, .slice az (n - 16) cz)] ([.slice az (n - 16) cz]) Tryd.underlying230 Tryd.sizeOf43 Tryd.zeroValue43 rfl rfl rfl (by kernel_rfl))) ?_
  rintro v1 L1 ⟨nb3, hnb3, rfl, rfl⟩
  refine ⟨[], ?_⟩
  show DP _ _ _ _ _ _ _ _ [⟨nb1, cu8 key, 54, (0, 0)⟩, ⟨nb2, cu8 (macL key (numN 8 (seF z) 8)), 54, (0, 0)⟩, ⟨nb3, [.slice az (n - 16) cz], 43, (0, 0)⟩]
  have hl5 : (z.drop (n - 16)).length = 16 := by rw [List.length_drop, hz] <;> omega
  have hr5 := RdB.adv (c := cz) hr (n - 16) (by rw [hz]; omega) (by rw [hz]; omega)
  refine DP_one ⟨[7], [0, 1, 2, 3, 4, 5, 6], [4, 5, 6], [0, 1, 2, 3], [8]⟩ 8 _ rfl rfl (by decide +kernel) rfl ⟨⟨_, rfl, Qok_val rfl (Ev_move rfl)⟩, ⟨_, rfl, Qok_val rfl (Ev_move rfl)⟩, ⟨_, rfl, Qok_val rfl (Ev_sliceLo 5 (n - 16) 16 (cz + 16 - n) Tryd.underlying43 Tryd.sizeOf5 rfl (some_i64 (by omega)) (by omega) (by omega) (by omega) (by omega))⟩, ⟨_, rfl, Qok_val rfl (Ev_sliceA 32 5 1 0 32 0 32 Tryd.underlying54 Tryd.sizeOf5 rfl rfl rfl (by omega) (by omega) (by omega) (by omega) (by omega) 32 (by omega))⟩, trivial⟩ rfl (Cok_step rfl (Step_callP 107 [.slice (advA az cz (n - 16)) 16 (cz + 16 - n), Slc nb2 0 32 32, Slc nb3 0 1 1] (.bool (decide (z.drop (n - 16) = macL (macL key (numN 8 (seF z) 8)) ([mid z 0 (n - 16)].flatten)) || decide (z.drop (n - 16) = mid (macL (macL key (numN 8 (seF z) 8)) ([mid z 0 (n - 16)].flatten)) 0 16))) (Cl_func [.slice (advA az cz (n - 16)) 16 (cz + 16 - n), Slc nb2 0 32 32, Slc nb3 0 1 1] Tryd.call107 rfl) (fun w1 hw1 => check_c (advA az cz (n - 16)) 16 (cz + 16 - n) (z.drop (n - 16)) (some ⟨nb2, 0, none⟩) 32 32 (macL key (numN 8 (seF z) 8)) nb3 1 [.slice az (n - 16) cz] [mid z 0 (n - 16)] w1 hl1 (by omega) (hr1.at (M' := []) hw1 (by simp)) (macL_len _ _) (fun h => by cases h) (by omega) (RdB.of hw1 (MemAt.ent 1 rfl (Seg.whole _)) (by simp)) (by simp) (by simp) (by simp) ⟨RdA.of hw1 (MemAt.ent 2 rfl (Seg.head)) (by simp), ⟨⟨az, cz, congrArg (fun n => Value.slice az n cz) (hl2).symm, (hr2.at (M' := []) hw1 (by simp))⟩, trivial⟩⟩ (by simp only [List.flatten_cons, List.flatten_nil, List.length_append, List.length_nil, hl2]; omega) (hG.at hw1)))) ?_
  rintro v1 L1 ⟨rfl, rfl⟩
  refine ⟨[(9, .bool (!(decide (z.drop (n - 16) = macL (macL key (numN 8 (seF z) 8)) ([mid z 0 (n - 16)].flatten)) || decide (z.drop (n - 16) = mid (macL (macL key (numN 8 (seF z) 8)) ([mid z 0 (n - 16)].flatten)) 0 16))))], ?_⟩
  show DP _ _ _ _ _ _ _ _ [⟨nb1, cu8 key, 54, (0, 0)⟩, ⟨nb2, cu8 (macL key (numN 8 (seF z) 8)), 54, (0, 0)⟩, ⟨nb3, [.slice az (n - 16) cz], 43, (0, 0)⟩]
  refine DP_end ⟨[7, 8], [0, 1, 2, 3, 4, 5, 6, 9], [0, 1, 2, 3, 4, 5, 6], [9], []⟩ rfl rfl (by decide +kernel) rfl ⟨⟨_, rfl, Qok_val rfl (Ev_not rfl)⟩, trivial⟩ ?_
  refine K_sub (F' := [(50, .bool (!(decide (z.drop (n - 16) = macL (macL key (numN 8 (seF z) 8)) ([mid z 0 (n - 16)].flatten)) || decide (z.drop (n - 16) = mid (macL (macL key (numN 8 (seF z) 8)) ([mid z 0 (n - 16)].flatten)) 0 16)))), (3, .slice az n cz), (8, .slice none 0 0), (9, .nilIface), (14, I64 ((n:Int) - 16))]) (Sub.cons (by kernel_rfl) (Sub.cons (by kernel_rfl) (Sub.cons (by kernel_rfl) (Sub.cons (by kernel_rfl) (Sub.cons (by kernel_rfl) (Sub.nil)))))) ?_
  show JQ _ _ _ [(50, .bool (!(decide (z.drop (n - 16) = macL (macL key (numN 8 (seF z) 8)) ([mid z 0 (n - 16)].flatten)) || decide (z.drop (n - 16) = mid (macL (macL key (numN 8 (seF z) 8)) ([mid z 0 (n - 16)].flatten)) 0 16)))), (3, .slice az n cz), (8, .slice none 0 0), (9, .nilIface), (14, I64 ((n:Int) - 16))] _
  refine JQ_then ?_
  refine JC_condT _ rfl (by rw [show ((decide (z.drop (n - 16) = macL (macL key (numN 8 (seF z) 8)) ([mid z 0 (n - 16)].flatten)) || decide (z.drop (n - 16) = mid (macL (macL key (numN 8 (seF z) 8)) ([mid z 0 (n - 16)].flatten)) 0 16))) = false from (by rw [chk_auth hz hp1]; exact decide_eq_false hau)] <;> rfl) ?_
  refine JC_seq ?_
  refine JC_region ?_
  refine JL_val (.iface 50 (I64 (4:Int))) (Ev_iface Tryd.underlying50 rfl rfl) rfl ?_
  refine JL_val _ (Ev_assign rfl) rfl ?_
  refine JL_val _ (Ev_assign rfl) rfl ?_
  refine JL_nil ?_
  refine JQ_then ?_
  refine JC_ret ?_
  refine JQ_then_ret ?_
  refine K_mask [false, false, false] ?_
  show JQ _ _ _ _ []
  refine JQ_ret (.tuple #[.slice none 0 0, .iface 50 (I64 (4:Int))]) (res2 Tryd.results39 (RV_tmp rfl) (RV_tmp rfl)) fun w1 hw1 => ?_
  exact ⟨_, [], rfl, ⟨rfl, rfl⟩, hw1.sub (by simp) (by simp)⟩

theorem lopenK_c (key : List UInt8) (az : Option Addr) (n cz : Nat) (z : List UInt8)  (w : World) (hk : key.length = 32) (hz : z.length = n) (hcb : az = none → cz = 0) (hnc : n ≤ cz) (hcm : cz ≤ maxLen) (hr : RdB w [] az z) (hp : PkOk z) (hau : AuthP key (seF z) z) (hG : GLs w)  : Calls Tryd.prog 39 #[.agg (cu8 key).toArray, I64 (((wayF z):Int)), U64 (seF z), .slice az n cz] w (Post w [] (fun v L => ∃ g sp cap, v = .tuple #[Slc g 0 (n - 25) cap, .nilIface] ∧ L = [⟨g, cu8 (mid (z.drop 9) 0 (n - 25)) ++ sp, 5, (0, 0)⟩] ∧ sp.length = cap - (n - 25) ∧ (n - 25) ≤ cap ∧ cap ≤ maxLen)) := by
  obtain ⟨hp1, hp2, hp3⟩ := id hp
  rw [hz] at hp1 hp2
  have hwy := way_eq z
  have hsome : az.isNone = false := by
    obtain ⟨_, _, ha, _⟩ := hr.pos (by omega)
    rw [ha]; rfl
  have hmx : maxLen = 9223372036854775807 := rfl
  refine enter w [] 56 [] [.agg (cu8 key).toArray, I64 (((wayF z):Int)), U64 (seF z), .slice az n cz] Tryd.func39 rfl rfl (by simp) (Hp.start (by simp) (by simp) (by simp)) ?_
  show JC _ _ _ [(0, .agg (cu8 key).toArray), (1, I64 (((wayF z):Int))), (2, U64 (seF z)), (3, .slice az n cz)] _
  refine JC_seq ?_
  refine JC_region ?_
  refine JL_step (Step_box (.agg (cu8 key).toArray) (cu8 key) rfl (by first | rfl | simp)) rfl ?_
  rintro v1 L1 ⟨nb1, hnb1, rfl, rfl⟩
  show JL _ _ _ _ ((4, Ptr nb1 0) :: _) [⟨nb1, cu8 key, 54, (0, 0)⟩]
  refine JL_val _ (Ev_assign rfl) rfl ?_
  refine JL_val _ (Ev_assign rfl) rfl ?_
  refine JL_nil ?_
  refine JQ_then ?_
  refine JC_seq ?_
  refine JC_region ?_
  refine JL_val _ (Ev_move rfl) rfl ?_
  refine JL_step (Step_callP 41 [.slice az n cz] (.tuple #[I64 (((wayF z):Int)), U64 (seF z), .nilIface]) (Cl_func [.slice az n cz] Tryd.call41 rfl) (fun w1 hw1 => peek_c az n cz z w1 hz hcb (by omega) (by omega) (hr.at (M' := []) hw1 (by simp)) hp)) rfl ?_
  rintro v1 L1 ⟨rfl, rfl⟩
  show JL _ _ _ _ ((17, .tuple #[I64 (((wayF z):Int)), U64 (seF z), .nilIface]) :: _) [⟨nb1, cu8 key, 54, (0, 0)⟩]
  refine JL_val _ (Ev_move rfl) rfl ?_
  refine JL_val _ (Ev_extract rfl rfl) rfl ?_
  refine JL_val _ (Ev_extract rfl rfl) rfl ?_
  refine JL_val _ (Ev_extract rfl rfl) rfl ?_
  refine JL_val _ (Ev_assign rfl) rfl ?_
  refine JL_val _ (Ev_assign rfl) rfl ?_
  refine JL_val _ (Ev_assign rfl) rfl ?_
  refine JL_nil ?_
  refine JQ_then ?_
  refine JC_seq ?_
  refine JC_block ?_
  refine JC_seq ?_
  refine JC_region ?_
  refine JL_val _ (Ev_move rfl) rfl ?_
  refine JL_val (.bool false) (Ev_bin _ _ _ rfl rfl (fun _ => eqGuard_nn ..) fun _ => neq_if_nil_nil Tryd.underlying45) rfl ?_
  refine JL_val _ (Ev_assign rfl) rfl ?_
  refine JL_nil ?_
  refine JQ_then ?_
  refine JC_condF _ rfl rfl ?_
  refine JC_seq ?_
  refine JC_region ?_
  refine JL_val _ (Ev_move rfl) rfl ?_
  refine JL_val _ (Ev_move rfl) rfl ?_
  refine JL_val (.bool (decide ((((wayF z):Int)) ≠ (((wayF z):Int))))) (Ev_bini rfl rfl fun _ => bin_neq_i _ _) rfl ?_
  refine JL_val _ (Ev_move rfl) rfl ?_
  refine JL_gval 3 29 false _ _ rfl rfl (by simp) (Ev_move rfl) rfl ?_
  refine JL_gval 3 29 false _ _ rfl rfl (by simp) (Ev_move rfl) rfl ?_
  refine JL_gval 3 29 false _ (.bool (decide ((seF z) ≠ (seF z)))) rfl rfl (by simp) (Ev_bini rfl rfl fun _ => bin_neq_u64 (seF z) (seF z)) rfl ?_
  refine JL_val _ (Ev_pickF _ rfl (by simp) rfl) rfl ?_
  refine JL_val _ (Ev_assign rfl) rfl ?_
  refine JL_nil ?_
  refine JQ_then ?_
  refine JC_condF _ rfl (decide_eq_false (fun h => h rfl)) ?_
  refine JC_skip ?_
  refine JQ_in_normal ?_
  refine JQ_then ?_
  refine JC_seq ?_
  refine JC_region ?_
  refine JL_val (.agg (cu8 key).toArray) (Ev_load rfl (Ld_agg Tryd.isAgg54 Tryd.sizeOf54 (len_cu8 hk) (MemAt.ent 0 rfl (Seg.whole _)))) rfl ?_
  refine JL_val _ (Ev_move rfl) rfl ?_
  refine JL_step (Step_callP 89 [.agg (cu8 key).toArray, U64 (seF z)] (.agg (cu8 (macL key (numN 8 (seF z) 8))).toArray) (Cl_func [.agg (cu8 key).toArray, U64 (seF z)] Tryd.call89 rfl) (fun w1 hw1 => session_c key (seF z) w1 hk (hG.at hw1))) rfl ?_
  rintro v1 L1 ⟨rfl, rfl⟩
  show JL _ _ _ _ ((37, .agg (cu8 (macL key (numN 8 (seF z) 8))).toArray) :: _) [⟨nb1, cu8 key, 54, (0, 0)⟩]
  refine JL_step (Step_alloc _ (cu8 (zr8 32)) Tryd.zeroValue54 (by kernel_rfl)) rfl ?_
  rintro v1 L1 ⟨nb2, hnb2, rfl, rfl⟩
  show JL _ _ _ _ ((13, Ptr nb2 0) :: _) [⟨nb1, cu8 key, 54, (0, 0)⟩, ⟨nb2, cu8 (zr8 32), 54, (0, 0)⟩]
  refine JL_step (Step_store 1 nb2 0 32 (cu8 (zr8 32)) 54 (.agg (cu8 (macL key (numN 8 (seF z) 8))).toArray) (cu8 (macL key (numN 8 (seF z) 8))) (cu8 (macL key (numN 8 (seF z) 8))) rfl rfl rfl (by first | rfl | simp) Tryd.sizeOf54 (len_cu8 (macL_len _ _)) (by first | exact one_u8 | exact one_u32 | exact one_u64 | (simp [cu8, cu32, cu64, Value.oneCell']; done)) (by simp [(zr8_len 32)]) (lay_whole (by simp [(zr8_len 32), (macL_len _ _)]))) rfl ?_
  rintro v1 L1 ⟨rfl, rfl⟩
  show JL _ _ _ _ _ [⟨nb1, cu8 key, 54, (0, 0)⟩, ⟨nb2, cu8 (macL key (numN 8 (seF z) 8)), 54, (0, 0)⟩]
  refine JL_nil ?_
  refine JQ_then ?_
  refine JC_seq ?_
  refine JC_region ?_
  refine JL_val _ (Ev_move rfl) rfl ?_
  refine JL_val (I64 ((n:Int))) (Ev_len Tryd.underlying43 rfl) rfl ?_
  refine JL_val (I64 ((n:Int) - 16)) (Ev_bini rfl rfl fun _ => bin_sub_i _ _ ((n:Int) - 16) (by omega) (by omega)) rfl ?_
  refine JL_val _ (Ev_assign rfl) rfl ?_
  refine JL_nil ?_
  refine JQ_then ?_
  refine JC_seq ?_
  refine JC_seq ?_
  have hl1 : (z.drop (n - 16)).length = 16 := by rw [List.length_drop, hz] <;> omega
  have hr1 := RdB.adv (c := cz) hr (n - 16) (by rw [hz]; omega) (by rw [hz]; omega)
  have hl2 : (mid z 0 (n - 16)).length = (n - 16) := mid_len (by rw [hz]; omega)
  have hr2 := RdB.pre hr (n - 16)
  refine JC_draw 56 3 [(0, .slice az n cz), (1, I64 ((n:Int) - 16)), (2, .slice (advA az cz (n - 16)) 16 (cz + 16 - n)), (3, Slc nb2 0 32 32), (4, .slice az n cz), (5, I64 ((n:Int) - 16)), (6, .slice az (n - 16) cz)] Tryd.mixed rfl (by decide +kernel) ?_
  have hl3 : (z.drop (n - 16)).length = 16 := by rw [List.length_drop, hz] <;> omega
  have hr3 := RdB.adv (c := cz) hr (n - 16) (by rw [hz]; omega) (by rw [hz]; omega)
  have hl4 : (mid z 0 (n - 16)).length = (n - 16) := mid_len (by rw [hz]; omega)
  have hr4 := RdB.pre hr (n - 16)
  refine DP_one ⟨[], [0, 1, 2, 3, 4, 5, 6], [], [0, 1, 2, 3, 4, 5, 6], [7]⟩ 7 _ rfl rfl (by decide +kernel) rfl ⟨⟨_, rfl, Qok_val rfl (Ev_move rfl)⟩, ⟨_, rfl, Qok_val rfl (Ev_move rfl)⟩, ⟨_, rfl, Qok_val rfl (Ev_sliceLo 5 (n - 16) 16 (cz + 16 - n) Tryd.underlying43 Tryd.sizeOf5 rfl (some_i64 (by omega)) (by omega) (by omega) (by omega) (by omega))⟩, ⟨_, rfl, Qok_val rfl (Ev_sliceA 32 5 1 0 32 0 32 Tryd.underlying54 Tryd.sizeOf5 rfl rfl rfl (by omega) (by omega) (by omega) (by omega) (by omega) 32 (by omega))⟩, ⟨_, rfl, Qok_val rfl (Ev_move rfl)⟩, ⟨_, rfl, Qok_val rfl (Ev_move rfl)⟩, ⟨_, rfl, Qok_val rfl (Ev_sliceHi 5 1 (n - 16) Tryd.underlying43 Tryd.sizeOf5 rfl (some_i64 (by omega)) (by omega))⟩, trivial⟩ rfl (Cok_step rfl (Step_buildSlice 43 1 _ [(0, .slice az (n - 16) cz)] ([.slice az (n - 16) cz]) Tryd.underlying230 Tryd.sizeOf43 Tryd.zeroValue43 rfl rfl rfl (by kernel_rfl))) ?_
  rintro v1 L1 ⟨nb3, hnb3, rfl, rfl⟩
  refine ⟨[], ?_⟩
  show DP _ _ _ _ _ _ _ _ [⟨nb1, cu8 key, 54, (0, 0)⟩, ⟨nb2, cu8 (macL key (numN 8 (seF z) 8)), 54, (0, 0)⟩, ⟨nb3, [.slice az (n - 16) cz], 43, (0, 0)⟩]
  have hl5 : (z.drop (n - 16)).length = 16 := by rw [List.length_drop, hz] <;> omega
  have hr5 := RdB.adv (c := cz) hr (n - 16) (by rw [hz]; omega) (by rw [hz]; omega)
  refine DP_one ⟨[7], [0, 1, 2, 3, 4, 5, 6], [4, 5, 6], [0, 1, 2, 3], [8]⟩ 8 _ rfl rfl (by decide +kernel) rfl ⟨⟨_, rfl, Qok_val rfl (Ev_move rfl)⟩, ⟨_, rfl, Qok_val rfl (Ev_move rfl)⟩, ⟨_, rfl, Qok_val rfl (Ev_sliceLo 5 (n - 16) 16 (cz + 16 - n) Tryd.underlying43 Tryd.sizeOf5 rfl (some_i64 (by omega)) (by omega) (by omega) (by omega) (by omega))⟩, ⟨_, rfl, Qok_val rfl (Ev_sliceA 32 5 1 0 32 0 32 Tryd.underlying54 Tryd.sizeOf5 rfl rfl rfl (by omega) (by omega) (by omega) (by omega) (by omega) 32 (by omega))⟩, trivial⟩ rfl (Cok_step rfl (Step_callP 107 [.slice (advA az cz (n - 16)) 16 (cz + 16 - n), Slc nb2 0 32 32, Slc nb3 0 1 1] (.bool (decide (z.drop (n - 16) = macL (macL key (numN 8 (seF z) 8)) ([mid z 0 (n - 16)].flatten)) || decide (z.drop (n - 16) = mid (macL (macL key (numN 8 (seF z) 8)) ([mid z 0 (n - 16)].flatten)) 0 16))) (Cl_func [.slice (advA az cz (n - 16)) 16 (cz + 16 - n), Slc nb2 0 32 32, Slc nb3 0 1 1] Tryd.call107 rfl) (fun w1 hw1 => check_c (advA az cz (n - 16)) 16 (cz + 16 - n) (z.drop (n - 16)) (some ⟨nb2, 0, none⟩) 32 32 (macL key (numN 8 (seF z) 8)) nb3 1 [.slice az (n - 16) cz] [mid z 0 (n - 16)] w1 hl1 (by omega) (hr1.at (M' := []) hw1 (by simp)) (macL_len _ _) (fun h => by cases h) (by omega) (RdB.of hw1 (MemAt.ent 1 rfl (Seg.whole _)) (by simp)) (by simp) (by simp) (by simp) ⟨RdA.of hw1 (MemAt.ent 2 rfl (Seg.head)) (by simp), ⟨⟨az, cz, congrArg (fun n => Value.slice az n cz) (hl2).symm, (hr2.at (M' := []) hw1 (by simp))⟩, trivial⟩⟩ (by simp only [List.flatten_cons, List.flatten_nil, List.length_append, List.length_nil, hl2]; omega) (hG.at hw1)))) ?_
  rintro v1 L1 ⟨rfl, rfl⟩
  refine ⟨[(9, .bool (!(decide (z.drop (n - 16) = macL (macL key (numN 8 (seF z) 8)) ([mid z 0 (n - 16)].flatten)) || decide (z.drop (n - 16) = mid (macL (macL key (numN 8 (seF z) 8)) ([mid z 0 (n - 16)].flatten)) 0 16))))], ?_⟩
  show DP _ _ _ _ _ _ _ _ [⟨nb1, cu8 key, 54, (0, 0)⟩, ⟨nb2, cu8 (macL key (numN 8 (seF z) 8)), 54, (0, 0)⟩, ⟨nb3, [.slice az (n - 16) cz], 43, (0, 0)⟩]
  refine DP_end ⟨[7, 8], [0, 1, 2, 3, 4, 5, 6, 9], [0, 1, 2, 3, 4, 5, 6], [9], []⟩ rfl rfl (by decide +kernel) rfl ⟨⟨_, rfl, Qok_val rfl (Ev_not rfl)⟩, trivial⟩ ?_
  refine K_sub (F' := [(50, .bool (!(decide (z.drop (n - 16) = macL (macL key (numN 8 (seF z) 8)) ([mid z 0 (n - 16)].flatten)) || decide (z.drop (n - 16) = mid (macL (macL key (numN 8 (seF z) 8)) ([mid z 0 (n - 16)].flatten)) 0 16)))), (3, .slice az n cz), (8, .slice none 0 0), (9, .nilIface), (14, I64 ((n:Int) - 16))]) (Sub.cons (by kernel_rfl) (Sub.cons (by kernel_rfl) (Sub.cons (by kernel_rfl) (Sub.cons (by kernel_rfl) (Sub.cons (by kernel_rfl) (Sub.nil)))))) ?_
  show JQ _ _ _ [(50, .bool (!(decide (z.drop (n - 16) = macL (macL key (numN 8 (seF z) 8)) ([mid z 0 (n - 16)].flatten)) || decide (z.drop (n - 16) = mid (macL (macL key (numN 8 (seF z) 8)) ([mid z 0 (n - 16)].flatten)) 0 16)))), (3, .slice az n cz), (8, .slice none 0 0), (9, .nilIface), (14, I64 ((n:Int) - 16))] _
  refine JQ_then ?_
  refine JC_condF _ rfl (by rw [show ((decide (z.drop (n - 16) = macL (macL key (numN 8 (seF z) 8)) ([mid z 0 (n - 16)].flatten)) || decide (z.drop (n - 16) = mid (macL (macL key (numN 8 (seF z) 8)) ([mid z 0 (n - 16)].flatten)) 0 16))) = true from (by rw [chk_auth hz hp1]; exact decide_eq_true hau)] <;> rfl) ?_
  refine JC_skip ?_
  refine JQ_then ?_
  refine JC_seq ?_
  refine JC_region ?_
  refine JL_val _ (Ev_move rfl) rfl ?_
  refine JL_val _ (Ev_move rfl) rfl ?_
  have hl6 : (mid (z.drop 9) 0 (n - 25)).length = (n - 25) := mid_len (by rw [List.length_drop, hz]; omega)
  have hr6 := RdB.pre (RdB.adv (c := cz) hr 9 (by rw [hz]; omega) (by rw [hz]; omega)) (n - 25)
  refine JL_val (.slice (advA az cz 9) (n - 25) (cz - 9)) (Ev_sliceBoth 5 9 (n - 16) (n - 25) (cz - 9) Tryd.underlying43 Tryd.sizeOf5 rfl rfl (some_i64 (by omega)) (by omega) (by omega) (by omega) (by omega)) rfl ?_
  refine JL_step (Step_callN 108 [.slice (advA az cz 9) (n - 25) (cz - 9)] _ (Cl_func [.slice (advA az cz 9) (n - 25) (cz - 9)] Tryd.call108 rfl) (fun w1 hw1 => sclone_c (advA az cz 9) (n - 25) (cz - 9) (mid (z.drop 9) 0 (n - 25)) w1 (advA_some hsome) hl6 (by omega) (hr6.at (M' := []) hw1 (by simp)))) rfl ?_
  rintro v1 L1 ⟨_, ⟨nb4, sp1, cp1, rfl, rfl, hc1, hc2, hc3⟩, rfl⟩
  show JL _ _ _ _ ((55, Slc nb4 0 (n - 25) cp1) :: _) [⟨nb1, cu8 key, 54, (0, 0)⟩, ⟨nb2, cu8 (macL key (numN 8 (seF z) 8)), 54, (0, 0)⟩, ⟨nb3, [.slice az (n - 16) cz], 43, (0, 0)⟩, ⟨nb4, cu8 (mid (z.drop 9) 0 (n - 25)) ++ sp1, 5, (0, 0)⟩]
  refine JL_val _ (Ev_assign rfl) rfl ?_
  refine JL_val _ (Ev_assign rfl) rfl ?_
  refine JL_nil ?_
  refine JQ_then ?_
  refine JC_ret ?_
  refine K_mask [false, false, false, true] ?_
  show JQ _ _ _ _ [⟨nb4, cu8 (mid (z.drop 9) 0 (n - 25)) ++ sp1, 5, (0, 0)⟩]
  refine JQ_ret (.tuple #[Slc nb4 0 (n - 25) cp1, .nilIface]) (res2 Tryd.results39 (RV_tmp rfl) (RV_tmp rfl)) fun w1 hw1 => ?_
  exact ⟨_, _, rfl, ⟨nb4, sp1, cp1, rfl, rfl, hc1, hc2, hc3⟩, hw1.sub (by simp) (by simp)⟩

theorem lopenB_w (key : List UInt8) (way : Int) (s : UInt64) (az : Option Addr) (n cz : Nat) (z : List UInt8) (w : World) (hk : key.length = 32) (hz : z.length = n) (hcb : az = none → cz = 0) (hnc : n ≤ cz) (hcm : cz ≤ maxLen) (hr : RdB w [] az z) (hG : GLs w) (ho : openE key way s z ≠ 0) : Calls Tryd.prog 39 #[.agg (cu8 key).toArray, I64 way, U64 s, .slice az n cz] w (Post w [] (fun v L => v = .tuple #[.slice none 0 0, errV 50 (openE key way s z)] ∧ L = [])) := by
  by_cases hp : PkOk z
  · by_cases hm : (wayF z : Int) = way ∧ seF z = s
    · have hau : ¬ AuthP key (seF z) z := fun h => ho (by unfold openE; rw [if_pos hp, if_pos hm, if_pos (hm.2 ▸ h)])
      have e : openE key way s z = 4 := by unfold openE; rw [if_pos hp, if_pos hm, if_neg (hm.2 ▸ hau)]
      rw [e]
      obtain ⟨rfl, rfl⟩ := hm
      rw [errV_pos (by decide)]; exact lopenA_c key az n cz z w hk hz hcb hnc hcm hr hp hau hG
    · have e : openE key way s z = 6 := by unfold openE; rw [if_pos hp, if_neg hm]
      rw [e]
      rw [errV_pos (by decide)]; exact lopenS_c key way s az n cz z w hk hz hcb hnc hcm hr hp hm
  · have e : openE key way s z = 2 := by unfold openE; rw [if_neg hp]
    rw [e]
    rw [errV_pos (by decide)]; exact lopenP_c key way s az n cz z w hk hz hcb hnc hcm hr hp
theorem lopenK_w (key : List UInt8) (way : Int) (s : UInt64) (az : Option Addr) (n cz : Nat) (z : List UInt8) (w : World) (hk : key.length = 32) (hz : z.length = n) (hcb : az = none → cz = 0) (hnc : n ≤ cz) (hcm : cz ≤ maxLen) (hr : RdB w [] az z) (hG : GLs w) (ho : openE key way s z = 0) : Calls Tryd.prog 39 #[.agg (cu8 key).toArray, I64 way, U64 s, .slice az n cz] w (Post w [] (fun v L => ∃ g sp cap, v = .tuple #[Slc g 0 (n - 25) cap, .nilIface] ∧ L = [⟨g, cu8 (mid (z.drop 9) 0 (n - 25)) ++ sp, 5, (0, 0)⟩] ∧ sp.length = cap - (n - 25) ∧ (n - 25) ≤ cap ∧ cap ≤ maxLen)) := by
  unfold openE at ho
  split at ho
  case isFalse => omega
  rename_i hp
  split at ho
  case isFalse => omega
  rename_i hm
  split at ho
  case isFalse => omega
  rename_i hau
  obtain ⟨rfl, rfl⟩ := hm
  exact lopenK_c key az n cz z w hk hz hcb hnc hcm hr hp hau hG

theorem ropenP_c (key : List UInt8) (way : Int) (s : UInt64) (az : Option Addr) (n cz : Nat) (z : List UInt8)  (w : World) (hk : key.length = 32) (hz : z.length = n) (hcb : az = none → cz = 0) (hnc : n ≤ cz) (hcm : cz ≤ maxLen) (hr : RdB w [] az z) (hp : ¬ PkOk z) : Calls Tryd.prog 40 #[.agg (cu8 key).toArray, I64 (way), U64 s, .slice az n cz] w (Post w [] (fun v L => v = .tuple #[.slice none 0 0, I64 2] ∧ L = [])) := by
  have hmx : maxLen = 9223372036854775807 := rfl
  refine enter w [] 52 [] [.agg (cu8 key).toArray, I64 (way), U64 s, .slice az n cz] Tryd.func40 rfl rfl (by simp) (Hp.start (by simp) (by simp) (by simp)) ?_
  show JC _ _ _ [(0, .agg (cu8 key).toArray), (1, I64 (way)), (2, U64 s), (3, .slice az n cz)] _
  refine JC_seq ?_
  refine JC_region ?_
  refine JL_step (Step_box (.agg (cu8 key).toArray) (cu8 key) rfl (by first | rfl | simp)) rfl ?_
  rintro v1 L1 ⟨nb1, hnb1, rfl, rfl⟩
  show JL _ _ _ _ ((4, Ptr nb1 0) :: _) [⟨nb1, cu8 key, 54, (0, 0)⟩]
  refine JL_val _ (Ev_assign rfl) rfl ?_
  refine JL_val _ (Ev_assign rfl) rfl ?_
  refine JL_nil ?_
  refine JQ_then ?_
  refine JC_seq ?_
  refine JC_region ?_
  refine JL_val _ (Ev_move rfl) rfl ?_
  refine JL_step (Step_callP 42 [.slice az n cz] (.tuple #[I64 (0:Int), U64 (0:UInt64), I64 (2:Int)]) (Cl_func [.slice az n cz] Tryd.call42 rfl) (fun w1 hw1 => rpeekB_w az n cz z w1 hz hcb (by omega) (by omega) (hr.at (M' := []) hw1 (by simp)) hp)) rfl ?_
  rintro v1 L1 ⟨rfl, rfl⟩
  show JL _ _ _ _ ((18, .tuple #[I64 (0:Int), U64 (0:UInt64), I64 (2:Int)]) :: _) [⟨nb1, cu8 key, 54, (0, 0)⟩]
  refine JL_val _ (Ev_move rfl) rfl ?_
  refine JL_val _ (Ev_extract rfl rfl) rfl ?_
  refine JL_val _ (Ev_extract rfl rfl) rfl ?_
  refine JL_val _ (Ev_extract rfl rfl) rfl ?_
  refine JL_val _ (Ev_assign rfl) rfl ?_
  refine JL_val _ (Ev_assign rfl) rfl ?_
  refine JL_val _ (Ev_assign rfl) rfl ?_
  refine JL_nil ?_
  refine JQ_then ?_
  refine JC_seq ?_
  refine JC_seq ?_
  refine JC_region ?_
  refine JL_val _ (Ev_move rfl) rfl ?_
  refine JL_val (.bool (decide ((2:Int) ≠ (0:Int)))) (Ev_bini rfl rfl fun _ => bin_neq_i _ _) rfl ?_
  refine JL_nil ?_
  refine JQ_then ?_
  refine JC_condT _ rfl (by decide) ?_
  refine JC_seq ?_
  refine JC_region ?_
  refine JL_val _ (Ev_move rfl) rfl ?_
  refine JL_val _ (Ev_assign rfl) rfl ?_
  refine JL_val _ (Ev_assign rfl) rfl ?_
  refine JL_nil ?_
  refine JQ_then ?_
  refine JC_ret ?_
  refine JQ_then_ret ?_
  refine K_mask [false] ?_
  show JQ _ _ _ _ []
  refine JQ_ret (.tuple #[.slice none 0 0, I64 (2:Int)]) (res2 Tryd.results40 (RV_tmp rfl) (RV_tmp rfl)) fun w1 hw1 => ?_
  exact ⟨_, [], rfl, ⟨rfl, rfl⟩, hw1.sub (by simp) (by simp)⟩

theorem ropenS_c (key : List UInt8) (way : Int) (s : UInt64) (az : Option Addr) (n cz : Nat) (z : List UInt8)  (w : World) (hk : key.length = 32) (hz : z.length = n) (hcb : az = none → cz = 0) (hnc : n ≤ cz) (hcm : cz ≤ maxLen) (hr : RdB w [] az z) (hp : PkOk z) (hm : ¬ ((wayF z : Int) = way ∧ seF z = s))  : Calls Tryd.prog 40 #[.agg (cu8 key).toArray, I64 (way), U64 s, .slice az n cz] w (Post w [] (fun v L => v = .tuple #[.slice none 0 0, I64 6] ∧ L = [])) := by
  obtain ⟨hp1, hp2, hp3⟩ := id hp
  rw [hz] at hp1 hp2
  have hwy := way_eq z
  have hsome : az.isNone = false := by
    obtain ⟨_, _, ha, _⟩ := hr.pos (by omega)
    rw [ha]; rfl
  have hmx : maxLen = 9223372036854775807 := rfl
  refine enter w [] 52 [] [.agg (cu8 key).toArray, I64 (way), U64 s, .slice az n cz] Tryd.func40 rfl rfl (by simp) (Hp.start (by simp) (by simp) (by simp)) ?_
  show JC _ _ _ [(0, .agg (cu8 key).toArray), (1, I64 (way)), (2, U64 s), (3, .slice az n cz)] _
  refine JC_seq ?_
  refine JC_region ?_
  refine JL_step (Step_box (.agg (cu8 key).toArray) (cu8 key) rfl (by first | rfl | simp)) rfl ?_
  rintro v1 L1 ⟨nb1, hnb1, rfl, rfl⟩
  show JL _ _ _ _ ((4, Ptr nb1 0) :: _) [⟨nb1, cu8 key, 54, (0, 0)⟩]
  refine JL_val _ (Ev_assign rfl) rfl ?_
  refine JL_val _ (Ev_assign rfl) rfl ?_
  refine JL_nil ?_
  refine JQ_then ?_
  refine JC_seq ?_
  refine JC_region ?_
  refine JL_val _ (Ev_move rfl) rfl ?_
  refine JL_step (Step_callP 42 [.slice az n cz] (.tuple #[I64 (((wayF z):Int)), U64 (seF z), I64 (0:Int)]) (Cl_func [.slice az n cz] Tryd.call42 rfl) (fun w1 hw1 => rpeek_c az n cz z w1 hz hcb (by omega) (by omega) (hr.at (M' := []) hw1 (by simp)) hp)) rfl ?_
  rintro v1 L1 ⟨rfl, rfl⟩
  show JL _ _ _ _ ((18, .tuple #[I64 (((wayF z):Int)), U64 (seF z), I64 (0:Int)]) :: _) [⟨nb1, cu8 key, 54, (0, 0)⟩]
  refine JL_val _ (Ev_move rfl) rfl ?_
  refine JL_val _ (Ev_extract rfl rfl) rfl ?_
  refine JL_val _ (Ev_extract rfl rfl) rfl ?_
  refine JL_val _ (Ev_extract rfl rfl) rfl ?_
  refine JL_val _ (Ev_assign rfl) rfl ?_
  refine JL_val _ (Ev_assign rfl) rfl ?_
  refine JL_val _ (Ev_assign rfl) rfl ?_
  refine JL_nil ?_
  refine JQ_then ?_
  refine JC_seq ?_
  refine JC_seq ?_
  refine JC_region ?_
  refine JL_val _ (Ev_move rfl) rfl ?_
  refine JL_val (.bool (decide ((0:Int) ≠ (0:Int)))) (Ev_bini rfl rfl fun _ => bin_neq_i _ _) rfl ?_
  refine JL_nil ?_
  refine JQ_then ?_
  refine JC_condF _ rfl (by decide) ?_
  refine JC_skip ?_
  refine JQ_then ?_
  refine JC_seq ?_
  refine JC_seq ?_
  refine JC_region ?_
  refine JL_val _ (Ev_move rfl) rfl ?_
  refine JL_val _ (Ev_move rfl) rfl ?_
  refine JL_val (.bool (decide ((((wayF z):Int)) ≠ (way)))) (Ev_bini rfl rfl fun _ => bin_neq_i _ _) rfl ?_
  refine JL_val _ (Ev_move rfl) rfl ?_
  rcases Bool.eq_false_or_eq_true (decide ((((wayF z):Int)) ≠ (way))) with hb1 | hb1
  ·
    have hp1 : (((wayF z):Int)) ≠ (way) := of_decide_eq_true hb1
    refine JL_gskip 3 28 false _ rfl rfl hb1 rfl ?_
    refine JL_gskip 3 28 false _ rfl rfl hb1 rfl ?_
    refine JL_gskip 3 28 false _ rfl rfl hb1 rfl ?_
    refine JL_val _ (Ev_pickT _ rfl hb1 rfl) rfl ?_
    refine JL_nil ?_
    refine JQ_then ?_
    refine JC_condT _ rfl rfl ?_
    refine JC_seq ?_
    refine JC_region ?_
    refine JL_val _ (Ev_assign rfl) rfl ?_
    refine JL_val _ (Ev_assign rfl) rfl ?_
    refine JL_nil ?_
    refine JQ_then ?_
    refine JC_ret ?_
    refine JQ_then_ret ?_
    refine K_mask [false] ?_
    show JQ _ _ _ _ []
    refine JQ_ret (.tuple #[.slice none 0 0, I64 (6:Int)]) (res2 Tryd.results40 (RV_tmp rfl) (RV_tmp rfl)) fun w1 hw1 => ?_
    exact ⟨_, [], rfl, ⟨rfl, rfl⟩, hw1.sub (by simp) (by simp)⟩
  ·
    have hp1 : ¬ ((((wayF z):Int)) ≠ (way)) := of_decide_eq_false hb1
    refine JL_gval 3 28 false _ _ rfl rfl hb1 (Ev_move rfl) rfl ?_
    refine JL_gval 3 28 false _ _ rfl rfl hb1 (Ev_move rfl) rfl ?_
    refine JL_gval 3 28 false _ (.bool (decide ((seF z) ≠ s))) rfl rfl hb1 (Ev_bini rfl rfl fun _ => bin_neq_u64 (seF z) s) rfl ?_
    refine JL_val _ (Ev_pickF _ rfl hb1 rfl) rfl ?_
    refine JL_nil ?_
    refine JQ_then ?_
    refine JC_condT _ rfl (decide_eq_true (fun h => hm ⟨Classical.not_not.1 (of_decide_eq_false hb1), h⟩)) ?_
    refine JC_seq ?_
    refine JC_region ?_
    refine JL_val _ (Ev_assign rfl) rfl ?_
    refine JL_val _ (Ev_assign rfl) rfl ?_
    refine JL_nil ?_
    refine JQ_then ?_
    refine JC_ret ?_
    refine JQ_then_ret ?_
    refine K_mask [false] ?_
    show JQ _ _ _ _ []
    refine JQ_ret (.tuple #[.slice none 0 0, I64 (6:Int)]) (res2 Tryd.results40 (RV_tmp rfl) (RV_tmp rfl)) fun w1 hw1 => ?_
    exact ⟨_, [], rfl, ⟨rfl, rfl⟩, hw1.sub (by simp) (by simp)⟩

theorem ropenA_c (key : List UInt8) (az : Option Addr) (n cz : Nat) (z : List UInt8)  (w : World) (hk : key.length = 32) (hz : z.length = n) (hcb : az = none → cz = 0) (hnc : n ≤ cz) (hcm : cz ≤ maxLen) (hr : RdB w [] az z) (hp : PkOk z) (hau : ¬ AuthP key (seF z) z) (hGr : GLr w) (hGi : GLi w)  : Calls Tryd.prog 40 #[.agg (cu8 key).toArray, I64 (((wayF z):Int)), U64 (seF z), .slice az n cz] w (Post w [] (fun v L => v = .tuple #[.slice none 0 0, I64 4] ∧ L = [])) := by
  obtain ⟨hp1, hp2, hp3⟩ := id hp
  rw [hz] at hp1 hp2
  have hwy := way_eq z
  have hsome : az.isNone = false := by
    obtain ⟨_, _, ha, _⟩ := hr.pos (by omega)
    rw [ha]; rfl
  have hmx : maxLen = 9223372036854775807 := rfl
  refine enter w [] 52 [] [.agg (cu8 key).toArray, I64 (((wayF z):Int)), U64 (seF z), .slice az n cz] Tryd.func40 rfl rfl (by simp) (Hp.start (by simp) (by simp) (by simp)) ?_
  show JC _ _ _ [(0, .agg (cu8 key).toArray), (1, I64 (((wayF z):Int))), (2, U64 (seF z)), (3, .slice az n cz)] _
  refine JC_seq ?_
  refine JC_region ?_
  refine JL_step (Step_box (.agg (cu8 key).toArray) (cu8 key) rfl (by first | rfl | simp)) rfl ?_
  rintro v1 L1 ⟨nb1, hnb1, rfl, rfl⟩
  show JL _ _ _ _ ((4, Ptr nb1 0) :: _) [⟨nb1, cu8 key, 54, (0, 0)⟩]
  refine JL_val _ (Ev_assign rfl) rfl ?_
  refine JL_val _ (Ev_assign rfl) rfl ?_
  refine JL_nil ?_
  refine JQ_then ?_
  refine JC_seq ?_
  refine JC_region ?_
  refine JL_val _ (Ev_move rfl) rfl ?_
  refine JL_step (Step_callP 42 [.slice az n cz] (.tuple #[I64 (((wayF z):Int)), U64 (seF z), I64 (0:Int)]) (Cl_func [.slice az n cz] Tryd.call42 rfl) (fun w1 hw1 => rpeek_c az n cz z w1 hz hcb (by omega) (by omega) (hr.at (M' := []) hw1 (by simp)) hp)) rfl ?_
  rintro v1 L1 ⟨rfl, rfl⟩
  show JL _ _ _ _ ((18, .tuple #[I64 (((wayF z):Int)), U64 (seF z), I64 (0:Int)]) :: _) [⟨nb1, cu8 key, 54, (0, 0)⟩]
  refine JL_val _ (Ev_move rfl) rfl ?_
  refine JL_val _ (Ev_extract rfl rfl) rfl ?_
  refine JL_val _ (Ev_extract rfl rfl) rfl ?_
  refine JL_val _ (Ev_extract rfl rfl) rfl ?_
  refine JL_val _ (Ev_assign rfl) rfl ?_
  refine JL_val _ (Ev_assign rfl) rfl ?_
  refine JL_val _ (Ev_assign rfl) rfl ?_
  refine JL_nil ?_
  refine JQ_then ?_
  refine JC_seq ?_
  refine JC_seq ?_
  refine JC_region ?_
  refine JL_val _ (Ev_move rfl) rfl ?_
  refine JL_val (.bool (decide ((0:Int) ≠ (0:Int)))) (Ev_bini rfl rfl fun _ => bin_neq_i _ _) rfl ?_
  refine JL_nil ?_
  refine JQ_then ?_
  refine JC_condF _ rfl (by decide) ?_
  refine JC_skip ?_
  refine JQ_then ?_
  refine JC_seq ?_
  refine JC_seq ?_
  refine JC_region ?_
  refine JL_val _ (Ev_move rfl) rfl ?_
  refine JL_val _ (Ev_move rfl) rfl ?_
  refine JL_val (.bool (decide ((((wayF z):Int)) ≠ (((wayF z):Int))))) (Ev_bini rfl rfl fun _ => bin_neq_i _ _) rfl ?_
  refine JL_val _ (Ev_move rfl) rfl ?_
  refine JL_gval 3 28 false _ _ rfl rfl (by simp) (Ev_move rfl) rfl ?_
  refine JL_gval 3 28 false _ _ rfl rfl (by simp) (Ev_move rfl) rfl ?_
  refine JL_gval 3 28 false _ (.bool (decide ((seF z) ≠ (seF z)))) rfl rfl (by simp) (Ev_bini rfl rfl fun _ => bin_neq_u64 (seF z) (seF z)) rfl ?_
  refine JL_val _ (Ev_pickF _ rfl (by simp) rfl) rfl ?_
  refine JL_nil ?_
  refine JQ_then ?_
  refine JC_condF _ rfl (decide_eq_false (fun h => h rfl)) ?_
  refine JC_skip ?_
  refine JQ_then ?_
  refine JC_seq ?_
  refine JC_region ?_
  refine JL_val _ (Ev_move rfl) rfl ?_
  refine JL_val _ (Ev_move rfl) rfl ?_
  refine JL_val (I64 ((n:Int))) (Ev_len Tryd.underlying43 rfl) rfl ?_
  refine JL_val (I64 ((n:Int) - 16)) (Ev_bini rfl rfl fun _ => bin_sub_i _ _ ((n:Int) - 16) (by omega) (by omega)) rfl ?_
  have hl1 : (mid (z.drop 9) 0 (n - 25)).length = (n - 25) := mid_len (by rw [List.length_drop, hz]; omega)
  have hr1 := RdB.pre (RdB.adv (c := cz) hr 9 (by rw [hz]; omega) (by rw [hz]; omega)) (n - 25)
  refine JL_val (.slice (advA az cz 9) (n - 25) (cz - 9)) (Ev_sliceBoth 5 9 (n - 16) (n - 25) (cz - 9) Tryd.underlying43 Tryd.sizeOf5 rfl rfl (some_i64 (by omega)) (by omega) (by omega) (by omega) (by omega)) rfl ?_
  refine JL_val _ (Ev_assign rfl) rfl ?_
  refine JL_nil ?_
  refine JQ_then ?_
  refine JC_seq ?_
  refine JC_region ?_
  refine JL_val (.agg (cu8 key).toArray) (Ev_load rfl (Ld_agg Tryd.isAgg54 Tryd.sizeOf54 (len_cu8 hk) (MemAt.ent 0 rfl (Seg.whole _)))) rfl ?_
  refine JL_val _ (Ev_move rfl) rfl ?_
  refine JL_val _ (Ev_move rfl) rfl ?_
  refine JL_val _ (Ev_move rfl) rfl ?_
  refine JL_step (Step_callN 28 [.agg (cu8 key).toArray, I64 (((wayF z):Int)), U64 (seF z), .slice (advA az cz 9) (n - 25) (cz - 9)] _ (Cl_func [.agg (cu8 key).toArray, I64 (((wayF z):Int)), U64 (seF z), .slice (advA az cz 9) (n - 25) (cz - 9)] Tryd.call28 rfl) (fun w1 hw1 => rseal_c key (wayF z) (seF z) (advA az cz 9) (n - 25) (cz - 9) (mid (z.drop 9) 0 (n - 25)) n w1 hk hl1 (fun h => by have := advA_some (c := cz) (s := 9) hsome; rw [h] at this; exact absurd this (by decide)) (by omega) (by omega) (hr1.at (M' := []) hw1 (by simp)) hp3 (by omega) (by omega) (GLr.at hw1 hGr) (GLi.at hw1 hGi))) rfl ?_
  rintro v1 L1 ⟨_, ⟨nb2, sp1, cp1, rfl, rfl, hc1, hc2, hc3⟩, rfl⟩
  show JL _ _ _ _ ((43, .tuple #[Slc nb2 0 n cp1, I64 (0:Int)]) :: _) [⟨nb1, cu8 key, 54, (0, 0)⟩, ⟨nb2, cu8 (frmT key (wayF z) (seF z) (mid (z.drop 9) 0 (n - 25))) ++ sp1, 5, (0, 0)⟩]
  refine JL_val _ (Ev_move rfl) rfl ?_
  refine JL_val _ (Ev_extract rfl rfl) rfl ?_
  refine JL_val _ (Ev_extract rfl rfl) rfl ?_
  refine JL_val _ (Ev_assign rfl) rfl ?_
  refine JL_val _ (Ev_assign rfl) rfl ?_
  refine JL_nil ?_
  refine JQ_then ?_
  refine JC_seq ?_
  refine JC_seq ?_
  refine JC_region ?_
  refine JL_val _ (Ev_move rfl) rfl ?_
  refine JL_val (.string (⟨(frmT key (wayF z) (seF z) (mid (z.drop 9) 0 (n - 25))).toArray⟩ : ByteArray)) (Ev_toStr 5 (some ⟨nb2, 0, none⟩) n cp1 (frmT key (wayF z) (seF z) (mid (z.drop 9) 0 (n - 25))) Tryd.underlying43 Tryd.underlying5 Tryd.underlying9 rfl (by simp [(show (frmT key (wayF z) (seF z) (mid (z.drop 9) 0 (n - 25))).length = n from (by rw [frmT_len hl1] <;> omega))]; try omega) (SrcAt.mem (MemAt.ent 1 rfl (Seg.left (Seg.whole _))))) rfl ?_
  refine JL_val _ (Ev_move rfl) rfl ?_
  refine JL_val (.string (⟨z.toArray⟩ : ByteArray)) (Ev_toStr 5 az n cz z Tryd.underlying43 Tryd.underlying5 Tryd.underlying9 rfl (by simp [hz]; try omega) (hr.src)) rfl ?_
  refine JL_val (.bool (decide ((frmT key (wayF z) (seF z) (mid (z.drop 9) 0 (n - 25))) ≠ z))) (Ev_bin _ _ _ rfl rfl (fun _ => eqGuard_str ..) fun _ => neq_str) rfl ?_
  refine JL_nil ?_
  refine JQ_then ?_
  refine JC_condT _ rfl (decide_eq_true (fun h => hau (of_decide_eq_true ((frm_iff hz hp).symm.trans (decide_eq_true h))))) ?_
  refine JC_seq ?_
  refine JC_region ?_
  refine JL_val _ (Ev_assign rfl) rfl ?_
  refine JL_val _ (Ev_assign rfl) rfl ?_
  refine JL_nil ?_
  refine JQ_then ?_
  refine JC_ret ?_
  refine JQ_then_ret ?_
  refine K_mask [false, false] ?_
  show JQ _ _ _ _ []
  refine JQ_ret (.tuple #[.slice none 0 0, I64 (4:Int)]) (res2 Tryd.results40 (RV_tmp rfl) (RV_tmp rfl)) fun w1 hw1 => ?_
  exact ⟨_, [], rfl, ⟨rfl, rfl⟩, hw1.sub (by simp) (by simp)⟩

theorem ropenK_c (key : List UInt8) (az : Option Addr) (n cz : Nat) (z : List UInt8)  (w : World) (hk : key.length = 32) (hz : z.length = n) (hcb : az = none → cz = 0) (hnc : n ≤ cz) (hcm : cz ≤ maxLen) (hr : RdB w [] az z) (hp : PkOk z) (hau : AuthP key (seF z) z) (hGr : GLr w) (hGi : GLi w)  : Calls Tryd.prog 40 #[.agg (cu8 key).toArray, I64 (((wayF z):Int)), U64 (seF z), .slice az n cz] w (Post w [] (fun v L => v = .tuple #[.slice (advA az cz 9) (n - 25) (cz - 9), I64 0] ∧ L = [])) := by
  obtain ⟨hp1, hp2, hp3⟩ := id hp
  rw [hz] at hp1 hp2
  have hwy := way_eq z
  have hsome : az.isNone = false := by
    obtain ⟨_, _, ha, _⟩ := hr.pos (by omega)
    rw [ha]; rfl
  have hmx : maxLen = 9223372036854775807 := rfl
  refine enter w [] 52 [] [.agg (cu8 key).toArray, I64 (((wayF z):Int)), U64 (seF z), .slice az n cz] Tryd.func40 rfl rfl (by simp) (Hp.start (by simp) (by simp) (by simp)) ?_
  show JC _ _ _ [(0, .agg (cu8 key).toArray), (1, I64 (((wayF z):Int))), (2, U64 (seF z)), (3, .slice az n cz)] _
  refine JC_seq ?_
  refine JC_region ?_
  refine JL_step (Step_box (.agg (cu8 key).toArray) (cu8 key) rfl (by first | rfl | simp)) rfl ?_
  rintro v1 L1 ⟨nb1, hnb1, rfl, rfl⟩
  show JL _ _ _ _ ((4, Ptr nb1 0) :: _) [⟨nb1, cu8 key, 54, (0, 0)⟩]
  refine JL_val _ (Ev_assign rfl) rfl ?_
  refine JL_val _ (Ev_assign rfl) rfl ?_
  refine JL_nil ?_
  refine JQ_then ?_
  refine JC_seq ?_
  refine JC_region ?_
  refine JL_val _ (Ev_move rfl) rfl ?_
  refine JL_step (Step_callP 42 [.slice az n cz] (.tuple #[I64 (((wayF z):Int)), U64 (seF z), I64 (0:Int)]) (Cl_func [.slice az n cz] Tryd.call42 rfl) (fun w1 hw1 => rpeek_c az n cz z w1 hz hcb (by omega) (by omega) (hr.at (M' := []) hw1 (by simp)) hp)) rfl ?_
  rintro v1 L1 ⟨rfl, rfl⟩
  show JL _ _ _ _ ((18, .tuple #[I64 (((wayF z):Int)), U64 (seF z), I64 (0:Int)]) :: _) [⟨nb1, cu8 key, 54, (0, 0)⟩]
  refine JL_val _ (Ev_move rfl) rfl ?_
  refine JL_val _ (Ev_extract rfl rfl) rfl ?_
  refine JL_val _ (Ev_extract rfl rfl) rfl ?_
  refine JL_val _ (Ev_extract rfl rfl) rfl ?_
  refine JL_val _ (Ev_assign rfl) rfl ?_
  refine JL_val _ (Ev_assign rfl) rfl ?_
  refine JL_val _ (Ev_assign rfl) rfl ?_
  refine JL_nil ?_
  refine JQ_then ?_
  refine JC_seq ?_
  refine JC_seq ?_
  refine JC_region ?_
  refine JL_val _ (Ev_move rfl) rfl ?_
  refine JL_val (.bool (decide ((0:Int) ≠ (0:Int)))) (Ev_bini rfl rfl fun _ => bin_neq_i _ _) rfl ?_
  refine JL_nil ?_
  refine JQ_then ?_
  refine JC_condF _ rfl (by decide) ?_
  refine JC_skip ?_
  refine JQ_then ?_
  refine JC_seq ?_
  refine JC_seq ?_
  refine JC_region ?_
  refine JL_val _ (Ev_move rfl) rfl ?_
  refine JL_val _ (Ev_move rfl) rfl ?_
  refine JL_val (.bool (decide ((((wayF z):Int)) ≠ (((wayF z):Int))))) (Ev_bini rfl rfl fun _ => bin_neq_i _ _) rfl ?_
  refine JL_val _ (Ev_move rfl) rfl ?_
  refine JL_gval 3 28 false _ _ rfl rfl (by simp) (Ev_move rfl) rfl ?_
  refine JL_gval 3 28 false _ _ rfl rfl (by simp) (Ev_move rfl) rfl ?_
  refine JL_gval 3 28 false _ (.bool (decide ((seF z) ≠ (seF z)))) rfl rfl (by simp) (Ev_bini rfl rfl fun _ => bin_neq_u64 (seF z) (seF z)) rfl ?_
  refine JL_val _ (Ev_pickF _ rfl (by simp) rfl) rfl ?_
  refine JL_nil ?_
  refine JQ_then ?_
  refine JC_condF _ rfl (decide_eq_false (fun h => h rfl)) ?_
  refine JC_skip ?_
  refine JQ_then ?_
  refine JC_seq ?_
  refine JC_region ?_
  refine JL_val _ (Ev_move rfl) rfl ?_
  refine JL_val _ (Ev_move rfl) rfl ?_
  refine JL_val (I64 ((n:Int))) (Ev_len Tryd.underlying43 rfl) rfl ?_
  refine JL_val (I64 ((n:Int) - 16)) (Ev_bini rfl rfl fun _ => bin_sub_i _ _ ((n:Int) - 16) (by omega) (by omega)) rfl ?_
  have hl1 : (mid (z.drop 9) 0 (n - 25)).length = (n - 25) := mid_len (by rw [List.length_drop, hz]; omega)
  have hr1 := RdB.pre (RdB.adv (c := cz) hr 9 (by rw [hz]; omega) (by rw [hz]; omega)) (n - 25)
  refine JL_val (.slice (advA az cz 9) (n - 25) (cz - 9)) (Ev_sliceBoth 5 9 (n - 16) (n - 25) (cz - 9) Tryd.underlying43 Tryd.sizeOf5 rfl rfl (some_i64 (by omega)) (by omega) (by omega) (by omega) (by omega)) rfl ?_
  refine JL_val _ (Ev_assign rfl) rfl ?_
  refine JL_nil ?_
  refine JQ_then ?_
  refine JC_seq ?_
  refine JC_region ?_
  refine JL_val (.agg (cu8 key).toArray) (Ev_load rfl (Ld_agg Tryd.isAgg54 Tryd.sizeOf54 (len_cu8 hk) (MemAt.ent 0 rfl (Seg.whole _)))) rfl ?_
  refine JL_val _ (Ev_move rfl) rfl ?_
  refine JL_val _ (Ev_move rfl) rfl ?_
  refine JL_val _ (Ev_move rfl) rfl ?_
  refine JL_step (Step_callN 28 [.agg (cu8 key).toArray, I64 (((wayF z):Int)), U64 (seF z), .slice (advA az cz 9) (n - 25) (cz - 9)] _ (Cl_func [.agg (cu8 key).toArray, I64 (((wayF z):Int)), U64 (seF z), .slice (advA az cz 9) (n - 25) (cz - 9)] Tryd.call28 rfl) (fun w1 hw1 => rseal_c key (wayF z) (seF z) (advA az cz 9) (n - 25) (cz - 9) (mid (z.drop 9) 0 (n - 25)) n w1 hk hl1 (fun h => by have := advA_some (c := cz) (s := 9) hsome; rw [h] at this; exact absurd this (by decide)) (by omega) (by omega) (hr1.at (M' := []) hw1 (by simp)) hp3 (by omega) (by omega) (GLr.at hw1 hGr) (GLi.at hw1 hGi))) rfl ?_
  rintro v1 L1 ⟨_, ⟨nb2, sp1, cp1, rfl, rfl, hc1, hc2, hc3⟩, rfl⟩
  show JL _ _ _ _ ((43, .tuple #[Slc nb2 0 n cp1, I64 (0:Int)]) :: _) [⟨nb1, cu8 key, 54, (0, 0)⟩, ⟨nb2, cu8 (frmT key (wayF z) (seF z) (mid (z.drop 9) 0 (n - 25))) ++ sp1, 5, (0, 0)⟩]
  refine JL_val _ (Ev_move rfl) rfl ?_
  refine JL_val _ (Ev_extract rfl rfl) rfl ?_
  refine JL_val _ (Ev_extract rfl rfl) rfl ?_
  refine JL_val _ (Ev_assign rfl) rfl ?_
  refine JL_val _ (Ev_assign rfl) rfl ?_
  refine JL_nil ?_
  refine JQ_then ?_
  refine JC_seq ?_
  refine JC_seq ?_
  refine JC_region ?_
  refine JL_val _ (Ev_move rfl) rfl ?_
  refine JL_val (.string (⟨(frmT key (wayF z) (seF z) (mid (z.drop 9) 0 (n - 25))).toArray⟩ : ByteArray)) (Ev_toStr 5 (some ⟨nb2, 0, none⟩) n cp1 (frmT key (wayF z) (seF z) (mid (z.drop 9) 0 (n - 25))) Tryd.underlying43 Tryd.underlying5 Tryd.underlying9 rfl (by simp [(show (frmT key (wayF z) (seF z) (mid (z.drop 9) 0 (n - 25))).length = n from (by rw [frmT_len hl1] <;> omega))]; try omega) (SrcAt.mem (MemAt.ent 1 rfl (Seg.left (Seg.whole _))))) rfl ?_
  refine JL_val _ (Ev_move rfl) rfl ?_
  refine JL_val (.string (⟨z.toArray⟩ : ByteArray)) (Ev_toStr 5 az n cz z Tryd.underlying43 Tryd.underlying5 Tryd.underlying9 rfl (by simp [hz]; try omega) (hr.src)) rfl ?_
  refine JL_val (.bool (decide ((frmT key (wayF z) (seF z) (mid (z.drop 9) 0 (n - 25))) ≠ z))) (Ev_bin _ _ _ rfl rfl (fun _ => eqGuard_str ..) fun _ => neq_str) rfl ?_
  refine JL_nil ?_
  refine JQ_then ?_
  refine JC_condF _ rfl (decide_eq_false (fun h => h (of_decide_eq_true ((frm_iff hz hp).trans (decide_eq_true hau))))) ?_
  refine JC_skip ?_
  refine JQ_then ?_
  refine JC_seq ?_
  refine JC_region ?_
  refine JL_val _ (Ev_move rfl) rfl ?_
  refine JL_val _ (Ev_assign rfl) rfl ?_
  refine JL_val _ (Ev_assign rfl) rfl ?_
  refine JL_nil ?_
  refine JQ_then ?_
  refine JC_ret ?_
  refine K_mask [false, false] ?_
  show JQ _ _ _ _ []
  refine JQ_ret (.tuple #[.slice (advA az cz 9) (n - 25) (cz - 9), I64 (0:Int)]) (res2 Tryd.results40 (RV_tmp rfl) (RV_tmp rfl)) fun w1 hw1 => ?_
  exact ⟨_, [], rfl, ⟨rfl, rfl⟩, hw1.sub (by simp) (by simp)⟩

theorem ropenB_w (key : List UInt8) (way : Int) (s : UInt64) (az : Option Addr) (n cz : Nat) (z : List UInt8) (w : World) (hk : key.length = 32) (hz : z.length = n) (hcb : az = none → cz = 0) (hnc : n ≤ cz) (hcm : cz ≤ maxLen) (hr : RdB w [] az z) (hGr : GLr w) (hGi : GLi w) (ho : openE key way s z ≠ 0) : Calls Tryd.prog 40 #[.agg (cu8 key).toArray, I64 way, U64 s, .slice az n cz] w (Post w [] (fun v L => v = .tuple #[.slice none 0 0, I64 ((openE key way s z : Nat) : Int)] ∧ L = [])) := by
  by_cases hp : PkOk z
  · by_cases hm : (wayF z : Int) = way ∧ seF z = s
    · have hau : ¬ AuthP key (seF z) z := fun h => ho (by unfold openE; rw [if_pos hp, if_pos hm, if_pos (hm.2 ▸ h)])
      have e : openE key way s z = 4 := by unfold openE; rw [if_pos hp, if_pos hm, if_neg (hm.2 ▸ hau)]
      rw [e]
      obtain ⟨rfl, rfl⟩ := hm
      exact ropenA_c key az n cz z w hk hz hcb hnc hcm hr hp hau hGr hGi
    · have e : openE key way s z = 6 := by unfold openE; rw [if_pos hp, if_neg hm]
      rw [e]
      exact ropenS_c key way s az n cz z w hk hz hcb hnc hcm hr hp hm
  · have e : openE key way s z = 2 := by unfold openE; rw [if_neg hp]
    rw [e]
    exact ropenP_c key way s az n cz z w hk hz hcb hnc hcm hr hp
theorem ropenK_w (key : List UInt8) (way : Int) (s : UInt64) (az : Option Addr) (n cz : Nat) (z : List UInt8) (w : World) (hk : key.length = 32) (hz : z.length = n) (hcb : az = none → cz = 0) (hnc : n ≤ cz) (hcm : cz ≤ maxLen) (hr : RdB w [] az z) (hGr : GLr w) (hGi : GLi w) (ho : openE key way s z = 0) : Calls Tryd.prog 40 #[.agg (cu8 key).toArray, I64 way, U64 s, .slice az n cz] w (Post w [] (fun v L => v = .tuple #[.slice (advA az cz 9) (n - 25) (cz - 9), I64 0] ∧ L = [])) := by
  unfold openE at ho
  split at ho
  case isFalse => omega
  rename_i hp
  split at ho
  case isFalse => omega
  rename_i hm
  split at ho
  case isFalse => omega
  rename_i hau
  obtain ⟨rfl, rfl⟩ := hm
  exact ropenK_c key az n cz z w hk hz hcb hnc hcm hr hp hau hGr hGi

end Go.Proofs.YtkdpdgpphpngeaaDoor
