import Derived.Test.YtncoifiafklkjaaOct6
namespace Go.Proofs.Ytncoifiafklkjaa
open Go Go.Sx
set_option linter.unusedVariables false
set_option linter.unusedSimpArgs false
set_option maxRecDepth 100000
attribute [local irreducible] mid zr8 zr32 zr64 numK rnK ftN valK rvalK
theorem rraw_c (ao : Option Addr) (n c : Nat) (o : List UInt8) (bd : Int) (ax : Option Addr) (p cx : Nat) (z : List UInt8) (tot : Nat) (w : World) (ho : o.length = n) (hn : n ≤ 1000000000) (hro : RdB w [] ao o) (hz : z.length = p) (hm : p ≤ 1000000000) (hr : RdB w [] ax z) (ht : n + p = tot) : Calls Try.prog 45 #[.agg (List.toArray (α := Value) ([.slice ao n c, I64 (bd)])), .slice ax p cx] w (Post w [] (fun v L => ∃ g sp cap, v = .agg [Slc g 0 tot cap, I64 bd].toArray ∧ L = [⟨g, cu8 (o ++ z) ++ sp, 5, (0, 0)⟩] ∧ sp.length = cap - tot ∧ tot ≤ cap ∧ cap ≤ maxLen)) := by
  have hmx : maxLen = 9223372036854775807 := rfl
  refine enter (P := Try.prog) (f := 45) (fn := Try.f45) w [] 13 [] [.agg (List.toArray (α := Value) ([.slice ao n c, I64 (bd)])), .slice ax p cx] Try.func45 rfl rfl (by simp) (Hp.start (by simp) (by simp) (by simp)) ?_
  show JC _ _ _ [(0, .agg (List.toArray (α := Value) ([.slice ao n c, I64 (bd)]))), (1, .slice ax p cx)] _
  refine JC_seq ?_
  refine JC_region ?_
  refine JL_step (Step_box (.agg (List.toArray (α := Value) ([.slice ao n c, I64 (bd)]))) ([.slice ao n c, I64 (bd)]) rfl (by first | rfl | simp)) rfl ?_
  rintro v1 L1 ⟨nb1, hnb1, rfl, rfl⟩
  show JL _ _ _ _ ((2, Ptr nb1 0) :: _) [⟨nb1, [.slice ao n c, I64 (bd)], 68, (0, 0)⟩]
  refine JL_step (Step_alloc _ ([.slice none 0 0, I64 (0:Int)]) Try.zeroValue68 (by kernel_rfl)) rfl ?_
  rintro v1 L1 ⟨nb2, hnb2, rfl, rfl⟩
  show JL _ _ _ _ ((4, Ptr nb2 0) :: _) [⟨nb1, [.slice ao n c, I64 (bd)], 68, (0, 0)⟩, ⟨nb2, [.slice none 0 0, I64 (0:Int)], 68, (0, 0)⟩]
  refine JL_nil ?_
  refine JQ_then ?_
  refine JC_seq ?_
  refine JC_region ?_
  refine JL_step (Step_buildSlice0 5 1 Try.underlying38 Try.sizeOf5) rfl ?_
  rintro v1 L1 ⟨nb3, hnb3, rfl, rfl⟩
  show JL _ _ _ _ ((5, Slc nb3 0 0 0) :: _) [⟨nb1, [.slice ao n c, I64 (bd)], 68, (0, 0)⟩, ⟨nb2, [.slice none 0 0, I64 (0:Int)], 68, (0, 0)⟩, ⟨nb3, [], 5, (0, 0)⟩]
  refine JL_val (Ptr nb1 0) (Ev_fieldAddr 0 38 1 Try.underlying68 rfl Try.sizeOf38 rfl rfl) rfl ?_
  refine JL_val (.slice ao n c) (Ev_load rfl (Ld_one Try.isAgg38 (MemAt.ent 0 rfl (Seg.head)))) rfl ?_
  refine JL_step (Step_appM8 38 5 [false, false, true] (Slc nb3 0 0 0) 0 ([] : List UInt8) o ao n c n Try.underlying38 Try.info5 rfl (.inr ⟨nb3, [], 0, rfl, (by simp [take?, cu8, cu32, cu64]), rfl, (by simp), (by omega), (by unfold maxLen; omega)⟩) rfl (by simp [ho]; try omega) (hro.src) (by omega) (by unfold maxLen; omega) (by omega)) rfl ?_
  rintro v1 L1 ⟨nb4, sp1, cp1, hg1, rfl, rfl, ha1, ha2, ha3, ha4⟩
  show JL _ _ _ _ ((8, Slc nb4 0 n cp1) :: _) [⟨nb1, [.slice ao n c, I64 (bd)], 68, (0, 0)⟩, ⟨nb2, [.slice none 0 0, I64 (0:Int)], 68, (0, 0)⟩, ⟨nb4, cu8 (([] : List UInt8) ++ o) ++ sp1, 5, (0, 0)⟩]
  refine JL_val _ (Ev_move rfl) rfl ?_
  refine JL_step (Step_appM8 38 5 [false, false, true] (Slc nb4 0 n cp1) n (([] : List UInt8) ++ o) z ax p cx (n + p) Try.underlying38 Try.info5 rfl (.inr ⟨nb4, sp1, cp1, rfl, rfl, (by first | exact ha1 | simp [ha1]), ha2, (by omega), (by omega)⟩) rfl (by simp [hz]; try omega) (hr.src) (by omega) (by unfold maxLen; omega) (by omega)) rfl ?_
  rintro v1 L1 ⟨nb5, sp2, cp2, hg2, rfl, rfl, ha5, ha6, ha7, ha8⟩
  show JL _ _ _ _ ((10, Slc nb5 0 (n + p) cp2) :: _) [⟨nb1, [.slice ao n c, I64 (bd)], 68, (0, 0)⟩, ⟨nb2, [.slice none 0 0, I64 (0:Int)], 68, (0, 0)⟩, ⟨nb5, cu8 ((([] : List UInt8) ++ o) ++ z) ++ sp2, 5, (0, 0)⟩]
  refine JL_val (Ptr nb1 0) (Ev_fieldAddr 0 38 1 Try.underlying68 rfl Try.sizeOf38 rfl rfl) rfl ?_
  refine JL_step (Step_store 0 nb1 0 1 ([.slice ao n c, I64 (bd)]) 68 (Slc nb5 0 (n + p) cp2) ([Slc nb5 0 (n + p) cp2]) ([Slc nb5 0 (n + p) cp2, I64 (bd)]) rfl rfl rfl rfl Try.sizeOf38 rfl (by simp [Value.oneCell']) (Nat.le_of_ble_eq_true rfl) (rfl)) rfl ?_
  rintro v1 L1 ⟨rfl, rfl⟩
  show JL _ _ _ _ _ [⟨nb1, [Slc nb5 0 (n + p) cp2, I64 (bd)], 68, (0, 0)⟩, ⟨nb2, [.slice none 0 0, I64 (0:Int)], 68, (0, 0)⟩, ⟨nb5, cu8 ((([] : List UInt8) ++ o) ++ z) ++ sp2, 5, (0, 0)⟩]
  refine JL_nil ?_
  refine JQ_then ?_
  refine JC_seq ?_
  refine JC_region ?_
  refine JL_val (.agg (List.toArray (α := Value) ([Slc nb5 0 (n + p) cp2, I64 (bd)]))) (Ev_load rfl (Ld_agg Try.isAgg68 Try.sizeOf68 rfl (MemAt.ent 0 rfl (Seg.whole _)))) rfl ?_
  refine JL_step (Step_store 1 nb2 0 2 ([.slice none 0 0, I64 (0:Int)]) 68 (.agg (List.toArray (α := Value) ([Slc nb5 0 (n + p) cp2, I64 (bd)]))) ([Slc nb5 0 (n + p) cp2, I64 (bd)]) ([Slc nb5 0 (n + p) cp2, I64 (bd)]) rfl rfl rfl (by first | rfl | simp) Try.sizeOf68 rfl (by simp [Value.oneCell']) (Nat.le_of_ble_eq_true rfl) (lay_whole (by simp []))) rfl ?_
  rintro v1 L1 ⟨rfl, rfl⟩
  show JL _ _ _ _ _ [⟨nb1, [Slc nb5 0 (n + p) cp2, I64 (bd)], 68, (0, 0)⟩, ⟨nb2, [Slc nb5 0 (n + p) cp2, I64 (bd)], 68, (0, 0)⟩, ⟨nb5, cu8 ((([] : List UInt8) ++ o) ++ z) ++ sp2, 5, (0, 0)⟩]
  refine JL_nil ?_
  refine JQ_then ?_
  refine JC_ret ?_
  refine K_mask [false, true, true] ?_
  show JQ _ _ _ _ [⟨nb2, [Slc nb5 0 (n + p) cp2, I64 (bd)], 68, (0, 0)⟩, ⟨nb5, cu8 ((([] : List UInt8) ++ o) ++ z) ++ sp2, 5, (0, 0)⟩]
  refine JQ_ret (.agg (List.toArray (α := Value) ([Slc nb5 0 (n + p) cp2, I64 (bd)]))) (res1 Try.results45 (RV_cell rfl (Ld_agg Try.isAgg68 Try.sizeOf68 rfl (MemAt.ent 0 rfl (Seg.whole _))))) fun w1 hw1 => ?_
  rw [List.nil_append] at hw1
  obtain rfl : tot = (n + p) := by omega
  exact ⟨_, _, rfl, ⟨nb5, sp2, cp2, rfl, rfl, ha6, ha7, ha8⟩, hw1.sub (by simp) (by simp)⟩

theorem rfitsF_c (nv : UInt64) (s : Int) (w : World) (hs : ¬ Szd s) : Calls Try.prog 81 #[U64 nv, I64 (s)] w (Post w [] (fun v L => v = .bool false ∧ L = [])) := by
  refine enter w [] 29 [] [U64 nv, I64 (s)] Try.func81 rfl rfl (by simp) (Hp.start (by simp) (by simp) (by simp)) ?_
  show JC _ _ _ [(0, U64 nv), (1, I64 (s))] _
  refine JC_seq ?_
  refine JC_region ?_
  refine JL_val _ (Ev_assign rfl) rfl ?_
  refine JL_nil ?_
  refine JQ_then ?_
  refine JC_seq ?_
  refine JC_seq ?_
  refine JC_region ?_
  refine JL_val _ (Ev_move rfl) rfl ?_
  refine JL_val (.bool (decide ((s) ≠ (1:Int)))) (Ev_bini rfl rfl fun _ => bin_neq_i _ _) rfl ?_
  refine JL_val _ (Ev_move rfl) rfl ?_
  rcases Bool.eq_false_or_eq_true (decide ((s) ≠ (1:Int))) with hb1 | hb1
  ·
    have hp1 : (s) ≠ (1:Int) := of_decide_eq_true hb1
    refine JL_gval 2 8 true _ _ rfl rfl hb1 (Ev_move rfl) rfl ?_
    refine JL_gval 2 8 true _ (.bool (decide ((s) ≠ (2:Int)))) rfl rfl hb1 (Ev_bini rfl rfl fun _ => bin_neq_i _ _) rfl ?_
    refine JL_val _ (Ev_pickT _ rfl hb1 rfl) rfl ?_
    refine JL_val _ (Ev_move rfl) rfl ?_
    rcases Bool.eq_false_or_eq_true (decide ((s) ≠ (2:Int))) with hb2 | hb2
    ·
      have hp2 : (s) ≠ (2:Int) := of_decide_eq_true hb2
      refine JL_gval 6 12 true _ _ rfl rfl hb2 (Ev_move rfl) rfl ?_
      refine JL_gval 6 12 true _ (.bool (decide ((s) ≠ (4:Int)))) rfl rfl hb2 (Ev_bini rfl rfl fun _ => bin_neq_i _ _) rfl ?_
      refine JL_val _ (Ev_pickT _ rfl hb2 rfl) rfl ?_
      refine JL_val _ (Ev_move rfl) rfl ?_
      rcases Bool.eq_false_or_eq_true (decide ((s) ≠ (4:Int))) with hb3 | hb3
      ·
        have hp3 : (s) ≠ (4:Int) := of_decide_eq_true hb3
        refine JL_gval 10 16 true _ _ rfl rfl hb3 (Ev_move rfl) rfl ?_
        refine JL_gval 10 16 true _ (.bool (decide ((s) ≠ (8:Int)))) rfl rfl hb3 (Ev_bini rfl rfl fun _ => bin_neq_i _ _) rfl ?_
        refine JL_val _ (Ev_pickT _ rfl hb3 rfl) rfl ?_
        refine JL_nil ?_
        refine JQ_then ?_
        refine JC_cond (decide ((s) ≠ (8:Int))) rfl (fun hb4 => ?_) (fun hb4 => ?_)
        ·
          have hp4 : (s) ≠ (8:Int) := of_decide_eq_true hb4
          refine JC_seq ?_
          refine JC_region ?_
          refine JL_val _ (Ev_assign rfl) rfl ?_
          refine JL_nil ?_
          refine JQ_then ?_
          refine JC_ret ?_
          refine JQ_then_ret ?_
          refine JQ_ret (.bool false) (res1 Try.results81 (RV_tmp rfl)) fun w1 hw1 => ?_
          exact ⟨_, [], rfl, ⟨rfl, rfl⟩, hw1.sub (by simp) (by simp)⟩
        ·
          have hp4 : ¬ ((s) ≠ (8:Int)) := of_decide_eq_false hb4
          refine JC_skip ?_
          refine JQ_then ?_
          refine JC_seq ?_
          refine JC_seq ?_
          refine JC_region ?_
          refine JL_val _ (Ev_assign rfl) rfl ?_
          refine JL_nil ?_
          refine JQ_then ?_
          refine JC_block ?_
          refine JC_loop (ι := Nat × UInt64) (fun ⟨j, y⟩ => [(1, I64 (s)), (4, .bool false), (5, I64 ((j:Int))), (0, U64 y)]) (fun ⟨j, y⟩ => []) (fun ⟨j, y⟩ => j ≤ 8 ∧ s ≤ 8) (fun ⟨j, y⟩ => 8 - j) (0, nv) (by exfalso; apply hs; unfold Szd; omega) (Sub.cons rfl (Sub.cons rfl (Sub.cons rfl (Sub.cons rfl (Sub.nil))))) rfl ?_
          rintro ⟨j, y⟩ ⟨hx1, hx2⟩
          show JC _ _ _ [(1, I64 (s)), (4, .bool false), (5, I64 ((j:Int))), (0, U64 y)] []
          refine JC_seq ?_
          refine JC_seq ?_
          refine JC_region ?_
          refine JL_val _ (Ev_move rfl) rfl ?_
          refine JL_val _ (Ev_move rfl) rfl ?_
          refine JL_val (.bool (decide (((j:Int)) < (s)))) (Ev_bini rfl rfl fun _ => bin_lss_i _ _) rfl ?_
          refine JL_nil ?_
          refine JQ_then ?_
          refine JC_cond (decide (((j:Int)) < (s))) rfl (fun hb5 => ?_) (fun hb5 => ?_)
          ·
            have hp5 : ((j:Int)) < (s) := of_decide_eq_true hb5
            refine JC_skip ?_
            refine JQ_then ?_
            refine JC_seq ?_
            refine JC_block ?_
            refine JC_region ?_
            refine JL_val _ (Ev_move rfl) rfl ?_
            refine JL_val (U64 (y / (256:UInt64))) (Ev_bini rfl rfl fun _ => bin_quo_u64 y (256:UInt64) (by decide)) rfl ?_
            refine JL_val _ (Ev_assign rfl) rfl ?_
            refine JL_nil ?_
            refine JQ_in_normal ?_
            refine JQ_then ?_
            refine JC_region ?_
            refine JL_val _ (Ev_move rfl) rfl ?_
            refine JL_val (I64 ((j:Int) + 1)) (Ev_bini rfl rfl fun _ => bin_add_i _ _ ((j:Int) + 1) (by omega) (by omega)) rfl ?_
            refine JL_val _ (Ev_assign rfl) rfl ?_
            refine JL_nil ?_
            refine JQ_thenK ?_
            refine K_next (j + 1, y / (256:UInt64)) ⟨by omega, hx2⟩ (by first | (simp; omega) | simp | (dsimp only; omega) | omega) (Sub.cons rfl (Sub.cons rfl (Sub.cons rfl (Sub.cons rfl (Sub.nil))))) rfl
          ·
            have hp5 : ¬ (((j:Int)) < (s)) := of_decide_eq_false hb5
            refine JC_exit ?_
            refine JQ_then_exit ?_
            refine JQ_then_exit ?_
            refine JQ_in_same ?_
            refine JQ_then ?_
            refine JC_seq ?_
            refine JC_region ?_
            refine JL_val _ (Ev_move rfl) rfl ?_
            refine JL_val (.bool (decide (y = (0:UInt64)))) (Ev_bini rfl rfl fun _ => bin_eql_u64 y (0:UInt64)) rfl ?_
            refine JL_val _ (Ev_assign rfl) rfl ?_
            refine JL_nil ?_
            refine JQ_then ?_
            refine JC_ret ?_
            refine JQ_ret (.bool (decide (y = (0:UInt64)))) (res1 Try.results81 (RV_tmp rfl)) fun w1 hw1 => ?_
            exfalso; apply hs; unfold Szd; omega
      ·
        have hp3 : ¬ ((s) ≠ (4:Int)) := of_decide_eq_false hb3
        refine JL_gskip 10 16 true _ rfl rfl hb3 rfl ?_
        refine JL_gskip 10 16 true _ rfl rfl hb3 rfl ?_
        refine JL_val _ (Ev_pickF _ rfl hb3 rfl) rfl ?_
        refine JL_nil ?_
        refine JQ_then ?_
        refine JC_condF _ rfl rfl ?_
        refine JC_skip ?_
        refine JQ_then ?_
        refine JC_seq ?_
        refine JC_seq ?_
        refine JC_region ?_
        refine JL_val _ (Ev_assign rfl) rfl ?_
        refine JL_nil ?_
        refine JQ_then ?_
        refine JC_block ?_
        refine JC_loop (ι := Nat × UInt64) (fun ⟨j, y⟩ => [(1, I64 (s)), (4, .bool false), (5, I64 ((j:Int))), (0, U64 y)]) (fun ⟨j, y⟩ => []) (fun ⟨j, y⟩ => j ≤ 8 ∧ s ≤ 8) (fun ⟨j, y⟩ => 8 - j) (0, nv) (by exfalso; apply hs; unfold Szd; omega) (Sub.cons rfl (Sub.cons rfl (Sub.cons rfl (Sub.cons rfl (Sub.nil))))) rfl ?_
        rintro ⟨j, y⟩ ⟨hx1, hx2⟩
        show JC _ _ _ [(1, I64 (s)), (4, .bool false), (5, I64 ((j:Int))), (0, U64 y)] []
        refine JC_seq ?_
        refine JC_seq ?_
        refine JC_region ?_
        refine JL_val _ (Ev_move rfl) rfl ?_
        refine JL_val _ (Ev_move rfl) rfl ?_
        refine JL_val (.bool (decide (((j:Int)) < (s)))) (Ev_bini rfl rfl fun _ => bin_lss_i _ _) rfl ?_
        refine JL_nil ?_
        refine JQ_then ?_
        refine JC_cond (decide (((j:Int)) < (s))) rfl (fun hb6 => ?_) (fun hb6 => ?_)
        ·
          have hp6 : ((j:Int)) < (s) := of_decide_eq_true hb6
          refine JC_skip ?_
          refine JQ_then ?_
          refine JC_seq ?_
          refine JC_block ?_
          refine JC_region ?_
          refine JL_val _ (Ev_move rfl) rfl ?_
          refine JL_val (U64 (y / (256:UInt64))) (Ev_bini rfl rfl fun _ => bin_quo_u64 y (256:UInt64) (by decide)) rfl ?_
          refine JL_val _ (Ev_assign rfl) rfl ?_
          refine JL_nil ?_
          refine JQ_in_normal ?_
          refine JQ_then ?_
          refine JC_region ?_
          refine JL_val _ (Ev_move rfl) rfl ?_
          refine JL_val (I64 ((j:Int) + 1)) (Ev_bini rfl rfl fun _ => bin_add_i _ _ ((j:Int) + 1) (by omega) (by omega)) rfl ?_
          refine JL_val _ (Ev_assign rfl) rfl ?_
          refine JL_nil ?_
          refine JQ_thenK ?_
          refine K_next (j + 1, y / (256:UInt64)) ⟨by omega, hx2⟩ (by first | (simp; omega) | simp | (dsimp only; omega) | omega) (Sub.cons rfl (Sub.cons rfl (Sub.cons rfl (Sub.cons rfl (Sub.nil))))) rfl
        ·
          have hp6 : ¬ (((j:Int)) < (s)) := of_decide_eq_false hb6
          refine JC_exit ?_
          refine JQ_then_exit ?_
          refine JQ_then_exit ?_
          refine JQ_in_same ?_
          refine JQ_then ?_
          refine JC_seq ?_
          refine JC_region ?_
          refine JL_val _ (Ev_move rfl) rfl ?_
          refine JL_val (.bool (decide (y = (0:UInt64)))) (Ev_bini rfl rfl fun _ => bin_eql_u64 y (0:UInt64)) rfl ?_
          refine JL_val _ (Ev_assign rfl) rfl ?_
          refine JL_nil ?_
          refine JQ_then ?_
          refine JC_ret ?_
          refine JQ_ret (.bool (decide (y = (0:UInt64)))) (res1 Try.results81 (RV_tmp rfl)) fun w1 hw1 => ?_
          exfalso; apply hs; unfold Szd; omega
    ·
      have hp2 : ¬ ((s) ≠ (2:Int)) := of_decide_eq_false hb2
      refine JL_gskip 6 12 true _ rfl rfl hb2 rfl ?_
      refine JL_gskip 6 12 true _ rfl rfl hb2 rfl ?_
      refine JL_val _ (Ev_pickF _ rfl hb2 rfl) rfl ?_
      refine JL_val _ (Ev_move rfl) rfl ?_
      refine JL_gskip 10 16 true _ rfl rfl rfl rfl ?_
      refine JL_gskip 10 16 true _ rfl rfl rfl rfl ?_
      refine JL_val _ (Ev_pickF _ rfl rfl rfl) rfl ?_
      refine JL_nil ?_
      refine JQ_then ?_
      refine JC_condF _ rfl rfl ?_
      refine JC_skip ?_
      refine JQ_then ?_
      refine JC_seq ?_
      refine JC_seq ?_
      refine JC_region ?_
      refine JL_val _ (Ev_assign rfl) rfl ?_
      refine JL_nil ?_
      refine JQ_then ?_
      refine JC_block ?_
      refine JC_loop (ι := Nat × UInt64) (fun ⟨j, y⟩ => [(1, I64 (s)), (4, .bool false), (5, I64 ((j:Int))), (0, U64 y)]) (fun ⟨j, y⟩ => []) (fun ⟨j, y⟩ => j ≤ 8 ∧ s ≤ 8) (fun ⟨j, y⟩ => 8 - j) (0, nv) (by exfalso; apply hs; unfold Szd; omega) (Sub.cons rfl (Sub.cons rfl (Sub.cons rfl (Sub.cons rfl (Sub.nil))))) rfl ?_
      rintro ⟨j, y⟩ ⟨hx1, hx2⟩
      show JC _ _ _ [(1, I64 (s)), (4, .bool false), (5, I64 ((j:Int))), (0, U64 y)] []
      refine JC_seq ?_
      refine JC_seq ?_
      refine JC_region ?_
      refine JL_val _ (Ev_move rfl) rfl ?_
      refine JL_val _ (Ev_move rfl) rfl ?_
      refine JL_val (.bool (decide (((j:Int)) < (s)))) (Ev_bini rfl rfl fun _ => bin_lss_i _ _) rfl ?_
      refine JL_nil ?_
      refine JQ_then ?_
      refine JC_cond (decide (((j:Int)) < (s))) rfl (fun hb7 => ?_) (fun hb7 => ?_)
      ·
        have hp7 : ((j:Int)) < (s) := of_decide_eq_true hb7
        refine JC_skip ?_
        refine JQ_then ?_
        refine JC_seq ?_
        refine JC_block ?_
        refine JC_region ?_
        refine JL_val _ (Ev_move rfl) rfl ?_
        refine JL_val (U64 (y / (256:UInt64))) (Ev_bini rfl rfl fun _ => bin_quo_u64 y (256:UInt64) (by decide)) rfl ?_
        refine JL_val _ (Ev_assign rfl) rfl ?_
        refine JL_nil ?_
        refine JQ_in_normal ?_
        refine JQ_then ?_
        refine JC_region ?_
        refine JL_val _ (Ev_move rfl) rfl ?_
        refine JL_val (I64 ((j:Int) + 1)) (Ev_bini rfl rfl fun _ => bin_add_i _ _ ((j:Int) + 1) (by omega) (by omega)) rfl ?_
        refine JL_val _ (Ev_assign rfl) rfl ?_
        refine JL_nil ?_
        refine JQ_thenK ?_
        refine K_next (j + 1, y / (256:UInt64)) ⟨by omega, hx2⟩ (by first | (simp; omega) | simp | (dsimp only; omega) | omega) (Sub.cons rfl (Sub.cons rfl (Sub.cons rfl (Sub.cons rfl (Sub.nil))))) rfl
      ·
        have hp7 : ¬ (((j:Int)) < (s)) := of_decide_eq_false hb7
        refine JC_exit ?_
        refine JQ_then_exit ?_
        refine JQ_then_exit ?_
        refine JQ_in_same ?_
        refine JQ_then ?_
        refine JC_seq ?_
        refine JC_region ?_
        refine JL_val _ (Ev_move rfl) rfl ?_
        refine JL_val (.bool (decide (y = (0:UInt64)))) (Ev_bini rfl rfl fun _ => bin_eql_u64 y (0:UInt64)) rfl ?_
        refine JL_val _ (Ev_assign rfl) rfl ?_
        refine JL_nil ?_
        refine JQ_then ?_
        refine JC_ret ?_
        refine JQ_ret (.bool (decide (y = (0:UInt64)))) (res1 Try.results81 (RV_tmp rfl)) fun w1 hw1 => ?_
        exfalso; apply hs; unfold Szd; omega
  ·
    have hp1 : ¬ ((s) ≠ (1:Int)) := of_decide_eq_false hb1
    refine JL_gskip 2 8 true _ rfl rfl hb1 rfl ?_
    refine JL_gskip 2 8 true _ rfl rfl hb1 rfl ?_
    refine JL_val _ (Ev_pickF _ rfl hb1 rfl) rfl ?_
    refine JL_val _ (Ev_move rfl) rfl ?_
    refine JL_gskip 6 12 true _ rfl rfl rfl rfl ?_
    refine JL_gskip 6 12 true _ rfl rfl rfl rfl ?_
    refine JL_val _ (Ev_pickF _ rfl rfl rfl) rfl ?_
    refine JL_val _ (Ev_move rfl) rfl ?_
    refine JL_gskip 10 16 true _ rfl rfl rfl rfl ?_
    refine JL_gskip 10 16 true _ rfl rfl rfl rfl ?_
    refine JL_val _ (Ev_pickF _ rfl rfl rfl) rfl ?_
    refine JL_nil ?_
    refine JQ_then ?_
    refine JC_condF _ rfl rfl ?_
    refine JC_skip ?_
    refine JQ_then ?_
    refine JC_seq ?_
    refine JC_seq ?_
    refine JC_region ?_
    refine JL_val _ (Ev_assign rfl) rfl ?_
    refine JL_nil ?_
    refine JQ_then ?_
    refine JC_block ?_
    refine JC_loop (ι := Nat × UInt64) (fun ⟨j, y⟩ => [(1, I64 (s)), (4, .bool false), (5, I64 ((j:Int))), (0, U64 y)]) (fun ⟨j, y⟩ => []) (fun ⟨j, y⟩ => j ≤ 8 ∧ s ≤ 8) (fun ⟨j, y⟩ => 8 - j) (0, nv) (by exfalso; apply hs; unfold Szd; omega) (Sub.cons rfl (Sub.cons rfl (Sub.cons rfl (Sub.cons rfl (Sub.nil))))) rfl ?_
    rintro ⟨j, y⟩ ⟨hx1, hx2⟩
    show JC _ _ _ [(1, I64 (s)), (4, .bool false), (5, I64 ((j:Int))), (0, U64 y)] []
    refine JC_seq ?_
    refine JC_seq ?_
    refine JC_region ?_
    refine JL_val _ (Ev_move rfl) rfl ?_
    refine JL_val _ (Ev_move rfl) rfl ?_
    refine JL_val (.bool (decide (((j:Int)) < (s)))) (Ev_bini rfl rfl fun _ => bin_lss_i _ _) rfl ?_
    refine JL_nil ?_
    refine JQ_then ?_
    refine JC_cond (decide (((j:Int)) < (s))) rfl (fun hb8 => ?_) (fun hb8 => ?_)
    ·
      have hp8 : ((j:Int)) < (s) := of_decide_eq_true hb8
      refine JC_skip ?_
      refine JQ_then ?_
      refine JC_seq ?_
      refine JC_block ?_
      refine JC_region ?_
      refine JL_val _ (Ev_move rfl) rfl ?_
      refine JL_val (U64 (y / (256:UInt64))) (Ev_bini rfl rfl fun _ => bin_quo_u64 y (256:UInt64) (by decide)) rfl ?_
      refine JL_val _ (Ev_assign rfl) rfl ?_
      refine JL_nil ?_
      refine JQ_in_normal ?_
      refine JQ_then ?_
      refine JC_region ?_
      refine JL_val _ (Ev_move rfl) rfl ?_
      refine JL_val (I64 ((j:Int) + 1)) (Ev_bini rfl rfl fun _ => bin_add_i _ _ ((j:Int) + 1) (by omega) (by omega)) rfl ?_
      refine JL_val _ (Ev_assign rfl) rfl ?_
      refine JL_nil ?_
      refine JQ_thenK ?_
      refine K_next (j + 1, y / (256:UInt64)) ⟨by omega, hx2⟩ (by first | (simp; omega) | simp | (dsimp only; omega) | omega) (Sub.cons rfl (Sub.cons rfl (Sub.cons rfl (Sub.cons rfl (Sub.nil))))) rfl
    ·
      have hp8 : ¬ (((j:Int)) < (s)) := of_decide_eq_false hb8
      refine JC_exit ?_
      refine JQ_then_exit ?_
      refine JQ_then_exit ?_
      refine JQ_in_same ?_
      refine JQ_then ?_
      refine JC_seq ?_
      refine JC_region ?_
      refine JL_val _ (Ev_move rfl) rfl ?_
      refine JL_val (.bool (decide (y = (0:UInt64)))) (Ev_bini rfl rfl fun _ => bin_eql_u64 y (0:UInt64)) rfl ?_
      refine JL_val _ (Ev_assign rfl) rfl ?_
      refine JL_nil ?_
      refine JQ_then ?_
      refine JC_ret ?_
      refine JQ_ret (.bool (decide (y = (0:UInt64)))) (res1 Try.results81 (RV_tmp rfl)) fun w1 hw1 => ?_
      exfalso; apply hs; unfold Szd; omega

theorem rfitsT_c (nv : UInt64) (k : Nat) (w : World) (hs : Szd (k:Int)) : Calls Try.prog 81 #[U64 nv, I64 ((k:Int))] w (Post w [] (fun v L => v = .bool (decide (ftN nv k = 0)) ∧ L = [])) := by
  have hs4 : k = 1 ∨ k = 2 ∨ k = 4 ∨ k = 8 := by have := hs; unfold Szd at this; omega
  refine enter w [] 29 [] [U64 nv, I64 ((k:Int))] Try.func81 rfl rfl (by simp) (Hp.start (by simp) (by simp) (by simp)) ?_
  show JC _ _ _ [(0, U64 nv), (1, I64 ((k:Int)))] _
  refine JC_seq ?_
  refine JC_region ?_
  refine JL_val _ (Ev_assign rfl) rfl ?_
  refine JL_nil ?_
  refine JQ_then ?_
  refine JC_seq ?_
  refine JC_seq ?_
  refine JC_region ?_
  refine JL_val _ (Ev_move rfl) rfl ?_
  refine JL_val (.bool (decide (((k:Int)) ≠ (1:Int)))) (Ev_bini rfl rfl fun _ => bin_neq_i _ _) rfl ?_
  refine JL_val _ (Ev_move rfl) rfl ?_
  rcases Bool.eq_false_or_eq_true (decide (((k:Int)) ≠ (1:Int))) with hb1 | hb1
  ·
    have hp1 : ((k:Int)) ≠ (1:Int) := of_decide_eq_true hb1
    refine JL_gval 2 8 true _ _ rfl rfl hb1 (Ev_move rfl) rfl ?_
    refine JL_gval 2 8 true _ (.bool (decide (((k:Int)) ≠ (2:Int)))) rfl rfl hb1 (Ev_bini rfl rfl fun _ => bin_neq_i _ _) rfl ?_
    refine JL_val _ (Ev_pickT _ rfl hb1 rfl) rfl ?_
    refine JL_val _ (Ev_move rfl) rfl ?_
    rcases Bool.eq_false_or_eq_true (decide (((k:Int)) ≠ (2:Int))) with hb2 | hb2
    ·
      have hp2 : ((k:Int)) ≠ (2:Int) := of_decide_eq_true hb2
      refine JL_gval 6 12 true _ _ rfl rfl hb2 (Ev_move rfl) rfl ?_
      refine JL_gval 6 12 true _ (.bool (decide (((k:Int)) ≠ (4:Int)))) rfl rfl hb2 (Ev_bini rfl rfl fun _ => bin_neq_i _ _) rfl ?_
      refine JL_val _ (Ev_pickT _ rfl hb2 rfl) rfl ?_
      refine JL_val _ (Ev_move rfl) rfl ?_
      rcases Bool.eq_false_or_eq_true (decide (((k:Int)) ≠ (4:Int))) with hb3 | hb3
      ·
        have hp3 : ((k:Int)) ≠ (4:Int) := of_decide_eq_true hb3
        refine JL_gval 10 16 true _ _ rfl rfl hb3 (Ev_move rfl) rfl ?_
        refine JL_gval 10 16 true _ (.bool (decide (((k:Int)) ≠ (8:Int)))) rfl rfl hb3 (Ev_bini rfl rfl fun _ => bin_neq_i _ _) rfl ?_
        refine JL_val _ (Ev_pickT _ rfl hb3 rfl) rfl ?_
        refine JL_nil ?_
        refine JQ_then ?_
        refine JC_cond (decide (((k:Int)) ≠ (8:Int))) rfl (fun hb4 => ?_) (fun hb4 => ?_)
        ·
          have hp4 : ((k:Int)) ≠ (8:Int) := of_decide_eq_true hb4
          refine JC_seq ?_
          refine JC_region ?_
          refine JL_val _ (Ev_assign rfl) rfl ?_
          refine JL_nil ?_
          refine JQ_then ?_
          refine JC_ret ?_
          refine JQ_then_ret ?_
          refine JQ_ret (.bool false) (res1 Try.results81 (RV_tmp rfl)) fun w1 hw1 => ?_
          exfalso; unfold Szd at hs; omega
        ·
          have hp4 : ¬ (((k:Int)) ≠ (8:Int)) := of_decide_eq_false hb4
          refine JC_skip ?_
          refine JQ_then ?_
          refine JC_seq ?_
          refine JC_seq ?_
          refine JC_region ?_
          refine JL_val _ (Ev_assign rfl) rfl ?_
          refine JL_nil ?_
          refine JQ_then ?_
          refine JC_block ?_
          refine JC_loop (ι := Nat × UInt64) (fun ⟨j, y⟩ => [(1, I64 ((k:Int))), (4, .bool false), (5, I64 ((j:Int))), (0, U64 y)]) (fun ⟨j, y⟩ => []) (fun ⟨j, y⟩ => j ≤ k ∧ y = ftN nv j) (fun ⟨j, y⟩ => k - j) (0, nv) ⟨by omega, by rw [ftN]⟩ (Sub.cons rfl (Sub.cons rfl (Sub.cons rfl (Sub.cons rfl (Sub.nil))))) rfl ?_
          rintro ⟨j, y⟩ ⟨hx1, hx2⟩
          show JC _ _ _ [(1, I64 ((k:Int))), (4, .bool false), (5, I64 ((j:Int))), (0, U64 y)] []
          refine JC_seq ?_
          refine JC_seq ?_
          refine JC_region ?_
          refine JL_val _ (Ev_move rfl) rfl ?_
          refine JL_val _ (Ev_move rfl) rfl ?_
          refine JL_val (.bool (decide (((j:Int)) < ((k:Int))))) (Ev_bini rfl rfl fun _ => bin_lss_i _ _) rfl ?_
          refine JL_nil ?_
          refine JQ_then ?_
          refine JC_cond (decide (((j:Int)) < ((k:Int)))) rfl (fun hb5 => ?_) (fun hb5 => ?_)
          ·
            have hp5 : ((j:Int)) < ((k:Int)) := of_decide_eq_true hb5
            refine JC_skip ?_
            refine JQ_then ?_
            refine JC_seq ?_
            refine JC_block ?_
            refine JC_region ?_
            refine JL_val _ (Ev_move rfl) rfl ?_
            refine JL_val (U64 (y / (256:UInt64))) (Ev_bini rfl rfl fun _ => bin_quo_u64 y (256:UInt64) (by decide)) rfl ?_
            refine JL_val _ (Ev_assign rfl) rfl ?_
            refine JL_nil ?_
            refine JQ_in_normal ?_
            refine JQ_then ?_
            refine JC_region ?_
            refine JL_val _ (Ev_move rfl) rfl ?_
            refine JL_val (I64 ((j:Int) + 1)) (Ev_bini rfl rfl fun _ => bin_add_i _ _ ((j:Int) + 1) (by omega) (by omega)) rfl ?_
            refine JL_val _ (Ev_assign rfl) rfl ?_
            refine JL_nil ?_
            refine JQ_thenK ?_
            refine K_next (j + 1, y / (256:UInt64)) ⟨by omega, by rw [ftN, ← hx2]⟩ (by first | (simp; omega) | simp | (dsimp only; omega) | omega) (Sub.cons rfl (Sub.cons rfl (Sub.cons rfl (Sub.cons rfl (Sub.nil))))) rfl
          ·
            have hp5 : ¬ (((j:Int)) < ((k:Int))) := of_decide_eq_false hb5
            refine JC_exit ?_
            refine JQ_then_exit ?_
            refine JQ_then_exit ?_
            refine JQ_in_same ?_
            refine JQ_then ?_
            refine JC_seq ?_
            refine JC_region ?_
            refine JL_val _ (Ev_move rfl) rfl ?_
            refine JL_val (.bool (decide (y = (0:UInt64)))) (Ev_bini rfl rfl fun _ => bin_eql_u64 y (0:UInt64)) rfl ?_
            refine JL_val _ (Ev_assign rfl) rfl ?_
            refine JL_nil ?_
            refine JQ_then ?_
            refine JC_ret ?_
            refine JQ_ret (.bool (decide (y = (0:UInt64)))) (res1 Try.results81 (RV_tmp rfl)) fun w1 hw1 => ?_
            have e1 : j = k := by omega
            rw [hx2, e1] at *
            exact ⟨_, [], rfl, ⟨rfl, rfl⟩, hw1.sub (by simp) (by simp)⟩
      ·
        have hp3 : ¬ (((k:Int)) ≠ (4:Int)) := of_decide_eq_false hb3
        refine JL_gskip 10 16 true _ rfl rfl hb3 rfl ?_
        refine JL_gskip 10 16 true _ rfl rfl hb3 rfl ?_
        refine JL_val _ (Ev_pickF _ rfl hb3 rfl) rfl ?_
        refine JL_nil ?_
        refine JQ_then ?_
        refine JC_condF _ rfl rfl ?_
        refine JC_skip ?_
        refine JQ_then ?_
        refine JC_seq ?_
        refine JC_seq ?_
        refine JC_region ?_
        refine JL_val _ (Ev_assign rfl) rfl ?_
        refine JL_nil ?_
        refine JQ_then ?_
        refine JC_block ?_
        refine JC_loop (ι := Nat × UInt64) (fun ⟨j, y⟩ => [(1, I64 ((k:Int))), (4, .bool false), (5, I64 ((j:Int))), (0, U64 y)]) (fun ⟨j, y⟩ => []) (fun ⟨j, y⟩ => j ≤ k ∧ y = ftN nv j) (fun ⟨j, y⟩ => k - j) (0, nv) ⟨by omega, by rw [ftN]⟩ (Sub.cons rfl (Sub.cons rfl (Sub.cons rfl (Sub.cons rfl (Sub.nil))))) rfl ?_
        rintro ⟨j, y⟩ ⟨hx1, hx2⟩
        show JC _ _ _ [(1, I64 ((k:Int))), (4, .bool false), (5, I64 ((j:Int))), (0, U64 y)] []
        refine JC_seq ?_
        refine JC_seq ?_
        refine JC_region ?_
        refine JL_val _ (Ev_move rfl) rfl ?_
        refine JL_val _ (Ev_move rfl) rfl ?_
        refine JL_val (.bool (decide (((j:Int)) < ((k:Int))))) (Ev_bini rfl rfl fun _ => bin_lss_i _ _) rfl ?_
        refine JL_nil ?_
        refine JQ_then ?_
        refine JC_cond (decide (((j:Int)) < ((k:Int)))) rfl (fun hb6 => ?_) (fun hb6 => ?_)
        ·
          have hp6 : ((j:Int)) < ((k:Int)) := of_decide_eq_true hb6
          refine JC_skip ?_
          refine JQ_then ?_
          refine JC_seq ?_
          refine JC_block ?_
          refine JC_region ?_
          refine JL_val _ (Ev_move rfl) rfl ?_
          refine JL_val (U64 (y / (256:UInt64))) (Ev_bini rfl rfl fun _ => bin_quo_u64 y (256:UInt64) (by decide)) rfl ?_
          refine JL_val _ (Ev_assign rfl) rfl ?_
          refine JL_nil ?_
          refine JQ_in_normal ?_
          refine JQ_then ?_
          refine JC_region ?_
          refine JL_val _ (Ev_move rfl) rfl ?_
          refine JL_val (I64 ((j:Int) + 1)) (Ev_bini rfl rfl fun _ => bin_add_i _ _ ((j:Int) + 1) (by omega) (by omega)) rfl ?_
          refine JL_val _ (Ev_assign rfl) rfl ?_
          refine JL_nil ?_
          refine JQ_thenK ?_
          refine K_next (j + 1, y / (256:UInt64)) ⟨by omega, by rw [ftN, ← hx2]⟩ (by first | (simp; omega) | simp | (dsimp only; omega) | omega) (Sub.cons rfl (Sub.cons rfl (Sub.cons rfl (Sub.cons rfl (Sub.nil))))) rfl
        ·
          have hp6 : ¬ (((j:Int)) < ((k:Int))) := of_decide_eq_false hb6
          refine JC_exit ?_
          refine JQ_then_exit ?_
          refine JQ_then_exit ?_
          refine JQ_in_same ?_
          refine JQ_then ?_
          refine JC_seq ?_
          refine JC_region ?_
          refine JL_val _ (Ev_move rfl) rfl ?_
          refine JL_val (.bool (decide (y = (0:UInt64)))) (Ev_bini rfl rfl fun _ => bin_eql_u64 y (0:UInt64)) rfl ?_
          refine JL_val _ (Ev_assign rfl) rfl ?_
          refine JL_nil ?_
          refine JQ_then ?_
          refine JC_ret ?_
          refine JQ_ret (.bool (decide (y = (0:UInt64)))) (res1 Try.results81 (RV_tmp rfl)) fun w1 hw1 => ?_
          have e1 : j = k := by omega
          rw [hx2, e1] at *
          exact ⟨_, [], rfl, ⟨rfl, rfl⟩, hw1.sub (by simp) (by simp)⟩
    ·
      have hp2 : ¬ (((k:Int)) ≠ (2:Int)) := of_decide_eq_false hb2
      refine JL_gskip 6 12 true _ rfl rfl hb2 rfl ?_
      refine JL_gskip 6 12 true _ rfl rfl hb2 rfl ?_
      refine JL_val _ (Ev_pickF _ rfl hb2 rfl) rfl ?_
      refine JL_val _ (Ev_move rfl) rfl ?_
      refine JL_gskip 10 16 true _ rfl rfl rfl rfl ?_
      refine JL_gskip 10 16 true _ rfl rfl rfl rfl ?_
      refine JL_val _ (Ev_pickF _ rfl rfl rfl) rfl ?_
      refine JL_nil ?_
      refine JQ_then ?_
      refine JC_condF _ rfl rfl ?_
      refine JC_skip ?_
      refine JQ_then ?_
      refine JC_seq ?_
      refine JC_seq ?_
      refine JC_region ?_
      refine JL_val _ (Ev_assign rfl) rfl ?_
      refine JL_nil ?_
      refine JQ_then ?_
      refine JC_block ?_
      refine JC_loop (ι := Nat × UInt64) (fun ⟨j, y⟩ => [(1, I64 ((k:Int))), (4, .bool false), (5, I64 ((j:Int))), (0, U64 y)]) (fun ⟨j, y⟩ => []) (fun ⟨j, y⟩ => j ≤ k ∧ y = ftN nv j) (fun ⟨j, y⟩ => k - j) (0, nv) ⟨by omega, by rw [ftN]⟩ (Sub.cons rfl (Sub.cons rfl (Sub.cons rfl (Sub.cons rfl (Sub.nil))))) rfl ?_
      rintro ⟨j, y⟩ ⟨hx1, hx2⟩
      show JC _ _ _ [(1, I64 ((k:Int))), (4, .bool false), (5, I64 ((j:Int))), (0, U64 y)] []
      refine JC_seq ?_
      refine JC_seq ?_
      refine JC_region ?_
      refine JL_val _ (Ev_move rfl) rfl ?_
      refine JL_val _ (Ev_move rfl) rfl ?_
      refine JL_val (.bool (decide (((j:Int)) < ((k:Int))))) (Ev_bini rfl rfl fun _ => bin_lss_i _ _) rfl ?_
      refine JL_nil ?_
      refine JQ_then ?_
      refine JC_cond (decide (((j:Int)) < ((k:Int)))) rfl (fun hb7 => ?_) (fun hb7 => ?_)
      ·
        have hp7 : ((j:Int)) < ((k:Int)) := of_decide_eq_true hb7
        refine JC_skip ?_
        refine JQ_then ?_
        refine JC_seq ?_
        refine JC_block ?_
        refine JC_region ?_
        refine JL_val _ (Ev_move rfl) rfl ?_
        refine JL_val (U64 (y / (256:UInt64))) (Ev_bini rfl rfl fun _ => bin_quo_u64 y (256:UInt64) (by decide)) rfl ?_
        refine JL_val _ (Ev_assign rfl) rfl ?_
        refine JL_nil ?_
        refine JQ_in_normal ?_
        refine JQ_then ?_
        refine JC_region ?_
        refine JL_val _ (Ev_move rfl) rfl ?_
        refine JL_val (I64 ((j:Int) + 1)) (Ev_bini rfl rfl fun _ => bin_add_i _ _ ((j:Int) + 1) (by omega) (by omega)) rfl ?_
        refine JL_val _ (Ev_assign rfl) rfl ?_
        refine JL_nil ?_
        refine JQ_thenK ?_
        refine K_next (j + 1, y / (256:UInt64)) ⟨by omega, by rw [ftN, ← hx2]⟩ (by first | (simp; omega) | simp | (dsimp only; omega) | omega) (Sub.cons rfl (Sub.cons rfl (Sub.cons rfl (Sub.cons rfl (Sub.nil))))) rfl
      ·
        have hp7 : ¬ (((j:Int)) < ((k:Int))) := of_decide_eq_false hb7
        refine JC_exit ?_
        refine JQ_then_exit ?_
        refine JQ_then_exit ?_
        refine JQ_in_same ?_
        refine JQ_then ?_
        refine JC_seq ?_
        refine JC_region ?_
        refine JL_val _ (Ev_move rfl) rfl ?_
        refine JL_val (.bool (decide (y = (0:UInt64)))) (Ev_bini rfl rfl fun _ => bin_eql_u64 y (0:UInt64)) rfl ?_
        refine JL_val _ (Ev_assign rfl) rfl ?_
        refine JL_nil ?_
        refine JQ_then ?_
        refine JC_ret ?_
        refine JQ_ret (.bool (decide (y = (0:UInt64)))) (res1 Try.results81 (RV_tmp rfl)) fun w1 hw1 => ?_
        have e1 : j = k := by omega
        rw [hx2, e1] at *
        exact ⟨_, [], rfl, ⟨rfl, rfl⟩, hw1.sub (by simp) (by simp)⟩
  ·
    have hp1 : ¬ (((k:Int)) ≠ (1:Int)) := of_decide_eq_false hb1
    refine JL_gskip 2 8 true _ rfl rfl hb1 rfl ?_
    refine JL_gskip 2 8 true _ rfl rfl hb1 rfl ?_
    refine JL_val _ (Ev_pickF _ rfl hb1 rfl) rfl ?_
    refine JL_val _ (Ev_move rfl) rfl ?_
    refine JL_gskip 6 12 true _ rfl rfl rfl rfl ?_
    refine JL_gskip 6 12 true _ rfl rfl rfl rfl ?_
    refine JL_val _ (Ev_pickF _ rfl rfl rfl) rfl ?_
    refine JL_val _ (Ev_move rfl) rfl ?_
    refine JL_gskip 10 16 true _ rfl rfl rfl rfl ?_
    refine JL_gskip 10 16 true _ rfl rfl rfl rfl ?_
    refine JL_val _ (Ev_pickF _ rfl rfl rfl) rfl ?_
    refine JL_nil ?_
    refine JQ_then ?_
    refine JC_condF _ rfl rfl ?_
    refine JC_skip ?_
    refine JQ_then ?_
    refine JC_seq ?_
    refine JC_seq ?_
    refine JC_region ?_
    refine JL_val _ (Ev_assign rfl) rfl ?_
    refine JL_nil ?_
    refine JQ_then ?_
    refine JC_block ?_
    refine JC_loop (ι := Nat × UInt64) (fun ⟨j, y⟩ => [(1, I64 ((k:Int))), (4, .bool false), (5, I64 ((j:Int))), (0, U64 y)]) (fun ⟨j, y⟩ => []) (fun ⟨j, y⟩ => j ≤ k ∧ y = ftN nv j) (fun ⟨j, y⟩ => k - j) (0, nv) ⟨by omega, by rw [ftN]⟩ (Sub.cons rfl (Sub.cons rfl (Sub.cons rfl (Sub.cons rfl (Sub.nil))))) rfl ?_
    rintro ⟨j, y⟩ ⟨hx1, hx2⟩
    show JC _ _ _ [(1, I64 ((k:Int))), (4, .bool false), (5, I64 ((j:Int))), (0, U64 y)] []
    refine JC_seq ?_
    refine JC_seq ?_
    refine JC_region ?_
    refine JL_val _ (Ev_move rfl) rfl ?_
    refine JL_val _ (Ev_move rfl) rfl ?_
    refine JL_val (.bool (decide (((j:Int)) < ((k:Int))))) (Ev_bini rfl rfl fun _ => bin_lss_i _ _) rfl ?_
    refine JL_nil ?_
    refine JQ_then ?_
    refine JC_cond (decide (((j:Int)) < ((k:Int)))) rfl (fun hb8 => ?_) (fun hb8 => ?_)
    ·
      have hp8 : ((j:Int)) < ((k:Int)) := of_decide_eq_true hb8
      refine JC_skip ?_
      refine JQ_then ?_
      refine JC_seq ?_
      refine JC_block ?_
      refine JC_region ?_
      refine JL_val _ (Ev_move rfl) rfl ?_
      refine JL_val (U64 (y / (256:UInt64))) (Ev_bini rfl rfl fun _ => bin_quo_u64 y (256:UInt64) (by decide)) rfl ?_
      refine JL_val _ (Ev_assign rfl) rfl ?_
      refine JL_nil ?_
      refine JQ_in_normal ?_
      refine JQ_then ?_
      refine JC_region ?_
      refine JL_val _ (Ev_move rfl) rfl ?_
      refine JL_val (I64 ((j:Int) + 1)) (Ev_bini rfl rfl fun _ => bin_add_i _ _ ((j:Int) + 1) (by omega) (by omega)) rfl ?_
      refine JL_val _ (Ev_assign rfl) rfl ?_
      refine JL_nil ?_
      refine JQ_thenK ?_
      refine K_next (j + 1, y / (256:UInt64)) ⟨by omega, by rw [ftN, ← hx2]⟩ (by first | (simp; omega) | simp | (dsimp only; omega) | omega) (Sub.cons rfl (Sub.cons rfl (Sub.cons rfl (Sub.cons rfl (Sub.nil))))) rfl
    ·
      have hp8 : ¬ (((j:Int)) < ((k:Int))) := of_decide_eq_false hb8
      refine JC_exit ?_
      refine JQ_then_exit ?_
      refine JQ_then_exit ?_
      refine JQ_in_same ?_
      refine JQ_then ?_
      refine JC_seq ?_
      refine JC_region ?_
      refine JL_val _ (Ev_move rfl) rfl ?_
      refine JL_val (.bool (decide (y = (0:UInt64)))) (Ev_bini rfl rfl fun _ => bin_eql_u64 y (0:UInt64)) rfl ?_
      refine JL_val _ (Ev_assign rfl) rfl ?_
      refine JL_nil ?_
      refine JQ_then ?_
      refine JC_ret ?_
      refine JQ_ret (.bool (decide (y = (0:UInt64)))) (res1 Try.results81 (RV_tmp rfl)) fun w1 hw1 => ?_
      have e1 : j = k := by omega
      rw [hx2, e1] at *
      exact ⟨_, [], rfl, ⟨rfl, rfl⟩, hw1.sub (by simp) (by simp)⟩

theorem rnumber_c (nv : UInt64) (k : Nat) (w : World) (hk : k ≤ 8) : Calls Try.prog 82 #[U64 nv, I64 ((k:Int))] w (Post w [] (fun v L => ∃ g, v = Slc g 0 k k ∧ L = [⟨g, cu8 (numK k nv k), 5, (0, 0)⟩])) := by
  have hmx : maxLen = 9223372036854775807 := rfl
  refine enter w [] 24 [] [U64 nv, I64 ((k:Int))] Try.func82 rfl rfl (by simp) (Hp.start (by simp) (by simp) (by simp)) ?_
  show JC _ _ _ [(0, U64 nv), (1, I64 ((k:Int)))] _
  refine JC_seq ?_
  refine JC_region ?_
  refine JL_val _ (Ev_assign rfl) rfl ?_
  refine JL_nil ?_
  refine JQ_then ?_
  refine JC_seq ?_
  refine JC_region ?_
  refine JL_val _ (Ev_move rfl) rfl ?_
  refine JL_step (Step_make8 5 1 k k Try.underlying38 Try.info5 rfl rfl (by omega) (by omega) (by unfold maxLen; omega)) rfl ?_
  rintro v1 L1 ⟨nb1, hnb1, rfl, rfl⟩
  show JL _ _ _ _ ((8, Slc nb1 0 k k) :: _) [⟨nb1, cu8 (zr8 k), 5, (0, 0)⟩]
  refine JL_val _ (Ev_assign rfl) rfl ?_
  refine JL_nil ?_
  refine JQ_then ?_
  refine JC_seq ?_
  refine JC_seq ?_
  refine JC_region ?_
  refine JL_val _ (Ev_move rfl) rfl ?_
  refine JL_val (I64 ((k:Int) - 1)) (Ev_bini rfl rfl fun _ => bin_sub_i _ _ ((k:Int) - 1) (by omega) (by omega)) rfl ?_
  refine JL_val _ (Ev_assign rfl) rfl ?_
  refine JL_nil ?_
  refine JQ_then ?_
  refine JC_block ?_
  refine JC_loop (ι := Nat × List UInt8 × UInt64) (fun ⟨j, o, y⟩ => [(4, .slice none 0 0), (5, Slc nb1 0 k k), (6, I64 (-(j:Int) + (k:Int) - 1)), (0, U64 y)]) (fun ⟨j, o, y⟩ => [⟨nb1, cu8 o, 5, (0, 0)⟩]) (fun ⟨j, o, y⟩ => j ≤ k ∧ o = (rnK k nv j).1 ∧ y = (rnK k nv j).2 ∧ o.length = k) (fun ⟨j, o, y⟩ => k - j) (0, zr8 k, nv) ⟨by omega, by rw [rnK], by rw [rnK], zr8_len k⟩ (Sub.cons rfl (Sub.cons rfl (Sub.cons (some_i64 (by omega)) (Sub.cons rfl (Sub.nil))))) rfl ?_
  rintro ⟨j, o, y⟩ ⟨hx1, hx2, hx3, ho⟩
  show JC _ _ _ [(4, .slice none 0 0), (5, Slc nb1 0 k k), (6, I64 (-(j:Int) + (k:Int) - 1)), (0, U64 y)] [⟨nb1, cu8 o, 5, (0, 0)⟩]
  refine JC_seq ?_
  refine JC_seq ?_
  refine JC_region ?_
  refine JL_val _ (Ev_move rfl) rfl ?_
  refine JL_val (.bool (decide ((0:Int) ≤ (-(j:Int) + (k:Int) - 1)))) (Ev_bini rfl rfl fun _ => bin_geq_i _ _) rfl ?_
  refine JL_nil ?_
  refine JQ_then ?_
  refine JC_cond (decide ((0:Int) ≤ (-(j:Int) + (k:Int) - 1))) rfl (fun hb1 => ?_) (fun hb1 => ?_)
  ·
    have hp1 : (0:Int) ≤ (-(j:Int) + (k:Int) - 1) := of_decide_eq_true hb1
    refine JC_skip ?_
    refine JQ_then ?_
    refine JC_seq ?_
    refine JC_block ?_
    refine JC_seq ?_
    refine JC_region ?_
    refine JL_val _ (Ev_move rfl) rfl ?_
    refine JL_val _ (Ev_move rfl) rfl ?_
    refine JL_val _ (Ev_move rfl) rfl ?_
    refine JL_val (U64 (y % (256:UInt64))) (Ev_bini rfl rfl fun _ => bin_rem_u64 y (256:UInt64) (by decide)) rfl ?_
    refine JL_val (U8 ((y % (256:UInt64)).toUInt8)) (Ev_conv _ _ rfl fun _ => conv_u64_u8 (by rw [Try.underlying44]; rfl) Try.underlying5 _) rfl ?_
    refine JL_val (Ptr nb1 (k - j - 1)) (Ev_indexSl 5 1 (k - j - 1) Try.underlying38 Try.sizeOf5 rfl rfl (by omega) (by omega) (by omega)) rfl ?_
    have hl1 : (o.set (k - j - 1) ((y % (256:UInt64)).toUInt8)).length = k := by first | (rw [List.length_set]; exact ho) | simp [ho]
    refine JL_step (Step_store 0 nb1 (k - j - 1) 1 (cu8 o) 5 (U8 ((y % (256:UInt64)).toUInt8)) ([U8 ((y % (256:UInt64)).toUInt8)]) (cu8 (o.set (k - j - 1) ((y % (256:UInt64)).toUInt8))) rfl rfl rfl rfl Try.sizeOf5 rfl (by simp [Value.oneCell']) (by simp [ho]; try omega) (lay8 _ _ _ (by rw [ho]; omega))) rfl ?_
    rintro v1 L1 ⟨rfl, rfl⟩
    show JL _ _ _ _ _ [⟨nb1, cu8 (o.set (k - j - 1) ((y % (256:UInt64)).toUInt8)), 5, (0, 0)⟩]
    refine JL_nil ?_
    refine JQ_then ?_
    refine JC_region ?_
    refine JL_val _ (Ev_move rfl) rfl ?_
    refine JL_val (U64 (y / (256:UInt64))) (Ev_bini rfl rfl fun _ => bin_quo_u64 y (256:UInt64) (by decide)) rfl ?_
    refine JL_val _ (Ev_assign rfl) rfl ?_
    refine JL_nil ?_
    refine JQ_in_normal ?_
    refine JQ_then ?_
    refine JC_region ?_
    refine JL_val _ (Ev_move rfl) rfl ?_
    refine JL_val (I64 (-(j:Int) + (k:Int) - 2)) (Ev_bini rfl rfl fun _ => bin_sub_i _ _ (-(j:Int) + (k:Int) - 2) (by omega) (by omega)) rfl ?_
    refine JL_val _ (Ev_assign rfl) rfl ?_
    refine JL_nil ?_
    refine JQ_thenK ?_
    refine K_next (j + 1, o.set (k - j - 1) ((y % (256:UInt64)).toUInt8), y / (256:UInt64)) ⟨by omega, by rw [rnK, ← hx2, ← hx3], by rw [rnK, ← hx3], hl1⟩ (by first | (simp; omega) | simp | (dsimp only; omega) | omega) (Sub.cons rfl (Sub.cons rfl (Sub.cons (some_i64 (by omega)) (Sub.cons rfl (Sub.nil))))) rfl
  ·
    have hp1 : ¬ ((0:Int) ≤ (-(j:Int) + (k:Int) - 1)) := of_decide_eq_false hb1
    refine JC_exit ?_
    refine JQ_then_exit ?_
    refine JQ_then_exit ?_
    refine JQ_in_same ?_
    refine JQ_then ?_
    refine JC_seq ?_
    refine JC_region ?_
    refine JL_val _ (Ev_move rfl) rfl ?_
    refine JL_val _ (Ev_assign rfl) rfl ?_
    refine JL_nil ?_
    refine JQ_then ?_
    refine JC_ret ?_
    refine JQ_ret (Slc nb1 0 k k) (res1 Try.results82 (RV_tmp rfl)) fun w1 hw1 => ?_
    have e1 : j = k := by omega
    rw [hx2, e1, rnK_num k nv hk] at hw1
    exact ⟨_, _, rfl, ⟨_, rfl, rfl⟩, hw1.sub (by simp) (by simp)⟩

theorem rnumB1_c (sa : Option Addr) (sn sc e : Nat) (nv : UInt64) (s : Int) (w : World) (hs : ¬ Szd s) : Calls Try.prog 41 #[.agg (List.toArray (α := Value) ([.slice sa sn sc, I64 ((e:Int))])), U64 nv, I64 (s)] w (Post w [] (fun v L => v = .agg [.slice sa sn sc, I64 ((erN e 1 : Nat) : Int)].toArray ∧ L = [])) := by
  refine enter (P := Try.prog) (f := 41) (fn := Try.f41) w [] 21 [] [.agg (List.toArray (α := Value) ([.slice sa sn sc, I64 ((e:Int))])), U64 nv, I64 (s)] Try.func41 rfl rfl (by simp) (Hp.start (by simp) (by simp) (by simp)) ?_
  show JC _ _ _ [(0, .agg (List.toArray (α := Value) ([.slice sa sn sc, I64 ((e:Int))]))), (1, U64 nv), (2, I64 (s))] _
  refine JC_seq ?_
  refine JC_region ?_
  refine JL_step (Step_box (.agg (List.toArray (α := Value) ([.slice sa sn sc, I64 ((e:Int))]))) ([.slice sa sn sc, I64 ((e:Int))]) rfl (by first | rfl | simp)) rfl ?_
  rintro v1 L1 ⟨nb1, hnb1, rfl, rfl⟩
  show JL _ _ _ _ ((3, Ptr nb1 0) :: _) [⟨nb1, [.slice sa sn sc, I64 ((e:Int))], 68, (0, 0)⟩]
  refine JL_step (Step_alloc _ ([.slice none 0 0, I64 (0:Int)]) Try.zeroValue68 (by kernel_rfl)) rfl ?_
  rintro v1 L1 ⟨nb2, hnb2, rfl, rfl⟩
  show JL _ _ _ _ ((6, Ptr nb2 0) :: _) [⟨nb1, [.slice sa sn sc, I64 ((e:Int))], 68, (0, 0)⟩, ⟨nb2, [.slice none 0 0, I64 (0:Int)], 68, (0, 0)⟩]
  refine JL_nil ?_
  refine JQ_then ?_
  refine JC_seq ?_
  refine JC_seq ?_
  refine JC_region ?_
  refine JL_val _ (Ev_move rfl) rfl ?_
  refine JL_val _ (Ev_move rfl) rfl ?_
  refine JL_step (Step_callP 81 [U64 nv, I64 (s)] (.bool false) (Cl_func [U64 nv, I64 (s)] Try.call81 rfl) (fun w1 hw1 => rfitsF_c nv (s) w1 hs)) rfl ?_
  rintro v1 L1 ⟨rfl, rfl⟩
  show JL _ _ _ _ ((9, .bool false) :: _) [⟨nb1, [.slice sa sn sc, I64 ((e:Int))], 68, (0, 0)⟩, ⟨nb2, [.slice none 0 0, I64 (0:Int)], 68, (0, 0)⟩]
  refine JL_val (.bool (!false)) (Ev_not rfl) rfl ?_
  refine JL_nil ?_
  refine JQ_then ?_
  refine JC_condT _ rfl rfl ?_
  refine JC_seq ?_
  refine JC_seq ?_
  refine JC_region ?_
  refine JL_val (Ptr nb1 1) (Ev_fieldAddr 1 3 1 Try.underlying68 rfl Try.sizeOf3 rfl rfl) rfl ?_
  refine JL_val (I64 ((e:Int))) (Ev_load rfl (Ld_one Try.isAgg3 (MemAt.ent 0 rfl (Seg.tail (Seg.head))))) rfl ?_
  refine JL_val (.bool (decide (((e:Int)) = (0:Int)))) (Ev_bini rfl rfl fun _ => bin_eql_i _ _) rfl ?_
  refine JL_nil ?_
  refine JQ_then ?_
  refine JC_cond (decide (((e:Int)) = (0:Int))) rfl (fun hb1 => ?_) (fun hb1 => ?_)
  ·
    have hp1 : ((e:Int)) = (0:Int) := of_decide_eq_true hb1
    refine JC_region ?_
    refine JL_val (Ptr nb1 1) (Ev_fieldAddr 1 3 1 Try.underlying68 rfl Try.sizeOf3 rfl rfl) rfl ?_
    refine JL_step (Step_store 0 nb1 1 1 ([.slice sa sn sc, I64 ((e:Int))]) 68 (I64 (1:Int)) ([I64 (1:Int)]) ([.slice sa sn sc, I64 (1:Int)]) rfl rfl rfl rfl Try.sizeOf3 rfl (by simp [Value.oneCell']) (Nat.le_of_ble_eq_true rfl) (rfl)) rfl ?_
    rintro v1 L1 ⟨rfl, rfl⟩
    show JL _ _ _ _ _ [⟨nb1, [.slice sa sn sc, I64 (1:Int)], 68, (0, 0)⟩, ⟨nb2, [.slice none 0 0, I64 (0:Int)], 68, (0, 0)⟩]
    refine JL_nil ?_
    refine JQ_then ?_
    refine JC_seq ?_
    refine JC_region ?_
    refine JL_val (.agg (List.toArray (α := Value) ([.slice sa sn sc, I64 (1:Int)]))) (Ev_load rfl (Ld_agg Try.isAgg68 Try.sizeOf68 rfl (MemAt.ent 0 rfl (Seg.whole _)))) rfl ?_
    refine JL_step (Step_store 1 nb2 0 2 ([.slice none 0 0, I64 (0:Int)]) 68 (.agg (List.toArray (α := Value) ([.slice sa sn sc, I64 (1:Int)]))) ([.slice sa sn sc, I64 (1:Int)]) ([.slice sa sn sc, I64 (1:Int)]) rfl rfl rfl (by first | rfl | simp) Try.sizeOf68 rfl (by simp [Value.oneCell']) (Nat.le_of_ble_eq_true rfl) (lay_whole (by simp []))) rfl ?_
    rintro v1 L1 ⟨rfl, rfl⟩
    show JL _ _ _ _ _ [⟨nb1, [.slice sa sn sc, I64 (1:Int)], 68, (0, 0)⟩, ⟨nb2, [.slice sa sn sc, I64 (1:Int)], 68, (0, 0)⟩]
    refine JL_nil ?_
    refine JQ_then ?_
    refine JC_ret ?_
    refine JQ_then_ret ?_
    refine JQ_ret (.agg (List.toArray (α := Value) ([.slice sa sn sc, I64 (1:Int)]))) (res1 Try.results41 (RV_cell rfl (Ld_agg Try.isAgg68 Try.sizeOf68 rfl (MemAt.ent 1 rfl (Seg.whole _))))) fun w1 hw1 => ?_
    have he1 : erN e 1 = 1 := by rw [erN]; first | rw [if_pos (by omega)] | rw [if_neg (by omega)]
    rw [he1]
    exact ⟨_, [], rfl, ⟨rfl, rfl⟩, hw1.sub (by simp) (by simp)⟩
  ·
    have hp1 : ¬ (((e:Int)) = (0:Int)) := of_decide_eq_false hb1
    refine JC_skip ?_
    refine JQ_then ?_
    refine JC_seq ?_
    refine JC_region ?_
    refine JL_val (.agg (List.toArray (α := Value) ([.slice sa sn sc, I64 ((e:Int))]))) (Ev_load rfl (Ld_agg Try.isAgg68 Try.sizeOf68 rfl (MemAt.ent 0 rfl (Seg.whole _)))) rfl ?_
    refine JL_step (Step_store 1 nb2 0 2 ([.slice none 0 0, I64 (0:Int)]) 68 (.agg (List.toArray (α := Value) ([.slice sa sn sc, I64 ((e:Int))]))) ([.slice sa sn sc, I64 ((e:Int))]) ([.slice sa sn sc, I64 ((e:Int))]) rfl rfl rfl (by first | rfl | simp) Try.sizeOf68 rfl (by simp [Value.oneCell']) (Nat.le_of_ble_eq_true rfl) (lay_whole (by simp []))) rfl ?_
    rintro v1 L1 ⟨rfl, rfl⟩
    show JL _ _ _ _ _ [⟨nb1, [.slice sa sn sc, I64 ((e:Int))], 68, (0, 0)⟩, ⟨nb2, [.slice sa sn sc, I64 ((e:Int))], 68, (0, 0)⟩]
    refine JL_nil ?_
    refine JQ_then ?_
    refine JC_ret ?_
    refine JQ_then_ret ?_
    refine JQ_ret (.agg (List.toArray (α := Value) ([.slice sa sn sc, I64 ((e:Int))]))) (res1 Try.results41 (RV_cell rfl (Ld_agg Try.isAgg68 Try.sizeOf68 rfl (MemAt.ent 1 rfl (Seg.whole _))))) fun w1 hw1 => ?_
    have he1 : erN e 1 = e := by rw [erN]; first | rw [if_pos (by omega)] | rw [if_neg (by omega)]
    rw [he1]
    exact ⟨_, [], rfl, ⟨rfl, rfl⟩, hw1.sub (by simp) (by simp)⟩

theorem rnumB2_c (sa : Option Addr) (sn sc e : Nat) (nv : UInt64) (k : Nat) (w : World) (hs : Szd (k:Int)) (hx : ftN nv k ≠ 0) : Calls Try.prog 41 #[.agg (List.toArray (α := Value) ([.slice sa sn sc, I64 ((e:Int))])), U64 nv, I64 ((k:Int))] w (Post w [] (fun v L => v = .agg [.slice sa sn sc, I64 ((erN e 1 : Nat) : Int)].toArray ∧ L = [])) := by
  refine enter (P := Try.prog) (f := 41) (fn := Try.f41) w [] 21 [] [.agg (List.toArray (α := Value) ([.slice sa sn sc, I64 ((e:Int))])), U64 nv, I64 ((k:Int))] Try.func41 rfl rfl (by simp) (Hp.start (by simp) (by simp) (by simp)) ?_
  show JC _ _ _ [(0, .agg (List.toArray (α := Value) ([.slice sa sn sc, I64 ((e:Int))]))), (1, U64 nv), (2, I64 ((k:Int)))] _
  refine JC_seq ?_
  refine JC_region ?_
  refine JL_step (Step_box (.agg (List.toArray (α := Value) ([.slice sa sn sc, I64 ((e:Int))]))) ([.slice sa sn sc, I64 ((e:Int))]) rfl (by first | rfl | simp)) rfl ?_
  rintro v1 L1 ⟨nb1, hnb1, rfl, rfl⟩
  show JL _ _ _ _ ((3, Ptr nb1 0) :: _) [⟨nb1, [.slice sa sn sc, I64 ((e:Int))], 68, (0, 0)⟩]
  refine JL_step (Step_alloc _ ([.slice none 0 0, I64 (0:Int)]) Try.zeroValue68 (by kernel_rfl)) rfl ?_
  rintro v1 L1 ⟨nb2, hnb2, rfl, rfl⟩
  show JL _ _ _ _ ((6, Ptr nb2 0) :: _) [⟨nb1, [.slice sa sn sc, I64 ((e:Int))], 68, (0, 0)⟩, ⟨nb2, [.slice none 0 0, I64 (0:Int)], 68, (0, 0)⟩]
  refine JL_nil ?_
  refine JQ_then ?_
  refine JC_seq ?_
  refine JC_seq ?_
  refine JC_region ?_
  refine JL_val _ (Ev_move rfl) rfl ?_
  refine JL_val _ (Ev_move rfl) rfl ?_
  refine JL_step (Step_callP 81 [U64 nv, I64 ((k:Int))] (.bool (decide (ftN nv k = 0))) (Cl_func [U64 nv, I64 ((k:Int))] Try.call81 rfl) (fun w1 hw1 => rfitsT_c nv k w1 hs)) rfl ?_
  rintro v1 L1 ⟨rfl, rfl⟩
  show JL _ _ _ _ ((9, .bool (decide (ftN nv k = 0))) :: _) [⟨nb1, [.slice sa sn sc, I64 ((e:Int))], 68, (0, 0)⟩, ⟨nb2, [.slice none 0 0, I64 (0:Int)], 68, (0, 0)⟩]
  refine JL_val (.bool (!(decide (ftN nv k = 0)))) (Ev_not rfl) rfl ?_
  refine JL_nil ?_
  refine JQ_then ?_
  refine JC_condT _ rfl (by rw [show (decide (ftN nv k = 0)) = false from (decide_eq_false hx)]; rfl) ?_
  refine JC_seq ?_
  refine JC_seq ?_
  refine JC_region ?_
  refine JL_val (Ptr nb1 1) (Ev_fieldAddr 1 3 1 Try.underlying68 rfl Try.sizeOf3 rfl rfl) rfl ?_
  refine JL_val (I64 ((e:Int))) (Ev_load rfl (Ld_one Try.isAgg3 (MemAt.ent 0 rfl (Seg.tail (Seg.head))))) rfl ?_
  refine JL_val (.bool (decide (((e:Int)) = (0:Int)))) (Ev_bini rfl rfl fun _ => bin_eql_i _ _) rfl ?_
  refine JL_nil ?_
  refine JQ_then ?_
  refine JC_cond (decide (((e:Int)) = (0:Int))) rfl (fun hb1 => ?_) (fun hb1 => ?_)
  ·
    have hp1 : ((e:Int)) = (0:Int) := of_decide_eq_true hb1
    refine JC_region ?_
    refine JL_val (Ptr nb1 1) (Ev_fieldAddr 1 3 1 Try.underlying68 rfl Try.sizeOf3 rfl rfl) rfl ?_
    refine JL_step (Step_store 0 nb1 1 1 ([.slice sa sn sc, I64 ((e:Int))]) 68 (I64 (1:Int)) ([I64 (1:Int)]) ([.slice sa sn sc, I64 (1:Int)]) rfl rfl rfl rfl Try.sizeOf3 rfl (by simp [Value.oneCell']) (Nat.le_of_ble_eq_true rfl) (rfl)) rfl ?_
    rintro v1 L1 ⟨rfl, rfl⟩
    show JL _ _ _ _ _ [⟨nb1, [.slice sa sn sc, I64 (1:Int)], 68, (0, 0)⟩, ⟨nb2, [.slice none 0 0, I64 (0:Int)], 68, (0, 0)⟩]
    refine JL_nil ?_
    refine JQ_then ?_
    refine JC_seq ?_
    refine JC_region ?_
    refine JL_val (.agg (List.toArray (α := Value) ([.slice sa sn sc, I64 (1:Int)]))) (Ev_load rfl (Ld_agg Try.isAgg68 Try.sizeOf68 rfl (MemAt.ent 0 rfl (Seg.whole _)))) rfl ?_
    refine JL_step (Step_store 1 nb2 0 2 ([.slice none 0 0, I64 (0:Int)]) 68 (.agg (List.toArray (α := Value) ([.slice sa sn sc, I64 (1:Int)]))) ([.slice sa sn sc, I64 (1:Int)]) ([.slice sa sn sc, I64 (1:Int)]) rfl rfl rfl (by first | rfl | simp) Try.sizeOf68 rfl (by simp [Value.oneCell']) (Nat.le_of_ble_eq_true rfl) (lay_whole (by simp []))) rfl ?_
    rintro v1 L1 ⟨rfl, rfl⟩
    show JL _ _ _ _ _ [⟨nb1, [.slice sa sn sc, I64 (1:Int)], 68, (0, 0)⟩, ⟨nb2, [.slice sa sn sc, I64 (1:Int)], 68, (0, 0)⟩]
    refine JL_nil ?_
    refine JQ_then ?_
    refine JC_ret ?_
    refine JQ_then_ret ?_
    refine JQ_ret (.agg (List.toArray (α := Value) ([.slice sa sn sc, I64 (1:Int)]))) (res1 Try.results41 (RV_cell rfl (Ld_agg Try.isAgg68 Try.sizeOf68 rfl (MemAt.ent 1 rfl (Seg.whole _))))) fun w1 hw1 => ?_
    have he1 : erN e 1 = 1 := by rw [erN]; first | rw [if_pos (by omega)] | rw [if_neg (by omega)]
    rw [he1]
    exact ⟨_, [], rfl, ⟨rfl, rfl⟩, hw1.sub (by simp) (by simp)⟩
  ·
    have hp1 : ¬ (((e:Int)) = (0:Int)) := of_decide_eq_false hb1
    refine JC_skip ?_
    refine JQ_then ?_
    refine JC_seq ?_
    refine JC_region ?_
    refine JL_val (.agg (List.toArray (α := Value) ([.slice sa sn sc, I64 ((e:Int))]))) (Ev_load rfl (Ld_agg Try.isAgg68 Try.sizeOf68 rfl (MemAt.ent 0 rfl (Seg.whole _)))) rfl ?_
    refine JL_step (Step_store 1 nb2 0 2 ([.slice none 0 0, I64 (0:Int)]) 68 (.agg (List.toArray (α := Value) ([.slice sa sn sc, I64 ((e:Int))]))) ([.slice sa sn sc, I64 ((e:Int))]) ([.slice sa sn sc, I64 ((e:Int))]) rfl rfl rfl (by first | rfl | simp) Try.sizeOf68 rfl (by simp [Value.oneCell']) (Nat.le_of_ble_eq_true rfl) (lay_whole (by simp []))) rfl ?_
    rintro v1 L1 ⟨rfl, rfl⟩
    show JL _ _ _ _ _ [⟨nb1, [.slice sa sn sc, I64 ((e:Int))], 68, (0, 0)⟩, ⟨nb2, [.slice sa sn sc, I64 ((e:Int))], 68, (0, 0)⟩]
    refine JL_nil ?_
    refine JQ_then ?_
    refine JC_ret ?_
    refine JQ_then_ret ?_
    refine JQ_ret (.agg (List.toArray (α := Value) ([.slice sa sn sc, I64 ((e:Int))]))) (res1 Try.results41 (RV_cell rfl (Ld_agg Try.isAgg68 Try.sizeOf68 rfl (MemAt.ent 1 rfl (Seg.whole _))))) fun w1 hw1 => ?_
    have he1 : erN e 1 = e := by rw [erN]; first | rw [if_pos (by omega)] | rw [if_neg (by omega)]
    rw [he1]
    exact ⟨_, [], rfl, ⟨rfl, rfl⟩, hw1.sub (by simp) (by simp)⟩

theorem rnumOk_c (ao : Option Addr) (n c : Nat) (o : List UInt8) (bd : Int) (nv : UInt64) (k tot : Nat) (w : World) (ho : o.length = n) (hn : n ≤ 1000000000) (hro : RdB w [] ao o) (hs : Szd (k:Int)) (hx : ftN nv k = 0) (ht : n + k = tot) : Calls Try.prog 41 #[.agg (List.toArray (α := Value) ([.slice ao n c, I64 (bd)])), U64 nv, I64 ((k:Int))] w (Post w [] (fun v L => ∃ g sp cap, v = .agg [Slc g 0 tot cap, I64 bd].toArray ∧ L = [⟨g, cu8 (o ++ numK k nv k) ++ sp, 5, (0, 0)⟩] ∧ sp.length = cap - tot ∧ tot ≤ cap ∧ cap ≤ maxLen)) := by
  have hmx : maxLen = 9223372036854775807 := rfl
  have hs4 : k = 1 ∨ k = 2 ∨ k = 4 ∨ k = 8 := by have := hs; unfold Szd at this; omega
  refine enter (P := Try.prog) (f := 41) (fn := Try.f41) w [] 21 [] [.agg (List.toArray (α := Value) ([.slice ao n c, I64 (bd)])), U64 nv, I64 ((k:Int))] Try.func41 rfl rfl (by simp) (Hp.start (by simp) (by simp) (by simp)) ?_
  show JC _ _ _ [(0, .agg (List.toArray (α := Value) ([.slice ao n c, I64 (bd)]))), (1, U64 nv), (2, I64 ((k:Int)))] _
  refine JC_seq ?_
  refine JC_region ?_
  refine JL_step (Step_box (.agg (List.toArray (α := Value) ([.slice ao n c, I64 (bd)]))) ([.slice ao n c, I64 (bd)]) rfl (by first | rfl | simp)) rfl ?_
  rintro v1 L1 ⟨nb1, hnb1, rfl, rfl⟩
  show JL _ _ _ _ ((3, Ptr nb1 0) :: _) [⟨nb1, [.slice ao n c, I64 (bd)], 68, (0, 0)⟩]
  refine JL_step (Step_alloc _ ([.slice none 0 0, I64 (0:Int)]) Try.zeroValue68 (by kernel_rfl)) rfl ?_
  rintro v1 L1 ⟨nb2, hnb2, rfl, rfl⟩
  show JL _ _ _ _ ((6, Ptr nb2 0) :: _) [⟨nb1, [.slice ao n c, I64 (bd)], 68, (0, 0)⟩, ⟨nb2, [.slice none 0 0, I64 (0:Int)], 68, (0, 0)⟩]
  refine JL_nil ?_
  refine JQ_then ?_
  refine JC_seq ?_
  refine JC_seq ?_
  refine JC_region ?_
  refine JL_val _ (Ev_move rfl) rfl ?_
  refine JL_val _ (Ev_move rfl) rfl ?_
  refine JL_step (Step_callP 81 [U64 nv, I64 ((k:Int))] (.bool (decide (ftN nv k = 0))) (Cl_func [U64 nv, I64 ((k:Int))] Try.call81 rfl) (fun w1 hw1 => rfitsT_c nv k w1 hs)) rfl ?_
  rintro v1 L1 ⟨rfl, rfl⟩
  show JL _ _ _ _ ((9, .bool (decide (ftN nv k = 0))) :: _) [⟨nb1, [.slice ao n c, I64 (bd)], 68, (0, 0)⟩, ⟨nb2, [.slice none 0 0, I64 (0:Int)], 68, (0, 0)⟩]
  refine JL_val (.bool (!(decide (ftN nv k = 0)))) (Ev_not rfl) rfl ?_
  refine JL_nil ?_
  refine JQ_then ?_
  refine JC_condF _ rfl (by rw [show (decide (ftN nv k = 0)) = true from (decide_eq_true hx)]; rfl) ?_
  refine JC_skip ?_
  refine JQ_then ?_
  refine JC_seq ?_
  refine JC_draw 21 4 [(0, .agg (List.toArray (α := Value) ([.slice ao n c, I64 (bd)]))), (1, U64 nv), (2, I64 ((k:Int)))] Try.mixed rfl (by decide +kernel) ?_
  refine DP_one ⟨[], [0, 1, 2], [], [0, 1, 2], [3]⟩ 3 _ rfl rfl (by decide +kernel) rfl ⟨⟨_, rfl, Qok_val rfl (Ev_load rfl (Ld_agg Try.isAgg68 Try.sizeOf68 rfl (MemAt.ent 0 rfl (Seg.whole _))))⟩, ⟨_, rfl, Qok_val rfl (Ev_move rfl)⟩, ⟨_, rfl, Qok_val rfl (Ev_move rfl)⟩, trivial⟩ rfl (Cok_step rfl (Step_callN 82 [U64 nv, I64 ((k:Int))] _ (Cl_func [U64 nv, I64 ((k:Int))] Try.call82 rfl) (fun w1 hw1 => rnumber_c nv k w1 (by omega)))) ?_
  rintro v1 L1 ⟨_, ⟨nb3, rfl, rfl⟩, rfl⟩
  refine ⟨[], ?_⟩
  show DP _ _ _ _ _ _ _ _ [⟨nb1, [.slice ao n c, I64 (bd)], 68, (0, 0)⟩, ⟨nb2, [.slice none 0 0, I64 (0:Int)], 68, (0, 0)⟩, ⟨nb3, cu8 (numK k nv k), 5, (0, 0)⟩]
  refine DP_one ⟨[3], [0, 1, 2], [1, 2], [0], [4]⟩ 4 _ rfl rfl (by decide +kernel) rfl ⟨⟨_, rfl, Qok_val rfl (Ev_load rfl (Ld_agg Try.isAgg68 Try.sizeOf68 rfl (MemAt.ent 0 rfl (Seg.whole _))))⟩, trivial⟩ rfl (Cok_step rfl (Step_callN 45 [.agg (List.toArray (α := Value) ([.slice ao n c, I64 (bd)])), Slc nb3 0 k k] _ (Cl_func [.agg (List.toArray (α := Value) ([.slice ao n c, I64 (bd)])), Slc nb3 0 k k] Try.call45 rfl) (fun w1 hw1 => rraw_c ao n c o (bd) (some ⟨nb3, 0, none⟩) k k (numK k nv k) (k + n) w1 ho (by omega) (hro.at (M' := []) hw1 (by simp)) (show (numK k nv k).length = k from numK_len _ _ _) (by omega) (RdB.of hw1 (MemAt.ent 2 rfl (Seg.whole _)) (by simp)) (by omega)))) ?_
  rintro v1 L1 ⟨_, ⟨nb4, sp1, cp1, rfl, rfl, hc1, hc2, hc3⟩, rfl⟩
  refine ⟨[], ?_⟩
  show DP _ _ _ _ _ _ _ _ [⟨nb1, [.slice ao n c, I64 (bd)], 68, (0, 0)⟩, ⟨nb2, [.slice none 0 0, I64 (0:Int)], 68, (0, 0)⟩, ⟨nb3, cu8 (numK k nv k), 5, (0, 0)⟩, ⟨nb4, cu8 (o ++ (numK k nv k)) ++ sp1, 5, (0, 0)⟩]
  refine DP_one ⟨[3, 4], [0, 1, 2], [0, 1, 2], [], [5]⟩ 5 _ rfl rfl (by decide +kernel) rfl trivial rfl (Cok_step rfl (Step_store 1 nb2 0 2 ([.slice none 0 0, I64 (0:Int)]) 68 (.agg (List.toArray (α := Value) ([Slc nb4 0 (k + n) cp1, I64 (bd)]))) ([Slc nb4 0 (k + n) cp1, I64 (bd)]) ([Slc nb4 0 (k + n) cp1, I64 (bd)]) rfl rfl rfl (by first | rfl | simp) Try.sizeOf68 rfl (by simp [Value.oneCell']) (Nat.le_of_ble_eq_true rfl) (lay_whole (by simp [])))) ?_
  rintro v1 L1 ⟨rfl, rfl⟩
  refine ⟨[], ?_⟩
  show DP _ _ _ _ _ _ _ _ [⟨nb1, [.slice ao n c, I64 (bd)], 68, (0, 0)⟩, ⟨nb2, [Slc nb4 0 (k + n) cp1, I64 (bd)], 68, (0, 0)⟩, ⟨nb3, cu8 (numK k nv k), 5, (0, 0)⟩, ⟨nb4, cu8 (o ++ (numK k nv k)) ++ sp1, 5, (0, 0)⟩]
  refine DP_end ⟨[3, 4, 5], [0, 1, 2], [0, 1, 2], [], []⟩ rfl rfl (by decide +kernel) rfl trivial ?_
  refine K_sub (F' := [(6, Ptr nb2 0)]) (Sub.cons (by kernel_rfl) (Sub.nil)) ?_
  show JQ _ _ _ [(6, Ptr nb2 0)] _
  refine JQ_then ?_
  refine JC_ret ?_
  refine K_mask [false, true, false, true] ?_
  show JQ _ _ _ _ [⟨nb2, [Slc nb4 0 (k + n) cp1, I64 (bd)], 68, (0, 0)⟩, ⟨nb4, cu8 (o ++ (numK k nv k)) ++ sp1, 5, (0, 0)⟩]
  refine JQ_ret (.agg (List.toArray (α := Value) ([Slc nb4 0 (k + n) cp1, I64 (bd)]))) (res1 Try.results41 (RV_cell rfl (Ld_agg Try.isAgg68 Try.sizeOf68 rfl (MemAt.ent 0 rfl (Seg.whole _))))) fun w1 hw1 => ?_
  obtain rfl : tot = (k + n) := by omega
  exact ⟨_, _, rfl, ⟨nb4, sp1, cp1, rfl, rfl, hc1, hc2, hc3⟩, hw1.sub (by simp) (by simp)⟩

theorem rbytesB_c (sa : Option Addr) (sn sc e : Nat) (ax : Option Addr) (p cx : Nat) (w : World) (hm : 65535 < p) : Calls Try.prog 43 #[.agg (List.toArray (α := Value) ([.slice sa sn sc, I64 ((e:Int))])), .slice ax p cx] w (Post w [] (fun v L => v = .agg [.slice sa sn sc, I64 ((erN e 3 : Nat) : Int)].toArray ∧ L = [])) := by
  refine enter (P := Try.prog) (f := 43) (fn := Try.f43) w [] 20 [] [.agg (List.toArray (α := Value) ([.slice sa sn sc, I64 ((e:Int))])), .slice ax p cx] Try.func43 rfl rfl (by simp) (Hp.start (by simp) (by simp) (by simp)) ?_
  show JC _ _ _ [(0, .agg (List.toArray (α := Value) ([.slice sa sn sc, I64 ((e:Int))]))), (1, .slice ax p cx)] _
  refine JC_seq ?_
  refine JC_region ?_
  refine JL_step (Step_box (.agg (List.toArray (α := Value) ([.slice sa sn sc, I64 ((e:Int))]))) ([.slice sa sn sc, I64 ((e:Int))]) rfl (by first | rfl | simp)) rfl ?_
  rintro v1 L1 ⟨nb1, hnb1, rfl, rfl⟩
  show JL _ _ _ _ ((2, Ptr nb1 0) :: _) [⟨nb1, [.slice sa sn sc, I64 ((e:Int))], 68, (0, 0)⟩]
  refine JL_step (Step_alloc _ ([.slice none 0 0, I64 (0:Int)]) Try.zeroValue68 (by kernel_rfl)) rfl ?_
  rintro v1 L1 ⟨nb2, hnb2, rfl, rfl⟩
  show JL _ _ _ _ ((4, Ptr nb2 0) :: _) [⟨nb1, [.slice sa sn sc, I64 ((e:Int))], 68, (0, 0)⟩, ⟨nb2, [.slice none 0 0, I64 (0:Int)], 68, (0, 0)⟩]
  refine JL_nil ?_
  refine JQ_then ?_
  refine JC_seq ?_
  refine JC_seq ?_
  refine JC_region ?_
  refine JL_val _ (Ev_move rfl) rfl ?_
  refine JL_val (I64 ((p:Int))) (Ev_len Try.underlying38 rfl) rfl ?_
  refine JL_val (.bool (decide ((65535:Int) < ((p:Int))))) (Ev_bini rfl rfl fun _ => bin_gtr_i _ _) rfl ?_
  refine JL_nil ?_
  refine JQ_then ?_
  refine JC_condT _ rfl (decide_eq_true (by omega)) ?_
  refine JC_seq ?_
  refine JC_seq ?_
  refine JC_region ?_
  refine JL_val (Ptr nb1 1) (Ev_fieldAddr 1 3 1 Try.underlying68 rfl Try.sizeOf3 rfl rfl) rfl ?_
  refine JL_val (I64 ((e:Int))) (Ev_load rfl (Ld_one Try.isAgg3 (MemAt.ent 0 rfl (Seg.tail (Seg.head))))) rfl ?_
  refine JL_val (.bool (decide (((e:Int)) = (0:Int)))) (Ev_bini rfl rfl fun _ => bin_eql_i _ _) rfl ?_
  refine JL_nil ?_
  refine JQ_then ?_
  refine JC_cond (decide (((e:Int)) = (0:Int))) rfl (fun hb1 => ?_) (fun hb1 => ?_)
  ·
    have hp1 : ((e:Int)) = (0:Int) := of_decide_eq_true hb1
    refine JC_region ?_
    refine JL_val (Ptr nb1 1) (Ev_fieldAddr 1 3 1 Try.underlying68 rfl Try.sizeOf3 rfl rfl) rfl ?_
    refine JL_step (Step_store 0 nb1 1 1 ([.slice sa sn sc, I64 ((e:Int))]) 68 (I64 (3:Int)) ([I64 (3:Int)]) ([.slice sa sn sc, I64 (3:Int)]) rfl rfl rfl rfl Try.sizeOf3 rfl (by simp [Value.oneCell']) (Nat.le_of_ble_eq_true rfl) (rfl)) rfl ?_
    rintro v1 L1 ⟨rfl, rfl⟩
    show JL _ _ _ _ _ [⟨nb1, [.slice sa sn sc, I64 (3:Int)], 68, (0, 0)⟩, ⟨nb2, [.slice none 0 0, I64 (0:Int)], 68, (0, 0)⟩]
    refine JL_nil ?_
    refine JQ_then ?_
    refine JC_seq ?_
    refine JC_region ?_
    refine JL_val (.agg (List.toArray (α := Value) ([.slice sa sn sc, I64 (3:Int)]))) (Ev_load rfl (Ld_agg Try.isAgg68 Try.sizeOf68 rfl (MemAt.ent 0 rfl (Seg.whole _)))) rfl ?_
    refine JL_step (Step_store 1 nb2 0 2 ([.slice none 0 0, I64 (0:Int)]) 68 (.agg (List.toArray (α := Value) ([.slice sa sn sc, I64 (3:Int)]))) ([.slice sa sn sc, I64 (3:Int)]) ([.slice sa sn sc, I64 (3:Int)]) rfl rfl rfl (by first | rfl | simp) Try.sizeOf68 rfl (by simp [Value.oneCell']) (Nat.le_of_ble_eq_true rfl) (lay_whole (by simp []))) rfl ?_
    rintro v1 L1 ⟨rfl, rfl⟩
    show JL _ _ _ _ _ [⟨nb1, [.slice sa sn sc, I64 (3:Int)], 68, (0, 0)⟩, ⟨nb2, [.slice sa sn sc, I64 (3:Int)], 68, (0, 0)⟩]
    refine JL_nil ?_
    refine JQ_then ?_
    refine JC_ret ?_
    refine JQ_then_ret ?_
    refine JQ_ret (.agg (List.toArray (α := Value) ([.slice sa sn sc, I64 (3:Int)]))) (res1 Try.results43 (RV_cell rfl (Ld_agg Try.isAgg68 Try.sizeOf68 rfl (MemAt.ent 1 rfl (Seg.whole _))))) fun w1 hw1 => ?_
    have he1 : erN e 3 = 3 := by rw [erN]; first | rw [if_pos (by omega)] | rw [if_neg (by omega)]
    rw [he1]
    exact ⟨_, [], rfl, ⟨rfl, rfl⟩, hw1.sub (by simp) (by simp)⟩
  ·
    have hp1 : ¬ (((e:Int)) = (0:Int)) := of_decide_eq_false hb1
    refine JC_skip ?_
    refine JQ_then ?_
    refine JC_seq ?_
    refine JC_region ?_
    refine JL_val (.agg (List.toArray (α := Value) ([.slice sa sn sc, I64 ((e:Int))]))) (Ev_load rfl (Ld_agg Try.isAgg68 Try.sizeOf68 rfl (MemAt.ent 0 rfl (Seg.whole _)))) rfl ?_
    refine JL_step (Step_store 1 nb2 0 2 ([.slice none 0 0, I64 (0:Int)]) 68 (.agg (List.toArray (α := Value) ([.slice sa sn sc, I64 ((e:Int))]))) ([.slice sa sn sc, I64 ((e:Int))]) ([.slice sa sn sc, I64 ((e:Int))]) rfl rfl rfl (by first | rfl | simp) Try.sizeOf68 rfl (by simp [Value.oneCell']) (Nat.le_of_ble_eq_true rfl) (lay_whole (by simp []))) rfl ?_
    rintro v1 L1 ⟨rfl, rfl⟩
    show JL _ _ _ _ _ [⟨nb1, [.slice sa sn sc, I64 ((e:Int))], 68, (0, 0)⟩, ⟨nb2, [.slice sa sn sc, I64 ((e:Int))], 68, (0, 0)⟩]
    refine JL_nil ?_
    refine JQ_then ?_
    refine JC_ret ?_
    refine JQ_then_ret ?_
    refine JQ_ret (.agg (List.toArray (α := Value) ([.slice sa sn sc, I64 ((e:Int))]))) (res1 Try.results43 (RV_cell rfl (Ld_agg Try.isAgg68 Try.sizeOf68 rfl (MemAt.ent 1 rfl (Seg.whole _))))) fun w1 hw1 => ?_
    have he1 : erN e 3 = e := by rw [erN]; first | rw [if_pos (by omega)] | rw [if_neg (by omega)]
    rw [he1]
    exact ⟨_, [], rfl, ⟨rfl, rfl⟩, hw1.sub (by simp) (by simp)⟩

theorem rbytesOk_c (ao : Option Addr) (n c : Nat) (o : List UInt8) (bd : Int) (ax : Option Addr) (p cx : Nat) (z : List UInt8) (tot : Nat) (w : World) (ho : o.length = n) (hn : n ≤ 900000000) (hro : RdB w [] ao o) (hz : z.length = p) (hm : p ≤ 65535) (hr : RdB w [] ax z) (ht : n + p + 2 = tot) : Calls Try.prog 43 #[.agg (List.toArray (α := Value) ([.slice ao n c, I64 (bd)])), .slice ax p cx] w (Post w [] (fun v L => ∃ g sp cap, v = .agg [Slc g 0 tot cap, I64 bd].toArray ∧ L = [⟨g, cu8 ((o ++ numK 2 (UInt64.ofNat p) 2) ++ z) ++ sp, 5, (0, 0)⟩] ∧ sp.length = cap - tot ∧ tot ≤ cap ∧ cap ≤ maxLen)) := by
  have hmx : maxLen = 9223372036854775807 := rfl
  refine enter (P := Try.prog) (f := 43) (fn := Try.f43) w [] 20 [] [.agg (List.toArray (α := Value) ([.slice ao n c, I64 (bd)])), .slice ax p cx] Try.func43 rfl rfl (by simp) (Hp.start (by simp) (by simp) (by simp)) ?_
  show JC _ _ _ [(0, .agg (List.toArray (α := Value) ([.slice ao n c, I64 (bd)]))), (1, .slice ax p cx)] _
  refine JC_seq ?_
  refine JC_region ?_
  refine JL_step (Step_box (.agg (List.toArray (α := Value) ([.slice ao n c, I64 (bd)]))) ([.slice ao n c, I64 (bd)]) rfl (by first | rfl | simp)) rfl ?_
  rintro v1 L1 ⟨nb1, hnb1, rfl, rfl⟩
  show JL _ _ _ _ ((2, Ptr nb1 0) :: _) [⟨nb1, [.slice ao n c, I64 (bd)], 68, (0, 0)⟩]
  refine JL_step (Step_alloc _ ([.slice none 0 0, I64 (0:Int)]) Try.zeroValue68 (by kernel_rfl)) rfl ?_
  rintro v1 L1 ⟨nb2, hnb2, rfl, rfl⟩
  show JL _ _ _ _ ((4, Ptr nb2 0) :: _) [⟨nb1, [.slice ao n c, I64 (bd)], 68, (0, 0)⟩, ⟨nb2, [.slice none 0 0, I64 (0:Int)], 68, (0, 0)⟩]
  refine JL_nil ?_
  refine JQ_then ?_
  refine JC_seq ?_
  refine JC_seq ?_
  refine JC_region ?_
  refine JL_val _ (Ev_move rfl) rfl ?_
  refine JL_val (I64 ((p:Int))) (Ev_len Try.underlying38 rfl) rfl ?_
  refine JL_val (.bool (decide ((65535:Int) < ((p:Int))))) (Ev_bini rfl rfl fun _ => bin_gtr_i _ _) rfl ?_
  refine JL_nil ?_
  refine JQ_then ?_
  refine JC_condF _ rfl (decide_eq_false (by omega)) ?_
  refine JC_skip ?_
  refine JQ_then ?_
  refine JC_seq ?_
  refine JC_region ?_
  refine JL_val (.agg (List.toArray (α := Value) ([.slice ao n c, I64 (bd)]))) (Ev_load rfl (Ld_agg Try.isAgg68 Try.sizeOf68 rfl (MemAt.ent 0 rfl (Seg.whole _)))) rfl ?_
  refine JL_val _ (Ev_move rfl) rfl ?_
  refine JL_val (I64 ((p:Int))) (Ev_len Try.underlying38 rfl) rfl ?_
  refine JL_val (U64 (UInt64.ofNat p)) (Ev_conv _ _ rfl fun _ => conv_i64_u64 (by rw [Try.underlying3]; rfl) Try.underlying44 p _ (by omega)) rfl ?_
  refine JL_step (Step_callN 41 [.agg (List.toArray (α := Value) ([.slice ao n c, I64 (bd)])), U64 (UInt64.ofNat p), I64 (2:Int)] _ (Cl_func [.agg (List.toArray (α := Value) ([.slice ao n c, I64 (bd)])), U64 (UInt64.ofNat p), I64 (2:Int)] Try.call41 rfl) (fun w1 hw1 => rnumOk_c ao n c o (bd) (UInt64.ofNat p) 2 (n + 2) w1 ho (by omega) (hro.at (M' := []) hw1 (by simp)) (by unfold Szd; omega) (by rw [← ftN_shr _ 2 (by omega)]; exact shr16 (by omega)) (by omega))) rfl ?_
  rintro v1 L1 ⟨_, ⟨nb3, sp1, cp1, rfl, rfl, hc1, hc2, hc3⟩, rfl⟩
  show JL _ _ _ _ ((17, .agg (List.toArray (α := Value) ([Slc nb3 0 (n + 2) cp1, I64 (bd)]))) :: _) [⟨nb1, [.slice ao n c, I64 (bd)], 68, (0, 0)⟩, ⟨nb2, [.slice none 0 0, I64 (0:Int)], 68, (0, 0)⟩, ⟨nb3, cu8 (o ++ numK 2 (UInt64.ofNat p) 2) ++ sp1, 5, (0, 0)⟩]
  refine JL_val _ (Ev_move rfl) rfl ?_
  refine JL_step (Step_callN 45 [.agg (List.toArray (α := Value) ([Slc nb3 0 (n + 2) cp1, I64 (bd)])), .slice ax p cx] _ (Cl_func [.agg (List.toArray (α := Value) ([Slc nb3 0 (n + 2) cp1, I64 (bd)])), .slice ax p cx] Try.call45 rfl) (fun w1 hw1 => rraw_c (some ⟨nb3, 0, none⟩) (n + 2) cp1 (o ++ numK 2 (UInt64.ofNat p) 2) (bd) ax p cx z (n + p + 2) w1 (show (o ++ numK 2 (UInt64.ofNat p) 2).length = (n + 2) from (by rw [List.length_append, ho, numK_len] <;> omega)) (by omega) (RdB.of hw1 (MemAt.ent 2 rfl (Seg.left (Seg.whole _))) (by simp)) hz (by omega) (hr.at (M' := []) hw1 (by simp)) (by omega))) rfl ?_
  rintro v1 L1 ⟨_, ⟨nb4, sp2, cp2, rfl, rfl, hc4, hc5, hc6⟩, rfl⟩
  show JL _ _ _ _ ((19, .agg (List.toArray (α := Value) ([Slc nb4 0 (n + p + 2) cp2, I64 (bd)]))) :: _) [⟨nb1, [.slice ao n c, I64 (bd)], 68, (0, 0)⟩, ⟨nb2, [.slice none 0 0, I64 (0:Int)], 68, (0, 0)⟩, ⟨nb3, cu8 (o ++ numK 2 (UInt64.ofNat p) 2) ++ sp1, 5, (0, 0)⟩, ⟨nb4, cu8 ((o ++ numK 2 (UInt64.ofNat p) 2) ++ z) ++ sp2, 5, (0, 0)⟩]
  refine JL_step (Step_store 1 nb2 0 2 ([.slice none 0 0, I64 (0:Int)]) 68 (.agg (List.toArray (α := Value) ([Slc nb4 0 (n + p + 2) cp2, I64 (bd)]))) ([Slc nb4 0 (n + p + 2) cp2, I64 (bd)]) ([Slc nb4 0 (n + p + 2) cp2, I64 (bd)]) rfl rfl rfl (by first | rfl | simp) Try.sizeOf68 rfl (by simp [Value.oneCell']) (Nat.le_of_ble_eq_true rfl) (lay_whole (by simp []))) rfl ?_
  rintro v1 L1 ⟨rfl, rfl⟩
  show JL _ _ _ _ _ [⟨nb1, [.slice ao n c, I64 (bd)], 68, (0, 0)⟩, ⟨nb2, [Slc nb4 0 (n + p + 2) cp2, I64 (bd)], 68, (0, 0)⟩, ⟨nb3, cu8 (o ++ numK 2 (UInt64.ofNat p) 2) ++ sp1, 5, (0, 0)⟩, ⟨nb4, cu8 ((o ++ numK 2 (UInt64.ofNat p) 2) ++ z) ++ sp2, 5, (0, 0)⟩]
  refine JL_nil ?_
  refine JQ_then ?_
  refine JC_ret ?_
  refine K_mask [false, true, false, true] ?_
  show JQ _ _ _ _ [⟨nb2, [Slc nb4 0 (n + p + 2) cp2, I64 (bd)], 68, (0, 0)⟩, ⟨nb4, cu8 ((o ++ numK 2 (UInt64.ofNat p) 2) ++ z) ++ sp2, 5, (0, 0)⟩]
  refine JQ_ret (.agg (List.toArray (α := Value) ([Slc nb4 0 (n + p + 2) cp2, I64 (bd)]))) (res1 Try.results43 (RV_cell rfl (Ld_agg Try.isAgg68 Try.sizeOf68 rfl (MemAt.ent 0 rfl (Seg.whole _))))) fun w1 hw1 => ?_
  obtain rfl : tot = (n + p + 2) := by omega
  exact ⟨_, _, rfl, ⟨nb4, sp2, cp2, rfl, rfl, hc4, hc5, hc6⟩, hw1.sub (by simp) (by simp)⟩

theorem rflag_c (ao : Option Addr) (n c : Nat) (o : List UInt8) (bd : Int) (b : Bool) (tot : Nat) (w : World) (ho : o.length = n) (hn : n ≤ 1000000000) (hro : RdB w [] ao o) (ht : n + 1 = tot) : Calls Try.prog 49 #[.agg (List.toArray (α := Value) ([.slice ao n c, I64 (bd)])), .bool b] w (Post w [] (fun v L => ∃ g sp cap, v = .agg [Slc g 0 tot cap, I64 bd].toArray ∧ L = [⟨g, cu8 (o ++ numK 1 (bitU b) 1) ++ sp, 5, (0, 0)⟩] ∧ sp.length = cap - tot ∧ tot ≤ cap ∧ cap ≤ maxLen)) := by
  have hmx : maxLen = 9223372036854775807 := rfl
  refine enter (P := Try.prog) (f := 49) (fn := Try.f49) w [] 12 [] [.agg (List.toArray (α := Value) ([.slice ao n c, I64 (bd)])), .bool b] Try.func49 rfl rfl (by simp) (Hp.start (by simp) (by simp) (by simp)) ?_
  show JC _ _ _ [(0, .agg (List.toArray (α := Value) ([.slice ao n c, I64 (bd)]))), (1, .bool b)] _
  refine JC_seq ?_
  refine JC_region ?_
  refine JL_step (Step_box (.agg (List.toArray (α := Value) ([.slice ao n c, I64 (bd)]))) ([.slice ao n c, I64 (bd)]) rfl (by first | rfl | simp)) rfl ?_
  rintro v1 L1 ⟨nb1, hnb1, rfl, rfl⟩
  show JL _ _ _ _ ((2, Ptr nb1 0) :: _) [⟨nb1, [.slice ao n c, I64 (bd)], 68, (0, 0)⟩]
  refine JL_step (Step_alloc _ ([.slice none 0 0, I64 (0:Int)]) Try.zeroValue68 (by kernel_rfl)) rfl ?_
  rintro v1 L1 ⟨nb2, hnb2, rfl, rfl⟩
  show JL _ _ _ _ ((4, Ptr nb2 0) :: _) [⟨nb1, [.slice ao n c, I64 (bd)], 68, (0, 0)⟩, ⟨nb2, [.slice none 0 0, I64 (0:Int)], 68, (0, 0)⟩]
  refine JL_nil ?_
  refine JQ_then ?_
  refine JC_seq ?_
  refine JC_seq ?_
  refine JC_region ?_
  refine JL_val _ (Ev_move rfl) rfl ?_
  refine JL_nil ?_
  refine JQ_then ?_
  refine JC_cond (b) rfl (fun hb1 => ?_) (fun hb1 => ?_)
  ·
    refine JC_seq ?_
    refine JC_region ?_
    refine JL_val (.agg (List.toArray (α := Value) ([.slice ao n c, I64 (bd)]))) (Ev_load rfl (Ld_agg Try.isAgg68 Try.sizeOf68 rfl (MemAt.ent 0 rfl (Seg.whole _)))) rfl ?_
    refine JL_step (Step_buildSlice 5 1 _ [(0, U8 (1:UInt8))] (cu8 ([(1:UInt8)])) Try.underlying38 Try.sizeOf5 Try.zeroValue5 rfl rfl rfl (by kernel_rfl)) rfl ?_
    rintro v1 L1 ⟨nb3, hnb3, rfl, rfl⟩
    show JL _ _ _ _ ((7, Slc nb3 0 1 1) :: _) [⟨nb1, [.slice ao n c, I64 (bd)], 68, (0, 0)⟩, ⟨nb2, [.slice none 0 0, I64 (0:Int)], 68, (0, 0)⟩, ⟨nb3, cu8 ([(1:UInt8)]), 5, (0, 0)⟩]
    refine JL_step (Step_callN 45 [.agg (List.toArray (α := Value) ([.slice ao n c, I64 (bd)])), Slc nb3 0 1 1] _ (Cl_func [.agg (List.toArray (α := Value) ([.slice ao n c, I64 (bd)])), Slc nb3 0 1 1] Try.call45 rfl) (fun w1 hw1 => rraw_c ao n c o (bd) (some ⟨nb3, 0, none⟩) 1 1 ([(1:UInt8)]) (n + 1) w1 ho (by omega) (hro.at (M' := []) hw1 (by simp)) rfl (by omega) (RdB.of hw1 (MemAt.ent 2 rfl (Seg.whole _)) (by simp)) (by omega))) rfl ?_
    rintro v1 L1 ⟨_, ⟨nb4, sp1, cp1, rfl, rfl, hc1, hc2, hc3⟩, rfl⟩
    show JL _ _ _ _ ((8, .agg (List.toArray (α := Value) ([Slc nb4 0 (n + 1) cp1, I64 (bd)]))) :: _) [⟨nb1, [.slice ao n c, I64 (bd)], 68, (0, 0)⟩, ⟨nb2, [.slice none 0 0, I64 (0:Int)], 68, (0, 0)⟩, ⟨nb3, cu8 ([(1:UInt8)]), 5, (0, 0)⟩, ⟨nb4, cu8 (o ++ ([(1:UInt8)])) ++ sp1, 5, (0, 0)⟩]
    refine JL_step (Step_store 1 nb2 0 2 ([.slice none 0 0, I64 (0:Int)]) 68 (.agg (List.toArray (α := Value) ([Slc nb4 0 (n + 1) cp1, I64 (bd)]))) ([Slc nb4 0 (n + 1) cp1, I64 (bd)]) ([Slc nb4 0 (n + 1) cp1, I64 (bd)]) rfl rfl rfl (by first | rfl | simp) Try.sizeOf68 rfl (by simp [Value.oneCell']) (Nat.le_of_ble_eq_true rfl) (lay_whole (by simp []))) rfl ?_
    rintro v1 L1 ⟨rfl, rfl⟩
    show JL _ _ _ _ _ [⟨nb1, [.slice ao n c, I64 (bd)], 68, (0, 0)⟩, ⟨nb2, [Slc nb4 0 (n + 1) cp1, I64 (bd)], 68, (0, 0)⟩, ⟨nb3, cu8 ([(1:UInt8)]), 5, (0, 0)⟩, ⟨nb4, cu8 (o ++ ([(1:UInt8)])) ++ sp1, 5, (0, 0)⟩]
    refine JL_nil ?_
    refine JQ_then ?_
    refine JC_ret ?_
    refine JQ_then_ret ?_
    refine K_mask [false, true, false, true] ?_
    show JQ _ _ _ _ [⟨nb2, [Slc nb4 0 (n + 1) cp1, I64 (bd)], 68, (0, 0)⟩, ⟨nb4, cu8 (o ++ ([(1:UInt8)])) ++ sp1, 5, (0, 0)⟩]
    refine JQ_ret (.agg (List.toArray (α := Value) ([Slc nb4 0 (n + 1) cp1, I64 (bd)]))) (res1 Try.results49 (RV_cell rfl (Ld_agg Try.isAgg68 Try.sizeOf68 rfl (MemAt.ent 0 rfl (Seg.whole _))))) fun w1 hw1 => ?_
    first | rw [show numK 1 (bitU b) 1 = [(1:UInt8)] from by rw [hb1]; decide +kernel] | rw [show numK 1 (bitU b) 1 = [(0:UInt8)] from by rw [hb1]; decide +kernel]
    obtain rfl : tot = (n + 1) := by omega
    exact ⟨_, _, rfl, ⟨nb4, sp1, cp1, rfl, rfl, hc1, hc2, hc3⟩, hw1.sub (by simp) (by simp)⟩
  ·
    refine JC_skip ?_
    refine JQ_then ?_
    refine JC_seq ?_
    refine JC_region ?_
    refine JL_val (.agg (List.toArray (α := Value) ([.slice ao n c, I64 (bd)]))) (Ev_load rfl (Ld_agg Try.isAgg68 Try.sizeOf68 rfl (MemAt.ent 0 rfl (Seg.whole _)))) rfl ?_
    refine JL_step (Step_buildSlice 5 1 _ [(0, U8 (0:UInt8))] (cu8 ([(0:UInt8)])) Try.underlying38 Try.sizeOf5 Try.zeroValue5 rfl rfl rfl (by kernel_rfl)) rfl ?_
    rintro v1 L1 ⟨nb5, hnb5, rfl, rfl⟩
    show JL _ _ _ _ ((10, Slc nb5 0 1 1) :: _) [⟨nb1, [.slice ao n c, I64 (bd)], 68, (0, 0)⟩, ⟨nb2, [.slice none 0 0, I64 (0:Int)], 68, (0, 0)⟩, ⟨nb5, cu8 ([(0:UInt8)]), 5, (0, 0)⟩]
    refine JL_step (Step_callN 45 [.agg (List.toArray (α := Value) ([.slice ao n c, I64 (bd)])), Slc nb5 0 1 1] _ (Cl_func [.agg (List.toArray (α := Value) ([.slice ao n c, I64 (bd)])), Slc nb5 0 1 1] Try.call45 rfl) (fun w1 hw1 => rraw_c ao n c o (bd) (some ⟨nb5, 0, none⟩) 1 1 ([(0:UInt8)]) (n + 1) w1 ho (by omega) (hro.at (M' := []) hw1 (by simp)) rfl (by omega) (RdB.of hw1 (MemAt.ent 2 rfl (Seg.whole _)) (by simp)) (by omega))) rfl ?_
    rintro v1 L1 ⟨_, ⟨nb6, sp2, cp2, rfl, rfl, hc4, hc5, hc6⟩, rfl⟩
    show JL _ _ _ _ ((11, .agg (List.toArray (α := Value) ([Slc nb6 0 (n + 1) cp2, I64 (bd)]))) :: _) [⟨nb1, [.slice ao n c, I64 (bd)], 68, (0, 0)⟩, ⟨nb2, [.slice none 0 0, I64 (0:Int)], 68, (0, 0)⟩, ⟨nb5, cu8 ([(0:UInt8)]), 5, (0, 0)⟩, ⟨nb6, cu8 (o ++ ([(0:UInt8)])) ++ sp2, 5, (0, 0)⟩]
    refine JL_step (Step_store 1 nb2 0 2 ([.slice none 0 0, I64 (0:Int)]) 68 (.agg (List.toArray (α := Value) ([Slc nb6 0 (n + 1) cp2, I64 (bd)]))) ([Slc nb6 0 (n + 1) cp2, I64 (bd)]) ([Slc nb6 0 (n + 1) cp2, I64 (bd)]) rfl rfl rfl (by first | rfl | simp) Try.sizeOf68 rfl (by simp [Value.oneCell']) (Nat.le_of_ble_eq_true rfl) (lay_whole (by simp []))) rfl ?_
    rintro v1 L1 ⟨rfl, rfl⟩
    show JL _ _ _ _ _ [⟨nb1, [.slice ao n c, I64 (bd)], 68, (0, 0)⟩, ⟨nb2, [Slc nb6 0 (n + 1) cp2, I64 (bd)], 68, (0, 0)⟩, ⟨nb5, cu8 ([(0:UInt8)]), 5, (0, 0)⟩, ⟨nb6, cu8 (o ++ ([(0:UInt8)])) ++ sp2, 5, (0, 0)⟩]
    refine JL_nil ?_
    refine JQ_then ?_
    refine JC_ret ?_
    refine K_mask [false, true, false, true] ?_
    show JQ _ _ _ _ [⟨nb2, [Slc nb6 0 (n + 1) cp2, I64 (bd)], 68, (0, 0)⟩, ⟨nb6, cu8 (o ++ ([(0:UInt8)])) ++ sp2, 5, (0, 0)⟩]
    refine JQ_ret (.agg (List.toArray (α := Value) ([Slc nb6 0 (n + 1) cp2, I64 (bd)]))) (res1 Try.results49 (RV_cell rfl (Ld_agg Try.isAgg68 Try.sizeOf68 rfl (MemAt.ent 0 rfl (Seg.whole _))))) fun w1 hw1 => ?_
    first | rw [show numK 1 (bitU b) 1 = [(1:UInt8)] from by rw [hb1]; decide +kernel] | rw [show numK 1 (bitU b) 1 = [(0:UInt8)] from by rw [hb1]; decide +kernel]
    obtain rfl : tot = (n + 1) := by omega
    exact ⟨_, _, rfl, ⟨nb6, sp2, cp2, rfl, rfl, hc4, hc5, hc6⟩, hw1.sub (by simp) (by simp)⟩

theorem hashB_c (ax : Option Addr) (p cx : Nat) (z : List UInt8)  (w : World) (hz : z.length = p) (hr : RdB w [] ax z) (hp : 32 ≤ p) : Calls Try.prog 46 #[.slice ax p cx] w (Post w [] (fun v L => v = .agg (cu8 (hashL z)).toArray ∧ L = [])) := by
  refine enter w [] 8 [] [.slice ax p cx] Try.func46 rfl rfl (by simp) (Hp.start (by simp) (by simp) (by simp)) ?_
  show JC _ _ _ [(0, .slice ax p cx)] _
  refine JC_seq ?_
  refine JC_region ?_
  refine JL_step (Step_alloc _ (cu8 (zr8 32)) Try.zeroValue76 (by kernel_rfl)) rfl ?_
  rintro v1 L1 ⟨nb1, hnb1, rfl, rfl⟩
  show JL _ _ _ _ ((2, Ptr nb1 0) :: _) [⟨nb1, cu8 (zr8 32), 76, (0, 0)⟩]
  refine JL_nil ?_
  refine JQ_then ?_
  refine JC_seq ?_
  refine JC_region ?_
  refine JL_step (Step_alloc _ (cu8 (zr8 32)) Try.zeroValue76 (by kernel_rfl)) rfl ?_
  rintro v1 L1 ⟨nb2, hnb2, rfl, rfl⟩
  show JL _ _ _ _ ((3, Ptr nb2 0) :: _) [⟨nb1, cu8 (zr8 32), 76, (0, 0)⟩, ⟨nb2, cu8 (zr8 32), 76, (0, 0)⟩]
  refine JL_nil ?_
  refine JQ_then ?_
  refine JC_seq ?_
  refine JC_region ?_
  refine JL_val (Slc nb2 0 32 32) (Ev_sliceA 32 5 1 0 32 0 32 Try.underlying76 Try.sizeOf5 rfl rfl rfl (by omega) (by omega) (by omega) (by omega) (by omega) 32 (by omega)) rfl ?_
  refine JL_val _ (Ev_move rfl) rfl ?_
  have hl1 : (mid z 0 32).length = 32 := mid_len (by omega)
  refine JL_step (Step_copy 38 38 5 1 nb2 0 32 32 (cu8 (zr8 32)) 76 ax p cx 32 (cu8 (mid z 0 32)) (cu8 (mid z 0 32)) Try.underlying38 Try.size1_5 rfl rfl rfl (by first | exact Nat.min_eq_right (by omega) | exact Nat.min_eq_left (by omega)) (by simp [hl1]; try omega) (RdB.src (RdB.pre hr 32)) (by simp [(zr8_len 32)]; try omega) (by first | exact one_u8 | exact one_u32 | exact one_u64 | (simp [cu8, cu32, cu64, Value.oneCell']; done)) (lay_whole (by simp [(zr8_len 32), hl1]))) rfl ?_
  rintro v1 L1 ⟨rfl, rfl⟩
  show JL _ _ _ _ ((6, I64 (32:Int)) :: _) [⟨nb1, cu8 (zr8 32), 76, (0, 0)⟩, ⟨nb2, cu8 (mid z 0 32), 76, (0, 0)⟩]
  refine JL_nil ?_
  refine JQ_then ?_
  refine JC_seq ?_
  refine JC_region ?_
  refine JL_val (.agg (cu8 (mid z 0 32)).toArray) (Ev_load rfl (Ld_agg Try.isAgg76 Try.sizeOf76 (len_cu8 hl1) (MemAt.ent 1 rfl (Seg.whole _)))) rfl ?_
  refine JL_step (Step_store 0 nb1 0 32 (cu8 (zr8 32)) 76 (.agg (cu8 (mid z 0 32)).toArray) (cu8 (mid z 0 32)) (cu8 (mid z 0 32)) rfl rfl rfl (by first | rfl | simp) Try.sizeOf76 (len_cu8 hl1) (by first | exact one_u8 | exact one_u32 | exact one_u64 | (simp [cu8, cu32, cu64, Value.oneCell']; done)) (by simp [(zr8_len 32)]) (lay_whole (by simp [(zr8_len 32), hl1]))) rfl ?_
  rintro v1 L1 ⟨rfl, rfl⟩
  show JL _ _ _ _ _ [⟨nb1, cu8 (mid z 0 32), 76, (0, 0)⟩, ⟨nb2, cu8 (mid z 0 32), 76, (0, 0)⟩]
  refine JL_nil ?_
  refine JQ_then ?_
  refine JC_ret ?_
  refine JQ_ret (.agg (cu8 (mid z 0 32)).toArray) (res1 Try.results46 (RV_cell rfl (Ld_agg Try.isAgg76 Try.sizeOf76 (len_cu8 hl1) (MemAt.ent 0 rfl (Seg.whole _))))) fun w1 hw1 => ?_
  rw [hashL_big (by omega)]
  exact ⟨_, [], rfl, ⟨rfl, rfl⟩, hw1.sub (by simp) (by simp)⟩

theorem hashS_c (ax : Option Addr) (p cx : Nat) (z : List UInt8)  (w : World) (hz : z.length = p) (hr : RdB w [] ax z) (hp : p ≤ 32) : Calls Try.prog 46 #[.slice ax p cx] w (Post w [] (fun v L => v = .agg (cu8 (hashL z)).toArray ∧ L = [])) := by
  refine enter w [] 8 [] [.slice ax p cx] Try.func46 rfl rfl (by simp) (Hp.start (by simp) (by simp) (by simp)) ?_
  show JC _ _ _ [(0, .slice ax p cx)] _
  refine JC_seq ?_
  refine JC_region ?_
  refine JL_step (Step_alloc _ (cu8 (zr8 32)) Try.zeroValue76 (by kernel_rfl)) rfl ?_
  rintro v1 L1 ⟨nb1, hnb1, rfl, rfl⟩
  show JL _ _ _ _ ((2, Ptr nb1 0) :: _) [⟨nb1, cu8 (zr8 32), 76, (0, 0)⟩]
  refine JL_nil ?_
  refine JQ_then ?_
  refine JC_seq ?_
  refine JC_region ?_
  refine JL_step (Step_alloc _ (cu8 (zr8 32)) Try.zeroValue76 (by kernel_rfl)) rfl ?_
  rintro v1 L1 ⟨nb2, hnb2, rfl, rfl⟩
  show JL _ _ _ _ ((3, Ptr nb2 0) :: _) [⟨nb1, cu8 (zr8 32), 76, (0, 0)⟩, ⟨nb2, cu8 (zr8 32), 76, (0, 0)⟩]
  refine JL_nil ?_
  refine JQ_then ?_
  refine JC_seq ?_
  refine JC_region ?_
  refine JL_val (Slc nb2 0 32 32) (Ev_sliceA 32 5 1 0 32 0 32 Try.underlying76 Try.sizeOf5 rfl rfl rfl (by omega) (by omega) (by omega) (by omega) (by omega) 32 (by omega)) rfl ?_
  refine JL_val _ (Ev_move rfl) rfl ?_
  have hl1 : (spl (zr8 32) 0 z).length = 32 := (spl_len (by rw [hz, (zr8_len 32)]; omega)).trans (zr8_len 32)
  refine JL_step (Step_copy 38 38 5 1 nb2 0 32 32 (cu8 (zr8 32)) 76 ax p cx p (cu8 z) (cu8 (spl (zr8 32) 0 z)) Try.underlying38 Try.size1_5 rfl rfl rfl (by first | exact Nat.min_eq_right (by omega) | exact Nat.min_eq_left (by omega)) (by simp [hz]; try omega) (hr.src) (by simp [(zr8_len 32)]; try omega) (by first | exact one_u8 | exact one_u32 | exact one_u64 | (simp [cu8, cu32, cu64, Value.oneCell']; done)) (laySpl8 _ _ _ (by rw [hz, (zr8_len 32)]; omega))) rfl ?_
  rintro v1 L1 ⟨rfl, rfl⟩
  show JL _ _ _ _ ((6, I64 ((p:Int))) :: _) [⟨nb1, cu8 (zr8 32), 76, (0, 0)⟩, ⟨nb2, cu8 (spl (zr8 32) 0 z), 76, (0, 0)⟩]
  refine JL_nil ?_
  refine JQ_then ?_
  refine JC_seq ?_
  refine JC_region ?_
  refine JL_val (.agg (cu8 (spl (zr8 32) 0 z)).toArray) (Ev_load rfl (Ld_agg Try.isAgg76 Try.sizeOf76 (len_cu8 hl1) (MemAt.ent 1 rfl (Seg.whole _)))) rfl ?_
  refine JL_step (Step_store 0 nb1 0 32 (cu8 (zr8 32)) 76 (.agg (cu8 (spl (zr8 32) 0 z)).toArray) (cu8 (spl (zr8 32) 0 z)) (cu8 (spl (zr8 32) 0 z)) rfl rfl rfl (by first | rfl | simp) Try.sizeOf76 (len_cu8 hl1) (by first | exact one_u8 | exact one_u32 | exact one_u64 | (simp [cu8, cu32, cu64, Value.oneCell']; done)) (by simp [(zr8_len 32)]) (lay_whole (by simp [(zr8_len 32), hl1]))) rfl ?_
  rintro v1 L1 ⟨rfl, rfl⟩
  show JL _ _ _ _ _ [⟨nb1, cu8 (spl (zr8 32) 0 z), 76, (0, 0)⟩, ⟨nb2, cu8 (spl (zr8 32) 0 z), 76, (0, 0)⟩]
  refine JL_nil ?_
  refine JQ_then ?_
  refine JC_ret ?_
  refine JQ_ret (.agg (cu8 (spl (zr8 32) 0 z)).toArray) (res1 Try.results46 (RV_cell rfl (Ld_agg Try.isAgg76 Try.sizeOf76 (len_cu8 hl1) (MemAt.ent 0 rfl (Seg.whole _))))) fun w1 hw1 => ?_
  rw [hashL_small (by omega)]
  exact ⟨_, [], rfl, ⟨rfl, rfl⟩, hw1.sub (by simp) (by simp)⟩

theorem hash_w (ax : Option Addr) (p cx : Nat) (z : List UInt8) (w : World) (hz : z.length = p) (hr : RdB w [] ax z) : Calls Try.prog 46 #[.slice ax p cx] w (Post w [] (fun v L => v = .agg (cu8 (hashL z)).toArray ∧ L = [])) := by
  by_cases h : 32 ≤ p
  · exact hashB_c ax p cx z w hz hr h
  · exact hashS_c ax p cx z w hz hr (by omega)

end Go.Proofs.Ytncoifiafklkjaa
