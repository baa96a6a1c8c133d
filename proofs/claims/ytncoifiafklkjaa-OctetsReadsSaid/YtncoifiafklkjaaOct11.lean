import Derived.Test.YtncoifiafklkjaaOct8
import Derived.Test.YtncoifiafklkjaaSxBoth
namespace Go.Proofs.Ytncoifiafklkjaa
open Go Go.Sx
set_option linter.unusedVariables false
set_option linter.unusedSimpArgs false
set_option maxRecDepth 100000
attribute [local irreducible] mid zr8 zr32 zr64 numK rnK ftN valK rvalK
theorem takeE_c (ao : Option Addr) (n c e : Nat) (s : Int) (w : World) (he : e ≠ 0) : Calls Try.prog 57 #[.agg (List.toArray (α := Value) ([.slice ao n c, I64 ((e:Int))])), I64 (s)] w (Post w [] (fun v L => v = .tuple #[.slice none 0 0, .agg (List.toArray (α := Value) [.slice ao n c, I64 (e)])] ∧ L = [])) := by
  refine enter (P := Try.prog) (f := 57) (fn := Try.f57) w [] 33 [] [.agg (List.toArray (α := Value) ([.slice ao n c, I64 ((e:Int))])), I64 (s)] Try.func57 rfl rfl (by simp) (Hp.start (by simp) (by simp) (by simp)) ?_
  show JC _ _ _ [(0, .agg (List.toArray (α := Value) ([.slice ao n c, I64 ((e:Int))]))), (1, I64 (s))] _
  refine JC_seq ?_
  refine JC_region ?_
  refine JL_step (Step_box (.agg (List.toArray (α := Value) ([.slice ao n c, I64 ((e:Int))]))) ([.slice ao n c, I64 ((e:Int))]) rfl (by first | rfl | simp)) rfl ?_
  rintro v1 L1 ⟨nb1, hnb1, rfl, rfl⟩
  show JL _ _ _ _ ((2, Ptr nb1 0) :: _) [⟨nb1, [.slice ao n c, I64 ((e:Int))], 85, (0, 0)⟩]
  refine JL_val _ (Ev_assign rfl) rfl ?_
  refine JL_step (Step_alloc _ ([.slice none 0 0, I64 (0:Int)]) Try.zeroValue85 (by kernel_rfl)) rfl ?_
  rintro v1 L1 ⟨nb2, hnb2, rfl, rfl⟩
  show JL _ _ _ _ ((5, Ptr nb2 0) :: _) [⟨nb1, [.slice ao n c, I64 ((e:Int))], 85, (0, 0)⟩, ⟨nb2, [.slice none 0 0, I64 (0:Int)], 85, (0, 0)⟩]
  refine JL_nil ?_
  refine JQ_then ?_
  refine JC_seq ?_
  refine JC_seq ?_
  refine JC_region ?_
  refine JL_val (Ptr nb1 1) (Ev_fieldAddr 1 3 1 Try.underlying85 rfl Try.sizeOf3 rfl rfl) rfl ?_
  refine JL_val (I64 ((e:Int))) (Ev_load rfl (Ld_one Try.isAgg3 (MemAt.ent 0 rfl (Seg.tail (Seg.head))))) rfl ?_
  refine JL_val (.bool (decide (((e:Int)) ≠ (0:Int)))) (Ev_bini rfl rfl fun _ => bin_neq_i _ _) rfl ?_
  refine JL_nil ?_
  refine JQ_then ?_
  refine JC_condT _ rfl (decide_eq_true (by omega)) ?_
  refine JC_seq ?_
  refine JC_draw 33 2 [(0, .agg (List.toArray (α := Value) ([.slice ao n c, I64 ((e:Int))]))), (1, .slice none 0 0)] Try.mixed rfl (by decide +kernel) ?_
  refine DP_one ⟨[], [0, 1], [], [0, 1], [2]⟩ 2 _ rfl rfl (by decide +kernel) rfl ⟨⟨_, rfl, Qok_val rfl (Ev_load rfl (Ld_agg Try.isAgg85 Try.sizeOf85 rfl (MemAt.ent 0 rfl (Seg.whole _))))⟩, ⟨_, rfl, Qok_val rfl (Ev_assign rfl)⟩, trivial⟩ rfl (Cok_step rfl (Step_store 1 nb2 0 2 ([.slice none 0 0, I64 (0:Int)]) 85 (.agg (List.toArray (α := Value) ([.slice ao n c, I64 ((e:Int))]))) ([.slice ao n c, I64 ((e:Int))]) ([.slice ao n c, I64 ((e:Int))]) rfl rfl rfl (by first | rfl | simp) Try.sizeOf85 rfl (by simp [Value.oneCell']) (Nat.le_of_ble_eq_true rfl) (lay_whole (by simp [])))) ?_
  rintro v1 L1 ⟨rfl, rfl⟩
  refine ⟨[], ?_⟩
  show DP _ _ _ _ _ _ _ _ [⟨nb1, [.slice ao n c, I64 ((e:Int))], 85, (0, 0)⟩, ⟨nb2, [.slice ao n c, I64 ((e:Int))], 85, (0, 0)⟩]
  refine DP_end ⟨[2], [0, 1], [0, 1], [], []⟩ rfl rfl (by decide +kernel) rfl trivial ?_
  refine K_sub (F' := [(4, .slice none 0 0), (1, I64 (s)), (2, Ptr nb1 0), (5, Ptr nb2 0)]) (Sub.cons (by kernel_rfl) (Sub.cons (by kernel_rfl) (Sub.cons (by kernel_rfl) (Sub.cons (by kernel_rfl) (Sub.nil))))) ?_
  show JQ _ _ _ [(4, .slice none 0 0), (1, I64 (s)), (2, Ptr nb1 0), (5, Ptr nb2 0)] _
  refine JQ_then ?_
  refine JC_ret ?_
  refine JQ_then_ret ?_
  refine JQ_ret (.tuple #[.slice none 0 0, .agg (List.toArray (α := Value) ([.slice ao n c, I64 ((e:Int))]))]) (res2 Try.results57 (RV_tmp rfl) (RV_cell rfl (Ld_agg Try.isAgg85 Try.sizeOf85 rfl (MemAt.ent 1 rfl (Seg.whole _))))) fun w1 hw1 => ?_
  exact ⟨_, [], rfl, ⟨rfl, rfl⟩, hw1.sub (by simp) (by simp)⟩

theorem takeB_c (ao : Option Addr) (n c e : Nat) (s : Int) (w : World) (he : e = 0) (hs : s < 0 ∨ (n:Int) < s) : Calls Try.prog 57 #[.agg (List.toArray (α := Value) ([.slice ao n c, I64 ((e:Int))])), I64 (s)] w (Post w [] (fun v L => v = .tuple #[.slice none 0 0, .agg (List.toArray (α := Value) [.slice ao n c, I64 (2)])] ∧ L = [])) := by
  refine enter (P := Try.prog) (f := 57) (fn := Try.f57) w [] 33 [] [.agg (List.toArray (α := Value) ([.slice ao n c, I64 ((e:Int))])), I64 (s)] Try.func57 rfl rfl (by simp) (Hp.start (by simp) (by simp) (by simp)) ?_
  show JC _ _ _ [(0, .agg (List.toArray (α := Value) ([.slice ao n c, I64 ((e:Int))]))), (1, I64 (s))] _
  refine JC_seq ?_
  refine JC_region ?_
  refine JL_step (Step_box (.agg (List.toArray (α := Value) ([.slice ao n c, I64 ((e:Int))]))) ([.slice ao n c, I64 ((e:Int))]) rfl (by first | rfl | simp)) rfl ?_
  rintro v1 L1 ⟨nb1, hnb1, rfl, rfl⟩
  show JL _ _ _ _ ((2, Ptr nb1 0) :: _) [⟨nb1, [.slice ao n c, I64 ((e:Int))], 85, (0, 0)⟩]
  refine JL_val _ (Ev_assign rfl) rfl ?_
  refine JL_step (Step_alloc _ ([.slice none 0 0, I64 (0:Int)]) Try.zeroValue85 (by kernel_rfl)) rfl ?_
  rintro v1 L1 ⟨nb2, hnb2, rfl, rfl⟩
  show JL _ _ _ _ ((5, Ptr nb2 0) :: _) [⟨nb1, [.slice ao n c, I64 ((e:Int))], 85, (0, 0)⟩, ⟨nb2, [.slice none 0 0, I64 (0:Int)], 85, (0, 0)⟩]
  refine JL_nil ?_
  refine JQ_then ?_
  refine JC_seq ?_
  refine JC_seq ?_
  refine JC_region ?_
  refine JL_val (Ptr nb1 1) (Ev_fieldAddr 1 3 1 Try.underlying85 rfl Try.sizeOf3 rfl rfl) rfl ?_
  refine JL_val (I64 ((e:Int))) (Ev_load rfl (Ld_one Try.isAgg3 (MemAt.ent 0 rfl (Seg.tail (Seg.head))))) rfl ?_
  refine JL_val (.bool (decide (((e:Int)) ≠ (0:Int)))) (Ev_bini rfl rfl fun _ => bin_neq_i _ _) rfl ?_
  refine JL_nil ?_
  refine JQ_then ?_
  refine JC_condF _ rfl (decide_eq_false (by omega)) ?_
  refine JC_skip ?_
  refine JQ_then ?_
  refine JC_seq ?_
  refine JC_seq ?_
  refine JC_region ?_
  refine JL_val _ (Ev_move rfl) rfl ?_
  refine JL_val (.bool (decide ((s) < (0:Int)))) (Ev_bini rfl rfl fun _ => bin_lss_i _ _) rfl ?_
  refine JL_val _ (Ev_move rfl) rfl ?_
  rcases Bool.eq_false_or_eq_true (decide ((s) < (0:Int))) with hb1 | hb1
  ·
    have hp1 : (s) < (0:Int) := of_decide_eq_true hb1
    refine JL_gskip 2 13 false _ rfl rfl hb1 rfl ?_
    refine JL_gskip 2 13 false _ rfl rfl hb1 rfl ?_
    refine JL_gskip 2 13 false _ rfl rfl hb1 rfl ?_
    refine JL_gskip 2 13 false _ rfl rfl hb1 rfl ?_
    refine JL_gskip 2 13 false _ rfl rfl hb1 rfl ?_
    refine JL_val _ (Ev_pickT _ rfl hb1 rfl) rfl ?_
    refine JL_nil ?_
    refine JQ_then ?_
    refine JC_condT _ rfl rfl ?_
    refine JC_seq ?_
    refine JC_region ?_
    refine JL_val (Ptr nb1 1) (Ev_fieldAddr 1 3 1 Try.underlying85 rfl Try.sizeOf3 rfl rfl) rfl ?_
    refine JL_step (Step_store 0 nb1 1 1 ([.slice ao n c, I64 ((e:Int))]) 85 (I64 (2:Int)) ([I64 (2:Int)]) ([.slice ao n c, I64 (2:Int)]) rfl rfl rfl rfl Try.sizeOf3 rfl (by simp [Value.oneCell']) (Nat.le_of_ble_eq_true rfl) (rfl)) rfl ?_
    rintro v1 L1 ⟨rfl, rfl⟩
    show JL _ _ _ _ _ [⟨nb1, [.slice ao n c, I64 (2:Int)], 85, (0, 0)⟩, ⟨nb2, [.slice none 0 0, I64 (0:Int)], 85, (0, 0)⟩]
    refine JL_nil ?_
    refine JQ_then ?_
    refine JC_seq ?_
    refine JC_draw 33 2 [(0, .agg (List.toArray (α := Value) ([.slice ao n c, I64 (2:Int)]))), (1, .slice none 0 0)] Try.mixed rfl (by decide +kernel) ?_
    refine DP_one ⟨[], [0, 1], [], [0, 1], [2]⟩ 2 _ rfl rfl (by decide +kernel) rfl ⟨⟨_, rfl, Qok_val rfl (Ev_load rfl (Ld_agg Try.isAgg85 Try.sizeOf85 rfl (MemAt.ent 0 rfl (Seg.whole _))))⟩, ⟨_, rfl, Qok_val rfl (Ev_assign rfl)⟩, trivial⟩ rfl (Cok_step rfl (Step_store 1 nb2 0 2 ([.slice none 0 0, I64 (0:Int)]) 85 (.agg (List.toArray (α := Value) ([.slice ao n c, I64 (2:Int)]))) ([.slice ao n c, I64 (2:Int)]) ([.slice ao n c, I64 (2:Int)]) rfl rfl rfl (by first | rfl | simp) Try.sizeOf85 rfl (by simp [Value.oneCell']) (Nat.le_of_ble_eq_true rfl) (lay_whole (by simp [])))) ?_
    rintro v1 L1 ⟨rfl, rfl⟩
    refine ⟨[], ?_⟩
    show DP _ _ _ _ _ _ _ _ [⟨nb1, [.slice ao n c, I64 (2:Int)], 85, (0, 0)⟩, ⟨nb2, [.slice ao n c, I64 (2:Int)], 85, (0, 0)⟩]
    refine DP_end ⟨[2], [0, 1], [0, 1], [], []⟩ rfl rfl (by decide +kernel) rfl trivial ?_
    refine K_sub (F' := [(4, .slice none 0 0), (1, I64 (s)), (2, Ptr nb1 0), (5, Ptr nb2 0)]) (Sub.cons (by kernel_rfl) (Sub.cons (by kernel_rfl) (Sub.cons (by kernel_rfl) (Sub.cons (by kernel_rfl) (Sub.nil))))) ?_
    show JQ _ _ _ [(4, .slice none 0 0), (1, I64 (s)), (2, Ptr nb1 0), (5, Ptr nb2 0)] _
    refine JQ_then ?_
    refine JC_ret ?_
    refine JQ_then_ret ?_
    refine JQ_ret (.tuple #[.slice none 0 0, .agg (List.toArray (α := Value) ([.slice ao n c, I64 (2:Int)]))]) (res2 Try.results57 (RV_tmp rfl) (RV_cell rfl (Ld_agg Try.isAgg85 Try.sizeOf85 rfl (MemAt.ent 1 rfl (Seg.whole _))))) fun w1 hw1 => ?_
    exact ⟨_, [], rfl, ⟨rfl, rfl⟩, hw1.sub (by simp) (by simp)⟩
  ·
    have hp1 : ¬ ((s) < (0:Int)) := of_decide_eq_false hb1
    refine JL_gval 2 13 false _ _ rfl rfl hb1 (Ev_move rfl) rfl ?_
    refine JL_gval 2 13 false _ (Ptr nb1 0) rfl rfl hb1 (Ev_fieldAddr 0 38 1 Try.underlying85 rfl Try.sizeOf38 rfl rfl) rfl ?_
    refine JL_gval 2 13 false _ (.slice ao n c) rfl rfl hb1 (Ev_load rfl (Ld_one Try.isAgg38 (MemAt.ent 0 rfl (Seg.head)))) rfl ?_
    refine JL_gval 2 13 false _ (I64 ((n:Int))) rfl rfl hb1 (Ev_len Try.underlying38 rfl) rfl ?_
    refine JL_gval 2 13 false _ (.bool (decide (((n:Int)) < (s)))) rfl rfl hb1 (Ev_bini rfl rfl fun _ => bin_gtr_i _ _) rfl ?_
    refine JL_val _ (Ev_pickF _ rfl hb1 rfl) rfl ?_
    refine JL_nil ?_
    refine JQ_then ?_
    refine JC_condT _ rfl (decide_eq_true (by omega)) ?_
    refine JC_seq ?_
    refine JC_region ?_
    refine JL_val (Ptr nb1 1) (Ev_fieldAddr 1 3 1 Try.underlying85 rfl Try.sizeOf3 rfl rfl) rfl ?_
    refine JL_step (Step_store 0 nb1 1 1 ([.slice ao n c, I64 ((e:Int))]) 85 (I64 (2:Int)) ([I64 (2:Int)]) ([.slice ao n c, I64 (2:Int)]) rfl rfl rfl rfl Try.sizeOf3 rfl (by simp [Value.oneCell']) (Nat.le_of_ble_eq_true rfl) (rfl)) rfl ?_
    rintro v1 L1 ⟨rfl, rfl⟩
    show JL _ _ _ _ _ [⟨nb1, [.slice ao n c, I64 (2:Int)], 85, (0, 0)⟩, ⟨nb2, [.slice none 0 0, I64 (0:Int)], 85, (0, 0)⟩]
    refine JL_nil ?_
    refine JQ_then ?_
    refine JC_seq ?_
    refine JC_draw 33 2 [(0, .agg (List.toArray (α := Value) ([.slice ao n c, I64 (2:Int)]))), (1, .slice none 0 0)] Try.mixed rfl (by decide +kernel) ?_
    refine DP_one ⟨[], [0, 1], [], [0, 1], [2]⟩ 2 _ rfl rfl (by decide +kernel) rfl ⟨⟨_, rfl, Qok_val rfl (Ev_load rfl (Ld_agg Try.isAgg85 Try.sizeOf85 rfl (MemAt.ent 0 rfl (Seg.whole _))))⟩, ⟨_, rfl, Qok_val rfl (Ev_assign rfl)⟩, trivial⟩ rfl (Cok_step rfl (Step_store 1 nb2 0 2 ([.slice none 0 0, I64 (0:Int)]) 85 (.agg (List.toArray (α := Value) ([.slice ao n c, I64 (2:Int)]))) ([.slice ao n c, I64 (2:Int)]) ([.slice ao n c, I64 (2:Int)]) rfl rfl rfl (by first | rfl | simp) Try.sizeOf85 rfl (by simp [Value.oneCell']) (Nat.le_of_ble_eq_true rfl) (lay_whole (by simp [])))) ?_
    rintro v1 L1 ⟨rfl, rfl⟩
    refine ⟨[], ?_⟩
    show DP _ _ _ _ _ _ _ _ [⟨nb1, [.slice ao n c, I64 (2:Int)], 85, (0, 0)⟩, ⟨nb2, [.slice ao n c, I64 (2:Int)], 85, (0, 0)⟩]
    refine DP_end ⟨[2], [0, 1], [0, 1], [], []⟩ rfl rfl (by decide +kernel) rfl trivial ?_
    refine K_sub (F' := [(4, .slice none 0 0), (1, I64 (s)), (2, Ptr nb1 0), (5, Ptr nb2 0)]) (Sub.cons (by kernel_rfl) (Sub.cons (by kernel_rfl) (Sub.cons (by kernel_rfl) (Sub.cons (by kernel_rfl) (Sub.nil))))) ?_
    show JQ _ _ _ [(4, .slice none 0 0), (1, I64 (s)), (2, Ptr nb1 0), (5, Ptr nb2 0)] _
    refine JQ_then ?_
    refine JC_ret ?_
    refine JQ_then_ret ?_
    refine JQ_ret (.tuple #[.slice none 0 0, .agg (List.toArray (α := Value) ([.slice ao n c, I64 (2:Int)]))]) (res2 Try.results57 (RV_tmp rfl) (RV_cell rfl (Ld_agg Try.isAgg85 Try.sizeOf85 rfl (MemAt.ent 1 rfl (Seg.whole _))))) fun w1 hw1 => ?_
    exact ⟨_, [], rfl, ⟨rfl, rfl⟩, hw1.sub (by simp) (by simp)⟩

theorem takeOk_c (ao : Option Addr) (n c e : Nat) (z : List UInt8) (s : Nat) (n2 c2 : Nat) (w : World) (hz : z.length = n) (hn : n ≤ 2000000000) (hc : n ≤ c) (hcm : c ≤ maxLen) (hr : RdB w [] ao z) (he : e = 0) (h2 : s ≤ n) (ht1 : s + n2 = n) (ht2 : s + c2 = c) : Calls Try.prog 57 #[.agg (List.toArray (α := Value) ([.slice ao n c, I64 ((e:Int))])), I64 ((s:Int))] w (Post w [] (fun v L => v = .tuple #[.slice ao s c, .agg (List.toArray (α := Value) [.slice (advA ao c s) n2 c2, I64 (e)])] ∧ L = [])) := by
  refine enter (P := Try.prog) (f := 57) (fn := Try.f57) w [] 33 [] [.agg (List.toArray (α := Value) ([.slice ao n c, I64 ((e:Int))])), I64 ((s:Int))] Try.func57 rfl rfl (by simp) (Hp.start (by simp) (by simp) (by simp)) ?_
  show JC _ _ _ [(0, .agg (List.toArray (α := Value) ([.slice ao n c, I64 ((e:Int))]))), (1, I64 ((s:Int)))] _
  refine JC_seq ?_
  refine JC_region ?_
  refine JL_step (Step_box (.agg (List.toArray (α := Value) ([.slice ao n c, I64 ((e:Int))]))) ([.slice ao n c, I64 ((e:Int))]) rfl (by first | rfl | simp)) rfl ?_
  rintro v1 L1 ⟨nb1, hnb1, rfl, rfl⟩
  show JL _ _ _ _ ((2, Ptr nb1 0) :: _) [⟨nb1, [.slice ao n c, I64 ((e:Int))], 85, (0, 0)⟩]
  refine JL_val _ (Ev_assign rfl) rfl ?_
  refine JL_step (Step_alloc _ ([.slice none 0 0, I64 (0:Int)]) Try.zeroValue85 (by kernel_rfl)) rfl ?_
  rintro v1 L1 ⟨nb2, hnb2, rfl, rfl⟩
  show JL _ _ _ _ ((5, Ptr nb2 0) :: _) [⟨nb1, [.slice ao n c, I64 ((e:Int))], 85, (0, 0)⟩, ⟨nb2, [.slice none 0 0, I64 (0:Int)], 85, (0, 0)⟩]
  refine JL_nil ?_
  refine JQ_then ?_
  refine JC_seq ?_
  refine JC_seq ?_
  refine JC_region ?_
  refine JL_val (Ptr nb1 1) (Ev_fieldAddr 1 3 1 Try.underlying85 rfl Try.sizeOf3 rfl rfl) rfl ?_
  refine JL_val (I64 ((e:Int))) (Ev_load rfl (Ld_one Try.isAgg3 (MemAt.ent 0 rfl (Seg.tail (Seg.head))))) rfl ?_
  refine JL_val (.bool (decide (((e:Int)) ≠ (0:Int)))) (Ev_bini rfl rfl fun _ => bin_neq_i _ _) rfl ?_
  refine JL_nil ?_
  refine JQ_then ?_
  refine JC_condF _ rfl (decide_eq_false (by omega)) ?_
  refine JC_skip ?_
  refine JQ_then ?_
  refine JC_seq ?_
  refine JC_seq ?_
  refine JC_region ?_
  refine JL_val _ (Ev_move rfl) rfl ?_
  refine JL_val (.bool (decide (((s:Int)) < (0:Int)))) (Ev_bini rfl rfl fun _ => bin_lss_i _ _) rfl ?_
  refine JL_val _ (Ev_move rfl) rfl ?_
  refine JL_gval 2 13 false _ _ rfl rfl (decide_eq_false (by omega)) (Ev_move rfl) rfl ?_
  refine JL_gval 2 13 false _ (Ptr nb1 0) rfl rfl (decide_eq_false (by omega)) (Ev_fieldAddr 0 38 1 Try.underlying85 rfl Try.sizeOf38 rfl rfl) rfl ?_
  refine JL_gval 2 13 false _ (.slice ao n c) rfl rfl (decide_eq_false (by omega)) (Ev_load rfl (Ld_one Try.isAgg38 (MemAt.ent 0 rfl (Seg.head)))) rfl ?_
  refine JL_gval 2 13 false _ (I64 ((n:Int))) rfl rfl (decide_eq_false (by omega)) (Ev_len Try.underlying38 rfl) rfl ?_
  refine JL_gval 2 13 false _ (.bool (decide (((n:Int)) < ((s:Int))))) rfl rfl (decide_eq_false (by omega)) (Ev_bini rfl rfl fun _ => bin_gtr_i _ _) rfl ?_
  refine JL_val _ (Ev_pickF _ rfl (decide_eq_false (by omega)) rfl) rfl ?_
  refine JL_nil ?_
  refine JQ_then ?_
  refine JC_condF _ rfl (decide_eq_false (by omega)) ?_
  refine JC_skip ?_
  refine JQ_then ?_
  refine JC_seq ?_
  refine JC_region ?_
  refine JL_val (Ptr nb1 0) (Ev_fieldAddr 0 38 1 Try.underlying85 rfl Try.sizeOf38 rfl rfl) rfl ?_
  refine JL_val (.slice ao n c) (Ev_load rfl (Ld_one Try.isAgg38 (MemAt.ent 0 rfl (Seg.head)))) rfl ?_
  refine JL_val _ (Ev_move rfl) rfl ?_
  have hl1 : (mid z 0 s).length = s := mid_len (by rw [hz]; omega)
  have hr1 := RdB.pre hr s
  refine JL_val (.slice ao s c) (Ev_sliceHi 5 1 s Try.underlying38 Try.sizeOf5 rfl rfl (by omega)) rfl ?_
  refine JL_val _ (Ev_assign rfl) rfl ?_
  refine JL_nil ?_
  refine JQ_then ?_
  refine JC_seq ?_
  refine JC_region ?_
  refine JL_val (Ptr nb1 0) (Ev_fieldAddr 0 38 1 Try.underlying85 rfl Try.sizeOf38 rfl rfl) rfl ?_
  refine JL_val (.slice ao n c) (Ev_load rfl (Ld_one Try.isAgg38 (MemAt.ent 0 rfl (Seg.head)))) rfl ?_
  refine JL_val _ (Ev_move rfl) rfl ?_
  have hl2 : (z.drop s).length = (n - s) := by rw [List.length_drop, hz] <;> omega
  have hr2 := RdB.adv (c := c) hr s (by rw [hz]; omega) (by rw [hz]; omega)
  refine JL_val (.slice (advA ao c s) (n - s) (c - s)) (Ev_sliceLo 5 s (n - s) (c - s) Try.underlying38 Try.sizeOf5 rfl rfl (by omega) (by omega) (by omega) (by omega)) rfl ?_
  refine JL_val (Ptr nb1 0) (Ev_fieldAddr 0 38 1 Try.underlying85 rfl Try.sizeOf38 rfl rfl) rfl ?_
  refine JL_step (Step_store 0 nb1 0 1 ([.slice ao n c, I64 ((e:Int))]) 85 (.slice (advA ao c s) (n - s) (c - s)) ([.slice (advA ao c s) (n - s) (c - s)]) ([.slice (advA ao c s) (n - s) (c - s), I64 ((e:Int))]) rfl rfl rfl rfl Try.sizeOf38 rfl (by simp [Value.oneCell']) (Nat.le_of_ble_eq_true rfl) (rfl)) rfl ?_
  rintro v1 L1 ⟨rfl, rfl⟩
  show JL _ _ _ _ _ [⟨nb1, [.slice (advA ao c s) (n - s) (c - s), I64 ((e:Int))], 85, (0, 0)⟩, ⟨nb2, [.slice none 0 0, I64 (0:Int)], 85, (0, 0)⟩]
  refine JL_nil ?_
  refine JQ_then ?_
  refine JC_seq ?_
  refine JC_draw 33 2 [(0, .slice ao s c), (1, .agg (List.toArray (α := Value) ([.slice (advA ao c s) (n - s) (c - s), I64 ((e:Int))]))), (2, .slice ao s c)] Try.mixed rfl (by decide +kernel) ?_
  refine DP_one ⟨[], [0, 1, 2], [], [0, 1, 2], [3]⟩ 3 _ rfl rfl (by decide +kernel) rfl ⟨⟨_, rfl, Qok_val rfl (Ev_move rfl)⟩, ⟨_, rfl, Qok_val rfl (Ev_load rfl (Ld_agg Try.isAgg85 Try.sizeOf85 rfl (MemAt.ent 0 rfl (Seg.whole _))))⟩, ⟨_, rfl, Qok_val rfl (Ev_assign rfl)⟩, trivial⟩ rfl (Cok_step rfl (Step_store 1 nb2 0 2 ([.slice none 0 0, I64 (0:Int)]) 85 (.agg (List.toArray (α := Value) ([.slice (advA ao c s) (n - s) (c - s), I64 ((e:Int))]))) ([.slice (advA ao c s) (n - s) (c - s), I64 ((e:Int))]) ([.slice (advA ao c s) (n - s) (c - s), I64 ((e:Int))]) rfl rfl rfl (by first | rfl | simp) Try.sizeOf85 rfl (by simp [Value.oneCell']) (Nat.le_of_ble_eq_true rfl) (lay_whole (by simp [])))) ?_
  rintro v1 L1 ⟨rfl, rfl⟩
  refine ⟨[], ?_⟩
  show DP _ _ _ _ _ _ _ _ [⟨nb1, [.slice (advA ao c s) (n - s) (c - s), I64 ((e:Int))], 85, (0, 0)⟩, ⟨nb2, [.slice (advA ao c s) (n - s) (c - s), I64 ((e:Int))], 85, (0, 0)⟩]
  refine DP_end ⟨[3], [0, 1, 2], [0, 1, 2], [], []⟩ rfl rfl (by decide +kernel) rfl trivial ?_
  refine K_sub (F' := [(4, .slice ao s c), (5, Ptr nb2 0)]) (Sub.cons (by kernel_rfl) (Sub.cons (by kernel_rfl) (Sub.nil))) ?_
  show JQ _ _ _ [(4, .slice ao s c), (5, Ptr nb2 0)] _
  refine JQ_then ?_
  refine JC_ret ?_
  refine JQ_ret (.tuple #[.slice ao s c, .agg (List.toArray (α := Value) ([.slice (advA ao c s) (n - s) (c - s), I64 ((e:Int))]))]) (res2 Try.results57 (RV_tmp rfl) (RV_cell rfl (Ld_agg Try.isAgg85 Try.sizeOf85 rfl (MemAt.ent 1 rfl (Seg.whole _))))) fun w1 hw1 => ?_
  obtain rfl : n2 = (n - s) := by omega
  obtain rfl : c2 = (c - s) := by omega
  exact ⟨_, [], rfl, ⟨rfl, rfl⟩, hw1.sub (by simp) (by simp)⟩

theorem value_c (ao : Option Addr) (n c : Nat) (z : List UInt8) (w : World) (hz : z.length = n) (hn : n ≤ 2000000000) (hr : RdB w [] ao z) : Calls Try.prog 84 #[.slice ao n c] w (Post w [] (fun v L => v = U64 (rvalK z n) ∧ L = [])) := by
  refine enter w [] 20 [] [.slice ao n c] Try.func84 rfl rfl (by simp) (Hp.start (by simp) (by simp) (by simp)) ?_
  show JC _ _ _ [(0, .slice ao n c)] _
  refine JC_seq ?_
  refine JC_region ?_
  refine JL_val _ (Ev_assign rfl) rfl ?_
  refine JL_nil ?_
  refine JQ_then ?_
  refine JC_seq ?_
  refine JC_region ?_
  refine JL_val _ (Ev_assign rfl) rfl ?_
  refine JL_nil ?_
  refine JQ_then ?_
  refine JC_seq ?_
  refine JC_seq ?_
  refine JC_region ?_
  refine JL_val _ (Ev_assign rfl) rfl ?_
  refine JL_nil ?_
  refine JQ_then ?_
  refine JC_block ?_
  refine JC_loop (ι := Nat × UInt64) (fun ⟨j, y⟩ => [(0, .slice ao n c), (2, U64 (0:UInt64)), (4, I64 ((j:Int))), (3, U64 y)]) (fun ⟨j, y⟩ => []) (fun ⟨j, y⟩ => j ≤ n ∧ y = rvalK z j) (fun ⟨j, y⟩ => n - j) (0, 0) ⟨by omega, by rw [rvalK]⟩ (Sub.cons rfl (Sub.cons rfl (Sub.cons rfl (Sub.cons rfl (Sub.nil))))) rfl ?_
  rintro ⟨j, y⟩ ⟨hx1, hx2⟩
  show JC _ _ _ [(0, .slice ao n c), (2, U64 (0:UInt64)), (4, I64 ((j:Int))), (3, U64 y)] []
  refine JC_seq ?_
  refine JC_seq ?_
  refine JC_region ?_
  refine JL_val _ (Ev_move rfl) rfl ?_
  refine JL_val _ (Ev_move rfl) rfl ?_
  refine JL_val (I64 ((n:Int))) (Ev_len Try.underlying38 rfl) rfl ?_
  refine JL_val (.bool (decide (((j:Int)) < ((n:Int))))) (Ev_bini rfl rfl fun _ => bin_lss_i _ _) rfl ?_
  refine JL_nil ?_
  refine JQ_then ?_
  refine JC_cond (decide (((j:Int)) < ((n:Int)))) rfl (fun hb1 => ?_) (fun hb1 => ?_)
  ·
    have hp1 : ((j:Int)) < ((n:Int)) := of_decide_eq_true hb1
    refine JC_skip ?_
    refine JQ_then ?_
    refine JC_seq ?_
    refine JC_block ?_
    refine JC_region ?_
    refine JL_val _ (Ev_move rfl) rfl ?_
    refine JL_val (U64 (y * (256:UInt64))) (Ev_bini rfl rfl fun _ => bin_mul_u64 y (256:UInt64)) rfl ?_
    refine JL_val _ (Ev_move rfl) rfl ?_
    refine JL_val _ (Ev_move rfl) rfl ?_
    obtain ⟨bz1, oz1, hz1, hm1⟩ := hr.pos (by rw [hz]; omega)
    refine JL_val (Ptr bz1 (j + oz1)) (Ev_indexSlG 5 1 (j + oz1) Try.underlying38 Try.sizeOf5 rfl hz1 rfl (by omega) (by omega) (by omega)) rfl ?_
    refine JL_val (U8 (g8 z j)) (Ev_load rfl (Ld_one Try.isAgg5 (MemAt.seg (MemAt.base hm1.1 hm1.2.1 hm1.2.2) (Seg.get (g8_get (i := j) (by rw [hz]; omega))) (by omega)))) rfl ?_
    refine JL_val (U64 ((g8 z j).toUInt64)) (Ev_conv _ _ rfl fun _ => conv_u8_u64 (by rw [Try.underlying5]; rfl) Try.underlying44 _) rfl ?_
    refine JL_val (U64 ((y * (256:UInt64)) + ((g8 z j).toUInt64))) (Ev_bini rfl rfl fun _ => bin_add_u64 (y * (256:UInt64)) ((g8 z j).toUInt64)) rfl ?_
    refine JL_val _ (Ev_assign rfl) rfl ?_
    refine JL_nil ?_
    refine JQ_in_normal ?_
    refine JQ_then ?_
    refine JC_region ?_
    refine JL_val _ (Ev_move rfl) rfl ?_
    refine JL_val (I64 ((j:Int) + 1)) (Ev_bini rfl rfl fun _ => bin_add_i _ _ ((j:Int) + 1) (by omega) (by omega)) rfl ?_
    refine JL_val _ (Ev_assign rfl) rfl ?_
    refine JL_nil ?_
    refine JQ_thenK ?_
    refine K_next (j + 1, (y * (256:UInt64)) + ((g8 z j).toUInt64)) ⟨by omega, by rw [rvalK, ← hx2]⟩ (by first | (simp; omega) | simp | (dsimp only; omega) | omega) (Sub.cons rfl (Sub.cons rfl (Sub.cons rfl (Sub.cons rfl (Sub.nil))))) rfl
  ·
    have hp1 : ¬ (((j:Int)) < ((n:Int))) := of_decide_eq_false hb1
    refine JC_exit ?_
    refine JQ_then_exit ?_
    refine JQ_then_exit ?_
    refine JQ_in_same ?_
    refine JQ_then ?_
    refine JC_seq ?_
    refine JC_region ?_
    refine JL_val _ (Ev_move rfl) rfl ?_
    refine JL_val _ (Ev_assign rfl) rfl ?_
    refine JL_nil ?_
    refine JQ_then ?_
    refine JC_ret ?_
    refine JQ_ret (U64 y) (res1 Try.results84 (RV_tmp rfl)) fun w1 hw1 => ?_
    have e1 : j = n := by omega
    rw [hx2, e1] at *
    exact ⟨_, [], rfl, ⟨rfl, rfl⟩, hw1.sub (by simp) (by simp)⟩

theorem valueNil_c  (w : World) : Calls Try.prog 84 #[.slice none 0 0] w (Post w [] (fun v L => v = U64 0 ∧ L = [])) := by
  refine enter w [] 20 [] [.slice none 0 0] Try.func84 rfl rfl (by simp) (Hp.start (by simp) (by simp) (by simp)) ?_
  show JC _ _ _ [(0, .slice none 0 0)] _
  refine JC_seq ?_
  refine JC_region ?_
  refine JL_val _ (Ev_assign rfl) rfl ?_
  refine JL_nil ?_
  refine JQ_then ?_
  refine JC_seq ?_
  refine JC_region ?_
  refine JL_val _ (Ev_assign rfl) rfl ?_
  refine JL_nil ?_
  refine JQ_then ?_
  refine JC_seq ?_
  refine JC_seq ?_
  refine JC_region ?_
  refine JL_val _ (Ev_assign rfl) rfl ?_
  refine JL_nil ?_
  refine JQ_then ?_
  refine JC_block ?_
  refine JC_loop (ι := Unit) (fun _ => [(0, .slice none 0 0), (2, U64 (0:UInt64)), (4, I64 (0:Int)), (3, U64 (0:UInt64))]) (fun _ => []) (fun _ => True) (fun _ => 1) () trivial (Sub.cons rfl (Sub.cons rfl (Sub.cons rfl (Sub.cons rfl (Sub.nil))))) rfl ?_
  rintro _ _
  show JC _ _ _ [(0, .slice none 0 0), (2, U64 (0:UInt64)), (4, I64 (0:Int)), (3, U64 (0:UInt64))] []
  refine JC_seq ?_
  refine JC_seq ?_
  refine JC_region ?_
  refine JL_val _ (Ev_move rfl) rfl ?_
  refine JL_val _ (Ev_move rfl) rfl ?_
  refine JL_val (I64 (0:Int)) (Ev_len Try.underlying38 rfl) rfl ?_
  refine JL_val (.bool (decide ((0:Int) < (0:Int)))) (Ev_bini rfl rfl fun _ => bin_lss_i _ _) rfl ?_
  refine JL_nil ?_
  refine JQ_then ?_
  refine JC_condF _ rfl (by decide) ?_
  refine JC_exit ?_
  refine JQ_then_exit ?_
  refine JQ_then_exit ?_
  refine JQ_in_same ?_
  refine JQ_then ?_
  refine JC_seq ?_
  refine JC_region ?_
  refine JL_val _ (Ev_move rfl) rfl ?_
  refine JL_val _ (Ev_assign rfl) rfl ?_
  refine JL_nil ?_
  refine JQ_then ?_
  refine JC_ret ?_
  refine JQ_ret (U64 (0:UInt64)) (res1 Try.results84 (RV_tmp rfl)) fun w1 hw1 => ?_
  exact ⟨_, [], rfl, ⟨rfl, rfl⟩, hw1.sub (by simp) (by simp)⟩

theorem readE_c (ao : Option Addr) (n c e : Nat) (s : Int) (w : World) (he : e ≠ 0) : Calls Try.prog 53 #[.agg (List.toArray (α := Value) ([.slice ao n c, I64 ((e:Int))])), I64 (s)] w (Post w [] (fun v L => v = .tuple #[U64 0, .agg (List.toArray (α := Value) [.slice ao n c, I64 (e)])] ∧ L = [])) := by
  refine enter (P := Try.prog) (f := 53) (fn := Try.f53) w [] 36 [] [.agg (List.toArray (α := Value) ([.slice ao n c, I64 ((e:Int))])), I64 (s)] Try.func53 rfl rfl (by simp) (Hp.start (by simp) (by simp) (by simp)) ?_
  show JC _ _ _ [(0, .agg (List.toArray (α := Value) ([.slice ao n c, I64 ((e:Int))]))), (1, I64 (s))] _
  refine JC_seq ?_
  refine JC_region ?_
  refine JL_step (Step_box (.agg (List.toArray (α := Value) ([.slice ao n c, I64 ((e:Int))]))) ([.slice ao n c, I64 ((e:Int))]) rfl (by first | rfl | simp)) rfl ?_
  rintro v1 L1 ⟨nb1, hnb1, rfl, rfl⟩
  show JL _ _ _ _ ((2, Ptr nb1 0) :: _) [⟨nb1, [.slice ao n c, I64 ((e:Int))], 85, (0, 0)⟩]
  refine JL_val _ (Ev_assign rfl) rfl ?_
  refine JL_step (Step_alloc _ ([.slice none 0 0, I64 (0:Int)]) Try.zeroValue85 (by kernel_rfl)) rfl ?_
  rintro v1 L1 ⟨nb2, hnb2, rfl, rfl⟩
  show JL _ _ _ _ ((5, Ptr nb2 0) :: _) [⟨nb1, [.slice ao n c, I64 ((e:Int))], 85, (0, 0)⟩, ⟨nb2, [.slice none 0 0, I64 (0:Int)], 85, (0, 0)⟩]
  refine JL_nil ?_
  refine JQ_then ?_
  refine JC_seq ?_
  refine JC_seq ?_
  refine JC_region ?_
  refine JL_val (Ptr nb1 1) (Ev_fieldAddr 1 3 1 Try.underlying85 rfl Try.sizeOf3 rfl rfl) rfl ?_
  refine JL_val (I64 ((e:Int))) (Ev_load rfl (Ld_one Try.isAgg3 (MemAt.ent 0 rfl (Seg.tail (Seg.head))))) rfl ?_
  refine JL_val (.bool (decide (((e:Int)) ≠ (0:Int)))) (Ev_bini rfl rfl fun _ => bin_neq_i _ _) rfl ?_
  refine JL_nil ?_
  refine JQ_then ?_
  refine JC_condT _ rfl (decide_eq_true (by omega)) ?_
  refine JC_seq ?_
  refine JC_draw 36 2 [(0, .agg (List.toArray (α := Value) ([.slice ao n c, I64 ((e:Int))]))), (1, U64 (0:UInt64))] Try.mixed rfl (by decide +kernel) ?_
  refine DP_one ⟨[], [0, 1], [], [0, 1], [2]⟩ 2 _ rfl rfl (by decide +kernel) rfl ⟨⟨_, rfl, Qok_val rfl (Ev_load rfl (Ld_agg Try.isAgg85 Try.sizeOf85 rfl (MemAt.ent 0 rfl (Seg.whole _))))⟩, ⟨_, rfl, Qok_val rfl (Ev_assign rfl)⟩, trivial⟩ rfl (Cok_step rfl (Step_store 1 nb2 0 2 ([.slice none 0 0, I64 (0:Int)]) 85 (.agg (List.toArray (α := Value) ([.slice ao n c, I64 ((e:Int))]))) ([.slice ao n c, I64 ((e:Int))]) ([.slice ao n c, I64 ((e:Int))]) rfl rfl rfl (by first | rfl | simp) Try.sizeOf85 rfl (by simp [Value.oneCell']) (Nat.le_of_ble_eq_true rfl) (lay_whole (by simp [])))) ?_
  rintro v1 L1 ⟨rfl, rfl⟩
  refine ⟨[], ?_⟩
  show DP _ _ _ _ _ _ _ _ [⟨nb1, [.slice ao n c, I64 ((e:Int))], 85, (0, 0)⟩, ⟨nb2, [.slice ao n c, I64 ((e:Int))], 85, (0, 0)⟩]
  refine DP_end ⟨[2], [0, 1], [0, 1], [], []⟩ rfl rfl (by decide +kernel) rfl trivial ?_
  refine K_sub (F' := [(4, U64 (0:UInt64)), (1, I64 (s)), (2, Ptr nb1 0), (5, Ptr nb2 0)]) (Sub.cons (by kernel_rfl) (Sub.cons (by kernel_rfl) (Sub.cons (by kernel_rfl) (Sub.cons (by kernel_rfl) (Sub.nil))))) ?_
  show JQ _ _ _ [(4, U64 (0:UInt64)), (1, I64 (s)), (2, Ptr nb1 0), (5, Ptr nb2 0)] _
  refine JQ_then ?_
  refine JC_ret ?_
  refine JQ_then_ret ?_
  refine JQ_ret (.tuple #[U64 (0:UInt64), .agg (List.toArray (α := Value) ([.slice ao n c, I64 ((e:Int))]))]) (res2 Try.results53 (RV_tmp rfl) (RV_cell rfl (Ld_agg Try.isAgg85 Try.sizeOf85 rfl (MemAt.ent 1 rfl (Seg.whole _))))) fun w1 hw1 => ?_
  exact ⟨_, [], rfl, ⟨rfl, rfl⟩, hw1.sub (by simp) (by simp)⟩

theorem readF_c (ao : Option Addr) (n c e : Nat) (s : Int) (w : World) (he : e = 0) (hs : ¬ Szd s) : Calls Try.prog 53 #[.agg (List.toArray (α := Value) ([.slice ao n c, I64 ((e:Int))])), I64 (s)] w (Post w [] (fun v L => v = .tuple #[U64 0, .agg (List.toArray (α := Value) [.slice ao n c, I64 (2)])] ∧ L = [])) := by
  refine enter (P := Try.prog) (f := 53) (fn := Try.f53) w [] 36 [] [.agg (List.toArray (α := Value) ([.slice ao n c, I64 ((e:Int))])), I64 (s)] Try.func53 rfl rfl (by simp) (Hp.start (by simp) (by simp) (by simp)) ?_
  show JC _ _ _ [(0, .agg (List.toArray (α := Value) ([.slice ao n c, I64 ((e:Int))]))), (1, I64 (s))] _
  refine JC_seq ?_
  refine JC_region ?_
  refine JL_step (Step_box (.agg (List.toArray (α := Value) ([.slice ao n c, I64 ((e:Int))]))) ([.slice ao n c, I64 ((e:Int))]) rfl (by first | rfl | simp)) rfl ?_
  rintro v1 L1 ⟨nb1, hnb1, rfl, rfl⟩
  show JL _ _ _ _ ((2, Ptr nb1 0) :: _) [⟨nb1, [.slice ao n c, I64 ((e:Int))], 85, (0, 0)⟩]
  refine JL_val _ (Ev_assign rfl) rfl ?_
  refine JL_step (Step_alloc _ ([.slice none 0 0, I64 (0:Int)]) Try.zeroValue85 (by kernel_rfl)) rfl ?_
  rintro v1 L1 ⟨nb2, hnb2, rfl, rfl⟩
  show JL _ _ _ _ ((5, Ptr nb2 0) :: _) [⟨nb1, [.slice ao n c, I64 ((e:Int))], 85, (0, 0)⟩, ⟨nb2, [.slice none 0 0, I64 (0:Int)], 85, (0, 0)⟩]
  refine JL_nil ?_
  refine JQ_then ?_
  refine JC_seq ?_
  refine JC_seq ?_
  refine JC_region ?_
  refine JL_val (Ptr nb1 1) (Ev_fieldAddr 1 3 1 Try.underlying85 rfl Try.sizeOf3 rfl rfl) rfl ?_
  refine JL_val (I64 ((e:Int))) (Ev_load rfl (Ld_one Try.isAgg3 (MemAt.ent 0 rfl (Seg.tail (Seg.head))))) rfl ?_
  refine JL_val (.bool (decide (((e:Int)) ≠ (0:Int)))) (Ev_bini rfl rfl fun _ => bin_neq_i _ _) rfl ?_
  refine JL_nil ?_
  refine JQ_then ?_
  refine JC_condF _ rfl (decide_eq_false (by omega)) ?_
  refine JC_skip ?_
  refine JQ_then ?_
  refine JC_seq ?_
  refine JC_seq ?_
  refine JC_region ?_
  refine JL_val _ (Ev_move rfl) rfl ?_
  refine JL_val (.bool (decide ((s) ≠ (1:Int)))) (Ev_bini rfl rfl fun _ => bin_neq_i _ _) rfl ?_
  refine JL_val _ (Ev_move rfl) rfl ?_
  rcases Bool.eq_false_or_eq_true (decide ((s) ≠ (1:Int))) with hb1 | hb1
  ·
    have hp1 : (s) ≠ (1:Int) := of_decide_eq_true hb1
    refine JL_gval 2 13 true _ _ rfl rfl hb1 (Ev_move rfl) rfl ?_
    refine JL_gval 2 13 true _ (.bool (decide ((s) ≠ (2:Int)))) rfl rfl hb1 (Ev_bini rfl rfl fun _ => bin_neq_i _ _) rfl ?_
    refine JL_val _ (Ev_pickT _ rfl hb1 rfl) rfl ?_
    refine JL_val _ (Ev_move rfl) rfl ?_
    rcases Bool.eq_false_or_eq_true (decide ((s) ≠ (2:Int))) with hb2 | hb2
    ·
      have hp2 : (s) ≠ (2:Int) := of_decide_eq_true hb2
      refine JL_gval 6 17 true _ _ rfl rfl hb2 (Ev_move rfl) rfl ?_
      refine JL_gval 6 17 true _ (.bool (decide ((s) ≠ (4:Int)))) rfl rfl hb2 (Ev_bini rfl rfl fun _ => bin_neq_i _ _) rfl ?_
      refine JL_val _ (Ev_pickT _ rfl hb2 rfl) rfl ?_
      refine JL_val _ (Ev_move rfl) rfl ?_
      rcases Bool.eq_false_or_eq_true (decide ((s) ≠ (4:Int))) with hb3 | hb3
      ·
        have hp3 : (s) ≠ (4:Int) := of_decide_eq_true hb3
        refine JL_gval 10 21 true _ _ rfl rfl hb3 (Ev_move rfl) rfl ?_
        refine JL_gval 10 21 true _ (.bool (decide ((s) ≠ (8:Int)))) rfl rfl hb3 (Ev_bini rfl rfl fun _ => bin_neq_i _ _) rfl ?_
        refine JL_val _ (Ev_pickT _ rfl hb3 rfl) rfl ?_
        refine JL_nil ?_
        refine JQ_then ?_
        refine JC_cond (decide ((s) ≠ (8:Int))) rfl (fun hb4 => ?_) (fun hb4 => ?_)
        ·
          have hp4 : (s) ≠ (8:Int) := of_decide_eq_true hb4
          refine JC_seq ?_
          refine JC_region ?_
          refine JL_val (Ptr nb1 1) (Ev_fieldAddr 1 3 1 Try.underlying85 rfl Try.sizeOf3 rfl rfl) rfl ?_
          refine JL_step (Step_store 0 nb1 1 1 ([.slice ao n c, I64 ((e:Int))]) 85 (I64 (2:Int)) ([I64 (2:Int)]) ([.slice ao n c, I64 (2:Int)]) rfl rfl rfl rfl Try.sizeOf3 rfl (by simp [Value.oneCell']) (Nat.le_of_ble_eq_true rfl) (rfl)) rfl ?_
          rintro v1 L1 ⟨rfl, rfl⟩
          show JL _ _ _ _ _ [⟨nb1, [.slice ao n c, I64 (2:Int)], 85, (0, 0)⟩, ⟨nb2, [.slice none 0 0, I64 (0:Int)], 85, (0, 0)⟩]
          refine JL_nil ?_
          refine JQ_then ?_
          refine JC_seq ?_
          refine JC_draw 36 2 [(0, .agg (List.toArray (α := Value) ([.slice ao n c, I64 (2:Int)]))), (1, U64 (0:UInt64))] Try.mixed rfl (by decide +kernel) ?_
          refine DP_one ⟨[], [0, 1], [], [0, 1], [2]⟩ 2 _ rfl rfl (by decide +kernel) rfl ⟨⟨_, rfl, Qok_val rfl (Ev_load rfl (Ld_agg Try.isAgg85 Try.sizeOf85 rfl (MemAt.ent 0 rfl (Seg.whole _))))⟩, ⟨_, rfl, Qok_val rfl (Ev_assign rfl)⟩, trivial⟩ rfl (Cok_step rfl (Step_store 1 nb2 0 2 ([.slice none 0 0, I64 (0:Int)]) 85 (.agg (List.toArray (α := Value) ([.slice ao n c, I64 (2:Int)]))) ([.slice ao n c, I64 (2:Int)]) ([.slice ao n c, I64 (2:Int)]) rfl rfl rfl (by first | rfl | simp) Try.sizeOf85 rfl (by simp [Value.oneCell']) (Nat.le_of_ble_eq_true rfl) (lay_whole (by simp [])))) ?_
          rintro v1 L1 ⟨rfl, rfl⟩
          refine ⟨[], ?_⟩
          show DP _ _ _ _ _ _ _ _ [⟨nb1, [.slice ao n c, I64 (2:Int)], 85, (0, 0)⟩, ⟨nb2, [.slice ao n c, I64 (2:Int)], 85, (0, 0)⟩]
          refine DP_end ⟨[2], [0, 1], [0, 1], [], []⟩ rfl rfl (by decide +kernel) rfl trivial ?_
          refine K_sub (F' := [(4, U64 (0:UInt64)), (1, I64 (s)), (2, Ptr nb1 0), (5, Ptr nb2 0)]) (Sub.cons (by kernel_rfl) (Sub.cons (by kernel_rfl) (Sub.cons (by kernel_rfl) (Sub.cons (by kernel_rfl) (Sub.nil))))) ?_
          show JQ _ _ _ [(4, U64 (0:UInt64)), (1, I64 (s)), (2, Ptr nb1 0), (5, Ptr nb2 0)] _
          refine JQ_then ?_
          refine JC_ret ?_
          refine JQ_then_ret ?_
          refine JQ_ret (.tuple #[U64 (0:UInt64), .agg (List.toArray (α := Value) ([.slice ao n c, I64 (2:Int)]))]) (res2 Try.results53 (RV_tmp rfl) (RV_cell rfl (Ld_agg Try.isAgg85 Try.sizeOf85 rfl (MemAt.ent 1 rfl (Seg.whole _))))) fun w1 hw1 => ?_
          exact ⟨_, [], rfl, ⟨rfl, rfl⟩, hw1.sub (by simp) (by simp)⟩
        ·
          have hp4 : ¬ ((s) ≠ (8:Int)) := of_decide_eq_false hb4
          refine JC_skip ?_
          refine JQ_then ?_
          refine JC_seq ?_
          refine JC_region ?_
          refine JL_val (.agg (List.toArray (α := Value) ([.slice ao n c, I64 ((e:Int))]))) (Ev_load rfl (Ld_agg Try.isAgg85 Try.sizeOf85 rfl (MemAt.ent 0 rfl (Seg.whole _)))) rfl ?_
          refine JL_val _ (Ev_move rfl) rfl ?_
          refine JL_step (Step_callP 57 [.agg (List.toArray (α := Value) ([.slice ao n c, I64 ((e:Int))])), I64 (s)] (.tuple #[.slice none 0 0, .agg (List.toArray (α := Value) ([.slice ao n c, I64 (2:Int)]))]) (Cl_func [.agg (List.toArray (α := Value) ([.slice ao n c, I64 ((e:Int))])), I64 (s)] Try.call57 rfl) (fun w1 hw1 => takeB_c ao n c e (s) w1 he (by exfalso; apply hs; unfold Szd; omega))) rfl ?_
          rintro v1 L1 ⟨rfl, rfl⟩
          show JL _ _ _ _ ((30, .tuple #[.slice none 0 0, .agg (List.toArray (α := Value) ([.slice ao n c, I64 (2:Int)]))]) :: _) [⟨nb1, [.slice ao n c, I64 ((e:Int))], 85, (0, 0)⟩, ⟨nb2, [.slice none 0 0, I64 (0:Int)], 85, (0, 0)⟩]
          refine JL_val _ (Ev_move rfl) rfl ?_
          refine JL_val _ (Ev_extract rfl rfl) rfl ?_
          refine JL_val _ (Ev_extract rfl rfl) rfl ?_
          refine JL_val _ (Ev_assign rfl) rfl ?_
          refine JL_step (Step_store 0 nb1 0 2 ([.slice ao n c, I64 ((e:Int))]) 85 (.agg (List.toArray (α := Value) ([.slice ao n c, I64 (2:Int)]))) ([.slice ao n c, I64 (2:Int)]) ([.slice ao n c, I64 (2:Int)]) rfl rfl rfl (by first | rfl | simp) Try.sizeOf85 rfl (by simp [Value.oneCell']) (Nat.le_of_ble_eq_true rfl) (lay_whole (by simp []))) rfl ?_
          rintro v1 L1 ⟨rfl, rfl⟩
          show JL _ _ _ _ _ [⟨nb1, [.slice ao n c, I64 (2:Int)], 85, (0, 0)⟩, ⟨nb2, [.slice none 0 0, I64 (0:Int)], 85, (0, 0)⟩]
          refine JL_nil ?_
          refine JQ_then ?_
          refine JC_seq ?_
          refine JC_draw 36 3 [(0, .slice none 0 0), (2, .agg (List.toArray (α := Value) ([.slice ao n c, I64 (2:Int)])))] Try.mixed rfl (by decide +kernel) ?_
          refine DP_one ⟨[], [0, 2], [], [0, 2], [1]⟩ 1 _ rfl rfl (by decide +kernel) rfl ⟨⟨_, rfl, Qok_val rfl (Ev_move rfl)⟩, ⟨_, rfl, Qok_val rfl (Ev_load rfl (Ld_agg Try.isAgg85 Try.sizeOf85 rfl (MemAt.ent 0 rfl (Seg.whole _))))⟩, trivial⟩ rfl (Cok_step rfl (Step_callP 84 [.slice none 0 0] (U64 (0:UInt64)) (Cl_func [.slice none 0 0] Try.call84 rfl) (fun w1 hw1 => valueNil_c w1))) ?_
          rintro v1 L1 ⟨rfl, rfl⟩
          refine ⟨[(3, U64 (0:UInt64))], ?_⟩
          show DP _ _ _ _ _ _ _ _ [⟨nb1, [.slice ao n c, I64 (2:Int)], 85, (0, 0)⟩, ⟨nb2, [.slice none 0 0, I64 (0:Int)], 85, (0, 0)⟩]
          refine DP_one ⟨[1], [0, 2, 3], [0], [2, 3], [4]⟩ 4 _ rfl rfl (by decide +kernel) rfl ⟨⟨_, rfl, Qok_val rfl (Ev_load rfl (Ld_agg Try.isAgg85 Try.sizeOf85 rfl (MemAt.ent 0 rfl (Seg.whole _))))⟩, ⟨_, rfl, Qok_val rfl (Ev_assign rfl)⟩, trivial⟩ rfl (Cok_step rfl (Step_store 1 nb2 0 2 ([.slice none 0 0, I64 (0:Int)]) 85 (.agg (List.toArray (α := Value) ([.slice ao n c, I64 (2:Int)]))) ([.slice ao n c, I64 (2:Int)]) ([.slice ao n c, I64 (2:Int)]) rfl rfl rfl (by first | rfl | simp) Try.sizeOf85 rfl (by simp [Value.oneCell']) (Nat.le_of_ble_eq_true rfl) (lay_whole (by simp [])))) ?_
          rintro v1 L1 ⟨rfl, rfl⟩
          refine ⟨[], ?_⟩
          show DP _ _ _ _ _ _ _ _ [⟨nb1, [.slice ao n c, I64 (2:Int)], 85, (0, 0)⟩, ⟨nb2, [.slice ao n c, I64 (2:Int)], 85, (0, 0)⟩]
          refine DP_end ⟨[1, 4], [0, 2, 3], [0, 2, 3], [], []⟩ rfl rfl (by decide +kernel) rfl trivial ?_
          refine K_sub (F' := [(4, U64 (0:UInt64)), (5, Ptr nb2 0)]) (Sub.cons (by kernel_rfl) (Sub.cons (by kernel_rfl) (Sub.nil))) ?_
          show JQ _ _ _ [(4, U64 (0:UInt64)), (5, Ptr nb2 0)] _
          refine JQ_then ?_
          refine JC_ret ?_
          refine JQ_ret (.tuple #[U64 (0:UInt64), .agg (List.toArray (α := Value) ([.slice ao n c, I64 (2:Int)]))]) (res2 Try.results53 (RV_tmp rfl) (RV_cell rfl (Ld_agg Try.isAgg85 Try.sizeOf85 rfl (MemAt.ent 1 rfl (Seg.whole _))))) fun w1 hw1 => ?_
          exact ⟨_, [], rfl, ⟨rfl, rfl⟩, hw1.sub (by simp) (by simp)⟩
      ·
        have hp3 : ¬ ((s) ≠ (4:Int)) := of_decide_eq_false hb3
        refine JL_gskip 10 21 true _ rfl rfl hb3 rfl ?_
        refine JL_gskip 10 21 true _ rfl rfl hb3 rfl ?_
        refine JL_val _ (Ev_pickF _ rfl hb3 rfl) rfl ?_
        refine JL_nil ?_
        refine JQ_then ?_
        refine JC_condF _ rfl rfl ?_
        refine JC_skip ?_
        refine JQ_then ?_
        refine JC_seq ?_
        refine JC_region ?_
        refine JL_val (.agg (List.toArray (α := Value) ([.slice ao n c, I64 ((e:Int))]))) (Ev_load rfl (Ld_agg Try.isAgg85 Try.sizeOf85 rfl (MemAt.ent 0 rfl (Seg.whole _)))) rfl ?_
        refine JL_val _ (Ev_move rfl) rfl ?_
        refine JL_step (Step_callP 57 [.agg (List.toArray (α := Value) ([.slice ao n c, I64 ((e:Int))])), I64 (s)] (.tuple #[.slice none 0 0, .agg (List.toArray (α := Value) ([.slice ao n c, I64 (2:Int)]))]) (Cl_func [.agg (List.toArray (α := Value) ([.slice ao n c, I64 ((e:Int))])), I64 (s)] Try.call57 rfl) (fun w1 hw1 => takeB_c ao n c e (s) w1 he (by exfalso; apply hs; unfold Szd; omega))) rfl ?_
        rintro v1 L1 ⟨rfl, rfl⟩
        show JL _ _ _ _ ((30, .tuple #[.slice none 0 0, .agg (List.toArray (α := Value) ([.slice ao n c, I64 (2:Int)]))]) :: _) [⟨nb1, [.slice ao n c, I64 ((e:Int))], 85, (0, 0)⟩, ⟨nb2, [.slice none 0 0, I64 (0:Int)], 85, (0, 0)⟩]
        refine JL_val _ (Ev_move rfl) rfl ?_
        refine JL_val _ (Ev_extract rfl rfl) rfl ?_
        refine JL_val _ (Ev_extract rfl rfl) rfl ?_
        refine JL_val _ (Ev_assign rfl) rfl ?_
        refine JL_step (Step_store 0 nb1 0 2 ([.slice ao n c, I64 ((e:Int))]) 85 (.agg (List.toArray (α := Value) ([.slice ao n c, I64 (2:Int)]))) ([.slice ao n c, I64 (2:Int)]) ([.slice ao n c, I64 (2:Int)]) rfl rfl rfl (by first | rfl | simp) Try.sizeOf85 rfl (by simp [Value.oneCell']) (Nat.le_of_ble_eq_true rfl) (lay_whole (by simp []))) rfl ?_
        rintro v1 L1 ⟨rfl, rfl⟩
        show JL _ _ _ _ _ [⟨nb1, [.slice ao n c, I64 (2:Int)], 85, (0, 0)⟩, ⟨nb2, [.slice none 0 0, I64 (0:Int)], 85, (0, 0)⟩]
        refine JL_nil ?_
        refine JQ_then ?_
        refine JC_seq ?_
        refine JC_draw 36 3 [(0, .slice none 0 0), (2, .agg (List.toArray (α := Value) ([.slice ao n c, I64 (2:Int)])))] Try.mixed rfl (by decide +kernel) ?_
        refine DP_one ⟨[], [0, 2], [], [0, 2], [1]⟩ 1 _ rfl rfl (by decide +kernel) rfl ⟨⟨_, rfl, Qok_val rfl (Ev_move rfl)⟩, ⟨_, rfl, Qok_val rfl (Ev_load rfl (Ld_agg Try.isAgg85 Try.sizeOf85 rfl (MemAt.ent 0 rfl (Seg.whole _))))⟩, trivial⟩ rfl (Cok_step rfl (Step_callP 84 [.slice none 0 0] (U64 (0:UInt64)) (Cl_func [.slice none 0 0] Try.call84 rfl) (fun w1 hw1 => valueNil_c w1))) ?_
        rintro v1 L1 ⟨rfl, rfl⟩
        refine ⟨[(3, U64 (0:UInt64))], ?_⟩
        show DP _ _ _ _ _ _ _ _ [⟨nb1, [.slice ao n c, I64 (2:Int)], 85, (0, 0)⟩, ⟨nb2, [.slice none 0 0, I64 (0:Int)], 85, (0, 0)⟩]
        refine DP_one ⟨[1], [0, 2, 3], [0], [2, 3], [4]⟩ 4 _ rfl rfl (by decide +kernel) rfl ⟨⟨_, rfl, Qok_val rfl (Ev_load rfl (Ld_agg Try.isAgg85 Try.sizeOf85 rfl (MemAt.ent 0 rfl (Seg.whole _))))⟩, ⟨_, rfl, Qok_val rfl (Ev_assign rfl)⟩, trivial⟩ rfl (Cok_step rfl (Step_store 1 nb2 0 2 ([.slice none 0 0, I64 (0:Int)]) 85 (.agg (List.toArray (α := Value) ([.slice ao n c, I64 (2:Int)]))) ([.slice ao n c, I64 (2:Int)]) ([.slice ao n c, I64 (2:Int)]) rfl rfl rfl (by first | rfl | simp) Try.sizeOf85 rfl (by simp [Value.oneCell']) (Nat.le_of_ble_eq_true rfl) (lay_whole (by simp [])))) ?_
        rintro v1 L1 ⟨rfl, rfl⟩
        refine ⟨[], ?_⟩
        show DP _ _ _ _ _ _ _ _ [⟨nb1, [.slice ao n c, I64 (2:Int)], 85, (0, 0)⟩, ⟨nb2, [.slice ao n c, I64 (2:Int)], 85, (0, 0)⟩]
        refine DP_end ⟨[1, 4], [0, 2, 3], [0, 2, 3], [], []⟩ rfl rfl (by decide +kernel) rfl trivial ?_
        refine K_sub (F' := [(4, U64 (0:UInt64)), (5, Ptr nb2 0)]) (Sub.cons (by kernel_rfl) (Sub.cons (by kernel_rfl) (Sub.nil))) ?_
        show JQ _ _ _ [(4, U64 (0:UInt64)), (5, Ptr nb2 0)] _
        refine JQ_then ?_
        refine JC_ret ?_
        refine JQ_ret (.tuple #[U64 (0:UInt64), .agg (List.toArray (α := Value) ([.slice ao n c, I64 (2:Int)]))]) (res2 Try.results53 (RV_tmp rfl) (RV_cell rfl (Ld_agg Try.isAgg85 Try.sizeOf85 rfl (MemAt.ent 1 rfl (Seg.whole _))))) fun w1 hw1 => ?_
        exact ⟨_, [], rfl, ⟨rfl, rfl⟩, hw1.sub (by simp) (by simp)⟩
    ·
      have hp2 : ¬ ((s) ≠ (2:Int)) := of_decide_eq_false hb2
      refine JL_gskip 6 17 true _ rfl rfl hb2 rfl ?_
      refine JL_gskip 6 17 true _ rfl rfl hb2 rfl ?_
      refine JL_val _ (Ev_pickF _ rfl hb2 rfl) rfl ?_
      refine JL_val _ (Ev_move rfl) rfl ?_
      refine JL_gskip 10 21 true _ rfl rfl rfl rfl ?_
      refine JL_gskip 10 21 true _ rfl rfl rfl rfl ?_
      refine JL_val _ (Ev_pickF _ rfl rfl rfl) rfl ?_
      refine JL_nil ?_
      refine JQ_then ?_
      refine JC_condF _ rfl rfl ?_
      refine JC_skip ?_
      refine JQ_then ?_
      refine JC_seq ?_
      refine JC_region ?_
      refine JL_val (.agg (List.toArray (α := Value) ([.slice ao n c, I64 ((e:Int))]))) (Ev_load rfl (Ld_agg Try.isAgg85 Try.sizeOf85 rfl (MemAt.ent 0 rfl (Seg.whole _)))) rfl ?_
      refine JL_val _ (Ev_move rfl) rfl ?_
      refine JL_step (Step_callP 57 [.agg (List.toArray (α := Value) ([.slice ao n c, I64 ((e:Int))])), I64 (s)] (.tuple #[.slice none 0 0, .agg (List.toArray (α := Value) ([.slice ao n c, I64 (2:Int)]))]) (Cl_func [.agg (List.toArray (α := Value) ([.slice ao n c, I64 ((e:Int))])), I64 (s)] Try.call57 rfl) (fun w1 hw1 => takeB_c ao n c e (s) w1 he (by exfalso; apply hs; unfold Szd; omega))) rfl ?_
      rintro v1 L1 ⟨rfl, rfl⟩
      show JL _ _ _ _ ((30, .tuple #[.slice none 0 0, .agg (List.toArray (α := Value) ([.slice ao n c, I64 (2:Int)]))]) :: _) [⟨nb1, [.slice ao n c, I64 ((e:Int))], 85, (0, 0)⟩, ⟨nb2, [.slice none 0 0, I64 (0:Int)], 85, (0, 0)⟩]
      refine JL_val _ (Ev_move rfl) rfl ?_
      refine JL_val _ (Ev_extract rfl rfl) rfl ?_
      refine JL_val _ (Ev_extract rfl rfl) rfl ?_
      refine JL_val _ (Ev_assign rfl) rfl ?_
      refine JL_step (Step_store 0 nb1 0 2 ([.slice ao n c, I64 ((e:Int))]) 85 (.agg (List.toArray (α := Value) ([.slice ao n c, I64 (2:Int)]))) ([.slice ao n c, I64 (2:Int)]) ([.slice ao n c, I64 (2:Int)]) rfl rfl rfl (by first | rfl | simp) Try.sizeOf85 rfl (by simp [Value.oneCell']) (Nat.le_of_ble_eq_true rfl) (lay_whole (by simp []))) rfl ?_
      rintro v1 L1 ⟨rfl, rfl⟩
      show JL _ _ _ _ _ [⟨nb1, [.slice ao n c, I64 (2:Int)], 85, (0, 0)⟩, ⟨nb2, [.slice none 0 0, I64 (0:Int)], 85, (0, 0)⟩]
      refine JL_nil ?_
      refine JQ_then ?_
      refine JC_seq ?_
      refine JC_draw 36 3 [(0, .slice none 0 0), (2, .agg (List.toArray (α := Value) ([.slice ao n c, I64 (2:Int)])))] Try.mixed rfl (by decide +kernel) ?_
      refine DP_one ⟨[], [0, 2], [], [0, 2], [1]⟩ 1 _ rfl rfl (by decide +kernel) rfl ⟨⟨_, rfl, Qok_val rfl (Ev_move rfl)⟩, ⟨_, rfl, Qok_val rfl (Ev_load rfl (Ld_agg Try.isAgg85 Try.sizeOf85 rfl (MemAt.ent 0 rfl (Seg.whole _))))⟩, trivial⟩ rfl (Cok_step rfl (Step_callP 84 [.slice none 0 0] (U64 (0:UInt64)) (Cl_func [.slice none 0 0] Try.call84 rfl) (fun w1 hw1 => valueNil_c w1))) ?_
      rintro v1 L1 ⟨rfl, rfl⟩
      refine ⟨[(3, U64 (0:UInt64))], ?_⟩
      show DP _ _ _ _ _ _ _ _ [⟨nb1, [.slice ao n c, I64 (2:Int)], 85, (0, 0)⟩, ⟨nb2, [.slice none 0 0, I64 (0:Int)], 85, (0, 0)⟩]
      refine DP_one ⟨[1], [0, 2, 3], [0], [2, 3], [4]⟩ 4 _ rfl rfl (by decide +kernel) rfl ⟨⟨_, rfl, Qok_val rfl (Ev_load rfl (Ld_agg Try.isAgg85 Try.sizeOf85 rfl (MemAt.ent 0 rfl (Seg.whole _))))⟩, ⟨_, rfl, Qok_val rfl (Ev_assign rfl)⟩, trivial⟩ rfl (Cok_step rfl (Step_store 1 nb2 0 2 ([.slice none 0 0, I64 (0:Int)]) 85 (.agg (List.toArray (α := Value) ([.slice ao n c, I64 (2:Int)]))) ([.slice ao n c, I64 (2:Int)]) ([.slice ao n c, I64 (2:Int)]) rfl rfl rfl (by first | rfl | simp) Try.sizeOf85 rfl (by simp [Value.oneCell']) (Nat.le_of_ble_eq_true rfl) (lay_whole (by simp [])))) ?_
      rintro v1 L1 ⟨rfl, rfl⟩
      refine ⟨[], ?_⟩
      show DP _ _ _ _ _ _ _ _ [⟨nb1, [.slice ao n c, I64 (2:Int)], 85, (0, 0)⟩, ⟨nb2, [.slice ao n c, I64 (2:Int)], 85, (0, 0)⟩]
      refine DP_end ⟨[1, 4], [0, 2, 3], [0, 2, 3], [], []⟩ rfl rfl (by decide +kernel) rfl trivial ?_
      refine K_sub (F' := [(4, U64 (0:UInt64)), (5, Ptr nb2 0)]) (Sub.cons (by kernel_rfl) (Sub.cons (by kernel_rfl) (Sub.nil))) ?_
      show JQ _ _ _ [(4, U64 (0:UInt64)), (5, Ptr nb2 0)] _
      refine JQ_then ?_
      refine JC_ret ?_
      refine JQ_ret (.tuple #[U64 (0:UInt64), .agg (List.toArray (α := Value) ([.slice ao n c, I64 (2:Int)]))]) (res2 Try.results53 (RV_tmp rfl) (RV_cell rfl (Ld_agg Try.isAgg85 Try.sizeOf85 rfl (MemAt.ent 1 rfl (Seg.whole _))))) fun w1 hw1 => ?_
      exact ⟨_, [], rfl, ⟨rfl, rfl⟩, hw1.sub (by simp) (by simp)⟩
  ·
    have hp1 : ¬ ((s) ≠ (1:Int)) := of_decide_eq_false hb1
    refine JL_gskip 2 13 true _ rfl rfl hb1 rfl ?_
    refine JL_gskip 2 13 true _ rfl rfl hb1 rfl ?_
    refine JL_val _ (Ev_pickF _ rfl hb1 rfl) rfl ?_
    refine JL_val _ (Ev_move rfl) rfl ?_
    refine JL_gskip 6 17 true _ rfl rfl rfl rfl ?_
    refine JL_gskip 6 17 true _ rfl rfl rfl rfl ?_
    refine JL_val _ (Ev_pickF _ rfl rfl rfl) rfl ?_
    refine JL_val _ (Ev_move rfl) rfl ?_
    refine JL_gskip 10 21 true _ rfl rfl rfl rfl ?_
    refine JL_gskip 10 21 true _ rfl rfl rfl rfl ?_
    refine JL_val _ (Ev_pickF _ rfl rfl rfl) rfl ?_
    refine JL_nil ?_
    refine JQ_then ?_
    refine JC_condF _ rfl rfl ?_
    refine JC_skip ?_
    refine JQ_then ?_
    refine JC_seq ?_
    refine JC_region ?_
    refine JL_val (.agg (List.toArray (α := Value) ([.slice ao n c, I64 ((e:Int))]))) (Ev_load rfl (Ld_agg Try.isAgg85 Try.sizeOf85 rfl (MemAt.ent 0 rfl (Seg.whole _)))) rfl ?_
    refine JL_val _ (Ev_move rfl) rfl ?_
    refine JL_step (Step_callP 57 [.agg (List.toArray (α := Value) ([.slice ao n c, I64 ((e:Int))])), I64 (s)] (.tuple #[.slice none 0 0, .agg (List.toArray (α := Value) ([.slice ao n c, I64 (2:Int)]))]) (Cl_func [.agg (List.toArray (α := Value) ([.slice ao n c, I64 ((e:Int))])), I64 (s)] Try.call57 rfl) (fun w1 hw1 => takeB_c ao n c e (s) w1 he (by exfalso; apply hs; unfold Szd; omega))) rfl ?_
    rintro v1 L1 ⟨rfl, rfl⟩
    show JL _ _ _ _ ((30, .tuple #[.slice none 0 0, .agg (List.toArray (α := Value) ([.slice ao n c, I64 (2:Int)]))]) :: _) [⟨nb1, [.slice ao n c, I64 ((e:Int))], 85, (0, 0)⟩, ⟨nb2, [.slice none 0 0, I64 (0:Int)], 85, (0, 0)⟩]
    refine JL_val _ (Ev_move rfl) rfl ?_
    refine JL_val _ (Ev_extract rfl rfl) rfl ?_
    refine JL_val _ (Ev_extract rfl rfl) rfl ?_
    refine JL_val _ (Ev_assign rfl) rfl ?_
    refine JL_step (Step_store 0 nb1 0 2 ([.slice ao n c, I64 ((e:Int))]) 85 (.agg (List.toArray (α := Value) ([.slice ao n c, I64 (2:Int)]))) ([.slice ao n c, I64 (2:Int)]) ([.slice ao n c, I64 (2:Int)]) rfl rfl rfl (by first | rfl | simp) Try.sizeOf85 rfl (by simp [Value.oneCell']) (Nat.le_of_ble_eq_true rfl) (lay_whole (by simp []))) rfl ?_
    rintro v1 L1 ⟨rfl, rfl⟩
    show JL _ _ _ _ _ [⟨nb1, [.slice ao n c, I64 (2:Int)], 85, (0, 0)⟩, ⟨nb2, [.slice none 0 0, I64 (0:Int)], 85, (0, 0)⟩]
    refine JL_nil ?_
    refine JQ_then ?_
    refine JC_seq ?_
    refine JC_draw 36 3 [(0, .slice none 0 0), (2, .agg (List.toArray (α := Value) ([.slice ao n c, I64 (2:Int)])))] Try.mixed rfl (by decide +kernel) ?_
    refine DP_one ⟨[], [0, 2], [], [0, 2], [1]⟩ 1 _ rfl rfl (by decide +kernel) rfl ⟨⟨_, rfl, Qok_val rfl (Ev_move rfl)⟩, ⟨_, rfl, Qok_val rfl (Ev_load rfl (Ld_agg Try.isAgg85 Try.sizeOf85 rfl (MemAt.ent 0 rfl (Seg.whole _))))⟩, trivial⟩ rfl (Cok_step rfl (Step_callP 84 [.slice none 0 0] (U64 (0:UInt64)) (Cl_func [.slice none 0 0] Try.call84 rfl) (fun w1 hw1 => valueNil_c w1))) ?_
    rintro v1 L1 ⟨rfl, rfl⟩
    refine ⟨[(3, U64 (0:UInt64))], ?_⟩
    show DP _ _ _ _ _ _ _ _ [⟨nb1, [.slice ao n c, I64 (2:Int)], 85, (0, 0)⟩, ⟨nb2, [.slice none 0 0, I64 (0:Int)], 85, (0, 0)⟩]
    refine DP_one ⟨[1], [0, 2, 3], [0], [2, 3], [4]⟩ 4 _ rfl rfl (by decide +kernel) rfl ⟨⟨_, rfl, Qok_val rfl (Ev_load rfl (Ld_agg Try.isAgg85 Try.sizeOf85 rfl (MemAt.ent 0 rfl (Seg.whole _))))⟩, ⟨_, rfl, Qok_val rfl (Ev_assign rfl)⟩, trivial⟩ rfl (Cok_step rfl (Step_store 1 nb2 0 2 ([.slice none 0 0, I64 (0:Int)]) 85 (.agg (List.toArray (α := Value) ([.slice ao n c, I64 (2:Int)]))) ([.slice ao n c, I64 (2:Int)]) ([.slice ao n c, I64 (2:Int)]) rfl rfl rfl (by first | rfl | simp) Try.sizeOf85 rfl (by simp [Value.oneCell']) (Nat.le_of_ble_eq_true rfl) (lay_whole (by simp [])))) ?_
    rintro v1 L1 ⟨rfl, rfl⟩
    refine ⟨[], ?_⟩
    show DP _ _ _ _ _ _ _ _ [⟨nb1, [.slice ao n c, I64 (2:Int)], 85, (0, 0)⟩, ⟨nb2, [.slice ao n c, I64 (2:Int)], 85, (0, 0)⟩]
    refine DP_end ⟨[1, 4], [0, 2, 3], [0, 2, 3], [], []⟩ rfl rfl (by decide +kernel) rfl trivial ?_
    refine K_sub (F' := [(4, U64 (0:UInt64)), (5, Ptr nb2 0)]) (Sub.cons (by kernel_rfl) (Sub.cons (by kernel_rfl) (Sub.nil))) ?_
    show JQ _ _ _ [(4, U64 (0:UInt64)), (5, Ptr nb2 0)] _
    refine JQ_then ?_
    refine JC_ret ?_
    refine JQ_ret (.tuple #[U64 (0:UInt64), .agg (List.toArray (α := Value) ([.slice ao n c, I64 (2:Int)]))]) (res2 Try.results53 (RV_tmp rfl) (RV_cell rfl (Ld_agg Try.isAgg85 Try.sizeOf85 rfl (MemAt.ent 1 rfl (Seg.whole _))))) fun w1 hw1 => ?_
    exact ⟨_, [], rfl, ⟨rfl, rfl⟩, hw1.sub (by simp) (by simp)⟩

theorem readS_c (ao : Option Addr) (n c e : Nat) (s : Int) (w : World) (he : e = 0) (hs : Szd s) (hl : (n:Int) < s) : Calls Try.prog 53 #[.agg (List.toArray (α := Value) ([.slice ao n c, I64 ((e:Int))])), I64 (s)] w (Post w [] (fun v L => v = .tuple #[U64 0, .agg (List.toArray (α := Value) [.slice ao n c, I64 (2)])] ∧ L = [])) := by
  refine enter (P := Try.prog) (f := 53) (fn := Try.f53) w [] 36 [] [.agg (List.toArray (α := Value) ([.slice ao n c, I64 ((e:Int))])), I64 (s)] Try.func53 rfl rfl (by simp) (Hp.start (by simp) (by simp) (by simp)) ?_
  show JC _ _ _ [(0, .agg (List.toArray (α := Value) ([.slice ao n c, I64 ((e:Int))]))), (1, I64 (s))] _
  refine JC_seq ?_
  refine JC_region ?_
  refine JL_step (Step_box (.agg (List.toArray (α := Value) ([.slice ao n c, I64 ((e:Int))]))) ([.slice ao n c, I64 ((e:Int))]) rfl (by first | rfl | simp)) rfl ?_
  rintro v1 L1 ⟨nb1, hnb1, rfl, rfl⟩
  show JL _ _ _ _ ((2, Ptr nb1 0) :: _) [⟨nb1, [.slice ao n c, I64 ((e:Int))], 85, (0, 0)⟩]
  refine JL_val _ (Ev_assign rfl) rfl ?_
  refine JL_step (Step_alloc _ ([.slice none 0 0, I64 (0:Int)]) Try.zeroValue85 (by kernel_rfl)) rfl ?_
  rintro v1 L1 ⟨nb2, hnb2, rfl, rfl⟩
  show JL _ _ _ _ ((5, Ptr nb2 0) :: _) [⟨nb1, [.slice ao n c, I64 ((e:Int))], 85, (0, 0)⟩, ⟨nb2, [.slice none 0 0, I64 (0:Int)], 85, (0, 0)⟩]
  refine JL_nil ?_
  refine JQ_then ?_
  refine JC_seq ?_
  refine JC_seq ?_
  refine JC_region ?_
  refine JL_val (Ptr nb1 1) (Ev_fieldAddr 1 3 1 Try.underlying85 rfl Try.sizeOf3 rfl rfl) rfl ?_
  refine JL_val (I64 ((e:Int))) (Ev_load rfl (Ld_one Try.isAgg3 (MemAt.ent 0 rfl (Seg.tail (Seg.head))))) rfl ?_
  refine JL_val (.bool (decide (((e:Int)) ≠ (0:Int)))) (Ev_bini rfl rfl fun _ => bin_neq_i _ _) rfl ?_
  refine JL_nil ?_
  refine JQ_then ?_
  refine JC_condF _ rfl (decide_eq_false (by omega)) ?_
  refine JC_skip ?_
  refine JQ_then ?_
  refine JC_seq ?_
  refine JC_seq ?_
  refine JC_region ?_
  refine JL_val _ (Ev_move rfl) rfl ?_
  refine JL_val (.bool (decide ((s) ≠ (1:Int)))) (Ev_bini rfl rfl fun _ => bin_neq_i _ _) rfl ?_
  refine JL_val _ (Ev_move rfl) rfl ?_
  rcases Bool.eq_false_or_eq_true (decide ((s) ≠ (1:Int))) with hb1 | hb1
  ·
    have hp1 : (s) ≠ (1:Int) := of_decide_eq_true hb1
    refine JL_gval 2 13 true _ _ rfl rfl hb1 (Ev_move rfl) rfl ?_
    refine JL_gval 2 13 true _ (.bool (decide ((s) ≠ (2:Int)))) rfl rfl hb1 (Ev_bini rfl rfl fun _ => bin_neq_i _ _) rfl ?_
    refine JL_val _ (Ev_pickT _ rfl hb1 rfl) rfl ?_
    refine JL_val _ (Ev_move rfl) rfl ?_
    rcases Bool.eq_false_or_eq_true (decide ((s) ≠ (2:Int))) with hb2 | hb2
    ·
      have hp2 : (s) ≠ (2:Int) := of_decide_eq_true hb2
      refine JL_gval 6 17 true _ _ rfl rfl hb2 (Ev_move rfl) rfl ?_
      refine JL_gval 6 17 true _ (.bool (decide ((s) ≠ (4:Int)))) rfl rfl hb2 (Ev_bini rfl rfl fun _ => bin_neq_i _ _) rfl ?_
      refine JL_val _ (Ev_pickT _ rfl hb2 rfl) rfl ?_
      refine JL_val _ (Ev_move rfl) rfl ?_
      rcases Bool.eq_false_or_eq_true (decide ((s) ≠ (4:Int))) with hb3 | hb3
      ·
        have hp3 : (s) ≠ (4:Int) := of_decide_eq_true hb3
        refine JL_gval 10 21 true _ _ rfl rfl hb3 (Ev_move rfl) rfl ?_
        refine JL_gval 10 21 true _ (.bool (decide ((s) ≠ (8:Int)))) rfl rfl hb3 (Ev_bini rfl rfl fun _ => bin_neq_i _ _) rfl ?_
        refine JL_val _ (Ev_pickT _ rfl hb3 rfl) rfl ?_
        refine JL_nil ?_
        refine JQ_then ?_
        refine JC_cond (decide ((s) ≠ (8:Int))) rfl (fun hb4 => ?_) (fun hb4 => ?_)
        ·
          have hp4 : (s) ≠ (8:Int) := of_decide_eq_true hb4
          refine JC_seq ?_
          refine JC_region ?_
          refine JL_val (Ptr nb1 1) (Ev_fieldAddr 1 3 1 Try.underlying85 rfl Try.sizeOf3 rfl rfl) rfl ?_
          refine JL_step (Step_store 0 nb1 1 1 ([.slice ao n c, I64 ((e:Int))]) 85 (I64 (2:Int)) ([I64 (2:Int)]) ([.slice ao n c, I64 (2:Int)]) rfl rfl rfl rfl Try.sizeOf3 rfl (by simp [Value.oneCell']) (Nat.le_of_ble_eq_true rfl) (rfl)) rfl ?_
          rintro v1 L1 ⟨rfl, rfl⟩
          show JL _ _ _ _ _ [⟨nb1, [.slice ao n c, I64 (2:Int)], 85, (0, 0)⟩, ⟨nb2, [.slice none 0 0, I64 (0:Int)], 85, (0, 0)⟩]
          refine JL_nil ?_
          refine JQ_then ?_
          refine JC_seq ?_
          refine JC_draw 36 2 [(0, .agg (List.toArray (α := Value) ([.slice ao n c, I64 (2:Int)]))), (1, U64 (0:UInt64))] Try.mixed rfl (by decide +kernel) ?_
          refine DP_one ⟨[], [0, 1], [], [0, 1], [2]⟩ 2 _ rfl rfl (by decide +kernel) rfl ⟨⟨_, rfl, Qok_val rfl (Ev_load rfl (Ld_agg Try.isAgg85 Try.sizeOf85 rfl (MemAt.ent 0 rfl (Seg.whole _))))⟩, ⟨_, rfl, Qok_val rfl (Ev_assign rfl)⟩, trivial⟩ rfl (Cok_step rfl (Step_store 1 nb2 0 2 ([.slice none 0 0, I64 (0:Int)]) 85 (.agg (List.toArray (α := Value) ([.slice ao n c, I64 (2:Int)]))) ([.slice ao n c, I64 (2:Int)]) ([.slice ao n c, I64 (2:Int)]) rfl rfl rfl (by first | rfl | simp) Try.sizeOf85 rfl (by simp [Value.oneCell']) (Nat.le_of_ble_eq_true rfl) (lay_whole (by simp [])))) ?_
          rintro v1 L1 ⟨rfl, rfl⟩
          refine ⟨[], ?_⟩
          show DP _ _ _ _ _ _ _ _ [⟨nb1, [.slice ao n c, I64 (2:Int)], 85, (0, 0)⟩, ⟨nb2, [.slice ao n c, I64 (2:Int)], 85, (0, 0)⟩]
          refine DP_end ⟨[2], [0, 1], [0, 1], [], []⟩ rfl rfl (by decide +kernel) rfl trivial ?_
          refine K_sub (F' := [(4, U64 (0:UInt64)), (1, I64 (s)), (2, Ptr nb1 0), (5, Ptr nb2 0)]) (Sub.cons (by kernel_rfl) (Sub.cons (by kernel_rfl) (Sub.cons (by kernel_rfl) (Sub.cons (by kernel_rfl) (Sub.nil))))) ?_
          show JQ _ _ _ [(4, U64 (0:UInt64)), (1, I64 (s)), (2, Ptr nb1 0), (5, Ptr nb2 0)] _
          refine JQ_then ?_
          refine JC_ret ?_
          refine JQ_then_ret ?_
          refine JQ_ret (.tuple #[U64 (0:UInt64), .agg (List.toArray (α := Value) ([.slice ao n c, I64 (2:Int)]))]) (res2 Try.results53 (RV_tmp rfl) (RV_cell rfl (Ld_agg Try.isAgg85 Try.sizeOf85 rfl (MemAt.ent 1 rfl (Seg.whole _))))) fun w1 hw1 => ?_
          exact ⟨_, [], rfl, ⟨rfl, rfl⟩, hw1.sub (by simp) (by simp)⟩
        ·
          have hp4 : ¬ ((s) ≠ (8:Int)) := of_decide_eq_false hb4
          refine JC_skip ?_
          refine JQ_then ?_
          refine JC_seq ?_
          refine JC_region ?_
          refine JL_val (.agg (List.toArray (α := Value) ([.slice ao n c, I64 ((e:Int))]))) (Ev_load rfl (Ld_agg Try.isAgg85 Try.sizeOf85 rfl (MemAt.ent 0 rfl (Seg.whole _)))) rfl ?_
          refine JL_val _ (Ev_move rfl) rfl ?_
          refine JL_step (Step_callP 57 [.agg (List.toArray (α := Value) ([.slice ao n c, I64 ((e:Int))])), I64 (s)] (.tuple #[.slice none 0 0, .agg (List.toArray (α := Value) ([.slice ao n c, I64 (2:Int)]))]) (Cl_func [.agg (List.toArray (α := Value) ([.slice ao n c, I64 ((e:Int))])), I64 (s)] Try.call57 rfl) (fun w1 hw1 => takeB_c ao n c e (s) w1 he (.inr hl))) rfl ?_
          rintro v1 L1 ⟨rfl, rfl⟩
          show JL _ _ _ _ ((30, .tuple #[.slice none 0 0, .agg (List.toArray (α := Value) ([.slice ao n c, I64 (2:Int)]))]) :: _) [⟨nb1, [.slice ao n c, I64 ((e:Int))], 85, (0, 0)⟩, ⟨nb2, [.slice none 0 0, I64 (0:Int)], 85, (0, 0)⟩]
          refine JL_val _ (Ev_move rfl) rfl ?_
          refine JL_val _ (Ev_extract rfl rfl) rfl ?_
          refine JL_val _ (Ev_extract rfl rfl) rfl ?_
          refine JL_val _ (Ev_assign rfl) rfl ?_
          refine JL_step (Step_store 0 nb1 0 2 ([.slice ao n c, I64 ((e:Int))]) 85 (.agg (List.toArray (α := Value) ([.slice ao n c, I64 (2:Int)]))) ([.slice ao n c, I64 (2:Int)]) ([.slice ao n c, I64 (2:Int)]) rfl rfl rfl (by first | rfl | simp) Try.sizeOf85 rfl (by simp [Value.oneCell']) (Nat.le_of_ble_eq_true rfl) (lay_whole (by simp []))) rfl ?_
          rintro v1 L1 ⟨rfl, rfl⟩
          show JL _ _ _ _ _ [⟨nb1, [.slice ao n c, I64 (2:Int)], 85, (0, 0)⟩, ⟨nb2, [.slice none 0 0, I64 (0:Int)], 85, (0, 0)⟩]
          refine JL_nil ?_
          refine JQ_then ?_
          refine JC_seq ?_
          refine JC_draw 36 3 [(0, .slice none 0 0), (2, .agg (List.toArray (α := Value) ([.slice ao n c, I64 (2:Int)])))] Try.mixed rfl (by decide +kernel) ?_
          refine DP_one ⟨[], [0, 2], [], [0, 2], [1]⟩ 1 _ rfl rfl (by decide +kernel) rfl ⟨⟨_, rfl, Qok_val rfl (Ev_move rfl)⟩, ⟨_, rfl, Qok_val rfl (Ev_load rfl (Ld_agg Try.isAgg85 Try.sizeOf85 rfl (MemAt.ent 0 rfl (Seg.whole _))))⟩, trivial⟩ rfl (Cok_step rfl (Step_callP 84 [.slice none 0 0] (U64 (0:UInt64)) (Cl_func [.slice none 0 0] Try.call84 rfl) (fun w1 hw1 => valueNil_c w1))) ?_
          rintro v1 L1 ⟨rfl, rfl⟩
          refine ⟨[(3, U64 (0:UInt64))], ?_⟩
          show DP _ _ _ _ _ _ _ _ [⟨nb1, [.slice ao n c, I64 (2:Int)], 85, (0, 0)⟩, ⟨nb2, [.slice none 0 0, I64 (0:Int)], 85, (0, 0)⟩]
          refine DP_one ⟨[1], [0, 2, 3], [0], [2, 3], [4]⟩ 4 _ rfl rfl (by decide +kernel) rfl ⟨⟨_, rfl, Qok_val rfl (Ev_load rfl (Ld_agg Try.isAgg85 Try.sizeOf85 rfl (MemAt.ent 0 rfl (Seg.whole _))))⟩, ⟨_, rfl, Qok_val rfl (Ev_assign rfl)⟩, trivial⟩ rfl (Cok_step rfl (Step_store 1 nb2 0 2 ([.slice none 0 0, I64 (0:Int)]) 85 (.agg (List.toArray (α := Value) ([.slice ao n c, I64 (2:Int)]))) ([.slice ao n c, I64 (2:Int)]) ([.slice ao n c, I64 (2:Int)]) rfl rfl rfl (by first | rfl | simp) Try.sizeOf85 rfl (by simp [Value.oneCell']) (Nat.le_of_ble_eq_true rfl) (lay_whole (by simp [])))) ?_
          rintro v1 L1 ⟨rfl, rfl⟩
          refine ⟨[], ?_⟩
          show DP _ _ _ _ _ _ _ _ [⟨nb1, [.slice ao n c, I64 (2:Int)], 85, (0, 0)⟩, ⟨nb2, [.slice ao n c, I64 (2:Int)], 85, (0, 0)⟩]
          refine DP_end ⟨[1, 4], [0, 2, 3], [0, 2, 3], [], []⟩ rfl rfl (by decide +kernel) rfl trivial ?_
          refine K_sub (F' := [(4, U64 (0:UInt64)), (5, Ptr nb2 0)]) (Sub.cons (by kernel_rfl) (Sub.cons (by kernel_rfl) (Sub.nil))) ?_
          show JQ _ _ _ [(4, U64 (0:UInt64)), (5, Ptr nb2 0)] _
          refine JQ_then ?_
          refine JC_ret ?_
          refine JQ_ret (.tuple #[U64 (0:UInt64), .agg (List.toArray (α := Value) ([.slice ao n c, I64 (2:Int)]))]) (res2 Try.results53 (RV_tmp rfl) (RV_cell rfl (Ld_agg Try.isAgg85 Try.sizeOf85 rfl (MemAt.ent 1 rfl (Seg.whole _))))) fun w1 hw1 => ?_
          exact ⟨_, [], rfl, ⟨rfl, rfl⟩, hw1.sub (by simp) (by simp)⟩
      ·
        have hp3 : ¬ ((s) ≠ (4:Int)) := of_decide_eq_false hb3
        refine JL_gskip 10 21 true _ rfl rfl hb3 rfl ?_
        refine JL_gskip 10 21 true _ rfl rfl hb3 rfl ?_
        refine JL_val _ (Ev_pickF _ rfl hb3 rfl) rfl ?_
        refine JL_nil ?_
        refine JQ_then ?_
        refine JC_condF _ rfl rfl ?_
        refine JC_skip ?_
        refine JQ_then ?_
        refine JC_seq ?_
        refine JC_region ?_
        refine JL_val (.agg (List.toArray (α := Value) ([.slice ao n c, I64 ((e:Int))]))) (Ev_load rfl (Ld_agg Try.isAgg85 Try.sizeOf85 rfl (MemAt.ent 0 rfl (Seg.whole _)))) rfl ?_
        refine JL_val _ (Ev_move rfl) rfl ?_
        refine JL_step (Step_callP 57 [.agg (List.toArray (α := Value) ([.slice ao n c, I64 ((e:Int))])), I64 (s)] (.tuple #[.slice none 0 0, .agg (List.toArray (α := Value) ([.slice ao n c, I64 (2:Int)]))]) (Cl_func [.agg (List.toArray (α := Value) ([.slice ao n c, I64 ((e:Int))])), I64 (s)] Try.call57 rfl) (fun w1 hw1 => takeB_c ao n c e (s) w1 he (.inr hl))) rfl ?_
        rintro v1 L1 ⟨rfl, rfl⟩
        show JL _ _ _ _ ((30, .tuple #[.slice none 0 0, .agg (List.toArray (α := Value) ([.slice ao n c, I64 (2:Int)]))]) :: _) [⟨nb1, [.slice ao n c, I64 ((e:Int))], 85, (0, 0)⟩, ⟨nb2, [.slice none 0 0, I64 (0:Int)], 85, (0, 0)⟩]
        refine JL_val _ (Ev_move rfl) rfl ?_
        refine JL_val _ (Ev_extract rfl rfl) rfl ?_
        refine JL_val _ (Ev_extract rfl rfl) rfl ?_
        refine JL_val _ (Ev_assign rfl) rfl ?_
        refine JL_step (Step_store 0 nb1 0 2 ([.slice ao n c, I64 ((e:Int))]) 85 (.agg (List.toArray (α := Value) ([.slice ao n c, I64 (2:Int)]))) ([.slice ao n c, I64 (2:Int)]) ([.slice ao n c, I64 (2:Int)]) rfl rfl rfl (by first | rfl | simp) Try.sizeOf85 rfl (by simp [Value.oneCell']) (Nat.le_of_ble_eq_true rfl) (lay_whole (by simp []))) rfl ?_
        rintro v1 L1 ⟨rfl, rfl⟩
        show JL _ _ _ _ _ [⟨nb1, [.slice ao n c, I64 (2:Int)], 85, (0, 0)⟩, ⟨nb2, [.slice none 0 0, I64 (0:Int)], 85, (0, 0)⟩]
        refine JL_nil ?_
        refine JQ_then ?_
        refine JC_seq ?_
        refine JC_draw 36 3 [(0, .slice none 0 0), (2, .agg (List.toArray (α := Value) ([.slice ao n c, I64 (2:Int)])))] Try.mixed rfl (by decide +kernel) ?_
        refine DP_one ⟨[], [0, 2], [], [0, 2], [1]⟩ 1 _ rfl rfl (by decide +kernel) rfl ⟨⟨_, rfl, Qok_val rfl (Ev_move rfl)⟩, ⟨_, rfl, Qok_val rfl (Ev_load rfl (Ld_agg Try.isAgg85 Try.sizeOf85 rfl (MemAt.ent 0 rfl (Seg.whole _))))⟩, trivial⟩ rfl (Cok_step rfl (Step_callP 84 [.slice none 0 0] (U64 (0:UInt64)) (Cl_func [.slice none 0 0] Try.call84 rfl) (fun w1 hw1 => valueNil_c w1))) ?_
        rintro v1 L1 ⟨rfl, rfl⟩
        refine ⟨[(3, U64 (0:UInt64))], ?_⟩
        show DP _ _ _ _ _ _ _ _ [⟨nb1, [.slice ao n c, I64 (2:Int)], 85, (0, 0)⟩, ⟨nb2, [.slice none 0 0, I64 (0:Int)], 85, (0, 0)⟩]
        refine DP_one ⟨[1], [0, 2, 3], [0], [2, 3], [4]⟩ 4 _ rfl rfl (by decide +kernel) rfl ⟨⟨_, rfl, Qok_val rfl (Ev_load rfl (Ld_agg Try.isAgg85 Try.sizeOf85 rfl (MemAt.ent 0 rfl (Seg.whole _))))⟩, ⟨_, rfl, Qok_val rfl (Ev_assign rfl)⟩, trivial⟩ rfl (Cok_step rfl (Step_store 1 nb2 0 2 ([.slice none 0 0, I64 (0:Int)]) 85 (.agg (List.toArray (α := Value) ([.slice ao n c, I64 (2:Int)]))) ([.slice ao n c, I64 (2:Int)]) ([.slice ao n c, I64 (2:Int)]) rfl rfl rfl (by first | rfl | simp) Try.sizeOf85 rfl (by simp [Value.oneCell']) (Nat.le_of_ble_eq_true rfl) (lay_whole (by simp [])))) ?_
        rintro v1 L1 ⟨rfl, rfl⟩
        refine ⟨[], ?_⟩
        show DP _ _ _ _ _ _ _ _ [⟨nb1, [.slice ao n c, I64 (2:Int)], 85, (0, 0)⟩, ⟨nb2, [.slice ao n c, I64 (2:Int)], 85, (0, 0)⟩]
        refine DP_end ⟨[1, 4], [0, 2, 3], [0, 2, 3], [], []⟩ rfl rfl (by decide +kernel) rfl trivial ?_
        refine K_sub (F' := [(4, U64 (0:UInt64)), (5, Ptr nb2 0)]) (Sub.cons (by kernel_rfl) (Sub.cons (by kernel_rfl) (Sub.nil))) ?_
        show JQ _ _ _ [(4, U64 (0:UInt64)), (5, Ptr nb2 0)] _
        refine JQ_then ?_
        refine JC_ret ?_
        refine JQ_ret (.tuple #[U64 (0:UInt64), .agg (List.toArray (α := Value) ([.slice ao n c, I64 (2:Int)]))]) (res2 Try.results53 (RV_tmp rfl) (RV_cell rfl (Ld_agg Try.isAgg85 Try.sizeOf85 rfl (MemAt.ent 1 rfl (Seg.whole _))))) fun w1 hw1 => ?_
        exact ⟨_, [], rfl, ⟨rfl, rfl⟩, hw1.sub (by simp) (by simp)⟩
    ·
      have hp2 : ¬ ((s) ≠ (2:Int)) := of_decide_eq_false hb2
      refine JL_gskip 6 17 true _ rfl rfl hb2 rfl ?_
      refine JL_gskip 6 17 true _ rfl rfl hb2 rfl ?_
      refine JL_val _ (Ev_pickF _ rfl hb2 rfl) rfl ?_
      refine JL_val _ (Ev_move rfl) rfl ?_
      refine JL_gskip 10 21 true _ rfl rfl rfl rfl ?_
      refine JL_gskip 10 21 true _ rfl rfl rfl rfl ?_
      refine JL_val _ (Ev_pickF _ rfl rfl rfl) rfl ?_
      refine JL_nil ?_
      refine JQ_then ?_
      refine JC_condF _ rfl rfl ?_
      refine JC_skip ?_
      refine JQ_then ?_
      refine JC_seq ?_
      refine JC_region ?_
      refine JL_val (.agg (List.toArray (α := Value) ([.slice ao n c, I64 ((e:Int))]))) (Ev_load rfl (Ld_agg Try.isAgg85 Try.sizeOf85 rfl (MemAt.ent 0 rfl (Seg.whole _)))) rfl ?_
      refine JL_val _ (Ev_move rfl) rfl ?_
      refine JL_step (Step_callP 57 [.agg (List.toArray (α := Value) ([.slice ao n c, I64 ((e:Int))])), I64 (s)] (.tuple #[.slice none 0 0, .agg (List.toArray (α := Value) ([.slice ao n c, I64 (2:Int)]))]) (Cl_func [.agg (List.toArray (α := Value) ([.slice ao n c, I64 ((e:Int))])), I64 (s)] Try.call57 rfl) (fun w1 hw1 => takeB_c ao n c e (s) w1 he (.inr hl))) rfl ?_
      rintro v1 L1 ⟨rfl, rfl⟩
      show JL _ _ _ _ ((30, .tuple #[.slice none 0 0, .agg (List.toArray (α := Value) ([.slice ao n c, I64 (2:Int)]))]) :: _) [⟨nb1, [.slice ao n c, I64 ((e:Int))], 85, (0, 0)⟩, ⟨nb2, [.slice none 0 0, I64 (0:Int)], 85, (0, 0)⟩]
      refine JL_val _ (Ev_move rfl) rfl ?_
      refine JL_val _ (Ev_extract rfl rfl) rfl ?_
      refine JL_val _ (Ev_extract rfl rfl) rfl ?_
      refine JL_val _ (Ev_assign rfl) rfl ?_
      refine JL_step (Step_store 0 nb1 0 2 ([.slice ao n c, I64 ((e:Int))]) 85 (.agg (List.toArray (α := Value) ([.slice ao n c, I64 (2:Int)]))) ([.slice ao n c, I64 (2:Int)]) ([.slice ao n c, I64 (2:Int)]) rfl rfl rfl (by first | rfl | simp) Try.sizeOf85 rfl (by simp [Value.oneCell']) (Nat.le_of_ble_eq_true rfl) (lay_whole (by simp []))) rfl ?_
      rintro v1 L1 ⟨rfl, rfl⟩
      show JL _ _ _ _ _ [⟨nb1, [.slice ao n c, I64 (2:Int)], 85, (0, 0)⟩, ⟨nb2, [.slice none 0 0, I64 (0:Int)], 85, (0, 0)⟩]
      refine JL_nil ?_
      refine JQ_then ?_
      refine JC_seq ?_
      refine JC_draw 36 3 [(0, .slice none 0 0), (2, .agg (List.toArray (α := Value) ([.slice ao n c, I64 (2:Int)])))] Try.mixed rfl (by decide +kernel) ?_
      refine DP_one ⟨[], [0, 2], [], [0, 2], [1]⟩ 1 _ rfl rfl (by decide +kernel) rfl ⟨⟨_, rfl, Qok_val rfl (Ev_move rfl)⟩, ⟨_, rfl, Qok_val rfl (Ev_load rfl (Ld_agg Try.isAgg85 Try.sizeOf85 rfl (MemAt.ent 0 rfl (Seg.whole _))))⟩, trivial⟩ rfl (Cok_step rfl (Step_callP 84 [.slice none 0 0] (U64 (0:UInt64)) (Cl_func [.slice none 0 0] Try.call84 rfl) (fun w1 hw1 => valueNil_c w1))) ?_
      rintro v1 L1 ⟨rfl, rfl⟩
      refine ⟨[(3, U64 (0:UInt64))], ?_⟩
      show DP _ _ _ _ _ _ _ _ [⟨nb1, [.slice ao n c, I64 (2:Int)], 85, (0, 0)⟩, ⟨nb2, [.slice none 0 0, I64 (0:Int)], 85, (0, 0)⟩]
      refine DP_one ⟨[1], [0, 2, 3], [0], [2, 3], [4]⟩ 4 _ rfl rfl (by decide +kernel) rfl ⟨⟨_, rfl, Qok_val rfl (Ev_load rfl (Ld_agg Try.isAgg85 Try.sizeOf85 rfl (MemAt.ent 0 rfl (Seg.whole _))))⟩, ⟨_, rfl, Qok_val rfl (Ev_assign rfl)⟩, trivial⟩ rfl (Cok_step rfl (Step_store 1 nb2 0 2 ([.slice none 0 0, I64 (0:Int)]) 85 (.agg (List.toArray (α := Value) ([.slice ao n c, I64 (2:Int)]))) ([.slice ao n c, I64 (2:Int)]) ([.slice ao n c, I64 (2:Int)]) rfl rfl rfl (by first | rfl | simp) Try.sizeOf85 rfl (by simp [Value.oneCell']) (Nat.le_of_ble_eq_true rfl) (lay_whole (by simp [])))) ?_
      rintro v1 L1 ⟨rfl, rfl⟩
      refine ⟨[], ?_⟩
      show DP _ _ _ _ _ _ _ _ [⟨nb1, [.slice ao n c, I64 (2:Int)], 85, (0, 0)⟩, ⟨nb2, [.slice ao n c, I64 (2:Int)], 85, (0, 0)⟩]
      refine DP_end ⟨[1, 4], [0, 2, 3], [0, 2, 3], [], []⟩ rfl rfl (by decide +kernel) rfl trivial ?_
      refine K_sub (F' := [(4, U64 (0:UInt64)), (5, Ptr nb2 0)]) (Sub.cons (by kernel_rfl) (Sub.cons (by kernel_rfl) (Sub.nil))) ?_
      show JQ _ _ _ [(4, U64 (0:UInt64)), (5, Ptr nb2 0)] _
      refine JQ_then ?_
      refine JC_ret ?_
      refine JQ_ret (.tuple #[U64 (0:UInt64), .agg (List.toArray (α := Value) ([.slice ao n c, I64 (2:Int)]))]) (res2 Try.results53 (RV_tmp rfl) (RV_cell rfl (Ld_agg Try.isAgg85 Try.sizeOf85 rfl (MemAt.ent 1 rfl (Seg.whole _))))) fun w1 hw1 => ?_
      exact ⟨_, [], rfl, ⟨rfl, rfl⟩, hw1.sub (by simp) (by simp)⟩
  ·
    have hp1 : ¬ ((s) ≠ (1:Int)) := of_decide_eq_false hb1
    refine JL_gskip 2 13 true _ rfl rfl hb1 rfl ?_
    refine JL_gskip 2 13 true _ rfl rfl hb1 rfl ?_
    refine JL_val _ (Ev_pickF _ rfl hb1 rfl) rfl ?_
    refine JL_val _ (Ev_move rfl) rfl ?_
    refine JL_gskip 6 17 true _ rfl rfl rfl rfl ?_
    refine JL_gskip 6 17 true _ rfl rfl rfl rfl ?_
    refine JL_val _ (Ev_pickF _ rfl rfl rfl) rfl ?_
    refine JL_val _ (Ev_move rfl) rfl ?_
    refine JL_gskip 10 21 true _ rfl rfl rfl rfl ?_
    refine JL_gskip 10 21 true _ rfl rfl rfl rfl ?_
    refine JL_val _ (Ev_pickF _ rfl rfl rfl) rfl ?_
    refine JL_nil ?_
    refine JQ_then ?_
    refine JC_condF _ rfl rfl ?_
    refine JC_skip ?_
    refine JQ_then ?_
    refine JC_seq ?_
    refine JC_region ?_
    refine JL_val (.agg (List.toArray (α := Value) ([.slice ao n c, I64 ((e:Int))]))) (Ev_load rfl (Ld_agg Try.isAgg85 Try.sizeOf85 rfl (MemAt.ent 0 rfl (Seg.whole _)))) rfl ?_
    refine JL_val _ (Ev_move rfl) rfl ?_
    refine JL_step (Step_callP 57 [.agg (List.toArray (α := Value) ([.slice ao n c, I64 ((e:Int))])), I64 (s)] (.tuple #[.slice none 0 0, .agg (List.toArray (α := Value) ([.slice ao n c, I64 (2:Int)]))]) (Cl_func [.agg (List.toArray (α := Value) ([.slice ao n c, I64 ((e:Int))])), I64 (s)] Try.call57 rfl) (fun w1 hw1 => takeB_c ao n c e (s) w1 he (.inr hl))) rfl ?_
    rintro v1 L1 ⟨rfl, rfl⟩
    show JL _ _ _ _ ((30, .tuple #[.slice none 0 0, .agg (List.toArray (α := Value) ([.slice ao n c, I64 (2:Int)]))]) :: _) [⟨nb1, [.slice ao n c, I64 ((e:Int))], 85, (0, 0)⟩, ⟨nb2, [.slice none 0 0, I64 (0:Int)], 85, (0, 0)⟩]
    refine JL_val _ (Ev_move rfl) rfl ?_
    refine JL_val _ (Ev_extract rfl rfl) rfl ?_
    refine JL_val _ (Ev_extract rfl rfl) rfl ?_
    refine JL_val _ (Ev_assign rfl) rfl ?_
    refine JL_step (Step_store 0 nb1 0 2 ([.slice ao n c, I64 ((e:Int))]) 85 (.agg (List.toArray (α := Value) ([.slice ao n c, I64 (2:Int)]))) ([.slice ao n c, I64 (2:Int)]) ([.slice ao n c, I64 (2:Int)]) rfl rfl rfl (by first | rfl | simp) Try.sizeOf85 rfl (by simp [Value.oneCell']) (Nat.le_of_ble_eq_true rfl) (lay_whole (by simp []))) rfl ?_
    rintro v1 L1 ⟨rfl, rfl⟩
    show JL _ _ _ _ _ [⟨nb1, [.slice ao n c, I64 (2:Int)], 85, (0, 0)⟩, ⟨nb2, [.slice none 0 0, I64 (0:Int)], 85, (0, 0)⟩]
    refine JL_nil ?_
    refine JQ_then ?_
    refine JC_seq ?_
    refine JC_draw 36 3 [(0, .slice none 0 0), (2, .agg (List.toArray (α := Value) ([.slice ao n c, I64 (2:Int)])))] Try.mixed rfl (by decide +kernel) ?_
    refine DP_one ⟨[], [0, 2], [], [0, 2], [1]⟩ 1 _ rfl rfl (by decide +kernel) rfl ⟨⟨_, rfl, Qok_val rfl (Ev_move rfl)⟩, ⟨_, rfl, Qok_val rfl (Ev_load rfl (Ld_agg Try.isAgg85 Try.sizeOf85 rfl (MemAt.ent 0 rfl (Seg.whole _))))⟩, trivial⟩ rfl (Cok_step rfl (Step_callP 84 [.slice none 0 0] (U64 (0:UInt64)) (Cl_func [.slice none 0 0] Try.call84 rfl) (fun w1 hw1 => valueNil_c w1))) ?_
    rintro v1 L1 ⟨rfl, rfl⟩
    refine ⟨[(3, U64 (0:UInt64))], ?_⟩
    show DP _ _ _ _ _ _ _ _ [⟨nb1, [.slice ao n c, I64 (2:Int)], 85, (0, 0)⟩, ⟨nb2, [.slice none 0 0, I64 (0:Int)], 85, (0, 0)⟩]
    refine DP_one ⟨[1], [0, 2, 3], [0], [2, 3], [4]⟩ 4 _ rfl rfl (by decide +kernel) rfl ⟨⟨_, rfl, Qok_val rfl (Ev_load rfl (Ld_agg Try.isAgg85 Try.sizeOf85 rfl (MemAt.ent 0 rfl (Seg.whole _))))⟩, ⟨_, rfl, Qok_val rfl (Ev_assign rfl)⟩, trivial⟩ rfl (Cok_step rfl (Step_store 1 nb2 0 2 ([.slice none 0 0, I64 (0:Int)]) 85 (.agg (List.toArray (α := Value) ([.slice ao n c, I64 (2:Int)]))) ([.slice ao n c, I64 (2:Int)]) ([.slice ao n c, I64 (2:Int)]) rfl rfl rfl (by first | rfl | simp) Try.sizeOf85 rfl (by simp [Value.oneCell']) (Nat.le_of_ble_eq_true rfl) (lay_whole (by simp [])))) ?_
    rintro v1 L1 ⟨rfl, rfl⟩
    refine ⟨[], ?_⟩
    show DP _ _ _ _ _ _ _ _ [⟨nb1, [.slice ao n c, I64 (2:Int)], 85, (0, 0)⟩, ⟨nb2, [.slice ao n c, I64 (2:Int)], 85, (0, 0)⟩]
    refine DP_end ⟨[1, 4], [0, 2, 3], [0, 2, 3], [], []⟩ rfl rfl (by decide +kernel) rfl trivial ?_
    refine K_sub (F' := [(4, U64 (0:UInt64)), (5, Ptr nb2 0)]) (Sub.cons (by kernel_rfl) (Sub.cons (by kernel_rfl) (Sub.nil))) ?_
    show JQ _ _ _ [(4, U64 (0:UInt64)), (5, Ptr nb2 0)] _
    refine JQ_then ?_
    refine JC_ret ?_
    refine JQ_ret (.tuple #[U64 (0:UInt64), .agg (List.toArray (α := Value) ([.slice ao n c, I64 (2:Int)]))]) (res2 Try.results53 (RV_tmp rfl) (RV_cell rfl (Ld_agg Try.isAgg85 Try.sizeOf85 rfl (MemAt.ent 1 rfl (Seg.whole _))))) fun w1 hw1 => ?_
    exact ⟨_, [], rfl, ⟨rfl, rfl⟩, hw1.sub (by simp) (by simp)⟩

theorem readOk_c (ao : Option Addr) (n c e : Nat) (z : List UInt8) (k : Nat) (n2 c2 : Nat) (w : World) (hz : z.length = n) (hn : n ≤ 2000000000) (hc : n ≤ c) (hcm : c ≤ maxLen) (hr : RdB w [] ao z) (he : e = 0) (hs : Szd (k:Int)) (h2 : k ≤ n) (ht1 : k + n2 = n) (ht2 : k + c2 = c) : Calls Try.prog 53 #[.agg (List.toArray (α := Value) ([.slice ao n c, I64 ((e:Int))])), I64 ((k:Int))] w (Post w [] (fun v L => v = .tuple #[U64 (valK z k), .agg (List.toArray (α := Value) [.slice (advA ao c k) n2 c2, I64 (e)])] ∧ L = [])) := by
  refine enter (P := Try.prog) (f := 53) (fn := Try.f53) w [] 36 [] [.agg (List.toArray (α := Value) ([.slice ao n c, I64 ((e:Int))])), I64 ((k:Int))] Try.func53 rfl rfl (by simp) (Hp.start (by simp) (by simp) (by simp)) ?_
  show JC _ _ _ [(0, .agg (List.toArray (α := Value) ([.slice ao n c, I64 ((e:Int))]))), (1, I64 ((k:Int)))] _
  refine JC_seq ?_
  refine JC_region ?_
  refine JL_step (Step_box (.agg (List.toArray (α := Value) ([.slice ao n c, I64 ((e:Int))]))) ([.slice ao n c, I64 ((e:Int))]) rfl (by first | rfl | simp)) rfl ?_
  rintro v1 L1 ⟨nb1, hnb1, rfl, rfl⟩
  show JL _ _ _ _ ((2, Ptr nb1 0) :: _) [⟨nb1, [.slice ao n c, I64 ((e:Int))], 85, (0, 0)⟩]
  refine JL_val _ (Ev_assign rfl) rfl ?_
  refine JL_step (Step_alloc _ ([.slice none 0 0, I64 (0:Int)]) Try.zeroValue85 (by kernel_rfl)) rfl ?_
  rintro v1 L1 ⟨nb2, hnb2, rfl, rfl⟩
  show JL _ _ _ _ ((5, Ptr nb2 0) :: _) [⟨nb1, [.slice ao n c, I64 ((e:Int))], 85, (0, 0)⟩, ⟨nb2, [.slice none 0 0, I64 (0:Int)], 85, (0, 0)⟩]
  refine JL_nil ?_
  refine JQ_then ?_
  refine JC_seq ?_
  refine JC_seq ?_
  refine JC_region ?_
  refine JL_val (Ptr nb1 1) (Ev_fieldAddr 1 3 1 Try.underlying85 rfl Try.sizeOf3 rfl rfl) rfl ?_
  refine JL_val (I64 ((e:Int))) (Ev_load rfl (Ld_one Try.isAgg3 (MemAt.ent 0 rfl (Seg.tail (Seg.head))))) rfl ?_
  refine JL_val (.bool (decide (((e:Int)) ≠ (0:Int)))) (Ev_bini rfl rfl fun _ => bin_neq_i _ _) rfl ?_
  refine JL_nil ?_
  refine JQ_then ?_
  refine JC_condF _ rfl (decide_eq_false (by omega)) ?_
  refine JC_skip ?_
  refine JQ_then ?_
  refine JC_seq ?_
  refine JC_seq ?_
  refine JC_region ?_
  refine JL_val _ (Ev_move rfl) rfl ?_
  refine JL_val (.bool (decide (((k:Int)) ≠ (1:Int)))) (Ev_bini rfl rfl fun _ => bin_neq_i _ _) rfl ?_
  refine JL_val _ (Ev_move rfl) rfl ?_
  rcases Bool.eq_false_or_eq_true (decide (((k:Int)) ≠ (1:Int))) with hb1 | hb1
  ·
    have hp1 : ((k:Int)) ≠ (1:Int) := of_decide_eq_true hb1
    refine JL_gval 2 13 true _ _ rfl rfl hb1 (Ev_move rfl) rfl ?_
    refine JL_gval 2 13 true _ (.bool (decide (((k:Int)) ≠ (2:Int)))) rfl rfl hb1 (Ev_bini rfl rfl fun _ => bin_neq_i _ _) rfl ?_
    refine JL_val _ (Ev_pickT _ rfl hb1 rfl) rfl ?_
    refine JL_val _ (Ev_move rfl) rfl ?_
    rcases Bool.eq_false_or_eq_true (decide (((k:Int)) ≠ (2:Int))) with hb2 | hb2
    ·
      have hp2 : ((k:Int)) ≠ (2:Int) := of_decide_eq_true hb2
      refine JL_gval 6 17 true _ _ rfl rfl hb2 (Ev_move rfl) rfl ?_
      refine JL_gval 6 17 true _ (.bool (decide (((k:Int)) ≠ (4:Int)))) rfl rfl hb2 (Ev_bini rfl rfl fun _ => bin_neq_i _ _) rfl ?_
      refine JL_val _ (Ev_pickT _ rfl hb2 rfl) rfl ?_
      refine JL_val _ (Ev_move rfl) rfl ?_
      rcases Bool.eq_false_or_eq_true (decide (((k:Int)) ≠ (4:Int))) with hb3 | hb3
      ·
        have hp3 : ((k:Int)) ≠ (4:Int) := of_decide_eq_true hb3
        refine JL_gval 10 21 true _ _ rfl rfl hb3 (Ev_move rfl) rfl ?_
        refine JL_gval 10 21 true _ (.bool (decide (((k:Int)) ≠ (8:Int)))) rfl rfl hb3 (Ev_bini rfl rfl fun _ => bin_neq_i _ _) rfl ?_
        refine JL_val _ (Ev_pickT _ rfl hb3 rfl) rfl ?_
        refine JL_nil ?_
        refine JQ_then ?_
        refine JC_cond (decide (((k:Int)) ≠ (8:Int))) rfl (fun hb4 => ?_) (fun hb4 => ?_)
        ·
          have hp4 : ((k:Int)) ≠ (8:Int) := of_decide_eq_true hb4
          refine JC_seq ?_
          refine JC_region ?_
          refine JL_val (Ptr nb1 1) (Ev_fieldAddr 1 3 1 Try.underlying85 rfl Try.sizeOf3 rfl rfl) rfl ?_
          refine JL_step (Step_store 0 nb1 1 1 ([.slice ao n c, I64 ((e:Int))]) 85 (I64 (2:Int)) ([I64 (2:Int)]) ([.slice ao n c, I64 (2:Int)]) rfl rfl rfl rfl Try.sizeOf3 rfl (by simp [Value.oneCell']) (Nat.le_of_ble_eq_true rfl) (rfl)) rfl ?_
          rintro v1 L1 ⟨rfl, rfl⟩
          show JL _ _ _ _ _ [⟨nb1, [.slice ao n c, I64 (2:Int)], 85, (0, 0)⟩, ⟨nb2, [.slice none 0 0, I64 (0:Int)], 85, (0, 0)⟩]
          refine JL_nil ?_
          refine JQ_then ?_
          refine JC_seq ?_
          refine JC_draw 36 2 [(0, .agg (List.toArray (α := Value) ([.slice ao n c, I64 (2:Int)]))), (1, U64 (0:UInt64))] Try.mixed rfl (by decide +kernel) ?_
          refine DP_one ⟨[], [0, 1], [], [0, 1], [2]⟩ 2 _ rfl rfl (by decide +kernel) rfl ⟨⟨_, rfl, Qok_val rfl (Ev_load rfl (Ld_agg Try.isAgg85 Try.sizeOf85 rfl (MemAt.ent 0 rfl (Seg.whole _))))⟩, ⟨_, rfl, Qok_val rfl (Ev_assign rfl)⟩, trivial⟩ rfl (Cok_step rfl (Step_store 1 nb2 0 2 ([.slice none 0 0, I64 (0:Int)]) 85 (.agg (List.toArray (α := Value) ([.slice ao n c, I64 (2:Int)]))) ([.slice ao n c, I64 (2:Int)]) ([.slice ao n c, I64 (2:Int)]) rfl rfl rfl (by first | rfl | simp) Try.sizeOf85 rfl (by simp [Value.oneCell']) (Nat.le_of_ble_eq_true rfl) (lay_whole (by simp [])))) ?_
          rintro v1 L1 ⟨rfl, rfl⟩
          refine ⟨[], ?_⟩
          show DP _ _ _ _ _ _ _ _ [⟨nb1, [.slice ao n c, I64 (2:Int)], 85, (0, 0)⟩, ⟨nb2, [.slice ao n c, I64 (2:Int)], 85, (0, 0)⟩]
          refine DP_end ⟨[2], [0, 1], [0, 1], [], []⟩ rfl rfl (by decide +kernel) rfl trivial ?_
          refine K_sub (F' := [(4, U64 (0:UInt64)), (1, I64 ((k:Int))), (2, Ptr nb1 0), (5, Ptr nb2 0)]) (Sub.cons (by kernel_rfl) (Sub.cons (by kernel_rfl) (Sub.cons (by kernel_rfl) (Sub.cons (by kernel_rfl) (Sub.nil))))) ?_
          show JQ _ _ _ [(4, U64 (0:UInt64)), (1, I64 ((k:Int))), (2, Ptr nb1 0), (5, Ptr nb2 0)] _
          refine JQ_then ?_
          refine JC_ret ?_
          refine JQ_then_ret ?_
          refine JQ_ret (.tuple #[U64 (0:UInt64), .agg (List.toArray (α := Value) ([.slice ao n c, I64 (2:Int)]))]) (res2 Try.results53 (RV_tmp rfl) (RV_cell rfl (Ld_agg Try.isAgg85 Try.sizeOf85 rfl (MemAt.ent 1 rfl (Seg.whole _))))) fun w1 hw1 => ?_
          exfalso; unfold Szd at hs; omega
        ·
          have hp4 : ¬ (((k:Int)) ≠ (8:Int)) := of_decide_eq_false hb4
          refine JC_skip ?_
          refine JQ_then ?_
          refine JC_seq ?_
          refine JC_region ?_
          refine JL_val (.agg (List.toArray (α := Value) ([.slice ao n c, I64 ((e:Int))]))) (Ev_load rfl (Ld_agg Try.isAgg85 Try.sizeOf85 rfl (MemAt.ent 0 rfl (Seg.whole _)))) rfl ?_
          refine JL_val _ (Ev_move rfl) rfl ?_
          have hl1 : (z.drop k).length = (n - k) := by rw [List.length_drop, hz] <;> omega
          have hr1 := RdB.adv (c := c) hr k (by rw [hz]; omega) (by rw [hz]; omega)
          have hl2 : (mid z 0 k).length = k := mid_len (by rw [hz]; omega)
          have hr2 := RdB.pre hr k
          refine JL_step (Step_callP 57 [.agg (List.toArray (α := Value) ([.slice ao n c, I64 ((e:Int))])), I64 ((k:Int))] (.tuple #[.slice ao k c, .agg (List.toArray (α := Value) ([.slice (advA ao c k) (n - k) (c - k), I64 ((e:Int))]))]) (Cl_func [.agg (List.toArray (α := Value) ([.slice ao n c, I64 ((e:Int))])), I64 ((k:Int))] Try.call57 rfl) (fun w1 hw1 => takeOk_c ao n c e z k (n - k) (c - k) w1 hz (by omega) (by omega) (by omega) (hr.at (M' := []) hw1 (by simp)) he h2 (by omega) (by omega))) rfl ?_
          rintro v1 L1 ⟨rfl, rfl⟩
          show JL _ _ _ _ ((30, .tuple #[.slice ao k c, .agg (List.toArray (α := Value) ([.slice (advA ao c k) (n - k) (c - k), I64 ((e:Int))]))]) :: _) [⟨nb1, [.slice ao n c, I64 ((e:Int))], 85, (0, 0)⟩, ⟨nb2, [.slice none 0 0, I64 (0:Int)], 85, (0, 0)⟩]
          refine JL_val _ (Ev_move rfl) rfl ?_
          refine JL_val _ (Ev_extract rfl rfl) rfl ?_
          refine JL_val _ (Ev_extract rfl rfl) rfl ?_
          refine JL_val _ (Ev_assign rfl) rfl ?_
          refine JL_step (Step_store 0 nb1 0 2 ([.slice ao n c, I64 ((e:Int))]) 85 (.agg (List.toArray (α := Value) ([.slice (advA ao c k) (n - k) (c - k), I64 ((e:Int))]))) ([.slice (advA ao c k) (n - k) (c - k), I64 ((e:Int))]) ([.slice (advA ao c k) (n - k) (c - k), I64 ((e:Int))]) rfl rfl rfl (by first | rfl | simp) Try.sizeOf85 rfl (by simp [Value.oneCell']) (Nat.le_of_ble_eq_true rfl) (lay_whole (by simp []))) rfl ?_
          rintro v1 L1 ⟨rfl, rfl⟩
          show JL _ _ _ _ _ [⟨nb1, [.slice (advA ao c k) (n - k) (c - k), I64 ((e:Int))], 85, (0, 0)⟩, ⟨nb2, [.slice none 0 0, I64 (0:Int)], 85, (0, 0)⟩]
          refine JL_nil ?_
          refine JQ_then ?_
          refine JC_seq ?_
          refine JC_draw 36 3 [(0, .slice ao k c), (2, .agg (List.toArray (α := Value) ([.slice (advA ao c k) (n - k) (c - k), I64 ((e:Int))])))] Try.mixed rfl (by decide +kernel) ?_
          refine DP_one ⟨[], [0, 2], [], [0, 2], [1]⟩ 1 _ rfl rfl (by decide +kernel) rfl ⟨⟨_, rfl, Qok_val rfl (Ev_move rfl)⟩, ⟨_, rfl, Qok_val rfl (Ev_load rfl (Ld_agg Try.isAgg85 Try.sizeOf85 rfl (MemAt.ent 0 rfl (Seg.whole _))))⟩, trivial⟩ rfl (Cok_step rfl (Step_callP 84 [.slice ao k c] (U64 (rvalK (mid z 0 k) k)) (Cl_func [.slice ao k c] Try.call84 rfl) (fun w1 hw1 => value_c ao k c (mid z 0 k) w1 hl2 (by omega) (hr2.at (M' := []) hw1 (by simp))))) ?_
          rintro v1 L1 ⟨rfl, rfl⟩
          refine ⟨[(3, U64 (rvalK (mid z 0 k) k))], ?_⟩
          show DP _ _ _ _ _ _ _ _ [⟨nb1, [.slice (advA ao c k) (n - k) (c - k), I64 ((e:Int))], 85, (0, 0)⟩, ⟨nb2, [.slice none 0 0, I64 (0:Int)], 85, (0, 0)⟩]
          refine DP_one ⟨[1], [0, 2, 3], [0], [2, 3], [4]⟩ 4 _ rfl rfl (by decide +kernel) rfl ⟨⟨_, rfl, Qok_val rfl (Ev_load rfl (Ld_agg Try.isAgg85 Try.sizeOf85 rfl (MemAt.ent 0 rfl (Seg.whole _))))⟩, ⟨_, rfl, Qok_val rfl (Ev_assign rfl)⟩, trivial⟩ rfl (Cok_step rfl (Step_store 1 nb2 0 2 ([.slice none 0 0, I64 (0:Int)]) 85 (.agg (List.toArray (α := Value) ([.slice (advA ao c k) (n - k) (c - k), I64 ((e:Int))]))) ([.slice (advA ao c k) (n - k) (c - k), I64 ((e:Int))]) ([.slice (advA ao c k) (n - k) (c - k), I64 ((e:Int))]) rfl rfl rfl (by first | rfl | simp) Try.sizeOf85 rfl (by simp [Value.oneCell']) (Nat.le_of_ble_eq_true rfl) (lay_whole (by simp [])))) ?_
          rintro v1 L1 ⟨rfl, rfl⟩
          refine ⟨[], ?_⟩
          show DP _ _ _ _ _ _ _ _ [⟨nb1, [.slice (advA ao c k) (n - k) (c - k), I64 ((e:Int))], 85, (0, 0)⟩, ⟨nb2, [.slice (advA ao c k) (n - k) (c - k), I64 ((e:Int))], 85, (0, 0)⟩]
          refine DP_end ⟨[1, 4], [0, 2, 3], [0, 2, 3], [], []⟩ rfl rfl (by decide +kernel) rfl trivial ?_
          refine K_sub (F' := [(4, U64 (rvalK (mid z 0 k) k)), (5, Ptr nb2 0)]) (Sub.cons (by kernel_rfl) (Sub.cons (by kernel_rfl) (Sub.nil))) ?_
          show JQ _ _ _ [(4, U64 (rvalK (mid z 0 k) k)), (5, Ptr nb2 0)] _
          refine JQ_then ?_
          refine JC_ret ?_
          refine JQ_ret (.tuple #[U64 (rvalK (mid z 0 k) k), .agg (List.toArray (α := Value) ([.slice (advA ao c k) (n - k) (c - k), I64 ((e:Int))]))]) (res2 Try.results53 (RV_tmp rfl) (RV_cell rfl (Ld_agg Try.isAgg85 Try.sizeOf85 rfl (MemAt.ent 1 rfl (Seg.whole _))))) fun w1 hw1 => ?_
          have e2 : rvalK (mid z 0 k) k = valK z k := (rvalK_eq _ _).trans (valK_congr k fun i hi => by rw [g8_mid hi, Nat.zero_add])
          rw [e2]
          obtain rfl : n2 = (n - k) := by omega
          obtain rfl : c2 = (c - k) := by omega
          exact ⟨_, [], rfl, ⟨rfl, rfl⟩, hw1.sub (by simp) (by simp)⟩
      ·
        have hp3 : ¬ (((k:Int)) ≠ (4:Int)) := of_decide_eq_false hb3
        refine JL_gskip 10 21 true _ rfl rfl hb3 rfl ?_
        refine JL_gskip 10 21 true _ rfl rfl hb3 rfl ?_
        refine JL_val _ (Ev_pickF _ rfl hb3 rfl) rfl ?_
        refine JL_nil ?_
        refine JQ_then ?_
        refine JC_condF _ rfl rfl ?_
        refine JC_skip ?_
        refine JQ_then ?_
        refine JC_seq ?_
        refine JC_region ?_
        refine JL_val (.agg (List.toArray (α := Value) ([.slice ao n c, I64 ((e:Int))]))) (Ev_load rfl (Ld_agg Try.isAgg85 Try.sizeOf85 rfl (MemAt.ent 0 rfl (Seg.whole _)))) rfl ?_
        refine JL_val _ (Ev_move rfl) rfl ?_
        have hl3 : (z.drop k).length = (n - k) := by rw [List.length_drop, hz] <;> omega
        have hr3 := RdB.adv (c := c) hr k (by rw [hz]; omega) (by rw [hz]; omega)
        have hl4 : (mid z 0 k).length = k := mid_len (by rw [hz]; omega)
        have hr4 := RdB.pre hr k
        refine JL_step (Step_callP 57 [.agg (List.toArray (α := Value) ([.slice ao n c, I64 ((e:Int))])), I64 ((k:Int))] (.tuple #[.slice ao k c, .agg (List.toArray (α := Value) ([.slice (advA ao c k) (n - k) (c - k), I64 ((e:Int))]))]) (Cl_func [.agg (List.toArray (α := Value) ([.slice ao n c, I64 ((e:Int))])), I64 ((k:Int))] Try.call57 rfl) (fun w1 hw1 => takeOk_c ao n c e z k (n - k) (c - k) w1 hz (by omega) (by omega) (by omega) (hr.at (M' := []) hw1 (by simp)) he h2 (by omega) (by omega))) rfl ?_
        rintro v1 L1 ⟨rfl, rfl⟩
        show JL _ _ _ _ ((30, .tuple #[.slice ao k c, .agg (List.toArray (α := Value) ([.slice (advA ao c k) (n - k) (c - k), I64 ((e:Int))]))]) :: _) [⟨nb1, [.slice ao n c, I64 ((e:Int))], 85, (0, 0)⟩, ⟨nb2, [.slice none 0 0, I64 (0:Int)], 85, (0, 0)⟩]
        refine JL_val _ (Ev_move rfl) rfl ?_
        refine JL_val _ (Ev_extract rfl rfl) rfl ?_
        refine JL_val _ (Ev_extract rfl rfl) rfl ?_
        refine JL_val _ (Ev_assign rfl) rfl ?_
        refine JL_step (Step_store 0 nb1 0 2 ([.slice ao n c, I64 ((e:Int))]) 85 (.agg (List.toArray (α := Value) ([.slice (advA ao c k) (n - k) (c - k), I64 ((e:Int))]))) ([.slice (advA ao c k) (n - k) (c - k), I64 ((e:Int))]) ([.slice (advA ao c k) (n - k) (c - k), I64 ((e:Int))]) rfl rfl rfl (by first | rfl | simp) Try.sizeOf85 rfl (by simp [Value.oneCell']) (Nat.le_of_ble_eq_true rfl) (lay_whole (by simp []))) rfl ?_
        rintro v1 L1 ⟨rfl, rfl⟩
        show JL _ _ _ _ _ [⟨nb1, [.slice (advA ao c k) (n - k) (c - k), I64 ((e:Int))], 85, (0, 0)⟩, ⟨nb2, [.slice none 0 0, I64 (0:Int)], 85, (0, 0)⟩]
        refine JL_nil ?_
        refine JQ_then ?_
        refine JC_seq ?_
        refine JC_draw 36 3 [(0, .slice ao k c), (2, .agg (List.toArray (α := Value) ([.slice (advA ao c k) (n - k) (c - k), I64 ((e:Int))])))] Try.mixed rfl (by decide +kernel) ?_
        refine DP_one ⟨[], [0, 2], [], [0, 2], [1]⟩ 1 _ rfl rfl (by decide +kernel) rfl ⟨⟨_, rfl, Qok_val rfl (Ev_move rfl)⟩, ⟨_, rfl, Qok_val rfl (Ev_load rfl (Ld_agg Try.isAgg85 Try.sizeOf85 rfl (MemAt.ent 0 rfl (Seg.whole _))))⟩, trivial⟩ rfl (Cok_step rfl (Step_callP 84 [.slice ao k c] (U64 (rvalK (mid z 0 k) k)) (Cl_func [.slice ao k c] Try.call84 rfl) (fun w1 hw1 => value_c ao k c (mid z 0 k) w1 hl4 (by omega) (hr4.at (M' := []) hw1 (by simp))))) ?_
        rintro v1 L1 ⟨rfl, rfl⟩
        refine ⟨[(3, U64 (rvalK (mid z 0 k) k))], ?_⟩
        show DP _ _ _ _ _ _ _ _ [⟨nb1, [.slice (advA ao c k) (n - k) (c - k), I64 ((e:Int))], 85, (0, 0)⟩, ⟨nb2, [.slice none 0 0, I64 (0:Int)], 85, (0, 0)⟩]
        refine DP_one ⟨[1], [0, 2, 3], [0], [2, 3], [4]⟩ 4 _ rfl rfl (by decide +kernel) rfl ⟨⟨_, rfl, Qok_val rfl (Ev_load rfl (Ld_agg Try.isAgg85 Try.sizeOf85 rfl (MemAt.ent 0 rfl (Seg.whole _))))⟩, ⟨_, rfl, Qok_val rfl (Ev_assign rfl)⟩, trivial⟩ rfl (Cok_step rfl (Step_store 1 nb2 0 2 ([.slice none 0 0, I64 (0:Int)]) 85 (.agg (List.toArray (α := Value) ([.slice (advA ao c k) (n - k) (c - k), I64 ((e:Int))]))) ([.slice (advA ao c k) (n - k) (c - k), I64 ((e:Int))]) ([.slice (advA ao c k) (n - k) (c - k), I64 ((e:Int))]) rfl rfl rfl (by first | rfl | simp) Try.sizeOf85 rfl (by simp [Value.oneCell']) (Nat.le_of_ble_eq_true rfl) (lay_whole (by simp [])))) ?_
        rintro v1 L1 ⟨rfl, rfl⟩
        refine ⟨[], ?_⟩
        show DP _ _ _ _ _ _ _ _ [⟨nb1, [.slice (advA ao c k) (n - k) (c - k), I64 ((e:Int))], 85, (0, 0)⟩, ⟨nb2, [.slice (advA ao c k) (n - k) (c - k), I64 ((e:Int))], 85, (0, 0)⟩]
        refine DP_end ⟨[1, 4], [0, 2, 3], [0, 2, 3], [], []⟩ rfl rfl (by decide +kernel) rfl trivial ?_
        refine K_sub (F' := [(4, U64 (rvalK (mid z 0 k) k)), (5, Ptr nb2 0)]) (Sub.cons (by kernel_rfl) (Sub.cons (by kernel_rfl) (Sub.nil))) ?_
        show JQ _ _ _ [(4, U64 (rvalK (mid z 0 k) k)), (5, Ptr nb2 0)] _
        refine JQ_then ?_
        refine JC_ret ?_
        refine JQ_ret (.tuple #[U64 (rvalK (mid z 0 k) k), .agg (List.toArray (α := Value) ([.slice (advA ao c k) (n - k) (c - k), I64 ((e:Int))]))]) (res2 Try.results53 (RV_tmp rfl) (RV_cell rfl (Ld_agg Try.isAgg85 Try.sizeOf85 rfl (MemAt.ent 1 rfl (Seg.whole _))))) fun w1 hw1 => ?_
        have e2 : rvalK (mid z 0 k) k = valK z k := (rvalK_eq _ _).trans (valK_congr k fun i hi => by rw [g8_mid hi, Nat.zero_add])
        rw [e2]
        obtain rfl : n2 = (n - k) := by omega
        obtain rfl : c2 = (c - k) := by omega
        exact ⟨_, [], rfl, ⟨rfl, rfl⟩, hw1.sub (by simp) (by simp)⟩
    ·
      have hp2 : ¬ (((k:Int)) ≠ (2:Int)) := of_decide_eq_false hb2
      refine JL_gskip 6 17 true _ rfl rfl hb2 rfl ?_
      refine JL_gskip 6 17 true _ rfl rfl hb2 rfl ?_
      refine JL_val _ (Ev_pickF _ rfl hb2 rfl) rfl ?_
      refine JL_val _ (Ev_move rfl) rfl ?_
      refine JL_gskip 10 21 true _ rfl rfl rfl rfl ?_
      refine JL_gskip 10 21 true _ rfl rfl rfl rfl ?_
      refine JL_val _ (Ev_pickF _ rfl rfl rfl) rfl ?_
      refine JL_nil ?_
      refine JQ_then ?_
      refine JC_condF _ rfl rfl ?_
      refine JC_skip ?_
      refine JQ_then ?_
      refine JC_seq ?_
      refine JC_region ?_
      refine JL_val (.agg (List.toArray (α := Value) ([.slice ao n c, I64 ((e:Int))]))) (Ev_load rfl (Ld_agg Try.isAgg85 Try.sizeOf85 rfl (MemAt.ent 0 rfl (Seg.whole _)))) rfl ?_
      refine JL_val _ (Ev_move rfl) rfl ?_
      have hl5 : (z.drop k).length = (n - k) := by rw [List.length_drop, hz] <;> omega
      have hr5 := RdB.adv (c := c) hr k (by rw [hz]; omega) (by rw [hz]; omega)
      have hl6 : (mid z 0 k).length = k := mid_len (by rw [hz]; omega)
      have hr6 := RdB.pre hr k
      refine JL_step (Step_callP 57 [.agg (List.toArray (α := Value) ([.slice ao n c, I64 ((e:Int))])), I64 ((k:Int))] (.tuple #[.slice ao k c, .agg (List.toArray (α := Value) ([.slice (advA ao c k) (n - k) (c - k), I64 ((e:Int))]))]) (Cl_func [.agg (List.toArray (α := Value) ([.slice ao n c, I64 ((e:Int))])), I64 ((k:Int))] Try.call57 rfl) (fun w1 hw1 => takeOk_c ao n c e z k (n - k) (c - k) w1 hz (by omega) (by omega) (by omega) (hr.at (M' := []) hw1 (by simp)) he h2 (by omega) (by omega))) rfl ?_
      rintro v1 L1 ⟨rfl, rfl⟩
      show JL _ _ _ _ ((30, .tuple #[.slice ao k c, .agg (List.toArray (α := Value) ([.slice (advA ao c k) (n - k) (c - k), I64 ((e:Int))]))]) :: _) [⟨nb1, [.slice ao n c, I64 ((e:Int))], 85, (0, 0)⟩, ⟨nb2, [.slice none 0 0, I64 (0:Int)], 85, (0, 0)⟩]
      refine JL_val _ (Ev_move rfl) rfl ?_
      refine JL_val _ (Ev_extract rfl rfl) rfl ?_
      refine JL_val _ (Ev_extract rfl rfl) rfl ?_
      refine JL_val _ (Ev_assign rfl) rfl ?_
      refine JL_step (Step_store 0 nb1 0 2 ([.slice ao n c, I64 ((e:Int))]) 85 (.agg (List.toArray (α := Value) ([.slice (advA ao c k) (n - k) (c - k), I64 ((e:Int))]))) ([.slice (advA ao c k) (n - k) (c - k), I64 ((e:Int))]) ([.slice (advA ao c k) (n - k) (c - k), I64 ((e:Int))]) rfl rfl rfl (by first | rfl | simp) Try.sizeOf85 rfl (by simp [Value.oneCell']) (Nat.le_of_ble_eq_true rfl) (lay_whole (by simp []))) rfl ?_
      rintro v1 L1 ⟨rfl, rfl⟩
      show JL _ _ _ _ _ [⟨nb1, [.slice (advA ao c k) (n - k) (c - k), I64 ((e:Int))], 85, (0, 0)⟩, ⟨nb2, [.slice none 0 0, I64 (0:Int)], 85, (0, 0)⟩]
      refine JL_nil ?_
      refine JQ_then ?_
      refine JC_seq ?_
      refine JC_draw 36 3 [(0, .slice ao k c), (2, .agg (List.toArray (α := Value) ([.slice (advA ao c k) (n - k) (c - k), I64 ((e:Int))])))] Try.mixed rfl (by decide +kernel) ?_
      refine DP_one ⟨[], [0, 2], [], [0, 2], [1]⟩ 1 _ rfl rfl (by decide +kernel) rfl ⟨⟨_, rfl, Qok_val rfl (Ev_move rfl)⟩, ⟨_, rfl, Qok_val rfl (Ev_load rfl (Ld_agg Try.isAgg85 Try.sizeOf85 rfl (MemAt.ent 0 rfl (Seg.whole _))))⟩, trivial⟩ rfl (Cok_step rfl (Step_callP 84 [.slice ao k c] (U64 (rvalK (mid z 0 k) k)) (Cl_func [.slice ao k c] Try.call84 rfl) (fun w1 hw1 => value_c ao k c (mid z 0 k) w1 hl6 (by omega) (hr6.at (M' := []) hw1 (by simp))))) ?_
      rintro v1 L1 ⟨rfl, rfl⟩
      refine ⟨[(3, U64 (rvalK (mid z 0 k) k))], ?_⟩
      show DP _ _ _ _ _ _ _ _ [⟨nb1, [.slice (advA ao c k) (n - k) (c - k), I64 ((e:Int))], 85, (0, 0)⟩, ⟨nb2, [.slice none 0 0, I64 (0:Int)], 85, (0, 0)⟩]
      refine DP_one ⟨[1], [0, 2, 3], [0], [2, 3], [4]⟩ 4 _ rfl rfl (by decide +kernel) rfl ⟨⟨_, rfl, Qok_val rfl (Ev_load rfl (Ld_agg Try.isAgg85 Try.sizeOf85 rfl (MemAt.ent 0 rfl (Seg.whole _))))⟩, ⟨_, rfl, Qok_val rfl (Ev_assign rfl)⟩, trivial⟩ rfl (Cok_step rfl (Step_store 1 nb2 0 2 ([.slice none 0 0, I64 (0:Int)]) 85 (.agg (List.toArray (α := Value) ([.slice (advA ao c k) (n - k) (c - k), I64 ((e:Int))]))) ([.slice (advA ao c k) (n - k) (c - k), I64 ((e:Int))]) ([.slice (advA ao c k) (n - k) (c - k), I64 ((e:Int))]) rfl rfl rfl (by first | rfl | simp) Try.sizeOf85 rfl (by simp [Value.oneCell']) (Nat.le_of_ble_eq_true rfl) (lay_whole (by simp [])))) ?_
      rintro v1 L1 ⟨rfl, rfl⟩
      refine ⟨[], ?_⟩
      show DP _ _ _ _ _ _ _ _ [⟨nb1, [.slice (advA ao c k) (n - k) (c - k), I64 ((e:Int))], 85, (0, 0)⟩, ⟨nb2, [.slice (advA ao c k) (n - k) (c - k), I64 ((e:Int))], 85, (0, 0)⟩]
      refine DP_end ⟨[1, 4], [0, 2, 3], [0, 2, 3], [], []⟩ rfl rfl (by decide +kernel) rfl trivial ?_
      refine K_sub (F' := [(4, U64 (rvalK (mid z 0 k) k)), (5, Ptr nb2 0)]) (Sub.cons (by kernel_rfl) (Sub.cons (by kernel_rfl) (Sub.nil))) ?_
      show JQ _ _ _ [(4, U64 (rvalK (mid z 0 k) k)), (5, Ptr nb2 0)] _
      refine JQ_then ?_
      refine JC_ret ?_
      refine JQ_ret (.tuple #[U64 (rvalK (mid z 0 k) k), .agg (List.toArray (α := Value) ([.slice (advA ao c k) (n - k) (c - k), I64 ((e:Int))]))]) (res2 Try.results53 (RV_tmp rfl) (RV_cell rfl (Ld_agg Try.isAgg85 Try.sizeOf85 rfl (MemAt.ent 1 rfl (Seg.whole _))))) fun w1 hw1 => ?_
      have e2 : rvalK (mid z 0 k) k = valK z k := (rvalK_eq _ _).trans (valK_congr k fun i hi => by rw [g8_mid hi, Nat.zero_add])
      rw [e2]
      obtain rfl : n2 = (n - k) := by omega
      obtain rfl : c2 = (c - k) := by omega
      exact ⟨_, [], rfl, ⟨rfl, rfl⟩, hw1.sub (by simp) (by simp)⟩
  ·
    have hp1 : ¬ (((k:Int)) ≠ (1:Int)) := of_decide_eq_false hb1
    refine JL_gskip 2 13 true _ rfl rfl hb1 rfl ?_
    refine JL_gskip 2 13 true _ rfl rfl hb1 rfl ?_
    refine JL_val _ (Ev_pickF _ rfl hb1 rfl) rfl ?_
    refine JL_val _ (Ev_move rfl) rfl ?_
    refine JL_gskip 6 17 true _ rfl rfl rfl rfl ?_
    refine JL_gskip 6 17 true _ rfl rfl rfl rfl ?_
    refine JL_val _ (Ev_pickF _ rfl rfl rfl) rfl ?_
    refine JL_val _ (Ev_move rfl) rfl ?_
    refine JL_gskip 10 21 true _ rfl rfl rfl rfl ?_
    refine JL_gskip 10 21 true _ rfl rfl rfl rfl ?_
    refine JL_val _ (Ev_pickF _ rfl rfl rfl) rfl ?_
    refine JL_nil ?_
    refine JQ_then ?_
    refine JC_condF _ rfl rfl ?_
    refine JC_skip ?_
    refine JQ_then ?_
    refine JC_seq ?_
    refine JC_region ?_
    refine JL_val (.agg (List.toArray (α := Value) ([.slice ao n c, I64 ((e:Int))]))) (Ev_load rfl (Ld_agg Try.isAgg85 Try.sizeOf85 rfl (MemAt.ent 0 rfl (Seg.whole _)))) rfl ?_
    refine JL_val _ (Ev_move rfl) rfl ?_
    have hl7 : (z.drop k).length = (n - k) := by rw [List.length_drop, hz] <;> omega
    have hr7 := RdB.adv (c := c) hr k (by rw [hz]; omega) (by rw [hz]; omega)
    have hl8 : (mid z 0 k).length = k := mid_len (by rw [hz]; omega)
    have hr8 := RdB.pre hr k
    refine JL_step (Step_callP 57 [.agg (List.toArray (α := Value) ([.slice ao n c, I64 ((e:Int))])), I64 ((k:Int))] (.tuple #[.slice ao k c, .agg (List.toArray (α := Value) ([.slice (advA ao c k) (n - k) (c - k), I64 ((e:Int))]))]) (Cl_func [.agg (List.toArray (α := Value) ([.slice ao n c, I64 ((e:Int))])), I64 ((k:Int))] Try.call57 rfl) (fun w1 hw1 => takeOk_c ao n c e z k (n - k) (c - k) w1 hz (by omega) (by omega) (by omega) (hr.at (M' := []) hw1 (by simp)) he h2 (by omega) (by omega))) rfl ?_
    rintro v1 L1 ⟨rfl, rfl⟩
    show JL _ _ _ _ ((30, .tuple #[.slice ao k c, .agg (List.toArray (α := Value) ([.slice (advA ao c k) (n - k) (c - k), I64 ((e:Int))]))]) :: _) [⟨nb1, [.slice ao n c, I64 ((e:Int))], 85, (0, 0)⟩, ⟨nb2, [.slice none 0 0, I64 (0:Int)], 85, (0, 0)⟩]
    refine JL_val _ (Ev_move rfl) rfl ?_
    refine JL_val _ (Ev_extract rfl rfl) rfl ?_
    refine JL_val _ (Ev_extract rfl rfl) rfl ?_
    refine JL_val _ (Ev_assign rfl) rfl ?_
    refine JL_step (Step_store 0 nb1 0 2 ([.slice ao n c, I64 ((e:Int))]) 85 (.agg (List.toArray (α := Value) ([.slice (advA ao c k) (n - k) (c - k), I64 ((e:Int))]))) ([.slice (advA ao c k) (n - k) (c - k), I64 ((e:Int))]) ([.slice (advA ao c k) (n - k) (c - k), I64 ((e:Int))]) rfl rfl rfl (by first | rfl | simp) Try.sizeOf85 rfl (by simp [Value.oneCell']) (Nat.le_of_ble_eq_true rfl) (lay_whole (by simp []))) rfl ?_
    rintro v1 L1 ⟨rfl, rfl⟩
    show JL _ _ _ _ _ [⟨nb1, [.slice (advA ao c k) (n - k) (c - k), I64 ((e:Int))], 85, (0, 0)⟩, ⟨nb2, [.slice none 0 0, I64 (0:Int)], 85, (0, 0)⟩]
    refine JL_nil ?_
    refine JQ_then ?_
    refine JC_seq ?_
    refine JC_draw 36 3 [(0, .slice ao k c), (2, .agg (List.toArray (α := Value) ([.slice (advA ao c k) (n - k) (c - k), I64 ((e:Int))])))] Try.mixed rfl (by decide +kernel) ?_
    refine DP_one ⟨[], [0, 2], [], [0, 2], [1]⟩ 1 _ rfl rfl (by decide +kernel) rfl ⟨⟨_, rfl, Qok_val rfl (Ev_move rfl)⟩, ⟨_, rfl, Qok_val rfl (Ev_load rfl (Ld_agg Try.isAgg85 Try.sizeOf85 rfl (MemAt.ent 0 rfl (Seg.whole _))))⟩, trivial⟩ rfl (Cok_step rfl (Step_callP 84 [.slice ao k c] (U64 (rvalK (mid z 0 k) k)) (Cl_func [.slice ao k c] Try.call84 rfl) (fun w1 hw1 => value_c ao k c (mid z 0 k) w1 hl8 (by omega) (hr8.at (M' := []) hw1 (by simp))))) ?_
    rintro v1 L1 ⟨rfl, rfl⟩
    refine ⟨[(3, U64 (rvalK (mid z 0 k) k))], ?_⟩
    show DP _ _ _ _ _ _ _ _ [⟨nb1, [.slice (advA ao c k) (n - k) (c - k), I64 ((e:Int))], 85, (0, 0)⟩, ⟨nb2, [.slice none 0 0, I64 (0:Int)], 85, (0, 0)⟩]
    refine DP_one ⟨[1], [0, 2, 3], [0], [2, 3], [4]⟩ 4 _ rfl rfl (by decide +kernel) rfl ⟨⟨_, rfl, Qok_val rfl (Ev_load rfl (Ld_agg Try.isAgg85 Try.sizeOf85 rfl (MemAt.ent 0 rfl (Seg.whole _))))⟩, ⟨_, rfl, Qok_val rfl (Ev_assign rfl)⟩, trivial⟩ rfl (Cok_step rfl (Step_store 1 nb2 0 2 ([.slice none 0 0, I64 (0:Int)]) 85 (.agg (List.toArray (α := Value) ([.slice (advA ao c k) (n - k) (c - k), I64 ((e:Int))]))) ([.slice (advA ao c k) (n - k) (c - k), I64 ((e:Int))]) ([.slice (advA ao c k) (n - k) (c - k), I64 ((e:Int))]) rfl rfl rfl (by first | rfl | simp) Try.sizeOf85 rfl (by simp [Value.oneCell']) (Nat.le_of_ble_eq_true rfl) (lay_whole (by simp [])))) ?_
    rintro v1 L1 ⟨rfl, rfl⟩
    refine ⟨[], ?_⟩
    show DP _ _ _ _ _ _ _ _ [⟨nb1, [.slice (advA ao c k) (n - k) (c - k), I64 ((e:Int))], 85, (0, 0)⟩, ⟨nb2, [.slice (advA ao c k) (n - k) (c - k), I64 ((e:Int))], 85, (0, 0)⟩]
    refine DP_end ⟨[1, 4], [0, 2, 3], [0, 2, 3], [], []⟩ rfl rfl (by decide +kernel) rfl trivial ?_
    refine K_sub (F' := [(4, U64 (rvalK (mid z 0 k) k)), (5, Ptr nb2 0)]) (Sub.cons (by kernel_rfl) (Sub.cons (by kernel_rfl) (Sub.nil))) ?_
    show JQ _ _ _ [(4, U64 (rvalK (mid z 0 k) k)), (5, Ptr nb2 0)] _
    refine JQ_then ?_
    refine JC_ret ?_
    refine JQ_ret (.tuple #[U64 (rvalK (mid z 0 k) k), .agg (List.toArray (α := Value) ([.slice (advA ao c k) (n - k) (c - k), I64 ((e:Int))]))]) (res2 Try.results53 (RV_tmp rfl) (RV_cell rfl (Ld_agg Try.isAgg85 Try.sizeOf85 rfl (MemAt.ent 1 rfl (Seg.whole _))))) fun w1 hw1 => ?_
    have e2 : rvalK (mid z 0 k) k = valK z k := (rvalK_eq _ _).trans (valK_congr k fun i hi => by rw [g8_mid hi, Nat.zero_add])
    rw [e2]
    obtain rfl : n2 = (n - k) := by omega
    obtain rfl : c2 = (c - k) := by omega
    exact ⟨_, [], rfl, ⟨rfl, rfl⟩, hw1.sub (by simp) (by simp)⟩

theorem rval_fd (z : List UInt8) : (rvalK (mid z 0 2) 2).toNat = fdN z := by
  have h0 := UInt8.toNat_lt (g8 z 0)
  have h1 := UInt8.toNat_lt (g8 z 1)
  have e : ∀ i, i < 2 → g8 (mid z 0 2) i = g8 z i := fun i hi => by rw [g8_mid hi, Nat.zero_add]
  rw [rvalK, rvalK, rvalK, e 0 (by omega), e 1 (by omega), fdN, UInt64.toNat_add, UInt64.toNat_mul, UInt64.toNat_add, UInt8.toNat_toUInt64, UInt8.toNat_toUInt64]
  show ((0 * 256 % 2 ^ 64 + (g8 z 0).toNat) % 2 ^ 64 * 256 % 2 ^ 64 + (g8 z 1).toNat) % 2 ^ 64 = _
  omega
theorem fd_lt (z : List UInt8) : fdN z < 65536 := by
  have h0 := UInt8.toNat_lt (g8 z 0)
  have h1 := UInt8.toNat_lt (g8 z 1)
  unfold fdN; omega

theorem fieldE_c (ao : Option Addr) (n c e : Nat) (s : Int) (w : World) (he : e ≠ 0) : Calls Try.prog 55 #[.agg (List.toArray (α := Value) ([.slice ao n c, I64 ((e:Int))])), I64 (s)] w (Post w [] (fun v L => v = .tuple #[.slice none 0 0, .agg (List.toArray (α := Value) [.slice ao n c, I64 (e)])] ∧ L = [])) := by
  refine enter (P := Try.prog) (f := 55) (fn := Try.f55) w [] 44 [] [.agg (List.toArray (α := Value) ([.slice ao n c, I64 ((e:Int))])), I64 (s)] Try.func55 rfl rfl (by simp) (Hp.start (by simp) (by simp) (by simp)) ?_
  show JC _ _ _ [(0, .agg (List.toArray (α := Value) ([.slice ao n c, I64 ((e:Int))]))), (1, I64 (s))] _
  refine JC_seq ?_
  refine JC_region ?_
  refine JL_step (Step_box (.agg (List.toArray (α := Value) ([.slice ao n c, I64 ((e:Int))]))) ([.slice ao n c, I64 ((e:Int))]) rfl (by first | rfl | simp)) rfl ?_
  rintro v1 L1 ⟨nb1, hnb1, rfl, rfl⟩
  show JL _ _ _ _ ((2, Ptr nb1 0) :: _) [⟨nb1, [.slice ao n c, I64 ((e:Int))], 85, (0, 0)⟩]
  refine JL_val _ (Ev_assign rfl) rfl ?_
  refine JL_step (Step_alloc _ ([.slice none 0 0, I64 (0:Int)]) Try.zeroValue85 (by kernel_rfl)) rfl ?_
  rintro v1 L1 ⟨nb2, hnb2, rfl, rfl⟩
  show JL _ _ _ _ ((5, Ptr nb2 0) :: _) [⟨nb1, [.slice ao n c, I64 ((e:Int))], 85, (0, 0)⟩, ⟨nb2, [.slice none 0 0, I64 (0:Int)], 85, (0, 0)⟩]
  refine JL_nil ?_
  refine JQ_then ?_
  refine JC_seq ?_
  refine JC_seq ?_
  refine JC_region ?_
  refine JL_val (Ptr nb1 1) (Ev_fieldAddr 1 3 1 Try.underlying85 rfl Try.sizeOf3 rfl rfl) rfl ?_
  refine JL_val (I64 ((e:Int))) (Ev_load rfl (Ld_one Try.isAgg3 (MemAt.ent 0 rfl (Seg.tail (Seg.head))))) rfl ?_
  refine JL_val (.bool (decide (((e:Int)) ≠ (0:Int)))) (Ev_bini rfl rfl fun _ => bin_neq_i _ _) rfl ?_
  refine JL_nil ?_
  refine JQ_then ?_
  refine JC_condT _ rfl (decide_eq_true (by omega)) ?_
  refine JC_seq ?_
  refine JC_draw 44 2 [(0, .agg (List.toArray (α := Value) ([.slice ao n c, I64 ((e:Int))]))), (1, .slice none 0 0)] Try.mixed rfl (by decide +kernel) ?_
  refine DP_one ⟨[], [0, 1], [], [0, 1], [2]⟩ 2 _ rfl rfl (by decide +kernel) rfl ⟨⟨_, rfl, Qok_val rfl (Ev_load rfl (Ld_agg Try.isAgg85 Try.sizeOf85 rfl (MemAt.ent 0 rfl (Seg.whole _))))⟩, ⟨_, rfl, Qok_val rfl (Ev_assign rfl)⟩, trivial⟩ rfl (Cok_step rfl (Step_store 1 nb2 0 2 ([.slice none 0 0, I64 (0:Int)]) 85 (.agg (List.toArray (α := Value) ([.slice ao n c, I64 ((e:Int))]))) ([.slice ao n c, I64 ((e:Int))]) ([.slice ao n c, I64 ((e:Int))]) rfl rfl rfl (by first | rfl | simp) Try.sizeOf85 rfl (by simp [Value.oneCell']) (Nat.le_of_ble_eq_true rfl) (lay_whole (by simp [])))) ?_
  rintro v1 L1 ⟨rfl, rfl⟩
  refine ⟨[], ?_⟩
  show DP _ _ _ _ _ _ _ _ [⟨nb1, [.slice ao n c, I64 ((e:Int))], 85, (0, 0)⟩, ⟨nb2, [.slice ao n c, I64 ((e:Int))], 85, (0, 0)⟩]
  refine DP_end ⟨[2], [0, 1], [0, 1], [], []⟩ rfl rfl (by decide +kernel) rfl trivial ?_
  refine K_sub (F' := [(4, .slice none 0 0), (1, I64 (s)), (2, Ptr nb1 0), (5, Ptr nb2 0)]) (Sub.cons (by kernel_rfl) (Sub.cons (by kernel_rfl) (Sub.cons (by kernel_rfl) (Sub.cons (by kernel_rfl) (Sub.nil))))) ?_
  show JQ _ _ _ [(4, .slice none 0 0), (1, I64 (s)), (2, Ptr nb1 0), (5, Ptr nb2 0)] _
  refine JQ_then ?_
  refine JC_ret ?_
  refine JQ_then_ret ?_
  refine JQ_ret (.tuple #[.slice none 0 0, .agg (List.toArray (α := Value) ([.slice ao n c, I64 ((e:Int))]))]) (res2 Try.results55 (RV_tmp rfl) (RV_cell rfl (Ld_agg Try.isAgg85 Try.sizeOf85 rfl (MemAt.ent 1 rfl (Seg.whole _))))) fun w1 hw1 => ?_
  exact ⟨_, [], rfl, ⟨rfl, rfl⟩, hw1.sub (by simp) (by simp)⟩

theorem fieldS_c (ao : Option Addr) (n c e : Nat) (s : Int) (w : World) (he : e = 0) (hl : n < 2) : Calls Try.prog 55 #[.agg (List.toArray (α := Value) ([.slice ao n c, I64 ((e:Int))])), I64 (s)] w (Post w [] (fun v L => v = .tuple #[.slice none 0 0, .agg (List.toArray (α := Value) [.slice ao n c, I64 (2)])] ∧ L = [])) := by
  refine enter (P := Try.prog) (f := 55) (fn := Try.f55) w [] 44 [] [.agg (List.toArray (α := Value) ([.slice ao n c, I64 ((e:Int))])), I64 (s)] Try.func55 rfl rfl (by simp) (Hp.start (by simp) (by simp) (by simp)) ?_
  show JC _ _ _ [(0, .agg (List.toArray (α := Value) ([.slice ao n c, I64 ((e:Int))]))), (1, I64 (s))] _
  refine JC_seq ?_
  refine JC_region ?_
  refine JL_step (Step_box (.agg (List.toArray (α := Value) ([.slice ao n c, I64 ((e:Int))]))) ([.slice ao n c, I64 ((e:Int))]) rfl (by first | rfl | simp)) rfl ?_
  rintro v1 L1 ⟨nb1, hnb1, rfl, rfl⟩
  show JL _ _ _ _ ((2, Ptr nb1 0) :: _) [⟨nb1, [.slice ao n c, I64 ((e:Int))], 85, (0, 0)⟩]
  refine JL_val _ (Ev_assign rfl) rfl ?_
  refine JL_step (Step_alloc _ ([.slice none 0 0, I64 (0:Int)]) Try.zeroValue85 (by kernel_rfl)) rfl ?_
  rintro v1 L1 ⟨nb2, hnb2, rfl, rfl⟩
  show JL _ _ _ _ ((5, Ptr nb2 0) :: _) [⟨nb1, [.slice ao n c, I64 ((e:Int))], 85, (0, 0)⟩, ⟨nb2, [.slice none 0 0, I64 (0:Int)], 85, (0, 0)⟩]
  refine JL_nil ?_
  refine JQ_then ?_
  refine JC_seq ?_
  refine JC_seq ?_
  refine JC_region ?_
  refine JL_val (Ptr nb1 1) (Ev_fieldAddr 1 3 1 Try.underlying85 rfl Try.sizeOf3 rfl rfl) rfl ?_
  refine JL_val (I64 ((e:Int))) (Ev_load rfl (Ld_one Try.isAgg3 (MemAt.ent 0 rfl (Seg.tail (Seg.head))))) rfl ?_
  refine JL_val (.bool (decide (((e:Int)) ≠ (0:Int)))) (Ev_bini rfl rfl fun _ => bin_neq_i _ _) rfl ?_
  refine JL_nil ?_
  refine JQ_then ?_
  refine JC_condF _ rfl (decide_eq_false (by omega)) ?_
  refine JC_skip ?_
  refine JQ_then ?_
  refine JC_seq ?_
  refine JC_seq ?_
  refine JC_region ?_
  refine JL_val (Ptr nb1 0) (Ev_fieldAddr 0 38 1 Try.underlying85 rfl Try.sizeOf38 rfl rfl) rfl ?_
  refine JL_val (.slice ao n c) (Ev_load rfl (Ld_one Try.isAgg38 (MemAt.ent 0 rfl (Seg.head)))) rfl ?_
  refine JL_val (I64 ((n:Int))) (Ev_len Try.underlying38 rfl) rfl ?_
  refine JL_val (.bool (decide ((2:Int) ≤ ((n:Int))))) (Ev_bini rfl rfl fun _ => bin_geq_i _ _) rfl ?_
  refine JL_nil ?_
  refine JQ_then ?_
  refine JC_condF _ rfl (decide_eq_false (by omega)) ?_
  refine JC_skip ?_
  refine JQ_then ?_
  refine JC_seq ?_
  refine JC_region ?_
  refine JL_val (Ptr nb1 1) (Ev_fieldAddr 1 3 1 Try.underlying85 rfl Try.sizeOf3 rfl rfl) rfl ?_
  refine JL_step (Step_store 0 nb1 1 1 ([.slice ao n c, I64 ((e:Int))]) 85 (I64 (2:Int)) ([I64 (2:Int)]) ([.slice ao n c, I64 (2:Int)]) rfl rfl rfl rfl Try.sizeOf3 rfl (by simp [Value.oneCell']) (Nat.le_of_ble_eq_true rfl) (rfl)) rfl ?_
  rintro v1 L1 ⟨rfl, rfl⟩
  show JL _ _ _ _ _ [⟨nb1, [.slice ao n c, I64 (2:Int)], 85, (0, 0)⟩, ⟨nb2, [.slice none 0 0, I64 (0:Int)], 85, (0, 0)⟩]
  refine JL_nil ?_
  refine JQ_then ?_
  refine JC_seq ?_
  refine JC_draw 44 2 [(0, .agg (List.toArray (α := Value) ([.slice ao n c, I64 (2:Int)]))), (1, .slice none 0 0)] Try.mixed rfl (by decide +kernel) ?_
  refine DP_one ⟨[], [0, 1], [], [0, 1], [2]⟩ 2 _ rfl rfl (by decide +kernel) rfl ⟨⟨_, rfl, Qok_val rfl (Ev_load rfl (Ld_agg Try.isAgg85 Try.sizeOf85 rfl (MemAt.ent 0 rfl (Seg.whole _))))⟩, ⟨_, rfl, Qok_val rfl (Ev_assign rfl)⟩, trivial⟩ rfl (Cok_step rfl (Step_store 1 nb2 0 2 ([.slice none 0 0, I64 (0:Int)]) 85 (.agg (List.toArray (α := Value) ([.slice ao n c, I64 (2:Int)]))) ([.slice ao n c, I64 (2:Int)]) ([.slice ao n c, I64 (2:Int)]) rfl rfl rfl (by first | rfl | simp) Try.sizeOf85 rfl (by simp [Value.oneCell']) (Nat.le_of_ble_eq_true rfl) (lay_whole (by simp [])))) ?_
  rintro v1 L1 ⟨rfl, rfl⟩
  refine ⟨[], ?_⟩
  show DP _ _ _ _ _ _ _ _ [⟨nb1, [.slice ao n c, I64 (2:Int)], 85, (0, 0)⟩, ⟨nb2, [.slice ao n c, I64 (2:Int)], 85, (0, 0)⟩]
  refine DP_end ⟨[2], [0, 1], [0, 1], [], []⟩ rfl rfl (by decide +kernel) rfl trivial ?_
  refine K_sub (F' := [(4, .slice none 0 0), (5, Ptr nb2 0)]) (Sub.cons (by kernel_rfl) (Sub.cons (by kernel_rfl) (Sub.nil))) ?_
  show JQ _ _ _ [(4, .slice none 0 0), (5, Ptr nb2 0)] _
  refine JQ_then ?_
  refine JC_ret ?_
  refine JQ_ret (.tuple #[.slice none 0 0, .agg (List.toArray (α := Value) ([.slice ao n c, I64 (2:Int)]))]) (res2 Try.results55 (RV_tmp rfl) (RV_cell rfl (Ld_agg Try.isAgg85 Try.sizeOf85 rfl (MemAt.ent 1 rfl (Seg.whole _))))) fun w1 hw1 => ?_
  exact ⟨_, [], rfl, ⟨rfl, rfl⟩, hw1.sub (by simp) (by simp)⟩

theorem fieldB_c (ao : Option Addr) (n c e : Nat) (z : List UInt8) (s : Int) (w : World) (hz : z.length = n) (hn : n ≤ 2000000000) (hc : n ≤ c) (hcm : c ≤ maxLen) (hr : RdB w [] ao z) (he : e = 0) (hl : 2 ≤ n) (hb : s < (fdN z : Int) ∨ n < fdN z + 2) : Calls Try.prog 55 #[.agg (List.toArray (α := Value) ([.slice ao n c, I64 ((e:Int))])), I64 (s)] w (Post w [] (fun v L => v = .tuple #[.slice none 0 0, .agg (List.toArray (α := Value) [.slice ao n c, I64 (2)])] ∧ L = [])) := by
  have hfd := rval_fd z
  have hfb := fd_lt z
  refine enter (P := Try.prog) (f := 55) (fn := Try.f55) w [] 44 [] [.agg (List.toArray (α := Value) ([.slice ao n c, I64 ((e:Int))])), I64 (s)] Try.func55 rfl rfl (by simp) (Hp.start (by simp) (by simp) (by simp)) ?_
  show JC _ _ _ [(0, .agg (List.toArray (α := Value) ([.slice ao n c, I64 ((e:Int))]))), (1, I64 (s))] _
  refine JC_seq ?_
  refine JC_region ?_
  refine JL_step (Step_box (.agg (List.toArray (α := Value) ([.slice ao n c, I64 ((e:Int))]))) ([.slice ao n c, I64 ((e:Int))]) rfl (by first | rfl | simp)) rfl ?_
  rintro v1 L1 ⟨nb1, hnb1, rfl, rfl⟩
  show JL _ _ _ _ ((2, Ptr nb1 0) :: _) [⟨nb1, [.slice ao n c, I64 ((e:Int))], 85, (0, 0)⟩]
  refine JL_val _ (Ev_assign rfl) rfl ?_
  refine JL_step (Step_alloc _ ([.slice none 0 0, I64 (0:Int)]) Try.zeroValue85 (by kernel_rfl)) rfl ?_
  rintro v1 L1 ⟨nb2, hnb2, rfl, rfl⟩
  show JL _ _ _ _ ((5, Ptr nb2 0) :: _) [⟨nb1, [.slice ao n c, I64 ((e:Int))], 85, (0, 0)⟩, ⟨nb2, [.slice none 0 0, I64 (0:Int)], 85, (0, 0)⟩]
  refine JL_nil ?_
  refine JQ_then ?_
  refine JC_seq ?_
  refine JC_seq ?_
  refine JC_region ?_
  refine JL_val (Ptr nb1 1) (Ev_fieldAddr 1 3 1 Try.underlying85 rfl Try.sizeOf3 rfl rfl) rfl ?_
  refine JL_val (I64 ((e:Int))) (Ev_load rfl (Ld_one Try.isAgg3 (MemAt.ent 0 rfl (Seg.tail (Seg.head))))) rfl ?_
  refine JL_val (.bool (decide (((e:Int)) ≠ (0:Int)))) (Ev_bini rfl rfl fun _ => bin_neq_i _ _) rfl ?_
  refine JL_nil ?_
  refine JQ_then ?_
  refine JC_condF _ rfl (decide_eq_false (by omega)) ?_
  refine JC_skip ?_
  refine JQ_then ?_
  refine JC_seq ?_
  refine JC_seq ?_
  refine JC_region ?_
  refine JL_val (Ptr nb1 0) (Ev_fieldAddr 0 38 1 Try.underlying85 rfl Try.sizeOf38 rfl rfl) rfl ?_
  refine JL_val (.slice ao n c) (Ev_load rfl (Ld_one Try.isAgg38 (MemAt.ent 0 rfl (Seg.head)))) rfl ?_
  refine JL_val (I64 ((n:Int))) (Ev_len Try.underlying38 rfl) rfl ?_
  refine JL_val (.bool (decide ((2:Int) ≤ ((n:Int))))) (Ev_bini rfl rfl fun _ => bin_geq_i _ _) rfl ?_
  refine JL_nil ?_
  refine JQ_then ?_
  refine JC_condT _ rfl (decide_eq_true (by omega)) ?_
  refine JC_seq ?_
  refine JC_region ?_
  refine JL_val (Ptr nb1 0) (Ev_fieldAddr 0 38 1 Try.underlying85 rfl Try.sizeOf38 rfl rfl) rfl ?_
  refine JL_val (.slice ao n c) (Ev_load rfl (Ld_one Try.isAgg38 (MemAt.ent 0 rfl (Seg.head)))) rfl ?_
  have hl1 : (mid z 0 2).length = 2 := mid_len (by rw [hz]; omega)
  have hr1 := RdB.pre hr 2
  refine JL_val (.slice ao 2 c) (Ev_sliceHi 5 1 2 Try.underlying38 Try.sizeOf5 rfl rfl (by omega)) rfl ?_
  refine JL_step (Step_callP 84 [.slice ao 2 c] (U64 (rvalK (mid z 0 2) 2)) (Cl_func [.slice ao 2 c] Try.call84 rfl) (fun w1 hw1 => value_c ao 2 c (mid z 0 2) w1 hl1 (by omega) (hr1.at (M' := []) hw1 (by simp)))) rfl ?_
  rintro v1 L1 ⟨rfl, rfl⟩
  show JL _ _ _ _ ((18, U64 (rvalK (mid z 0 2) 2)) :: _) [⟨nb1, [.slice ao n c, I64 ((e:Int))], 85, (0, 0)⟩, ⟨nb2, [.slice none 0 0, I64 (0:Int)], 85, (0, 0)⟩]
  refine JL_val (I64 (((rvalK (mid z 0 2) 2).toNat:Int))) (Ev_conv _ _ rfl fun _ => conv_u64_i64 (by rw [Try.underlying44]; rfl) Try.underlying3 (rvalK (mid z 0 2) 2) _ rfl (by omega)) rfl ?_
  refine JL_val _ (Ev_assign rfl) rfl ?_
  refine JL_nil ?_
  refine JQ_then ?_
  refine JC_seq ?_
  refine JC_region ?_
  refine JL_val _ (Ev_move rfl) rfl ?_
  refine JL_val _ (Ev_move rfl) rfl ?_
  refine JL_val (.bool (decide ((((rvalK (mid z 0 2) 2).toNat:Int)) ≤ (s)))) (Ev_bini rfl rfl fun _ => bin_leq_i _ _) rfl ?_
  refine JL_val _ (Ev_move rfl) rfl ?_
  rcases Bool.eq_false_or_eq_true (decide ((((rvalK (mid z 0 2) 2).toNat:Int)) ≤ (s))) with hb1 | hb1
  ·
    have hp1 : (((rvalK (mid z 0 2) 2).toNat:Int)) ≤ (s) := of_decide_eq_true hb1
    refine JL_gval 3 23 true _ _ rfl rfl hb1 (Ev_move rfl) rfl ?_
    refine JL_gval 3 23 true _ (Ptr nb1 0) rfl rfl hb1 (Ev_fieldAddr 0 38 1 Try.underlying85 rfl Try.sizeOf38 rfl rfl) rfl ?_
    refine JL_gval 3 23 true _ (.slice ao n c) rfl rfl hb1 (Ev_load rfl (Ld_one Try.isAgg38 (MemAt.ent 0 rfl (Seg.head)))) rfl ?_
    refine JL_gval 3 23 true _ (I64 ((n:Int))) rfl rfl hb1 (Ev_len Try.underlying38 rfl) rfl ?_
    refine JL_gval 3 23 true _ (I64 ((n:Int) - 2)) rfl rfl hb1 (Ev_bini rfl rfl fun _ => bin_sub_i _ _ ((n:Int) - 2) (by omega) (by omega)) rfl ?_
    refine JL_gval 3 23 true _ (.bool (decide ((((rvalK (mid z 0 2) 2).toNat:Int)) ≤ ((n:Int) - 2)))) rfl rfl hb1 (Ev_bini rfl rfl fun _ => bin_leq_i _ _) rfl ?_
    refine JL_val _ (Ev_pickT _ rfl hb1 rfl) rfl ?_
    refine JL_nil ?_
    refine JQ_then ?_
    refine JC_condF _ rfl (decide_eq_false (by omega)) ?_
    refine JC_skip ?_
    refine JQ_then ?_
    refine JC_seq ?_
    refine JC_region ?_
    refine JL_val (Ptr nb1 1) (Ev_fieldAddr 1 3 1 Try.underlying85 rfl Try.sizeOf3 rfl rfl) rfl ?_
    refine JL_step (Step_store 0 nb1 1 1 ([.slice ao n c, I64 ((e:Int))]) 85 (I64 (2:Int)) ([I64 (2:Int)]) ([.slice ao n c, I64 (2:Int)]) rfl rfl rfl rfl Try.sizeOf3 rfl (by simp [Value.oneCell']) (Nat.le_of_ble_eq_true rfl) (rfl)) rfl ?_
    rintro v1 L1 ⟨rfl, rfl⟩
    show JL _ _ _ _ _ [⟨nb1, [.slice ao n c, I64 (2:Int)], 85, (0, 0)⟩, ⟨nb2, [.slice none 0 0, I64 (0:Int)], 85, (0, 0)⟩]
    refine JL_nil ?_
    refine JQ_then ?_
    refine JC_seq ?_
    refine JC_draw 44 2 [(0, .agg (List.toArray (α := Value) ([.slice ao n c, I64 (2:Int)]))), (1, .slice none 0 0)] Try.mixed rfl (by decide +kernel) ?_
    refine DP_one ⟨[], [0, 1], [], [0, 1], [2]⟩ 2 _ rfl rfl (by decide +kernel) rfl ⟨⟨_, rfl, Qok_val rfl (Ev_load rfl (Ld_agg Try.isAgg85 Try.sizeOf85 rfl (MemAt.ent 0 rfl (Seg.whole _))))⟩, ⟨_, rfl, Qok_val rfl (Ev_assign rfl)⟩, trivial⟩ rfl (Cok_step rfl (Step_store 1 nb2 0 2 ([.slice none 0 0, I64 (0:Int)]) 85 (.agg (List.toArray (α := Value) ([.slice ao n c, I64 (2:Int)]))) ([.slice ao n c, I64 (2:Int)]) ([.slice ao n c, I64 (2:Int)]) rfl rfl rfl (by first | rfl | simp) Try.sizeOf85 rfl (by simp [Value.oneCell']) (Nat.le_of_ble_eq_true rfl) (lay_whole (by simp [])))) ?_
    rintro v1 L1 ⟨rfl, rfl⟩
    refine ⟨[], ?_⟩
    show DP _ _ _ _ _ _ _ _ [⟨nb1, [.slice ao n c, I64 (2:Int)], 85, (0, 0)⟩, ⟨nb2, [.slice ao n c, I64 (2:Int)], 85, (0, 0)⟩]
    refine DP_end ⟨[2], [0, 1], [0, 1], [], []⟩ rfl rfl (by decide +kernel) rfl trivial ?_
    refine K_sub (F' := [(4, .slice none 0 0), (5, Ptr nb2 0)]) (Sub.cons (by kernel_rfl) (Sub.cons (by kernel_rfl) (Sub.nil))) ?_
    show JQ _ _ _ [(4, .slice none 0 0), (5, Ptr nb2 0)] _
    refine JQ_then ?_
    refine JC_ret ?_
    refine JQ_ret (.tuple #[.slice none 0 0, .agg (List.toArray (α := Value) ([.slice ao n c, I64 (2:Int)]))]) (res2 Try.results55 (RV_tmp rfl) (RV_cell rfl (Ld_agg Try.isAgg85 Try.sizeOf85 rfl (MemAt.ent 1 rfl (Seg.whole _))))) fun w1 hw1 => ?_
    exact ⟨_, [], rfl, ⟨rfl, rfl⟩, hw1.sub (by simp) (by simp)⟩
  ·
    have hp1 : ¬ ((((rvalK (mid z 0 2) 2).toNat:Int)) ≤ (s)) := of_decide_eq_false hb1
    refine JL_gskip 3 23 true _ rfl rfl hb1 rfl ?_
    refine JL_gskip 3 23 true _ rfl rfl hb1 rfl ?_
    refine JL_gskip 3 23 true _ rfl rfl hb1 rfl ?_
    refine JL_gskip 3 23 true _ rfl rfl hb1 rfl ?_
    refine JL_gskip 3 23 true _ rfl rfl hb1 rfl ?_
    refine JL_gskip 3 23 true _ rfl rfl hb1 rfl ?_
    refine JL_val _ (Ev_pickF _ rfl hb1 rfl) rfl ?_
    refine JL_nil ?_
    refine JQ_then ?_
    refine JC_condF _ rfl rfl ?_
    refine JC_skip ?_
    refine JQ_then ?_
    refine JC_seq ?_
    refine JC_region ?_
    refine JL_val (Ptr nb1 1) (Ev_fieldAddr 1 3 1 Try.underlying85 rfl Try.sizeOf3 rfl rfl) rfl ?_
    refine JL_step (Step_store 0 nb1 1 1 ([.slice ao n c, I64 ((e:Int))]) 85 (I64 (2:Int)) ([I64 (2:Int)]) ([.slice ao n c, I64 (2:Int)]) rfl rfl rfl rfl Try.sizeOf3 rfl (by simp [Value.oneCell']) (Nat.le_of_ble_eq_true rfl) (rfl)) rfl ?_
    rintro v1 L1 ⟨rfl, rfl⟩
    show JL _ _ _ _ _ [⟨nb1, [.slice ao n c, I64 (2:Int)], 85, (0, 0)⟩, ⟨nb2, [.slice none 0 0, I64 (0:Int)], 85, (0, 0)⟩]
    refine JL_nil ?_
    refine JQ_then ?_
    refine JC_seq ?_
    refine JC_draw 44 2 [(0, .agg (List.toArray (α := Value) ([.slice ao n c, I64 (2:Int)]))), (1, .slice none 0 0)] Try.mixed rfl (by decide +kernel) ?_
    refine DP_one ⟨[], [0, 1], [], [0, 1], [2]⟩ 2 _ rfl rfl (by decide +kernel) rfl ⟨⟨_, rfl, Qok_val rfl (Ev_load rfl (Ld_agg Try.isAgg85 Try.sizeOf85 rfl (MemAt.ent 0 rfl (Seg.whole _))))⟩, ⟨_, rfl, Qok_val rfl (Ev_assign rfl)⟩, trivial⟩ rfl (Cok_step rfl (Step_store 1 nb2 0 2 ([.slice none 0 0, I64 (0:Int)]) 85 (.agg (List.toArray (α := Value) ([.slice ao n c, I64 (2:Int)]))) ([.slice ao n c, I64 (2:Int)]) ([.slice ao n c, I64 (2:Int)]) rfl rfl rfl (by first | rfl | simp) Try.sizeOf85 rfl (by simp [Value.oneCell']) (Nat.le_of_ble_eq_true rfl) (lay_whole (by simp [])))) ?_
    rintro v1 L1 ⟨rfl, rfl⟩
    refine ⟨[], ?_⟩
    show DP _ _ _ _ _ _ _ _ [⟨nb1, [.slice ao n c, I64 (2:Int)], 85, (0, 0)⟩, ⟨nb2, [.slice ao n c, I64 (2:Int)], 85, (0, 0)⟩]
    refine DP_end ⟨[2], [0, 1], [0, 1], [], []⟩ rfl rfl (by decide +kernel) rfl trivial ?_
    refine K_sub (F' := [(4, .slice none 0 0), (5, Ptr nb2 0)]) (Sub.cons (by kernel_rfl) (Sub.cons (by kernel_rfl) (Sub.nil))) ?_
    show JQ _ _ _ [(4, .slice none 0 0), (5, Ptr nb2 0)] _
    refine JQ_then ?_
    refine JC_ret ?_
    refine JQ_ret (.tuple #[.slice none 0 0, .agg (List.toArray (α := Value) ([.slice ao n c, I64 (2:Int)]))]) (res2 Try.results55 (RV_tmp rfl) (RV_cell rfl (Ld_agg Try.isAgg85 Try.sizeOf85 rfl (MemAt.ent 1 rfl (Seg.whole _))))) fun w1 hw1 => ?_
    exact ⟨_, [], rfl, ⟨rfl, rfl⟩, hw1.sub (by simp) (by simp)⟩

theorem fieldOk_c (ao : Option Addr) (n c e : Nat) (z : List UInt8) (s : Int) (q cq n2 c2 : Nat) (w : World) (hz : z.length = n) (hn : n ≤ 2000000000) (hc : n ≤ c) (hcm : c ≤ maxLen) (hr : RdB w [] ao z) (he : e = 0) (hl : 2 ≤ n) (hq : q = (rvalK (mid z 0 2) 2).toNat) (hb : (q : Int) ≤ s) (hq2 : q + 2 ≤ n) (ht1 : q + 2 + n2 = n) (ht2 : q + 2 + c2 = c) (ht3 : 2 + cq = c) : Calls Try.prog 55 #[.agg (List.toArray (α := Value) ([.slice ao n c, I64 ((e:Int))])), I64 (s)] w (Post w [] (fun v L => v = .tuple #[.slice (advA ao c 2) q cq, .agg (List.toArray (α := Value) [.slice (advA ao c (q + 2)) n2 c2, I64 (0)])] ∧ L = [])) := by
  have hfd := rval_fd z
  have hfb := fd_lt z
  refine enter (P := Try.prog) (f := 55) (fn := Try.f55) w [] 44 [] [.agg (List.toArray (α := Value) ([.slice ao n c, I64 ((e:Int))])), I64 (s)] Try.func55 rfl rfl (by simp) (Hp.start (by simp) (by simp) (by simp)) ?_
  show JC _ _ _ [(0, .agg (List.toArray (α := Value) ([.slice ao n c, I64 ((e:Int))]))), (1, I64 (s))] _
  refine JC_seq ?_
  refine JC_region ?_
  refine JL_step (Step_box (.agg (List.toArray (α := Value) ([.slice ao n c, I64 ((e:Int))]))) ([.slice ao n c, I64 ((e:Int))]) rfl (by first | rfl | simp)) rfl ?_
  rintro v1 L1 ⟨nb1, hnb1, rfl, rfl⟩
  show JL _ _ _ _ ((2, Ptr nb1 0) :: _) [⟨nb1, [.slice ao n c, I64 ((e:Int))], 85, (0, 0)⟩]
  refine JL_val _ (Ev_assign rfl) rfl ?_
  refine JL_step (Step_alloc _ ([.slice none 0 0, I64 (0:Int)]) Try.zeroValue85 (by kernel_rfl)) rfl ?_
  rintro v1 L1 ⟨nb2, hnb2, rfl, rfl⟩
  show JL _ _ _ _ ((5, Ptr nb2 0) :: _) [⟨nb1, [.slice ao n c, I64 ((e:Int))], 85, (0, 0)⟩, ⟨nb2, [.slice none 0 0, I64 (0:Int)], 85, (0, 0)⟩]
  refine JL_nil ?_
  refine JQ_then ?_
  refine JC_seq ?_
  refine JC_seq ?_
  refine JC_region ?_
  refine JL_val (Ptr nb1 1) (Ev_fieldAddr 1 3 1 Try.underlying85 rfl Try.sizeOf3 rfl rfl) rfl ?_
  refine JL_val (I64 ((e:Int))) (Ev_load rfl (Ld_one Try.isAgg3 (MemAt.ent 0 rfl (Seg.tail (Seg.head))))) rfl ?_
  refine JL_val (.bool (decide (((e:Int)) ≠ (0:Int)))) (Ev_bini rfl rfl fun _ => bin_neq_i _ _) rfl ?_
  refine JL_nil ?_
  refine JQ_then ?_
  refine JC_condF _ rfl (decide_eq_false (by omega)) ?_
  refine JC_skip ?_
  refine JQ_then ?_
  refine JC_seq ?_
  refine JC_seq ?_
  refine JC_region ?_
  refine JL_val (Ptr nb1 0) (Ev_fieldAddr 0 38 1 Try.underlying85 rfl Try.sizeOf38 rfl rfl) rfl ?_
  refine JL_val (.slice ao n c) (Ev_load rfl (Ld_one Try.isAgg38 (MemAt.ent 0 rfl (Seg.head)))) rfl ?_
  refine JL_val (I64 ((n:Int))) (Ev_len Try.underlying38 rfl) rfl ?_
  refine JL_val (.bool (decide ((2:Int) ≤ ((n:Int))))) (Ev_bini rfl rfl fun _ => bin_geq_i _ _) rfl ?_
  refine JL_nil ?_
  refine JQ_then ?_
  refine JC_condT _ rfl (decide_eq_true (by omega)) ?_
  refine JC_seq ?_
  refine JC_region ?_
  refine JL_val (Ptr nb1 0) (Ev_fieldAddr 0 38 1 Try.underlying85 rfl Try.sizeOf38 rfl rfl) rfl ?_
  refine JL_val (.slice ao n c) (Ev_load rfl (Ld_one Try.isAgg38 (MemAt.ent 0 rfl (Seg.head)))) rfl ?_
  have hl1 : (mid z 0 2).length = 2 := mid_len (by rw [hz]; omega)
  have hr1 := RdB.pre hr 2
  refine JL_val (.slice ao 2 c) (Ev_sliceHi 5 1 2 Try.underlying38 Try.sizeOf5 rfl rfl (by omega)) rfl ?_
  refine JL_step (Step_callP 84 [.slice ao 2 c] (U64 (rvalK (mid z 0 2) 2)) (Cl_func [.slice ao 2 c] Try.call84 rfl) (fun w1 hw1 => value_c ao 2 c (mid z 0 2) w1 hl1 (by omega) (hr1.at (M' := []) hw1 (by simp)))) rfl ?_
  rintro v1 L1 ⟨rfl, rfl⟩
  show JL _ _ _ _ ((18, U64 (rvalK (mid z 0 2) 2)) :: _) [⟨nb1, [.slice ao n c, I64 ((e:Int))], 85, (0, 0)⟩, ⟨nb2, [.slice none 0 0, I64 (0:Int)], 85, (0, 0)⟩]
  refine JL_val (I64 (((rvalK (mid z 0 2) 2).toNat:Int))) (Ev_conv _ _ rfl fun _ => conv_u64_i64 (by rw [Try.underlying44]; rfl) Try.underlying3 (rvalK (mid z 0 2) 2) _ rfl (by omega)) rfl ?_
  refine JL_val _ (Ev_assign rfl) rfl ?_
  refine JL_nil ?_
  refine JQ_then ?_
  refine JC_seq ?_
  refine JC_region ?_
  refine JL_val _ (Ev_move rfl) rfl ?_
  refine JL_val _ (Ev_move rfl) rfl ?_
  refine JL_val (.bool (decide ((((rvalK (mid z 0 2) 2).toNat:Int)) ≤ (s)))) (Ev_bini rfl rfl fun _ => bin_leq_i _ _) rfl ?_
  refine JL_val _ (Ev_move rfl) rfl ?_
  refine JL_gval 3 23 true _ _ rfl rfl (decide_eq_true (by omega)) (Ev_move rfl) rfl ?_
  refine JL_gval 3 23 true _ (Ptr nb1 0) rfl rfl (decide_eq_true (by omega)) (Ev_fieldAddr 0 38 1 Try.underlying85 rfl Try.sizeOf38 rfl rfl) rfl ?_
  refine JL_gval 3 23 true _ (.slice ao n c) rfl rfl (decide_eq_true (by omega)) (Ev_load rfl (Ld_one Try.isAgg38 (MemAt.ent 0 rfl (Seg.head)))) rfl ?_
  refine JL_gval 3 23 true _ (I64 ((n:Int))) rfl rfl (decide_eq_true (by omega)) (Ev_len Try.underlying38 rfl) rfl ?_
  refine JL_gval 3 23 true _ (I64 ((n:Int) - 2)) rfl rfl (decide_eq_true (by omega)) (Ev_bini rfl rfl fun _ => bin_sub_i _ _ ((n:Int) - 2) (by omega) (by omega)) rfl ?_
  refine JL_gval 3 23 true _ (.bool (decide ((((rvalK (mid z 0 2) 2).toNat:Int)) ≤ ((n:Int) - 2)))) rfl rfl (decide_eq_true (by omega)) (Ev_bini rfl rfl fun _ => bin_leq_i _ _) rfl ?_
  refine JL_val _ (Ev_pickT _ rfl (decide_eq_true (by omega)) rfl) rfl ?_
  refine JL_nil ?_
  refine JQ_then ?_
  refine JC_condT _ rfl (decide_eq_true (by omega)) ?_
  refine JC_seq ?_
  have hl2 : (mid (z.drop 2) 0 ((rvalK (mid z 0 2) 2).toNat)).length = ((rvalK (mid z 0 2) 2).toNat) := mid_len (by rw [List.length_drop, hz]; omega)
  have hr2 := RdB.pre (RdB.adv (c := c) hr 2 (by rw [hz]; omega) (by rw [hz]; omega)) ((rvalK (mid z 0 2) 2).toNat)
  have hl4 : (z.drop (((rvalK (mid z 0 2) 2).toNat) + 2)).length = (n - ((rvalK (mid z 0 2) 2).toNat) - 2) := by rw [List.length_drop, hz] <;> omega
  have hr4 := RdB.adv (c := c) hr (((rvalK (mid z 0 2) 2).toNat) + 2) (by rw [hz]; omega) (by rw [hz]; omega)
  refine JC_draw 44 2 [(0, Ptr nb1 0), (1, .slice ao n c), (2, I64 (((rvalK (mid z 0 2) 2).toNat:Int))), (3, I64 (((rvalK (mid z 0 2) 2).toNat:Int) + 2)), (4, .slice (advA ao c 2) ((rvalK (mid z 0 2) 2).toNat) (c - 2)), (5, Ptr nb1 0), (6, .slice ao n c), (7, I64 (((rvalK (mid z 0 2) 2).toNat:Int))), (8, I64 (((rvalK (mid z 0 2) 2).toNat:Int) + 2)), (9, .slice (advA ao c (((rvalK (mid z 0 2) 2).toNat) + 2)) (n - ((rvalK (mid z 0 2) 2).toNat) - 2) (c - ((rvalK (mid z 0 2) 2).toNat) - 2)), (10, .agg (List.toArray (α := Value) ([.slice (advA ao c (((rvalK (mid z 0 2) 2).toNat) + 2)) (n - ((rvalK (mid z 0 2) 2).toNat) - 2) (c - ((rvalK (mid z 0 2) 2).toNat) - 2), I64 (0:Int)]))), (11, .slice (advA ao c 2) ((rvalK (mid z 0 2) 2).toNat) (c - 2))] Try.mixed rfl (by decide +kernel) ?_
  have hl5 : (mid (z.drop 2) 0 ((rvalK (mid z 0 2) 2).toNat)).length = ((rvalK (mid z 0 2) 2).toNat) := mid_len (by rw [List.length_drop, hz]; omega)
  have hr5 := RdB.pre (RdB.adv (c := c) hr 2 (by rw [hz]; omega) (by rw [hz]; omega)) ((rvalK (mid z 0 2) 2).toNat)
  have hl7 : (z.drop (((rvalK (mid z 0 2) 2).toNat) + 2)).length = (n - ((rvalK (mid z 0 2) 2).toNat) - 2) := by rw [List.length_drop, hz] <;> omega
  have hr7 := RdB.adv (c := c) hr (((rvalK (mid z 0 2) 2).toNat) + 2) (by rw [hz]; omega) (by rw [hz]; omega)
  refine DP_one ⟨[], [0, 1, 2, 3, 4, 5, 6, 7, 8, 9, 10, 11], [], [0, 1, 2, 3, 4, 5, 6, 7, 8, 9, 10, 11], [12]⟩ 12 _ rfl rfl (by decide +kernel) rfl ⟨⟨_, rfl, Qok_val rfl (Ev_fieldAddr 0 38 1 Try.underlying85 rfl Try.sizeOf38 rfl rfl)⟩, ⟨_, rfl, Qok_val rfl (Ev_load rfl (Ld_one Try.isAgg38 (MemAt.ent 0 rfl (Seg.head))))⟩, ⟨_, rfl, Qok_val rfl (Ev_move rfl)⟩, ⟨_, rfl, Qok_val rfl (Ev_bini rfl rfl fun _ => bin_add_i _ _ (((rvalK (mid z 0 2) 2).toNat:Int) + 2) (by omega) (by omega))⟩, ⟨_, rfl, Qok_val rfl (Ev_sliceBoth 5 2 (((rvalK (mid z 0 2) 2).toNat) + 2) ((rvalK (mid z 0 2) 2).toNat) (c - 2) Try.underlying38 Try.sizeOf5 rfl rfl (some_i64 (by omega)) (by omega) (by omega) (by omega) (by omega))⟩, ⟨_, rfl, Qok_val rfl (Ev_fieldAddr 0 38 1 Try.underlying85 rfl Try.sizeOf38 rfl rfl)⟩, ⟨_, rfl, Qok_val rfl (Ev_load rfl (Ld_one Try.isAgg38 (MemAt.ent 0 rfl (Seg.head))))⟩, ⟨_, rfl, Qok_val rfl (Ev_move rfl)⟩, ⟨_, rfl, Qok_val rfl (Ev_bini rfl rfl fun _ => bin_add_i _ _ (((rvalK (mid z 0 2) 2).toNat:Int) + 2) (by omega) (by omega))⟩, ⟨_, rfl, Qok_val rfl (Ev_sliceLo 5 (((rvalK (mid z 0 2) 2).toNat) + 2) (n - ((rvalK (mid z 0 2) 2).toNat) - 2) (c - ((rvalK (mid z 0 2) 2).toNat) - 2) Try.underlying38 Try.sizeOf5 rfl (some_i64 (by omega)) (by omega) (by omega) (by omega) (by omega))⟩, ⟨_, rfl, Qok_val rfl (Ev_build [(0, .slice (advA ao c (((rvalK (mid z 0 2) 2).toNat) + 2)) (n - ((rvalK (mid z 0 2) 2).toNat) - 2) (c - ((rvalK (mid z 0 2) 2).toNat) - 2))] _ rfl (fun _ => by kernel_rfl))⟩, ⟨_, rfl, Qok_val rfl (Ev_assign rfl)⟩, trivial⟩ rfl (Cok_step rfl (Step_store 1 nb2 0 2 ([.slice none 0 0, I64 (0:Int)]) 85 (.agg (List.toArray (α := Value) ([.slice (advA ao c (((rvalK (mid z 0 2) 2).toNat) + 2)) (n - ((rvalK (mid z 0 2) 2).toNat) - 2) (c - ((rvalK (mid z 0 2) 2).toNat) - 2), I64 (0:Int)]))) ([.slice (advA ao c (((rvalK (mid z 0 2) 2).toNat) + 2)) (n - ((rvalK (mid z 0 2) 2).toNat) - 2) (c - ((rvalK (mid z 0 2) 2).toNat) - 2), I64 (0:Int)]) ([.slice (advA ao c (((rvalK (mid z 0 2) 2).toNat) + 2)) (n - ((rvalK (mid z 0 2) 2).toNat) - 2) (c - ((rvalK (mid z 0 2) 2).toNat) - 2), I64 (0:Int)]) rfl rfl rfl (by first | rfl | simp) Try.sizeOf85 rfl (by simp [Value.oneCell']) (Nat.le_of_ble_eq_true rfl) (lay_whole (by simp [])))) ?_
  rintro v1 L1 ⟨rfl, rfl⟩
  refine ⟨[], ?_⟩
  show DP _ _ _ _ _ _ _ _ [⟨nb1, [.slice ao n c, I64 ((e:Int))], 85, (0, 0)⟩, ⟨nb2, [.slice (advA ao c (((rvalK (mid z 0 2) 2).toNat) + 2)) (n - ((rvalK (mid z 0 2) 2).toNat) - 2) (c - ((rvalK (mid z 0 2) 2).toNat) - 2), I64 (0:Int)], 85, (0, 0)⟩]
  refine DP_end ⟨[12], [0, 1, 2, 3, 4, 5, 6, 7, 8, 9, 10, 11], [0, 1, 2, 3, 4, 5, 6, 7, 8, 9, 10, 11], [], []⟩ rfl rfl (by decide +kernel) rfl trivial ?_
  refine K_sub (F' := [(4, .slice (advA ao c 2) ((rvalK (mid z 0 2) 2).toNat) (c - 2)), (2, Ptr nb1 0), (5, Ptr nb2 0)]) (Sub.cons (by kernel_rfl) (Sub.cons (by kernel_rfl) (Sub.cons (by kernel_rfl) (Sub.nil)))) ?_
  show JQ _ _ _ [(4, .slice (advA ao c 2) ((rvalK (mid z 0 2) 2).toNat) (c - 2)), (2, Ptr nb1 0), (5, Ptr nb2 0)] _
  refine JQ_then ?_
  refine JC_ret ?_
  refine JQ_then_ret ?_
  refine JQ_ret (.tuple #[.slice (advA ao c 2) ((rvalK (mid z 0 2) 2).toNat) (c - 2), .agg (List.toArray (α := Value) ([.slice (advA ao c (((rvalK (mid z 0 2) 2).toNat) + 2)) (n - ((rvalK (mid z 0 2) 2).toNat) - 2) (c - ((rvalK (mid z 0 2) 2).toNat) - 2), I64 (0:Int)]))]) (res2 Try.results55 (RV_tmp rfl) (RV_cell rfl (Ld_agg Try.isAgg85 Try.sizeOf85 rfl (MemAt.ent 1 rfl (Seg.whole _))))) fun w1 hw1 => ?_
  obtain rfl : q = ((rvalK (mid z 0 2) 2).toNat) := by omega
  obtain rfl : n2 = (n - ((rvalK (mid z 0 2) 2).toNat) - 2) := by omega
  obtain rfl : c2 = (c - ((rvalK (mid z 0 2) 2).toNat) - 2) := by omega
  obtain rfl : cq = (c - 2) := by omega
  exact ⟨_, [], rfl, ⟨by first | rfl | (rw [show 2 + q = q + 2 from Nat.add_comm _ _]), rfl⟩, hw1.sub (by simp) (by simp)⟩

theorem boolE_c (ao : Option Addr) (n c e : Nat)  (w : World) (he : e ≠ 0) : Calls Try.prog 61 #[.agg (List.toArray (α := Value) ([.slice ao n c, I64 ((e:Int))]))] w (Post w [] (fun v L => v = .tuple #[.bool false, .agg (List.toArray (α := Value) [.slice ao n c, I64 (e)])] ∧ L = [])) := by
  refine enter (P := Try.prog) (f := 61) (fn := Try.f61) w [] 30 [] [.agg (List.toArray (α := Value) ([.slice ao n c, I64 ((e:Int))]))] Try.func61 rfl rfl (by simp) (Hp.start (by simp) (by simp) (by simp)) ?_
  show JC _ _ _ [(0, .agg (List.toArray (α := Value) ([.slice ao n c, I64 ((e:Int))])))] _
  refine JC_seq ?_
  refine JC_region ?_
  refine JL_step (Step_box (.agg (List.toArray (α := Value) ([.slice ao n c, I64 ((e:Int))]))) ([.slice ao n c, I64 ((e:Int))]) rfl (by first | rfl | simp)) rfl ?_
  rintro v1 L1 ⟨nb1, hnb1, rfl, rfl⟩
  show JL _ _ _ _ ((1, Ptr nb1 0) :: _) [⟨nb1, [.slice ao n c, I64 ((e:Int))], 85, (0, 0)⟩]
  refine JL_val _ (Ev_assign rfl) rfl ?_
  refine JL_step (Step_alloc _ ([.slice none 0 0, I64 (0:Int)]) Try.zeroValue85 (by kernel_rfl)) rfl ?_
  rintro v1 L1 ⟨nb2, hnb2, rfl, rfl⟩
  show JL _ _ _ _ ((3, Ptr nb2 0) :: _) [⟨nb1, [.slice ao n c, I64 ((e:Int))], 85, (0, 0)⟩, ⟨nb2, [.slice none 0 0, I64 (0:Int)], 85, (0, 0)⟩]
  refine JL_nil ?_
  refine JQ_then ?_
  refine JC_seq ?_
  refine JC_seq ?_
  refine JC_region ?_
  refine JL_val (Ptr nb1 1) (Ev_fieldAddr 1 3 1 Try.underlying85 rfl Try.sizeOf3 rfl rfl) rfl ?_
  refine JL_val (I64 ((e:Int))) (Ev_load rfl (Ld_one Try.isAgg3 (MemAt.ent 0 rfl (Seg.tail (Seg.head))))) rfl ?_
  refine JL_val (.bool (decide (((e:Int)) ≠ (0:Int)))) (Ev_bini rfl rfl fun _ => bin_neq_i _ _) rfl ?_
  refine JL_nil ?_
  refine JQ_then ?_
  refine JC_condT _ rfl (decide_eq_true (by omega)) ?_
  refine JC_seq ?_
  refine JC_draw 30 2 [(0, .agg (List.toArray (α := Value) ([.slice ao n c, I64 ((e:Int))]))), (1, .bool false)] Try.mixed rfl (by decide +kernel) ?_
  refine DP_one ⟨[], [0, 1], [], [0, 1], [2]⟩ 2 _ rfl rfl (by decide +kernel) rfl ⟨⟨_, rfl, Qok_val rfl (Ev_load rfl (Ld_agg Try.isAgg85 Try.sizeOf85 rfl (MemAt.ent 0 rfl (Seg.whole _))))⟩, ⟨_, rfl, Qok_val rfl (Ev_assign rfl)⟩, trivial⟩ rfl (Cok_step rfl (Step_store 1 nb2 0 2 ([.slice none 0 0, I64 (0:Int)]) 85 (.agg (List.toArray (α := Value) ([.slice ao n c, I64 ((e:Int))]))) ([.slice ao n c, I64 ((e:Int))]) ([.slice ao n c, I64 ((e:Int))]) rfl rfl rfl (by first | rfl | simp) Try.sizeOf85 rfl (by simp [Value.oneCell']) (Nat.le_of_ble_eq_true rfl) (lay_whole (by simp [])))) ?_
  rintro v1 L1 ⟨rfl, rfl⟩
  refine ⟨[], ?_⟩
  show DP _ _ _ _ _ _ _ _ [⟨nb1, [.slice ao n c, I64 ((e:Int))], 85, (0, 0)⟩, ⟨nb2, [.slice ao n c, I64 ((e:Int))], 85, (0, 0)⟩]
  refine DP_end ⟨[2], [0, 1], [0, 1], [], []⟩ rfl rfl (by decide +kernel) rfl trivial ?_
  refine K_sub (F' := [(2, .bool false), (1, Ptr nb1 0), (3, Ptr nb2 0)]) (Sub.cons (by kernel_rfl) (Sub.cons (by kernel_rfl) (Sub.cons (by kernel_rfl) (Sub.nil)))) ?_
  show JQ _ _ _ [(2, .bool false), (1, Ptr nb1 0), (3, Ptr nb2 0)] _
  refine JQ_then ?_
  refine JC_ret ?_
  refine JQ_then_ret ?_
  refine JQ_ret (.tuple #[.bool false, .agg (List.toArray (α := Value) ([.slice ao n c, I64 ((e:Int))]))]) (res2 Try.results61 (RV_tmp rfl) (RV_cell rfl (Ld_agg Try.isAgg85 Try.sizeOf85 rfl (MemAt.ent 1 rfl (Seg.whole _))))) fun w1 hw1 => ?_
  exact ⟨_, [], rfl, ⟨rfl, rfl⟩, hw1.sub (by simp) (by simp)⟩

theorem boolS_c (ao : Option Addr) (n c e : Nat)  (w : World) (he : e = 0) (hl : n = 0) : Calls Try.prog 61 #[.agg (List.toArray (α := Value) ([.slice ao n c, I64 ((e:Int))]))] w (Post w [] (fun v L => v = .tuple #[.bool false, .agg (List.toArray (α := Value) [.slice ao n c, I64 (2)])] ∧ L = [])) := by
  refine enter (P := Try.prog) (f := 61) (fn := Try.f61) w [] 30 [] [.agg (List.toArray (α := Value) ([.slice ao n c, I64 ((e:Int))]))] Try.func61 rfl rfl (by simp) (Hp.start (by simp) (by simp) (by simp)) ?_
  show JC _ _ _ [(0, .agg (List.toArray (α := Value) ([.slice ao n c, I64 ((e:Int))])))] _
  refine JC_seq ?_
  refine JC_region ?_
  refine JL_step (Step_box (.agg (List.toArray (α := Value) ([.slice ao n c, I64 ((e:Int))]))) ([.slice ao n c, I64 ((e:Int))]) rfl (by first | rfl | simp)) rfl ?_
  rintro v1 L1 ⟨nb1, hnb1, rfl, rfl⟩
  show JL _ _ _ _ ((1, Ptr nb1 0) :: _) [⟨nb1, [.slice ao n c, I64 ((e:Int))], 85, (0, 0)⟩]
  refine JL_val _ (Ev_assign rfl) rfl ?_
  refine JL_step (Step_alloc _ ([.slice none 0 0, I64 (0:Int)]) Try.zeroValue85 (by kernel_rfl)) rfl ?_
  rintro v1 L1 ⟨nb2, hnb2, rfl, rfl⟩
  show JL _ _ _ _ ((3, Ptr nb2 0) :: _) [⟨nb1, [.slice ao n c, I64 ((e:Int))], 85, (0, 0)⟩, ⟨nb2, [.slice none 0 0, I64 (0:Int)], 85, (0, 0)⟩]
  refine JL_nil ?_
  refine JQ_then ?_
  refine JC_seq ?_
  refine JC_seq ?_
  refine JC_region ?_
  refine JL_val (Ptr nb1 1) (Ev_fieldAddr 1 3 1 Try.underlying85 rfl Try.sizeOf3 rfl rfl) rfl ?_
  refine JL_val (I64 ((e:Int))) (Ev_load rfl (Ld_one Try.isAgg3 (MemAt.ent 0 rfl (Seg.tail (Seg.head))))) rfl ?_
  refine JL_val (.bool (decide (((e:Int)) ≠ (0:Int)))) (Ev_bini rfl rfl fun _ => bin_neq_i _ _) rfl ?_
  refine JL_nil ?_
  refine JQ_then ?_
  refine JC_condF _ rfl (decide_eq_false (by omega)) ?_
  refine JC_skip ?_
  refine JQ_then ?_
  refine JC_seq ?_
  refine JC_seq ?_
  refine JC_region ?_
  refine JL_val (Ptr nb1 0) (Ev_fieldAddr 0 38 1 Try.underlying85 rfl Try.sizeOf38 rfl rfl) rfl ?_
  refine JL_val (.slice ao n c) (Ev_load rfl (Ld_one Try.isAgg38 (MemAt.ent 0 rfl (Seg.head)))) rfl ?_
  refine JL_val (I64 ((n:Int))) (Ev_len Try.underlying38 rfl) rfl ?_
  refine JL_val (.bool (decide (((n:Int)) = (0:Int)))) (Ev_bini rfl rfl fun _ => bin_eql_i _ _) rfl ?_
  refine JL_val _ (Ev_move rfl) rfl ?_
  refine JL_gskip 4 12 false _ rfl rfl (decide_eq_true (by omega)) rfl ?_
  refine JL_gskip 4 12 false _ rfl rfl (decide_eq_true (by omega)) rfl ?_
  refine JL_gskip 4 12 false _ rfl rfl (decide_eq_true (by omega)) rfl ?_
  refine JL_gskip 4 12 false _ rfl rfl (decide_eq_true (by omega)) rfl ?_
  refine JL_gskip 4 12 false _ rfl rfl (decide_eq_true (by omega)) rfl ?_
  refine JL_val _ (Ev_pickT _ rfl (decide_eq_true (by omega)) rfl) rfl ?_
  refine JL_nil ?_
  refine JQ_then ?_
  refine JC_condT _ rfl rfl ?_
  refine JC_seq ?_
  refine JC_region ?_
  refine JL_val (Ptr nb1 1) (Ev_fieldAddr 1 3 1 Try.underlying85 rfl Try.sizeOf3 rfl rfl) rfl ?_
  refine JL_step (Step_store 0 nb1 1 1 ([.slice ao n c, I64 ((e:Int))]) 85 (I64 (2:Int)) ([I64 (2:Int)]) ([.slice ao n c, I64 (2:Int)]) rfl rfl rfl rfl Try.sizeOf3 rfl (by simp [Value.oneCell']) (Nat.le_of_ble_eq_true rfl) (rfl)) rfl ?_
  rintro v1 L1 ⟨rfl, rfl⟩
  show JL _ _ _ _ _ [⟨nb1, [.slice ao n c, I64 (2:Int)], 85, (0, 0)⟩, ⟨nb2, [.slice none 0 0, I64 (0:Int)], 85, (0, 0)⟩]
  refine JL_nil ?_
  refine JQ_then ?_
  refine JC_seq ?_
  refine JC_draw 30 2 [(0, .agg (List.toArray (α := Value) ([.slice ao n c, I64 (2:Int)]))), (1, .bool false)] Try.mixed rfl (by decide +kernel) ?_
  refine DP_one ⟨[], [0, 1], [], [0, 1], [2]⟩ 2 _ rfl rfl (by decide +kernel) rfl ⟨⟨_, rfl, Qok_val rfl (Ev_load rfl (Ld_agg Try.isAgg85 Try.sizeOf85 rfl (MemAt.ent 0 rfl (Seg.whole _))))⟩, ⟨_, rfl, Qok_val rfl (Ev_assign rfl)⟩, trivial⟩ rfl (Cok_step rfl (Step_store 1 nb2 0 2 ([.slice none 0 0, I64 (0:Int)]) 85 (.agg (List.toArray (α := Value) ([.slice ao n c, I64 (2:Int)]))) ([.slice ao n c, I64 (2:Int)]) ([.slice ao n c, I64 (2:Int)]) rfl rfl rfl (by first | rfl | simp) Try.sizeOf85 rfl (by simp [Value.oneCell']) (Nat.le_of_ble_eq_true rfl) (lay_whole (by simp [])))) ?_
  rintro v1 L1 ⟨rfl, rfl⟩
  refine ⟨[], ?_⟩
  show DP _ _ _ _ _ _ _ _ [⟨nb1, [.slice ao n c, I64 (2:Int)], 85, (0, 0)⟩, ⟨nb2, [.slice ao n c, I64 (2:Int)], 85, (0, 0)⟩]
  refine DP_end ⟨[2], [0, 1], [0, 1], [], []⟩ rfl rfl (by decide +kernel) rfl trivial ?_
  refine K_sub (F' := [(2, .bool false), (1, Ptr nb1 0), (3, Ptr nb2 0)]) (Sub.cons (by kernel_rfl) (Sub.cons (by kernel_rfl) (Sub.cons (by kernel_rfl) (Sub.nil)))) ?_
  show JQ _ _ _ [(2, .bool false), (1, Ptr nb1 0), (3, Ptr nb2 0)] _
  refine JQ_then ?_
  refine JC_ret ?_
  refine JQ_then_ret ?_
  refine JQ_ret (.tuple #[.bool false, .agg (List.toArray (α := Value) ([.slice ao n c, I64 (2:Int)]))]) (res2 Try.results61 (RV_tmp rfl) (RV_cell rfl (Ld_agg Try.isAgg85 Try.sizeOf85 rfl (MemAt.ent 1 rfl (Seg.whole _))))) fun w1 hw1 => ?_
  exact ⟨_, [], rfl, ⟨rfl, rfl⟩, hw1.sub (by simp) (by simp)⟩

theorem boolB_c (ao : Option Addr) (n c e : Nat) (z : List UInt8)  (w : World) (hz : z.length = n) (hn : n ≤ 2000000000) (hc : n ≤ c) (hcm : c ≤ maxLen) (hr : RdB w [] ao z) (he : e = 0) (hl : 1 ≤ n) (hb : (1:UInt8) < g8 z 0) : Calls Try.prog 61 #[.agg (List.toArray (α := Value) ([.slice ao n c, I64 ((e:Int))]))] w (Post w [] (fun v L => v = .tuple #[.bool false, .agg (List.toArray (α := Value) [.slice ao n c, I64 (2)])] ∧ L = [])) := by
  refine enter (P := Try.prog) (f := 61) (fn := Try.f61) w [] 30 [] [.agg (List.toArray (α := Value) ([.slice ao n c, I64 ((e:Int))]))] Try.func61 rfl rfl (by simp) (Hp.start (by simp) (by simp) (by simp)) ?_
  show JC _ _ _ [(0, .agg (List.toArray (α := Value) ([.slice ao n c, I64 ((e:Int))])))] _
  refine JC_seq ?_
  refine JC_region ?_
  refine JL_step (Step_box (.agg (List.toArray (α := Value) ([.slice ao n c, I64 ((e:Int))]))) ([.slice ao n c, I64 ((e:Int))]) rfl (by first | rfl | simp)) rfl ?_
  rintro v1 L1 ⟨nb1, hnb1, rfl, rfl⟩
  show JL _ _ _ _ ((1, Ptr nb1 0) :: _) [⟨nb1, [.slice ao n c, I64 ((e:Int))], 85, (0, 0)⟩]
  refine JL_val _ (Ev_assign rfl) rfl ?_
  refine JL_step (Step_alloc _ ([.slice none 0 0, I64 (0:Int)]) Try.zeroValue85 (by kernel_rfl)) rfl ?_
  rintro v1 L1 ⟨nb2, hnb2, rfl, rfl⟩
  show JL _ _ _ _ ((3, Ptr nb2 0) :: _) [⟨nb1, [.slice ao n c, I64 ((e:Int))], 85, (0, 0)⟩, ⟨nb2, [.slice none 0 0, I64 (0:Int)], 85, (0, 0)⟩]
  refine JL_nil ?_
  refine JQ_then ?_
  refine JC_seq ?_
  refine JC_seq ?_
  refine JC_region ?_
  refine JL_val (Ptr nb1 1) (Ev_fieldAddr 1 3 1 Try.underlying85 rfl Try.sizeOf3 rfl rfl) rfl ?_
  refine JL_val (I64 ((e:Int))) (Ev_load rfl (Ld_one Try.isAgg3 (MemAt.ent 0 rfl (Seg.tail (Seg.head))))) rfl ?_
  refine JL_val (.bool (decide (((e:Int)) ≠ (0:Int)))) (Ev_bini rfl rfl fun _ => bin_neq_i _ _) rfl ?_
  refine JL_nil ?_
  refine JQ_then ?_
  refine JC_condF _ rfl (decide_eq_false (by omega)) ?_
  refine JC_skip ?_
  refine JQ_then ?_
  refine JC_seq ?_
  refine JC_seq ?_
  refine JC_region ?_
  refine JL_val (Ptr nb1 0) (Ev_fieldAddr 0 38 1 Try.underlying85 rfl Try.sizeOf38 rfl rfl) rfl ?_
  refine JL_val (.slice ao n c) (Ev_load rfl (Ld_one Try.isAgg38 (MemAt.ent 0 rfl (Seg.head)))) rfl ?_
  refine JL_val (I64 ((n:Int))) (Ev_len Try.underlying38 rfl) rfl ?_
  refine JL_val (.bool (decide (((n:Int)) = (0:Int)))) (Ev_bini rfl rfl fun _ => bin_eql_i _ _) rfl ?_
  refine JL_val _ (Ev_move rfl) rfl ?_
  refine JL_gval 4 12 false _ (Ptr nb1 0) rfl rfl (decide_eq_false (by omega)) (Ev_fieldAddr 0 38 1 Try.underlying85 rfl Try.sizeOf38 rfl rfl) rfl ?_
  refine JL_gval 4 12 false _ (.slice ao n c) rfl rfl (decide_eq_false (by omega)) (Ev_load rfl (Ld_one Try.isAgg38 (MemAt.ent 0 rfl (Seg.head)))) rfl ?_
  obtain ⟨bz1, oz1, hz1, hm1⟩ := hr.pos (by rw [hz]; omega)
  refine JL_gval 4 12 false _ (Ptr bz1 oz1) rfl rfl (decide_eq_false (by omega)) (Ev_indexSlG 5 1 oz1 Try.underlying38 Try.sizeOf5 rfl hz1 rfl (by omega) (by omega) (by omega)) rfl ?_
  refine JL_gval 4 12 false _ (U8 (g8 z 0)) rfl rfl (decide_eq_false (by omega)) (Ev_load rfl (Ld_one Try.isAgg5 (MemAt.seg (MemAt.base hm1.1 hm1.2.1 hm1.2.2) (Seg.get (g8_get (i := 0) (by rw [hz]; omega))) (by omega)))) rfl ?_
  refine JL_gval 4 12 false _ (.bool (decide ((1:UInt8) < (g8 z 0)))) rfl rfl (decide_eq_false (by omega)) (Ev_bini rfl rfl fun _ => bin_gtr_u8 (g8 z 0) (1:UInt8)) rfl ?_
  refine JL_val _ (Ev_pickF _ rfl (decide_eq_false (by omega)) rfl) rfl ?_
  refine JL_nil ?_
  refine JQ_then ?_
  refine JC_condT _ rfl (decide_eq_true hb) ?_
  refine JC_seq ?_
  refine JC_region ?_
  refine JL_val (Ptr nb1 1) (Ev_fieldAddr 1 3 1 Try.underlying85 rfl Try.sizeOf3 rfl rfl) rfl ?_
  refine JL_step (Step_store 0 nb1 1 1 ([.slice ao n c, I64 ((e:Int))]) 85 (I64 (2:Int)) ([I64 (2:Int)]) ([.slice ao n c, I64 (2:Int)]) rfl rfl rfl rfl Try.sizeOf3 rfl (by simp [Value.oneCell']) (Nat.le_of_ble_eq_true rfl) (rfl)) rfl ?_
  rintro v1 L1 ⟨rfl, rfl⟩
  show JL _ _ _ _ _ [⟨nb1, [.slice ao n c, I64 (2:Int)], 85, (0, 0)⟩, ⟨nb2, [.slice none 0 0, I64 (0:Int)], 85, (0, 0)⟩]
  refine JL_nil ?_
  refine JQ_then ?_
  refine JC_seq ?_
  refine JC_draw 30 2 [(0, .agg (List.toArray (α := Value) ([.slice ao n c, I64 (2:Int)]))), (1, .bool false)] Try.mixed rfl (by decide +kernel) ?_
  refine DP_one ⟨[], [0, 1], [], [0, 1], [2]⟩ 2 _ rfl rfl (by decide +kernel) rfl ⟨⟨_, rfl, Qok_val rfl (Ev_load rfl (Ld_agg Try.isAgg85 Try.sizeOf85 rfl (MemAt.ent 0 rfl (Seg.whole _))))⟩, ⟨_, rfl, Qok_val rfl (Ev_assign rfl)⟩, trivial⟩ rfl (Cok_step rfl (Step_store 1 nb2 0 2 ([.slice none 0 0, I64 (0:Int)]) 85 (.agg (List.toArray (α := Value) ([.slice ao n c, I64 (2:Int)]))) ([.slice ao n c, I64 (2:Int)]) ([.slice ao n c, I64 (2:Int)]) rfl rfl rfl (by first | rfl | simp) Try.sizeOf85 rfl (by simp [Value.oneCell']) (Nat.le_of_ble_eq_true rfl) (lay_whole (by simp [])))) ?_
  rintro v1 L1 ⟨rfl, rfl⟩
  refine ⟨[], ?_⟩
  show DP _ _ _ _ _ _ _ _ [⟨nb1, [.slice ao n c, I64 (2:Int)], 85, (0, 0)⟩, ⟨nb2, [.slice ao n c, I64 (2:Int)], 85, (0, 0)⟩]
  refine DP_end ⟨[2], [0, 1], [0, 1], [], []⟩ rfl rfl (by decide +kernel) rfl trivial ?_
  refine K_sub (F' := [(2, .bool false), (1, Ptr nb1 0), (3, Ptr nb2 0)]) (Sub.cons (by kernel_rfl) (Sub.cons (by kernel_rfl) (Sub.cons (by kernel_rfl) (Sub.nil)))) ?_
  show JQ _ _ _ [(2, .bool false), (1, Ptr nb1 0), (3, Ptr nb2 0)] _
  refine JQ_then ?_
  refine JC_ret ?_
  refine JQ_then_ret ?_
  refine JQ_ret (.tuple #[.bool false, .agg (List.toArray (α := Value) ([.slice ao n c, I64 (2:Int)]))]) (res2 Try.results61 (RV_tmp rfl) (RV_cell rfl (Ld_agg Try.isAgg85 Try.sizeOf85 rfl (MemAt.ent 1 rfl (Seg.whole _))))) fun w1 hw1 => ?_
  exact ⟨_, [], rfl, ⟨rfl, rfl⟩, hw1.sub (by simp) (by simp)⟩

theorem boolOk_c (ao : Option Addr) (n c e : Nat) (z : List UInt8) (n2 c2 : Nat) (w : World) (hz : z.length = n) (hn : n ≤ 2000000000) (hc : n ≤ c) (hcm : c ≤ maxLen) (hr : RdB w [] ao z) (he : e = 0) (hl : 1 ≤ n) (hb : ¬ (1:UInt8) < g8 z 0) (ht1 : 1 + n2 = n) (ht2 : 1 + c2 = c) : Calls Try.prog 61 #[.agg (List.toArray (α := Value) ([.slice ao n c, I64 ((e:Int))]))] w (Post w [] (fun v L => v = .tuple #[.bool (decide (g8 z 0 = 1)), .agg (List.toArray (α := Value) [.slice (advA ao c 1) n2 c2, I64 (0)])] ∧ L = [])) := by
  refine enter (P := Try.prog) (f := 61) (fn := Try.f61) w [] 30 [] [.agg (List.toArray (α := Value) ([.slice ao n c, I64 ((e:Int))]))] Try.func61 rfl rfl (by simp) (Hp.start (by simp) (by simp) (by simp)) ?_
  show JC _ _ _ [(0, .agg (List.toArray (α := Value) ([.slice ao n c, I64 ((e:Int))])))] _
  refine JC_seq ?_
  refine JC_region ?_
  refine JL_step (Step_box (.agg (List.toArray (α := Value) ([.slice ao n c, I64 ((e:Int))]))) ([.slice ao n c, I64 ((e:Int))]) rfl (by first | rfl | simp)) rfl ?_
  rintro v1 L1 ⟨nb1, hnb1, rfl, rfl⟩
  show JL _ _ _ _ ((1, Ptr nb1 0) :: _) [⟨nb1, [.slice ao n c, I64 ((e:Int))], 85, (0, 0)⟩]
  refine JL_val _ (Ev_assign rfl) rfl ?_
  refine JL_step (Step_alloc _ ([.slice none 0 0, I64 (0:Int)]) Try.zeroValue85 (by kernel_rfl)) rfl ?_
  rintro v1 L1 ⟨nb2, hnb2, rfl, rfl⟩
  show JL _ _ _ _ ((3, Ptr nb2 0) :: _) [⟨nb1, [.slice ao n c, I64 ((e:Int))], 85, (0, 0)⟩, ⟨nb2, [.slice none 0 0, I64 (0:Int)], 85, (0, 0)⟩]
  refine JL_nil ?_
  refine JQ_then ?_
  refine JC_seq ?_
  refine JC_seq ?_
  refine JC_region ?_
  refine JL_val (Ptr nb1 1) (Ev_fieldAddr 1 3 1 Try.underlying85 rfl Try.sizeOf3 rfl rfl) rfl ?_
  refine JL_val (I64 ((e:Int))) (Ev_load rfl (Ld_one Try.isAgg3 (MemAt.ent 0 rfl (Seg.tail (Seg.head))))) rfl ?_
  refine JL_val (.bool (decide (((e:Int)) ≠ (0:Int)))) (Ev_bini rfl rfl fun _ => bin_neq_i _ _) rfl ?_
  refine JL_nil ?_
  refine JQ_then ?_
  refine JC_condF _ rfl (decide_eq_false (by omega)) ?_
  refine JC_skip ?_
  refine JQ_then ?_
  refine JC_seq ?_
  refine JC_seq ?_
  refine JC_region ?_
  refine JL_val (Ptr nb1 0) (Ev_fieldAddr 0 38 1 Try.underlying85 rfl Try.sizeOf38 rfl rfl) rfl ?_
  refine JL_val (.slice ao n c) (Ev_load rfl (Ld_one Try.isAgg38 (MemAt.ent 0 rfl (Seg.head)))) rfl ?_
  refine JL_val (I64 ((n:Int))) (Ev_len Try.underlying38 rfl) rfl ?_
  refine JL_val (.bool (decide (((n:Int)) = (0:Int)))) (Ev_bini rfl rfl fun _ => bin_eql_i _ _) rfl ?_
  refine JL_val _ (Ev_move rfl) rfl ?_
  refine JL_gval 4 12 false _ (Ptr nb1 0) rfl rfl (decide_eq_false (by omega)) (Ev_fieldAddr 0 38 1 Try.underlying85 rfl Try.sizeOf38 rfl rfl) rfl ?_
  refine JL_gval 4 12 false _ (.slice ao n c) rfl rfl (decide_eq_false (by omega)) (Ev_load rfl (Ld_one Try.isAgg38 (MemAt.ent 0 rfl (Seg.head)))) rfl ?_
  obtain ⟨bz1, oz1, hz1, hm1⟩ := hr.pos (by rw [hz]; omega)
  refine JL_gval 4 12 false _ (Ptr bz1 oz1) rfl rfl (decide_eq_false (by omega)) (Ev_indexSlG 5 1 oz1 Try.underlying38 Try.sizeOf5 rfl hz1 rfl (by omega) (by omega) (by omega)) rfl ?_
  refine JL_gval 4 12 false _ (U8 (g8 z 0)) rfl rfl (decide_eq_false (by omega)) (Ev_load rfl (Ld_one Try.isAgg5 (MemAt.seg (MemAt.base hm1.1 hm1.2.1 hm1.2.2) (Seg.get (g8_get (i := 0) (by rw [hz]; omega))) (by omega)))) rfl ?_
  refine JL_gval 4 12 false _ (.bool (decide ((1:UInt8) < (g8 z 0)))) rfl rfl (decide_eq_false (by omega)) (Ev_bini rfl rfl fun _ => bin_gtr_u8 (g8 z 0) (1:UInt8)) rfl ?_
  refine JL_val _ (Ev_pickF _ rfl (decide_eq_false (by omega)) rfl) rfl ?_
  refine JL_nil ?_
  refine JQ_then ?_
  refine JC_condF _ rfl (decide_eq_false hb) ?_
  refine JC_skip ?_
  refine JQ_then ?_
  refine JC_seq ?_
  have hl1 : (z.drop 1).length = (n - 1) := by rw [List.length_drop, hz] <;> omega
  have hr1 := RdB.adv (c := c) hr 1 (by rw [hz]; omega) (by rw [hz]; omega)
  refine JC_draw 30 2 [(0, Ptr nb1 0), (1, .slice ao n c), (2, Ptr bz1 oz1), (3, U8 (g8 z 0)), (4, .bool (decide ((g8 z 0) = (1:UInt8)))), (5, Ptr nb1 0), (6, .slice ao n c), (7, .slice (advA ao c 1) (n - 1) (c - 1)), (8, .agg (List.toArray (α := Value) ([.slice (advA ao c 1) (n - 1) (c - 1), I64 (0:Int)]))), (9, .bool (decide ((g8 z 0) = (1:UInt8))))] Try.mixed rfl (by decide +kernel) ?_
  have hl2 : (z.drop 1).length = (n - 1) := by rw [List.length_drop, hz] <;> omega
  have hr2 := RdB.adv (c := c) hr 1 (by rw [hz]; omega) (by rw [hz]; omega)
  refine DP_one ⟨[], [0, 1, 2, 3, 4, 5, 6, 7, 8, 9], [], [0, 1, 2, 3, 4, 5, 6, 7, 8, 9], [10]⟩ 10 _ rfl rfl (by decide +kernel) rfl ⟨⟨_, rfl, Qok_val rfl (Ev_fieldAddr 0 38 1 Try.underlying85 rfl Try.sizeOf38 rfl rfl)⟩, ⟨_, rfl, Qok_val rfl (Ev_load rfl (Ld_one Try.isAgg38 (MemAt.ent 0 rfl (Seg.head))))⟩, ⟨_, rfl, Qok_val rfl (Ev_indexSlG 5 1 oz1 Try.underlying38 Try.sizeOf5 rfl hz1 rfl (by omega) (by omega) (by omega))⟩, ⟨_, rfl, Qok_val rfl (Ev_load rfl (Ld_one Try.isAgg5 (MemAt.seg (MemAt.base hm1.1 hm1.2.1 hm1.2.2) (Seg.get (g8_get (i := 0) (by rw [hz]; omega))) (by omega))))⟩, ⟨_, rfl, Qok_val rfl (Ev_bini rfl rfl fun _ => bin_eql_u8 (g8 z 0) (1:UInt8))⟩, ⟨_, rfl, Qok_val rfl (Ev_fieldAddr 0 38 1 Try.underlying85 rfl Try.sizeOf38 rfl rfl)⟩, ⟨_, rfl, Qok_val rfl (Ev_load rfl (Ld_one Try.isAgg38 (MemAt.ent 0 rfl (Seg.head))))⟩, ⟨_, rfl, Qok_val rfl (Ev_sliceLo 5 1 (n - 1) (c - 1) Try.underlying38 Try.sizeOf5 rfl rfl (by omega) (by omega) (by omega) (by omega))⟩, ⟨_, rfl, Qok_val rfl (Ev_build [(0, .slice (advA ao c 1) (n - 1) (c - 1))] _ rfl (fun _ => by kernel_rfl))⟩, ⟨_, rfl, Qok_val rfl (Ev_assign rfl)⟩, trivial⟩ rfl (Cok_step rfl (Step_store 1 nb2 0 2 ([.slice none 0 0, I64 (0:Int)]) 85 (.agg (List.toArray (α := Value) ([.slice (advA ao c 1) (n - 1) (c - 1), I64 (0:Int)]))) ([.slice (advA ao c 1) (n - 1) (c - 1), I64 (0:Int)]) ([.slice (advA ao c 1) (n - 1) (c - 1), I64 (0:Int)]) rfl rfl rfl (by first | rfl | simp) Try.sizeOf85 rfl (by simp [Value.oneCell']) (Nat.le_of_ble_eq_true rfl) (lay_whole (by simp [])))) ?_
  rintro v1 L1 ⟨rfl, rfl⟩
  refine ⟨[], ?_⟩
  show DP _ _ _ _ _ _ _ _ [⟨nb1, [.slice ao n c, I64 ((e:Int))], 85, (0, 0)⟩, ⟨nb2, [.slice (advA ao c 1) (n - 1) (c - 1), I64 (0:Int)], 85, (0, 0)⟩]
  refine DP_end ⟨[10], [0, 1, 2, 3, 4, 5, 6, 7, 8, 9], [0, 1, 2, 3, 4, 5, 6, 7, 8, 9], [], []⟩ rfl rfl (by decide +kernel) rfl trivial ?_
  refine K_sub (F' := [(2, .bool (decide ((g8 z 0) = (1:UInt8)))), (3, Ptr nb2 0)]) (Sub.cons (by kernel_rfl) (Sub.cons (by kernel_rfl) (Sub.nil))) ?_
  show JQ _ _ _ [(2, .bool (decide ((g8 z 0) = (1:UInt8)))), (3, Ptr nb2 0)] _
  refine JQ_then ?_
  refine JC_ret ?_
  refine JQ_ret (.tuple #[.bool (decide ((g8 z 0) = (1:UInt8))), .agg (List.toArray (α := Value) ([.slice (advA ao c 1) (n - 1) (c - 1), I64 (0:Int)]))]) (res2 Try.results61 (RV_tmp rfl) (RV_cell rfl (Ld_agg Try.isAgg85 Try.sizeOf85 rfl (MemAt.ent 1 rfl (Seg.whole _))))) fun w1 hw1 => ?_
  obtain rfl : n2 = (n - 1) := by omega
  obtain rfl : c2 = (c - 1) := by omega
  exact ⟨_, [], rfl, ⟨rfl, rfl⟩, hw1.sub (by simp) (by simp)⟩

theorem rhashE_c (ao : Option Addr) (n c e : Nat)  (w : World) (he : e ≠ 0) : Calls Try.prog 59 #[.agg (List.toArray (α := Value) ([.slice ao n c, I64 ((e:Int))]))] w (Post w [] (fun v L => v = .tuple #[.agg (cu8 (zr8 32)).toArray, .agg (List.toArray (α := Value) [.slice ao n c, I64 (e)])] ∧ L = [])) := by
  refine enter (P := Try.prog) (f := 59) (fn := Try.f59) w [] 16 [] [.agg (List.toArray (α := Value) ([.slice ao n c, I64 ((e:Int))]))] Try.func59 rfl rfl (by simp) (Hp.start (by simp) (by simp) (by simp)) ?_
  show JC _ _ _ [(0, .agg (List.toArray (α := Value) ([.slice ao n c, I64 ((e:Int))])))] _
  refine JC_seq ?_
  refine JC_region ?_
  refine JL_step (Step_box (.agg (List.toArray (α := Value) ([.slice ao n c, I64 ((e:Int))]))) ([.slice ao n c, I64 ((e:Int))]) rfl (by first | rfl | simp)) rfl ?_
  rintro v1 L1 ⟨nb1, hnb1, rfl, rfl⟩
  show JL _ _ _ _ ((1, Ptr nb1 0) :: _) [⟨nb1, [.slice ao n c, I64 ((e:Int))], 85, (0, 0)⟩]
  refine JL_step (Step_alloc _ (cu8 (zr8 32)) Try.zeroValue76 (by kernel_rfl)) rfl ?_
  rintro v1 L1 ⟨nb2, hnb2, rfl, rfl⟩
  show JL _ _ _ _ ((2, Ptr nb2 0) :: _) [⟨nb1, [.slice ao n c, I64 ((e:Int))], 85, (0, 0)⟩, ⟨nb2, cu8 (zr8 32), 76, (0, 0)⟩]
  refine JL_step (Step_alloc _ ([.slice none 0 0, I64 (0:Int)]) Try.zeroValue85 (by kernel_rfl)) rfl ?_
  rintro v1 L1 ⟨nb3, hnb3, rfl, rfl⟩
  show JL _ _ _ _ ((3, Ptr nb3 0) :: _) [⟨nb1, [.slice ao n c, I64 ((e:Int))], 85, (0, 0)⟩, ⟨nb2, cu8 (zr8 32), 76, (0, 0)⟩, ⟨nb3, [.slice none 0 0, I64 (0:Int)], 85, (0, 0)⟩]
  refine JL_nil ?_
  refine JQ_then ?_
  refine JC_seq ?_
  refine JC_region ?_
  refine JL_val (.agg (List.toArray (α := Value) ([.slice ao n c, I64 ((e:Int))]))) (Ev_load rfl (Ld_agg Try.isAgg85 Try.sizeOf85 rfl (MemAt.ent 0 rfl (Seg.whole _)))) rfl ?_
  refine JL_step (Step_callP 57 [.agg (List.toArray (α := Value) ([.slice ao n c, I64 ((e:Int))])), I64 (32:Int)] (.tuple #[.slice none 0 0, .agg (List.toArray (α := Value) ([.slice ao n c, I64 ((e:Int))]))]) (Cl_func [.agg (List.toArray (α := Value) ([.slice ao n c, I64 ((e:Int))])), I64 (32:Int)] Try.call57 rfl) (fun w1 hw1 => takeE_c ao n c e (32:Int) w1 he)) rfl ?_
  rintro v1 L1 ⟨rfl, rfl⟩
  show JL _ _ _ _ ((8, .tuple #[.slice none 0 0, .agg (List.toArray (α := Value) ([.slice ao n c, I64 ((e:Int))]))]) :: _) [⟨nb1, [.slice ao n c, I64 ((e:Int))], 85, (0, 0)⟩, ⟨nb2, cu8 (zr8 32), 76, (0, 0)⟩, ⟨nb3, [.slice none 0 0, I64 (0:Int)], 85, (0, 0)⟩]
  refine JL_val _ (Ev_move rfl) rfl ?_
  refine JL_val _ (Ev_extract rfl rfl) rfl ?_
  refine JL_val _ (Ev_extract rfl rfl) rfl ?_
  refine JL_val _ (Ev_assign rfl) rfl ?_
  refine JL_step (Step_store 0 nb1 0 2 ([.slice ao n c, I64 ((e:Int))]) 85 (.agg (List.toArray (α := Value) ([.slice ao n c, I64 ((e:Int))]))) ([.slice ao n c, I64 ((e:Int))]) ([.slice ao n c, I64 ((e:Int))]) rfl rfl rfl (by first | rfl | simp) Try.sizeOf85 rfl (by simp [Value.oneCell']) (Nat.le_of_ble_eq_true rfl) (lay_whole (by simp []))) rfl ?_
  rintro v1 L1 ⟨rfl, rfl⟩
  show JL _ _ _ _ _ [⟨nb1, [.slice ao n c, I64 ((e:Int))], 85, (0, 0)⟩, ⟨nb2, cu8 (zr8 32), 76, (0, 0)⟩, ⟨nb3, [.slice none 0 0, I64 (0:Int)], 85, (0, 0)⟩]
  refine JL_nil ?_
  refine JQ_then ?_
  refine JC_seq ?_
  refine JC_region ?_
  refine JL_step (Step_alloc _ (cu8 (zr8 32)) Try.zeroValue76 (by kernel_rfl)) rfl ?_
  rintro v1 L1 ⟨nb4, hnb4, rfl, rfl⟩
  show JL _ _ _ _ ((5, Ptr nb4 0) :: _) [⟨nb1, [.slice ao n c, I64 ((e:Int))], 85, (0, 0)⟩, ⟨nb2, cu8 (zr8 32), 76, (0, 0)⟩, ⟨nb3, [.slice none 0 0, I64 (0:Int)], 85, (0, 0)⟩, ⟨nb4, cu8 (zr8 32), 76, (0, 0)⟩]
  refine JL_nil ?_
  refine JQ_then ?_
  refine JC_seq ?_
  refine JC_region ?_
  refine JL_val (Slc nb4 0 32 32) (Ev_sliceA 32 5 1 0 32 0 32 Try.underlying76 Try.sizeOf5 rfl rfl rfl (by omega) (by omega) (by omega) (by omega) (by omega) 32 (by omega)) rfl ?_
  refine JL_val _ (Ev_move rfl) rfl ?_
  refine JL_step (Step_copy 38 38 5 3 nb4 0 32 32 (cu8 (zr8 32)) 76 none 0 0 0 [] (cu8 (zr8 32)) Try.underlying38 Try.size1_5 rfl rfl rfl rfl rfl SrcAt.nil (by simp) one_nil (lay_nil _ _)) rfl ?_
  rintro v1 L1 ⟨rfl, rfl⟩
  show JL _ _ _ _ ((13, I64 (0:Int)) :: _) [⟨nb1, [.slice ao n c, I64 ((e:Int))], 85, (0, 0)⟩, ⟨nb2, cu8 (zr8 32), 76, (0, 0)⟩, ⟨nb3, [.slice none 0 0, I64 (0:Int)], 85, (0, 0)⟩, ⟨nb4, cu8 (zr8 32), 76, (0, 0)⟩]
  refine JL_nil ?_
  refine JQ_then ?_
  refine JC_seq ?_
  refine JC_draw 16 3 [(0, .agg (cu8 (zr8 32)).toArray), (1, .agg (List.toArray (α := Value) ([.slice ao n c, I64 ((e:Int))])))] Try.mixed rfl (by decide +kernel) ?_
  refine DP_one ⟨[], [0, 1], [], [0, 1], [2]⟩ 2 _ rfl rfl (by decide +kernel) rfl ⟨⟨_, rfl, Qok_val rfl (Ev_load rfl (Ld_agg Try.isAgg76 Try.sizeOf76 (len_cu8 (zr8_len 32)) (MemAt.ent 3 rfl (Seg.whole _))))⟩, ⟨_, rfl, Qok_val rfl (Ev_load rfl (Ld_agg Try.isAgg85 Try.sizeOf85 rfl (MemAt.ent 0 rfl (Seg.whole _))))⟩, trivial⟩ rfl (Cok_step rfl (Step_store 1 nb2 0 32 (cu8 (zr8 32)) 76 (.agg (cu8 (zr8 32)).toArray) (cu8 (zr8 32)) (cu8 (zr8 32)) rfl rfl rfl (by first | rfl | simp) Try.sizeOf76 (len_cu8 (zr8_len 32)) (by first | exact one_u8 | exact one_u32 | exact one_u64 | (simp [cu8, cu32, cu64, Value.oneCell']; done)) (by simp [(zr8_len 32)]) (lay_whole (by simp [(zr8_len 32), (zr8_len 32)])))) ?_
  rintro v1 L1 ⟨rfl, rfl⟩
  refine ⟨[], ?_⟩
  show DP _ _ _ _ _ _ _ _ [⟨nb1, [.slice ao n c, I64 ((e:Int))], 85, (0, 0)⟩, ⟨nb2, cu8 (zr8 32), 76, (0, 0)⟩, ⟨nb3, [.slice none 0 0, I64 (0:Int)], 85, (0, 0)⟩, ⟨nb4, cu8 (zr8 32), 76, (0, 0)⟩]
  refine DP_one ⟨[2], [0, 1], [0], [1], [3]⟩ 3 _ rfl rfl (by decide +kernel) rfl ⟨⟨_, rfl, Qok_val rfl (Ev_load rfl (Ld_agg Try.isAgg85 Try.sizeOf85 rfl (MemAt.ent 0 rfl (Seg.whole _))))⟩, trivial⟩ rfl (Cok_step rfl (Step_store 2 nb3 0 2 ([.slice none 0 0, I64 (0:Int)]) 85 (.agg (List.toArray (α := Value) ([.slice ao n c, I64 ((e:Int))]))) ([.slice ao n c, I64 ((e:Int))]) ([.slice ao n c, I64 ((e:Int))]) rfl rfl rfl (by first | rfl | simp) Try.sizeOf85 rfl (by simp [Value.oneCell']) (Nat.le_of_ble_eq_true rfl) (lay_whole (by simp [])))) ?_
  rintro v1 L1 ⟨rfl, rfl⟩
  refine ⟨[], ?_⟩
  show DP _ _ _ _ _ _ _ _ [⟨nb1, [.slice ao n c, I64 ((e:Int))], 85, (0, 0)⟩, ⟨nb2, cu8 (zr8 32), 76, (0, 0)⟩, ⟨nb3, [.slice ao n c, I64 ((e:Int))], 85, (0, 0)⟩, ⟨nb4, cu8 (zr8 32), 76, (0, 0)⟩]
  refine DP_end ⟨[2, 3], [0, 1], [0, 1], [], []⟩ rfl rfl (by decide +kernel) rfl trivial ?_
  refine K_sub (F' := [(2, Ptr nb2 0), (3, Ptr nb3 0)]) (Sub.cons (by kernel_rfl) (Sub.cons (by kernel_rfl) (Sub.nil))) ?_
  show JQ _ _ _ [(2, Ptr nb2 0), (3, Ptr nb3 0)] _
  refine JQ_then ?_
  refine JC_ret ?_
  refine JQ_ret (.tuple #[.agg (cu8 (zr8 32)).toArray, .agg (List.toArray (α := Value) ([.slice ao n c, I64 ((e:Int))]))]) (res2 Try.results59 (RV_cell rfl (Ld_agg Try.isAgg76 Try.sizeOf76 (len_cu8 (zr8_len 32)) (MemAt.ent 1 rfl (Seg.whole _)))) (RV_cell rfl (Ld_agg Try.isAgg85 Try.sizeOf85 rfl (MemAt.ent 2 rfl (Seg.whole _))))) fun w1 hw1 => ?_
  exact ⟨_, [], rfl, ⟨rfl, rfl⟩, hw1.sub (by simp) (by simp)⟩

theorem rhashB_c (ao : Option Addr) (n c e : Nat)  (w : World) (he : e = 0) (hl : n < 32) : Calls Try.prog 59 #[.agg (List.toArray (α := Value) ([.slice ao n c, I64 ((e:Int))]))] w (Post w [] (fun v L => v = .tuple #[.agg (cu8 (zr8 32)).toArray, .agg (List.toArray (α := Value) [.slice ao n c, I64 (2)])] ∧ L = [])) := by
  refine enter (P := Try.prog) (f := 59) (fn := Try.f59) w [] 16 [] [.agg (List.toArray (α := Value) ([.slice ao n c, I64 ((e:Int))]))] Try.func59 rfl rfl (by simp) (Hp.start (by simp) (by simp) (by simp)) ?_
  show JC _ _ _ [(0, .agg (List.toArray (α := Value) ([.slice ao n c, I64 ((e:Int))])))] _
  refine JC_seq ?_
  refine JC_region ?_
  refine JL_step (Step_box (.agg (List.toArray (α := Value) ([.slice ao n c, I64 ((e:Int))]))) ([.slice ao n c, I64 ((e:Int))]) rfl (by first | rfl | simp)) rfl ?_
  rintro v1 L1 ⟨nb1, hnb1, rfl, rfl⟩
  show JL _ _ _ _ ((1, Ptr nb1 0) :: _) [⟨nb1, [.slice ao n c, I64 ((e:Int))], 85, (0, 0)⟩]
  refine JL_step (Step_alloc _ (cu8 (zr8 32)) Try.zeroValue76 (by kernel_rfl)) rfl ?_
  rintro v1 L1 ⟨nb2, hnb2, rfl, rfl⟩
  show JL _ _ _ _ ((2, Ptr nb2 0) :: _) [⟨nb1, [.slice ao n c, I64 ((e:Int))], 85, (0, 0)⟩, ⟨nb2, cu8 (zr8 32), 76, (0, 0)⟩]
  refine JL_step (Step_alloc _ ([.slice none 0 0, I64 (0:Int)]) Try.zeroValue85 (by kernel_rfl)) rfl ?_
  rintro v1 L1 ⟨nb3, hnb3, rfl, rfl⟩
  show JL _ _ _ _ ((3, Ptr nb3 0) :: _) [⟨nb1, [.slice ao n c, I64 ((e:Int))], 85, (0, 0)⟩, ⟨nb2, cu8 (zr8 32), 76, (0, 0)⟩, ⟨nb3, [.slice none 0 0, I64 (0:Int)], 85, (0, 0)⟩]
  refine JL_nil ?_
  refine JQ_then ?_
  refine JC_seq ?_
  refine JC_region ?_
  refine JL_val (.agg (List.toArray (α := Value) ([.slice ao n c, I64 ((e:Int))]))) (Ev_load rfl (Ld_agg Try.isAgg85 Try.sizeOf85 rfl (MemAt.ent 0 rfl (Seg.whole _)))) rfl ?_
  refine JL_step (Step_callP 57 [.agg (List.toArray (α := Value) ([.slice ao n c, I64 ((e:Int))])), I64 (32:Int)] (.tuple #[.slice none 0 0, .agg (List.toArray (α := Value) ([.slice ao n c, I64 (2:Int)]))]) (Cl_func [.agg (List.toArray (α := Value) ([.slice ao n c, I64 ((e:Int))])), I64 (32:Int)] Try.call57 rfl) (fun w1 hw1 => takeB_c ao n c e (32:Int) w1 he (.inr (by omega)))) rfl ?_
  rintro v1 L1 ⟨rfl, rfl⟩
  show JL _ _ _ _ ((8, .tuple #[.slice none 0 0, .agg (List.toArray (α := Value) ([.slice ao n c, I64 (2:Int)]))]) :: _) [⟨nb1, [.slice ao n c, I64 ((e:Int))], 85, (0, 0)⟩, ⟨nb2, cu8 (zr8 32), 76, (0, 0)⟩, ⟨nb3, [.slice none 0 0, I64 (0:Int)], 85, (0, 0)⟩]
  refine JL_val _ (Ev_move rfl) rfl ?_
  refine JL_val _ (Ev_extract rfl rfl) rfl ?_
  refine JL_val _ (Ev_extract rfl rfl) rfl ?_
  refine JL_val _ (Ev_assign rfl) rfl ?_
  refine JL_step (Step_store 0 nb1 0 2 ([.slice ao n c, I64 ((e:Int))]) 85 (.agg (List.toArray (α := Value) ([.slice ao n c, I64 (2:Int)]))) ([.slice ao n c, I64 (2:Int)]) ([.slice ao n c, I64 (2:Int)]) rfl rfl rfl (by first | rfl | simp) Try.sizeOf85 rfl (by simp [Value.oneCell']) (Nat.le_of_ble_eq_true rfl) (lay_whole (by simp []))) rfl ?_
  rintro v1 L1 ⟨rfl, rfl⟩
  show JL _ _ _ _ _ [⟨nb1, [.slice ao n c, I64 (2:Int)], 85, (0, 0)⟩, ⟨nb2, cu8 (zr8 32), 76, (0, 0)⟩, ⟨nb3, [.slice none 0 0, I64 (0:Int)], 85, (0, 0)⟩]
  refine JL_nil ?_
  refine JQ_then ?_
  refine JC_seq ?_
  refine JC_region ?_
  refine JL_step (Step_alloc _ (cu8 (zr8 32)) Try.zeroValue76 (by kernel_rfl)) rfl ?_
  rintro v1 L1 ⟨nb4, hnb4, rfl, rfl⟩
  show JL _ _ _ _ ((5, Ptr nb4 0) :: _) [⟨nb1, [.slice ao n c, I64 (2:Int)], 85, (0, 0)⟩, ⟨nb2, cu8 (zr8 32), 76, (0, 0)⟩, ⟨nb3, [.slice none 0 0, I64 (0:Int)], 85, (0, 0)⟩, ⟨nb4, cu8 (zr8 32), 76, (0, 0)⟩]
  refine JL_nil ?_
  refine JQ_then ?_
  refine JC_seq ?_
  refine JC_region ?_
  refine JL_val (Slc nb4 0 32 32) (Ev_sliceA 32 5 1 0 32 0 32 Try.underlying76 Try.sizeOf5 rfl rfl rfl (by omega) (by omega) (by omega) (by omega) (by omega) 32 (by omega)) rfl ?_
  refine JL_val _ (Ev_move rfl) rfl ?_
  refine JL_step (Step_copy 38 38 5 3 nb4 0 32 32 (cu8 (zr8 32)) 76 none 0 0 0 [] (cu8 (zr8 32)) Try.underlying38 Try.size1_5 rfl rfl rfl rfl rfl SrcAt.nil (by simp) one_nil (lay_nil _ _)) rfl ?_
  rintro v1 L1 ⟨rfl, rfl⟩
  show JL _ _ _ _ ((13, I64 (0:Int)) :: _) [⟨nb1, [.slice ao n c, I64 (2:Int)], 85, (0, 0)⟩, ⟨nb2, cu8 (zr8 32), 76, (0, 0)⟩, ⟨nb3, [.slice none 0 0, I64 (0:Int)], 85, (0, 0)⟩, ⟨nb4, cu8 (zr8 32), 76, (0, 0)⟩]
  refine JL_nil ?_
  refine JQ_then ?_
  refine JC_seq ?_
  refine JC_draw 16 3 [(0, .agg (cu8 (zr8 32)).toArray), (1, .agg (List.toArray (α := Value) ([.slice ao n c, I64 (2:Int)])))] Try.mixed rfl (by decide +kernel) ?_
  refine DP_one ⟨[], [0, 1], [], [0, 1], [2]⟩ 2 _ rfl rfl (by decide +kernel) rfl ⟨⟨_, rfl, Qok_val rfl (Ev_load rfl (Ld_agg Try.isAgg76 Try.sizeOf76 (len_cu8 (zr8_len 32)) (MemAt.ent 3 rfl (Seg.whole _))))⟩, ⟨_, rfl, Qok_val rfl (Ev_load rfl (Ld_agg Try.isAgg85 Try.sizeOf85 rfl (MemAt.ent 0 rfl (Seg.whole _))))⟩, trivial⟩ rfl (Cok_step rfl (Step_store 1 nb2 0 32 (cu8 (zr8 32)) 76 (.agg (cu8 (zr8 32)).toArray) (cu8 (zr8 32)) (cu8 (zr8 32)) rfl rfl rfl (by first | rfl | simp) Try.sizeOf76 (len_cu8 (zr8_len 32)) (by first | exact one_u8 | exact one_u32 | exact one_u64 | (simp [cu8, cu32, cu64, Value.oneCell']; done)) (by simp [(zr8_len 32)]) (lay_whole (by simp [(zr8_len 32), (zr8_len 32)])))) ?_
  rintro v1 L1 ⟨rfl, rfl⟩
  refine ⟨[], ?_⟩
  show DP _ _ _ _ _ _ _ _ [⟨nb1, [.slice ao n c, I64 (2:Int)], 85, (0, 0)⟩, ⟨nb2, cu8 (zr8 32), 76, (0, 0)⟩, ⟨nb3, [.slice none 0 0, I64 (0:Int)], 85, (0, 0)⟩, ⟨nb4, cu8 (zr8 32), 76, (0, 0)⟩]
  refine DP_one ⟨[2], [0, 1], [0], [1], [3]⟩ 3 _ rfl rfl (by decide +kernel) rfl ⟨⟨_, rfl, Qok_val rfl (Ev_load rfl (Ld_agg Try.isAgg85 Try.sizeOf85 rfl (MemAt.ent 0 rfl (Seg.whole _))))⟩, trivial⟩ rfl (Cok_step rfl (Step_store 2 nb3 0 2 ([.slice none 0 0, I64 (0:Int)]) 85 (.agg (List.toArray (α := Value) ([.slice ao n c, I64 (2:Int)]))) ([.slice ao n c, I64 (2:Int)]) ([.slice ao n c, I64 (2:Int)]) rfl rfl rfl (by first | rfl | simp) Try.sizeOf85 rfl (by simp [Value.oneCell']) (Nat.le_of_ble_eq_true rfl) (lay_whole (by simp [])))) ?_
  rintro v1 L1 ⟨rfl, rfl⟩
  refine ⟨[], ?_⟩
  show DP _ _ _ _ _ _ _ _ [⟨nb1, [.slice ao n c, I64 (2:Int)], 85, (0, 0)⟩, ⟨nb2, cu8 (zr8 32), 76, (0, 0)⟩, ⟨nb3, [.slice ao n c, I64 (2:Int)], 85, (0, 0)⟩, ⟨nb4, cu8 (zr8 32), 76, (0, 0)⟩]
  refine DP_end ⟨[2, 3], [0, 1], [0, 1], [], []⟩ rfl rfl (by decide +kernel) rfl trivial ?_
  refine K_sub (F' := [(2, Ptr nb2 0), (3, Ptr nb3 0)]) (Sub.cons (by kernel_rfl) (Sub.cons (by kernel_rfl) (Sub.nil))) ?_
  show JQ _ _ _ [(2, Ptr nb2 0), (3, Ptr nb3 0)] _
  refine JQ_then ?_
  refine JC_ret ?_
  refine JQ_ret (.tuple #[.agg (cu8 (zr8 32)).toArray, .agg (List.toArray (α := Value) ([.slice ao n c, I64 (2:Int)]))]) (res2 Try.results59 (RV_cell rfl (Ld_agg Try.isAgg76 Try.sizeOf76 (len_cu8 (zr8_len 32)) (MemAt.ent 1 rfl (Seg.whole _)))) (RV_cell rfl (Ld_agg Try.isAgg85 Try.sizeOf85 rfl (MemAt.ent 2 rfl (Seg.whole _))))) fun w1 hw1 => ?_
  exact ⟨_, [], rfl, ⟨rfl, rfl⟩, hw1.sub (by simp) (by simp)⟩

theorem rhashOk_c (ao : Option Addr) (n c e : Nat) (z : List UInt8) (n2 c2 : Nat) (w : World) (hz : z.length = n) (hn : n ≤ 2000000000) (hc : n ≤ c) (hcm : c ≤ maxLen) (hr : RdB w [] ao z) (he : e = 0) (hl : 32 ≤ n) (ht1 : 32 + n2 = n) (ht2 : 32 + c2 = c) : Calls Try.prog 59 #[.agg (List.toArray (α := Value) ([.slice ao n c, I64 ((e:Int))]))] w (Post w [] (fun v L => v = .tuple #[.agg (cu8 (mid z 0 32)).toArray, .agg (List.toArray (α := Value) [.slice (advA ao c 32) n2 c2, I64 (e)])] ∧ L = [])) := by
  refine enter (P := Try.prog) (f := 59) (fn := Try.f59) w [] 16 [] [.agg (List.toArray (α := Value) ([.slice ao n c, I64 ((e:Int))]))] Try.func59 rfl rfl (by simp) (Hp.start (by simp) (by simp) (by simp)) ?_
  show JC _ _ _ [(0, .agg (List.toArray (α := Value) ([.slice ao n c, I64 ((e:Int))])))] _
  refine JC_seq ?_
  refine JC_region ?_
  refine JL_step (Step_box (.agg (List.toArray (α := Value) ([.slice ao n c, I64 ((e:Int))]))) ([.slice ao n c, I64 ((e:Int))]) rfl (by first | rfl | simp)) rfl ?_
  rintro v1 L1 ⟨nb1, hnb1, rfl, rfl⟩
  show JL _ _ _ _ ((1, Ptr nb1 0) :: _) [⟨nb1, [.slice ao n c, I64 ((e:Int))], 85, (0, 0)⟩]
  refine JL_step (Step_alloc _ (cu8 (zr8 32)) Try.zeroValue76 (by kernel_rfl)) rfl ?_
  rintro v1 L1 ⟨nb2, hnb2, rfl, rfl⟩
  show JL _ _ _ _ ((2, Ptr nb2 0) :: _) [⟨nb1, [.slice ao n c, I64 ((e:Int))], 85, (0, 0)⟩, ⟨nb2, cu8 (zr8 32), 76, (0, 0)⟩]
  refine JL_step (Step_alloc _ ([.slice none 0 0, I64 (0:Int)]) Try.zeroValue85 (by kernel_rfl)) rfl ?_
  rintro v1 L1 ⟨nb3, hnb3, rfl, rfl⟩
  show JL _ _ _ _ ((3, Ptr nb3 0) :: _) [⟨nb1, [.slice ao n c, I64 ((e:Int))], 85, (0, 0)⟩, ⟨nb2, cu8 (zr8 32), 76, (0, 0)⟩, ⟨nb3, [.slice none 0 0, I64 (0:Int)], 85, (0, 0)⟩]
  refine JL_nil ?_
  refine JQ_then ?_
  refine JC_seq ?_
  refine JC_region ?_
  refine JL_val (.agg (List.toArray (α := Value) ([.slice ao n c, I64 ((e:Int))]))) (Ev_load rfl (Ld_agg Try.isAgg85 Try.sizeOf85 rfl (MemAt.ent 0 rfl (Seg.whole _)))) rfl ?_
  have hl1 : (z.drop 32).length = (n - 32) := by rw [List.length_drop, hz] <;> omega
  have hr1 := RdB.adv (c := c) hr 32 (by rw [hz]; omega) (by rw [hz]; omega)
  have hl2 : (mid z 0 32).length = 32 := mid_len (by rw [hz]; omega)
  have hr2 := RdB.pre hr 32
  refine JL_step (Step_callP 57 [.agg (List.toArray (α := Value) ([.slice ao n c, I64 ((e:Int))])), I64 (32:Int)] (.tuple #[.slice ao 32 c, .agg (List.toArray (α := Value) ([.slice (advA ao c 32) (n - 32) (c - 32), I64 ((e:Int))]))]) (Cl_func [.agg (List.toArray (α := Value) ([.slice ao n c, I64 ((e:Int))])), I64 (32:Int)] Try.call57 rfl) (fun w1 hw1 => takeOk_c ao n c e z 32 (n - 32) (c - 32) w1 hz (by omega) (by omega) (by omega) (hr.at (M' := []) hw1 (by simp)) he hl (by omega) (by omega))) rfl ?_
  rintro v1 L1 ⟨rfl, rfl⟩
  show JL _ _ _ _ ((8, .tuple #[.slice ao 32 c, .agg (List.toArray (α := Value) ([.slice (advA ao c 32) (n - 32) (c - 32), I64 ((e:Int))]))]) :: _) [⟨nb1, [.slice ao n c, I64 ((e:Int))], 85, (0, 0)⟩, ⟨nb2, cu8 (zr8 32), 76, (0, 0)⟩, ⟨nb3, [.slice none 0 0, I64 (0:Int)], 85, (0, 0)⟩]
  refine JL_val _ (Ev_move rfl) rfl ?_
  refine JL_val _ (Ev_extract rfl rfl) rfl ?_
  refine JL_val _ (Ev_extract rfl rfl) rfl ?_
  refine JL_val _ (Ev_assign rfl) rfl ?_
  refine JL_step (Step_store 0 nb1 0 2 ([.slice ao n c, I64 ((e:Int))]) 85 (.agg (List.toArray (α := Value) ([.slice (advA ao c 32) (n - 32) (c - 32), I64 ((e:Int))]))) ([.slice (advA ao c 32) (n - 32) (c - 32), I64 ((e:Int))]) ([.slice (advA ao c 32) (n - 32) (c - 32), I64 ((e:Int))]) rfl rfl rfl (by first | rfl | simp) Try.sizeOf85 rfl (by simp [Value.oneCell']) (Nat.le_of_ble_eq_true rfl) (lay_whole (by simp []))) rfl ?_
  rintro v1 L1 ⟨rfl, rfl⟩
  show JL _ _ _ _ _ [⟨nb1, [.slice (advA ao c 32) (n - 32) (c - 32), I64 ((e:Int))], 85, (0, 0)⟩, ⟨nb2, cu8 (zr8 32), 76, (0, 0)⟩, ⟨nb3, [.slice none 0 0, I64 (0:Int)], 85, (0, 0)⟩]
  refine JL_nil ?_
  refine JQ_then ?_
  refine JC_seq ?_
  refine JC_region ?_
  refine JL_step (Step_alloc _ (cu8 (zr8 32)) Try.zeroValue76 (by kernel_rfl)) rfl ?_
  rintro v1 L1 ⟨nb4, hnb4, rfl, rfl⟩
  show JL _ _ _ _ ((5, Ptr nb4 0) :: _) [⟨nb1, [.slice (advA ao c 32) (n - 32) (c - 32), I64 ((e:Int))], 85, (0, 0)⟩, ⟨nb2, cu8 (zr8 32), 76, (0, 0)⟩, ⟨nb3, [.slice none 0 0, I64 (0:Int)], 85, (0, 0)⟩, ⟨nb4, cu8 (zr8 32), 76, (0, 0)⟩]
  refine JL_nil ?_
  refine JQ_then ?_
  refine JC_seq ?_
  refine JC_region ?_
  refine JL_val (Slc nb4 0 32 32) (Ev_sliceA 32 5 1 0 32 0 32 Try.underlying76 Try.sizeOf5 rfl rfl rfl (by omega) (by omega) (by omega) (by omega) (by omega) 32 (by omega)) rfl ?_
  refine JL_val _ (Ev_move rfl) rfl ?_
  refine JL_step (Step_copy 38 38 5 3 nb4 0 32 32 (cu8 (zr8 32)) 76 ao 32 c 32 (cu8 (mid z 0 32)) (cu8 (mid z 0 32)) Try.underlying38 Try.size1_5 rfl rfl rfl rfl (by simp [hl2]; try omega) (hr2.src) (by simp [(zr8_len 32)]; try omega) (by first | exact one_u8 | exact one_u32 | exact one_u64 | (simp [cu8, cu32, cu64, Value.oneCell']; done)) (lay_whole (by simp [(zr8_len 32), hl2]))) rfl ?_
  rintro v1 L1 ⟨rfl, rfl⟩
  show JL _ _ _ _ ((13, I64 (32:Int)) :: _) [⟨nb1, [.slice (advA ao c 32) (n - 32) (c - 32), I64 ((e:Int))], 85, (0, 0)⟩, ⟨nb2, cu8 (zr8 32), 76, (0, 0)⟩, ⟨nb3, [.slice none 0 0, I64 (0:Int)], 85, (0, 0)⟩, ⟨nb4, cu8 (mid z 0 32), 76, (0, 0)⟩]
  refine JL_nil ?_
  refine JQ_then ?_
  refine JC_seq ?_
  refine JC_draw 16 3 [(0, .agg (cu8 (mid z 0 32)).toArray), (1, .agg (List.toArray (α := Value) ([.slice (advA ao c 32) (n - 32) (c - 32), I64 ((e:Int))])))] Try.mixed rfl (by decide +kernel) ?_
  refine DP_one ⟨[], [0, 1], [], [0, 1], [2]⟩ 2 _ rfl rfl (by decide +kernel) rfl ⟨⟨_, rfl, Qok_val rfl (Ev_load rfl (Ld_agg Try.isAgg76 Try.sizeOf76 (len_cu8 hl2) (MemAt.ent 3 rfl (Seg.whole _))))⟩, ⟨_, rfl, Qok_val rfl (Ev_load rfl (Ld_agg Try.isAgg85 Try.sizeOf85 rfl (MemAt.ent 0 rfl (Seg.whole _))))⟩, trivial⟩ rfl (Cok_step rfl (Step_store 1 nb2 0 32 (cu8 (zr8 32)) 76 (.agg (cu8 (mid z 0 32)).toArray) (cu8 (mid z 0 32)) (cu8 (mid z 0 32)) rfl rfl rfl (by first | rfl | simp) Try.sizeOf76 (len_cu8 hl2) (by first | exact one_u8 | exact one_u32 | exact one_u64 | (simp [cu8, cu32, cu64, Value.oneCell']; done)) (by simp [(zr8_len 32)]) (lay_whole (by simp [(zr8_len 32), hl2])))) ?_
  rintro v1 L1 ⟨rfl, rfl⟩
  refine ⟨[], ?_⟩
  show DP _ _ _ _ _ _ _ _ [⟨nb1, [.slice (advA ao c 32) (n - 32) (c - 32), I64 ((e:Int))], 85, (0, 0)⟩, ⟨nb2, cu8 (mid z 0 32), 76, (0, 0)⟩, ⟨nb3, [.slice none 0 0, I64 (0:Int)], 85, (0, 0)⟩, ⟨nb4, cu8 (mid z 0 32), 76, (0, 0)⟩]
  refine DP_one ⟨[2], [0, 1], [0], [1], [3]⟩ 3 _ rfl rfl (by decide +kernel) rfl ⟨⟨_, rfl, Qok_val rfl (Ev_load rfl (Ld_agg Try.isAgg85 Try.sizeOf85 rfl (MemAt.ent 0 rfl (Seg.whole _))))⟩, trivial⟩ rfl (Cok_step rfl (Step_store 2 nb3 0 2 ([.slice none 0 0, I64 (0:Int)]) 85 (.agg (List.toArray (α := Value) ([.slice (advA ao c 32) (n - 32) (c - 32), I64 ((e:Int))]))) ([.slice (advA ao c 32) (n - 32) (c - 32), I64 ((e:Int))]) ([.slice (advA ao c 32) (n - 32) (c - 32), I64 ((e:Int))]) rfl rfl rfl (by first | rfl | simp) Try.sizeOf85 rfl (by simp [Value.oneCell']) (Nat.le_of_ble_eq_true rfl) (lay_whole (by simp [])))) ?_
  rintro v1 L1 ⟨rfl, rfl⟩
  refine ⟨[], ?_⟩
  show DP _ _ _ _ _ _ _ _ [⟨nb1, [.slice (advA ao c 32) (n - 32) (c - 32), I64 ((e:Int))], 85, (0, 0)⟩, ⟨nb2, cu8 (mid z 0 32), 76, (0, 0)⟩, ⟨nb3, [.slice (advA ao c 32) (n - 32) (c - 32), I64 ((e:Int))], 85, (0, 0)⟩, ⟨nb4, cu8 (mid z 0 32), 76, (0, 0)⟩]
  refine DP_end ⟨[2, 3], [0, 1], [0, 1], [], []⟩ rfl rfl (by decide +kernel) rfl trivial ?_
  refine K_sub (F' := [(2, Ptr nb2 0), (3, Ptr nb3 0)]) (Sub.cons (by kernel_rfl) (Sub.cons (by kernel_rfl) (Sub.nil))) ?_
  show JQ _ _ _ [(2, Ptr nb2 0), (3, Ptr nb3 0)] _
  refine JQ_then ?_
  refine JC_ret ?_
  refine JQ_ret (.tuple #[.agg (cu8 (mid z 0 32)).toArray, .agg (List.toArray (α := Value) ([.slice (advA ao c 32) (n - 32) (c - 32), I64 ((e:Int))]))]) (res2 Try.results59 (RV_cell rfl (Ld_agg Try.isAgg76 Try.sizeOf76 (len_cu8 hl2) (MemAt.ent 1 rfl (Seg.whole _)))) (RV_cell rfl (Ld_agg Try.isAgg85 Try.sizeOf85 rfl (MemAt.ent 2 rfl (Seg.whole _))))) fun w1 hw1 => ?_
  obtain rfl : n2 = (n - 32) := by omega
  obtain rfl : c2 = (c - 32) := by omega
  exact ⟨_, [], rfl, ⟨rfl, rfl⟩, hw1.sub (by simp) (by simp)⟩

theorem rleftE_c (ao : Option Addr) (n c e : Nat)  (w : World) (he : e ≠ 0) : Calls Try.prog 65 #[.agg (List.toArray (α := Value) ([.slice ao n c, I64 ((e:Int))]))] w (Post w [] (fun v L => v = I64 (0) ∧ L = [])) := by
  refine enter (P := Try.prog) (f := 65) (fn := Try.f65) w [] 9 [] [.agg (List.toArray (α := Value) ([.slice ao n c, I64 ((e:Int))]))] Try.func65 rfl rfl (by simp) (Hp.start (by simp) (by simp) (by simp)) ?_
  show JC _ _ _ [(0, .agg (List.toArray (α := Value) ([.slice ao n c, I64 ((e:Int))])))] _
  refine JC_seq ?_
  refine JC_region ?_
  refine JL_step (Step_box (.agg (List.toArray (α := Value) ([.slice ao n c, I64 ((e:Int))]))) ([.slice ao n c, I64 ((e:Int))]) rfl (by first | rfl | simp)) rfl ?_
  rintro v1 L1 ⟨nb1, hnb1, rfl, rfl⟩
  show JL _ _ _ _ ((1, Ptr nb1 0) :: _) [⟨nb1, [.slice ao n c, I64 ((e:Int))], 85, (0, 0)⟩]
  refine JL_val _ (Ev_assign rfl) rfl ?_
  refine JL_nil ?_
  refine JQ_then ?_
  refine JC_seq ?_
  refine JC_seq ?_
  refine JC_region ?_
  refine JL_val (Ptr nb1 1) (Ev_fieldAddr 1 3 1 Try.underlying85 rfl Try.sizeOf3 rfl rfl) rfl ?_
  refine JL_val (I64 ((e:Int))) (Ev_load rfl (Ld_one Try.isAgg3 (MemAt.ent 0 rfl (Seg.tail (Seg.head))))) rfl ?_
  refine JL_val (.bool (decide (((e:Int)) ≠ (0:Int)))) (Ev_bini rfl rfl fun _ => bin_neq_i _ _) rfl ?_
  refine JL_nil ?_
  refine JQ_then ?_
  refine JC_condT _ rfl (decide_eq_true (by omega)) ?_
  refine JC_seq ?_
  refine JC_region ?_
  refine JL_val _ (Ev_assign rfl) rfl ?_
  refine JL_nil ?_
  refine JQ_then ?_
  refine JC_ret ?_
  refine JQ_then_ret ?_
  refine JQ_ret (I64 (0:Int)) (res1 Try.results65 (RV_tmp rfl)) fun w1 hw1 => ?_
  exact ⟨_, [], rfl, ⟨rfl, rfl⟩, hw1.sub (by simp) (by simp)⟩

theorem rleftZ_c (ao : Option Addr) (n c e : Nat)  (w : World) (he : e = 0) : Calls Try.prog 65 #[.agg (List.toArray (α := Value) ([.slice ao n c, I64 ((e:Int))]))] w (Post w [] (fun v L => v = I64 ((n:Int)) ∧ L = [])) := by
  refine enter (P := Try.prog) (f := 65) (fn := Try.f65) w [] 9 [] [.agg (List.toArray (α := Value) ([.slice ao n c, I64 ((e:Int))]))] Try.func65 rfl rfl (by simp) (Hp.start (by simp) (by simp) (by simp)) ?_
  show JC _ _ _ [(0, .agg (List.toArray (α := Value) ([.slice ao n c, I64 ((e:Int))])))] _
  refine JC_seq ?_
  refine JC_region ?_
  refine JL_step (Step_box (.agg (List.toArray (α := Value) ([.slice ao n c, I64 ((e:Int))]))) ([.slice ao n c, I64 ((e:Int))]) rfl (by first | rfl | simp)) rfl ?_
  rintro v1 L1 ⟨nb1, hnb1, rfl, rfl⟩
  show JL _ _ _ _ ((1, Ptr nb1 0) :: _) [⟨nb1, [.slice ao n c, I64 ((e:Int))], 85, (0, 0)⟩]
  refine JL_val _ (Ev_assign rfl) rfl ?_
  refine JL_nil ?_
  refine JQ_then ?_
  refine JC_seq ?_
  refine JC_seq ?_
  refine JC_region ?_
  refine JL_val (Ptr nb1 1) (Ev_fieldAddr 1 3 1 Try.underlying85 rfl Try.sizeOf3 rfl rfl) rfl ?_
  refine JL_val (I64 ((e:Int))) (Ev_load rfl (Ld_one Try.isAgg3 (MemAt.ent 0 rfl (Seg.tail (Seg.head))))) rfl ?_
  refine JL_val (.bool (decide (((e:Int)) ≠ (0:Int)))) (Ev_bini rfl rfl fun _ => bin_neq_i _ _) rfl ?_
  refine JL_nil ?_
  refine JQ_then ?_
  refine JC_condF _ rfl (decide_eq_false (by omega)) ?_
  refine JC_skip ?_
  refine JQ_then ?_
  refine JC_seq ?_
  refine JC_region ?_
  refine JL_val (Ptr nb1 0) (Ev_fieldAddr 0 38 1 Try.underlying85 rfl Try.sizeOf38 rfl rfl) rfl ?_
  refine JL_val (.slice ao n c) (Ev_load rfl (Ld_one Try.isAgg38 (MemAt.ent 0 rfl (Seg.head)))) rfl ?_
  refine JL_val (I64 ((n:Int))) (Ev_len Try.underlying38 rfl) rfl ?_
  refine JL_val _ (Ev_assign rfl) rfl ?_
  refine JL_nil ?_
  refine JQ_then ?_
  refine JC_ret ?_
  refine JQ_ret (I64 ((n:Int))) (res1 Try.results65 (RV_tmp rfl)) fun w1 hw1 => ?_
  exact ⟨_, [], rfl, ⟨rfl, rfl⟩, hw1.sub (by simp) (by simp)⟩

theorem rendE_c (ao : Option Addr) (n c e : Nat)  (w : World) (he : e ≠ 0) : Calls Try.prog 67 #[.agg (List.toArray (α := Value) ([.slice ao n c, I64 ((e:Int))]))] w (Post w [] (fun v L => v = I64 ((e:Int)) ∧ L = [])) := by
  refine enter (P := Try.prog) (f := 67) (fn := Try.f67) w [] 12 [] [.agg (List.toArray (α := Value) ([.slice ao n c, I64 ((e:Int))]))] Try.func67 rfl rfl (by simp) (Hp.start (by simp) (by simp) (by simp)) ?_
  show JC _ _ _ [(0, .agg (List.toArray (α := Value) ([.slice ao n c, I64 ((e:Int))])))] _
  refine JC_seq ?_
  refine JC_region ?_
  refine JL_step (Step_box (.agg (List.toArray (α := Value) ([.slice ao n c, I64 ((e:Int))]))) ([.slice ao n c, I64 ((e:Int))]) rfl (by first | rfl | simp)) rfl ?_
  rintro v1 L1 ⟨nb1, hnb1, rfl, rfl⟩
  show JL _ _ _ _ ((1, Ptr nb1 0) :: _) [⟨nb1, [.slice ao n c, I64 ((e:Int))], 85, (0, 0)⟩]
  refine JL_val _ (Ev_assign rfl) rfl ?_
  refine JL_nil ?_
  refine JQ_then ?_
  refine JC_seq ?_
  refine JC_seq ?_
  refine JC_region ?_
  refine JL_val (Ptr nb1 1) (Ev_fieldAddr 1 3 1 Try.underlying85 rfl Try.sizeOf3 rfl rfl) rfl ?_
  refine JL_val (I64 ((e:Int))) (Ev_load rfl (Ld_one Try.isAgg3 (MemAt.ent 0 rfl (Seg.tail (Seg.head))))) rfl ?_
  refine JL_val (.bool (decide (((e:Int)) ≠ (0:Int)))) (Ev_bini rfl rfl fun _ => bin_neq_i _ _) rfl ?_
  refine JL_nil ?_
  refine JQ_then ?_
  refine JC_condT _ rfl (decide_eq_true (by omega)) ?_
  refine JC_seq ?_
  refine JC_region ?_
  refine JL_val (Ptr nb1 1) (Ev_fieldAddr 1 3 1 Try.underlying85 rfl Try.sizeOf3 rfl rfl) rfl ?_
  refine JL_val (I64 ((e:Int))) (Ev_load rfl (Ld_one Try.isAgg3 (MemAt.ent 0 rfl (Seg.tail (Seg.head))))) rfl ?_
  refine JL_val _ (Ev_assign rfl) rfl ?_
  refine JL_nil ?_
  refine JQ_then ?_
  refine JC_ret ?_
  refine JQ_then_ret ?_
  refine JQ_ret (I64 ((e:Int))) (res1 Try.results67 (RV_tmp rfl)) fun w1 hw1 => ?_
  exact ⟨_, [], rfl, ⟨rfl, rfl⟩, hw1.sub (by simp) (by simp)⟩

theorem rendZ_c (ao : Option Addr) (n c e : Nat)  (w : World) (he : e = 0) (hn : n = 0) : Calls Try.prog 67 #[.agg (List.toArray (α := Value) ([.slice ao n c, I64 ((e:Int))]))] w (Post w [] (fun v L => v = I64 (0) ∧ L = [])) := by
  refine enter (P := Try.prog) (f := 67) (fn := Try.f67) w [] 12 [] [.agg (List.toArray (α := Value) ([.slice ao n c, I64 ((e:Int))]))] Try.func67 rfl rfl (by simp) (Hp.start (by simp) (by simp) (by simp)) ?_
  show JC _ _ _ [(0, .agg (List.toArray (α := Value) ([.slice ao n c, I64 ((e:Int))])))] _
  refine JC_seq ?_
  refine JC_region ?_
  refine JL_step (Step_box (.agg (List.toArray (α := Value) ([.slice ao n c, I64 ((e:Int))]))) ([.slice ao n c, I64 ((e:Int))]) rfl (by first | rfl | simp)) rfl ?_
  rintro v1 L1 ⟨nb1, hnb1, rfl, rfl⟩
  show JL _ _ _ _ ((1, Ptr nb1 0) :: _) [⟨nb1, [.slice ao n c, I64 ((e:Int))], 85, (0, 0)⟩]
  refine JL_val _ (Ev_assign rfl) rfl ?_
  refine JL_nil ?_
  refine JQ_then ?_
  refine JC_seq ?_
  refine JC_seq ?_
  refine JC_region ?_
  refine JL_val (Ptr nb1 1) (Ev_fieldAddr 1 3 1 Try.underlying85 rfl Try.sizeOf3 rfl rfl) rfl ?_
  refine JL_val (I64 ((e:Int))) (Ev_load rfl (Ld_one Try.isAgg3 (MemAt.ent 0 rfl (Seg.tail (Seg.head))))) rfl ?_
  refine JL_val (.bool (decide (((e:Int)) ≠ (0:Int)))) (Ev_bini rfl rfl fun _ => bin_neq_i _ _) rfl ?_
  refine JL_nil ?_
  refine JQ_then ?_
  refine JC_condF _ rfl (decide_eq_false (by omega)) ?_
  refine JC_skip ?_
  refine JQ_then ?_
  refine JC_seq ?_
  refine JC_seq ?_
  refine JC_region ?_
  refine JL_val (Ptr nb1 0) (Ev_fieldAddr 0 38 1 Try.underlying85 rfl Try.sizeOf38 rfl rfl) rfl ?_
  refine JL_val (.slice ao n c) (Ev_load rfl (Ld_one Try.isAgg38 (MemAt.ent 0 rfl (Seg.head)))) rfl ?_
  refine JL_val (I64 ((n:Int))) (Ev_len Try.underlying38 rfl) rfl ?_
  refine JL_val (.bool (decide ((0:Int) < ((n:Int))))) (Ev_bini rfl rfl fun _ => bin_gtr_i _ _) rfl ?_
  refine JL_nil ?_
  refine JQ_then ?_
  refine JC_condF _ rfl (decide_eq_false (by omega)) ?_
  refine JC_skip ?_
  refine JQ_then ?_
  refine JC_seq ?_
  refine JC_region ?_
  refine JL_val _ (Ev_assign rfl) rfl ?_
  refine JL_nil ?_
  refine JQ_then ?_
  refine JC_ret ?_
  refine JQ_ret (I64 (0:Int)) (res1 Try.results67 (RV_tmp rfl)) fun w1 hw1 => ?_
  exact ⟨_, [], rfl, ⟨rfl, rfl⟩, hw1.sub (by simp) (by simp)⟩

theorem rendB_c (ao : Option Addr) (n c e : Nat)  (w : World) (he : e = 0) (hn : n ≠ 0) : Calls Try.prog 67 #[.agg (List.toArray (α := Value) ([.slice ao n c, I64 ((e:Int))]))] w (Post w [] (fun v L => v = I64 (2) ∧ L = [])) := by
  refine enter (P := Try.prog) (f := 67) (fn := Try.f67) w [] 12 [] [.agg (List.toArray (α := Value) ([.slice ao n c, I64 ((e:Int))]))] Try.func67 rfl rfl (by simp) (Hp.start (by simp) (by simp) (by simp)) ?_
  show JC _ _ _ [(0, .agg (List.toArray (α := Value) ([.slice ao n c, I64 ((e:Int))])))] _
  refine JC_seq ?_
  refine JC_region ?_
  refine JL_step (Step_box (.agg (List.toArray (α := Value) ([.slice ao n c, I64 ((e:Int))]))) ([.slice ao n c, I64 ((e:Int))]) rfl (by first | rfl | simp)) rfl ?_
  rintro v1 L1 ⟨nb1, hnb1, rfl, rfl⟩
  show JL _ _ _ _ ((1, Ptr nb1 0) :: _) [⟨nb1, [.slice ao n c, I64 ((e:Int))], 85, (0, 0)⟩]
  refine JL_val _ (Ev_assign rfl) rfl ?_
  refine JL_nil ?_
  refine JQ_then ?_
  refine JC_seq ?_
  refine JC_seq ?_
  refine JC_region ?_
  refine JL_val (Ptr nb1 1) (Ev_fieldAddr 1 3 1 Try.underlying85 rfl Try.sizeOf3 rfl rfl) rfl ?_
  refine JL_val (I64 ((e:Int))) (Ev_load rfl (Ld_one Try.isAgg3 (MemAt.ent 0 rfl (Seg.tail (Seg.head))))) rfl ?_
  refine JL_val (.bool (decide (((e:Int)) ≠ (0:Int)))) (Ev_bini rfl rfl fun _ => bin_neq_i _ _) rfl ?_
  refine JL_nil ?_
  refine JQ_then ?_
  refine JC_condF _ rfl (decide_eq_false (by omega)) ?_
  refine JC_skip ?_
  refine JQ_then ?_
  refine JC_seq ?_
  refine JC_seq ?_
  refine JC_region ?_
  refine JL_val (Ptr nb1 0) (Ev_fieldAddr 0 38 1 Try.underlying85 rfl Try.sizeOf38 rfl rfl) rfl ?_
  refine JL_val (.slice ao n c) (Ev_load rfl (Ld_one Try.isAgg38 (MemAt.ent 0 rfl (Seg.head)))) rfl ?_
  refine JL_val (I64 ((n:Int))) (Ev_len Try.underlying38 rfl) rfl ?_
  refine JL_val (.bool (decide ((0:Int) < ((n:Int))))) (Ev_bini rfl rfl fun _ => bin_gtr_i _ _) rfl ?_
  refine JL_nil ?_
  refine JQ_then ?_
  refine JC_condT _ rfl (decide_eq_true (by omega)) ?_
  refine JC_seq ?_
  refine JC_region ?_
  refine JL_val _ (Ev_assign rfl) rfl ?_
  refine JL_nil ?_
  refine JQ_then ?_
  refine JC_ret ?_
  refine JQ_then_ret ?_
  refine JQ_ret (I64 (2:Int)) (res1 Try.results67 (RV_tmp rfl)) fun w1 hw1 => ?_
  exact ⟨_, [], rfl, ⟨rfl, rfl⟩, hw1.sub (by simp) (by simp)⟩

end Go.Proofs.Ytncoifiafklkjaa
