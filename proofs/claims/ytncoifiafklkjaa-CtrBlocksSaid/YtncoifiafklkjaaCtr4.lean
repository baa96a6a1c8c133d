import Derived.Test.YtncoifiafklkjaaFx
import Derived.Test.YtncoifiafklkjaaSxL
import Derived.Test.YtncoifiafklkjaaCtr3
namespace Go.Proofs.Ytncoifiafklkjaa
open Go Go.Sx
set_option linter.unusedVariables false
set_option linter.unusedSimpArgs false
set_option maxRecDepth 100000
attribute [local irreducible] mid zr8 rkeysL rencL encL decL rkL thereL backL nextL rnextL strT
def fillN : Nat → List UInt8
  | 0 => zr8 16
  | k + 1 => (fillN k).set k 255
theorem alive_next {k : Nat} {s : List UInt8} (h : s = fillN k) (hk : k = 16) : nextL s 1 = zr8 16 := by
  subst hk; subst h; decide +kernel
theorem CiphM.own {w : World} {c : Nat} {ks : List UInt8} (hl : ks.length = 176) (h : w.heap[c]? = some (.cells (cu8 ks ++ cu8 thereL ++ cu8 backL).toArray 106 (0, 0))) : CiphM w [] (some ⟨c, 0, none⟩) ks :=
  .inr ⟨c, rfl, heap_lt h, by simp, hl, h⟩

theorem alive5_c  (w : World) : Calls Try.prog 30 #[] w (Post w [] (fun v L => v = .bool true ∧ L = [])) := by
  refine enter w [] 30 [] [] Try.func30 rfl rfl (by simp) (Hp.start (by simp) (by simp) (by simp)) ?_
  show JC _ _ _ [] _
  refine JC_seq ?_
  refine JC_region ?_
  refine JL_val _ (Ev_assign rfl) rfl ?_
  refine JL_nil ?_
  refine JQ_then ?_
  refine JC_seq ?_
  refine JC_region ?_
  refine JL_val (.agg (cu8 (zr8 16)).toArray) (Ev_build [] _ rfl (fun _ => by kernel_rfl)) rfl ?_
  refine JL_step (Step_alloc _ (cu8 (zr8 16)) Try.zeroValue27 (by kernel_rfl)) rfl ?_
  rintro v1 L1 ⟨nb1, hnb1, rfl, rfl⟩
  show JL _ _ _ _ ((1, Ptr nb1 0) :: _) [⟨nb1, cu8 (zr8 16), 27, (0, 0)⟩]
  refine JL_step (Step_store 0 nb1 0 16 (cu8 (zr8 16)) 27 (.agg (cu8 (zr8 16)).toArray) (cu8 (zr8 16)) (cu8 (zr8 16)) rfl rfl rfl (by first | rfl | simp) Try.sizeOf27 (len_cu8 (zr8_len 16)) (by first | exact one_u8 | exact one_u32 | exact one_u64 | (simp [cu8, cu32, cu64, Value.oneCell']; done)) (by simp [(zr8_len 16)]) (lay_whole (by simp [(zr8_len 16), (zr8_len 16)]))) rfl ?_
  rintro v1 L1 ⟨rfl, rfl⟩
  show JL _ _ _ _ _ [⟨nb1, cu8 (zr8 16), 27, (0, 0)⟩]
  refine JL_nil ?_
  refine JQ_then ?_
  refine JC_seq ?_
  refine JC_seq ?_
  refine JC_region ?_
  refine JL_val _ (Ev_move rfl) rfl ?_
  refine JL_nil ?_
  refine JQ_then ?_
  refine JC_block ?_
  refine JC_loop (ι := Nat × List UInt8) (fun ⟨k, s⟩ => [(0, .bool false), (1, Ptr nb1 0), (6, I64 ((k:Int)))]) (fun ⟨k, s⟩ => [⟨nb1, cu8 s, 27, (0, 0)⟩]) (fun ⟨k, s⟩ => k ≤ 16 ∧ s = fillN k ∧ s.length = 16) (fun ⟨k, s⟩ => 16 - k) (0, zr8 16) ⟨by omega, rfl, zr8_len 16⟩ (Sub.cons rfl (Sub.cons rfl (Sub.cons rfl (Sub.nil)))) rfl ?_
  rintro ⟨k, s⟩ ⟨hx1, hx2, hs⟩
  show JC _ _ _ [(0, .bool false), (1, Ptr nb1 0), (6, I64 ((k:Int)))] [⟨nb1, cu8 s, 27, (0, 0)⟩]
  refine JC_seq ?_
  refine JC_region ?_
  refine JL_val (.bool (decide (((k:Int)) < (16:Int)))) (Ev_bini rfl rfl fun _ => bin_lss_i _ _) rfl ?_
  refine JL_nil ?_
  refine JQ_then ?_
  refine JC_seq ?_
  refine JC_cond (decide (((k:Int)) < (16:Int))) rfl (fun hb1 => ?_) (fun hb1 => ?_)
  ·
    have hp1 : ((k:Int)) < (16:Int) := of_decide_eq_true hb1
    refine JC_skip ?_
    refine JQ_then ?_
    refine JC_seq ?_
    refine JC_block ?_
    refine JC_seq ?_
    refine JC_region ?_
    refine JL_val _ (Ev_move rfl) rfl ?_
    refine JL_val _ (Ev_assign rfl) rfl ?_
    refine JL_nil ?_
    refine JQ_then ?_
    refine JC_region ?_
    refine JL_val _ (Ev_move rfl) rfl ?_
    refine JL_val (Ptr nb1 k) (Ev_indexArr 16 5 1 k Try.underlying27 Try.sizeOf5 rfl rfl (by omega) (by omega) (by omega)) rfl ?_
    have hl1 : (s.set k (255:UInt8)).length = 16 := by simp [hs]
    refine JL_step (Step_store 0 nb1 k 1 (cu8 s) 27 (U8 (255:UInt8)) ([U8 (255:UInt8)]) (cu8 (s.set k (255:UInt8))) rfl rfl rfl rfl Try.sizeOf5 rfl (by simp [Value.oneCell']) (by simp [hs]; try omega) (lay8 _ _ _ (by rw [hs]; omega))) rfl ?_
    rintro v1 L1 ⟨rfl, rfl⟩
    show JL _ _ _ _ _ [⟨nb1, cu8 (s.set k (255:UInt8)), 27, (0, 0)⟩]
    refine JL_nil ?_
    refine JQ_in_normal ?_
    refine JQ_then ?_
    refine JC_region ?_
    refine JL_val (I64 ((k:Int) + 1)) (Ev_bini rfl rfl fun _ => bin_add_i _ _ ((k:Int) + 1) (by omega) (by omega)) rfl ?_
    refine JL_val _ (Ev_move rfl) rfl ?_
    refine JL_nil ?_
    refine JQ_thenK ?_
    refine K_next (k + 1, s.set k (255:UInt8)) ⟨by omega, by rw [fillN, ← hx2], hl1⟩ (by first | (simp; omega) | simp) (Sub.cons rfl (Sub.cons rfl (Sub.cons rfl (Sub.nil)))) rfl
  ·
    have hp1 : ¬ (((k:Int)) < (16:Int)) := of_decide_eq_false hb1
    refine JC_exit ?_
    refine JQ_then_exit ?_
    refine JQ_then_exit ?_
    refine JQ_in_same ?_
    refine JQ_then ?_
    refine JC_seq ?_
    refine JC_region ?_
    refine JL_val (.agg (cu8 s).toArray) (Ev_load rfl (Ld_agg Try.isAgg27 Try.sizeOf27 (len_cu8 hs) (MemAt.ent 0 rfl (Seg.whole _)))) rfl ?_
    refine JL_step (Step_callN 33 [.pointer none, .agg (cu8 s).toArray, I64 (3:Int)] _ (Cl_func [.pointer none, .agg (cu8 s).toArray, I64 (3:Int)] Try.call33 rfl) (fun w1 hw1 => streamIn_c none (rkL (zr8 16)) s 3 w1 hs (by omega) (.inl ⟨rfl, rfl⟩))) rfl ?_
    rintro v1 L1 ⟨_, ⟨nb2, sp1, cp1, rfl, rfl, hc1, hc2, hc3⟩, rfl⟩
    show JL _ _ _ _ ((14, .tuple #[Slc nb2 0 3 cp1, .nilIface]) :: _) [⟨nb1, cu8 s, 27, (0, 0)⟩, ⟨nb2, cu8 (strT (eBlk (rkL (zr8 16)) s) 3) ++ sp1, 5, (0, 0)⟩]
    refine JL_val _ (Ev_move rfl) rfl ?_
    refine JL_val _ (Ev_extract rfl rfl) rfl ?_
    refine JL_val _ (Ev_extract rfl rfl) rfl ?_
    refine JL_val _ (Ev_assign rfl) rfl ?_
    refine JL_val _ (Ev_assign rfl) rfl ?_
    refine JL_nil ?_
    refine JQ_then ?_
    refine JC_seq ?_
    refine JC_region ?_
    refine JL_val (.agg (cu8 s).toArray) (Ev_load rfl (Ld_agg Try.isAgg27 Try.sizeOf27 (len_cu8 hs) (MemAt.ent 0 rfl (Seg.whole _)))) rfl ?_
    refine JL_step (Step_callP 31 [.agg (cu8 s).toArray, U64 (1:UInt64)] (.agg (cu8 (nextL s (1:UInt64))).toArray) (Cl_func [.agg (cu8 s).toArray, U64 (1:UInt64)] Try.call31 rfl) (fun w1 hw1 => next_c s (1:UInt64) w1 hs)) rfl ?_
    rintro v1 L1 ⟨rfl, rfl⟩
    show JL _ _ _ _ ((18, .agg (cu8 (nextL s (1:UInt64))).toArray) :: _) [⟨nb1, cu8 s, 27, (0, 0)⟩, ⟨nb2, cu8 (strT (eBlk (rkL (zr8 16)) s) 3) ++ sp1, 5, (0, 0)⟩]
    refine JL_val (.agg (cu8 (zr8 16)).toArray) (Ev_build [] _ rfl (fun _ => by kernel_rfl)) rfl ?_
    refine JL_val (.bool (decide ((nextL s (1:UInt64)) = (zr8 16)))) (Ev_bin _ _ _ rfl rfl (fun _ => eqGuard_agg _ _ _ _ _ _ (by kernel_rfl)) fun _ => eql_arr8 Try.underlying27 Try.underlying5 Try.isAgg5 Try.cells5 Try.has5 (by simp [(nextL_len hs)]) (by simp [(zr8_len 16)])) rfl ?_
    refine JL_val _ (Ev_move rfl) rfl ?_
    refine JL_gval 4 21 true _ _ rfl rfl (decide_eq_true (alive_next hx2 (by omega))) (Ev_move rfl) rfl ?_
    refine JL_gval 4 21 true _ (.bool true) rfl rfl (decide_eq_true (alive_next hx2 (by omega))) (Ev_bin _ _ _ rfl rfl (fun _ => eqGuard_nn ..) fun _ => eql_if_nil_nil Try.underlying30) rfl ?_
    refine JL_val _ (Ev_pickT _ rfl (decide_eq_true (alive_next hx2 (by omega))) rfl) rfl ?_
    refine JL_val _ (Ev_move rfl) rfl ?_
    refine JL_gval 8 25 true _ _ rfl rfl rfl (Ev_move rfl) rfl ?_
    refine JL_gval 8 25 true _ (I64 (3:Int)) rfl rfl rfl (Ev_len Try.underlying38 rfl) rfl ?_
    refine JL_gval 8 25 true _ (.bool (decide ((3:Int) = (3:Int)))) rfl rfl rfl (Ev_bini rfl rfl fun _ => bin_eql_i _ _) rfl ?_
    refine JL_val _ (Ev_pickT _ rfl rfl rfl) rfl ?_
    refine JL_val _ (Ev_assign rfl) rfl ?_
    refine JL_nil ?_
    refine JQ_then ?_
    refine JC_ret ?_
    refine JQ_ret (.bool (decide ((3:Int) = (3:Int)))) (res1 Try.results30 (RV_tmp rfl)) fun w1 hw1 => ?_
    exact ⟨_, [], rfl, ⟨by rw [show (decide ((3:Int) = (3:Int))) = true from (by decide)], rfl⟩, hw1.sub (by simp) (by simp)⟩

theorem ctrCountersMid_c (c : List UInt8) (n : UInt64) (many : Int) (w : World) (hc : c.length = 16) (hm : 500 < many ∧ many ≤ 65536) : Calls Try.prog 7 #[.agg (cu8 c).toArray, U64 n, I64 (many)] w (Post w [] (fun v L => v = .bool true ∧ L = [])) := by
  refine enter w [] 51 [] [.agg (cu8 c).toArray, U64 n, I64 (many)] Try.func7 rfl rfl (by simp) (Hp.start (by simp) (by simp) (by simp)) ?_
  show JC _ _ _ [(0, .agg (cu8 c).toArray), (1, U64 n), (2, I64 (many))] _
  refine JC_seq ?_
  refine JC_region ?_
  refine JL_step (Step_box (.agg (cu8 c).toArray) (cu8 c) rfl (by first | rfl | simp)) rfl ?_
  rintro v1 L1 ⟨nb1, hnb1, rfl, rfl⟩
  show JL _ _ _ _ ((3, Ptr nb1 0) :: _) [⟨nb1, cu8 c, 27, (0, 0)⟩]
  refine JL_val _ (Ev_assign rfl) rfl ?_
  refine JL_nil ?_
  refine JQ_then ?_
  refine JC_seq ?_
  refine JC_seq ?_
  refine JC_region ?_
  refine JL_step (Step_callP 30 [] (.bool true) (Cl_func [] Try.call30 rfl) (fun w1 _ => alive5_c  w1)) rfl ?_
  rintro v1 L1 ⟨rfl, rfl⟩
  show JL _ _ _ _ ((9, .bool true) :: _) [⟨nb1, cu8 c, 27, (0, 0)⟩]
  refine JL_val (.bool (!true)) (Ev_not rfl) rfl ?_
  refine JL_nil ?_
  refine JQ_then ?_
  refine JC_condF _ rfl rfl ?_
  refine JC_skip ?_
  refine JQ_then ?_
  refine JC_seq ?_
  refine JC_seq ?_
  refine JC_draw 51 3 [(0, .agg (cu8 c).toArray), (1, U64 n), (3, .agg (cu8 c).toArray), (4, U64 n)] Try.mixed rfl (by decide +kernel) ?_
  refine DP_one ⟨[], [0, 1, 3, 4], [], [0, 1, 3, 4], [2]⟩ 2 _ rfl rfl (by decide +kernel) rfl ⟨⟨_, rfl, Qok_val rfl (Ev_load rfl (Ld_agg Try.isAgg27 Try.sizeOf27 (len_cu8 hc) (MemAt.ent 0 rfl (Seg.whole _))))⟩, ⟨_, rfl, Qok_val rfl (Ev_move rfl)⟩, ⟨_, rfl, Qok_val rfl (Ev_load rfl (Ld_agg Try.isAgg27 Try.sizeOf27 (len_cu8 hc) (MemAt.ent 0 rfl (Seg.whole _))))⟩, ⟨_, rfl, Qok_val rfl (Ev_move rfl)⟩, trivial⟩ rfl (Cok_step rfl (Step_callP 31 [.agg (cu8 c).toArray, U64 n] (.agg (cu8 (nextL c n)).toArray) (Cl_func [.agg (cu8 c).toArray, U64 n] Try.call31 rfl) (fun w1 hw1 => next_c c n w1 hc))) ?_
  rintro v1 L1 ⟨rfl, rfl⟩
  refine ⟨[], ?_⟩
  show DP _ _ _ _ _ _ _ _ [⟨nb1, cu8 c, 27, (0, 0)⟩]
  refine DP_one ⟨[2], [0, 1, 3, 4], [0, 1], [3, 4], [5]⟩ 5 _ rfl rfl (by decide +kernel) rfl ⟨⟨_, rfl, Qok_val rfl (Ev_load rfl (Ld_agg Try.isAgg27 Try.sizeOf27 (len_cu8 hc) (MemAt.ent 0 rfl (Seg.whole _))))⟩, ⟨_, rfl, Qok_val rfl (Ev_move rfl)⟩, trivial⟩ rfl (Cok_step rfl (Step_callP 32 [.agg (cu8 c).toArray, U64 n] (.agg (cu8 (rnextL c n)).toArray) (Cl_func [.agg (cu8 c).toArray, U64 n] Try.call32 rfl) (fun w1 hw1 => rnext_c c n w1 hc))) ?_
  rintro v1 L1 ⟨rfl, rfl⟩
  refine ⟨[(6, .bool (!(decide ((nextL c n) = (rnextL c n)))))], ?_⟩
  show DP _ _ _ _ _ _ _ _ [⟨nb1, cu8 c, 27, (0, 0)⟩]
  refine DP_end ⟨[2, 5], [0, 1, 3, 4, 6], [0, 1, 3, 4], [6], []⟩ rfl rfl (by decide +kernel) rfl ⟨⟨_, rfl, Qok_val rfl (Ev_bin _ _ _ rfl rfl (fun _ => eqGuard_agg _ _ _ _ _ _ (by kernel_rfl)) fun _ => neq_arr8 Try.underlying27 Try.underlying5 Try.isAgg5 Try.cells5 Try.has5 (by simp [(nextL_len hc)]) (by simp [(rnextL_len hc)]))⟩, trivial⟩ ?_
  refine K_sub (F' := [(17, .bool (!(decide ((nextL c n) = (rnextL c n))))), (2, I64 (many)), (3, Ptr nb1 0), (6, .bool false)]) (Sub.cons (by kernel_rfl) (Sub.cons (by kernel_rfl) (Sub.cons (by kernel_rfl) (Sub.cons (by kernel_rfl) (Sub.nil))))) ?_
  show JQ _ _ _ [(17, .bool (!(decide ((nextL c n) = (rnextL c n))))), (2, I64 (many)), (3, Ptr nb1 0), (6, .bool false)] _
  refine JQ_then ?_
  refine JC_condF _ rfl (by rw [show (decide ((nextL c n) = (rnextL c n))) = true from (decide_eq_true (next_rnext hc))]; rfl) ?_
  refine JC_skip ?_
  refine JQ_then ?_
  refine JC_seq ?_
  refine JC_seq ?_
  refine JC_region ?_
  refine JL_val _ (Ev_move rfl) rfl ?_
  refine JL_val (.bool (decide ((500:Int) < (many)))) (Ev_bini rfl rfl fun _ => bin_gtr_i _ _) rfl ?_
  refine JL_val _ (Ev_move rfl) rfl ?_
  refine JL_gval 2 20 true _ _ rfl rfl (decide_eq_true (by omega)) (Ev_move rfl) rfl ?_
  refine JL_gval 2 20 true _ (.bool (decide ((many) ≤ (65536:Int)))) rfl rfl (decide_eq_true (by omega)) (Ev_bini rfl rfl fun _ => bin_leq_i _ _) rfl ?_
  refine JL_val _ (Ev_pickT _ rfl (decide_eq_true (by omega)) rfl) rfl ?_
  refine JL_nil ?_
  refine JQ_then ?_
  refine JC_condT _ rfl (decide_eq_true (by omega)) ?_
  refine JC_seq ?_
  refine JC_region ?_
  refine JL_val _ (Ev_assign rfl) rfl ?_
  refine JL_nil ?_
  refine JQ_then ?_
  refine JC_ret ?_
  refine JQ_then_ret ?_
  refine JQ_ret (.bool true) (res1 Try.results7 (RV_tmp rfl)) fun w1 hw1 => ?_
  exact ⟨_, [], rfl, ⟨by rw [show (true) = true from rfl], rfl⟩, hw1.sub (by simp) (by simp)⟩

theorem ctrCountersLow_c (c : List UInt8) (n : UInt64) (many : Int) (w : World) (hc : c.length = 16) (hm : many < 0) : Calls Try.prog 7 #[.agg (cu8 c).toArray, U64 n, I64 (many)] w (Post w [] (fun v L => v = .bool true ∧ L = [])) := by
  refine enter w [] 51 [] [.agg (cu8 c).toArray, U64 n, I64 (many)] Try.func7 rfl rfl (by simp) (Hp.start (by simp) (by simp) (by simp)) ?_
  show JC _ _ _ [(0, .agg (cu8 c).toArray), (1, U64 n), (2, I64 (many))] _
  refine JC_seq ?_
  refine JC_region ?_
  refine JL_step (Step_box (.agg (cu8 c).toArray) (cu8 c) rfl (by first | rfl | simp)) rfl ?_
  rintro v1 L1 ⟨nb1, hnb1, rfl, rfl⟩
  show JL _ _ _ _ ((3, Ptr nb1 0) :: _) [⟨nb1, cu8 c, 27, (0, 0)⟩]
  refine JL_val _ (Ev_assign rfl) rfl ?_
  refine JL_nil ?_
  refine JQ_then ?_
  refine JC_seq ?_
  refine JC_seq ?_
  refine JC_region ?_
  refine JL_step (Step_callP 30 [] (.bool true) (Cl_func [] Try.call30 rfl) (fun w1 _ => alive5_c  w1)) rfl ?_
  rintro v1 L1 ⟨rfl, rfl⟩
  show JL _ _ _ _ ((9, .bool true) :: _) [⟨nb1, cu8 c, 27, (0, 0)⟩]
  refine JL_val (.bool (!true)) (Ev_not rfl) rfl ?_
  refine JL_nil ?_
  refine JQ_then ?_
  refine JC_condF _ rfl rfl ?_
  refine JC_skip ?_
  refine JQ_then ?_
  refine JC_seq ?_
  refine JC_seq ?_
  refine JC_draw 51 3 [(0, .agg (cu8 c).toArray), (1, U64 n), (3, .agg (cu8 c).toArray), (4, U64 n)] Try.mixed rfl (by decide +kernel) ?_
  refine DP_one ⟨[], [0, 1, 3, 4], [], [0, 1, 3, 4], [2]⟩ 2 _ rfl rfl (by decide +kernel) rfl ⟨⟨_, rfl, Qok_val rfl (Ev_load rfl (Ld_agg Try.isAgg27 Try.sizeOf27 (len_cu8 hc) (MemAt.ent 0 rfl (Seg.whole _))))⟩, ⟨_, rfl, Qok_val rfl (Ev_move rfl)⟩, ⟨_, rfl, Qok_val rfl (Ev_load rfl (Ld_agg Try.isAgg27 Try.sizeOf27 (len_cu8 hc) (MemAt.ent 0 rfl (Seg.whole _))))⟩, ⟨_, rfl, Qok_val rfl (Ev_move rfl)⟩, trivial⟩ rfl (Cok_step rfl (Step_callP 31 [.agg (cu8 c).toArray, U64 n] (.agg (cu8 (nextL c n)).toArray) (Cl_func [.agg (cu8 c).toArray, U64 n] Try.call31 rfl) (fun w1 hw1 => next_c c n w1 hc))) ?_
  rintro v1 L1 ⟨rfl, rfl⟩
  refine ⟨[], ?_⟩
  show DP _ _ _ _ _ _ _ _ [⟨nb1, cu8 c, 27, (0, 0)⟩]
  refine DP_one ⟨[2], [0, 1, 3, 4], [0, 1], [3, 4], [5]⟩ 5 _ rfl rfl (by decide +kernel) rfl ⟨⟨_, rfl, Qok_val rfl (Ev_load rfl (Ld_agg Try.isAgg27 Try.sizeOf27 (len_cu8 hc) (MemAt.ent 0 rfl (Seg.whole _))))⟩, ⟨_, rfl, Qok_val rfl (Ev_move rfl)⟩, trivial⟩ rfl (Cok_step rfl (Step_callP 32 [.agg (cu8 c).toArray, U64 n] (.agg (cu8 (rnextL c n)).toArray) (Cl_func [.agg (cu8 c).toArray, U64 n] Try.call32 rfl) (fun w1 hw1 => rnext_c c n w1 hc))) ?_
  rintro v1 L1 ⟨rfl, rfl⟩
  refine ⟨[(6, .bool (!(decide ((nextL c n) = (rnextL c n)))))], ?_⟩
  show DP _ _ _ _ _ _ _ _ [⟨nb1, cu8 c, 27, (0, 0)⟩]
  refine DP_end ⟨[2, 5], [0, 1, 3, 4, 6], [0, 1, 3, 4], [6], []⟩ rfl rfl (by decide +kernel) rfl ⟨⟨_, rfl, Qok_val rfl (Ev_bin _ _ _ rfl rfl (fun _ => eqGuard_agg _ _ _ _ _ _ (by kernel_rfl)) fun _ => neq_arr8 Try.underlying27 Try.underlying5 Try.isAgg5 Try.cells5 Try.has5 (by simp [(nextL_len hc)]) (by simp [(rnextL_len hc)]))⟩, trivial⟩ ?_
  refine K_sub (F' := [(17, .bool (!(decide ((nextL c n) = (rnextL c n))))), (2, I64 (many)), (3, Ptr nb1 0), (6, .bool false)]) (Sub.cons (by kernel_rfl) (Sub.cons (by kernel_rfl) (Sub.cons (by kernel_rfl) (Sub.cons (by kernel_rfl) (Sub.nil))))) ?_
  show JQ _ _ _ [(17, .bool (!(decide ((nextL c n) = (rnextL c n))))), (2, I64 (many)), (3, Ptr nb1 0), (6, .bool false)] _
  refine JQ_then ?_
  refine JC_condF _ rfl (by rw [show (decide ((nextL c n) = (rnextL c n))) = true from (decide_eq_true (next_rnext hc))]; rfl) ?_
  refine JC_skip ?_
  refine JQ_then ?_
  refine JC_seq ?_
  refine JC_seq ?_
  refine JC_region ?_
  refine JL_val _ (Ev_move rfl) rfl ?_
  refine JL_val (.bool (decide ((500:Int) < (many)))) (Ev_bini rfl rfl fun _ => bin_gtr_i _ _) rfl ?_
  refine JL_val _ (Ev_move rfl) rfl ?_
  refine JL_gskip 2 20 true _ rfl rfl (decide_eq_false (by omega)) rfl ?_
  refine JL_gskip 2 20 true _ rfl rfl (decide_eq_false (by omega)) rfl ?_
  refine JL_val _ (Ev_pickF _ rfl (decide_eq_false (by omega)) rfl) rfl ?_
  refine JL_nil ?_
  refine JQ_then ?_
  refine JC_condF _ rfl rfl ?_
  refine JC_skip ?_
  refine JQ_then ?_
  refine JC_seq ?_
  refine JC_region ?_
  refine JL_val (.agg (cu8 c).toArray) (Ev_load rfl (Ld_agg Try.isAgg27 Try.sizeOf27 (len_cu8 hc) (MemAt.ent 0 rfl (Seg.whole _)))) rfl ?_
  refine JL_val _ (Ev_move rfl) rfl ?_
  refine JL_step (Step_callP 33 [.pointer none, .agg (cu8 c).toArray, I64 (many)] (.tuple #[.slice none 0 0, .iface 36 (I64 (1:Int))]) (Cl_func [.pointer none, .agg (cu8 c).toArray, I64 (many)] Try.call33 rfl) (fun w1 hw1 => streamOut_c none c (many) w1 hc (.inl hm))) rfl ?_
  rintro v1 L1 ⟨rfl, rfl⟩
  show JL _ _ _ _ ((27, .tuple #[.slice none 0 0, .iface 36 (I64 (1:Int))]) :: _) [⟨nb1, cu8 c, 27, (0, 0)⟩]
  refine JL_val _ (Ev_move rfl) rfl ?_
  refine JL_val _ (Ev_extract rfl rfl) rfl ?_
  refine JL_val _ (Ev_extract rfl rfl) rfl ?_
  refine JL_val _ (Ev_assign rfl) rfl ?_
  refine JL_val _ (Ev_assign rfl) rfl ?_
  refine JL_nil ?_
  refine JQ_then ?_
  refine JC_seq ?_
  refine JC_seq ?_
  refine JC_region ?_
  refine JL_val _ (Ev_move rfl) rfl ?_
  refine JL_val (.bool (decide ((many) < (0:Int)))) (Ev_bini rfl rfl fun _ => bin_lss_i _ _) rfl ?_
  refine JL_val _ (Ev_move rfl) rfl ?_
  refine JL_gskip 2 32 false _ rfl rfl (decide_eq_true (by omega)) rfl ?_
  refine JL_gskip 2 32 false _ rfl rfl (decide_eq_true (by omega)) rfl ?_
  refine JL_val _ (Ev_pickT _ rfl (decide_eq_true (by omega)) rfl) rfl ?_
  refine JL_nil ?_
  refine JQ_then ?_
  refine JC_condT _ rfl rfl ?_
  refine JC_seq ?_
  refine JC_region ?_
  refine JL_val _ (Ev_move rfl) rfl ?_
  refine JL_step (Step_callP 24 [.iface 36 (I64 (1:Int)), I64 (1:Int)] (.bool (decide ((1:Int) = (1:Int)))) (Cl_func [.iface 36 (I64 (1:Int)), I64 (1:Int)] Try.call24 rfl) (fun w1 _ => ise_c (1:Int) (1:Int) w1 (by decide))) rfl ?_
  rintro v1 L1 ⟨rfl, rfl⟩
  show JL _ _ _ _ ((37, .bool (decide ((1:Int) = (1:Int)))) :: _) [⟨nb1, cu8 c, 27, (0, 0)⟩]
  refine JL_val _ (Ev_move rfl) rfl ?_
  refine JL_gval 2 38 true _ _ rfl rfl (by decide) (Ev_move rfl) rfl ?_
  refine JL_gval 2 38 true _ (I64 (0:Int)) rfl rfl (by decide) (Ev_len Try.underlying38 rfl) rfl ?_
  refine JL_gval 2 38 true _ (.bool (decide ((0:Int) = (0:Int)))) rfl rfl (by decide) (Ev_bini rfl rfl fun _ => bin_eql_i _ _) rfl ?_
  refine JL_val _ (Ev_pickT _ rfl (by decide) rfl) rfl ?_
  refine JL_val _ (Ev_assign rfl) rfl ?_
  refine JL_nil ?_
  refine JQ_then ?_
  refine JC_ret ?_
  refine JQ_then_ret ?_
  refine JQ_ret (.bool (decide ((0:Int) = (0:Int)))) (res1 Try.results7 (RV_tmp rfl)) fun w1 hw1 => ?_
  exact ⟨_, [], rfl, ⟨by rw [show (decide ((0:Int) = (0:Int))) = true from (by decide)], rfl⟩, hw1.sub (by simp) (by simp)⟩

theorem ctrCountersHigh_c (c : List UInt8) (n : UInt64) (many : Int) (w : World) (hc : c.length = 16) (hm : 65536 < many) : Calls Try.prog 7 #[.agg (cu8 c).toArray, U64 n, I64 (many)] w (Post w [] (fun v L => v = .bool true ∧ L = [])) := by
  refine enter w [] 51 [] [.agg (cu8 c).toArray, U64 n, I64 (many)] Try.func7 rfl rfl (by simp) (Hp.start (by simp) (by simp) (by simp)) ?_
  show JC _ _ _ [(0, .agg (cu8 c).toArray), (1, U64 n), (2, I64 (many))] _
  refine JC_seq ?_
  refine JC_region ?_
  refine JL_step (Step_box (.agg (cu8 c).toArray) (cu8 c) rfl (by first | rfl | simp)) rfl ?_
  rintro v1 L1 ⟨nb1, hnb1, rfl, rfl⟩
  show JL _ _ _ _ ((3, Ptr nb1 0) :: _) [⟨nb1, cu8 c, 27, (0, 0)⟩]
  refine JL_val _ (Ev_assign rfl) rfl ?_
  refine JL_nil ?_
  refine JQ_then ?_
  refine JC_seq ?_
  refine JC_seq ?_
  refine JC_region ?_
  refine JL_step (Step_callP 30 [] (.bool true) (Cl_func [] Try.call30 rfl) (fun w1 _ => alive5_c  w1)) rfl ?_
  rintro v1 L1 ⟨rfl, rfl⟩
  show JL _ _ _ _ ((9, .bool true) :: _) [⟨nb1, cu8 c, 27, (0, 0)⟩]
  refine JL_val (.bool (!true)) (Ev_not rfl) rfl ?_
  refine JL_nil ?_
  refine JQ_then ?_
  refine JC_condF _ rfl rfl ?_
  refine JC_skip ?_
  refine JQ_then ?_
  refine JC_seq ?_
  refine JC_seq ?_
  refine JC_draw 51 3 [(0, .agg (cu8 c).toArray), (1, U64 n), (3, .agg (cu8 c).toArray), (4, U64 n)] Try.mixed rfl (by decide +kernel) ?_
  refine DP_one ⟨[], [0, 1, 3, 4], [], [0, 1, 3, 4], [2]⟩ 2 _ rfl rfl (by decide +kernel) rfl ⟨⟨_, rfl, Qok_val rfl (Ev_load rfl (Ld_agg Try.isAgg27 Try.sizeOf27 (len_cu8 hc) (MemAt.ent 0 rfl (Seg.whole _))))⟩, ⟨_, rfl, Qok_val rfl (Ev_move rfl)⟩, ⟨_, rfl, Qok_val rfl (Ev_load rfl (Ld_agg Try.isAgg27 Try.sizeOf27 (len_cu8 hc) (MemAt.ent 0 rfl (Seg.whole _))))⟩, ⟨_, rfl, Qok_val rfl (Ev_move rfl)⟩, trivial⟩ rfl (Cok_step rfl (Step_callP 31 [.agg (cu8 c).toArray, U64 n] (.agg (cu8 (nextL c n)).toArray) (Cl_func [.agg (cu8 c).toArray, U64 n] Try.call31 rfl) (fun w1 hw1 => next_c c n w1 hc))) ?_
  rintro v1 L1 ⟨rfl, rfl⟩
  refine ⟨[], ?_⟩
  show DP _ _ _ _ _ _ _ _ [⟨nb1, cu8 c, 27, (0, 0)⟩]
  refine DP_one ⟨[2], [0, 1, 3, 4], [0, 1], [3, 4], [5]⟩ 5 _ rfl rfl (by decide +kernel) rfl ⟨⟨_, rfl, Qok_val rfl (Ev_load rfl (Ld_agg Try.isAgg27 Try.sizeOf27 (len_cu8 hc) (MemAt.ent 0 rfl (Seg.whole _))))⟩, ⟨_, rfl, Qok_val rfl (Ev_move rfl)⟩, trivial⟩ rfl (Cok_step rfl (Step_callP 32 [.agg (cu8 c).toArray, U64 n] (.agg (cu8 (rnextL c n)).toArray) (Cl_func [.agg (cu8 c).toArray, U64 n] Try.call32 rfl) (fun w1 hw1 => rnext_c c n w1 hc))) ?_
  rintro v1 L1 ⟨rfl, rfl⟩
  refine ⟨[(6, .bool (!(decide ((nextL c n) = (rnextL c n)))))], ?_⟩
  show DP _ _ _ _ _ _ _ _ [⟨nb1, cu8 c, 27, (0, 0)⟩]
  refine DP_end ⟨[2, 5], [0, 1, 3, 4, 6], [0, 1, 3, 4], [6], []⟩ rfl rfl (by decide +kernel) rfl ⟨⟨_, rfl, Qok_val rfl (Ev_bin _ _ _ rfl rfl (fun _ => eqGuard_agg _ _ _ _ _ _ (by kernel_rfl)) fun _ => neq_arr8 Try.underlying27 Try.underlying5 Try.isAgg5 Try.cells5 Try.has5 (by simp [(nextL_len hc)]) (by simp [(rnextL_len hc)]))⟩, trivial⟩ ?_
  refine K_sub (F' := [(17, .bool (!(decide ((nextL c n) = (rnextL c n))))), (2, I64 (many)), (3, Ptr nb1 0), (6, .bool false)]) (Sub.cons (by kernel_rfl) (Sub.cons (by kernel_rfl) (Sub.cons (by kernel_rfl) (Sub.cons (by kernel_rfl) (Sub.nil))))) ?_
  show JQ _ _ _ [(17, .bool (!(decide ((nextL c n) = (rnextL c n))))), (2, I64 (many)), (3, Ptr nb1 0), (6, .bool false)] _
  refine JQ_then ?_
  refine JC_condF _ rfl (by rw [show (decide ((nextL c n) = (rnextL c n))) = true from (decide_eq_true (next_rnext hc))]; rfl) ?_
  refine JC_skip ?_
  refine JQ_then ?_
  refine JC_seq ?_
  refine JC_seq ?_
  refine JC_region ?_
  refine JL_val _ (Ev_move rfl) rfl ?_
  refine JL_val (.bool (decide ((500:Int) < (many)))) (Ev_bini rfl rfl fun _ => bin_gtr_i _ _) rfl ?_
  refine JL_val _ (Ev_move rfl) rfl ?_
  refine JL_gval 2 20 true _ _ rfl rfl (decide_eq_true (by omega)) (Ev_move rfl) rfl ?_
  refine JL_gval 2 20 true _ (.bool (decide ((many) ≤ (65536:Int)))) rfl rfl (decide_eq_true (by omega)) (Ev_bini rfl rfl fun _ => bin_leq_i _ _) rfl ?_
  refine JL_val _ (Ev_pickT _ rfl (decide_eq_true (by omega)) rfl) rfl ?_
  refine JL_nil ?_
  refine JQ_then ?_
  refine JC_condF _ rfl (decide_eq_false (by omega)) ?_
  refine JC_skip ?_
  refine JQ_then ?_
  refine JC_seq ?_
  refine JC_region ?_
  refine JL_val (.agg (cu8 c).toArray) (Ev_load rfl (Ld_agg Try.isAgg27 Try.sizeOf27 (len_cu8 hc) (MemAt.ent 0 rfl (Seg.whole _)))) rfl ?_
  refine JL_val _ (Ev_move rfl) rfl ?_
  refine JL_step (Step_callP 33 [.pointer none, .agg (cu8 c).toArray, I64 (many)] (.tuple #[.slice none 0 0, .iface 36 (I64 (1:Int))]) (Cl_func [.pointer none, .agg (cu8 c).toArray, I64 (many)] Try.call33 rfl) (fun w1 hw1 => streamOut_c none c (many) w1 hc (.inr hm))) rfl ?_
  rintro v1 L1 ⟨rfl, rfl⟩
  show JL _ _ _ _ ((27, .tuple #[.slice none 0 0, .iface 36 (I64 (1:Int))]) :: _) [⟨nb1, cu8 c, 27, (0, 0)⟩]
  refine JL_val _ (Ev_move rfl) rfl ?_
  refine JL_val _ (Ev_extract rfl rfl) rfl ?_
  refine JL_val _ (Ev_extract rfl rfl) rfl ?_
  refine JL_val _ (Ev_assign rfl) rfl ?_
  refine JL_val _ (Ev_assign rfl) rfl ?_
  refine JL_nil ?_
  refine JQ_then ?_
  refine JC_seq ?_
  refine JC_seq ?_
  refine JC_region ?_
  refine JL_val _ (Ev_move rfl) rfl ?_
  refine JL_val (.bool (decide ((many) < (0:Int)))) (Ev_bini rfl rfl fun _ => bin_lss_i _ _) rfl ?_
  refine JL_val _ (Ev_move rfl) rfl ?_
  refine JL_gval 2 32 false _ _ rfl rfl (decide_eq_false (by omega)) (Ev_move rfl) rfl ?_
  refine JL_gval 2 32 false _ (.bool (decide ((65536:Int) < (many)))) rfl rfl (decide_eq_false (by omega)) (Ev_bini rfl rfl fun _ => bin_gtr_i _ _) rfl ?_
  refine JL_val _ (Ev_pickF _ rfl (decide_eq_false (by omega)) rfl) rfl ?_
  refine JL_nil ?_
  refine JQ_then ?_
  refine JC_condT _ rfl (decide_eq_true (by omega)) ?_
  refine JC_seq ?_
  refine JC_region ?_
  refine JL_val _ (Ev_move rfl) rfl ?_
  refine JL_step (Step_callP 24 [.iface 36 (I64 (1:Int)), I64 (1:Int)] (.bool (decide ((1:Int) = (1:Int)))) (Cl_func [.iface 36 (I64 (1:Int)), I64 (1:Int)] Try.call24 rfl) (fun w1 _ => ise_c (1:Int) (1:Int) w1 (by decide))) rfl ?_
  rintro v1 L1 ⟨rfl, rfl⟩
  show JL _ _ _ _ ((37, .bool (decide ((1:Int) = (1:Int)))) :: _) [⟨nb1, cu8 c, 27, (0, 0)⟩]
  refine JL_val _ (Ev_move rfl) rfl ?_
  refine JL_gval 2 38 true _ _ rfl rfl (by decide) (Ev_move rfl) rfl ?_
  refine JL_gval 2 38 true _ (I64 (0:Int)) rfl rfl (by decide) (Ev_len Try.underlying38 rfl) rfl ?_
  refine JL_gval 2 38 true _ (.bool (decide ((0:Int) = (0:Int)))) rfl rfl (by decide) (Ev_bini rfl rfl fun _ => bin_eql_i _ _) rfl ?_
  refine JL_val _ (Ev_pickT _ rfl (by decide) rfl) rfl ?_
  refine JL_val _ (Ev_assign rfl) rfl ?_
  refine JL_nil ?_
  refine JQ_then ?_
  refine JC_ret ?_
  refine JQ_then_ret ?_
  refine JQ_ret (.bool (decide ((0:Int) = (0:Int)))) (res1 Try.results7 (RV_tmp rfl)) fun w1 hw1 => ?_
  exact ⟨_, [], rfl, ⟨by rw [show (decide ((0:Int) = (0:Int))) = true from (by decide)], rfl⟩, hw1.sub (by simp) (by simp)⟩

theorem ctrCountersIn_c (c : List UInt8) (n : UInt64) (many : Nat) (w : World) (hc : c.length = 16) (hm : many ≤ 500) : Calls Try.prog 7 #[.agg (cu8 c).toArray, U64 n, I64 ((many:Int))] w (Post w [] (fun v L => v = .bool true ∧ L = [])) := by
  refine enter w [] 51 [] [.agg (cu8 c).toArray, U64 n, I64 ((many:Int))] Try.func7 rfl rfl (by simp) (Hp.start (by simp) (by simp) (by simp)) ?_
  show JC _ _ _ [(0, .agg (cu8 c).toArray), (1, U64 n), (2, I64 ((many:Int)))] _
  refine JC_seq ?_
  refine JC_region ?_
  refine JL_step (Step_box (.agg (cu8 c).toArray) (cu8 c) rfl (by first | rfl | simp)) rfl ?_
  rintro v1 L1 ⟨nb1, hnb1, rfl, rfl⟩
  show JL _ _ _ _ ((3, Ptr nb1 0) :: _) [⟨nb1, cu8 c, 27, (0, 0)⟩]
  refine JL_val _ (Ev_assign rfl) rfl ?_
  refine JL_nil ?_
  refine JQ_then ?_
  refine JC_seq ?_
  refine JC_seq ?_
  refine JC_region ?_
  refine JL_step (Step_callP 30 [] (.bool true) (Cl_func [] Try.call30 rfl) (fun w1 _ => alive5_c  w1)) rfl ?_
  rintro v1 L1 ⟨rfl, rfl⟩
  show JL _ _ _ _ ((9, .bool true) :: _) [⟨nb1, cu8 c, 27, (0, 0)⟩]
  refine JL_val (.bool (!true)) (Ev_not rfl) rfl ?_
  refine JL_nil ?_
  refine JQ_then ?_
  refine JC_condF _ rfl rfl ?_
  refine JC_skip ?_
  refine JQ_then ?_
  refine JC_seq ?_
  refine JC_seq ?_
  refine JC_draw 51 3 [(0, .agg (cu8 c).toArray), (1, U64 n), (3, .agg (cu8 c).toArray), (4, U64 n)] Try.mixed rfl (by decide +kernel) ?_
  refine DP_one ⟨[], [0, 1, 3, 4], [], [0, 1, 3, 4], [2]⟩ 2 _ rfl rfl (by decide +kernel) rfl ⟨⟨_, rfl, Qok_val rfl (Ev_load rfl (Ld_agg Try.isAgg27 Try.sizeOf27 (len_cu8 hc) (MemAt.ent 0 rfl (Seg.whole _))))⟩, ⟨_, rfl, Qok_val rfl (Ev_move rfl)⟩, ⟨_, rfl, Qok_val rfl (Ev_load rfl (Ld_agg Try.isAgg27 Try.sizeOf27 (len_cu8 hc) (MemAt.ent 0 rfl (Seg.whole _))))⟩, ⟨_, rfl, Qok_val rfl (Ev_move rfl)⟩, trivial⟩ rfl (Cok_step rfl (Step_callP 31 [.agg (cu8 c).toArray, U64 n] (.agg (cu8 (nextL c n)).toArray) (Cl_func [.agg (cu8 c).toArray, U64 n] Try.call31 rfl) (fun w1 hw1 => next_c c n w1 hc))) ?_
  rintro v1 L1 ⟨rfl, rfl⟩
  refine ⟨[], ?_⟩
  show DP _ _ _ _ _ _ _ _ [⟨nb1, cu8 c, 27, (0, 0)⟩]
  refine DP_one ⟨[2], [0, 1, 3, 4], [0, 1], [3, 4], [5]⟩ 5 _ rfl rfl (by decide +kernel) rfl ⟨⟨_, rfl, Qok_val rfl (Ev_load rfl (Ld_agg Try.isAgg27 Try.sizeOf27 (len_cu8 hc) (MemAt.ent 0 rfl (Seg.whole _))))⟩, ⟨_, rfl, Qok_val rfl (Ev_move rfl)⟩, trivial⟩ rfl (Cok_step rfl (Step_callP 32 [.agg (cu8 c).toArray, U64 n] (.agg (cu8 (rnextL c n)).toArray) (Cl_func [.agg (cu8 c).toArray, U64 n] Try.call32 rfl) (fun w1 hw1 => rnext_c c n w1 hc))) ?_
  rintro v1 L1 ⟨rfl, rfl⟩
  refine ⟨[(6, .bool (!(decide ((nextL c n) = (rnextL c n)))))], ?_⟩
  show DP _ _ _ _ _ _ _ _ [⟨nb1, cu8 c, 27, (0, 0)⟩]
  refine DP_end ⟨[2, 5], [0, 1, 3, 4, 6], [0, 1, 3, 4], [6], []⟩ rfl rfl (by decide +kernel) rfl ⟨⟨_, rfl, Qok_val rfl (Ev_bin _ _ _ rfl rfl (fun _ => eqGuard_agg _ _ _ _ _ _ (by kernel_rfl)) fun _ => neq_arr8 Try.underlying27 Try.underlying5 Try.isAgg5 Try.cells5 Try.has5 (by simp [(nextL_len hc)]) (by simp [(rnextL_len hc)]))⟩, trivial⟩ ?_
  refine K_sub (F' := [(17, .bool (!(decide ((nextL c n) = (rnextL c n))))), (2, I64 ((many:Int))), (3, Ptr nb1 0), (6, .bool false)]) (Sub.cons (by kernel_rfl) (Sub.cons (by kernel_rfl) (Sub.cons (by kernel_rfl) (Sub.cons (by kernel_rfl) (Sub.nil))))) ?_
  show JQ _ _ _ [(17, .bool (!(decide ((nextL c n) = (rnextL c n))))), (2, I64 ((many:Int))), (3, Ptr nb1 0), (6, .bool false)] _
  refine JQ_then ?_
  refine JC_condF _ rfl (by rw [show (decide ((nextL c n) = (rnextL c n))) = true from (decide_eq_true (next_rnext hc))]; rfl) ?_
  refine JC_skip ?_
  refine JQ_then ?_
  refine JC_seq ?_
  refine JC_seq ?_
  refine JC_region ?_
  refine JL_val _ (Ev_move rfl) rfl ?_
  refine JL_val (.bool (decide ((500:Int) < ((many:Int))))) (Ev_bini rfl rfl fun _ => bin_gtr_i _ _) rfl ?_
  refine JL_val _ (Ev_move rfl) rfl ?_
  refine JL_gskip 2 20 true _ rfl rfl (decide_eq_false (by omega)) rfl ?_
  refine JL_gskip 2 20 true _ rfl rfl (decide_eq_false (by omega)) rfl ?_
  refine JL_val _ (Ev_pickF _ rfl (decide_eq_false (by omega)) rfl) rfl ?_
  refine JL_nil ?_
  refine JQ_then ?_
  refine JC_condF _ rfl rfl ?_
  refine JC_skip ?_
  refine JQ_then ?_
  refine JC_seq ?_
  refine JC_region ?_
  refine JL_val (.agg (cu8 c).toArray) (Ev_load rfl (Ld_agg Try.isAgg27 Try.sizeOf27 (len_cu8 hc) (MemAt.ent 0 rfl (Seg.whole _)))) rfl ?_
  refine JL_val _ (Ev_move rfl) rfl ?_
  refine JL_step (Step_callN 33 [.pointer none, .agg (cu8 c).toArray, I64 ((many:Int))] _ (Cl_func [.pointer none, .agg (cu8 c).toArray, I64 ((many:Int))] Try.call33 rfl) (fun w1 hw1 => streamIn_c none (rkL (zr8 16)) c many w1 hc (by omega) (.inl ⟨rfl, rfl⟩))) rfl ?_
  rintro v1 L1 ⟨_, ⟨nb2, sp1, cp1, rfl, rfl, hc1, hc2, hc3⟩, rfl⟩
  show JL _ _ _ _ ((27, .tuple #[Slc nb2 0 many cp1, .nilIface]) :: _) [⟨nb1, cu8 c, 27, (0, 0)⟩, ⟨nb2, cu8 (strT (eBlk (rkL (zr8 16)) c) many) ++ sp1, 5, (0, 0)⟩]
  refine JL_val _ (Ev_move rfl) rfl ?_
  refine JL_val _ (Ev_extract rfl rfl) rfl ?_
  refine JL_val _ (Ev_extract rfl rfl) rfl ?_
  refine JL_val _ (Ev_assign rfl) rfl ?_
  refine JL_val _ (Ev_assign rfl) rfl ?_
  refine JL_nil ?_
  refine JQ_then ?_
  refine JC_seq ?_
  refine JC_seq ?_
  refine JC_region ?_
  refine JL_val _ (Ev_move rfl) rfl ?_
  refine JL_val (.bool (decide (((many:Int)) < (0:Int)))) (Ev_bini rfl rfl fun _ => bin_lss_i _ _) rfl ?_
  refine JL_val _ (Ev_move rfl) rfl ?_
  refine JL_gval 2 32 false _ _ rfl rfl (decide_eq_false (by omega)) (Ev_move rfl) rfl ?_
  refine JL_gval 2 32 false _ (.bool (decide ((65536:Int) < ((many:Int))))) rfl rfl (decide_eq_false (by omega)) (Ev_bini rfl rfl fun _ => bin_gtr_i _ _) rfl ?_
  refine JL_val _ (Ev_pickF _ rfl (decide_eq_false (by omega)) rfl) rfl ?_
  refine JL_nil ?_
  refine JQ_then ?_
  refine JC_condF _ rfl (decide_eq_false (by omega)) ?_
  refine JC_skip ?_
  refine JQ_then ?_
  refine JC_seq ?_
  refine JC_region ?_
  refine JL_val _ (Ev_move rfl) rfl ?_
  refine JL_val (.bool true) (Ev_bin _ _ _ rfl rfl (fun _ => eqGuard_nn ..) fun _ => eql_if_nil_nil Try.underlying30) rfl ?_
  refine JL_val _ (Ev_move rfl) rfl ?_
  refine JL_gval 2 45 true _ _ rfl rfl rfl (Ev_move rfl) rfl ?_
  refine JL_gval 2 45 true _ (I64 ((many:Int))) rfl rfl rfl (Ev_len Try.underlying38 rfl) rfl ?_
  refine JL_gval 2 45 true _ _ rfl rfl rfl (Ev_move rfl) rfl ?_
  refine JL_gval 2 45 true _ (.bool (decide (((many:Int)) = ((many:Int))))) rfl rfl rfl (Ev_bini rfl rfl fun _ => bin_eql_i _ _) rfl ?_
  refine JL_val _ (Ev_pickT _ rfl rfl rfl) rfl ?_
  refine JL_val _ (Ev_assign rfl) rfl ?_
  refine JL_nil ?_
  refine JQ_then ?_
  refine JC_ret ?_
  refine JQ_ret (.bool (decide (((many:Int)) = ((many:Int))))) (res1 Try.results7 (RV_tmp rfl)) fun w1 hw1 => ?_
  exact ⟨_, [], rfl, ⟨by rw [show (decide (((many:Int)) = ((many:Int)))) = true from (by simp)], rfl⟩, hw1.sub (by simp) (by simp)⟩

theorem ctrCounters_w (c : List UInt8) (n : UInt64) (many : Int) (w : World) (hc : c.length = 16) (hb : -9223372036854775808 ≤ many ∧ many ≤ 9223372036854775807) : Calls Try.prog 7 #[.agg (cu8 c).toArray, U64 n, I64 many] w (Post w [] (fun v L => v = .bool true ∧ L = [])) := by
  by_cases h1 : many < 0
  · exact ctrCountersLow_c c n many w hc h1
  · by_cases h2 : 65536 < many
    · exact ctrCountersHigh_c c n many w hc h2
    · by_cases h3 : 500 < many
      · exact ctrCountersMid_c c n many w hc ⟨h3, by omega⟩
      · obtain ⟨m, rfl⟩ : ∃ m : Nat, many = m := ⟨many.toNat, by omega⟩
        exact ctrCountersIn_c c n m w hc (by omega)

theorem ctrStreamsBig_c (key c : List UInt8) (ab : Option Addr) (n cb : Nat) (b : List UInt8) (w : World) (hk : key.length = 16) (hc : c.length = 16) (hn : 300 < n) : Calls Try.prog 9 #[.agg (cu8 key).toArray, .agg (cu8 c).toArray, .slice ab n cb] w (Post w [] (fun v L => v = .bool true ∧ L = [])) := by
  refine enter w [] 59 [] [.agg (cu8 key).toArray, .agg (cu8 c).toArray, .slice ab n cb] Try.func9 rfl rfl (by simp) (Hp.start (by simp) (by simp) (by simp)) ?_
  show JC _ _ _ [(0, .agg (cu8 key).toArray), (1, .agg (cu8 c).toArray), (2, .slice ab n cb)] _
  refine JC_seq ?_
  refine JC_region ?_
  refine JL_step (Step_box (.agg (cu8 key).toArray) (cu8 key) rfl (by first | rfl | simp)) rfl ?_
  rintro v1 L1 ⟨nb1, hnb1, rfl, rfl⟩
  show JL _ _ _ _ ((3, Ptr nb1 0) :: _) [⟨nb1, cu8 key, 28, (0, 0)⟩]
  refine JL_step (Step_box (.agg (cu8 c).toArray) (cu8 c) rfl (by first | rfl | simp)) rfl ?_
  rintro v1 L1 ⟨nb2, hnb2, rfl, rfl⟩
  show JL _ _ _ _ ((4, Ptr nb2 0) :: _) [⟨nb1, cu8 key, 28, (0, 0)⟩, ⟨nb2, cu8 c, 27, (0, 0)⟩]
  refine JL_val _ (Ev_assign rfl) rfl ?_
  refine JL_nil ?_
  refine JQ_then ?_
  refine JC_seq ?_
  refine JC_seq ?_
  refine JC_region ?_
  refine JL_step (Step_callP 30 [] (.bool true) (Cl_func [] Try.call30 rfl) (fun w1 _ => alive5_c  w1)) rfl ?_
  rintro v1 L1 ⟨rfl, rfl⟩
  show JL _ _ _ _ ((12, .bool true) :: _) [⟨nb1, cu8 key, 28, (0, 0)⟩, ⟨nb2, cu8 c, 27, (0, 0)⟩]
  refine JL_val (.bool (!true)) (Ev_not rfl) rfl ?_
  refine JL_nil ?_
  refine JQ_then ?_
  refine JC_condF _ rfl rfl ?_
  refine JC_skip ?_
  refine JQ_then ?_
  refine JC_seq ?_
  refine JC_seq ?_
  refine JC_region ?_
  refine JL_val _ (Ev_move rfl) rfl ?_
  refine JL_val (I64 ((n:Int))) (Ev_len Try.underlying38 rfl) rfl ?_
  refine JL_val (.bool (decide ((300:Int) < ((n:Int))))) (Ev_bini rfl rfl fun _ => bin_gtr_i _ _) rfl ?_
  refine JL_nil ?_
  refine JQ_then ?_
  refine JC_condT _ rfl (decide_eq_true (by omega)) ?_
  refine JC_seq ?_
  refine JC_region ?_
  refine JL_val _ (Ev_assign rfl) rfl ?_
  refine JL_nil ?_
  refine JQ_then ?_
  refine JC_ret ?_
  refine JQ_then_ret ?_
  refine JQ_ret (.bool true) (res1 Try.results9 (RV_tmp rfl)) fun w1 hw1 => ?_
  exact ⟨_, [], rfl, ⟨by rw [show (true) = true from rfl], rfl⟩, hw1.sub (by simp) (by simp)⟩

theorem ctrStreamsIn_c (key c : List UInt8) (ab : Option Addr) (n cb : Nat) (b : List UInt8) (w : World) (hk : key.length = 16) (hc : c.length = 16) (hn0 : 0 < n) (hn : n ≤ 300) (hb : b.length = n) (hcb : n ≤ cb ∧ cb ≤ maxLen) (hr : RdB w [] ab b) : Calls Try.prog 9 #[.agg (cu8 key).toArray, .agg (cu8 c).toArray, .slice ab n cb] w (Post w [] (fun v L => v = .bool true ∧ L = [])) := by
  refine enter w [] 59 [] [.agg (cu8 key).toArray, .agg (cu8 c).toArray, .slice ab n cb] Try.func9 rfl rfl (by simp) (Hp.start (by simp) (by simp) (by simp)) ?_
  show JC _ _ _ [(0, .agg (cu8 key).toArray), (1, .agg (cu8 c).toArray), (2, .slice ab n cb)] _
  refine JC_seq ?_
  refine JC_region ?_
  refine JL_step (Step_box (.agg (cu8 key).toArray) (cu8 key) rfl (by first | rfl | simp)) rfl ?_
  rintro v1 L1 ⟨nb1, hnb1, rfl, rfl⟩
  show JL _ _ _ _ ((3, Ptr nb1 0) :: _) [⟨nb1, cu8 key, 28, (0, 0)⟩]
  refine JL_step (Step_box (.agg (cu8 c).toArray) (cu8 c) rfl (by first | rfl | simp)) rfl ?_
  rintro v1 L1 ⟨nb2, hnb2, rfl, rfl⟩
  show JL _ _ _ _ ((4, Ptr nb2 0) :: _) [⟨nb1, cu8 key, 28, (0, 0)⟩, ⟨nb2, cu8 c, 27, (0, 0)⟩]
  refine JL_val _ (Ev_assign rfl) rfl ?_
  refine JL_nil ?_
  refine JQ_then ?_
  refine JC_seq ?_
  refine JC_seq ?_
  refine JC_region ?_
  refine JL_step (Step_callP 30 [] (.bool true) (Cl_func [] Try.call30 rfl) (fun w1 _ => alive5_c  w1)) rfl ?_
  rintro v1 L1 ⟨rfl, rfl⟩
  show JL _ _ _ _ ((12, .bool true) :: _) [⟨nb1, cu8 key, 28, (0, 0)⟩, ⟨nb2, cu8 c, 27, (0, 0)⟩]
  refine JL_val (.bool (!true)) (Ev_not rfl) rfl ?_
  refine JL_nil ?_
  refine JQ_then ?_
  refine JC_condF _ rfl rfl ?_
  refine JC_skip ?_
  refine JQ_then ?_
  refine JC_seq ?_
  refine JC_seq ?_
  refine JC_region ?_
  refine JL_val _ (Ev_move rfl) rfl ?_
  refine JL_val (I64 ((n:Int))) (Ev_len Try.underlying38 rfl) rfl ?_
  refine JL_val (.bool (decide ((300:Int) < ((n:Int))))) (Ev_bini rfl rfl fun _ => bin_gtr_i _ _) rfl ?_
  refine JL_nil ?_
  refine JQ_then ?_
  refine JC_condF _ rfl (decide_eq_false (by omega)) ?_
  refine JC_skip ?_
  refine JQ_then ?_
  refine JC_seq ?_
  refine JC_region ?_
  refine JL_val (.agg (cu8 key).toArray) (Ev_load rfl (Ld_agg Try.isAgg28 Try.sizeOf28 (len_cu8 hk) (MemAt.ent 0 rfl (Seg.whole _)))) rfl ?_
  refine JL_step (Step_callN 22 [.agg (cu8 key).toArray] _ (Cl_func [.agg (cu8 key).toArray] Try.call22 rfl) (fun w1 hw1 => new_c key w1 hk)) rfl ?_
  rintro v1 L1 ⟨_, ⟨nb3, rfl, rfl⟩, rfl⟩
  show JL _ _ _ _ ((18, Ptr nb3 0) :: _) [⟨nb1, cu8 key, 28, (0, 0)⟩, ⟨nb2, cu8 c, 27, (0, 0)⟩, ⟨nb3, cu8 (rkL key) ++ cu8 thereL ++ cu8 backL, 106, (0, 0)⟩]
  refine JL_val _ (Ev_assign rfl) rfl ?_
  refine JL_nil ?_
  refine JQ_then ?_
  refine JC_seq ?_
  refine JC_region ?_
  refine JL_val (.agg (cu8 key).toArray) (Ev_load rfl (Ld_agg Try.isAgg28 Try.sizeOf28 (len_cu8 hk) (MemAt.ent 0 rfl (Seg.whole _)))) rfl ?_
  refine JL_step (Step_callN 26 [.agg (cu8 key).toArray] _ (Cl_func [.agg (cu8 key).toArray] Try.call26 rfl) (fun w1 hw1 => rkeys_c key w1 hk)) rfl ?_
  rintro v1 L1 ⟨_, ⟨nb4, sp1, cp1, hc1, hs1, rfl, rfl⟩, rfl⟩
  show JL _ _ _ _ ((20, Slc nb4 0 176 cp1) :: _) [⟨nb1, cu8 key, 28, (0, 0)⟩, ⟨nb2, cu8 c, 27, (0, 0)⟩, ⟨nb3, cu8 (rkL key) ++ cu8 thereL ++ cu8 backL, 106, (0, 0)⟩, ⟨nb4, cu8 (rkeysL key) ++ sp1, 5, (0, 0)⟩]
  refine JL_val _ (Ev_assign rfl) rfl ?_
  refine JL_nil ?_
  refine JQ_then ?_
  refine JC_seq ?_
  refine JC_region ?_
  refine JL_step (Step_buildSlice0 5 1 Try.underlying38 Try.sizeOf5) rfl ?_
  rintro v1 L1 ⟨nb5, hnb5, rfl, rfl⟩
  show JL _ _ _ _ ((21, Slc nb5 0 0 0) :: _) [⟨nb1, cu8 key, 28, (0, 0)⟩, ⟨nb2, cu8 c, 27, (0, 0)⟩, ⟨nb3, cu8 (rkL key) ++ cu8 thereL ++ cu8 backL, 106, (0, 0)⟩, ⟨nb4, cu8 (rkeysL key) ++ sp1, 5, (0, 0)⟩, ⟨nb5, [], 5, (0, 0)⟩]
  refine JL_val _ (Ev_move rfl) rfl ?_
  refine JL_step (Step_appM8 38 5 [false, false, false, false, true] (Slc nb5 0 0 0) 0 ([] : List UInt8) b ab n cb n Try.underlying38 Try.info5 rfl (.inr ⟨nb5, [], 0, rfl, (by simp [take?, cu8, cu32, cu64]), rfl, (by simp), (by omega), (by unfold maxLen; omega)⟩) rfl (by simp [hb]; try omega) (hr.src) (by omega) (by unfold maxLen; omega) (by omega)) rfl ?_
  rintro v1 L1 ⟨nb6, sp2, cp2, hg1, rfl, rfl, ha1, ha2, ha3, ha4⟩
  show JL _ _ _ _ ((23, Slc nb6 0 n cp2) :: _) [⟨nb1, cu8 key, 28, (0, 0)⟩, ⟨nb2, cu8 c, 27, (0, 0)⟩, ⟨nb3, cu8 (rkL key) ++ cu8 thereL ++ cu8 backL, 106, (0, 0)⟩, ⟨nb4, cu8 (rkeysL key) ++ sp1, 5, (0, 0)⟩, ⟨nb6, cu8 (([] : List UInt8) ++ b) ++ sp2, 5, (0, 0)⟩]
  refine JL_val _ (Ev_assign rfl) rfl ?_
  refine JL_nil ?_
  refine JQ_then ?_
  refine JC_seq ?_
  refine JC_region ?_
  refine JL_val _ (Ev_move rfl) rfl ?_
  refine JL_val (.agg (cu8 c).toArray) (Ev_load rfl (Ld_agg Try.isAgg27 Try.sizeOf27 (len_cu8 hc) (MemAt.ent 1 rfl (Seg.whole _)))) rfl ?_
  refine JL_val _ (Ev_move rfl) rfl ?_
  refine JL_val (I64 ((n:Int))) (Ev_len Try.underlying38 rfl) rfl ?_
  refine JL_step (Step_callN 33 [Ptr nb3 0, .agg (cu8 c).toArray, I64 ((n:Int))] _ (Cl_func [Ptr nb3 0, .agg (cu8 c).toArray, I64 ((n:Int))] Try.call33 rfl) (fun w1 hw1 => streamIn_c (some ⟨nb3, 0, none⟩) (rkL key) c n w1 hc (by omega) (CiphM.own (rkL_len key hk) (hw1.ent _ (List.mem_of_getElem? (i := 2) rfl))))) rfl ?_
  rintro v1 L1 ⟨_, ⟨nb7, sp3, cp3, rfl, rfl, hc2, hc3, hc4⟩, rfl⟩
  show JL _ _ _ _ ((29, .tuple #[Slc nb7 0 n cp3, .nilIface]) :: _) [⟨nb1, cu8 key, 28, (0, 0)⟩, ⟨nb2, cu8 c, 27, (0, 0)⟩, ⟨nb3, cu8 (rkL key) ++ cu8 thereL ++ cu8 backL, 106, (0, 0)⟩, ⟨nb4, cu8 (rkeysL key) ++ sp1, 5, (0, 0)⟩, ⟨nb6, cu8 (([] : List UInt8) ++ b) ++ sp2, 5, (0, 0)⟩, ⟨nb7, cu8 (strT (eBlk (rkL key) c) n) ++ sp3, 5, (0, 0)⟩]
  refine JL_val _ (Ev_move rfl) rfl ?_
  refine JL_val _ (Ev_extract rfl rfl) rfl ?_
  refine JL_val _ (Ev_extract rfl rfl) rfl ?_
  refine JL_val _ (Ev_assign rfl) rfl ?_
  refine JL_val _ (Ev_assign rfl) rfl ?_
  refine JL_nil ?_
  refine JQ_then ?_
  refine JC_seq ?_
  refine JC_draw 59 7 [(0, .nilIface), (1, .bool true), (2, .bool true), (3, Slc nb7 0 n cp3), (4, Slc nb4 0 176 cp1), (5, .agg (cu8 c).toArray), (6, .slice ab n cb), (7, I64 ((n:Int)))] Try.mixed rfl (by decide +kernel) ?_
  refine DP_one ⟨[], [0, 1, 2, 3, 4, 5, 6, 7], [], [0, 1, 2, 3, 4, 5, 6, 7], [8]⟩ 8 _ rfl rfl (by decide +kernel) rfl ⟨⟨_, rfl, Qok_val rfl (Ev_move rfl)⟩, ⟨_, rfl, Qok_val rfl (Ev_bin _ _ _ rfl rfl (fun _ => eqGuard_nn ..) fun _ => eql_if_nil_nil Try.underlying30)⟩, ⟨_, rfl, Qok_val rfl (Ev_move rfl)⟩, ⟨_, rfl, Qok_gval 2 34 true _ rfl rfl rfl rfl (Ev_move rfl)⟩, ⟨_, rfl, Qok_gval 2 34 true _ rfl rfl rfl rfl (Ev_move rfl)⟩, ⟨_, rfl, Qok_gval 2 34 true _ rfl rfl rfl rfl (Ev_load rfl (Ld_agg Try.isAgg27 Try.sizeOf27 (len_cu8 hc) (MemAt.ent 1 rfl (Seg.whole _))))⟩, ⟨_, rfl, Qok_gval 2 34 true _ rfl rfl rfl rfl (Ev_move rfl)⟩, ⟨_, rfl, Qok_gval 2 34 true _ rfl rfl rfl rfl (Ev_len Try.underlying38 rfl)⟩, trivial⟩ rfl (Cok_gstep 2 34 true _ rfl rfl rfl rfl (Step_callN 35 [Slc nb4 0 176 cp1, .agg (cu8 c).toArray, I64 ((n:Int))] _ (Cl_func [Slc nb4 0 176 cp1, .agg (cu8 c).toArray, I64 ((n:Int))] Try.call35 rfl) (fun w1 hw1 => rstream_c (rkeysL key) c nb4 cp1 n w1 hc (by omega) (by omega) (rkeysL_len key hk) (RdA.of hw1 (MemAt.ent 3 rfl (Seg.left (Seg.whole _))) (by simp [(rkeysL_len key hk)]))))) ?_
  rintro v1 L1 ⟨_, ⟨nb8, sp4, cp4, rfl, rfl, hc5, hc6, hc7⟩, rfl⟩
  refine ⟨[], ?_⟩
  show DP _ _ _ _ _ _ _ _ [⟨nb1, cu8 key, 28, (0, 0)⟩, ⟨nb2, cu8 c, 27, (0, 0)⟩, ⟨nb3, cu8 (rkL key) ++ cu8 thereL ++ cu8 backL, 106, (0, 0)⟩, ⟨nb4, cu8 (rkeysL key) ++ sp1, 5, (0, 0)⟩, ⟨nb6, cu8 (([] : List UInt8) ++ b) ++ sp2, 5, (0, 0)⟩, ⟨nb7, cu8 (strT (eBlk (rkL key) c) n) ++ sp3, 5, (0, 0)⟩, ⟨nb8, cu8 (strT (rBlk (rkeysL key) c) n) ++ sp4, 5, (0, 0)⟩]
  refine DP_one ⟨[8], [0, 1, 2, 3, 4, 5, 6, 7], [0, 1, 2, 4, 5, 6, 7], [3], [9]⟩ 9 _ rfl rfl (by decide +kernel) rfl ⟨⟨_, rfl, Qok_gval 2 34 true _ rfl rfl rfl rfl (Ev_move rfl)⟩, trivial⟩ rfl (Cok_gstep 2 34 true _ rfl rfl rfl rfl (Step_callP 25 [Slc nb7 0 n cp3, Slc nb8 0 n cp4] (.bool (decide ((strT (eBlk (rkL key) c) n) = (strT (rBlk (rkeysL key) c) n)))) (Cl_func [Slc nb7 0 n cp3, Slc nb8 0 n cp4] Try.call25 rfl) (fun w1 hw1 => bytes_c (some ⟨nb7, 0, none⟩) (some ⟨nb8, 0, none⟩) n n cp3 cp4 (strT (eBlk (rkL key) c) n) (strT (rBlk (rkeysL key) c) n) w1 (strT_len (fun k => eBlk_len hc k) n) (strT_len (fun k => rBlk_len hc k) n) (RdB.of hw1 (MemAt.ent 5 rfl (Seg.left (Seg.whole _))) (by simp)) (RdB.of hw1 (MemAt.ent 6 rfl (Seg.left (Seg.whole _))) (by simp))))) ?_
  rintro v1 L1 ⟨rfl, rfl⟩
  refine ⟨[(10, .bool (decide ((strT (eBlk (rkL key) c) n) = (strT (rBlk (rkeysL key) c) n)))), (11, .bool (decide ((strT (eBlk (rkL key) c) n) = (strT (rBlk (rkeysL key) c) n)))), (12, Ptr nb3 0), (13, .agg (cu8 c).toArray), (14, Slc nb6 0 n cp2), (16, Slc nb4 0 176 cp1), (17, .agg (cu8 c).toArray), (18, .slice ab n cb)], ?_⟩
  show DP _ _ _ _ _ _ _ _ [⟨nb1, cu8 key, 28, (0, 0)⟩, ⟨nb2, cu8 c, 27, (0, 0)⟩, ⟨nb3, cu8 (rkL key) ++ cu8 thereL ++ cu8 backL, 106, (0, 0)⟩, ⟨nb4, cu8 (rkeysL key) ++ sp1, 5, (0, 0)⟩, ⟨nb6, cu8 (([] : List UInt8) ++ b) ++ sp2, 5, (0, 0)⟩, ⟨nb7, cu8 (strT (eBlk (rkL key) c) n) ++ sp3, 5, (0, 0)⟩, ⟨nb8, cu8 (strT (rBlk (rkeysL key) c) n) ++ sp4, 5, (0, 0)⟩]
  refine DP_one ⟨[8, 9], [0, 1, 2, 3, 4, 5, 6, 7, 10, 11, 12, 13, 14, 16, 17, 18], [0, 1, 2, 3, 4, 5, 6, 7], [10, 11, 12, 13, 14, 16, 17, 18], [15]⟩ 15 _ rfl rfl (by decide +kernel) rfl ⟨⟨_, rfl, Qok_val rfl (Ev_pickT _ rfl rfl rfl)⟩, ⟨_, rfl, Qok_val rfl (Ev_move rfl)⟩, ⟨_, rfl, Qok_gval 11 43 true _ rfl rfl rfl (decide_eq_true (str_rstr hk hc n)) (Ev_move rfl)⟩, ⟨_, rfl, Qok_gval 11 43 true _ rfl rfl rfl (decide_eq_true (str_rstr hk hc n)) (Ev_load rfl (Ld_agg Try.isAgg27 Try.sizeOf27 (len_cu8 hc) (MemAt.ent 1 rfl (Seg.whole _))))⟩, ⟨_, rfl, Qok_gval 11 43 true _ rfl rfl rfl (decide_eq_true (str_rstr hk hc n)) (Ev_move rfl)⟩, ⟨_, rfl, Qok_gval 11 43 true _ rfl rfl rfl (decide_eq_true (str_rstr hk hc n)) (Ev_move rfl)⟩, ⟨_, rfl, Qok_gval 11 43 true _ rfl rfl rfl (decide_eq_true (str_rstr hk hc n)) (Ev_load rfl (Ld_agg Try.isAgg27 Try.sizeOf27 (len_cu8 hc) (MemAt.ent 1 rfl (Seg.whole _))))⟩, ⟨_, rfl, Qok_gval 11 43 true _ rfl rfl rfl (decide_eq_true (str_rstr hk hc n)) (Ev_move rfl)⟩, trivial⟩ rfl (Cok_gstep 11 43 true _ rfl rfl rfl (decide_eq_true (str_rstr hk hc n)) (Step_callN 36 [Ptr nb3 0, .agg (cu8 c).toArray, Slc nb6 0 n cp2] _ (Cl_func [Ptr nb3 0, .agg (cu8 c).toArray, Slc nb6 0 n cp2] Try.call36 rfl) (fun w1 hw1 => turn_c (some ⟨nb3, 0, none⟩) (some ⟨nb6, 0, none⟩) (rkL key) c (([] : List UInt8) ++ b) n cp2 w1 hc (by omega) ha1 (CiphM.own (rkL_len key hk) (hw1.ent _ (List.mem_of_getElem? (i := 2) rfl))) (RdB.of hw1 (MemAt.ent 4 rfl (Seg.left (Seg.whole _))) (by simp))))) ?_
  rintro v1 L1 ⟨_, ⟨nb9, sp5, cp5, rfl, rfl, hc8, hc9, hc10⟩, rfl⟩
  refine ⟨[], ?_⟩
  show DP _ _ _ _ _ _ _ _ [⟨nb1, cu8 key, 28, (0, 0)⟩, ⟨nb2, cu8 c, 27, (0, 0)⟩, ⟨nb3, cu8 (rkL key) ++ cu8 thereL ++ cu8 backL, 106, (0, 0)⟩, ⟨nb4, cu8 (rkeysL key) ++ sp1, 5, (0, 0)⟩, ⟨nb6, cu8 (([] : List UInt8) ++ b) ++ sp2, 5, (0, 0)⟩, ⟨nb7, cu8 (strT (eBlk (rkL key) c) n) ++ sp3, 5, (0, 0)⟩, ⟨nb8, cu8 (strT (rBlk (rkeysL key) c) n) ++ sp4, 5, (0, 0)⟩, ⟨nb9, cu8 (xorN (strT (eBlk (rkL key) c) n) (([] : List UInt8) ++ b) n) ++ sp5, 5, (0, 0)⟩]
  refine DP_one ⟨[8, 9, 15], [0, 1, 2, 3, 4, 5, 6, 7, 10, 11, 12, 13, 14, 16, 17, 18], [0, 1, 2, 3, 4, 5, 6, 7, 10, 11, 12, 13, 14], [16, 17, 18], [19]⟩ 19 _ rfl rfl (by decide +kernel) rfl ⟨⟨_, rfl, Qok_gval 11 43 true _ rfl rfl rfl (decide_eq_true (str_rstr hk hc n)) (Ev_move rfl)⟩, ⟨_, rfl, Qok_gval 11 43 true _ rfl rfl rfl (decide_eq_true (str_rstr hk hc n)) (Ev_load rfl (Ld_agg Try.isAgg27 Try.sizeOf27 (len_cu8 hc) (MemAt.ent 1 rfl (Seg.whole _))))⟩, ⟨_, rfl, Qok_gval 11 43 true _ rfl rfl rfl (decide_eq_true (str_rstr hk hc n)) (Ev_move rfl)⟩, trivial⟩ rfl (Cok_gstep 11 43 true _ rfl rfl rfl (decide_eq_true (str_rstr hk hc n)) (Step_callN 37 [Slc nb4 0 176 cp1, .agg (cu8 c).toArray, .slice ab n cb] _ (Cl_func [Slc nb4 0 176 cp1, .agg (cu8 c).toArray, .slice ab n cb] Try.call37 rfl) (fun w1 hw1 => rturn_c (rkeysL key) c b nb4 cp1 n cb ab w1 hc (by omega) (by omega) hb (hr.at (M' := []) hw1 (by simp)) (rkeysL_len key hk) (RdA.of hw1 (MemAt.ent 3 rfl (Seg.left (Seg.whole _))) (by simp [(rkeysL_len key hk)]))))) ?_
  rintro v1 L1 ⟨_, ⟨nb10, sp6, cp6, rfl, rfl, hc11, hc12, hc13⟩, rfl⟩
  refine ⟨[], ?_⟩
  show DP _ _ _ _ _ _ _ _ [⟨nb1, cu8 key, 28, (0, 0)⟩, ⟨nb2, cu8 c, 27, (0, 0)⟩, ⟨nb3, cu8 (rkL key) ++ cu8 thereL ++ cu8 backL, 106, (0, 0)⟩, ⟨nb4, cu8 (rkeysL key) ++ sp1, 5, (0, 0)⟩, ⟨nb6, cu8 (([] : List UInt8) ++ b) ++ sp2, 5, (0, 0)⟩, ⟨nb7, cu8 (strT (eBlk (rkL key) c) n) ++ sp3, 5, (0, 0)⟩, ⟨nb8, cu8 (strT (rBlk (rkeysL key) c) n) ++ sp4, 5, (0, 0)⟩, ⟨nb9, cu8 (xorN (strT (eBlk (rkL key) c) n) (([] : List UInt8) ++ b) n) ++ sp5, 5, (0, 0)⟩, ⟨nb10, cu8 (xorN (strT (rBlk (rkeysL key) c) n) b n) ++ sp6, 5, (0, 0)⟩]
  refine DP_one ⟨[8, 9, 15, 19], [0, 1, 2, 3, 4, 5, 6, 7, 10, 11, 12, 13, 14, 16, 17, 18], [0, 1, 2, 3, 4, 5, 6, 7, 10, 11, 12, 13, 14, 16, 17, 18], [], [20]⟩ 20 _ rfl rfl (by decide +kernel) rfl trivial rfl (Cok_gstep 11 43 true _ rfl rfl rfl (decide_eq_true (str_rstr hk hc n)) (Step_callP 25 [Slc nb9 0 n cp5, Slc nb10 0 n cp6] (.bool (decide ((xorN (strT (eBlk (rkL key) c) n) (([] : List UInt8) ++ b) n) = (xorN (strT (rBlk (rkeysL key) c) n) b n)))) (Cl_func [Slc nb9 0 n cp5, Slc nb10 0 n cp6] Try.call25 rfl) (fun w1 hw1 => bytes_c (some ⟨nb9, 0, none⟩) (some ⟨nb10, 0, none⟩) n n cp5 cp6 (xorN (strT (eBlk (rkL key) c) n) (([] : List UInt8) ++ b) n) (xorN (strT (rBlk (rkeysL key) c) n) b n) w1 ((xorN_len _ _ _).trans (strT_len (fun k => eBlk_len hc k) n)) ((xorN_len _ _ _).trans (strT_len (fun k => rBlk_len hc k) n)) (RdB.of hw1 (MemAt.ent 7 rfl (Seg.left (Seg.whole _))) (by simp)) (RdB.of hw1 (MemAt.ent 8 rfl (Seg.left (Seg.whole _))) (by simp))))) ?_
  rintro v1 L1 ⟨rfl, rfl⟩
  refine ⟨[(21, .bool (decide ((xorN (strT (eBlk (rkL key) c) n) (([] : List UInt8) ++ b) n) = (xorN (strT (rBlk (rkeysL key) c) n) b n)))), (22, .bool (decide ((xorN (strT (eBlk (rkL key) c) n) (([] : List UInt8) ++ b) n) = (xorN (strT (rBlk (rkeysL key) c) n) b n)))), (23, Slc nb6 0 n cp2), (24, .slice ab n cb)], ?_⟩
  show DP _ _ _ _ _ _ _ _ [⟨nb1, cu8 key, 28, (0, 0)⟩, ⟨nb2, cu8 c, 27, (0, 0)⟩, ⟨nb3, cu8 (rkL key) ++ cu8 thereL ++ cu8 backL, 106, (0, 0)⟩, ⟨nb4, cu8 (rkeysL key) ++ sp1, 5, (0, 0)⟩, ⟨nb6, cu8 (([] : List UInt8) ++ b) ++ sp2, 5, (0, 0)⟩, ⟨nb7, cu8 (strT (eBlk (rkL key) c) n) ++ sp3, 5, (0, 0)⟩, ⟨nb8, cu8 (strT (rBlk (rkeysL key) c) n) ++ sp4, 5, (0, 0)⟩, ⟨nb9, cu8 (xorN (strT (eBlk (rkL key) c) n) (([] : List UInt8) ++ b) n) ++ sp5, 5, (0, 0)⟩, ⟨nb10, cu8 (xorN (strT (rBlk (rkeysL key) c) n) b n) ++ sp6, 5, (0, 0)⟩]
  refine DP_one ⟨[8, 9, 15, 19, 20], [0, 1, 2, 3, 4, 5, 6, 7, 10, 11, 12, 13, 14, 16, 17, 18, 21, 22, 23, 24], [0, 1, 2, 3, 4, 5, 6, 7, 10, 11, 12, 13, 14, 16, 17, 18], [21, 22, 23, 24], [25]⟩ 25 _ rfl rfl (by decide +kernel) rfl ⟨⟨_, rfl, Qok_val rfl (Ev_pickT _ rfl (decide_eq_true (str_rstr hk hc n)) rfl)⟩, ⟨_, rfl, Qok_val rfl (Ev_move rfl)⟩, ⟨_, rfl, Qok_gval 22 54 true _ rfl rfl rfl (decide_eq_true (by rw [str_rstr hk hc n, List.nil_append])) (Ev_move rfl)⟩, ⟨_, rfl, Qok_gval 22 54 true _ rfl rfl rfl (decide_eq_true (by rw [str_rstr hk hc n, List.nil_append])) (Ev_move rfl)⟩, trivial⟩ rfl (Cok_gstep 22 54 true _ rfl rfl rfl (decide_eq_true (by rw [str_rstr hk hc n, List.nil_append])) (Step_callP 25 [Slc nb6 0 n cp2, .slice ab n cb] (.bool (decide ((([] : List UInt8) ++ b) = b))) (Cl_func [Slc nb6 0 n cp2, .slice ab n cb] Try.call25 rfl) (fun w1 hw1 => bytes_c (some ⟨nb6, 0, none⟩) ab n n cp2 cb (([] : List UInt8) ++ b) b w1 ha1 hb (RdB.of hw1 (MemAt.ent 4 rfl (Seg.left (Seg.whole _))) (by simp)) (hr.at (M' := []) hw1 (by simp))))) ?_
  rintro v1 L1 ⟨rfl, rfl⟩
  refine ⟨[(26, .bool (decide ((([] : List UInt8) ++ b) = b))), (27, .bool (decide ((([] : List UInt8) ++ b) = b)))], ?_⟩
  show DP _ _ _ _ _ _ _ _ [⟨nb1, cu8 key, 28, (0, 0)⟩, ⟨nb2, cu8 c, 27, (0, 0)⟩, ⟨nb3, cu8 (rkL key) ++ cu8 thereL ++ cu8 backL, 106, (0, 0)⟩, ⟨nb4, cu8 (rkeysL key) ++ sp1, 5, (0, 0)⟩, ⟨nb6, cu8 (([] : List UInt8) ++ b) ++ sp2, 5, (0, 0)⟩, ⟨nb7, cu8 (strT (eBlk (rkL key) c) n) ++ sp3, 5, (0, 0)⟩, ⟨nb8, cu8 (strT (rBlk (rkeysL key) c) n) ++ sp4, 5, (0, 0)⟩, ⟨nb9, cu8 (xorN (strT (eBlk (rkL key) c) n) (([] : List UInt8) ++ b) n) ++ sp5, 5, (0, 0)⟩, ⟨nb10, cu8 (xorN (strT (rBlk (rkeysL key) c) n) b n) ++ sp6, 5, (0, 0)⟩]
  refine DP_end ⟨[8, 9, 15, 19, 20, 25], [0, 1, 2, 3, 4, 5, 6, 7, 10, 11, 12, 13, 14, 16, 17, 18, 21, 22, 23, 24, 26, 27], [0, 1, 2, 3, 4, 5, 6, 7, 10, 11, 12, 13, 14, 16, 17, 18, 21, 22, 23, 24], [26, 27], []⟩ rfl rfl (by decide +kernel) rfl ⟨⟨_, rfl, Qok_val rfl (Ev_pickT _ rfl (decide_eq_true (by rw [str_rstr hk hc n, List.nil_append])) rfl)⟩, ⟨_, rfl, Qok_val rfl (Ev_assign rfl)⟩, trivial⟩ ?_
  refine K_sub (F' := [(6, .bool (decide ((([] : List UInt8) ++ b) = b)))]) (Sub.cons (by kernel_rfl) (Sub.nil)) ?_
  show JQ _ _ _ [(6, .bool (decide ((([] : List UInt8) ++ b) = b)))] _
  refine JQ_then ?_
  refine JC_ret ?_
  refine JQ_ret (.bool (decide ((([] : List UInt8) ++ b) = b))) (res1 Try.results9 (RV_tmp rfl)) fun w1 hw1 => ?_
  exact ⟨_, [], rfl, ⟨by rw [show (decide ((([] : List UInt8) ++ b) = b)) = true from (decide_eq_true (rfl))], rfl⟩, hw1.sub (by simp) (by simp)⟩

theorem ctrStreams0_c (key c : List UInt8) (ab : Option Addr) (cb : Nat) (w : World) (hk : key.length = 16) (hc : c.length = 16) (hcb : cb ≤ maxLen) (hr : RdB w [] ab []) : Calls Try.prog 9 #[.agg (cu8 key).toArray, .agg (cu8 c).toArray, .slice ab 0 cb] w (Post w [] (fun v L => v = .bool true ∧ L = [])) := by
  refine enter w [] 59 [] [.agg (cu8 key).toArray, .agg (cu8 c).toArray, .slice ab 0 cb] Try.func9 rfl rfl (by simp) (Hp.start (by simp) (by simp) (by simp)) ?_
  show JC _ _ _ [(0, .agg (cu8 key).toArray), (1, .agg (cu8 c).toArray), (2, .slice ab 0 cb)] _
  refine JC_seq ?_
  refine JC_region ?_
  refine JL_step (Step_box (.agg (cu8 key).toArray) (cu8 key) rfl (by first | rfl | simp)) rfl ?_
  rintro v1 L1 ⟨nb1, hnb1, rfl, rfl⟩
  show JL _ _ _ _ ((3, Ptr nb1 0) :: _) [⟨nb1, cu8 key, 28, (0, 0)⟩]
  refine JL_step (Step_box (.agg (cu8 c).toArray) (cu8 c) rfl (by first | rfl | simp)) rfl ?_
  rintro v1 L1 ⟨nb2, hnb2, rfl, rfl⟩
  show JL _ _ _ _ ((4, Ptr nb2 0) :: _) [⟨nb1, cu8 key, 28, (0, 0)⟩, ⟨nb2, cu8 c, 27, (0, 0)⟩]
  refine JL_val _ (Ev_assign rfl) rfl ?_
  refine JL_nil ?_
  refine JQ_then ?_
  refine JC_seq ?_
  refine JC_seq ?_
  refine JC_region ?_
  refine JL_step (Step_callP 30 [] (.bool true) (Cl_func [] Try.call30 rfl) (fun w1 _ => alive5_c  w1)) rfl ?_
  rintro v1 L1 ⟨rfl, rfl⟩
  show JL _ _ _ _ ((12, .bool true) :: _) [⟨nb1, cu8 key, 28, (0, 0)⟩, ⟨nb2, cu8 c, 27, (0, 0)⟩]
  refine JL_val (.bool (!true)) (Ev_not rfl) rfl ?_
  refine JL_nil ?_
  refine JQ_then ?_
  refine JC_condF _ rfl rfl ?_
  refine JC_skip ?_
  refine JQ_then ?_
  refine JC_seq ?_
  refine JC_seq ?_
  refine JC_region ?_
  refine JL_val _ (Ev_move rfl) rfl ?_
  refine JL_val (I64 (0:Int)) (Ev_len Try.underlying38 rfl) rfl ?_
  refine JL_val (.bool (decide ((300:Int) < (0:Int)))) (Ev_bini rfl rfl fun _ => bin_gtr_i _ _) rfl ?_
  refine JL_nil ?_
  refine JQ_then ?_
  refine JC_condF _ rfl (by decide) ?_
  refine JC_skip ?_
  refine JQ_then ?_
  refine JC_seq ?_
  refine JC_region ?_
  refine JL_val (.agg (cu8 key).toArray) (Ev_load rfl (Ld_agg Try.isAgg28 Try.sizeOf28 (len_cu8 hk) (MemAt.ent 0 rfl (Seg.whole _)))) rfl ?_
  refine JL_step (Step_callN 22 [.agg (cu8 key).toArray] _ (Cl_func [.agg (cu8 key).toArray] Try.call22 rfl) (fun w1 hw1 => new_c key w1 hk)) rfl ?_
  rintro v1 L1 ⟨_, ⟨nb3, rfl, rfl⟩, rfl⟩
  show JL _ _ _ _ ((18, Ptr nb3 0) :: _) [⟨nb1, cu8 key, 28, (0, 0)⟩, ⟨nb2, cu8 c, 27, (0, 0)⟩, ⟨nb3, cu8 (rkL key) ++ cu8 thereL ++ cu8 backL, 106, (0, 0)⟩]
  refine JL_val _ (Ev_assign rfl) rfl ?_
  refine JL_nil ?_
  refine JQ_then ?_
  refine JC_seq ?_
  refine JC_region ?_
  refine JL_val (.agg (cu8 key).toArray) (Ev_load rfl (Ld_agg Try.isAgg28 Try.sizeOf28 (len_cu8 hk) (MemAt.ent 0 rfl (Seg.whole _)))) rfl ?_
  refine JL_step (Step_callN 26 [.agg (cu8 key).toArray] _ (Cl_func [.agg (cu8 key).toArray] Try.call26 rfl) (fun w1 hw1 => rkeys_c key w1 hk)) rfl ?_
  rintro v1 L1 ⟨_, ⟨nb4, sp1, cp1, hc1, hs1, rfl, rfl⟩, rfl⟩
  show JL _ _ _ _ ((20, Slc nb4 0 176 cp1) :: _) [⟨nb1, cu8 key, 28, (0, 0)⟩, ⟨nb2, cu8 c, 27, (0, 0)⟩, ⟨nb3, cu8 (rkL key) ++ cu8 thereL ++ cu8 backL, 106, (0, 0)⟩, ⟨nb4, cu8 (rkeysL key) ++ sp1, 5, (0, 0)⟩]
  refine JL_val _ (Ev_assign rfl) rfl ?_
  refine JL_nil ?_
  refine JQ_then ?_
  refine JC_seq ?_
  refine JC_region ?_
  refine JL_step (Step_buildSlice0 5 1 Try.underlying38 Try.sizeOf5) rfl ?_
  rintro v1 L1 ⟨nb5, hnb5, rfl, rfl⟩
  show JL _ _ _ _ ((21, Slc nb5 0 0 0) :: _) [⟨nb1, cu8 key, 28, (0, 0)⟩, ⟨nb2, cu8 c, 27, (0, 0)⟩, ⟨nb3, cu8 (rkL key) ++ cu8 thereL ++ cu8 backL, 106, (0, 0)⟩, ⟨nb4, cu8 (rkeysL key) ++ sp1, 5, (0, 0)⟩, ⟨nb5, [], 5, (0, 0)⟩]
  refine JL_val _ (Ev_move rfl) rfl ?_
  refine JL_step (Step_appM8 38 5 [false, false, false, false, true] (Slc nb5 0 0 0) 0 ([] : List UInt8) ([] : List UInt8) ab 0 cb 0 Try.underlying38 Try.info5 rfl (.inr ⟨nb5, [], 0, rfl, (by simp [take?, cu8, cu32, cu64]), rfl, (by simp), (by omega), (by unfold maxLen; omega)⟩) rfl (by simp) (hr.src) (by omega) (by unfold maxLen; omega) (by omega)) rfl ?_
  rintro v1 L1 ⟨nb6, sp2, cp2, hg1, rfl, rfl, ha1, ha2, ha3, ha4⟩
  show JL _ _ _ _ ((23, Slc nb6 0 0 cp2) :: _) [⟨nb1, cu8 key, 28, (0, 0)⟩, ⟨nb2, cu8 c, 27, (0, 0)⟩, ⟨nb3, cu8 (rkL key) ++ cu8 thereL ++ cu8 backL, 106, (0, 0)⟩, ⟨nb4, cu8 (rkeysL key) ++ sp1, 5, (0, 0)⟩, ⟨nb6, cu8 (([] : List UInt8) ++ ([] : List UInt8)) ++ sp2, 5, (0, 0)⟩]
  refine JL_val _ (Ev_assign rfl) rfl ?_
  refine JL_nil ?_
  refine JQ_then ?_
  refine JC_seq ?_
  refine JC_region ?_
  refine JL_val _ (Ev_move rfl) rfl ?_
  refine JL_val (.agg (cu8 c).toArray) (Ev_load rfl (Ld_agg Try.isAgg27 Try.sizeOf27 (len_cu8 hc) (MemAt.ent 1 rfl (Seg.whole _)))) rfl ?_
  refine JL_val _ (Ev_move rfl) rfl ?_
  refine JL_val (I64 (0:Int)) (Ev_len Try.underlying38 rfl) rfl ?_
  refine JL_step (Step_callN 33 [Ptr nb3 0, .agg (cu8 c).toArray, I64 (0:Int)] _ (Cl_func [Ptr nb3 0, .agg (cu8 c).toArray, I64 (0:Int)] Try.call33 rfl) (fun w1 hw1 => streamIn_c (some ⟨nb3, 0, none⟩) (rkL key) c 0 w1 hc (by omega) (CiphM.own (rkL_len key hk) (hw1.ent _ (List.mem_of_getElem? (i := 2) rfl))))) rfl ?_
  rintro v1 L1 ⟨_, ⟨nb7, sp3, cp3, rfl, rfl, hc2, hc3, hc4⟩, rfl⟩
  show JL _ _ _ _ ((29, .tuple #[Slc nb7 0 0 cp3, .nilIface]) :: _) [⟨nb1, cu8 key, 28, (0, 0)⟩, ⟨nb2, cu8 c, 27, (0, 0)⟩, ⟨nb3, cu8 (rkL key) ++ cu8 thereL ++ cu8 backL, 106, (0, 0)⟩, ⟨nb4, cu8 (rkeysL key) ++ sp1, 5, (0, 0)⟩, ⟨nb6, cu8 (([] : List UInt8) ++ ([] : List UInt8)) ++ sp2, 5, (0, 0)⟩, ⟨nb7, cu8 (strT (eBlk (rkL key) c) 0) ++ sp3, 5, (0, 0)⟩]
  refine JL_val _ (Ev_move rfl) rfl ?_
  refine JL_val _ (Ev_extract rfl rfl) rfl ?_
  refine JL_val _ (Ev_extract rfl rfl) rfl ?_
  refine JL_val _ (Ev_assign rfl) rfl ?_
  refine JL_val _ (Ev_assign rfl) rfl ?_
  refine JL_nil ?_
  refine JQ_then ?_
  refine JC_seq ?_
  refine JC_draw 59 7 [(0, .nilIface), (1, .bool true), (2, .bool true), (3, Slc nb7 0 0 cp3), (4, Slc nb4 0 176 cp1), (5, .agg (cu8 c).toArray), (6, .slice ab 0 cb), (7, I64 (0:Int))] Try.mixed rfl (by decide +kernel) ?_
  refine DP_one ⟨[], [0, 1, 2, 3, 4, 5, 6, 7], [], [0, 1, 2, 3, 4, 5, 6, 7], [8]⟩ 8 _ rfl rfl (by decide +kernel) rfl ⟨⟨_, rfl, Qok_val rfl (Ev_move rfl)⟩, ⟨_, rfl, Qok_val rfl (Ev_bin _ _ _ rfl rfl (fun _ => eqGuard_nn ..) fun _ => eql_if_nil_nil Try.underlying30)⟩, ⟨_, rfl, Qok_val rfl (Ev_move rfl)⟩, ⟨_, rfl, Qok_gval 2 34 true _ rfl rfl rfl rfl (Ev_move rfl)⟩, ⟨_, rfl, Qok_gval 2 34 true _ rfl rfl rfl rfl (Ev_move rfl)⟩, ⟨_, rfl, Qok_gval 2 34 true _ rfl rfl rfl rfl (Ev_load rfl (Ld_agg Try.isAgg27 Try.sizeOf27 (len_cu8 hc) (MemAt.ent 1 rfl (Seg.whole _))))⟩, ⟨_, rfl, Qok_gval 2 34 true _ rfl rfl rfl rfl (Ev_move rfl)⟩, ⟨_, rfl, Qok_gval 2 34 true _ rfl rfl rfl rfl (Ev_len Try.underlying38 rfl)⟩, trivial⟩ rfl (Cok_gstep 2 34 true _ rfl rfl rfl rfl (Step_callP 35 [Slc nb4 0 176 cp1, .agg (cu8 c).toArray, I64 (0:Int)] (.slice none 0 0) (Cl_func [Slc nb4 0 176 cp1, .agg (cu8 c).toArray, I64 (0:Int)] Try.call35 rfl) (fun w1 hw1 => rstream0_c _ c w1 hc))) ?_
  rintro v1 L1 ⟨rfl, rfl⟩
  refine ⟨[], ?_⟩
  show DP _ _ _ _ _ _ _ _ [⟨nb1, cu8 key, 28, (0, 0)⟩, ⟨nb2, cu8 c, 27, (0, 0)⟩, ⟨nb3, cu8 (rkL key) ++ cu8 thereL ++ cu8 backL, 106, (0, 0)⟩, ⟨nb4, cu8 (rkeysL key) ++ sp1, 5, (0, 0)⟩, ⟨nb6, cu8 (([] : List UInt8) ++ ([] : List UInt8)) ++ sp2, 5, (0, 0)⟩, ⟨nb7, cu8 (strT (eBlk (rkL key) c) 0) ++ sp3, 5, (0, 0)⟩]
  refine DP_one ⟨[8], [0, 1, 2, 3, 4, 5, 6, 7], [0, 1, 2, 4, 5, 6, 7], [3], [9]⟩ 9 _ rfl rfl (by decide +kernel) rfl ⟨⟨_, rfl, Qok_gval 2 34 true _ rfl rfl rfl rfl (Ev_move rfl)⟩, trivial⟩ rfl (Cok_gstep 2 34 true _ rfl rfl rfl rfl (Step_callP 25 [Slc nb7 0 0 cp3, .slice none 0 0] (.bool (decide (([] : List UInt8) = ([] : List UInt8)))) (Cl_func [Slc nb7 0 0 cp3, .slice none 0 0] Try.call25 rfl) (fun w1 hw1 => bytes_c (some ⟨nb7, 0, none⟩) none 0 0 cp3 0 ([] : List UInt8) ([] : List UInt8) w1 rfl rfl RdB.nil RdB.nil))) ?_
  rintro v1 L1 ⟨rfl, rfl⟩
  refine ⟨[(10, .bool (decide (([] : List UInt8) = ([] : List UInt8)))), (11, .bool (decide (([] : List UInt8) = ([] : List UInt8)))), (12, Ptr nb3 0), (13, .agg (cu8 c).toArray), (14, Slc nb6 0 0 cp2), (16, Slc nb4 0 176 cp1), (17, .agg (cu8 c).toArray), (18, .slice ab 0 cb)], ?_⟩
  show DP _ _ _ _ _ _ _ _ [⟨nb1, cu8 key, 28, (0, 0)⟩, ⟨nb2, cu8 c, 27, (0, 0)⟩, ⟨nb3, cu8 (rkL key) ++ cu8 thereL ++ cu8 backL, 106, (0, 0)⟩, ⟨nb4, cu8 (rkeysL key) ++ sp1, 5, (0, 0)⟩, ⟨nb6, cu8 (([] : List UInt8) ++ ([] : List UInt8)) ++ sp2, 5, (0, 0)⟩, ⟨nb7, cu8 (strT (eBlk (rkL key) c) 0) ++ sp3, 5, (0, 0)⟩]
  refine DP_one ⟨[8, 9], [0, 1, 2, 3, 4, 5, 6, 7, 10, 11, 12, 13, 14, 16, 17, 18], [0, 1, 2, 3, 4, 5, 6, 7], [10, 11, 12, 13, 14, 16, 17, 18], [15]⟩ 15 _ rfl rfl (by decide +kernel) rfl ⟨⟨_, rfl, Qok_val rfl (Ev_pickT _ rfl rfl rfl)⟩, ⟨_, rfl, Qok_val rfl (Ev_move rfl)⟩, ⟨_, rfl, Qok_gval 11 43 true _ rfl rfl rfl (decide_eq_true (rfl)) (Ev_move rfl)⟩, ⟨_, rfl, Qok_gval 11 43 true _ rfl rfl rfl (decide_eq_true (rfl)) (Ev_load rfl (Ld_agg Try.isAgg27 Try.sizeOf27 (len_cu8 hc) (MemAt.ent 1 rfl (Seg.whole _))))⟩, ⟨_, rfl, Qok_gval 11 43 true _ rfl rfl rfl (decide_eq_true (rfl)) (Ev_move rfl)⟩, ⟨_, rfl, Qok_gval 11 43 true _ rfl rfl rfl (decide_eq_true (rfl)) (Ev_move rfl)⟩, ⟨_, rfl, Qok_gval 11 43 true _ rfl rfl rfl (decide_eq_true (rfl)) (Ev_load rfl (Ld_agg Try.isAgg27 Try.sizeOf27 (len_cu8 hc) (MemAt.ent 1 rfl (Seg.whole _))))⟩, ⟨_, rfl, Qok_gval 11 43 true _ rfl rfl rfl (decide_eq_true (rfl)) (Ev_move rfl)⟩, trivial⟩ rfl (Cok_gstep 11 43 true _ rfl rfl rfl (decide_eq_true (rfl)) (Step_callN 36 [Ptr nb3 0, .agg (cu8 c).toArray, Slc nb6 0 0 cp2] _ (Cl_func [Ptr nb3 0, .agg (cu8 c).toArray, Slc nb6 0 0 cp2] Try.call36 rfl) (fun w1 hw1 => turn_c (some ⟨nb3, 0, none⟩) (some ⟨nb6, 0, none⟩) (rkL key) c ([] : List UInt8) 0 cp2 w1 hc (by omega) rfl (CiphM.own (rkL_len key hk) (hw1.ent _ (List.mem_of_getElem? (i := 2) rfl))) RdB.nil))) ?_
  rintro v1 L1 ⟨_, ⟨nb8, sp4, cp4, rfl, rfl, hc5, hc6, hc7⟩, rfl⟩
  refine ⟨[], ?_⟩
  show DP _ _ _ _ _ _ _ _ [⟨nb1, cu8 key, 28, (0, 0)⟩, ⟨nb2, cu8 c, 27, (0, 0)⟩, ⟨nb3, cu8 (rkL key) ++ cu8 thereL ++ cu8 backL, 106, (0, 0)⟩, ⟨nb4, cu8 (rkeysL key) ++ sp1, 5, (0, 0)⟩, ⟨nb6, cu8 (([] : List UInt8) ++ ([] : List UInt8)) ++ sp2, 5, (0, 0)⟩, ⟨nb7, cu8 (strT (eBlk (rkL key) c) 0) ++ sp3, 5, (0, 0)⟩, ⟨nb8, cu8 (xorN (strT (eBlk (rkL key) c) 0) ([] : List UInt8) 0) ++ sp4, 5, (0, 0)⟩]
  refine DP_one ⟨[8, 9, 15], [0, 1, 2, 3, 4, 5, 6, 7, 10, 11, 12, 13, 14, 16, 17, 18], [0, 1, 2, 3, 4, 5, 6, 7, 10, 11, 12, 13, 14], [16, 17, 18], [19]⟩ 19 _ rfl rfl (by decide +kernel) rfl ⟨⟨_, rfl, Qok_gval 11 43 true _ rfl rfl rfl (decide_eq_true (rfl)) (Ev_move rfl)⟩, ⟨_, rfl, Qok_gval 11 43 true _ rfl rfl rfl (decide_eq_true (rfl)) (Ev_load rfl (Ld_agg Try.isAgg27 Try.sizeOf27 (len_cu8 hc) (MemAt.ent 1 rfl (Seg.whole _))))⟩, ⟨_, rfl, Qok_gval 11 43 true _ rfl rfl rfl (decide_eq_true (rfl)) (Ev_move rfl)⟩, trivial⟩ rfl (Cok_gstep 11 43 true _ rfl rfl rfl (decide_eq_true (rfl)) (Step_callP 37 [Slc nb4 0 176 cp1, .agg (cu8 c).toArray, .slice ab 0 cb] (.slice none 0 0) (Cl_func [Slc nb4 0 176 cp1, .agg (cu8 c).toArray, .slice ab 0 cb] Try.call37 rfl) (fun w1 hw1 => rturn0_c _ c ab cb w1 hc))) ?_
  rintro v1 L1 ⟨rfl, rfl⟩
  refine ⟨[], ?_⟩
  show DP _ _ _ _ _ _ _ _ [⟨nb1, cu8 key, 28, (0, 0)⟩, ⟨nb2, cu8 c, 27, (0, 0)⟩, ⟨nb3, cu8 (rkL key) ++ cu8 thereL ++ cu8 backL, 106, (0, 0)⟩, ⟨nb4, cu8 (rkeysL key) ++ sp1, 5, (0, 0)⟩, ⟨nb6, cu8 (([] : List UInt8) ++ ([] : List UInt8)) ++ sp2, 5, (0, 0)⟩, ⟨nb7, cu8 (strT (eBlk (rkL key) c) 0) ++ sp3, 5, (0, 0)⟩, ⟨nb8, cu8 (xorN (strT (eBlk (rkL key) c) 0) ([] : List UInt8) 0) ++ sp4, 5, (0, 0)⟩]
  refine DP_one ⟨[8, 9, 15, 19], [0, 1, 2, 3, 4, 5, 6, 7, 10, 11, 12, 13, 14, 16, 17, 18], [0, 1, 2, 3, 4, 5, 6, 7, 10, 11, 12, 13, 14, 16, 17, 18], [], [20]⟩ 20 _ rfl rfl (by decide +kernel) rfl trivial rfl (Cok_gstep 11 43 true _ rfl rfl rfl (decide_eq_true (rfl)) (Step_callP 25 [Slc nb8 0 0 cp4, .slice none 0 0] (.bool (decide (([] : List UInt8) = ([] : List UInt8)))) (Cl_func [Slc nb8 0 0 cp4, .slice none 0 0] Try.call25 rfl) (fun w1 hw1 => bytes_c (some ⟨nb8, 0, none⟩) none 0 0 cp4 0 ([] : List UInt8) ([] : List UInt8) w1 rfl rfl RdB.nil RdB.nil))) ?_
  rintro v1 L1 ⟨rfl, rfl⟩
  refine ⟨[(21, .bool (decide (([] : List UInt8) = ([] : List UInt8)))), (22, .bool (decide (([] : List UInt8) = ([] : List UInt8)))), (23, Slc nb6 0 0 cp2), (24, .slice ab 0 cb)], ?_⟩
  show DP _ _ _ _ _ _ _ _ [⟨nb1, cu8 key, 28, (0, 0)⟩, ⟨nb2, cu8 c, 27, (0, 0)⟩, ⟨nb3, cu8 (rkL key) ++ cu8 thereL ++ cu8 backL, 106, (0, 0)⟩, ⟨nb4, cu8 (rkeysL key) ++ sp1, 5, (0, 0)⟩, ⟨nb6, cu8 (([] : List UInt8) ++ ([] : List UInt8)) ++ sp2, 5, (0, 0)⟩, ⟨nb7, cu8 (strT (eBlk (rkL key) c) 0) ++ sp3, 5, (0, 0)⟩, ⟨nb8, cu8 (xorN (strT (eBlk (rkL key) c) 0) ([] : List UInt8) 0) ++ sp4, 5, (0, 0)⟩]
  refine DP_one ⟨[8, 9, 15, 19, 20], [0, 1, 2, 3, 4, 5, 6, 7, 10, 11, 12, 13, 14, 16, 17, 18, 21, 22, 23, 24], [0, 1, 2, 3, 4, 5, 6, 7, 10, 11, 12, 13, 14, 16, 17, 18], [21, 22, 23, 24], [25]⟩ 25 _ rfl rfl (by decide +kernel) rfl ⟨⟨_, rfl, Qok_val rfl (Ev_pickT _ rfl (decide_eq_true (rfl)) rfl)⟩, ⟨_, rfl, Qok_val rfl (Ev_move rfl)⟩, ⟨_, rfl, Qok_gval 22 54 true _ rfl rfl rfl (decide_eq_true (rfl)) (Ev_move rfl)⟩, ⟨_, rfl, Qok_gval 22 54 true _ rfl rfl rfl (decide_eq_true (rfl)) (Ev_move rfl)⟩, trivial⟩ rfl (Cok_gstep 22 54 true _ rfl rfl rfl (decide_eq_true (rfl)) (Step_callP 25 [Slc nb6 0 0 cp2, .slice ab 0 cb] (.bool (decide (([] : List UInt8) = ([] : List UInt8)))) (Cl_func [Slc nb6 0 0 cp2, .slice ab 0 cb] Try.call25 rfl) (fun w1 hw1 => bytes_c (some ⟨nb6, 0, none⟩) ab 0 0 cp2 cb ([] : List UInt8) ([] : List UInt8) w1 rfl rfl RdB.nil (hr.at (M' := []) hw1 (by simp))))) ?_
  rintro v1 L1 ⟨rfl, rfl⟩
  refine ⟨[(26, .bool (decide (([] : List UInt8) = ([] : List UInt8)))), (27, .bool (decide (([] : List UInt8) = ([] : List UInt8))))], ?_⟩
  show DP _ _ _ _ _ _ _ _ [⟨nb1, cu8 key, 28, (0, 0)⟩, ⟨nb2, cu8 c, 27, (0, 0)⟩, ⟨nb3, cu8 (rkL key) ++ cu8 thereL ++ cu8 backL, 106, (0, 0)⟩, ⟨nb4, cu8 (rkeysL key) ++ sp1, 5, (0, 0)⟩, ⟨nb6, cu8 (([] : List UInt8) ++ ([] : List UInt8)) ++ sp2, 5, (0, 0)⟩, ⟨nb7, cu8 (strT (eBlk (rkL key) c) 0) ++ sp3, 5, (0, 0)⟩, ⟨nb8, cu8 (xorN (strT (eBlk (rkL key) c) 0) ([] : List UInt8) 0) ++ sp4, 5, (0, 0)⟩]
  refine DP_end ⟨[8, 9, 15, 19, 20, 25], [0, 1, 2, 3, 4, 5, 6, 7, 10, 11, 12, 13, 14, 16, 17, 18, 21, 22, 23, 24, 26, 27], [0, 1, 2, 3, 4, 5, 6, 7, 10, 11, 12, 13, 14, 16, 17, 18, 21, 22, 23, 24], [26, 27], []⟩ rfl rfl (by decide +kernel) rfl ⟨⟨_, rfl, Qok_val rfl (Ev_pickT _ rfl (decide_eq_true (rfl)) rfl)⟩, ⟨_, rfl, Qok_val rfl (Ev_assign rfl)⟩, trivial⟩ ?_
  refine K_sub (F' := [(6, .bool (decide (([] : List UInt8) = ([] : List UInt8))))]) (Sub.cons (by kernel_rfl) (Sub.nil)) ?_
  show JQ _ _ _ [(6, .bool (decide (([] : List UInt8) = ([] : List UInt8))))] _
  refine JQ_then ?_
  refine JC_ret ?_
  refine JQ_ret (.bool (decide (([] : List UInt8) = ([] : List UInt8)))) (res1 Try.results9 (RV_tmp rfl)) fun w1 hw1 => ?_
  exact ⟨_, [], rfl, ⟨by rw [show (decide (([] : List UInt8) = ([] : List UInt8))) = true from (decide_eq_true (rfl))], rfl⟩, hw1.sub (by simp) (by simp)⟩

theorem ctrTwiceBig_c (c : List UInt8) (ab : Option Addr) (n cb : Nat) (b : List UInt8) (two : List UInt64) (w : World) (hc : c.length = 16) (hn : 300 < n) (ht : two.length = 2) : Calls Try.prog 10 #[.agg (cu8 c).toArray, .slice ab n cb, .agg (cu64 two).toArray] w (Post w [] (fun v L => v = .bool true ∧ L = [])) := by
  refine enter w [] 38 [] [.agg (cu8 c).toArray, .slice ab n cb, .agg (cu64 two).toArray] Try.func10 rfl rfl (by simp) (Hp.start (by simp) (by simp) (by simp)) ?_
  show JC _ _ _ [(0, .agg (cu8 c).toArray), (1, .slice ab n cb), (2, .agg (cu64 two).toArray)] _
  refine JC_seq ?_
  refine JC_region ?_
  refine JL_step (Step_box (.agg (cu8 c).toArray) (cu8 c) rfl (by first | rfl | simp)) rfl ?_
  rintro v1 L1 ⟨nb1, hnb1, rfl, rfl⟩
  show JL _ _ _ _ ((3, Ptr nb1 0) :: _) [⟨nb1, cu8 c, 27, (0, 0)⟩]
  refine JL_step (Step_box (.agg (cu64 two).toArray) (cu64 two) rfl (by first | rfl | simp)) rfl ?_
  rintro v1 L1 ⟨nb2, hnb2, rfl, rfl⟩
  show JL _ _ _ _ ((5, Ptr nb2 0) :: _) [⟨nb1, cu8 c, 27, (0, 0)⟩, ⟨nb2, cu64 two, 58, (0, 0)⟩]
  refine JL_val _ (Ev_assign rfl) rfl ?_
  refine JL_nil ?_
  refine JQ_then ?_
  refine JC_seq ?_
  refine JC_seq ?_
  refine JC_region ?_
  refine JL_step (Step_callP 30 [] (.bool true) (Cl_func [] Try.call30 rfl) (fun w1 _ => alive5_c  w1)) rfl ?_
  rintro v1 L1 ⟨rfl, rfl⟩
  show JL _ _ _ _ ((7, .bool true) :: _) [⟨nb1, cu8 c, 27, (0, 0)⟩, ⟨nb2, cu64 two, 58, (0, 0)⟩]
  refine JL_val (.bool (!true)) (Ev_not rfl) rfl ?_
  refine JL_nil ?_
  refine JQ_then ?_
  refine JC_condF _ rfl rfl ?_
  refine JC_skip ?_
  refine JQ_then ?_
  refine JC_seq ?_
  refine JC_seq ?_
  refine JC_region ?_
  refine JL_val _ (Ev_move rfl) rfl ?_
  refine JL_val (I64 ((n:Int))) (Ev_len Try.underlying38 rfl) rfl ?_
  refine JL_val (.bool (decide ((300:Int) < ((n:Int))))) (Ev_bini rfl rfl fun _ => bin_gtr_i _ _) rfl ?_
  refine JL_nil ?_
  refine JQ_then ?_
  refine JC_condT _ rfl (decide_eq_true (by omega)) ?_
  refine JC_seq ?_
  refine JC_region ?_
  refine JL_val _ (Ev_assign rfl) rfl ?_
  refine JL_nil ?_
  refine JQ_then ?_
  refine JC_ret ?_
  refine JQ_then_ret ?_
  refine JQ_ret (.bool true) (res1 Try.results10 (RV_tmp rfl)) fun w1 hw1 => ?_
  exact ⟨_, [], rfl, ⟨by rw [show (true) = true from rfl], rfl⟩, hw1.sub (by simp) (by simp)⟩

theorem ctrTwiceIn_c (c : List UInt8) (ab : Option Addr) (n cb : Nat) (b : List UInt8) (two : List UInt64) (w : World) (hc : c.length = 16) (hn : n ≤ 300) (ht : two.length = 2) (hb : b.length = n) (hcb : n ≤ cb ∧ cb ≤ maxLen) (hr : RdB w [] ab b) : Calls Try.prog 10 #[.agg (cu8 c).toArray, .slice ab n cb, .agg (cu64 two).toArray] w (Post w [] (fun v L => v = .bool true ∧ L = [])) := by
  refine enter w [] 38 [] [.agg (cu8 c).toArray, .slice ab n cb, .agg (cu64 two).toArray] Try.func10 rfl rfl (by simp) (Hp.start (by simp) (by simp) (by simp)) ?_
  show JC _ _ _ [(0, .agg (cu8 c).toArray), (1, .slice ab n cb), (2, .agg (cu64 two).toArray)] _
  refine JC_seq ?_
  refine JC_region ?_
  refine JL_step (Step_box (.agg (cu8 c).toArray) (cu8 c) rfl (by first | rfl | simp)) rfl ?_
  rintro v1 L1 ⟨nb1, hnb1, rfl, rfl⟩
  show JL _ _ _ _ ((3, Ptr nb1 0) :: _) [⟨nb1, cu8 c, 27, (0, 0)⟩]
  refine JL_step (Step_box (.agg (cu64 two).toArray) (cu64 two) rfl (by first | rfl | simp)) rfl ?_
  rintro v1 L1 ⟨nb2, hnb2, rfl, rfl⟩
  show JL _ _ _ _ ((5, Ptr nb2 0) :: _) [⟨nb1, cu8 c, 27, (0, 0)⟩, ⟨nb2, cu64 two, 58, (0, 0)⟩]
  refine JL_val _ (Ev_assign rfl) rfl ?_
  refine JL_nil ?_
  refine JQ_then ?_
  refine JC_seq ?_
  refine JC_seq ?_
  refine JC_region ?_
  refine JL_step (Step_callP 30 [] (.bool true) (Cl_func [] Try.call30 rfl) (fun w1 _ => alive5_c  w1)) rfl ?_
  rintro v1 L1 ⟨rfl, rfl⟩
  show JL _ _ _ _ ((7, .bool true) :: _) [⟨nb1, cu8 c, 27, (0, 0)⟩, ⟨nb2, cu64 two, 58, (0, 0)⟩]
  refine JL_val (.bool (!true)) (Ev_not rfl) rfl ?_
  refine JL_nil ?_
  refine JQ_then ?_
  refine JC_condF _ rfl rfl ?_
  refine JC_skip ?_
  refine JQ_then ?_
  refine JC_seq ?_
  refine JC_seq ?_
  refine JC_region ?_
  refine JL_val _ (Ev_move rfl) rfl ?_
  refine JL_val (I64 ((n:Int))) (Ev_len Try.underlying38 rfl) rfl ?_
  refine JL_val (.bool (decide ((300:Int) < ((n:Int))))) (Ev_bini rfl rfl fun _ => bin_gtr_i _ _) rfl ?_
  refine JL_nil ?_
  refine JQ_then ?_
  refine JC_condF _ rfl (decide_eq_false (by omega)) ?_
  refine JC_skip ?_
  refine JQ_then ?_
  refine JC_seq ?_
  refine JC_seq ?_
  refine JC_draw 38 4 [(0, .agg (cu8 c).toArray), (1, Ptr nb2 0), (2, U64 (g64 two 0)), (3, U64 ((g64 two 0) % (4611686018427387904:UInt64))), (5, Ptr nb2 1), (6, U64 (g64 two 1)), (7, U64 ((g64 two 1) % (4611686018427387904:UInt64))), (9, .agg (cu8 c).toArray), (10, Ptr nb2 0), (11, U64 (g64 two 0)), (12, U64 ((g64 two 0) % (4611686018427387904:UInt64))), (13, Ptr nb2 1), (14, U64 (g64 two 1)), (15, U64 ((g64 two 1) % (4611686018427387904:UInt64))), (16, U64 (((g64 two 0) % (4611686018427387904:UInt64)) + ((g64 two 1) % (4611686018427387904:UInt64))))] Try.mixed rfl (by decide +kernel) ?_
  refine DP_one ⟨[], [0, 1, 2, 3, 5, 6, 7, 9, 10, 11, 12, 13, 14, 15, 16], [], [0, 1, 2, 3, 5, 6, 7, 9, 10, 11, 12, 13, 14, 15, 16], [4]⟩ 4 _ rfl rfl (by decide +kernel) rfl ⟨⟨_, rfl, Qok_val rfl (Ev_load rfl (Ld_agg Try.isAgg27 Try.sizeOf27 (len_cu8 hc) (MemAt.ent 0 rfl (Seg.whole _))))⟩, ⟨_, rfl, Qok_val rfl (Ev_indexArr 2 44 1 0 Try.underlying58 Try.sizeOf44 rfl rfl (by omega) (by omega) (by omega))⟩, ⟨_, rfl, Qok_val rfl (Ev_load rfl (Ld_one Try.isAgg44 (MemAt.ent 1 rfl (Seg.get (g64_get (i := 0) (by rw [ht]; omega))))))⟩, ⟨_, rfl, Qok_val rfl (Ev_bini rfl rfl fun _ => bin_rem_u64 (g64 two 0) (4611686018427387904:UInt64) (by decide))⟩, ⟨_, rfl, Qok_val rfl (Ev_indexArr 2 44 1 1 Try.underlying58 Try.sizeOf44 rfl rfl (by omega) (by omega) (by omega))⟩, ⟨_, rfl, Qok_val rfl (Ev_load rfl (Ld_one Try.isAgg44 (MemAt.ent 1 rfl (Seg.get (g64_get (i := 1) (by rw [ht]; omega))))))⟩, ⟨_, rfl, Qok_val rfl (Ev_bini rfl rfl fun _ => bin_rem_u64 (g64 two 1) (4611686018427387904:UInt64) (by decide))⟩, ⟨_, rfl, Qok_val rfl (Ev_load rfl (Ld_agg Try.isAgg27 Try.sizeOf27 (len_cu8 hc) (MemAt.ent 0 rfl (Seg.whole _))))⟩, ⟨_, rfl, Qok_val rfl (Ev_indexArr 2 44 1 0 Try.underlying58 Try.sizeOf44 rfl rfl (by omega) (by omega) (by omega))⟩, ⟨_, rfl, Qok_val rfl (Ev_load rfl (Ld_one Try.isAgg44 (MemAt.ent 1 rfl (Seg.get (g64_get (i := 0) (by rw [ht]; omega))))))⟩, ⟨_, rfl, Qok_val rfl (Ev_bini rfl rfl fun _ => bin_rem_u64 (g64 two 0) (4611686018427387904:UInt64) (by decide))⟩, ⟨_, rfl, Qok_val rfl (Ev_indexArr 2 44 1 1 Try.underlying58 Try.sizeOf44 rfl rfl (by omega) (by omega) (by omega))⟩, ⟨_, rfl, Qok_val rfl (Ev_load rfl (Ld_one Try.isAgg44 (MemAt.ent 1 rfl (Seg.get (g64_get (i := 1) (by rw [ht]; omega))))))⟩, ⟨_, rfl, Qok_val rfl (Ev_bini rfl rfl fun _ => bin_rem_u64 (g64 two 1) (4611686018427387904:UInt64) (by decide))⟩, ⟨_, rfl, Qok_val rfl (Ev_bini rfl rfl fun _ => bin_add_u64 ((g64 two 0) % (4611686018427387904:UInt64)) ((g64 two 1) % (4611686018427387904:UInt64)))⟩, trivial⟩ rfl (Cok_step rfl (Step_callP 31 [.agg (cu8 c).toArray, U64 ((g64 two 0) % (4611686018427387904:UInt64))] (.agg (cu8 (nextL c ((g64 two 0) % (4611686018427387904:UInt64)))).toArray) (Cl_func [.agg (cu8 c).toArray, U64 ((g64 two 0) % (4611686018427387904:UInt64))] Try.call31 rfl) (fun w1 hw1 => next_c c ((g64 two 0) % (4611686018427387904:UInt64)) w1 hc))) ?_
  rintro v1 L1 ⟨rfl, rfl⟩
  refine ⟨[], ?_⟩
  show DP _ _ _ _ _ _ _ _ [⟨nb1, cu8 c, 27, (0, 0)⟩, ⟨nb2, cu64 two, 58, (0, 0)⟩]
  refine DP_one ⟨[4], [0, 1, 2, 3, 5, 6, 7, 9, 10, 11, 12, 13, 14, 15, 16], [0, 1, 2, 3], [5, 6, 7, 9, 10, 11, 12, 13, 14, 15, 16], [8]⟩ 8 _ rfl rfl (by decide +kernel) rfl ⟨⟨_, rfl, Qok_val rfl (Ev_indexArr 2 44 1 1 Try.underlying58 Try.sizeOf44 rfl rfl (by omega) (by omega) (by omega))⟩, ⟨_, rfl, Qok_val rfl (Ev_load rfl (Ld_one Try.isAgg44 (MemAt.ent 1 rfl (Seg.get (g64_get (i := 1) (by rw [ht]; omega))))))⟩, ⟨_, rfl, Qok_val rfl (Ev_bini rfl rfl fun _ => bin_rem_u64 (g64 two 1) (4611686018427387904:UInt64) (by decide))⟩, ⟨_, rfl, Qok_val rfl (Ev_load rfl (Ld_agg Try.isAgg27 Try.sizeOf27 (len_cu8 hc) (MemAt.ent 0 rfl (Seg.whole _))))⟩, ⟨_, rfl, Qok_val rfl (Ev_indexArr 2 44 1 0 Try.underlying58 Try.sizeOf44 rfl rfl (by omega) (by omega) (by omega))⟩, ⟨_, rfl, Qok_val rfl (Ev_load rfl (Ld_one Try.isAgg44 (MemAt.ent 1 rfl (Seg.get (g64_get (i := 0) (by rw [ht]; omega))))))⟩, ⟨_, rfl, Qok_val rfl (Ev_bini rfl rfl fun _ => bin_rem_u64 (g64 two 0) (4611686018427387904:UInt64) (by decide))⟩, ⟨_, rfl, Qok_val rfl (Ev_indexArr 2 44 1 1 Try.underlying58 Try.sizeOf44 rfl rfl (by omega) (by omega) (by omega))⟩, ⟨_, rfl, Qok_val rfl (Ev_load rfl (Ld_one Try.isAgg44 (MemAt.ent 1 rfl (Seg.get (g64_get (i := 1) (by rw [ht]; omega))))))⟩, ⟨_, rfl, Qok_val rfl (Ev_bini rfl rfl fun _ => bin_rem_u64 (g64 two 1) (4611686018427387904:UInt64) (by decide))⟩, ⟨_, rfl, Qok_val rfl (Ev_bini rfl rfl fun _ => bin_add_u64 ((g64 two 0) % (4611686018427387904:UInt64)) ((g64 two 1) % (4611686018427387904:UInt64)))⟩, trivial⟩ rfl (Cok_step rfl (Step_callP 31 [.agg (cu8 (nextL c ((g64 two 0) % (4611686018427387904:UInt64)))).toArray, U64 ((g64 two 1) % (4611686018427387904:UInt64))] (.agg (cu8 (nextL (nextL c ((g64 two 0) % (4611686018427387904:UInt64))) ((g64 two 1) % (4611686018427387904:UInt64)))).toArray) (Cl_func [.agg (cu8 (nextL c ((g64 two 0) % (4611686018427387904:UInt64)))).toArray, U64 ((g64 two 1) % (4611686018427387904:UInt64))] Try.call31 rfl) (fun w1 hw1 => next_c (nextL c ((g64 two 0) % (4611686018427387904:UInt64))) ((g64 two 1) % (4611686018427387904:UInt64)) w1 (nextL_len hc)))) ?_
  rintro v1 L1 ⟨rfl, rfl⟩
  refine ⟨[], ?_⟩
  show DP _ _ _ _ _ _ _ _ [⟨nb1, cu8 c, 27, (0, 0)⟩, ⟨nb2, cu64 two, 58, (0, 0)⟩]
  refine DP_one ⟨[4, 8], [0, 1, 2, 3, 5, 6, 7, 9, 10, 11, 12, 13, 14, 15, 16], [0, 1, 2, 3, 5, 6, 7], [9, 10, 11, 12, 13, 14, 15, 16], [17]⟩ 17 _ rfl rfl (by decide +kernel) rfl ⟨⟨_, rfl, Qok_val rfl (Ev_load rfl (Ld_agg Try.isAgg27 Try.sizeOf27 (len_cu8 hc) (MemAt.ent 0 rfl (Seg.whole _))))⟩, ⟨_, rfl, Qok_val rfl (Ev_indexArr 2 44 1 0 Try.underlying58 Try.sizeOf44 rfl rfl (by omega) (by omega) (by omega))⟩, ⟨_, rfl, Qok_val rfl (Ev_load rfl (Ld_one Try.isAgg44 (MemAt.ent 1 rfl (Seg.get (g64_get (i := 0) (by rw [ht]; omega))))))⟩, ⟨_, rfl, Qok_val rfl (Ev_bini rfl rfl fun _ => bin_rem_u64 (g64 two 0) (4611686018427387904:UInt64) (by decide))⟩, ⟨_, rfl, Qok_val rfl (Ev_indexArr 2 44 1 1 Try.underlying58 Try.sizeOf44 rfl rfl (by omega) (by omega) (by omega))⟩, ⟨_, rfl, Qok_val rfl (Ev_load rfl (Ld_one Try.isAgg44 (MemAt.ent 1 rfl (Seg.get (g64_get (i := 1) (by rw [ht]; omega))))))⟩, ⟨_, rfl, Qok_val rfl (Ev_bini rfl rfl fun _ => bin_rem_u64 (g64 two 1) (4611686018427387904:UInt64) (by decide))⟩, ⟨_, rfl, Qok_val rfl (Ev_bini rfl rfl fun _ => bin_add_u64 ((g64 two 0) % (4611686018427387904:UInt64)) ((g64 two 1) % (4611686018427387904:UInt64)))⟩, trivial⟩ rfl (Cok_step rfl (Step_callP 31 [.agg (cu8 c).toArray, U64 (((g64 two 0) % (4611686018427387904:UInt64)) + ((g64 two 1) % (4611686018427387904:UInt64)))] (.agg (cu8 (nextL c (((g64 two 0) % (4611686018427387904:UInt64)) + ((g64 two 1) % (4611686018427387904:UInt64))))).toArray) (Cl_func [.agg (cu8 c).toArray, U64 (((g64 two 0) % (4611686018427387904:UInt64)) + ((g64 two 1) % (4611686018427387904:UInt64)))] Try.call31 rfl) (fun w1 hw1 => next_c c (((g64 two 0) % (4611686018427387904:UInt64)) + ((g64 two 1) % (4611686018427387904:UInt64))) w1 hc))) ?_
  rintro v1 L1 ⟨rfl, rfl⟩
  refine ⟨[(18, .bool (!(decide ((nextL (nextL c ((g64 two 0) % (4611686018427387904:UInt64))) ((g64 two 1) % (4611686018427387904:UInt64))) = (nextL c (((g64 two 0) % (4611686018427387904:UInt64)) + ((g64 two 1) % (4611686018427387904:UInt64))))))))], ?_⟩
  show DP _ _ _ _ _ _ _ _ [⟨nb1, cu8 c, 27, (0, 0)⟩, ⟨nb2, cu64 two, 58, (0, 0)⟩]
  refine DP_end ⟨[4, 8, 17], [0, 1, 2, 3, 5, 6, 7, 9, 10, 11, 12, 13, 14, 15, 16, 18], [0, 1, 2, 3, 5, 6, 7, 9, 10, 11, 12, 13, 14, 15, 16], [18], []⟩ rfl rfl (by decide +kernel) rfl ⟨⟨_, rfl, Qok_val rfl (Ev_bin _ _ _ rfl rfl (fun _ => eqGuard_agg _ _ _ _ _ _ (by kernel_rfl)) fun _ => neq_arr8 Try.underlying27 Try.underlying5 Try.isAgg5 Try.cells5 Try.has5 (by simp [(nextL_len (nextL_len hc))]) (by simp [(nextL_len hc)]))⟩, trivial⟩ ?_
  refine K_sub (F' := [(30, .bool (!(decide ((nextL (nextL c ((g64 two 0) % (4611686018427387904:UInt64))) ((g64 two 1) % (4611686018427387904:UInt64))) = (nextL c (((g64 two 0) % (4611686018427387904:UInt64)) + ((g64 two 1) % (4611686018427387904:UInt64)))))))), (1, .slice ab n cb), (3, Ptr nb1 0), (6, .bool false)]) (Sub.cons (by kernel_rfl) (Sub.cons (by kernel_rfl) (Sub.cons (by kernel_rfl) (Sub.cons (by kernel_rfl) (Sub.nil))))) ?_
  show JQ _ _ _ [(30, .bool (!(decide ((nextL (nextL c ((g64 two 0) % (4611686018427387904:UInt64))) ((g64 two 1) % (4611686018427387904:UInt64))) = (nextL c (((g64 two 0) % (4611686018427387904:UInt64)) + ((g64 two 1) % (4611686018427387904:UInt64)))))))), (1, .slice ab n cb), (3, Ptr nb1 0), (6, .bool false)] _
  refine JQ_then ?_
  refine JC_condF _ rfl (by rw [show (decide ((nextL (nextL c ((g64 two 0) % (4611686018427387904:UInt64))) ((g64 two 1) % (4611686018427387904:UInt64))) = (nextL c (((g64 two 0) % (4611686018427387904:UInt64)) + ((g64 two 1) % (4611686018427387904:UInt64)))))) = true from (decide_eq_true (next_two hc _ _))]; rfl) ?_
  refine JC_skip ?_
  refine JQ_then ?_
  refine JC_seq ?_
  refine JC_draw 38 4 [(0, .agg (cu8 c).toArray), (1, .agg (cu8 c).toArray), (2, .slice ab n cb), (5, .slice ab n cb)] Try.mixed rfl (by decide +kernel) ?_
  refine DP_one ⟨[], [0, 1, 2, 5], [], [0, 1, 2, 5], [3]⟩ 3 _ rfl rfl (by decide +kernel) rfl ⟨⟨_, rfl, Qok_val rfl (Ev_load rfl (Ld_agg Try.isAgg27 Try.sizeOf27 (len_cu8 hc) (MemAt.ent 0 rfl (Seg.whole _))))⟩, ⟨_, rfl, Qok_val rfl (Ev_load rfl (Ld_agg Try.isAgg27 Try.sizeOf27 (len_cu8 hc) (MemAt.ent 0 rfl (Seg.whole _))))⟩, ⟨_, rfl, Qok_val rfl (Ev_move rfl)⟩, ⟨_, rfl, Qok_val rfl (Ev_move rfl)⟩, trivial⟩ rfl (Cok_step rfl (Step_callN 36 [.pointer none, .agg (cu8 c).toArray, .slice ab n cb] _ (Cl_func [.pointer none, .agg (cu8 c).toArray, .slice ab n cb] Try.call36 rfl) (fun w1 hw1 => turn_c none ab (rkL (zr8 16)) c b n cb w1 hc (by omega) hb (.inl ⟨rfl, rfl⟩) (hr.at (M' := []) hw1 (by simp))))) ?_
  rintro v1 L1 ⟨_, ⟨nb3, sp1, cp1, rfl, rfl, hc1, hc2, hc3⟩, rfl⟩
  refine ⟨[], ?_⟩
  show DP _ _ _ _ _ _ _ _ [⟨nb1, cu8 c, 27, (0, 0)⟩, ⟨nb2, cu64 two, 58, (0, 0)⟩, ⟨nb3, cu8 (xorN (strT (eBlk (rkL (zr8 16)) c) n) b n) ++ sp1, 5, (0, 0)⟩]
  refine DP_one ⟨[3], [0, 1, 2, 5], [1, 2], [0, 5], [4]⟩ 4 _ rfl rfl (by decide +kernel) rfl ⟨⟨_, rfl, Qok_val rfl (Ev_load rfl (Ld_agg Try.isAgg27 Try.sizeOf27 (len_cu8 hc) (MemAt.ent 0 rfl (Seg.whole _))))⟩, ⟨_, rfl, Qok_val rfl (Ev_move rfl)⟩, trivial⟩ rfl (Cok_step rfl (Step_callN 36 [.pointer none, .agg (cu8 c).toArray, Slc nb3 0 n cp1] _ (Cl_func [.pointer none, .agg (cu8 c).toArray, Slc nb3 0 n cp1] Try.call36 rfl) (fun w1 hw1 => turn_c none (some ⟨nb3, 0, none⟩) (rkL (zr8 16)) c (xorN (strT (eBlk (rkL (zr8 16)) c) n) b n) n cp1 w1 hc (by omega) ((xorN_len _ _ _).trans (strT_len (fun k => eBlk_len hc k) n)) (.inl ⟨rfl, rfl⟩) (RdB.of hw1 (MemAt.ent 2 rfl (Seg.left (Seg.whole _))) (by simp))))) ?_
  rintro v1 L1 ⟨_, ⟨nb4, sp2, cp2, rfl, rfl, hc4, hc5, hc6⟩, rfl⟩
  refine ⟨[], ?_⟩
  show DP _ _ _ _ _ _ _ _ [⟨nb1, cu8 c, 27, (0, 0)⟩, ⟨nb2, cu64 two, 58, (0, 0)⟩, ⟨nb3, cu8 (xorN (strT (eBlk (rkL (zr8 16)) c) n) b n) ++ sp1, 5, (0, 0)⟩, ⟨nb4, cu8 (xorN (strT (eBlk (rkL (zr8 16)) c) n) (xorN (strT (eBlk (rkL (zr8 16)) c) n) b n) n) ++ sp2, 5, (0, 0)⟩]
  refine DP_one ⟨[3, 4], [0, 1, 2, 5], [0, 1, 2], [5], [6]⟩ 6 _ rfl rfl (by decide +kernel) rfl ⟨⟨_, rfl, Qok_val rfl (Ev_move rfl)⟩, trivial⟩ rfl (Cok_step rfl (Step_callP 25 [Slc nb4 0 n cp2, .slice ab n cb] (.bool (decide ((xorN (strT (eBlk (rkL (zr8 16)) c) n) (xorN (strT (eBlk (rkL (zr8 16)) c) n) b n) n) = b))) (Cl_func [Slc nb4 0 n cp2, .slice ab n cb] Try.call25 rfl) (fun w1 hw1 => bytes_c (some ⟨nb4, 0, none⟩) ab n n cp2 cb (xorN (strT (eBlk (rkL (zr8 16)) c) n) (xorN (strT (eBlk (rkL (zr8 16)) c) n) b n) n) b w1 ((xorN_len _ _ _).trans (strT_len (fun k => eBlk_len hc k) n)) hb (RdB.of hw1 (MemAt.ent 3 rfl (Seg.left (Seg.whole _))) (by simp)) (hr.at (M' := []) hw1 (by simp))))) ?_
  rintro v1 L1 ⟨rfl, rfl⟩
  refine ⟨[(7, .bool (decide ((xorN (strT (eBlk (rkL (zr8 16)) c) n) (xorN (strT (eBlk (rkL (zr8 16)) c) n) b n) n) = b)))], ?_⟩
  show DP _ _ _ _ _ _ _ _ [⟨nb1, cu8 c, 27, (0, 0)⟩, ⟨nb2, cu64 two, 58, (0, 0)⟩, ⟨nb3, cu8 (xorN (strT (eBlk (rkL (zr8 16)) c) n) b n) ++ sp1, 5, (0, 0)⟩, ⟨nb4, cu8 (xorN (strT (eBlk (rkL (zr8 16)) c) n) (xorN (strT (eBlk (rkL (zr8 16)) c) n) b n) n) ++ sp2, 5, (0, 0)⟩]
  refine DP_end ⟨[3, 4, 6], [0, 1, 2, 5, 7], [0, 1, 2, 5], [7], []⟩ rfl rfl (by decide +kernel) rfl ⟨⟨_, rfl, Qok_val rfl (Ev_assign rfl)⟩, trivial⟩ ?_
  refine K_sub (F' := [(6, .bool (decide ((xorN (strT (eBlk (rkL (zr8 16)) c) n) (xorN (strT (eBlk (rkL (zr8 16)) c) n) b n) n) = b)))]) (Sub.cons (by kernel_rfl) (Sub.nil)) ?_
  show JQ _ _ _ [(6, .bool (decide ((xorN (strT (eBlk (rkL (zr8 16)) c) n) (xorN (strT (eBlk (rkL (zr8 16)) c) n) b n) n) = b)))] _
  refine JQ_then ?_
  refine JC_ret ?_
  refine JQ_ret (.bool (decide ((xorN (strT (eBlk (rkL (zr8 16)) c) n) (xorN (strT (eBlk (rkL (zr8 16)) c) n) b n) n) = b))) (res1 Try.results10 (RV_tmp rfl)) fun w1 hw1 => ?_
  exact ⟨_, [], rfl, ⟨by rw [show (decide ((xorN (strT (eBlk (rkL (zr8 16)) c) n) (xorN (strT (eBlk (rkL (zr8 16)) c) n) b n) n) = b)) = true from (decide_eq_true (xorN_twice (strT_len (fun k => eBlk_len hc k) n) hb))], rfl⟩, hw1.sub (by simp) (by simp)⟩

theorem ctrStreams_w (key c : List UInt8) (ab : Option Addr) (n cb : Nat) (b : List UInt8) (w : World) (hk : key.length = 16) (hc : c.length = 16) (hb : b.length = n ∧ n ≤ cb ∧ cb ≤ maxLen ∧ RdB w [] ab b) : Calls Try.prog 9 #[.agg (cu8 key).toArray, .agg (cu8 c).toArray, .slice ab n cb] w (Post w [] (fun v L => v = .bool true ∧ L = [])) := by
  obtain ⟨h1, h2, h3, h4⟩ := hb
  by_cases hn : 300 < n
  · exact ctrStreamsBig_c key c ab n cb b w hk hc hn
  · by_cases h0 : n = 0
    · subst h0
      obtain rfl : b = [] := List.length_eq_zero_iff.1 h1
      exact ctrStreams0_c key c ab cb w hk hc h3 h4
    · exact ctrStreamsIn_c key c ab n cb b w hk hc (by omega) (by omega) h1 ⟨h2, h3⟩ h4
theorem ctrTwice_w (c : List UInt8) (ab : Option Addr) (n cb : Nat) (b : List UInt8) (two : List UInt64) (w : World) (hc : c.length = 16) (hb : b.length = n ∧ n ≤ cb ∧ cb ≤ maxLen ∧ RdB w [] ab b) (ht : two.length = 2) : Calls Try.prog 10 #[.agg (cu8 c).toArray, .slice ab n cb, .agg (cu64 two).toArray] w (Post w [] (fun v L => v = .bool true ∧ L = [])) := by
  obtain ⟨h1, h2, h3, h4⟩ := hb
  by_cases hn : 300 < n
  · exact ctrTwiceBig_c c ab n cb b two w hc hn ht
  · exact ctrTwiceIn_c c ab n cb b two w hc (by omega) ht h1 ⟨h2, h3⟩ h4

end Go.Proofs.Ytncoifiafklkjaa
