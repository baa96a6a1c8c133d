import Derived.Test.YtncoifiafklkjaaFx
import Derived.Test.YtncoifiafklkjaaSxL
import Derived.Test.YtncoifiafklkjaaCtr1
namespace Go.Proofs.Ytncoifiafklkjaa
open Go Go.Sx
set_option linter.unusedVariables false
set_option linter.unusedSimpArgs false
set_option maxRecDepth 100000
attribute [local irreducible] mid zr8 rkeysL rencL encL decL rkL thereL backL nextL rnextL strT
def eBlk (ks c : List UInt8) (k : Nat) : List UInt8 := encL ks (ctrN c k)
theorem eBlk_len {ks c : List UInt8} (hc : c.length = 16) (k : Nat) : (eBlk ks c k).length = 16 := encL_len _ _ (ctrN_len hc k)

theorem stream_c (po : Option Addr) (ks c : List UInt8) (n : Nat) (w : World) (hc : c.length = 16) (hn : n ≤ 65536) (hC : CiphM w [] po ks) : Calls Try.prog 77 #[.pointer po, .agg (cu8 c).toArray, I64 ((n:Int))] w (Post w [] (fun v L => ∃ g sp cap, v = Slc g 0 n cap ∧ L = [⟨g, cu8 (strT (eBlk ks c) n) ++ sp, 5, (0, 0)⟩] ∧ sp.length = cap - n ∧ n ≤ cap ∧ cap ≤ maxLen)) := by
  refine enterM w [] 31 [] [.pointer po, .agg (cu8 c).toArray, I64 ((n:Int))] Try.func77 rfl rfl (by simp) (Hp.start (by simp) (by simp) (by simp)) ?_
  show JC _ _ _ [(0, .pointer po), (1, .agg (cu8 c).toArray), (2, I64 ((n:Int)))] _
  refine JC_seq ?_
  refine JC_region ?_
  refine JL_step (Step_box (.agg (cu8 c).toArray) (cu8 c) rfl (by first | rfl | simp)) rfl ?_
  rintro v1 L1 ⟨nb1, hnb1, rfl, rfl⟩
  show JL _ _ _ _ ((4, Ptr nb1 0) :: _) [⟨nb1, cu8 c, 27, (0, 0)⟩]
  refine JL_step (Step_box (I64 ((n:Int))) ([I64 ((n:Int))]) rfl rfl) rfl ?_
  rintro v1 L1 ⟨nb2, hnb2, rfl, rfl⟩
  show JL _ _ _ _ ((5, Ptr nb2 0) :: _) [⟨nb1, cu8 c, 27, (0, 0)⟩, ⟨nb2, [I64 ((n:Int))], 3, (0, 0)⟩]
  refine JL_val _ (Ev_assign rfl) rfl ?_
  refine JL_nil ?_
  refine JQ_then ?_
  refine JC_seq ?_
  refine JC_region ?_
  refine JL_val (I64 ((n:Int))) (Ev_load rfl (Ld_one Try.isAgg3 (MemAt.ent 1 rfl (Seg.head)))) rfl ?_
  refine JL_step (Step_make8 5 1 0 n Try.underlying38 Try.info5 rfl rfl (by omega) (by omega) (by unfold maxLen; omega)) rfl ?_
  rintro v1 L1 ⟨nb3, hnb3, rfl, rfl⟩
  show JL _ _ _ _ ((10, Slc nb3 0 0 n) :: _) [⟨nb1, cu8 c, 27, (0, 0)⟩, ⟨nb2, [I64 ((n:Int))], 3, (0, 0)⟩, ⟨nb3, cu8 (zr8 n), 5, (0, 0)⟩]
  refine JL_step (Step_alloc _ ([.slice none 0 0]) Try.zeroValue38 (by kernel_rfl)) rfl ?_
  rintro v1 L1 ⟨nb4, hnb4, rfl, rfl⟩
  show JL _ _ _ _ ((7, Ptr nb4 0) :: _) [⟨nb1, cu8 c, 27, (0, 0)⟩, ⟨nb2, [I64 ((n:Int))], 3, (0, 0)⟩, ⟨nb3, cu8 (zr8 n), 5, (0, 0)⟩, ⟨nb4, [.slice none 0 0], 38, (0, 0)⟩]
  refine JL_step (Step_store 3 nb4 0 1 ([.slice none 0 0]) 38 (Slc nb3 0 0 n) ([Slc nb3 0 0 n]) ([Slc nb3 0 0 n]) rfl rfl rfl rfl Try.sizeOf38 rfl (by simp [Value.oneCell']) (Nat.le_of_ble_eq_true rfl) (lay_whole (by simp []))) rfl ?_
  rintro v1 L1 ⟨rfl, rfl⟩
  show JL _ _ _ _ _ [⟨nb1, cu8 c, 27, (0, 0)⟩, ⟨nb2, [I64 ((n:Int))], 3, (0, 0)⟩, ⟨nb3, cu8 (zr8 n), 5, (0, 0)⟩, ⟨nb4, [Slc nb3 0 0 n], 38, (0, 0)⟩]
  refine JL_nil ?_
  refine JQ_then ?_
  refine JC_seq ?_
  refine JC_seq ?_
  refine JC_region ?_
  refine JL_val (I64 ((n:Int))) (Ev_load rfl (Ld_one Try.isAgg3 (MemAt.ent 1 rfl (Seg.head)))) rfl ?_
  refine JL_val (.bool (decide (((n:Int)) = (0:Int)))) (Ev_bini rfl rfl fun _ => bin_eql_i _ _) rfl ?_
  refine JL_nil ?_
  refine JQ_then ?_
  refine JC_cond (decide (((n:Int)) = (0:Int))) rfl (fun hb1 => ?_) (fun hb1 => ?_)
  ·
    have hp1 : ((n:Int)) = (0:Int) := of_decide_eq_true hb1
    refine JC_seq ?_
    refine JC_region ?_
    refine JL_val (Slc nb3 0 0 n) (Ev_load rfl (Ld_one Try.isAgg38 (MemAt.ent 3 rfl (Seg.head)))) rfl ?_
    refine JL_val _ (Ev_assign rfl) rfl ?_
    refine JL_nil ?_
    refine JQ_then ?_
    refine JC_ret ?_
    refine JQ_then_ret ?_
    refine JQ_retM0 (Slc nb3 0 0 n) (res1 Try.results77 (RV_tmp rfl)) (fun w1 hw1 => ?_)
    have e : n = 0 := by omega
    subst e
    exact ⟨_, [⟨nb3, cu8 (zr8 0), 5, (0, 0)⟩], rfl, ⟨nb3, cu8 (zr8 0), 0, rfl, by rw [strT_zero]; rfl, by simp [zr8_len], by omega, by unfold maxLen; omega⟩, hw1.sub (by simp) (by simp)⟩
  ·
    have hp1 : ¬ (((n:Int)) = (0:Int)) := of_decide_eq_false hb1
    refine JC_skip ?_
    refine JQ_then ?_
    refine JC_seq ?_
    refine JC_seq ?_
    refine JC_region ?_
    refine JL_val _ (Ev_move rfl) rfl ?_
    refine JL_val (.agg (cu8 c).toArray) (Ev_load rfl (Ld_agg Try.isAgg27 Try.sizeOf27 (len_cu8 hc) (MemAt.ent 0 rfl (Seg.whole _)))) rfl ?_
    refine JL_step (Step_callN 34 [.pointer po, .agg (cu8 c).toArray] _ (Cl_func [.pointer po, .agg (cu8 c).toArray] Try.call34 rfl) (fun w1 hw1 => blocks_c po c w1 hc)) rfl ?_
    rintro v1 L1 ⟨_, ⟨nb5, nb6, rfl, rfl⟩, rfl⟩
    show JL _ _ _ _ ((16, .func (.func 78) #[] #[Ptr nb5 0, Ptr nb6 0]) :: _) [⟨nb1, cu8 c, 27, (0, 0)⟩, ⟨nb2, [I64 ((n:Int))], 3, (0, 0)⟩, ⟨nb3, cu8 (zr8 n), 5, (0, 0)⟩, ⟨nb4, [Slc nb3 0 0 n], 38, (0, 0)⟩, ⟨nb5, [.pointer po], 32, (0, 0)⟩, ⟨nb6, cu8 c, 27, (0, 0)⟩]
    refine JL_nil ?_
    refine JQ_then ?_
    refine JC_block ?_
    refine K_sub (F' := [(5, Ptr nb2 0), (6, .slice none 0 0), (7, Ptr nb4 0), (16, .func (.func 78) #[] #[Ptr nb5 0, Ptr nb6 0])]) (Sub.cons rfl (Sub.cons rfl (Sub.cons rfl (Sub.cons rfl (Sub.nil))))) ?_
    refine K_pick [1, 4, 5, 3, 2] (by decide) ?_
    show JC _ _ _ _ [⟨nb2, [I64 ((n:Int))], 3, (0, 0)⟩, ⟨nb5, [.pointer po], 32, (0, 0)⟩, ⟨nb6, cu8 c, 27, (0, 0)⟩, ⟨nb4, [Slc nb3 0 0 n], 38, (0, 0)⟩, ⟨nb3, cu8 (zr8 n), 5, (0, 0)⟩]
    refine JC_range [⟨nb2, [I64 ((n:Int))], 3, (0, 0)⟩] [⟨nb5, [.pointer po], 32, (0, 0)⟩, ⟨nb6, cu8 c, 27, (0, 0)⟩] [⟨nb4, [Slc nb3 0 0 n], 38, (0, 0)⟩, ⟨nb3, cu8 (zr8 n), 5, (0, 0)⟩] (rbOf po) (fun _ => True) (fun _ => False) (fun k => .agg (cu8 (encL ks (ctrN c k))).toArray) (n / 16) (fun k L => ∃ g sp cap, 16*k < n ∧ L = [⟨nb4, [Slc g 0 (16*k) cap], 38, (0, 0)⟩, ⟨g, cu8 (strG (eBlk ks c) k) ++ sp, 5, (0, 0)⟩] ∧ sp.length = cap - 16*k ∧ 16*k ≤ cap ∧ cap ≤ maxLen) (fun k c' L => c' = .exit 0 ∧ ∃ g sp cap, L = [⟨nb4, [Slc g 0 n cap], 38, (0, 0)⟩, ⟨g, cu8 (strT (eBlk ks c) n) ++ sp, 5, (0, 0)⟩] ∧ sp.length = cap - n ∧ n ≤ cap ∧ cap ≤ maxLen) rfl rfl rfl Try.call78 (List.Perm.refl _) rfl ⟨nb3, cu8 (zr8 n), n, by omega, rfl, by simp [zr8_len], by omega, by unfold maxLen; omega⟩ (fun b hb => .inl (hC.rbM b hb)) (fun w1 hw1 => blocks_it nb5 nb6 po ks c w1 hc (hC.at hw1)) ?_ ?_ ?_
    ·
      intro l rb k Sk W1 hgo hkB hSk hl0 hlM hA hB hle
      have hA0 := hA _ (List.mem_of_getElem? (i := 0) rfl)
      obtain ⟨g, sp, cap, hx1, rfl, hx4, hx5, hx6⟩ := hSk
      show JC _ _ _ _ [⟨nb4, [Slc g 0 (16*k) cap], 38, (0, 0)⟩, ⟨g, cu8 (strG (eBlk ks c) k) ++ sp, 5, (0, 0)⟩]
      refine JC_region ?_
      refine JL_step (Step_alloc _ (cu8 (zr8 16)) Try.zeroValue27 (by kernel_rfl)) rfl ?_
      rintro v1 L1 ⟨nb7, hnb7, rfl, rfl⟩
      show JL _ _ _ _ ((8, Ptr nb7 0) :: _) [⟨nb4, [Slc g 0 (16*k) cap], 38, (0, 0)⟩, ⟨g, cu8 (strG (eBlk ks c) k) ++ sp, 5, (0, 0)⟩, ⟨nb7, cu8 (zr8 16), 27, (0, 0)⟩]
      refine JL_step (Step_store 2 nb7 0 16 (cu8 (zr8 16)) 27 (.agg (cu8 (encL ks (ctrN c k))).toArray) (cu8 (encL ks (ctrN c k))) (cu8 (encL ks (ctrN c k))) rfl rfl rfl (by first | rfl | simp) Try.sizeOf27 (len_cu8 (encL_len _ _ (ctrN_len hc k))) (by first | exact one_u8 | exact one_u32 | exact one_u64 | (simp [cu8, cu32, cu64, Value.oneCell']; done)) (by simp [(zr8_len 16)]) (lay_whole (by simp [(zr8_len 16), (encL_len _ _ (ctrN_len hc k))]))) rfl ?_
      rintro v1 L1 ⟨rfl, rfl⟩
      show JL _ _ _ _ _ [⟨nb4, [Slc g 0 (16*k) cap], 38, (0, 0)⟩, ⟨g, cu8 (strG (eBlk ks c) k) ++ sp, 5, (0, 0)⟩, ⟨nb7, cu8 (encL ks (ctrN c k)), 27, (0, 0)⟩]
      refine JL_nil ?_
      refine JQ_begin hl0 hlM ?_
      show JC _ _ _ _ [⟨nb4, [Slc g 0 (16*k) cap], 38, (0, 0)⟩, ⟨g, cu8 (strG (eBlk ks c) k) ++ sp, 5, (0, 0)⟩, ⟨nb7, cu8 (encL ks (ctrN c k)), 27, (0, 0)⟩]
      refine JC_block ?_
      refine JC_seq ?_
      rcases Bool.eq_false_or_eq_true (decide ((16:Int) ≤ (-16*(k:Int) + (n:Int)))) with hb2 | hb2
      ·
        have hp2 : (16:Int) ≤ (-16*(k:Int) + (n:Int)) := of_decide_eq_true hb2
        refine JC_draw 31 3 [(0, Slc g 0 (16*k) cap), (1, I64 ((n:Int))), (2, Slc g 0 (16*k) cap), (3, I64 (16*(k:Int))), (4, I64 (-16*(k:Int) + (n:Int))), (5, I64 (16:Int)), (6, Slc nb7 0 16 16)] Try.mixed rfl (by decide +kernel) ?_
        refine DP_one ⟨[], [0, 1, 2, 3, 4, 5, 6], [], [0, 1, 2, 3, 4, 5, 6], [7]⟩ 7 _ rfl rfl (by decide +kernel) rfl ⟨⟨_, rfl, Qok_val rfl (Ev_load rfl (Ld_one Try.isAgg38 (MemAt.ent 0 rfl (Seg.head))))⟩, ⟨_, rfl, Qok_val rfl (Ev_load rfl (Ld_one Try.isAgg3 (MemAt.seg (MemAt.heap ((World.putObj_heap_other hA0.2.2).trans hA0.1) hA0.2.1) (Seg.head) (by omega))))⟩, ⟨_, rfl, Qok_val rfl (Ev_load rfl (Ld_one Try.isAgg38 (MemAt.ent 0 rfl (Seg.head))))⟩, ⟨_, rfl, Qok_val rfl (Ev_len Try.underlying38 rfl)⟩, ⟨_, rfl, Qok_val rfl (Ev_bini rfl rfl fun _ => bin_sub_i _ _ (-16*(k:Int) + (n:Int)) (by omega) (by omega))⟩, ⟨_, rfl, Qok_val rfl (Ev_min rfl rfl (by have := of_decide_eq_true hb2; omega))⟩, ⟨_, rfl, Qok_val rfl (Ev_sliceA 16 5 1 0 16 0 16 Try.underlying27 Try.sizeOf5 rfl rfl rfl (by omega) (by omega) (by omega) (by omega) (by omega) 16 (by omega))⟩, trivial⟩ rfl (Cok_step rfl (Step_appM8 38 5 [false, true, false] (Slc g 0 (16*k) cap) (16*k) (strG (eBlk ks c) k) (encL ks (ctrN c k)) (some ⟨nb7, 0, none⟩) 16 16 (16*k + 16) Try.underlying38 Try.info5 rfl (.inr ⟨g, sp, cap, rfl, rfl, (by simp [(strG_len (fun k => eBlk_len hc k) k)]), hx4, (by omega), hx6⟩) rfl (by simp [(encL_len _ _ (ctrN_len hc k))]; try omega) (SrcAt.mem (MemAt.ent 2 rfl (Seg.whole _))) (by omega) (by unfold maxLen; omega) (by omega))) ?_
        rintro v1 L1 ⟨nb8, sp1, cp1, hg1, rfl, rfl, ha1, ha2, ha3, ha4⟩
        refine ⟨[], ?_⟩
        show DP _ _ _ _ _ _ _ _ [⟨nb4, [Slc g 0 (16*k) cap], 38, (0, 0)⟩, ⟨nb7, cu8 (encL ks (ctrN c k)), 27, (0, 0)⟩, ⟨nb8, cu8 ((strG (eBlk ks c) k) ++ (encL ks (ctrN c k))) ++ sp1, 5, (0, 0)⟩]
        refine DP_one ⟨[7], [0, 1, 2, 3, 4, 5, 6], [0, 1, 2, 3, 4, 5, 6], [], [8]⟩ 8 _ rfl rfl (by decide +kernel) rfl trivial rfl (Cok_step rfl (Step_store 0 nb4 0 1 ([Slc g 0 (16*k) cap]) 38 (Slc nb8 0 (16*k + 16) cp1) ([Slc nb8 0 (16*k + 16) cp1]) ([Slc nb8 0 (16*k + 16) cp1]) rfl rfl rfl rfl Try.sizeOf38 rfl (by simp [Value.oneCell']) (Nat.le_of_ble_eq_true rfl) (lay_whole (by simp [])))) ?_
        rintro v1 L1 ⟨rfl, rfl⟩
        refine ⟨[], ?_⟩
        show DP _ _ _ _ _ _ _ _ [⟨nb4, [Slc nb8 0 (16*k + 16) cp1], 38, (0, 0)⟩, ⟨nb7, cu8 (encL ks (ctrN c k)), 27, (0, 0)⟩, ⟨nb8, cu8 ((strG (eBlk ks c) k) ++ (encL ks (ctrN c k))) ++ sp1, 5, (0, 0)⟩]
        refine DP_end ⟨[7, 8], [0, 1, 2, 3, 4, 5, 6], [0, 1, 2, 3, 4, 5, 6], [], []⟩ rfl rfl (by decide +kernel) rfl trivial ?_
        refine K_sub (F' := [(5, Ptr nb2 0), (6, .slice none 0 0), (7, Ptr nb4 0)]) (Sub.cons (by kernel_rfl) (Sub.cons (by kernel_rfl) (Sub.cons (by kernel_rfl) (Sub.nil)))) ?_
        show JQ _ _ _ [(5, Ptr nb2 0), (6, .slice none 0 0), (7, Ptr nb4 0)] _
        refine JQ_then ?_
        refine JC_seq ?_
        refine JC_region ?_
        refine JL_val (Slc nb8 0 (16*k + 16) cp1) (Ev_load rfl (Ld_one Try.isAgg38 (MemAt.ent 0 rfl (Seg.head)))) rfl ?_
        refine JL_val (I64 (16*(k:Int) + 16)) (Ev_len Try.underlying38 rfl) rfl ?_
        refine JL_val (I64 ((n:Int))) (Ev_load rfl (Ld_one Try.isAgg3 (MemAt.seg (MemAt.heap ((World.putObj_heap_other hA0.2.2).trans hA0.1) hA0.2.1) (Seg.head) (by omega)))) rfl ?_
        refine JL_val (.bool (decide ((16*(k:Int) + 16) = ((n:Int))))) (Ev_bini rfl rfl fun _ => bin_eql_i _ _) rfl ?_
        refine JL_nil ?_
        refine JQ_then ?_
        refine JC_cond (decide ((16*(k:Int) + 16) = ((n:Int)))) rfl (fun hb3 => ?_) (fun hb3 => ?_)
        ·
          have hp3 : (16*(k:Int) + 16) = ((n:Int)) := of_decide_eq_true hb3
          refine JC_exit ?_
          refine JQ_in_other rfl ?_
          refine K_pick [0, 2] (by decide) ?_
          show K _ _ [⟨nb4, [Slc nb8 0 (16*k + 16) cp1], 38, (0, 0)⟩, ⟨nb8, cu8 ((strG (eBlk ks c) k) ++ (encL ks (ctrN c k))) ++ sp1, 5, (0, 0)⟩] _
          refine JQ_bodyX ⟨rfl, nb8, sp1, cp1, by rw [← strT_full (fun k => eBlk_len hc k) (k := k) (by omega)]; rw [show n = 16*k + 16 from by omega]; rfl, by omega, by omega, ha4⟩
        ·
          have hp3 : ¬ ((16*(k:Int) + 16) = ((n:Int))) := of_decide_eq_false hb3
          refine JC_skip ?_
          refine JQ_in_normal ?_
          refine K_pick [0, 2] (by decide) ?_
          show K _ _ [⟨nb4, [Slc nb8 0 (16*k + 16) cp1], 38, (0, 0)⟩, ⟨nb8, cu8 ((strG (eBlk ks c) k) ++ (encL ks (ctrN c k))) ++ sp1, 5, (0, 0)⟩] _
          refine JQ_bodyN ⟨by omega, nb8, sp1, cp1, by omega, rfl, ha2, ha3, ha4⟩
      ·
        have hp2 : ¬ ((16:Int) ≤ (-16*(k:Int) + (n:Int))) := of_decide_eq_false hb2
        refine JC_draw 31 3 [(0, Slc g 0 (16*k) cap), (1, I64 ((n:Int))), (2, Slc g 0 (16*k) cap), (3, I64 (16*(k:Int))), (4, I64 (-16*(k:Int) + (n:Int))), (5, I64 (-16*(k:Int) + (n:Int))), (6, Slc nb7 0 (n - 16*k) 16)] Try.mixed rfl (by decide +kernel) ?_
        have hl1 : (mid (encL ks (ctrN c k)) 0 (n - 16*k)).length = (n - 16*k) := mid_len (by rw [(encL_len _ _ (ctrN_len hc k))]; omega)
        refine DP_one ⟨[], [0, 1, 2, 3, 4, 5, 6], [], [0, 1, 2, 3, 4, 5, 6], [7]⟩ 7 _ rfl rfl (by decide +kernel) rfl ⟨⟨_, rfl, Qok_val rfl (Ev_load rfl (Ld_one Try.isAgg38 (MemAt.ent 0 rfl (Seg.head))))⟩, ⟨_, rfl, Qok_val rfl (Ev_load rfl (Ld_one Try.isAgg3 (MemAt.seg (MemAt.heap ((World.putObj_heap_other hA0.2.2).trans hA0.1) hA0.2.1) (Seg.head) (by omega))))⟩, ⟨_, rfl, Qok_val rfl (Ev_load rfl (Ld_one Try.isAgg38 (MemAt.ent 0 rfl (Seg.head))))⟩, ⟨_, rfl, Qok_val rfl (Ev_len Try.underlying38 rfl)⟩, ⟨_, rfl, Qok_val rfl (Ev_bini rfl rfl fun _ => bin_sub_i _ _ (-16*(k:Int) + (n:Int)) (by omega) (by omega))⟩, ⟨_, rfl, Qok_val rfl (Ev_min rfl rfl (by have := of_decide_eq_false hb2; omega))⟩, ⟨_, rfl, Qok_val rfl (Ev_sliceA 16 5 1 0 (n - 16*k) 0 16 Try.underlying27 Try.sizeOf5 rfl rfl (some_i64 (by omega)) (by omega) (by omega) (by omega) (by omega) (by omega) (n - 16*k) (by omega))⟩, trivial⟩ rfl (Cok_step rfl (Step_appM8 38 5 [false, true, false] (Slc g 0 (16*k) cap) (16*k) (strG (eBlk ks c) k) (mid (encL ks (ctrN c k)) 0 (n - 16*k)) (some ⟨nb7, 0, none⟩) (n - 16*k) 16 n Try.underlying38 Try.info5 rfl (.inr ⟨g, sp, cap, rfl, rfl, (by simp [(strG_len (fun k => eBlk_len hc k) k)]), hx4, (by omega), hx6⟩) rfl (by simp [hl1]; try omega) (SrcAt.mem (MemAt.ent 2 rfl (segm_u8 0 (n - 16*k) (by rw [(encL_len _ _ (ctrN_len hc k))]; omega)))) (by omega) (by unfold maxLen; omega) (by omega))) ?_
        rintro v1 L1 ⟨nb9, sp2, cp2, hg2, rfl, rfl, ha5, ha6, ha7, ha8⟩
        refine ⟨[], ?_⟩
        show DP _ _ _ _ _ _ _ _ [⟨nb4, [Slc g 0 (16*k) cap], 38, (0, 0)⟩, ⟨nb7, cu8 (encL ks (ctrN c k)), 27, (0, 0)⟩, ⟨nb9, cu8 ((strG (eBlk ks c) k) ++ (mid (encL ks (ctrN c k)) 0 (n - 16*k))) ++ sp2, 5, (0, 0)⟩]
        refine DP_one ⟨[7], [0, 1, 2, 3, 4, 5, 6], [0, 1, 2, 3, 4, 5, 6], [], [8]⟩ 8 _ rfl rfl (by decide +kernel) rfl trivial rfl (Cok_step rfl (Step_store 0 nb4 0 1 ([Slc g 0 (16*k) cap]) 38 (Slc nb9 0 n cp2) ([Slc nb9 0 n cp2]) ([Slc nb9 0 n cp2]) rfl rfl rfl rfl Try.sizeOf38 rfl (by simp [Value.oneCell']) (Nat.le_of_ble_eq_true rfl) (lay_whole (by simp [])))) ?_
        rintro v1 L1 ⟨rfl, rfl⟩
        refine ⟨[], ?_⟩
        show DP _ _ _ _ _ _ _ _ [⟨nb4, [Slc nb9 0 n cp2], 38, (0, 0)⟩, ⟨nb7, cu8 (encL ks (ctrN c k)), 27, (0, 0)⟩, ⟨nb9, cu8 ((strG (eBlk ks c) k) ++ (mid (encL ks (ctrN c k)) 0 (n - 16*k))) ++ sp2, 5, (0, 0)⟩]
        refine DP_end ⟨[7, 8], [0, 1, 2, 3, 4, 5, 6], [0, 1, 2, 3, 4, 5, 6], [], []⟩ rfl rfl (by decide +kernel) rfl trivial ?_
        refine K_sub (F' := [(5, Ptr nb2 0), (6, .slice none 0 0), (7, Ptr nb4 0)]) (Sub.cons (by kernel_rfl) (Sub.cons (by kernel_rfl) (Sub.cons (by kernel_rfl) (Sub.nil)))) ?_
        show JQ _ _ _ [(5, Ptr nb2 0), (6, .slice none 0 0), (7, Ptr nb4 0)] _
        refine JQ_then ?_
        refine JC_seq ?_
        refine JC_region ?_
        refine JL_val (Slc nb9 0 n cp2) (Ev_load rfl (Ld_one Try.isAgg38 (MemAt.ent 0 rfl (Seg.head)))) rfl ?_
        refine JL_val (I64 ((n:Int))) (Ev_len Try.underlying38 rfl) rfl ?_
        refine JL_val (I64 ((n:Int))) (Ev_load rfl (Ld_one Try.isAgg3 (MemAt.seg (MemAt.heap ((World.putObj_heap_other hA0.2.2).trans hA0.1) hA0.2.1) (Seg.head) (by omega)))) rfl ?_
        refine JL_val (.bool (decide (((n:Int)) = ((n:Int))))) (Ev_bini rfl rfl fun _ => bin_eql_i _ _) rfl ?_
        refine JL_nil ?_
        refine JQ_then ?_
        refine JC_condT _ rfl (by simp) ?_
        refine JC_exit ?_
        refine JQ_in_other rfl ?_
        refine K_pick [0, 2] (by decide) ?_
        show K _ _ [⟨nb4, [Slc nb9 0 n cp2], 38, (0, 0)⟩, ⟨nb9, cu8 ((strG (eBlk ks c) k) ++ (mid (encL ks (ctrN c k)) 0 (n - 16*k))) ++ sp2, 5, (0, 0)⟩] _
        refine JQ_bodyX ⟨rfl, nb9, sp2, cp2, by rw [← strT_part (fun k => eBlk_len hc k) (k := k) (by omega) (by omega)]; rfl, by omega, by omega, ha8⟩
    ·
      intro D k L' W' hf
      exact hf.elim
    ·
      intro D k c L' W' hf hX hw' hD hDle
      obtain ⟨rfl, g, sp, cap, rfl, hx4, hx5, hx6⟩ := hX
      show JC _ _ _ _ [⟨nb2, [I64 ((n:Int))], 3, (0, 0)⟩, ⟨nb4, [Slc g 0 n cap], 38, (0, 0)⟩, ⟨g, cu8 (strT (eBlk ks c) n) ++ sp, 5, (0, 0)⟩]
      refine JC_exit ?_
      refine JQ_in_same ?_
      refine JQ_then ?_
      refine JC_seq ?_
      refine JC_region ?_
      refine JL_val (Slc g 0 n cap) (Ev_load rfl (Ld_one Try.isAgg38 (MemAt.ent 1 rfl (Seg.head)))) rfl ?_
      refine JL_val _ (Ev_assign rfl) rfl ?_
      refine JL_nil ?_
      refine JQ_then ?_
      refine JC_ret ?_
      refine JQ_retM D (Slc g 0 n cap) rfl hD rfl hw'.here (fun _ => (res1 Try.results77 (RV_tmp rfl))) (fun w1 hw1 => ?_)
      have hw1 := hw'.fin hD hDle hw1 (.deferred none)
      exact ⟨_, _, rfl, ⟨g, sp, cap, rfl, rfl, hx4, hx5, hx6⟩, hw1.sub (by simp) (by simp)⟩

theorem streamOut_c (pv : Option Addr) (c : List UInt8) (n : Int) (w : World) (hc : c.length = 16) (hn : n < 0 ∨ 65536 < n) : Calls Try.prog 33 #[.pointer pv, .agg (cu8 c).toArray, I64 (n)] w (Post w [] (fun v L => v = .tuple #[.slice none 0 0, .iface 36 (I64 1)] ∧ L = [])) := by
  refine enter w [] 19 [] [.pointer pv, .agg (cu8 c).toArray, I64 (n)] Try.func33 rfl rfl (by simp) (Hp.start (by simp) (by simp) (by simp)) ?_
  show JC _ _ _ [(0, .pointer pv), (1, .agg (cu8 c).toArray), (2, I64 (n))] _
  refine JC_seq ?_
  refine JC_region ?_
  refine JL_step (Step_box (.agg (cu8 c).toArray) (cu8 c) rfl (by first | rfl | simp)) rfl ?_
  rintro v1 L1 ⟨nb1, hnb1, rfl, rfl⟩
  show JL _ _ _ _ ((4, Ptr nb1 0) :: _) [⟨nb1, cu8 c, 27, (0, 0)⟩]
  refine JL_val _ (Ev_assign rfl) rfl ?_
  refine JL_val _ (Ev_assign rfl) rfl ?_
  refine JL_nil ?_
  refine JQ_then ?_
  refine JC_seq ?_
  refine JC_seq ?_
  refine JC_region ?_
  refine JL_val _ (Ev_move rfl) rfl ?_
  refine JL_val (.bool (decide ((n) < (0:Int)))) (Ev_bini rfl rfl fun _ => bin_lss_i _ _) rfl ?_
  refine JL_val _ (Ev_move rfl) rfl ?_
  rcases Bool.eq_false_or_eq_true (decide ((n) < (0:Int))) with hb1 | hb1
  ·
    have hp1 : (n) < (0:Int) := of_decide_eq_true hb1
    refine JL_gskip 2 10 false _ rfl rfl hb1 rfl ?_
    refine JL_gskip 2 10 false _ rfl rfl hb1 rfl ?_
    refine JL_val _ (Ev_pickT _ rfl hb1 rfl) rfl ?_
    refine JL_nil ?_
    refine JQ_then ?_
    refine JC_condT _ rfl rfl ?_
    refine JC_seq ?_
    refine JC_region ?_
    refine JL_val (.iface 36 (I64 (1:Int))) (Ev_iface Try.underlying36 rfl rfl) rfl ?_
    refine JL_val _ (Ev_assign rfl) rfl ?_
    refine JL_val _ (Ev_assign rfl) rfl ?_
    refine JL_nil ?_
    refine JQ_then ?_
    refine JC_ret ?_
    refine JQ_then_ret ?_
    refine JQ_ret (.tuple #[.slice none 0 0, .iface 36 (I64 (1:Int))]) (res2 Try.results33 (RV_tmp rfl) (RV_tmp rfl)) fun w1 hw1 => ?_
    exact ⟨_, [], rfl, ⟨rfl, rfl⟩, hw1.sub (by simp) (by simp)⟩
  ·
    have hp1 : ¬ ((n) < (0:Int)) := of_decide_eq_false hb1
    refine JL_gval 2 10 false _ _ rfl rfl hb1 (Ev_move rfl) rfl ?_
    refine JL_gval 2 10 false _ (.bool (decide ((65536:Int) < (n)))) rfl rfl hb1 (Ev_bini rfl rfl fun _ => bin_gtr_i _ _) rfl ?_
    refine JL_val _ (Ev_pickF _ rfl hb1 rfl) rfl ?_
    refine JL_nil ?_
    refine JQ_then ?_
    refine JC_cond (decide ((65536:Int) < (n))) rfl (fun hb2 => ?_) (fun hb2 => ?_)
    ·
      have hp2 : (65536:Int) < (n) := of_decide_eq_true hb2
      refine JC_seq ?_
      refine JC_region ?_
      refine JL_val (.iface 36 (I64 (1:Int))) (Ev_iface Try.underlying36 rfl rfl) rfl ?_
      refine JL_val _ (Ev_assign rfl) rfl ?_
      refine JL_val _ (Ev_assign rfl) rfl ?_
      refine JL_nil ?_
      refine JQ_then ?_
      refine JC_ret ?_
      refine JQ_then_ret ?_
      refine JQ_ret (.tuple #[.slice none 0 0, .iface 36 (I64 (1:Int))]) (res2 Try.results33 (RV_tmp rfl) (RV_tmp rfl)) fun w1 hw1 => ?_
      exact ⟨_, [], rfl, ⟨rfl, rfl⟩, hw1.sub (by simp) (by simp)⟩
    ·
      have hp2 : ¬ ((65536:Int) < (n)) := of_decide_eq_false hb2
      exfalso; omega

theorem streamIn_c (po : Option Addr) (ks c : List UInt8) (n : Nat) (w : World) (hc : c.length = 16) (hn : n ≤ 65536) (hC : CiphM w [] po ks) : Calls Try.prog 33 #[.pointer po, .agg (cu8 c).toArray, I64 ((n:Int))] w (Post w [] (fun v L => ∃ g sp cap, v = .tuple #[Slc g 0 n cap, .nilIface] ∧ L = [⟨g, cu8 (strT (eBlk ks c) n) ++ sp, 5, (0, 0)⟩] ∧ sp.length = cap - n ∧ n ≤ cap ∧ cap ≤ maxLen)) := by
  refine enter w [] 19 [] [.pointer po, .agg (cu8 c).toArray, I64 ((n:Int))] Try.func33 rfl rfl (by simp) (Hp.start (by simp) (by simp) (by simp)) ?_
  show JC _ _ _ [(0, .pointer po), (1, .agg (cu8 c).toArray), (2, I64 ((n:Int)))] _
  refine JC_seq ?_
  refine JC_region ?_
  refine JL_step (Step_box (.agg (cu8 c).toArray) (cu8 c) rfl (by first | rfl | simp)) rfl ?_
  rintro v1 L1 ⟨nb1, hnb1, rfl, rfl⟩
  show JL _ _ _ _ ((4, Ptr nb1 0) :: _) [⟨nb1, cu8 c, 27, (0, 0)⟩]
  refine JL_val _ (Ev_assign rfl) rfl ?_
  refine JL_val _ (Ev_assign rfl) rfl ?_
  refine JL_nil ?_
  refine JQ_then ?_
  refine JC_seq ?_
  refine JC_seq ?_
  refine JC_region ?_
  refine JL_val _ (Ev_move rfl) rfl ?_
  refine JL_val (.bool (decide (((n:Int)) < (0:Int)))) (Ev_bini rfl rfl fun _ => bin_lss_i _ _) rfl ?_
  refine JL_val _ (Ev_move rfl) rfl ?_
  refine JL_gval 2 10 false _ _ rfl rfl (decide_eq_false (by omega)) (Ev_move rfl) rfl ?_
  refine JL_gval 2 10 false _ (.bool (decide ((65536:Int) < ((n:Int))))) rfl rfl (decide_eq_false (by omega)) (Ev_bini rfl rfl fun _ => bin_gtr_i _ _) rfl ?_
  refine JL_val _ (Ev_pickF _ rfl (decide_eq_false (by omega)) rfl) rfl ?_
  refine JL_nil ?_
  refine JQ_then ?_
  refine JC_condF _ rfl (decide_eq_false (by omega)) ?_
  refine JC_skip ?_
  refine JQ_then ?_
  refine JC_seq ?_
  refine JC_region ?_
  refine JL_val _ (Ev_move rfl) rfl ?_
  refine JL_val (.agg (cu8 c).toArray) (Ev_load rfl (Ld_agg Try.isAgg27 Try.sizeOf27 (len_cu8 hc) (MemAt.ent 0 rfl (Seg.whole _)))) rfl ?_
  refine JL_val _ (Ev_move rfl) rfl ?_
  refine JL_step (Step_callN 77 [.pointer po, .agg (cu8 c).toArray, I64 ((n:Int))] _ (Cl_func [.pointer po, .agg (cu8 c).toArray, I64 ((n:Int))] Try.call77 rfl) (fun w1 hw1 => stream_c po ks c n w1 hc (by omega) (hC.at hw1))) rfl ?_
  rintro v1 L1 ⟨_, ⟨nb2, sp1, cp1, rfl, rfl, hc1, hc2, hc3⟩, rfl⟩
  show JL _ _ _ _ ((18, Slc nb2 0 n cp1) :: _) [⟨nb1, cu8 c, 27, (0, 0)⟩, ⟨nb2, cu8 (strT (eBlk ks c) n) ++ sp1, 5, (0, 0)⟩]
  refine JL_val _ (Ev_assign rfl) rfl ?_
  refine JL_val _ (Ev_assign rfl) rfl ?_
  refine JL_nil ?_
  refine JQ_then ?_
  refine JC_ret ?_
  refine JQ_ret (.tuple #[Slc nb2 0 n cp1, .nilIface]) (res2 Try.results33 (RV_tmp rfl) (RV_tmp rfl)) fun w1 hw1 => ?_
  exact ⟨_, _, rfl, ⟨nb2, sp1, cp1, rfl, rfl, hc1, hc2, hc3⟩, hw1.sub (by simp) (by simp)⟩

theorem turn_c (po ab : Option Addr) (ks c b : List UInt8) (n cb : Nat) (w : World) (hc : c.length = 16) (hn : n ≤ 65536) (hb : b.length = n) (hC : CiphM w [] po ks) (hr : RdB w [] ab b) : Calls Try.prog 36 #[.pointer po, .agg (cu8 c).toArray, .slice ab n cb] w (Post w [] (fun v L => ∃ g sp cap, v = Slc g 0 n cap ∧ L = [⟨g, cu8 (xorN (strT (eBlk ks c) n) b n) ++ sp, 5, (0, 0)⟩] ∧ sp.length = cap - n ∧ n ≤ cap ∧ cap ≤ maxLen)) := by
  refine enter w [] 31 [] [.pointer po, .agg (cu8 c).toArray, .slice ab n cb] Try.func36 rfl rfl (by simp) (Hp.start (by simp) (by simp) (by simp)) ?_
  show JC _ _ _ [(0, .pointer po), (1, .agg (cu8 c).toArray), (2, .slice ab n cb)] _
  refine JC_seq ?_
  refine JC_region ?_
  refine JL_step (Step_box (.agg (cu8 c).toArray) (cu8 c) rfl (by first | rfl | simp)) rfl ?_
  rintro v1 L1 ⟨nb1, hnb1, rfl, rfl⟩
  show JL _ _ _ _ ((4, Ptr nb1 0) :: _) [⟨nb1, cu8 c, 27, (0, 0)⟩]
  refine JL_val _ (Ev_assign rfl) rfl ?_
  refine JL_nil ?_
  refine JQ_then ?_
  refine JC_seq ?_
  refine JC_region ?_
  refine JL_val _ (Ev_move rfl) rfl ?_
  refine JL_val (.agg (cu8 c).toArray) (Ev_load rfl (Ld_agg Try.isAgg27 Try.sizeOf27 (len_cu8 hc) (MemAt.ent 0 rfl (Seg.whole _)))) rfl ?_
  refine JL_val _ (Ev_move rfl) rfl ?_
  refine JL_val (I64 ((n:Int))) (Ev_len Try.underlying38 rfl) rfl ?_
  refine JL_step (Step_callN 77 [.pointer po, .agg (cu8 c).toArray, I64 ((n:Int))] _ (Cl_func [.pointer po, .agg (cu8 c).toArray, I64 ((n:Int))] Try.call77 rfl) (fun w1 hw1 => stream_c po ks c n w1 hc (by omega) (hC.at hw1))) rfl ?_
  rintro v1 L1 ⟨_, ⟨nb2, sp1, cp1, rfl, rfl, hc1, hc2, hc3⟩, rfl⟩
  show JL _ _ _ _ ((14, Slc nb2 0 n cp1) :: _) [⟨nb1, cu8 c, 27, (0, 0)⟩, ⟨nb2, cu8 (strT (eBlk ks c) n) ++ sp1, 5, (0, 0)⟩]
  refine JL_val _ (Ev_assign rfl) rfl ?_
  refine JL_nil ?_
  refine JQ_then ?_
  refine JC_seq ?_
  refine JC_seq ?_
  refine JC_region ?_
  refine JL_val _ (Ev_move rfl) rfl ?_
  refine JL_val (I64 ((n:Int))) (Ev_len Try.underlying38 rfl) rfl ?_
  refine JL_val _ (Ev_move rfl) rfl ?_
  refine JL_nil ?_
  refine JQ_then ?_
  refine JC_block ?_
  refine K_mask [false, true] ?_
  show JC _ _ _ _ [⟨nb2, cu8 (strT (eBlk ks c) n) ++ sp1, 5, (0, 0)⟩]
  refine JC_loop (ι := Nat × List UInt8) (fun ⟨i, s⟩ => [(6, .slice none 0 0), (7, Slc nb2 0 n cp1), (15, .slice ab n cb), (16, I64 ((n:Int))), (17, I64 ((i:Int)))]) (fun ⟨i, s⟩ => [⟨nb2, cu8 s ++ sp1, 5, (0, 0)⟩]) (fun ⟨i, s⟩ => i ≤ n ∧ s = xorN (strT (eBlk ks c) n) b i ∧ s.length = n) (fun ⟨i, s⟩ => n - i) (0, strT (eBlk ks c) n) ⟨by omega, rfl, strT_len (fun k => eBlk_len hc k) n⟩ (Sub.cons rfl (Sub.cons rfl (Sub.cons rfl (Sub.cons rfl (Sub.cons rfl (Sub.nil)))))) rfl ?_
  rintro ⟨i, s⟩ ⟨hy1, hy2, hs⟩
  show JC _ _ _ [(6, .slice none 0 0), (7, Slc nb2 0 n cp1), (15, .slice ab n cb), (16, I64 ((n:Int))), (17, I64 ((i:Int)))] [⟨nb2, cu8 s ++ sp1, 5, (0, 0)⟩]
  refine JC_seq ?_
  refine JC_region ?_
  refine JL_val (.bool (decide (((i:Int)) < ((n:Int))))) (Ev_bini rfl rfl fun _ => bin_lss_i _ _) rfl ?_
  refine JL_nil ?_
  refine JQ_then ?_
  refine JC_seq ?_
  refine JC_cond (decide (((i:Int)) < ((n:Int)))) rfl (fun hb1 => ?_) (fun hb1 => ?_)
  ·
    have hp1 : ((i:Int)) < ((n:Int)) := of_decide_eq_true hb1
    refine JC_skip ?_
    refine JQ_then ?_
    refine JC_seq ?_
    refine JC_block ?_
    refine JC_seq ?_
    refine JC_region ?_
    refine JL_val _ (Ev_move rfl) rfl ?_
    obtain ⟨bz1, oz1, hz1, hm1⟩ := hr.pos (by rw [hb]; omega)
    refine JL_val (Ptr bz1 (i + oz1)) (Ev_indexSlG 5 1 (i + oz1) Try.underlying38 Try.sizeOf5 rfl hz1 rfl (by omega) (by omega) (by omega)) rfl ?_
    refine JL_val (U8 (g8 b i)) (Ev_load rfl (Ld_one Try.isAgg5 (MemAt.seg (MemAt.base hm1.1 hm1.2.1 hm1.2.2) (Seg.get (g8_get (i := i) (by rw [hb]; omega))) (by omega)))) rfl ?_
    refine JL_val _ (Ev_assign rfl) rfl ?_
    refine JL_val _ (Ev_assign rfl) rfl ?_
    refine JL_nil ?_
    refine JQ_then ?_
    refine JC_region ?_
    refine JL_val _ (Ev_move rfl) rfl ?_
    refine JL_val _ (Ev_move rfl) rfl ?_
    refine JL_val (Ptr nb2 i) (Ev_indexSl 5 1 i Try.underlying38 Try.sizeOf5 rfl rfl (by omega) (by omega) (by omega)) rfl ?_
    refine JL_val (U8 (g8 s i)) (Ev_load rfl (Ld_one Try.isAgg5 (MemAt.ent 0 rfl (Seg.left (Seg.get (g8_get (i := i) (by rw [hs]; omega))))))) rfl ?_
    refine JL_val _ (Ev_move rfl) rfl ?_
    refine JL_val (U8 ((g8 s i) ^^^ (g8 b i))) (Ev_bini rfl rfl fun _ => bin_xor_u8 (g8 s i) (g8 b i)) rfl ?_
    refine JL_val (Ptr nb2 i) (Ev_indexSl 5 1 i Try.underlying38 Try.sizeOf5 rfl rfl (by omega) (by omega) (by omega)) rfl ?_
    have hl1 : (s.set i ((g8 s i) ^^^ (g8 b i))).length = n := by simp [hs]
    refine JL_step (Step_store 0 nb2 i 1 (cu8 s ++ sp1) 5 (U8 ((g8 s i) ^^^ (g8 b i))) ([U8 ((g8 s i) ^^^ (g8 b i))]) (cu8 (s.set i ((g8 s i) ^^^ (g8 b i))) ++ sp1) rfl rfl rfl rfl Try.sizeOf5 rfl (by simp [Value.oneCell']) (by simp [hs, hc1]; try omega) (lay_left (p := cu8 s) (vs := [U8 ((g8 s i) ^^^ (g8 b i))]) (o := i) (by simp [hs]; omega) (lay8 _ _ _ (by rw [hs]; omega)))) rfl ?_
    rintro v1 L1 ⟨rfl, rfl⟩
    show JL _ _ _ _ _ [⟨nb2, cu8 (s.set i ((g8 s i) ^^^ (g8 b i))) ++ sp1, 5, (0, 0)⟩]
    refine JL_nil ?_
    refine JQ_in_normal ?_
    refine JQ_then ?_
    refine JC_region ?_
    refine JL_val (I64 ((i:Int) + 1)) (Ev_bini rfl rfl fun _ => bin_add_i _ _ ((i:Int) + 1) (by omega) (by omega)) rfl ?_
    refine JL_val _ (Ev_move rfl) rfl ?_
    refine JL_nil ?_
    refine JQ_thenK ?_
    refine K_next (i + 1, s.set i ((g8 s i) ^^^ (g8 b i))) ⟨by omega, by rw [xorN, ← hy2], hl1⟩ (by first | (simp; omega) | simp) (Sub.cons rfl (Sub.cons rfl (Sub.cons rfl (Sub.cons rfl (Sub.cons rfl (Sub.nil)))))) rfl
  ·
    have hp1 : ¬ (((i:Int)) < ((n:Int))) := of_decide_eq_false hb1
    refine JC_exit ?_
    refine JQ_then_exit ?_
    refine JQ_then_exit ?_
    refine JQ_in_same ?_
    refine JQ_then ?_
    refine JC_seq ?_
    refine JC_region ?_
    refine JL_val _ (Ev_move rfl) rfl ?_
    refine JL_val _ (Ev_assign rfl) rfl ?_
    refine JL_nil ?_
    refine JQ_then ?_
    refine JC_ret ?_
    refine JQ_ret (Slc nb2 0 n cp1) (res1 Try.results36 (RV_tmp rfl)) fun w1 hw1 => ?_
    have e1 : i = n := by omega
    subst e1
    rw [hy2] at hw1
    exact ⟨_, _, rfl, ⟨nb2, sp1, cp1, rfl, rfl, hc1, hc2, hc3⟩, hw1.sub (by simp) (by simp)⟩

end Go.Proofs.Ytncoifiafklkjaa
