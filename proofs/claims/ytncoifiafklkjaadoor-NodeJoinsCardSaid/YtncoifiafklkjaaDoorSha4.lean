import Derived.Test.YtncoifiafklkjaaDoorSha3
import Derived.Test.YtncoifiafklkjaaDoorSxR
namespace Go.Proofs.YtncoifiafklkjaaDoor
open Go Go.Sx
set_option linter.unusedVariables false
set_option linter.unusedSimpArgs false
set_option maxRecDepth 100000
attribute [local irreducible] mid zr8 zr32 rotr wordL spreadL comprL cpN adN spN wrdN constL initL padL stN outN routN hashL
theorem pad_w (ao : Option Addr) (n cb : Nat) (b : List UInt8) (w : World) (hb : b.length = n) (hcb : ao = none → cb = 0) (hn : n ≤ 17592186044416) (hr : RdB w [] ao b) : Calls Tryd.prog 26 #[.slice ao n cb] w (Post w [] (fun v L => ∃ g sp cap, v = Slc g 0 (padL b).length cap ∧ L = [⟨g, cu8 (padL b) ++ sp, 5, (0, 0)⟩] ∧ sp.length = cap - (padL b).length ∧ (padL b).length ≤ cap ∧ cap ≤ maxLen)) := by
  cases ao with
  | none =>
    obtain rfl : b = [] := by
      rcases hr with h | ⟨_, _, h, _⟩
      · exact h
      · cases h
    obtain rfl : n = 0 := hb.symm
    obtain rfl := hcb rfl
    exact padNil_c w
  | some a => exact pad_c (some a) n cb b w rfl hb hn hr

theorem chunk_c (gs N cap : Nat) (w : World) : Calls Tryd.prog 83 #[Slc gs 0 N cap, I64 (64:Int)] w (Post w [] (fun v L => ∃ b1 b2, v = .func (.func 113) #[] #[Ptr b1 0, Ptr b2 0] ∧ L = [⟨b1, [Slc gs 0 N cap], 22, (0, 0)⟩, ⟨b2, [I64 64], 3, (0, 0)⟩])) := by
  refine enter w [] 9 [] [Slc gs 0 N cap, I64 (64:Int)] Tryd.func83 rfl rfl (by simp) (Hp.start (by simp) (by simp) (by simp)) ?_
  show JC _ _ _ [(0, Slc gs 0 N cap), (1, I64 (64:Int))] _
  refine JC_seq ?_
  refine JC_region ?_
  refine JL_step (Step_box (Slc gs 0 N cap) ([Slc gs 0 N cap]) rfl rfl) rfl ?_
  rintro v1 L1 ⟨nb1, hnb1, rfl, rfl⟩
  show JL _ _ _ _ ((2, Ptr nb1 0) :: _) [⟨nb1, [Slc gs 0 N cap], 22, (0, 0)⟩]
  refine JL_step (Step_box (I64 (64:Int)) ([I64 (64:Int)]) rfl rfl) rfl ?_
  rintro v1 L1 ⟨nb2, hnb2, rfl, rfl⟩
  show JL _ _ _ _ ((3, Ptr nb2 0) :: _) [⟨nb1, [Slc gs 0 N cap], 22, (0, 0)⟩, ⟨nb2, [I64 (64:Int)], 3, (0, 0)⟩]
  refine JL_val _ (Ev_assign rfl) rfl ?_
  refine JL_nil ?_
  refine JQ_then ?_
  refine JC_seq ?_
  refine JC_seq ?_
  refine JC_region ?_
  refine JL_val (I64 (64:Int)) (Ev_load rfl (Ld_one Tryd.isAgg3 (MemAt.ent 1 rfl (Seg.head)))) rfl ?_
  refine JL_val (.bool (decide ((64:Int) < (1:Int)))) (Ev_bini rfl rfl fun _ => bin_lss_i _ _) rfl ?_
  refine JL_nil ?_
  refine JQ_then ?_
  refine JC_condF _ rfl (by decide) ?_
  refine JC_skip ?_
  refine JQ_then ?_
  refine JC_seq ?_
  refine JC_region ?_
  refine JL_val (.func (.func 113) #[] #[Ptr nb1 0, Ptr nb2 0]) (Ev_makeFunc (vs := [Ptr nb1 0, Ptr nb2 0]) rfl (fun _ _ => rfl)) rfl ?_
  refine JL_val _ (Ev_assign rfl) rfl ?_
  refine JL_nil ?_
  refine JQ_then ?_
  refine JC_ret ?_
  refine JQ_ret (.func (.func 113) #[] #[Ptr nb1 0, Ptr nb2 0]) (res1 Tryd.results83 (RV_tmp rfl)) fun w1 hw1 => ?_
  exact ⟨_, _, rfl, ⟨nb1, nb2, rfl, rfl⟩, hw1⟩

theorem chunk_it (b1 b2 gs N cap : Nat) (w0 : World) (hN : N % 64 = 0) (hc : N ≤ cap) (hm : cap ≤ maxLen) : Iter Tryd.prog 113 #[Ptr b1 0, Ptr b2 0] [⟨b1, [Slc gs 0 N cap], 22, (0, 0)⟩, ⟨b2, [I64 (64:Int)], 3, (0, 0)⟩] [] w0 (fun k => 64*k < N) (fun k => 64*k = N) (fun k => Slc gs (64*k) 64 64) := by
  intro l B W S X S0 hS0 hW hl0 hlM hRb hY
  refine enterI W ((([⟨b1, [Slc gs 0 N cap], 22, (0, 0)⟩, ⟨b2, [I64 (64:Int)], 3, (0, 0)⟩] : List Ent) ++ S0).map Ent.b) 31 ([⟨b1, [Slc gs 0 N cap], 22, (0, 0)⟩, ⟨b2, [I64 (64:Int)], 3, (0, 0)⟩] ++ S0) [.func (.yield l) #[] #[], Ptr b1 0, Ptr b2 0] Tryd.func113 rfl rfl (by simp) hW ?_
  have hm2 : cap ≤ 9223372036854775807 := by unfold maxLen at hm; omega
  show JC _ _ _ [(0, .func (.yield l) #[] #[]), (1, Ptr b1 0), (2, Ptr b2 0)] ([⟨b1, [Slc gs 0 N cap], 22, (0, 0)⟩, ⟨b2, [I64 (64:Int)], 3, (0, 0)⟩] ++ S0)
  refine JC_seq ?_
  refine JC_region ?_
  refine JL_val _ (Ev_assign rfl) rfl ?_
  refine JL_nil ?_
  refine JQ_then ?_
  refine JC_block ?_
  refine JC_loop (ι := Nat × List Ent) (fun ⟨k, Sk⟩ => [(0, .func (.yield l) #[] #[]), (1, Ptr b1 0), (2, Ptr b2 0), (4, I64 (64*(k:Int)))]) (fun ⟨k, Sk⟩ => [⟨b1, [Slc gs 0 N cap], 22, (0, 0)⟩, ⟨b2, [I64 (64:Int)], 3, (0, 0)⟩] ++ Sk) (fun ⟨k, Sk⟩ => k ≤ B ∧ S k Sk ∧ 64*k ≤ N) (fun ⟨k, Sk⟩ => B - k) (0, S0) ⟨by omega, hS0, by omega⟩ (Sub.cons rfl (Sub.cons rfl (Sub.cons rfl (Sub.cons rfl (Sub.nil))))) rfl ?_
  rintro ⟨k, Sk⟩ ⟨hx1, hx2, hx3⟩
  show JC _ _ _ [(0, .func (.yield l) #[] #[]), (1, Ptr b1 0), (2, Ptr b2 0), (4, I64 (64*(k:Int)))] ([⟨b1, [Slc gs 0 N cap], 22, (0, 0)⟩, ⟨b2, [I64 (64:Int)], 3, (0, 0)⟩] ++ Sk)
  refine JC_seq ?_
  refine JC_seq ?_
  refine JC_region ?_
  refine JL_val _ (Ev_move rfl) rfl ?_
  refine JL_val (Slc gs 0 N cap) (Ev_load rfl (Ld_one Tryd.isAgg22 (MemAt.ent 0 rfl (Seg.head)))) rfl ?_
  refine JL_val (I64 ((N:Int))) (Ev_len Tryd.underlying22 rfl) rfl ?_
  refine JL_val (.bool (decide ((64*(k:Int)) < ((N:Int))))) (Ev_bini rfl rfl fun _ => bin_lss_i _ _) rfl ?_
  refine JL_nil ?_
  refine JQ_then ?_
  refine JC_cond (decide ((64*(k:Int)) < ((N:Int)))) rfl (fun hb1 => ?_) (fun hb1 => ?_)
  ·
    have hp1 : (64*(k:Int)) < ((N:Int)) := of_decide_eq_true hb1
    refine JC_skip ?_
    refine JQ_then ?_
    refine JC_seq ?_
    refine JC_block ?_
    refine JC_seq ?_
    refine JC_draw 31 1 [(0, I64 (64:Int)), (1, Slc gs 0 N cap), (2, I64 (64*(k:Int))), (3, Slc gs (64*k) (N - 64*k) (cap - 64*k)), (4, I64 ((N:Int) - 64*(k:Int))), (5, I64 (64:Int)), (6, I64 (64:Int))] Tryd.mixed rfl (by decide +kernel) ?_
    refine DP_end ⟨[], [0, 1, 2, 3, 4, 5, 6], [], [0, 1, 2, 3, 4, 5, 6], []⟩ rfl rfl (by decide +kernel) rfl ⟨⟨_, rfl, Qok_val rfl (Ev_load rfl (Ld_one Tryd.isAgg3 (MemAt.ent 1 rfl (Seg.head))))⟩, ⟨_, rfl, Qok_val rfl (Ev_load rfl (Ld_one Tryd.isAgg22 (MemAt.ent 0 rfl (Seg.head))))⟩, ⟨_, rfl, Qok_val rfl (Ev_move rfl)⟩, ⟨_, rfl, Qok_val rfl (Ev_slice 5 1 (64*k) N (64*k) (cap - 64*k) Tryd.underlying22 Tryd.sizeOf5 rfl (some_i64 (by omega)) rfl (by omega) (by omega) (by omega) (by omega) (by omega) (N - 64*k) (by omega))⟩, ⟨_, rfl, Qok_val rfl (Ev_lenX Tryd.underlying22 rfl (by omega))⟩, ⟨_, rfl, Qok_val rfl (Ev_min rfl rfl (by have := of_decide_eq_true (decide_eq_true (by omega)); omega))⟩, ⟨_, rfl, Qok_val rfl (Ev_assign rfl)⟩, trivial⟩ ?_
    refine K_sub (F' := [(13, I64 (64:Int)), (14, Slc gs 0 N cap), (15, I64 (64*(k:Int))), (16, Slc gs (64*k) (N - 64*k) (cap - 64*k)), (17, I64 ((N:Int) - 64*(k:Int))), (18, I64 (64:Int)), (5, I64 (64:Int)), (0, .func (.yield l) #[] #[]), (1, Ptr b1 0), (2, Ptr b2 0), (4, I64 (64*(k:Int))), (6, I64 (64*(k:Int))), (7, Slc gs 0 N cap), (8, I64 ((N:Int))), (9, .bool (decide ((64*(k:Int)) < ((N:Int)))))]) (Sub.cons (by kernel_rfl) (Sub.cons (by kernel_rfl) (Sub.cons (by kernel_rfl) (Sub.cons (by kernel_rfl) (Sub.cons (by kernel_rfl) (Sub.cons (by kernel_rfl) (Sub.cons (by kernel_rfl) (Sub.cons (by kernel_rfl) (Sub.cons (by kernel_rfl) (Sub.cons (by kernel_rfl) (Sub.cons (by kernel_rfl) (Sub.cons (by kernel_rfl) (Sub.cons (by kernel_rfl) (Sub.cons (by kernel_rfl) (Sub.cons (by kernel_rfl) (Sub.nil)))))))))))))))) ?_
    show JQ _ _ _ [(13, I64 (64:Int)), (14, Slc gs 0 N cap), (15, I64 (64*(k:Int))), (16, Slc gs (64*k) (N - 64*k) (cap - 64*k)), (17, I64 ((N:Int) - 64*(k:Int))), (18, I64 (64:Int)), (5, I64 (64:Int)), (0, .func (.yield l) #[] #[]), (1, Ptr b1 0), (2, Ptr b2 0), (4, I64 (64*(k:Int))), (6, I64 (64*(k:Int))), (7, Slc gs 0 N cap), (8, I64 ((N:Int))), (9, .bool (decide ((64*(k:Int)) < ((N:Int)))))] _
    refine JQ_then ?_
    refine JC_seq ?_
    refine JC_region ?_
    refine JL_val _ (Ev_move rfl) rfl ?_
    refine JL_val (Slc gs 0 N cap) (Ev_load rfl (Ld_one Tryd.isAgg22 (MemAt.ent 0 rfl (Seg.head)))) rfl ?_
    refine JL_val _ (Ev_move rfl) rfl ?_
    refine JL_val _ (Ev_move rfl) rfl ?_
    refine JL_val _ (Ev_move rfl) rfl ?_
    refine JL_val (I64 (64*(k:Int) + 64)) (Ev_bini rfl rfl fun _ => bin_add_i _ _ (64*(k:Int) + 64) (by omega) (by omega)) rfl ?_
    refine JL_val _ (Ev_move rfl) rfl ?_
    refine JL_val _ (Ev_move rfl) rfl ?_
    refine JL_val (I64 (64*(k:Int) + 64)) (Ev_bini rfl rfl fun _ => bin_add_i _ _ (64*(k:Int) + 64) (by omega) (by omega)) rfl ?_
    refine JL_val (Slc gs (64*k) 64 64) (Ev_slice3 5 1 (64*k) (64*k + 64) (64*k + 64) (64*k) 64 64 Tryd.underlying22 Tryd.sizeOf5 rfl (some_i64 (by omega)) (some_i64 (by omega)) (some_i64 (by omega)) (by omega) (by omega) (by omega) (by omega) (by omega) (by omega) (by omega)) rfl ?_
    refine JL_yield l [Slc gs (64*k) 64 64] [⟨b1, [Slc gs 0 N cap], 22, (0, 0)⟩, ⟨b2, [I64 (64:Int)], 3, (0, 0)⟩] Sk (fun L' => k + 1 ≤ B ∧ S (k + 1) L') (X k) rfl rfl rfl hl0 hlM rfl (fun w1 hw1 => hY k Sk w1 (show 64*k < N by omega) hx1 hx2 (hw1.right)) ?_ ?_
    ·
      intro L1 ⟨hn1, hn2⟩
      show JL _ _ _ _ ((29, .bool true) :: _) ([⟨b1, [Slc gs 0 N cap], 22, (0, 0)⟩, ⟨b2, [I64 (64:Int)], 3, (0, 0)⟩] ++ L1)
      refine JL_val (.bool (!true)) (Ev_not rfl) rfl ?_
      refine JL_nil ?_
      refine JQ_then ?_
      refine JC_condF _ rfl rfl ?_
      refine JC_skip ?_
      refine JQ_in_normal ?_
      refine JQ_then ?_
      refine JC_region ?_
      refine JL_val _ (Ev_move rfl) rfl ?_
      refine JL_val (I64 (64:Int)) (Ev_load rfl (Ld_one Tryd.isAgg3 (MemAt.ent 1 rfl (Seg.head)))) rfl ?_
      refine JL_val (I64 (64*(k:Int) + 64)) (Ev_bini rfl rfl fun _ => bin_add_i _ _ (64*(k:Int) + 64) (by omega) (by omega)) rfl ?_
      refine JL_val _ (Ev_assign rfl) rfl ?_
      refine JL_nil ?_
      refine JQ_thenK ?_
      refine K_next (k + 1, L1) ⟨hn1, hn2, by omega⟩ (by first | (simp; omega) | simp) (Sub.cons rfl (Sub.cons rfl (Sub.cons rfl (Sub.cons (some_i64 (by omega)) (Sub.nil))))) rfl
    ·
      intro L1 o1 hx9
      show JL _ _ _ _ ((29, .bool false) :: _) ([⟨b1, [Slc gs 0 N cap], 22, (0, 0)⟩, ⟨b2, [I64 (64:Int)], 3, (0, 0)⟩] ++ L1)
      refine JL_val (.bool (!false)) (Ev_not rfl) rfl ?_
      refine JL_nil ?_
      refine JQ_then ?_
      refine JC_condT _ rfl rfl ?_
      refine JC_ret ?_
      refine JQ_in_ret ?_
      refine JQ_then_ret ?_
      refine JQ_then_ret ?_
      refine JQ_in_ret ?_
      refine JQ_retM0 (.tuple #[]) (res0 Tryd.results113 ) (fun w1 hw1 => ?_)
      exact ⟨⟨_, rfl⟩, .inr ⟨k, L1, o1, (show 64*k < N by omega), hx9, hw1.right⟩⟩
  ·
    have hp1 : ¬ ((64*(k:Int)) < ((N:Int))) := of_decide_eq_false hb1
    refine JC_exit ?_
    refine JQ_then_exit ?_
    refine JQ_then_exit ?_
    refine JQ_in_same ?_
    refine JQ_endM0 (.tuple #[]) (res0 Tryd.results113 ) (fun w1 hw1 => ?_)
    exact ⟨⟨_, rfl⟩, .inl ⟨k, Sk, (show 64*k = N by omega), hx2, hw1.right⟩⟩

theorem GLs.round {w W : World} {M S : List Nat} {l : Nat} {o : Obj} (h : GLs w) (hB : ∀ b, b < w.heap.size → b ∉ M → W.heap[b]? = w.heap[b]? ∧ b ∉ S ∧ b ≠ l) (h1 : 3 ∉ M := by simp) (h2 : 2 ∉ M := by simp) : GLs (W.putObj l o) ∧ 3 ∉ S ∧ 2 ∉ S := by
  have key : ∀ b vs, b ∉ M → RdA w b 0 vs → RdA (W.putObj l o) b 0 vs ∧ b ∉ S := by
    intro b vs hM hr
    obtain ⟨e1, e2, e3⟩ := hB b hr.1 hM
    have e4 : (W.putObj l o).heap[b]? = w.heap[b]? := (World.putObj_heap_other e3).trans e1
    refine ⟨⟨?_, fun j v hj => ?_⟩, e2⟩
    · have : w.heap[b]? ≠ none := by simp; exact hr.1
      rw [← e4] at this
      simp at this
      simpa using this
    · have := hr.2 j v hj
      simp only [World.cell?, e4] at this ⊢
      exact this
  exact ⟨⟨(key _ _ h1 h.1).1, (key _ _ h2 h.2).1⟩, (key _ _ h1 h.1).2, (key _ _ h2 h.2).2⟩

theorem sum_c (ao : Option Addr) (n cb : Nat) (b : List UInt8) (w : World) (hb : b.length = n) (hcb : ao = none → cb = 0) (hn : n ≤ 17592186044416) (hr : RdB w [] ao b) (hG : GLs w) : Calls Tryd.prog 23 #[.slice ao n cb] w (Post w [] (fun v L => v = .agg (cu8 (sumG constL initL b)).toArray ∧ L = [])) := by
  have hpm := pad_mod b
  refine enterM w [] 41 [] [.slice ao n cb] Tryd.func23 rfl rfl (by simp) (Hp.start (by simp) (by simp) (by simp)) ?_
  show JC _ _ _ [(0, .slice ao n cb)] _
  refine JC_seq ?_
  refine JC_region ?_
  refine JL_step (Step_alloc _ (cu8 (zr8 32)) Tryd.zeroValue25 (by kernel_rfl)) rfl ?_
  rintro v1 L1 ⟨nb1, hnb1, rfl, rfl⟩
  show JL _ _ _ _ ((2, Ptr nb1 0) :: _) [⟨nb1, cu8 (zr8 32), 25, (0, 0)⟩]
  refine JL_nil ?_
  refine JQ_then ?_
  refine JC_seq ?_
  refine JC_region ?_
  refine JL_val (.agg (cu32 initL).toArray) (Ev_load rfl (Ld_agg Tryd.isAgg31 Tryd.sizeOf31 (len_cu32 initL_len) (MemAt.seg (hG.2.mem (by simp)) (Seg.whole _) (by omega)))) rfl ?_
  refine JL_step (Step_alloc _ (cu32 (zr32 8)) Tryd.zeroValue31 (by kernel_rfl)) rfl ?_
  rintro v1 L1 ⟨nb2, hnb2, rfl, rfl⟩
  show JL _ _ _ _ ((3, Ptr nb2 0) :: _) [⟨nb1, cu8 (zr8 32), 25, (0, 0)⟩, ⟨nb2, cu32 (zr32 8), 31, (0, 0)⟩]
  refine JL_step (Step_store 1 nb2 0 8 (cu32 (zr32 8)) 31 (.agg (cu32 initL).toArray) (cu32 initL) (cu32 initL) rfl rfl rfl (by first | rfl | simp) Tryd.sizeOf31 (len_cu32 initL_len) (by first | exact one_u8 | exact one_u32 | exact one_u64 | (simp [cu8, cu32, cu64, Value.oneCell']; done)) (by simp [(zr32_len 8)]) (lay_whole (by simp [(zr32_len 8), initL_len]))) rfl ?_
  rintro v1 L1 ⟨rfl, rfl⟩
  show JL _ _ _ _ _ [⟨nb1, cu8 (zr8 32), 25, (0, 0)⟩, ⟨nb2, cu32 initL, 31, (0, 0)⟩]
  refine JL_nil ?_
  refine JQ_then ?_
  refine JC_seq ?_
  refine JC_seq ?_
  refine JC_region ?_
  refine JL_val _ (Ev_move rfl) rfl ?_
  refine JL_step (Step_callN 26 [.slice ao n cb] _ (Cl_func [.slice ao n cb] Tryd.call26 rfl) (fun w1 hw1 => pad_w ao n cb b w1 hb hcb (by omega) (hr.at (M' := []) hw1 (by simp)))) rfl ?_
  rintro v1 L1 ⟨_, ⟨nb3, sp1, cp1, rfl, rfl, hc1, hc2, hc3⟩, rfl⟩
  show JL _ _ _ _ ((10, Slc nb3 0 ((padL b).length) cp1) :: _) [⟨nb1, cu8 (zr8 32), 25, (0, 0)⟩, ⟨nb2, cu32 initL, 31, (0, 0)⟩, ⟨nb3, cu8 (padL b) ++ sp1, 5, (0, 0)⟩]
  refine JL_step (Step_callN 83 [Slc nb3 0 ((padL b).length) cp1, I64 (64:Int)] _ (Cl_func [Slc nb3 0 ((padL b).length) cp1, I64 (64:Int)] Tryd.call83 rfl) (fun w1 hw1 => chunk_c nb3 ((padL b).length) cp1 w1)) rfl ?_
  rintro v1 L1 ⟨_, ⟨nb4, nb5, rfl, rfl⟩, rfl⟩
  show JL _ _ _ _ ((11, .func (.func 113) #[] #[Ptr nb4 0, Ptr nb5 0]) :: _) [⟨nb1, cu8 (zr8 32), 25, (0, 0)⟩, ⟨nb2, cu32 initL, 31, (0, 0)⟩, ⟨nb3, cu8 (padL b) ++ sp1, 5, (0, 0)⟩, ⟨nb4, [Slc nb3 0 ((padL b).length) cp1], 22, (0, 0)⟩, ⟨nb5, [I64 (64:Int)], 3, (0, 0)⟩]
  refine JL_nil ?_
  refine JQ_then ?_
  refine JC_block ?_
  refine K_sub (F' := [(2, Ptr nb1 0), (3, Ptr nb2 0), (11, .func (.func 113) #[] #[Ptr nb4 0, Ptr nb5 0])]) (Sub.cons rfl (Sub.cons rfl (Sub.cons rfl (Sub.nil)))) ?_
  refine K_pick [0, 2, 3, 4, 1] (by decide) ?_
  show JC _ _ _ _ [⟨nb1, cu8 (zr8 32), 25, (0, 0)⟩, ⟨nb3, cu8 (padL b) ++ sp1, 5, (0, 0)⟩, ⟨nb4, [Slc nb3 0 ((padL b).length) cp1], 22, (0, 0)⟩, ⟨nb5, [I64 (64:Int)], 3, (0, 0)⟩, ⟨nb2, cu32 initL, 31, (0, 0)⟩]
  refine JC_range [⟨nb1, cu8 (zr8 32), 25, (0, 0)⟩, ⟨nb3, cu8 (padL b) ++ sp1, 5, (0, 0)⟩] [⟨nb4, [Slc nb3 0 ((padL b).length) cp1], 22, (0, 0)⟩, ⟨nb5, [I64 (64:Int)], 3, (0, 0)⟩] [⟨nb2, cu32 initL, 31, (0, 0)⟩] [] (fun k => 64*k < (padL b).length) (fun k => 64*k = (padL b).length) (fun k => Slc nb3 (64*k) 64 64) ((padL b).length / 64) (fun k L => k ≤ (padL b).length / 64 ∧ L = [⟨nb2, cu32 (stN constL initL (padL b) k), 31, (0, 0)⟩]) (fun k c L => False) rfl rfl rfl Tryd.call113 (List.Perm.refl _) rfl ⟨by omega, by rw [stN]⟩ (by simp) (fun w1 hw1 => chunk_it nb4 nb5 _ _ _ w1 (pad_mod b) hc2 hc3) ?_ ?_ ?_
  ·
    intro l rb k Sk W1 hgo hkB hSk hl0 hlM hA hB hle
    have hA0 := hA _ (List.mem_of_getElem? (i := 0) rfl)
    have hA1 := hA _ (List.mem_of_getElem? (i := 1) rfl)
    obtain ⟨hx1, rfl⟩ := hSk
    have hG2 := hG.round (o := rb) hB
    show JC _ _ _ _ [⟨nb2, cu32 (stN constL initL (padL b) k), 31, (0, 0)⟩]
    refine JC_region ?_
    refine JL_val _ (Ev_assign rfl) rfl ?_
    refine JL_nil ?_
    refine JQ_begin hl0 hlM ?_
    show JC _ _ _ _ [⟨nb2, cu32 (stN constL initL (padL b) k), 31, (0, 0)⟩]
    refine JC_block ?_
    have hl1 : (mid (padL b) (64*k) 64).length = 64 := mid_len (by rw [(rfl : (padL b).length = _)]; omega)
    refine JC_draw 41 3 [(0, .agg (cu32 (stN constL initL (padL b) k)).toArray), (1, Slc nb3 (64*k) 64 64), (2, Ptr nb3 (64*k)), (3, .agg (cu8 (mid (padL b) (64*k) 64)).toArray)] Tryd.mixed rfl (by decide +kernel) ?_
    have hl2 : (mid (padL b) (64*k) 64).length = 64 := mid_len (by rw [(rfl : (padL b).length = _)]; omega)
    refine DP_one ⟨[], [0, 1, 2, 3], [], [0, 1, 2, 3], [4]⟩ 4 _ rfl rfl (by decide +kernel) rfl ⟨⟨_, rfl, Qok_val rfl (Ev_load rfl (Ld_agg Tryd.isAgg31 Tryd.sizeOf31 (len_cu32 (stN_len initL_len k)) (MemAt.ent 0 rfl (Seg.whole _))))⟩, ⟨_, rfl, Qok_val rfl (Ev_move rfl)⟩, ⟨_, rfl, Qok_val rfl (Ev_s2ap 64 Tryd.underlying32 rfl (by omega))⟩, ⟨_, rfl, Qok_val rfl (Ev_load rfl (Ld_agg Tryd.isAgg32 Tryd.sizeOf32 (len_cu8 hl2) (MemAt.seg (MemAt.heap ((World.putObj_heap_other hA1.2.2).trans hA1.1) hA1.2.1) (Seg.left (segm_u8 (64*k) 64 (by rw [(rfl : (padL b).length = _)]; omega))) (by omega))))⟩, trivial⟩ rfl (Cok_step rfl (Step_callP 28 [.agg (cu32 (stN constL initL (padL b) k)).toArray, .agg (cu8 (mid (padL b) (64*k) 64)).toArray] (.agg (cu32 (comprL constL (stN constL initL (padL b) k) (mid (padL b) (64*k) 64))).toArray) (Cl_func [.agg (cu32 (stN constL initL (padL b) k)).toArray, .agg (cu8 (mid (padL b) (64*k) 64)).toArray] Tryd.call28 rfl) (fun w1 hw1 => compress_c (stN constL initL (padL b) k) (mid (padL b) (64*k) 64) w1 (stN_len initL_len k) hl1 (hG2.1.at hw1 hG2.2.1 hG2.2.2)))) ?_
    rintro v1 L1 ⟨rfl, rfl⟩
    refine ⟨[], ?_⟩
    show DP _ _ _ _ _ _ _ _ [⟨nb2, cu32 (stN constL initL (padL b) k), 31, (0, 0)⟩]
    refine DP_one ⟨[4], [0, 1, 2, 3], [0, 1, 2, 3], [], [5]⟩ 5 _ rfl rfl (by decide +kernel) rfl trivial rfl (Cok_step rfl (Step_store 0 nb2 0 8 (cu32 (stN constL initL (padL b) k)) 31 (.agg (cu32 (comprL constL (stN constL initL (padL b) k) (mid (padL b) (64*k) 64))).toArray) (cu32 (comprL constL (stN constL initL (padL b) k) (mid (padL b) (64*k) 64))) (cu32 (comprL constL (stN constL initL (padL b) k) (mid (padL b) (64*k) 64))) rfl rfl rfl (by first | rfl | simp) Tryd.sizeOf31 (len_cu32 (comprL_len (stN_len initL_len k))) (by first | exact one_u8 | exact one_u32 | exact one_u64 | (simp [cu8, cu32, cu64, Value.oneCell']; done)) (by simp [(stN_len initL_len k)]) (lay_whole (by simp [(stN_len initL_len k), (comprL_len (stN_len initL_len k))])))) ?_
    rintro v1 L1 ⟨rfl, rfl⟩
    refine ⟨[], ?_⟩
    show DP _ _ _ _ _ _ _ _ [⟨nb2, cu32 (comprL constL (stN constL initL (padL b) k) (mid (padL b) (64*k) 64)), 31, (0, 0)⟩]
    refine DP_end ⟨[4, 5], [0, 1, 2, 3], [0, 1, 2, 3], [], []⟩ rfl rfl (by decide +kernel) rfl trivial ?_
    refine K_sub (F' := [(2, Ptr nb1 0)]) (Sub.cons (by kernel_rfl) (Sub.nil)) ?_
    show JQ _ _ _ [(2, Ptr nb1 0)] _
    refine JQ_in_normal ?_
    refine JQ_bodyN ⟨by omega, by omega, by rw [stN]⟩
  ·
    intro D k L' W' hf hX hw' hD hDle
    obtain ⟨hx1, rfl⟩ := hX
    show JQ _ _ _ _ [⟨nb1, cu8 (zr8 32), 25, (0, 0)⟩, ⟨nb3, cu8 (padL b) ++ sp1, 5, (0, 0)⟩, ⟨nb2, cu32 (stN constL initL (padL b) k), 31, (0, 0)⟩]
    refine JQ_in_normal ?_
    refine JQ_then ?_
    refine JC_seq ?_
    refine JC_region ?_
    refine JL_step (Step_alloc _ (cu8 (zr8 32)) Tryd.zeroValue25 (by kernel_rfl)) rfl ?_
    rintro v1 L1 ⟨nb6, hnb6, rfl, rfl⟩
    show JL _ _ _ _ ((5, Ptr nb6 0) :: _) [⟨nb1, cu8 (zr8 32), 25, (0, 0)⟩, ⟨nb3, cu8 (padL b) ++ sp1, 5, (0, 0)⟩, ⟨nb2, cu32 (stN constL initL (padL b) k), 31, (0, 0)⟩, ⟨nb6, cu8 (zr8 32), 25, (0, 0)⟩]
    refine JL_nil ?_
    refine JQ_then ?_
    refine JC_seq ?_
    refine JC_seq ?_
    refine JC_region ?_
    refine JL_val (.agg (cu32 (stN constL initL (padL b) k)).toArray) (Ev_load rfl (Ld_agg Tryd.isAgg31 Tryd.sizeOf31 (len_cu32 (stN_len initL_len k)) (MemAt.ent 2 rfl (Seg.whole _)))) rfl ?_
    refine JL_val _ (Ev_move rfl) rfl ?_
    refine JL_nil ?_
    refine JQ_then ?_
    refine JC_block ?_
    refine K_mask [true, false, false, true] ?_
    show JC _ _ _ _ [⟨nb1, cu8 (zr8 32), 25, (0, 0)⟩, ⟨nb6, cu8 (zr8 32), 25, (0, 0)⟩]
    refine JC_loop (ι := Nat × List UInt8) (fun ⟨i, o⟩ => [(2, Ptr nb1 0), (5, Ptr nb6 0), (18, .agg (cu32 (stN constL initL (padL b) k)).toArray), (19, I64 ((i:Int)))]) (fun ⟨i, o⟩ => [⟨nb1, cu8 (zr8 32), 25, (0, 0)⟩, ⟨nb6, cu8 o, 25, (0, 0)⟩]) (fun ⟨i, o⟩ => i ≤ 8 ∧ o = outN (stN constL initL (padL b) k) i ∧ o.length = 32) (fun ⟨i, o⟩ => 8 - i) (0, zr8 32) ⟨by omega, by rw [outN], zr8_len 32⟩ (Sub.cons rfl (Sub.cons rfl (Sub.cons rfl (Sub.cons rfl (Sub.nil))))) rfl ?_
    rintro ⟨i, o⟩ ⟨hz1, hz2, ho⟩
    show JC _ _ _ [(2, Ptr nb1 0), (5, Ptr nb6 0), (18, .agg (cu32 (stN constL initL (padL b) k)).toArray), (19, I64 ((i:Int)))] [⟨nb1, cu8 (zr8 32), 25, (0, 0)⟩, ⟨nb6, cu8 o, 25, (0, 0)⟩]
    refine JC_seq ?_
    refine JC_region ?_
    refine JL_val (.bool (decide (((i:Int)) < (8:Int)))) (Ev_bini rfl rfl fun _ => bin_lss_i _ _) rfl ?_
    refine JL_nil ?_
    refine JQ_then ?_
    refine JC_seq ?_
    refine JC_cond (decide (((i:Int)) < (8:Int))) rfl (fun hb1 => ?_) (fun hb1 => ?_)
    ·
      have hp1 : ((i:Int)) < (8:Int) := of_decide_eq_true hb1
      refine JC_skip ?_
      refine JQ_then ?_
      refine JC_seq ?_
      refine JC_block ?_
      refine JC_seq ?_
      refine JC_region ?_
      refine JL_val _ (Ev_move rfl) rfl ?_
      refine JL_val (U32 (g32 (stN constL initL (padL b) k) i)) (Ev_index1 8 30 _ Tryd.underlying31 Tryd.isAgg30 Tryd.sizeOf30 rfl rfl (by omega) (by omega) (Seg.get1 (Seg.get (g32_get (i := i) (by rw [(stN_len initL_len k)]; omega))) (by omega))) rfl ?_
      refine JL_val _ (Ev_assign rfl) rfl ?_
      refine JL_val _ (Ev_assign rfl) rfl ?_
      refine JL_nil ?_
      refine JQ_then ?_
      refine JC_region ?_
      refine JL_val _ (Ev_move rfl) rfl ?_
      refine JL_val (I64 (4*(i:Int))) (Ev_bini rfl rfl fun _ => bin_mul_i _ _ (4*(i:Int)) (by omega) (by omega)) rfl ?_
      refine JL_val (Slc nb6 (4*i) (32 - 4*i) (32 - 4*i)) (Ev_sliceA 32 5 1 (4*i) 32 (4*i) (32 - 4*i) Tryd.underlying25 Tryd.sizeOf5 rfl (some_i64 (by omega)) rfl (by omega) (by omega) (by omega) (by omega) (by omega) (32 - 4*i) (by omega)) rfl ?_
      refine JL_val _ (Ev_move rfl) rfl ?_
      refine JL_val (U32 ((g32 (stN constL initL (padL b) k) i) >>> (24:UInt32))) (Ev_bini rfl rfl fun _ => bin_shr_u32 (g32 (stN constL initL (padL b) k) i) _ _ 24 (by decide) rfl) rfl ?_
      refine JL_val (U8 (((g32 (stN constL initL (padL b) k) i) >>> (24:UInt32)).toUInt8)) (Ev_conv _ _ rfl fun _ => conv_u32_u8 (by rw [Tryd.underlying30]; rfl) Tryd.underlying5 _) rfl ?_
      refine JL_val _ (Ev_move rfl) rfl ?_
      refine JL_val (U32 ((g32 (stN constL initL (padL b) k) i) >>> (16:UInt32))) (Ev_bini rfl rfl fun _ => bin_shr_u32 (g32 (stN constL initL (padL b) k) i) _ _ 16 (by decide) rfl) rfl ?_
      refine JL_val (U8 (((g32 (stN constL initL (padL b) k) i) >>> (16:UInt32)).toUInt8)) (Ev_conv _ _ rfl fun _ => conv_u32_u8 (by rw [Tryd.underlying30]; rfl) Tryd.underlying5 _) rfl ?_
      refine JL_val _ (Ev_move rfl) rfl ?_
      refine JL_val (U32 ((g32 (stN constL initL (padL b) k) i) >>> (8:UInt32))) (Ev_bini rfl rfl fun _ => bin_shr_u32 (g32 (stN constL initL (padL b) k) i) _ _ 8 (by decide) rfl) rfl ?_
      refine JL_val (U8 (((g32 (stN constL initL (padL b) k) i) >>> (8:UInt32)).toUInt8)) (Ev_conv _ _ rfl fun _ => conv_u32_u8 (by rw [Tryd.underlying30]; rfl) Tryd.underlying5 _) rfl ?_
      refine JL_val _ (Ev_move rfl) rfl ?_
      refine JL_val (U8 ((g32 (stN constL initL (padL b) k) i).toUInt8)) (Ev_conv _ _ rfl fun _ => conv_u32_u8 (by rw [Tryd.underlying30]; rfl) Tryd.underlying5 _) rfl ?_
      refine JL_step (Step_buildSlice 5 1 _ [(0, U8 (((g32 (stN constL initL (padL b) k) i) >>> (24:UInt32)).toUInt8)), (1, U8 (((g32 (stN constL initL (padL b) k) i) >>> (16:UInt32)).toUInt8)), (2, U8 (((g32 (stN constL initL (padL b) k) i) >>> (8:UInt32)).toUInt8)), (3, U8 ((g32 (stN constL initL (padL b) k) i).toUInt8))] (cu8 ([((g32 (stN constL initL (padL b) k) i) >>> (24:UInt32)).toUInt8, ((g32 (stN constL initL (padL b) k) i) >>> (16:UInt32)).toUInt8, ((g32 (stN constL initL (padL b) k) i) >>> (8:UInt32)).toUInt8, (g32 (stN constL initL (padL b) k) i).toUInt8])) Tryd.underlying22 Tryd.sizeOf5 Tryd.zeroValue5 rfl rfl rfl (by kernel_rfl)) rfl ?_
      rintro v1 L1 ⟨nb7, hnb7, rfl, rfl⟩
      show JL _ _ _ _ ((37, Slc nb7 0 4 4) :: _) [⟨nb1, cu8 (zr8 32), 25, (0, 0)⟩, ⟨nb6, cu8 o, 25, (0, 0)⟩, ⟨nb7, cu8 ([((g32 (stN constL initL (padL b) k) i) >>> (24:UInt32)).toUInt8, ((g32 (stN constL initL (padL b) k) i) >>> (16:UInt32)).toUInt8, ((g32 (stN constL initL (padL b) k) i) >>> (8:UInt32)).toUInt8, (g32 (stN constL initL (padL b) k) i).toUInt8]), 5, (0, 0)⟩]
      have hl3 : (spl o (4*i) ([((g32 (stN constL initL (padL b) k) i) >>> (24:UInt32)).toUInt8, ((g32 (stN constL initL (padL b) k) i) >>> (16:UInt32)).toUInt8, ((g32 (stN constL initL (padL b) k) i) >>> (8:UInt32)).toUInt8, (g32 (stN constL initL (padL b) k) i).toUInt8])).length = 32 := by rw [spl_len (by simp [ho]; omega)]; simp [ho]
      refine JL_step (Step_copy 22 22 5 1 nb6 (4*i) (32 - 4*i) (32 - 4*i) (cu8 o) 25 (some ⟨nb7, 0, none⟩) 4 4 4 (cu8 ([((g32 (stN constL initL (padL b) k) i) >>> (24:UInt32)).toUInt8, ((g32 (stN constL initL (padL b) k) i) >>> (16:UInt32)).toUInt8, ((g32 (stN constL initL (padL b) k) i) >>> (8:UInt32)).toUInt8, (g32 (stN constL initL (padL b) k) i).toUInt8])) (cu8 (spl o (4*i) ([((g32 (stN constL initL (padL b) k) i) >>> (24:UInt32)).toUInt8, ((g32 (stN constL initL (padL b) k) i) >>> (16:UInt32)).toUInt8, ((g32 (stN constL initL (padL b) k) i) >>> (8:UInt32)).toUInt8, (g32 (stN constL initL (padL b) k) i).toUInt8]))) Tryd.underlying22 Tryd.size1_5 rfl rfl rfl (Nat.min_eq_left (by omega)) (by simp) (SrcAt.mem (MemAt.ent 2 rfl (Seg.whole _))) (by simp [ho]; try omega) (by first | exact one_u8 | exact one_u32 | exact one_u64 | (simp [cu8, cu32, cu64, Value.oneCell']; done)) (laySpl8 _ _ _ (by simp [ho]; omega))) rfl ?_
      rintro v1 L1 ⟨rfl, rfl⟩
      show JL _ _ _ _ ((38, I64 (4:Int)) :: _) [⟨nb1, cu8 (zr8 32), 25, (0, 0)⟩, ⟨nb6, cu8 (spl o (4*i) ([((g32 (stN constL initL (padL b) k) i) >>> (24:UInt32)).toUInt8, ((g32 (stN constL initL (padL b) k) i) >>> (16:UInt32)).toUInt8, ((g32 (stN constL initL (padL b) k) i) >>> (8:UInt32)).toUInt8, (g32 (stN constL initL (padL b) k) i).toUInt8])), 25, (0, 0)⟩, ⟨nb7, cu8 ([((g32 (stN constL initL (padL b) k) i) >>> (24:UInt32)).toUInt8, ((g32 (stN constL initL (padL b) k) i) >>> (16:UInt32)).toUInt8, ((g32 (stN constL initL (padL b) k) i) >>> (8:UInt32)).toUInt8, (g32 (stN constL initL (padL b) k) i).toUInt8]), 5, (0, 0)⟩]
      refine JL_nil ?_
      refine JQ_in_normal ?_
      refine JQ_then ?_
      refine JC_region ?_
      refine JL_val (I64 ((i:Int) + 1)) (Ev_bini rfl rfl fun _ => bin_add_i _ _ ((i:Int) + 1) (by omega) (by omega)) rfl ?_
      refine JL_val _ (Ev_move rfl) rfl ?_
      refine JL_nil ?_
      refine JQ_thenK ?_
      refine K_mask [true, true, false] ?_
      show K _ _ [⟨nb1, cu8 (zr8 32), 25, (0, 0)⟩, ⟨nb6, cu8 (spl o (4*i) ([((g32 (stN constL initL (padL b) k) i) >>> (24:UInt32)).toUInt8, ((g32 (stN constL initL (padL b) k) i) >>> (16:UInt32)).toUInt8, ((g32 (stN constL initL (padL b) k) i) >>> (8:UInt32)).toUInt8, (g32 (stN constL initL (padL b) k) i).toUInt8])), 25, (0, 0)⟩] _
      refine K_next (i + 1, spl o (4*i) ([((g32 (stN constL initL (padL b) k) i) >>> (24:UInt32)).toUInt8, ((g32 (stN constL initL (padL b) k) i) >>> (16:UInt32)).toUInt8, ((g32 (stN constL initL (padL b) k) i) >>> (8:UInt32)).toUInt8, (g32 (stN constL initL (padL b) k) i).toUInt8])) ⟨by omega, by rw [outN, ← hz2], hl3⟩ (by first | (simp; omega) | simp) (Sub.cons rfl (Sub.cons rfl (Sub.cons rfl (Sub.cons rfl (Sub.nil))))) rfl
    ·
      have hp1 : ¬ (((i:Int)) < (8:Int)) := of_decide_eq_false hb1
      refine JC_exit ?_
      refine JQ_then_exit ?_
      refine JQ_then_exit ?_
      refine JQ_in_same ?_
      refine JQ_then ?_
      refine JC_seq ?_
      refine JC_region ?_
      refine JL_val (.agg (cu8 o).toArray) (Ev_load rfl (Ld_agg Tryd.isAgg25 Tryd.sizeOf25 (len_cu8 ho) (MemAt.ent 1 rfl (Seg.whole _)))) rfl ?_
      refine JL_step (Step_store 0 nb1 0 32 (cu8 (zr8 32)) 25 (.agg (cu8 o).toArray) (cu8 o) (cu8 o) rfl rfl rfl (by first | rfl | simp) Tryd.sizeOf25 (len_cu8 ho) (by first | exact one_u8 | exact one_u32 | exact one_u64 | (simp [cu8, cu32, cu64, Value.oneCell']; done)) (by simp [(zr8_len 32)]) (lay_whole (by simp [(zr8_len 32), ho]))) rfl ?_
      rintro v1 L1 ⟨rfl, rfl⟩
      show JL _ _ _ _ _ [⟨nb1, cu8 o, 25, (0, 0)⟩, ⟨nb6, cu8 o, 25, (0, 0)⟩]
      refine JL_nil ?_
      refine JQ_then ?_
      refine JC_ret ?_
      refine JQ_retM D (.agg (cu8 o).toArray) rfl hD rfl hw'.here (fun _ => (res1 Tryd.results23 (RV_cell rfl (Ld_agg Tryd.isAgg25 Tryd.sizeOf25 (len_cu8 ho) (MemAt.ent 0 rfl (Seg.whole _)))))) (fun w1 hw1 => ?_)
      have hw1 := hw'.fin hD hDle hw1 (.deferred none)
      have e1 : i = 8 := by omega
      subst e1
      have e2 : k = (padL b).length / 64 := by have : 64*k = (padL b).length := hf; omega
      refine ⟨_, [], rfl, ⟨?_, rfl⟩, hw1.sub (by simp) (by simp)⟩
      rw [sumG, ← outN_hash, hz2, e2]
  ·
    intro D k c L' W' hgo hX
    exact hX.elim

end Go.Proofs.YtncoifiafklkjaaDoor
