import Derived.Test.YtncoifiafklkjaaFx
import Derived.Test.YtncoifiafklkjaaSxL
import Derived.Test.YtncoifiafklkjaaCtr2
namespace Go.Proofs.Ytncoifiafklkjaa
open Go Go.Sx
set_option linter.unusedVariables false
set_option linter.unusedSimpArgs false
set_option maxRecDepth 100000
attribute [local irreducible] mid zr8 rkeysL rencL encL decL rkL thereL backL nextL rnextL strT
def rctrN (c : List UInt8) : Nat → List UInt8
  | 0 => c
  | k + 1 => rnextL (rctrN c k) 1
theorem rctrN_eq {c : List UInt8} (hc : c.length = 16) : ∀ k, rctrN c k = ctrN c k
  | 0 => rfl
  | k + 1 => by rw [rctrN, ctrN, rctrN_eq hc k, next_rnext (ctrN_len hc k)]
theorem rctrN_len {c : List UInt8} (hc : c.length = 16) (k : Nat) : (rctrN c k).length = 16 := by rw [rctrN_eq hc, ctrN_len hc]
def rBlk (ks c : List UInt8) (k : Nat) : List UInt8 := rencL ks (rctrN c k)
theorem rBlk_len {ks c : List UInt8} (hc : c.length = 16) (k : Nat) : (rBlk ks c k).length = 16 := rencL_len _ _ (rctrN_len hc k)
theorem rBlk_eBlk {key c : List UInt8} (hk : key.length = 16) (hc : c.length = 16) (k : Nat) : eBlk (rkL key) c k = rBlk (rkeysL key) c k := by
  rw [eBlk, rBlk, rctrN_eq hc, renc_enc _ _ hk (ctrN_len hc k)]
theorem str_rstr {key c : List UInt8} (hk : key.length = 16) (hc : c.length = 16) (n : Nat) : strT (eBlk (rkL key) c) n = strT (rBlk (rkeysL key) c) n := strT_congr (rBlk_eBlk hk hc) n

theorem rstream0_c (v0 : Value) (c : List UInt8) (w : World) (hc : c.length = 16) : Calls Try.prog 35 #[v0, .agg (cu8 c).toArray, I64 (0:Int)] w (Post w [] (fun v L => v = .slice none 0 0 ∧ L = [])) := by
  refine enter w [] 24 [] [v0, .agg (cu8 c).toArray, I64 (0:Int)] Try.func35 rfl rfl (by simp) (Hp.start (by simp) (by simp) (by simp)) ?_
  show JC _ _ _ [(0, v0), (1, .agg (cu8 c).toArray), (2, I64 (0:Int))] _
  refine JC_seq ?_
  refine JC_region ?_
  refine JL_step (Step_box (.agg (cu8 c).toArray) (cu8 c) rfl (by first | rfl | simp)) rfl ?_
  rintro v1 L1 ⟨nb1, hnb1, rfl, rfl⟩
  show JL _ _ _ _ ((4, Ptr nb1 0) :: _) [⟨nb1, cu8 c, 27, (0, 0)⟩]
  refine JL_val _ (Ev_assign rfl) rfl ?_
  refine JL_nil ?_
  refine JQ_then ?_
  refine JC_seq ?_
  refine JC_region ?_
  refine JL_val _ (Ev_assign rfl) rfl ?_
  refine JL_nil ?_
  refine JQ_then ?_
  refine JC_seq ?_
  refine JC_block ?_
  refine JC_loop (ι := Unit) (fun _ => [(0, v0), (2, I64 (0:Int)), (4, Ptr nb1 0), (6, .slice none 0 0), (7, .slice none 0 0)]) (fun _ => [⟨nb1, cu8 c, 27, (0, 0)⟩]) (fun _ => True) (fun _ => 0) () trivial (Sub.cons rfl (Sub.cons rfl (Sub.cons rfl (Sub.cons rfl (Sub.cons rfl (Sub.nil)))))) rfl ?_
  rintro _ hx
  show JC _ _ _ [(0, v0), (2, I64 (0:Int)), (4, Ptr nb1 0), (6, .slice none 0 0), (7, .slice none 0 0)] [⟨nb1, cu8 c, 27, (0, 0)⟩]
  refine JC_seq ?_
  refine JC_seq ?_
  refine JC_region ?_
  refine JL_val _ (Ev_move rfl) rfl ?_
  refine JL_val (I64 (0:Int)) (Ev_len Try.underlying38 rfl) rfl ?_
  refine JL_val _ (Ev_move rfl) rfl ?_
  refine JL_val (.bool (decide ((0:Int) < (0:Int)))) (Ev_bini rfl rfl fun _ => bin_lss_i _ _) rfl ?_
  refine JL_nil ?_
  refine JQ_then ?_
  refine JC_condF _ rfl (by decide) ?_
  refine JC_exit ?_
  refine JQ_then_exit ?_
  refine JQ_then_exit ?_
  refine JQ_in_same ?_
  refine JQ_then ?_
  refine JC_seq ?_
  refine JC_region ?_
  refine JL_val _ (Ev_move rfl) rfl ?_
  refine JL_val _ (Ev_move rfl) rfl ?_
  refine JL_val (.slice none 0 0) (Ev_sliceNil 5 1 Try.underlying38 Try.sizeOf5 rfl trivial rfl) rfl ?_
  refine JL_val _ (Ev_assign rfl) rfl ?_
  refine JL_nil ?_
  refine JQ_then ?_
  refine JC_ret ?_
  refine JQ_ret (.slice none 0 0) (res1 Try.results35 (RV_tmp rfl)) fun w1 hw1 => ?_
  exact ⟨_, [], rfl, ⟨rfl, rfl⟩, hw1.sub (by simp) (by simp)⟩

theorem rstream_c (ks c : List UInt8) (kc kcap n : Nat) (w : World) (hc : c.length = 16) (hn0 : 0 < n) (hn : n ≤ 65536) (hks : ks.length = 176) (hm : RdA w kc 0 (cu8 ks)) : Calls Try.prog 35 #[Slc kc 0 176 kcap, .agg (cu8 c).toArray, I64 ((n:Int))] w (Post w [] (fun v L => ∃ g sp cap, v = Slc g 0 n cap ∧ L = [⟨g, cu8 (strT (rBlk ks c) n) ++ sp, 5, (0, 0)⟩] ∧ sp.length = cap - n ∧ n ≤ cap ∧ cap ≤ maxLen)) := by
  refine enter w [] 24 [] [Slc kc 0 176 kcap, .agg (cu8 c).toArray, I64 ((n:Int))] Try.func35 rfl rfl (by simp) (Hp.start (by simp) (by simp) (by simp)) ?_
  show JC _ _ _ [(0, Slc kc 0 176 kcap), (1, .agg (cu8 c).toArray), (2, I64 ((n:Int)))] _
  refine JC_seq ?_
  refine JC_region ?_
  refine JL_step (Step_box (.agg (cu8 c).toArray) (cu8 c) rfl (by first | rfl | simp)) rfl ?_
  rintro v1 L1 ⟨nb1, hnb1, rfl, rfl⟩
  show JL _ _ _ _ ((4, Ptr nb1 0) :: _) [⟨nb1, cu8 c, 27, (0, 0)⟩]
  refine JL_val _ (Ev_assign rfl) rfl ?_
  refine JL_nil ?_
  refine JQ_then ?_
  refine JC_seq ?_
  refine JC_region ?_
  refine JL_val _ (Ev_assign rfl) rfl ?_
  refine JL_nil ?_
  refine JQ_then ?_
  refine JC_seq ?_
  refine JC_block ?_
  refine JC_loop (ι := (Unit) ⊕ (Nat × Nat × List Value × Nat)) (fun x => match x with | .inl _ => [(0, Slc kc 0 176 kcap), (2, I64 ((n:Int))), (4, Ptr nb1 0), (6, .slice none 0 0), (7, .slice none 0 0)] | .inr ⟨k, g, sp, cap⟩ => [(0, Slc kc 0 176 kcap), (2, I64 ((n:Int))), (4, Ptr nb1 0), (6, .slice none 0 0), (7, Slc g 0 (16*k) cap)]) (fun x => match x with | .inl _ => [⟨nb1, cu8 c, 27, (0, 0)⟩] | .inr ⟨k, g, sp, cap⟩ => [⟨nb1, cu8 (rctrN c k), 27, (0, 0)⟩, ⟨g, cu8 (strG (rBlk ks c) k) ++ sp, 5, (0, 0)⟩]) (fun x => match x with | .inl _ => True | .inr ⟨k, g, sp, cap⟩ => 1 ≤ k ∧ 16*k < n + 16 ∧ sp.length = cap - 16*k ∧ 16*k ≤ cap ∧ cap ≤ maxLen) (fun x => match x with | .inl _ => n + 32 | .inr ⟨k, g, sp, cap⟩ => n + 16 - 16*k) (.inl ()) trivial (Sub.cons rfl (Sub.cons rfl (Sub.cons rfl (Sub.cons rfl (Sub.cons rfl (Sub.nil)))))) rfl ?_
  rintro (_ | ⟨k, g, sp, cap⟩) hx
  ·
    obtain _ := hx
    show JC _ _ _ [(0, Slc kc 0 176 kcap), (2, I64 ((n:Int))), (4, Ptr nb1 0), (6, .slice none 0 0), (7, .slice none 0 0)] [⟨nb1, cu8 c, 27, (0, 0)⟩]
    refine JC_seq ?_
    refine JC_seq ?_
    refine JC_region ?_
    refine JL_val _ (Ev_move rfl) rfl ?_
    refine JL_val (I64 (0:Int)) (Ev_len Try.underlying38 rfl) rfl ?_
    refine JL_val _ (Ev_move rfl) rfl ?_
    refine JL_val (.bool (decide ((0:Int) < ((n:Int))))) (Ev_bini rfl rfl fun _ => bin_lss_i _ _) rfl ?_
    refine JL_nil ?_
    refine JQ_then ?_
    refine JC_condT _ rfl (decide_eq_true (by omega)) ?_
    refine JC_skip ?_
    refine JQ_then ?_
    refine JC_block ?_
    refine JC_seq ?_
    refine JC_region ?_
    refine JL_val _ (Ev_move rfl) rfl ?_
    refine JL_val (.agg (cu8 c).toArray) (Ev_load rfl (Ld_agg Try.isAgg27 Try.sizeOf27 (len_cu8 hc) (MemAt.ent 0 rfl (Seg.whole _)))) rfl ?_
    refine JL_step (Step_callP 28 [Slc kc 0 176 kcap, .agg (cu8 c).toArray] (.agg (cu8 (rencL ks c)).toArray) (Cl_func [Slc kc 0 176 kcap, .agg (cu8 c).toArray] Try.call28 rfl) (fun w1 hw1 => renc_c c ks kc kcap w1 hc hks (RdA.of hw1 (MemAt.seg (hm.mem (by simp)) (Seg.whole _) (by omega)) (by simp [hks])))) rfl ?_
    rintro v1 L1 ⟨rfl, rfl⟩
    show JL _ _ _ _ ((15, .agg (cu8 (rencL ks c)).toArray) :: _) [⟨nb1, cu8 c, 27, (0, 0)⟩]
    refine JL_step (Step_alloc _ (cu8 (zr8 16)) Try.zeroValue27 (by kernel_rfl)) rfl ?_
    rintro v1 L1 ⟨nb2, hnb2, rfl, rfl⟩
    show JL _ _ _ _ ((8, Ptr nb2 0) :: _) [⟨nb1, cu8 c, 27, (0, 0)⟩, ⟨nb2, cu8 (zr8 16), 27, (0, 0)⟩]
    refine JL_step (Step_store 1 nb2 0 16 (cu8 (zr8 16)) 27 (.agg (cu8 (rencL ks c)).toArray) (cu8 (rencL ks c)) (cu8 (rencL ks c)) rfl rfl rfl (by first | rfl | simp) Try.sizeOf27 (len_cu8 (rencL_len _ _ hc)) (by first | exact one_u8 | exact one_u32 | exact one_u64 | (simp [cu8, cu32, cu64, Value.oneCell']; done)) (by simp [(zr8_len 16)]) (lay_whole (by simp [(zr8_len 16), (rencL_len _ _ hc)]))) rfl ?_
    rintro v1 L1 ⟨rfl, rfl⟩
    show JL _ _ _ _ _ [⟨nb1, cu8 c, 27, (0, 0)⟩, ⟨nb2, cu8 (rencL ks c), 27, (0, 0)⟩]
    refine JL_nil ?_
    refine JQ_then ?_
    refine JC_seq ?_
    refine JC_region ?_
    refine JL_val _ (Ev_move rfl) rfl ?_
    refine JL_val (Slc nb2 0 16 16) (Ev_sliceA 16 5 1 0 16 0 16 Try.underlying27 Try.sizeOf5 rfl rfl rfl (by omega) (by omega) (by omega) (by omega) (by omega) 16 (by omega)) rfl ?_
    refine JL_step (Step_appM8 38 5 [false, false] (.slice none 0 0) 0 ([] : List UInt8) (rencL ks c) (some ⟨nb2, 0, none⟩) 16 16 16 Try.underlying38 Try.info5 rfl (.inl ⟨rfl, rfl, rfl, rfl, by omega⟩) rfl (by simp [(rencL_len _ _ hc)]; try omega) (SrcAt.mem (MemAt.ent 1 rfl (Seg.whole _))) (by omega) (by unfold maxLen; omega) (by omega)) rfl ?_
    rintro v1 L1 ⟨nb3, sp1, cp1, hg1, rfl, rfl, ha1, ha2, ha3, ha4⟩
    show JL _ _ _ _ ((18, Slc nb3 0 16 cp1) :: _) [⟨nb1, cu8 c, 27, (0, 0)⟩, ⟨nb2, cu8 (rencL ks c), 27, (0, 0)⟩, ⟨nb3, cu8 (([] : List UInt8) ++ (rencL ks c)) ++ sp1, 5, (0, 0)⟩]
    refine JL_val _ (Ev_assign rfl) rfl ?_
    refine JL_nil ?_
    refine JQ_then ?_
    refine JC_region ?_
    refine JL_val (.agg (cu8 c).toArray) (Ev_load rfl (Ld_agg Try.isAgg27 Try.sizeOf27 (len_cu8 hc) (MemAt.ent 0 rfl (Seg.whole _)))) rfl ?_
    refine JL_step (Step_callP 32 [.agg (cu8 c).toArray, U64 (1:UInt64)] (.agg (cu8 (rnextL c (1:UInt64))).toArray) (Cl_func [.agg (cu8 c).toArray, U64 (1:UInt64)] Try.call32 rfl) (fun w1 hw1 => rnext_c c (1:UInt64) w1 hc)) rfl ?_
    rintro v1 L1 ⟨rfl, rfl⟩
    show JL _ _ _ _ ((20, .agg (cu8 (rnextL c (1:UInt64))).toArray) :: _) [⟨nb1, cu8 c, 27, (0, 0)⟩, ⟨nb2, cu8 (rencL ks c), 27, (0, 0)⟩, ⟨nb3, cu8 (([] : List UInt8) ++ (rencL ks c)) ++ sp1, 5, (0, 0)⟩]
    refine JL_step (Step_store 0 nb1 0 16 (cu8 c) 27 (.agg (cu8 (rnextL c (1:UInt64))).toArray) (cu8 (rnextL c (1:UInt64))) (cu8 (rnextL c (1:UInt64))) rfl rfl rfl (by first | rfl | simp) Try.sizeOf27 (len_cu8 (rnextL_len hc)) (by first | exact one_u8 | exact one_u32 | exact one_u64 | (simp [cu8, cu32, cu64, Value.oneCell']; done)) (by simp [hc]) (lay_whole (by simp [hc, (rnextL_len hc)]))) rfl ?_
    rintro v1 L1 ⟨rfl, rfl⟩
    show JL _ _ _ _ _ [⟨nb1, cu8 (rnextL c (1:UInt64)), 27, (0, 0)⟩, ⟨nb2, cu8 (rencL ks c), 27, (0, 0)⟩, ⟨nb3, cu8 (([] : List UInt8) ++ (rencL ks c)) ++ sp1, 5, (0, 0)⟩]
    refine JL_nil ?_
    refine JQ_in_normal ?_
    refine JQ_thenK ?_
    refine K_mask [true, false, true] ?_
    show K _ _ [⟨nb1, cu8 (rnextL c (1:UInt64)), 27, (0, 0)⟩, ⟨nb3, cu8 (([] : List UInt8) ++ (rencL ks c)) ++ sp1, 5, (0, 0)⟩] _
    refine K_next (.inr (1, nb3, sp1, cp1)) ⟨by omega, by omega, ha2, by omega, ha4⟩ (by first | (simp; omega) | simp) (Sub.cons rfl (Sub.cons rfl (Sub.cons rfl (Sub.cons rfl (Sub.cons rfl (Sub.nil)))))) rfl
  ·
    obtain ⟨hx1, hx2, hx4, hx5, hx6⟩ := hx
    show JC _ _ _ [(0, Slc kc 0 176 kcap), (2, I64 ((n:Int))), (4, Ptr nb1 0), (6, .slice none 0 0), (7, Slc g 0 (16*k) cap)] [⟨nb1, cu8 (rctrN c k), 27, (0, 0)⟩, ⟨g, cu8 (strG (rBlk ks c) k) ++ sp, 5, (0, 0)⟩]
    refine JC_seq ?_
    refine JC_seq ?_
    refine JC_region ?_
    refine JL_val _ (Ev_move rfl) rfl ?_
    refine JL_val (I64 (16*(k:Int))) (Ev_len Try.underlying38 rfl) rfl ?_
    refine JL_val _ (Ev_move rfl) rfl ?_
    refine JL_val (.bool (decide ((16*(k:Int)) < ((n:Int))))) (Ev_bini rfl rfl fun _ => bin_lss_i _ _) rfl ?_
    refine JL_nil ?_
    refine JQ_then ?_
    refine JC_cond (decide ((16*(k:Int)) < ((n:Int)))) rfl (fun hb1 => ?_) (fun hb1 => ?_)
    ·
      have hp1 : (16*(k:Int)) < ((n:Int)) := of_decide_eq_true hb1
      refine JC_skip ?_
      refine JQ_then ?_
      refine JC_block ?_
      refine JC_seq ?_
      refine JC_region ?_
      refine JL_val _ (Ev_move rfl) rfl ?_
      refine JL_val (.agg (cu8 (rctrN c k)).toArray) (Ev_load rfl (Ld_agg Try.isAgg27 Try.sizeOf27 (len_cu8 (rctrN_len hc k)) (MemAt.ent 0 rfl (Seg.whole _)))) rfl ?_
      refine JL_step (Step_callP 28 [Slc kc 0 176 kcap, .agg (cu8 (rctrN c k)).toArray] (.agg (cu8 (rencL ks (rctrN c k))).toArray) (Cl_func [Slc kc 0 176 kcap, .agg (cu8 (rctrN c k)).toArray] Try.call28 rfl) (fun w1 hw1 => renc_c (rctrN c k) ks kc kcap w1 (rctrN_len hc k) hks (RdA.of hw1 (MemAt.seg (hm.mem (by simp)) (Seg.whole _) (by omega)) (by simp [hks])))) rfl ?_
      rintro v1 L1 ⟨rfl, rfl⟩
      show JL _ _ _ _ ((15, .agg (cu8 (rencL ks (rctrN c k))).toArray) :: _) [⟨nb1, cu8 (rctrN c k), 27, (0, 0)⟩, ⟨g, cu8 (strG (rBlk ks c) k) ++ sp, 5, (0, 0)⟩]
      refine JL_step (Step_alloc _ (cu8 (zr8 16)) Try.zeroValue27 (by kernel_rfl)) rfl ?_
      rintro v1 L1 ⟨nb4, hnb4, rfl, rfl⟩
      show JL _ _ _ _ ((8, Ptr nb4 0) :: _) [⟨nb1, cu8 (rctrN c k), 27, (0, 0)⟩, ⟨g, cu8 (strG (rBlk ks c) k) ++ sp, 5, (0, 0)⟩, ⟨nb4, cu8 (zr8 16), 27, (0, 0)⟩]
      refine JL_step (Step_store 2 nb4 0 16 (cu8 (zr8 16)) 27 (.agg (cu8 (rencL ks (rctrN c k))).toArray) (cu8 (rencL ks (rctrN c k))) (cu8 (rencL ks (rctrN c k))) rfl rfl rfl (by first | rfl | simp) Try.sizeOf27 (len_cu8 (rencL_len _ _ (rctrN_len hc k))) (by first | exact one_u8 | exact one_u32 | exact one_u64 | (simp [cu8, cu32, cu64, Value.oneCell']; done)) (by simp [(zr8_len 16)]) (lay_whole (by simp [(zr8_len 16), (rencL_len _ _ (rctrN_len hc k))]))) rfl ?_
      rintro v1 L1 ⟨rfl, rfl⟩
      show JL _ _ _ _ _ [⟨nb1, cu8 (rctrN c k), 27, (0, 0)⟩, ⟨g, cu8 (strG (rBlk ks c) k) ++ sp, 5, (0, 0)⟩, ⟨nb4, cu8 (rencL ks (rctrN c k)), 27, (0, 0)⟩]
      refine JL_nil ?_
      refine JQ_then ?_
      refine JC_seq ?_
      refine JC_region ?_
      refine JL_val _ (Ev_move rfl) rfl ?_
      refine JL_val (Slc nb4 0 16 16) (Ev_sliceA 16 5 1 0 16 0 16 Try.underlying27 Try.sizeOf5 rfl rfl rfl (by omega) (by omega) (by omega) (by omega) (by omega) 16 (by omega)) rfl ?_
      refine JL_step (Step_appM8 38 5 [false, true, false] (Slc g 0 (16*k) cap) (16*k) (strG (rBlk ks c) k) (rencL ks (rctrN c k)) (some ⟨nb4, 0, none⟩) 16 16 (16*k + 16) Try.underlying38 Try.info5 rfl (.inr ⟨g, sp, cap, rfl, rfl, (by simp [(strG_len (fun k => rBlk_len hc k) k)]), hx4, (by omega), hx6⟩) rfl (by simp [(rencL_len _ _ (rctrN_len hc k))]; try omega) (SrcAt.mem (MemAt.ent 2 rfl (Seg.whole _))) (by omega) (by unfold maxLen; omega) (by omega)) rfl ?_
      rintro v1 L1 ⟨nb5, sp2, cp2, hg2, rfl, rfl, ha5, ha6, ha7, ha8⟩
      show JL _ _ _ _ ((18, Slc nb5 0 (16*k + 16) cp2) :: _) [⟨nb1, cu8 (rctrN c k), 27, (0, 0)⟩, ⟨nb4, cu8 (rencL ks (rctrN c k)), 27, (0, 0)⟩, ⟨nb5, cu8 ((strG (rBlk ks c) k) ++ (rencL ks (rctrN c k))) ++ sp2, 5, (0, 0)⟩]
      refine JL_val _ (Ev_assign rfl) rfl ?_
      refine JL_nil ?_
      refine JQ_then ?_
      refine JC_region ?_
      refine JL_val (.agg (cu8 (rctrN c k)).toArray) (Ev_load rfl (Ld_agg Try.isAgg27 Try.sizeOf27 (len_cu8 (rctrN_len hc k)) (MemAt.ent 0 rfl (Seg.whole _)))) rfl ?_
      refine JL_step (Step_callP 32 [.agg (cu8 (rctrN c k)).toArray, U64 (1:UInt64)] (.agg (cu8 (rnextL (rctrN c k) (1:UInt64))).toArray) (Cl_func [.agg (cu8 (rctrN c k)).toArray, U64 (1:UInt64)] Try.call32 rfl) (fun w1 hw1 => rnext_c (rctrN c k) (1:UInt64) w1 (rctrN_len hc k))) rfl ?_
      rintro v1 L1 ⟨rfl, rfl⟩
      show JL _ _ _ _ ((20, .agg (cu8 (rnextL (rctrN c k) (1:UInt64))).toArray) :: _) [⟨nb1, cu8 (rctrN c k), 27, (0, 0)⟩, ⟨nb4, cu8 (rencL ks (rctrN c k)), 27, (0, 0)⟩, ⟨nb5, cu8 ((strG (rBlk ks c) k) ++ (rencL ks (rctrN c k))) ++ sp2, 5, (0, 0)⟩]
      refine JL_step (Step_store 0 nb1 0 16 (cu8 (rctrN c k)) 27 (.agg (cu8 (rnextL (rctrN c k) (1:UInt64))).toArray) (cu8 (rnextL (rctrN c k) (1:UInt64))) (cu8 (rnextL (rctrN c k) (1:UInt64))) rfl rfl rfl (by first | rfl | simp) Try.sizeOf27 (len_cu8 (rnextL_len (rctrN_len hc k))) (by first | exact one_u8 | exact one_u32 | exact one_u64 | (simp [cu8, cu32, cu64, Value.oneCell']; done)) (by simp [(rctrN_len hc k)]) (lay_whole (by simp [(rctrN_len hc k), (rnextL_len (rctrN_len hc k))]))) rfl ?_
      rintro v1 L1 ⟨rfl, rfl⟩
      show JL _ _ _ _ _ [⟨nb1, cu8 (rnextL (rctrN c k) (1:UInt64)), 27, (0, 0)⟩, ⟨nb4, cu8 (rencL ks (rctrN c k)), 27, (0, 0)⟩, ⟨nb5, cu8 ((strG (rBlk ks c) k) ++ (rencL ks (rctrN c k))) ++ sp2, 5, (0, 0)⟩]
      refine JL_nil ?_
      refine JQ_in_normal ?_
      refine JQ_thenK ?_
      refine K_mask [true, false, true] ?_
      show K _ _ [⟨nb1, cu8 (rnextL (rctrN c k) (1:UInt64)), 27, (0, 0)⟩, ⟨nb5, cu8 ((strG (rBlk ks c) k) ++ (rencL ks (rctrN c k))) ++ sp2, 5, (0, 0)⟩] _
      refine K_next (.inr (k + 1, nb5, sp2, cp2)) ⟨by omega, by omega, ha6, by omega, ha8⟩ (by first | (simp; omega) | simp) (Sub.cons rfl (Sub.cons rfl (Sub.cons rfl (Sub.cons rfl (Sub.cons rfl (Sub.nil)))))) rfl
    ·
      have hp1 : ¬ ((16*(k:Int)) < ((n:Int))) := of_decide_eq_false hb1
      refine JC_exit ?_
      refine JQ_then_exit ?_
      refine JQ_then_exit ?_
      refine JQ_in_same ?_
      refine JQ_then ?_
      refine JC_seq ?_
      refine JC_region ?_
      refine JL_val _ (Ev_move rfl) rfl ?_
      refine JL_val _ (Ev_move rfl) rfl ?_
      refine JL_val (Slc g 0 n cap) (Ev_slice 5 1 0 n 0 cap Try.underlying38 Try.sizeOf5 rfl rfl rfl (by omega) (by omega) (by omega) (by omega) (by omega) n (by omega)) rfl ?_
      refine JL_val _ (Ev_assign rfl) rfl ?_
      refine JL_nil ?_
      refine JQ_then ?_
      refine JC_ret ?_
      refine JQ_ret (Slc g 0 n cap) (res1 Try.results35 (RV_tmp rfl)) fun w1 hw1 => ?_
      refine ⟨_, [⟨g, _, _, _⟩], rfl, ⟨g, cu8 ((strG (rBlk ks c) k).drop n) ++ sp, cap, rfl, rfl, ?_, by omega, hx6⟩, ?_⟩
      · simp [strG_len (fun k => rBlk_len hc k), hx4]; omega
      · rw [← strT_any (fun k => rBlk_len hc k) (m := k) (by omega), ← List.append_assoc, ← cu8_app, List.take_append_drop]
        exact hw1.sub (by simp) (by simp)

theorem rturn0_c (v0 : Value) (c : List UInt8) (ab : Option Addr) (cb : Nat) (w : World) (hc : c.length = 16) : Calls Try.prog 37 #[v0, .agg (cu8 c).toArray, .slice ab 0 cb] w (Post w [] (fun v L => v = .slice none 0 0 ∧ L = [])) := by
  refine enter w [] 33 [] [v0, .agg (cu8 c).toArray, .slice ab 0 cb] Try.func37 rfl rfl (by simp) (Hp.start (by simp) (by simp) (by simp)) ?_
  show JC _ _ _ [(0, v0), (1, .agg (cu8 c).toArray), (2, .slice ab 0 cb)] _
  refine JC_seq ?_
  refine JC_region ?_
  refine JL_step (Step_box (.agg (cu8 c).toArray) (cu8 c) rfl (by first | rfl | simp)) rfl ?_
  rintro v1 L1 ⟨nb1, hnb1, rfl, rfl⟩
  show JL _ _ _ _ ((4, Ptr nb1 0) :: _) [⟨nb1, cu8 c, 27, (0, 0)⟩]
  refine JL_val _ (Ev_assign rfl) rfl ?_
  refine JL_nil ?_
  refine JQ_then ?_
  refine JC_seq ?_
  refine JC_region ?_
  refine JL_val _ (Ev_move rfl) rfl ?_
  refine JL_val (.agg (cu8 c).toArray) (Ev_load rfl (Ld_agg Try.isAgg27 Try.sizeOf27 (len_cu8 hc) (MemAt.ent 0 rfl (Seg.whole _)))) rfl ?_
  refine JL_val _ (Ev_move rfl) rfl ?_
  refine JL_val (I64 (0:Int)) (Ev_len Try.underlying38 rfl) rfl ?_
  refine JL_step (Step_callP 35 [v0, .agg (cu8 c).toArray, I64 (0:Int)] (.slice none 0 0) (Cl_func [v0, .agg (cu8 c).toArray, I64 (0:Int)] Try.call35 rfl) (fun w1 hw1 => rstream0_c _ c w1 hc)) rfl ?_
  rintro v1 L1 ⟨rfl, rfl⟩
  show JL _ _ _ _ ((13, .slice none 0 0) :: _) [⟨nb1, cu8 c, 27, (0, 0)⟩]
  refine JL_val _ (Ev_assign rfl) rfl ?_
  refine JL_nil ?_
  refine JQ_then ?_
  refine JC_seq ?_
  refine JC_seq ?_
  refine JC_region ?_
  refine JL_val _ (Ev_assign rfl) rfl ?_
  refine JL_nil ?_
  refine JQ_then ?_
  refine JC_block ?_
  refine K_mask [false] ?_
  show JC _ _ _ _ []
  refine JC_loop (ι := Unit) (fun _ => [(2, .slice ab 0 cb), (6, .slice none 0 0), (7, .slice none 0 0), (8, I64 (0:Int))]) (fun _ => []) (fun _ => True) (fun _ => 0) () trivial (Sub.cons rfl (Sub.cons rfl (Sub.cons rfl (Sub.cons rfl (Sub.nil))))) rfl ?_
  rintro _ hx
  show JC _ _ _ [(2, .slice ab 0 cb), (6, .slice none 0 0), (7, .slice none 0 0), (8, I64 (0:Int))] []
  refine JC_seq ?_
  refine JC_seq ?_
  refine JC_region ?_
  refine JL_val _ (Ev_move rfl) rfl ?_
  refine JL_val _ (Ev_move rfl) rfl ?_
  refine JL_val (I64 (0:Int)) (Ev_len Try.underlying38 rfl) rfl ?_
  refine JL_val (.bool (decide ((0:Int) < (0:Int)))) (Ev_bini rfl rfl fun _ => bin_lss_i _ _) rfl ?_
  refine JL_nil ?_
  refine JQ_then ?_
  refine JC_condF _ rfl (by decide) ?_
  refine JC_exit ?_
  refine JQ_then_exit ?_
  refine JQ_then_exit ?_
  refine JQ_in_same ?_
  refine JQ_then ?_
  refine JC_seq ?_
  refine JC_region ?_
  refine JL_val _ (Ev_move rfl) rfl ?_
  refine JL_val _ (Ev_assign rfl) rfl ?_
  refine JL_nil ?_
  refine JQ_then ?_
  refine JC_ret ?_
  refine JQ_ret (.slice none 0 0) (res1 Try.results37 (RV_tmp rfl)) fun w1 hw1 => ?_
  exact ⟨_, [], rfl, ⟨rfl, rfl⟩, hw1.sub (by simp) (by simp)⟩

theorem rturn_c (ks c b : List UInt8) (kc kcap n cb : Nat) (ab : Option Addr) (w : World) (hc : c.length = 16) (hn0 : 0 < n) (hn : n ≤ 65536) (hb : b.length = n) (hr : RdB w [] ab b) (hks : ks.length = 176) (hm : RdA w kc 0 (cu8 ks)) : Calls Try.prog 37 #[Slc kc 0 176 kcap, .agg (cu8 c).toArray, .slice ab n cb] w (Post w [] (fun v L => ∃ g sp cap, v = Slc g 0 n cap ∧ L = [⟨g, cu8 (xorN (strT (rBlk ks c) n) b n) ++ sp, 5, (0, 0)⟩] ∧ sp.length = cap - n ∧ n ≤ cap ∧ cap ≤ maxLen)) := by
  refine enter w [] 33 [] [Slc kc 0 176 kcap, .agg (cu8 c).toArray, .slice ab n cb] Try.func37 rfl rfl (by simp) (Hp.start (by simp) (by simp) (by simp)) ?_
  show JC _ _ _ [(0, Slc kc 0 176 kcap), (1, .agg (cu8 c).toArray), (2, .slice ab n cb)] _
  refine JC_seq ?_
  refine JC_region ?_
  refine JL_step (Step_box (.agg (cu8 c).toArray) (cu8 c) rfl (by first | rfl | simp)) rfl ?_
  rintro v1 L1 ⟨nb1, hnb1, rfl, rfl⟩
  show JL _ _ _ _ ((4, Ptr nb1 0) :: _) [⟨nb1, cu8 c, 27, (0, 0)⟩]
  refine JL_val _ (Ev_assign rfl) rfl ?_
  refine JL_nil ?_
  refine JQ_then ?_
  refine JC_seq ?_
  refine JC_region ?_
  refine JL_val _ (Ev_move rfl) rfl ?_
  refine JL_val (.agg (cu8 c).toArray) (Ev_load rfl (Ld_agg Try.isAgg27 Try.sizeOf27 (len_cu8 hc) (MemAt.ent 0 rfl (Seg.whole _)))) rfl ?_
  refine JL_val _ (Ev_move rfl) rfl ?_
  refine JL_val (I64 ((n:Int))) (Ev_len Try.underlying38 rfl) rfl ?_
  refine JL_step (Step_callN 35 [Slc kc 0 176 kcap, .agg (cu8 c).toArray, I64 ((n:Int))] _ (Cl_func [Slc kc 0 176 kcap, .agg (cu8 c).toArray, I64 ((n:Int))] Try.call35 rfl) (fun w1 hw1 => rstream_c ks c kc kcap n w1 hc (by omega) (by omega) hks (RdA.of hw1 (MemAt.seg (hm.mem (by simp)) (Seg.whole _) (by omega)) (by simp [hks])))) rfl ?_
  rintro v1 L1 ⟨_, ⟨nb2, sp1, cp1, rfl, rfl, hc1, hc2, hc3⟩, rfl⟩
  show JL _ _ _ _ ((13, Slc nb2 0 n cp1) :: _) [⟨nb1, cu8 c, 27, (0, 0)⟩, ⟨nb2, cu8 (strT (rBlk ks c) n) ++ sp1, 5, (0, 0)⟩]
  refine JL_val _ (Ev_assign rfl) rfl ?_
  refine JL_nil ?_
  refine JQ_then ?_
  refine JC_seq ?_
  refine JC_seq ?_
  refine JC_region ?_
  refine JL_val _ (Ev_assign rfl) rfl ?_
  refine JL_nil ?_
  refine JQ_then ?_
  refine JC_block ?_
  refine K_mask [false, true] ?_
  show JC _ _ _ _ [⟨nb2, cu8 (strT (rBlk ks c) n) ++ sp1, 5, (0, 0)⟩]
  refine JC_loop (ι := Nat × List UInt8) (fun ⟨i, s⟩ => [(2, .slice ab n cb), (6, .slice none 0 0), (7, Slc nb2 0 n cp1), (8, I64 ((i:Int)))]) (fun ⟨i, s⟩ => [⟨nb2, cu8 s ++ sp1, 5, (0, 0)⟩]) (fun ⟨i, s⟩ => i ≤ n ∧ s = xorN (strT (rBlk ks c) n) b i ∧ s.length = n) (fun ⟨i, s⟩ => n - i) (0, strT (rBlk ks c) n) ⟨by omega, rfl, strT_len (fun k => rBlk_len hc k) n⟩ (Sub.cons rfl (Sub.cons rfl (Sub.cons rfl (Sub.cons rfl (Sub.nil))))) rfl ?_
  rintro ⟨i, s⟩ ⟨hy1, hy2, hs⟩
  show JC _ _ _ [(2, .slice ab n cb), (6, .slice none 0 0), (7, Slc nb2 0 n cp1), (8, I64 ((i:Int)))] [⟨nb2, cu8 s ++ sp1, 5, (0, 0)⟩]
  refine JC_seq ?_
  refine JC_seq ?_
  refine JC_region ?_
  refine JL_val _ (Ev_move rfl) rfl ?_
  refine JL_val _ (Ev_move rfl) rfl ?_
  refine JL_val (I64 ((n:Int))) (Ev_len Try.underlying38 rfl) rfl ?_
  refine JL_val (.bool (decide (((i:Int)) < ((n:Int))))) (Ev_bini rfl rfl fun _ => bin_lss_i _ _) rfl ?_
  refine JL_nil ?_
  refine JQ_then ?_
  refine JC_cond (decide (((i:Int)) < ((n:Int)))) rfl (fun hb1 => ?_) (fun hb1 => ?_)
  ·
    have hp1 : ((i:Int)) < ((n:Int)) := of_decide_eq_true hb1
    refine JC_skip ?_
    refine JQ_then ?_
    refine JC_seq ?_
    refine JC_block ?_
    obtain ⟨bz1, oz1, hz1, hm1⟩ := hr.pos (by rw [hb]; omega)
    refine JC_draw 33 2 [(0, Slc nb2 0 n cp1), (1, I64 ((i:Int))), (2, Slc nb2 0 n cp1), (3, I64 ((i:Int))), (4, Ptr nb2 i), (5, U8 (g8 s i)), (6, .slice ab n cb), (7, I64 ((i:Int))), (8, Ptr bz1 (i + oz1)), (9, U8 (g8 b i)), (10, U8 ((g8 s i) ^^^ (g8 b i))), (11, Ptr nb2 i)] Try.mixed rfl (by decide +kernel) ?_
    have hl1 : (s.set i ((g8 s i) ^^^ (g8 b i))).length = n := by simp [hs]
    refine DP_one ⟨[], [0, 1, 2, 3, 4, 5, 6, 7, 8, 9, 10, 11], [], [0, 1, 2, 3, 4, 5, 6, 7, 8, 9, 10, 11], [12]⟩ 12 _ rfl rfl (by decide +kernel) rfl ⟨⟨_, rfl, Qok_val rfl (Ev_move rfl)⟩, ⟨_, rfl, Qok_val rfl (Ev_move rfl)⟩, ⟨_, rfl, Qok_val rfl (Ev_move rfl)⟩, ⟨_, rfl, Qok_val rfl (Ev_move rfl)⟩, ⟨_, rfl, Qok_val rfl (Ev_indexSl 5 1 i Try.underlying38 Try.sizeOf5 rfl rfl (by omega) (by omega) (by omega))⟩, ⟨_, rfl, Qok_val rfl (Ev_load rfl (Ld_one Try.isAgg5 (MemAt.ent 0 rfl (Seg.left (Seg.get (g8_get (i := i) (by rw [hs]; omega)))))))⟩, ⟨_, rfl, Qok_val rfl (Ev_move rfl)⟩, ⟨_, rfl, Qok_val rfl (Ev_move rfl)⟩, ⟨_, rfl, Qok_val rfl (Ev_indexSlG 5 1 (i + oz1) Try.underlying38 Try.sizeOf5 rfl hz1 rfl (by omega) (by omega) (by omega))⟩, ⟨_, rfl, Qok_val rfl (Ev_load rfl (Ld_one Try.isAgg5 (MemAt.seg (MemAt.base hm1.1 hm1.2.1 hm1.2.2) (Seg.get (g8_get (i := i) (by rw [hb]; omega))) (by omega))))⟩, ⟨_, rfl, Qok_val rfl (Ev_bini rfl rfl fun _ => bin_xor_u8 (g8 s i) (g8 b i))⟩, ⟨_, rfl, Qok_val rfl (Ev_indexSl 5 1 i Try.underlying38 Try.sizeOf5 rfl rfl (by omega) (by omega) (by omega))⟩, trivial⟩ rfl (Cok_step rfl (Step_store 0 nb2 i 1 (cu8 s ++ sp1) 5 (U8 ((g8 s i) ^^^ (g8 b i))) ([U8 ((g8 s i) ^^^ (g8 b i))]) (cu8 (s.set i ((g8 s i) ^^^ (g8 b i))) ++ sp1) rfl rfl rfl rfl Try.sizeOf5 rfl (by simp [Value.oneCell']) (by simp [hs, hc1]; try omega) (lay_left (p := cu8 s) (vs := [U8 ((g8 s i) ^^^ (g8 b i))]) (o := i) (by simp [hs]; omega) (lay8 _ _ _ (by rw [hs]; omega))))) ?_
    rintro v1 L1 ⟨rfl, rfl⟩
    refine ⟨[], ?_⟩
    show DP _ _ _ _ _ _ _ _ [⟨nb2, cu8 (s.set i ((g8 s i) ^^^ (g8 b i))) ++ sp1, 5, (0, 0)⟩]
    refine DP_end ⟨[12], [0, 1, 2, 3, 4, 5, 6, 7, 8, 9, 10, 11], [0, 1, 2, 3, 4, 5, 6, 7, 8, 9, 10, 11], [], []⟩ rfl rfl (by decide +kernel) rfl trivial ?_
    refine K_sub (F' := [(20, Slc nb2 0 n cp1), (21, I64 ((i:Int))), (22, Slc nb2 0 n cp1), (23, I64 ((i:Int))), (24, Ptr nb2 i), (25, U8 (g8 s i)), (26, .slice ab n cb), (27, I64 ((i:Int))), (28, Ptr bz1 (i + oz1)), (29, U8 (g8 b i)), (30, U8 ((g8 s i) ^^^ (g8 b i))), (31, Ptr nb2 i), (2, .slice ab n cb), (6, .slice none 0 0), (7, Slc nb2 0 n cp1), (8, I64 ((i:Int))), (14, I64 ((i:Int))), (15, .slice ab n cb), (16, I64 ((n:Int))), (17, .bool (decide (((i:Int)) < ((n:Int)))))]) (Sub.cons (by kernel_rfl) (Sub.cons (by kernel_rfl) (Sub.cons (by kernel_rfl) (Sub.cons (by kernel_rfl) (Sub.cons (by kernel_rfl) (Sub.cons (by kernel_rfl) (Sub.cons (by kernel_rfl) (Sub.cons (by kernel_rfl) (Sub.cons (by kernel_rfl) (Sub.cons (by kernel_rfl) (Sub.cons (by kernel_rfl) (Sub.cons (by kernel_rfl) (Sub.cons (by kernel_rfl) (Sub.cons (by kernel_rfl) (Sub.cons (by kernel_rfl) (Sub.cons (by kernel_rfl) (Sub.cons (by kernel_rfl) (Sub.cons (by kernel_rfl) (Sub.cons (by kernel_rfl) (Sub.cons (by kernel_rfl) (Sub.nil))))))))))))))))))))) ?_
    show JQ _ _ _ [(20, Slc nb2 0 n cp1), (21, I64 ((i:Int))), (22, Slc nb2 0 n cp1), (23, I64 ((i:Int))), (24, Ptr nb2 i), (25, U8 (g8 s i)), (26, .slice ab n cb), (27, I64 ((i:Int))), (28, Ptr bz1 (i + oz1)), (29, U8 (g8 b i)), (30, U8 ((g8 s i) ^^^ (g8 b i))), (31, Ptr nb2 i), (2, .slice ab n cb), (6, .slice none 0 0), (7, Slc nb2 0 n cp1), (8, I64 ((i:Int))), (14, I64 ((i:Int))), (15, .slice ab n cb), (16, I64 ((n:Int))), (17, .bool (decide (((i:Int)) < ((n:Int)))))] _
    refine JQ_in_normal ?_
    refine JQ_then ?_
    refine JC_region ?_
    refine JL_val _ (Ev_move rfl) rfl ?_
    refine JL_val (I64 ((i:Int) + 1)) (Ev_bini rfl rfl fun _ => bin_add_i _ _ ((i:Int) + 1) (by omega) (by omega)) rfl ?_
    refine JL_val _ (Ev_assign rfl) rfl ?_
    refine JL_nil ?_
    refine JQ_thenK ?_
    refine K_next (i + 1, s.set i ((g8 s i) ^^^ (g8 b i))) ⟨by omega, by rw [xorN, ← hy2], hl1⟩ (by first | (simp; omega) | simp) (Sub.cons rfl (Sub.cons rfl (Sub.cons rfl (Sub.cons rfl (Sub.nil))))) rfl
  ·
    have hp1 : ¬ (((i:Int)) < ((n:Int))) := of_decide_eq_false hb1
    refine JC_exit ?_
    refine JQ_then_exit ?_
    refine JQ_then_exit ?_
    refine JQ_in_same ?_
    refine JQ_then ?_
    refine JC_seq ?_
    refine JC_region ?_
    refine JL_val _ (Ev_move rfl) rfl ?_
    refine JL_val _ (Ev_assign rfl) rfl ?_
    refine JL_nil ?_
    refine JQ_then ?_
    refine JC_ret ?_
    refine JQ_ret (Slc nb2 0 n cp1) (res1 Try.results37 (RV_tmp rfl)) fun w1 hw1 => ?_
    have e1 : i = n := by omega
    subst e1
    rw [hy2] at hw1
    exact ⟨_, _, rfl, ⟨nb2, sp1, cp1, rfl, rfl, hc1, hc2, hc3⟩, hw1.sub (by simp) (by simp)⟩

end Go.Proofs.Ytncoifiafklkjaa
