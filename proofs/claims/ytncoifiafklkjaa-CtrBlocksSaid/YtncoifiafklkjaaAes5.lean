import Derived.Test.YtncoifiafklkjaaFx
import Derived.Test.YtncoifiafklkjaaSxL
import Derived.Test.YtncoifiafklkjaaAes4
namespace Go.Proofs.Ytncoifiafklkjaa
open Go Go.Sx
set_option linter.unusedVariables false
set_option linter.unusedSimpArgs false
set_option maxRecDepth 100000

def encN (ks b : List UInt8) : Nat → List UInt8
  | 0 => addL b (mid ks 0 16)
  | j + 1 => addL (mixL (sh1L thereL (encN ks b j)) [(2:UInt8), (3:UInt8), (1:UInt8), (1:UInt8)]) (mid ks (16*j + 16) 16)
def encL (ks b : List UInt8) : List UInt8 := addL (sh1L thereL (encN ks b 9)) (mid ks 160 16)
def decN (ks b : List UInt8) : Nat → List UInt8
  | 0 => sh3L backL (addL b (mid ks 160 16))
  | j + 1 => sh3L backL (mixL (addL (decN ks b j) (mid ks (16*(9 - j)) 16)) [(14:UInt8), (11:UInt8), (13:UInt8), (9:UInt8)])
def decL (ks b : List UInt8) : List UInt8 := addL (decN ks b 9) (mid ks 0 16)
attribute [local irreducible] addL mixL sh1L sh3L thereL backL rkL encN decN mid
theorem enc_c (c : Nat) (ks : List UInt8) (b : List UInt8) (w : World) (hb : b.length = 16) (hks : ks.length = 176) (hc : w.heap[c]? = some (.cells (cu8 ks ++ cu8 thereL ++ cu8 backL).toArray 106 (0, 0))) : Calls Try.prog 27 #[Ptr c 0, .agg (cu8 b).toArray] w (Post w [] (fun v L => v = .agg (cu8 (encL ks b)).toArray ∧ L = [])) := by
  refine enter w [] 47 [] [Ptr c 0, .agg (cu8 b).toArray] Try.func27 rfl rfl (by simp) (Hp.start (by simp) (by simp) (by simp)) ?_
  show JC _ _ _ [(0, Ptr c 0), (1, .agg (cu8 b).toArray)] _
  refine JC_seq ?_
  refine JC_region ?_
  refine JL_step (Step_box (.agg (cu8 b).toArray) (cu8 b) rfl (by first | rfl | simp)) rfl ?_
  rintro v1 L1 ⟨nb1, hnb1, rfl, rfl⟩
  show JL _ _ _ _ ((3, Ptr nb1 0) :: _) [⟨nb1, cu8 b, 27, (0, 0)⟩]
  refine JL_step (Step_alloc _ (cu8 (zr8 16)) Try.zeroValue27 (by kernel_rfl)) rfl ?_
  rintro v1 L1 ⟨nb2, hnb2, rfl, rfl⟩
  show JL _ _ _ _ ((4, Ptr nb2 0) :: _) [⟨nb1, cu8 b, 27, (0, 0)⟩, ⟨nb2, cu8 (zr8 16), 27, (0, 0)⟩]
  refine JL_nil ?_
  refine JQ_then ?_
  refine JC_seq ?_
  refine JC_region ?_
  refine JL_val _ (Ev_move rfl) rfl ?_
  refine JL_step (Step_callP 72 [Ptr c 0] (Ptr c 0) (Cl_func [Ptr c 0] Try.call72 rfl) (fun w1 _ => ofsome_c c w1)) rfl ?_
  rintro v1 L1 ⟨rfl, rfl⟩
  show JL _ _ _ _ ((9, Ptr c 0) :: _) [⟨nb1, cu8 b, 27, (0, 0)⟩, ⟨nb2, cu8 (zr8 16), 27, (0, 0)⟩]
  refine JL_val _ (Ev_assign rfl) rfl ?_
  refine JL_nil ?_
  refine JQ_then ?_
  refine JC_seq ?_
  have hl1 : (mid ks 0 16).length = 16 := mid_len (by rw [hks]; omega)
  refine JC_draw 47 4 [(0, .agg (cu8 b).toArray), (1, Ptr c 0), (2, Ptr c 0), (3, Ptr c 0), (4, Ptr c 0), (5, .agg (cu8 (mid ks 0 16)).toArray)] Try.mixed rfl (by decide +kernel) ?_
  have hl2 : (mid ks 0 16).length = 16 := mid_len (by rw [hks]; omega)
  refine DP_two ⟨[], [0, 1, 2, 3, 4, 5], [], [0, 1, 2, 3, 4, 5], [6, 7]⟩ 6 7 _ _ rfl rfl (by decide +kernel) rfl ⟨⟨_, rfl, Qok_val rfl (Ev_load rfl (Ld_agg Try.isAgg27 Try.sizeOf27 (len_cu8 hb) (MemAt.ent 0 rfl (Seg.whole _))))⟩, ⟨_, rfl, Qok_val rfl (Ev_move rfl)⟩, ⟨_, rfl, Qok_val rfl (Ev_nilCheck rfl)⟩, ⟨_, rfl, Qok_val rfl (Ev_fieldAddr 0 103 176 Try.underlying106 rfl Try.sizeOf103 rfl rfl)⟩, ⟨_, rfl, Qok_val rfl (Ev_indexArr 11 27 16 0 Try.underlying103 Try.sizeOf27 rfl rfl (by omega) (by omega) (by omega))⟩, ⟨_, rfl, Qok_val rfl (Ev_load rfl (Ld_agg Try.isAgg27 Try.sizeOf27 (len_cu8 hl2) (MemAt.seg (MemAt.heap hc (by simp)) (Seg.left (Seg.left (segm_u8 0 16 (by rw [hks]; omega)))) (by omega))))⟩, trivial⟩ rfl rfl (Cok_step rfl (Step_callP 73 [.agg (cu8 b).toArray, .agg (cu8 (mid ks 0 16)).toArray] (.agg (cu8 (addL b (mid ks 0 16))).toArray) (Cl_func [.agg (cu8 b).toArray, .agg (cu8 (mid ks 0 16)).toArray] Try.call73 rfl) (fun w1 hw1 => added_c b (mid ks 0 16) w1 hb hl1))) (Cok_step rfl (Step_alloc _ (cu8 (zr8 16)) Try.zeroValue27 (by kernel_rfl))) ?_ ?_
  ·
    rintro v1 L1 ⟨rfl, rfl⟩
    refine ⟨[], ?_⟩
    show DP _ _ _ _ _ _ _ _ [⟨nb1, cu8 b, 27, (0, 0)⟩, ⟨nb2, cu8 (zr8 16), 27, (0, 0)⟩]
    refine DP_one ⟨[6], [0, 1, 2, 3, 4, 5], [0, 1, 2, 3, 4, 5], [], [7]⟩ 7 _ rfl rfl (by decide +kernel) rfl trivial rfl (Cok_step rfl (Step_alloc _ (cu8 (zr8 16)) Try.zeroValue27 (by kernel_rfl))) ?_
    rintro v1 L1 ⟨nb4, hnb4, rfl, rfl⟩
    refine ⟨[], ?_⟩
    show DP _ _ _ _ _ _ _ _ [⟨nb1, cu8 b, 27, (0, 0)⟩, ⟨nb2, cu8 (zr8 16), 27, (0, 0)⟩, ⟨nb4, cu8 (zr8 16), 27, (0, 0)⟩]
    refine DP_one ⟨[6, 7], [0, 1, 2, 3, 4, 5], [0, 1, 2, 3, 4, 5], [], [8]⟩ 8 _ rfl rfl (by decide +kernel) rfl trivial rfl (Cok_step rfl (Step_store 2 nb4 0 16 (cu8 (zr8 16)) 27 (.agg (cu8 (addL b (mid ks 0 16))).toArray) (cu8 (addL b (mid ks 0 16))) (cu8 (addL b (mid ks 0 16))) rfl rfl rfl (by first | rfl | simp) Try.sizeOf27 (len_cu8 (addL_len hb)) (by first | exact one_u8 | exact one_u32 | exact one_u64 | (simp [cu8, cu32, cu64, Value.oneCell']; done)) (by simp [(zr8_len 16)]) (lay_whole (by simp [(zr8_len 16), (addL_len hb)])))) ?_
    rintro v1 L1 ⟨rfl, rfl⟩
    refine ⟨[], ?_⟩
    show DP _ _ _ _ _ _ _ _ [⟨nb1, cu8 b, 27, (0, 0)⟩, ⟨nb2, cu8 (zr8 16), 27, (0, 0)⟩, ⟨nb4, cu8 (addL b (mid ks 0 16)), 27, (0, 0)⟩]
    refine DP_end ⟨[6, 7, 8], [0, 1, 2, 3, 4, 5], [0, 1, 2, 3, 4, 5], [], []⟩ rfl rfl (by decide +kernel) rfl trivial ?_
    refine K_sub (F' := [(5, Ptr nb4 0), (0, Ptr c 0), (4, Ptr nb2 0)]) (Sub.cons (by kernel_rfl) (Sub.cons (by kernel_rfl) (Sub.cons (by kernel_rfl) (Sub.nil)))) ?_
    show JQ _ _ _ [(5, Ptr nb4 0), (0, Ptr c 0), (4, Ptr nb2 0)] _
    refine JQ_then ?_
    refine JC_seq ?_
    refine JC_seq ?_
    refine JC_region ?_
    refine JL_val _ (Ev_move rfl) rfl ?_
    refine JL_val _ (Ev_nilCheck rfl) rfl ?_
    refine JL_val (Ptr c 0) (Ev_fieldAddr 0 103 176 Try.underlying106 rfl Try.sizeOf103 rfl rfl) rfl ?_
    refine JL_val (Slc c 16 9 10) (Ev_sliceA 11 27 16 1 10 16 10 Try.underlying103 Try.sizeOf27 rfl rfl rfl (by omega) (by omega) (by omega) (by omega) (by omega) 9 (by omega)) rfl ?_
    refine JL_val (I64 (9:Int)) (Ev_len Try.underlying111 rfl) rfl ?_
    refine JL_val _ (Ev_move rfl) rfl ?_
    refine JL_nil ?_
    refine JQ_then ?_
    refine JC_block ?_
    refine K_mask [false, true, true] ?_
    show JC _ _ _ _ [⟨nb2, cu8 (zr8 16), 27, (0, 0)⟩, ⟨nb4, cu8 (addL b (mid ks 0 16)), 27, (0, 0)⟩]
    refine JC_loop (ι := Nat × List UInt8) (fun ⟨j, s⟩ => [(0, Ptr c 0), (4, Ptr nb2 0), (5, Ptr nb4 0), (20, Slc c 16 9 10), (21, I64 (9:Int)), (22, I64 ((j:Int)))]) (fun ⟨j, s⟩ => [⟨nb2, cu8 (zr8 16), 27, (0, 0)⟩, ⟨nb4, cu8 s, 27, (0, 0)⟩]) (fun ⟨j, s⟩ => j ≤ 9 ∧ s = encN ks b j ∧ s.length = 16) (fun ⟨j, s⟩ => 9 - j) (0, addL b (mid ks 0 16)) ⟨by omega, by rw [encN], addL_len hb⟩ (Sub.cons rfl (Sub.cons rfl (Sub.cons rfl (Sub.cons rfl (Sub.cons rfl (Sub.cons rfl (Sub.nil))))))) rfl ?_
    rintro ⟨j, s⟩ ⟨hx1, hx2, hs⟩
    show JC _ _ _ [(0, Ptr c 0), (4, Ptr nb2 0), (5, Ptr nb4 0), (20, Slc c 16 9 10), (21, I64 (9:Int)), (22, I64 ((j:Int)))] [⟨nb2, cu8 (zr8 16), 27, (0, 0)⟩, ⟨nb4, cu8 s, 27, (0, 0)⟩]
    refine JC_seq ?_
    refine JC_region ?_
    refine JL_val (.bool (decide (((j:Int)) < (9:Int)))) (Ev_bini rfl rfl fun _ => bin_lss_i _ _) rfl ?_
    refine JL_nil ?_
    refine JQ_then ?_
    refine JC_seq ?_
    refine JC_cond (decide (((j:Int)) < (9:Int))) rfl (fun hb1 => ?_) (fun hb1 => ?_)
    ·
      have hp1 : ((j:Int)) < (9:Int) := of_decide_eq_true hb1
      refine JC_skip ?_
      refine JQ_then ?_
      refine JC_seq ?_
      refine JC_block ?_
      refine JC_seq ?_
      refine JC_region ?_
      refine JL_val (Ptr c (16*j + 16)) (Ev_indexSl 27 16 (16*j + 16) Try.underlying111 Try.sizeOf27 rfl rfl (by omega) (by omega) (by omega)) rfl ?_
      have hl3 : (mid ks (16*j + 16) 16).length = 16 := mid_len (by rw [hks]; omega)
      refine JL_val (.agg (cu8 (mid ks (16*j + 16) 16)).toArray) (Ev_load rfl (Ld_agg Try.isAgg27 Try.sizeOf27 (len_cu8 hl3) (MemAt.seg (MemAt.heap hc (by simp)) (Seg.left (Seg.left (segm_u8 (16*j + 16) 16 (by rw [hks]; omega)))) (by omega)))) rfl ?_
      refine JL_step (Step_alloc _ (cu8 (zr8 16)) Try.zeroValue27 (by kernel_rfl)) rfl ?_
      rintro v1 L1 ⟨nb5, hnb5, rfl, rfl⟩
      show JL _ _ _ _ ((7, Ptr nb5 0) :: _) [⟨nb2, cu8 (zr8 16), 27, (0, 0)⟩, ⟨nb4, cu8 s, 27, (0, 0)⟩, ⟨nb5, cu8 (zr8 16), 27, (0, 0)⟩]
      refine JL_step (Step_store 2 nb5 0 16 (cu8 (zr8 16)) 27 (.agg (cu8 (mid ks (16*j + 16) 16)).toArray) (cu8 (mid ks (16*j + 16) 16)) (cu8 (mid ks (16*j + 16) 16)) rfl rfl rfl (by first | rfl | simp) Try.sizeOf27 (len_cu8 hl3) (by first | exact one_u8 | exact one_u32 | exact one_u64 | (simp [cu8, cu32, cu64, Value.oneCell']; done)) (by simp [(zr8_len 16)]) (lay_whole (by simp [(zr8_len 16), hl3]))) rfl ?_
      rintro v1 L1 ⟨rfl, rfl⟩
      show JL _ _ _ _ _ [⟨nb2, cu8 (zr8 16), 27, (0, 0)⟩, ⟨nb4, cu8 s, 27, (0, 0)⟩, ⟨nb5, cu8 (mid ks (16*j + 16) 16), 27, (0, 0)⟩]
      refine JL_nil ?_
      refine JQ_then ?_
      refine JC_draw 47 5 [(0, .agg (cu8 s).toArray), (1, Ptr c 0), (2, Ptr c 0), (3, Ptr c 176), (5, .agg (cu8 ([(2:UInt8), (3:UInt8), (1:UInt8), (1:UInt8)])).toArray), (7, .agg (cu8 (mid ks (16*j + 16) 16)).toArray)] Try.mixed rfl (by decide +kernel) ?_
      refine DP_one ⟨[], [0, 1, 2, 3, 5, 7], [], [0, 1, 2, 3, 5, 7], [4]⟩ 4 _ rfl rfl (by decide +kernel) rfl ⟨⟨_, rfl, Qok_val rfl (Ev_load rfl (Ld_agg Try.isAgg27 Try.sizeOf27 (len_cu8 hs) (MemAt.ent 1 rfl (Seg.whole _))))⟩, ⟨_, rfl, Qok_val rfl (Ev_move rfl)⟩, ⟨_, rfl, Qok_val rfl (Ev_nilCheck rfl)⟩, ⟨_, rfl, Qok_val rfl (Ev_fieldAddr 176 104 256 Try.underlying106 rfl Try.sizeOf104 rfl rfl)⟩, ⟨_, rfl, Qok_val rfl (Ev_build [(0, U8 (2:UInt8)), (1, U8 (3:UInt8)), (2, U8 (1:UInt8)), (3, U8 (1:UInt8))] _ rfl (fun _ => by kernel_rfl))⟩, ⟨_, rfl, Qok_val rfl (Ev_load rfl (Ld_agg Try.isAgg27 Try.sizeOf27 (len_cu8 hl3) (MemAt.ent 2 rfl (Seg.whole _))))⟩, trivial⟩ rfl (Cok_step rfl (Step_callP 75 [.agg (cu8 s).toArray, Ptr c 176, I64 (1:Int)] (.agg (cu8 (sh1L thereL s)).toArray) (Cl_func [.agg (cu8 s).toArray, Ptr c 176, I64 (1:Int)] Try.call75 rfl) (fun w1 hw1 => shifted1_c s thereL c 176 w1 hs thereL_len (RdA.of hw1 (MemAt.seg (MemAt.heap hc (by simp)) (Seg.left (Seg.right 176 0 (by simp [hks]) rfl (Seg.whole _))) (by omega)) (by simp [thereL_len]))))) ?_
      rintro v1 L1 ⟨rfl, rfl⟩
      refine ⟨[], ?_⟩
      show DP _ _ _ _ _ _ _ _ [⟨nb2, cu8 (zr8 16), 27, (0, 0)⟩, ⟨nb4, cu8 s, 27, (0, 0)⟩, ⟨nb5, cu8 (mid ks (16*j + 16) 16), 27, (0, 0)⟩]
      refine DP_one ⟨[4], [0, 1, 2, 3, 5, 7], [0, 1, 2, 3], [5, 7], [6]⟩ 6 _ rfl rfl (by decide +kernel) rfl ⟨⟨_, rfl, Qok_val rfl (Ev_build [(0, U8 (2:UInt8)), (1, U8 (3:UInt8)), (2, U8 (1:UInt8)), (3, U8 (1:UInt8))] _ rfl (fun _ => by kernel_rfl))⟩, ⟨_, rfl, Qok_val rfl (Ev_load rfl (Ld_agg Try.isAgg27 Try.sizeOf27 (len_cu8 hl3) (MemAt.ent 2 rfl (Seg.whole _))))⟩, trivial⟩ rfl (Cok_step rfl (Step_callP 74 [.agg (cu8 (sh1L thereL s)).toArray, .agg (cu8 ([(2:UInt8), (3:UInt8), (1:UInt8), (1:UInt8)])).toArray] (.agg (cu8 (mixL (sh1L thereL s) ([(2:UInt8), (3:UInt8), (1:UInt8), (1:UInt8)]))).toArray) (Cl_func [.agg (cu8 (sh1L thereL s)).toArray, .agg (cu8 ([(2:UInt8), (3:UInt8), (1:UInt8), (1:UInt8)])).toArray] Try.call74 rfl) (fun w1 hw1 => mixed_c (sh1L thereL s) ([(2:UInt8), (3:UInt8), (1:UInt8), (1:UInt8)]) w1 (sh1L_len _ _) rfl))) ?_
      rintro v1 L1 ⟨rfl, rfl⟩
      refine ⟨[], ?_⟩
      show DP _ _ _ _ _ _ _ _ [⟨nb2, cu8 (zr8 16), 27, (0, 0)⟩, ⟨nb4, cu8 s, 27, (0, 0)⟩, ⟨nb5, cu8 (mid ks (16*j + 16) 16), 27, (0, 0)⟩]
      refine DP_one ⟨[4, 6], [0, 1, 2, 3, 5, 7], [0, 1, 2, 3, 5], [7], [8]⟩ 8 _ rfl rfl (by decide +kernel) rfl ⟨⟨_, rfl, Qok_val rfl (Ev_load rfl (Ld_agg Try.isAgg27 Try.sizeOf27 (len_cu8 hl3) (MemAt.ent 2 rfl (Seg.whole _))))⟩, trivial⟩ rfl (Cok_step rfl (Step_callP 73 [.agg (cu8 (mixL (sh1L thereL s) ([(2:UInt8), (3:UInt8), (1:UInt8), (1:UInt8)]))).toArray, .agg (cu8 (mid ks (16*j + 16) 16)).toArray] (.agg (cu8 (addL (mixL (sh1L thereL s) ([(2:UInt8), (3:UInt8), (1:UInt8), (1:UInt8)])) (mid ks (16*j + 16) 16))).toArray) (Cl_func [.agg (cu8 (mixL (sh1L thereL s) ([(2:UInt8), (3:UInt8), (1:UInt8), (1:UInt8)]))).toArray, .agg (cu8 (mid ks (16*j + 16) 16)).toArray] Try.call73 rfl) (fun w1 hw1 => added_c (mixL (sh1L thereL s) ([(2:UInt8), (3:UInt8), (1:UInt8), (1:UInt8)])) (mid ks (16*j + 16) 16) w1 (mixL_len _ _) hl3))) ?_
      rintro v1 L1 ⟨rfl, rfl⟩
      refine ⟨[], ?_⟩
      show DP _ _ _ _ _ _ _ _ [⟨nb2, cu8 (zr8 16), 27, (0, 0)⟩, ⟨nb4, cu8 s, 27, (0, 0)⟩, ⟨nb5, cu8 (mid ks (16*j + 16) 16), 27, (0, 0)⟩]
      refine DP_one ⟨[4, 6, 8], [0, 1, 2, 3, 5, 7], [0, 1, 2, 3, 5, 7], [], [9]⟩ 9 _ rfl rfl (by decide +kernel) rfl trivial rfl (Cok_step rfl (Step_store 1 nb4 0 16 (cu8 s) 27 (.agg (cu8 (addL (mixL (sh1L thereL s) ([(2:UInt8), (3:UInt8), (1:UInt8), (1:UInt8)])) (mid ks (16*j + 16) 16))).toArray) (cu8 (addL (mixL (sh1L thereL s) ([(2:UInt8), (3:UInt8), (1:UInt8), (1:UInt8)])) (mid ks (16*j + 16) 16))) (cu8 (addL (mixL (sh1L thereL s) ([(2:UInt8), (3:UInt8), (1:UInt8), (1:UInt8)])) (mid ks (16*j + 16) 16))) rfl rfl rfl (by first | rfl | simp) Try.sizeOf27 (len_cu8 (addL_len (mixL_len _ _))) (by first | exact one_u8 | exact one_u32 | exact one_u64 | (simp [cu8, cu32, cu64, Value.oneCell']; done)) (by simp [hs]) (lay_whole (by simp [hs, (addL_len (mixL_len _ _))])))) ?_
      rintro v1 L1 ⟨rfl, rfl⟩
      refine ⟨[], ?_⟩
      show DP _ _ _ _ _ _ _ _ [⟨nb2, cu8 (zr8 16), 27, (0, 0)⟩, ⟨nb4, cu8 (addL (mixL (sh1L thereL s) ([(2:UInt8), (3:UInt8), (1:UInt8), (1:UInt8)])) (mid ks (16*j + 16) 16)), 27, (0, 0)⟩, ⟨nb5, cu8 (mid ks (16*j + 16) 16), 27, (0, 0)⟩]
      refine DP_end ⟨[4, 6, 8, 9], [0, 1, 2, 3, 5, 7], [0, 1, 2, 3, 5, 7], [], []⟩ rfl rfl (by decide +kernel) rfl trivial ?_
      refine K_sub (F' := [(26, .agg (cu8 s).toArray), (27, Ptr c 0), (28, Ptr c 0), (29, Ptr c 176), (30, .agg (cu8 (sh1L thereL s)).toArray), (31, .agg (cu8 ([(2:UInt8), (3:UInt8), (1:UInt8), (1:UInt8)])).toArray), (32, .agg (cu8 (mixL (sh1L thereL s) ([(2:UInt8), (3:UInt8), (1:UInt8), (1:UInt8)]))).toArray), (33, .agg (cu8 (mid ks (16*j + 16) 16)).toArray), (34, .agg (cu8 (addL (mixL (sh1L thereL s) ([(2:UInt8), (3:UInt8), (1:UInt8), (1:UInt8)])) (mid ks (16*j + 16) 16))).toArray), (0, Ptr c 0), (4, Ptr nb2 0), (5, Ptr nb4 0), (20, Slc c 16 9 10), (21, I64 (9:Int)), (22, I64 ((j:Int))), (23, .bool (decide (((j:Int)) < (9:Int)))), (24, Ptr c (16*j + 16)), (25, .agg (cu8 (mid ks (16*j + 16) 16)).toArray), (7, Ptr nb5 0)]) (Sub.cons (by kernel_rfl) (Sub.cons (by kernel_rfl) (Sub.cons (by kernel_rfl) (Sub.cons (by kernel_rfl) (Sub.cons (by kernel_rfl) (Sub.cons (by kernel_rfl) (Sub.cons (by kernel_rfl) (Sub.cons (by kernel_rfl) (Sub.cons (by kernel_rfl) (Sub.cons (by kernel_rfl) (Sub.cons (by kernel_rfl) (Sub.cons (by kernel_rfl) (Sub.cons (by kernel_rfl) (Sub.cons (by kernel_rfl) (Sub.cons (by kernel_rfl) (Sub.cons (by kernel_rfl) (Sub.cons (by kernel_rfl) (Sub.cons (by kernel_rfl) (Sub.cons (by kernel_rfl) (Sub.nil)))))))))))))))))))) ?_
      show JQ _ _ _ [(26, .agg (cu8 s).toArray), (27, Ptr c 0), (28, Ptr c 0), (29, Ptr c 176), (30, .agg (cu8 (sh1L thereL s)).toArray), (31, .agg (cu8 ([(2:UInt8), (3:UInt8), (1:UInt8), (1:UInt8)])).toArray), (32, .agg (cu8 (mixL (sh1L thereL s) ([(2:UInt8), (3:UInt8), (1:UInt8), (1:UInt8)]))).toArray), (33, .agg (cu8 (mid ks (16*j + 16) 16)).toArray), (34, .agg (cu8 (addL (mixL (sh1L thereL s) ([(2:UInt8), (3:UInt8), (1:UInt8), (1:UInt8)])) (mid ks (16*j + 16) 16))).toArray), (0, Ptr c 0), (4, Ptr nb2 0), (5, Ptr nb4 0), (20, Slc c 16 9 10), (21, I64 (9:Int)), (22, I64 ((j:Int))), (23, .bool (decide (((j:Int)) < (9:Int)))), (24, Ptr c (16*j + 16)), (25, .agg (cu8 (mid ks (16*j + 16) 16)).toArray), (7, Ptr nb5 0)] _
      refine JQ_in_normal ?_
      refine JQ_then ?_
      refine JC_region ?_
      refine JL_val (I64 ((j:Int) + 1)) (Ev_bini rfl rfl fun _ => bin_add_i _ _ ((j:Int) + 1) (by omega) (by omega)) rfl ?_
      refine JL_val _ (Ev_move rfl) rfl ?_
      refine JL_nil ?_
      refine JQ_thenK ?_
      refine K_mask [true, true, false] ?_
      show K _ _ [⟨nb2, cu8 (zr8 16), 27, (0, 0)⟩, ⟨nb4, cu8 (addL (mixL (sh1L thereL s) ([(2:UInt8), (3:UInt8), (1:UInt8), (1:UInt8)])) (mid ks (16*j + 16) 16)), 27, (0, 0)⟩] _
      refine K_next (j + 1, addL (mixL (sh1L thereL s) ([(2:UInt8), (3:UInt8), (1:UInt8), (1:UInt8)])) (mid ks (16*j + 16) 16)) ⟨by omega, by rw [encN, ← hx2], (addL_len (mixL_len _ _))⟩ (by simp; omega) (Sub.cons rfl (Sub.cons rfl (Sub.cons rfl (Sub.cons rfl (Sub.cons rfl (Sub.cons rfl (Sub.nil))))))) rfl
    ·
      have hp1 : ¬ (((j:Int)) < (9:Int)) := of_decide_eq_false hb1
      refine JC_exit ?_
      refine JQ_then_exit ?_
      refine JQ_then_exit ?_
      refine JQ_in_same ?_
      refine JQ_then ?_
      refine JC_seq ?_
      have hl4 : (mid ks 160 16).length = 16 := mid_len (by rw [hks]; omega)
      refine JC_draw 47 4 [(0, .agg (cu8 s).toArray), (1, Ptr c 0), (2, Ptr c 0), (3, Ptr c 176), (5, Ptr c 0), (6, Ptr c 0), (7, Ptr c 0), (8, Ptr c 160), (9, .agg (cu8 (mid ks 160 16)).toArray)] Try.mixed rfl (by decide +kernel) ?_
      have hl5 : (mid ks 160 16).length = 16 := mid_len (by rw [hks]; omega)
      refine DP_one ⟨[], [0, 1, 2, 3, 5, 6, 7, 8, 9], [], [0, 1, 2, 3, 5, 6, 7, 8, 9], [4]⟩ 4 _ rfl rfl (by decide +kernel) rfl ⟨⟨_, rfl, Qok_val rfl (Ev_load rfl (Ld_agg Try.isAgg27 Try.sizeOf27 (len_cu8 hs) (MemAt.ent 1 rfl (Seg.whole _))))⟩, ⟨_, rfl, Qok_val rfl (Ev_move rfl)⟩, ⟨_, rfl, Qok_val rfl (Ev_nilCheck rfl)⟩, ⟨_, rfl, Qok_val rfl (Ev_fieldAddr 176 104 256 Try.underlying106 rfl Try.sizeOf104 rfl rfl)⟩, ⟨_, rfl, Qok_val rfl (Ev_move rfl)⟩, ⟨_, rfl, Qok_val rfl (Ev_nilCheck rfl)⟩, ⟨_, rfl, Qok_val rfl (Ev_fieldAddr 0 103 176 Try.underlying106 rfl Try.sizeOf103 rfl rfl)⟩, ⟨_, rfl, Qok_val rfl (Ev_indexArr 11 27 16 160 Try.underlying103 Try.sizeOf27 rfl rfl (by omega) (by omega) (by omega))⟩, ⟨_, rfl, Qok_val rfl (Ev_load rfl (Ld_agg Try.isAgg27 Try.sizeOf27 (len_cu8 hl5) (MemAt.seg (MemAt.heap hc (by simp)) (Seg.left (Seg.left (segm_u8 160 16 (by rw [hks]; omega)))) (by omega))))⟩, trivial⟩ rfl (Cok_step rfl (Step_callP 75 [.agg (cu8 s).toArray, Ptr c 176, I64 (1:Int)] (.agg (cu8 (sh1L thereL s)).toArray) (Cl_func [.agg (cu8 s).toArray, Ptr c 176, I64 (1:Int)] Try.call75 rfl) (fun w1 hw1 => shifted1_c s thereL c 176 w1 hs thereL_len (RdA.of hw1 (MemAt.seg (MemAt.heap hc (by simp)) (Seg.left (Seg.right 176 0 (by simp [hks]) rfl (Seg.whole _))) (by omega)) (by simp [thereL_len]))))) ?_
      rintro v1 L1 ⟨rfl, rfl⟩
      refine ⟨[], ?_⟩
      show DP _ _ _ _ _ _ _ _ [⟨nb2, cu8 (zr8 16), 27, (0, 0)⟩, ⟨nb4, cu8 s, 27, (0, 0)⟩]
      have hl6 : (mid ks 160 16).length = 16 := mid_len (by rw [hks]; omega)
      refine DP_one ⟨[4], [0, 1, 2, 3, 5, 6, 7, 8, 9], [0, 1, 2, 3], [5, 6, 7, 8, 9], [10]⟩ 10 _ rfl rfl (by decide +kernel) rfl ⟨⟨_, rfl, Qok_val rfl (Ev_move rfl)⟩, ⟨_, rfl, Qok_val rfl (Ev_nilCheck rfl)⟩, ⟨_, rfl, Qok_val rfl (Ev_fieldAddr 0 103 176 Try.underlying106 rfl Try.sizeOf103 rfl rfl)⟩, ⟨_, rfl, Qok_val rfl (Ev_indexArr 11 27 16 160 Try.underlying103 Try.sizeOf27 rfl rfl (by omega) (by omega) (by omega))⟩, ⟨_, rfl, Qok_val rfl (Ev_load rfl (Ld_agg Try.isAgg27 Try.sizeOf27 (len_cu8 hl6) (MemAt.seg (MemAt.heap hc (by simp)) (Seg.left (Seg.left (segm_u8 160 16 (by rw [hks]; omega)))) (by omega))))⟩, trivial⟩ rfl (Cok_step rfl (Step_callP 73 [.agg (cu8 (sh1L thereL s)).toArray, .agg (cu8 (mid ks 160 16)).toArray] (.agg (cu8 (addL (sh1L thereL s) (mid ks 160 16))).toArray) (Cl_func [.agg (cu8 (sh1L thereL s)).toArray, .agg (cu8 (mid ks 160 16)).toArray] Try.call73 rfl) (fun w1 hw1 => added_c (sh1L thereL s) (mid ks 160 16) w1 (sh1L_len _ _) hl4))) ?_
      rintro v1 L1 ⟨rfl, rfl⟩
      refine ⟨[], ?_⟩
      show DP _ _ _ _ _ _ _ _ [⟨nb2, cu8 (zr8 16), 27, (0, 0)⟩, ⟨nb4, cu8 s, 27, (0, 0)⟩]
      refine DP_one ⟨[4, 10], [0, 1, 2, 3, 5, 6, 7, 8, 9], [0, 1, 2, 3, 5, 6, 7, 8, 9], [], [11]⟩ 11 _ rfl rfl (by decide +kernel) rfl trivial rfl (Cok_step rfl (Step_store 0 nb2 0 16 (cu8 (zr8 16)) 27 (.agg (cu8 (addL (sh1L thereL s) (mid ks 160 16))).toArray) (cu8 (addL (sh1L thereL s) (mid ks 160 16))) (cu8 (addL (sh1L thereL s) (mid ks 160 16))) rfl rfl rfl (by first | rfl | simp) Try.sizeOf27 (len_cu8 (addL_len (sh1L_len _ _))) (by first | exact one_u8 | exact one_u32 | exact one_u64 | (simp [cu8, cu32, cu64, Value.oneCell']; done)) (by simp [(zr8_len 16)]) (lay_whole (by simp [(zr8_len 16), (addL_len (sh1L_len _ _))])))) ?_
      rintro v1 L1 ⟨rfl, rfl⟩
      refine ⟨[], ?_⟩
      show DP _ _ _ _ _ _ _ _ [⟨nb2, cu8 (addL (sh1L thereL s) (mid ks 160 16)), 27, (0, 0)⟩, ⟨nb4, cu8 s, 27, (0, 0)⟩]
      refine DP_end ⟨[4, 10, 11], [0, 1, 2, 3, 5, 6, 7, 8, 9], [0, 1, 2, 3, 5, 6, 7, 8, 9], [], []⟩ rfl rfl (by decide +kernel) rfl trivial ?_
      refine K_sub (F' := [(4, Ptr nb2 0)]) (Sub.cons (by kernel_rfl) (Sub.nil)) ?_
      show JQ _ _ _ [(4, Ptr nb2 0)] _
      refine JQ_then ?_
      refine JC_ret ?_
      refine JQ_ret (.agg (cu8 (addL (sh1L thereL s) (mid ks 160 16))).toArray) (res1 Try.results27 (RV_cell rfl (Ld_agg Try.isAgg27 Try.sizeOf27 (len_cu8 (addL_len (sh1L_len _ _))) (MemAt.ent 0 rfl (Seg.whole _))))) fun w1 hw1 => ?_
      have e1 : j = 9 := by omega
      subst e1
      subst hx2
      exact ⟨_, [], rfl, ⟨rfl, rfl⟩, hw1.sub (by simp) (by simp)⟩
  ·
    rintro v1 L1 ⟨nb3, hnb3, rfl, rfl⟩
    refine ⟨[], ?_⟩
    show DP _ _ _ _ _ _ _ _ [⟨nb1, cu8 b, 27, (0, 0)⟩, ⟨nb2, cu8 (zr8 16), 27, (0, 0)⟩, ⟨nb3, cu8 (zr8 16), 27, (0, 0)⟩]
    have hl7 : (mid ks 0 16).length = 16 := mid_len (by rw [hks]; omega)
    refine DP_one ⟨[7], [0, 1, 2, 3, 4, 5], [], [0, 1, 2, 3, 4, 5], [6]⟩ 6 _ rfl rfl (by decide +kernel) rfl ⟨⟨_, rfl, Qok_val rfl (Ev_load rfl (Ld_agg Try.isAgg27 Try.sizeOf27 (len_cu8 hb) (MemAt.ent 0 rfl (Seg.whole _))))⟩, ⟨_, rfl, Qok_val rfl (Ev_move rfl)⟩, ⟨_, rfl, Qok_val rfl (Ev_nilCheck rfl)⟩, ⟨_, rfl, Qok_val rfl (Ev_fieldAddr 0 103 176 Try.underlying106 rfl Try.sizeOf103 rfl rfl)⟩, ⟨_, rfl, Qok_val rfl (Ev_indexArr 11 27 16 0 Try.underlying103 Try.sizeOf27 rfl rfl (by omega) (by omega) (by omega))⟩, ⟨_, rfl, Qok_val rfl (Ev_load rfl (Ld_agg Try.isAgg27 Try.sizeOf27 (len_cu8 hl7) (MemAt.seg (MemAt.heap hc (by simp)) (Seg.left (Seg.left (segm_u8 0 16 (by rw [hks]; omega)))) (by omega))))⟩, trivial⟩ rfl (Cok_step rfl (Step_callP 73 [.agg (cu8 b).toArray, .agg (cu8 (mid ks 0 16)).toArray] (.agg (cu8 (addL b (mid ks 0 16))).toArray) (Cl_func [.agg (cu8 b).toArray, .agg (cu8 (mid ks 0 16)).toArray] Try.call73 rfl) (fun w1 hw1 => added_c b (mid ks 0 16) w1 hb hl1))) ?_
    rintro v1 L1 ⟨rfl, rfl⟩
    refine ⟨[], ?_⟩
    show DP _ _ _ _ _ _ _ _ [⟨nb1, cu8 b, 27, (0, 0)⟩, ⟨nb2, cu8 (zr8 16), 27, (0, 0)⟩, ⟨nb3, cu8 (zr8 16), 27, (0, 0)⟩]
    refine DP_one ⟨[7, 6], [0, 1, 2, 3, 4, 5], [0, 1, 2, 3, 4, 5], [], [8]⟩ 8 _ rfl rfl (by decide +kernel) rfl trivial rfl (Cok_step rfl (Step_store 2 nb3 0 16 (cu8 (zr8 16)) 27 (.agg (cu8 (addL b (mid ks 0 16))).toArray) (cu8 (addL b (mid ks 0 16))) (cu8 (addL b (mid ks 0 16))) rfl rfl rfl (by first | rfl | simp) Try.sizeOf27 (len_cu8 (addL_len hb)) (by first | exact one_u8 | exact one_u32 | exact one_u64 | (simp [cu8, cu32, cu64, Value.oneCell']; done)) (by simp [(zr8_len 16)]) (lay_whole (by simp [(zr8_len 16), (addL_len hb)])))) ?_
    rintro v1 L1 ⟨rfl, rfl⟩
    refine ⟨[], ?_⟩
    show DP _ _ _ _ _ _ _ _ [⟨nb1, cu8 b, 27, (0, 0)⟩, ⟨nb2, cu8 (zr8 16), 27, (0, 0)⟩, ⟨nb3, cu8 (addL b (mid ks 0 16)), 27, (0, 0)⟩]
    refine DP_end ⟨[7, 6, 8], [0, 1, 2, 3, 4, 5], [0, 1, 2, 3, 4, 5], [], []⟩ rfl rfl (by decide +kernel) rfl trivial ?_
    refine K_sub (F' := [(5, Ptr nb3 0), (0, Ptr c 0), (4, Ptr nb2 0)]) (Sub.cons (by kernel_rfl) (Sub.cons (by kernel_rfl) (Sub.cons (by kernel_rfl) (Sub.nil)))) ?_
    show JQ _ _ _ [(5, Ptr nb3 0), (0, Ptr c 0), (4, Ptr nb2 0)] _
    refine JQ_then ?_
    refine JC_seq ?_
    refine JC_seq ?_
    refine JC_region ?_
    refine JL_val _ (Ev_move rfl) rfl ?_
    refine JL_val _ (Ev_nilCheck rfl) rfl ?_
    refine JL_val (Ptr c 0) (Ev_fieldAddr 0 103 176 Try.underlying106 rfl Try.sizeOf103 rfl rfl) rfl ?_
    refine JL_val (Slc c 16 9 10) (Ev_sliceA 11 27 16 1 10 16 10 Try.underlying103 Try.sizeOf27 rfl rfl rfl (by omega) (by omega) (by omega) (by omega) (by omega) 9 (by omega)) rfl ?_
    refine JL_val (I64 (9:Int)) (Ev_len Try.underlying111 rfl) rfl ?_
    refine JL_val _ (Ev_move rfl) rfl ?_
    refine JL_nil ?_
    refine JQ_then ?_
    refine JC_block ?_
    refine K_mask [false, true, true] ?_
    show JC _ _ _ _ [⟨nb2, cu8 (zr8 16), 27, (0, 0)⟩, ⟨nb3, cu8 (addL b (mid ks 0 16)), 27, (0, 0)⟩]
    refine JC_loop (ι := Nat × List UInt8) (fun ⟨j, s⟩ => [(0, Ptr c 0), (4, Ptr nb2 0), (5, Ptr nb3 0), (20, Slc c 16 9 10), (21, I64 (9:Int)), (22, I64 ((j:Int)))]) (fun ⟨j, s⟩ => [⟨nb2, cu8 (zr8 16), 27, (0, 0)⟩, ⟨nb3, cu8 s, 27, (0, 0)⟩]) (fun ⟨j, s⟩ => j ≤ 9 ∧ s = encN ks b j ∧ s.length = 16) (fun ⟨j, s⟩ => 9 - j) (0, addL b (mid ks 0 16)) ⟨by omega, by rw [encN], addL_len hb⟩ (Sub.cons rfl (Sub.cons rfl (Sub.cons rfl (Sub.cons rfl (Sub.cons rfl (Sub.cons rfl (Sub.nil))))))) rfl ?_
    rintro ⟨j, s⟩ ⟨hx1, hx2, hs⟩
    show JC _ _ _ [(0, Ptr c 0), (4, Ptr nb2 0), (5, Ptr nb3 0), (20, Slc c 16 9 10), (21, I64 (9:Int)), (22, I64 ((j:Int)))] [⟨nb2, cu8 (zr8 16), 27, (0, 0)⟩, ⟨nb3, cu8 s, 27, (0, 0)⟩]
    refine JC_seq ?_
    refine JC_region ?_
    refine JL_val (.bool (decide (((j:Int)) < (9:Int)))) (Ev_bini rfl rfl fun _ => bin_lss_i _ _) rfl ?_
    refine JL_nil ?_
    refine JQ_then ?_
    refine JC_seq ?_
    refine JC_cond (decide (((j:Int)) < (9:Int))) rfl (fun hb2 => ?_) (fun hb2 => ?_)
    ·
      have hp2 : ((j:Int)) < (9:Int) := of_decide_eq_true hb2
      refine JC_skip ?_
      refine JQ_then ?_
      refine JC_seq ?_
      refine JC_block ?_
      refine JC_seq ?_
      refine JC_region ?_
      refine JL_val (Ptr c (16*j + 16)) (Ev_indexSl 27 16 (16*j + 16) Try.underlying111 Try.sizeOf27 rfl rfl (by omega) (by omega) (by omega)) rfl ?_
      have hl8 : (mid ks (16*j + 16) 16).length = 16 := mid_len (by rw [hks]; omega)
      refine JL_val (.agg (cu8 (mid ks (16*j + 16) 16)).toArray) (Ev_load rfl (Ld_agg Try.isAgg27 Try.sizeOf27 (len_cu8 hl8) (MemAt.seg (MemAt.heap hc (by simp)) (Seg.left (Seg.left (segm_u8 (16*j + 16) 16 (by rw [hks]; omega)))) (by omega)))) rfl ?_
      refine JL_step (Step_alloc _ (cu8 (zr8 16)) Try.zeroValue27 (by kernel_rfl)) rfl ?_
      rintro v1 L1 ⟨nb6, hnb6, rfl, rfl⟩
      show JL _ _ _ _ ((7, Ptr nb6 0) :: _) [⟨nb2, cu8 (zr8 16), 27, (0, 0)⟩, ⟨nb3, cu8 s, 27, (0, 0)⟩, ⟨nb6, cu8 (zr8 16), 27, (0, 0)⟩]
      refine JL_step (Step_store 2 nb6 0 16 (cu8 (zr8 16)) 27 (.agg (cu8 (mid ks (16*j + 16) 16)).toArray) (cu8 (mid ks (16*j + 16) 16)) (cu8 (mid ks (16*j + 16) 16)) rfl rfl rfl (by first | rfl | simp) Try.sizeOf27 (len_cu8 hl8) (by first | exact one_u8 | exact one_u32 | exact one_u64 | (simp [cu8, cu32, cu64, Value.oneCell']; done)) (by simp [(zr8_len 16)]) (lay_whole (by simp [(zr8_len 16), hl8]))) rfl ?_
      rintro v1 L1 ⟨rfl, rfl⟩
      show JL _ _ _ _ _ [⟨nb2, cu8 (zr8 16), 27, (0, 0)⟩, ⟨nb3, cu8 s, 27, (0, 0)⟩, ⟨nb6, cu8 (mid ks (16*j + 16) 16), 27, (0, 0)⟩]
      refine JL_nil ?_
      refine JQ_then ?_
      refine JC_draw 47 5 [(0, .agg (cu8 s).toArray), (1, Ptr c 0), (2, Ptr c 0), (3, Ptr c 176), (5, .agg (cu8 ([(2:UInt8), (3:UInt8), (1:UInt8), (1:UInt8)])).toArray), (7, .agg (cu8 (mid ks (16*j + 16) 16)).toArray)] Try.mixed rfl (by decide +kernel) ?_
      refine DP_one ⟨[], [0, 1, 2, 3, 5, 7], [], [0, 1, 2, 3, 5, 7], [4]⟩ 4 _ rfl rfl (by decide +kernel) rfl ⟨⟨_, rfl, Qok_val rfl (Ev_load rfl (Ld_agg Try.isAgg27 Try.sizeOf27 (len_cu8 hs) (MemAt.ent 1 rfl (Seg.whole _))))⟩, ⟨_, rfl, Qok_val rfl (Ev_move rfl)⟩, ⟨_, rfl, Qok_val rfl (Ev_nilCheck rfl)⟩, ⟨_, rfl, Qok_val rfl (Ev_fieldAddr 176 104 256 Try.underlying106 rfl Try.sizeOf104 rfl rfl)⟩, ⟨_, rfl, Qok_val rfl (Ev_build [(0, U8 (2:UInt8)), (1, U8 (3:UInt8)), (2, U8 (1:UInt8)), (3, U8 (1:UInt8))] _ rfl (fun _ => by kernel_rfl))⟩, ⟨_, rfl, Qok_val rfl (Ev_load rfl (Ld_agg Try.isAgg27 Try.sizeOf27 (len_cu8 hl8) (MemAt.ent 2 rfl (Seg.whole _))))⟩, trivial⟩ rfl (Cok_step rfl (Step_callP 75 [.agg (cu8 s).toArray, Ptr c 176, I64 (1:Int)] (.agg (cu8 (sh1L thereL s)).toArray) (Cl_func [.agg (cu8 s).toArray, Ptr c 176, I64 (1:Int)] Try.call75 rfl) (fun w1 hw1 => shifted1_c s thereL c 176 w1 hs thereL_len (RdA.of hw1 (MemAt.seg (MemAt.heap hc (by simp)) (Seg.left (Seg.right 176 0 (by simp [hks]) rfl (Seg.whole _))) (by omega)) (by simp [thereL_len]))))) ?_
      rintro v1 L1 ⟨rfl, rfl⟩
      refine ⟨[], ?_⟩
      show DP _ _ _ _ _ _ _ _ [⟨nb2, cu8 (zr8 16), 27, (0, 0)⟩, ⟨nb3, cu8 s, 27, (0, 0)⟩, ⟨nb6, cu8 (mid ks (16*j + 16) 16), 27, (0, 0)⟩]
      refine DP_one ⟨[4], [0, 1, 2, 3, 5, 7], [0, 1, 2, 3], [5, 7], [6]⟩ 6 _ rfl rfl (by decide +kernel) rfl ⟨⟨_, rfl, Qok_val rfl (Ev_build [(0, U8 (2:UInt8)), (1, U8 (3:UInt8)), (2, U8 (1:UInt8)), (3, U8 (1:UInt8))] _ rfl (fun _ => by kernel_rfl))⟩, ⟨_, rfl, Qok_val rfl (Ev_load rfl (Ld_agg Try.isAgg27 Try.sizeOf27 (len_cu8 hl8) (MemAt.ent 2 rfl (Seg.whole _))))⟩, trivial⟩ rfl (Cok_step rfl (Step_callP 74 [.agg (cu8 (sh1L thereL s)).toArray, .agg (cu8 ([(2:UInt8), (3:UInt8), (1:UInt8), (1:UInt8)])).toArray] (.agg (cu8 (mixL (sh1L thereL s) ([(2:UInt8), (3:UInt8), (1:UInt8), (1:UInt8)]))).toArray) (Cl_func [.agg (cu8 (sh1L thereL s)).toArray, .agg (cu8 ([(2:UInt8), (3:UInt8), (1:UInt8), (1:UInt8)])).toArray] Try.call74 rfl) (fun w1 hw1 => mixed_c (sh1L thereL s) ([(2:UInt8), (3:UInt8), (1:UInt8), (1:UInt8)]) w1 (sh1L_len _ _) rfl))) ?_
      rintro v1 L1 ⟨rfl, rfl⟩
      refine ⟨[], ?_⟩
      show DP _ _ _ _ _ _ _ _ [⟨nb2, cu8 (zr8 16), 27, (0, 0)⟩, ⟨nb3, cu8 s, 27, (0, 0)⟩, ⟨nb6, cu8 (mid ks (16*j + 16) 16), 27, (0, 0)⟩]
      refine DP_one ⟨[4, 6], [0, 1, 2, 3, 5, 7], [0, 1, 2, 3, 5], [7], [8]⟩ 8 _ rfl rfl (by decide +kernel) rfl ⟨⟨_, rfl, Qok_val rfl (Ev_load rfl (Ld_agg Try.isAgg27 Try.sizeOf27 (len_cu8 hl8) (MemAt.ent 2 rfl (Seg.whole _))))⟩, trivial⟩ rfl (Cok_step rfl (Step_callP 73 [.agg (cu8 (mixL (sh1L thereL s) ([(2:UInt8), (3:UInt8), (1:UInt8), (1:UInt8)]))).toArray, .agg (cu8 (mid ks (16*j + 16) 16)).toArray] (.agg (cu8 (addL (mixL (sh1L thereL s) ([(2:UInt8), (3:UInt8), (1:UInt8), (1:UInt8)])) (mid ks (16*j + 16) 16))).toArray) (Cl_func [.agg (cu8 (mixL (sh1L thereL s) ([(2:UInt8), (3:UInt8), (1:UInt8), (1:UInt8)]))).toArray, .agg (cu8 (mid ks (16*j + 16) 16)).toArray] Try.call73 rfl) (fun w1 hw1 => added_c (mixL (sh1L thereL s) ([(2:UInt8), (3:UInt8), (1:UInt8), (1:UInt8)])) (mid ks (16*j + 16) 16) w1 (mixL_len _ _) hl8))) ?_
      rintro v1 L1 ⟨rfl, rfl⟩
      refine ⟨[], ?_⟩
      show DP _ _ _ _ _ _ _ _ [⟨nb2, cu8 (zr8 16), 27, (0, 0)⟩, ⟨nb3, cu8 s, 27, (0, 0)⟩, ⟨nb6, cu8 (mid ks (16*j + 16) 16), 27, (0, 0)⟩]
      refine DP_one ⟨[4, 6, 8], [0, 1, 2, 3, 5, 7], [0, 1, 2, 3, 5, 7], [], [9]⟩ 9 _ rfl rfl (by decide +kernel) rfl trivial rfl (Cok_step rfl (Step_store 1 nb3 0 16 (cu8 s) 27 (.agg (cu8 (addL (mixL (sh1L thereL s) ([(2:UInt8), (3:UInt8), (1:UInt8), (1:UInt8)])) (mid ks (16*j + 16) 16))).toArray) (cu8 (addL (mixL (sh1L thereL s) ([(2:UInt8), (3:UInt8), (1:UInt8), (1:UInt8)])) (mid ks (16*j + 16) 16))) (cu8 (addL (mixL (sh1L thereL s) ([(2:UInt8), (3:UInt8), (1:UInt8), (1:UInt8)])) (mid ks (16*j + 16) 16))) rfl rfl rfl (by first | rfl | simp) Try.sizeOf27 (len_cu8 (addL_len (mixL_len _ _))) (by first | exact one_u8 | exact one_u32 | exact one_u64 | (simp [cu8, cu32, cu64, Value.oneCell']; done)) (by simp [hs]) (lay_whole (by simp [hs, (addL_len (mixL_len _ _))])))) ?_
      rintro v1 L1 ⟨rfl, rfl⟩
      refine ⟨[], ?_⟩
      show DP _ _ _ _ _ _ _ _ [⟨nb2, cu8 (zr8 16), 27, (0, 0)⟩, ⟨nb3, cu8 (addL (mixL (sh1L thereL s) ([(2:UInt8), (3:UInt8), (1:UInt8), (1:UInt8)])) (mid ks (16*j + 16) 16)), 27, (0, 0)⟩, ⟨nb6, cu8 (mid ks (16*j + 16) 16), 27, (0, 0)⟩]
      refine DP_end ⟨[4, 6, 8, 9], [0, 1, 2, 3, 5, 7], [0, 1, 2, 3, 5, 7], [], []⟩ rfl rfl (by decide +kernel) rfl trivial ?_
      refine K_sub (F' := [(26, .agg (cu8 s).toArray), (27, Ptr c 0), (28, Ptr c 0), (29, Ptr c 176), (30, .agg (cu8 (sh1L thereL s)).toArray), (31, .agg (cu8 ([(2:UInt8), (3:UInt8), (1:UInt8), (1:UInt8)])).toArray), (32, .agg (cu8 (mixL (sh1L thereL s) ([(2:UInt8), (3:UInt8), (1:UInt8), (1:UInt8)]))).toArray), (33, .agg (cu8 (mid ks (16*j + 16) 16)).toArray), (34, .agg (cu8 (addL (mixL (sh1L thereL s) ([(2:UInt8), (3:UInt8), (1:UInt8), (1:UInt8)])) (mid ks (16*j + 16) 16))).toArray), (0, Ptr c 0), (4, Ptr nb2 0), (5, Ptr nb3 0), (20, Slc c 16 9 10), (21, I64 (9:Int)), (22, I64 ((j:Int))), (23, .bool (decide (((j:Int)) < (9:Int)))), (24, Ptr c (16*j + 16)), (25, .agg (cu8 (mid ks (16*j + 16) 16)).toArray), (7, Ptr nb6 0)]) (Sub.cons (by kernel_rfl) (Sub.cons (by kernel_rfl) (Sub.cons (by kernel_rfl) (Sub.cons (by kernel_rfl) (Sub.cons (by kernel_rfl) (Sub.cons (by kernel_rfl) (Sub.cons (by kernel_rfl) (Sub.cons (by kernel_rfl) (Sub.cons (by kernel_rfl) (Sub.cons (by kernel_rfl) (Sub.cons (by kernel_rfl) (Sub.cons (by kernel_rfl) (Sub.cons (by kernel_rfl) (Sub.cons (by kernel_rfl) (Sub.cons (by kernel_rfl) (Sub.cons (by kernel_rfl) (Sub.cons (by kernel_rfl) (Sub.cons (by kernel_rfl) (Sub.cons (by kernel_rfl) (Sub.nil)))))))))))))))))))) ?_
      show JQ _ _ _ [(26, .agg (cu8 s).toArray), (27, Ptr c 0), (28, Ptr c 0), (29, Ptr c 176), (30, .agg (cu8 (sh1L thereL s)).toArray), (31, .agg (cu8 ([(2:UInt8), (3:UInt8), (1:UInt8), (1:UInt8)])).toArray), (32, .agg (cu8 (mixL (sh1L thereL s) ([(2:UInt8), (3:UInt8), (1:UInt8), (1:UInt8)]))).toArray), (33, .agg (cu8 (mid ks (16*j + 16) 16)).toArray), (34, .agg (cu8 (addL (mixL (sh1L thereL s) ([(2:UInt8), (3:UInt8), (1:UInt8), (1:UInt8)])) (mid ks (16*j + 16) 16))).toArray), (0, Ptr c 0), (4, Ptr nb2 0), (5, Ptr nb3 0), (20, Slc c 16 9 10), (21, I64 (9:Int)), (22, I64 ((j:Int))), (23, .bool (decide (((j:Int)) < (9:Int)))), (24, Ptr c (16*j + 16)), (25, .agg (cu8 (mid ks (16*j + 16) 16)).toArray), (7, Ptr nb6 0)] _
      refine JQ_in_normal ?_
      refine JQ_then ?_
      refine JC_region ?_
      refine JL_val (I64 ((j:Int) + 1)) (Ev_bini rfl rfl fun _ => bin_add_i _ _ ((j:Int) + 1) (by omega) (by omega)) rfl ?_
      refine JL_val _ (Ev_move rfl) rfl ?_
      refine JL_nil ?_
      refine JQ_thenK ?_
      refine K_mask [true, true, false] ?_
      show K _ _ [⟨nb2, cu8 (zr8 16), 27, (0, 0)⟩, ⟨nb3, cu8 (addL (mixL (sh1L thereL s) ([(2:UInt8), (3:UInt8), (1:UInt8), (1:UInt8)])) (mid ks (16*j + 16) 16)), 27, (0, 0)⟩] _
      refine K_next (j + 1, addL (mixL (sh1L thereL s) ([(2:UInt8), (3:UInt8), (1:UInt8), (1:UInt8)])) (mid ks (16*j + 16) 16)) ⟨by omega, by rw [encN, ← hx2], (addL_len (mixL_len _ _))⟩ (by simp; omega) (Sub.cons rfl (Sub.cons rfl (Sub.cons rfl (Sub.cons rfl (Sub.cons rfl (Sub.cons rfl (Sub.nil))))))) rfl
    ·
      have hp2 : ¬ (((j:Int)) < (9:Int)) := of_decide_eq_false hb2
      refine JC_exit ?_
      refine JQ_then_exit ?_
      refine JQ_then_exit ?_
      refine JQ_in_same ?_
      refine JQ_then ?_
      refine JC_seq ?_
      have hl9 : (mid ks 160 16).length = 16 := mid_len (by rw [hks]; omega)
      refine JC_draw 47 4 [(0, .agg (cu8 s).toArray), (1, Ptr c 0), (2, Ptr c 0), (3, Ptr c 176), (5, Ptr c 0), (6, Ptr c 0), (7, Ptr c 0), (8, Ptr c 160), (9, .agg (cu8 (mid ks 160 16)).toArray)] Try.mixed rfl (by decide +kernel) ?_
      have hl10 : (mid ks 160 16).length = 16 := mid_len (by rw [hks]; omega)
      refine DP_one ⟨[], [0, 1, 2, 3, 5, 6, 7, 8, 9], [], [0, 1, 2, 3, 5, 6, 7, 8, 9], [4]⟩ 4 _ rfl rfl (by decide +kernel) rfl ⟨⟨_, rfl, Qok_val rfl (Ev_load rfl (Ld_agg Try.isAgg27 Try.sizeOf27 (len_cu8 hs) (MemAt.ent 1 rfl (Seg.whole _))))⟩, ⟨_, rfl, Qok_val rfl (Ev_move rfl)⟩, ⟨_, rfl, Qok_val rfl (Ev_nilCheck rfl)⟩, ⟨_, rfl, Qok_val rfl (Ev_fieldAddr 176 104 256 Try.underlying106 rfl Try.sizeOf104 rfl rfl)⟩, ⟨_, rfl, Qok_val rfl (Ev_move rfl)⟩, ⟨_, rfl, Qok_val rfl (Ev_nilCheck rfl)⟩, ⟨_, rfl, Qok_val rfl (Ev_fieldAddr 0 103 176 Try.underlying106 rfl Try.sizeOf103 rfl rfl)⟩, ⟨_, rfl, Qok_val rfl (Ev_indexArr 11 27 16 160 Try.underlying103 Try.sizeOf27 rfl rfl (by omega) (by omega) (by omega))⟩, ⟨_, rfl, Qok_val rfl (Ev_load rfl (Ld_agg Try.isAgg27 Try.sizeOf27 (len_cu8 hl10) (MemAt.seg (MemAt.heap hc (by simp)) (Seg.left (Seg.left (segm_u8 160 16 (by rw [hks]; omega)))) (by omega))))⟩, trivial⟩ rfl (Cok_step rfl (Step_callP 75 [.agg (cu8 s).toArray, Ptr c 176, I64 (1:Int)] (.agg (cu8 (sh1L thereL s)).toArray) (Cl_func [.agg (cu8 s).toArray, Ptr c 176, I64 (1:Int)] Try.call75 rfl) (fun w1 hw1 => shifted1_c s thereL c 176 w1 hs thereL_len (RdA.of hw1 (MemAt.seg (MemAt.heap hc (by simp)) (Seg.left (Seg.right 176 0 (by simp [hks]) rfl (Seg.whole _))) (by omega)) (by simp [thereL_len]))))) ?_
      rintro v1 L1 ⟨rfl, rfl⟩
      refine ⟨[], ?_⟩
      show DP _ _ _ _ _ _ _ _ [⟨nb2, cu8 (zr8 16), 27, (0, 0)⟩, ⟨nb3, cu8 s, 27, (0, 0)⟩]
      have hl11 : (mid ks 160 16).length = 16 := mid_len (by rw [hks]; omega)
      refine DP_one ⟨[4], [0, 1, 2, 3, 5, 6, 7, 8, 9], [0, 1, 2, 3], [5, 6, 7, 8, 9], [10]⟩ 10 _ rfl rfl (by decide +kernel) rfl ⟨⟨_, rfl, Qok_val rfl (Ev_move rfl)⟩, ⟨_, rfl, Qok_val rfl (Ev_nilCheck rfl)⟩, ⟨_, rfl, Qok_val rfl (Ev_fieldAddr 0 103 176 Try.underlying106 rfl Try.sizeOf103 rfl rfl)⟩, ⟨_, rfl, Qok_val rfl (Ev_indexArr 11 27 16 160 Try.underlying103 Try.sizeOf27 rfl rfl (by omega) (by omega) (by omega))⟩, ⟨_, rfl, Qok_val rfl (Ev_load rfl (Ld_agg Try.isAgg27 Try.sizeOf27 (len_cu8 hl11) (MemAt.seg (MemAt.heap hc (by simp)) (Seg.left (Seg.left (segm_u8 160 16 (by rw [hks]; omega)))) (by omega))))⟩, trivial⟩ rfl (Cok_step rfl (Step_callP 73 [.agg (cu8 (sh1L thereL s)).toArray, .agg (cu8 (mid ks 160 16)).toArray] (.agg (cu8 (addL (sh1L thereL s) (mid ks 160 16))).toArray) (Cl_func [.agg (cu8 (sh1L thereL s)).toArray, .agg (cu8 (mid ks 160 16)).toArray] Try.call73 rfl) (fun w1 hw1 => added_c (sh1L thereL s) (mid ks 160 16) w1 (sh1L_len _ _) hl9))) ?_
      rintro v1 L1 ⟨rfl, rfl⟩
      refine ⟨[], ?_⟩
      show DP _ _ _ _ _ _ _ _ [⟨nb2, cu8 (zr8 16), 27, (0, 0)⟩, ⟨nb3, cu8 s, 27, (0, 0)⟩]
      refine DP_one ⟨[4, 10], [0, 1, 2, 3, 5, 6, 7, 8, 9], [0, 1, 2, 3, 5, 6, 7, 8, 9], [], [11]⟩ 11 _ rfl rfl (by decide +kernel) rfl trivial rfl (Cok_step rfl (Step_store 0 nb2 0 16 (cu8 (zr8 16)) 27 (.agg (cu8 (addL (sh1L thereL s) (mid ks 160 16))).toArray) (cu8 (addL (sh1L thereL s) (mid ks 160 16))) (cu8 (addL (sh1L thereL s) (mid ks 160 16))) rfl rfl rfl (by first | rfl | simp) Try.sizeOf27 (len_cu8 (addL_len (sh1L_len _ _))) (by first | exact one_u8 | exact one_u32 | exact one_u64 | (simp [cu8, cu32, cu64, Value.oneCell']; done)) (by simp [(zr8_len 16)]) (lay_whole (by simp [(zr8_len 16), (addL_len (sh1L_len _ _))])))) ?_
      rintro v1 L1 ⟨rfl, rfl⟩
      refine ⟨[], ?_⟩
      show DP _ _ _ _ _ _ _ _ [⟨nb2, cu8 (addL (sh1L thereL s) (mid ks 160 16)), 27, (0, 0)⟩, ⟨nb3, cu8 s, 27, (0, 0)⟩]
      refine DP_end ⟨[4, 10, 11], [0, 1, 2, 3, 5, 6, 7, 8, 9], [0, 1, 2, 3, 5, 6, 7, 8, 9], [], []⟩ rfl rfl (by decide +kernel) rfl trivial ?_
      refine K_sub (F' := [(4, Ptr nb2 0)]) (Sub.cons (by kernel_rfl) (Sub.nil)) ?_
      show JQ _ _ _ [(4, Ptr nb2 0)] _
      refine JQ_then ?_
      refine JC_ret ?_
      refine JQ_ret (.agg (cu8 (addL (sh1L thereL s) (mid ks 160 16))).toArray) (res1 Try.results27 (RV_cell rfl (Ld_agg Try.isAgg27 Try.sizeOf27 (len_cu8 (addL_len (sh1L_len _ _))) (MemAt.ent 0 rfl (Seg.whole _))))) fun w1 hw1 => ?_
      have e1 : j = 9 := by omega
      subst e1
      subst hx2
      exact ⟨_, [], rfl, ⟨rfl, rfl⟩, hw1.sub (by simp) (by simp)⟩

theorem dec_c (c : Nat) (ks : List UInt8) (b : List UInt8) (w : World) (hb : b.length = 16) (hks : ks.length = 176) (hc : w.heap[c]? = some (.cells (cu8 ks ++ cu8 thereL ++ cu8 backL).toArray 106 (0, 0))) : Calls Try.prog 29 #[Ptr c 0, .agg (cu8 b).toArray] w (Post w [] (fun v L => v = .agg (cu8 (decL ks b)).toArray ∧ L = [])) := by
  refine enter w [] 45 [] [Ptr c 0, .agg (cu8 b).toArray] Try.func29 rfl rfl (by simp) (Hp.start (by simp) (by simp) (by simp)) ?_
  show JC _ _ _ [(0, Ptr c 0), (1, .agg (cu8 b).toArray)] _
  refine JC_seq ?_
  refine JC_region ?_
  refine JL_step (Step_box (.agg (cu8 b).toArray) (cu8 b) rfl (by first | rfl | simp)) rfl ?_
  rintro v1 L1 ⟨nb1, hnb1, rfl, rfl⟩
  show JL _ _ _ _ ((3, Ptr nb1 0) :: _) [⟨nb1, cu8 b, 27, (0, 0)⟩]
  refine JL_step (Step_alloc _ (cu8 (zr8 16)) Try.zeroValue27 (by kernel_rfl)) rfl ?_
  rintro v1 L1 ⟨nb2, hnb2, rfl, rfl⟩
  show JL _ _ _ _ ((4, Ptr nb2 0) :: _) [⟨nb1, cu8 b, 27, (0, 0)⟩, ⟨nb2, cu8 (zr8 16), 27, (0, 0)⟩]
  refine JL_nil ?_
  refine JQ_then ?_
  refine JC_seq ?_
  refine JC_region ?_
  refine JL_val _ (Ev_move rfl) rfl ?_
  refine JL_step (Step_callP 72 [Ptr c 0] (Ptr c 0) (Cl_func [Ptr c 0] Try.call72 rfl) (fun w1 _ => ofsome_c c w1)) rfl ?_
  rintro v1 L1 ⟨rfl, rfl⟩
  show JL _ _ _ _ ((8, Ptr c 0) :: _) [⟨nb1, cu8 b, 27, (0, 0)⟩, ⟨nb2, cu8 (zr8 16), 27, (0, 0)⟩]
  refine JL_val _ (Ev_assign rfl) rfl ?_
  refine JL_nil ?_
  refine JQ_then ?_
  refine JC_seq ?_
  have hl1 : (mid ks 160 16).length = 16 := mid_len (by rw [hks]; omega)
  refine JC_draw 45 5 [(0, .agg (cu8 b).toArray), (1, Ptr c 0), (2, Ptr c 0), (3, Ptr c 0), (4, Ptr c 160), (5, .agg (cu8 (mid ks 160 16)).toArray), (7, Ptr c 0), (8, Ptr c 0), (9, Ptr c 432)] Try.mixed rfl (by decide +kernel) ?_
  have hl2 : (mid ks 160 16).length = 16 := mid_len (by rw [hks]; omega)
  refine DP_two ⟨[], [0, 1, 2, 3, 4, 5, 7, 8, 9], [], [0, 1, 2, 3, 4, 5, 7, 8, 9], [6, 11]⟩ 6 11 _ _ rfl rfl (by decide +kernel) rfl ⟨⟨_, rfl, Qok_val rfl (Ev_load rfl (Ld_agg Try.isAgg27 Try.sizeOf27 (len_cu8 hb) (MemAt.ent 0 rfl (Seg.whole _))))⟩, ⟨_, rfl, Qok_val rfl (Ev_move rfl)⟩, ⟨_, rfl, Qok_val rfl (Ev_nilCheck rfl)⟩, ⟨_, rfl, Qok_val rfl (Ev_fieldAddr 0 103 176 Try.underlying106 rfl Try.sizeOf103 rfl rfl)⟩, ⟨_, rfl, Qok_val rfl (Ev_indexArr 11 27 16 160 Try.underlying103 Try.sizeOf27 rfl rfl (by omega) (by omega) (by omega))⟩, ⟨_, rfl, Qok_val rfl (Ev_load rfl (Ld_agg Try.isAgg27 Try.sizeOf27 (len_cu8 hl2) (MemAt.seg (MemAt.heap hc (by simp)) (Seg.left (Seg.left (segm_u8 160 16 (by rw [hks]; omega)))) (by omega))))⟩, ⟨_, rfl, Qok_val rfl (Ev_move rfl)⟩, ⟨_, rfl, Qok_val rfl (Ev_nilCheck rfl)⟩, ⟨_, rfl, Qok_val rfl (Ev_fieldAddr 432 104 256 Try.underlying106 rfl Try.sizeOf104 rfl rfl)⟩, trivial⟩ rfl rfl (Cok_step rfl (Step_callP 73 [.agg (cu8 b).toArray, .agg (cu8 (mid ks 160 16)).toArray] (.agg (cu8 (addL b (mid ks 160 16))).toArray) (Cl_func [.agg (cu8 b).toArray, .agg (cu8 (mid ks 160 16)).toArray] Try.call73 rfl) (fun w1 hw1 => added_c b (mid ks 160 16) w1 hb hl1))) (Cok_step rfl (Step_alloc _ (cu8 (zr8 16)) Try.zeroValue27 (by kernel_rfl))) ?_ ?_
  ·
    rintro v1 L1 ⟨rfl, rfl⟩
    refine ⟨[], ?_⟩
    show DP _ _ _ _ _ _ _ _ [⟨nb1, cu8 b, 27, (0, 0)⟩, ⟨nb2, cu8 (zr8 16), 27, (0, 0)⟩]
    refine DP_two ⟨[6], [0, 1, 2, 3, 4, 5, 7, 8, 9], [0, 1, 2, 3, 4, 5], [7, 8, 9], [10, 11]⟩ 10 11 _ _ rfl rfl (by decide +kernel) rfl ⟨⟨_, rfl, Qok_val rfl (Ev_move rfl)⟩, ⟨_, rfl, Qok_val rfl (Ev_nilCheck rfl)⟩, ⟨_, rfl, Qok_val rfl (Ev_fieldAddr 432 104 256 Try.underlying106 rfl Try.sizeOf104 rfl rfl)⟩, trivial⟩ rfl rfl (Cok_step rfl (Step_callP 75 [.agg (cu8 (addL b (mid ks 160 16))).toArray, Ptr c 432, I64 (3:Int)] (.agg (cu8 (sh3L backL (addL b (mid ks 160 16)))).toArray) (Cl_func [.agg (cu8 (addL b (mid ks 160 16))).toArray, Ptr c 432, I64 (3:Int)] Try.call75 rfl) (fun w1 hw1 => shifted3_c (addL b (mid ks 160 16)) backL c 432 w1 (addL_len hb) backL_len (RdA.of hw1 (MemAt.seg (MemAt.heap hc (by simp)) (Seg.right 432 0 (by simp [hks, thereL_len]) rfl (Seg.whole _)) (by omega)) (by simp [backL_len]))))) (Cok_step rfl (Step_alloc _ (cu8 (zr8 16)) Try.zeroValue27 (by kernel_rfl))) ?_ ?_
    ·
      rintro v1 L1 ⟨rfl, rfl⟩
      refine ⟨[], ?_⟩
      show DP _ _ _ _ _ _ _ _ [⟨nb1, cu8 b, 27, (0, 0)⟩, ⟨nb2, cu8 (zr8 16), 27, (0, 0)⟩]
      refine DP_one ⟨[6, 10], [0, 1, 2, 3, 4, 5, 7, 8, 9], [0, 1, 2, 3, 4, 5, 7, 8, 9], [], [11]⟩ 11 _ rfl rfl (by decide +kernel) rfl trivial rfl (Cok_step rfl (Step_alloc _ (cu8 (zr8 16)) Try.zeroValue27 (by kernel_rfl))) ?_
      rintro v1 L1 ⟨nb5, hnb5, rfl, rfl⟩
      refine ⟨[], ?_⟩
      show DP _ _ _ _ _ _ _ _ [⟨nb1, cu8 b, 27, (0, 0)⟩, ⟨nb2, cu8 (zr8 16), 27, (0, 0)⟩, ⟨nb5, cu8 (zr8 16), 27, (0, 0)⟩]
      refine DP_one ⟨[6, 10, 11], [0, 1, 2, 3, 4, 5, 7, 8, 9], [0, 1, 2, 3, 4, 5, 7, 8, 9], [], [12]⟩ 12 _ rfl rfl (by decide +kernel) rfl trivial rfl (Cok_step rfl (Step_store 2 nb5 0 16 (cu8 (zr8 16)) 27 (.agg (cu8 (sh3L backL (addL b (mid ks 160 16)))).toArray) (cu8 (sh3L backL (addL b (mid ks 160 16)))) (cu8 (sh3L backL (addL b (mid ks 160 16)))) rfl rfl rfl (by first | rfl | simp) Try.sizeOf27 (len_cu8 (sh3L_len _ _)) (by first | exact one_u8 | exact one_u32 | exact one_u64 | (simp [cu8, cu32, cu64, Value.oneCell']; done)) (by simp [(zr8_len 16)]) (lay_whole (by simp [(zr8_len 16), (sh3L_len _ _)])))) ?_
      rintro v1 L1 ⟨rfl, rfl⟩
      refine ⟨[], ?_⟩
      show DP _ _ _ _ _ _ _ _ [⟨nb1, cu8 b, 27, (0, 0)⟩, ⟨nb2, cu8 (zr8 16), 27, (0, 0)⟩, ⟨nb5, cu8 (sh3L backL (addL b (mid ks 160 16))), 27, (0, 0)⟩]
      refine DP_end ⟨[6, 10, 11, 12], [0, 1, 2, 3, 4, 5, 7, 8, 9], [0, 1, 2, 3, 4, 5, 7, 8, 9], [], []⟩ rfl rfl (by decide +kernel) rfl trivial ?_
      refine K_sub (F' := [(5, Ptr nb5 0), (0, Ptr c 0), (4, Ptr nb2 0)]) (Sub.cons (by kernel_rfl) (Sub.cons (by kernel_rfl) (Sub.cons (by kernel_rfl) (Sub.nil)))) ?_
      show JQ _ _ _ [(5, Ptr nb5 0), (0, Ptr c 0), (4, Ptr nb2 0)] _
      refine JQ_then ?_
      refine JC_seq ?_
      refine JC_seq ?_
      refine JC_region ?_
      refine JL_val _ (Ev_assign rfl) rfl ?_
      refine JL_nil ?_
      refine JQ_then ?_
      refine JC_block ?_
      refine K_mask [false, true, true] ?_
      show JC _ _ _ _ [⟨nb2, cu8 (zr8 16), 27, (0, 0)⟩, ⟨nb5, cu8 (sh3L backL (addL b (mid ks 160 16))), 27, (0, 0)⟩]
      refine JC_loop (ι := Nat × List UInt8) (fun ⟨j, s⟩ => [(0, Ptr c 0), (4, Ptr nb2 0), (5, Ptr nb5 0), (6, I64 ((j:Int)))]) (fun ⟨j, s⟩ => [⟨nb2, cu8 (zr8 16), 27, (0, 0)⟩, ⟨nb5, cu8 s, 27, (0, 0)⟩]) (fun ⟨j, s⟩ => j ≤ 9 ∧ s = decN ks b (9 - j) ∧ s.length = 16) (fun ⟨j, s⟩ => j) (9, sh3L backL (addL b (mid ks 160 16))) ⟨by omega, by rw [decN], sh3L_len _ _⟩ (Sub.cons rfl (Sub.cons rfl (Sub.cons rfl (Sub.cons rfl (Sub.nil))))) rfl ?_
      rintro ⟨j, s⟩ ⟨hx1, hx2, hs⟩
      show JC _ _ _ [(0, Ptr c 0), (4, Ptr nb2 0), (5, Ptr nb5 0), (6, I64 ((j:Int)))] [⟨nb2, cu8 (zr8 16), 27, (0, 0)⟩, ⟨nb5, cu8 s, 27, (0, 0)⟩]
      refine JC_seq ?_
      refine JC_seq ?_
      refine JC_region ?_
      refine JL_val _ (Ev_move rfl) rfl ?_
      refine JL_val (.bool (decide ((0:Int) < ((j:Int))))) (Ev_bini rfl rfl fun _ => bin_gtr_i _ _) rfl ?_
      refine JL_nil ?_
      refine JQ_then ?_
      refine JC_cond (decide ((0:Int) < ((j:Int)))) rfl (fun hb1 => ?_) (fun hb1 => ?_)
      ·
        have hp1 : (0:Int) < ((j:Int)) := of_decide_eq_true hb1
        refine JC_skip ?_
        refine JQ_then ?_
        refine JC_seq ?_
        refine JC_block ?_
        have hl3 : (mid ks (16*j) 16).length = 16 := mid_len (by rw [hks]; omega)
        refine JC_draw 45 5 [(0, .agg (cu8 s).toArray), (1, Ptr c 0), (2, I64 ((j:Int))), (3, Ptr c 0), (4, Ptr c 0), (5, Ptr c (16*j)), (6, .agg (cu8 (mid ks (16*j) 16)).toArray), (8, .agg (cu8 ([(14:UInt8), (11:UInt8), (13:UInt8), (9:UInt8)])).toArray), (10, Ptr c 0), (11, Ptr c 0), (12, Ptr c 432)] Try.mixed rfl (by decide +kernel) ?_
        have hl4 : (mid ks (16*j) 16).length = 16 := mid_len (by rw [hks]; omega)
        refine DP_one ⟨[], [0, 1, 2, 3, 4, 5, 6, 8, 10, 11, 12], [], [0, 1, 2, 3, 4, 5, 6, 8, 10, 11, 12], [7]⟩ 7 _ rfl rfl (by decide +kernel) rfl ⟨⟨_, rfl, Qok_val rfl (Ev_load rfl (Ld_agg Try.isAgg27 Try.sizeOf27 (len_cu8 hs) (MemAt.ent 1 rfl (Seg.whole _))))⟩, ⟨_, rfl, Qok_val rfl (Ev_move rfl)⟩, ⟨_, rfl, Qok_val rfl (Ev_move rfl)⟩, ⟨_, rfl, Qok_val rfl (Ev_nilCheck rfl)⟩, ⟨_, rfl, Qok_val rfl (Ev_fieldAddr 0 103 176 Try.underlying106 rfl Try.sizeOf103 rfl rfl)⟩, ⟨_, rfl, Qok_val rfl (Ev_indexArr 11 27 16 (16*j) Try.underlying103 Try.sizeOf27 rfl rfl (by omega) (by omega) (by omega))⟩, ⟨_, rfl, Qok_val rfl (Ev_load rfl (Ld_agg Try.isAgg27 Try.sizeOf27 (len_cu8 hl4) (MemAt.seg (MemAt.heap hc (by simp)) (Seg.left (Seg.left (segm_u8 (16*j) 16 (by rw [hks]; omega)))) (by omega))))⟩, ⟨_, rfl, Qok_val rfl (Ev_build [(0, U8 (14:UInt8)), (1, U8 (11:UInt8)), (2, U8 (13:UInt8)), (3, U8 (9:UInt8))] _ rfl (fun _ => by kernel_rfl))⟩, ⟨_, rfl, Qok_val rfl (Ev_move rfl)⟩, ⟨_, rfl, Qok_val rfl (Ev_nilCheck rfl)⟩, ⟨_, rfl, Qok_val rfl (Ev_fieldAddr 432 104 256 Try.underlying106 rfl Try.sizeOf104 rfl rfl)⟩, trivial⟩ rfl (Cok_step rfl (Step_callP 73 [.agg (cu8 s).toArray, .agg (cu8 (mid ks (16*j) 16)).toArray] (.agg (cu8 (addL s (mid ks (16*j) 16))).toArray) (Cl_func [.agg (cu8 s).toArray, .agg (cu8 (mid ks (16*j) 16)).toArray] Try.call73 rfl) (fun w1 hw1 => added_c s (mid ks (16*j) 16) w1 hs hl3))) ?_
        rintro v1 L1 ⟨rfl, rfl⟩
        refine ⟨[], ?_⟩
        show DP _ _ _ _ _ _ _ _ [⟨nb2, cu8 (zr8 16), 27, (0, 0)⟩, ⟨nb5, cu8 s, 27, (0, 0)⟩]
        refine DP_one ⟨[7], [0, 1, 2, 3, 4, 5, 6, 8, 10, 11, 12], [0, 1, 2, 3, 4, 5, 6], [8, 10, 11, 12], [9]⟩ 9 _ rfl rfl (by decide +kernel) rfl ⟨⟨_, rfl, Qok_val rfl (Ev_build [(0, U8 (14:UInt8)), (1, U8 (11:UInt8)), (2, U8 (13:UInt8)), (3, U8 (9:UInt8))] _ rfl (fun _ => by kernel_rfl))⟩, ⟨_, rfl, Qok_val rfl (Ev_move rfl)⟩, ⟨_, rfl, Qok_val rfl (Ev_nilCheck rfl)⟩, ⟨_, rfl, Qok_val rfl (Ev_fieldAddr 432 104 256 Try.underlying106 rfl Try.sizeOf104 rfl rfl)⟩, trivial⟩ rfl (Cok_step rfl (Step_callP 74 [.agg (cu8 (addL s (mid ks (16*j) 16))).toArray, .agg (cu8 ([(14:UInt8), (11:UInt8), (13:UInt8), (9:UInt8)])).toArray] (.agg (cu8 (mixL (addL s (mid ks (16*j) 16)) ([(14:UInt8), (11:UInt8), (13:UInt8), (9:UInt8)]))).toArray) (Cl_func [.agg (cu8 (addL s (mid ks (16*j) 16))).toArray, .agg (cu8 ([(14:UInt8), (11:UInt8), (13:UInt8), (9:UInt8)])).toArray] Try.call74 rfl) (fun w1 hw1 => mixed_c (addL s (mid ks (16*j) 16)) ([(14:UInt8), (11:UInt8), (13:UInt8), (9:UInt8)]) w1 (addL_len hs) rfl))) ?_
        rintro v1 L1 ⟨rfl, rfl⟩
        refine ⟨[], ?_⟩
        show DP _ _ _ _ _ _ _ _ [⟨nb2, cu8 (zr8 16), 27, (0, 0)⟩, ⟨nb5, cu8 s, 27, (0, 0)⟩]
        refine DP_one ⟨[7, 9], [0, 1, 2, 3, 4, 5, 6, 8, 10, 11, 12], [0, 1, 2, 3, 4, 5, 6, 8], [10, 11, 12], [13]⟩ 13 _ rfl rfl (by decide +kernel) rfl ⟨⟨_, rfl, Qok_val rfl (Ev_move rfl)⟩, ⟨_, rfl, Qok_val rfl (Ev_nilCheck rfl)⟩, ⟨_, rfl, Qok_val rfl (Ev_fieldAddr 432 104 256 Try.underlying106 rfl Try.sizeOf104 rfl rfl)⟩, trivial⟩ rfl (Cok_step rfl (Step_callP 75 [.agg (cu8 (mixL (addL s (mid ks (16*j) 16)) ([(14:UInt8), (11:UInt8), (13:UInt8), (9:UInt8)]))).toArray, Ptr c 432, I64 (3:Int)] (.agg (cu8 (sh3L backL (mixL (addL s (mid ks (16*j) 16)) ([(14:UInt8), (11:UInt8), (13:UInt8), (9:UInt8)])))).toArray) (Cl_func [.agg (cu8 (mixL (addL s (mid ks (16*j) 16)) ([(14:UInt8), (11:UInt8), (13:UInt8), (9:UInt8)]))).toArray, Ptr c 432, I64 (3:Int)] Try.call75 rfl) (fun w1 hw1 => shifted3_c (mixL (addL s (mid ks (16*j) 16)) ([(14:UInt8), (11:UInt8), (13:UInt8), (9:UInt8)])) backL c 432 w1 (mixL_len _ _) backL_len (RdA.of hw1 (MemAt.seg (MemAt.heap hc (by simp)) (Seg.right 432 0 (by simp [hks, thereL_len]) rfl (Seg.whole _)) (by omega)) (by simp [backL_len]))))) ?_
        rintro v1 L1 ⟨rfl, rfl⟩
        refine ⟨[], ?_⟩
        show DP _ _ _ _ _ _ _ _ [⟨nb2, cu8 (zr8 16), 27, (0, 0)⟩, ⟨nb5, cu8 s, 27, (0, 0)⟩]
        refine DP_one ⟨[7, 9, 13], [0, 1, 2, 3, 4, 5, 6, 8, 10, 11, 12], [0, 1, 2, 3, 4, 5, 6, 8, 10, 11, 12], [], [14]⟩ 14 _ rfl rfl (by decide +kernel) rfl trivial rfl (Cok_step rfl (Step_store 1 nb5 0 16 (cu8 s) 27 (.agg (cu8 (sh3L backL (mixL (addL s (mid ks (16*j) 16)) ([(14:UInt8), (11:UInt8), (13:UInt8), (9:UInt8)])))).toArray) (cu8 (sh3L backL (mixL (addL s (mid ks (16*j) 16)) ([(14:UInt8), (11:UInt8), (13:UInt8), (9:UInt8)])))) (cu8 (sh3L backL (mixL (addL s (mid ks (16*j) 16)) ([(14:UInt8), (11:UInt8), (13:UInt8), (9:UInt8)])))) rfl rfl rfl (by first | rfl | simp) Try.sizeOf27 (len_cu8 (sh3L_len _ _)) (by first | exact one_u8 | exact one_u32 | exact one_u64 | (simp [cu8, cu32, cu64, Value.oneCell']; done)) (by simp [hs]) (lay_whole (by simp [hs, (sh3L_len _ _)])))) ?_
        rintro v1 L1 ⟨rfl, rfl⟩
        refine ⟨[], ?_⟩
        show DP _ _ _ _ _ _ _ _ [⟨nb2, cu8 (zr8 16), 27, (0, 0)⟩, ⟨nb5, cu8 (sh3L backL (mixL (addL s (mid ks (16*j) 16)) ([(14:UInt8), (11:UInt8), (13:UInt8), (9:UInt8)]))), 27, (0, 0)⟩]
        refine DP_end ⟨[7, 9, 13, 14], [0, 1, 2, 3, 4, 5, 6, 8, 10, 11, 12], [0, 1, 2, 3, 4, 5, 6, 8, 10, 11, 12], [], []⟩ rfl rfl (by decide +kernel) rfl trivial ?_
        refine K_sub (F' := [(24, .agg (cu8 s).toArray), (25, Ptr c 0), (26, I64 ((j:Int))), (27, Ptr c 0), (28, Ptr c 0), (29, Ptr c (16*j)), (30, .agg (cu8 (mid ks (16*j) 16)).toArray), (31, .agg (cu8 (addL s (mid ks (16*j) 16))).toArray), (32, .agg (cu8 ([(14:UInt8), (11:UInt8), (13:UInt8), (9:UInt8)])).toArray), (33, .agg (cu8 (mixL (addL s (mid ks (16*j) 16)) ([(14:UInt8), (11:UInt8), (13:UInt8), (9:UInt8)]))).toArray), (34, Ptr c 0), (35, Ptr c 0), (36, Ptr c 432), (37, .agg (cu8 (sh3L backL (mixL (addL s (mid ks (16*j) 16)) ([(14:UInt8), (11:UInt8), (13:UInt8), (9:UInt8)])))).toArray), (0, Ptr c 0), (4, Ptr nb2 0), (5, Ptr nb5 0), (6, I64 ((j:Int))), (20, I64 ((j:Int))), (21, .bool (decide ((0:Int) < ((j:Int)))))]) (Sub.cons (by kernel_rfl) (Sub.cons (by kernel_rfl) (Sub.cons (by kernel_rfl) (Sub.cons (by kernel_rfl) (Sub.cons (by kernel_rfl) (Sub.cons (by kernel_rfl) (Sub.cons (by kernel_rfl) (Sub.cons (by kernel_rfl) (Sub.cons (by kernel_rfl) (Sub.cons (by kernel_rfl) (Sub.cons (by kernel_rfl) (Sub.cons (by kernel_rfl) (Sub.cons (by kernel_rfl) (Sub.cons (by kernel_rfl) (Sub.cons (by kernel_rfl) (Sub.cons (by kernel_rfl) (Sub.cons (by kernel_rfl) (Sub.cons (by kernel_rfl) (Sub.cons (by kernel_rfl) (Sub.cons (by kernel_rfl) (Sub.nil))))))))))))))))))))) ?_
        show JQ _ _ _ [(24, .agg (cu8 s).toArray), (25, Ptr c 0), (26, I64 ((j:Int))), (27, Ptr c 0), (28, Ptr c 0), (29, Ptr c (16*j)), (30, .agg (cu8 (mid ks (16*j) 16)).toArray), (31, .agg (cu8 (addL s (mid ks (16*j) 16))).toArray), (32, .agg (cu8 ([(14:UInt8), (11:UInt8), (13:UInt8), (9:UInt8)])).toArray), (33, .agg (cu8 (mixL (addL s (mid ks (16*j) 16)) ([(14:UInt8), (11:UInt8), (13:UInt8), (9:UInt8)]))).toArray), (34, Ptr c 0), (35, Ptr c 0), (36, Ptr c 432), (37, .agg (cu8 (sh3L backL (mixL (addL s (mid ks (16*j) 16)) ([(14:UInt8), (11:UInt8), (13:UInt8), (9:UInt8)])))).toArray), (0, Ptr c 0), (4, Ptr nb2 0), (5, Ptr nb5 0), (6, I64 ((j:Int))), (20, I64 ((j:Int))), (21, .bool (decide ((0:Int) < ((j:Int)))))] _
        refine JQ_in_normal ?_
        refine JQ_then ?_
        refine JC_region ?_
        refine JL_val _ (Ev_move rfl) rfl ?_
        refine JL_val (I64 ((j:Int) - 1)) (Ev_bini rfl rfl fun _ => bin_sub_i _ _ ((j:Int) - 1) (by omega) (by omega)) rfl ?_
        refine JL_val _ (Ev_assign rfl) rfl ?_
        refine JL_nil ?_
        refine JQ_thenK ?_
        refine K_next (j - 1, sh3L backL (mixL (addL s (mid ks (16*j) 16)) ([(14:UInt8), (11:UInt8), (13:UInt8), (9:UInt8)]))) ⟨by omega, by rw [show 9 - (j - 1) = (9 - j) + 1 from by omega, decN, ← hx2, show 9 - (9 - j) = j from by omega], (sh3L_len _ _)⟩ (by simp; omega) (Sub.cons rfl (Sub.cons rfl (Sub.cons rfl (Sub.cons (some_i64 (a := (j:Int) - 1) (by omega)) (Sub.nil))))) rfl
      ·
        have hp1 : ¬ ((0:Int) < ((j:Int))) := of_decide_eq_false hb1
        refine JC_exit ?_
        refine JQ_then_exit ?_
        refine JQ_then_exit ?_
        refine JQ_in_same ?_
        refine JQ_then ?_
        refine JC_seq ?_
        have hl5 : (mid ks 0 16).length = 16 := mid_len (by rw [hks]; omega)
        refine JC_draw 45 3 [(0, .agg (cu8 s).toArray), (1, Ptr c 0), (2, Ptr c 0), (3, Ptr c 0), (4, Ptr c 0), (5, .agg (cu8 (mid ks 0 16)).toArray)] Try.mixed rfl (by decide +kernel) ?_
        have hl6 : (mid ks 0 16).length = 16 := mid_len (by rw [hks]; omega)
        refine DP_one ⟨[], [0, 1, 2, 3, 4, 5], [], [0, 1, 2, 3, 4, 5], [6]⟩ 6 _ rfl rfl (by decide +kernel) rfl ⟨⟨_, rfl, Qok_val rfl (Ev_load rfl (Ld_agg Try.isAgg27 Try.sizeOf27 (len_cu8 hs) (MemAt.ent 1 rfl (Seg.whole _))))⟩, ⟨_, rfl, Qok_val rfl (Ev_move rfl)⟩, ⟨_, rfl, Qok_val rfl (Ev_nilCheck rfl)⟩, ⟨_, rfl, Qok_val rfl (Ev_fieldAddr 0 103 176 Try.underlying106 rfl Try.sizeOf103 rfl rfl)⟩, ⟨_, rfl, Qok_val rfl (Ev_indexArr 11 27 16 0 Try.underlying103 Try.sizeOf27 rfl rfl (by omega) (by omega) (by omega))⟩, ⟨_, rfl, Qok_val rfl (Ev_load rfl (Ld_agg Try.isAgg27 Try.sizeOf27 (len_cu8 hl6) (MemAt.seg (MemAt.heap hc (by simp)) (Seg.left (Seg.left (segm_u8 0 16 (by rw [hks]; omega)))) (by omega))))⟩, trivial⟩ rfl (Cok_step rfl (Step_callP 73 [.agg (cu8 s).toArray, .agg (cu8 (mid ks 0 16)).toArray] (.agg (cu8 (addL s (mid ks 0 16))).toArray) (Cl_func [.agg (cu8 s).toArray, .agg (cu8 (mid ks 0 16)).toArray] Try.call73 rfl) (fun w1 hw1 => added_c s (mid ks 0 16) w1 hs hl5))) ?_
        rintro v1 L1 ⟨rfl, rfl⟩
        refine ⟨[], ?_⟩
        show DP _ _ _ _ _ _ _ _ [⟨nb2, cu8 (zr8 16), 27, (0, 0)⟩, ⟨nb5, cu8 s, 27, (0, 0)⟩]
        refine DP_one ⟨[6], [0, 1, 2, 3, 4, 5], [0, 1, 2, 3, 4, 5], [], [7]⟩ 7 _ rfl rfl (by decide +kernel) rfl trivial rfl (Cok_step rfl (Step_store 0 nb2 0 16 (cu8 (zr8 16)) 27 (.agg (cu8 (addL s (mid ks 0 16))).toArray) (cu8 (addL s (mid ks 0 16))) (cu8 (addL s (mid ks 0 16))) rfl rfl rfl (by first | rfl | simp) Try.sizeOf27 (len_cu8 (addL_len hs)) (by first | exact one_u8 | exact one_u32 | exact one_u64 | (simp [cu8, cu32, cu64, Value.oneCell']; done)) (by simp [(zr8_len 16)]) (lay_whole (by simp [(zr8_len 16), (addL_len hs)])))) ?_
        rintro v1 L1 ⟨rfl, rfl⟩
        refine ⟨[], ?_⟩
        show DP _ _ _ _ _ _ _ _ [⟨nb2, cu8 (addL s (mid ks 0 16)), 27, (0, 0)⟩, ⟨nb5, cu8 s, 27, (0, 0)⟩]
        refine DP_end ⟨[6, 7], [0, 1, 2, 3, 4, 5], [0, 1, 2, 3, 4, 5], [], []⟩ rfl rfl (by decide +kernel) rfl trivial ?_
        refine K_sub (F' := [(4, Ptr nb2 0)]) (Sub.cons (by kernel_rfl) (Sub.nil)) ?_
        show JQ _ _ _ [(4, Ptr nb2 0)] _
        refine JQ_then ?_
        refine JC_ret ?_
        refine JQ_ret (.agg (cu8 (addL s (mid ks 0 16))).toArray) (res1 Try.results29 (RV_cell rfl (Ld_agg Try.isAgg27 Try.sizeOf27 (len_cu8 (addL_len hs)) (MemAt.ent 0 rfl (Seg.whole _))))) fun w1 hw1 => ?_
        have e1 : j = 0 := by omega
        subst e1
        subst hx2
        exact ⟨_, [], rfl, ⟨rfl, rfl⟩, hw1.sub (by simp) (by simp)⟩
    ·
      rintro v1 L1 ⟨nb4, hnb4, rfl, rfl⟩
      refine ⟨[], ?_⟩
      show DP _ _ _ _ _ _ _ _ [⟨nb1, cu8 b, 27, (0, 0)⟩, ⟨nb2, cu8 (zr8 16), 27, (0, 0)⟩, ⟨nb4, cu8 (zr8 16), 27, (0, 0)⟩]
      refine DP_one ⟨[6, 11], [0, 1, 2, 3, 4, 5, 7, 8, 9], [0, 1, 2, 3, 4, 5], [7, 8, 9], [10]⟩ 10 _ rfl rfl (by decide +kernel) rfl ⟨⟨_, rfl, Qok_val rfl (Ev_move rfl)⟩, ⟨_, rfl, Qok_val rfl (Ev_nilCheck rfl)⟩, ⟨_, rfl, Qok_val rfl (Ev_fieldAddr 432 104 256 Try.underlying106 rfl Try.sizeOf104 rfl rfl)⟩, trivial⟩ rfl (Cok_step rfl (Step_callP 75 [.agg (cu8 (addL b (mid ks 160 16))).toArray, Ptr c 432, I64 (3:Int)] (.agg (cu8 (sh3L backL (addL b (mid ks 160 16)))).toArray) (Cl_func [.agg (cu8 (addL b (mid ks 160 16))).toArray, Ptr c 432, I64 (3:Int)] Try.call75 rfl) (fun w1 hw1 => shifted3_c (addL b (mid ks 160 16)) backL c 432 w1 (addL_len hb) backL_len (RdA.of hw1 (MemAt.seg (MemAt.heap hc (by simp)) (Seg.right 432 0 (by simp [hks, thereL_len]) rfl (Seg.whole _)) (by omega)) (by simp [backL_len]))))) ?_
      rintro v1 L1 ⟨rfl, rfl⟩
      refine ⟨[], ?_⟩
      show DP _ _ _ _ _ _ _ _ [⟨nb1, cu8 b, 27, (0, 0)⟩, ⟨nb2, cu8 (zr8 16), 27, (0, 0)⟩, ⟨nb4, cu8 (zr8 16), 27, (0, 0)⟩]
      refine DP_one ⟨[6, 11, 10], [0, 1, 2, 3, 4, 5, 7, 8, 9], [0, 1, 2, 3, 4, 5, 7, 8, 9], [], [12]⟩ 12 _ rfl rfl (by decide +kernel) rfl trivial rfl (Cok_step rfl (Step_store 2 nb4 0 16 (cu8 (zr8 16)) 27 (.agg (cu8 (sh3L backL (addL b (mid ks 160 16)))).toArray) (cu8 (sh3L backL (addL b (mid ks 160 16)))) (cu8 (sh3L backL (addL b (mid ks 160 16)))) rfl rfl rfl (by first | rfl | simp) Try.sizeOf27 (len_cu8 (sh3L_len _ _)) (by first | exact one_u8 | exact one_u32 | exact one_u64 | (simp [cu8, cu32, cu64, Value.oneCell']; done)) (by simp [(zr8_len 16)]) (lay_whole (by simp [(zr8_len 16), (sh3L_len _ _)])))) ?_
      rintro v1 L1 ⟨rfl, rfl⟩
      refine ⟨[], ?_⟩
      show DP _ _ _ _ _ _ _ _ [⟨nb1, cu8 b, 27, (0, 0)⟩, ⟨nb2, cu8 (zr8 16), 27, (0, 0)⟩, ⟨nb4, cu8 (sh3L backL (addL b (mid ks 160 16))), 27, (0, 0)⟩]
      refine DP_end ⟨[6, 11, 10, 12], [0, 1, 2, 3, 4, 5, 7, 8, 9], [0, 1, 2, 3, 4, 5, 7, 8, 9], [], []⟩ rfl rfl (by decide +kernel) rfl trivial ?_
      refine K_sub (F' := [(5, Ptr nb4 0), (0, Ptr c 0), (4, Ptr nb2 0)]) (Sub.cons (by kernel_rfl) (Sub.cons (by kernel_rfl) (Sub.cons (by kernel_rfl) (Sub.nil)))) ?_
      show JQ _ _ _ [(5, Ptr nb4 0), (0, Ptr c 0), (4, Ptr nb2 0)] _
      refine JQ_then ?_
      refine JC_seq ?_
      refine JC_seq ?_
      refine JC_region ?_
      refine JL_val _ (Ev_assign rfl) rfl ?_
      refine JL_nil ?_
      refine JQ_then ?_
      refine JC_block ?_
      refine K_mask [false, true, true] ?_
      show JC _ _ _ _ [⟨nb2, cu8 (zr8 16), 27, (0, 0)⟩, ⟨nb4, cu8 (sh3L backL (addL b (mid ks 160 16))), 27, (0, 0)⟩]
      refine JC_loop (ι := Nat × List UInt8) (fun ⟨j, s⟩ => [(0, Ptr c 0), (4, Ptr nb2 0), (5, Ptr nb4 0), (6, I64 ((j:Int)))]) (fun ⟨j, s⟩ => [⟨nb2, cu8 (zr8 16), 27, (0, 0)⟩, ⟨nb4, cu8 s, 27, (0, 0)⟩]) (fun ⟨j, s⟩ => j ≤ 9 ∧ s = decN ks b (9 - j) ∧ s.length = 16) (fun ⟨j, s⟩ => j) (9, sh3L backL (addL b (mid ks 160 16))) ⟨by omega, by rw [decN], sh3L_len _ _⟩ (Sub.cons rfl (Sub.cons rfl (Sub.cons rfl (Sub.cons rfl (Sub.nil))))) rfl ?_
      rintro ⟨j, s⟩ ⟨hx1, hx2, hs⟩
      show JC _ _ _ [(0, Ptr c 0), (4, Ptr nb2 0), (5, Ptr nb4 0), (6, I64 ((j:Int)))] [⟨nb2, cu8 (zr8 16), 27, (0, 0)⟩, ⟨nb4, cu8 s, 27, (0, 0)⟩]
      refine JC_seq ?_
      refine JC_seq ?_
      refine JC_region ?_
      refine JL_val _ (Ev_move rfl) rfl ?_
      refine JL_val (.bool (decide ((0:Int) < ((j:Int))))) (Ev_bini rfl rfl fun _ => bin_gtr_i _ _) rfl ?_
      refine JL_nil ?_
      refine JQ_then ?_
      refine JC_cond (decide ((0:Int) < ((j:Int)))) rfl (fun hb2 => ?_) (fun hb2 => ?_)
      ·
        have hp2 : (0:Int) < ((j:Int)) := of_decide_eq_true hb2
        refine JC_skip ?_
        refine JQ_then ?_
        refine JC_seq ?_
        refine JC_block ?_
        have hl7 : (mid ks (16*j) 16).length = 16 := mid_len (by rw [hks]; omega)
        refine JC_draw 45 5 [(0, .agg (cu8 s).toArray), (1, Ptr c 0), (2, I64 ((j:Int))), (3, Ptr c 0), (4, Ptr c 0), (5, Ptr c (16*j)), (6, .agg (cu8 (mid ks (16*j) 16)).toArray), (8, .agg (cu8 ([(14:UInt8), (11:UInt8), (13:UInt8), (9:UInt8)])).toArray), (10, Ptr c 0), (11, Ptr c 0), (12, Ptr c 432)] Try.mixed rfl (by decide +kernel) ?_
        have hl8 : (mid ks (16*j) 16).length = 16 := mid_len (by rw [hks]; omega)
        refine DP_one ⟨[], [0, 1, 2, 3, 4, 5, 6, 8, 10, 11, 12], [], [0, 1, 2, 3, 4, 5, 6, 8, 10, 11, 12], [7]⟩ 7 _ rfl rfl (by decide +kernel) rfl ⟨⟨_, rfl, Qok_val rfl (Ev_load rfl (Ld_agg Try.isAgg27 Try.sizeOf27 (len_cu8 hs) (MemAt.ent 1 rfl (Seg.whole _))))⟩, ⟨_, rfl, Qok_val rfl (Ev_move rfl)⟩, ⟨_, rfl, Qok_val rfl (Ev_move rfl)⟩, ⟨_, rfl, Qok_val rfl (Ev_nilCheck rfl)⟩, ⟨_, rfl, Qok_val rfl (Ev_fieldAddr 0 103 176 Try.underlying106 rfl Try.sizeOf103 rfl rfl)⟩, ⟨_, rfl, Qok_val rfl (Ev_indexArr 11 27 16 (16*j) Try.underlying103 Try.sizeOf27 rfl rfl (by omega) (by omega) (by omega))⟩, ⟨_, rfl, Qok_val rfl (Ev_load rfl (Ld_agg Try.isAgg27 Try.sizeOf27 (len_cu8 hl8) (MemAt.seg (MemAt.heap hc (by simp)) (Seg.left (Seg.left (segm_u8 (16*j) 16 (by rw [hks]; omega)))) (by omega))))⟩, ⟨_, rfl, Qok_val rfl (Ev_build [(0, U8 (14:UInt8)), (1, U8 (11:UInt8)), (2, U8 (13:UInt8)), (3, U8 (9:UInt8))] _ rfl (fun _ => by kernel_rfl))⟩, ⟨_, rfl, Qok_val rfl (Ev_move rfl)⟩, ⟨_, rfl, Qok_val rfl (Ev_nilCheck rfl)⟩, ⟨_, rfl, Qok_val rfl (Ev_fieldAddr 432 104 256 Try.underlying106 rfl Try.sizeOf104 rfl rfl)⟩, trivial⟩ rfl (Cok_step rfl (Step_callP 73 [.agg (cu8 s).toArray, .agg (cu8 (mid ks (16*j) 16)).toArray] (.agg (cu8 (addL s (mid ks (16*j) 16))).toArray) (Cl_func [.agg (cu8 s).toArray, .agg (cu8 (mid ks (16*j) 16)).toArray] Try.call73 rfl) (fun w1 hw1 => added_c s (mid ks (16*j) 16) w1 hs hl7))) ?_
        rintro v1 L1 ⟨rfl, rfl⟩
        refine ⟨[], ?_⟩
        show DP _ _ _ _ _ _ _ _ [⟨nb2, cu8 (zr8 16), 27, (0, 0)⟩, ⟨nb4, cu8 s, 27, (0, 0)⟩]
        refine DP_one ⟨[7], [0, 1, 2, 3, 4, 5, 6, 8, 10, 11, 12], [0, 1, 2, 3, 4, 5, 6], [8, 10, 11, 12], [9]⟩ 9 _ rfl rfl (by decide +kernel) rfl ⟨⟨_, rfl, Qok_val rfl (Ev_build [(0, U8 (14:UInt8)), (1, U8 (11:UInt8)), (2, U8 (13:UInt8)), (3, U8 (9:UInt8))] _ rfl (fun _ => by kernel_rfl))⟩, ⟨_, rfl, Qok_val rfl (Ev_move rfl)⟩, ⟨_, rfl, Qok_val rfl (Ev_nilCheck rfl)⟩, ⟨_, rfl, Qok_val rfl (Ev_fieldAddr 432 104 256 Try.underlying106 rfl Try.sizeOf104 rfl rfl)⟩, trivial⟩ rfl (Cok_step rfl (Step_callP 74 [.agg (cu8 (addL s (mid ks (16*j) 16))).toArray, .agg (cu8 ([(14:UInt8), (11:UInt8), (13:UInt8), (9:UInt8)])).toArray] (.agg (cu8 (mixL (addL s (mid ks (16*j) 16)) ([(14:UInt8), (11:UInt8), (13:UInt8), (9:UInt8)]))).toArray) (Cl_func [.agg (cu8 (addL s (mid ks (16*j) 16))).toArray, .agg (cu8 ([(14:UInt8), (11:UInt8), (13:UInt8), (9:UInt8)])).toArray] Try.call74 rfl) (fun w1 hw1 => mixed_c (addL s (mid ks (16*j) 16)) ([(14:UInt8), (11:UInt8), (13:UInt8), (9:UInt8)]) w1 (addL_len hs) rfl))) ?_
        rintro v1 L1 ⟨rfl, rfl⟩
        refine ⟨[], ?_⟩
        show DP _ _ _ _ _ _ _ _ [⟨nb2, cu8 (zr8 16), 27, (0, 0)⟩, ⟨nb4, cu8 s, 27, (0, 0)⟩]
        refine DP_one ⟨[7, 9], [0, 1, 2, 3, 4, 5, 6, 8, 10, 11, 12], [0, 1, 2, 3, 4, 5, 6, 8], [10, 11, 12], [13]⟩ 13 _ rfl rfl (by decide +kernel) rfl ⟨⟨_, rfl, Qok_val rfl (Ev_move rfl)⟩, ⟨_, rfl, Qok_val rfl (Ev_nilCheck rfl)⟩, ⟨_, rfl, Qok_val rfl (Ev_fieldAddr 432 104 256 Try.underlying106 rfl Try.sizeOf104 rfl rfl)⟩, trivial⟩ rfl (Cok_step rfl (Step_callP 75 [.agg (cu8 (mixL (addL s (mid ks (16*j) 16)) ([(14:UInt8), (11:UInt8), (13:UInt8), (9:UInt8)]))).toArray, Ptr c 432, I64 (3:Int)] (.agg (cu8 (sh3L backL (mixL (addL s (mid ks (16*j) 16)) ([(14:UInt8), (11:UInt8), (13:UInt8), (9:UInt8)])))).toArray) (Cl_func [.agg (cu8 (mixL (addL s (mid ks (16*j) 16)) ([(14:UInt8), (11:UInt8), (13:UInt8), (9:UInt8)]))).toArray, Ptr c 432, I64 (3:Int)] Try.call75 rfl) (fun w1 hw1 => shifted3_c (mixL (addL s (mid ks (16*j) 16)) ([(14:UInt8), (11:UInt8), (13:UInt8), (9:UInt8)])) backL c 432 w1 (mixL_len _ _) backL_len (RdA.of hw1 (MemAt.seg (MemAt.heap hc (by simp)) (Seg.right 432 0 (by simp [hks, thereL_len]) rfl (Seg.whole _)) (by omega)) (by simp [backL_len]))))) ?_
        rintro v1 L1 ⟨rfl, rfl⟩
        refine ⟨[], ?_⟩
        show DP _ _ _ _ _ _ _ _ [⟨nb2, cu8 (zr8 16), 27, (0, 0)⟩, ⟨nb4, cu8 s, 27, (0, 0)⟩]
        refine DP_one ⟨[7, 9, 13], [0, 1, 2, 3, 4, 5, 6, 8, 10, 11, 12], [0, 1, 2, 3, 4, 5, 6, 8, 10, 11, 12], [], [14]⟩ 14 _ rfl rfl (by decide +kernel) rfl trivial rfl (Cok_step rfl (Step_store 1 nb4 0 16 (cu8 s) 27 (.agg (cu8 (sh3L backL (mixL (addL s (mid ks (16*j) 16)) ([(14:UInt8), (11:UInt8), (13:UInt8), (9:UInt8)])))).toArray) (cu8 (sh3L backL (mixL (addL s (mid ks (16*j) 16)) ([(14:UInt8), (11:UInt8), (13:UInt8), (9:UInt8)])))) (cu8 (sh3L backL (mixL (addL s (mid ks (16*j) 16)) ([(14:UInt8), (11:UInt8), (13:UInt8), (9:UInt8)])))) rfl rfl rfl (by first | rfl | simp) Try.sizeOf27 (len_cu8 (sh3L_len _ _)) (by first | exact one_u8 | exact one_u32 | exact one_u64 | (simp [cu8, cu32, cu64, Value.oneCell']; done)) (by simp [hs]) (lay_whole (by simp [hs, (sh3L_len _ _)])))) ?_
        rintro v1 L1 ⟨rfl, rfl⟩
        refine ⟨[], ?_⟩
        show DP _ _ _ _ _ _ _ _ [⟨nb2, cu8 (zr8 16), 27, (0, 0)⟩, ⟨nb4, cu8 (sh3L backL (mixL (addL s (mid ks (16*j) 16)) ([(14:UInt8), (11:UInt8), (13:UInt8), (9:UInt8)]))), 27, (0, 0)⟩]
        refine DP_end ⟨[7, 9, 13, 14], [0, 1, 2, 3, 4, 5, 6, 8, 10, 11, 12], [0, 1, 2, 3, 4, 5, 6, 8, 10, 11, 12], [], []⟩ rfl rfl (by decide +kernel) rfl trivial ?_
        refine K_sub (F' := [(24, .agg (cu8 s).toArray), (25, Ptr c 0), (26, I64 ((j:Int))), (27, Ptr c 0), (28, Ptr c 0), (29, Ptr c (16*j)), (30, .agg (cu8 (mid ks (16*j) 16)).toArray), (31, .agg (cu8 (addL s (mid ks (16*j) 16))).toArray), (32, .agg (cu8 ([(14:UInt8), (11:UInt8), (13:UInt8), (9:UInt8)])).toArray), (33, .agg (cu8 (mixL (addL s (mid ks (16*j) 16)) ([(14:UInt8), (11:UInt8), (13:UInt8), (9:UInt8)]))).toArray), (34, Ptr c 0), (35, Ptr c 0), (36, Ptr c 432), (37, .agg (cu8 (sh3L backL (mixL (addL s (mid ks (16*j) 16)) ([(14:UInt8), (11:UInt8), (13:UInt8), (9:UInt8)])))).toArray), (0, Ptr c 0), (4, Ptr nb2 0), (5, Ptr nb4 0), (6, I64 ((j:Int))), (20, I64 ((j:Int))), (21, .bool (decide ((0:Int) < ((j:Int)))))]) (Sub.cons (by kernel_rfl) (Sub.cons (by kernel_rfl) (Sub.cons (by kernel_rfl) (Sub.cons (by kernel_rfl) (Sub.cons (by kernel_rfl) (Sub.cons (by kernel_rfl) (Sub.cons (by kernel_rfl) (Sub.cons (by kernel_rfl) (Sub.cons (by kernel_rfl) (Sub.cons (by kernel_rfl) (Sub.cons (by kernel_rfl) (Sub.cons (by kernel_rfl) (Sub.cons (by kernel_rfl) (Sub.cons (by kernel_rfl) (Sub.cons (by kernel_rfl) (Sub.cons (by kernel_rfl) (Sub.cons (by kernel_rfl) (Sub.cons (by kernel_rfl) (Sub.cons (by kernel_rfl) (Sub.cons (by kernel_rfl) (Sub.nil))))))))))))))))))))) ?_
        show JQ _ _ _ [(24, .agg (cu8 s).toArray), (25, Ptr c 0), (26, I64 ((j:Int))), (27, Ptr c 0), (28, Ptr c 0), (29, Ptr c (16*j)), (30, .agg (cu8 (mid ks (16*j) 16)).toArray), (31, .agg (cu8 (addL s (mid ks (16*j) 16))).toArray), (32, .agg (cu8 ([(14:UInt8), (11:UInt8), (13:UInt8), (9:UInt8)])).toArray), (33, .agg (cu8 (mixL (addL s (mid ks (16*j) 16)) ([(14:UInt8), (11:UInt8), (13:UInt8), (9:UInt8)]))).toArray), (34, Ptr c 0), (35, Ptr c 0), (36, Ptr c 432), (37, .agg (cu8 (sh3L backL (mixL (addL s (mid ks (16*j) 16)) ([(14:UInt8), (11:UInt8), (13:UInt8), (9:UInt8)])))).toArray), (0, Ptr c 0), (4, Ptr nb2 0), (5, Ptr nb4 0), (6, I64 ((j:Int))), (20, I64 ((j:Int))), (21, .bool (decide ((0:Int) < ((j:Int)))))] _
        refine JQ_in_normal ?_
        refine JQ_then ?_
        refine JC_region ?_
        refine JL_val _ (Ev_move rfl) rfl ?_
        refine JL_val (I64 ((j:Int) - 1)) (Ev_bini rfl rfl fun _ => bin_sub_i _ _ ((j:Int) - 1) (by omega) (by omega)) rfl ?_
        refine JL_val _ (Ev_assign rfl) rfl ?_
        refine JL_nil ?_
        refine JQ_thenK ?_
        refine K_next (j - 1, sh3L backL (mixL (addL s (mid ks (16*j) 16)) ([(14:UInt8), (11:UInt8), (13:UInt8), (9:UInt8)]))) ⟨by omega, by rw [show 9 - (j - 1) = (9 - j) + 1 from by omega, decN, ← hx2, show 9 - (9 - j) = j from by omega], (sh3L_len _ _)⟩ (by simp; omega) (Sub.cons rfl (Sub.cons rfl (Sub.cons rfl (Sub.cons (some_i64 (a := (j:Int) - 1) (by omega)) (Sub.nil))))) rfl
      ·
        have hp2 : ¬ ((0:Int) < ((j:Int))) := of_decide_eq_false hb2
        refine JC_exit ?_
        refine JQ_then_exit ?_
        refine JQ_then_exit ?_
        refine JQ_in_same ?_
        refine JQ_then ?_
        refine JC_seq ?_
        have hl9 : (mid ks 0 16).length = 16 := mid_len (by rw [hks]; omega)
        refine JC_draw 45 3 [(0, .agg (cu8 s).toArray), (1, Ptr c 0), (2, Ptr c 0), (3, Ptr c 0), (4, Ptr c 0), (5, .agg (cu8 (mid ks 0 16)).toArray)] Try.mixed rfl (by decide +kernel) ?_
        have hl10 : (mid ks 0 16).length = 16 := mid_len (by rw [hks]; omega)
        refine DP_one ⟨[], [0, 1, 2, 3, 4, 5], [], [0, 1, 2, 3, 4, 5], [6]⟩ 6 _ rfl rfl (by decide +kernel) rfl ⟨⟨_, rfl, Qok_val rfl (Ev_load rfl (Ld_agg Try.isAgg27 Try.sizeOf27 (len_cu8 hs) (MemAt.ent 1 rfl (Seg.whole _))))⟩, ⟨_, rfl, Qok_val rfl (Ev_move rfl)⟩, ⟨_, rfl, Qok_val rfl (Ev_nilCheck rfl)⟩, ⟨_, rfl, Qok_val rfl (Ev_fieldAddr 0 103 176 Try.underlying106 rfl Try.sizeOf103 rfl rfl)⟩, ⟨_, rfl, Qok_val rfl (Ev_indexArr 11 27 16 0 Try.underlying103 Try.sizeOf27 rfl rfl (by omega) (by omega) (by omega))⟩, ⟨_, rfl, Qok_val rfl (Ev_load rfl (Ld_agg Try.isAgg27 Try.sizeOf27 (len_cu8 hl10) (MemAt.seg (MemAt.heap hc (by simp)) (Seg.left (Seg.left (segm_u8 0 16 (by rw [hks]; omega)))) (by omega))))⟩, trivial⟩ rfl (Cok_step rfl (Step_callP 73 [.agg (cu8 s).toArray, .agg (cu8 (mid ks 0 16)).toArray] (.agg (cu8 (addL s (mid ks 0 16))).toArray) (Cl_func [.agg (cu8 s).toArray, .agg (cu8 (mid ks 0 16)).toArray] Try.call73 rfl) (fun w1 hw1 => added_c s (mid ks 0 16) w1 hs hl9))) ?_
        rintro v1 L1 ⟨rfl, rfl⟩
        refine ⟨[], ?_⟩
        show DP _ _ _ _ _ _ _ _ [⟨nb2, cu8 (zr8 16), 27, (0, 0)⟩, ⟨nb4, cu8 s, 27, (0, 0)⟩]
        refine DP_one ⟨[6], [0, 1, 2, 3, 4, 5], [0, 1, 2, 3, 4, 5], [], [7]⟩ 7 _ rfl rfl (by decide +kernel) rfl trivial rfl (Cok_step rfl (Step_store 0 nb2 0 16 (cu8 (zr8 16)) 27 (.agg (cu8 (addL s (mid ks 0 16))).toArray) (cu8 (addL s (mid ks 0 16))) (cu8 (addL s (mid ks 0 16))) rfl rfl rfl (by first | rfl | simp) Try.sizeOf27 (len_cu8 (addL_len hs)) (by first | exact one_u8 | exact one_u32 | exact one_u64 | (simp [cu8, cu32, cu64, Value.oneCell']; done)) (by simp [(zr8_len 16)]) (lay_whole (by simp [(zr8_len 16), (addL_len hs)])))) ?_
        rintro v1 L1 ⟨rfl, rfl⟩
        refine ⟨[], ?_⟩
        show DP _ _ _ _ _ _ _ _ [⟨nb2, cu8 (addL s (mid ks 0 16)), 27, (0, 0)⟩, ⟨nb4, cu8 s, 27, (0, 0)⟩]
        refine DP_end ⟨[6, 7], [0, 1, 2, 3, 4, 5], [0, 1, 2, 3, 4, 5], [], []⟩ rfl rfl (by decide +kernel) rfl trivial ?_
        refine K_sub (F' := [(4, Ptr nb2 0)]) (Sub.cons (by kernel_rfl) (Sub.nil)) ?_
        show JQ _ _ _ [(4, Ptr nb2 0)] _
        refine JQ_then ?_
        refine JC_ret ?_
        refine JQ_ret (.agg (cu8 (addL s (mid ks 0 16))).toArray) (res1 Try.results29 (RV_cell rfl (Ld_agg Try.isAgg27 Try.sizeOf27 (len_cu8 (addL_len hs)) (MemAt.ent 0 rfl (Seg.whole _))))) fun w1 hw1 => ?_
        have e1 : j = 0 := by omega
        subst e1
        subst hx2
        exact ⟨_, [], rfl, ⟨rfl, rfl⟩, hw1.sub (by simp) (by simp)⟩
  ·
    rintro v1 L1 ⟨nb3, hnb3, rfl, rfl⟩
    refine ⟨[], ?_⟩
    show DP _ _ _ _ _ _ _ _ [⟨nb1, cu8 b, 27, (0, 0)⟩, ⟨nb2, cu8 (zr8 16), 27, (0, 0)⟩, ⟨nb3, cu8 (zr8 16), 27, (0, 0)⟩]
    have hl11 : (mid ks 160 16).length = 16 := mid_len (by rw [hks]; omega)
    refine DP_one ⟨[11], [0, 1, 2, 3, 4, 5, 7, 8, 9], [], [0, 1, 2, 3, 4, 5, 7, 8, 9], [6]⟩ 6 _ rfl rfl (by decide +kernel) rfl ⟨⟨_, rfl, Qok_val rfl (Ev_load rfl (Ld_agg Try.isAgg27 Try.sizeOf27 (len_cu8 hb) (MemAt.ent 0 rfl (Seg.whole _))))⟩, ⟨_, rfl, Qok_val rfl (Ev_move rfl)⟩, ⟨_, rfl, Qok_val rfl (Ev_nilCheck rfl)⟩, ⟨_, rfl, Qok_val rfl (Ev_fieldAddr 0 103 176 Try.underlying106 rfl Try.sizeOf103 rfl rfl)⟩, ⟨_, rfl, Qok_val rfl (Ev_indexArr 11 27 16 160 Try.underlying103 Try.sizeOf27 rfl rfl (by omega) (by omega) (by omega))⟩, ⟨_, rfl, Qok_val rfl (Ev_load rfl (Ld_agg Try.isAgg27 Try.sizeOf27 (len_cu8 hl11) (MemAt.seg (MemAt.heap hc (by simp)) (Seg.left (Seg.left (segm_u8 160 16 (by rw [hks]; omega)))) (by omega))))⟩, ⟨_, rfl, Qok_val rfl (Ev_move rfl)⟩, ⟨_, rfl, Qok_val rfl (Ev_nilCheck rfl)⟩, ⟨_, rfl, Qok_val rfl (Ev_fieldAddr 432 104 256 Try.underlying106 rfl Try.sizeOf104 rfl rfl)⟩, trivial⟩ rfl (Cok_step rfl (Step_callP 73 [.agg (cu8 b).toArray, .agg (cu8 (mid ks 160 16)).toArray] (.agg (cu8 (addL b (mid ks 160 16))).toArray) (Cl_func [.agg (cu8 b).toArray, .agg (cu8 (mid ks 160 16)).toArray] Try.call73 rfl) (fun w1 hw1 => added_c b (mid ks 160 16) w1 hb hl1))) ?_
    rintro v1 L1 ⟨rfl, rfl⟩
    refine ⟨[], ?_⟩
    show DP _ _ _ _ _ _ _ _ [⟨nb1, cu8 b, 27, (0, 0)⟩, ⟨nb2, cu8 (zr8 16), 27, (0, 0)⟩, ⟨nb3, cu8 (zr8 16), 27, (0, 0)⟩]
    refine DP_one ⟨[11, 6], [0, 1, 2, 3, 4, 5, 7, 8, 9], [0, 1, 2, 3, 4, 5], [7, 8, 9], [10]⟩ 10 _ rfl rfl (by decide +kernel) rfl ⟨⟨_, rfl, Qok_val rfl (Ev_move rfl)⟩, ⟨_, rfl, Qok_val rfl (Ev_nilCheck rfl)⟩, ⟨_, rfl, Qok_val rfl (Ev_fieldAddr 432 104 256 Try.underlying106 rfl Try.sizeOf104 rfl rfl)⟩, trivial⟩ rfl (Cok_step rfl (Step_callP 75 [.agg (cu8 (addL b (mid ks 160 16))).toArray, Ptr c 432, I64 (3:Int)] (.agg (cu8 (sh3L backL (addL b (mid ks 160 16)))).toArray) (Cl_func [.agg (cu8 (addL b (mid ks 160 16))).toArray, Ptr c 432, I64 (3:Int)] Try.call75 rfl) (fun w1 hw1 => shifted3_c (addL b (mid ks 160 16)) backL c 432 w1 (addL_len hb) backL_len (RdA.of hw1 (MemAt.seg (MemAt.heap hc (by simp)) (Seg.right 432 0 (by simp [hks, thereL_len]) rfl (Seg.whole _)) (by omega)) (by simp [backL_len]))))) ?_
    rintro v1 L1 ⟨rfl, rfl⟩
    refine ⟨[], ?_⟩
    show DP _ _ _ _ _ _ _ _ [⟨nb1, cu8 b, 27, (0, 0)⟩, ⟨nb2, cu8 (zr8 16), 27, (0, 0)⟩, ⟨nb3, cu8 (zr8 16), 27, (0, 0)⟩]
    refine DP_one ⟨[11, 6, 10], [0, 1, 2, 3, 4, 5, 7, 8, 9], [0, 1, 2, 3, 4, 5, 7, 8, 9], [], [12]⟩ 12 _ rfl rfl (by decide +kernel) rfl trivial rfl (Cok_step rfl (Step_store 2 nb3 0 16 (cu8 (zr8 16)) 27 (.agg (cu8 (sh3L backL (addL b (mid ks 160 16)))).toArray) (cu8 (sh3L backL (addL b (mid ks 160 16)))) (cu8 (sh3L backL (addL b (mid ks 160 16)))) rfl rfl rfl (by first | rfl | simp) Try.sizeOf27 (len_cu8 (sh3L_len _ _)) (by first | exact one_u8 | exact one_u32 | exact one_u64 | (simp [cu8, cu32, cu64, Value.oneCell']; done)) (by simp [(zr8_len 16)]) (lay_whole (by simp [(zr8_len 16), (sh3L_len _ _)])))) ?_
    rintro v1 L1 ⟨rfl, rfl⟩
    refine ⟨[], ?_⟩
    show DP _ _ _ _ _ _ _ _ [⟨nb1, cu8 b, 27, (0, 0)⟩, ⟨nb2, cu8 (zr8 16), 27, (0, 0)⟩, ⟨nb3, cu8 (sh3L backL (addL b (mid ks 160 16))), 27, (0, 0)⟩]
    refine DP_end ⟨[11, 6, 10, 12], [0, 1, 2, 3, 4, 5, 7, 8, 9], [0, 1, 2, 3, 4, 5, 7, 8, 9], [], []⟩ rfl rfl (by decide +kernel) rfl trivial ?_
    refine K_sub (F' := [(5, Ptr nb3 0), (0, Ptr c 0), (4, Ptr nb2 0)]) (Sub.cons (by kernel_rfl) (Sub.cons (by kernel_rfl) (Sub.cons (by kernel_rfl) (Sub.nil)))) ?_
    show JQ _ _ _ [(5, Ptr nb3 0), (0, Ptr c 0), (4, Ptr nb2 0)] _
    refine JQ_then ?_
    refine JC_seq ?_
    refine JC_seq ?_
    refine JC_region ?_
    refine JL_val _ (Ev_assign rfl) rfl ?_
    refine JL_nil ?_
    refine JQ_then ?_
    refine JC_block ?_
    refine K_mask [false, true, true] ?_
    show JC _ _ _ _ [⟨nb2, cu8 (zr8 16), 27, (0, 0)⟩, ⟨nb3, cu8 (sh3L backL (addL b (mid ks 160 16))), 27, (0, 0)⟩]
    refine JC_loop (ι := Nat × List UInt8) (fun ⟨j, s⟩ => [(0, Ptr c 0), (4, Ptr nb2 0), (5, Ptr nb3 0), (6, I64 ((j:Int)))]) (fun ⟨j, s⟩ => [⟨nb2, cu8 (zr8 16), 27, (0, 0)⟩, ⟨nb3, cu8 s, 27, (0, 0)⟩]) (fun ⟨j, s⟩ => j ≤ 9 ∧ s = decN ks b (9 - j) ∧ s.length = 16) (fun ⟨j, s⟩ => j) (9, sh3L backL (addL b (mid ks 160 16))) ⟨by omega, by rw [decN], sh3L_len _ _⟩ (Sub.cons rfl (Sub.cons rfl (Sub.cons rfl (Sub.cons rfl (Sub.nil))))) rfl ?_
    rintro ⟨j, s⟩ ⟨hx1, hx2, hs⟩
    show JC _ _ _ [(0, Ptr c 0), (4, Ptr nb2 0), (5, Ptr nb3 0), (6, I64 ((j:Int)))] [⟨nb2, cu8 (zr8 16), 27, (0, 0)⟩, ⟨nb3, cu8 s, 27, (0, 0)⟩]
    refine JC_seq ?_
    refine JC_seq ?_
    refine JC_region ?_
    refine JL_val _ (Ev_move rfl) rfl ?_
    refine JL_val (.bool (decide ((0:Int) < ((j:Int))))) (Ev_bini rfl rfl fun _ => bin_gtr_i _ _) rfl ?_
    refine JL_nil ?_
    refine JQ_then ?_
    refine JC_cond (decide ((0:Int) < ((j:Int)))) rfl (fun hb3 => ?_) (fun hb3 => ?_)
    ·
      have hp3 : (0:Int) < ((j:Int)) := of_decide_eq_true hb3
      refine JC_skip ?_
      refine JQ_then ?_
      refine JC_seq ?_
      refine JC_block ?_
      have hl12 : (mid ks (16*j) 16).length = 16 := mid_len (by rw [hks]; omega)
      refine JC_draw 45 5 [(0, .agg (cu8 s).toArray), (1, Ptr c 0), (2, I64 ((j:Int))), (3, Ptr c 0), (4, Ptr c 0), (5, Ptr c (16*j)), (6, .agg (cu8 (mid ks (16*j) 16)).toArray), (8, .agg (cu8 ([(14:UInt8), (11:UInt8), (13:UInt8), (9:UInt8)])).toArray), (10, Ptr c 0), (11, Ptr c 0), (12, Ptr c 432)] Try.mixed rfl (by decide +kernel) ?_
      have hl13 : (mid ks (16*j) 16).length = 16 := mid_len (by rw [hks]; omega)
      refine DP_one ⟨[], [0, 1, 2, 3, 4, 5, 6, 8, 10, 11, 12], [], [0, 1, 2, 3, 4, 5, 6, 8, 10, 11, 12], [7]⟩ 7 _ rfl rfl (by decide +kernel) rfl ⟨⟨_, rfl, Qok_val rfl (Ev_load rfl (Ld_agg Try.isAgg27 Try.sizeOf27 (len_cu8 hs) (MemAt.ent 1 rfl (Seg.whole _))))⟩, ⟨_, rfl, Qok_val rfl (Ev_move rfl)⟩, ⟨_, rfl, Qok_val rfl (Ev_move rfl)⟩, ⟨_, rfl, Qok_val rfl (Ev_nilCheck rfl)⟩, ⟨_, rfl, Qok_val rfl (Ev_fieldAddr 0 103 176 Try.underlying106 rfl Try.sizeOf103 rfl rfl)⟩, ⟨_, rfl, Qok_val rfl (Ev_indexArr 11 27 16 (16*j) Try.underlying103 Try.sizeOf27 rfl rfl (by omega) (by omega) (by omega))⟩, ⟨_, rfl, Qok_val rfl (Ev_load rfl (Ld_agg Try.isAgg27 Try.sizeOf27 (len_cu8 hl13) (MemAt.seg (MemAt.heap hc (by simp)) (Seg.left (Seg.left (segm_u8 (16*j) 16 (by rw [hks]; omega)))) (by omega))))⟩, ⟨_, rfl, Qok_val rfl (Ev_build [(0, U8 (14:UInt8)), (1, U8 (11:UInt8)), (2, U8 (13:UInt8)), (3, U8 (9:UInt8))] _ rfl (fun _ => by kernel_rfl))⟩, ⟨_, rfl, Qok_val rfl (Ev_move rfl)⟩, ⟨_, rfl, Qok_val rfl (Ev_nilCheck rfl)⟩, ⟨_, rfl, Qok_val rfl (Ev_fieldAddr 432 104 256 Try.underlying106 rfl Try.sizeOf104 rfl rfl)⟩, trivial⟩ rfl (Cok_step rfl (Step_callP 73 [.agg (cu8 s).toArray, .agg (cu8 (mid ks (16*j) 16)).toArray] (.agg (cu8 (addL s (mid ks (16*j) 16))).toArray) (Cl_func [.agg (cu8 s).toArray, .agg (cu8 (mid ks (16*j) 16)).toArray] Try.call73 rfl) (fun w1 hw1 => added_c s (mid ks (16*j) 16) w1 hs hl12))) ?_
      rintro v1 L1 ⟨rfl, rfl⟩
      refine ⟨[], ?_⟩
      show DP _ _ _ _ _ _ _ _ [⟨nb2, cu8 (zr8 16), 27, (0, 0)⟩, ⟨nb3, cu8 s, 27, (0, 0)⟩]
      refine DP_one ⟨[7], [0, 1, 2, 3, 4, 5, 6, 8, 10, 11, 12], [0, 1, 2, 3, 4, 5, 6], [8, 10, 11, 12], [9]⟩ 9 _ rfl rfl (by decide +kernel) rfl ⟨⟨_, rfl, Qok_val rfl (Ev_build [(0, U8 (14:UInt8)), (1, U8 (11:UInt8)), (2, U8 (13:UInt8)), (3, U8 (9:UInt8))] _ rfl (fun _ => by kernel_rfl))⟩, ⟨_, rfl, Qok_val rfl (Ev_move rfl)⟩, ⟨_, rfl, Qok_val rfl (Ev_nilCheck rfl)⟩, ⟨_, rfl, Qok_val rfl (Ev_fieldAddr 432 104 256 Try.underlying106 rfl Try.sizeOf104 rfl rfl)⟩, trivial⟩ rfl (Cok_step rfl (Step_callP 74 [.agg (cu8 (addL s (mid ks (16*j) 16))).toArray, .agg (cu8 ([(14:UInt8), (11:UInt8), (13:UInt8), (9:UInt8)])).toArray] (.agg (cu8 (mixL (addL s (mid ks (16*j) 16)) ([(14:UInt8), (11:UInt8), (13:UInt8), (9:UInt8)]))).toArray) (Cl_func [.agg (cu8 (addL s (mid ks (16*j) 16))).toArray, .agg (cu8 ([(14:UInt8), (11:UInt8), (13:UInt8), (9:UInt8)])).toArray] Try.call74 rfl) (fun w1 hw1 => mixed_c (addL s (mid ks (16*j) 16)) ([(14:UInt8), (11:UInt8), (13:UInt8), (9:UInt8)]) w1 (addL_len hs) rfl))) ?_
      rintro v1 L1 ⟨rfl, rfl⟩
      refine ⟨[], ?_⟩
      show DP _ _ _ _ _ _ _ _ [⟨nb2, cu8 (zr8 16), 27, (0, 0)⟩, ⟨nb3, cu8 s, 27, (0, 0)⟩]
      refine DP_one ⟨[7, 9], [0, 1, 2, 3, 4, 5, 6, 8, 10, 11, 12], [0, 1, 2, 3, 4, 5, 6, 8], [10, 11, 12], [13]⟩ 13 _ rfl rfl (by decide +kernel) rfl ⟨⟨_, rfl, Qok_val rfl (Ev_move rfl)⟩, ⟨_, rfl, Qok_val rfl (Ev_nilCheck rfl)⟩, ⟨_, rfl, Qok_val rfl (Ev_fieldAddr 432 104 256 Try.underlying106 rfl Try.sizeOf104 rfl rfl)⟩, trivial⟩ rfl (Cok_step rfl (Step_callP 75 [.agg (cu8 (mixL (addL s (mid ks (16*j) 16)) ([(14:UInt8), (11:UInt8), (13:UInt8), (9:UInt8)]))).toArray, Ptr c 432, I64 (3:Int)] (.agg (cu8 (sh3L backL (mixL (addL s (mid ks (16*j) 16)) ([(14:UInt8), (11:UInt8), (13:UInt8), (9:UInt8)])))).toArray) (Cl_func [.agg (cu8 (mixL (addL s (mid ks (16*j) 16)) ([(14:UInt8), (11:UInt8), (13:UInt8), (9:UInt8)]))).toArray, Ptr c 432, I64 (3:Int)] Try.call75 rfl) (fun w1 hw1 => shifted3_c (mixL (addL s (mid ks (16*j) 16)) ([(14:UInt8), (11:UInt8), (13:UInt8), (9:UInt8)])) backL c 432 w1 (mixL_len _ _) backL_len (RdA.of hw1 (MemAt.seg (MemAt.heap hc (by simp)) (Seg.right 432 0 (by simp [hks, thereL_len]) rfl (Seg.whole _)) (by omega)) (by simp [backL_len]))))) ?_
      rintro v1 L1 ⟨rfl, rfl⟩
      refine ⟨[], ?_⟩
      show DP _ _ _ _ _ _ _ _ [⟨nb2, cu8 (zr8 16), 27, (0, 0)⟩, ⟨nb3, cu8 s, 27, (0, 0)⟩]
      refine DP_one ⟨[7, 9, 13], [0, 1, 2, 3, 4, 5, 6, 8, 10, 11, 12], [0, 1, 2, 3, 4, 5, 6, 8, 10, 11, 12], [], [14]⟩ 14 _ rfl rfl (by decide +kernel) rfl trivial rfl (Cok_step rfl (Step_store 1 nb3 0 16 (cu8 s) 27 (.agg (cu8 (sh3L backL (mixL (addL s (mid ks (16*j) 16)) ([(14:UInt8), (11:UInt8), (13:UInt8), (9:UInt8)])))).toArray) (cu8 (sh3L backL (mixL (addL s (mid ks (16*j) 16)) ([(14:UInt8), (11:UInt8), (13:UInt8), (9:UInt8)])))) (cu8 (sh3L backL (mixL (addL s (mid ks (16*j) 16)) ([(14:UInt8), (11:UInt8), (13:UInt8), (9:UInt8)])))) rfl rfl rfl (by first | rfl | simp) Try.sizeOf27 (len_cu8 (sh3L_len _ _)) (by first | exact one_u8 | exact one_u32 | exact one_u64 | (simp [cu8, cu32, cu64, Value.oneCell']; done)) (by simp [hs]) (lay_whole (by simp [hs, (sh3L_len _ _)])))) ?_
      rintro v1 L1 ⟨rfl, rfl⟩
      refine ⟨[], ?_⟩
      show DP _ _ _ _ _ _ _ _ [⟨nb2, cu8 (zr8 16), 27, (0, 0)⟩, ⟨nb3, cu8 (sh3L backL (mixL (addL s (mid ks (16*j) 16)) ([(14:UInt8), (11:UInt8), (13:UInt8), (9:UInt8)]))), 27, (0, 0)⟩]
      refine DP_end ⟨[7, 9, 13, 14], [0, 1, 2, 3, 4, 5, 6, 8, 10, 11, 12], [0, 1, 2, 3, 4, 5, 6, 8, 10, 11, 12], [], []⟩ rfl rfl (by decide +kernel) rfl trivial ?_
      refine K_sub (F' := [(24, .agg (cu8 s).toArray), (25, Ptr c 0), (26, I64 ((j:Int))), (27, Ptr c 0), (28, Ptr c 0), (29, Ptr c (16*j)), (30, .agg (cu8 (mid ks (16*j) 16)).toArray), (31, .agg (cu8 (addL s (mid ks (16*j) 16))).toArray), (32, .agg (cu8 ([(14:UInt8), (11:UInt8), (13:UInt8), (9:UInt8)])).toArray), (33, .agg (cu8 (mixL (addL s (mid ks (16*j) 16)) ([(14:UInt8), (11:UInt8), (13:UInt8), (9:UInt8)]))).toArray), (34, Ptr c 0), (35, Ptr c 0), (36, Ptr c 432), (37, .agg (cu8 (sh3L backL (mixL (addL s (mid ks (16*j) 16)) ([(14:UInt8), (11:UInt8), (13:UInt8), (9:UInt8)])))).toArray), (0, Ptr c 0), (4, Ptr nb2 0), (5, Ptr nb3 0), (6, I64 ((j:Int))), (20, I64 ((j:Int))), (21, .bool (decide ((0:Int) < ((j:Int)))))]) (Sub.cons (by kernel_rfl) (Sub.cons (by kernel_rfl) (Sub.cons (by kernel_rfl) (Sub.cons (by kernel_rfl) (Sub.cons (by kernel_rfl) (Sub.cons (by kernel_rfl) (Sub.cons (by kernel_rfl) (Sub.cons (by kernel_rfl) (Sub.cons (by kernel_rfl) (Sub.cons (by kernel_rfl) (Sub.cons (by kernel_rfl) (Sub.cons (by kernel_rfl) (Sub.cons (by kernel_rfl) (Sub.cons (by kernel_rfl) (Sub.cons (by kernel_rfl) (Sub.cons (by kernel_rfl) (Sub.cons (by kernel_rfl) (Sub.cons (by kernel_rfl) (Sub.cons (by kernel_rfl) (Sub.cons (by kernel_rfl) (Sub.nil))))))))))))))))))))) ?_
      show JQ _ _ _ [(24, .agg (cu8 s).toArray), (25, Ptr c 0), (26, I64 ((j:Int))), (27, Ptr c 0), (28, Ptr c 0), (29, Ptr c (16*j)), (30, .agg (cu8 (mid ks (16*j) 16)).toArray), (31, .agg (cu8 (addL s (mid ks (16*j) 16))).toArray), (32, .agg (cu8 ([(14:UInt8), (11:UInt8), (13:UInt8), (9:UInt8)])).toArray), (33, .agg (cu8 (mixL (addL s (mid ks (16*j) 16)) ([(14:UInt8), (11:UInt8), (13:UInt8), (9:UInt8)]))).toArray), (34, Ptr c 0), (35, Ptr c 0), (36, Ptr c 432), (37, .agg (cu8 (sh3L backL (mixL (addL s (mid ks (16*j) 16)) ([(14:UInt8), (11:UInt8), (13:UInt8), (9:UInt8)])))).toArray), (0, Ptr c 0), (4, Ptr nb2 0), (5, Ptr nb3 0), (6, I64 ((j:Int))), (20, I64 ((j:Int))), (21, .bool (decide ((0:Int) < ((j:Int)))))] _
      refine JQ_in_normal ?_
      refine JQ_then ?_
      refine JC_region ?_
      refine JL_val _ (Ev_move rfl) rfl ?_
      refine JL_val (I64 ((j:Int) - 1)) (Ev_bini rfl rfl fun _ => bin_sub_i _ _ ((j:Int) - 1) (by omega) (by omega)) rfl ?_
      refine JL_val _ (Ev_assign rfl) rfl ?_
      refine JL_nil ?_
      refine JQ_thenK ?_
      refine K_next (j - 1, sh3L backL (mixL (addL s (mid ks (16*j) 16)) ([(14:UInt8), (11:UInt8), (13:UInt8), (9:UInt8)]))) ⟨by omega, by rw [show 9 - (j - 1) = (9 - j) + 1 from by omega, decN, ← hx2, show 9 - (9 - j) = j from by omega], (sh3L_len _ _)⟩ (by simp; omega) (Sub.cons rfl (Sub.cons rfl (Sub.cons rfl (Sub.cons (some_i64 (a := (j:Int) - 1) (by omega)) (Sub.nil))))) rfl
    ·
      have hp3 : ¬ ((0:Int) < ((j:Int))) := of_decide_eq_false hb3
      refine JC_exit ?_
      refine JQ_then_exit ?_
      refine JQ_then_exit ?_
      refine JQ_in_same ?_
      refine JQ_then ?_
      refine JC_seq ?_
      have hl14 : (mid ks 0 16).length = 16 := mid_len (by rw [hks]; omega)
      refine JC_draw 45 3 [(0, .agg (cu8 s).toArray), (1, Ptr c 0), (2, Ptr c 0), (3, Ptr c 0), (4, Ptr c 0), (5, .agg (cu8 (mid ks 0 16)).toArray)] Try.mixed rfl (by decide +kernel) ?_
      have hl15 : (mid ks 0 16).length = 16 := mid_len (by rw [hks]; omega)
      refine DP_one ⟨[], [0, 1, 2, 3, 4, 5], [], [0, 1, 2, 3, 4, 5], [6]⟩ 6 _ rfl rfl (by decide +kernel) rfl ⟨⟨_, rfl, Qok_val rfl (Ev_load rfl (Ld_agg Try.isAgg27 Try.sizeOf27 (len_cu8 hs) (MemAt.ent 1 rfl (Seg.whole _))))⟩, ⟨_, rfl, Qok_val rfl (Ev_move rfl)⟩, ⟨_, rfl, Qok_val rfl (Ev_nilCheck rfl)⟩, ⟨_, rfl, Qok_val rfl (Ev_fieldAddr 0 103 176 Try.underlying106 rfl Try.sizeOf103 rfl rfl)⟩, ⟨_, rfl, Qok_val rfl (Ev_indexArr 11 27 16 0 Try.underlying103 Try.sizeOf27 rfl rfl (by omega) (by omega) (by omega))⟩, ⟨_, rfl, Qok_val rfl (Ev_load rfl (Ld_agg Try.isAgg27 Try.sizeOf27 (len_cu8 hl15) (MemAt.seg (MemAt.heap hc (by simp)) (Seg.left (Seg.left (segm_u8 0 16 (by rw [hks]; omega)))) (by omega))))⟩, trivial⟩ rfl (Cok_step rfl (Step_callP 73 [.agg (cu8 s).toArray, .agg (cu8 (mid ks 0 16)).toArray] (.agg (cu8 (addL s (mid ks 0 16))).toArray) (Cl_func [.agg (cu8 s).toArray, .agg (cu8 (mid ks 0 16)).toArray] Try.call73 rfl) (fun w1 hw1 => added_c s (mid ks 0 16) w1 hs hl14))) ?_
      rintro v1 L1 ⟨rfl, rfl⟩
      refine ⟨[], ?_⟩
      show DP _ _ _ _ _ _ _ _ [⟨nb2, cu8 (zr8 16), 27, (0, 0)⟩, ⟨nb3, cu8 s, 27, (0, 0)⟩]
      refine DP_one ⟨[6], [0, 1, 2, 3, 4, 5], [0, 1, 2, 3, 4, 5], [], [7]⟩ 7 _ rfl rfl (by decide +kernel) rfl trivial rfl (Cok_step rfl (Step_store 0 nb2 0 16 (cu8 (zr8 16)) 27 (.agg (cu8 (addL s (mid ks 0 16))).toArray) (cu8 (addL s (mid ks 0 16))) (cu8 (addL s (mid ks 0 16))) rfl rfl rfl (by first | rfl | simp) Try.sizeOf27 (len_cu8 (addL_len hs)) (by first | exact one_u8 | exact one_u32 | exact one_u64 | (simp [cu8, cu32, cu64, Value.oneCell']; done)) (by simp [(zr8_len 16)]) (lay_whole (by simp [(zr8_len 16), (addL_len hs)])))) ?_
      rintro v1 L1 ⟨rfl, rfl⟩
      refine ⟨[], ?_⟩
      show DP _ _ _ _ _ _ _ _ [⟨nb2, cu8 (addL s (mid ks 0 16)), 27, (0, 0)⟩, ⟨nb3, cu8 s, 27, (0, 0)⟩]
      refine DP_end ⟨[6, 7], [0, 1, 2, 3, 4, 5], [0, 1, 2, 3, 4, 5], [], []⟩ rfl rfl (by decide +kernel) rfl trivial ?_
      refine K_sub (F' := [(4, Ptr nb2 0)]) (Sub.cons (by kernel_rfl) (Sub.nil)) ?_
      show JQ _ _ _ [(4, Ptr nb2 0)] _
      refine JQ_then ?_
      refine JC_ret ?_
      refine JQ_ret (.agg (cu8 (addL s (mid ks 0 16))).toArray) (res1 Try.results29 (RV_cell rfl (Ld_agg Try.isAgg27 Try.sizeOf27 (len_cu8 (addL_len hs)) (MemAt.ent 0 rfl (Seg.whole _))))) fun w1 hw1 => ?_
      have e1 : j = 0 := by omega
      subst e1
      subst hx2
      exact ⟨_, [], rfl, ⟨rfl, rfl⟩, hw1.sub (by simp) (by simp)⟩

theorem encnil_c (b : List UInt8) (w : World) (hb : b.length = 16) : Calls Try.prog 27 #[.pointer none, .agg (cu8 b).toArray] w (Post w [] (fun v L => v = .agg (cu8 (encL (rkL (zr8 16)) b)).toArray ∧ L = [])) := by
  refine enter w [] 47 [] [.pointer none, .agg (cu8 b).toArray] Try.func27 rfl rfl (by simp) (Hp.start (by simp) (by simp) (by simp)) ?_
  show JC _ _ _ [(0, .pointer none), (1, .agg (cu8 b).toArray)] _
  refine JC_seq ?_
  refine JC_region ?_
  refine JL_step (Step_box (.agg (cu8 b).toArray) (cu8 b) rfl (by first | rfl | simp)) rfl ?_
  rintro v1 L1 ⟨nb1, hnb1, rfl, rfl⟩
  show JL _ _ _ _ ((3, Ptr nb1 0) :: _) [⟨nb1, cu8 b, 27, (0, 0)⟩]
  refine JL_step (Step_alloc _ (cu8 (zr8 16)) Try.zeroValue27 (by kernel_rfl)) rfl ?_
  rintro v1 L1 ⟨nb2, hnb2, rfl, rfl⟩
  show JL _ _ _ _ ((4, Ptr nb2 0) :: _) [⟨nb1, cu8 b, 27, (0, 0)⟩, ⟨nb2, cu8 (zr8 16), 27, (0, 0)⟩]
  refine JL_nil ?_
  refine JQ_then ?_
  refine JC_seq ?_
  refine JC_region ?_
  refine JL_val _ (Ev_move rfl) rfl ?_
  refine JL_step (Step_callN 72 [.pointer none] _ (Cl_func [.pointer none] Try.call72 rfl) (fun w1 hw1 => ofnil_c w1)) rfl ?_
  rintro v1 L1 ⟨_, ⟨nb3, rfl, rfl⟩, rfl⟩
  show JL _ _ _ _ ((9, Ptr nb3 0) :: _) [⟨nb1, cu8 b, 27, (0, 0)⟩, ⟨nb2, cu8 (zr8 16), 27, (0, 0)⟩, ⟨nb3, cu8 (rkL (zr8 16)) ++ cu8 thereL ++ cu8 backL, 106, (0, 0)⟩]
  refine JL_val _ (Ev_assign rfl) rfl ?_
  refine JL_nil ?_
  refine JQ_then ?_
  refine JC_seq ?_
  have hl1 : (mid (rkL (zr8 16)) 0 16).length = 16 := mid_len (by rw [(rkL_len (zr8 16) (zr8_len 16))]; omega)
  refine JC_draw 47 4 [(0, .agg (cu8 b).toArray), (1, Ptr nb3 0), (2, Ptr nb3 0), (3, Ptr nb3 0), (4, Ptr nb3 0), (5, .agg (cu8 (mid (rkL (zr8 16)) 0 16)).toArray)] Try.mixed rfl (by decide +kernel) ?_
  have hl2 : (mid (rkL (zr8 16)) 0 16).length = 16 := mid_len (by rw [(rkL_len (zr8 16) (zr8_len 16))]; omega)
  refine DP_two ⟨[], [0, 1, 2, 3, 4, 5], [], [0, 1, 2, 3, 4, 5], [6, 7]⟩ 6 7 _ _ rfl rfl (by decide +kernel) rfl ⟨⟨_, rfl, Qok_val rfl (Ev_load rfl (Ld_agg Try.isAgg27 Try.sizeOf27 (len_cu8 hb) (MemAt.ent 0 rfl (Seg.whole _))))⟩, ⟨_, rfl, Qok_val rfl (Ev_move rfl)⟩, ⟨_, rfl, Qok_val rfl (Ev_nilCheck rfl)⟩, ⟨_, rfl, Qok_val rfl (Ev_fieldAddr 0 103 176 Try.underlying106 rfl Try.sizeOf103 rfl rfl)⟩, ⟨_, rfl, Qok_val rfl (Ev_indexArr 11 27 16 0 Try.underlying103 Try.sizeOf27 rfl rfl (by omega) (by omega) (by omega))⟩, ⟨_, rfl, Qok_val rfl (Ev_load rfl (Ld_agg Try.isAgg27 Try.sizeOf27 (len_cu8 hl2) (MemAt.ent 2 rfl (Seg.left (Seg.left (segm_u8 0 16 (by rw [(rkL_len (zr8 16) (zr8_len 16))]; omega)))))))⟩, trivial⟩ rfl rfl (Cok_step rfl (Step_callP 73 [.agg (cu8 b).toArray, .agg (cu8 (mid (rkL (zr8 16)) 0 16)).toArray] (.agg (cu8 (addL b (mid (rkL (zr8 16)) 0 16))).toArray) (Cl_func [.agg (cu8 b).toArray, .agg (cu8 (mid (rkL (zr8 16)) 0 16)).toArray] Try.call73 rfl) (fun w1 hw1 => added_c b (mid (rkL (zr8 16)) 0 16) w1 hb hl1))) (Cok_step rfl (Step_alloc _ (cu8 (zr8 16)) Try.zeroValue27 (by kernel_rfl))) ?_ ?_
  ·
    rintro v1 L1 ⟨rfl, rfl⟩
    refine ⟨[], ?_⟩
    show DP _ _ _ _ _ _ _ _ [⟨nb1, cu8 b, 27, (0, 0)⟩, ⟨nb2, cu8 (zr8 16), 27, (0, 0)⟩, ⟨nb3, cu8 (rkL (zr8 16)) ++ cu8 thereL ++ cu8 backL, 106, (0, 0)⟩]
    refine DP_one ⟨[6], [0, 1, 2, 3, 4, 5], [0, 1, 2, 3, 4, 5], [], [7]⟩ 7 _ rfl rfl (by decide +kernel) rfl trivial rfl (Cok_step rfl (Step_alloc _ (cu8 (zr8 16)) Try.zeroValue27 (by kernel_rfl))) ?_
    rintro v1 L1 ⟨nb5, hnb5, rfl, rfl⟩
    refine ⟨[], ?_⟩
    show DP _ _ _ _ _ _ _ _ [⟨nb1, cu8 b, 27, (0, 0)⟩, ⟨nb2, cu8 (zr8 16), 27, (0, 0)⟩, ⟨nb3, cu8 (rkL (zr8 16)) ++ cu8 thereL ++ cu8 backL, 106, (0, 0)⟩, ⟨nb5, cu8 (zr8 16), 27, (0, 0)⟩]
    refine DP_one ⟨[6, 7], [0, 1, 2, 3, 4, 5], [0, 1, 2, 3, 4, 5], [], [8]⟩ 8 _ rfl rfl (by decide +kernel) rfl trivial rfl (Cok_step rfl (Step_store 3 nb5 0 16 (cu8 (zr8 16)) 27 (.agg (cu8 (addL b (mid (rkL (zr8 16)) 0 16))).toArray) (cu8 (addL b (mid (rkL (zr8 16)) 0 16))) (cu8 (addL b (mid (rkL (zr8 16)) 0 16))) rfl rfl rfl (by first | rfl | simp) Try.sizeOf27 (len_cu8 (addL_len hb)) (by first | exact one_u8 | exact one_u32 | exact one_u64 | (simp [cu8, cu32, cu64, Value.oneCell']; done)) (by simp [(zr8_len 16)]) (lay_whole (by simp [(zr8_len 16), (addL_len hb)])))) ?_
    rintro v1 L1 ⟨rfl, rfl⟩
    refine ⟨[], ?_⟩
    show DP _ _ _ _ _ _ _ _ [⟨nb1, cu8 b, 27, (0, 0)⟩, ⟨nb2, cu8 (zr8 16), 27, (0, 0)⟩, ⟨nb3, cu8 (rkL (zr8 16)) ++ cu8 thereL ++ cu8 backL, 106, (0, 0)⟩, ⟨nb5, cu8 (addL b (mid (rkL (zr8 16)) 0 16)), 27, (0, 0)⟩]
    refine DP_end ⟨[6, 7, 8], [0, 1, 2, 3, 4, 5], [0, 1, 2, 3, 4, 5], [], []⟩ rfl rfl (by decide +kernel) rfl trivial ?_
    refine K_sub (F' := [(5, Ptr nb5 0), (0, Ptr nb3 0), (4, Ptr nb2 0)]) (Sub.cons (by kernel_rfl) (Sub.cons (by kernel_rfl) (Sub.cons (by kernel_rfl) (Sub.nil)))) ?_
    show JQ _ _ _ [(5, Ptr nb5 0), (0, Ptr nb3 0), (4, Ptr nb2 0)] _
    refine JQ_then ?_
    refine JC_seq ?_
    refine JC_seq ?_
    refine JC_region ?_
    refine JL_val _ (Ev_move rfl) rfl ?_
    refine JL_val _ (Ev_nilCheck rfl) rfl ?_
    refine JL_val (Ptr nb3 0) (Ev_fieldAddr 0 103 176 Try.underlying106 rfl Try.sizeOf103 rfl rfl) rfl ?_
    refine JL_val (Slc nb3 16 9 10) (Ev_sliceA 11 27 16 1 10 16 10 Try.underlying103 Try.sizeOf27 rfl rfl rfl (by omega) (by omega) (by omega) (by omega) (by omega) 9 (by omega)) rfl ?_
    refine JL_val (I64 (9:Int)) (Ev_len Try.underlying111 rfl) rfl ?_
    refine JL_val _ (Ev_move rfl) rfl ?_
    refine JL_nil ?_
    refine JQ_then ?_
    refine JC_block ?_
    refine K_mask [false, true, true, true] ?_
    show JC _ _ _ _ [⟨nb2, cu8 (zr8 16), 27, (0, 0)⟩, ⟨nb3, cu8 (rkL (zr8 16)) ++ cu8 thereL ++ cu8 backL, 106, (0, 0)⟩, ⟨nb5, cu8 (addL b (mid (rkL (zr8 16)) 0 16)), 27, (0, 0)⟩]
    refine JC_loop (ι := Nat × List UInt8) (fun ⟨j, s⟩ => [(0, Ptr nb3 0), (4, Ptr nb2 0), (5, Ptr nb5 0), (20, Slc nb3 16 9 10), (21, I64 (9:Int)), (22, I64 ((j:Int)))]) (fun ⟨j, s⟩ => [⟨nb2, cu8 (zr8 16), 27, (0, 0)⟩, ⟨nb3, cu8 (rkL (zr8 16)) ++ cu8 thereL ++ cu8 backL, 106, (0, 0)⟩, ⟨nb5, cu8 s, 27, (0, 0)⟩]) (fun ⟨j, s⟩ => j ≤ 9 ∧ s = encN (rkL (zr8 16)) b j ∧ s.length = 16) (fun ⟨j, s⟩ => 9 - j) (0, addL b (mid (rkL (zr8 16)) 0 16)) ⟨by omega, by rw [encN], addL_len hb⟩ (Sub.cons rfl (Sub.cons rfl (Sub.cons rfl (Sub.cons rfl (Sub.cons rfl (Sub.cons rfl (Sub.nil))))))) rfl ?_
    rintro ⟨j, s⟩ ⟨hx1, hx2, hs⟩
    show JC _ _ _ [(0, Ptr nb3 0), (4, Ptr nb2 0), (5, Ptr nb5 0), (20, Slc nb3 16 9 10), (21, I64 (9:Int)), (22, I64 ((j:Int)))] [⟨nb2, cu8 (zr8 16), 27, (0, 0)⟩, ⟨nb3, cu8 (rkL (zr8 16)) ++ cu8 thereL ++ cu8 backL, 106, (0, 0)⟩, ⟨nb5, cu8 s, 27, (0, 0)⟩]
    refine JC_seq ?_
    refine JC_region ?_
    refine JL_val (.bool (decide (((j:Int)) < (9:Int)))) (Ev_bini rfl rfl fun _ => bin_lss_i _ _) rfl ?_
    refine JL_nil ?_
    refine JQ_then ?_
    refine JC_seq ?_
    refine JC_cond (decide (((j:Int)) < (9:Int))) rfl (fun hb1 => ?_) (fun hb1 => ?_)
    ·
      have hp1 : ((j:Int)) < (9:Int) := of_decide_eq_true hb1
      refine JC_skip ?_
      refine JQ_then ?_
      refine JC_seq ?_
      refine JC_block ?_
      refine JC_seq ?_
      refine JC_region ?_
      refine JL_val (Ptr nb3 (16*j + 16)) (Ev_indexSl 27 16 (16*j + 16) Try.underlying111 Try.sizeOf27 rfl rfl (by omega) (by omega) (by omega)) rfl ?_
      have hl3 : (mid (rkL (zr8 16)) (16*j + 16) 16).length = 16 := mid_len (by rw [(rkL_len (zr8 16) (zr8_len 16))]; omega)
      refine JL_val (.agg (cu8 (mid (rkL (zr8 16)) (16*j + 16) 16)).toArray) (Ev_load rfl (Ld_agg Try.isAgg27 Try.sizeOf27 (len_cu8 hl3) (MemAt.ent 1 rfl (Seg.left (Seg.left (segm_u8 (16*j + 16) 16 (by rw [(rkL_len (zr8 16) (zr8_len 16))]; omega))))))) rfl ?_
      refine JL_step (Step_alloc _ (cu8 (zr8 16)) Try.zeroValue27 (by kernel_rfl)) rfl ?_
      rintro v1 L1 ⟨nb6, hnb6, rfl, rfl⟩
      show JL _ _ _ _ ((7, Ptr nb6 0) :: _) [⟨nb2, cu8 (zr8 16), 27, (0, 0)⟩, ⟨nb3, cu8 (rkL (zr8 16)) ++ cu8 thereL ++ cu8 backL, 106, (0, 0)⟩, ⟨nb5, cu8 s, 27, (0, 0)⟩, ⟨nb6, cu8 (zr8 16), 27, (0, 0)⟩]
      refine JL_step (Step_store 3 nb6 0 16 (cu8 (zr8 16)) 27 (.agg (cu8 (mid (rkL (zr8 16)) (16*j + 16) 16)).toArray) (cu8 (mid (rkL (zr8 16)) (16*j + 16) 16)) (cu8 (mid (rkL (zr8 16)) (16*j + 16) 16)) rfl rfl rfl (by first | rfl | simp) Try.sizeOf27 (len_cu8 hl3) (by first | exact one_u8 | exact one_u32 | exact one_u64 | (simp [cu8, cu32, cu64, Value.oneCell']; done)) (by simp [(zr8_len 16)]) (lay_whole (by simp [(zr8_len 16), hl3]))) rfl ?_
      rintro v1 L1 ⟨rfl, rfl⟩
      show JL _ _ _ _ _ [⟨nb2, cu8 (zr8 16), 27, (0, 0)⟩, ⟨nb3, cu8 (rkL (zr8 16)) ++ cu8 thereL ++ cu8 backL, 106, (0, 0)⟩, ⟨nb5, cu8 s, 27, (0, 0)⟩, ⟨nb6, cu8 (mid (rkL (zr8 16)) (16*j + 16) 16), 27, (0, 0)⟩]
      refine JL_nil ?_
      refine JQ_then ?_
      refine JC_draw 47 5 [(0, .agg (cu8 s).toArray), (1, Ptr nb3 0), (2, Ptr nb3 0), (3, Ptr nb3 176), (5, .agg (cu8 ([(2:UInt8), (3:UInt8), (1:UInt8), (1:UInt8)])).toArray), (7, .agg (cu8 (mid (rkL (zr8 16)) (16*j + 16) 16)).toArray)] Try.mixed rfl (by decide +kernel) ?_
      refine DP_one ⟨[], [0, 1, 2, 3, 5, 7], [], [0, 1, 2, 3, 5, 7], [4]⟩ 4 _ rfl rfl (by decide +kernel) rfl ⟨⟨_, rfl, Qok_val rfl (Ev_load rfl (Ld_agg Try.isAgg27 Try.sizeOf27 (len_cu8 hs) (MemAt.ent 2 rfl (Seg.whole _))))⟩, ⟨_, rfl, Qok_val rfl (Ev_move rfl)⟩, ⟨_, rfl, Qok_val rfl (Ev_nilCheck rfl)⟩, ⟨_, rfl, Qok_val rfl (Ev_fieldAddr 176 104 256 Try.underlying106 rfl Try.sizeOf104 rfl rfl)⟩, ⟨_, rfl, Qok_val rfl (Ev_build [(0, U8 (2:UInt8)), (1, U8 (3:UInt8)), (2, U8 (1:UInt8)), (3, U8 (1:UInt8))] _ rfl (fun _ => by kernel_rfl))⟩, ⟨_, rfl, Qok_val rfl (Ev_load rfl (Ld_agg Try.isAgg27 Try.sizeOf27 (len_cu8 hl3) (MemAt.ent 3 rfl (Seg.whole _))))⟩, trivial⟩ rfl (Cok_step rfl (Step_callP 75 [.agg (cu8 s).toArray, Ptr nb3 176, I64 (1:Int)] (.agg (cu8 (sh1L thereL s)).toArray) (Cl_func [.agg (cu8 s).toArray, Ptr nb3 176, I64 (1:Int)] Try.call75 rfl) (fun w1 hw1 => shifted1_c s thereL nb3 176 w1 hs thereL_len (RdA.of hw1 (MemAt.ent 1 rfl (Seg.left (Seg.right 176 0 (by simp [(rkL_len (zr8 16) (zr8_len 16))]) rfl (Seg.whole _)))) (by simp [thereL_len]))))) ?_
      rintro v1 L1 ⟨rfl, rfl⟩
      refine ⟨[], ?_⟩
      show DP _ _ _ _ _ _ _ _ [⟨nb2, cu8 (zr8 16), 27, (0, 0)⟩, ⟨nb3, cu8 (rkL (zr8 16)) ++ cu8 thereL ++ cu8 backL, 106, (0, 0)⟩, ⟨nb5, cu8 s, 27, (0, 0)⟩, ⟨nb6, cu8 (mid (rkL (zr8 16)) (16*j + 16) 16), 27, (0, 0)⟩]
      refine DP_one ⟨[4], [0, 1, 2, 3, 5, 7], [0, 1, 2, 3], [5, 7], [6]⟩ 6 _ rfl rfl (by decide +kernel) rfl ⟨⟨_, rfl, Qok_val rfl (Ev_build [(0, U8 (2:UInt8)), (1, U8 (3:UInt8)), (2, U8 (1:UInt8)), (3, U8 (1:UInt8))] _ rfl (fun _ => by kernel_rfl))⟩, ⟨_, rfl, Qok_val rfl (Ev_load rfl (Ld_agg Try.isAgg27 Try.sizeOf27 (len_cu8 hl3) (MemAt.ent 3 rfl (Seg.whole _))))⟩, trivial⟩ rfl (Cok_step rfl (Step_callP 74 [.agg (cu8 (sh1L thereL s)).toArray, .agg (cu8 ([(2:UInt8), (3:UInt8), (1:UInt8), (1:UInt8)])).toArray] (.agg (cu8 (mixL (sh1L thereL s) ([(2:UInt8), (3:UInt8), (1:UInt8), (1:UInt8)]))).toArray) (Cl_func [.agg (cu8 (sh1L thereL s)).toArray, .agg (cu8 ([(2:UInt8), (3:UInt8), (1:UInt8), (1:UInt8)])).toArray] Try.call74 rfl) (fun w1 hw1 => mixed_c (sh1L thereL s) ([(2:UInt8), (3:UInt8), (1:UInt8), (1:UInt8)]) w1 (sh1L_len _ _) rfl))) ?_
      rintro v1 L1 ⟨rfl, rfl⟩
      refine ⟨[], ?_⟩
      show DP _ _ _ _ _ _ _ _ [⟨nb2, cu8 (zr8 16), 27, (0, 0)⟩, ⟨nb3, cu8 (rkL (zr8 16)) ++ cu8 thereL ++ cu8 backL, 106, (0, 0)⟩, ⟨nb5, cu8 s, 27, (0, 0)⟩, ⟨nb6, cu8 (mid (rkL (zr8 16)) (16*j + 16) 16), 27, (0, 0)⟩]
      refine DP_one ⟨[4, 6], [0, 1, 2, 3, 5, 7], [0, 1, 2, 3, 5], [7], [8]⟩ 8 _ rfl rfl (by decide +kernel) rfl ⟨⟨_, rfl, Qok_val rfl (Ev_load rfl (Ld_agg Try.isAgg27 Try.sizeOf27 (len_cu8 hl3) (MemAt.ent 3 rfl (Seg.whole _))))⟩, trivial⟩ rfl (Cok_step rfl (Step_callP 73 [.agg (cu8 (mixL (sh1L thereL s) ([(2:UInt8), (3:UInt8), (1:UInt8), (1:UInt8)]))).toArray, .agg (cu8 (mid (rkL (zr8 16)) (16*j + 16) 16)).toArray] (.agg (cu8 (addL (mixL (sh1L thereL s) ([(2:UInt8), (3:UInt8), (1:UInt8), (1:UInt8)])) (mid (rkL (zr8 16)) (16*j + 16) 16))).toArray) (Cl_func [.agg (cu8 (mixL (sh1L thereL s) ([(2:UInt8), (3:UInt8), (1:UInt8), (1:UInt8)]))).toArray, .agg (cu8 (mid (rkL (zr8 16)) (16*j + 16) 16)).toArray] Try.call73 rfl) (fun w1 hw1 => added_c (mixL (sh1L thereL s) ([(2:UInt8), (3:UInt8), (1:UInt8), (1:UInt8)])) (mid (rkL (zr8 16)) (16*j + 16) 16) w1 (mixL_len _ _) hl3))) ?_
      rintro v1 L1 ⟨rfl, rfl⟩
      refine ⟨[], ?_⟩
      show DP _ _ _ _ _ _ _ _ [⟨nb2, cu8 (zr8 16), 27, (0, 0)⟩, ⟨nb3, cu8 (rkL (zr8 16)) ++ cu8 thereL ++ cu8 backL, 106, (0, 0)⟩, ⟨nb5, cu8 s, 27, (0, 0)⟩, ⟨nb6, cu8 (mid (rkL (zr8 16)) (16*j + 16) 16), 27, (0, 0)⟩]
      refine DP_one ⟨[4, 6, 8], [0, 1, 2, 3, 5, 7], [0, 1, 2, 3, 5, 7], [], [9]⟩ 9 _ rfl rfl (by decide +kernel) rfl trivial rfl (Cok_step rfl (Step_store 2 nb5 0 16 (cu8 s) 27 (.agg (cu8 (addL (mixL (sh1L thereL s) ([(2:UInt8), (3:UInt8), (1:UInt8), (1:UInt8)])) (mid (rkL (zr8 16)) (16*j + 16) 16))).toArray) (cu8 (addL (mixL (sh1L thereL s) ([(2:UInt8), (3:UInt8), (1:UInt8), (1:UInt8)])) (mid (rkL (zr8 16)) (16*j + 16) 16))) (cu8 (addL (mixL (sh1L thereL s) ([(2:UInt8), (3:UInt8), (1:UInt8), (1:UInt8)])) (mid (rkL (zr8 16)) (16*j + 16) 16))) rfl rfl rfl (by first | rfl | simp) Try.sizeOf27 (len_cu8 (addL_len (mixL_len _ _))) (by first | exact one_u8 | exact one_u32 | exact one_u64 | (simp [cu8, cu32, cu64, Value.oneCell']; done)) (by simp [hs]) (lay_whole (by simp [hs, (addL_len (mixL_len _ _))])))) ?_
      rintro v1 L1 ⟨rfl, rfl⟩
      refine ⟨[], ?_⟩
      show DP _ _ _ _ _ _ _ _ [⟨nb2, cu8 (zr8 16), 27, (0, 0)⟩, ⟨nb3, cu8 (rkL (zr8 16)) ++ cu8 thereL ++ cu8 backL, 106, (0, 0)⟩, ⟨nb5, cu8 (addL (mixL (sh1L thereL s) ([(2:UInt8), (3:UInt8), (1:UInt8), (1:UInt8)])) (mid (rkL (zr8 16)) (16*j + 16) 16)), 27, (0, 0)⟩, ⟨nb6, cu8 (mid (rkL (zr8 16)) (16*j + 16) 16), 27, (0, 0)⟩]
      refine DP_end ⟨[4, 6, 8, 9], [0, 1, 2, 3, 5, 7], [0, 1, 2, 3, 5, 7], [], []⟩ rfl rfl (by decide +kernel) rfl trivial ?_
      refine K_sub (F' := [(26, .agg (cu8 s).toArray), (27, Ptr nb3 0), (28, Ptr nb3 0), (29, Ptr nb3 176), (30, .agg (cu8 (sh1L thereL s)).toArray), (31, .agg (cu8 ([(2:UInt8), (3:UInt8), (1:UInt8), (1:UInt8)])).toArray), (32, .agg (cu8 (mixL (sh1L thereL s) ([(2:UInt8), (3:UInt8), (1:UInt8), (1:UInt8)]))).toArray), (33, .agg (cu8 (mid (rkL (zr8 16)) (16*j + 16) 16)).toArray), (34, .agg (cu8 (addL (mixL (sh1L thereL s) ([(2:UInt8), (3:UInt8), (1:UInt8), (1:UInt8)])) (mid (rkL (zr8 16)) (16*j + 16) 16))).toArray), (0, Ptr nb3 0), (4, Ptr nb2 0), (5, Ptr nb5 0), (20, Slc nb3 16 9 10), (21, I64 (9:Int)), (22, I64 ((j:Int))), (23, .bool (decide (((j:Int)) < (9:Int)))), (24, Ptr nb3 (16*j + 16)), (25, .agg (cu8 (mid (rkL (zr8 16)) (16*j + 16) 16)).toArray), (7, Ptr nb6 0)]) (Sub.cons (by kernel_rfl) (Sub.cons (by kernel_rfl) (Sub.cons (by kernel_rfl) (Sub.cons (by kernel_rfl) (Sub.cons (by kernel_rfl) (Sub.cons (by kernel_rfl) (Sub.cons (by kernel_rfl) (Sub.cons (by kernel_rfl) (Sub.cons (by kernel_rfl) (Sub.cons (by kernel_rfl) (Sub.cons (by kernel_rfl) (Sub.cons (by kernel_rfl) (Sub.cons (by kernel_rfl) (Sub.cons (by kernel_rfl) (Sub.cons (by kernel_rfl) (Sub.cons (by kernel_rfl) (Sub.cons (by kernel_rfl) (Sub.cons (by kernel_rfl) (Sub.cons (by kernel_rfl) (Sub.nil)))))))))))))))))))) ?_
      show JQ _ _ _ [(26, .agg (cu8 s).toArray), (27, Ptr nb3 0), (28, Ptr nb3 0), (29, Ptr nb3 176), (30, .agg (cu8 (sh1L thereL s)).toArray), (31, .agg (cu8 ([(2:UInt8), (3:UInt8), (1:UInt8), (1:UInt8)])).toArray), (32, .agg (cu8 (mixL (sh1L thereL s) ([(2:UInt8), (3:UInt8), (1:UInt8), (1:UInt8)]))).toArray), (33, .agg (cu8 (mid (rkL (zr8 16)) (16*j + 16) 16)).toArray), (34, .agg (cu8 (addL (mixL (sh1L thereL s) ([(2:UInt8), (3:UInt8), (1:UInt8), (1:UInt8)])) (mid (rkL (zr8 16)) (16*j + 16) 16))).toArray), (0, Ptr nb3 0), (4, Ptr nb2 0), (5, Ptr nb5 0), (20, Slc nb3 16 9 10), (21, I64 (9:Int)), (22, I64 ((j:Int))), (23, .bool (decide (((j:Int)) < (9:Int)))), (24, Ptr nb3 (16*j + 16)), (25, .agg (cu8 (mid (rkL (zr8 16)) (16*j + 16) 16)).toArray), (7, Ptr nb6 0)] _
      refine JQ_in_normal ?_
      refine JQ_then ?_
      refine JC_region ?_
      refine JL_val (I64 ((j:Int) + 1)) (Ev_bini rfl rfl fun _ => bin_add_i _ _ ((j:Int) + 1) (by omega) (by omega)) rfl ?_
      refine JL_val _ (Ev_move rfl) rfl ?_
      refine JL_nil ?_
      refine JQ_thenK ?_
      refine K_mask [true, true, true, false] ?_
      show K _ _ [⟨nb2, cu8 (zr8 16), 27, (0, 0)⟩, ⟨nb3, cu8 (rkL (zr8 16)) ++ cu8 thereL ++ cu8 backL, 106, (0, 0)⟩, ⟨nb5, cu8 (addL (mixL (sh1L thereL s) ([(2:UInt8), (3:UInt8), (1:UInt8), (1:UInt8)])) (mid (rkL (zr8 16)) (16*j + 16) 16)), 27, (0, 0)⟩] _
      refine K_next (j + 1, addL (mixL (sh1L thereL s) ([(2:UInt8), (3:UInt8), (1:UInt8), (1:UInt8)])) (mid (rkL (zr8 16)) (16*j + 16) 16)) ⟨by omega, by rw [encN, ← hx2], (addL_len (mixL_len _ _))⟩ (by simp; omega) (Sub.cons rfl (Sub.cons rfl (Sub.cons rfl (Sub.cons rfl (Sub.cons rfl (Sub.cons rfl (Sub.nil))))))) rfl
    ·
      have hp1 : ¬ (((j:Int)) < (9:Int)) := of_decide_eq_false hb1
      refine JC_exit ?_
      refine JQ_then_exit ?_
      refine JQ_then_exit ?_
      refine JQ_in_same ?_
      refine JQ_then ?_
      refine JC_seq ?_
      have hl4 : (mid (rkL (zr8 16)) 160 16).length = 16 := mid_len (by rw [(rkL_len (zr8 16) (zr8_len 16))]; omega)
      refine JC_draw 47 4 [(0, .agg (cu8 s).toArray), (1, Ptr nb3 0), (2, Ptr nb3 0), (3, Ptr nb3 176), (5, Ptr nb3 0), (6, Ptr nb3 0), (7, Ptr nb3 0), (8, Ptr nb3 160), (9, .agg (cu8 (mid (rkL (zr8 16)) 160 16)).toArray)] Try.mixed rfl (by decide +kernel) ?_
      have hl5 : (mid (rkL (zr8 16)) 160 16).length = 16 := mid_len (by rw [(rkL_len (zr8 16) (zr8_len 16))]; omega)
      refine DP_one ⟨[], [0, 1, 2, 3, 5, 6, 7, 8, 9], [], [0, 1, 2, 3, 5, 6, 7, 8, 9], [4]⟩ 4 _ rfl rfl (by decide +kernel) rfl ⟨⟨_, rfl, Qok_val rfl (Ev_load rfl (Ld_agg Try.isAgg27 Try.sizeOf27 (len_cu8 hs) (MemAt.ent 2 rfl (Seg.whole _))))⟩, ⟨_, rfl, Qok_val rfl (Ev_move rfl)⟩, ⟨_, rfl, Qok_val rfl (Ev_nilCheck rfl)⟩, ⟨_, rfl, Qok_val rfl (Ev_fieldAddr 176 104 256 Try.underlying106 rfl Try.sizeOf104 rfl rfl)⟩, ⟨_, rfl, Qok_val rfl (Ev_move rfl)⟩, ⟨_, rfl, Qok_val rfl (Ev_nilCheck rfl)⟩, ⟨_, rfl, Qok_val rfl (Ev_fieldAddr 0 103 176 Try.underlying106 rfl Try.sizeOf103 rfl rfl)⟩, ⟨_, rfl, Qok_val rfl (Ev_indexArr 11 27 16 160 Try.underlying103 Try.sizeOf27 rfl rfl (by omega) (by omega) (by omega))⟩, ⟨_, rfl, Qok_val rfl (Ev_load rfl (Ld_agg Try.isAgg27 Try.sizeOf27 (len_cu8 hl5) (MemAt.ent 1 rfl (Seg.left (Seg.left (segm_u8 160 16 (by rw [(rkL_len (zr8 16) (zr8_len 16))]; omega)))))))⟩, trivial⟩ rfl (Cok_step rfl (Step_callP 75 [.agg (cu8 s).toArray, Ptr nb3 176, I64 (1:Int)] (.agg (cu8 (sh1L thereL s)).toArray) (Cl_func [.agg (cu8 s).toArray, Ptr nb3 176, I64 (1:Int)] Try.call75 rfl) (fun w1 hw1 => shifted1_c s thereL nb3 176 w1 hs thereL_len (RdA.of hw1 (MemAt.ent 1 rfl (Seg.left (Seg.right 176 0 (by simp [(rkL_len (zr8 16) (zr8_len 16))]) rfl (Seg.whole _)))) (by simp [thereL_len]))))) ?_
      rintro v1 L1 ⟨rfl, rfl⟩
      refine ⟨[], ?_⟩
      show DP _ _ _ _ _ _ _ _ [⟨nb2, cu8 (zr8 16), 27, (0, 0)⟩, ⟨nb3, cu8 (rkL (zr8 16)) ++ cu8 thereL ++ cu8 backL, 106, (0, 0)⟩, ⟨nb5, cu8 s, 27, (0, 0)⟩]
      have hl6 : (mid (rkL (zr8 16)) 160 16).length = 16 := mid_len (by rw [(rkL_len (zr8 16) (zr8_len 16))]; omega)
      refine DP_one ⟨[4], [0, 1, 2, 3, 5, 6, 7, 8, 9], [0, 1, 2, 3], [5, 6, 7, 8, 9], [10]⟩ 10 _ rfl rfl (by decide +kernel) rfl ⟨⟨_, rfl, Qok_val rfl (Ev_move rfl)⟩, ⟨_, rfl, Qok_val rfl (Ev_nilCheck rfl)⟩, ⟨_, rfl, Qok_val rfl (Ev_fieldAddr 0 103 176 Try.underlying106 rfl Try.sizeOf103 rfl rfl)⟩, ⟨_, rfl, Qok_val rfl (Ev_indexArr 11 27 16 160 Try.underlying103 Try.sizeOf27 rfl rfl (by omega) (by omega) (by omega))⟩, ⟨_, rfl, Qok_val rfl (Ev_load rfl (Ld_agg Try.isAgg27 Try.sizeOf27 (len_cu8 hl6) (MemAt.ent 1 rfl (Seg.left (Seg.left (segm_u8 160 16 (by rw [(rkL_len (zr8 16) (zr8_len 16))]; omega)))))))⟩, trivial⟩ rfl (Cok_step rfl (Step_callP 73 [.agg (cu8 (sh1L thereL s)).toArray, .agg (cu8 (mid (rkL (zr8 16)) 160 16)).toArray] (.agg (cu8 (addL (sh1L thereL s) (mid (rkL (zr8 16)) 160 16))).toArray) (Cl_func [.agg (cu8 (sh1L thereL s)).toArray, .agg (cu8 (mid (rkL (zr8 16)) 160 16)).toArray] Try.call73 rfl) (fun w1 hw1 => added_c (sh1L thereL s) (mid (rkL (zr8 16)) 160 16) w1 (sh1L_len _ _) hl4))) ?_
      rintro v1 L1 ⟨rfl, rfl⟩
      refine ⟨[], ?_⟩
      show DP _ _ _ _ _ _ _ _ [⟨nb2, cu8 (zr8 16), 27, (0, 0)⟩, ⟨nb3, cu8 (rkL (zr8 16)) ++ cu8 thereL ++ cu8 backL, 106, (0, 0)⟩, ⟨nb5, cu8 s, 27, (0, 0)⟩]
      refine DP_one ⟨[4, 10], [0, 1, 2, 3, 5, 6, 7, 8, 9], [0, 1, 2, 3, 5, 6, 7, 8, 9], [], [11]⟩ 11 _ rfl rfl (by decide +kernel) rfl trivial rfl (Cok_step rfl (Step_store 0 nb2 0 16 (cu8 (zr8 16)) 27 (.agg (cu8 (addL (sh1L thereL s) (mid (rkL (zr8 16)) 160 16))).toArray) (cu8 (addL (sh1L thereL s) (mid (rkL (zr8 16)) 160 16))) (cu8 (addL (sh1L thereL s) (mid (rkL (zr8 16)) 160 16))) rfl rfl rfl (by first | rfl | simp) Try.sizeOf27 (len_cu8 (addL_len (sh1L_len _ _))) (by first | exact one_u8 | exact one_u32 | exact one_u64 | (simp [cu8, cu32, cu64, Value.oneCell']; done)) (by simp [(zr8_len 16)]) (lay_whole (by simp [(zr8_len 16), (addL_len (sh1L_len _ _))])))) ?_
      rintro v1 L1 ⟨rfl, rfl⟩
      refine ⟨[], ?_⟩
      show DP _ _ _ _ _ _ _ _ [⟨nb2, cu8 (addL (sh1L thereL s) (mid (rkL (zr8 16)) 160 16)), 27, (0, 0)⟩, ⟨nb3, cu8 (rkL (zr8 16)) ++ cu8 thereL ++ cu8 backL, 106, (0, 0)⟩, ⟨nb5, cu8 s, 27, (0, 0)⟩]
      refine DP_end ⟨[4, 10, 11], [0, 1, 2, 3, 5, 6, 7, 8, 9], [0, 1, 2, 3, 5, 6, 7, 8, 9], [], []⟩ rfl rfl (by decide +kernel) rfl trivial ?_
      refine K_sub (F' := [(4, Ptr nb2 0)]) (Sub.cons (by kernel_rfl) (Sub.nil)) ?_
      show JQ _ _ _ [(4, Ptr nb2 0)] _
      refine JQ_then ?_
      refine JC_ret ?_
      refine JQ_ret (.agg (cu8 (addL (sh1L thereL s) (mid (rkL (zr8 16)) 160 16))).toArray) (res1 Try.results27 (RV_cell rfl (Ld_agg Try.isAgg27 Try.sizeOf27 (len_cu8 (addL_len (sh1L_len _ _))) (MemAt.ent 0 rfl (Seg.whole _))))) fun w1 hw1 => ?_
      have e1 : j = 9 := by omega
      subst e1
      subst hx2
      exact ⟨_, [], rfl, ⟨rfl, rfl⟩, hw1.sub (by simp) (by simp)⟩
  ·
    rintro v1 L1 ⟨nb4, hnb4, rfl, rfl⟩
    refine ⟨[], ?_⟩
    show DP _ _ _ _ _ _ _ _ [⟨nb1, cu8 b, 27, (0, 0)⟩, ⟨nb2, cu8 (zr8 16), 27, (0, 0)⟩, ⟨nb3, cu8 (rkL (zr8 16)) ++ cu8 thereL ++ cu8 backL, 106, (0, 0)⟩, ⟨nb4, cu8 (zr8 16), 27, (0, 0)⟩]
    have hl7 : (mid (rkL (zr8 16)) 0 16).length = 16 := mid_len (by rw [(rkL_len (zr8 16) (zr8_len 16))]; omega)
    refine DP_one ⟨[7], [0, 1, 2, 3, 4, 5], [], [0, 1, 2, 3, 4, 5], [6]⟩ 6 _ rfl rfl (by decide +kernel) rfl ⟨⟨_, rfl, Qok_val rfl (Ev_load rfl (Ld_agg Try.isAgg27 Try.sizeOf27 (len_cu8 hb) (MemAt.ent 0 rfl (Seg.whole _))))⟩, ⟨_, rfl, Qok_val rfl (Ev_move rfl)⟩, ⟨_, rfl, Qok_val rfl (Ev_nilCheck rfl)⟩, ⟨_, rfl, Qok_val rfl (Ev_fieldAddr 0 103 176 Try.underlying106 rfl Try.sizeOf103 rfl rfl)⟩, ⟨_, rfl, Qok_val rfl (Ev_indexArr 11 27 16 0 Try.underlying103 Try.sizeOf27 rfl rfl (by omega) (by omega) (by omega))⟩, ⟨_, rfl, Qok_val rfl (Ev_load rfl (Ld_agg Try.isAgg27 Try.sizeOf27 (len_cu8 hl7) (MemAt.ent 2 rfl (Seg.left (Seg.left (segm_u8 0 16 (by rw [(rkL_len (zr8 16) (zr8_len 16))]; omega)))))))⟩, trivial⟩ rfl (Cok_step rfl (Step_callP 73 [.agg (cu8 b).toArray, .agg (cu8 (mid (rkL (zr8 16)) 0 16)).toArray] (.agg (cu8 (addL b (mid (rkL (zr8 16)) 0 16))).toArray) (Cl_func [.agg (cu8 b).toArray, .agg (cu8 (mid (rkL (zr8 16)) 0 16)).toArray] Try.call73 rfl) (fun w1 hw1 => added_c b (mid (rkL (zr8 16)) 0 16) w1 hb hl1))) ?_
    rintro v1 L1 ⟨rfl, rfl⟩
    refine ⟨[], ?_⟩
    show DP _ _ _ _ _ _ _ _ [⟨nb1, cu8 b, 27, (0, 0)⟩, ⟨nb2, cu8 (zr8 16), 27, (0, 0)⟩, ⟨nb3, cu8 (rkL (zr8 16)) ++ cu8 thereL ++ cu8 backL, 106, (0, 0)⟩, ⟨nb4, cu8 (zr8 16), 27, (0, 0)⟩]
    refine DP_one ⟨[7, 6], [0, 1, 2, 3, 4, 5], [0, 1, 2, 3, 4, 5], [], [8]⟩ 8 _ rfl rfl (by decide +kernel) rfl trivial rfl (Cok_step rfl (Step_store 3 nb4 0 16 (cu8 (zr8 16)) 27 (.agg (cu8 (addL b (mid (rkL (zr8 16)) 0 16))).toArray) (cu8 (addL b (mid (rkL (zr8 16)) 0 16))) (cu8 (addL b (mid (rkL (zr8 16)) 0 16))) rfl rfl rfl (by first | rfl | simp) Try.sizeOf27 (len_cu8 (addL_len hb)) (by first | exact one_u8 | exact one_u32 | exact one_u64 | (simp [cu8, cu32, cu64, Value.oneCell']; done)) (by simp [(zr8_len 16)]) (lay_whole (by simp [(zr8_len 16), (addL_len hb)])))) ?_
    rintro v1 L1 ⟨rfl, rfl⟩
    refine ⟨[], ?_⟩
    show DP _ _ _ _ _ _ _ _ [⟨nb1, cu8 b, 27, (0, 0)⟩, ⟨nb2, cu8 (zr8 16), 27, (0, 0)⟩, ⟨nb3, cu8 (rkL (zr8 16)) ++ cu8 thereL ++ cu8 backL, 106, (0, 0)⟩, ⟨nb4, cu8 (addL b (mid (rkL (zr8 16)) 0 16)), 27, (0, 0)⟩]
    refine DP_end ⟨[7, 6, 8], [0, 1, 2, 3, 4, 5], [0, 1, 2, 3, 4, 5], [], []⟩ rfl rfl (by decide +kernel) rfl trivial ?_
    refine K_sub (F' := [(5, Ptr nb4 0), (0, Ptr nb3 0), (4, Ptr nb2 0)]) (Sub.cons (by kernel_rfl) (Sub.cons (by kernel_rfl) (Sub.cons (by kernel_rfl) (Sub.nil)))) ?_
    show JQ _ _ _ [(5, Ptr nb4 0), (0, Ptr nb3 0), (4, Ptr nb2 0)] _
    refine JQ_then ?_
    refine JC_seq ?_
    refine JC_seq ?_
    refine JC_region ?_
    refine JL_val _ (Ev_move rfl) rfl ?_
    refine JL_val _ (Ev_nilCheck rfl) rfl ?_
    refine JL_val (Ptr nb3 0) (Ev_fieldAddr 0 103 176 Try.underlying106 rfl Try.sizeOf103 rfl rfl) rfl ?_
    refine JL_val (Slc nb3 16 9 10) (Ev_sliceA 11 27 16 1 10 16 10 Try.underlying103 Try.sizeOf27 rfl rfl rfl (by omega) (by omega) (by omega) (by omega) (by omega) 9 (by omega)) rfl ?_
    refine JL_val (I64 (9:Int)) (Ev_len Try.underlying111 rfl) rfl ?_
    refine JL_val _ (Ev_move rfl) rfl ?_
    refine JL_nil ?_
    refine JQ_then ?_
    refine JC_block ?_
    refine K_mask [false, true, true, true] ?_
    show JC _ _ _ _ [⟨nb2, cu8 (zr8 16), 27, (0, 0)⟩, ⟨nb3, cu8 (rkL (zr8 16)) ++ cu8 thereL ++ cu8 backL, 106, (0, 0)⟩, ⟨nb4, cu8 (addL b (mid (rkL (zr8 16)) 0 16)), 27, (0, 0)⟩]
    refine JC_loop (ι := Nat × List UInt8) (fun ⟨j, s⟩ => [(0, Ptr nb3 0), (4, Ptr nb2 0), (5, Ptr nb4 0), (20, Slc nb3 16 9 10), (21, I64 (9:Int)), (22, I64 ((j:Int)))]) (fun ⟨j, s⟩ => [⟨nb2, cu8 (zr8 16), 27, (0, 0)⟩, ⟨nb3, cu8 (rkL (zr8 16)) ++ cu8 thereL ++ cu8 backL, 106, (0, 0)⟩, ⟨nb4, cu8 s, 27, (0, 0)⟩]) (fun ⟨j, s⟩ => j ≤ 9 ∧ s = encN (rkL (zr8 16)) b j ∧ s.length = 16) (fun ⟨j, s⟩ => 9 - j) (0, addL b (mid (rkL (zr8 16)) 0 16)) ⟨by omega, by rw [encN], addL_len hb⟩ (Sub.cons rfl (Sub.cons rfl (Sub.cons rfl (Sub.cons rfl (Sub.cons rfl (Sub.cons rfl (Sub.nil))))))) rfl ?_
    rintro ⟨j, s⟩ ⟨hx1, hx2, hs⟩
    show JC _ _ _ [(0, Ptr nb3 0), (4, Ptr nb2 0), (5, Ptr nb4 0), (20, Slc nb3 16 9 10), (21, I64 (9:Int)), (22, I64 ((j:Int)))] [⟨nb2, cu8 (zr8 16), 27, (0, 0)⟩, ⟨nb3, cu8 (rkL (zr8 16)) ++ cu8 thereL ++ cu8 backL, 106, (0, 0)⟩, ⟨nb4, cu8 s, 27, (0, 0)⟩]
    refine JC_seq ?_
    refine JC_region ?_
    refine JL_val (.bool (decide (((j:Int)) < (9:Int)))) (Ev_bini rfl rfl fun _ => bin_lss_i _ _) rfl ?_
    refine JL_nil ?_
    refine JQ_then ?_
    refine JC_seq ?_
    refine JC_cond (decide (((j:Int)) < (9:Int))) rfl (fun hb2 => ?_) (fun hb2 => ?_)
    ·
      have hp2 : ((j:Int)) < (9:Int) := of_decide_eq_true hb2
      refine JC_skip ?_
      refine JQ_then ?_
      refine JC_seq ?_
      refine JC_block ?_
      refine JC_seq ?_
      refine JC_region ?_
      refine JL_val (Ptr nb3 (16*j + 16)) (Ev_indexSl 27 16 (16*j + 16) Try.underlying111 Try.sizeOf27 rfl rfl (by omega) (by omega) (by omega)) rfl ?_
      have hl8 : (mid (rkL (zr8 16)) (16*j + 16) 16).length = 16 := mid_len (by rw [(rkL_len (zr8 16) (zr8_len 16))]; omega)
      refine JL_val (.agg (cu8 (mid (rkL (zr8 16)) (16*j + 16) 16)).toArray) (Ev_load rfl (Ld_agg Try.isAgg27 Try.sizeOf27 (len_cu8 hl8) (MemAt.ent 1 rfl (Seg.left (Seg.left (segm_u8 (16*j + 16) 16 (by rw [(rkL_len (zr8 16) (zr8_len 16))]; omega))))))) rfl ?_
      refine JL_step (Step_alloc _ (cu8 (zr8 16)) Try.zeroValue27 (by kernel_rfl)) rfl ?_
      rintro v1 L1 ⟨nb7, hnb7, rfl, rfl⟩
      show JL _ _ _ _ ((7, Ptr nb7 0) :: _) [⟨nb2, cu8 (zr8 16), 27, (0, 0)⟩, ⟨nb3, cu8 (rkL (zr8 16)) ++ cu8 thereL ++ cu8 backL, 106, (0, 0)⟩, ⟨nb4, cu8 s, 27, (0, 0)⟩, ⟨nb7, cu8 (zr8 16), 27, (0, 0)⟩]
      refine JL_step (Step_store 3 nb7 0 16 (cu8 (zr8 16)) 27 (.agg (cu8 (mid (rkL (zr8 16)) (16*j + 16) 16)).toArray) (cu8 (mid (rkL (zr8 16)) (16*j + 16) 16)) (cu8 (mid (rkL (zr8 16)) (16*j + 16) 16)) rfl rfl rfl (by first | rfl | simp) Try.sizeOf27 (len_cu8 hl8) (by first | exact one_u8 | exact one_u32 | exact one_u64 | (simp [cu8, cu32, cu64, Value.oneCell']; done)) (by simp [(zr8_len 16)]) (lay_whole (by simp [(zr8_len 16), hl8]))) rfl ?_
      rintro v1 L1 ⟨rfl, rfl⟩
      show JL _ _ _ _ _ [⟨nb2, cu8 (zr8 16), 27, (0, 0)⟩, ⟨nb3, cu8 (rkL (zr8 16)) ++ cu8 thereL ++ cu8 backL, 106, (0, 0)⟩, ⟨nb4, cu8 s, 27, (0, 0)⟩, ⟨nb7, cu8 (mid (rkL (zr8 16)) (16*j + 16) 16), 27, (0, 0)⟩]
      refine JL_nil ?_
      refine JQ_then ?_
      refine JC_draw 47 5 [(0, .agg (cu8 s).toArray), (1, Ptr nb3 0), (2, Ptr nb3 0), (3, Ptr nb3 176), (5, .agg (cu8 ([(2:UInt8), (3:UInt8), (1:UInt8), (1:UInt8)])).toArray), (7, .agg (cu8 (mid (rkL (zr8 16)) (16*j + 16) 16)).toArray)] Try.mixed rfl (by decide +kernel) ?_
      refine DP_one ⟨[], [0, 1, 2, 3, 5, 7], [], [0, 1, 2, 3, 5, 7], [4]⟩ 4 _ rfl rfl (by decide +kernel) rfl ⟨⟨_, rfl, Qok_val rfl (Ev_load rfl (Ld_agg Try.isAgg27 Try.sizeOf27 (len_cu8 hs) (MemAt.ent 2 rfl (Seg.whole _))))⟩, ⟨_, rfl, Qok_val rfl (Ev_move rfl)⟩, ⟨_, rfl, Qok_val rfl (Ev_nilCheck rfl)⟩, ⟨_, rfl, Qok_val rfl (Ev_fieldAddr 176 104 256 Try.underlying106 rfl Try.sizeOf104 rfl rfl)⟩, ⟨_, rfl, Qok_val rfl (Ev_build [(0, U8 (2:UInt8)), (1, U8 (3:UInt8)), (2, U8 (1:UInt8)), (3, U8 (1:UInt8))] _ rfl (fun _ => by kernel_rfl))⟩, ⟨_, rfl, Qok_val rfl (Ev_load rfl (Ld_agg Try.isAgg27 Try.sizeOf27 (len_cu8 hl8) (MemAt.ent 3 rfl (Seg.whole _))))⟩, trivial⟩ rfl (Cok_step rfl (Step_callP 75 [.agg (cu8 s).toArray, Ptr nb3 176, I64 (1:Int)] (.agg (cu8 (sh1L thereL s)).toArray) (Cl_func [.agg (cu8 s).toArray, Ptr nb3 176, I64 (1:Int)] Try.call75 rfl) (fun w1 hw1 => shifted1_c s thereL nb3 176 w1 hs thereL_len (RdA.of hw1 (MemAt.ent 1 rfl (Seg.left (Seg.right 176 0 (by simp [(rkL_len (zr8 16) (zr8_len 16))]) rfl (Seg.whole _)))) (by simp [thereL_len]))))) ?_
      rintro v1 L1 ⟨rfl, rfl⟩
      refine ⟨[], ?_⟩
      show DP _ _ _ _ _ _ _ _ [⟨nb2, cu8 (zr8 16), 27, (0, 0)⟩, ⟨nb3, cu8 (rkL (zr8 16)) ++ cu8 thereL ++ cu8 backL, 106, (0, 0)⟩, ⟨nb4, cu8 s, 27, (0, 0)⟩, ⟨nb7, cu8 (mid (rkL (zr8 16)) (16*j + 16) 16), 27, (0, 0)⟩]
      refine DP_one ⟨[4], [0, 1, 2, 3, 5, 7], [0, 1, 2, 3], [5, 7], [6]⟩ 6 _ rfl rfl (by decide +kernel) rfl ⟨⟨_, rfl, Qok_val rfl (Ev_build [(0, U8 (2:UInt8)), (1, U8 (3:UInt8)), (2, U8 (1:UInt8)), (3, U8 (1:UInt8))] _ rfl (fun _ => by kernel_rfl))⟩, ⟨_, rfl, Qok_val rfl (Ev_load rfl (Ld_agg Try.isAgg27 Try.sizeOf27 (len_cu8 hl8) (MemAt.ent 3 rfl (Seg.whole _))))⟩, trivial⟩ rfl (Cok_step rfl (Step_callP 74 [.agg (cu8 (sh1L thereL s)).toArray, .agg (cu8 ([(2:UInt8), (3:UInt8), (1:UInt8), (1:UInt8)])).toArray] (.agg (cu8 (mixL (sh1L thereL s) ([(2:UInt8), (3:UInt8), (1:UInt8), (1:UInt8)]))).toArray) (Cl_func [.agg (cu8 (sh1L thereL s)).toArray, .agg (cu8 ([(2:UInt8), (3:UInt8), (1:UInt8), (1:UInt8)])).toArray] Try.call74 rfl) (fun w1 hw1 => mixed_c (sh1L thereL s) ([(2:UInt8), (3:UInt8), (1:UInt8), (1:UInt8)]) w1 (sh1L_len _ _) rfl))) ?_
      rintro v1 L1 ⟨rfl, rfl⟩
      refine ⟨[], ?_⟩
      show DP _ _ _ _ _ _ _ _ [⟨nb2, cu8 (zr8 16), 27, (0, 0)⟩, ⟨nb3, cu8 (rkL (zr8 16)) ++ cu8 thereL ++ cu8 backL, 106, (0, 0)⟩, ⟨nb4, cu8 s, 27, (0, 0)⟩, ⟨nb7, cu8 (mid (rkL (zr8 16)) (16*j + 16) 16), 27, (0, 0)⟩]
      refine DP_one ⟨[4, 6], [0, 1, 2, 3, 5, 7], [0, 1, 2, 3, 5], [7], [8]⟩ 8 _ rfl rfl (by decide +kernel) rfl ⟨⟨_, rfl, Qok_val rfl (Ev_load rfl (Ld_agg Try.isAgg27 Try.sizeOf27 (len_cu8 hl8) (MemAt.ent 3 rfl (Seg.whole _))))⟩, trivial⟩ rfl (Cok_step rfl (Step_callP 73 [.agg (cu8 (mixL (sh1L thereL s) ([(2:UInt8), (3:UInt8), (1:UInt8), (1:UInt8)]))).toArray, .agg (cu8 (mid (rkL (zr8 16)) (16*j + 16) 16)).toArray] (.agg (cu8 (addL (mixL (sh1L thereL s) ([(2:UInt8), (3:UInt8), (1:UInt8), (1:UInt8)])) (mid (rkL (zr8 16)) (16*j + 16) 16))).toArray) (Cl_func [.agg (cu8 (mixL (sh1L thereL s) ([(2:UInt8), (3:UInt8), (1:UInt8), (1:UInt8)]))).toArray, .agg (cu8 (mid (rkL (zr8 16)) (16*j + 16) 16)).toArray] Try.call73 rfl) (fun w1 hw1 => added_c (mixL (sh1L thereL s) ([(2:UInt8), (3:UInt8), (1:UInt8), (1:UInt8)])) (mid (rkL (zr8 16)) (16*j + 16) 16) w1 (mixL_len _ _) hl8))) ?_
      rintro v1 L1 ⟨rfl, rfl⟩
      refine ⟨[], ?_⟩
      show DP _ _ _ _ _ _ _ _ [⟨nb2, cu8 (zr8 16), 27, (0, 0)⟩, ⟨nb3, cu8 (rkL (zr8 16)) ++ cu8 thereL ++ cu8 backL, 106, (0, 0)⟩, ⟨nb4, cu8 s, 27, (0, 0)⟩, ⟨nb7, cu8 (mid (rkL (zr8 16)) (16*j + 16) 16), 27, (0, 0)⟩]
      refine DP_one ⟨[4, 6, 8], [0, 1, 2, 3, 5, 7], [0, 1, 2, 3, 5, 7], [], [9]⟩ 9 _ rfl rfl (by decide +kernel) rfl trivial rfl (Cok_step rfl (Step_store 2 nb4 0 16 (cu8 s) 27 (.agg (cu8 (addL (mixL (sh1L thereL s) ([(2:UInt8), (3:UInt8), (1:UInt8), (1:UInt8)])) (mid (rkL (zr8 16)) (16*j + 16) 16))).toArray) (cu8 (addL (mixL (sh1L thereL s) ([(2:UInt8), (3:UInt8), (1:UInt8), (1:UInt8)])) (mid (rkL (zr8 16)) (16*j + 16) 16))) (cu8 (addL (mixL (sh1L thereL s) ([(2:UInt8), (3:UInt8), (1:UInt8), (1:UInt8)])) (mid (rkL (zr8 16)) (16*j + 16) 16))) rfl rfl rfl (by first | rfl | simp) Try.sizeOf27 (len_cu8 (addL_len (mixL_len _ _))) (by first | exact one_u8 | exact one_u32 | exact one_u64 | (simp [cu8, cu32, cu64, Value.oneCell']; done)) (by simp [hs]) (lay_whole (by simp [hs, (addL_len (mixL_len _ _))])))) ?_
      rintro v1 L1 ⟨rfl, rfl⟩
      refine ⟨[], ?_⟩
      show DP _ _ _ _ _ _ _ _ [⟨nb2, cu8 (zr8 16), 27, (0, 0)⟩, ⟨nb3, cu8 (rkL (zr8 16)) ++ cu8 thereL ++ cu8 backL, 106, (0, 0)⟩, ⟨nb4, cu8 (addL (mixL (sh1L thereL s) ([(2:UInt8), (3:UInt8), (1:UInt8), (1:UInt8)])) (mid (rkL (zr8 16)) (16*j + 16) 16)), 27, (0, 0)⟩, ⟨nb7, cu8 (mid (rkL (zr8 16)) (16*j + 16) 16), 27, (0, 0)⟩]
      refine DP_end ⟨[4, 6, 8, 9], [0, 1, 2, 3, 5, 7], [0, 1, 2, 3, 5, 7], [], []⟩ rfl rfl (by decide +kernel) rfl trivial ?_
      refine K_sub (F' := [(26, .agg (cu8 s).toArray), (27, Ptr nb3 0), (28, Ptr nb3 0), (29, Ptr nb3 176), (30, .agg (cu8 (sh1L thereL s)).toArray), (31, .agg (cu8 ([(2:UInt8), (3:UInt8), (1:UInt8), (1:UInt8)])).toArray), (32, .agg (cu8 (mixL (sh1L thereL s) ([(2:UInt8), (3:UInt8), (1:UInt8), (1:UInt8)]))).toArray), (33, .agg (cu8 (mid (rkL (zr8 16)) (16*j + 16) 16)).toArray), (34, .agg (cu8 (addL (mixL (sh1L thereL s) ([(2:UInt8), (3:UInt8), (1:UInt8), (1:UInt8)])) (mid (rkL (zr8 16)) (16*j + 16) 16))).toArray), (0, Ptr nb3 0), (4, Ptr nb2 0), (5, Ptr nb4 0), (20, Slc nb3 16 9 10), (21, I64 (9:Int)), (22, I64 ((j:Int))), (23, .bool (decide (((j:Int)) < (9:Int)))), (24, Ptr nb3 (16*j + 16)), (25, .agg (cu8 (mid (rkL (zr8 16)) (16*j + 16) 16)).toArray), (7, Ptr nb7 0)]) (Sub.cons (by kernel_rfl) (Sub.cons (by kernel_rfl) (Sub.cons (by kernel_rfl) (Sub.cons (by kernel_rfl) (Sub.cons (by kernel_rfl) (Sub.cons (by kernel_rfl) (Sub.cons (by kernel_rfl) (Sub.cons (by kernel_rfl) (Sub.cons (by kernel_rfl) (Sub.cons (by kernel_rfl) (Sub.cons (by kernel_rfl) (Sub.cons (by kernel_rfl) (Sub.cons (by kernel_rfl) (Sub.cons (by kernel_rfl) (Sub.cons (by kernel_rfl) (Sub.cons (by kernel_rfl) (Sub.cons (by kernel_rfl) (Sub.cons (by kernel_rfl) (Sub.cons (by kernel_rfl) (Sub.nil)))))))))))))))))))) ?_
      show JQ _ _ _ [(26, .agg (cu8 s).toArray), (27, Ptr nb3 0), (28, Ptr nb3 0), (29, Ptr nb3 176), (30, .agg (cu8 (sh1L thereL s)).toArray), (31, .agg (cu8 ([(2:UInt8), (3:UInt8), (1:UInt8), (1:UInt8)])).toArray), (32, .agg (cu8 (mixL (sh1L thereL s) ([(2:UInt8), (3:UInt8), (1:UInt8), (1:UInt8)]))).toArray), (33, .agg (cu8 (mid (rkL (zr8 16)) (16*j + 16) 16)).toArray), (34, .agg (cu8 (addL (mixL (sh1L thereL s) ([(2:UInt8), (3:UInt8), (1:UInt8), (1:UInt8)])) (mid (rkL (zr8 16)) (16*j + 16) 16))).toArray), (0, Ptr nb3 0), (4, Ptr nb2 0), (5, Ptr nb4 0), (20, Slc nb3 16 9 10), (21, I64 (9:Int)), (22, I64 ((j:Int))), (23, .bool (decide (((j:Int)) < (9:Int)))), (24, Ptr nb3 (16*j + 16)), (25, .agg (cu8 (mid (rkL (zr8 16)) (16*j + 16) 16)).toArray), (7, Ptr nb7 0)] _
      refine JQ_in_normal ?_
      refine JQ_then ?_
      refine JC_region ?_
      refine JL_val (I64 ((j:Int) + 1)) (Ev_bini rfl rfl fun _ => bin_add_i _ _ ((j:Int) + 1) (by omega) (by omega)) rfl ?_
      refine JL_val _ (Ev_move rfl) rfl ?_
      refine JL_nil ?_
      refine JQ_thenK ?_
      refine K_mask [true, true, true, false] ?_
      show K _ _ [⟨nb2, cu8 (zr8 16), 27, (0, 0)⟩, ⟨nb3, cu8 (rkL (zr8 16)) ++ cu8 thereL ++ cu8 backL, 106, (0, 0)⟩, ⟨nb4, cu8 (addL (mixL (sh1L thereL s) ([(2:UInt8), (3:UInt8), (1:UInt8), (1:UInt8)])) (mid (rkL (zr8 16)) (16*j + 16) 16)), 27, (0, 0)⟩] _
      refine K_next (j + 1, addL (mixL (sh1L thereL s) ([(2:UInt8), (3:UInt8), (1:UInt8), (1:UInt8)])) (mid (rkL (zr8 16)) (16*j + 16) 16)) ⟨by omega, by rw [encN, ← hx2], (addL_len (mixL_len _ _))⟩ (by simp; omega) (Sub.cons rfl (Sub.cons rfl (Sub.cons rfl (Sub.cons rfl (Sub.cons rfl (Sub.cons rfl (Sub.nil))))))) rfl
    ·
      have hp2 : ¬ (((j:Int)) < (9:Int)) := of_decide_eq_false hb2
      refine JC_exit ?_
      refine JQ_then_exit ?_
      refine JQ_then_exit ?_
      refine JQ_in_same ?_
      refine JQ_then ?_
      refine JC_seq ?_
      have hl9 : (mid (rkL (zr8 16)) 160 16).length = 16 := mid_len (by rw [(rkL_len (zr8 16) (zr8_len 16))]; omega)
      refine JC_draw 47 4 [(0, .agg (cu8 s).toArray), (1, Ptr nb3 0), (2, Ptr nb3 0), (3, Ptr nb3 176), (5, Ptr nb3 0), (6, Ptr nb3 0), (7, Ptr nb3 0), (8, Ptr nb3 160), (9, .agg (cu8 (mid (rkL (zr8 16)) 160 16)).toArray)] Try.mixed rfl (by decide +kernel) ?_
      have hl10 : (mid (rkL (zr8 16)) 160 16).length = 16 := mid_len (by rw [(rkL_len (zr8 16) (zr8_len 16))]; omega)
      refine DP_one ⟨[], [0, 1, 2, 3, 5, 6, 7, 8, 9], [], [0, 1, 2, 3, 5, 6, 7, 8, 9], [4]⟩ 4 _ rfl rfl (by decide +kernel) rfl ⟨⟨_, rfl, Qok_val rfl (Ev_load rfl (Ld_agg Try.isAgg27 Try.sizeOf27 (len_cu8 hs) (MemAt.ent 2 rfl (Seg.whole _))))⟩, ⟨_, rfl, Qok_val rfl (Ev_move rfl)⟩, ⟨_, rfl, Qok_val rfl (Ev_nilCheck rfl)⟩, ⟨_, rfl, Qok_val rfl (Ev_fieldAddr 176 104 256 Try.underlying106 rfl Try.sizeOf104 rfl rfl)⟩, ⟨_, rfl, Qok_val rfl (Ev_move rfl)⟩, ⟨_, rfl, Qok_val rfl (Ev_nilCheck rfl)⟩, ⟨_, rfl, Qok_val rfl (Ev_fieldAddr 0 103 176 Try.underlying106 rfl Try.sizeOf103 rfl rfl)⟩, ⟨_, rfl, Qok_val rfl (Ev_indexArr 11 27 16 160 Try.underlying103 Try.sizeOf27 rfl rfl (by omega) (by omega) (by omega))⟩, ⟨_, rfl, Qok_val rfl (Ev_load rfl (Ld_agg Try.isAgg27 Try.sizeOf27 (len_cu8 hl10) (MemAt.ent 1 rfl (Seg.left (Seg.left (segm_u8 160 16 (by rw [(rkL_len (zr8 16) (zr8_len 16))]; omega)))))))⟩, trivial⟩ rfl (Cok_step rfl (Step_callP 75 [.agg (cu8 s).toArray, Ptr nb3 176, I64 (1:Int)] (.agg (cu8 (sh1L thereL s)).toArray) (Cl_func [.agg (cu8 s).toArray, Ptr nb3 176, I64 (1:Int)] Try.call75 rfl) (fun w1 hw1 => shifted1_c s thereL nb3 176 w1 hs thereL_len (RdA.of hw1 (MemAt.ent 1 rfl (Seg.left (Seg.right 176 0 (by simp [(rkL_len (zr8 16) (zr8_len 16))]) rfl (Seg.whole _)))) (by simp [thereL_len]))))) ?_
      rintro v1 L1 ⟨rfl, rfl⟩
      refine ⟨[], ?_⟩
      show DP _ _ _ _ _ _ _ _ [⟨nb2, cu8 (zr8 16), 27, (0, 0)⟩, ⟨nb3, cu8 (rkL (zr8 16)) ++ cu8 thereL ++ cu8 backL, 106, (0, 0)⟩, ⟨nb4, cu8 s, 27, (0, 0)⟩]
      have hl11 : (mid (rkL (zr8 16)) 160 16).length = 16 := mid_len (by rw [(rkL_len (zr8 16) (zr8_len 16))]; omega)
      refine DP_one ⟨[4], [0, 1, 2, 3, 5, 6, 7, 8, 9], [0, 1, 2, 3], [5, 6, 7, 8, 9], [10]⟩ 10 _ rfl rfl (by decide +kernel) rfl ⟨⟨_, rfl, Qok_val rfl (Ev_move rfl)⟩, ⟨_, rfl, Qok_val rfl (Ev_nilCheck rfl)⟩, ⟨_, rfl, Qok_val rfl (Ev_fieldAddr 0 103 176 Try.underlying106 rfl Try.sizeOf103 rfl rfl)⟩, ⟨_, rfl, Qok_val rfl (Ev_indexArr 11 27 16 160 Try.underlying103 Try.sizeOf27 rfl rfl (by omega) (by omega) (by omega))⟩, ⟨_, rfl, Qok_val rfl (Ev_load rfl (Ld_agg Try.isAgg27 Try.sizeOf27 (len_cu8 hl11) (MemAt.ent 1 rfl (Seg.left (Seg.left (segm_u8 160 16 (by rw [(rkL_len (zr8 16) (zr8_len 16))]; omega)))))))⟩, trivial⟩ rfl (Cok_step rfl (Step_callP 73 [.agg (cu8 (sh1L thereL s)).toArray, .agg (cu8 (mid (rkL (zr8 16)) 160 16)).toArray] (.agg (cu8 (addL (sh1L thereL s) (mid (rkL (zr8 16)) 160 16))).toArray) (Cl_func [.agg (cu8 (sh1L thereL s)).toArray, .agg (cu8 (mid (rkL (zr8 16)) 160 16)).toArray] Try.call73 rfl) (fun w1 hw1 => added_c (sh1L thereL s) (mid (rkL (zr8 16)) 160 16) w1 (sh1L_len _ _) hl9))) ?_
      rintro v1 L1 ⟨rfl, rfl⟩
      refine ⟨[], ?_⟩
      show DP _ _ _ _ _ _ _ _ [⟨nb2, cu8 (zr8 16), 27, (0, 0)⟩, ⟨nb3, cu8 (rkL (zr8 16)) ++ cu8 thereL ++ cu8 backL, 106, (0, 0)⟩, ⟨nb4, cu8 s, 27, (0, 0)⟩]
      refine DP_one ⟨[4, 10], [0, 1, 2, 3, 5, 6, 7, 8, 9], [0, 1, 2, 3, 5, 6, 7, 8, 9], [], [11]⟩ 11 _ rfl rfl (by decide +kernel) rfl trivial rfl (Cok_step rfl (Step_store 0 nb2 0 16 (cu8 (zr8 16)) 27 (.agg (cu8 (addL (sh1L thereL s) (mid (rkL (zr8 16)) 160 16))).toArray) (cu8 (addL (sh1L thereL s) (mid (rkL (zr8 16)) 160 16))) (cu8 (addL (sh1L thereL s) (mid (rkL (zr8 16)) 160 16))) rfl rfl rfl (by first | rfl | simp) Try.sizeOf27 (len_cu8 (addL_len (sh1L_len _ _))) (by first | exact one_u8 | exact one_u32 | exact one_u64 | (simp [cu8, cu32, cu64, Value.oneCell']; done)) (by simp [(zr8_len 16)]) (lay_whole (by simp [(zr8_len 16), (addL_len (sh1L_len _ _))])))) ?_
      rintro v1 L1 ⟨rfl, rfl⟩
      refine ⟨[], ?_⟩
      show DP _ _ _ _ _ _ _ _ [⟨nb2, cu8 (addL (sh1L thereL s) (mid (rkL (zr8 16)) 160 16)), 27, (0, 0)⟩, ⟨nb3, cu8 (rkL (zr8 16)) ++ cu8 thereL ++ cu8 backL, 106, (0, 0)⟩, ⟨nb4, cu8 s, 27, (0, 0)⟩]
      refine DP_end ⟨[4, 10, 11], [0, 1, 2, 3, 5, 6, 7, 8, 9], [0, 1, 2, 3, 5, 6, 7, 8, 9], [], []⟩ rfl rfl (by decide +kernel) rfl trivial ?_
      refine K_sub (F' := [(4, Ptr nb2 0)]) (Sub.cons (by kernel_rfl) (Sub.nil)) ?_
      show JQ _ _ _ [(4, Ptr nb2 0)] _
      refine JQ_then ?_
      refine JC_ret ?_
      refine JQ_ret (.agg (cu8 (addL (sh1L thereL s) (mid (rkL (zr8 16)) 160 16))).toArray) (res1 Try.results27 (RV_cell rfl (Ld_agg Try.isAgg27 Try.sizeOf27 (len_cu8 (addL_len (sh1L_len _ _))) (MemAt.ent 0 rfl (Seg.whole _))))) fun w1 hw1 => ?_
      have e1 : j = 9 := by omega
      subst e1
      subst hx2
      exact ⟨_, [], rfl, ⟨rfl, rfl⟩, hw1.sub (by simp) (by simp)⟩

theorem decnil_c (b : List UInt8) (w : World) (hb : b.length = 16) : Calls Try.prog 29 #[.pointer none, .agg (cu8 b).toArray] w (Post w [] (fun v L => v = .agg (cu8 (decL (rkL (zr8 16)) b)).toArray ∧ L = [])) := by
  refine enter w [] 45 [] [.pointer none, .agg (cu8 b).toArray] Try.func29 rfl rfl (by simp) (Hp.start (by simp) (by simp) (by simp)) ?_
  show JC _ _ _ [(0, .pointer none), (1, .agg (cu8 b).toArray)] _
  refine JC_seq ?_
  refine JC_region ?_
  refine JL_step (Step_box (.agg (cu8 b).toArray) (cu8 b) rfl (by first | rfl | simp)) rfl ?_
  rintro v1 L1 ⟨nb1, hnb1, rfl, rfl⟩
  show JL _ _ _ _ ((3, Ptr nb1 0) :: _) [⟨nb1, cu8 b, 27, (0, 0)⟩]
  refine JL_step (Step_alloc _ (cu8 (zr8 16)) Try.zeroValue27 (by kernel_rfl)) rfl ?_
  rintro v1 L1 ⟨nb2, hnb2, rfl, rfl⟩
  show JL _ _ _ _ ((4, Ptr nb2 0) :: _) [⟨nb1, cu8 b, 27, (0, 0)⟩, ⟨nb2, cu8 (zr8 16), 27, (0, 0)⟩]
  refine JL_nil ?_
  refine JQ_then ?_
  refine JC_seq ?_
  refine JC_region ?_
  refine JL_val _ (Ev_move rfl) rfl ?_
  refine JL_step (Step_callN 72 [.pointer none] _ (Cl_func [.pointer none] Try.call72 rfl) (fun w1 hw1 => ofnil_c w1)) rfl ?_
  rintro v1 L1 ⟨_, ⟨nb3, rfl, rfl⟩, rfl⟩
  show JL _ _ _ _ ((8, Ptr nb3 0) :: _) [⟨nb1, cu8 b, 27, (0, 0)⟩, ⟨nb2, cu8 (zr8 16), 27, (0, 0)⟩, ⟨nb3, cu8 (rkL (zr8 16)) ++ cu8 thereL ++ cu8 backL, 106, (0, 0)⟩]
  refine JL_val _ (Ev_assign rfl) rfl ?_
  refine JL_nil ?_
  refine JQ_then ?_
  refine JC_seq ?_
  have hl1 : (mid (rkL (zr8 16)) 160 16).length = 16 := mid_len (by rw [(rkL_len (zr8 16) (zr8_len 16))]; omega)
  refine JC_draw 45 5 [(0, .agg (cu8 b).toArray), (1, Ptr nb3 0), (2, Ptr nb3 0), (3, Ptr nb3 0), (4, Ptr nb3 160), (5, .agg (cu8 (mid (rkL (zr8 16)) 160 16)).toArray), (7, Ptr nb3 0), (8, Ptr nb3 0), (9, Ptr nb3 432)] Try.mixed rfl (by decide +kernel) ?_
  have hl2 : (mid (rkL (zr8 16)) 160 16).length = 16 := mid_len (by rw [(rkL_len (zr8 16) (zr8_len 16))]; omega)
  refine DP_two ⟨[], [0, 1, 2, 3, 4, 5, 7, 8, 9], [], [0, 1, 2, 3, 4, 5, 7, 8, 9], [6, 11]⟩ 6 11 _ _ rfl rfl (by decide +kernel) rfl ⟨⟨_, rfl, Qok_val rfl (Ev_load rfl (Ld_agg Try.isAgg27 Try.sizeOf27 (len_cu8 hb) (MemAt.ent 0 rfl (Seg.whole _))))⟩, ⟨_, rfl, Qok_val rfl (Ev_move rfl)⟩, ⟨_, rfl, Qok_val rfl (Ev_nilCheck rfl)⟩, ⟨_, rfl, Qok_val rfl (Ev_fieldAddr 0 103 176 Try.underlying106 rfl Try.sizeOf103 rfl rfl)⟩, ⟨_, rfl, Qok_val rfl (Ev_indexArr 11 27 16 160 Try.underlying103 Try.sizeOf27 rfl rfl (by omega) (by omega) (by omega))⟩, ⟨_, rfl, Qok_val rfl (Ev_load rfl (Ld_agg Try.isAgg27 Try.sizeOf27 (len_cu8 hl2) (MemAt.ent 2 rfl (Seg.left (Seg.left (segm_u8 160 16 (by rw [(rkL_len (zr8 16) (zr8_len 16))]; omega)))))))⟩, ⟨_, rfl, Qok_val rfl (Ev_move rfl)⟩, ⟨_, rfl, Qok_val rfl (Ev_nilCheck rfl)⟩, ⟨_, rfl, Qok_val rfl (Ev_fieldAddr 432 104 256 Try.underlying106 rfl Try.sizeOf104 rfl rfl)⟩, trivial⟩ rfl rfl (Cok_step rfl (Step_callP 73 [.agg (cu8 b).toArray, .agg (cu8 (mid (rkL (zr8 16)) 160 16)).toArray] (.agg (cu8 (addL b (mid (rkL (zr8 16)) 160 16))).toArray) (Cl_func [.agg (cu8 b).toArray, .agg (cu8 (mid (rkL (zr8 16)) 160 16)).toArray] Try.call73 rfl) (fun w1 hw1 => added_c b (mid (rkL (zr8 16)) 160 16) w1 hb hl1))) (Cok_step rfl (Step_alloc _ (cu8 (zr8 16)) Try.zeroValue27 (by kernel_rfl))) ?_ ?_
  ·
    rintro v1 L1 ⟨rfl, rfl⟩
    refine ⟨[], ?_⟩
    show DP _ _ _ _ _ _ _ _ [⟨nb1, cu8 b, 27, (0, 0)⟩, ⟨nb2, cu8 (zr8 16), 27, (0, 0)⟩, ⟨nb3, cu8 (rkL (zr8 16)) ++ cu8 thereL ++ cu8 backL, 106, (0, 0)⟩]
    refine DP_two ⟨[6], [0, 1, 2, 3, 4, 5, 7, 8, 9], [0, 1, 2, 3, 4, 5], [7, 8, 9], [10, 11]⟩ 10 11 _ _ rfl rfl (by decide +kernel) rfl ⟨⟨_, rfl, Qok_val rfl (Ev_move rfl)⟩, ⟨_, rfl, Qok_val rfl (Ev_nilCheck rfl)⟩, ⟨_, rfl, Qok_val rfl (Ev_fieldAddr 432 104 256 Try.underlying106 rfl Try.sizeOf104 rfl rfl)⟩, trivial⟩ rfl rfl (Cok_step rfl (Step_callP 75 [.agg (cu8 (addL b (mid (rkL (zr8 16)) 160 16))).toArray, Ptr nb3 432, I64 (3:Int)] (.agg (cu8 (sh3L backL (addL b (mid (rkL (zr8 16)) 160 16)))).toArray) (Cl_func [.agg (cu8 (addL b (mid (rkL (zr8 16)) 160 16))).toArray, Ptr nb3 432, I64 (3:Int)] Try.call75 rfl) (fun w1 hw1 => shifted3_c (addL b (mid (rkL (zr8 16)) 160 16)) backL nb3 432 w1 (addL_len hb) backL_len (RdA.of hw1 (MemAt.ent 2 rfl (Seg.right 432 0 (by simp [(rkL_len (zr8 16) (zr8_len 16)), thereL_len]) rfl (Seg.whole _))) (by simp [backL_len]))))) (Cok_step rfl (Step_alloc _ (cu8 (zr8 16)) Try.zeroValue27 (by kernel_rfl))) ?_ ?_
    ·
      rintro v1 L1 ⟨rfl, rfl⟩
      refine ⟨[], ?_⟩
      show DP _ _ _ _ _ _ _ _ [⟨nb1, cu8 b, 27, (0, 0)⟩, ⟨nb2, cu8 (zr8 16), 27, (0, 0)⟩, ⟨nb3, cu8 (rkL (zr8 16)) ++ cu8 thereL ++ cu8 backL, 106, (0, 0)⟩]
      refine DP_one ⟨[6, 10], [0, 1, 2, 3, 4, 5, 7, 8, 9], [0, 1, 2, 3, 4, 5, 7, 8, 9], [], [11]⟩ 11 _ rfl rfl (by decide +kernel) rfl trivial rfl (Cok_step rfl (Step_alloc _ (cu8 (zr8 16)) Try.zeroValue27 (by kernel_rfl))) ?_
      rintro v1 L1 ⟨nb6, hnb6, rfl, rfl⟩
      refine ⟨[], ?_⟩
      show DP _ _ _ _ _ _ _ _ [⟨nb1, cu8 b, 27, (0, 0)⟩, ⟨nb2, cu8 (zr8 16), 27, (0, 0)⟩, ⟨nb3, cu8 (rkL (zr8 16)) ++ cu8 thereL ++ cu8 backL, 106, (0, 0)⟩, ⟨nb6, cu8 (zr8 16), 27, (0, 0)⟩]
      refine DP_one ⟨[6, 10, 11], [0, 1, 2, 3, 4, 5, 7, 8, 9], [0, 1, 2, 3, 4, 5, 7, 8, 9], [], [12]⟩ 12 _ rfl rfl (by decide +kernel) rfl trivial rfl (Cok_step rfl (Step_store 3 nb6 0 16 (cu8 (zr8 16)) 27 (.agg (cu8 (sh3L backL (addL b (mid (rkL (zr8 16)) 160 16)))).toArray) (cu8 (sh3L backL (addL b (mid (rkL (zr8 16)) 160 16)))) (cu8 (sh3L backL (addL b (mid (rkL (zr8 16)) 160 16)))) rfl rfl rfl (by first | rfl | simp) Try.sizeOf27 (len_cu8 (sh3L_len _ _)) (by first | exact one_u8 | exact one_u32 | exact one_u64 | (simp [cu8, cu32, cu64, Value.oneCell']; done)) (by simp [(zr8_len 16)]) (lay_whole (by simp [(zr8_len 16), (sh3L_len _ _)])))) ?_
      rintro v1 L1 ⟨rfl, rfl⟩
      refine ⟨[], ?_⟩
      show DP _ _ _ _ _ _ _ _ [⟨nb1, cu8 b, 27, (0, 0)⟩, ⟨nb2, cu8 (zr8 16), 27, (0, 0)⟩, ⟨nb3, cu8 (rkL (zr8 16)) ++ cu8 thereL ++ cu8 backL, 106, (0, 0)⟩, ⟨nb6, cu8 (sh3L backL (addL b (mid (rkL (zr8 16)) 160 16))), 27, (0, 0)⟩]
      refine DP_end ⟨[6, 10, 11, 12], [0, 1, 2, 3, 4, 5, 7, 8, 9], [0, 1, 2, 3, 4, 5, 7, 8, 9], [], []⟩ rfl rfl (by decide +kernel) rfl trivial ?_
      refine K_sub (F' := [(5, Ptr nb6 0), (0, Ptr nb3 0), (4, Ptr nb2 0)]) (Sub.cons (by kernel_rfl) (Sub.cons (by kernel_rfl) (Sub.cons (by kernel_rfl) (Sub.nil)))) ?_
      show JQ _ _ _ [(5, Ptr nb6 0), (0, Ptr nb3 0), (4, Ptr nb2 0)] _
      refine JQ_then ?_
      refine JC_seq ?_
      refine JC_seq ?_
      refine JC_region ?_
      refine JL_val _ (Ev_assign rfl) rfl ?_
      refine JL_nil ?_
      refine JQ_then ?_
      refine JC_block ?_
      refine K_mask [false, true, true, true] ?_
      show JC _ _ _ _ [⟨nb2, cu8 (zr8 16), 27, (0, 0)⟩, ⟨nb3, cu8 (rkL (zr8 16)) ++ cu8 thereL ++ cu8 backL, 106, (0, 0)⟩, ⟨nb6, cu8 (sh3L backL (addL b (mid (rkL (zr8 16)) 160 16))), 27, (0, 0)⟩]
      refine JC_loop (ι := Nat × List UInt8) (fun ⟨j, s⟩ => [(0, Ptr nb3 0), (4, Ptr nb2 0), (5, Ptr nb6 0), (6, I64 ((j:Int)))]) (fun ⟨j, s⟩ => [⟨nb2, cu8 (zr8 16), 27, (0, 0)⟩, ⟨nb3, cu8 (rkL (zr8 16)) ++ cu8 thereL ++ cu8 backL, 106, (0, 0)⟩, ⟨nb6, cu8 s, 27, (0, 0)⟩]) (fun ⟨j, s⟩ => j ≤ 9 ∧ s = decN (rkL (zr8 16)) b (9 - j) ∧ s.length = 16) (fun ⟨j, s⟩ => j) (9, sh3L backL (addL b (mid (rkL (zr8 16)) 160 16))) ⟨by omega, by rw [decN], sh3L_len _ _⟩ (Sub.cons rfl (Sub.cons rfl (Sub.cons rfl (Sub.cons rfl (Sub.nil))))) rfl ?_
      rintro ⟨j, s⟩ ⟨hx1, hx2, hs⟩
      show JC _ _ _ [(0, Ptr nb3 0), (4, Ptr nb2 0), (5, Ptr nb6 0), (6, I64 ((j:Int)))] [⟨nb2, cu8 (zr8 16), 27, (0, 0)⟩, ⟨nb3, cu8 (rkL (zr8 16)) ++ cu8 thereL ++ cu8 backL, 106, (0, 0)⟩, ⟨nb6, cu8 s, 27, (0, 0)⟩]
      refine JC_seq ?_
      refine JC_seq ?_
      refine JC_region ?_
      refine JL_val _ (Ev_move rfl) rfl ?_
      refine JL_val (.bool (decide ((0:Int) < ((j:Int))))) (Ev_bini rfl rfl fun _ => bin_gtr_i _ _) rfl ?_
      refine JL_nil ?_
      refine JQ_then ?_
      refine JC_cond (decide ((0:Int) < ((j:Int)))) rfl (fun hb1 => ?_) (fun hb1 => ?_)
      ·
        have hp1 : (0:Int) < ((j:Int)) := of_decide_eq_true hb1
        refine JC_skip ?_
        refine JQ_then ?_
        refine JC_seq ?_
        refine JC_block ?_
        have hl3 : (mid (rkL (zr8 16)) (16*j) 16).length = 16 := mid_len (by rw [(rkL_len (zr8 16) (zr8_len 16))]; omega)
        refine JC_draw 45 5 [(0, .agg (cu8 s).toArray), (1, Ptr nb3 0), (2, I64 ((j:Int))), (3, Ptr nb3 0), (4, Ptr nb3 0), (5, Ptr nb3 (16*j)), (6, .agg (cu8 (mid (rkL (zr8 16)) (16*j) 16)).toArray), (8, .agg (cu8 ([(14:UInt8), (11:UInt8), (13:UInt8), (9:UInt8)])).toArray), (10, Ptr nb3 0), (11, Ptr nb3 0), (12, Ptr nb3 432)] Try.mixed rfl (by decide +kernel) ?_
        have hl4 : (mid (rkL (zr8 16)) (16*j) 16).length = 16 := mid_len (by rw [(rkL_len (zr8 16) (zr8_len 16))]; omega)
        refine DP_one ⟨[], [0, 1, 2, 3, 4, 5, 6, 8, 10, 11, 12], [], [0, 1, 2, 3, 4, 5, 6, 8, 10, 11, 12], [7]⟩ 7 _ rfl rfl (by decide +kernel) rfl ⟨⟨_, rfl, Qok_val rfl (Ev_load rfl (Ld_agg Try.isAgg27 Try.sizeOf27 (len_cu8 hs) (MemAt.ent 2 rfl (Seg.whole _))))⟩, ⟨_, rfl, Qok_val rfl (Ev_move rfl)⟩, ⟨_, rfl, Qok_val rfl (Ev_move rfl)⟩, ⟨_, rfl, Qok_val rfl (Ev_nilCheck rfl)⟩, ⟨_, rfl, Qok_val rfl (Ev_fieldAddr 0 103 176 Try.underlying106 rfl Try.sizeOf103 rfl rfl)⟩, ⟨_, rfl, Qok_val rfl (Ev_indexArr 11 27 16 (16*j) Try.underlying103 Try.sizeOf27 rfl rfl (by omega) (by omega) (by omega))⟩, ⟨_, rfl, Qok_val rfl (Ev_load rfl (Ld_agg Try.isAgg27 Try.sizeOf27 (len_cu8 hl4) (MemAt.ent 1 rfl (Seg.left (Seg.left (segm_u8 (16*j) 16 (by rw [(rkL_len (zr8 16) (zr8_len 16))]; omega)))))))⟩, ⟨_, rfl, Qok_val rfl (Ev_build [(0, U8 (14:UInt8)), (1, U8 (11:UInt8)), (2, U8 (13:UInt8)), (3, U8 (9:UInt8))] _ rfl (fun _ => by kernel_rfl))⟩, ⟨_, rfl, Qok_val rfl (Ev_move rfl)⟩, ⟨_, rfl, Qok_val rfl (Ev_nilCheck rfl)⟩, ⟨_, rfl, Qok_val rfl (Ev_fieldAddr 432 104 256 Try.underlying106 rfl Try.sizeOf104 rfl rfl)⟩, trivial⟩ rfl (Cok_step rfl (Step_callP 73 [.agg (cu8 s).toArray, .agg (cu8 (mid (rkL (zr8 16)) (16*j) 16)).toArray] (.agg (cu8 (addL s (mid (rkL (zr8 16)) (16*j) 16))).toArray) (Cl_func [.agg (cu8 s).toArray, .agg (cu8 (mid (rkL (zr8 16)) (16*j) 16)).toArray] Try.call73 rfl) (fun w1 hw1 => added_c s (mid (rkL (zr8 16)) (16*j) 16) w1 hs hl3))) ?_
        rintro v1 L1 ⟨rfl, rfl⟩
        refine ⟨[], ?_⟩
        show DP _ _ _ _ _ _ _ _ [⟨nb2, cu8 (zr8 16), 27, (0, 0)⟩, ⟨nb3, cu8 (rkL (zr8 16)) ++ cu8 thereL ++ cu8 backL, 106, (0, 0)⟩, ⟨nb6, cu8 s, 27, (0, 0)⟩]
        refine DP_one ⟨[7], [0, 1, 2, 3, 4, 5, 6, 8, 10, 11, 12], [0, 1, 2, 3, 4, 5, 6], [8, 10, 11, 12], [9]⟩ 9 _ rfl rfl (by decide +kernel) rfl ⟨⟨_, rfl, Qok_val rfl (Ev_build [(0, U8 (14:UInt8)), (1, U8 (11:UInt8)), (2, U8 (13:UInt8)), (3, U8 (9:UInt8))] _ rfl (fun _ => by kernel_rfl))⟩, ⟨_, rfl, Qok_val rfl (Ev_move rfl)⟩, ⟨_, rfl, Qok_val rfl (Ev_nilCheck rfl)⟩, ⟨_, rfl, Qok_val rfl (Ev_fieldAddr 432 104 256 Try.underlying106 rfl Try.sizeOf104 rfl rfl)⟩, trivial⟩ rfl (Cok_step rfl (Step_callP 74 [.agg (cu8 (addL s (mid (rkL (zr8 16)) (16*j) 16))).toArray, .agg (cu8 ([(14:UInt8), (11:UInt8), (13:UInt8), (9:UInt8)])).toArray] (.agg (cu8 (mixL (addL s (mid (rkL (zr8 16)) (16*j) 16)) ([(14:UInt8), (11:UInt8), (13:UInt8), (9:UInt8)]))).toArray) (Cl_func [.agg (cu8 (addL s (mid (rkL (zr8 16)) (16*j) 16))).toArray, .agg (cu8 ([(14:UInt8), (11:UInt8), (13:UInt8), (9:UInt8)])).toArray] Try.call74 rfl) (fun w1 hw1 => mixed_c (addL s (mid (rkL (zr8 16)) (16*j) 16)) ([(14:UInt8), (11:UInt8), (13:UInt8), (9:UInt8)]) w1 (addL_len hs) rfl))) ?_
        rintro v1 L1 ⟨rfl, rfl⟩
        refine ⟨[], ?_⟩
        show DP _ _ _ _ _ _ _ _ [⟨nb2, cu8 (zr8 16), 27, (0, 0)⟩, ⟨nb3, cu8 (rkL (zr8 16)) ++ cu8 thereL ++ cu8 backL, 106, (0, 0)⟩, ⟨nb6, cu8 s, 27, (0, 0)⟩]
        refine DP_one ⟨[7, 9], [0, 1, 2, 3, 4, 5, 6, 8, 10, 11, 12], [0, 1, 2, 3, 4, 5, 6, 8], [10, 11, 12], [13]⟩ 13 _ rfl rfl (by decide +kernel) rfl ⟨⟨_, rfl, Qok_val rfl (Ev_move rfl)⟩, ⟨_, rfl, Qok_val rfl (Ev_nilCheck rfl)⟩, ⟨_, rfl, Qok_val rfl (Ev_fieldAddr 432 104 256 Try.underlying106 rfl Try.sizeOf104 rfl rfl)⟩, trivial⟩ rfl (Cok_step rfl (Step_callP 75 [.agg (cu8 (mixL (addL s (mid (rkL (zr8 16)) (16*j) 16)) ([(14:UInt8), (11:UInt8), (13:UInt8), (9:UInt8)]))).toArray, Ptr nb3 432, I64 (3:Int)] (.agg (cu8 (sh3L backL (mixL (addL s (mid (rkL (zr8 16)) (16*j) 16)) ([(14:UInt8), (11:UInt8), (13:UInt8), (9:UInt8)])))).toArray) (Cl_func [.agg (cu8 (mixL (addL s (mid (rkL (zr8 16)) (16*j) 16)) ([(14:UInt8), (11:UInt8), (13:UInt8), (9:UInt8)]))).toArray, Ptr nb3 432, I64 (3:Int)] Try.call75 rfl) (fun w1 hw1 => shifted3_c (mixL (addL s (mid (rkL (zr8 16)) (16*j) 16)) ([(14:UInt8), (11:UInt8), (13:UInt8), (9:UInt8)])) backL nb3 432 w1 (mixL_len _ _) backL_len (RdA.of hw1 (MemAt.ent 1 rfl (Seg.right 432 0 (by simp [(rkL_len (zr8 16) (zr8_len 16)), thereL_len]) rfl (Seg.whole _))) (by simp [backL_len]))))) ?_
        rintro v1 L1 ⟨rfl, rfl⟩
        refine ⟨[], ?_⟩
        show DP _ _ _ _ _ _ _ _ [⟨nb2, cu8 (zr8 16), 27, (0, 0)⟩, ⟨nb3, cu8 (rkL (zr8 16)) ++ cu8 thereL ++ cu8 backL, 106, (0, 0)⟩, ⟨nb6, cu8 s, 27, (0, 0)⟩]
        refine DP_one ⟨[7, 9, 13], [0, 1, 2, 3, 4, 5, 6, 8, 10, 11, 12], [0, 1, 2, 3, 4, 5, 6, 8, 10, 11, 12], [], [14]⟩ 14 _ rfl rfl (by decide +kernel) rfl trivial rfl (Cok_step rfl (Step_store 2 nb6 0 16 (cu8 s) 27 (.agg (cu8 (sh3L backL (mixL (addL s (mid (rkL (zr8 16)) (16*j) 16)) ([(14:UInt8), (11:UInt8), (13:UInt8), (9:UInt8)])))).toArray) (cu8 (sh3L backL (mixL (addL s (mid (rkL (zr8 16)) (16*j) 16)) ([(14:UInt8), (11:UInt8), (13:UInt8), (9:UInt8)])))) (cu8 (sh3L backL (mixL (addL s (mid (rkL (zr8 16)) (16*j) 16)) ([(14:UInt8), (11:UInt8), (13:UInt8), (9:UInt8)])))) rfl rfl rfl (by first | rfl | simp) Try.sizeOf27 (len_cu8 (sh3L_len _ _)) (by first | exact one_u8 | exact one_u32 | exact one_u64 | (simp [cu8, cu32, cu64, Value.oneCell']; done)) (by simp [hs]) (lay_whole (by simp [hs, (sh3L_len _ _)])))) ?_
        rintro v1 L1 ⟨rfl, rfl⟩
        refine ⟨[], ?_⟩
        show DP _ _ _ _ _ _ _ _ [⟨nb2, cu8 (zr8 16), 27, (0, 0)⟩, ⟨nb3, cu8 (rkL (zr8 16)) ++ cu8 thereL ++ cu8 backL, 106, (0, 0)⟩, ⟨nb6, cu8 (sh3L backL (mixL (addL s (mid (rkL (zr8 16)) (16*j) 16)) ([(14:UInt8), (11:UInt8), (13:UInt8), (9:UInt8)]))), 27, (0, 0)⟩]
        refine DP_end ⟨[7, 9, 13, 14], [0, 1, 2, 3, 4, 5, 6, 8, 10, 11, 12], [0, 1, 2, 3, 4, 5, 6, 8, 10, 11, 12], [], []⟩ rfl rfl (by decide +kernel) rfl trivial ?_
        refine K_sub (F' := [(24, .agg (cu8 s).toArray), (25, Ptr nb3 0), (26, I64 ((j:Int))), (27, Ptr nb3 0), (28, Ptr nb3 0), (29, Ptr nb3 (16*j)), (30, .agg (cu8 (mid (rkL (zr8 16)) (16*j) 16)).toArray), (31, .agg (cu8 (addL s (mid (rkL (zr8 16)) (16*j) 16))).toArray), (32, .agg (cu8 ([(14:UInt8), (11:UInt8), (13:UInt8), (9:UInt8)])).toArray), (33, .agg (cu8 (mixL (addL s (mid (rkL (zr8 16)) (16*j) 16)) ([(14:UInt8), (11:UInt8), (13:UInt8), (9:UInt8)]))).toArray), (34, Ptr nb3 0), (35, Ptr nb3 0), (36, Ptr nb3 432), (37, .agg (cu8 (sh3L backL (mixL (addL s (mid (rkL (zr8 16)) (16*j) 16)) ([(14:UInt8), (11:UInt8), (13:UInt8), (9:UInt8)])))).toArray), (0, Ptr nb3 0), (4, Ptr nb2 0), (5, Ptr nb6 0), (6, I64 ((j:Int))), (20, I64 ((j:Int))), (21, .bool (decide ((0:Int) < ((j:Int)))))]) (Sub.cons (by kernel_rfl) (Sub.cons (by kernel_rfl) (Sub.cons (by kernel_rfl) (Sub.cons (by kernel_rfl) (Sub.cons (by kernel_rfl) (Sub.cons (by kernel_rfl) (Sub.cons (by kernel_rfl) (Sub.cons (by kernel_rfl) (Sub.cons (by kernel_rfl) (Sub.cons (by kernel_rfl) (Sub.cons (by kernel_rfl) (Sub.cons (by kernel_rfl) (Sub.cons (by kernel_rfl) (Sub.cons (by kernel_rfl) (Sub.cons (by kernel_rfl) (Sub.cons (by kernel_rfl) (Sub.cons (by kernel_rfl) (Sub.cons (by kernel_rfl) (Sub.cons (by kernel_rfl) (Sub.cons (by kernel_rfl) (Sub.nil))))))))))))))))))))) ?_
        show JQ _ _ _ [(24, .agg (cu8 s).toArray), (25, Ptr nb3 0), (26, I64 ((j:Int))), (27, Ptr nb3 0), (28, Ptr nb3 0), (29, Ptr nb3 (16*j)), (30, .agg (cu8 (mid (rkL (zr8 16)) (16*j) 16)).toArray), (31, .agg (cu8 (addL s (mid (rkL (zr8 16)) (16*j) 16))).toArray), (32, .agg (cu8 ([(14:UInt8), (11:UInt8), (13:UInt8), (9:UInt8)])).toArray), (33, .agg (cu8 (mixL (addL s (mid (rkL (zr8 16)) (16*j) 16)) ([(14:UInt8), (11:UInt8), (13:UInt8), (9:UInt8)]))).toArray), (34, Ptr nb3 0), (35, Ptr nb3 0), (36, Ptr nb3 432), (37, .agg (cu8 (sh3L backL (mixL (addL s (mid (rkL (zr8 16)) (16*j) 16)) ([(14:UInt8), (11:UInt8), (13:UInt8), (9:UInt8)])))).toArray), (0, Ptr nb3 0), (4, Ptr nb2 0), (5, Ptr nb6 0), (6, I64 ((j:Int))), (20, I64 ((j:Int))), (21, .bool (decide ((0:Int) < ((j:Int)))))] _
        refine JQ_in_normal ?_
        refine JQ_then ?_
        refine JC_region ?_
        refine JL_val _ (Ev_move rfl) rfl ?_
        refine JL_val (I64 ((j:Int) - 1)) (Ev_bini rfl rfl fun _ => bin_sub_i _ _ ((j:Int) - 1) (by omega) (by omega)) rfl ?_
        refine JL_val _ (Ev_assign rfl) rfl ?_
        refine JL_nil ?_
        refine JQ_thenK ?_
        refine K_next (j - 1, sh3L backL (mixL (addL s (mid (rkL (zr8 16)) (16*j) 16)) ([(14:UInt8), (11:UInt8), (13:UInt8), (9:UInt8)]))) ⟨by omega, by rw [show 9 - (j - 1) = (9 - j) + 1 from by omega, decN, ← hx2, show 9 - (9 - j) = j from by omega], (sh3L_len _ _)⟩ (by simp; omega) (Sub.cons rfl (Sub.cons rfl (Sub.cons rfl (Sub.cons (some_i64 (a := (j:Int) - 1) (by omega)) (Sub.nil))))) rfl
      ·
        have hp1 : ¬ ((0:Int) < ((j:Int))) := of_decide_eq_false hb1
        refine JC_exit ?_
        refine JQ_then_exit ?_
        refine JQ_then_exit ?_
        refine JQ_in_same ?_
        refine JQ_then ?_
        refine JC_seq ?_
        have hl5 : (mid (rkL (zr8 16)) 0 16).length = 16 := mid_len (by rw [(rkL_len (zr8 16) (zr8_len 16))]; omega)
        refine JC_draw 45 3 [(0, .agg (cu8 s).toArray), (1, Ptr nb3 0), (2, Ptr nb3 0), (3, Ptr nb3 0), (4, Ptr nb3 0), (5, .agg (cu8 (mid (rkL (zr8 16)) 0 16)).toArray)] Try.mixed rfl (by decide +kernel) ?_
        have hl6 : (mid (rkL (zr8 16)) 0 16).length = 16 := mid_len (by rw [(rkL_len (zr8 16) (zr8_len 16))]; omega)
        refine DP_one ⟨[], [0, 1, 2, 3, 4, 5], [], [0, 1, 2, 3, 4, 5], [6]⟩ 6 _ rfl rfl (by decide +kernel) rfl ⟨⟨_, rfl, Qok_val rfl (Ev_load rfl (Ld_agg Try.isAgg27 Try.sizeOf27 (len_cu8 hs) (MemAt.ent 2 rfl (Seg.whole _))))⟩, ⟨_, rfl, Qok_val rfl (Ev_move rfl)⟩, ⟨_, rfl, Qok_val rfl (Ev_nilCheck rfl)⟩, ⟨_, rfl, Qok_val rfl (Ev_fieldAddr 0 103 176 Try.underlying106 rfl Try.sizeOf103 rfl rfl)⟩, ⟨_, rfl, Qok_val rfl (Ev_indexArr 11 27 16 0 Try.underlying103 Try.sizeOf27 rfl rfl (by omega) (by omega) (by omega))⟩, ⟨_, rfl, Qok_val rfl (Ev_load rfl (Ld_agg Try.isAgg27 Try.sizeOf27 (len_cu8 hl6) (MemAt.ent 1 rfl (Seg.left (Seg.left (segm_u8 0 16 (by rw [(rkL_len (zr8 16) (zr8_len 16))]; omega)))))))⟩, trivial⟩ rfl (Cok_step rfl (Step_callP 73 [.agg (cu8 s).toArray, .agg (cu8 (mid (rkL (zr8 16)) 0 16)).toArray] (.agg (cu8 (addL s (mid (rkL (zr8 16)) 0 16))).toArray) (Cl_func [.agg (cu8 s).toArray, .agg (cu8 (mid (rkL (zr8 16)) 0 16)).toArray] Try.call73 rfl) (fun w1 hw1 => added_c s (mid (rkL (zr8 16)) 0 16) w1 hs hl5))) ?_
        rintro v1 L1 ⟨rfl, rfl⟩
        refine ⟨[], ?_⟩
        show DP _ _ _ _ _ _ _ _ [⟨nb2, cu8 (zr8 16), 27, (0, 0)⟩, ⟨nb3, cu8 (rkL (zr8 16)) ++ cu8 thereL ++ cu8 backL, 106, (0, 0)⟩, ⟨nb6, cu8 s, 27, (0, 0)⟩]
        refine DP_one ⟨[6], [0, 1, 2, 3, 4, 5], [0, 1, 2, 3, 4, 5], [], [7]⟩ 7 _ rfl rfl (by decide +kernel) rfl trivial rfl (Cok_step rfl (Step_store 0 nb2 0 16 (cu8 (zr8 16)) 27 (.agg (cu8 (addL s (mid (rkL (zr8 16)) 0 16))).toArray) (cu8 (addL s (mid (rkL (zr8 16)) 0 16))) (cu8 (addL s (mid (rkL (zr8 16)) 0 16))) rfl rfl rfl (by first | rfl | simp) Try.sizeOf27 (len_cu8 (addL_len hs)) (by first | exact one_u8 | exact one_u32 | exact one_u64 | (simp [cu8, cu32, cu64, Value.oneCell']; done)) (by simp [(zr8_len 16)]) (lay_whole (by simp [(zr8_len 16), (addL_len hs)])))) ?_
        rintro v1 L1 ⟨rfl, rfl⟩
        refine ⟨[], ?_⟩
        show DP _ _ _ _ _ _ _ _ [⟨nb2, cu8 (addL s (mid (rkL (zr8 16)) 0 16)), 27, (0, 0)⟩, ⟨nb3, cu8 (rkL (zr8 16)) ++ cu8 thereL ++ cu8 backL, 106, (0, 0)⟩, ⟨nb6, cu8 s, 27, (0, 0)⟩]
        refine DP_end ⟨[6, 7], [0, 1, 2, 3, 4, 5], [0, 1, 2, 3, 4, 5], [], []⟩ rfl rfl (by decide +kernel) rfl trivial ?_
        refine K_sub (F' := [(4, Ptr nb2 0)]) (Sub.cons (by kernel_rfl) (Sub.nil)) ?_
        show JQ _ _ _ [(4, Ptr nb2 0)] _
        refine JQ_then ?_
        refine JC_ret ?_
        refine JQ_ret (.agg (cu8 (addL s (mid (rkL (zr8 16)) 0 16))).toArray) (res1 Try.results29 (RV_cell rfl (Ld_agg Try.isAgg27 Try.sizeOf27 (len_cu8 (addL_len hs)) (MemAt.ent 0 rfl (Seg.whole _))))) fun w1 hw1 => ?_
        have e1 : j = 0 := by omega
        subst e1
        subst hx2
        exact ⟨_, [], rfl, ⟨rfl, rfl⟩, hw1.sub (by simp) (by simp)⟩
    ·
      rintro v1 L1 ⟨nb5, hnb5, rfl, rfl⟩
      refine ⟨[], ?_⟩
      show DP _ _ _ _ _ _ _ _ [⟨nb1, cu8 b, 27, (0, 0)⟩, ⟨nb2, cu8 (zr8 16), 27, (0, 0)⟩, ⟨nb3, cu8 (rkL (zr8 16)) ++ cu8 thereL ++ cu8 backL, 106, (0, 0)⟩, ⟨nb5, cu8 (zr8 16), 27, (0, 0)⟩]
      refine DP_one ⟨[6, 11], [0, 1, 2, 3, 4, 5, 7, 8, 9], [0, 1, 2, 3, 4, 5], [7, 8, 9], [10]⟩ 10 _ rfl rfl (by decide +kernel) rfl ⟨⟨_, rfl, Qok_val rfl (Ev_move rfl)⟩, ⟨_, rfl, Qok_val rfl (Ev_nilCheck rfl)⟩, ⟨_, rfl, Qok_val rfl (Ev_fieldAddr 432 104 256 Try.underlying106 rfl Try.sizeOf104 rfl rfl)⟩, trivial⟩ rfl (Cok_step rfl (Step_callP 75 [.agg (cu8 (addL b (mid (rkL (zr8 16)) 160 16))).toArray, Ptr nb3 432, I64 (3:Int)] (.agg (cu8 (sh3L backL (addL b (mid (rkL (zr8 16)) 160 16)))).toArray) (Cl_func [.agg (cu8 (addL b (mid (rkL (zr8 16)) 160 16))).toArray, Ptr nb3 432, I64 (3:Int)] Try.call75 rfl) (fun w1 hw1 => shifted3_c (addL b (mid (rkL (zr8 16)) 160 16)) backL nb3 432 w1 (addL_len hb) backL_len (RdA.of hw1 (MemAt.ent 2 rfl (Seg.right 432 0 (by simp [(rkL_len (zr8 16) (zr8_len 16)), thereL_len]) rfl (Seg.whole _))) (by simp [backL_len]))))) ?_
      rintro v1 L1 ⟨rfl, rfl⟩
      refine ⟨[], ?_⟩
      show DP _ _ _ _ _ _ _ _ [⟨nb1, cu8 b, 27, (0, 0)⟩, ⟨nb2, cu8 (zr8 16), 27, (0, 0)⟩, ⟨nb3, cu8 (rkL (zr8 16)) ++ cu8 thereL ++ cu8 backL, 106, (0, 0)⟩, ⟨nb5, cu8 (zr8 16), 27, (0, 0)⟩]
      refine DP_one ⟨[6, 11, 10], [0, 1, 2, 3, 4, 5, 7, 8, 9], [0, 1, 2, 3, 4, 5, 7, 8, 9], [], [12]⟩ 12 _ rfl rfl (by decide +kernel) rfl trivial rfl (Cok_step rfl (Step_store 3 nb5 0 16 (cu8 (zr8 16)) 27 (.agg (cu8 (sh3L backL (addL b (mid (rkL (zr8 16)) 160 16)))).toArray) (cu8 (sh3L backL (addL b (mid (rkL (zr8 16)) 160 16)))) (cu8 (sh3L backL (addL b (mid (rkL (zr8 16)) 160 16)))) rfl rfl rfl (by first | rfl | simp) Try.sizeOf27 (len_cu8 (sh3L_len _ _)) (by first | exact one_u8 | exact one_u32 | exact one_u64 | (simp [cu8, cu32, cu64, Value.oneCell']; done)) (by simp [(zr8_len 16)]) (lay_whole (by simp [(zr8_len 16), (sh3L_len _ _)])))) ?_
      rintro v1 L1 ⟨rfl, rfl⟩
      refine ⟨[], ?_⟩
      show DP _ _ _ _ _ _ _ _ [⟨nb1, cu8 b, 27, (0, 0)⟩, ⟨nb2, cu8 (zr8 16), 27, (0, 0)⟩, ⟨nb3, cu8 (rkL (zr8 16)) ++ cu8 thereL ++ cu8 backL, 106, (0, 0)⟩, ⟨nb5, cu8 (sh3L backL (addL b (mid (rkL (zr8 16)) 160 16))), 27, (0, 0)⟩]
      refine DP_end ⟨[6, 11, 10, 12], [0, 1, 2, 3, 4, 5, 7, 8, 9], [0, 1, 2, 3, 4, 5, 7, 8, 9], [], []⟩ rfl rfl (by decide +kernel) rfl trivial ?_
      refine K_sub (F' := [(5, Ptr nb5 0), (0, Ptr nb3 0), (4, Ptr nb2 0)]) (Sub.cons (by kernel_rfl) (Sub.cons (by kernel_rfl) (Sub.cons (by kernel_rfl) (Sub.nil)))) ?_
      show JQ _ _ _ [(5, Ptr nb5 0), (0, Ptr nb3 0), (4, Ptr nb2 0)] _
      refine JQ_then ?_
      refine JC_seq ?_
      refine JC_seq ?_
      refine JC_region ?_
      refine JL_val _ (Ev_assign rfl) rfl ?_
      refine JL_nil ?_
      refine JQ_then ?_
      refine JC_block ?_
      refine K_mask [false, true, true, true] ?_
      show JC _ _ _ _ [⟨nb2, cu8 (zr8 16), 27, (0, 0)⟩, ⟨nb3, cu8 (rkL (zr8 16)) ++ cu8 thereL ++ cu8 backL, 106, (0, 0)⟩, ⟨nb5, cu8 (sh3L backL (addL b (mid (rkL (zr8 16)) 160 16))), 27, (0, 0)⟩]
      refine JC_loop (ι := Nat × List UInt8) (fun ⟨j, s⟩ => [(0, Ptr nb3 0), (4, Ptr nb2 0), (5, Ptr nb5 0), (6, I64 ((j:Int)))]) (fun ⟨j, s⟩ => [⟨nb2, cu8 (zr8 16), 27, (0, 0)⟩, ⟨nb3, cu8 (rkL (zr8 16)) ++ cu8 thereL ++ cu8 backL, 106, (0, 0)⟩, ⟨nb5, cu8 s, 27, (0, 0)⟩]) (fun ⟨j, s⟩ => j ≤ 9 ∧ s = decN (rkL (zr8 16)) b (9 - j) ∧ s.length = 16) (fun ⟨j, s⟩ => j) (9, sh3L backL (addL b (mid (rkL (zr8 16)) 160 16))) ⟨by omega, by rw [decN], sh3L_len _ _⟩ (Sub.cons rfl (Sub.cons rfl (Sub.cons rfl (Sub.cons rfl (Sub.nil))))) rfl ?_
      rintro ⟨j, s⟩ ⟨hx1, hx2, hs⟩
      show JC _ _ _ [(0, Ptr nb3 0), (4, Ptr nb2 0), (5, Ptr nb5 0), (6, I64 ((j:Int)))] [⟨nb2, cu8 (zr8 16), 27, (0, 0)⟩, ⟨nb3, cu8 (rkL (zr8 16)) ++ cu8 thereL ++ cu8 backL, 106, (0, 0)⟩, ⟨nb5, cu8 s, 27, (0, 0)⟩]
      refine JC_seq ?_
      refine JC_seq ?_
      refine JC_region ?_
      refine JL_val _ (Ev_move rfl) rfl ?_
      refine JL_val (.bool (decide ((0:Int) < ((j:Int))))) (Ev_bini rfl rfl fun _ => bin_gtr_i _ _) rfl ?_
      refine JL_nil ?_
      refine JQ_then ?_
      refine JC_cond (decide ((0:Int) < ((j:Int)))) rfl (fun hb2 => ?_) (fun hb2 => ?_)
      ·
        have hp2 : (0:Int) < ((j:Int)) := of_decide_eq_true hb2
        refine JC_skip ?_
        refine JQ_then ?_
        refine JC_seq ?_
        refine JC_block ?_
        have hl7 : (mid (rkL (zr8 16)) (16*j) 16).length = 16 := mid_len (by rw [(rkL_len (zr8 16) (zr8_len 16))]; omega)
        refine JC_draw 45 5 [(0, .agg (cu8 s).toArray), (1, Ptr nb3 0), (2, I64 ((j:Int))), (3, Ptr nb3 0), (4, Ptr nb3 0), (5, Ptr nb3 (16*j)), (6, .agg (cu8 (mid (rkL (zr8 16)) (16*j) 16)).toArray), (8, .agg (cu8 ([(14:UInt8), (11:UInt8), (13:UInt8), (9:UInt8)])).toArray), (10, Ptr nb3 0), (11, Ptr nb3 0), (12, Ptr nb3 432)] Try.mixed rfl (by decide +kernel) ?_
        have hl8 : (mid (rkL (zr8 16)) (16*j) 16).length = 16 := mid_len (by rw [(rkL_len (zr8 16) (zr8_len 16))]; omega)
        refine DP_one ⟨[], [0, 1, 2, 3, 4, 5, 6, 8, 10, 11, 12], [], [0, 1, 2, 3, 4, 5, 6, 8, 10, 11, 12], [7]⟩ 7 _ rfl rfl (by decide +kernel) rfl ⟨⟨_, rfl, Qok_val rfl (Ev_load rfl (Ld_agg Try.isAgg27 Try.sizeOf27 (len_cu8 hs) (MemAt.ent 2 rfl (Seg.whole _))))⟩, ⟨_, rfl, Qok_val rfl (Ev_move rfl)⟩, ⟨_, rfl, Qok_val rfl (Ev_move rfl)⟩, ⟨_, rfl, Qok_val rfl (Ev_nilCheck rfl)⟩, ⟨_, rfl, Qok_val rfl (Ev_fieldAddr 0 103 176 Try.underlying106 rfl Try.sizeOf103 rfl rfl)⟩, ⟨_, rfl, Qok_val rfl (Ev_indexArr 11 27 16 (16*j) Try.underlying103 Try.sizeOf27 rfl rfl (by omega) (by omega) (by omega))⟩, ⟨_, rfl, Qok_val rfl (Ev_load rfl (Ld_agg Try.isAgg27 Try.sizeOf27 (len_cu8 hl8) (MemAt.ent 1 rfl (Seg.left (Seg.left (segm_u8 (16*j) 16 (by rw [(rkL_len (zr8 16) (zr8_len 16))]; omega)))))))⟩, ⟨_, rfl, Qok_val rfl (Ev_build [(0, U8 (14:UInt8)), (1, U8 (11:UInt8)), (2, U8 (13:UInt8)), (3, U8 (9:UInt8))] _ rfl (fun _ => by kernel_rfl))⟩, ⟨_, rfl, Qok_val rfl (Ev_move rfl)⟩, ⟨_, rfl, Qok_val rfl (Ev_nilCheck rfl)⟩, ⟨_, rfl, Qok_val rfl (Ev_fieldAddr 432 104 256 Try.underlying106 rfl Try.sizeOf104 rfl rfl)⟩, trivial⟩ rfl (Cok_step rfl (Step_callP 73 [.agg (cu8 s).toArray, .agg (cu8 (mid (rkL (zr8 16)) (16*j) 16)).toArray] (.agg (cu8 (addL s (mid (rkL (zr8 16)) (16*j) 16))).toArray) (Cl_func [.agg (cu8 s).toArray, .agg (cu8 (mid (rkL (zr8 16)) (16*j) 16)).toArray] Try.call73 rfl) (fun w1 hw1 => added_c s (mid (rkL (zr8 16)) (16*j) 16) w1 hs hl7))) ?_
        rintro v1 L1 ⟨rfl, rfl⟩
        refine ⟨[], ?_⟩
        show DP _ _ _ _ _ _ _ _ [⟨nb2, cu8 (zr8 16), 27, (0, 0)⟩, ⟨nb3, cu8 (rkL (zr8 16)) ++ cu8 thereL ++ cu8 backL, 106, (0, 0)⟩, ⟨nb5, cu8 s, 27, (0, 0)⟩]
        refine DP_one ⟨[7], [0, 1, 2, 3, 4, 5, 6, 8, 10, 11, 12], [0, 1, 2, 3, 4, 5, 6], [8, 10, 11, 12], [9]⟩ 9 _ rfl rfl (by decide +kernel) rfl ⟨⟨_, rfl, Qok_val rfl (Ev_build [(0, U8 (14:UInt8)), (1, U8 (11:UInt8)), (2, U8 (13:UInt8)), (3, U8 (9:UInt8))] _ rfl (fun _ => by kernel_rfl))⟩, ⟨_, rfl, Qok_val rfl (Ev_move rfl)⟩, ⟨_, rfl, Qok_val rfl (Ev_nilCheck rfl)⟩, ⟨_, rfl, Qok_val rfl (Ev_fieldAddr 432 104 256 Try.underlying106 rfl Try.sizeOf104 rfl rfl)⟩, trivial⟩ rfl (Cok_step rfl (Step_callP 74 [.agg (cu8 (addL s (mid (rkL (zr8 16)) (16*j) 16))).toArray, .agg (cu8 ([(14:UInt8), (11:UInt8), (13:UInt8), (9:UInt8)])).toArray] (.agg (cu8 (mixL (addL s (mid (rkL (zr8 16)) (16*j) 16)) ([(14:UInt8), (11:UInt8), (13:UInt8), (9:UInt8)]))).toArray) (Cl_func [.agg (cu8 (addL s (mid (rkL (zr8 16)) (16*j) 16))).toArray, .agg (cu8 ([(14:UInt8), (11:UInt8), (13:UInt8), (9:UInt8)])).toArray] Try.call74 rfl) (fun w1 hw1 => mixed_c (addL s (mid (rkL (zr8 16)) (16*j) 16)) ([(14:UInt8), (11:UInt8), (13:UInt8), (9:UInt8)]) w1 (addL_len hs) rfl))) ?_
        rintro v1 L1 ⟨rfl, rfl⟩
        refine ⟨[], ?_⟩
        show DP _ _ _ _ _ _ _ _ [⟨nb2, cu8 (zr8 16), 27, (0, 0)⟩, ⟨nb3, cu8 (rkL (zr8 16)) ++ cu8 thereL ++ cu8 backL, 106, (0, 0)⟩, ⟨nb5, cu8 s, 27, (0, 0)⟩]
        refine DP_one ⟨[7, 9], [0, 1, 2, 3, 4, 5, 6, 8, 10, 11, 12], [0, 1, 2, 3, 4, 5, 6, 8], [10, 11, 12], [13]⟩ 13 _ rfl rfl (by decide +kernel) rfl ⟨⟨_, rfl, Qok_val rfl (Ev_move rfl)⟩, ⟨_, rfl, Qok_val rfl (Ev_nilCheck rfl)⟩, ⟨_, rfl, Qok_val rfl (Ev_fieldAddr 432 104 256 Try.underlying106 rfl Try.sizeOf104 rfl rfl)⟩, trivial⟩ rfl (Cok_step rfl (Step_callP 75 [.agg (cu8 (mixL (addL s (mid (rkL (zr8 16)) (16*j) 16)) ([(14:UInt8), (11:UInt8), (13:UInt8), (9:UInt8)]))).toArray, Ptr nb3 432, I64 (3:Int)] (.agg (cu8 (sh3L backL (mixL (addL s (mid (rkL (zr8 16)) (16*j) 16)) ([(14:UInt8), (11:UInt8), (13:UInt8), (9:UInt8)])))).toArray) (Cl_func [.agg (cu8 (mixL (addL s (mid (rkL (zr8 16)) (16*j) 16)) ([(14:UInt8), (11:UInt8), (13:UInt8), (9:UInt8)]))).toArray, Ptr nb3 432, I64 (3:Int)] Try.call75 rfl) (fun w1 hw1 => shifted3_c (mixL (addL s (mid (rkL (zr8 16)) (16*j) 16)) ([(14:UInt8), (11:UInt8), (13:UInt8), (9:UInt8)])) backL nb3 432 w1 (mixL_len _ _) backL_len (RdA.of hw1 (MemAt.ent 1 rfl (Seg.right 432 0 (by simp [(rkL_len (zr8 16) (zr8_len 16)), thereL_len]) rfl (Seg.whole _))) (by simp [backL_len]))))) ?_
        rintro v1 L1 ⟨rfl, rfl⟩
        refine ⟨[], ?_⟩
        show DP _ _ _ _ _ _ _ _ [⟨nb2, cu8 (zr8 16), 27, (0, 0)⟩, ⟨nb3, cu8 (rkL (zr8 16)) ++ cu8 thereL ++ cu8 backL, 106, (0, 0)⟩, ⟨nb5, cu8 s, 27, (0, 0)⟩]
        refine DP_one ⟨[7, 9, 13], [0, 1, 2, 3, 4, 5, 6, 8, 10, 11, 12], [0, 1, 2, 3, 4, 5, 6, 8, 10, 11, 12], [], [14]⟩ 14 _ rfl rfl (by decide +kernel) rfl trivial rfl (Cok_step rfl (Step_store 2 nb5 0 16 (cu8 s) 27 (.agg (cu8 (sh3L backL (mixL (addL s (mid (rkL (zr8 16)) (16*j) 16)) ([(14:UInt8), (11:UInt8), (13:UInt8), (9:UInt8)])))).toArray) (cu8 (sh3L backL (mixL (addL s (mid (rkL (zr8 16)) (16*j) 16)) ([(14:UInt8), (11:UInt8), (13:UInt8), (9:UInt8)])))) (cu8 (sh3L backL (mixL (addL s (mid (rkL (zr8 16)) (16*j) 16)) ([(14:UInt8), (11:UInt8), (13:UInt8), (9:UInt8)])))) rfl rfl rfl (by first | rfl | simp) Try.sizeOf27 (len_cu8 (sh3L_len _ _)) (by first | exact one_u8 | exact one_u32 | exact one_u64 | (simp [cu8, cu32, cu64, Value.oneCell']; done)) (by simp [hs]) (lay_whole (by simp [hs, (sh3L_len _ _)])))) ?_
        rintro v1 L1 ⟨rfl, rfl⟩
        refine ⟨[], ?_⟩
        show DP _ _ _ _ _ _ _ _ [⟨nb2, cu8 (zr8 16), 27, (0, 0)⟩, ⟨nb3, cu8 (rkL (zr8 16)) ++ cu8 thereL ++ cu8 backL, 106, (0, 0)⟩, ⟨nb5, cu8 (sh3L backL (mixL (addL s (mid (rkL (zr8 16)) (16*j) 16)) ([(14:UInt8), (11:UInt8), (13:UInt8), (9:UInt8)]))), 27, (0, 0)⟩]
        refine DP_end ⟨[7, 9, 13, 14], [0, 1, 2, 3, 4, 5, 6, 8, 10, 11, 12], [0, 1, 2, 3, 4, 5, 6, 8, 10, 11, 12], [], []⟩ rfl rfl (by decide +kernel) rfl trivial ?_
        refine K_sub (F' := [(24, .agg (cu8 s).toArray), (25, Ptr nb3 0), (26, I64 ((j:Int))), (27, Ptr nb3 0), (28, Ptr nb3 0), (29, Ptr nb3 (16*j)), (30, .agg (cu8 (mid (rkL (zr8 16)) (16*j) 16)).toArray), (31, .agg (cu8 (addL s (mid (rkL (zr8 16)) (16*j) 16))).toArray), (32, .agg (cu8 ([(14:UInt8), (11:UInt8), (13:UInt8), (9:UInt8)])).toArray), (33, .agg (cu8 (mixL (addL s (mid (rkL (zr8 16)) (16*j) 16)) ([(14:UInt8), (11:UInt8), (13:UInt8), (9:UInt8)]))).toArray), (34, Ptr nb3 0), (35, Ptr nb3 0), (36, Ptr nb3 432), (37, .agg (cu8 (sh3L backL (mixL (addL s (mid (rkL (zr8 16)) (16*j) 16)) ([(14:UInt8), (11:UInt8), (13:UInt8), (9:UInt8)])))).toArray), (0, Ptr nb3 0), (4, Ptr nb2 0), (5, Ptr nb5 0), (6, I64 ((j:Int))), (20, I64 ((j:Int))), (21, .bool (decide ((0:Int) < ((j:Int)))))]) (Sub.cons (by kernel_rfl) (Sub.cons (by kernel_rfl) (Sub.cons (by kernel_rfl) (Sub.cons (by kernel_rfl) (Sub.cons (by kernel_rfl) (Sub.cons (by kernel_rfl) (Sub.cons (by kernel_rfl) (Sub.cons (by kernel_rfl) (Sub.cons (by kernel_rfl) (Sub.cons (by kernel_rfl) (Sub.cons (by kernel_rfl) (Sub.cons (by kernel_rfl) (Sub.cons (by kernel_rfl) (Sub.cons (by kernel_rfl) (Sub.cons (by kernel_rfl) (Sub.cons (by kernel_rfl) (Sub.cons (by kernel_rfl) (Sub.cons (by kernel_rfl) (Sub.cons (by kernel_rfl) (Sub.cons (by kernel_rfl) (Sub.nil))))))))))))))))))))) ?_
        show JQ _ _ _ [(24, .agg (cu8 s).toArray), (25, Ptr nb3 0), (26, I64 ((j:Int))), (27, Ptr nb3 0), (28, Ptr nb3 0), (29, Ptr nb3 (16*j)), (30, .agg (cu8 (mid (rkL (zr8 16)) (16*j) 16)).toArray), (31, .agg (cu8 (addL s (mid (rkL (zr8 16)) (16*j) 16))).toArray), (32, .agg (cu8 ([(14:UInt8), (11:UInt8), (13:UInt8), (9:UInt8)])).toArray), (33, .agg (cu8 (mixL (addL s (mid (rkL (zr8 16)) (16*j) 16)) ([(14:UInt8), (11:UInt8), (13:UInt8), (9:UInt8)]))).toArray), (34, Ptr nb3 0), (35, Ptr nb3 0), (36, Ptr nb3 432), (37, .agg (cu8 (sh3L backL (mixL (addL s (mid (rkL (zr8 16)) (16*j) 16)) ([(14:UInt8), (11:UInt8), (13:UInt8), (9:UInt8)])))).toArray), (0, Ptr nb3 0), (4, Ptr nb2 0), (5, Ptr nb5 0), (6, I64 ((j:Int))), (20, I64 ((j:Int))), (21, .bool (decide ((0:Int) < ((j:Int)))))] _
        refine JQ_in_normal ?_
        refine JQ_then ?_
        refine JC_region ?_
        refine JL_val _ (Ev_move rfl) rfl ?_
        refine JL_val (I64 ((j:Int) - 1)) (Ev_bini rfl rfl fun _ => bin_sub_i _ _ ((j:Int) - 1) (by omega) (by omega)) rfl ?_
        refine JL_val _ (Ev_assign rfl) rfl ?_
        refine JL_nil ?_
        refine JQ_thenK ?_
        refine K_next (j - 1, sh3L backL (mixL (addL s (mid (rkL (zr8 16)) (16*j) 16)) ([(14:UInt8), (11:UInt8), (13:UInt8), (9:UInt8)]))) ⟨by omega, by rw [show 9 - (j - 1) = (9 - j) + 1 from by omega, decN, ← hx2, show 9 - (9 - j) = j from by omega], (sh3L_len _ _)⟩ (by simp; omega) (Sub.cons rfl (Sub.cons rfl (Sub.cons rfl (Sub.cons (some_i64 (a := (j:Int) - 1) (by omega)) (Sub.nil))))) rfl
      ·
        have hp2 : ¬ ((0:Int) < ((j:Int))) := of_decide_eq_false hb2
        refine JC_exit ?_
        refine JQ_then_exit ?_
        refine JQ_then_exit ?_
        refine JQ_in_same ?_
        refine JQ_then ?_
        refine JC_seq ?_
        have hl9 : (mid (rkL (zr8 16)) 0 16).length = 16 := mid_len (by rw [(rkL_len (zr8 16) (zr8_len 16))]; omega)
        refine JC_draw 45 3 [(0, .agg (cu8 s).toArray), (1, Ptr nb3 0), (2, Ptr nb3 0), (3, Ptr nb3 0), (4, Ptr nb3 0), (5, .agg (cu8 (mid (rkL (zr8 16)) 0 16)).toArray)] Try.mixed rfl (by decide +kernel) ?_
        have hl10 : (mid (rkL (zr8 16)) 0 16).length = 16 := mid_len (by rw [(rkL_len (zr8 16) (zr8_len 16))]; omega)
        refine DP_one ⟨[], [0, 1, 2, 3, 4, 5], [], [0, 1, 2, 3, 4, 5], [6]⟩ 6 _ rfl rfl (by decide +kernel) rfl ⟨⟨_, rfl, Qok_val rfl (Ev_load rfl (Ld_agg Try.isAgg27 Try.sizeOf27 (len_cu8 hs) (MemAt.ent 2 rfl (Seg.whole _))))⟩, ⟨_, rfl, Qok_val rfl (Ev_move rfl)⟩, ⟨_, rfl, Qok_val rfl (Ev_nilCheck rfl)⟩, ⟨_, rfl, Qok_val rfl (Ev_fieldAddr 0 103 176 Try.underlying106 rfl Try.sizeOf103 rfl rfl)⟩, ⟨_, rfl, Qok_val rfl (Ev_indexArr 11 27 16 0 Try.underlying103 Try.sizeOf27 rfl rfl (by omega) (by omega) (by omega))⟩, ⟨_, rfl, Qok_val rfl (Ev_load rfl (Ld_agg Try.isAgg27 Try.sizeOf27 (len_cu8 hl10) (MemAt.ent 1 rfl (Seg.left (Seg.left (segm_u8 0 16 (by rw [(rkL_len (zr8 16) (zr8_len 16))]; omega)))))))⟩, trivial⟩ rfl (Cok_step rfl (Step_callP 73 [.agg (cu8 s).toArray, .agg (cu8 (mid (rkL (zr8 16)) 0 16)).toArray] (.agg (cu8 (addL s (mid (rkL (zr8 16)) 0 16))).toArray) (Cl_func [.agg (cu8 s).toArray, .agg (cu8 (mid (rkL (zr8 16)) 0 16)).toArray] Try.call73 rfl) (fun w1 hw1 => added_c s (mid (rkL (zr8 16)) 0 16) w1 hs hl9))) ?_
        rintro v1 L1 ⟨rfl, rfl⟩
        refine ⟨[], ?_⟩
        show DP _ _ _ _ _ _ _ _ [⟨nb2, cu8 (zr8 16), 27, (0, 0)⟩, ⟨nb3, cu8 (rkL (zr8 16)) ++ cu8 thereL ++ cu8 backL, 106, (0, 0)⟩, ⟨nb5, cu8 s, 27, (0, 0)⟩]
        refine DP_one ⟨[6], [0, 1, 2, 3, 4, 5], [0, 1, 2, 3, 4, 5], [], [7]⟩ 7 _ rfl rfl (by decide +kernel) rfl trivial rfl (Cok_step rfl (Step_store 0 nb2 0 16 (cu8 (zr8 16)) 27 (.agg (cu8 (addL s (mid (rkL (zr8 16)) 0 16))).toArray) (cu8 (addL s (mid (rkL (zr8 16)) 0 16))) (cu8 (addL s (mid (rkL (zr8 16)) 0 16))) rfl rfl rfl (by first | rfl | simp) Try.sizeOf27 (len_cu8 (addL_len hs)) (by first | exact one_u8 | exact one_u32 | exact one_u64 | (simp [cu8, cu32, cu64, Value.oneCell']; done)) (by simp [(zr8_len 16)]) (lay_whole (by simp [(zr8_len 16), (addL_len hs)])))) ?_
        rintro v1 L1 ⟨rfl, rfl⟩
        refine ⟨[], ?_⟩
        show DP _ _ _ _ _ _ _ _ [⟨nb2, cu8 (addL s (mid (rkL (zr8 16)) 0 16)), 27, (0, 0)⟩, ⟨nb3, cu8 (rkL (zr8 16)) ++ cu8 thereL ++ cu8 backL, 106, (0, 0)⟩, ⟨nb5, cu8 s, 27, (0, 0)⟩]
        refine DP_end ⟨[6, 7], [0, 1, 2, 3, 4, 5], [0, 1, 2, 3, 4, 5], [], []⟩ rfl rfl (by decide +kernel) rfl trivial ?_
        refine K_sub (F' := [(4, Ptr nb2 0)]) (Sub.cons (by kernel_rfl) (Sub.nil)) ?_
        show JQ _ _ _ [(4, Ptr nb2 0)] _
        refine JQ_then ?_
        refine JC_ret ?_
        refine JQ_ret (.agg (cu8 (addL s (mid (rkL (zr8 16)) 0 16))).toArray) (res1 Try.results29 (RV_cell rfl (Ld_agg Try.isAgg27 Try.sizeOf27 (len_cu8 (addL_len hs)) (MemAt.ent 0 rfl (Seg.whole _))))) fun w1 hw1 => ?_
        have e1 : j = 0 := by omega
        subst e1
        subst hx2
        exact ⟨_, [], rfl, ⟨rfl, rfl⟩, hw1.sub (by simp) (by simp)⟩
  ·
    rintro v1 L1 ⟨nb4, hnb4, rfl, rfl⟩
    refine ⟨[], ?_⟩
    show DP _ _ _ _ _ _ _ _ [⟨nb1, cu8 b, 27, (0, 0)⟩, ⟨nb2, cu8 (zr8 16), 27, (0, 0)⟩, ⟨nb3, cu8 (rkL (zr8 16)) ++ cu8 thereL ++ cu8 backL, 106, (0, 0)⟩, ⟨nb4, cu8 (zr8 16), 27, (0, 0)⟩]
    have hl11 : (mid (rkL (zr8 16)) 160 16).length = 16 := mid_len (by rw [(rkL_len (zr8 16) (zr8_len 16))]; omega)
    refine DP_one ⟨[11], [0, 1, 2, 3, 4, 5, 7, 8, 9], [], [0, 1, 2, 3, 4, 5, 7, 8, 9], [6]⟩ 6 _ rfl rfl (by decide +kernel) rfl ⟨⟨_, rfl, Qok_val rfl (Ev_load rfl (Ld_agg Try.isAgg27 Try.sizeOf27 (len_cu8 hb) (MemAt.ent 0 rfl (Seg.whole _))))⟩, ⟨_, rfl, Qok_val rfl (Ev_move rfl)⟩, ⟨_, rfl, Qok_val rfl (Ev_nilCheck rfl)⟩, ⟨_, rfl, Qok_val rfl (Ev_fieldAddr 0 103 176 Try.underlying106 rfl Try.sizeOf103 rfl rfl)⟩, ⟨_, rfl, Qok_val rfl (Ev_indexArr 11 27 16 160 Try.underlying103 Try.sizeOf27 rfl rfl (by omega) (by omega) (by omega))⟩, ⟨_, rfl, Qok_val rfl (Ev_load rfl (Ld_agg Try.isAgg27 Try.sizeOf27 (len_cu8 hl11) (MemAt.ent 2 rfl (Seg.left (Seg.left (segm_u8 160 16 (by rw [(rkL_len (zr8 16) (zr8_len 16))]; omega)))))))⟩, ⟨_, rfl, Qok_val rfl (Ev_move rfl)⟩, ⟨_, rfl, Qok_val rfl (Ev_nilCheck rfl)⟩, ⟨_, rfl, Qok_val rfl (Ev_fieldAddr 432 104 256 Try.underlying106 rfl Try.sizeOf104 rfl rfl)⟩, trivial⟩ rfl (Cok_step rfl (Step_callP 73 [.agg (cu8 b).toArray, .agg (cu8 (mid (rkL (zr8 16)) 160 16)).toArray] (.agg (cu8 (addL b (mid (rkL (zr8 16)) 160 16))).toArray) (Cl_func [.agg (cu8 b).toArray, .agg (cu8 (mid (rkL (zr8 16)) 160 16)).toArray] Try.call73 rfl) (fun w1 hw1 => added_c b (mid (rkL (zr8 16)) 160 16) w1 hb hl1))) ?_
    rintro v1 L1 ⟨rfl, rfl⟩
    refine ⟨[], ?_⟩
    show DP _ _ _ _ _ _ _ _ [⟨nb1, cu8 b, 27, (0, 0)⟩, ⟨nb2, cu8 (zr8 16), 27, (0, 0)⟩, ⟨nb3, cu8 (rkL (zr8 16)) ++ cu8 thereL ++ cu8 backL, 106, (0, 0)⟩, ⟨nb4, cu8 (zr8 16), 27, (0, 0)⟩]
    refine DP_one ⟨[11, 6], [0, 1, 2, 3, 4, 5, 7, 8, 9], [0, 1, 2, 3, 4, 5], [7, 8, 9], [10]⟩ 10 _ rfl rfl (by decide +kernel) rfl ⟨⟨_, rfl, Qok_val rfl (Ev_move rfl)⟩, ⟨_, rfl, Qok_val rfl (Ev_nilCheck rfl)⟩, ⟨_, rfl, Qok_val rfl (Ev_fieldAddr 432 104 256 Try.underlying106 rfl Try.sizeOf104 rfl rfl)⟩, trivial⟩ rfl (Cok_step rfl (Step_callP 75 [.agg (cu8 (addL b (mid (rkL (zr8 16)) 160 16))).toArray, Ptr nb3 432, I64 (3:Int)] (.agg (cu8 (sh3L backL (addL b (mid (rkL (zr8 16)) 160 16)))).toArray) (Cl_func [.agg (cu8 (addL b (mid (rkL (zr8 16)) 160 16))).toArray, Ptr nb3 432, I64 (3:Int)] Try.call75 rfl) (fun w1 hw1 => shifted3_c (addL b (mid (rkL (zr8 16)) 160 16)) backL nb3 432 w1 (addL_len hb) backL_len (RdA.of hw1 (MemAt.ent 2 rfl (Seg.right 432 0 (by simp [(rkL_len (zr8 16) (zr8_len 16)), thereL_len]) rfl (Seg.whole _))) (by simp [backL_len]))))) ?_
    rintro v1 L1 ⟨rfl, rfl⟩
    refine ⟨[], ?_⟩
    show DP _ _ _ _ _ _ _ _ [⟨nb1, cu8 b, 27, (0, 0)⟩, ⟨nb2, cu8 (zr8 16), 27, (0, 0)⟩, ⟨nb3, cu8 (rkL (zr8 16)) ++ cu8 thereL ++ cu8 backL, 106, (0, 0)⟩, ⟨nb4, cu8 (zr8 16), 27, (0, 0)⟩]
    refine DP_one ⟨[11, 6, 10], [0, 1, 2, 3, 4, 5, 7, 8, 9], [0, 1, 2, 3, 4, 5, 7, 8, 9], [], [12]⟩ 12 _ rfl rfl (by decide +kernel) rfl trivial rfl (Cok_step rfl (Step_store 3 nb4 0 16 (cu8 (zr8 16)) 27 (.agg (cu8 (sh3L backL (addL b (mid (rkL (zr8 16)) 160 16)))).toArray) (cu8 (sh3L backL (addL b (mid (rkL (zr8 16)) 160 16)))) (cu8 (sh3L backL (addL b (mid (rkL (zr8 16)) 160 16)))) rfl rfl rfl (by first | rfl | simp) Try.sizeOf27 (len_cu8 (sh3L_len _ _)) (by first | exact one_u8 | exact one_u32 | exact one_u64 | (simp [cu8, cu32, cu64, Value.oneCell']; done)) (by simp [(zr8_len 16)]) (lay_whole (by simp [(zr8_len 16), (sh3L_len _ _)])))) ?_
    rintro v1 L1 ⟨rfl, rfl⟩
    refine ⟨[], ?_⟩
    show DP _ _ _ _ _ _ _ _ [⟨nb1, cu8 b, 27, (0, 0)⟩, ⟨nb2, cu8 (zr8 16), 27, (0, 0)⟩, ⟨nb3, cu8 (rkL (zr8 16)) ++ cu8 thereL ++ cu8 backL, 106, (0, 0)⟩, ⟨nb4, cu8 (sh3L backL (addL b (mid (rkL (zr8 16)) 160 16))), 27, (0, 0)⟩]
    refine DP_end ⟨[11, 6, 10, 12], [0, 1, 2, 3, 4, 5, 7, 8, 9], [0, 1, 2, 3, 4, 5, 7, 8, 9], [], []⟩ rfl rfl (by decide +kernel) rfl trivial ?_
    refine K_sub (F' := [(5, Ptr nb4 0), (0, Ptr nb3 0), (4, Ptr nb2 0)]) (Sub.cons (by kernel_rfl) (Sub.cons (by kernel_rfl) (Sub.cons (by kernel_rfl) (Sub.nil)))) ?_
    show JQ _ _ _ [(5, Ptr nb4 0), (0, Ptr nb3 0), (4, Ptr nb2 0)] _
    refine JQ_then ?_
    refine JC_seq ?_
    refine JC_seq ?_
    refine JC_region ?_
    refine JL_val _ (Ev_assign rfl) rfl ?_
    refine JL_nil ?_
    refine JQ_then ?_
    refine JC_block ?_
    refine K_mask [false, true, true, true] ?_
    show JC _ _ _ _ [⟨nb2, cu8 (zr8 16), 27, (0, 0)⟩, ⟨nb3, cu8 (rkL (zr8 16)) ++ cu8 thereL ++ cu8 backL, 106, (0, 0)⟩, ⟨nb4, cu8 (sh3L backL (addL b (mid (rkL (zr8 16)) 160 16))), 27, (0, 0)⟩]
    refine JC_loop (ι := Nat × List UInt8) (fun ⟨j, s⟩ => [(0, Ptr nb3 0), (4, Ptr nb2 0), (5, Ptr nb4 0), (6, I64 ((j:Int)))]) (fun ⟨j, s⟩ => [⟨nb2, cu8 (zr8 16), 27, (0, 0)⟩, ⟨nb3, cu8 (rkL (zr8 16)) ++ cu8 thereL ++ cu8 backL, 106, (0, 0)⟩, ⟨nb4, cu8 s, 27, (0, 0)⟩]) (fun ⟨j, s⟩ => j ≤ 9 ∧ s = decN (rkL (zr8 16)) b (9 - j) ∧ s.length = 16) (fun ⟨j, s⟩ => j) (9, sh3L backL (addL b (mid (rkL (zr8 16)) 160 16))) ⟨by omega, by rw [decN], sh3L_len _ _⟩ (Sub.cons rfl (Sub.cons rfl (Sub.cons rfl (Sub.cons rfl (Sub.nil))))) rfl ?_
    rintro ⟨j, s⟩ ⟨hx1, hx2, hs⟩
    show JC _ _ _ [(0, Ptr nb3 0), (4, Ptr nb2 0), (5, Ptr nb4 0), (6, I64 ((j:Int)))] [⟨nb2, cu8 (zr8 16), 27, (0, 0)⟩, ⟨nb3, cu8 (rkL (zr8 16)) ++ cu8 thereL ++ cu8 backL, 106, (0, 0)⟩, ⟨nb4, cu8 s, 27, (0, 0)⟩]
    refine JC_seq ?_
    refine JC_seq ?_
    refine JC_region ?_
    refine JL_val _ (Ev_move rfl) rfl ?_
    refine JL_val (.bool (decide ((0:Int) < ((j:Int))))) (Ev_bini rfl rfl fun _ => bin_gtr_i _ _) rfl ?_
    refine JL_nil ?_
    refine JQ_then ?_
    refine JC_cond (decide ((0:Int) < ((j:Int)))) rfl (fun hb3 => ?_) (fun hb3 => ?_)
    ·
      have hp3 : (0:Int) < ((j:Int)) := of_decide_eq_true hb3
      refine JC_skip ?_
      refine JQ_then ?_
      refine JC_seq ?_
      refine JC_block ?_
      have hl12 : (mid (rkL (zr8 16)) (16*j) 16).length = 16 := mid_len (by rw [(rkL_len (zr8 16) (zr8_len 16))]; omega)
      refine JC_draw 45 5 [(0, .agg (cu8 s).toArray), (1, Ptr nb3 0), (2, I64 ((j:Int))), (3, Ptr nb3 0), (4, Ptr nb3 0), (5, Ptr nb3 (16*j)), (6, .agg (cu8 (mid (rkL (zr8 16)) (16*j) 16)).toArray), (8, .agg (cu8 ([(14:UInt8), (11:UInt8), (13:UInt8), (9:UInt8)])).toArray), (10, Ptr nb3 0), (11, Ptr nb3 0), (12, Ptr nb3 432)] Try.mixed rfl (by decide +kernel) ?_
      have hl13 : (mid (rkL (zr8 16)) (16*j) 16).length = 16 := mid_len (by rw [(rkL_len (zr8 16) (zr8_len 16))]; omega)
      refine DP_one ⟨[], [0, 1, 2, 3, 4, 5, 6, 8, 10, 11, 12], [], [0, 1, 2, 3, 4, 5, 6, 8, 10, 11, 12], [7]⟩ 7 _ rfl rfl (by decide +kernel) rfl ⟨⟨_, rfl, Qok_val rfl (Ev_load rfl (Ld_agg Try.isAgg27 Try.sizeOf27 (len_cu8 hs) (MemAt.ent 2 rfl (Seg.whole _))))⟩, ⟨_, rfl, Qok_val rfl (Ev_move rfl)⟩, ⟨_, rfl, Qok_val rfl (Ev_move rfl)⟩, ⟨_, rfl, Qok_val rfl (Ev_nilCheck rfl)⟩, ⟨_, rfl, Qok_val rfl (Ev_fieldAddr 0 103 176 Try.underlying106 rfl Try.sizeOf103 rfl rfl)⟩, ⟨_, rfl, Qok_val rfl (Ev_indexArr 11 27 16 (16*j) Try.underlying103 Try.sizeOf27 rfl rfl (by omega) (by omega) (by omega))⟩, ⟨_, rfl, Qok_val rfl (Ev_load rfl (Ld_agg Try.isAgg27 Try.sizeOf27 (len_cu8 hl13) (MemAt.ent 1 rfl (Seg.left (Seg.left (segm_u8 (16*j) 16 (by rw [(rkL_len (zr8 16) (zr8_len 16))]; omega)))))))⟩, ⟨_, rfl, Qok_val rfl (Ev_build [(0, U8 (14:UInt8)), (1, U8 (11:UInt8)), (2, U8 (13:UInt8)), (3, U8 (9:UInt8))] _ rfl (fun _ => by kernel_rfl))⟩, ⟨_, rfl, Qok_val rfl (Ev_move rfl)⟩, ⟨_, rfl, Qok_val rfl (Ev_nilCheck rfl)⟩, ⟨_, rfl, Qok_val rfl (Ev_fieldAddr 432 104 256 Try.underlying106 rfl Try.sizeOf104 rfl rfl)⟩, trivial⟩ rfl (Cok_step rfl (Step_callP 73 [.agg (cu8 s).toArray, .agg (cu8 (mid (rkL (zr8 16)) (16*j) 16)).toArray] (.agg (cu8 (addL s (mid (rkL (zr8 16)) (16*j) 16))).toArray) (Cl_func [.agg (cu8 s).toArray, .agg (cu8 (mid (rkL (zr8 16)) (16*j) 16)).toArray] Try.call73 rfl) (fun w1 hw1 => added_c s (mid (rkL (zr8 16)) (16*j) 16) w1 hs hl12))) ?_
      rintro v1 L1 ⟨rfl, rfl⟩
      refine ⟨[], ?_⟩
      show DP _ _ _ _ _ _ _ _ [⟨nb2, cu8 (zr8 16), 27, (0, 0)⟩, ⟨nb3, cu8 (rkL (zr8 16)) ++ cu8 thereL ++ cu8 backL, 106, (0, 0)⟩, ⟨nb4, cu8 s, 27, (0, 0)⟩]
      refine DP_one ⟨[7], [0, 1, 2, 3, 4, 5, 6, 8, 10, 11, 12], [0, 1, 2, 3, 4, 5, 6], [8, 10, 11, 12], [9]⟩ 9 _ rfl rfl (by decide +kernel) rfl ⟨⟨_, rfl, Qok_val rfl (Ev_build [(0, U8 (14:UInt8)), (1, U8 (11:UInt8)), (2, U8 (13:UInt8)), (3, U8 (9:UInt8))] _ rfl (fun _ => by kernel_rfl))⟩, ⟨_, rfl, Qok_val rfl (Ev_move rfl)⟩, ⟨_, rfl, Qok_val rfl (Ev_nilCheck rfl)⟩, ⟨_, rfl, Qok_val rfl (Ev_fieldAddr 432 104 256 Try.underlying106 rfl Try.sizeOf104 rfl rfl)⟩, trivial⟩ rfl (Cok_step rfl (Step_callP 74 [.agg (cu8 (addL s (mid (rkL (zr8 16)) (16*j) 16))).toArray, .agg (cu8 ([(14:UInt8), (11:UInt8), (13:UInt8), (9:UInt8)])).toArray] (.agg (cu8 (mixL (addL s (mid (rkL (zr8 16)) (16*j) 16)) ([(14:UInt8), (11:UInt8), (13:UInt8), (9:UInt8)]))).toArray) (Cl_func [.agg (cu8 (addL s (mid (rkL (zr8 16)) (16*j) 16))).toArray, .agg (cu8 ([(14:UInt8), (11:UInt8), (13:UInt8), (9:UInt8)])).toArray] Try.call74 rfl) (fun w1 hw1 => mixed_c (addL s (mid (rkL (zr8 16)) (16*j) 16)) ([(14:UInt8), (11:UInt8), (13:UInt8), (9:UInt8)]) w1 (addL_len hs) rfl))) ?_
      rintro v1 L1 ⟨rfl, rfl⟩
      refine ⟨[], ?_⟩
      show DP _ _ _ _ _ _ _ _ [⟨nb2, cu8 (zr8 16), 27, (0, 0)⟩, ⟨nb3, cu8 (rkL (zr8 16)) ++ cu8 thereL ++ cu8 backL, 106, (0, 0)⟩, ⟨nb4, cu8 s, 27, (0, 0)⟩]
      refine DP_one ⟨[7, 9], [0, 1, 2, 3, 4, 5, 6, 8, 10, 11, 12], [0, 1, 2, 3, 4, 5, 6, 8], [10, 11, 12], [13]⟩ 13 _ rfl rfl (by decide +kernel) rfl ⟨⟨_, rfl, Qok_val rfl (Ev_move rfl)⟩, ⟨_, rfl, Qok_val rfl (Ev_nilCheck rfl)⟩, ⟨_, rfl, Qok_val rfl (Ev_fieldAddr 432 104 256 Try.underlying106 rfl Try.sizeOf104 rfl rfl)⟩, trivial⟩ rfl (Cok_step rfl (Step_callP 75 [.agg (cu8 (mixL (addL s (mid (rkL (zr8 16)) (16*j) 16)) ([(14:UInt8), (11:UInt8), (13:UInt8), (9:UInt8)]))).toArray, Ptr nb3 432, I64 (3:Int)] (.agg (cu8 (sh3L backL (mixL (addL s (mid (rkL (zr8 16)) (16*j) 16)) ([(14:UInt8), (11:UInt8), (13:UInt8), (9:UInt8)])))).toArray) (Cl_func [.agg (cu8 (mixL (addL s (mid (rkL (zr8 16)) (16*j) 16)) ([(14:UInt8), (11:UInt8), (13:UInt8), (9:UInt8)]))).toArray, Ptr nb3 432, I64 (3:Int)] Try.call75 rfl) (fun w1 hw1 => shifted3_c (mixL (addL s (mid (rkL (zr8 16)) (16*j) 16)) ([(14:UInt8), (11:UInt8), (13:UInt8), (9:UInt8)])) backL nb3 432 w1 (mixL_len _ _) backL_len (RdA.of hw1 (MemAt.ent 1 rfl (Seg.right 432 0 (by simp [(rkL_len (zr8 16) (zr8_len 16)), thereL_len]) rfl (Seg.whole _))) (by simp [backL_len]))))) ?_
      rintro v1 L1 ⟨rfl, rfl⟩
      refine ⟨[], ?_⟩
      show DP _ _ _ _ _ _ _ _ [⟨nb2, cu8 (zr8 16), 27, (0, 0)⟩, ⟨nb3, cu8 (rkL (zr8 16)) ++ cu8 thereL ++ cu8 backL, 106, (0, 0)⟩, ⟨nb4, cu8 s, 27, (0, 0)⟩]
      refine DP_one ⟨[7, 9, 13], [0, 1, 2, 3, 4, 5, 6, 8, 10, 11, 12], [0, 1, 2, 3, 4, 5, 6, 8, 10, 11, 12], [], [14]⟩ 14 _ rfl rfl (by decide +kernel) rfl trivial rfl (Cok_step rfl (Step_store 2 nb4 0 16 (cu8 s) 27 (.agg (cu8 (sh3L backL (mixL (addL s (mid (rkL (zr8 16)) (16*j) 16)) ([(14:UInt8), (11:UInt8), (13:UInt8), (9:UInt8)])))).toArray) (cu8 (sh3L backL (mixL (addL s (mid (rkL (zr8 16)) (16*j) 16)) ([(14:UInt8), (11:UInt8), (13:UInt8), (9:UInt8)])))) (cu8 (sh3L backL (mixL (addL s (mid (rkL (zr8 16)) (16*j) 16)) ([(14:UInt8), (11:UInt8), (13:UInt8), (9:UInt8)])))) rfl rfl rfl (by first | rfl | simp) Try.sizeOf27 (len_cu8 (sh3L_len _ _)) (by first | exact one_u8 | exact one_u32 | exact one_u64 | (simp [cu8, cu32, cu64, Value.oneCell']; done)) (by simp [hs]) (lay_whole (by simp [hs, (sh3L_len _ _)])))) ?_
      rintro v1 L1 ⟨rfl, rfl⟩
      refine ⟨[], ?_⟩
      show DP _ _ _ _ _ _ _ _ [⟨nb2, cu8 (zr8 16), 27, (0, 0)⟩, ⟨nb3, cu8 (rkL (zr8 16)) ++ cu8 thereL ++ cu8 backL, 106, (0, 0)⟩, ⟨nb4, cu8 (sh3L backL (mixL (addL s (mid (rkL (zr8 16)) (16*j) 16)) ([(14:UInt8), (11:UInt8), (13:UInt8), (9:UInt8)]))), 27, (0, 0)⟩]
      refine DP_end ⟨[7, 9, 13, 14], [0, 1, 2, 3, 4, 5, 6, 8, 10, 11, 12], [0, 1, 2, 3, 4, 5, 6, 8, 10, 11, 12], [], []⟩ rfl rfl (by decide +kernel) rfl trivial ?_
      refine K_sub (F' := [(24, .agg (cu8 s).toArray), (25, Ptr nb3 0), (26, I64 ((j:Int))), (27, Ptr nb3 0), (28, Ptr nb3 0), (29, Ptr nb3 (16*j)), (30, .agg (cu8 (mid (rkL (zr8 16)) (16*j) 16)).toArray), (31, .agg (cu8 (addL s (mid (rkL (zr8 16)) (16*j) 16))).toArray), (32, .agg (cu8 ([(14:UInt8), (11:UInt8), (13:UInt8), (9:UInt8)])).toArray), (33, .agg (cu8 (mixL (addL s (mid (rkL (zr8 16)) (16*j) 16)) ([(14:UInt8), (11:UInt8), (13:UInt8), (9:UInt8)]))).toArray), (34, Ptr nb3 0), (35, Ptr nb3 0), (36, Ptr nb3 432), (37, .agg (cu8 (sh3L backL (mixL (addL s (mid (rkL (zr8 16)) (16*j) 16)) ([(14:UInt8), (11:UInt8), (13:UInt8), (9:UInt8)])))).toArray), (0, Ptr nb3 0), (4, Ptr nb2 0), (5, Ptr nb4 0), (6, I64 ((j:Int))), (20, I64 ((j:Int))), (21, .bool (decide ((0:Int) < ((j:Int)))))]) (Sub.cons (by kernel_rfl) (Sub.cons (by kernel_rfl) (Sub.cons (by kernel_rfl) (Sub.cons (by kernel_rfl) (Sub.cons (by kernel_rfl) (Sub.cons (by kernel_rfl) (Sub.cons (by kernel_rfl) (Sub.cons (by kernel_rfl) (Sub.cons (by kernel_rfl) (Sub.cons (by kernel_rfl) (Sub.cons (by kernel_rfl) (Sub.cons (by kernel_rfl) (Sub.cons (by kernel_rfl) (Sub.cons (by kernel_rfl) (Sub.cons (by kernel_rfl) (Sub.cons (by kernel_rfl) (Sub.cons (by kernel_rfl) (Sub.cons (by kernel_rfl) (Sub.cons (by kernel_rfl) (Sub.cons (by kernel_rfl) (Sub.nil))))))))))))))))))))) ?_
      show JQ _ _ _ [(24, .agg (cu8 s).toArray), (25, Ptr nb3 0), (26, I64 ((j:Int))), (27, Ptr nb3 0), (28, Ptr nb3 0), (29, Ptr nb3 (16*j)), (30, .agg (cu8 (mid (rkL (zr8 16)) (16*j) 16)).toArray), (31, .agg (cu8 (addL s (mid (rkL (zr8 16)) (16*j) 16))).toArray), (32, .agg (cu8 ([(14:UInt8), (11:UInt8), (13:UInt8), (9:UInt8)])).toArray), (33, .agg (cu8 (mixL (addL s (mid (rkL (zr8 16)) (16*j) 16)) ([(14:UInt8), (11:UInt8), (13:UInt8), (9:UInt8)]))).toArray), (34, Ptr nb3 0), (35, Ptr nb3 0), (36, Ptr nb3 432), (37, .agg (cu8 (sh3L backL (mixL (addL s (mid (rkL (zr8 16)) (16*j) 16)) ([(14:UInt8), (11:UInt8), (13:UInt8), (9:UInt8)])))).toArray), (0, Ptr nb3 0), (4, Ptr nb2 0), (5, Ptr nb4 0), (6, I64 ((j:Int))), (20, I64 ((j:Int))), (21, .bool (decide ((0:Int) < ((j:Int)))))] _
      refine JQ_in_normal ?_
      refine JQ_then ?_
      refine JC_region ?_
      refine JL_val _ (Ev_move rfl) rfl ?_
      refine JL_val (I64 ((j:Int) - 1)) (Ev_bini rfl rfl fun _ => bin_sub_i _ _ ((j:Int) - 1) (by omega) (by omega)) rfl ?_
      refine JL_val _ (Ev_assign rfl) rfl ?_
      refine JL_nil ?_
      refine JQ_thenK ?_
      refine K_next (j - 1, sh3L backL (mixL (addL s (mid (rkL (zr8 16)) (16*j) 16)) ([(14:UInt8), (11:UInt8), (13:UInt8), (9:UInt8)]))) ⟨by omega, by rw [show 9 - (j - 1) = (9 - j) + 1 from by omega, decN, ← hx2, show 9 - (9 - j) = j from by omega], (sh3L_len _ _)⟩ (by simp; omega) (Sub.cons rfl (Sub.cons rfl (Sub.cons rfl (Sub.cons (some_i64 (a := (j:Int) - 1) (by omega)) (Sub.nil))))) rfl
    ·
      have hp3 : ¬ ((0:Int) < ((j:Int))) := of_decide_eq_false hb3
      refine JC_exit ?_
      refine JQ_then_exit ?_
      refine JQ_then_exit ?_
      refine JQ_in_same ?_
      refine JQ_then ?_
      refine JC_seq ?_
      have hl14 : (mid (rkL (zr8 16)) 0 16).length = 16 := mid_len (by rw [(rkL_len (zr8 16) (zr8_len 16))]; omega)
      refine JC_draw 45 3 [(0, .agg (cu8 s).toArray), (1, Ptr nb3 0), (2, Ptr nb3 0), (3, Ptr nb3 0), (4, Ptr nb3 0), (5, .agg (cu8 (mid (rkL (zr8 16)) 0 16)).toArray)] Try.mixed rfl (by decide +kernel) ?_
      have hl15 : (mid (rkL (zr8 16)) 0 16).length = 16 := mid_len (by rw [(rkL_len (zr8 16) (zr8_len 16))]; omega)
      refine DP_one ⟨[], [0, 1, 2, 3, 4, 5], [], [0, 1, 2, 3, 4, 5], [6]⟩ 6 _ rfl rfl (by decide +kernel) rfl ⟨⟨_, rfl, Qok_val rfl (Ev_load rfl (Ld_agg Try.isAgg27 Try.sizeOf27 (len_cu8 hs) (MemAt.ent 2 rfl (Seg.whole _))))⟩, ⟨_, rfl, Qok_val rfl (Ev_move rfl)⟩, ⟨_, rfl, Qok_val rfl (Ev_nilCheck rfl)⟩, ⟨_, rfl, Qok_val rfl (Ev_fieldAddr 0 103 176 Try.underlying106 rfl Try.sizeOf103 rfl rfl)⟩, ⟨_, rfl, Qok_val rfl (Ev_indexArr 11 27 16 0 Try.underlying103 Try.sizeOf27 rfl rfl (by omega) (by omega) (by omega))⟩, ⟨_, rfl, Qok_val rfl (Ev_load rfl (Ld_agg Try.isAgg27 Try.sizeOf27 (len_cu8 hl15) (MemAt.ent 1 rfl (Seg.left (Seg.left (segm_u8 0 16 (by rw [(rkL_len (zr8 16) (zr8_len 16))]; omega)))))))⟩, trivial⟩ rfl (Cok_step rfl (Step_callP 73 [.agg (cu8 s).toArray, .agg (cu8 (mid (rkL (zr8 16)) 0 16)).toArray] (.agg (cu8 (addL s (mid (rkL (zr8 16)) 0 16))).toArray) (Cl_func [.agg (cu8 s).toArray, .agg (cu8 (mid (rkL (zr8 16)) 0 16)).toArray] Try.call73 rfl) (fun w1 hw1 => added_c s (mid (rkL (zr8 16)) 0 16) w1 hs hl14))) ?_
      rintro v1 L1 ⟨rfl, rfl⟩
      refine ⟨[], ?_⟩
      show DP _ _ _ _ _ _ _ _ [⟨nb2, cu8 (zr8 16), 27, (0, 0)⟩, ⟨nb3, cu8 (rkL (zr8 16)) ++ cu8 thereL ++ cu8 backL, 106, (0, 0)⟩, ⟨nb4, cu8 s, 27, (0, 0)⟩]
      refine DP_one ⟨[6], [0, 1, 2, 3, 4, 5], [0, 1, 2, 3, 4, 5], [], [7]⟩ 7 _ rfl rfl (by decide +kernel) rfl trivial rfl (Cok_step rfl (Step_store 0 nb2 0 16 (cu8 (zr8 16)) 27 (.agg (cu8 (addL s (mid (rkL (zr8 16)) 0 16))).toArray) (cu8 (addL s (mid (rkL (zr8 16)) 0 16))) (cu8 (addL s (mid (rkL (zr8 16)) 0 16))) rfl rfl rfl (by first | rfl | simp) Try.sizeOf27 (len_cu8 (addL_len hs)) (by first | exact one_u8 | exact one_u32 | exact one_u64 | (simp [cu8, cu32, cu64, Value.oneCell']; done)) (by simp [(zr8_len 16)]) (lay_whole (by simp [(zr8_len 16), (addL_len hs)])))) ?_
      rintro v1 L1 ⟨rfl, rfl⟩
      refine ⟨[], ?_⟩
      show DP _ _ _ _ _ _ _ _ [⟨nb2, cu8 (addL s (mid (rkL (zr8 16)) 0 16)), 27, (0, 0)⟩, ⟨nb3, cu8 (rkL (zr8 16)) ++ cu8 thereL ++ cu8 backL, 106, (0, 0)⟩, ⟨nb4, cu8 s, 27, (0, 0)⟩]
      refine DP_end ⟨[6, 7], [0, 1, 2, 3, 4, 5], [0, 1, 2, 3, 4, 5], [], []⟩ rfl rfl (by decide +kernel) rfl trivial ?_
      refine K_sub (F' := [(4, Ptr nb2 0)]) (Sub.cons (by kernel_rfl) (Sub.nil)) ?_
      show JQ _ _ _ [(4, Ptr nb2 0)] _
      refine JQ_then ?_
      refine JC_ret ?_
      refine JQ_ret (.agg (cu8 (addL s (mid (rkL (zr8 16)) 0 16))).toArray) (res1 Try.results29 (RV_cell rfl (Ld_agg Try.isAgg27 Try.sizeOf27 (len_cu8 (addL_len hs)) (MemAt.ent 0 rfl (Seg.whole _))))) fun w1 hw1 => ?_
      have e1 : j = 0 := by omega
      subst e1
      subst hx2
      exact ⟨_, [], rfl, ⟨rfl, rfl⟩, hw1.sub (by simp) (by simp)⟩

end Go.Proofs.Ytncoifiafklkjaa
