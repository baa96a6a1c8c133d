import Derived.OpenShut
import Derived.ChangeSlices
import Derived.WideShapes
import Derived.RangeFuncNested
import Derived.RangeFuncRecord
import Derived.RangeFuncLeaves
import Derived.Test.YtncoifiafklkjaaDoorPkSealBack1
namespace Go.Proofs.YtncoifiafklkjaaDoor
open Go Go.Sx
set_option linter.unusedVariables false
set_option linter.unusedSimpArgs false
set_option maxRecDepth 100000
def encN (ks b : List UInt8) : Nat → List UInt8
 | 0 => addL b (mid ks 0 16)
 | j + 1 => addL (mixL (sh1L thereL (encN ks b j)) [(2:UInt8), (3:UInt8), (1:UInt8), (1:UInt8)]) (mid ks (16*j + 16) 16)
def encL (ks b : List UInt8) : List UInt8 := addL (sh1L thereL (encN ks b 9)) (mid ks 160 16)
attribute [local irreducible] addL mixL sh1L thereL backL rkL encN mid
theorem enc_c (c : Nat) (ks : List UInt8) (b : List UInt8) (w : World) (hb : b.length = 16) (hks : ks.length = 176) (hc : w.heap[c]? = some (.cells (cu8 ks ++ cu8 thereL ++ cu8 backL).toArray 170 (0, 0))) : Calls Tryd.prog 143 #[Ptr c 0, .agg (cu8 b).toArray] w (Post w [] (fun v L => v = .agg (cu8 (encL ks b)).toArray ∧ L = [])) := by
 refine enter w [] 47 [] [Ptr c 0, .agg (cu8 b).toArray] Tryd.func143 rfl rfl (by simp) (Hp.start (by simp) (by simp) (by simp)) ?_
 show JC _ _ _ [(0, Ptr c 0), (1, .agg (cu8 b).toArray)] _
 refine JC_seq ?_
 refine JC_region ?_
 refine JL_step (Step_box (.agg (cu8 b).toArray) (cu8 b) rfl (by first | rfl | simp)) rfl ?_
 rintro v1 L1 ⟨nb1, hnb1, rfl, rfl⟩
 show JL _ _ _ _ ((3, Ptr nb1 0) :: _) [⟨nb1, cu8 b, 54, (0, 0)⟩]
 refine JL_step (Step_alloc _ (cu8 (zr8 16)) Tryd.zeroValue54 (by kernel_rfl)) rfl ?_
 rintro v1 L1 ⟨nb2, hnb2, rfl, rfl⟩
 show JL _ _ _ _ ((4, Ptr nb2 0) :: _) [⟨nb1, cu8 b, 54, (0, 0)⟩, ⟨nb2, cu8 (zr8 16), 54, (0, 0)⟩]
 refine JL_nil ?_
 refine JQ_then ?_
 refine JC_seq ?_
 refine JC_region ?_
 refine JL_val _ (Ev_move rfl) rfl ?_
 refine JL_step (Step_callP 146 [Ptr c 0] (Ptr c 0) (Cl_func [Ptr c 0] Tryd.call146 rfl) (fun w1 _ => ofsome_c c w1)) rfl ?_
 rintro v1 L1 ⟨rfl, rfl⟩
 show JL _ _ _ _ ((9, Ptr c 0) :: _) [⟨nb1, cu8 b, 54, (0, 0)⟩, ⟨nb2, cu8 (zr8 16), 54, (0, 0)⟩]
 refine JL_val _ (Ev_assign rfl) rfl ?_
 refine JL_nil ?_
 refine JQ_then ?_
 refine JC_seq ?_
 have hl1 : (mid ks 0 16).length = 16 := mid_len (by rw [hks]; omega)
 refine JC_draw 47 4 [(0, .agg (cu8 b).toArray), (1, Ptr c 0), (2, Ptr c 0), (3, Ptr c 0), (4, Ptr c 0), (5, .agg (cu8 (mid ks 0 16)).toArray)] Tryd.mixed rfl (by decide +kernel) ?_
 have hl2 : (mid ks 0 16).length = 16 := mid_len (by rw [hks]; omega)
 refine DP_two ⟨[], [0, 1, 2, 3, 4, 5], [], [0, 1, 2, 3, 4, 5], [6, 7]⟩ 6 7 _ _ rfl rfl (by decide +kernel) rfl ⟨⟨_, rfl, Qok_val rfl (Ev_load rfl (Ld_agg Tryd.isAgg54 Tryd.sizeOf54 (len_cu8 hb) (MemAt.ent 0 rfl (Seg.whole _))))⟩, ⟨_, rfl, Qok_val rfl (Ev_move rfl)⟩, ⟨_, rfl, Qok_val rfl (Ev_nilCheck rfl)⟩, ⟨_, rfl, Qok_val rfl (Ev_fieldAddr 0 167 176 Tryd.underlying170 rfl Tryd.sizeOf167 rfl rfl)⟩, ⟨_, rfl, Qok_val rfl (Ev_indexArr 11 54 16 0 Tryd.underlying167 Tryd.sizeOf54 rfl rfl (by omega) (by omega) (by omega))⟩, ⟨_, rfl, Qok_val rfl (Ev_load rfl (Ld_agg Tryd.isAgg54 Tryd.sizeOf54 (len_cu8 hl2) (MemAt.seg (MemAt.heap hc (by simp)) (Seg.left (Seg.left (segm_u8 0 16 (by rw [hks]; omega)))) (by omega))))⟩, trivial⟩ rfl rfl (Cok_step rfl (Step_callP 147 [.agg (cu8 b).toArray, .agg (cu8 (mid ks 0 16)).toArray] (.agg (cu8 (addL b (mid ks 0 16))).toArray) (Cl_func [.agg (cu8 b).toArray, .agg (cu8 (mid ks 0 16)).toArray] Tryd.call147 rfl) (fun w1 hw1 => added_c b (mid ks 0 16) w1 hb hl1))) (Cok_step rfl (Step_alloc _ (cu8 (zr8 16)) Tryd.zeroValue54 (by kernel_rfl))) ?_ ?_
 ·
  rintro v1 L1 ⟨rfl, rfl⟩
  refine ⟨[], ?_⟩
  show DP _ _ _ _ _ _ _ _ [⟨nb1, cu8 b, 54, (0, 0)⟩, ⟨nb2, cu8 (zr8 16), 54, (0, 0)⟩]
  refine DP_one ⟨[6], [0, 1, 2, 3, 4, 5], [0, 1, 2, 3, 4, 5], [], [7]⟩ 7 _ rfl rfl (by decide +kernel) rfl trivial rfl (Cok_step rfl (Step_alloc _ (cu8 (zr8 16)) Tryd.zeroValue54 (by kernel_rfl))) ?_
  rintro v1 L1 ⟨nb4, hnb4, rfl, rfl⟩
  refine ⟨[], ?_⟩
  show DP _ _ _ _ _ _ _ _ [⟨nb1, cu8 b, 54, (0, 0)⟩, ⟨nb2, cu8 (zr8 16), 54, (0, 0)⟩, ⟨nb4, cu8 (zr8 16), 54, (0, 0)⟩]
  refine DP_one ⟨[6, 7], [0, 1, 2, 3, 4, 5], [0, 1, 2, 3, 4, 5], [], [8]⟩ 8 _ rfl rfl (by decide +kernel) rfl trivial rfl (Cok_step rfl (Step_store 2 nb4 0 16 (cu8 (zr8 16)) 54 (.agg (cu8 (addL b (mid ks 0 16))).toArray) (cu8 (addL b (mid ks 0 16))) (cu8 (addL b (mid ks 0 16))) rfl rfl rfl (by first | rfl | simp) Tryd.sizeOf54 (len_cu8 (addL_len hb)) (by first | exact one_u8 | exact one_u32 | exact one_u64 | (simp [cu8, cu32, cu64, Value.oneCell']; done)) (by simp [(zr8_len 16)]) (lay_whole (by simp [(zr8_len 16), (addL_len hb)])))) ?_
  rintro v1 L1 ⟨rfl, rfl⟩
  refine ⟨[], ?_⟩
  show DP _ _ _ _ _ _ _ _ [⟨nb1, cu8 b, 54, (0, 0)⟩, ⟨nb2, cu8 (zr8 16), 54, (0, 0)⟩, ⟨nb4, cu8 (addL b (mid ks 0 16)), 54, (0, 0)⟩]
  refine DP_end ⟨[6, 7, 8], [0, 1, 2, 3, 4, 5], [0, 1, 2, 3, 4, 5], [], []⟩ rfl rfl (by decide +kernel) rfl trivial ?_
  refine K_sub (F' := [(5, Ptr nb4 0), (0, Ptr c 0), (4, Ptr nb2 0)]) (Sub.cons (by kernel_rfl) (Sub.cons (by kernel_rfl) (Sub.cons (by kernel_rfl) (Sub.nil)))) ?_
  show JQ _ _ _ [(5, Ptr nb4 0), (0, Ptr c 0), (4, Ptr nb2 0)] _
  refine JQ_then ?_
  refine JC_seq ?_
  refine JC_seq ?_
  refine JC_region ?_
  refine JL_val _ (Ev_move rfl) rfl ?_
  refine JL_val _ (Ev_nilCheck rfl) rfl ?_
  refine JL_val (Ptr c 0) (Ev_fieldAddr 0 167 176 Tryd.underlying170 rfl Tryd.sizeOf167 rfl rfl) rfl ?_
  refine JL_val (Slc c 16 9 10) (Ev_sliceA 11 54 16 1 10 16 10 Tryd.underlying167 Tryd.sizeOf54 rfl rfl rfl (by omega) (by omega) (by omega) (by omega) (by omega) 9 (by omega)) rfl ?_
  refine JL_val (I64 (9:Int)) (Ev_len Tryd.underlying196 rfl) rfl ?_
  refine JL_val _ (Ev_move rfl) rfl ?_
  refine JL_nil ?_
  refine JQ_then ?_
  refine JC_block ?_
  refine K_mask [false, true, true] ?_
  show JC _ _ _ _ [⟨nb2, cu8 (zr8 16), 54, (0, 0)⟩, ⟨nb4, cu8 (addL b (mid ks 0 16)), 54, (0, 0)⟩]
  refine JC_loop (ι := Nat × List UInt8) (fun ⟨j, s⟩ => [(0, Ptr c 0), (4, Ptr nb2 0), (5, Ptr nb4 0), (20, Slc c 16 9 10), (21, I64 (9:Int)), (22, I64 ((j:Int)))]) (fun ⟨j, s⟩ => [⟨nb2, cu8 (zr8 16), 54, (0, 0)⟩, ⟨nb4, cu8 s, 54, (0, 0)⟩]) (fun ⟨j, s⟩ => j ≤ 9 ∧ s = encN ks b j ∧ s.length = 16) (fun ⟨j, s⟩ => 9 - j) (0, addL b (mid ks 0 16)) ⟨by omega, by rw [encN], addL_len hb⟩ (Sub.cons rfl (Sub.cons rfl (Sub.cons rfl (Sub.cons rfl (Sub.cons rfl (Sub.cons rfl (Sub.nil))))))) rfl ?_
  rintro ⟨j, s⟩ ⟨hx1, hx2, hs⟩
  show JC _ _ _ [(0, Ptr c 0), (4, Ptr nb2 0), (5, Ptr nb4 0), (20, Slc c 16 9 10), (21, I64 (9:Int)), (22, I64 ((j:Int)))] [⟨nb2, cu8 (zr8 16), 54, (0, 0)⟩, ⟨nb4, cu8 s, 54, (0, 0)⟩]
  refine JC_seq ?_
  refine JC_region ?_
  refine JL_val (.bool (decide (((j:Int)) < (9:Int)))) (Ev_bini rfl rfl fun _ => bin_lss_i _ _) rfl ?_
  refine JL_nil ?_
  refine JQ_then ?_
  refine JC_seq ?_
  refine JC_cond (decide (((j:Int)) < (9:Int))) rfl (fun hb1 => ?_) (fun hb1 => ?_)
  ·
   have hp1 : ((j:Int)) < (9:Int) := of_decide_eq_true hb1
   refine JC_skip ?_
   refine JQ_then ?_
   refine JC_seq ?_
   refine JC_block ?_
   refine JC_seq ?_
   refine JC_region ?_
   refine JL_val (Ptr c (16*j + 16)) (Ev_indexSl 54 16 (16*j + 16) Tryd.underlying196 Tryd.sizeOf54 rfl rfl (by omega) (by omega) (by omega)) rfl ?_
   have hl3 : (mid ks (16*j + 16) 16).length = 16 := mid_len (by rw [hks]; omega)
   refine JL_val (.agg (cu8 (mid ks (16*j + 16) 16)).toArray) (Ev_load rfl (Ld_agg Tryd.isAgg54 Tryd.sizeOf54 (len_cu8 hl3) (MemAt.seg (MemAt.heap hc (by simp)) (Seg.left (Seg.left (segm_u8 (16*j + 16) 16 (by rw [hks]; omega)))) (by omega)))) rfl ?_
   refine JL_step (Step_alloc _ (cu8 (zr8 16)) Tryd.zeroValue54 (by kernel_rfl)) rfl ?_
   rintro v1 L1 ⟨nb5, hnb5, rfl, rfl⟩
   show JL _ _ _ _ ((7, Ptr nb5 0) :: _) [⟨nb2, cu8 (zr8 16), 54, (0, 0)⟩, ⟨nb4, cu8 s, 54, (0, 0)⟩, ⟨nb5, cu8 (zr8 16), 54, (0, 0)⟩]
   refine JL_step (Step_store 2 nb5 0 16 (cu8 (zr8 16)) 54 (.agg (cu8 (mid ks (16*j + 16) 16)).toArray) (cu8 (mid ks (16*j + 16) 16)) (cu8 (mid ks (16*j + 16) 16)) rfl rfl rfl (by first | rfl | simp) Tryd.sizeOf54 (len_cu8 hl3) (by first | exact one_u8 | exact one_u32 | exact one_u64 | (simp [cu8, cu32, cu64, Value.oneCell']; done)) (by simp [(zr8_len 16)]) (lay_whole (by simp [(zr8_len 16), hl3]))) rfl ?_
   rintro v1 L1 ⟨rfl, rfl⟩
   show JL _ _ _ _ _ [⟨nb2, cu8 (zr8 16), 54, (0, 0)⟩, ⟨nb4, cu8 s, 54, (0, 0)⟩, ⟨nb5, cu8 (mid ks (16*j + 16) 16), 54, (0, 0)⟩]
   refine JL_nil ?_
   refine JQ_then ?_
   refine JC_draw 47 5 [(0, .agg (cu8 s).toArray), (1, Ptr c 0), (2, Ptr c 0), (3, Ptr c 176), (5, .agg (cu8 ([(2:UInt8), (3:UInt8), (1:UInt8), (1:UInt8)])).toArray), (7, .agg (cu8 (mid ks (16*j + 16) 16)).toArray)] Tryd.mixed rfl (by decide +kernel) ?_
   refine DP_one ⟨[], [0, 1, 2, 3, 5, 7], [], [0, 1, 2, 3, 5, 7], [4]⟩ 4 _ rfl rfl (by decide +kernel) rfl ⟨⟨_, rfl, Qok_val rfl (Ev_load rfl (Ld_agg Tryd.isAgg54 Tryd.sizeOf54 (len_cu8 hs) (MemAt.ent 1 rfl (Seg.whole _))))⟩, ⟨_, rfl, Qok_val rfl (Ev_move rfl)⟩, ⟨_, rfl, Qok_val rfl (Ev_nilCheck rfl)⟩, ⟨_, rfl, Qok_val rfl (Ev_fieldAddr 176 168 256 Tryd.underlying170 rfl Tryd.sizeOf168 rfl rfl)⟩, ⟨_, rfl, Qok_val rfl (Ev_build [(0, U8 (2:UInt8)), (1, U8 (3:UInt8)), (2, U8 (1:UInt8)), (3, U8 (1:UInt8))] _ rfl (fun _ => by kernel_rfl))⟩, ⟨_, rfl, Qok_val rfl (Ev_load rfl (Ld_agg Tryd.isAgg54 Tryd.sizeOf54 (len_cu8 hl3) (MemAt.ent 2 rfl (Seg.whole _))))⟩, trivial⟩ rfl (Cok_step rfl (Step_callP 149 [.agg (cu8 s).toArray, Ptr c 176, I64 (1:Int)] (.agg (cu8 (sh1L thereL s)).toArray) (Cl_func [.agg (cu8 s).toArray, Ptr c 176, I64 (1:Int)] Tryd.call149 rfl) (fun w1 hw1 => shifted1_c s thereL c 176 w1 hs thereL_len (RdA.of hw1 (MemAt.seg (MemAt.heap hc (by simp)) (Seg.left (Seg.right 176 0 (by simp [hks]) rfl (Seg.whole _))) (by omega)) (by simp [thereL_len]))))) ?_
   rintro v1 L1 ⟨rfl, rfl⟩
   refine ⟨[], ?_⟩
   show DP _ _ _ _ _ _ _ _ [⟨nb2, cu8 (zr8 16), 54, (0, 0)⟩, ⟨nb4, cu8 s, 54, (0, 0)⟩, ⟨nb5, cu8 (mid ks (16*j + 16) 16), 54, (0, 0)⟩]
   refine DP_one ⟨[4], [0, 1, 2, 3, 5, 7], [0, 1, 2, 3], [5, 7], [6]⟩ 6 _ rfl rfl (by decide +kernel) rfl ⟨⟨_, rfl, Qok_val rfl (Ev_build [(0, U8 (2:UInt8)), (1, U8 (3:UInt8)), (2, U8 (1:UInt8)), (3, U8 (1:UInt8))] _ rfl (fun _ => by kernel_rfl))⟩, ⟨_, rfl, Qok_val rfl (Ev_load rfl (Ld_agg Tryd.isAgg54 Tryd.sizeOf54 (len_cu8 hl3) (MemAt.ent 2 rfl (Seg.whole _))))⟩, trivial⟩ rfl (Cok_step rfl (Step_callP 148 [.agg (cu8 (sh1L thereL s)).toArray, .agg (cu8 ([(2:UInt8), (3:UInt8), (1:UInt8), (1:UInt8)])).toArray] (.agg (cu8 (mixL (sh1L thereL s) ([(2:UInt8), (3:UInt8), (1:UInt8), (1:UInt8)]))).toArray) (Cl_func [.agg (cu8 (sh1L thereL s)).toArray, .agg (cu8 ([(2:UInt8), (3:UInt8), (1:UInt8), (1:UInt8)])).toArray] Tryd.call148 rfl) (fun w1 hw1 => mixed_c (sh1L thereL s) ([(2:UInt8), (3:UInt8), (1:UInt8), (1:UInt8)]) w1 (sh1L_len _ _) rfl))) ?_
   rintro v1 L1 ⟨rfl, rfl⟩
   refine ⟨[], ?_⟩
   show DP _ _ _ _ _ _ _ _ [⟨nb2, cu8 (zr8 16), 54, (0, 0)⟩, ⟨nb4, cu8 s, 54, (0, 0)⟩, ⟨nb5, cu8 (mid ks (16*j + 16) 16), 54, (0, 0)⟩]
   refine DP_one ⟨[4, 6], [0, 1, 2, 3, 5, 7], [0, 1, 2, 3, 5], [7], [8]⟩ 8 _ rfl rfl (by decide +kernel) rfl ⟨⟨_, rfl, Qok_val rfl (Ev_load rfl (Ld_agg Tryd.isAgg54 Tryd.sizeOf54 (len_cu8 hl3) (MemAt.ent 2 rfl (Seg.whole _))))⟩, trivial⟩ rfl (Cok_step rfl (Step_callP 147 [.agg (cu8 (mixL (sh1L thereL s) ([(2:UInt8), (3:UInt8), (1:UInt8), (1:UInt8)]))).toArray, .agg (cu8 (mid ks (16*j + 16) 16)).toArray] (.agg (cu8 (addL (mixL (sh1L thereL s) ([(2:UInt8), (3:UInt8), (1:UInt8), (1:UInt8)])) (mid ks (16*j + 16) 16))).toArray) (Cl_func [.agg (cu8 (mixL (sh1L thereL s) ([(2:UInt8), (3:UInt8), (1:UInt8), (1:UInt8)]))).toArray, .agg (cu8 (mid ks (16*j + 16) 16)).toArray] Tryd.call147 rfl) (fun w1 hw1 => added_c (mixL (sh1L thereL s) ([(2:UInt8), (3:UInt8), (1:UInt8), (1:UInt8)])) (mid ks (16*j + 16) 16) w1 (mixL_len _ _) hl3))) ?_
   rintro v1 L1 ⟨rfl, rfl⟩
   refine ⟨[], ?_⟩
   show DP _ _ _ _ _ _ _ _ [⟨nb2, cu8 (zr8 16), 54, (0, 0)⟩, ⟨nb4, cu8 s, 54, (0, 0)⟩, ⟨nb5, cu8 (mid ks (16*j + 16) 16), 54, (0, 0)⟩]
   refine DP_one ⟨[4, 6, 8], [0, 1, 2, 3, 5, 7], [0, 1, 2, 3, 5, 7], [], [9]⟩ 9 _ rfl rfl (by decide +kernel) rfl trivial rfl (Cok_step rfl (Step_store 1 nb4 0 16 (cu8 s) 54 (.agg (cu8 (addL (mixL (sh1L thereL s) ([(2:UInt8), (3:UInt8), (1:UInt8), (1:UInt8)])) (mid ks (16*j + 16) 16))).toArray) (cu8 (addL (mixL (sh1L thereL s) ([(2:UInt8), (3:UInt8), (1:UInt8), (1:UInt8)])) (mid ks (16*j + 16) 16))) (cu8 (addL (mixL (sh1L thereL s) ([(2:UInt8), (3:UInt8), (1:UInt8), (1:UInt8)])) (mid ks (16*j + 16) 16))) rfl rfl rfl (by first | rfl | simp) Tryd.sizeOf54 (len_cu8 (addL_len (mixL_len _ _))) (by first | exact one_u8 | exact one_u32 | exact one_u64 | (simp [cu8, cu32, cu64, Value.oneCell']; done)) (by simp [hs]) (lay_whole (by simp [hs, (addL_len (mixL_len _ _))])))) ?_
   rintro v1 L1 ⟨rfl, rfl⟩
   refine ⟨[], ?_⟩
   show DP _ _ _ _ _ _ _ _ [⟨nb2, cu8 (zr8 16), 54, (0, 0)⟩, ⟨nb4, cu8 (addL (mixL (sh1L thereL s) ([(2:UInt8), (3:UInt8), (1:UInt8), (1:UInt8)])) (mid ks (16*j + 16) 16)), 54, (0, 0)⟩, ⟨nb5, cu8 (mid ks (16*j + 16) 16), 54, (0, 0)⟩]
   refine DP_end ⟨[4, 6, 8, 9], [0, 1, 2, 3, 5, 7], [0, 1, 2, 3, 5, 7], [], []⟩ rfl rfl (by decide +kernel) rfl trivial ?_
   refine K_sub (F' := [(26, .agg (cu8 s).toArray), (27, Ptr c 0), (28, Ptr c 0), (29, Ptr c 176), (30, .agg (cu8 (sh1L thereL s)).toArray), (31, .agg (cu8 ([(2:UInt8), (3:UInt8), (1:UInt8), (1:UInt8)])).toArray), (32, .agg (cu8 (mixL (sh1L thereL s) ([(2:UInt8), (3:UInt8), (1:UInt8), (1:UInt8)]))).toArray), (33, .agg (cu8 (mid ks (16*j + 16) 16)).toArray), (34, .agg (cu8 (addL (mixL (sh1L thereL s) ([(2:UInt8), (3:UInt8), (1:UInt8), (1:UInt8)])) (mid ks (16*j + 16) 16))).toArray), (0, Ptr c 0), (4, Ptr nb2 0), (5, Ptr nb4 0), (20, Slc c 16 9 10), (21, I64 (9:Int)), (22, I64 ((j:Int))), (23, .bool (decide (((j:Int)) < (9:Int)))), (24, Ptr c (16*j + 16)), (25, .agg (cu8 (mid ks (16*j + 16) 16)).toArray), (7, Ptr nb5 0)]) (Sub.cons (by kernel_rfl) (Sub.cons (by kernel_rfl) (Sub.cons (by kernel_rfl) (Sub.cons (by kernel_rfl) (Sub.cons (by kernel_rfl) (Sub.cons (by kernel_rfl) (Sub.cons (by kernel_rfl) (Sub.cons (by kernel_rfl) (Sub.cons (by kernel_rfl) (Sub.cons (by kernel_rfl) (Sub.cons (by kernel_rfl) (Sub.cons (by kernel_rfl) (Sub.cons (by kernel_rfl) (Sub.cons (by kernel_rfl) (Sub.cons (by kernel_rfl) (Sub.cons (by kernel_rfl) (Sub.cons (by kernel_rfl) (Sub.cons (by kernel_rfl) (Sub.cons (by kernel_rfl) (Sub.nil)))))))))))))))))))) ?_
   show JQ _ _ _ [(26, .agg (cu8 s).toArray), (27, Ptr c 0), (28, Ptr c 0), (29, Ptr c 176), (30, .agg (cu8 (sh1L thereL s)).toArray), (31, .agg (cu8 ([(2:UInt8), (3:UInt8), (1:UInt8), (1:UInt8)])).toArray), (32, .agg (cu8 (mixL (sh1L thereL s) ([(2:UInt8), (3:UInt8), (1:UInt8), (1:UInt8)]))).toArray), (33, .agg (cu8 (mid ks (16*j + 16) 16)).toArray), (34, .agg (cu8 (addL (mixL (sh1L thereL s) ([(2:UInt8), (3:UInt8), (1:UInt8), (1:UInt8)])) (mid ks (16*j + 16) 16))).toArray), (0, Ptr c 0), (4, Ptr nb2 0), (5, Ptr nb4 0), (20, Slc c 16 9 10), (21, I64 (9:Int)), (22, I64 ((j:Int))), (23, .bool (decide (((j:Int)) < (9:Int)))), (24, Ptr c (16*j + 16)), (25, .agg (cu8 (mid ks (16*j + 16) 16)).toArray), (7, Ptr nb5 0)] _
   refine JQ_in_normal ?_
   refine JQ_then ?_
   refine JC_region ?_
   refine JL_val (I64 ((j:Int) + 1)) (Ev_bini rfl rfl fun _ => bin_add_i _ _ ((j:Int) + 1) (by omega) (by omega)) rfl ?_
   refine JL_val _ (Ev_move rfl) rfl ?_
   refine JL_nil ?_
   refine JQ_thenK ?_
   refine K_mask [true, true, false] ?_
   show K _ _ [⟨nb2, cu8 (zr8 16), 54, (0, 0)⟩, ⟨nb4, cu8 (addL (mixL (sh1L thereL s) ([(2:UInt8), (3:UInt8), (1:UInt8), (1:UInt8)])) (mid ks (16*j + 16) 16)), 54, (0, 0)⟩] _
   refine K_next (j + 1, addL (mixL (sh1L thereL s) ([(2:UInt8), (3:UInt8), (1:UInt8), (1:UInt8)])) (mid ks (16*j + 16) 16)) ⟨by omega, by rw [encN, ← hx2], (addL_len (mixL_len _ _))⟩ (by first | (simp; omega) | simp | (dsimp only; omega) | omega) (Sub.cons rfl (Sub.cons rfl (Sub.cons rfl (Sub.cons rfl (Sub.cons rfl (Sub.cons rfl (Sub.nil))))))) rfl
  ·
   have hp1 : ¬ (((j:Int)) < (9:Int)) := of_decide_eq_false hb1
   refine JC_exit ?_
   refine JQ_then_exit ?_
   refine JQ_then_exit ?_
   refine JQ_in_same ?_
   refine JQ_then ?_
   refine JC_seq ?_
   have hl4 : (mid ks 160 16).length = 16 := mid_len (by rw [hks]; omega)
   refine JC_draw 47 4 [(0, .agg (cu8 s).toArray), (1, Ptr c 0), (2, Ptr c 0), (3, Ptr c 176), (5, Ptr c 0), (6, Ptr c 0), (7, Ptr c 0), (8, Ptr c 160), (9, .agg (cu8 (mid ks 160 16)).toArray)] Tryd.mixed rfl (by decide +kernel) ?_
   have hl5 : (mid ks 160 16).length = 16 := mid_len (by rw [hks]; omega)
   refine DP_one ⟨[], [0, 1, 2, 3, 5, 6, 7, 8, 9], [], [0, 1, 2, 3, 5, 6, 7, 8, 9], [4]⟩ 4 _ rfl rfl (by decide +kernel) rfl ⟨⟨_, rfl, Qok_val rfl (Ev_load rfl (Ld_agg Tryd.isAgg54 Tryd.sizeOf54 (len_cu8 hs) (MemAt.ent 1 rfl (Seg.whole _))))⟩, ⟨_, rfl, Qok_val rfl (Ev_move rfl)⟩, ⟨_, rfl, Qok_val rfl (Ev_nilCheck rfl)⟩, ⟨_, rfl, Qok_val rfl (Ev_fieldAddr 176 168 256 Tryd.underlying170 rfl Tryd.sizeOf168 rfl rfl)⟩, ⟨_, rfl, Qok_val rfl (Ev_move rfl)⟩, ⟨_, rfl, Qok_val rfl (Ev_nilCheck rfl)⟩, ⟨_, rfl, Qok_val rfl (Ev_fieldAddr 0 167 176 Tryd.underlying170 rfl Tryd.sizeOf167 rfl rfl)⟩, ⟨_, rfl, Qok_val rfl (Ev_indexArr 11 54 16 160 Tryd.underlying167 Tryd.sizeOf54 rfl rfl (by omega) (by omega) (by omega))⟩, ⟨_, rfl, Qok_val rfl (Ev_load rfl (Ld_agg Tryd.isAgg54 Tryd.sizeOf54 (len_cu8 hl5) (MemAt.seg (MemAt.heap hc (by simp)) (Seg.left (Seg.left (segm_u8 160 16 (by rw [hks]; omega)))) (by omega))))⟩, trivial⟩ rfl (Cok_step rfl (Step_callP 149 [.agg (cu8 s).toArray, Ptr c 176, I64 (1:Int)] (.agg (cu8 (sh1L thereL s)).toArray) (Cl_func [.agg (cu8 s).toArray, Ptr c 176, I64 (1:Int)] Tryd.call149 rfl) (fun w1 hw1 => shifted1_c s thereL c 176 w1 hs thereL_len (RdA.of hw1 (MemAt.seg (MemAt.heap hc (by simp)) (Seg.left (Seg.right 176 0 (by simp [hks]) rfl (Seg.whole _))) (by omega)) (by simp [thereL_len]))))) ?_
   rintro v1 L1 ⟨rfl, rfl⟩
   refine ⟨[], ?_⟩
   show DP _ _ _ _ _ _ _ _ [⟨nb2, cu8 (zr8 16), 54, (0, 0)⟩, ⟨nb4, cu8 s, 54, (0, 0)⟩]
   have hl6 : (mid ks 160 16).length = 16 := mid_len (by rw [hks]; omega)
   refine DP_one ⟨[4], [0, 1, 2, 3, 5, 6, 7, 8, 9], [0, 1, 2, 3], [5, 6, 7, 8, 9], [10]⟩ 10 _ rfl rfl (by decide +kernel) rfl ⟨⟨_, rfl, Qok_val rfl (Ev_move rfl)⟩, ⟨_, rfl, Qok_val rfl (Ev_nilCheck rfl)⟩, ⟨_, rfl, Qok_val rfl (Ev_fieldAddr 0 167 176 Tryd.underlying170 rfl Tryd.sizeOf167 rfl rfl)⟩, ⟨_, rfl, Qok_val rfl (Ev_indexArr 11 54 16 160 Tryd.underlying167 Tryd.sizeOf54 rfl rfl (by omega) (by omega) (by omega))⟩, ⟨_, rfl, Qok_val rfl (Ev_load rfl (Ld_agg Tryd.isAgg54 Tryd.sizeOf54 (len_cu8 hl6) (MemAt.seg (MemAt.heap hc (by simp)) (Seg.left (Seg.left (segm_u8 160 16 (by rw [hks]; omega)))) (by omega))))⟩, trivial⟩ rfl (Cok_step rfl (Step_callP 147 [.agg (cu8 (sh1L thereL s)).toArray, .agg (cu8 (mid ks 160 16)).toArray] (.agg (cu8 (addL (sh1L thereL s) (mid ks 160 16))).toArray) (Cl_func [.agg (cu8 (sh1L thereL s)).toArray, .agg (cu8 (mid ks 160 16)).toArray] Tryd.call147 rfl) (fun w1 hw1 => added_c (sh1L thereL s) (mid ks 160 16) w1 (sh1L_len _ _) hl4))) ?_
   rintro v1 L1 ⟨rfl, rfl⟩
   refine ⟨[], ?_⟩
   show DP _ _ _ _ _ _ _ _ [⟨nb2, cu8 (zr8 16), 54, (0, 0)⟩, ⟨nb4, cu8 s, 54, (0, 0)⟩]
   refine DP_one ⟨[4, 10], [0, 1, 2, 3, 5, 6, 7, 8, 9], [0, 1, 2, 3, 5, 6, 7, 8, 9], [], [11]⟩ 11 _ rfl rfl (by decide +kernel) rfl trivial rfl (Cok_step rfl (Step_store 0 nb2 0 16 (cu8 (zr8 16)) 54 (.agg (cu8 (addL (sh1L thereL s) (mid ks 160 16))).toArray) (cu8 (addL (sh1L thereL s) (mid ks 160 16))) (cu8 (addL (sh1L thereL s) (mid ks 160 16))) rfl rfl rfl (by first | rfl | simp) Tryd.sizeOf54 (len_cu8 (addL_len (sh1L_len _ _))) (by first | exact one_u8 | exact one_u32 | exact one_u64 | (simp [cu8, cu32, cu64, Value.oneCell']; done)) (by simp [(zr8_len 16)]) (lay_whole (by simp [(zr8_len 16), (addL_len (sh1L_len _ _))])))) ?_
   rintro v1 L1 ⟨rfl, rfl⟩
   refine ⟨[], ?_⟩
   show DP _ _ _ _ _ _ _ _ [⟨nb2, cu8 (addL (sh1L thereL s) (mid ks 160 16)), 54, (0, 0)⟩, ⟨nb4, cu8 s, 54, (0, 0)⟩]
   refine DP_end ⟨[4, 10, 11], [0, 1, 2, 3, 5, 6, 7, 8, 9], [0, 1, 2, 3, 5, 6, 7, 8, 9], [], []⟩ rfl rfl (by decide +kernel) rfl trivial ?_
   refine K_sub (F' := [(4, Ptr nb2 0)]) (Sub.cons (by kernel_rfl) (Sub.nil)) ?_
   show JQ _ _ _ [(4, Ptr nb2 0)] _
   refine JQ_then ?_
   refine JC_ret ?_
   refine JQ_ret (.agg (cu8 (addL (sh1L thereL s) (mid ks 160 16))).toArray) (res1 Tryd.results143 (RV_cell rfl (Ld_agg Tryd.isAgg54 Tryd.sizeOf54 (len_cu8 (addL_len (sh1L_len _ _))) (MemAt.ent 0 rfl (Seg.whole _))))) fun w1 hw1 => ?_
   have e1 : j = 9 := by omega
   subst e1
   subst hx2
   exact ⟨_, [], rfl, ⟨rfl, rfl⟩, hw1.sub (by simp) (by simp)⟩
 ·
  rintro v1 L1 ⟨nb3, hnb3, rfl, rfl⟩
  refine ⟨[], ?_⟩
  show DP _ _ _ _ _ _ _ _ [⟨nb1, cu8 b, 54, (0, 0)⟩, ⟨nb2, cu8 (zr8 16), 54, (0, 0)⟩, ⟨nb3, cu8 (zr8 16), 54, (0, 0)⟩]
  have hl7 : (mid ks 0 16).length = 16 := mid_len (by rw [hks]; omega)
  refine DP_one ⟨[7], [0, 1, 2, 3, 4, 5], [], [0, 1, 2, 3, 4, 5], [6]⟩ 6 _ rfl rfl (by decide +kernel) rfl ⟨⟨_, rfl, Qok_val rfl (Ev_load rfl (Ld_agg Tryd.isAgg54 Tryd.sizeOf54 (len_cu8 hb) (MemAt.ent 0 rfl (Seg.whole _))))⟩, ⟨_, rfl, Qok_val rfl (Ev_move rfl)⟩, ⟨_, rfl, Qok_val rfl (Ev_nilCheck rfl)⟩, ⟨_, rfl, Qok_val rfl (Ev_fieldAddr 0 167 176 Tryd.underlying170 rfl Tryd.sizeOf167 rfl rfl)⟩, ⟨_, rfl, Qok_val rfl (Ev_indexArr 11 54 16 0 Tryd.underlying167 Tryd.sizeOf54 rfl rfl (by omega) (by omega) (by omega))⟩, ⟨_, rfl, Qok_val rfl (Ev_load rfl (Ld_agg Tryd.isAgg54 Tryd.sizeOf54 (len_cu8 hl7) (MemAt.seg (MemAt.heap hc (by simp)) (Seg.left (Seg.left (segm_u8 0 16 (by rw [hks]; omega)))) (by omega))))⟩, trivial⟩ rfl (Cok_step rfl (Step_callP 147 [.agg (cu8 b).toArray, .agg (cu8 (mid ks 0 16)).toArray] (.agg (cu8 (addL b (mid ks 0 16))).toArray) (Cl_func [.agg (cu8 b).toArray, .agg (cu8 (mid ks 0 16)).toArray] Tryd.call147 rfl) (fun w1 hw1 => added_c b (mid ks 0 16) w1 hb hl1))) ?_
  rintro v1 L1 ⟨rfl, rfl⟩
  refine ⟨[], ?_⟩
  show DP _ _ _ _ _ _ _ _ [⟨nb1, cu8 b, 54, (0, 0)⟩, ⟨nb2, cu8 (zr8 16), 54, (0, 0)⟩, ⟨nb3, cu8 (zr8 16), 54, (0, 0)⟩]
  refine DP_one ⟨[7, 6], [0, 1, 2, 3, 4, 5], [0, 1, 2, 3, 4, 5], [], [8]⟩ 8 _ rfl rfl (by decide +kernel) rfl trivial rfl (Cok_step rfl (Step_store 2 nb3 0 16 (cu8 (zr8 16)) 54 (.agg (cu8 (addL b (mid ks 0 16))).toArray) (cu8 (addL b (mid ks 0 16))) (cu8 (addL b (mid ks 0 16))) rfl rfl rfl (by first | rfl | simp) Tryd.sizeOf54 (len_cu8 (addL_len hb)) (by first | exact one_u8 | exact one_u32 | exact one_u64 | (simp [cu8, cu32, cu64, Value.oneCell']; done)) (by simp [(zr8_len 16)]) (lay_whole (by simp [(zr8_len 16), (addL_len hb)])))) ?_
  rintro v1 L1 ⟨rfl, rfl⟩
  refine ⟨[], ?_⟩
  show DP _ _ _ _ _ _ _ _ [⟨nb1, cu8 b, 54, (0, 0)⟩, ⟨nb2, cu8 (zr8 16), 54, (0, 0)⟩, ⟨nb3, cu8 (addL b (mid ks 0 16)), 54, (0, 0)⟩]
  refine DP_end ⟨[7, 6, 8], [0, 1, 2, 3, 4, 5], [0, 1, 2, 3, 4, 5], [], []⟩ rfl rfl (by decide +kernel) rfl trivial ?_
  refine K_sub (F' := [(5, Ptr nb3 0), (0, Ptr c 0), (4, Ptr nb2 0)]) (Sub.cons (by kernel_rfl) (Sub.cons (by kernel_rfl) (Sub.cons (by kernel_rfl) (Sub.nil)))) ?_
  show JQ _ _ _ [(5, Ptr nb3 0), (0, Ptr c 0), (4, Ptr nb2 0)] _
  refine JQ_then ?_
  refine JC_seq ?_
  refine JC_seq ?_
  refine JC_region ?_
  refine JL_val _ (Ev_move rfl) rfl ?_
  refine JL_val _ (Ev_nilCheck rfl) rfl ?_
  refine JL_val (Ptr c 0) (Ev_fieldAddr 0 167 176 Tryd.underlying170 rfl Tryd.sizeOf167 rfl rfl) rfl ?_
  refine JL_val (Slc c 16 9 10) (Ev_sliceA 11 54 16 1 10 16 10 Tryd.underlying167 Tryd.sizeOf54 rfl rfl rfl (by omega) (by omega) (by omega) (by omega) (by omega) 9 (by omega)) rfl ?_
  refine JL_val (I64 (9:Int)) (Ev_len Tryd.underlying196 rfl) rfl ?_
  refine JL_val _ (Ev_move rfl) rfl ?_
  refine JL_nil ?_
  refine JQ_then ?_
  refine JC_block ?_
  refine K_mask [false, true, true] ?_
  show JC _ _ _ _ [⟨nb2, cu8 (zr8 16), 54, (0, 0)⟩, ⟨nb3, cu8 (addL b (mid ks 0 16)), 54, (0, 0)⟩]
  refine JC_loop (ι := Nat × List UInt8) (fun ⟨j, s⟩ => [(0, Ptr c 0), (4, Ptr nb2 0), (5, Ptr nb3 0), (20, Slc c 16 9 10), (21, I64 (9:Int)), (22, I64 ((j:Int)))]) (fun ⟨j, s⟩ => [⟨nb2, cu8 (zr8 16), 54, (0, 0)⟩, ⟨nb3, cu8 s, 54, (0, 0)⟩]) (fun ⟨j, s⟩ => j ≤ 9 ∧ s = encN ks b j ∧ s.length = 16) (fun ⟨j, s⟩ => 9 - j) (0, addL b (mid ks 0 16)) ⟨by omega, by rw [encN], addL_len hb⟩ (Sub.cons rfl (Sub.cons rfl (Sub.cons rfl (Sub.cons rfl (Sub.cons rfl (Sub.cons rfl (Sub.nil))))))) rfl ?_
  rintro ⟨j, s⟩ ⟨hx1, hx2, hs⟩
  show JC _ _ _ [(0, Ptr c 0), (4, Ptr nb2 0), (5, Ptr nb3 0), (20, Slc c 16 9 10), (21, I64 (9:Int)), (22, I64 ((j:Int)))] [⟨nb2, cu8 (zr8 16), 54, (0, 0)⟩, ⟨nb3, cu8 s, 54, (0, 0)⟩]
  refine JC_seq ?_
  refine JC_region ?_
  refine JL_val (.bool (decide (((j:Int)) < (9:Int)))) (Ev_bini rfl rfl fun _ => bin_lss_i _ _) rfl ?_
  refine JL_nil ?_
  refine JQ_then ?_
  refine JC_seq ?_
  refine JC_cond (decide (((j:Int)) < (9:Int))) rfl (fun hb2 => ?_) (fun hb2 => ?_)
  ·
   have hp2 : ((j:Int)) < (9:Int) := of_decide_eq_true hb2
   refine JC_skip ?_
   refine JQ_then ?_
   refine JC_seq ?_
   refine JC_block ?_
   refine JC_seq ?_
   refine JC_region ?_
   refine JL_val (Ptr c (16*j + 16)) (Ev_indexSl 54 16 (16*j + 16) Tryd.underlying196 Tryd.sizeOf54 rfl rfl (by omega) (by omega) (by omega)) rfl ?_
   have hl8 : (mid ks (16*j + 16) 16).length = 16 := mid_len (by rw [hks]; omega)
   refine JL_val (.agg (cu8 (mid ks (16*j + 16) 16)).toArray) (Ev_load rfl (Ld_agg Tryd.isAgg54 Tryd.sizeOf54 (len_cu8 hl8) (MemAt.seg (MemAt.heap hc (by simp)) (Seg.left (Seg.left (segm_u8 (16*j + 16) 16 (by rw [hks]; omega)))) (by omega)))) rfl ?_
   refine JL_step (Step_alloc _ (cu8 (zr8 16)) Tryd.zeroValue54 (by kernel_rfl)) rfl ?_
   rintro v1 L1 ⟨nb6, hnb6, rfl, rfl⟩
   show JL _ _ _ _ ((7, Ptr nb6 0) :: _) [⟨nb2, cu8 (zr8 16), 54, (0, 0)⟩, ⟨nb3, cu8 s, 54, (0, 0)⟩, ⟨nb6, cu8 (zr8 16), 54, (0, 0)⟩]
   refine JL_step (Step_store 2 nb6 0 16 (cu8 (zr8 16)) 54 (.agg (cu8 (mid ks (16*j + 16) 16)).toArray) (cu8 (mid ks (16*j + 16) 16)) (cu8 (mid ks (16*j + 16) 16)) rfl rfl rfl (by first | rfl | simp) Tryd.sizeOf54 (len_cu8 hl8) (by first | exact one_u8 | exact one_u32 | exact one_u64 | (simp [cu8, cu32, cu64, Value.oneCell']; done)) (by simp [(zr8_len 16)]) (lay_whole (by simp [(zr8_len 16), hl8]))) rfl ?_
   rintro v1 L1 ⟨rfl, rfl⟩
   show JL _ _ _ _ _ [⟨nb2, cu8 (zr8 16), 54, (0, 0)⟩, ⟨nb3, cu8 s, 54, (0, 0)⟩, ⟨nb6, cu8 (mid ks (16*j + 16) 16), 54, (0, 0)⟩]
   refine JL_nil ?_
   refine JQ_then ?_
   refine JC_draw 47 5 [(0, .agg (cu8 s).toArray), (1, Ptr c 0), (2, Ptr c 0), (3, Ptr c 176), (5, .agg (cu8 ([(2:UInt8), (3:UInt8), (1:UInt8), (1:UInt8)])).toArray), (7, .agg (cu8 (mid ks (16*j + 16) 16)).toArray)] Tryd.mixed rfl (by decide +kernel) ?_
   refine DP_one ⟨[], [0, 1, 2, 3, 5, 7], [], [0, 1, 2, 3, 5, 7], [4]⟩ 4 _ rfl rfl (by decide +kernel) rfl ⟨⟨_, rfl, Qok_val rfl (Ev_load rfl (Ld_agg Tryd.isAgg54 Tryd.sizeOf54 (len_cu8 hs) (MemAt.ent 1 rfl (Seg.whole _))))⟩, ⟨_, rfl, Qok_val rfl (Ev_move rfl)⟩, ⟨_, rfl, Qok_val rfl (Ev_nilCheck rfl)⟩, ⟨_, rfl, Qok_val rfl (Ev_fieldAddr 176 168 256 Tryd.underlying170 rfl Tryd.sizeOf168 rfl rfl)⟩, ⟨_, rfl, Qok_val rfl (Ev_build [(0, U8 (2:UInt8)), (1, U8 (3:UInt8)), (2, U8 (1:UInt8)), (3, U8 (1:UInt8))] _ rfl (fun _ => by kernel_rfl))⟩, ⟨_, rfl, Qok_val rfl (Ev_load rfl (Ld_agg Tryd.isAgg54 Tryd.sizeOf54 (len_cu8 hl8) (MemAt.ent 2 rfl (Seg.whole _))))⟩, trivial⟩ rfl (Cok_step rfl (Step_callP 149 [.agg (cu8 s).toArray, Ptr c 176, I64 (1:Int)] (.agg (cu8 (sh1L thereL s)).toArray) (Cl_func [.agg (cu8 s).toArray, Ptr c 176, I64 (1:Int)] Tryd.call149 rfl) (fun w1 hw1 => shifted1_c s thereL c 176 w1 hs thereL_len (RdA.of hw1 (MemAt.seg (MemAt.heap hc (by simp)) (Seg.left (Seg.right 176 0 (by simp [hks]) rfl (Seg.whole _))) (by omega)) (by simp [thereL_len]))))) ?_
   rintro v1 L1 ⟨rfl, rfl⟩
   refine ⟨[], ?_⟩
   show DP _ _ _ _ _ _ _ _ [⟨nb2, cu8 (zr8 16), 54, (0, 0)⟩, ⟨nb3, cu8 s, 54, (0, 0)⟩, ⟨nb6, cu8 (mid ks (16*j + 16) 16), 54, (0, 0)⟩]
   refine DP_one ⟨[4], [0, 1, 2, 3, 5, 7], [0, 1, 2, 3], [5, 7], [6]⟩ 6 _ rfl rfl (by decide +kernel) rfl ⟨⟨_, rfl, Qok_val rfl (Ev_build [(0, U8 (2:UInt8)), (1, U8 (3:UInt8)), (2, U8 (1:UInt8)), (3, U8 (1:UInt8))] _ rfl (fun _ => by kernel_rfl))⟩, ⟨_, rfl, Qok_val rfl (Ev_load rfl (Ld_agg Tryd.isAgg54 Tryd.sizeOf54 (len_cu8 hl8) (MemAt.ent 2 rfl (Seg.whole _))))⟩, trivial⟩ rfl (Cok_step rfl (Step_callP 148 [.agg (cu8 (sh1L thereL s)).toArray, .agg (cu8 ([(2:UInt8), (3:UInt8), (1:UInt8), (1:UInt8)])).toArray] (.agg (cu8 (mixL (sh1L thereL s) ([(2:UInt8), (3:UInt8), (1:UInt8), (1:UInt8)]))).toArray) (Cl_func [.agg (cu8 (sh1L thereL s)).toArray, .agg (cu8 ([(2:UInt8), (3:UInt8), (1:UInt8), (1:UInt8)])).toArray] Tryd.call148 rfl) (fun w1 hw1 => mixed_c (sh1L thereL s) ([(2:UInt8), (3:UInt8), (1:UInt8), (1:UInt8)]) w1 (sh1L_len _ _) rfl))) ?_
   rintro v1 L1 ⟨rfl, rfl⟩
   refine ⟨[], ?_⟩
   show DP _ _ _ _ _ _ _ _ [⟨nb2, cu8 (zr8 16), 54, (0, 0)⟩, ⟨nb3, cu8 s, 54, (0, 0)⟩, ⟨nb6, cu8 (mid ks (16*j + 16) 16), 54, (0, 0)⟩]
   refine DP_one ⟨[4, 6], [0, 1, 2, 3, 5, 7], [0, 1, 2, 3, 5], [7], [8]⟩ 8 _ rfl rfl (by decide +kernel) rfl ⟨⟨_, rfl, Qok_val rfl (Ev_load rfl (Ld_agg Tryd.isAgg54 Tryd.sizeOf54 (len_cu8 hl8) (MemAt.ent 2 rfl (Seg.whole _))))⟩, trivial⟩ rfl (Cok_step rfl (Step_callP 147 [.agg (cu8 (mixL (sh1L thereL s) ([(2:UInt8), (3:UInt8), (1:UInt8), (1:UInt8)]))).toArray, .agg (cu8 (mid ks (16*j + 16) 16)).toArray] (.agg (cu8 (addL (mixL (sh1L thereL s) ([(2:UInt8), (3:UInt8), (1:UInt8), (1:UInt8)])) (mid ks (16*j + 16) 16))).toArray) (Cl_func [.agg (cu8 (mixL (sh1L thereL s) ([(2:UInt8), (3:UInt8), (1:UInt8), (1:UInt8)]))).toArray, .agg (cu8 (mid ks (16*j + 16) 16)).toArray] Tryd.call147 rfl) (fun w1 hw1 => added_c (mixL (sh1L thereL s) ([(2:UInt8), (3:UInt8), (1:UInt8), (1:UInt8)])) (mid ks (16*j + 16) 16) w1 (mixL_len _ _) hl8))) ?_
   rintro v1 L1 ⟨rfl, rfl⟩
   refine ⟨[], ?_⟩
   show DP _ _ _ _ _ _ _ _ [⟨nb2, cu8 (zr8 16), 54, (0, 0)⟩, ⟨nb3, cu8 s, 54, (0, 0)⟩, ⟨nb6, cu8 (mid ks (16*j + 16) 16), 54, (0, 0)⟩]
   refine DP_one ⟨[4, 6, 8], [0, 1, 2, 3, 5, 7], [0, 1, 2, 3, 5, 7], [], [9]⟩ 9 _ rfl rfl (by decide +kernel) rfl trivial rfl (Cok_step rfl (Step_store 1 nb3 0 16 (cu8 s) 54 (.agg (cu8 (addL (mixL (sh1L thereL s) ([(2:UInt8), (3:UInt8), (1:UInt8), (1:UInt8)])) (mid ks (16*j + 16) 16))).toArray) (cu8 (addL (mixL (sh1L thereL s) ([(2:UInt8), (3:UInt8), (1:UInt8), (1:UInt8)])) (mid ks (16*j + 16) 16))) (cu8 (addL (mixL (sh1L thereL s) ([(2:UInt8), (3:UInt8), (1:UInt8), (1:UInt8)])) (mid ks (16*j + 16) 16))) rfl rfl rfl (by first | rfl | simp) Tryd.sizeOf54 (len_cu8 (addL_len (mixL_len _ _))) (by first | exact one_u8 | exact one_u32 | exact one_u64 | (simp [cu8, cu32, cu64, Value.oneCell']; done)) (by simp [hs]) (lay_whole (by simp [hs, (addL_len (mixL_len _ _))])))) ?_
   rintro v1 L1 ⟨rfl, rfl⟩
   refine ⟨[], ?_⟩
   show DP _ _ _ _ _ _ _ _ [⟨nb2, cu8 (zr8 16), 54, (0, 0)⟩, ⟨nb3, cu8 (addL (mixL (sh1L thereL s) ([(2:UInt8), (3:UInt8), (1:UInt8), (1:UInt8)])) (mid ks (16*j + 16) 16)), 54, (0, 0)⟩, ⟨nb6, cu8 (mid ks (16*j + 16) 16), 54, (0, 0)⟩]
   refine DP_end ⟨[4, 6, 8, 9], [0, 1, 2, 3, 5, 7], [0, 1, 2, 3, 5, 7], [], []⟩ rfl rfl (by decide +kernel) rfl trivial ?_
   refine K_sub (F' := [(26, .agg (cu8 s).toArray), (27, Ptr c 0), (28, Ptr c 0), (29, Ptr c 176), (30, .agg (cu8 (sh1L thereL s)).toArray), (31, .agg (cu8 ([(2:UInt8), (3:UInt8), (1:UInt8), (1:UInt8)])).toArray), (32, .agg (cu8 (mixL (sh1L thereL s) ([(2:UInt8), (3:UInt8), (1:UInt8), (1:UInt8)]))).toArray), (33, .agg (cu8 (mid ks (16*j + 16) 16)).toArray), (34, .agg (cu8 (addL (mixL (sh1L thereL s) ([(2:UInt8), (3:UInt8), (1:UInt8), (1:UInt8)])) (mid ks (16*j + 16) 16))).toArray), (0, Ptr c 0), (4, Ptr nb2 0), (5, Ptr nb3 0), (20, Slc c 16 9 10), (21, I64 (9:Int)), (22, I64 ((j:Int))), (23, .bool (decide (((j:Int)) < (9:Int)))), (24, Ptr c (16*j + 16)), (25, .agg (cu8 (mid ks (16*j + 16) 16)).toArray), (7, Ptr nb6 0)]) (Sub.cons (by kernel_rfl) (Sub.cons (by kernel_rfl) (Sub.cons (by kernel_rfl) (Sub.cons (by kernel_rfl) (Sub.cons (by kernel_rfl) (Sub.cons (by kernel_rfl) (Sub.cons (by kernel_rfl) (Sub.cons (by kernel_rfl) (Sub.cons (by kernel_rfl) (Sub.cons (by kernel_rfl) (Sub.cons (by kernel_rfl) (Sub.cons (by kernel_rfl) (Sub.cons (by kernel_rfl) (Sub.cons (by kernel_rfl) (Sub.cons (by kernel_rfl) (Sub.cons (by kernel_rfl) (Sub.cons (by kernel_rfl) (Sub.cons (by kernel_rfl) (Sub.cons (by kernel_rfl) (Sub.nil)))))))))))))))))))) ?_
   show JQ _ _ _ [(26, .agg (cu8 s).toArray), (27, Ptr c 0), (28, Ptr c 0), (29, Ptr c 176), (30, .agg (cu8 (sh1L thereL s)).toArray), (31, .agg (cu8 ([(2:UInt8), (3:UInt8), (1:UInt8), (1:UInt8)])).toArray), (32, .agg (cu8 (mixL (sh1L thereL s) ([(2:UInt8), (3:UInt8), (1:UInt8), (1:UInt8)]))).toArray), (33, .agg (cu8 (mid ks (16*j + 16) 16)).toArray), (34, .agg (cu8 (addL (mixL (sh1L thereL s) ([(2:UInt8), (3:UInt8), (1:UInt8), (1:UInt8)])) (mid ks (16*j + 16) 16))).toArray), (0, Ptr c 0), (4, Ptr nb2 0), (5, Ptr nb3 0), (20, Slc c 16 9 10), (21, I64 (9:Int)), (22, I64 ((j:Int))), (23, .bool (decide (((j:Int)) < (9:Int)))), (24, Ptr c (16*j + 16)), (25, .agg (cu8 (mid ks (16*j + 16) 16)).toArray), (7, Ptr nb6 0)] _
   refine JQ_in_normal ?_
   refine JQ_then ?_
   refine JC_region ?_
   refine JL_val (I64 ((j:Int) + 1)) (Ev_bini rfl rfl fun _ => bin_add_i _ _ ((j:Int) + 1) (by omega) (by omega)) rfl ?_
   refine JL_val _ (Ev_move rfl) rfl ?_
   refine JL_nil ?_
   refine JQ_thenK ?_
   refine K_mask [true, true, false] ?_
   show K _ _ [⟨nb2, cu8 (zr8 16), 54, (0, 0)⟩, ⟨nb3, cu8 (addL (mixL (sh1L thereL s) ([(2:UInt8), (3:UInt8), (1:UInt8), (1:UInt8)])) (mid ks (16*j + 16) 16)), 54, (0, 0)⟩] _
   refine K_next (j + 1, addL (mixL (sh1L thereL s) ([(2:UInt8), (3:UInt8), (1:UInt8), (1:UInt8)])) (mid ks (16*j + 16) 16)) ⟨by omega, by rw [encN, ← hx2], (addL_len (mixL_len _ _))⟩ (by first | (simp; omega) | simp | (dsimp only; omega) | omega) (Sub.cons rfl (Sub.cons rfl (Sub.cons rfl (Sub.cons rfl (Sub.cons rfl (Sub.cons rfl (Sub.nil))))))) rfl
  ·
   have hp2 : ¬ (((j:Int)) < (9:Int)) := of_decide_eq_false hb2
   refine JC_exit ?_
   refine JQ_then_exit ?_
   refine JQ_then_exit ?_
   refine JQ_in_same ?_
   refine JQ_then ?_
   refine JC_seq ?_
   have hl9 : (mid ks 160 16).length = 16 := mid_len (by rw [hks]; omega)
   refine JC_draw 47 4 [(0, .agg (cu8 s).toArray), (1, Ptr c 0), (2, Ptr c 0), (3, Ptr c 176), (5, Ptr c 0), (6, Ptr c 0), (7, Ptr c 0), (8, Ptr c 160), (9, .agg (cu8 (mid ks 160 16)).toArray)] Tryd.mixed rfl (by decide +kernel) ?_
   have hl10 : (mid ks 160 16).length = 16 := mid_len (by rw [hks]; omega)
   refine DP_one ⟨[], [0, 1, 2, 3, 5, 6, 7, 8, 9], [], [0, 1, 2, 3, 5, 6, 7, 8, 9], [4]⟩ 4 _ rfl rfl (by decide +kernel) rfl ⟨⟨_, rfl, Qok_val rfl (Ev_load rfl (Ld_agg Tryd.isAgg54 Tryd.sizeOf54 (len_cu8 hs) (MemAt.ent 1 rfl (Seg.whole _))))⟩, ⟨_, rfl, Qok_val rfl (Ev_move rfl)⟩, ⟨_, rfl, Qok_val rfl (Ev_nilCheck rfl)⟩, ⟨_, rfl, Qok_val rfl (Ev_fieldAddr 176 168 256 Tryd.underlying170 rfl Tryd.sizeOf168 rfl rfl)⟩, ⟨_, rfl, Qok_val rfl (Ev_move rfl)⟩, ⟨_, rfl, Qok_val rfl (Ev_nilCheck rfl)⟩, ⟨_, rfl, Qok_val rfl (Ev_fieldAddr 0 167 176 Tryd.underlying170 rfl Tryd.sizeOf167 rfl rfl)⟩, ⟨_, rfl, Qok_val rfl (Ev_indexArr 11 54 16 160 Tryd.underlying167 Tryd.sizeOf54 rfl rfl (by omega) (by omega) (by omega))⟩, ⟨_, rfl, Qok_val rfl (Ev_load rfl (Ld_agg Tryd.isAgg54 Tryd.sizeOf54 (len_cu8 hl10) (MemAt.seg (MemAt.heap hc (by simp)) (Seg.left (Seg.left (segm_u8 160 16 (by rw [hks]; omega)))) (by omega))))⟩, trivial⟩ rfl (Cok_step rfl (Step_callP 149 [.agg (cu8 s).toArray, Ptr c 176, I64 (1:Int)] (.agg (cu8 (sh1L thereL s)).toArray) (Cl_func [.agg (cu8 s).toArray, Ptr c 176, I64 (1:Int)] Tryd.call149 rfl) (fun w1 hw1 => shifted1_c s thereL c 176 w1 hs thereL_len (RdA.of hw1 (MemAt.seg (MemAt.heap hc (by simp)) (Seg.left (Seg.right 176 0 (by simp [hks]) rfl (Seg.whole _))) (by omega)) (by simp [thereL_len]))))) ?_
   rintro v1 L1 ⟨rfl, rfl⟩
   refine ⟨[], ?_⟩
   show DP _ _ _ _ _ _ _ _ [⟨nb2, cu8 (zr8 16), 54, (0, 0)⟩, ⟨nb3, cu8 s, 54, (0, 0)⟩]
   have hl11 : (mid ks 160 16).length = 16 := mid_len (by rw [hks]; omega)
   refine DP_one ⟨[4], [0, 1, 2, 3, 5, 6, 7, 8, 9], [0, 1, 2, 3], [5, 6, 7, 8, 9], [10]⟩ 10 _ rfl rfl (by decide +kernel) rfl ⟨⟨_, rfl, Qok_val rfl (Ev_move rfl)⟩, ⟨_, rfl, Qok_val rfl (Ev_nilCheck rfl)⟩, ⟨_, rfl, Qok_val rfl (Ev_fieldAddr 0 167 176 Tryd.underlying170 rfl Tryd.sizeOf167 rfl rfl)⟩, ⟨_, rfl, Qok_val rfl (Ev_indexArr 11 54 16 160 Tryd.underlying167 Tryd.sizeOf54 rfl rfl (by omega) (by omega) (by omega))⟩, ⟨_, rfl, Qok_val rfl (Ev_load rfl (Ld_agg Tryd.isAgg54 Tryd.sizeOf54 (len_cu8 hl11) (MemAt.seg (MemAt.heap hc (by simp)) (Seg.left (Seg.left (segm_u8 160 16 (by rw [hks]; omega)))) (by omega))))⟩, trivial⟩ rfl (Cok_step rfl (Step_callP 147 [.agg (cu8 (sh1L thereL s)).toArray, .agg (cu8 (mid ks 160 16)).toArray] (.agg (cu8 (addL (sh1L thereL s) (mid ks 160 16))).toArray) (Cl_func [.agg (cu8 (sh1L thereL s)).toArray, .agg (cu8 (mid ks 160 16)).toArray] Tryd.call147 rfl) (fun w1 hw1 => added_c (sh1L thereL s) (mid ks 160 16) w1 (sh1L_len _ _) hl9))) ?_
   rintro v1 L1 ⟨rfl, rfl⟩
   refine ⟨[], ?_⟩
   show DP _ _ _ _ _ _ _ _ [⟨nb2, cu8 (zr8 16), 54, (0, 0)⟩, ⟨nb3, cu8 s, 54, (0, 0)⟩]
   refine DP_one ⟨[4, 10], [0, 1, 2, 3, 5, 6, 7, 8, 9], [0, 1, 2, 3, 5, 6, 7, 8, 9], [], [11]⟩ 11 _ rfl rfl (by decide +kernel) rfl trivial rfl (Cok_step rfl (Step_store 0 nb2 0 16 (cu8 (zr8 16)) 54 (.agg (cu8 (addL (sh1L thereL s) (mid ks 160 16))).toArray) (cu8 (addL (sh1L thereL s) (mid ks 160 16))) (cu8 (addL (sh1L thereL s) (mid ks 160 16))) rfl rfl rfl (by first | rfl | simp) Tryd.sizeOf54 (len_cu8 (addL_len (sh1L_len _ _))) (by first | exact one_u8 | exact one_u32 | exact one_u64 | (simp [cu8, cu32, cu64, Value.oneCell']; done)) (by simp [(zr8_len 16)]) (lay_whole (by simp [(zr8_len 16), (addL_len (sh1L_len _ _))])))) ?_
   rintro v1 L1 ⟨rfl, rfl⟩
   refine ⟨[], ?_⟩
   show DP _ _ _ _ _ _ _ _ [⟨nb2, cu8 (addL (sh1L thereL s) (mid ks 160 16)), 54, (0, 0)⟩, ⟨nb3, cu8 s, 54, (0, 0)⟩]
   refine DP_end ⟨[4, 10, 11], [0, 1, 2, 3, 5, 6, 7, 8, 9], [0, 1, 2, 3, 5, 6, 7, 8, 9], [], []⟩ rfl rfl (by decide +kernel) rfl trivial ?_
   refine K_sub (F' := [(4, Ptr nb2 0)]) (Sub.cons (by kernel_rfl) (Sub.nil)) ?_
   show JQ _ _ _ [(4, Ptr nb2 0)] _
   refine JQ_then ?_
   refine JC_ret ?_
   refine JQ_ret (.agg (cu8 (addL (sh1L thereL s) (mid ks 160 16))).toArray) (res1 Tryd.results143 (RV_cell rfl (Ld_agg Tryd.isAgg54 Tryd.sizeOf54 (len_cu8 (addL_len (sh1L_len _ _))) (MemAt.ent 0 rfl (Seg.whole _))))) fun w1 hw1 => ?_
   have e1 : j = 9 := by omega
   subst e1
   subst hx2
   exact ⟨_, [], rfl, ⟨rfl, rfl⟩, hw1.sub (by simp) (by simp)⟩
end Go.Proofs.YtncoifiafklkjaaDoor
namespace Go.Sx
open Go Go.RowKit
set_option linter.unusedVariables false
set_option linter.unusedSimpArgs false
variable {C : Cx} {F : Frm} {L : List Ent}
def pick : List Nat → List Ent → List Ent
 | [], _ => []
 | i :: p, L => match L[i]? with
  | some e => e :: pick p L
  | none => pick p L
theorem mem_pick : ∀ (p : List Nat) (L : List Ent) (e : Ent), e ∈ pick p L → ∃ i ∈ p, L[i]? = some e
  | [], L, e, h => by simp [pick] at h
  | i :: p, L, e, h => by
    simp only [pick] at h
    split at h
    · rename_i x hx
      rcases List.mem_cons.1 h with rfl | h
      · exact ⟨i, by simp, hx⟩
      · obtain ⟨j, hj, he⟩ := mem_pick p L e h
        exact ⟨j, List.mem_cons_of_mem _ hj, he⟩
    · obtain ⟨j, hj, he⟩ := mem_pick p L e h
      exact ⟨j, List.mem_cons_of_mem _ hj, he⟩
theorem nd_pick : ∀ (p : List Nat) (L : List Ent), p.Nodup → (L.map Ent.b).Nodup → ((pick p L).map Ent.b).Nodup
  | [], L, _, _ => by simp [pick]
  | i :: p, L, hp, hL => by
    have hp' := List.nodup_cons.1 hp
    simp only [pick]
    split
    · rename_i x hx
      rw [List.map_cons, List.nodup_cons]
      refine ⟨fun hm => ?_, nd_pick p L hp'.2 hL⟩
      obtain ⟨e, he, hb⟩ := List.mem_map.1 hm
      obtain ⟨j, hj, hje⟩ := mem_pick p L e he
      obtain ⟨hi1, hi2⟩ := List.getElem?_eq_some_iff.1 hx
      obtain ⟨hj1, hj2⟩ := List.getElem?_eq_some_iff.1 hje
      have : (L.map Ent.b)[i]'(by simpa using hi1) = (L.map Ent.b)[j]'(by simpa using hj1) := by simp [hi2, hj2, hb]
      have hij := (List.getElem_inj hL).1 this
      subst hij
      exact hp'.1 hj
    · exact nd_pick p L hp'.2 hL
theorem K_pick {φ : Act → World → Prop} (p : List Nat) (hp : p.Nodup) (h : K C F (pick p L) φ) : K C F L φ := fun a w ha hw =>
 h a w ha (hw.sub (fun e he => by obtain ⟨i, _, hi⟩ := mem_pick p L e he; exact List.mem_of_getElem? hi) (nd_pick p L hp hw.nd))
theorem Hp.pick {w0 w : World} {M : List Nat} (p : List Nat) (hp : p.Nodup) (hw : Hp w0 M L w) : Hp w0 M (Sx.pick p L) w :=
 hw.sub (fun e he => by obtain ⟨i, _, hi⟩ := mem_pick p L e he; exact List.mem_of_getElem? hi) (nd_pick p L hp hw.nd)
theorem eqGuard_nn {P : Program} {w : World} (op : BinOp) (t : TypeId) (x : Operand) (v : Value) : (eqGuard op t x (.const v) .nilIface .nilIface).run P w = .ok () w := by cases op <;> simp [eqGuard]
theorem some_slc {b o l l' c : Nat} (h : l = l') : some (Slc b o l c) = some (Slc b o l' c) := by rw [h]
end Go.Sx
namespace Go.Sx
open Go Go.RowKit
open Go.ChangeShapes Go.WideShapes
set_option linter.unusedVariables false
set_option linter.unusedSimpArgs false
section
variable {H : Type} {enc : TypeId × Value → H} {P : Program} {w : World} {base : Nat} {spare : Nat → Bool} {held : Bool} {r : Reach} {b0 : Nat}
theorem all_u8 : ∀ (L : List Value), (∀ i, i < L.length → ∃ u : UInt8, L[i]? = some (.int .u8 u.toNat)) → ∃ l : List UInt8, L = cu8 l
 | [], _ => ⟨[], rfl⟩
 | x :: L, h => by
  obtain ⟨u, hu⟩ := h 0 (by simp)
  simp at hu
  obtain ⟨l, hl⟩ := all_u8 L (fun i hi => by have := h (i + 1) (by simp; omega); simpa using this)
  exact ⟨u :: l, by rw [hl, hu]; rfl⟩
theorem open_arr_u8 {t e : TypeId} {n : Nat} {v : Value} {d : DataW H} {ps : List MemPlace} (ht : P.underlying t = some (.array n e)) (he : P.underlying e = some (.int .u8)) (hc : P.cellsOf e = 1) (hT : P.cellsOf t = n)
  (hval : Value.okWide P w r b0 t v) (hd : DataW.Trod enc P w base spare held t v d ps) : ∃ l : List UInt8, v = .agg (cu8 l).toArray ∧ l.length = n := by
 simp only [Value.okWide, ht] at hval
 obtain ⟨cs, rfl, hsz, _⟩ := hval
 obtain ⟨fuel, hf⟩ := hd
 obtain ⟨xs, m, _, _, hlen, hxs, hget⟩ := DataW.trod_array ht hf
 have hcs : (Value.agg cs).cells = cs := rfl
 rw [hcs] at hlen hget
 have hel : ∀ i, i < n → ∃ u : UInt8, cs.toList[i]? = some (.int .u8 u.toNat) := by
  intro i hi
  have hg := hget i hi
  rw [hc, Nat.mul_one] at hg
  have hx : xs[i]? = some (xs[i]'(by omega)) := by simp [hxs, hi]
  rw [hx] at hg
  obtain ⟨z, hz, _, hw⟩ := DataW.trod_int he hg
  obtain ⟨u, rfl⟩ := wf_u8 hw
  refine ⟨u, ?_⟩
  have h0 : ((cs.toList.drop i).take 1)[0]? = some (.int .u8 u.toNat) := by rw [hz]; rfl
  rw [List.getElem?_take, if_pos (by omega), List.getElem?_drop] at h0
  simpa using h0
 have hall : ∃ l : List UInt8, cs.toList = cu8 l := by
  have hl : cs.toList.length = n := by rw [hlen, hT]
  exact all_u8 _ (fun i hi => hel i (by omega))
 obtain ⟨l, hl⟩ := hall
 refine ⟨l, by rw [← hl], ?_⟩
 have := congrArg List.length hl
 simp at this
 rw [← this]
 simpa [hT] using hsz
end
end Go.Sx
namespace Go.Sx
open Go Go.RowKit
set_option linter.unusedVariables false
variable {C : Cx} {F : Frm} {L L0 : List Ent} {Q : Exit → Act → World → Prop} {ops : Array Oper}
abbrev markOf (D : Nat) : Deferred := { target := .collected D, args := #[] }
theorem Hp.here {w0 w : World} {M : List Nat} (hw : Hp w0 M L w) : Hp w (L.map Ent.b) L w :=
 ⟨rfl, rfl, rfl, Nat.le_refl _, fun _ _ _ => rfl, hw.ent, hw.nd, fun _ he => .inl (List.mem_map_of_mem he)⟩
theorem Hp.perm {w0 w : World} {M : List Nat} {L' : List Ent} (hw : Hp w0 M L w) (hp : L.Perm L') : Hp w0 M L' w :=
 hw.sub (fun _ he => hp.mem_iff.2 he) ((hp.map Ent.b).nodup_iff.1 hw.nd)
theorem putObj_twice (w : World) (l : Nat) (o o' : Obj) : (w.putObj l o).putObj l o' = w.putObj l o' := by
 simp only [World.putObj, World.mk.injEq, and_true]
 apply Array.ext_getElem?
 intro i
 simp only [Array.getElem?_setIfInBounds, Array.size_setIfInBounds]
 split <;> simp_all
theorem putObj_self {w : World} {l : Nat} {o : Obj} (h : w.heap[l]? = some o) : w.putObj l o = w := by
  simp only [World.putObj]
  have : w.heap.setIfInBounds l o = w.heap := by
    apply Array.ext_getElem?
    intro i
    simp only [Array.getElem?_setIfInBounds]
    split
    · rename_i hi; subst hi
      have := (Array.getElem?_eq_some_iff.1 h).1
      rw [if_pos this, h]
    · rfl
  rw [this]
theorem Hp.far {w0 w : World} {M : List Nat} {l : Nat} (hw : Hp w0 M L w) (h0 : l < w0.heap.size) (hM : l ∉ M) : ∀ e ∈ L, e.b ≠ l := fun e he h => by
  rcases hw.own e he with h1 | h1
  · exact hM (h ▸ h1)
  · omega
theorem Hp.both {w0 w : World} {M : List Nat} {l : Nat} (hw : Hp w0 M L w) (o : Obj) (h0 : l < w0.heap.size) (hM : l ∉ M) : Hp (w0.putObj l o) M L (w.putObj l o) :=
  ⟨hw.os, hw.tape, hw.output, by simpa using hw.le, fun b hb hM' => by
    by_cases e : b = l
    · subst e
      rw [World.putObj_heap_same h0, World.putObj_heap_same (Nat.lt_of_lt_of_le h0 hw.le)]
    · rw [World.putObj_heap_other e, World.putObj_heap_other e]; exact hw.old b (by simpa using hb) hM',
   fun e he => by rw [World.putObj_heap_other (hw.far h0 hM e he)]; exact hw.ent e he, hw.nd, fun e he => by simpa using hw.own e he⟩
theorem Hp.putObj {w0 w : World} {M : List Nat} {D : Nat} (hw : Hp w0 M L w) (o : Obj) (hD : w0.heap.size ≤ D) (hL : ∀ e ∈ L, e.b ≠ D) : Hp w0 M L (w.putObj D o) :=
  ⟨hw.os, hw.tape, hw.output, by simpa using hw.le, fun b hb hM => by
    rw [World.putObj_heap_other (by omega)]; exact hw.old b hb hM,
   fun e he => by rw [World.putObj_heap_other (hL e he)]; exact hw.ent e he, hw.nd, hw.own⟩
theorem Hp.allocObj {w0 w : World} {M : List Nat} (hw : Hp w0 M L w) (o : Obj) : Hp w0 M L (w.alloc o) :=
  ⟨hw.os, hw.tape, hw.output, by have := hw.le; simp; omega, fun b hb hM => by
    rw [Below.heap_alloc _ _ _ (by have := hw.le; omega)]; exact hw.old b hb hM,
   fun e he => by rw [Below.heap_alloc _ _ _ (Array.getElem?_eq_some_iff.1 (hw.ent e he)).1]; exact hw.ent e he, hw.nd, hw.own⟩
theorem Hp.lt {w0 w : World} {M : List Nat} (hw : Hp w0 M L w) : ∀ e ∈ L, e.b < w.heap.size := fun e he => (Array.getElem?_eq_some_iff.1 (hw.ent e he)).1
theorem Hp.notCells {w0 w : World} {M : List Nat} {D : Nat} {o : Obj} (hw : Hp w0 M L w) (hD : w.heap[D]? = some o) (ho : o.isCells = false) : ∀ e ∈ L, e.b ≠ D := fun e he h => by
 have := hw.ent e he
 rw [h, hD] at this
 cases this
 cases ho
theorem Hp.next {w0 w w' : World} {M : List Nat} {A S S' : List Ent} (h : Hp w0 M (A ++ S) w) (h' : Hp w (S.map Ent.b) S' w') : Hp w0 M (A ++ S') w' :=
 h.call h' List.perm_append_comm rfl
theorem Hp.then {w0 w w' : World} {M : List Nat} {L' : List Ent} (h : Hp w0 M L w) (h' : Hp w (L.map Ent.b) L' w') : Hp w0 M L' w' := by
 simpa using Hp.next (A := []) h h'
def RoundEnd (l : Nat) (W : World) (M : List Nat) (N : List Ent → Prop) (X : List Ent → Obj → Prop) (e : Ending) (W' : World) : Prop :=
 (e = .returned (.bool true) ∧ ∃ L', N L' ∧ Hp W M L' W') ∨ (e = .returned (.bool false) ∧ ∃ L' o, X L' o ∧ Hp (W.putObj l o) M L' W')
def Iter (P : Program) (gf : FuncId) (lb : Array Value) (E0 : List Ent) (Rb : List Nat) (w0 : World) (go fin : Nat → Prop) (enc : Nat → Value) : Prop :=
 ∀ (l B : Nat) (W : World) (S : Nat → List Ent → Prop) (X : Nat → List Ent → Obj → Prop) (S0 : List Ent), S 0 S0 → Hp W ((E0 ++ S0).map Ent.b) (E0 ++ S0) W → l < W.heap.size → l ∉ (E0 ++ S0).map Ent.b →
  (∀ b ∈ Rb, b ∉ (E0 ++ S0).map Ent.b ∧ W.heap[b]? = w0.heap[b]? ∧ b ≠ l) →
  (∀ k Sk W1, go k → k ≤ B → S k Sk → Hp W ((E0 ++ S0).map Ent.b) Sk W1 →
   YieldAt (Fc none) 0 P l #[enc k] W1 (RoundEnd l W1 (Sk.map Ent.b) (fun L' => k + 1 ≤ B ∧ S (k + 1) L') (X k))) →
  CallsIn (Fc none) 0 P gf (#[.func (.yield l) #[] #[]] ++ lb) W fun e W' => (∃ v, e = .returned v) ∧
   ((∃ k L', fin k ∧ S k L' ∧ Hp W ((E0 ++ S0).map Ent.b) L' W') ∨ (∃ k L' o, go k ∧ X k L' o ∧ Hp (W.putObj l o) ((E0 ++ S0).map Ent.b) L' W'))
theorem JL_yield {l0 : List Oper} {x : Operand} {args : Array Operand} {ats : Array TypeId} {ty : TypeId} (l : Nat) (vs : List Value) (A S : List Ent) (N : List Ent → Prop) (X : List Ent → Obj → Prop)
    {d : Nat} {pos : String} {aft : Array Edge} (hx : ev F x = some (.func (.yield l) #[] #[])) (ha : args.toList.map (ev F) = vs.map some) (hL : L = A ++ S) (hl : l < C.w0.heap.size) (hlM : l ∉ C.M) (hd : Nat.blt d C.n = true)
    (hY : ∀ w, Hp C.w0 C.M L w → YieldAt (Fc C.rd) 0 C.P l vs.toArray w (RoundEnd l w (S.map Ent.b) N X))
    (hT : ∀ L', N L' → JL C Q ops l0 ((d, .bool true) :: F) (A ++ L'))
    (hF : ∀ L' o, X L' o → JL ⟨C.P, C.w0.putObj l o, C.M, C.n, C.rd, C.df⟩ Q ops l0 ((d, .bool false) :: F) (A ++ L')) :
    JL C Q ops (⟨some d, .call { callee := .value x, args := args, argTypes := ats }, ty, pos, aft, none⟩ :: l0) F L := by
  subst hL
  intro a w ha' hw
  refine wpListIn_plain rfl fun K hK => ?_
  have hargs : args.map a.eval = vs.toArray := by
    apply Array.toList_inj.1
    rw [Array.toList_map]
    generalize args.toList = l at ha
    clear hY
    induction l generalizing vs with
    | nil => cases vs <;> simp_all
    | cons o l ih =>
      cases vs with
      | nil => simp at ha
      | cons v vs =>
        simp only [List.map_cons, List.cons.injEq] at ha
        simp [ha'.ev ha.1, ih vs ha.2]
  obtain ⟨fn, tmps, assign, body, hy, hR⟩ := hY w hw
  have hrun : (execOp a.eval ⟨some d, .call { callee := .value x, args := args, argTypes := ats }, ty, pos, aft, none⟩).run C.P w = .ok (.round l fn tmps assign body) w := by
    have h2 := ha'.ev hx
    simp [execOp, resolve, hargs, h2, Deferred.ofValue, invoke, hy]
  unfold Oper.wpIn
  refine ⟨fun _ _ => trivial, ?_⟩
  rw [Oper.semAt_plain _ _ _ (nd_of_run hrun (by simp)), hrun]
  refine ⟨fun h => by simp [Fc] at h, hR.mono ?_⟩
  have hd' : d < C.n := by simpa [Nat.blt_eq] using hd
  rintro e W' (⟨rfl, L', hN, hp⟩ | ⟨rfl, L', o, hX, hp⟩)
  · exact hK _ _ (hT L' hN _ _ (ha'.put _ hd') (hw.next hp))
  · exact hK _ _ (hF L' o hX _ _ (ha'.put _ hd') ((hw.both o hl hlM).next hp))

def BeginPost (C : Cx) (Qb : Exit → Act → World → Prop) (body : Code) (l : Nat) (rb : Obj) : Exit → Act → World → Prop
 | .normal, a, w => w.heap[l]? = C.w0.heap[l]? ∧ body.wpIn (Fc C.rd) 0 C.P Qb a (w.putObj l rb)
 | _, _, _ => False
theorem JQ_begin {Qb : Exit → Act → World → Prop} {body : Code} {l : Nat} {rb : Obj} (h0 : l < C.w0.heap.size) (hM : l ∉ C.M)
  (h : JC ⟨C.P, C.w0.putObj l rb, C.M, C.n, C.rd, C.df⟩ Qb body F L) : JQ C (BeginPost C Qb body l rb) .normal F L :=
 fun a w ha hw => ⟨hw.old l h0 hM, h a _ ha (hw.both rb h0 hM)⟩
def BodyEnd (W : World) (M : List Nat) (N : List Ent → Prop) (X : Code → List Ent → Prop) : Exit → Act → World → Prop
 | .normal, _, w => ∃ L', N L' ∧ Hp W M L' w
 | .exit id, _, w => ∃ L', X (.exit id) L' ∧ Hp W M L' w
 | .ret, _, w => ∃ L', X .ret L' ∧ Hp W M L' w
 | _, _, _ => False
theorem JQ_bodyN {N : List Ent → Prop} {X : Code → List Ent → Prop} (h : N L) : JQ C (BodyEnd C.w0 C.M N X) .normal F L := fun _ _ _ hw => ⟨L, h, hw⟩
theorem JQ_bodyX {N : List Ent → Prop} {X : Code → List Ent → Prop} {id : Nat} (h : X (.exit id) L) : JQ C (BodyEnd C.w0 C.M N X) (.exit id) F L := fun _ _ _ hw => ⟨L, h, hw⟩
theorem JC_range {gop : Operand} {p gf : Nat} {assign body : Code} {lb : Array Value} (A E0 S0 : List Ent) (Rb : List Nat) (go fin : Nat → Prop) (enc : Nat → Value)
    (B : Nat) (S : Nat → List Ent → Prop) (X : Nat → Code → List Ent → Prop) (hro : C.rd = none) (hdf : C.df = [])
    (hg : ev F gop = some (.func (.func gf) #[] lb)) (hcf : ∀ (args : Array Value) (w : World), (callFunc gf args).run C.P w = .ok (.enter gf args) w)
    (hL : L.Perm (A ++ (E0 ++ S0))) (hp : Nat.blt p C.n = true) (hS0 : S 0 S0) (hRb : ∀ b ∈ Rb, b < C.w0.heap.size ∧ b ∉ C.M ∨ b ∈ A.map Ent.b)
    (hit : ∀ w, Hp C.w0 C.M L w → Iter C.P gf lb E0 Rb w go fin enc)
    (hround : ∀ l rb k Sk W1, go k → k ≤ B → S k Sk → l < W1.heap.size → l ∉ Sk.map Ent.b →
      (∀ e ∈ A, W1.heap[e.b]? = some (.cells e.cs.toArray e.T e.fz) ∧ e.b ∉ Sk.map Ent.b ∧ e.b ≠ l) →
      (∀ b, b < C.w0.heap.size → b ∉ C.M → W1.heap[b]? = C.w0.heap[b]? ∧ b ∉ Sk.map Ent.b ∧ b ≠ l) → C.w0.heap.size ≤ W1.heap.size →
      JC ⟨C.P, W1, Sk.map Ent.b, C.n, some l, []⟩ (BeginPost ⟨C.P, W1, Sk.map Ent.b, C.n, some l, []⟩ (BodyEnd (W1.putObj l rb) (Sk.map Ent.b) (fun L' => k + 1 ≤ B ∧ S (k + 1) L') (X k)) body l rb) assign ((p, enc k) :: F) Sk)
    (hdone : ∀ D k L' W', fin k → S k L' → Hp C.w0 C.M (A ++ L') W' → W'.heap[D]? = some (.deferred (some [])) → C.w0.heap.size ≤ D →
      JQ ⟨C.P, W', (A ++ L').map Ent.b, C.n, none, [markOf D]⟩ Q .normal F (A ++ L'))
    (hstop : ∀ D k c L' W', go k → X k c L' → Hp C.w0 C.M (A ++ L') W' → W'.heap[D]? = some (.deferred (some [])) → C.w0.heap.size ≤ D →
      JC ⟨C.P, W', (A ++ L').map Ent.b, C.n, none, [markOf D]⟩ Q c F (A ++ L')) : JC C Q (.rangeFunc gop #[p] assign body) F L := by
  intro a w ha hw
  have hp' : p < C.n := by simpa [Nat.blt_eq] using hp
  have hwp := hw.perm hL
  refine wpIn_rangeFunc ?_
  intro fn hfn
  rw [hro]
  show ∃ (l : Nat) (mark : List Deferred) (w₁ : World) (d : Deferred) (w₁' : World) (f : FuncId) (args : Array Value) (w₂ : World),
    (Instr.enterLoop fn a.tmps #[p] assign body none).run C.P w = _ ∧ _
  obtain ⟨rec, hrec⟩ : ∃ rec : LoopState → Option Code → Loop, rec = fun st pe => { state := st, pending := pe, fn, tmps := a.tmps, params := #[p], assign, body, defers := w.heap.size } := ⟨_, rfl⟩
  obtain ⟨W1, hW1⟩ : ∃ W1, (w.alloc (.deferred (some []))).alloc (.loop (rec .ready none)) = W1 := ⟨_, rfl⟩
  have hsz : W1.heap.size = w.heap.size + 2 := by rw [← hW1]; simp
  have hL1 : W1.heap[w.heap.size + 1]? = some (.loop (rec .ready none)) := by
    rw [← hW1]; have := World.alloc_heap_new (w.alloc (.deferred (some []))) (.loop (rec .ready none)); rwa [World.size_alloc] at this
  have hK1 : W1.heap[w.heap.size]? = some (.deferred (some [])) := by
    rw [← hW1]; exact (Below.heap_alloc _ _ _ (by simp)).trans (World.alloc_heap_new w _)
  have hq1 : Hp C.w0 C.M (A ++ (E0 ++ S0)) W1 := by rw [← hW1]; exact (hwp.allocObj _).allocObj _
  have hlt : ∀ e ∈ A ++ (E0 ++ S0), e.b < w.heap.size := hwp.lt
  have hlM : ∀ m, w.heap.size ≤ m → m ∉ (E0 ++ S0).map Ent.b := fun m hm h => by
    obtain ⟨e, he, rfl⟩ := List.mem_map.1 h
    have := hlt e (List.mem_append.2 (.inr he)); omega
  have hnd : ((A ++ (E0 ++ S0)).map Ent.b).Nodup := hwp.nd
  have hAn : ∀ e ∈ A, e.b ∉ (E0 ++ S0).map Ent.b := fun e he h => by
    rw [List.map_append, List.nodup_append] at hnd
    exact hnd.2.2 _ (List.mem_map_of_mem he) _ h rfl
  refine ⟨w.heap.size + 1, [markOf w.heap.size], W1, { target := .fn (.func gf) lb, args := #[.func (.yield (w.heap.size + 1)) #[] #[]] }, W1, gf,
    #[.func (.yield (w.heap.size + 1)) #[] #[]] ++ lb, W1, ?_, ?_, fun _ _ => trivial, ?_, fun h => by simp [Fc] at h, ?_⟩
  · rw [← hW1, hrec]; exact run_enterLoop_outer _ _ _ _ _
  · simp only [resolve, ha.ev hg]
    simp [go_sem]
  · simp [invoke, go_sem, hcf]
  · have hwq : Hp W1 ((E0 ++ S0).map Ent.b) (E0 ++ S0) W1 :=
      ⟨rfl, rfl, rfl, Nat.le_refl _, fun _ _ _ => rfl, fun e he => hq1.ent e (List.mem_append.2 (.inr he)), (by rw [List.map_append, List.nodup_append] at hnd; exact hnd.2.1), fun e he => .inl (List.mem_map_of_mem he)⟩
    refine (hit w hw (w.heap.size + 1) B W1 S (fun k L' o => ∃ c, X k c L' ∧ o = .loop (rec .done (some c))) S0 hS0 hwq (by omega) (hlM _ (by omega)) ?_ ?_).mono ?_
    · intro b hb
      rcases hRb b hb with ⟨h1, h2⟩ | h1
      · have hbw : b < w.heap.size := Nat.lt_of_lt_of_le h1 hw.le
        refine ⟨fun h => ?_, ?_, by omega⟩
        · obtain ⟨e, he, rfl⟩ := List.mem_map.1 h
          rcases hwp.own e (List.mem_append.2 (.inr he)) with h3 | h3
          · exact h2 h3
          · omega
        · rw [hq1.old b h1 h2, hw.old b h1 h2]
      · obtain ⟨e, he, rfl⟩ := List.mem_map.1 h1
        have hbw := hlt e (List.mem_append.2 (.inl he))
        exact ⟨hAn e he, by rw [hq1.ent e (List.mem_append.2 (.inl he)), hwp.ent e (List.mem_append.2 (.inl he))], by omega⟩
    · -- one round
      intro k Sk W2 hgo hkB hSk hp2
      have hl2 : W2.heap[w.heap.size + 1]? = some (.loop (rec .ready none)) := (hp2.old _ (by omega) (hlM _ (by omega))).trans hL1
      have hlS : w.heap.size + 1 ∉ Sk.map Ent.b := fun h => by
        obtain ⟨e, he, h⟩ := List.mem_map.1 h
        exact hp2.far (by omega) (hlM _ (by omega)) e he h
      have hl2' : w.heap.size + 1 < W2.heap.size := (Array.getElem?_eq_some_iff.1 hl2).1
      have hy := run_yield (P := C.P) (args := #[enc k]) hl2 (by rw [hrec]; rfl)
      rw [hrec] at hy
      replace hy : (Instr.yield (w.heap.size + 1) #[enc k]).run C.P W2 = .ok (.round (w.heap.size + 1) fn (a.tmps.setIfInBounds p (enc k)) assign body) W2 := by rw [hy]; simp
      refine ⟨fn, _, assign, body, hy, roundIn_of_wpIn hfn ?_⟩
      have hfr : Fr ((p, enc k) :: F) ⟨C.P, W2, Sk.map Ent.b, C.n, some (w.heap.size + 1), []⟩ { tmps := a.tmps.setIfInBounds p (enc k), defers := [] } := by
        have := ha.put (enc k) hp'
        exact ⟨rfl, this.2.1, this.2.2⟩
      refine wpIn_mono (hround (w.heap.size + 1) (.loop { rec .ready none with state := .busy }) k Sk W2 hgo hkB hSk hl2' hlS ?_ ?_ ?_ _ W2 hfr hp2.here) ?_
      · intro e he
        have heM := hAn e he
        have heW := hlt e (List.mem_append.2 (.inl he))
        refine ⟨?_, fun h => ?_, by omega⟩
        · rw [hp2.old e.b (by omega) heM]; exact hq1.ent e (List.mem_append.2 (.inl he))
        · obtain ⟨x, hx, h⟩ := List.mem_map.1 h
          exact hp2.far (by omega) heM x hx h
      · intro b hb hbM
        have hbw : b < w.heap.size := Nat.lt_of_lt_of_le hb hw.le
        have hbS : b ∉ (E0 ++ S0).map Ent.b := fun h => by
          obtain ⟨e, he, rfl⟩ := List.mem_map.1 h
          rcases hwp.own e (List.mem_append.2 (.inr he)) with h3 | h3
          · exact hbM h3
          · omega
        refine ⟨?_, fun h => ?_, by omega⟩
        · rw [hp2.old b (by omega) hbS, hq1.old b hb hbM]
        · obtain ⟨x, hx, h⟩ := List.mem_map.1 h
          exact hp2.far (by omega) hbS x hx h
      · have := hw.le; have := hp2.le; omega
      · intro e a1 w1 hq
        cases e with
        | normal =>
          obtain ⟨hl3, hbody⟩ := hq
          refine ⟨_, run_beginRound (hl3.trans hl2) (by rw [hrec]), wpIn_mono hbody ?_⟩
          intro e a3 w3 hend
          have fin : ∀ (jump : Option Code) (L' : List Ent), Hp (W2.putObj (w.heap.size + 1) (.loop { rec .ready none with state := .busy })) (Sk.map Ent.b) L' w3 →
              (Instr.endRound (w.heap.size + 1) jump).run C.P w3 = .ok (.bool jump.isNone) (w3.putObj (w.heap.size + 1) (.loop (rec (if jump.isNone then .ready else .done) jump))) ∧
              Hp (W2.putObj (w.heap.size + 1) (.loop (rec (if jump.isNone then .ready else .done) jump))) (Sk.map Ent.b) L' (w3.putObj (w.heap.size + 1) (.loop (rec (if jump.isNone then .ready else .done) jump))) := fun jump L' h3 => by
            have hl4 : w3.heap[w.heap.size + 1]? = some (.loop { rec .ready none with state := .busy }) := (h3.old _ (by simpa using hl2') hlS).trans (World.putObj_heap_same hl2')
            have := run_endRound (P := C.P) jump hl4
            rw [hrec] at this ⊢
            refine ⟨this, ?_⟩
            have h5 := h3.both (.loop (rec (if jump.isNone then .ready else .done) jump)) (by simpa using hl2') hlS
            rw [putObj_twice] at h5
            rw [hrec] at h5
            exact h5
          cases e with
          | normal =>
            obtain ⟨L', hN, h3⟩ := hend
            obtain ⟨hr, h5⟩ := fin none L' h3
            refine ⟨_, _, hr, .inl ⟨rfl, L', hN, ?_⟩⟩
            rw [show W2.putObj (w.heap.size + 1) (.loop (rec (if (none : Option Code).isNone then .ready else .done) none)) = W2 from putObj_self hl2] at h5
            exact h5
          | ret =>
            obtain ⟨L', hX, h3⟩ := hend
            obtain ⟨hr, h5⟩ := fin (some .ret) L' h3
            exact ⟨_, _, hr, .inr ⟨rfl, L', _, ⟨_, hX, rfl⟩, h5⟩⟩
          | exit id =>
            obtain ⟨L', hX, h3⟩ := hend
            obtain ⟨hr, h5⟩ := fin (some (.exit id)) L' h3
            exact ⟨_, _, hr, .inr ⟨rfl, L', _, ⟨_, hX, rfl⟩, h5⟩⟩
          | goto t => exact hend.elim
          | panic ch => exact hend.elim
          | outgrown => exact hend.elim
        | ret => exact hq.elim
        | exit id => exact hq.elim
        | goto t => exact hq.elim
        | panic ch => exact hq.elim
        | outgrown => exact hq.elim
    · rintro e W2 ⟨⟨v, rfl⟩, (⟨k, L', hfin, hS, h2⟩ | ⟨k, L', o, hgo, ⟨c, hX, rfl⟩, h2⟩)⟩
      · have hl2 : W2.heap[w.heap.size + 1]? = some (.loop (rec .ready none)) := (h2.old _ (by omega) (hlM _ (by omega))).trans hL1
        have hk2 : W2.heap[w.heap.size]? = some (.deferred (some [])) := (h2.old _ (by omega) (hlM _ (by omega))).trans hK1
        have hA : Hp C.w0 C.M (A ++ L') W2 := hq1.next h2
        have := run_endLoop (P := C.P) hl2 (by rw [hrec]; simp)
        rw [hrec] at this
        refine ⟨none, _, this, ?_⟩
        have h4 := hA.putObj (.loop { rec .ready none with state := .exhausted }) (D := w.heap.size + 1) (by have := hw.le; omega) (hA.notCells hl2 rfl)
        rw [hrec] at h4
        exact hdone _ k L' _ hfin hS h4 ((World.putObj_heap_other (by omega)).trans hk2) hw.le _ _ ⟨by simp [ha.1, hdf], ha.2.1, ha.2.2⟩ h4.here
      · have hl2 : W2.heap[w.heap.size + 1]? = some (.loop (rec .done (some c))) := (h2.old _ (by simp; omega) (hlM _ (by omega))).trans (World.putObj_heap_same (by omega))
        have hk2 : W2.heap[w.heap.size]? = some (.deferred (some [])) := (h2.old _ (by simp; omega) (hlM _ (by omega))).trans ((World.putObj_heap_other (by omega)).trans hK1)
        have hq2 : Hp C.w0 C.M (A ++ (E0 ++ S0)) (W1.putObj (w.heap.size + 1) (.loop (rec .done (some c)))) := hq1.putObj _ (by have := hw.le; omega) (hq1.notCells hL1 rfl)
        have hA : Hp C.w0 C.M (A ++ L') W2 := hq2.next h2
        have := run_endLoop (P := C.P) hl2 (by rw [hrec]; simp)
        rw [hrec] at this
        refine ⟨some c, _, this, ?_⟩
        have h4 := hA.putObj (.loop { rec .done (some c) with state := .exhausted }) (D := w.heap.size + 1) (by have := hw.le; omega) (hA.notCells hl2 rfl)
        rw [hrec] at h4
        exact hstop _ k c L' _ hgo hX h4 ((World.putObj_heap_other (by omega)).trans hk2) hw.le _ _ ⟨by simp [ha.1, hdf], ha.2.1, ha.2.2⟩ h4.here

theorem enterM {P : Program} {f : FuncId} {fn : Func} {c : Code} {R : Ending → World → Prop} (w0 : World) (M : List Nat) (n : Nat) (L : List Ent) (args : List Value)
    (hf : P.funcs[f]? = some fn) (hb : fn.body = some c) (hn : fn.ntmps = n) (hlen : args.length ≤ n) (hw : Hp w0 M L w0)
    (h : JC ⟨P, w0, M, n, none, []⟩ (bodyPostM (Fc none) 0 P fn R) c (argF 0 args) L) : Calls P f args.toArray w0 R := by
  refine callsIn_wide.1 (callsIn_of_wp_marks (n := 0) hf hb trivial (h _ _ ⟨rfl, ?_, fun i v hi => ?_⟩ hw))
  · simp [hn]; omega
  · obtain ⟨_, h2⟩ := argF_lk args 0 i v hi
    have hi' : i < args.length := by
      have := (List.getElem?_eq_some_iff.1 h2).1
      simpa using this
    simp only [Array.getElem?_append, List.size_toArray]
    rw [if_pos hi']
    simpa using h2
theorem JQ_retM0 {fn : Func} {R : Ending → World → Prop} (v : Value) (hr : ∀ a w, Fr F C a → Hp C.w0 C.M L w → (results fn a.tmps).run C.P w = .ok v w)
  (h : ∀ w, Hp C.w0 C.M L w → R (.returned v) w) (hdf : C.df = [] := by rfl) : JQ C (bodyPostM (Fc none) 0 C.P fn R) .ret F L := fun a w ha hw => by
 show LeavesInM _ _ _ _ _ _ a.defers _ _
 rw [ha.1, hdf]
 exact ⟨v, hr a w ha hw, h w hw⟩
theorem JQ_retM {fn : Func} {R : Ending → World → Prop} (D : Nat) (v : Value) (hdf : C.df = [markOf D]) (hD : C.w0.heap[D]? = some (.deferred (some []))) (hM : C.M = L0.map Ent.b) (h0 : Hp C.w0 C.M L0 C.w0)
  (hr : ∀ w0 a w, Fr F ⟨C.P, w0, C.M, C.n, C.rd, C.df⟩ a → Hp w0 C.M L w → (results fn a.tmps).run C.P w = .ok v w)
  (h : ∀ w, Hp C.w0 C.M L w → R (.returned v) (w.putObj D (.deferred none))) : JQ C (bodyPostM (Fc none) 0 C.P fn R) .ret F L := fun a w ha hw => by
 show LeavesInM _ _ _ _ _ _ a.defers _ _
 rw [ha.1, hdf]
 have hDM : D ∉ C.M := fun hm => by
  rw [hM] at hm
  obtain ⟨e, he, h1⟩ := List.mem_map.1 hm
  exact h0.notCells hD rfl e he h1
 have hlt := (Array.getElem?_eq_some_iff.1 hD).1
 have hDw : w.heap[D]? = some (.deferred (some [])) := (hw.old D hlt hDM).trans hD
 refine ⟨by simp, .inl ⟨D, _, rfl, run_takeDeferred hDw, v, hr (C.w0.putObj D (.deferred none)) a _ ha (hw.both _ hlt hDM), h w hw⟩⟩
end Go.Sx
namespace Go.Sx
open Go Go.RowKit
set_option linter.unusedVariables false
variable {C : Cx} {F : Frm} {L : List Ent} {ty T T' : TypeId} {x y : Operand}
theorem Ev_slice3G {lo hi mx : Operand} {ao : Option Addr} {l c : Nat} (e s i j m : Nat) (hu : C.P.underlying T = some (.slice e)) (hS : ∀ w, (sizeOf e).run C.P w = .ok s w) (hx : ev F x = some (.slice ao l c))
  (hl : ev F lo = some (I64 i)) (hh : ev F hi = some (I64 j)) (hm : ev F mx = some (I64 m))
  (h1 : i ≤ j) (h2 : j ≤ m) (h3 : m ≤ c) : Ev C F L (.slice T x (some lo) (some hi) (some mx)) ty (.slice (if m = i then ao else ao.map (·.add (i * s))) (j - i) (m - i)) := fun a w ha _ d pos aft g => by
 have g0 : (Instr.sliceBound (I64 m) c .slice3Acap).run C.P w = .ok m w := by
  simp only [Instr.sliceBound, asIntOf]
  simp [h3]
 have g1 : (Instr.sliceBound (I64 j) m .slice3B).run C.P w = .ok j w := by
  simp only [Instr.sliceBound, asIntOf]
  simp [h2]
 have g2 : (Instr.sliceBound (I64 i) j .slice3C).run C.P w = .ok i w := by
  simp only [Instr.sliceBound, asIntOf]
  simp [h1]
 simp [execOp, ha.ev hx, ha.ev hl, ha.ev hh, ha.ev hm, Instr.sliceAt, run_underlying hu, Instr.slice, Instr.sliceBounds, hS w, g0, g1, g2]
theorem Ev_slice3 {lo hi mx : Operand} {b off l c : Nat} (e s i j m o c' j' : Nat) (hu : C.P.underlying T = some (.slice e)) (hS : ∀ w, (sizeOf e).run C.P w = .ok s w) (hx : ev F x = some (Slc b off l c))
  (hl : ev F lo = some (I64 i)) (hh : ev F hi = some (I64 j)) (hm : ev F mx = some (I64 m))
  (h1 : i ≤ j) (h2 : j ≤ m) (h3 : m ≤ c) (hne : i < m) (ho : off + i * s = o) (hc : m - i = c') (hj : j - i = j') : Ev C F L (.slice T x (some lo) (some hi) (some mx)) ty (Slc b o j' c') := by
 have := Ev_slice3G (ty := ty) (L := L) e s i j m hu hS hx hl hh hm h1 h2 h3
 rw [if_neg (by omega), Option.map_some, addr_add, ho, hc, hj] at this
 exact this
theorem Ev_makeFunc {f : Nat} {cap : Array Operand} {vs : List Value} (hc : cap.toList.map (ev F) = vs.map some) (hr : ∀ (w : World) (ps : Array Value), (Instr.makeFunc (.func f) #[] ps).run C.P w = .ok (.func (.func f) #[] ps) w) :
  Ev C F L (.makeFunc (.func f) #[] cap) ty (.func (.func f) #[] vs.toArray) := fun a w ha _ d pos aft g => by
 have hargs : cap.map a.eval = vs.toArray := by
  apply Array.toList_inj.1
  rw [Array.toList_map]
  generalize cap.toList = l at hc
  clear hr
  induction l generalizing vs with
  | nil => cases vs <;> simp_all
  | cons o l ih =>
   cases vs with
   | nil => simp at hc
   | cons v vs =>
    simp only [List.map_cons, List.cons.injEq] at hc
    simp [ha.ev hc.1, ih hc.2]
 simp [execOp, hargs, hr]
theorem Ev_min {t1 t2 : TypeId} {a b r : Int} (hx : ev F x = some (I64 a)) (hy : ev F y = some (I64 b)) (hr : min a b = r) :
  Ev C F L (.call { callee := .builtin .min, args := #[x, y], argTypes := #[t1, t2] }) ty (I64 r) := fun a' w ha _ d pos aft g => by
 have e1 := ha.ev hx
 have e2 := ha.ev hy
 subst hr
 simp [execOp, resolve, invoke, e1, e2, builtin, Builtin.min_, Builtin.min2]
 split <;> omega
theorem Ev_indexSlG {ao : Option Addr} {b off l c : Nat} {i : Int} {k : IntKind} (e s : Nat) (o : Nat) (hu : C.P.underlying T = some (.slice e)) (hS : ∀ w, (sizeOf e).run C.P w = .ok s w) (hx : ev F x = some (.slice ao l c)) (hao : ao = some ⟨b, off, none⟩) (hy : ev F y = some (.int k i))
  (h0 : 0 ≤ i) (h1 : i < l) (ho : off + i.toNat * s = o) : Ev C F L (.indexAddr T x y) ty (Ptr b o) := by
 subst hao; exact Ev_indexSl e s o hu hS hx hy h0 h1 ho
theorem Step_make8 {x y : Operand} {ty T : TypeId} (e bytes : Nat) (ln cp : Nat) (hu : C.P.underlying T = some (.slice e)) (hi : (C.P.info? e).map (fun i => (i.zero, i.size, i.bytes)) = some (some (.int .u8 0), 1, bytes))
  (hx : ev F x = some (I64 ln)) (hy : ev F y = some (I64 cp)) (h1 : ln ≤ cp) (h2 : bytes * cp ≤ 140737488355328) (h3 : cp ≤ maxLen) :
  Step C F L (.makeSlice T x y) ty fun v' L' => ∃ nb, C.w0.heap.size ≤ nb ∧ v' = Slc nb 0 ln cp ∧ L' = L ++ [⟨nb, cu8 (zr8 cp), e, (0, 0)⟩] := by
 have := Step_make (L := L) (ty := ty) e bytes (.int .u8 0) ln cp hu hi rfl hx hy h1 h2 h3
 rw [cu8_zr] at this
 exact this
theorem Step_appM8 {x y : Operand} {ty : TypeId} (t e : Nat) (m : List Bool) (v : Value) (n : Nat) (l z : List UInt8) (ao : Option Addr) (k c tot : Nat)
  (hu : C.P.underlying t = some (.slice e)) (hi : (C.P.info? e).map (fun i => (i.zero, i.size, i.bytes)) = some (some (.int .u8 0), 1, 1))
  (hx : ev F x = some v)
  (hv : (v = .slice none 0 0 ∧ n = 0 ∧ l = [] ∧ take? m L = [] ∧ 0 < k) ∨ (∃ g sp cap, v = Slc g 0 n cap ∧ take? m L = [⟨g, cu8 l ++ sp, e, (0, 0)⟩] ∧ l.length = n ∧ sp.length = cap - n ∧ n ≤ cap ∧ cap ≤ maxLen))
  (hy : ev F y = some (.slice ao k c)) (hk : z.length = k) (hm : SrcAt C L ao (cu8 z)) (hmax : (n + k) * 1 ≤ 140737488355328) (hmax' : n + k ≤ maxLen) (htot : n + k = tot) :
  Step C F L (.call { callee := .builtin .append, args := #[x, y], argTypes := #[t, t] }) ty fun v' L' => ∃ g sp cap, (C.w0.heap.size ≤ g ∨ g ∈ C.M) ∧ v' = Slc g 0 tot cap ∧ L' = rest? m L ++ [⟨g, cu8 (l ++ z) ++ sp, e, (0, 0)⟩] ∧ (l ++ z).length = tot ∧ sp.length = cap - tot ∧ tot ≤ cap ∧ cap ≤ maxLen := by
 subst htot
 exact Step_append8 t e m v n l z ao k c hu hi hx hv hy hk hm hmax hmax'
def u64i (x : Int) : UInt64 := UInt64.ofNat (x % 18446744073709551616).toNat
theorem conv_i64_u64i {P : Program} {w : World} {src dst : TypeId} (hs : (P.underlying src).isSome = true) (hd : P.underlying dst = some (.int .u64)) (x : Int) : (convert src dst (I64 x)).run P w = .ok (U64 (u64i x)) w :=
 conv_int _ _ hs hd _ (by
  rw [wrap_u64', u64i, UInt64.toNat_ofNat']
  have h1 : 0 ≤ x % 18446744073709551616 := Int.emod_nonneg _ (by omega)
  have h2 : x % 18446744073709551616 < 18446744073709551616 := Int.emod_lt_of_pos _ (by omega)
  rw [Nat.mod_eq_of_lt (by omega)]; omega)
theorem un_neg_i {P : Program} {w : World} (x r : Int) (h : -9223372036854775808 ≤ r ∧ r ≤ 9223372036854775807) (hr : -x = r) : (Op.unary .neg (I64 x)).run P w = .ok (I64 r) w := by
 subst hr; simp [Op.unary, Op.intArith, wrap_i64_in _ h.1 h.2]
theorem ofN_i {X : Nat} (h : X < 18446744073709551616) : ((UInt64.ofNat X).toNat : Int) = X := by rw [UInt64.toNat_ofNat', Nat.mod_eq_of_lt (by omega)]
theorem Ev_lenX {ao : Option Addr} {l c t e : Nat} {r : Int} (hu : C.P.underlying t = some (.slice e)) (hx : ev F x = some (.slice ao l c)) (hr : (l : Int) = r) : Ev C F L (.call { callee := .builtin .len, args := #[x], argTypes := #[t] }) ty (I64 r) := by
 subst hr; exact Ev_len hu hx
theorem Hp.right {w0 w : World} {M : List Nat} {A S : List Ent} (h : Hp w0 M (A ++ S) w) : Hp w0 M S w :=
 h.sub (fun _ he => List.mem_append.2 (.inr he)) (List.Sublist.nodup ((List.sublist_append_right A S).map Ent.b) h.nd)
theorem enterI {P : Program} {f : FuncId} {fn : Func} {c : Code} {R : Ending → World → Prop} (w0 : World) (M : List Nat) (n : Nat) (L : List Ent) (args : List Value)
    (hf : P.funcs[f]? = some fn) (hb : fn.body = some c) (hn : fn.ntmps = n) (hlen : args.length ≤ n) (hw : Hp w0 M L w0)
    (h : JC ⟨P, w0, M, n, none, []⟩ (bodyPostM (Fc none) 0 P fn R) c (argF 0 args) L) : CallsIn (Fc none) 0 P f args.toArray w0 R := by
  refine callsIn_of_wp_marks (n := 0) hf hb trivial (h _ _ ⟨rfl, ?_, fun i v hi => ?_⟩ hw)
  · simp [hn]; omega
  · obtain ⟨_, h2⟩ := argF_lk args 0 i v hi
    have hi' : i < args.length := by
      have := (List.getElem?_eq_some_iff.1 h2).1
      simpa using this
    simp only [Array.getElem?_append, List.size_toArray]
    rw [if_pos hi']
    simpa using h2
theorem JQ_endM0 {fn : Func} {R : Ending → World → Prop} (v : Value) (hr : ∀ a w, Fr F C a → Hp C.w0 C.M L w → (results fn a.tmps).run C.P w = .ok v w)
  (h : ∀ w, Hp C.w0 C.M L w → R (.returned v) w) (hdf : C.df = [] := by rfl) : JQ C (bodyPostM (Fc none) 0 C.P fn R) .normal F L := fun a w ha hw => by
 show LeavesInM _ _ _ _ _ _ a.defers _ _
 rw [ha.1, hdf]
 exact ⟨v, hr a w ha hw, h w hw⟩
theorem Hp.fin {w0 W w : World} {M : List Nat} {L0 : List Ent} {D : Nat} (h0 : Hp w0 M L0 W) (hD : W.heap[D]? = some (.deferred (some []))) (hle : w0.heap.size ≤ D) (h1 : Hp W (L0.map Ent.b) L w) (o : Obj) : Hp w0 M L (w.putObj D o) :=
 (h0.then h1).putObj o hle (h1.far (Array.getElem?_eq_some_iff.1 hD).1 fun hm => by
  obtain ⟨e, he, h⟩ := List.mem_map.1 hm
  exact h0.notCells hD rfl e he h)
end Go.Sx
namespace Go.Proofs.YtncoifiafklkjaaDoor
open Go Go.Sx
set_option linter.unusedVariables false
set_option linter.unusedSimpArgs false
set_option maxRecDepth 100000
theorem encL_len (ks b : List UInt8) (hb : b.length = 16) : (encL ks b).length = 16 := by rw [encL]; exact addL_len (sh1L_len _ _)
end Go.Proofs.YtncoifiafklkjaaDoor
namespace Go.Sx
def nxS (k : Nat) (p : UInt64 × List UInt8 × UInt64) : UInt64 × List UInt8 × UInt64 :=
 ((((g8 p.2.1 (15 - k)).toUInt64 + (p.2.2 &&& 255)) + p.1) >>> 8, p.2.1.set (15 - k) (((g8 p.2.1 (15 - k)).toUInt64 + (p.2.2 &&& 255)) + p.1).toUInt8, p.2.2 >>> 8)
def nxN (c : List UInt8) (n : UInt64) : Nat → UInt64 × List UInt8 × UInt64
 | 0 => (0, c, n)
 | k + 1 => nxS k (nxN c n k)
def nextL (c : List UInt8) (n : UInt64) : List UInt8 := (nxN c n 16).2.1
theorem nxN_len (c : List UInt8) (n : UInt64) : ∀ k, (nxN c n k).2.1.length = c.length
 | 0 => rfl
 | k + 1 => by simp [nxN, nxS, nxN_len c n k]
theorem nextL_len {c : List UInt8} {n : UInt64} (h : c.length = 16) : (nextL c n).length = 16 := by rw [nextL, nxN_len, h]
def ctrN (c : List UInt8) : Nat → List UInt8
 | 0 => c
 | k + 1 => nextL (ctrN c k) 1
theorem ctrN_len {c : List UInt8} (h : c.length = 16) : ∀ k, (ctrN c k).length = 16
 | 0 => h
 | k + 1 => nextL_len (ctrN_len h k)
def xorN (s b : List UInt8) : Nat → List UInt8
 | 0 => s
 | k + 1 => (xorN s b k).set k (g8 (xorN s b k) k ^^^ g8 b k)
theorem xorN_len (s b : List UInt8) : ∀ k, (xorN s b k).length = s.length
 | 0 => rfl
 | k + 1 => by simp [xorN, xorN_len s b k]
def strG (blk : Nat → List UInt8) : Nat → List UInt8
 | 0 => []
 | k + 1 => strG blk k ++ blk k
theorem strG_len {blk : Nat → List UInt8} (h : ∀ k, (blk k).length = 16) : ∀ k, (strG blk k).length = 16*k
 | 0 => rfl
 | k + 1 => by rw [strG, List.length_append, strG_len h k, h k]; omega
def strT (blk : Nat → List UInt8) (n : Nat) : List UInt8 := (strG blk (n / 16 + 1)).take n
theorem strG_take {blk : Nat → List UInt8} (h : ∀ k, (blk k).length = 16) (n m : Nat) (hm : n ≤ 16*m) : ∀ d, (strG blk (m + d)).take n = (strG blk m).take n
 | 0 => rfl
 | d + 1 => by rw [← Nat.add_assoc, strG, List.take_append_of_le_length (by rw [strG_len h]; omega), strG_take h n m hm d]
theorem strT_any {blk : Nat → List UInt8} (h : ∀ k, (blk k).length = 16) {n m : Nat} (hm : n ≤ 16*m) : (strG blk m).take n = strT blk n := by
 have h1 := strG_take h n (n / 16 + 1) (by omega) m
 have h2 := strG_take h n m hm (n / 16 + 1)
 rw [strT, ← h1, ← h2, Nat.add_comm]
theorem strT_len {blk : Nat → List UInt8} (h : ∀ k, (blk k).length = 16) (n : Nat) : (strT blk n).length = n := by
 rw [strT, List.length_take, strG_len h]; omega
theorem strT_part {blk : Nat → List UInt8} (h : ∀ k, (blk k).length = 16) {n k : Nat} (h1 : 16*k ≤ n) (h2 : n ≤ 16*k + 16) : strG blk k ++ mid (blk k) 0 (n - 16*k) = strT blk n := by
 rw [← strT_any h (m := k + 1) (by omega), strG, List.take_append, strG_len h, List.take_of_length_le (by rw [strG_len h]; omega), mid, List.drop_zero]
theorem strT_full {blk : Nat → List UInt8} (h : ∀ k, (blk k).length = 16) {n k : Nat} (h2 : 16*k + 16 = n) : strG blk k ++ blk k = strT blk n := by
 rw [← strT_any h (m := k + 1) (by omega), strG, List.take_of_length_le (by rw [List.length_append, strG_len h, h]; omega)]
theorem strT_zero {blk : Nat → List UInt8} : strT blk 0 = [] := by rw [strT, List.take_zero]
theorem xorN_get (s b : List UInt8) : ∀ k, k ≤ s.length → ∀ j, g8 (xorN s b k) j = if j < k then g8 s j ^^^ g8 b j else g8 s j
  | 0, _, j => by simp [xorN]
  | k + 1, hk, j => by
    rw [xorN, g8_set _ _ _ _ (by rw [xorN_len]; omega)]
    by_cases hj : k = j
    · subst hj
      rw [if_pos rfl, if_pos (by omega), xorN_get s b k (by omega), if_neg (by omega)]
    · rw [if_neg hj, xorN_get s b k (by omega)]
      by_cases h2 : j < k
      · rw [if_pos h2, if_pos (by omega)]
      · rw [if_neg h2, if_neg (by omega)]
theorem xorN_twice {s b : List UInt8} {n : Nat} (hs : s.length = n) (hb : b.length = n) : xorN s (xorN s b n) n = b := by
 refine ext8 (by rw [xorN_len, hs, hb]) fun j hj => ?_
 rw [xorN_len] at hj
 rw [xorN_get _ _ _ (by omega), if_pos (by omega), xorN_get _ _ _ (by omega), if_pos (by omega)]
 rw [← UInt8.xor_assoc, UInt8.xor_self, UInt8.zero_xor]
end Go.Sx
namespace Go.Proofs.YtncoifiafklkjaaDoor
open Go Go.Sx
set_option linter.unusedVariables false
set_option linter.unusedSimpArgs false
set_option maxRecDepth 100000
attribute [local irreducible] mid zr8 encL rkL thereL backL nextL
theorem next_c (c : List UInt8) (n : UInt64) (w : World) (hc : c.length = 16) : Calls Tryd.prog 144 #[.agg (cu8 c).toArray, U64 n] w (Post w [] (fun v L => v = .agg (cu8 (nextL c n)).toArray ∧ L = [])) := by
 refine enter w [] 30 [] [.agg (cu8 c).toArray, U64 n] Tryd.func144 rfl rfl (by simp) (Hp.start (by simp) (by simp) (by simp)) ?_
 show JC _ _ _ [(0, .agg (cu8 c).toArray), (1, U64 n)] _
 refine JC_seq ?_
 refine JC_region ?_
 refine JL_step (Step_box (.agg (cu8 c).toArray) (cu8 c) rfl (by first | rfl | simp)) rfl ?_
 rintro v1 L1 ⟨nb1, hnb1, rfl, rfl⟩
 show JL _ _ _ _ ((2, Ptr nb1 0) :: _) [⟨nb1, cu8 c, 54, (0, 0)⟩]
 refine JL_step (Step_alloc _ (cu8 (zr8 16)) Tryd.zeroValue54 (by kernel_rfl)) rfl ?_
 rintro v1 L1 ⟨nb2, hnb2, rfl, rfl⟩
 show JL _ _ _ _ ((4, Ptr nb2 0) :: _) [⟨nb1, cu8 c, 54, (0, 0)⟩, ⟨nb2, cu8 (zr8 16), 54, (0, 0)⟩]
 refine JL_nil ?_
 refine JQ_then ?_
 refine JC_seq ?_
 refine JC_region ?_
 refine JL_val _ (Ev_assign rfl) rfl ?_
 refine JL_nil ?_
 refine JQ_then ?_
 refine JC_seq ?_
 refine JC_seq ?_
 refine JC_region ?_
 refine JL_val _ (Ev_assign rfl) rfl ?_
 refine JL_nil ?_
 refine JQ_then ?_
 refine JC_block ?_
 refine JC_loop (ι := Nat × UInt64 × List UInt8 × UInt64) (fun ⟨k, cr, s, m⟩ => [(2, Ptr nb1 0), (4, Ptr nb2 0), (5, U64 cr), (1, U64 m), (6, I64 (-(k:Int) + 15))]) (fun ⟨k, cr, s, m⟩ => [⟨nb1, cu8 s, 54, (0, 0)⟩, ⟨nb2, cu8 (zr8 16), 54, (0, 0)⟩]) (fun ⟨k, cr, s, m⟩ => k ≤ 16 ∧ (cr, s, m) = nxN c n k ∧ s.length = 16) (fun ⟨k, cr, s, m⟩ => 16 - k) (0, 0, c, n) ⟨by omega, rfl, hc⟩ (Sub.cons rfl (Sub.cons rfl (Sub.cons rfl (Sub.cons rfl (Sub.cons rfl (Sub.nil)))))) rfl ?_
 rintro ⟨k, cr, s, m⟩ ⟨hx1, hx2, hs⟩
 show JC _ _ _ [(2, Ptr nb1 0), (4, Ptr nb2 0), (5, U64 cr), (1, U64 m), (6, I64 (-(k:Int) + 15))] [⟨nb1, cu8 s, 54, (0, 0)⟩, ⟨nb2, cu8 (zr8 16), 54, (0, 0)⟩]
 refine JC_seq ?_
 refine JC_seq ?_
 refine JC_region ?_
 refine JL_val _ (Ev_move rfl) rfl ?_
 refine JL_val (.bool (decide ((0:Int) ≤ (-(k:Int) + 15)))) (Ev_bini rfl rfl fun _ => bin_geq_i _ _) rfl ?_
 refine JL_nil ?_
 refine JQ_then ?_
 refine JC_cond (decide ((0:Int) ≤ (-(k:Int) + 15))) rfl (fun hb1 => ?_) (fun hb1 => ?_)
 ·
  have hp1 : (0:Int) ≤ (-(k:Int) + 15) := of_decide_eq_true hb1
  refine JC_skip ?_
  refine JQ_then ?_
  refine JC_seq ?_
  refine JC_block ?_
  refine JC_seq ?_
  refine JC_region ?_
  refine JL_val _ (Ev_move rfl) rfl ?_
  refine JL_val (Ptr nb1 (15 - k)) (Ev_indexArr 16 5 1 (15 - k) Tryd.underlying54 Tryd.sizeOf5 rfl rfl (by omega) (by omega) (by omega)) rfl ?_
  refine JL_val (U8 (g8 s (15 - k))) (Ev_load rfl (Ld_one Tryd.isAgg5 (MemAt.ent 0 rfl (Seg.get (g8_get (i := (15 - k)) (by rw [hs]; omega)))))) rfl ?_
  refine JL_val (U64 ((g8 s (15 - k)).toUInt64)) (Ev_conv _ _ rfl fun _ => conv_u8_u64 (by rw [Tryd.underlying5]; rfl) Tryd.underlying58 _) rfl ?_
  refine JL_val _ (Ev_move rfl) rfl ?_
  refine JL_val (U64 (m &&& (255:UInt64))) (Ev_bini rfl rfl fun _ => bin_and_u64 m (255:UInt64)) rfl ?_
  refine JL_val (U64 (((g8 s (15 - k)).toUInt64) + (m &&& (255:UInt64)))) (Ev_bini rfl rfl fun _ => bin_add_u64 ((g8 s (15 - k)).toUInt64) (m &&& (255:UInt64))) rfl ?_
  refine JL_val _ (Ev_move rfl) rfl ?_
  refine JL_val (U64 ((((g8 s (15 - k)).toUInt64) + (m &&& (255:UInt64))) + cr)) (Ev_bini rfl rfl fun _ => bin_add_u64 (((g8 s (15 - k)).toUInt64) + (m &&& (255:UInt64))) cr) rfl ?_
  refine JL_val _ (Ev_assign rfl) rfl ?_
  refine JL_nil ?_
  refine JQ_then ?_
  refine JC_seq ?_
  refine JC_region ?_
  refine JL_val _ (Ev_move rfl) rfl ?_
  refine JL_val _ (Ev_move rfl) rfl ?_
  refine JL_val (U8 (((((g8 s (15 - k)).toUInt64) + (m &&& (255:UInt64))) + cr).toUInt8)) (Ev_conv _ _ rfl fun _ => conv_u64_u8 (by rw [Tryd.underlying58]; rfl) Tryd.underlying5 _) rfl ?_
  refine JL_val (Ptr nb1 (15 - k)) (Ev_indexArr 16 5 1 (15 - k) Tryd.underlying54 Tryd.sizeOf5 rfl rfl (by omega) (by omega) (by omega)) rfl ?_
  have hl1 : (s.set (15 - k) (((((g8 s (15 - k)).toUInt64) + (m &&& (255:UInt64))) + cr).toUInt8)).length = 16 := by first | (rw [List.length_set]; exact hs) | simp [hs]
  refine JL_step (Step_store 0 nb1 (15 - k) 1 (cu8 s) 54 (U8 (((((g8 s (15 - k)).toUInt64) + (m &&& (255:UInt64))) + cr).toUInt8)) ([U8 (((((g8 s (15 - k)).toUInt64) + (m &&& (255:UInt64))) + cr).toUInt8)]) (cu8 (s.set (15 - k) (((((g8 s (15 - k)).toUInt64) + (m &&& (255:UInt64))) + cr).toUInt8))) rfl rfl rfl rfl Tryd.sizeOf5 rfl (by simp [Value.oneCell']) (by simp [hs]; try omega) (lay8 _ _ _ (by rw [hs]; omega))) rfl ?_
  rintro v1 L1 ⟨rfl, rfl⟩
  show JL _ _ _ _ _ [⟨nb1, cu8 (s.set (15 - k) (((((g8 s (15 - k)).toUInt64) + (m &&& (255:UInt64))) + cr).toUInt8)), 54, (0, 0)⟩, ⟨nb2, cu8 (zr8 16), 54, (0, 0)⟩]
  refine JL_nil ?_
  refine JQ_then ?_
  refine JC_seq ?_
  refine JC_region ?_
  refine JL_val _ (Ev_move rfl) rfl ?_
  refine JL_val (U64 (((((g8 s (15 - k)).toUInt64) + (m &&& (255:UInt64))) + cr) >>> (8:UInt64))) (Ev_bini rfl rfl fun _ => bin_shr_u64 ((((g8 s (15 - k)).toUInt64) + (m &&& (255:UInt64))) + cr) _ _ 8 (by decide) rfl) rfl ?_
  refine JL_val _ (Ev_assign rfl) rfl ?_
  refine JL_nil ?_
  refine JQ_then ?_
  refine JC_region ?_
  refine JL_val _ (Ev_move rfl) rfl ?_
  refine JL_val (U64 (m >>> (8:UInt64))) (Ev_bini rfl rfl fun _ => bin_shr_u64 m _ _ 8 (by decide) rfl) rfl ?_
  refine JL_val _ (Ev_assign rfl) rfl ?_
  refine JL_nil ?_
  refine JQ_in_normal ?_
  refine JQ_then ?_
  refine JC_region ?_
  refine JL_val _ (Ev_move rfl) rfl ?_
  refine JL_val (I64 (-(k:Int) + 14)) (Ev_bini rfl rfl fun _ => bin_sub_i _ _ (-(k:Int) + 14) (by omega) (by omega)) rfl ?_
  refine JL_val _ (Ev_assign rfl) rfl ?_
  refine JL_nil ?_
  refine JQ_thenK ?_
  refine K_next (k + 1, ((((g8 s (15 - k)).toUInt64) + (m &&& (255:UInt64))) + cr) >>> (8:UInt64), s.set (15 - k) (((((g8 s (15 - k)).toUInt64) + (m &&& (255:UInt64))) + cr).toUInt8), m >>> (8:UInt64)) ⟨by omega, by rw [nxN, ← hx2]; rfl, hl1⟩ (by first | (simp; omega) | simp | (dsimp only; omega) | omega) (Sub.cons rfl (Sub.cons rfl (Sub.cons rfl (Sub.cons rfl (Sub.cons (some_i64 (by omega)) (Sub.nil)))))) rfl
 ·
  have hp1 : ¬ ((0:Int) ≤ (-(k:Int) + 15)) := of_decide_eq_false hb1
  refine JC_exit ?_
  refine JQ_then_exit ?_
  refine JQ_then_exit ?_
  refine JQ_in_same ?_
  refine JQ_then ?_
  refine JC_seq ?_
  refine JC_region ?_
  refine JL_val (.agg (cu8 s).toArray) (Ev_load rfl (Ld_agg Tryd.isAgg54 Tryd.sizeOf54 (len_cu8 hs) (MemAt.ent 0 rfl (Seg.whole _)))) rfl ?_
  refine JL_step (Step_store 1 nb2 0 16 (cu8 (zr8 16)) 54 (.agg (cu8 s).toArray) (cu8 s) (cu8 s) rfl rfl rfl (by first | rfl | simp) Tryd.sizeOf54 (len_cu8 hs) (by first | exact one_u8 | exact one_u32 | exact one_u64 | (simp [cu8, cu32, cu64, Value.oneCell']; done)) (by simp [(zr8_len 16)]) (lay_whole (by simp [(zr8_len 16), hs]))) rfl ?_
  rintro v1 L1 ⟨rfl, rfl⟩
  show JL _ _ _ _ _ [⟨nb1, cu8 s, 54, (0, 0)⟩, ⟨nb2, cu8 s, 54, (0, 0)⟩]
  refine JL_nil ?_
  refine JQ_then ?_
  refine JC_ret ?_
  refine JQ_ret (.agg (cu8 s).toArray) (res1 Tryd.results144 (RV_cell rfl (Ld_agg Tryd.isAgg54 Tryd.sizeOf54 (len_cu8 hs) (MemAt.ent 1 rfl (Seg.whole _))))) fun w1 hw1 => ?_
  have e1 : k = 16 := by omega
  subst e1
  rw [show s = nextL c n by rw [nextL, ← hx2]]
  exact ⟨_, [], rfl, ⟨rfl, rfl⟩, hw1.sub (by simp) (by simp)⟩
def CiphM (w : World) (M : List Nat) (po : Option Addr) (ks : List UInt8) : Prop :=
 (False ∧ po = none ∧ ks = rkL (zr8 16)) ∨ ∃ c, po = some ⟨c, 0, none⟩ ∧ c < w.heap.size ∧ c ∉ M ∧ ks.length = 176 ∧ w.heap[c]? = some (.cells (cu8 ks ++ cu8 thereL ++ cu8 backL).toArray 170 (0, 0))
def rbOf : Option Addr → List Nat
 | none => []
 | some a => [a.block]
theorem CiphM.len {w : World} {M : List Nat} {po : Option Addr} {ks : List UInt8} (h : CiphM w M po ks) : ks.length = 176 := by
  rcases h with ⟨h, _⟩ | ⟨c, _, _, _, h, _⟩
  · exact h.elim
  · exact h
theorem CiphM.at {C : Cx} {L : List Ent} {w : World} {M : List Nat} {po : Option Addr} {ks : List UInt8} (hw : Hp C.w0 C.M L w) (h : CiphM C.w0 C.M po ks) (hM : ∀ b, b < C.w0.heap.size → b ∉ C.M → b ∉ M := by simp) : CiphM w M po ks := by
  rcases h with h | ⟨c, h1, h2, h3, h4, h5⟩
  · exact .inl h
  · exact .inr ⟨c, h1, Nat.lt_of_lt_of_le h2 hw.le, hM c h2 h3, h4, hw.heap h5 h3⟩
theorem CiphM.rb {w W : World} {M M' : List Nat} {po : Option Addr} {ks : List UInt8} {l : Nat} (h : CiphM w M po ks) (hR : ∀ b ∈ rbOf po, b ∉ M' ∧ W.heap[b]? = w.heap[b]? ∧ b ≠ l) : CiphM W M' po ks := by
  rcases h with h | ⟨c, rfl, h2, h3, h4, h5⟩
  · exact .inl h
  · obtain ⟨h6, h7, _⟩ := hR c (by simp [rbOf])
    exact .inr ⟨c, rfl, (Array.getElem?_eq_some_iff.1 (h7.trans h5)).1, h6, h4, h7.trans h5⟩
theorem CiphM.rbM {w : World} {M : List Nat} {po : Option Addr} {ks : List UInt8} (h : CiphM w M po ks) : ∀ b ∈ rbOf po, b < w.heap.size ∧ b ∉ M := by
  rcases h with ⟨h, _⟩ | ⟨c, rfl, h2, h3, _, _⟩
  · exact h.elim
  · intro b hb; simp [rbOf] at hb; subst hb; exact ⟨h2, h3⟩
theorem encG_c (po : Option Addr) (ks b : List UInt8) (w : World) (hb : b.length = 16) (hC : CiphM w [] po ks) : Calls Tryd.prog 143 #[.pointer po, .agg (cu8 b).toArray] w (Post w [] (fun v L => v = .agg (cu8 (encL ks b)).toArray ∧ L = [])) := by
  rcases hC with ⟨h, _⟩ | ⟨c, rfl, h2, h3, h4, h5⟩
  · exact h.elim
  · exact enc_c c ks b w hb h4 h5

theorem blocks_c (po : Option Addr) (c : List UInt8) (w : World) (hc : c.length = 16) : Calls Tryd.prog 139 #[.pointer po, .agg (cu8 c).toArray] w (Post w [] (fun v L => ∃ b1 b2, v = .func (.func 142) #[] #[Ptr b1 0, Ptr b2 0] ∧ L = [⟨b1, [.pointer po], 142, (0, 0)⟩, ⟨b2, cu8 c, 54, (0, 0)⟩])) := by
 refine enter w [] 6 [] [.pointer po, .agg (cu8 c).toArray] Tryd.func139 rfl rfl (by simp) (Hp.start (by simp) (by simp) (by simp)) ?_
 show JC _ _ _ [(0, .pointer po), (1, .agg (cu8 c).toArray)] _
 refine JC_seq ?_
 refine JC_region ?_
 refine JL_step (Step_box (.pointer po) ([.pointer po]) rfl rfl) rfl ?_
 rintro v1 L1 ⟨nb1, hnb1, rfl, rfl⟩
 show JL _ _ _ _ ((2, Ptr nb1 0) :: _) [⟨nb1, [.pointer po], 142, (0, 0)⟩]
 refine JL_step (Step_box (.agg (cu8 c).toArray) (cu8 c) rfl (by first | rfl | simp)) rfl ?_
 rintro v1 L1 ⟨nb2, hnb2, rfl, rfl⟩
 show JL _ _ _ _ ((3, Ptr nb2 0) :: _) [⟨nb1, [.pointer po], 142, (0, 0)⟩, ⟨nb2, cu8 c, 54, (0, 0)⟩]
 refine JL_val _ (Ev_assign rfl) rfl ?_
 refine JL_nil ?_
 refine JQ_then ?_
 refine JC_seq ?_
 refine JC_region ?_
 refine JL_val (.func (.func 142) #[] #[Ptr nb1 0, Ptr nb2 0]) (Ev_makeFunc (vs := [Ptr nb1 0, Ptr nb2 0]) rfl (fun _ _ => rfl)) rfl ?_
 refine JL_val _ (Ev_assign rfl) rfl ?_
 refine JL_nil ?_
 refine JQ_then ?_
 refine JC_ret ?_
 refine JQ_ret (.func (.func 142) #[] #[Ptr nb1 0, Ptr nb2 0]) (res1 Tryd.results139 (RV_tmp rfl)) fun w1 hw1 => ?_
 exact ⟨_, _, rfl, ⟨nb1, nb2, rfl, rfl⟩, hw1⟩
theorem blocks_it (b1 b2 : Nat) (po : Option Addr) (ks c : List UInt8) (w0 : World) (hc : c.length = 16) (hC : CiphM w0 [] po ks) : Iter Tryd.prog 142 #[Ptr b1 0, Ptr b2 0] [⟨b1, [.pointer po], 142, (0, 0)⟩, ⟨b2, cu8 c, 54, (0, 0)⟩] (rbOf po) w0 (fun _ => True) (fun _ => False) (fun k => .agg (cu8 (encL ks (ctrN c k))).toArray) := by
 intro l B W S X S0 hS0 hW hl0 hlM hRb hY
 refine enterI W ((([⟨b1, [.pointer po], 142, (0, 0)⟩, ⟨b2, cu8 c, 54, (0, 0)⟩] : List Ent) ++ S0).map Ent.b) 11 ([⟨b1, [.pointer po], 142, (0, 0)⟩, ⟨b2, cu8 c, 54, (0, 0)⟩] ++ S0) [.func (.yield l) #[] #[], Ptr b1 0, Ptr b2 0] Tryd.func142 rfl rfl (by simp) hW ?_
 have hC2 : CiphM W ((([⟨b1, [.pointer po], 142, (0, 0)⟩, ⟨b2, cu8 c, 54, (0, 0)⟩] : List Ent) ++ S0).map Ent.b) po ks := hC.rb hRb
 show JC _ _ _ [(0, .func (.yield l) #[] #[]), (1, Ptr b1 0), (2, Ptr b2 0)] ([⟨b1, [.pointer po], 142, (0, 0)⟩, ⟨b2, cu8 c, 54, (0, 0)⟩] ++ S0)
 refine JC_block ?_
 refine JC_loop (ι := Nat × List Ent) (fun ⟨k, Sk⟩ => [(0, .func (.yield l) #[] #[]), (1, Ptr b1 0), (2, Ptr b2 0)]) (fun ⟨k, Sk⟩ => [⟨b1, [.pointer po], 142, (0, 0)⟩, ⟨b2, cu8 (ctrN c k), 54, (0, 0)⟩] ++ Sk) (fun ⟨k, Sk⟩ => k ≤ B ∧ S k Sk) (fun ⟨k, Sk⟩ => B - k) (0, S0) ⟨by omega, hS0⟩ (Sub.cons rfl (Sub.cons rfl (Sub.cons rfl (Sub.nil)))) rfl ?_
 rintro ⟨k, Sk⟩ ⟨hx1, hx2⟩
 show JC _ _ _ [(0, .func (.yield l) #[] #[]), (1, Ptr b1 0), (2, Ptr b2 0)] ([⟨b1, [.pointer po], 142, (0, 0)⟩, ⟨b2, cu8 (ctrN c k), 54, (0, 0)⟩] ++ Sk)
 refine JC_seq ?_
 refine JC_seq ?_
 refine JC_region ?_
 refine JL_val _ (Ev_move rfl) rfl ?_
 refine JL_val (.pointer po) (Ev_load rfl (Ld_one Tryd.isAgg142 (MemAt.ent 0 rfl (Seg.head)))) rfl ?_
 refine JL_val (.agg (cu8 (ctrN c k)).toArray) (Ev_load rfl (Ld_agg Tryd.isAgg54 Tryd.sizeOf54 (len_cu8 (ctrN_len hc k)) (MemAt.ent 1 rfl (Seg.whole _)))) rfl ?_
 refine JL_step (Step_callP 143 [.pointer po, .agg (cu8 (ctrN c k)).toArray] (.agg (cu8 (encL ks (ctrN c k))).toArray) (Cl_func [.pointer po, .agg (cu8 (ctrN c k)).toArray] Tryd.call143 rfl) (fun w1 hw1 => encG_c po ks (ctrN c k) w1 (ctrN_len hc k) (hC2.at hw1))) rfl ?_
 rintro v1 L1 ⟨rfl, rfl⟩
 show JL _ _ _ _ ((7, .agg (cu8 (encL ks (ctrN c k))).toArray) :: _) ([⟨b1, [.pointer po], 142, (0, 0)⟩, ⟨b2, cu8 (ctrN c k), 54, (0, 0)⟩] ++ Sk)
 refine JL_yield l [.agg (cu8 (encL ks (ctrN c k))).toArray] [⟨b1, [.pointer po], 142, (0, 0)⟩, ⟨b2, cu8 (ctrN c k), 54, (0, 0)⟩] Sk (fun L' => k + 1 ≤ B ∧ S (k + 1) L') (X k) rfl rfl rfl hl0 hlM rfl (fun w1 hw1 => hY k Sk w1 trivial hx1 hx2 (hw1.right)) ?_ ?_
 ·
  intro L1 ⟨hn1, hn2⟩
  show JL _ _ _ _ ((8, .bool true) :: _) ([⟨b1, [.pointer po], 142, (0, 0)⟩, ⟨b2, cu8 (ctrN c k), 54, (0, 0)⟩] ++ L1)
  refine JL_nil ?_
  refine JQ_then ?_
  refine JC_condT _ rfl rfl ?_
  refine JC_skip ?_
  refine JQ_then ?_
  refine JC_block ?_
  refine JC_region ?_
  refine JL_val (.agg (cu8 (ctrN c k)).toArray) (Ev_load rfl (Ld_agg Tryd.isAgg54 Tryd.sizeOf54 (len_cu8 (ctrN_len hc k)) (MemAt.ent 1 rfl (Seg.whole _)))) rfl ?_
  refine JL_step (Step_callP 144 [.agg (cu8 (ctrN c k)).toArray, U64 (1:UInt64)] (.agg (cu8 (nextL (ctrN c k) (1:UInt64))).toArray) (Cl_func [.agg (cu8 (ctrN c k)).toArray, U64 (1:UInt64)] Tryd.call144 rfl) (fun w1 hw1 => next_c (ctrN c k) (1:UInt64) w1 (ctrN_len hc k))) rfl ?_
  rintro v1 L1 ⟨rfl, rfl⟩
  show JL _ _ _ _ ((10, .agg (cu8 (nextL (ctrN c k) (1:UInt64))).toArray) :: _) ([⟨b1, [.pointer po], 142, (0, 0)⟩, ⟨b2, cu8 (ctrN c k), 54, (0, 0)⟩] ++ L1)
  refine JL_step (Step_store 1 b2 0 16 (cu8 (ctrN c k)) 54 (.agg (cu8 (nextL (ctrN c k) (1:UInt64))).toArray) (cu8 (nextL (ctrN c k) (1:UInt64))) (cu8 (nextL (ctrN c k) (1:UInt64))) rfl rfl rfl (by first | rfl | simp) Tryd.sizeOf54 (len_cu8 (nextL_len (ctrN_len hc k))) (by first | exact one_u8 | exact one_u32 | exact one_u64 | (simp [cu8, cu32, cu64, Value.oneCell']; done)) (by simp [(ctrN_len hc k)]) (lay_whole (by simp [(ctrN_len hc k), (nextL_len (ctrN_len hc k))]))) rfl ?_
  rintro v1 L1 ⟨rfl, rfl⟩
  show JL _ _ _ _ _ ([⟨b1, [.pointer po], 142, (0, 0)⟩, ⟨b2, cu8 (nextL (ctrN c k) (1:UInt64)), 54, (0, 0)⟩] ++ L1)
  refine JL_nil ?_
  refine JQ_in_normal ?_
  refine JQ_thenK ?_
  refine K_next (k + 1, L1) ⟨hn1, hn2⟩ (by first | (simp; omega) | simp | (dsimp only; omega) | omega) (Sub.cons rfl (Sub.cons rfl (Sub.cons rfl (Sub.nil)))) rfl
 ·
  intro L1 o1 hx9
  show JL _ _ _ _ ((8, .bool false) :: _) ([⟨b1, [.pointer po], 142, (0, 0)⟩, ⟨b2, cu8 (ctrN c k), 54, (0, 0)⟩] ++ L1)
  refine JL_nil ?_
  refine JQ_then ?_
  refine JC_condF _ rfl rfl ?_
  refine JC_exit ?_
  refine JQ_then_exit ?_
  refine JQ_then_exit ?_
  refine JQ_in_same ?_
  refine JQ_endM0 (.tuple #[]) (res0 Tryd.results142 ) (fun w1 hw1 => ?_)
  exact ⟨⟨_, rfl⟩, .inr ⟨k, L1, o1, trivial, hx9, hw1.right⟩⟩
end Go.Proofs.YtncoifiafklkjaaDoor
namespace Go.Proofs.YtncoifiafklkjaaDoor
open Go Go.Sx
set_option linter.unusedVariables false
set_option linter.unusedSimpArgs false
set_option maxRecDepth 100000
attribute [local irreducible] mid zr8 encL rkL thereL backL nextL strT
def eBlk (ks c : List UInt8) (k : Nat) : List UInt8 := encL ks (ctrN c k)
theorem eBlk_len {ks c : List UInt8} (hc : c.length = 16) (k : Nat) : (eBlk ks c k).length = 16 := encL_len _ _ (ctrN_len hc k)
theorem stream_c (po : Option Addr) (ks c : List UInt8) (n : Nat) (w : World) (hc : c.length = 16) (hn : n ≤ 65536) (hC : CiphM w [] po ks) : Calls Tryd.prog 133 #[.pointer po, .agg (cu8 c).toArray, I64 ((n:Int))] w (Post w [] (fun v L => ∃ g sp cap, v = Slc g 0 n cap ∧ L = [⟨g, cu8 (strT (eBlk ks c) n) ++ sp, 5, (0, 0)⟩] ∧ sp.length = cap - n ∧ n ≤ cap ∧ cap ≤ maxLen)) := by
 refine enterM w [] 31 [] [.pointer po, .agg (cu8 c).toArray, I64 ((n:Int))] Tryd.func133 rfl rfl (by simp) (Hp.start (by simp) (by simp) (by simp)) ?_
 show JC _ _ _ [(0, .pointer po), (1, .agg (cu8 c).toArray), (2, I64 ((n:Int)))] _
 refine JC_seq ?_
 refine JC_region ?_
 refine JL_step (Step_box (.agg (cu8 c).toArray) (cu8 c) rfl (by first | rfl | simp)) rfl ?_
 rintro v1 L1 ⟨nb1, hnb1, rfl, rfl⟩
 show JL _ _ _ _ ((4, Ptr nb1 0) :: _) [⟨nb1, cu8 c, 54, (0, 0)⟩]
 refine JL_step (Step_box (I64 ((n:Int))) ([I64 ((n:Int))]) rfl rfl) rfl ?_
 rintro v1 L1 ⟨nb2, hnb2, rfl, rfl⟩
 show JL _ _ _ _ ((5, Ptr nb2 0) :: _) [⟨nb1, cu8 c, 54, (0, 0)⟩, ⟨nb2, [I64 ((n:Int))], 3, (0, 0)⟩]
 refine JL_val _ (Ev_assign rfl) rfl ?_
 refine JL_nil ?_
 refine JQ_then ?_
 refine JC_seq ?_
 refine JC_region ?_
 refine JL_val (I64 ((n:Int))) (Ev_load rfl (Ld_one Tryd.isAgg3 (MemAt.ent 1 rfl (Seg.head)))) rfl ?_
 refine JL_step (Step_make8 5 1 0 n Tryd.underlying22 Tryd.info5 rfl rfl (by omega) (by omega) (by unfold maxLen; omega)) rfl ?_
 rintro v1 L1 ⟨nb3, hnb3, rfl, rfl⟩
 show JL _ _ _ _ ((10, Slc nb3 0 0 n) :: _) [⟨nb1, cu8 c, 54, (0, 0)⟩, ⟨nb2, [I64 ((n:Int))], 3, (0, 0)⟩, ⟨nb3, cu8 (zr8 n), 5, (0, 0)⟩]
 refine JL_step (Step_alloc _ ([.slice none 0 0]) Tryd.zeroValue22 (by kernel_rfl)) rfl ?_
 rintro v1 L1 ⟨nb4, hnb4, rfl, rfl⟩
 show JL _ _ _ _ ((7, Ptr nb4 0) :: _) [⟨nb1, cu8 c, 54, (0, 0)⟩, ⟨nb2, [I64 ((n:Int))], 3, (0, 0)⟩, ⟨nb3, cu8 (zr8 n), 5, (0, 0)⟩, ⟨nb4, [.slice none 0 0], 22, (0, 0)⟩]
 refine JL_step (Step_store 3 nb4 0 1 ([.slice none 0 0]) 22 (Slc nb3 0 0 n) ([Slc nb3 0 0 n]) ([Slc nb3 0 0 n]) rfl rfl rfl rfl Tryd.sizeOf22 rfl (by simp [Value.oneCell']) (Nat.le_of_ble_eq_true rfl) (lay_whole (by simp []))) rfl ?_
 rintro v1 L1 ⟨rfl, rfl⟩
 show JL _ _ _ _ _ [⟨nb1, cu8 c, 54, (0, 0)⟩, ⟨nb2, [I64 ((n:Int))], 3, (0, 0)⟩, ⟨nb3, cu8 (zr8 n), 5, (0, 0)⟩, ⟨nb4, [Slc nb3 0 0 n], 22, (0, 0)⟩]
 refine JL_nil ?_
 refine JQ_then ?_
 refine JC_seq ?_
 refine JC_seq ?_
 refine JC_region ?_
 refine JL_val (I64 ((n:Int))) (Ev_load rfl (Ld_one Tryd.isAgg3 (MemAt.ent 1 rfl (Seg.head)))) rfl ?_
 refine JL_val (.bool (decide (((n:Int)) = (0:Int)))) (Ev_bini rfl rfl fun _ => bin_eql_i _ _) rfl ?_
 refine JL_nil ?_
 refine JQ_then ?_
 refine JC_cond (decide (((n:Int)) = (0:Int))) rfl (fun hb1 => ?_) (fun hb1 => ?_)
 ·
  have hp1 : ((n:Int)) = (0:Int) := of_decide_eq_true hb1
  refine JC_seq ?_
  refine JC_region ?_
  refine JL_val (Slc nb3 0 0 n) (Ev_load rfl (Ld_one Tryd.isAgg22 (MemAt.ent 3 rfl (Seg.head)))) rfl ?_
  refine JL_val _ (Ev_assign rfl) rfl ?_
  refine JL_nil ?_
  refine JQ_then ?_
  refine JC_ret ?_
  refine JQ_then_ret ?_
  refine JQ_retM0 (Slc nb3 0 0 n) (res1 Tryd.results133 (RV_tmp rfl)) (fun w1 hw1 => ?_)
  have e : n = 0 := by omega
  subst e
  exact ⟨_, [⟨nb3, cu8 (zr8 0), 5, (0, 0)⟩], rfl, ⟨nb3, cu8 (zr8 0), 0, rfl, by rw [strT_zero]; rfl, by simp [zr8_len], by omega, by unfold maxLen; omega⟩, hw1.sub (by simp) (by simp)⟩
 ·
  have hp1 : ¬ (((n:Int)) = (0:Int)) := of_decide_eq_false hb1
  refine JC_skip ?_
  refine JQ_then ?_
  refine JC_seq ?_
  refine JC_seq ?_
  refine JC_region ?_
  refine JL_val _ (Ev_move rfl) rfl ?_
  refine JL_val (.agg (cu8 c).toArray) (Ev_load rfl (Ld_agg Tryd.isAgg54 Tryd.sizeOf54 (len_cu8 hc) (MemAt.ent 0 rfl (Seg.whole _)))) rfl ?_
  refine JL_step (Step_callN 139 [.pointer po, .agg (cu8 c).toArray] _ (Cl_func [.pointer po, .agg (cu8 c).toArray] Tryd.call139 rfl) (fun w1 hw1 => blocks_c po c w1 hc)) rfl ?_
  rintro v1 L1 ⟨_, ⟨nb5, nb6, rfl, rfl⟩, rfl⟩
  show JL _ _ _ _ ((16, .func (.func 142) #[] #[Ptr nb5 0, Ptr nb6 0]) :: _) [⟨nb1, cu8 c, 54, (0, 0)⟩, ⟨nb2, [I64 ((n:Int))], 3, (0, 0)⟩, ⟨nb3, cu8 (zr8 n), 5, (0, 0)⟩, ⟨nb4, [Slc nb3 0 0 n], 22, (0, 0)⟩, ⟨nb5, [.pointer po], 142, (0, 0)⟩, ⟨nb6, cu8 c, 54, (0, 0)⟩]
  refine JL_nil ?_
  refine JQ_then ?_
  refine JC_block ?_
  refine K_sub (F' := [(5, Ptr nb2 0), (6, .slice none 0 0), (7, Ptr nb4 0), (16, .func (.func 142) #[] #[Ptr nb5 0, Ptr nb6 0])]) (Sub.cons rfl (Sub.cons rfl (Sub.cons rfl (Sub.cons rfl (Sub.nil))))) ?_
  refine K_pick [1, 4, 5, 3, 2] (by decide) ?_
  show JC _ _ _ _ [⟨nb2, [I64 ((n:Int))], 3, (0, 0)⟩, ⟨nb5, [.pointer po], 142, (0, 0)⟩, ⟨nb6, cu8 c, 54, (0, 0)⟩, ⟨nb4, [Slc nb3 0 0 n], 22, (0, 0)⟩, ⟨nb3, cu8 (zr8 n), 5, (0, 0)⟩]
  refine JC_range [⟨nb2, [I64 ((n:Int))], 3, (0, 0)⟩] [⟨nb5, [.pointer po], 142, (0, 0)⟩, ⟨nb6, cu8 c, 54, (0, 0)⟩] [⟨nb4, [Slc nb3 0 0 n], 22, (0, 0)⟩, ⟨nb3, cu8 (zr8 n), 5, (0, 0)⟩] (rbOf po) (fun _ => True) (fun _ => False) (fun k => .agg (cu8 (encL ks (ctrN c k))).toArray) (n / 16) (fun k L => ∃ g sp cap, 16*k < n ∧ L = [⟨nb4, [Slc g 0 (16*k) cap], 22, (0, 0)⟩, ⟨g, cu8 (strG (eBlk ks c) k) ++ sp, 5, (0, 0)⟩] ∧ sp.length = cap - 16*k ∧ 16*k ≤ cap ∧ cap ≤ maxLen) (fun k c' L => c' = .exit 0 ∧ ∃ g sp cap, L = [⟨nb4, [Slc g 0 n cap], 22, (0, 0)⟩, ⟨g, cu8 (strT (eBlk ks c) n) ++ sp, 5, (0, 0)⟩] ∧ sp.length = cap - n ∧ n ≤ cap ∧ cap ≤ maxLen) rfl rfl rfl Tryd.call142 (List.Perm.refl _) rfl ⟨nb3, cu8 (zr8 n), n, by omega, rfl, by simp [zr8_len], by omega, by unfold maxLen; omega⟩ (fun b hb => .inl (hC.rbM b hb)) (fun w1 hw1 => blocks_it nb5 nb6 po ks c w1 hc (hC.at hw1)) ?_ ?_ ?_
  ·
   intro l rb k Sk W1 hgo hkB hSk hl0 hlM hA hB hle
   have hA0 := hA _ (List.mem_of_getElem? (i := 0) rfl)
   obtain ⟨g, sp, cap, hx1, rfl, hx4, hx5, hx6⟩ := hSk
   show JC _ _ _ _ [⟨nb4, [Slc g 0 (16*k) cap], 22, (0, 0)⟩, ⟨g, cu8 (strG (eBlk ks c) k) ++ sp, 5, (0, 0)⟩]
   refine JC_region ?_
   refine JL_step (Step_alloc _ (cu8 (zr8 16)) Tryd.zeroValue54 (by kernel_rfl)) rfl ?_
   rintro v1 L1 ⟨nb7, hnb7, rfl, rfl⟩
   show JL _ _ _ _ ((8, Ptr nb7 0) :: _) [⟨nb4, [Slc g 0 (16*k) cap], 22, (0, 0)⟩, ⟨g, cu8 (strG (eBlk ks c) k) ++ sp, 5, (0, 0)⟩, ⟨nb7, cu8 (zr8 16), 54, (0, 0)⟩]
   refine JL_step (Step_store 2 nb7 0 16 (cu8 (zr8 16)) 54 (.agg (cu8 (encL ks (ctrN c k))).toArray) (cu8 (encL ks (ctrN c k))) (cu8 (encL ks (ctrN c k))) rfl rfl rfl (by first | rfl | simp) Tryd.sizeOf54 (len_cu8 (encL_len _ _ (ctrN_len hc k))) (by first | exact one_u8 | exact one_u32 | exact one_u64 | (simp [cu8, cu32, cu64, Value.oneCell']; done)) (by simp [(zr8_len 16)]) (lay_whole (by simp [(zr8_len 16), (encL_len _ _ (ctrN_len hc k))]))) rfl ?_
   rintro v1 L1 ⟨rfl, rfl⟩
   show JL _ _ _ _ _ [⟨nb4, [Slc g 0 (16*k) cap], 22, (0, 0)⟩, ⟨g, cu8 (strG (eBlk ks c) k) ++ sp, 5, (0, 0)⟩, ⟨nb7, cu8 (encL ks (ctrN c k)), 54, (0, 0)⟩]
   refine JL_nil ?_
   refine JQ_begin hl0 hlM ?_
   show JC _ _ _ _ [⟨nb4, [Slc g 0 (16*k) cap], 22, (0, 0)⟩, ⟨g, cu8 (strG (eBlk ks c) k) ++ sp, 5, (0, 0)⟩, ⟨nb7, cu8 (encL ks (ctrN c k)), 54, (0, 0)⟩]
   refine JC_block ?_
   refine JC_seq ?_
   rcases Bool.eq_false_or_eq_true (decide ((16:Int) ≤ (-16*(k:Int) + (n:Int)))) with hb2 | hb2
   ·
    have hp2 : (16:Int) ≤ (-16*(k:Int) + (n:Int)) := of_decide_eq_true hb2
    refine JC_draw 31 3 [(0, Slc g 0 (16*k) cap), (1, I64 ((n:Int))), (2, Slc g 0 (16*k) cap), (3, I64 (16*(k:Int))), (4, I64 (-16*(k:Int) + (n:Int))), (5, I64 (16:Int)), (6, Slc nb7 0 16 16)] Tryd.mixed rfl (by decide +kernel) ?_
    refine DP_one ⟨[], [0, 1, 2, 3, 4, 5, 6], [], [0, 1, 2, 3, 4, 5, 6], [7]⟩ 7 _ rfl rfl (by decide +kernel) rfl ⟨⟨_, rfl, Qok_val rfl (Ev_load rfl (Ld_one Tryd.isAgg22 (MemAt.ent 0 rfl (Seg.head))))⟩, ⟨_, rfl, Qok_val rfl (Ev_load rfl (Ld_one Tryd.isAgg3 (MemAt.seg (MemAt.heap ((World.putObj_heap_other hA0.2.2).trans hA0.1) hA0.2.1) (Seg.head) (by omega))))⟩, ⟨_, rfl, Qok_val rfl (Ev_load rfl (Ld_one Tryd.isAgg22 (MemAt.ent 0 rfl (Seg.head))))⟩, ⟨_, rfl, Qok_val rfl (Ev_lenX Tryd.underlying22 rfl (by omega))⟩, ⟨_, rfl, Qok_val rfl (Ev_bini rfl rfl fun _ => bin_sub_i _ _ (-16*(k:Int) + (n:Int)) (by omega) (by omega))⟩, ⟨_, rfl, Qok_val rfl (Ev_min rfl rfl (by have h : (decide ((16:Int) ≤ (-16*(k:Int) + (n:Int)))) = true := hb2; have := of_decide_eq_true h; omega))⟩, ⟨_, rfl, Qok_val rfl (Ev_sliceA 16 5 1 0 16 0 16 Tryd.underlying54 Tryd.sizeOf5 rfl rfl rfl (by omega) (by omega) (by omega) (by omega) (by omega) 16 (by omega))⟩, trivial⟩ rfl (Cok_step rfl (Step_appM8 22 5 [false, true, false] (Slc g 0 (16*k) cap) (16*k) (strG (eBlk ks c) k) (encL ks (ctrN c k)) (some ⟨nb7, 0, none⟩) 16 16 (16*k + 16) Tryd.underlying22 Tryd.info5 rfl (.inr ⟨g, sp, cap, rfl, rfl, (by first | exact (strG_len (fun k => eBlk_len hc k) k) | simp [(strG_len (fun k => eBlk_len hc k) k)]), hx4, (by omega), hx6⟩) rfl (by first | exact (encL_len _ _ (ctrN_len hc k)) | simp [(encL_len _ _ (ctrN_len hc k))]; try omega) (SrcAt.mem (MemAt.ent 2 rfl (Seg.whole _))) (by omega) (by unfold maxLen; omega) (by omega))) ?_
    rintro v1 L1 ⟨nb8, sp1, cp1, hg1, rfl, rfl, ha1, ha2, ha3, ha4⟩
    refine ⟨[], ?_⟩
    show DP _ _ _ _ _ _ _ _ [⟨nb4, [Slc g 0 (16*k) cap], 22, (0, 0)⟩, ⟨nb7, cu8 (encL ks (ctrN c k)), 54, (0, 0)⟩, ⟨nb8, cu8 ((strG (eBlk ks c) k) ++ (encL ks (ctrN c k))) ++ sp1, 5, (0, 0)⟩]
    refine DP_one ⟨[7], [0, 1, 2, 3, 4, 5, 6], [0, 1, 2, 3, 4, 5, 6], [], [8]⟩ 8 _ rfl rfl (by decide +kernel) rfl trivial rfl (Cok_step rfl (Step_store 0 nb4 0 1 ([Slc g 0 (16*k) cap]) 22 (Slc nb8 0 (16*k + 16) cp1) ([Slc nb8 0 (16*k + 16) cp1]) ([Slc nb8 0 (16*k + 16) cp1]) rfl rfl rfl rfl Tryd.sizeOf22 rfl (by simp [Value.oneCell']) (Nat.le_of_ble_eq_true rfl) (lay_whole (by simp [])))) ?_
    rintro v1 L1 ⟨rfl, rfl⟩
    refine ⟨[], ?_⟩
    show DP _ _ _ _ _ _ _ _ [⟨nb4, [Slc nb8 0 (16*k + 16) cp1], 22, (0, 0)⟩, ⟨nb7, cu8 (encL ks (ctrN c k)), 54, (0, 0)⟩, ⟨nb8, cu8 ((strG (eBlk ks c) k) ++ (encL ks (ctrN c k))) ++ sp1, 5, (0, 0)⟩]
    refine DP_end ⟨[7, 8], [0, 1, 2, 3, 4, 5, 6], [0, 1, 2, 3, 4, 5, 6], [], []⟩ rfl rfl (by decide +kernel) rfl trivial ?_
    refine K_sub (F' := [(5, Ptr nb2 0), (6, .slice none 0 0), (7, Ptr nb4 0)]) (Sub.cons (by kernel_rfl) (Sub.cons (by kernel_rfl) (Sub.cons (by kernel_rfl) (Sub.nil)))) ?_
    show JQ _ _ _ [(5, Ptr nb2 0), (6, .slice none 0 0), (7, Ptr nb4 0)] _
    refine JQ_then ?_
    refine JC_seq ?_
    refine JC_region ?_
    refine JL_val (Slc nb8 0 (16*k + 16) cp1) (Ev_load rfl (Ld_one Tryd.isAgg22 (MemAt.ent 0 rfl (Seg.head)))) rfl ?_
    refine JL_val (I64 (16*(k:Int) + 16)) (Ev_lenX Tryd.underlying22 rfl (by omega)) rfl ?_
    refine JL_val (I64 ((n:Int))) (Ev_load rfl (Ld_one Tryd.isAgg3 (MemAt.seg (MemAt.heap ((World.putObj_heap_other hA0.2.2).trans hA0.1) hA0.2.1) (Seg.head) (by omega)))) rfl ?_
    refine JL_val (.bool (decide ((16*(k:Int) + 16) = ((n:Int))))) (Ev_bini rfl rfl fun _ => bin_eql_i _ _) rfl ?_
    refine JL_nil ?_
    refine JQ_then ?_
    refine JC_cond (decide ((16*(k:Int) + 16) = ((n:Int)))) rfl (fun hb3 => ?_) (fun hb3 => ?_)
    ·
     have hp3 : (16*(k:Int) + 16) = ((n:Int)) := of_decide_eq_true hb3
     refine JC_exit ?_
     refine JQ_in_other rfl ?_
     refine K_pick [0, 2] (by decide) ?_
     show K _ _ [⟨nb4, [Slc nb8 0 (16*k + 16) cp1], 22, (0, 0)⟩, ⟨nb8, cu8 ((strG (eBlk ks c) k) ++ (encL ks (ctrN c k))) ++ sp1, 5, (0, 0)⟩] _
     refine JQ_bodyX ⟨rfl, nb8, sp1, cp1, by rw [← strT_full (fun k => eBlk_len hc k) (k := k) (by omega)]; rw [show n = 16*k + 16 from by omega]; rfl, by omega, by omega, ha4⟩
    ·
     have hp3 : ¬ ((16*(k:Int) + 16) = ((n:Int))) := of_decide_eq_false hb3
     refine JC_skip ?_
     refine JQ_in_normal ?_
     refine K_pick [0, 2] (by decide) ?_
     show K _ _ [⟨nb4, [Slc nb8 0 (16*k + 16) cp1], 22, (0, 0)⟩, ⟨nb8, cu8 ((strG (eBlk ks c) k) ++ (encL ks (ctrN c k))) ++ sp1, 5, (0, 0)⟩] _
     refine JQ_bodyN ⟨by omega, nb8, sp1, cp1, by omega, rfl, ha2, ha3, ha4⟩
   ·
    have hp2 : ¬ ((16:Int) ≤ (-16*(k:Int) + (n:Int))) := of_decide_eq_false hb2
    refine JC_draw 31 3 [(0, Slc g 0 (16*k) cap), (1, I64 ((n:Int))), (2, Slc g 0 (16*k) cap), (3, I64 (16*(k:Int))), (4, I64 (-16*(k:Int) + (n:Int))), (5, I64 (-16*(k:Int) + (n:Int))), (6, Slc nb7 0 (n - 16*k) 16)] Tryd.mixed rfl (by decide +kernel) ?_
    have hl1 : (mid (encL ks (ctrN c k)) 0 (n - 16*k)).length = (n - 16*k) := mid_len (by rw [(encL_len _ _ (ctrN_len hc k))]; omega)
    refine DP_one ⟨[], [0, 1, 2, 3, 4, 5, 6], [], [0, 1, 2, 3, 4, 5, 6], [7]⟩ 7 _ rfl rfl (by decide +kernel) rfl ⟨⟨_, rfl, Qok_val rfl (Ev_load rfl (Ld_one Tryd.isAgg22 (MemAt.ent 0 rfl (Seg.head))))⟩, ⟨_, rfl, Qok_val rfl (Ev_load rfl (Ld_one Tryd.isAgg3 (MemAt.seg (MemAt.heap ((World.putObj_heap_other hA0.2.2).trans hA0.1) hA0.2.1) (Seg.head) (by omega))))⟩, ⟨_, rfl, Qok_val rfl (Ev_load rfl (Ld_one Tryd.isAgg22 (MemAt.ent 0 rfl (Seg.head))))⟩, ⟨_, rfl, Qok_val rfl (Ev_lenX Tryd.underlying22 rfl (by omega))⟩, ⟨_, rfl, Qok_val rfl (Ev_bini rfl rfl fun _ => bin_sub_i _ _ (-16*(k:Int) + (n:Int)) (by omega) (by omega))⟩, ⟨_, rfl, Qok_val rfl (Ev_min rfl rfl (by have h : (decide ((16:Int) ≤ (-16*(k:Int) + (n:Int)))) = false := hb2; have := of_decide_eq_false h; omega))⟩, ⟨_, rfl, Qok_val rfl (Ev_sliceA 16 5 1 0 (n - 16*k) 0 16 Tryd.underlying54 Tryd.sizeOf5 rfl rfl (some_i64 (by omega)) (by omega) (by omega) (by omega) (by omega) (by omega) (n - 16*k) (by omega))⟩, trivial⟩ rfl (Cok_step rfl (Step_appM8 22 5 [false, true, false] (Slc g 0 (16*k) cap) (16*k) (strG (eBlk ks c) k) (mid (encL ks (ctrN c k)) 0 (n - 16*k)) (some ⟨nb7, 0, none⟩) (n - 16*k) 16 n Tryd.underlying22 Tryd.info5 rfl (.inr ⟨g, sp, cap, rfl, rfl, (by first | exact (strG_len (fun k => eBlk_len hc k) k) | simp [(strG_len (fun k => eBlk_len hc k) k)]), hx4, (by omega), hx6⟩) rfl (by first | exact hl1 | simp [hl1]; try omega) (SrcAt.mem (MemAt.ent 2 rfl (segm_u8 0 (n - 16*k) (by rw [(encL_len _ _ (ctrN_len hc k))]; omega)))) (by omega) (by unfold maxLen; omega) (by omega))) ?_
    rintro v1 L1 ⟨nb9, sp2, cp2, hg2, rfl, rfl, ha5, ha6, ha7, ha8⟩
    refine ⟨[], ?_⟩
    show DP _ _ _ _ _ _ _ _ [⟨nb4, [Slc g 0 (16*k) cap], 22, (0, 0)⟩, ⟨nb7, cu8 (encL ks (ctrN c k)), 54, (0, 0)⟩, ⟨nb9, cu8 ((strG (eBlk ks c) k) ++ (mid (encL ks (ctrN c k)) 0 (n - 16*k))) ++ sp2, 5, (0, 0)⟩]
    refine DP_one ⟨[7], [0, 1, 2, 3, 4, 5, 6], [0, 1, 2, 3, 4, 5, 6], [], [8]⟩ 8 _ rfl rfl (by decide +kernel) rfl trivial rfl (Cok_step rfl (Step_store 0 nb4 0 1 ([Slc g 0 (16*k) cap]) 22 (Slc nb9 0 n cp2) ([Slc nb9 0 n cp2]) ([Slc nb9 0 n cp2]) rfl rfl rfl rfl Tryd.sizeOf22 rfl (by simp [Value.oneCell']) (Nat.le_of_ble_eq_true rfl) (lay_whole (by simp [])))) ?_
    rintro v1 L1 ⟨rfl, rfl⟩
    refine ⟨[], ?_⟩
    show DP _ _ _ _ _ _ _ _ [⟨nb4, [Slc nb9 0 n cp2], 22, (0, 0)⟩, ⟨nb7, cu8 (encL ks (ctrN c k)), 54, (0, 0)⟩, ⟨nb9, cu8 ((strG (eBlk ks c) k) ++ (mid (encL ks (ctrN c k)) 0 (n - 16*k))) ++ sp2, 5, (0, 0)⟩]
    refine DP_end ⟨[7, 8], [0, 1, 2, 3, 4, 5, 6], [0, 1, 2, 3, 4, 5, 6], [], []⟩ rfl rfl (by decide +kernel) rfl trivial ?_
    refine K_sub (F' := [(5, Ptr nb2 0), (6, .slice none 0 0), (7, Ptr nb4 0)]) (Sub.cons (by kernel_rfl) (Sub.cons (by kernel_rfl) (Sub.cons (by kernel_rfl) (Sub.nil)))) ?_
    show JQ _ _ _ [(5, Ptr nb2 0), (6, .slice none 0 0), (7, Ptr nb4 0)] _
    refine JQ_then ?_
    refine JC_seq ?_
    refine JC_region ?_
    refine JL_val (Slc nb9 0 n cp2) (Ev_load rfl (Ld_one Tryd.isAgg22 (MemAt.ent 0 rfl (Seg.head)))) rfl ?_
    refine JL_val (I64 ((n:Int))) (Ev_len Tryd.underlying22 rfl) rfl ?_
    refine JL_val (I64 ((n:Int))) (Ev_load rfl (Ld_one Tryd.isAgg3 (MemAt.seg (MemAt.heap ((World.putObj_heap_other hA0.2.2).trans hA0.1) hA0.2.1) (Seg.head) (by omega)))) rfl ?_
    refine JL_val (.bool (decide (((n:Int)) = ((n:Int))))) (Ev_bini rfl rfl fun _ => bin_eql_i _ _) rfl ?_
    refine JL_nil ?_
    refine JQ_then ?_
    refine JC_condT _ rfl (by simp) ?_
    refine JC_exit ?_
    refine JQ_in_other rfl ?_
    refine K_pick [0, 2] (by decide) ?_
    show K _ _ [⟨nb4, [Slc nb9 0 n cp2], 22, (0, 0)⟩, ⟨nb9, cu8 ((strG (eBlk ks c) k) ++ (mid (encL ks (ctrN c k)) 0 (n - 16*k))) ++ sp2, 5, (0, 0)⟩] _
    refine JQ_bodyX ⟨rfl, nb9, sp2, cp2, by rw [← strT_part (fun k => eBlk_len hc k) (k := k) (by omega) (by omega)]; rfl, by omega, by omega, ha8⟩
  ·
   intro D k L' W' hf
   exact hf.elim
  ·
   intro D k c L' W' hf hX hw' hD hDle
   obtain ⟨rfl, g, sp, cap, rfl, hx4, hx5, hx6⟩ := hX
   show JC _ _ _ _ [⟨nb2, [I64 ((n:Int))], 3, (0, 0)⟩, ⟨nb4, [Slc g 0 n cap], 22, (0, 0)⟩, ⟨g, cu8 (strT (eBlk ks c) n) ++ sp, 5, (0, 0)⟩]
   refine JC_exit ?_
   refine JQ_in_same ?_
   refine JQ_then ?_
   refine JC_seq ?_
   refine JC_region ?_
   refine JL_val (Slc g 0 n cap) (Ev_load rfl (Ld_one Tryd.isAgg22 (MemAt.ent 1 rfl (Seg.head)))) rfl ?_
   refine JL_val _ (Ev_assign rfl) rfl ?_
   refine JL_nil ?_
   refine JQ_then ?_
   refine JC_ret ?_
   refine JQ_retM D (Slc g 0 n cap) rfl hD rfl hw'.here (fun _ => (res1 Tryd.results133 (RV_tmp rfl))) (fun w1 hw1 => ?_)
   have hw1 := hw'.fin hD hDle hw1 (.deferred none)
   exact ⟨_, _, rfl, ⟨g, sp, cap, rfl, rfl, hx4, hx5, hx6⟩, hw1.sub (by simp) (by simp)⟩
theorem cturn_c (po ab : Option Addr) (ks c b : List UInt8) (n cb : Nat) (w : World) (hc : c.length = 16) (hn : n ≤ 65536) (hb : b.length = n) (hC : CiphM w [] po ks) (hr : RdB w [] ab b) : Calls Tryd.prog 125 #[.pointer po, .agg (cu8 c).toArray, .slice ab n cb] w (Post w [] (fun v L => ∃ g sp cap, v = Slc g 0 n cap ∧ L = [⟨g, cu8 (xorN (strT (eBlk ks c) n) b n) ++ sp, 5, (0, 0)⟩] ∧ sp.length = cap - n ∧ n ≤ cap ∧ cap ≤ maxLen)) := by
 refine enter w [] 31 [] [.pointer po, .agg (cu8 c).toArray, .slice ab n cb] Tryd.func125 rfl rfl (by simp) (Hp.start (by simp) (by simp) (by simp)) ?_
 show JC _ _ _ [(0, .pointer po), (1, .agg (cu8 c).toArray), (2, .slice ab n cb)] _
 refine JC_seq ?_
 refine JC_region ?_
 refine JL_step (Step_box (.agg (cu8 c).toArray) (cu8 c) rfl (by first | rfl | simp)) rfl ?_
 rintro v1 L1 ⟨nb1, hnb1, rfl, rfl⟩
 show JL _ _ _ _ ((4, Ptr nb1 0) :: _) [⟨nb1, cu8 c, 54, (0, 0)⟩]
 refine JL_val _ (Ev_assign rfl) rfl ?_
 refine JL_nil ?_
 refine JQ_then ?_
 refine JC_seq ?_
 refine JC_region ?_
 refine JL_val _ (Ev_move rfl) rfl ?_
 refine JL_val (.agg (cu8 c).toArray) (Ev_load rfl (Ld_agg Tryd.isAgg54 Tryd.sizeOf54 (len_cu8 hc) (MemAt.ent 0 rfl (Seg.whole _)))) rfl ?_
 refine JL_val _ (Ev_move rfl) rfl ?_
 refine JL_val (I64 ((n:Int))) (Ev_len Tryd.underlying22 rfl) rfl ?_
 refine JL_step (Step_callN 133 [.pointer po, .agg (cu8 c).toArray, I64 ((n:Int))] _ (Cl_func [.pointer po, .agg (cu8 c).toArray, I64 ((n:Int))] Tryd.call133 rfl) (fun w1 hw1 => stream_c po ks c n w1 hc (by omega) (hC.at hw1))) rfl ?_
 rintro v1 L1 ⟨_, ⟨nb2, sp1, cp1, rfl, rfl, hc1, hc2, hc3⟩, rfl⟩
 show JL _ _ _ _ ((14, Slc nb2 0 n cp1) :: _) [⟨nb1, cu8 c, 54, (0, 0)⟩, ⟨nb2, cu8 (strT (eBlk ks c) n) ++ sp1, 5, (0, 0)⟩]
 refine JL_val _ (Ev_assign rfl) rfl ?_
 refine JL_nil ?_
 refine JQ_then ?_
 refine JC_seq ?_
 refine JC_seq ?_
 refine JC_region ?_
 refine JL_val _ (Ev_move rfl) rfl ?_
 refine JL_val (I64 ((n:Int))) (Ev_len Tryd.underlying22 rfl) rfl ?_
 refine JL_val _ (Ev_move rfl) rfl ?_
 refine JL_nil ?_
 refine JQ_then ?_
 refine JC_block ?_
 refine K_mask [false, true] ?_
 show JC _ _ _ _ [⟨nb2, cu8 (strT (eBlk ks c) n) ++ sp1, 5, (0, 0)⟩]
 refine JC_loop (ι := Nat × List UInt8) (fun ⟨i, s⟩ => [(6, .slice none 0 0), (7, Slc nb2 0 n cp1), (15, .slice ab n cb), (16, I64 ((n:Int))), (17, I64 ((i:Int)))]) (fun ⟨i, s⟩ => [⟨nb2, cu8 s ++ sp1, 5, (0, 0)⟩]) (fun ⟨i, s⟩ => i ≤ n ∧ s = xorN (strT (eBlk ks c) n) b i ∧ s.length = n) (fun ⟨i, s⟩ => n - i) (0, strT (eBlk ks c) n) ⟨by omega, rfl, strT_len (fun k => eBlk_len hc k) n⟩ (Sub.cons rfl (Sub.cons rfl (Sub.cons rfl (Sub.cons rfl (Sub.cons rfl (Sub.nil)))))) rfl ?_
 rintro ⟨i, s⟩ ⟨hy1, hy2, hs⟩
 show JC _ _ _ [(6, .slice none 0 0), (7, Slc nb2 0 n cp1), (15, .slice ab n cb), (16, I64 ((n:Int))), (17, I64 ((i:Int)))] [⟨nb2, cu8 s ++ sp1, 5, (0, 0)⟩]
 refine JC_seq ?_
 refine JC_region ?_
 refine JL_val (.bool (decide (((i:Int)) < ((n:Int))))) (Ev_bini rfl rfl fun _ => bin_lss_i _ _) rfl ?_
 refine JL_nil ?_
 refine JQ_then ?_
 refine JC_seq ?_
 refine JC_cond (decide (((i:Int)) < ((n:Int)))) rfl (fun hb1 => ?_) (fun hb1 => ?_)
 ·
  have hp1 : ((i:Int)) < ((n:Int)) := of_decide_eq_true hb1
  refine JC_skip ?_
  refine JQ_then ?_
  refine JC_seq ?_
  refine JC_block ?_
  refine JC_seq ?_
  refine JC_region ?_
  refine JL_val _ (Ev_move rfl) rfl ?_
  obtain ⟨bz1, oz1, hz1, hm1⟩ := hr.pos (by rw [hb]; omega)
  refine JL_val (Ptr bz1 (i + oz1)) (Ev_indexSlG 5 1 (i + oz1) Tryd.underlying22 Tryd.sizeOf5 rfl hz1 rfl (by omega) (by omega) (by omega)) rfl ?_
  refine JL_val (U8 (g8 b i)) (Ev_load rfl (Ld_one Tryd.isAgg5 (MemAt.seg (MemAt.base hm1.1 hm1.2.1 hm1.2.2) (Seg.get (g8_get (i := i) (by rw [hb]; omega))) (by omega)))) rfl ?_
  refine JL_val _ (Ev_assign rfl) rfl ?_
  refine JL_val _ (Ev_assign rfl) rfl ?_
  refine JL_nil ?_
  refine JQ_then ?_
  refine JC_region ?_
  refine JL_val _ (Ev_move rfl) rfl ?_
  refine JL_val _ (Ev_move rfl) rfl ?_
  refine JL_val (Ptr nb2 i) (Ev_indexSl 5 1 i Tryd.underlying22 Tryd.sizeOf5 rfl rfl (by omega) (by omega) (by omega)) rfl ?_
  refine JL_val (U8 (g8 s i)) (Ev_load rfl (Ld_one Tryd.isAgg5 (MemAt.ent 0 rfl (Seg.left (Seg.get (g8_get (i := i) (by rw [hs]; omega))))))) rfl ?_
  refine JL_val _ (Ev_move rfl) rfl ?_
  refine JL_val (U8 ((g8 s i) ^^^ (g8 b i))) (Ev_bini rfl rfl fun _ => bin_xor_u8 (g8 s i) (g8 b i)) rfl ?_
  refine JL_val (Ptr nb2 i) (Ev_indexSl 5 1 i Tryd.underlying22 Tryd.sizeOf5 rfl rfl (by omega) (by omega) (by omega)) rfl ?_
  have hl1 : (s.set i ((g8 s i) ^^^ (g8 b i))).length = n := by first | (rw [List.length_set]; exact hs) | simp [hs]
  refine JL_step (Step_store 0 nb2 i 1 (cu8 s ++ sp1) 5 (U8 ((g8 s i) ^^^ (g8 b i))) ([U8 ((g8 s i) ^^^ (g8 b i))]) (cu8 (s.set i ((g8 s i) ^^^ (g8 b i))) ++ sp1) rfl rfl rfl rfl Tryd.sizeOf5 rfl (by simp [Value.oneCell']) (by simp [hs, hc1]; try omega) (lay_left (p := cu8 s) (vs := [U8 ((g8 s i) ^^^ (g8 b i))]) (o := i) (by simp [hs]; omega) (lay8 _ _ _ (by rw [hs]; omega)))) rfl ?_
  rintro v1 L1 ⟨rfl, rfl⟩
  show JL _ _ _ _ _ [⟨nb2, cu8 (s.set i ((g8 s i) ^^^ (g8 b i))) ++ sp1, 5, (0, 0)⟩]
  refine JL_nil ?_
  refine JQ_in_normal ?_
  refine JQ_then ?_
  refine JC_region ?_
  refine JL_val (I64 ((i:Int) + 1)) (Ev_bini rfl rfl fun _ => bin_add_i _ _ ((i:Int) + 1) (by omega) (by omega)) rfl ?_
  refine JL_val _ (Ev_move rfl) rfl ?_
  refine JL_nil ?_
  refine JQ_thenK ?_
  refine K_next (i + 1, s.set i ((g8 s i) ^^^ (g8 b i))) ⟨by omega, by rw [xorN, ← hy2], hl1⟩ (by first | (simp; omega) | simp | (dsimp only; omega) | omega) (Sub.cons rfl (Sub.cons rfl (Sub.cons rfl (Sub.cons rfl (Sub.cons rfl (Sub.nil)))))) rfl
 ·
  have hp1 : ¬ (((i:Int)) < ((n:Int))) := of_decide_eq_false hb1
  refine JC_exit ?_
  refine JQ_then_exit ?_
  refine JQ_then_exit ?_
  refine JQ_in_same ?_
  refine JQ_then ?_
  refine JC_seq ?_
  refine JC_region ?_
  refine JL_val _ (Ev_move rfl) rfl ?_
  refine JL_val _ (Ev_assign rfl) rfl ?_
  refine JL_nil ?_
  refine JQ_then ?_
  refine JC_ret ?_
  refine JQ_ret (Slc nb2 0 n cp1) (res1 Tryd.results125 (RV_tmp rfl)) fun w1 hw1 => ?_
  have e1 : i = n := by omega
  subst e1
  rw [hy2] at hw1
  exact ⟨_, _, rfl, ⟨nb2, sp1, cp1, rfl, rfl, hc1, hc2, hc3⟩, hw1.sub (by simp) (by simp)⟩
end Go.Proofs.YtncoifiafklkjaaDoor
namespace Go.Proofs.YtncoifiafklkjaaDoor
open Go Go.Sx
set_option linter.unusedVariables false
set_option linter.unusedSimpArgs false
set_option maxRecDepth 100000
attribute [local irreducible] mid zr8 encL rkL thereL backL nextL strT
theorem CiphM.own {w : World} {c : Nat} {ks : List UInt8} (hl : ks.length = 176) (h : w.heap[c]? = some (.cells (cu8 ks ++ cu8 thereL ++ cu8 backL).toArray 170 (0, 0))) : CiphM w [] (some ⟨c, 0, none⟩) ks :=
 .inr ⟨c, rfl, heap_lt h, by simp, hl, h⟩
end Go.Proofs.YtncoifiafklkjaaDoor
namespace Go.Sx
def rotr (x : UInt32) (k : Nat) : UInt32 := (x <<< UInt32.ofNat (32 - k)) ||| (x >>> UInt32.ofNat k)
def wordL (z : List UInt8) : UInt32 := ((((g8 z 0).toUInt32 <<< (24:UInt32)) ||| ((g8 z 1).toUInt32 <<< (16:UInt32))) ||| ((g8 z 2).toUInt32 <<< (8:UInt32))) ||| (g8 z 3).toUInt32
def wrdN (z : List UInt8) (t : Nat) : Nat → UInt32
 | 0 => 0
 | i + 1 => wrdN z t i * 256 + (g8 z (i + 4*t)).toUInt32
def spS (blk : List UInt8) (t : Nat) (w : List UInt32) : List UInt32 :=
 if t < 16 then w.set t (wordL (mid blk (4*t) 4))
 else w.set t (((g32 w (t - 16) + ((rotr (g32 w (t - 15)) 7 ^^^ rotr (g32 w (t - 15)) 18) ^^^ (g32 w (t - 15) >>> (3:UInt32)))) + g32 w (t - 7)) + ((rotr (g32 w (t - 2)) 17 ^^^ rotr (g32 w (t - 2)) 19) ^^^ (g32 w (t - 2) >>> (10:UInt32))))
def spN (blk : List UInt8) : Nat → List UInt32
 | 0 => zr32 64
 | t + 1 => spS blk t (spN blk t)
theorem spN_len (blk : List UInt8) : ∀ t, (spN blk t).length = 64
 | 0 => zr32_len 64
 | t + 1 => by rw [spN, spS]; split <;> simp [spN_len blk t]
def spreadL (blk : List UInt8) : List UInt32 := spN blk 64
theorem spreadL_len (blk : List UInt8) : (spreadL blk).length = 64 := spN_len blk 64
def shaP (e f g h k w : UInt32) : UInt32 := (((h + ((rotr e 6 ^^^ rotr e 11) ^^^ rotr e 25)) + ((e &&& f) ^^^ ((~~~e) &&& g))) + k) + w
def shaQ (a b c : UInt32) : UInt32 := ((rotr a 2 ^^^ rotr a 13) ^^^ rotr a 22) + (((a &&& b) ^^^ (a &&& c)) ^^^ (b &&& c))
def rdS (s : List UInt32) (k w : UInt32) : List UInt32 :=
 let p := shaP (g32 s 4) (g32 s 5) (g32 s 6) (g32 s 7) k w
 let q := shaQ (g32 s 0) (g32 s 1) (g32 s 2)
 [p + q, g32 s 0, g32 s 1, g32 s 2, g32 s 3 + p, g32 s 4, g32 s 5, g32 s 6]
def cpN (kk : List UInt32) (s : List UInt32) (w : List UInt32) : Nat → List UInt32
 | 0 => s
 | t + 1 => rdS (cpN kk s w t) (g32 kk t) (g32 w t)
theorem cpN_len {kk s w : List UInt32} (h : s.length = 8) : ∀ t, (cpN kk s w t).length = 8
 | 0 => h
 | _ + 1 => rfl
def adN (st s : List UInt32) : Nat → List UInt32
 | 0 => s
 | i + 1 => (adN st s i).set i (g32 (adN st s i) i + g32 st i)
theorem adN_len (st s : List UInt32) : ∀ i, (adN st s i).length = s.length
 | 0 => rfl
 | i + 1 => by simp [adN, adN_len st s i]
def comprL (kk st : List UInt32) (blk : List UInt8) : List UInt32 := adN st (cpN kk st (spreadL blk) 64) 8
theorem comprL_len {kk st : List UInt32} {blk : List UInt8} (h : st.length = 8) : (comprL kk st blk).length = 8 := by rw [comprL, adN_len, cpN_len h]
theorem adN_get (st s : List UInt32) : ∀ i, i ≤ s.length → ∀ j, g32 (adN st s i) j = if j < i then g32 s j + g32 st j else g32 s j
  | 0, _, j => by simp [adN]
  | i + 1, hi, j => by
    rw [adN, g32_set _ _ _ _ (by rw [adN_len]; omega)]
    by_cases h : i = j
    · subst h; rw [if_pos rfl, if_pos (by omega), adN_get st s i (by omega), if_neg (by omega)]
    · rw [if_neg h, adN_get st s i (by omega)]
      by_cases h2 : j < i
      · rw [if_pos h2, if_pos (by omega)]
      · rw [if_neg h2, if_neg (by omega)]
theorem comprL_eq {kk st : List UInt32} {blk : List UInt8} (h : st.length = 8) (a b c d e f g h' : UInt32) (hs : cpN kk st (spreadL blk) 64 = [a, b, c, d, e, f, g, h']) :
  comprL kk st blk = [g32 st 0 + a, g32 st 1 + b, g32 st 2 + c, g32 st 3 + d, g32 st 4 + e, g32 st 5 + f, g32 st 6 + g, g32 st 7 + h'] := by
 refine ext32 (by rw [comprL_len h]; rfl) fun j hj => ?_
 rw [comprL_len h] at hj
 rw [comprL, adN_get _ _ _ (by rw [hs]; exact Nat.le_refl _), if_pos hj, hs]
 have : j = 0 ∨ j = 1 ∨ j = 2 ∨ j = 3 ∨ j = 4 ∨ j = 5 ∨ j = 6 ∨ j = 7 := by omega
 rcases this with rfl | rfl | rfl | rfl | rfl | rfl | rfl | rfl <;> simp [g32, UInt32.add_comm]
theorem ofN (k : Nat) (h : k < 4294967296) : (UInt64.ofNat k).toNat = k := by rw [UInt64.toNat_ofNat']; exact Nat.mod_eq_of_lt (by omega)
theorem shl_lit (a : UInt8) (k : UInt32) (hk : k.toNat ≤ 24) : (a.toUInt32 <<< k).toNat = a.toNat * 2 ^ k.toNat := by
 have ha := a.toNat_lt
 rw [UInt32.toNat_shiftLeft, UInt8.toNat_toUInt32, Nat.shiftLeft_eq, Nat.mod_eq_of_lt (a := k.toNat) (by omega)]
 refine Nat.mod_eq_of_lt ?_
 have h2 : 2 ^ k.toNat ≤ 2 ^ 24 := Nat.pow_le_pow_right (by omega) hk
 have h3 : a.toNat * 2 ^ k.toNat ≤ a.toNat * 2 ^ 24 := Nat.mul_le_mul_left _ h2
 omega
theorem or_add (x y : UInt32) (k : Nat) (hx : x.toNat % 2 ^ k = 0) (hy : y.toNat < 2 ^ k) : (x ||| y).toNat = x.toNat + y.toNat := by
 rw [UInt32.toNat_or]
 have := Nat.shiftLeft_add_eq_or_of_lt (i := k) (b := y.toNat) hy (x.toNat / 2 ^ k)
 rw [Nat.shiftLeft_eq, Nat.div_mul_cancel (Nat.dvd_of_mod_eq_zero hx)] at this
 exact this.symm
theorem wordL_val (z : List UInt8) : (wordL z).toNat = (g8 z 0).toNat * 16777216 + (g8 z 1).toNat * 65536 + (g8 z 2).toNat * 256 + (g8 z 3).toNat := by
 have h0 := (g8 z 0).toNat_lt; have h1 := (g8 z 1).toNat_lt; have h2 := (g8 z 2).toNat_lt; have h3 := (g8 z 3).toNat_lt
 have e0 := shl_lit (g8 z 0) 24 (by decide)
 have e1 := shl_lit (g8 z 1) 16 (by decide)
 have e2 := shl_lit (g8 z 2) 8 (by decide)
 simp only [show (24 : UInt32).toNat = 24 from rfl, show (16 : UInt32).toNat = 16 from rfl, show (8 : UInt32).toNat = 8 from rfl] at e0 e1 e2
 have s1 := or_add ((g8 z 0).toUInt32 <<< (24:UInt32)) ((g8 z 1).toUInt32 <<< (16:UInt32)) 24 (by rw [e0]; omega) (by rw [e1]; omega)
 have s2 := or_add _ ((g8 z 2).toUInt32 <<< (8:UInt32)) 16 (by rw [s1, e0, e1]; omega) (by rw [e2]; omega)
 have s3 := or_add _ ((g8 z 3).toUInt32) 8 (by rw [s2, s1, e0, e1, e2]; omega) (by rw [UInt8.toNat_toUInt32]; omega)
 rw [wordL, s3, s2, s1, e0, e1, e2, UInt8.toNat_toUInt32]
theorem wrd_word (blk : List UInt8) (t : Nat) : wrdN blk t 4 = wordL (mid blk (4*t) 4) := by
 apply UInt32.toNat_inj.1
 have g : ∀ i, i < 4 → g8 (mid blk (4*t) 4) i = g8 blk (i + 4*t) := fun i hi => by rw [g8_mid hi, Nat.add_comm]
 rw [wordL_val, g 0 (by omega), g 1 (by omega), g 2 (by omega), g 3 (by omega)]
 have h0 := (g8 blk (0 + 4*t)).toNat_lt; have h1 := (g8 blk (1 + 4*t)).toNat_lt; have h2 := (g8 blk (2 + 4*t)).toNat_lt; have h3 := (g8 blk (3 + 4*t)).toNat_lt
 have e : ∀ (a : UInt32) (b : UInt8), (a * 256 + b.toUInt32).toNat = (a.toNat * 256 + b.toNat) % 4294967296 := fun a b => by
  rw [UInt32.toNat_add, UInt32.toNat_mul, UInt8.toNat_toUInt32, show (256 : UInt32).toNat = 256 from rfl]; omega
 have z0 : (wrdN blk t 0).toNat = 0 := rfl
 have e1 : (wrdN blk t 1).toNat = _ := e (wrdN blk t 0) (g8 blk (0 + 4*t))
 have e2 : (wrdN blk t 2).toNat = _ := e (wrdN blk t 1) (g8 blk (1 + 4*t))
 have e3 : (wrdN blk t 3).toNat = _ := e (wrdN blk t 2) (g8 blk (2 + 4*t))
 have e4 : (wrdN blk t 4).toNat = _ := e (wrdN blk t 3) (g8 blk (3 + 4*t))
 omega
def nzP (n : Nat) : Nat := (119 - n % 64) % 64
def lenN (n : Nat) : Nat → List UInt8
 | 0 => []
 | i + 1 => lenN n i ++ [((8 * UInt64.ofNat n) >>> UInt64.ofNat (56 - 8*i)).toUInt8]
theorem lenN_len (n : Nat) : ∀ i, (lenN n i).length = i
 | 0 => rfl
 | i + 1 => by simp [lenN, lenN_len n i]
def padL (b : List UInt8) : List UInt8 := ((b ++ [128]) ++ zr8 (nzP b.length)) ++ lenN b.length 8
theorem padL_len (b : List UInt8) : (padL b).length = b.length + 9 + nzP b.length := by simp [padL, lenN_len, zr8_len]; omega
theorem pad_mod (b : List UInt8) : (padL b).length % 64 = 0 := by rw [padL_len, nzP]; omega
def stN (kk init : List UInt32) (p : List UInt8) : Nat → List UInt32
 | 0 => init
 | k + 1 => comprL kk (stN kk init p k) (mid p (64*k) 64)
theorem stN_len {kk init : List UInt32} {p : List UInt8} (h : init.length = 8) : ∀ k, (stN kk init p k).length = 8
 | 0 => h
 | k + 1 => comprL_len (stN_len h k)
def byteAt (s : List UInt32) (i : Nat) : UInt8 := (g32 s (i / 4) >>> UInt32.ofNat (24 - 8*(i % 4))).toUInt8
def hashL (s : List UInt32) : List UInt8 := (List.range 32).map (byteAt s)
theorem hashL_len (s : List UInt32) : (hashL s).length = 32 := by simp [hashL]
def outN (s : List UInt32) : Nat → List UInt8
 | 0 => zr8 32
 | i + 1 => spl (outN s i) (4*i) [(g32 s i >>> (24:UInt32)).toUInt8, (g32 s i >>> (16:UInt32)).toUInt8, (g32 s i >>> (8:UInt32)).toUInt8, (g32 s i).toUInt8]
def routN (s : List UInt32) : Nat → List UInt8
 | 0 => zr8 32
 | i + 1 => (routN s i).set i (byteAt s i)
theorem outN_len (s : List UInt32) : ∀ i, i ≤ 8 → (outN s i).length = 32
 | 0, _ => zr8_len 32
 | i + 1, h => by rw [outN, spl_len (by rw [outN_len s i (by omega)]; simp; omega), outN_len s i (by omega)]
theorem routN_len (s : List UInt32) : ∀ i, (routN s i).length = 32
 | 0 => zr8_len 32
 | i + 1 => by rw [routN, List.length_set, routN_len s i]
theorem byteAt4 (s : List UInt32) (i : Nat) : ∀ d, d < 4 → g8 [(g32 s i >>> (24:UInt32)).toUInt8, (g32 s i >>> (16:UInt32)).toUInt8, (g32 s i >>> (8:UInt32)).toUInt8, (g32 s i).toUInt8] d = byteAt s (4*i + d)
 | 0, _ => by rw [byteAt, show (4*i + 0) / 4 = i from by omega, show (4*i + 0) % 4 = 0 from by omega]; rfl
 | 1, _ => by rw [byteAt, show (4*i + 1) / 4 = i from by omega, show (4*i + 1) % 4 = 1 from by omega]; rfl
 | 2, _ => by rw [byteAt, show (4*i + 2) / 4 = i from by omega, show (4*i + 2) % 4 = 2 from by omega]; rfl
 | 3, _ => by
  rw [byteAt, show (4*i + 3) / 4 = i from by omega, show (4*i + 3) % 4 = 3 from by omega]
  have : g32 s i >>> UInt32.ofNat (24 - 8 * 3) = g32 s i := by
   apply UInt32.toNat_inj.1
   rw [UInt32.toNat_shiftRight]; rfl
  rw [this]; rfl
 | _ + 4, h => absurd h (by omega)
theorem outN_get (s : List UInt32) : ∀ i, i ≤ 8 → ∀ j, j < 4*i → g8 (outN s i) j = byteAt s j
  | 0, _, j, hj => by omega
  | i + 1, hi, j, hj => by
    rw [outN, g8_spl (by rw [outN_len s i (by omega)]; simp; omega)]
    by_cases h : 4*i ≤ j ∧ j < 4*i + ([(g32 s i >>> (24:UInt32)).toUInt8, (g32 s i >>> (16:UInt32)).toUInt8, (g32 s i >>> (8:UInt32)).toUInt8, (g32 s i).toUInt8] : List UInt8).length
    · rw [if_pos h, byteAt4 s i (j - 4*i) (by simp at h; omega), show 4*i + (j - 4*i) = j from by omega]
    · rw [if_neg h]; exact outN_get s i (by omega) j (by simp at h; omega)
theorem outN_hash (s : List UInt32) : outN s 8 = hashL s :=
 ext8 (by rw [outN_len s 8 (by omega), hashL_len]) fun j hj => by
  rw [outN_len s 8 (by omega)] at hj
  rw [outN_get s 8 (by omega) j (by omega), hashL, g8_map_range hj]
theorem routN_get (s : List UInt32) : ∀ i, i ≤ 32 → ∀ j, j < i → g8 (routN s i) j = byteAt s j
  | 0, _, j, hj => by omega
  | i + 1, hi, j, hj => by
    rw [routN, g8_set _ _ _ _ (by rw [routN_len]; omega)]
    by_cases h : i = j
    · subst h; rw [if_pos rfl]
    · rw [if_neg h]; exact routN_get s i (by omega) j (by omega)
theorem routN_hash (s : List UInt32) : routN s 32 = hashL s :=
 ext8 (by rw [routN_len, hashL_len]) fun j hj => by
  rw [routN_len] at hj
  rw [routN_get s 32 (by omega) j hj, hashL, g8_map_range hj]
def sumG (kk init : List UInt32) (b : List UInt8) : List UInt8 := hashL (stN kk init (padL b) ((padL b).length / 64))
theorem sumG_len (kk init : List UInt32) (b : List UInt8) : (sumG kk init b).length = 32 := hashL_len _
end Go.Sx
namespace Go.Proofs.YtncoifiafklkjaaDoor
open Go Go.Sx
set_option linter.unusedVariables false
set_option linter.unusedSimpArgs false
set_option maxRecDepth 100000
attribute [local irreducible] mid zr8 zr32 rotr wordL
def constL : List UInt32 := [1116352408, 1899447441, 3049323471, 3921009573, 961987163, 1508970993, 2453635748, 2870763221, 3624381080, 310598401, 607225278, 1426881987, 1925078388, 2162078206, 2614888103, 3248222580, 3835390401, 4022224774, 264347078, 604807628, 770255983, 1249150122, 1555081692, 1996064986, 2554220882, 2821834349, 2952996808, 3210313671, 3336571891, 3584528711, 113926993, 338241895, 666307205, 773529912, 1294757372, 1396182291, 1695183700, 1986661051, 2177026350, 2456956037, 2730485921, 2820302411, 3259730800, 3345764771, 3516065817, 3600352804, 4094571909, 275423344, 430227734, 506948616, 659060556, 883997877, 958139571, 1322822218, 1537002063, 1747873779, 1955562222, 2024104815, 2227730452, 2361852424, 2428436474, 2756734187, 3204031479, 3329325298]
def initL : List UInt32 := [1779033703, 3144134277, 1013904242, 2773480762, 1359893119, 2600822924, 528734635, 1541459225]
theorem constL_len : constL.length = 64 := rfl
theorem initL_len : initL.length = 8 := rfl
def GLs (w : World) : Prop := RdA w 3 0 (cu32 constL) ∧ RdA w 2 0 (cu32 initL)
def GLr (w : World) : Prop := RdA w 0 0 (cu32 constL)
def GLi (w : World) : Prop := RdA w 1 0 (cu32 initL)
theorem RdA_at {C : Cx} {L : List Ent} {w : World} {b off : Nat} {vs : List Value} (hw : Hp C.w0 C.M L w) (h : RdA C.w0 b off vs) (hz : 0 < vs.length) (hM : b ∉ C.M) : RdA w b off vs := RdA.of hw (h.mem hM) hz
theorem GLs.at {C : Cx} {L : List Ent} {w : World} (hw : Hp C.w0 C.M L w) (h : GLs C.w0) (h1 : 3 ∉ C.M := by simp) (h2 : 2 ∉ C.M := by simp) : GLs w := ⟨RdA_at hw h.1 (by simp [constL_len]) h1, RdA_at hw h.2 (by simp [initL_len]) h2⟩
theorem GLr.at {C : Cx} {L : List Ent} {w : World} (hw : Hp C.w0 C.M L w) (h : GLr C.w0) (h1 : 0 ∉ C.M := by simp) : GLr w := RdA_at hw h (by simp [constL_len]) h1
theorem GLi.at {C : Cx} {L : List Ent} {w : World} (hw : Hp C.w0 C.M L w) (h : GLi C.w0) (h1 : 1 ∉ C.M := by simp) : GLi w := RdA_at hw h (by simp [initL_len]) h1
theorem rot_and {k : Nat} (h1 : 1 ≤ k) (h2 : k ≤ 31) : (u64i (-(k:Int)) &&& (31:UInt64)).toNat = 32 - k := by
 have : k = 1 ∨ k = 2 ∨ k = 3 ∨ k = 4 ∨ k = 5 ∨ k = 6 ∨ k = 7 ∨ k = 8 ∨ k = 9 ∨ k = 10 ∨ k = 11 ∨ k = 12 ∨ k = 13 ∨ k = 14 ∨ k = 15 ∨ k = 16 ∨ k = 17 ∨ k = 18 ∨ k = 19 ∨ k = 20 ∨ k = 21 ∨ k = 22 ∨ k = 23 ∨ k = 24 ∨ k = 25 ∨ k = 26 ∨ k = 27 ∨ k = 28 ∨ k = 29 ∨ k = 30 ∨ k = 31 := by omega
 rcases this with rfl | rfl | rfl | rfl | rfl | rfl | rfl | rfl | rfl | rfl | rfl | rfl | rfl | rfl | rfl | rfl | rfl | rfl | rfl | rfl | rfl | rfl | rfl | rfl | rfl | rfl | rfl | rfl | rfl | rfl | rfl <;> rfl
theorem rotl_c (x : UInt32) (k : Nat) (w : World) (h1 : 1 ≤ k) (h2 : k ≤ 31) : Calls Tryd.prog 115 #[U32 x, I64 (-(k:Int))] w (Post w [] (fun v L => v = U32 (rotr x k) ∧ L = [])) := by
 have hr := rot_and h1 h2
 have hs2 : ((32:UInt64) - (u64i (-(k:Int)) &&& (31:UInt64))).toNat = k := by rw [UInt64.toNat_sub, hr, show (32:UInt64).toNat = 32 from rfl]; omega
 refine enter w [] 17 [] [U32 x, I64 (-(k:Int))] Tryd.func115 rfl rfl (by simp) (Hp.start (by simp) (by simp) (by simp)) ?_
 show JC _ _ _ [(0, U32 x), (1, I64 (-(k:Int)))] _
 refine JC_seq ?_
 refine JC_region ?_
 refine JL_val _ (Ev_assign rfl) rfl ?_
 refine JL_nil ?_
 refine JQ_then ?_
 refine JC_seq ?_
 refine JC_region ?_
 refine JL_val _ (Ev_move rfl) rfl ?_
 refine JL_val (U64 (u64i (-(k:Int)))) (Ev_conv _ _ rfl fun _ => conv_i64_u64i (by rw [Tryd.underlying3]; rfl) Tryd.underlying52 (-(k:Int))) rfl ?_
 refine JL_val (U64 ((u64i (-(k:Int))) &&& (31:UInt64))) (Ev_bini rfl rfl fun _ => bin_and_u64 (u64i (-(k:Int))) (31:UInt64)) rfl ?_
 refine JL_val _ (Ev_assign rfl) rfl ?_
 refine JL_nil ?_
 refine JQ_then ?_
 refine JC_seq ?_
 refine JC_region ?_
 refine JL_val _ (Ev_move rfl) rfl ?_
 refine JL_val _ (Ev_move rfl) rfl ?_
 refine JL_val (U32 (x <<< UInt32.ofNat (((u64i (-(k:Int))) &&& (31:UInt64)).toNat))) (Ev_bini rfl rfl fun _ => bin_shl_u32 x _ _ (((u64i (-(k:Int))) &&& (31:UInt64)).toNat) (by omega) (by omega)) rfl ?_
 refine JL_val _ (Ev_move rfl) rfl ?_
 refine JL_val _ (Ev_move rfl) rfl ?_
 refine JL_val (U64 ((32:UInt64) - ((u64i (-(k:Int))) &&& (31:UInt64)))) (Ev_bini rfl rfl fun _ => bin_sub_u64 (32:UInt64) ((u64i (-(k:Int))) &&& (31:UInt64))) rfl ?_
 refine JL_val (U32 (x >>> UInt32.ofNat (((32:UInt64) - ((u64i (-(k:Int))) &&& (31:UInt64))).toNat))) (Ev_bini rfl rfl fun _ => bin_shr_u32 x _ _ (((32:UInt64) - ((u64i (-(k:Int))) &&& (31:UInt64))).toNat) (by omega) (by omega)) rfl ?_
 refine JL_val (U32 ((x <<< UInt32.ofNat (((u64i (-(k:Int))) &&& (31:UInt64)).toNat)) ||| (x >>> UInt32.ofNat (((32:UInt64) - ((u64i (-(k:Int))) &&& (31:UInt64))).toNat)))) (Ev_bini rfl rfl fun _ => bin_or_u32 (x <<< UInt32.ofNat (((u64i (-(k:Int))) &&& (31:UInt64)).toNat)) (x >>> UInt32.ofNat (((32:UInt64) - ((u64i (-(k:Int))) &&& (31:UInt64))).toNat))) rfl ?_
 refine JL_val _ (Ev_assign rfl) rfl ?_
 refine JL_nil ?_
 refine JQ_then ?_
 refine JC_ret ?_
 refine JQ_ret (U32 ((x <<< UInt32.ofNat (((u64i (-(k:Int))) &&& (31:UInt64)).toNat)) ||| (x >>> UInt32.ofNat (((32:UInt64) - ((u64i (-(k:Int))) &&& (31:UInt64))).toNat)))) (res1 Tryd.results115 (RV_tmp rfl)) fun w1 hw1 => ?_
 refine ⟨_, [], rfl, ⟨?_, rfl⟩, hw1.sub (by simp) (by simp)⟩
 simp only [hr, hs2]
 rw [rotr]
theorem turn_c (x : UInt32) (k : Nat) (w : World) (h1 : 1 ≤ k) (h2 : k ≤ 31) : Calls Tryd.prog 86 #[U32 x, I64 ((k:Int))] w (Post w [] (fun v L => v = U32 (rotr x k) ∧ L = [])) := by
 refine enter w [] 9 [] [U32 x, I64 ((k:Int))] Tryd.func86 rfl rfl (by simp) (Hp.start (by simp) (by simp) (by simp)) ?_
 show JC _ _ _ [(0, U32 x), (1, I64 ((k:Int)))] _
 refine JC_seq ?_
 refine JC_region ?_
 refine JL_val _ (Ev_assign rfl) rfl ?_
 refine JL_nil ?_
 refine JQ_then ?_
 refine JC_seq ?_
 refine JC_region ?_
 refine JL_val _ (Ev_move rfl) rfl ?_
 refine JL_val _ (Ev_move rfl) rfl ?_
 refine JL_val (I64 (-(k:Int))) (Ev_un _ _ rfl fun _ => un_neg_i _ (-(k:Int)) (by omega) (by omega)) rfl ?_
 refine JL_step (Step_callP 115 [U32 x, I64 (-(k:Int))] (U32 (rotr x k)) (Cl_func [U32 x, I64 (-(k:Int))] Tryd.call115 rfl) (fun w1 hw1 => rotl_c x k w1 (by omega) (by omega))) rfl ?_
 rintro v1 L1 ⟨rfl, rfl⟩
 show JL _ _ _ _ ((8, U32 (rotr x k)) :: _) []
 refine JL_val _ (Ev_assign rfl) rfl ?_
 refine JL_nil ?_
 refine JQ_then ?_
 refine JC_ret ?_
 refine JQ_ret (U32 (rotr x k)) (res1 Tryd.results86 (RV_tmp rfl)) fun w1 hw1 => ?_
 exact ⟨_, [], rfl, ⟨rfl, rfl⟩, hw1.sub (by simp) (by simp)⟩
theorem rturn_c (x : UInt32) (k : Nat) (w : World) (h1 : 1 ≤ k) (h2 : k ≤ 31) : Calls Tryd.prog 87 #[U32 x, I64 ((k:Int))] w (Post w [] (fun v L => v = U32 (rotr x k) ∧ L = [])) := by
 refine enter w [] 15 [] [U32 x, I64 ((k:Int))] Tryd.func87 rfl rfl (by simp) (Hp.start (by simp) (by simp) (by simp)) ?_
 show JC _ _ _ [(0, U32 x), (1, I64 ((k:Int)))] _
 refine JC_seq ?_
 refine JC_region ?_
 refine JL_val _ (Ev_assign rfl) rfl ?_
 refine JL_nil ?_
 refine JQ_then ?_
 refine JC_seq ?_
 refine JC_region ?_
 refine JL_val _ (Ev_move rfl) rfl ?_
 refine JL_val _ (Ev_move rfl) rfl ?_
 refine JL_val (U64 (UInt64.ofNat k)) (Ev_conv _ _ rfl fun _ => conv_i64_u64 (by rw [Tryd.underlying3]; rfl) Tryd.underlying52 k _ (by omega)) rfl ?_
 refine JL_val (U32 (x >>> UInt32.ofNat k)) (Ev_bini rfl rfl fun _ => bin_shr_u32 x _ _ k (by omega) (ofN_i (by omega))) rfl ?_
 refine JL_val _ (Ev_move rfl) rfl ?_
 refine JL_val _ (Ev_move rfl) rfl ?_
 refine JL_val (I64 (-(k:Int) + 32)) (Ev_bini rfl rfl fun _ => bin_sub_i _ _ (-(k:Int) + 32) (by omega) (by omega)) rfl ?_
 refine JL_val (U64 (UInt64.ofNat (32 - k))) (Ev_conv _ _ rfl fun _ => conv_i64_u64 (by rw [Tryd.underlying3]; rfl) Tryd.underlying52 (32 - k) _ (by omega)) rfl ?_
 refine JL_val (U32 (x <<< UInt32.ofNat (32 - k))) (Ev_bini rfl rfl fun _ => bin_shl_u32 x _ _ (32 - k) (by omega) (ofN_i (by omega))) rfl ?_
 refine JL_val (U32 ((x >>> UInt32.ofNat k) ||| (x <<< UInt32.ofNat (32 - k)))) (Ev_bini rfl rfl fun _ => bin_or_u32 (x >>> UInt32.ofNat k) (x <<< UInt32.ofNat (32 - k))) rfl ?_
 refine JL_val _ (Ev_assign rfl) rfl ?_
 refine JL_nil ?_
 refine JQ_then ?_
 refine JC_ret ?_
 refine JQ_ret (U32 ((x >>> UInt32.ofNat k) ||| (x <<< UInt32.ofNat (32 - k)))) (res1 Tryd.results87 (RV_tmp rfl)) fun w1 hw1 => ?_
 refine ⟨_, [], rfl, ⟨?_, rfl⟩, hw1.sub (by simp) (by simp)⟩
 rw [rotr, UInt32.or_comm]
theorem word_c (az : Option Addr) (cz : Nat) (z : List UInt8) (w : World) (hz : z.length = 4) (hr : RdB w [] az z) : Calls Tryd.prog 114 #[.slice az 4 cz] w (Post w [] (fun v L => v = U32 (wordL z) ∧ L = [])) := by
 refine enter w [] 25 [] [.slice az 4 cz] Tryd.func114 rfl rfl (by simp) (Hp.start (by simp) (by simp) (by simp)) ?_
 show JC _ _ _ [(0, .slice az 4 cz)] _
 refine JC_seq ?_
 refine JC_region ?_
 refine JL_val _ (Ev_assign rfl) rfl ?_
 refine JL_nil ?_
 refine JQ_then ?_
 refine JC_seq ?_
 obtain ⟨bz1, oz1, hz1, hm1⟩ := hr.pos (by rw [hz]; omega)
 refine JC_draw 25 1 [(0, .slice az 4 cz), (1, Ptr bz1 oz1), (2, U8 (g8 z 0)), (3, U32 ((g8 z 0).toUInt32)), (4, U32 (((g8 z 0).toUInt32) <<< (24:UInt32))), (5, .slice az 4 cz), (6, Ptr bz1 (oz1 + 1)), (7, U8 (g8 z 1)), (8, U32 ((g8 z 1).toUInt32)), (9, U32 (((g8 z 1).toUInt32) <<< (16:UInt32))), (10, U32 ((((g8 z 0).toUInt32) <<< (24:UInt32)) ||| (((g8 z 1).toUInt32) <<< (16:UInt32)))), (11, .slice az 4 cz), (12, Ptr bz1 (oz1 + 2)), (13, U8 (g8 z 2)), (14, U32 ((g8 z 2).toUInt32)), (15, U32 (((g8 z 2).toUInt32) <<< (8:UInt32))), (16, U32 (((((g8 z 0).toUInt32) <<< (24:UInt32)) ||| (((g8 z 1).toUInt32) <<< (16:UInt32))) ||| (((g8 z 2).toUInt32) <<< (8:UInt32)))), (17, .slice az 4 cz), (18, Ptr bz1 (oz1 + 3)), (19, U8 (g8 z 3)), (20, U32 ((g8 z 3).toUInt32)), (21, U32 ((((((g8 z 0).toUInt32) <<< (24:UInt32)) ||| (((g8 z 1).toUInt32) <<< (16:UInt32))) ||| (((g8 z 2).toUInt32) <<< (8:UInt32))) ||| ((g8 z 3).toUInt32))), (22, U32 ((((((g8 z 0).toUInt32) <<< (24:UInt32)) ||| (((g8 z 1).toUInt32) <<< (16:UInt32))) ||| (((g8 z 2).toUInt32) <<< (8:UInt32))) ||| ((g8 z 3).toUInt32)))] Tryd.mixed rfl (by decide +kernel) ?_
 refine DP_end ⟨[], [0, 1, 2, 3, 4, 5, 6, 7, 8, 9, 10, 11, 12, 13, 14, 15, 16, 17, 18, 19, 20, 21, 22], [], [0, 1, 2, 3, 4, 5, 6, 7, 8, 9, 10, 11, 12, 13, 14, 15, 16, 17, 18, 19, 20, 21, 22], []⟩ rfl rfl (by decide +kernel) rfl ⟨⟨_, rfl, Qok_val rfl (Ev_move rfl)⟩, ⟨_, rfl, Qok_val rfl (Ev_indexSlG 5 1 oz1 Tryd.underlying22 Tryd.sizeOf5 rfl hz1 rfl (by omega) (by omega) (by omega))⟩, ⟨_, rfl, Qok_val rfl (Ev_load rfl (Ld_one Tryd.isAgg5 (MemAt.seg (MemAt.base hm1.1 hm1.2.1 hm1.2.2) (Seg.get (g8_get (i := 0) (by rw [hz]; omega))) (by omega))))⟩, ⟨_, rfl, Qok_val rfl (Ev_conv _ _ rfl fun _ => conv_u8_u32 (by rw [Tryd.underlying5]; rfl) Tryd.underlying30 _)⟩, ⟨_, rfl, Qok_val rfl (Ev_bini rfl rfl fun _ => bin_shl_u32 ((g8 z 0).toUInt32) _ _ 24 (by decide) rfl)⟩, ⟨_, rfl, Qok_val rfl (Ev_move rfl)⟩, ⟨_, rfl, Qok_val rfl (Ev_indexSlG 5 1 (oz1 + 1) Tryd.underlying22 Tryd.sizeOf5 rfl hz1 rfl (by omega) (by omega) (by omega))⟩, ⟨_, rfl, Qok_val rfl (Ev_load rfl (Ld_one Tryd.isAgg5 (MemAt.seg (MemAt.base hm1.1 hm1.2.1 hm1.2.2) (Seg.get (g8_get (i := 1) (by rw [hz]; omega))) (by omega))))⟩, ⟨_, rfl, Qok_val rfl (Ev_conv _ _ rfl fun _ => conv_u8_u32 (by rw [Tryd.underlying5]; rfl) Tryd.underlying30 _)⟩, ⟨_, rfl, Qok_val rfl (Ev_bini rfl rfl fun _ => bin_shl_u32 ((g8 z 1).toUInt32) _ _ 16 (by decide) rfl)⟩, ⟨_, rfl, Qok_val rfl (Ev_bini rfl rfl fun _ => bin_or_u32 (((g8 z 0).toUInt32) <<< (24:UInt32)) (((g8 z 1).toUInt32) <<< (16:UInt32)))⟩, ⟨_, rfl, Qok_val rfl (Ev_move rfl)⟩, ⟨_, rfl, Qok_val rfl (Ev_indexSlG 5 1 (oz1 + 2) Tryd.underlying22 Tryd.sizeOf5 rfl hz1 rfl (by omega) (by omega) (by omega))⟩, ⟨_, rfl, Qok_val rfl (Ev_load rfl (Ld_one Tryd.isAgg5 (MemAt.seg (MemAt.base hm1.1 hm1.2.1 hm1.2.2) (Seg.get (g8_get (i := 2) (by rw [hz]; omega))) (by omega))))⟩, ⟨_, rfl, Qok_val rfl (Ev_conv _ _ rfl fun _ => conv_u8_u32 (by rw [Tryd.underlying5]; rfl) Tryd.underlying30 _)⟩, ⟨_, rfl, Qok_val rfl (Ev_bini rfl rfl fun _ => bin_shl_u32 ((g8 z 2).toUInt32) _ _ 8 (by decide) rfl)⟩, ⟨_, rfl, Qok_val rfl (Ev_bini rfl rfl fun _ => bin_or_u32 ((((g8 z 0).toUInt32) <<< (24:UInt32)) ||| (((g8 z 1).toUInt32) <<< (16:UInt32))) (((g8 z 2).toUInt32) <<< (8:UInt32)))⟩, ⟨_, rfl, Qok_val rfl (Ev_move rfl)⟩, ⟨_, rfl, Qok_val rfl (Ev_indexSlG 5 1 (oz1 + 3) Tryd.underlying22 Tryd.sizeOf5 rfl hz1 rfl (by omega) (by omega) (by omega))⟩, ⟨_, rfl, Qok_val rfl (Ev_load rfl (Ld_one Tryd.isAgg5 (MemAt.seg (MemAt.base hm1.1 hm1.2.1 hm1.2.2) (Seg.get (g8_get (i := 3) (by rw [hz]; omega))) (by omega))))⟩, ⟨_, rfl, Qok_val rfl (Ev_conv _ _ rfl fun _ => conv_u8_u32 (by rw [Tryd.underlying5]; rfl) Tryd.underlying30 _)⟩, ⟨_, rfl, Qok_val rfl (Ev_bini rfl rfl fun _ => bin_or_u32 (((((g8 z 0).toUInt32) <<< (24:UInt32)) ||| (((g8 z 1).toUInt32) <<< (16:UInt32))) ||| (((g8 z 2).toUInt32) <<< (8:UInt32))) ((g8 z 3).toUInt32))⟩, ⟨_, rfl, Qok_val rfl (Ev_assign rfl)⟩, trivial⟩ ?_
 refine K_sub (F' := [(2, U32 ((((((g8 z 0).toUInt32) <<< (24:UInt32)) ||| (((g8 z 1).toUInt32) <<< (16:UInt32))) ||| (((g8 z 2).toUInt32) <<< (8:UInt32))) ||| ((g8 z 3).toUInt32)))]) (Sub.cons (by kernel_rfl) (Sub.nil)) ?_
 show JQ _ _ _ [(2, U32 ((((((g8 z 0).toUInt32) <<< (24:UInt32)) ||| (((g8 z 1).toUInt32) <<< (16:UInt32))) ||| (((g8 z 2).toUInt32) <<< (8:UInt32))) ||| ((g8 z 3).toUInt32)))] _
 refine JQ_then ?_
 refine JC_ret ?_
 refine JQ_ret (U32 ((((((g8 z 0).toUInt32) <<< (24:UInt32)) ||| (((g8 z 1).toUInt32) <<< (16:UInt32))) ||| (((g8 z 2).toUInt32) <<< (8:UInt32))) ||| ((g8 z 3).toUInt32))) (res1 Tryd.results114 (RV_tmp rfl)) fun w1 hw1 => ?_
 refine ⟨_, [], rfl, ⟨?_, rfl⟩, hw1.sub (by simp) (by simp)⟩
 rw [wordL]
end Go.Proofs.YtncoifiafklkjaaDoor
namespace Go.Proofs.YtncoifiafklkjaaDoor
open Go Go.Sx
set_option linter.unusedVariables false
set_option linter.unusedSimpArgs false
set_option maxRecDepth 100000
attribute [local irreducible] mid zr8 zr32 rotr wordL spreadL comprL cpN adN spN wrdN constL initL
theorem spread_c (blk : List UInt8) (w : World) (hb : blk.length = 64) : Calls Tryd.prog 85 #[.agg (cu8 blk).toArray] w (Post w [] (fun v L => v = .agg (cu32 (spreadL blk)).toArray ∧ L = [])) := by
 refine enter w [] 60 [] [.agg (cu8 blk).toArray] Tryd.func85 rfl rfl (by simp) (Hp.start (by simp) (by simp) (by simp)) ?_
 show JC _ _ _ [(0, .agg (cu8 blk).toArray)] _
 refine JC_seq ?_
 refine JC_region ?_
 refine JL_step (Step_box (.agg (cu8 blk).toArray) (cu8 blk) rfl (by first | rfl | simp)) rfl ?_
 rintro v1 L1 ⟨nb1, hnb1, rfl, rfl⟩
 show JL _ _ _ _ ((1, Ptr nb1 0) :: _) [⟨nb1, cu8 blk, 32, (0, 0)⟩]
 refine JL_step (Step_alloc _ (cu32 (zr32 64)) Tryd.zeroValue44 (by kernel_rfl)) rfl ?_
 rintro v1 L1 ⟨nb2, hnb2, rfl, rfl⟩
 show JL _ _ _ _ ((2, Ptr nb2 0) :: _) [⟨nb1, cu8 blk, 32, (0, 0)⟩, ⟨nb2, cu32 (zr32 64), 44, (0, 0)⟩]
 refine JL_nil ?_
 refine JQ_then ?_
 refine JC_seq ?_
 refine JC_region ?_
 refine JL_step (Step_alloc _ (cu32 (zr32 64)) Tryd.zeroValue44 (by kernel_rfl)) rfl ?_
 rintro v1 L1 ⟨nb3, hnb3, rfl, rfl⟩
 show JL _ _ _ _ ((3, Ptr nb3 0) :: _) [⟨nb1, cu8 blk, 32, (0, 0)⟩, ⟨nb2, cu32 (zr32 64), 44, (0, 0)⟩, ⟨nb3, cu32 (zr32 64), 44, (0, 0)⟩]
 refine JL_nil ?_
 refine JQ_then ?_
 refine JC_seq ?_
 refine JC_seq ?_
 refine JC_region ?_
 refine JL_val _ (Ev_move rfl) rfl ?_
 refine JL_nil ?_
 refine JQ_then ?_
 refine JC_block ?_
 refine JC_loop (ι := Nat × List UInt32) (fun ⟨t, ww⟩ => [(1, Ptr nb1 0), (2, Ptr nb2 0), (3, Ptr nb3 0), (7, I64 ((t:Int)))]) (fun ⟨t, ww⟩ => [⟨nb1, cu8 blk, 32, (0, 0)⟩, ⟨nb2, cu32 (zr32 64), 44, (0, 0)⟩, ⟨nb3, cu32 ww, 44, (0, 0)⟩]) (fun ⟨t, ww⟩ => t ≤ 64 ∧ ww = spN blk t ∧ ww.length = 64) (fun ⟨t, ww⟩ => 64 - t) (0, zr32 64) ⟨by omega, by rw [spN], zr32_len 64⟩ (Sub.cons rfl (Sub.cons rfl (Sub.cons rfl (Sub.cons rfl (Sub.nil))))) rfl ?_
 rintro ⟨t, ww⟩ ⟨hx1, hx2, hw⟩
 show JC _ _ _ [(1, Ptr nb1 0), (2, Ptr nb2 0), (3, Ptr nb3 0), (7, I64 ((t:Int)))] [⟨nb1, cu8 blk, 32, (0, 0)⟩, ⟨nb2, cu32 (zr32 64), 44, (0, 0)⟩, ⟨nb3, cu32 ww, 44, (0, 0)⟩]
 refine JC_seq ?_
 refine JC_region ?_
 refine JL_val (.bool (decide (((t:Int)) < (64:Int)))) (Ev_bini rfl rfl fun _ => bin_lss_i _ _) rfl ?_
 refine JL_nil ?_
 refine JQ_then ?_
 refine JC_seq ?_
 refine JC_cond (decide (((t:Int)) < (64:Int))) rfl (fun hb1 => ?_) (fun hb1 => ?_)
 ·
  have hp1 : ((t:Int)) < (64:Int) := of_decide_eq_true hb1
  refine JC_skip ?_
  refine JQ_then ?_
  refine JC_seq ?_
  refine JC_block ?_
  refine JC_seq ?_
  refine JC_region ?_
  refine JL_val _ (Ev_move rfl) rfl ?_
  refine JL_val _ (Ev_assign rfl) rfl ?_
  refine JL_nil ?_
  refine JQ_then ?_
  refine JC_seq ?_
  refine JC_seq ?_
  refine JC_region ?_
  refine JL_val _ (Ev_move rfl) rfl ?_
  refine JL_val (.bool (decide (((t:Int)) < (16:Int)))) (Ev_bini rfl rfl fun _ => bin_lss_i _ _) rfl ?_
  refine JL_nil ?_
  refine JQ_then ?_
  refine JC_cond (decide (((t:Int)) < (16:Int))) rfl (fun hb2 => ?_) (fun hb2 => ?_)
  ·
   have hp2 : ((t:Int)) < (16:Int) := of_decide_eq_true hb2
   refine JC_seq ?_
   refine JC_region ?_
   refine JL_val _ (Ev_move rfl) rfl ?_
   refine JL_val _ (Ev_move rfl) rfl ?_
   refine JL_val (I64 (4*(t:Int))) (Ev_bini rfl rfl fun _ => bin_mul_i _ _ (4*(t:Int)) (by omega) (by omega)) rfl ?_
   refine JL_val _ (Ev_move rfl) rfl ?_
   refine JL_val (I64 (4*(t:Int))) (Ev_bini rfl rfl fun _ => bin_mul_i _ _ (4*(t:Int)) (by omega) (by omega)) rfl ?_
   refine JL_val (I64 (4*(t:Int) + 4)) (Ev_bini rfl rfl fun _ => bin_add_i _ _ (4*(t:Int) + 4) (by omega) (by omega)) rfl ?_
   refine JL_val (Slc nb1 (4*t) 4 (64 - 4*t)) (Ev_sliceA 64 5 1 (4*t) (4*t + 4) (4*t) (64 - 4*t) Tryd.underlying32 Tryd.sizeOf5 rfl (some_i64 (by omega)) (some_i64 (by omega)) (by omega) (by omega) (by omega) (by omega) (by omega) 4 (by omega)) rfl ?_
   have hl1 : (mid blk (4*t) 4).length = 4 := mid_len (by rw [hb]; omega)
   refine JL_step (Step_callP 114 [Slc nb1 (4*t) 4 (64 - 4*t)] (U32 (wordL (mid blk (4*t) 4))) (Cl_func [Slc nb1 (4*t) 4 (64 - 4*t)] Tryd.call114 rfl) (fun w1 hw1 => word_c (some ⟨nb1, (4*t), none⟩) (64 - 4*t) (mid blk (4*t) 4) w1 hl1 (RdB.of hw1 (MemAt.ent 0 rfl (segm_u8 (4*t) 4 (by rw [hb]; omega))) (by simp)))) rfl ?_
   rintro v1 L1 ⟨rfl, rfl⟩
   show JL _ _ _ _ ((19, U32 (wordL (mid blk (4*t) 4))) :: _) [⟨nb1, cu8 blk, 32, (0, 0)⟩, ⟨nb2, cu32 (zr32 64), 44, (0, 0)⟩, ⟨nb3, cu32 ww, 44, (0, 0)⟩]
   refine JL_val (Ptr nb3 t) (Ev_indexArr 64 30 1 t Tryd.underlying44 Tryd.sizeOf30 rfl rfl (by omega) (by omega) (by omega)) rfl ?_
   have hl2 : (ww.set t (wordL (mid blk (4*t) 4))).length = 64 := by simp [hw]
   refine JL_step (Step_store 2 nb3 t 1 (cu32 ww) 44 (U32 (wordL (mid blk (4*t) 4))) ([U32 (wordL (mid blk (4*t) 4))]) (cu32 (ww.set t (wordL (mid blk (4*t) 4)))) rfl rfl rfl rfl Tryd.sizeOf30 rfl (by simp [Value.oneCell']) (by simp [hw]; try omega) (lay32 _ _ _ (by rw [hw]; omega))) rfl ?_
   rintro v1 L1 ⟨rfl, rfl⟩
   show JL _ _ _ _ _ [⟨nb1, cu8 blk, 32, (0, 0)⟩, ⟨nb2, cu32 (zr32 64), 44, (0, 0)⟩, ⟨nb3, cu32 (ww.set t (wordL (mid blk (4*t) 4))), 44, (0, 0)⟩]
   refine JL_nil ?_
   refine JQ_then ?_
   refine JC_exit ?_
   refine JQ_then_exit ?_
   refine JQ_in_same ?_
   refine JQ_then ?_
   refine JC_region ?_
   refine JL_val (I64 ((t:Int) + 1)) (Ev_bini rfl rfl fun _ => bin_add_i _ _ ((t:Int) + 1) (by omega) (by omega)) rfl ?_
   refine JL_val _ (Ev_move rfl) rfl ?_
   refine JL_nil ?_
   refine JQ_thenK ?_
   refine K_next (t + 1, ww.set t (wordL (mid blk (4*t) 4))) ⟨by omega, by rw [spN, spS, if_pos (by omega), ← hx2], hl2⟩ (by first | (simp; omega) | simp) (Sub.cons rfl (Sub.cons rfl (Sub.cons rfl (Sub.cons rfl (Sub.nil))))) rfl
  ·
   have hp2 : ¬ (((t:Int)) < (16:Int)) := of_decide_eq_false hb2
   refine JC_skip ?_
   refine JQ_then ?_
   refine JC_seq ?_
   refine JC_draw 60 1 [(0, I64 ((t:Int))), (1, I64 ((t:Int) - 15)), (2, Ptr nb3 (t - 15)), (3, U32 (g32 ww (t - 15))), (4, I64 ((t:Int))), (5, I64 ((t:Int) - 2)), (6, Ptr nb3 (t - 2)), (7, U32 (g32 ww (t - 2))), (8, U32 (g32 ww (t - 15))), (9, U32 (g32 ww (t - 2)))] Tryd.mixed rfl (by decide +kernel) ?_
   refine DP_end ⟨[], [0, 1, 2, 3, 4, 5, 6, 7, 8, 9], [], [0, 1, 2, 3, 4, 5, 6, 7, 8, 9], []⟩ rfl rfl (by decide +kernel) rfl ⟨⟨_, rfl, Qok_val rfl (Ev_move rfl)⟩, ⟨_, rfl, Qok_val rfl (Ev_bini rfl rfl fun _ => bin_sub_i _ _ ((t:Int) - 15) (by omega) (by omega))⟩, ⟨_, rfl, Qok_val rfl (Ev_indexArr 64 30 1 (t - 15) Tryd.underlying44 Tryd.sizeOf30 rfl rfl (by omega) (by omega) (by omega))⟩, ⟨_, rfl, Qok_val rfl (Ev_load rfl (Ld_one Tryd.isAgg30 (MemAt.ent 2 rfl (Seg.get (g32_get (i := (t - 15)) (by rw [hw]; omega))))))⟩, ⟨_, rfl, Qok_val rfl (Ev_move rfl)⟩, ⟨_, rfl, Qok_val rfl (Ev_bini rfl rfl fun _ => bin_sub_i _ _ ((t:Int) - 2) (by omega) (by omega))⟩, ⟨_, rfl, Qok_val rfl (Ev_indexArr 64 30 1 (t - 2) Tryd.underlying44 Tryd.sizeOf30 rfl rfl (by omega) (by omega) (by omega))⟩, ⟨_, rfl, Qok_val rfl (Ev_load rfl (Ld_one Tryd.isAgg30 (MemAt.ent 2 rfl (Seg.get (g32_get (i := (t - 2)) (by rw [hw]; omega))))))⟩, ⟨_, rfl, Qok_val rfl (Ev_assign rfl)⟩, ⟨_, rfl, Qok_val rfl (Ev_assign rfl)⟩, trivial⟩ ?_
   refine K_sub (F' := [(21, I64 ((t:Int))), (22, I64 ((t:Int) - 15)), (23, Ptr nb3 (t - 15)), (24, U32 (g32 ww (t - 15))), (25, I64 ((t:Int))), (26, I64 ((t:Int) - 2)), (27, Ptr nb3 (t - 2)), (28, U32 (g32 ww (t - 2))), (5, U32 (g32 ww (t - 15))), (6, U32 (g32 ww (t - 2))), (1, Ptr nb1 0), (2, Ptr nb2 0), (3, Ptr nb3 0), (7, I64 ((t:Int))), (8, .bool (decide (((t:Int)) < (64:Int)))), (9, I64 ((t:Int))), (4, I64 ((t:Int))), (10, I64 ((t:Int))), (11, .bool (decide (((t:Int)) < (16:Int))))]) (Sub.cons (by kernel_rfl) (Sub.cons (by kernel_rfl) (Sub.cons (by kernel_rfl) (Sub.cons (by kernel_rfl) (Sub.cons (by kernel_rfl) (Sub.cons (by kernel_rfl) (Sub.cons (by kernel_rfl) (Sub.cons (by kernel_rfl) (Sub.cons (by kernel_rfl) (Sub.cons (by kernel_rfl) (Sub.cons (by kernel_rfl) (Sub.cons (by kernel_rfl) (Sub.cons (by kernel_rfl) (Sub.cons (by kernel_rfl) (Sub.cons (by kernel_rfl) (Sub.cons (by kernel_rfl) (Sub.cons (by kernel_rfl) (Sub.cons (by kernel_rfl) (Sub.cons (by kernel_rfl) (Sub.nil)))))))))))))))))))) ?_
   show JQ _ _ _ [(21, I64 ((t:Int))), (22, I64 ((t:Int) - 15)), (23, Ptr nb3 (t - 15)), (24, U32 (g32 ww (t - 15))), (25, I64 ((t:Int))), (26, I64 ((t:Int) - 2)), (27, Ptr nb3 (t - 2)), (28, U32 (g32 ww (t - 2))), (5, U32 (g32 ww (t - 15))), (6, U32 (g32 ww (t - 2))), (1, Ptr nb1 0), (2, Ptr nb2 0), (3, Ptr nb3 0), (7, I64 ((t:Int))), (8, .bool (decide (((t:Int)) < (64:Int)))), (9, I64 ((t:Int))), (4, I64 ((t:Int))), (10, I64 ((t:Int))), (11, .bool (decide (((t:Int)) < (16:Int))))] _
   refine JQ_then ?_
   refine JC_draw 60 6 [(0, I64 ((t:Int))), (1, I64 ((t:Int))), (2, I64 ((t:Int) - 16)), (3, Ptr nb3 (t - 16)), (4, U32 (g32 ww (t - 16))), (5, U32 (g32 ww (t - 15))), (7, U32 (g32 ww (t - 15))), (10, U32 (g32 ww (t - 15))), (11, U32 ((g32 ww (t - 15)) >>> (3:UInt32))), (14, I64 ((t:Int))), (15, I64 ((t:Int) - 7)), (16, Ptr nb3 (t - 7)), (17, U32 (g32 ww (t - 7))), (19, U32 (g32 ww (t - 2))), (21, U32 (g32 ww (t - 2))), (24, U32 (g32 ww (t - 2))), (25, U32 ((g32 ww (t - 2)) >>> (10:UInt32)))] Tryd.mixed rfl (by decide +kernel) ?_
   refine DP_one ⟨[], [0, 1, 2, 3, 4, 5, 7, 10, 11, 14, 15, 16, 17, 19, 21, 24, 25], [], [0, 1, 2, 3, 4, 5, 7, 10, 11, 14, 15, 16, 17, 19, 21, 24, 25], [6]⟩ 6 _ rfl rfl (by decide +kernel) rfl ⟨⟨_, rfl, Qok_val rfl (Ev_move rfl)⟩, ⟨_, rfl, Qok_val rfl (Ev_move rfl)⟩, ⟨_, rfl, Qok_val rfl (Ev_bini rfl rfl fun _ => bin_sub_i _ _ ((t:Int) - 16) (by omega) (by omega))⟩, ⟨_, rfl, Qok_val rfl (Ev_indexArr 64 30 1 (t - 16) Tryd.underlying44 Tryd.sizeOf30 rfl rfl (by omega) (by omega) (by omega))⟩, ⟨_, rfl, Qok_val rfl (Ev_load rfl (Ld_one Tryd.isAgg30 (MemAt.ent 2 rfl (Seg.get (g32_get (i := (t - 16)) (by rw [hw]; omega))))))⟩, ⟨_, rfl, Qok_val rfl (Ev_move rfl)⟩, ⟨_, rfl, Qok_val rfl (Ev_move rfl)⟩, ⟨_, rfl, Qok_val rfl (Ev_move rfl)⟩, ⟨_, rfl, Qok_val rfl (Ev_bini rfl rfl fun _ => bin_shr_u32 (g32 ww (t - 15)) _ _ 3 (by decide) rfl)⟩, ⟨_, rfl, Qok_val rfl (Ev_move rfl)⟩, ⟨_, rfl, Qok_val rfl (Ev_bini rfl rfl fun _ => bin_sub_i _ _ ((t:Int) - 7) (by omega) (by omega))⟩, ⟨_, rfl, Qok_val rfl (Ev_indexArr 64 30 1 (t - 7) Tryd.underlying44 Tryd.sizeOf30 rfl rfl (by omega) (by omega) (by omega))⟩, ⟨_, rfl, Qok_val rfl (Ev_load rfl (Ld_one Tryd.isAgg30 (MemAt.ent 2 rfl (Seg.get (g32_get (i := (t - 7)) (by rw [hw]; omega))))))⟩, ⟨_, rfl, Qok_val rfl (Ev_move rfl)⟩, ⟨_, rfl, Qok_val rfl (Ev_move rfl)⟩, ⟨_, rfl, Qok_val rfl (Ev_move rfl)⟩, ⟨_, rfl, Qok_val rfl (Ev_bini rfl rfl fun _ => bin_shr_u32 (g32 ww (t - 2)) _ _ 10 (by decide) rfl)⟩, trivial⟩ rfl (Cok_step rfl (Step_callP 86 [U32 (g32 ww (t - 15)), I64 (7:Int)] (U32 (rotr (g32 ww (t - 15)) 7)) (Cl_func [U32 (g32 ww (t - 15)), I64 (7:Int)] Tryd.call86 rfl) (fun w1 hw1 => turn_c (g32 ww (t - 15)) 7 w1 (by omega) (by omega)))) ?_
   rintro v1 L1 ⟨rfl, rfl⟩
   refine ⟨[], ?_⟩
   show DP _ _ _ _ _ _ _ _ [⟨nb1, cu8 blk, 32, (0, 0)⟩, ⟨nb2, cu32 (zr32 64), 44, (0, 0)⟩, ⟨nb3, cu32 ww, 44, (0, 0)⟩]
   refine DP_one ⟨[6], [0, 1, 2, 3, 4, 5, 7, 10, 11, 14, 15, 16, 17, 19, 21, 24, 25], [5], [0, 1, 2, 3, 4, 7, 10, 11, 14, 15, 16, 17, 19, 21, 24, 25], [8]⟩ 8 _ rfl rfl (by decide +kernel) rfl ⟨⟨_, rfl, Qok_val rfl (Ev_move rfl)⟩, ⟨_, rfl, Qok_val rfl (Ev_move rfl)⟩, ⟨_, rfl, Qok_val rfl (Ev_bini rfl rfl fun _ => bin_sub_i _ _ ((t:Int) - 16) (by omega) (by omega))⟩, ⟨_, rfl, Qok_val rfl (Ev_indexArr 64 30 1 (t - 16) Tryd.underlying44 Tryd.sizeOf30 rfl rfl (by omega) (by omega) (by omega))⟩, ⟨_, rfl, Qok_val rfl (Ev_load rfl (Ld_one Tryd.isAgg30 (MemAt.ent 2 rfl (Seg.get (g32_get (i := (t - 16)) (by rw [hw]; omega))))))⟩, ⟨_, rfl, Qok_val rfl (Ev_move rfl)⟩, ⟨_, rfl, Qok_val rfl (Ev_move rfl)⟩, ⟨_, rfl, Qok_val rfl (Ev_bini rfl rfl fun _ => bin_shr_u32 (g32 ww (t - 15)) _ _ 3 (by decide) rfl)⟩, ⟨_, rfl, Qok_val rfl (Ev_move rfl)⟩, ⟨_, rfl, Qok_val rfl (Ev_bini rfl rfl fun _ => bin_sub_i _ _ ((t:Int) - 7) (by omega) (by omega))⟩, ⟨_, rfl, Qok_val rfl (Ev_indexArr 64 30 1 (t - 7) Tryd.underlying44 Tryd.sizeOf30 rfl rfl (by omega) (by omega) (by omega))⟩, ⟨_, rfl, Qok_val rfl (Ev_load rfl (Ld_one Tryd.isAgg30 (MemAt.ent 2 rfl (Seg.get (g32_get (i := (t - 7)) (by rw [hw]; omega))))))⟩, ⟨_, rfl, Qok_val rfl (Ev_move rfl)⟩, ⟨_, rfl, Qok_val rfl (Ev_move rfl)⟩, ⟨_, rfl, Qok_val rfl (Ev_move rfl)⟩, ⟨_, rfl, Qok_val rfl (Ev_bini rfl rfl fun _ => bin_shr_u32 (g32 ww (t - 2)) _ _ 10 (by decide) rfl)⟩, trivial⟩ rfl (Cok_step rfl (Step_callP 86 [U32 (g32 ww (t - 15)), I64 (18:Int)] (U32 (rotr (g32 ww (t - 15)) 18)) (Cl_func [U32 (g32 ww (t - 15)), I64 (18:Int)] Tryd.call86 rfl) (fun w1 hw1 => turn_c (g32 ww (t - 15)) 18 w1 (by omega) (by omega)))) ?_
   rintro v1 L1 ⟨rfl, rfl⟩
   refine ⟨[(9, U32 ((rotr (g32 ww (t - 15)) 7) ^^^ (rotr (g32 ww (t - 15)) 18))), (12, U32 (((rotr (g32 ww (t - 15)) 7) ^^^ (rotr (g32 ww (t - 15)) 18)) ^^^ ((g32 ww (t - 15)) >>> (3:UInt32)))), (13, U32 ((g32 ww (t - 16)) + (((rotr (g32 ww (t - 15)) 7) ^^^ (rotr (g32 ww (t - 15)) 18)) ^^^ ((g32 ww (t - 15)) >>> (3:UInt32))))), (18, U32 (((g32 ww (t - 16)) + (((rotr (g32 ww (t - 15)) 7) ^^^ (rotr (g32 ww (t - 15)) 18)) ^^^ ((g32 ww (t - 15)) >>> (3:UInt32)))) + (g32 ww (t - 7))))], ?_⟩
   show DP _ _ _ _ _ _ _ _ [⟨nb1, cu8 blk, 32, (0, 0)⟩, ⟨nb2, cu32 (zr32 64), 44, (0, 0)⟩, ⟨nb3, cu32 ww, 44, (0, 0)⟩]
   refine DP_one ⟨[6, 8], [0, 1, 2, 3, 4, 5, 7, 9, 10, 11, 12, 13, 14, 15, 16, 17, 18, 19, 21, 24, 25], [5, 7], [0, 1, 2, 3, 4, 9, 10, 11, 12, 13, 14, 15, 16, 17, 18, 19, 21, 24, 25], [20]⟩ 20 _ rfl rfl (by decide +kernel) rfl ⟨⟨_, rfl, Qok_val rfl (Ev_move rfl)⟩, ⟨_, rfl, Qok_val rfl (Ev_move rfl)⟩, ⟨_, rfl, Qok_val rfl (Ev_bini rfl rfl fun _ => bin_sub_i _ _ ((t:Int) - 16) (by omega) (by omega))⟩, ⟨_, rfl, Qok_val rfl (Ev_indexArr 64 30 1 (t - 16) Tryd.underlying44 Tryd.sizeOf30 rfl rfl (by omega) (by omega) (by omega))⟩, ⟨_, rfl, Qok_val rfl (Ev_load rfl (Ld_one Tryd.isAgg30 (MemAt.ent 2 rfl (Seg.get (g32_get (i := (t - 16)) (by rw [hw]; omega))))))⟩, ⟨_, rfl, Qok_val rfl (Ev_bini rfl rfl fun _ => bin_xor_u32 (rotr (g32 ww (t - 15)) 7) (rotr (g32 ww (t - 15)) 18))⟩, ⟨_, rfl, Qok_val rfl (Ev_move rfl)⟩, ⟨_, rfl, Qok_val rfl (Ev_bini rfl rfl fun _ => bin_shr_u32 (g32 ww (t - 15)) _ _ 3 (by decide) rfl)⟩, ⟨_, rfl, Qok_val rfl (Ev_bini rfl rfl fun _ => bin_xor_u32 ((rotr (g32 ww (t - 15)) 7) ^^^ (rotr (g32 ww (t - 15)) 18)) ((g32 ww (t - 15)) >>> (3:UInt32)))⟩, ⟨_, rfl, Qok_val rfl (Ev_bini rfl rfl fun _ => bin_add_u32 (g32 ww (t - 16)) (((rotr (g32 ww (t - 15)) 7) ^^^ (rotr (g32 ww (t - 15)) 18)) ^^^ ((g32 ww (t - 15)) >>> (3:UInt32))))⟩, ⟨_, rfl, Qok_val rfl (Ev_move rfl)⟩, ⟨_, rfl, Qok_val rfl (Ev_bini rfl rfl fun _ => bin_sub_i _ _ ((t:Int) - 7) (by omega) (by omega))⟩, ⟨_, rfl, Qok_val rfl (Ev_indexArr 64 30 1 (t - 7) Tryd.underlying44 Tryd.sizeOf30 rfl rfl (by omega) (by omega) (by omega))⟩, ⟨_, rfl, Qok_val rfl (Ev_load rfl (Ld_one Tryd.isAgg30 (MemAt.ent 2 rfl (Seg.get (g32_get (i := (t - 7)) (by rw [hw]; omega))))))⟩, ⟨_, rfl, Qok_val rfl (Ev_bini rfl rfl fun _ => bin_add_u32 ((g32 ww (t - 16)) + (((rotr (g32 ww (t - 15)) 7) ^^^ (rotr (g32 ww (t - 15)) 18)) ^^^ ((g32 ww (t - 15)) >>> (3:UInt32)))) (g32 ww (t - 7)))⟩, ⟨_, rfl, Qok_val rfl (Ev_move rfl)⟩, ⟨_, rfl, Qok_val rfl (Ev_move rfl)⟩, ⟨_, rfl, Qok_val rfl (Ev_move rfl)⟩, ⟨_, rfl, Qok_val rfl (Ev_bini rfl rfl fun _ => bin_shr_u32 (g32 ww (t - 2)) _ _ 10 (by decide) rfl)⟩, trivial⟩ rfl (Cok_step rfl (Step_callP 86 [U32 (g32 ww (t - 2)), I64 (17:Int)] (U32 (rotr (g32 ww (t - 2)) 17)) (Cl_func [U32 (g32 ww (t - 2)), I64 (17:Int)] Tryd.call86 rfl) (fun w1 hw1 => turn_c (g32 ww (t - 2)) 17 w1 (by omega) (by omega)))) ?_
   rintro v1 L1 ⟨rfl, rfl⟩
   refine ⟨[], ?_⟩
   show DP _ _ _ _ _ _ _ _ [⟨nb1, cu8 blk, 32, (0, 0)⟩, ⟨nb2, cu32 (zr32 64), 44, (0, 0)⟩, ⟨nb3, cu32 ww, 44, (0, 0)⟩]
   refine DP_one ⟨[6, 8, 20], [0, 1, 2, 3, 4, 5, 7, 9, 10, 11, 12, 13, 14, 15, 16, 17, 18, 19, 21, 24, 25], [5, 7, 19], [0, 1, 2, 3, 4, 9, 10, 11, 12, 13, 14, 15, 16, 17, 18, 21, 24, 25], [22]⟩ 22 _ rfl rfl (by decide +kernel) rfl ⟨⟨_, rfl, Qok_val rfl (Ev_move rfl)⟩, ⟨_, rfl, Qok_val rfl (Ev_move rfl)⟩, ⟨_, rfl, Qok_val rfl (Ev_bini rfl rfl fun _ => bin_sub_i _ _ ((t:Int) - 16) (by omega) (by omega))⟩, ⟨_, rfl, Qok_val rfl (Ev_indexArr 64 30 1 (t - 16) Tryd.underlying44 Tryd.sizeOf30 rfl rfl (by omega) (by omega) (by omega))⟩, ⟨_, rfl, Qok_val rfl (Ev_load rfl (Ld_one Tryd.isAgg30 (MemAt.ent 2 rfl (Seg.get (g32_get (i := (t - 16)) (by rw [hw]; omega))))))⟩, ⟨_, rfl, Qok_val rfl (Ev_bini rfl rfl fun _ => bin_xor_u32 (rotr (g32 ww (t - 15)) 7) (rotr (g32 ww (t - 15)) 18))⟩, ⟨_, rfl, Qok_val rfl (Ev_move rfl)⟩, ⟨_, rfl, Qok_val rfl (Ev_bini rfl rfl fun _ => bin_shr_u32 (g32 ww (t - 15)) _ _ 3 (by decide) rfl)⟩, ⟨_, rfl, Qok_val rfl (Ev_bini rfl rfl fun _ => bin_xor_u32 ((rotr (g32 ww (t - 15)) 7) ^^^ (rotr (g32 ww (t - 15)) 18)) ((g32 ww (t - 15)) >>> (3:UInt32)))⟩, ⟨_, rfl, Qok_val rfl (Ev_bini rfl rfl fun _ => bin_add_u32 (g32 ww (t - 16)) (((rotr (g32 ww (t - 15)) 7) ^^^ (rotr (g32 ww (t - 15)) 18)) ^^^ ((g32 ww (t - 15)) >>> (3:UInt32))))⟩, ⟨_, rfl, Qok_val rfl (Ev_move rfl)⟩, ⟨_, rfl, Qok_val rfl (Ev_bini rfl rfl fun _ => bin_sub_i _ _ ((t:Int) - 7) (by omega) (by omega))⟩, ⟨_, rfl, Qok_val rfl (Ev_indexArr 64 30 1 (t - 7) Tryd.underlying44 Tryd.sizeOf30 rfl rfl (by omega) (by omega) (by omega))⟩, ⟨_, rfl, Qok_val rfl (Ev_load rfl (Ld_one Tryd.isAgg30 (MemAt.ent 2 rfl (Seg.get (g32_get (i := (t - 7)) (by rw [hw]; omega))))))⟩, ⟨_, rfl, Qok_val rfl (Ev_bini rfl rfl fun _ => bin_add_u32 ((g32 ww (t - 16)) + (((rotr (g32 ww (t - 15)) 7) ^^^ (rotr (g32 ww (t - 15)) 18)) ^^^ ((g32 ww (t - 15)) >>> (3:UInt32)))) (g32 ww (t - 7)))⟩, ⟨_, rfl, Qok_val rfl (Ev_move rfl)⟩, ⟨_, rfl, Qok_val rfl (Ev_move rfl)⟩, ⟨_, rfl, Qok_val rfl (Ev_bini rfl rfl fun _ => bin_shr_u32 (g32 ww (t - 2)) _ _ 10 (by decide) rfl)⟩, trivial⟩ rfl (Cok_step rfl (Step_callP 86 [U32 (g32 ww (t - 2)), I64 (19:Int)] (U32 (rotr (g32 ww (t - 2)) 19)) (Cl_func [U32 (g32 ww (t - 2)), I64 (19:Int)] Tryd.call86 rfl) (fun w1 hw1 => turn_c (g32 ww (t - 2)) 19 w1 (by omega) (by omega)))) ?_
   rintro v1 L1 ⟨rfl, rfl⟩
   refine ⟨[(23, U32 ((rotr (g32 ww (t - 2)) 17) ^^^ (rotr (g32 ww (t - 2)) 19))), (26, U32 (((rotr (g32 ww (t - 2)) 17) ^^^ (rotr (g32 ww (t - 2)) 19)) ^^^ ((g32 ww (t - 2)) >>> (10:UInt32)))), (27, U32 ((((g32 ww (t - 16)) + (((rotr (g32 ww (t - 15)) 7) ^^^ (rotr (g32 ww (t - 15)) 18)) ^^^ ((g32 ww (t - 15)) >>> (3:UInt32)))) + (g32 ww (t - 7))) + (((rotr (g32 ww (t - 2)) 17) ^^^ (rotr (g32 ww (t - 2)) 19)) ^^^ ((g32 ww (t - 2)) >>> (10:UInt32))))), (28, Ptr nb3 t)], ?_⟩
   show DP _ _ _ _ _ _ _ _ [⟨nb1, cu8 blk, 32, (0, 0)⟩, ⟨nb2, cu32 (zr32 64), 44, (0, 0)⟩, ⟨nb3, cu32 ww, 44, (0, 0)⟩]
   have hl3 : (ww.set t ((((g32 ww (t - 16)) + (((rotr (g32 ww (t - 15)) 7) ^^^ (rotr (g32 ww (t - 15)) 18)) ^^^ ((g32 ww (t - 15)) >>> (3:UInt32)))) + (g32 ww (t - 7))) + (((rotr (g32 ww (t - 2)) 17) ^^^ (rotr (g32 ww (t - 2)) 19)) ^^^ ((g32 ww (t - 2)) >>> (10:UInt32))))).length = 64 := by simp [hw]
   refine DP_one ⟨[6, 8, 20, 22], [0, 1, 2, 3, 4, 5, 7, 9, 10, 11, 12, 13, 14, 15, 16, 17, 18, 19, 21, 23, 24, 25, 26, 27, 28], [5, 7, 19, 21], [0, 1, 2, 3, 4, 9, 10, 11, 12, 13, 14, 15, 16, 17, 18, 23, 24, 25, 26, 27, 28], [29]⟩ 29 _ rfl rfl (by decide +kernel) rfl ⟨⟨_, rfl, Qok_val rfl (Ev_move rfl)⟩, ⟨_, rfl, Qok_val rfl (Ev_move rfl)⟩, ⟨_, rfl, Qok_val rfl (Ev_bini rfl rfl fun _ => bin_sub_i _ _ ((t:Int) - 16) (by omega) (by omega))⟩, ⟨_, rfl, Qok_val rfl (Ev_indexArr 64 30 1 (t - 16) Tryd.underlying44 Tryd.sizeOf30 rfl rfl (by omega) (by omega) (by omega))⟩, ⟨_, rfl, Qok_val rfl (Ev_load rfl (Ld_one Tryd.isAgg30 (MemAt.ent 2 rfl (Seg.get (g32_get (i := (t - 16)) (by rw [hw]; omega))))))⟩, ⟨_, rfl, Qok_val rfl (Ev_bini rfl rfl fun _ => bin_xor_u32 (rotr (g32 ww (t - 15)) 7) (rotr (g32 ww (t - 15)) 18))⟩, ⟨_, rfl, Qok_val rfl (Ev_move rfl)⟩, ⟨_, rfl, Qok_val rfl (Ev_bini rfl rfl fun _ => bin_shr_u32 (g32 ww (t - 15)) _ _ 3 (by decide) rfl)⟩, ⟨_, rfl, Qok_val rfl (Ev_bini rfl rfl fun _ => bin_xor_u32 ((rotr (g32 ww (t - 15)) 7) ^^^ (rotr (g32 ww (t - 15)) 18)) ((g32 ww (t - 15)) >>> (3:UInt32)))⟩, ⟨_, rfl, Qok_val rfl (Ev_bini rfl rfl fun _ => bin_add_u32 (g32 ww (t - 16)) (((rotr (g32 ww (t - 15)) 7) ^^^ (rotr (g32 ww (t - 15)) 18)) ^^^ ((g32 ww (t - 15)) >>> (3:UInt32))))⟩, ⟨_, rfl, Qok_val rfl (Ev_move rfl)⟩, ⟨_, rfl, Qok_val rfl (Ev_bini rfl rfl fun _ => bin_sub_i _ _ ((t:Int) - 7) (by omega) (by omega))⟩, ⟨_, rfl, Qok_val rfl (Ev_indexArr 64 30 1 (t - 7) Tryd.underlying44 Tryd.sizeOf30 rfl rfl (by omega) (by omega) (by omega))⟩, ⟨_, rfl, Qok_val rfl (Ev_load rfl (Ld_one Tryd.isAgg30 (MemAt.ent 2 rfl (Seg.get (g32_get (i := (t - 7)) (by rw [hw]; omega))))))⟩, ⟨_, rfl, Qok_val rfl (Ev_bini rfl rfl fun _ => bin_add_u32 ((g32 ww (t - 16)) + (((rotr (g32 ww (t - 15)) 7) ^^^ (rotr (g32 ww (t - 15)) 18)) ^^^ ((g32 ww (t - 15)) >>> (3:UInt32)))) (g32 ww (t - 7)))⟩, ⟨_, rfl, Qok_val rfl (Ev_bini rfl rfl fun _ => bin_xor_u32 (rotr (g32 ww (t - 2)) 17) (rotr (g32 ww (t - 2)) 19))⟩, ⟨_, rfl, Qok_val rfl (Ev_move rfl)⟩, ⟨_, rfl, Qok_val rfl (Ev_bini rfl rfl fun _ => bin_shr_u32 (g32 ww (t - 2)) _ _ 10 (by decide) rfl)⟩, ⟨_, rfl, Qok_val rfl (Ev_bini rfl rfl fun _ => bin_xor_u32 ((rotr (g32 ww (t - 2)) 17) ^^^ (rotr (g32 ww (t - 2)) 19)) ((g32 ww (t - 2)) >>> (10:UInt32)))⟩, ⟨_, rfl, Qok_val rfl (Ev_bini rfl rfl fun _ => bin_add_u32 (((g32 ww (t - 16)) + (((rotr (g32 ww (t - 15)) 7) ^^^ (rotr (g32 ww (t - 15)) 18)) ^^^ ((g32 ww (t - 15)) >>> (3:UInt32)))) + (g32 ww (t - 7))) (((rotr (g32 ww (t - 2)) 17) ^^^ (rotr (g32 ww (t - 2)) 19)) ^^^ ((g32 ww (t - 2)) >>> (10:UInt32))))⟩, ⟨_, rfl, Qok_val rfl (Ev_indexArr 64 30 1 t Tryd.underlying44 Tryd.sizeOf30 rfl rfl (by omega) (by omega) (by omega))⟩, trivial⟩ rfl (Cok_step rfl (Step_store 2 nb3 t 1 (cu32 ww) 44 (U32 ((((g32 ww (t - 16)) + (((rotr (g32 ww (t - 15)) 7) ^^^ (rotr (g32 ww (t - 15)) 18)) ^^^ ((g32 ww (t - 15)) >>> (3:UInt32)))) + (g32 ww (t - 7))) + (((rotr (g32 ww (t - 2)) 17) ^^^ (rotr (g32 ww (t - 2)) 19)) ^^^ ((g32 ww (t - 2)) >>> (10:UInt32))))) ([U32 ((((g32 ww (t - 16)) + (((rotr (g32 ww (t - 15)) 7) ^^^ (rotr (g32 ww (t - 15)) 18)) ^^^ ((g32 ww (t - 15)) >>> (3:UInt32)))) + (g32 ww (t - 7))) + (((rotr (g32 ww (t - 2)) 17) ^^^ (rotr (g32 ww (t - 2)) 19)) ^^^ ((g32 ww (t - 2)) >>> (10:UInt32))))]) (cu32 (ww.set t ((((g32 ww (t - 16)) + (((rotr (g32 ww (t - 15)) 7) ^^^ (rotr (g32 ww (t - 15)) 18)) ^^^ ((g32 ww (t - 15)) >>> (3:UInt32)))) + (g32 ww (t - 7))) + (((rotr (g32 ww (t - 2)) 17) ^^^ (rotr (g32 ww (t - 2)) 19)) ^^^ ((g32 ww (t - 2)) >>> (10:UInt32)))))) rfl rfl rfl rfl Tryd.sizeOf30 rfl (by simp [Value.oneCell']) (by simp [hw]; try omega) (lay32 _ _ _ (by rw [hw]; omega)))) ?_
   rintro v1 L1 ⟨rfl, rfl⟩
   refine ⟨[], ?_⟩
   show DP _ _ _ _ _ _ _ _ [⟨nb1, cu8 blk, 32, (0, 0)⟩, ⟨nb2, cu32 (zr32 64), 44, (0, 0)⟩, ⟨nb3, cu32 (ww.set t ((((g32 ww (t - 16)) + (((rotr (g32 ww (t - 15)) 7) ^^^ (rotr (g32 ww (t - 15)) 18)) ^^^ ((g32 ww (t - 15)) >>> (3:UInt32)))) + (g32 ww (t - 7))) + (((rotr (g32 ww (t - 2)) 17) ^^^ (rotr (g32 ww (t - 2)) 19)) ^^^ ((g32 ww (t - 2)) >>> (10:UInt32))))), 44, (0, 0)⟩]
   refine DP_end ⟨[6, 8, 20, 22, 29], [0, 1, 2, 3, 4, 5, 7, 9, 10, 11, 12, 13, 14, 15, 16, 17, 18, 19, 21, 23, 24, 25, 26, 27, 28], [0, 1, 2, 3, 4, 5, 7, 9, 10, 11, 12, 13, 14, 15, 16, 17, 18, 19, 21, 23, 24, 25, 26, 27, 28], [], []⟩ rfl rfl (by decide +kernel) rfl trivial ?_
   refine K_sub (F' := [(29, I64 ((t:Int))), (30, I64 ((t:Int))), (31, I64 ((t:Int) - 16)), (32, Ptr nb3 (t - 16)), (33, U32 (g32 ww (t - 16))), (34, U32 (g32 ww (t - 15))), (35, U32 (rotr (g32 ww (t - 15)) 7)), (36, U32 (g32 ww (t - 15))), (37, U32 (rotr (g32 ww (t - 15)) 18)), (38, U32 ((rotr (g32 ww (t - 15)) 7) ^^^ (rotr (g32 ww (t - 15)) 18))), (39, U32 (g32 ww (t - 15))), (40, U32 ((g32 ww (t - 15)) >>> (3:UInt32))), (41, U32 (((rotr (g32 ww (t - 15)) 7) ^^^ (rotr (g32 ww (t - 15)) 18)) ^^^ ((g32 ww (t - 15)) >>> (3:UInt32)))), (42, U32 ((g32 ww (t - 16)) + (((rotr (g32 ww (t - 15)) 7) ^^^ (rotr (g32 ww (t - 15)) 18)) ^^^ ((g32 ww (t - 15)) >>> (3:UInt32))))), (43, I64 ((t:Int))), (44, I64 ((t:Int) - 7)), (45, Ptr nb3 (t - 7)), (46, U32 (g32 ww (t - 7))), (47, U32 (((g32 ww (t - 16)) + (((rotr (g32 ww (t - 15)) 7) ^^^ (rotr (g32 ww (t - 15)) 18)) ^^^ ((g32 ww (t - 15)) >>> (3:UInt32)))) + (g32 ww (t - 7)))), (48, U32 (g32 ww (t - 2))), (49, U32 (rotr (g32 ww (t - 2)) 17)), (50, U32 (g32 ww (t - 2))), (51, U32 (rotr (g32 ww (t - 2)) 19)), (52, U32 ((rotr (g32 ww (t - 2)) 17) ^^^ (rotr (g32 ww (t - 2)) 19))), (53, U32 (g32 ww (t - 2))), (54, U32 ((g32 ww (t - 2)) >>> (10:UInt32))), (55, U32 (((rotr (g32 ww (t - 2)) 17) ^^^ (rotr (g32 ww (t - 2)) 19)) ^^^ ((g32 ww (t - 2)) >>> (10:UInt32)))), (56, U32 ((((g32 ww (t - 16)) + (((rotr (g32 ww (t - 15)) 7) ^^^ (rotr (g32 ww (t - 15)) 18)) ^^^ ((g32 ww (t - 15)) >>> (3:UInt32)))) + (g32 ww (t - 7))) + (((rotr (g32 ww (t - 2)) 17) ^^^ (rotr (g32 ww (t - 2)) 19)) ^^^ ((g32 ww (t - 2)) >>> (10:UInt32))))), (57, Ptr nb3 t), (21, I64 ((t:Int))), (22, I64 ((t:Int) - 15)), (23, Ptr nb3 (t - 15)), (24, U32 (g32 ww (t - 15))), (25, I64 ((t:Int))), (26, I64 ((t:Int) - 2)), (27, Ptr nb3 (t - 2)), (28, U32 (g32 ww (t - 2))), (5, U32 (g32 ww (t - 15))), (6, U32 (g32 ww (t - 2))), (1, Ptr nb1 0), (2, Ptr nb2 0), (3, Ptr nb3 0), (7, I64 ((t:Int))), (8, .bool (decide (((t:Int)) < (64:Int)))), (9, I64 ((t:Int))), (4, I64 ((t:Int))), (10, I64 ((t:Int))), (11, .bool (decide (((t:Int)) < (16:Int))))]) (Sub.cons (by kernel_rfl) (Sub.cons (by kernel_rfl) (Sub.cons (by kernel_rfl) (Sub.cons (by kernel_rfl) (Sub.cons (by kernel_rfl) (Sub.cons (by kernel_rfl) (Sub.cons (by kernel_rfl) (Sub.cons (by kernel_rfl) (Sub.cons (by kernel_rfl) (Sub.cons (by kernel_rfl) (Sub.cons (by kernel_rfl) (Sub.cons (by kernel_rfl) (Sub.cons (by kernel_rfl) (Sub.cons (by kernel_rfl) (Sub.cons (by kernel_rfl) (Sub.cons (by kernel_rfl) (Sub.cons (by kernel_rfl) (Sub.cons (by kernel_rfl) (Sub.cons (by kernel_rfl) (Sub.cons (by kernel_rfl) (Sub.cons (by kernel_rfl) (Sub.cons (by kernel_rfl) (Sub.cons (by kernel_rfl) (Sub.cons (by kernel_rfl) (Sub.cons (by kernel_rfl) (Sub.cons (by kernel_rfl) (Sub.cons (by kernel_rfl) (Sub.cons (by kernel_rfl) (Sub.cons (by kernel_rfl) (Sub.cons (by kernel_rfl) (Sub.cons (by kernel_rfl) (Sub.cons (by kernel_rfl) (Sub.cons (by kernel_rfl) (Sub.cons (by kernel_rfl) (Sub.cons (by kernel_rfl) (Sub.cons (by kernel_rfl) (Sub.cons (by kernel_rfl) (Sub.cons (by kernel_rfl) (Sub.cons (by kernel_rfl) (Sub.cons (by kernel_rfl) (Sub.cons (by kernel_rfl) (Sub.cons (by kernel_rfl) (Sub.cons (by kernel_rfl) (Sub.cons (by kernel_rfl) (Sub.cons (by kernel_rfl) (Sub.cons (by kernel_rfl) (Sub.cons (by kernel_rfl) (Sub.cons (by kernel_rfl) (Sub.nil))))))))))))))))))))))))))))))))))))))))))))))))) ?_
   show JQ _ _ _ [(29, I64 ((t:Int))), (30, I64 ((t:Int))), (31, I64 ((t:Int) - 16)), (32, Ptr nb3 (t - 16)), (33, U32 (g32 ww (t - 16))), (34, U32 (g32 ww (t - 15))), (35, U32 (rotr (g32 ww (t - 15)) 7)), (36, U32 (g32 ww (t - 15))), (37, U32 (rotr (g32 ww (t - 15)) 18)), (38, U32 ((rotr (g32 ww (t - 15)) 7) ^^^ (rotr (g32 ww (t - 15)) 18))), (39, U32 (g32 ww (t - 15))), (40, U32 ((g32 ww (t - 15)) >>> (3:UInt32))), (41, U32 (((rotr (g32 ww (t - 15)) 7) ^^^ (rotr (g32 ww (t - 15)) 18)) ^^^ ((g32 ww (t - 15)) >>> (3:UInt32)))), (42, U32 ((g32 ww (t - 16)) + (((rotr (g32 ww (t - 15)) 7) ^^^ (rotr (g32 ww (t - 15)) 18)) ^^^ ((g32 ww (t - 15)) >>> (3:UInt32))))), (43, I64 ((t:Int))), (44, I64 ((t:Int) - 7)), (45, Ptr nb3 (t - 7)), (46, U32 (g32 ww (t - 7))), (47, U32 (((g32 ww (t - 16)) + (((rotr (g32 ww (t - 15)) 7) ^^^ (rotr (g32 ww (t - 15)) 18)) ^^^ ((g32 ww (t - 15)) >>> (3:UInt32)))) + (g32 ww (t - 7)))), (48, U32 (g32 ww (t - 2))), (49, U32 (rotr (g32 ww (t - 2)) 17)), (50, U32 (g32 ww (t - 2))), (51, U32 (rotr (g32 ww (t - 2)) 19)), (52, U32 ((rotr (g32 ww (t - 2)) 17) ^^^ (rotr (g32 ww (t - 2)) 19))), (53, U32 (g32 ww (t - 2))), (54, U32 ((g32 ww (t - 2)) >>> (10:UInt32))), (55, U32 (((rotr (g32 ww (t - 2)) 17) ^^^ (rotr (g32 ww (t - 2)) 19)) ^^^ ((g32 ww (t - 2)) >>> (10:UInt32)))), (56, U32 ((((g32 ww (t - 16)) + (((rotr (g32 ww (t - 15)) 7) ^^^ (rotr (g32 ww (t - 15)) 18)) ^^^ ((g32 ww (t - 15)) >>> (3:UInt32)))) + (g32 ww (t - 7))) + (((rotr (g32 ww (t - 2)) 17) ^^^ (rotr (g32 ww (t - 2)) 19)) ^^^ ((g32 ww (t - 2)) >>> (10:UInt32))))), (57, Ptr nb3 t), (21, I64 ((t:Int))), (22, I64 ((t:Int) - 15)), (23, Ptr nb3 (t - 15)), (24, U32 (g32 ww (t - 15))), (25, I64 ((t:Int))), (26, I64 ((t:Int) - 2)), (27, Ptr nb3 (t - 2)), (28, U32 (g32 ww (t - 2))), (5, U32 (g32 ww (t - 15))), (6, U32 (g32 ww (t - 2))), (1, Ptr nb1 0), (2, Ptr nb2 0), (3, Ptr nb3 0), (7, I64 ((t:Int))), (8, .bool (decide (((t:Int)) < (64:Int)))), (9, I64 ((t:Int))), (4, I64 ((t:Int))), (10, I64 ((t:Int))), (11, .bool (decide (((t:Int)) < (16:Int))))] _
   refine JQ_in_normal ?_
   refine JQ_then ?_
   refine JC_region ?_
   refine JL_val (I64 ((t:Int) + 1)) (Ev_bini rfl rfl fun _ => bin_add_i _ _ ((t:Int) + 1) (by omega) (by omega)) rfl ?_
   refine JL_val _ (Ev_move rfl) rfl ?_
   refine JL_nil ?_
   refine JQ_thenK ?_
   refine K_next (t + 1, ww.set t ((((g32 ww (t - 16)) + (((rotr (g32 ww (t - 15)) 7) ^^^ (rotr (g32 ww (t - 15)) 18)) ^^^ ((g32 ww (t - 15)) >>> (3:UInt32)))) + (g32 ww (t - 7))) + (((rotr (g32 ww (t - 2)) 17) ^^^ (rotr (g32 ww (t - 2)) 19)) ^^^ ((g32 ww (t - 2)) >>> (10:UInt32))))) ⟨by omega, by rw [spN, spS, if_neg (by omega), ← hx2], hl3⟩ (by first | (simp; omega) | simp) (Sub.cons rfl (Sub.cons rfl (Sub.cons rfl (Sub.cons rfl (Sub.nil))))) rfl
 ·
  have hp1 : ¬ (((t:Int)) < (64:Int)) := of_decide_eq_false hb1
  refine JC_exit ?_
  refine JQ_then_exit ?_
  refine JQ_then_exit ?_
  refine JQ_in_same ?_
  refine JQ_then ?_
  refine JC_seq ?_
  refine JC_region ?_
  refine JL_val (.agg (cu32 ww).toArray) (Ev_load rfl (Ld_agg Tryd.isAgg44 Tryd.sizeOf44 (len_cu32 hw) (MemAt.ent 2 rfl (Seg.whole _)))) rfl ?_
  refine JL_step (Step_store 1 nb2 0 64 (cu32 (zr32 64)) 44 (.agg (cu32 ww).toArray) (cu32 ww) (cu32 ww) rfl rfl rfl (by first | rfl | simp) Tryd.sizeOf44 (len_cu32 hw) (by first | exact one_u8 | exact one_u32 | exact one_u64 | (simp [cu8, cu32, cu64, Value.oneCell']; done)) (by simp [(zr32_len 64)]) (lay_whole (by simp [(zr32_len 64), hw]))) rfl ?_
  rintro v1 L1 ⟨rfl, rfl⟩
  show JL _ _ _ _ _ [⟨nb1, cu8 blk, 32, (0, 0)⟩, ⟨nb2, cu32 ww, 44, (0, 0)⟩, ⟨nb3, cu32 ww, 44, (0, 0)⟩]
  refine JL_nil ?_
  refine JQ_then ?_
  refine JC_ret ?_
  refine JQ_ret (.agg (cu32 ww).toArray) (res1 Tryd.results85 (RV_cell rfl (Ld_agg Tryd.isAgg44 Tryd.sizeOf44 (len_cu32 hw) (MemAt.ent 1 rfl (Seg.whole _))))) fun w1 hw1 => ?_
  have e1 : t = 64 := by omega
  subst e1
  rw [show ww = spreadL blk by rw [spreadL, hx2]]
  exact ⟨_, [], rfl, ⟨rfl, rfl⟩, hw1.sub (by simp) (by simp)⟩
set_option maxHeartbeats 2000000 in
theorem compress_c (st : List UInt32) (blk : List UInt8) (w : World) (hs0 : st.length = 8) (hb : blk.length = 64) (hG : GLs w) : Calls Tryd.prog 28 #[.agg (cu32 st).toArray, .agg (cu8 blk).toArray] w (Post w [] (fun v L => v = .agg (cu32 (comprL constL st blk)).toArray ∧ L = [])) := by
 refine enter w [] 110 [] [.agg (cu32 st).toArray, .agg (cu8 blk).toArray] Tryd.func28 rfl rfl (by simp) (Hp.start (by simp) (by simp) (by simp)) ?_
 show JC _ _ _ [(0, .agg (cu32 st).toArray), (1, .agg (cu8 blk).toArray)] _
 refine JC_seq ?_
 refine JC_region ?_
 refine JL_step (Step_box (.agg (cu32 st).toArray) (cu32 st) rfl (by first | rfl | simp)) rfl ?_
 rintro v1 L1 ⟨nb1, hnb1, rfl, rfl⟩
 show JL _ _ _ _ ((2, Ptr nb1 0) :: _) [⟨nb1, cu32 st, 31, (0, 0)⟩]
 refine JL_step (Step_box (.agg (cu8 blk).toArray) (cu8 blk) rfl (by first | rfl | simp)) rfl ?_
 rintro v1 L1 ⟨nb2, hnb2, rfl, rfl⟩
 show JL _ _ _ _ ((3, Ptr nb2 0) :: _) [⟨nb1, cu32 st, 31, (0, 0)⟩, ⟨nb2, cu8 blk, 32, (0, 0)⟩]
 refine JL_step (Step_alloc _ (cu32 (zr32 8)) Tryd.zeroValue31 (by kernel_rfl)) rfl ?_
 rintro v1 L1 ⟨nb3, hnb3, rfl, rfl⟩
 show JL _ _ _ _ ((4, Ptr nb3 0) :: _) [⟨nb1, cu32 st, 31, (0, 0)⟩, ⟨nb2, cu8 blk, 32, (0, 0)⟩, ⟨nb3, cu32 (zr32 8), 31, (0, 0)⟩]
 refine JL_nil ?_
 refine JQ_then ?_
 refine JC_seq ?_
 refine JC_region ?_
 refine JL_val (.agg (cu32 st).toArray) (Ev_load rfl (Ld_agg Tryd.isAgg31 Tryd.sizeOf31 (len_cu32 hs0) (MemAt.ent 0 rfl (Seg.whole _)))) rfl ?_
 refine JL_step (Step_alloc _ (cu32 (zr32 8)) Tryd.zeroValue31 (by kernel_rfl)) rfl ?_
 rintro v1 L1 ⟨nb4, hnb4, rfl, rfl⟩
 show JL _ _ _ _ ((5, Ptr nb4 0) :: _) [⟨nb1, cu32 st, 31, (0, 0)⟩, ⟨nb2, cu8 blk, 32, (0, 0)⟩, ⟨nb3, cu32 (zr32 8), 31, (0, 0)⟩, ⟨nb4, cu32 (zr32 8), 31, (0, 0)⟩]
 refine JL_step (Step_store 3 nb4 0 8 (cu32 (zr32 8)) 31 (.agg (cu32 st).toArray) (cu32 st) (cu32 st) rfl rfl rfl (by first | rfl | simp) Tryd.sizeOf31 (len_cu32 hs0) (by first | exact one_u8 | exact one_u32 | exact one_u64 | (simp [cu8, cu32, cu64, Value.oneCell']; done)) (by simp [(zr32_len 8)]) (lay_whole (by simp [(zr32_len 8), hs0]))) rfl ?_
 rintro v1 L1 ⟨rfl, rfl⟩
 show JL _ _ _ _ _ [⟨nb1, cu32 st, 31, (0, 0)⟩, ⟨nb2, cu8 blk, 32, (0, 0)⟩, ⟨nb3, cu32 (zr32 8), 31, (0, 0)⟩, ⟨nb4, cu32 st, 31, (0, 0)⟩]
 refine JL_nil ?_
 refine JQ_then ?_
 refine JC_seq ?_
 refine JC_seq ?_
 refine JC_region ?_
 refine JL_val (.agg (cu8 blk).toArray) (Ev_load rfl (Ld_agg Tryd.isAgg32 Tryd.sizeOf32 (len_cu8 hb) (MemAt.ent 1 rfl (Seg.whole _)))) rfl ?_
 refine JL_step (Step_callP 85 [.agg (cu8 blk).toArray] (.agg (cu32 (spreadL blk)).toArray) (Cl_func [.agg (cu8 blk).toArray] Tryd.call85 rfl) (fun w1 hw1 => spread_c blk w1 hb)) rfl ?_
 rintro v1 L1 ⟨rfl, rfl⟩
 show JL _ _ _ _ ((19, .agg (cu32 (spreadL blk)).toArray) :: _) [⟨nb1, cu32 st, 31, (0, 0)⟩, ⟨nb2, cu8 blk, 32, (0, 0)⟩, ⟨nb3, cu32 (zr32 8), 31, (0, 0)⟩, ⟨nb4, cu32 st, 31, (0, 0)⟩]
 refine JL_val _ (Ev_move rfl) rfl ?_
 refine JL_nil ?_
 refine JQ_then ?_
 refine JC_block ?_
 refine K_mask [true, false, true, true] ?_
 show JC _ _ _ _ [⟨nb1, cu32 st, 31, (0, 0)⟩, ⟨nb3, cu32 (zr32 8), 31, (0, 0)⟩, ⟨nb4, cu32 st, 31, (0, 0)⟩]
 refine JC_loop (ι := Nat × List UInt32) (fun ⟨t, s⟩ => [(2, Ptr nb1 0), (4, Ptr nb3 0), (5, Ptr nb4 0), (19, .agg (cu32 (spreadL blk)).toArray), (20, I64 ((t:Int)))]) (fun ⟨t, s⟩ => [⟨nb1, cu32 st, 31, (0, 0)⟩, ⟨nb3, cu32 (zr32 8), 31, (0, 0)⟩, ⟨nb4, cu32 s, 31, (0, 0)⟩]) (fun ⟨t, s⟩ => t ≤ 64 ∧ s = cpN constL st (spreadL blk) t ∧ s.length = 8) (fun ⟨t, s⟩ => 64 - t) (0, st) ⟨by omega, by rw [cpN], hs0⟩ (Sub.cons rfl (Sub.cons rfl (Sub.cons rfl (Sub.cons rfl (Sub.cons rfl (Sub.nil)))))) rfl ?_
 rintro ⟨t, s⟩ ⟨hx1, hx2, hs⟩
 show JC _ _ _ [(2, Ptr nb1 0), (4, Ptr nb3 0), (5, Ptr nb4 0), (19, .agg (cu32 (spreadL blk)).toArray), (20, I64 ((t:Int)))] [⟨nb1, cu32 st, 31, (0, 0)⟩, ⟨nb3, cu32 (zr32 8), 31, (0, 0)⟩, ⟨nb4, cu32 s, 31, (0, 0)⟩]
 refine JC_seq ?_
 refine JC_region ?_
 refine JL_val (.bool (decide (((t:Int)) < (64:Int)))) (Ev_bini rfl rfl fun _ => bin_lss_i _ _) rfl ?_
 refine JL_nil ?_
 refine JQ_then ?_
 refine JC_seq ?_
 refine JC_cond (decide (((t:Int)) < (64:Int))) rfl (fun hb1 => ?_) (fun hb1 => ?_)
 ·
  have hp1 : ((t:Int)) < (64:Int) := of_decide_eq_true hb1
  refine JC_skip ?_
  refine JQ_then ?_
  refine JC_seq ?_
  refine JC_block ?_
  refine JC_seq ?_
  refine JC_region ?_
  refine JL_val _ (Ev_move rfl) rfl ?_
  refine JL_val (U32 (g32 (spreadL blk) t)) (Ev_index1 64 30 _ Tryd.underlying44 Tryd.isAgg30 Tryd.sizeOf30 rfl rfl (by omega) (by omega) (Seg.get1 (Seg.get (g32_get (i := t) (by rw [(spreadL_len _)]; omega))) (by omega))) rfl ?_
  refine JL_val _ (Ev_assign rfl) rfl ?_
  refine JL_val _ (Ev_assign rfl) rfl ?_
  refine JL_nil ?_
  refine JQ_then ?_
  refine JC_seq ?_
  refine JC_draw 110 1 [(0, Ptr nb4 0), (1, U32 (g32 s 0)), (2, Ptr nb4 1), (3, U32 (g32 s 1)), (4, Ptr nb4 2), (5, U32 (g32 s 2)), (6, Ptr nb4 4), (7, U32 (g32 s 4)), (8, Ptr nb4 5), (9, U32 (g32 s 5)), (10, Ptr nb4 6), (11, U32 (g32 s 6)), (12, U32 (g32 s 0)), (13, U32 (g32 s 1)), (14, U32 (g32 s 2)), (15, U32 (g32 s 4)), (16, U32 (g32 s 5)), (17, U32 (g32 s 6))] Tryd.mixed rfl (by decide +kernel) ?_
  refine DP_end ⟨[], [0, 1, 2, 3, 4, 5, 6, 7, 8, 9, 10, 11, 12, 13, 14, 15, 16, 17], [], [0, 1, 2, 3, 4, 5, 6, 7, 8, 9, 10, 11, 12, 13, 14, 15, 16, 17], []⟩ rfl rfl (by decide +kernel) rfl ⟨⟨_, rfl, Qok_val rfl (Ev_indexArr 8 30 1 0 Tryd.underlying31 Tryd.sizeOf30 rfl rfl (by omega) (by omega) (by omega))⟩, ⟨_, rfl, Qok_val rfl (Ev_load rfl (Ld_one Tryd.isAgg30 (MemAt.ent 2 rfl (Seg.get (g32_get (i := 0) (by rw [hs]; omega))))))⟩, ⟨_, rfl, Qok_val rfl (Ev_indexArr 8 30 1 1 Tryd.underlying31 Tryd.sizeOf30 rfl rfl (by omega) (by omega) (by omega))⟩, ⟨_, rfl, Qok_val rfl (Ev_load rfl (Ld_one Tryd.isAgg30 (MemAt.ent 2 rfl (Seg.get (g32_get (i := 1) (by rw [hs]; omega))))))⟩, ⟨_, rfl, Qok_val rfl (Ev_indexArr 8 30 1 2 Tryd.underlying31 Tryd.sizeOf30 rfl rfl (by omega) (by omega) (by omega))⟩, ⟨_, rfl, Qok_val rfl (Ev_load rfl (Ld_one Tryd.isAgg30 (MemAt.ent 2 rfl (Seg.get (g32_get (i := 2) (by rw [hs]; omega))))))⟩, ⟨_, rfl, Qok_val rfl (Ev_indexArr 8 30 1 4 Tryd.underlying31 Tryd.sizeOf30 rfl rfl (by omega) (by omega) (by omega))⟩, ⟨_, rfl, Qok_val rfl (Ev_load rfl (Ld_one Tryd.isAgg30 (MemAt.ent 2 rfl (Seg.get (g32_get (i := 4) (by rw [hs]; omega))))))⟩, ⟨_, rfl, Qok_val rfl (Ev_indexArr 8 30 1 5 Tryd.underlying31 Tryd.sizeOf30 rfl rfl (by omega) (by omega) (by omega))⟩, ⟨_, rfl, Qok_val rfl (Ev_load rfl (Ld_one Tryd.isAgg30 (MemAt.ent 2 rfl (Seg.get (g32_get (i := 5) (by rw [hs]; omega))))))⟩, ⟨_, rfl, Qok_val rfl (Ev_indexArr 8 30 1 6 Tryd.underlying31 Tryd.sizeOf30 rfl rfl (by omega) (by omega) (by omega))⟩, ⟨_, rfl, Qok_val rfl (Ev_load rfl (Ld_one Tryd.isAgg30 (MemAt.ent 2 rfl (Seg.get (g32_get (i := 6) (by rw [hs]; omega))))))⟩, ⟨_, rfl, Qok_val rfl (Ev_assign rfl)⟩, ⟨_, rfl, Qok_val rfl (Ev_assign rfl)⟩, ⟨_, rfl, Qok_val rfl (Ev_assign rfl)⟩, ⟨_, rfl, Qok_val rfl (Ev_assign rfl)⟩, ⟨_, rfl, Qok_val rfl (Ev_assign rfl)⟩, ⟨_, rfl, Qok_val rfl (Ev_assign rfl)⟩, trivial⟩ ?_
  refine K_sub (F' := [(24, Ptr nb4 0), (25, U32 (g32 s 0)), (26, Ptr nb4 1), (27, U32 (g32 s 1)), (28, Ptr nb4 2), (29, U32 (g32 s 2)), (30, Ptr nb4 4), (31, U32 (g32 s 4)), (32, Ptr nb4 5), (33, U32 (g32 s 5)), (34, Ptr nb4 6), (35, U32 (g32 s 6)), (8, U32 (g32 s 0)), (9, U32 (g32 s 1)), (10, U32 (g32 s 2)), (11, U32 (g32 s 4)), (12, U32 (g32 s 5)), (13, U32 (g32 s 6)), (2, Ptr nb1 0), (4, Ptr nb3 0), (5, Ptr nb4 0), (19, .agg (cu32 (spreadL blk)).toArray), (20, I64 ((t:Int))), (21, .bool (decide (((t:Int)) < (64:Int)))), (22, I64 ((t:Int))), (23, U32 (g32 (spreadL blk) t)), (6, I64 ((t:Int))), (7, U32 (g32 (spreadL blk) t))]) (Sub.cons (by kernel_rfl) (Sub.cons (by kernel_rfl) (Sub.cons (by kernel_rfl) (Sub.cons (by kernel_rfl) (Sub.cons (by kernel_rfl) (Sub.cons (by kernel_rfl) (Sub.cons (by kernel_rfl) (Sub.cons (by kernel_rfl) (Sub.cons (by kernel_rfl) (Sub.cons (by kernel_rfl) (Sub.cons (by kernel_rfl) (Sub.cons (by kernel_rfl) (Sub.cons (by kernel_rfl) (Sub.cons (by kernel_rfl) (Sub.cons (by kernel_rfl) (Sub.cons (by kernel_rfl) (Sub.cons (by kernel_rfl) (Sub.cons (by kernel_rfl) (Sub.cons (by kernel_rfl) (Sub.cons (by kernel_rfl) (Sub.cons (by kernel_rfl) (Sub.cons (by kernel_rfl) (Sub.cons (by kernel_rfl) (Sub.cons (by kernel_rfl) (Sub.cons (by kernel_rfl) (Sub.cons (by kernel_rfl) (Sub.cons (by kernel_rfl) (Sub.cons (by kernel_rfl) (Sub.nil))))))))))))))))))))))))))))) ?_
  show JQ _ _ _ [(24, Ptr nb4 0), (25, U32 (g32 s 0)), (26, Ptr nb4 1), (27, U32 (g32 s 1)), (28, Ptr nb4 2), (29, U32 (g32 s 2)), (30, Ptr nb4 4), (31, U32 (g32 s 4)), (32, Ptr nb4 5), (33, U32 (g32 s 5)), (34, Ptr nb4 6), (35, U32 (g32 s 6)), (8, U32 (g32 s 0)), (9, U32 (g32 s 1)), (10, U32 (g32 s 2)), (11, U32 (g32 s 4)), (12, U32 (g32 s 5)), (13, U32 (g32 s 6)), (2, Ptr nb1 0), (4, Ptr nb3 0), (5, Ptr nb4 0), (19, .agg (cu32 (spreadL blk)).toArray), (20, I64 ((t:Int))), (21, .bool (decide (((t:Int)) < (64:Int)))), (22, I64 ((t:Int))), (23, U32 (g32 (spreadL blk) t)), (6, I64 ((t:Int))), (7, U32 (g32 (spreadL blk) t))] _
  refine JQ_then ?_
  refine JC_seq ?_
  refine JC_draw 110 4 [(0, Ptr nb4 7), (1, U32 (g32 s 7)), (2, U32 (g32 s 4)), (4, U32 (g32 s 4)), (7, U32 (g32 s 4)), (11, U32 (g32 s 4)), (12, U32 (g32 s 5)), (13, U32 ((g32 s 4) &&& (g32 s 5))), (14, U32 (g32 s 4)), (15, U32 (~~~(g32 s 4))), (16, U32 (g32 s 6)), (17, U32 ((~~~(g32 s 4)) &&& (g32 s 6))), (18, U32 (((g32 s 4) &&& (g32 s 5)) ^^^ ((~~~(g32 s 4)) &&& (g32 s 6)))), (20, I64 ((t:Int))), (21, Ptr 3 t), (22, U32 (g32 constL t)), (24, U32 (g32 (spreadL blk) t))] Tryd.mixed rfl (by decide +kernel) ?_
  refine DP_one ⟨[], [0, 1, 2, 4, 7, 11, 12, 13, 14, 15, 16, 17, 18, 20, 21, 22, 24], [], [0, 1, 2, 4, 7, 11, 12, 13, 14, 15, 16, 17, 18, 20, 21, 22, 24], [3]⟩ 3 _ rfl rfl (by decide +kernel) rfl ⟨⟨_, rfl, Qok_val rfl (Ev_indexArr 8 30 1 7 Tryd.underlying31 Tryd.sizeOf30 rfl rfl (by omega) (by omega) (by omega))⟩, ⟨_, rfl, Qok_val rfl (Ev_load rfl (Ld_one Tryd.isAgg30 (MemAt.ent 2 rfl (Seg.get (g32_get (i := 7) (by rw [hs]; omega))))))⟩, ⟨_, rfl, Qok_val rfl (Ev_move rfl)⟩, ⟨_, rfl, Qok_val rfl (Ev_move rfl)⟩, ⟨_, rfl, Qok_val rfl (Ev_move rfl)⟩, ⟨_, rfl, Qok_val rfl (Ev_move rfl)⟩, ⟨_, rfl, Qok_val rfl (Ev_move rfl)⟩, ⟨_, rfl, Qok_val rfl (Ev_bini rfl rfl fun _ => bin_and_u32 (g32 s 4) (g32 s 5))⟩, ⟨_, rfl, Qok_val rfl (Ev_move rfl)⟩, ⟨_, rfl, Qok_val rfl (Ev_un _ _ rfl fun _ => un_xor_u32 _)⟩, ⟨_, rfl, Qok_val rfl (Ev_move rfl)⟩, ⟨_, rfl, Qok_val rfl (Ev_bini rfl rfl fun _ => bin_and_u32 (~~~(g32 s 4)) (g32 s 6))⟩, ⟨_, rfl, Qok_val rfl (Ev_bini rfl rfl fun _ => bin_xor_u32 ((g32 s 4) &&& (g32 s 5)) ((~~~(g32 s 4)) &&& (g32 s 6)))⟩, ⟨_, rfl, Qok_val rfl (Ev_move rfl)⟩, ⟨_, rfl, Qok_val rfl (Ev_indexArr 64 30 1 t Tryd.underlying44 Tryd.sizeOf30 rfl rfl (by omega) (by omega) (by omega))⟩, ⟨_, rfl, Qok_val rfl (Ev_load rfl (Ld_one Tryd.isAgg30 (MemAt.seg (hG.1.mem (by simp)) (Seg.get (g32_get (i := t) (by rw [constL_len]; omega))) (by omega))))⟩, ⟨_, rfl, Qok_val rfl (Ev_move rfl)⟩, trivial⟩ rfl (Cok_step rfl (Step_callP 86 [U32 (g32 s 4), I64 (6:Int)] (U32 (rotr (g32 s 4) 6)) (Cl_func [U32 (g32 s 4), I64 (6:Int)] Tryd.call86 rfl) (fun w1 hw1 => turn_c (g32 s 4) 6 w1 (by omega) (by omega)))) ?_
  rintro v1 L1 ⟨rfl, rfl⟩
  refine ⟨[], ?_⟩
  show DP _ _ _ _ _ _ _ _ [⟨nb1, cu32 st, 31, (0, 0)⟩, ⟨nb3, cu32 (zr32 8), 31, (0, 0)⟩, ⟨nb4, cu32 s, 31, (0, 0)⟩]
  refine DP_one ⟨[3], [0, 1, 2, 4, 7, 11, 12, 13, 14, 15, 16, 17, 18, 20, 21, 22, 24], [2], [0, 1, 4, 7, 11, 12, 13, 14, 15, 16, 17, 18, 20, 21, 22, 24], [5]⟩ 5 _ rfl rfl (by decide +kernel) rfl ⟨⟨_, rfl, Qok_val rfl (Ev_indexArr 8 30 1 7 Tryd.underlying31 Tryd.sizeOf30 rfl rfl (by omega) (by omega) (by omega))⟩, ⟨_, rfl, Qok_val rfl (Ev_load rfl (Ld_one Tryd.isAgg30 (MemAt.ent 2 rfl (Seg.get (g32_get (i := 7) (by rw [hs]; omega))))))⟩, ⟨_, rfl, Qok_val rfl (Ev_move rfl)⟩, ⟨_, rfl, Qok_val rfl (Ev_move rfl)⟩, ⟨_, rfl, Qok_val rfl (Ev_move rfl)⟩, ⟨_, rfl, Qok_val rfl (Ev_move rfl)⟩, ⟨_, rfl, Qok_val rfl (Ev_bini rfl rfl fun _ => bin_and_u32 (g32 s 4) (g32 s 5))⟩, ⟨_, rfl, Qok_val rfl (Ev_move rfl)⟩, ⟨_, rfl, Qok_val rfl (Ev_un _ _ rfl fun _ => un_xor_u32 _)⟩, ⟨_, rfl, Qok_val rfl (Ev_move rfl)⟩, ⟨_, rfl, Qok_val rfl (Ev_bini rfl rfl fun _ => bin_and_u32 (~~~(g32 s 4)) (g32 s 6))⟩, ⟨_, rfl, Qok_val rfl (Ev_bini rfl rfl fun _ => bin_xor_u32 ((g32 s 4) &&& (g32 s 5)) ((~~~(g32 s 4)) &&& (g32 s 6)))⟩, ⟨_, rfl, Qok_val rfl (Ev_move rfl)⟩, ⟨_, rfl, Qok_val rfl (Ev_indexArr 64 30 1 t Tryd.underlying44 Tryd.sizeOf30 rfl rfl (by omega) (by omega) (by omega))⟩, ⟨_, rfl, Qok_val rfl (Ev_load rfl (Ld_one Tryd.isAgg30 (MemAt.seg (hG.1.mem (by simp)) (Seg.get (g32_get (i := t) (by rw [constL_len]; omega))) (by omega))))⟩, ⟨_, rfl, Qok_val rfl (Ev_move rfl)⟩, trivial⟩ rfl (Cok_step rfl (Step_callP 86 [U32 (g32 s 4), I64 (11:Int)] (U32 (rotr (g32 s 4) 11)) (Cl_func [U32 (g32 s 4), I64 (11:Int)] Tryd.call86 rfl) (fun w1 hw1 => turn_c (g32 s 4) 11 w1 (by omega) (by omega)))) ?_
  rintro v1 L1 ⟨rfl, rfl⟩
  refine ⟨[(6, U32 ((rotr (g32 s 4) 6) ^^^ (rotr (g32 s 4) 11)))], ?_⟩
  show DP _ _ _ _ _ _ _ _ [⟨nb1, cu32 st, 31, (0, 0)⟩, ⟨nb3, cu32 (zr32 8), 31, (0, 0)⟩, ⟨nb4, cu32 s, 31, (0, 0)⟩]
  refine DP_one ⟨[3, 5], [0, 1, 2, 4, 6, 7, 11, 12, 13, 14, 15, 16, 17, 18, 20, 21, 22, 24], [2, 4], [0, 1, 6, 7, 11, 12, 13, 14, 15, 16, 17, 18, 20, 21, 22, 24], [8]⟩ 8 _ rfl rfl (by decide +kernel) rfl ⟨⟨_, rfl, Qok_val rfl (Ev_indexArr 8 30 1 7 Tryd.underlying31 Tryd.sizeOf30 rfl rfl (by omega) (by omega) (by omega))⟩, ⟨_, rfl, Qok_val rfl (Ev_load rfl (Ld_one Tryd.isAgg30 (MemAt.ent 2 rfl (Seg.get (g32_get (i := 7) (by rw [hs]; omega))))))⟩, ⟨_, rfl, Qok_val rfl (Ev_bini rfl rfl fun _ => bin_xor_u32 (rotr (g32 s 4) 6) (rotr (g32 s 4) 11))⟩, ⟨_, rfl, Qok_val rfl (Ev_move rfl)⟩, ⟨_, rfl, Qok_val rfl (Ev_move rfl)⟩, ⟨_, rfl, Qok_val rfl (Ev_move rfl)⟩, ⟨_, rfl, Qok_val rfl (Ev_bini rfl rfl fun _ => bin_and_u32 (g32 s 4) (g32 s 5))⟩, ⟨_, rfl, Qok_val rfl (Ev_move rfl)⟩, ⟨_, rfl, Qok_val rfl (Ev_un _ _ rfl fun _ => un_xor_u32 _)⟩, ⟨_, rfl, Qok_val rfl (Ev_move rfl)⟩, ⟨_, rfl, Qok_val rfl (Ev_bini rfl rfl fun _ => bin_and_u32 (~~~(g32 s 4)) (g32 s 6))⟩, ⟨_, rfl, Qok_val rfl (Ev_bini rfl rfl fun _ => bin_xor_u32 ((g32 s 4) &&& (g32 s 5)) ((~~~(g32 s 4)) &&& (g32 s 6)))⟩, ⟨_, rfl, Qok_val rfl (Ev_move rfl)⟩, ⟨_, rfl, Qok_val rfl (Ev_indexArr 64 30 1 t Tryd.underlying44 Tryd.sizeOf30 rfl rfl (by omega) (by omega) (by omega))⟩, ⟨_, rfl, Qok_val rfl (Ev_load rfl (Ld_one Tryd.isAgg30 (MemAt.seg (hG.1.mem (by simp)) (Seg.get (g32_get (i := t) (by rw [constL_len]; omega))) (by omega))))⟩, ⟨_, rfl, Qok_val rfl (Ev_move rfl)⟩, trivial⟩ rfl (Cok_step rfl (Step_callP 86 [U32 (g32 s 4), I64 (25:Int)] (U32 (rotr (g32 s 4) 25)) (Cl_func [U32 (g32 s 4), I64 (25:Int)] Tryd.call86 rfl) (fun w1 hw1 => turn_c (g32 s 4) 25 w1 (by omega) (by omega)))) ?_
  rintro v1 L1 ⟨rfl, rfl⟩
  refine ⟨[(9, U32 (((rotr (g32 s 4) 6) ^^^ (rotr (g32 s 4) 11)) ^^^ (rotr (g32 s 4) 25))), (10, U32 ((g32 s 7) + (((rotr (g32 s 4) 6) ^^^ (rotr (g32 s 4) 11)) ^^^ (rotr (g32 s 4) 25)))), (19, U32 (((g32 s 7) + (((rotr (g32 s 4) 6) ^^^ (rotr (g32 s 4) 11)) ^^^ (rotr (g32 s 4) 25))) + (((g32 s 4) &&& (g32 s 5)) ^^^ ((~~~(g32 s 4)) &&& (g32 s 6))))), (23, U32 ((((g32 s 7) + (((rotr (g32 s 4) 6) ^^^ (rotr (g32 s 4) 11)) ^^^ (rotr (g32 s 4) 25))) + (((g32 s 4) &&& (g32 s 5)) ^^^ ((~~~(g32 s 4)) &&& (g32 s 6)))) + (g32 constL t))), (25, U32 (((((g32 s 7) + (((rotr (g32 s 4) 6) ^^^ (rotr (g32 s 4) 11)) ^^^ (rotr (g32 s 4) 25))) + (((g32 s 4) &&& (g32 s 5)) ^^^ ((~~~(g32 s 4)) &&& (g32 s 6)))) + (g32 constL t)) + (g32 (spreadL blk) t))), (26, U32 (((((g32 s 7) + (((rotr (g32 s 4) 6) ^^^ (rotr (g32 s 4) 11)) ^^^ (rotr (g32 s 4) 25))) + (((g32 s 4) &&& (g32 s 5)) ^^^ ((~~~(g32 s 4)) &&& (g32 s 6)))) + (g32 constL t)) + (g32 (spreadL blk) t)))], ?_⟩
  show DP _ _ _ _ _ _ _ _ [⟨nb1, cu32 st, 31, (0, 0)⟩, ⟨nb3, cu32 (zr32 8), 31, (0, 0)⟩, ⟨nb4, cu32 s, 31, (0, 0)⟩]
  refine DP_end ⟨[3, 5, 8], [0, 1, 2, 4, 6, 7, 9, 10, 11, 12, 13, 14, 15, 16, 17, 18, 19, 20, 21, 22, 23, 24, 25, 26], [2, 4, 7], [0, 1, 6, 9, 10, 11, 12, 13, 14, 15, 16, 17, 18, 19, 20, 21, 22, 23, 24, 25, 26], []⟩ rfl rfl (by decide +kernel) rfl ⟨⟨_, rfl, Qok_val rfl (Ev_indexArr 8 30 1 7 Tryd.underlying31 Tryd.sizeOf30 rfl rfl (by omega) (by omega) (by omega))⟩, ⟨_, rfl, Qok_val rfl (Ev_load rfl (Ld_one Tryd.isAgg30 (MemAt.ent 2 rfl (Seg.get (g32_get (i := 7) (by rw [hs]; omega))))))⟩, ⟨_, rfl, Qok_val rfl (Ev_bini rfl rfl fun _ => bin_xor_u32 (rotr (g32 s 4) 6) (rotr (g32 s 4) 11))⟩, ⟨_, rfl, Qok_val rfl (Ev_bini rfl rfl fun _ => bin_xor_u32 ((rotr (g32 s 4) 6) ^^^ (rotr (g32 s 4) 11)) (rotr (g32 s 4) 25))⟩, ⟨_, rfl, Qok_val rfl (Ev_bini rfl rfl fun _ => bin_add_u32 (g32 s 7) (((rotr (g32 s 4) 6) ^^^ (rotr (g32 s 4) 11)) ^^^ (rotr (g32 s 4) 25)))⟩, ⟨_, rfl, Qok_val rfl (Ev_move rfl)⟩, ⟨_, rfl, Qok_val rfl (Ev_move rfl)⟩, ⟨_, rfl, Qok_val rfl (Ev_bini rfl rfl fun _ => bin_and_u32 (g32 s 4) (g32 s 5))⟩, ⟨_, rfl, Qok_val rfl (Ev_move rfl)⟩, ⟨_, rfl, Qok_val rfl (Ev_un _ _ rfl fun _ => un_xor_u32 _)⟩, ⟨_, rfl, Qok_val rfl (Ev_move rfl)⟩, ⟨_, rfl, Qok_val rfl (Ev_bini rfl rfl fun _ => bin_and_u32 (~~~(g32 s 4)) (g32 s 6))⟩, ⟨_, rfl, Qok_val rfl (Ev_bini rfl rfl fun _ => bin_xor_u32 ((g32 s 4) &&& (g32 s 5)) ((~~~(g32 s 4)) &&& (g32 s 6)))⟩, ⟨_, rfl, Qok_val rfl (Ev_bini rfl rfl fun _ => bin_add_u32 ((g32 s 7) + (((rotr (g32 s 4) 6) ^^^ (rotr (g32 s 4) 11)) ^^^ (rotr (g32 s 4) 25))) (((g32 s 4) &&& (g32 s 5)) ^^^ ((~~~(g32 s 4)) &&& (g32 s 6))))⟩, ⟨_, rfl, Qok_val rfl (Ev_move rfl)⟩, ⟨_, rfl, Qok_val rfl (Ev_indexArr 64 30 1 t Tryd.underlying44 Tryd.sizeOf30 rfl rfl (by omega) (by omega) (by omega))⟩, ⟨_, rfl, Qok_val rfl (Ev_load rfl (Ld_one Tryd.isAgg30 (MemAt.seg (hG.1.mem (by simp)) (Seg.get (g32_get (i := t) (by rw [constL_len]; omega))) (by omega))))⟩, ⟨_, rfl, Qok_val rfl (Ev_bini rfl rfl fun _ => bin_add_u32 (((g32 s 7) + (((rotr (g32 s 4) 6) ^^^ (rotr (g32 s 4) 11)) ^^^ (rotr (g32 s 4) 25))) + (((g32 s 4) &&& (g32 s 5)) ^^^ ((~~~(g32 s 4)) &&& (g32 s 6)))) (g32 constL t))⟩, ⟨_, rfl, Qok_val rfl (Ev_move rfl)⟩, ⟨_, rfl, Qok_val rfl (Ev_bini rfl rfl fun _ => bin_add_u32 ((((g32 s 7) + (((rotr (g32 s 4) 6) ^^^ (rotr (g32 s 4) 11)) ^^^ (rotr (g32 s 4) 25))) + (((g32 s 4) &&& (g32 s 5)) ^^^ ((~~~(g32 s 4)) &&& (g32 s 6)))) + (g32 constL t)) (g32 (spreadL blk) t))⟩, ⟨_, rfl, Qok_val rfl (Ev_assign rfl)⟩, trivial⟩ ?_
  refine K_sub (F' := [(36, Ptr nb4 7), (37, U32 (g32 s 7)), (38, U32 (g32 s 4)), (39, U32 (rotr (g32 s 4) 6)), (40, U32 (g32 s 4)), (41, U32 (rotr (g32 s 4) 11)), (42, U32 ((rotr (g32 s 4) 6) ^^^ (rotr (g32 s 4) 11))), (43, U32 (g32 s 4)), (44, U32 (rotr (g32 s 4) 25)), (45, U32 (((rotr (g32 s 4) 6) ^^^ (rotr (g32 s 4) 11)) ^^^ (rotr (g32 s 4) 25))), (46, U32 ((g32 s 7) + (((rotr (g32 s 4) 6) ^^^ (rotr (g32 s 4) 11)) ^^^ (rotr (g32 s 4) 25)))), (47, U32 (g32 s 4)), (48, U32 (g32 s 5)), (49, U32 ((g32 s 4) &&& (g32 s 5))), (50, U32 (g32 s 4)), (51, U32 (~~~(g32 s 4))), (52, U32 (g32 s 6)), (53, U32 ((~~~(g32 s 4)) &&& (g32 s 6))), (54, U32 (((g32 s 4) &&& (g32 s 5)) ^^^ ((~~~(g32 s 4)) &&& (g32 s 6)))), (55, U32 (((g32 s 7) + (((rotr (g32 s 4) 6) ^^^ (rotr (g32 s 4) 11)) ^^^ (rotr (g32 s 4) 25))) + (((g32 s 4) &&& (g32 s 5)) ^^^ ((~~~(g32 s 4)) &&& (g32 s 6))))), (56, I64 ((t:Int))), (57, Ptr 3 t), (58, U32 (g32 constL t)), (59, U32 ((((g32 s 7) + (((rotr (g32 s 4) 6) ^^^ (rotr (g32 s 4) 11)) ^^^ (rotr (g32 s 4) 25))) + (((g32 s 4) &&& (g32 s 5)) ^^^ ((~~~(g32 s 4)) &&& (g32 s 6)))) + (g32 constL t))), (60, U32 (g32 (spreadL blk) t)), (61, U32 (((((g32 s 7) + (((rotr (g32 s 4) 6) ^^^ (rotr (g32 s 4) 11)) ^^^ (rotr (g32 s 4) 25))) + (((g32 s 4) &&& (g32 s 5)) ^^^ ((~~~(g32 s 4)) &&& (g32 s 6)))) + (g32 constL t)) + (g32 (spreadL blk) t))), (14, U32 (((((g32 s 7) + (((rotr (g32 s 4) 6) ^^^ (rotr (g32 s 4) 11)) ^^^ (rotr (g32 s 4) 25))) + (((g32 s 4) &&& (g32 s 5)) ^^^ ((~~~(g32 s 4)) &&& (g32 s 6)))) + (g32 constL t)) + (g32 (spreadL blk) t))), (24, Ptr nb4 0), (25, U32 (g32 s 0)), (26, Ptr nb4 1), (27, U32 (g32 s 1)), (28, Ptr nb4 2), (29, U32 (g32 s 2)), (30, Ptr nb4 4), (31, U32 (g32 s 4)), (32, Ptr nb4 5), (33, U32 (g32 s 5)), (34, Ptr nb4 6), (35, U32 (g32 s 6)), (8, U32 (g32 s 0)), (9, U32 (g32 s 1)), (10, U32 (g32 s 2)), (11, U32 (g32 s 4)), (12, U32 (g32 s 5)), (13, U32 (g32 s 6)), (2, Ptr nb1 0), (4, Ptr nb3 0), (5, Ptr nb4 0), (19, .agg (cu32 (spreadL blk)).toArray), (20, I64 ((t:Int))), (21, .bool (decide (((t:Int)) < (64:Int)))), (22, I64 ((t:Int))), (23, U32 (g32 (spreadL blk) t)), (6, I64 ((t:Int))), (7, U32 (g32 (spreadL blk) t))]) (Sub.cons (by kernel_rfl) (Sub.cons (by kernel_rfl) (Sub.cons (by kernel_rfl) (Sub.cons (by kernel_rfl) (Sub.cons (by kernel_rfl) (Sub.cons (by kernel_rfl) (Sub.cons (by kernel_rfl) (Sub.cons (by kernel_rfl) (Sub.cons (by kernel_rfl) (Sub.cons (by kernel_rfl) (Sub.cons (by kernel_rfl) (Sub.cons (by kernel_rfl) (Sub.cons (by kernel_rfl) (Sub.cons (by kernel_rfl) (Sub.cons (by kernel_rfl) (Sub.cons (by kernel_rfl) (Sub.cons (by kernel_rfl) (Sub.cons (by kernel_rfl) (Sub.cons (by kernel_rfl) (Sub.cons (by kernel_rfl) (Sub.cons (by kernel_rfl) (Sub.cons (by kernel_rfl) (Sub.cons (by kernel_rfl) (Sub.cons (by kernel_rfl) (Sub.cons (by kernel_rfl) (Sub.cons (by kernel_rfl) (Sub.cons (by kernel_rfl) (Sub.cons (by kernel_rfl) (Sub.cons (by kernel_rfl) (Sub.cons (by kernel_rfl) (Sub.cons (by kernel_rfl) (Sub.cons (by kernel_rfl) (Sub.cons (by kernel_rfl) (Sub.cons (by kernel_rfl) (Sub.cons (by kernel_rfl) (Sub.cons (by kernel_rfl) (Sub.cons (by kernel_rfl) (Sub.cons (by kernel_rfl) (Sub.cons (by kernel_rfl) (Sub.cons (by kernel_rfl) (Sub.cons (by kernel_rfl) (Sub.cons (by kernel_rfl) (Sub.cons (by kernel_rfl) (Sub.cons (by kernel_rfl) (Sub.cons (by kernel_rfl) (Sub.cons (by kernel_rfl) (Sub.cons (by kernel_rfl) (Sub.cons (by kernel_rfl) (Sub.cons (by kernel_rfl) (Sub.cons (by kernel_rfl) (Sub.cons (by kernel_rfl) (Sub.cons (by kernel_rfl) (Sub.cons (by kernel_rfl) (Sub.cons (by kernel_rfl) (Sub.cons (by kernel_rfl) (Sub.nil)))))))))))))))))))))))))))))))))))))))))))))))))))))))) ?_
  show JQ _ _ _ [(36, Ptr nb4 7), (37, U32 (g32 s 7)), (38, U32 (g32 s 4)), (39, U32 (rotr (g32 s 4) 6)), (40, U32 (g32 s 4)), (41, U32 (rotr (g32 s 4) 11)), (42, U32 ((rotr (g32 s 4) 6) ^^^ (rotr (g32 s 4) 11))), (43, U32 (g32 s 4)), (44, U32 (rotr (g32 s 4) 25)), (45, U32 (((rotr (g32 s 4) 6) ^^^ (rotr (g32 s 4) 11)) ^^^ (rotr (g32 s 4) 25))), (46, U32 ((g32 s 7) + (((rotr (g32 s 4) 6) ^^^ (rotr (g32 s 4) 11)) ^^^ (rotr (g32 s 4) 25)))), (47, U32 (g32 s 4)), (48, U32 (g32 s 5)), (49, U32 ((g32 s 4) &&& (g32 s 5))), (50, U32 (g32 s 4)), (51, U32 (~~~(g32 s 4))), (52, U32 (g32 s 6)), (53, U32 ((~~~(g32 s 4)) &&& (g32 s 6))), (54, U32 (((g32 s 4) &&& (g32 s 5)) ^^^ ((~~~(g32 s 4)) &&& (g32 s 6)))), (55, U32 (((g32 s 7) + (((rotr (g32 s 4) 6) ^^^ (rotr (g32 s 4) 11)) ^^^ (rotr (g32 s 4) 25))) + (((g32 s 4) &&& (g32 s 5)) ^^^ ((~~~(g32 s 4)) &&& (g32 s 6))))), (56, I64 ((t:Int))), (57, Ptr 3 t), (58, U32 (g32 constL t)), (59, U32 ((((g32 s 7) + (((rotr (g32 s 4) 6) ^^^ (rotr (g32 s 4) 11)) ^^^ (rotr (g32 s 4) 25))) + (((g32 s 4) &&& (g32 s 5)) ^^^ ((~~~(g32 s 4)) &&& (g32 s 6)))) + (g32 constL t))), (60, U32 (g32 (spreadL blk) t)), (61, U32 (((((g32 s 7) + (((rotr (g32 s 4) 6) ^^^ (rotr (g32 s 4) 11)) ^^^ (rotr (g32 s 4) 25))) + (((g32 s 4) &&& (g32 s 5)) ^^^ ((~~~(g32 s 4)) &&& (g32 s 6)))) + (g32 constL t)) + (g32 (spreadL blk) t))), (14, U32 (((((g32 s 7) + (((rotr (g32 s 4) 6) ^^^ (rotr (g32 s 4) 11)) ^^^ (rotr (g32 s 4) 25))) + (((g32 s 4) &&& (g32 s 5)) ^^^ ((~~~(g32 s 4)) &&& (g32 s 6)))) + (g32 constL t)) + (g32 (spreadL blk) t))), (24, Ptr nb4 0), (25, U32 (g32 s 0)), (26, Ptr nb4 1), (27, U32 (g32 s 1)), (28, Ptr nb4 2), (29, U32 (g32 s 2)), (30, Ptr nb4 4), (31, U32 (g32 s 4)), (32, Ptr nb4 5), (33, U32 (g32 s 5)), (34, Ptr nb4 6), (35, U32 (g32 s 6)), (8, U32 (g32 s 0)), (9, U32 (g32 s 1)), (10, U32 (g32 s 2)), (11, U32 (g32 s 4)), (12, U32 (g32 s 5)), (13, U32 (g32 s 6)), (2, Ptr nb1 0), (4, Ptr nb3 0), (5, Ptr nb4 0), (19, .agg (cu32 (spreadL blk)).toArray), (20, I64 ((t:Int))), (21, .bool (decide (((t:Int)) < (64:Int)))), (22, I64 ((t:Int))), (23, U32 (g32 (spreadL blk) t)), (6, I64 ((t:Int))), (7, U32 (g32 (spreadL blk) t))] _
  refine JQ_then ?_
  refine JC_seq ?_
  refine JC_region ?_
  refine JL_val _ (Ev_move rfl) rfl ?_
  refine JL_step (Step_callP 86 [U32 (g32 s 0), I64 (2:Int)] (U32 (rotr (g32 s 0) 2)) (Cl_func [U32 (g32 s 0), I64 (2:Int)] Tryd.call86 rfl) (fun w1 hw1 => turn_c (g32 s 0) 2 w1 (by omega) (by omega))) rfl ?_
  rintro v1 L1 ⟨rfl, rfl⟩
  show JL _ _ _ _ ((63, U32 (rotr (g32 s 0) 2)) :: _) [⟨nb1, cu32 st, 31, (0, 0)⟩, ⟨nb3, cu32 (zr32 8), 31, (0, 0)⟩, ⟨nb4, cu32 s, 31, (0, 0)⟩]
  refine JL_val _ (Ev_move rfl) rfl ?_
  refine JL_step (Step_callP 86 [U32 (g32 s 0), I64 (13:Int)] (U32 (rotr (g32 s 0) 13)) (Cl_func [U32 (g32 s 0), I64 (13:Int)] Tryd.call86 rfl) (fun w1 hw1 => turn_c (g32 s 0) 13 w1 (by omega) (by omega))) rfl ?_
  rintro v1 L1 ⟨rfl, rfl⟩
  show JL _ _ _ _ ((65, U32 (rotr (g32 s 0) 13)) :: _) [⟨nb1, cu32 st, 31, (0, 0)⟩, ⟨nb3, cu32 (zr32 8), 31, (0, 0)⟩, ⟨nb4, cu32 s, 31, (0, 0)⟩]
  refine JL_val (U32 ((rotr (g32 s 0) 2) ^^^ (rotr (g32 s 0) 13))) (Ev_bini rfl rfl fun _ => bin_xor_u32 (rotr (g32 s 0) 2) (rotr (g32 s 0) 13)) rfl ?_
  refine JL_val _ (Ev_move rfl) rfl ?_
  refine JL_step (Step_callP 86 [U32 (g32 s 0), I64 (22:Int)] (U32 (rotr (g32 s 0) 22)) (Cl_func [U32 (g32 s 0), I64 (22:Int)] Tryd.call86 rfl) (fun w1 hw1 => turn_c (g32 s 0) 22 w1 (by omega) (by omega))) rfl ?_
  rintro v1 L1 ⟨rfl, rfl⟩
  show JL _ _ _ _ ((68, U32 (rotr (g32 s 0) 22)) :: _) [⟨nb1, cu32 st, 31, (0, 0)⟩, ⟨nb3, cu32 (zr32 8), 31, (0, 0)⟩, ⟨nb4, cu32 s, 31, (0, 0)⟩]
  refine JL_val (U32 (((rotr (g32 s 0) 2) ^^^ (rotr (g32 s 0) 13)) ^^^ (rotr (g32 s 0) 22))) (Ev_bini rfl rfl fun _ => bin_xor_u32 ((rotr (g32 s 0) 2) ^^^ (rotr (g32 s 0) 13)) (rotr (g32 s 0) 22)) rfl ?_
  refine JL_val _ (Ev_move rfl) rfl ?_
  refine JL_val _ (Ev_move rfl) rfl ?_
  refine JL_val (U32 ((g32 s 0) &&& (g32 s 1))) (Ev_bini rfl rfl fun _ => bin_and_u32 (g32 s 0) (g32 s 1)) rfl ?_
  refine JL_val _ (Ev_move rfl) rfl ?_
  refine JL_val _ (Ev_move rfl) rfl ?_
  refine JL_val (U32 ((g32 s 0) &&& (g32 s 2))) (Ev_bini rfl rfl fun _ => bin_and_u32 (g32 s 0) (g32 s 2)) rfl ?_
  refine JL_val (U32 (((g32 s 0) &&& (g32 s 1)) ^^^ ((g32 s 0) &&& (g32 s 2)))) (Ev_bini rfl rfl fun _ => bin_xor_u32 ((g32 s 0) &&& (g32 s 1)) ((g32 s 0) &&& (g32 s 2))) rfl ?_
  refine JL_val _ (Ev_move rfl) rfl ?_
  refine JL_val _ (Ev_move rfl) rfl ?_
  refine JL_val (U32 ((g32 s 1) &&& (g32 s 2))) (Ev_bini rfl rfl fun _ => bin_and_u32 (g32 s 1) (g32 s 2)) rfl ?_
  refine JL_val (U32 ((((g32 s 0) &&& (g32 s 1)) ^^^ ((g32 s 0) &&& (g32 s 2))) ^^^ ((g32 s 1) &&& (g32 s 2)))) (Ev_bini rfl rfl fun _ => bin_xor_u32 (((g32 s 0) &&& (g32 s 1)) ^^^ ((g32 s 0) &&& (g32 s 2))) ((g32 s 1) &&& (g32 s 2))) rfl ?_
  refine JL_val (U32 ((((rotr (g32 s 0) 2) ^^^ (rotr (g32 s 0) 13)) ^^^ (rotr (g32 s 0) 22)) + ((((g32 s 0) &&& (g32 s 1)) ^^^ ((g32 s 0) &&& (g32 s 2))) ^^^ ((g32 s 1) &&& (g32 s 2))))) (Ev_bini rfl rfl fun _ => bin_add_u32 (((rotr (g32 s 0) 2) ^^^ (rotr (g32 s 0) 13)) ^^^ (rotr (g32 s 0) 22)) ((((g32 s 0) &&& (g32 s 1)) ^^^ ((g32 s 0) &&& (g32 s 2))) ^^^ ((g32 s 1) &&& (g32 s 2)))) rfl ?_
  refine JL_val _ (Ev_assign rfl) rfl ?_
  refine JL_nil ?_
  refine JQ_then ?_
  refine JC_region ?_
  refine JL_val _ (Ev_move rfl) rfl ?_
  refine JL_val _ (Ev_move rfl) rfl ?_
  refine JL_val (U32 ((((((g32 s 7) + (((rotr (g32 s 4) 6) ^^^ (rotr (g32 s 4) 11)) ^^^ (rotr (g32 s 4) 25))) + (((g32 s 4) &&& (g32 s 5)) ^^^ ((~~~(g32 s 4)) &&& (g32 s 6)))) + (g32 constL t)) + (g32 (spreadL blk) t)) + ((((rotr (g32 s 0) 2) ^^^ (rotr (g32 s 0) 13)) ^^^ (rotr (g32 s 0) 22)) + ((((g32 s 0) &&& (g32 s 1)) ^^^ ((g32 s 0) &&& (g32 s 2))) ^^^ ((g32 s 1) &&& (g32 s 2)))))) (Ev_bini rfl rfl fun _ => bin_add_u32 (((((g32 s 7) + (((rotr (g32 s 4) 6) ^^^ (rotr (g32 s 4) 11)) ^^^ (rotr (g32 s 4) 25))) + (((g32 s 4) &&& (g32 s 5)) ^^^ ((~~~(g32 s 4)) &&& (g32 s 6)))) + (g32 constL t)) + (g32 (spreadL blk) t)) ((((rotr (g32 s 0) 2) ^^^ (rotr (g32 s 0) 13)) ^^^ (rotr (g32 s 0) 22)) + ((((g32 s 0) &&& (g32 s 1)) ^^^ ((g32 s 0) &&& (g32 s 2))) ^^^ ((g32 s 1) &&& (g32 s 2))))) rfl ?_
  refine JL_val _ (Ev_move rfl) rfl ?_
  refine JL_val _ (Ev_move rfl) rfl ?_
  refine JL_val _ (Ev_move rfl) rfl ?_
  refine JL_val (Ptr nb4 3) (Ev_indexArr 8 30 1 3 Tryd.underlying31 Tryd.sizeOf30 rfl rfl (by omega) (by omega) (by omega)) rfl ?_
  refine JL_val (U32 (g32 s 3)) (Ev_load rfl (Ld_one Tryd.isAgg30 (MemAt.ent 2 rfl (Seg.get (g32_get (i := 3) (by rw [hs]; omega)))))) rfl ?_
  refine JL_val _ (Ev_move rfl) rfl ?_
  refine JL_val (U32 ((g32 s 3) + (((((g32 s 7) + (((rotr (g32 s 4) 6) ^^^ (rotr (g32 s 4) 11)) ^^^ (rotr (g32 s 4) 25))) + (((g32 s 4) &&& (g32 s 5)) ^^^ ((~~~(g32 s 4)) &&& (g32 s 6)))) + (g32 constL t)) + (g32 (spreadL blk) t)))) (Ev_bini rfl rfl fun _ => bin_add_u32 (g32 s 3) (((((g32 s 7) + (((rotr (g32 s 4) 6) ^^^ (rotr (g32 s 4) 11)) ^^^ (rotr (g32 s 4) 25))) + (((g32 s 4) &&& (g32 s 5)) ^^^ ((~~~(g32 s 4)) &&& (g32 s 6)))) + (g32 constL t)) + (g32 (spreadL blk) t))) rfl ?_
  refine JL_val _ (Ev_move rfl) rfl ?_
  refine JL_val _ (Ev_move rfl) rfl ?_
  refine JL_val _ (Ev_move rfl) rfl ?_
  refine JL_val (.agg (cu32 ([(((((g32 s 7) + (((rotr (g32 s 4) 6) ^^^ (rotr (g32 s 4) 11)) ^^^ (rotr (g32 s 4) 25))) + (((g32 s 4) &&& (g32 s 5)) ^^^ ((~~~(g32 s 4)) &&& (g32 s 6)))) + (g32 constL t)) + (g32 (spreadL blk) t)) + ((((rotr (g32 s 0) 2) ^^^ (rotr (g32 s 0) 13)) ^^^ (rotr (g32 s 0) 22)) + ((((g32 s 0) &&& (g32 s 1)) ^^^ ((g32 s 0) &&& (g32 s 2))) ^^^ ((g32 s 1) &&& (g32 s 2)))), g32 s 0, g32 s 1, g32 s 2, (g32 s 3) + (((((g32 s 7) + (((rotr (g32 s 4) 6) ^^^ (rotr (g32 s 4) 11)) ^^^ (rotr (g32 s 4) 25))) + (((g32 s 4) &&& (g32 s 5)) ^^^ ((~~~(g32 s 4)) &&& (g32 s 6)))) + (g32 constL t)) + (g32 (spreadL blk) t)), g32 s 4, g32 s 5, g32 s 6])).toArray) (Ev_build [(0, U32 ((((((g32 s 7) + (((rotr (g32 s 4) 6) ^^^ (rotr (g32 s 4) 11)) ^^^ (rotr (g32 s 4) 25))) + (((g32 s 4) &&& (g32 s 5)) ^^^ ((~~~(g32 s 4)) &&& (g32 s 6)))) + (g32 constL t)) + (g32 (spreadL blk) t)) + ((((rotr (g32 s 0) 2) ^^^ (rotr (g32 s 0) 13)) ^^^ (rotr (g32 s 0) 22)) + ((((g32 s 0) &&& (g32 s 1)) ^^^ ((g32 s 0) &&& (g32 s 2))) ^^^ ((g32 s 1) &&& (g32 s 2)))))), (1, U32 (g32 s 0)), (2, U32 (g32 s 1)), (3, U32 (g32 s 2)), (4, U32 ((g32 s 3) + (((((g32 s 7) + (((rotr (g32 s 4) 6) ^^^ (rotr (g32 s 4) 11)) ^^^ (rotr (g32 s 4) 25))) + (((g32 s 4) &&& (g32 s 5)) ^^^ ((~~~(g32 s 4)) &&& (g32 s 6)))) + (g32 constL t)) + (g32 (spreadL blk) t)))), (5, U32 (g32 s 4)), (6, U32 (g32 s 5)), (7, U32 (g32 s 6))] _ rfl (fun _ => by kernel_rfl)) rfl ?_
  refine JL_step (Step_store 2 nb4 0 8 (cu32 s) 31 (.agg (cu32 ([(((((g32 s 7) + (((rotr (g32 s 4) 6) ^^^ (rotr (g32 s 4) 11)) ^^^ (rotr (g32 s 4) 25))) + (((g32 s 4) &&& (g32 s 5)) ^^^ ((~~~(g32 s 4)) &&& (g32 s 6)))) + (g32 constL t)) + (g32 (spreadL blk) t)) + ((((rotr (g32 s 0) 2) ^^^ (rotr (g32 s 0) 13)) ^^^ (rotr (g32 s 0) 22)) + ((((g32 s 0) &&& (g32 s 1)) ^^^ ((g32 s 0) &&& (g32 s 2))) ^^^ ((g32 s 1) &&& (g32 s 2)))), g32 s 0, g32 s 1, g32 s 2, (g32 s 3) + (((((g32 s 7) + (((rotr (g32 s 4) 6) ^^^ (rotr (g32 s 4) 11)) ^^^ (rotr (g32 s 4) 25))) + (((g32 s 4) &&& (g32 s 5)) ^^^ ((~~~(g32 s 4)) &&& (g32 s 6)))) + (g32 constL t)) + (g32 (spreadL blk) t)), g32 s 4, g32 s 5, g32 s 6])).toArray) (cu32 ([(((((g32 s 7) + (((rotr (g32 s 4) 6) ^^^ (rotr (g32 s 4) 11)) ^^^ (rotr (g32 s 4) 25))) + (((g32 s 4) &&& (g32 s 5)) ^^^ ((~~~(g32 s 4)) &&& (g32 s 6)))) + (g32 constL t)) + (g32 (spreadL blk) t)) + ((((rotr (g32 s 0) 2) ^^^ (rotr (g32 s 0) 13)) ^^^ (rotr (g32 s 0) 22)) + ((((g32 s 0) &&& (g32 s 1)) ^^^ ((g32 s 0) &&& (g32 s 2))) ^^^ ((g32 s 1) &&& (g32 s 2)))), g32 s 0, g32 s 1, g32 s 2, (g32 s 3) + (((((g32 s 7) + (((rotr (g32 s 4) 6) ^^^ (rotr (g32 s 4) 11)) ^^^ (rotr (g32 s 4) 25))) + (((g32 s 4) &&& (g32 s 5)) ^^^ ((~~~(g32 s 4)) &&& (g32 s 6)))) + (g32 constL t)) + (g32 (spreadL blk) t)), g32 s 4, g32 s 5, g32 s 6])) (cu32 ([(((((g32 s 7) + (((rotr (g32 s 4) 6) ^^^ (rotr (g32 s 4) 11)) ^^^ (rotr (g32 s 4) 25))) + (((g32 s 4) &&& (g32 s 5)) ^^^ ((~~~(g32 s 4)) &&& (g32 s 6)))) + (g32 constL t)) + (g32 (spreadL blk) t)) + ((((rotr (g32 s 0) 2) ^^^ (rotr (g32 s 0) 13)) ^^^ (rotr (g32 s 0) 22)) + ((((g32 s 0) &&& (g32 s 1)) ^^^ ((g32 s 0) &&& (g32 s 2))) ^^^ ((g32 s 1) &&& (g32 s 2)))), g32 s 0, g32 s 1, g32 s 2, (g32 s 3) + (((((g32 s 7) + (((rotr (g32 s 4) 6) ^^^ (rotr (g32 s 4) 11)) ^^^ (rotr (g32 s 4) 25))) + (((g32 s 4) &&& (g32 s 5)) ^^^ ((~~~(g32 s 4)) &&& (g32 s 6)))) + (g32 constL t)) + (g32 (spreadL blk) t)), g32 s 4, g32 s 5, g32 s 6])) rfl rfl rfl (by first | rfl | simp) Tryd.sizeOf31 (by simp []) (by first | exact one_u8 | exact one_u32 | exact one_u64 | (simp [cu8, cu32, cu64, Value.oneCell']; done)) (by simp [hs]) (lay_whole (by simp [hs]))) rfl ?_
  rintro v1 L1 ⟨rfl, rfl⟩
  show JL _ _ _ _ _ [⟨nb1, cu32 st, 31, (0, 0)⟩, ⟨nb3, cu32 (zr32 8), 31, (0, 0)⟩, ⟨nb4, cu32 ([(((((g32 s 7) + (((rotr (g32 s 4) 6) ^^^ (rotr (g32 s 4) 11)) ^^^ (rotr (g32 s 4) 25))) + (((g32 s 4) &&& (g32 s 5)) ^^^ ((~~~(g32 s 4)) &&& (g32 s 6)))) + (g32 constL t)) + (g32 (spreadL blk) t)) + ((((rotr (g32 s 0) 2) ^^^ (rotr (g32 s 0) 13)) ^^^ (rotr (g32 s 0) 22)) + ((((g32 s 0) &&& (g32 s 1)) ^^^ ((g32 s 0) &&& (g32 s 2))) ^^^ ((g32 s 1) &&& (g32 s 2)))), g32 s 0, g32 s 1, g32 s 2, (g32 s 3) + (((((g32 s 7) + (((rotr (g32 s 4) 6) ^^^ (rotr (g32 s 4) 11)) ^^^ (rotr (g32 s 4) 25))) + (((g32 s 4) &&& (g32 s 5)) ^^^ ((~~~(g32 s 4)) &&& (g32 s 6)))) + (g32 constL t)) + (g32 (spreadL blk) t)), g32 s 4, g32 s 5, g32 s 6]), 31, (0, 0)⟩]
  refine JL_nil ?_
  refine JQ_in_normal ?_
  refine JQ_then ?_
  refine JC_region ?_
  refine JL_val (I64 ((t:Int) + 1)) (Ev_bini rfl rfl fun _ => bin_add_i _ _ ((t:Int) + 1) (by omega) (by omega)) rfl ?_
  refine JL_val _ (Ev_move rfl) rfl ?_
  refine JL_nil ?_
  refine JQ_thenK ?_
  refine K_next (t + 1, [(((((g32 s 7) + (((rotr (g32 s 4) 6) ^^^ (rotr (g32 s 4) 11)) ^^^ (rotr (g32 s 4) 25))) + (((g32 s 4) &&& (g32 s 5)) ^^^ ((~~~(g32 s 4)) &&& (g32 s 6)))) + (g32 constL t)) + (g32 (spreadL blk) t)) + ((((rotr (g32 s 0) 2) ^^^ (rotr (g32 s 0) 13)) ^^^ (rotr (g32 s 0) 22)) + ((((g32 s 0) &&& (g32 s 1)) ^^^ ((g32 s 0) &&& (g32 s 2))) ^^^ ((g32 s 1) &&& (g32 s 2)))), g32 s 0, g32 s 1, g32 s 2, (g32 s 3) + (((((g32 s 7) + (((rotr (g32 s 4) 6) ^^^ (rotr (g32 s 4) 11)) ^^^ (rotr (g32 s 4) 25))) + (((g32 s 4) &&& (g32 s 5)) ^^^ ((~~~(g32 s 4)) &&& (g32 s 6)))) + (g32 constL t)) + (g32 (spreadL blk) t)), g32 s 4, g32 s 5, g32 s 6]) ⟨by omega, by rw [cpN, ← hx2]; rfl, rfl⟩ (by first | (simp; omega) | simp) (Sub.cons rfl (Sub.cons rfl (Sub.cons rfl (Sub.cons rfl (Sub.cons rfl (Sub.nil)))))) rfl
 ·
  have hp1 : ¬ (((t:Int)) < (64:Int)) := of_decide_eq_false hb1
  refine JC_exit ?_
  refine JQ_then_exit ?_
  refine JQ_then_exit ?_
  refine JQ_in_same ?_
  refine JQ_then ?_
  refine JC_seq ?_
  refine JC_seq ?_
  refine JC_region ?_
  refine JL_val _ (Ev_move rfl) rfl ?_
  refine JL_nil ?_
  refine JQ_then ?_
  refine JC_block ?_
  refine JC_loop (ι := Nat × List UInt32) (fun ⟨i, u⟩ => [(2, Ptr nb1 0), (4, Ptr nb3 0), (5, Ptr nb4 0), (97, I64 ((i:Int)))]) (fun ⟨i, u⟩ => [⟨nb1, cu32 st, 31, (0, 0)⟩, ⟨nb3, cu32 (zr32 8), 31, (0, 0)⟩, ⟨nb4, cu32 u, 31, (0, 0)⟩]) (fun ⟨i, u⟩ => i ≤ 8 ∧ u = adN st s i ∧ u.length = 8) (fun ⟨i, u⟩ => 8 - i) (0, s) ⟨by omega, by rw [adN], hs⟩ (Sub.cons rfl (Sub.cons rfl (Sub.cons rfl (Sub.cons rfl (Sub.nil))))) rfl ?_
  rintro ⟨i, u⟩ ⟨hy1, hy2, hu⟩
  show JC _ _ _ [(2, Ptr nb1 0), (4, Ptr nb3 0), (5, Ptr nb4 0), (97, I64 ((i:Int)))] [⟨nb1, cu32 st, 31, (0, 0)⟩, ⟨nb3, cu32 (zr32 8), 31, (0, 0)⟩, ⟨nb4, cu32 u, 31, (0, 0)⟩]
  refine JC_seq ?_
  refine JC_region ?_
  refine JL_val (.bool (decide (((i:Int)) < (8:Int)))) (Ev_bini rfl rfl fun _ => bin_lss_i _ _) rfl ?_
  refine JL_nil ?_
  refine JQ_then ?_
  refine JC_seq ?_
  refine JC_cond (decide (((i:Int)) < (8:Int))) rfl (fun hb2 => ?_) (fun hb2 => ?_)
  ·
   have hp2 : ((i:Int)) < (8:Int) := of_decide_eq_true hb2
   refine JC_skip ?_
   refine JQ_then ?_
   refine JC_seq ?_
   refine JC_block ?_
   refine JC_seq ?_
   refine JC_region ?_
   refine JL_val _ (Ev_move rfl) rfl ?_
   refine JL_val _ (Ev_assign rfl) rfl ?_
   refine JL_nil ?_
   refine JQ_then ?_
   refine JC_draw 110 2 [(0, I64 ((i:Int))), (1, Ptr nb4 i), (2, U32 (g32 u i)), (3, I64 ((i:Int))), (4, Ptr nb1 i), (5, U32 (g32 st i)), (6, U32 ((g32 u i) + (g32 st i))), (7, Ptr nb4 i)] Tryd.mixed rfl (by decide +kernel) ?_
   have hl1 : (u.set i ((g32 u i) + (g32 st i))).length = 8 := by simp [hu]
   refine DP_one ⟨[], [0, 1, 2, 3, 4, 5, 6, 7], [], [0, 1, 2, 3, 4, 5, 6, 7], [8]⟩ 8 _ rfl rfl (by decide +kernel) rfl ⟨⟨_, rfl, Qok_val rfl (Ev_move rfl)⟩, ⟨_, rfl, Qok_val rfl (Ev_indexArr 8 30 1 i Tryd.underlying31 Tryd.sizeOf30 rfl rfl (by omega) (by omega) (by omega))⟩, ⟨_, rfl, Qok_val rfl (Ev_load rfl (Ld_one Tryd.isAgg30 (MemAt.ent 2 rfl (Seg.get (g32_get (i := i) (by rw [hu]; omega))))))⟩, ⟨_, rfl, Qok_val rfl (Ev_move rfl)⟩, ⟨_, rfl, Qok_val rfl (Ev_indexArr 8 30 1 i Tryd.underlying31 Tryd.sizeOf30 rfl rfl (by omega) (by omega) (by omega))⟩, ⟨_, rfl, Qok_val rfl (Ev_load rfl (Ld_one Tryd.isAgg30 (MemAt.ent 0 rfl (Seg.get (g32_get (i := i) (by rw [hs0]; omega))))))⟩, ⟨_, rfl, Qok_val rfl (Ev_bini rfl rfl fun _ => bin_add_u32 (g32 u i) (g32 st i))⟩, ⟨_, rfl, Qok_val rfl (Ev_indexArr 8 30 1 i Tryd.underlying31 Tryd.sizeOf30 rfl rfl (by omega) (by omega) (by omega))⟩, trivial⟩ rfl (Cok_step rfl (Step_store 2 nb4 i 1 (cu32 u) 31 (U32 ((g32 u i) + (g32 st i))) ([U32 ((g32 u i) + (g32 st i))]) (cu32 (u.set i ((g32 u i) + (g32 st i)))) rfl rfl rfl rfl Tryd.sizeOf30 rfl (by simp [Value.oneCell']) (by simp [hu]; try omega) (lay32 _ _ _ (by rw [hu]; omega)))) ?_
   rintro v1 L1 ⟨rfl, rfl⟩
   refine ⟨[], ?_⟩
   show DP _ _ _ _ _ _ _ _ [⟨nb1, cu32 st, 31, (0, 0)⟩, ⟨nb3, cu32 (zr32 8), 31, (0, 0)⟩, ⟨nb4, cu32 (u.set i ((g32 u i) + (g32 st i))), 31, (0, 0)⟩]
   refine DP_end ⟨[8], [0, 1, 2, 3, 4, 5, 6, 7], [0, 1, 2, 3, 4, 5, 6, 7], [], []⟩ rfl rfl (by decide +kernel) rfl trivial ?_
   refine K_sub (F' := [(100, I64 ((i:Int))), (101, Ptr nb4 i), (102, U32 (g32 u i)), (103, I64 ((i:Int))), (104, Ptr nb1 i), (105, U32 (g32 st i)), (106, U32 ((g32 u i) + (g32 st i))), (107, Ptr nb4 i), (2, Ptr nb1 0), (4, Ptr nb3 0), (5, Ptr nb4 0), (97, I64 ((i:Int))), (98, .bool (decide (((i:Int)) < (8:Int)))), (99, I64 ((i:Int))), (16, I64 ((i:Int)))]) (Sub.cons (by kernel_rfl) (Sub.cons (by kernel_rfl) (Sub.cons (by kernel_rfl) (Sub.cons (by kernel_rfl) (Sub.cons (by kernel_rfl) (Sub.cons (by kernel_rfl) (Sub.cons (by kernel_rfl) (Sub.cons (by kernel_rfl) (Sub.cons (by kernel_rfl) (Sub.cons (by kernel_rfl) (Sub.cons (by kernel_rfl) (Sub.cons (by kernel_rfl) (Sub.cons (by kernel_rfl) (Sub.cons (by kernel_rfl) (Sub.cons (by kernel_rfl) (Sub.nil)))))))))))))))) ?_
   show JQ _ _ _ [(100, I64 ((i:Int))), (101, Ptr nb4 i), (102, U32 (g32 u i)), (103, I64 ((i:Int))), (104, Ptr nb1 i), (105, U32 (g32 st i)), (106, U32 ((g32 u i) + (g32 st i))), (107, Ptr nb4 i), (2, Ptr nb1 0), (4, Ptr nb3 0), (5, Ptr nb4 0), (97, I64 ((i:Int))), (98, .bool (decide (((i:Int)) < (8:Int)))), (99, I64 ((i:Int))), (16, I64 ((i:Int)))] _
   refine JQ_in_normal ?_
   refine JQ_then ?_
   refine JC_region ?_
   refine JL_val (I64 ((i:Int) + 1)) (Ev_bini rfl rfl fun _ => bin_add_i _ _ ((i:Int) + 1) (by omega) (by omega)) rfl ?_
   refine JL_val _ (Ev_move rfl) rfl ?_
   refine JL_nil ?_
   refine JQ_thenK ?_
   refine K_next (i + 1, u.set i ((g32 u i) + (g32 st i))) ⟨by omega, by rw [adN, ← hy2], hl1⟩ (by first | (simp; omega) | simp) (Sub.cons rfl (Sub.cons rfl (Sub.cons rfl (Sub.cons rfl (Sub.nil))))) rfl
  ·
   have hp2 : ¬ (((i:Int)) < (8:Int)) := of_decide_eq_false hb2
   refine JC_exit ?_
   refine JQ_then_exit ?_
   refine JQ_then_exit ?_
   refine JQ_in_same ?_
   refine JQ_then ?_
   refine JC_seq ?_
   refine JC_region ?_
   refine JL_val (.agg (cu32 u).toArray) (Ev_load rfl (Ld_agg Tryd.isAgg31 Tryd.sizeOf31 (len_cu32 hu) (MemAt.ent 2 rfl (Seg.whole _)))) rfl ?_
   refine JL_step (Step_store 1 nb3 0 8 (cu32 (zr32 8)) 31 (.agg (cu32 u).toArray) (cu32 u) (cu32 u) rfl rfl rfl (by first | rfl | simp) Tryd.sizeOf31 (len_cu32 hu) (by first | exact one_u8 | exact one_u32 | exact one_u64 | (simp [cu8, cu32, cu64, Value.oneCell']; done)) (by simp [(zr32_len 8)]) (lay_whole (by simp [(zr32_len 8), hu]))) rfl ?_
   rintro v1 L1 ⟨rfl, rfl⟩
   show JL _ _ _ _ _ [⟨nb1, cu32 st, 31, (0, 0)⟩, ⟨nb3, cu32 u, 31, (0, 0)⟩, ⟨nb4, cu32 u, 31, (0, 0)⟩]
   refine JL_nil ?_
   refine JQ_then ?_
   refine JC_ret ?_
   refine JQ_ret (.agg (cu32 u).toArray) (res1 Tryd.results28 (RV_cell rfl (Ld_agg Tryd.isAgg31 Tryd.sizeOf31 (len_cu32 hu) (MemAt.ent 1 rfl (Seg.whole _))))) fun w1 hw1 => ?_
   have e1 : t = 64 := by omega
   have e2 : i = 8 := by omega
   subst e1; subst e2
   rw [show u = comprL constL st blk by rw [comprL, hy2, hx2]]
   exact ⟨_, [], rfl, ⟨rfl, rfl⟩, hw1.sub (by simp) (by simp)⟩
theorem spN_zero (blk : List UInt8) : ∀ t, t ≤ 64 → ∀ j, t ≤ j → g32 (spN blk t) j = 0
 | 0, _, j, _ => by rw [spN]; exact g32_zr
 | t + 1, ht, j, hj => by
  rw [spN, spS]
  split
  all_goals rw [g32_set _ _ _ _ (by rw [spN_len]; omega), if_neg (by omega)]; exact spN_zero blk t (by omega) j (by omega)
theorem spN_set0 (blk : List UInt8) {t : Nat} (ht : t < 64) : spN blk t = (spN blk t).set t 0 := by
  refine ext32 (by simp) fun j hj => ?_
  rw [g32_set _ _ _ _ (by rw [spN_len]; omega)]
  by_cases h : t = j
  · subst h; rw [if_pos rfl, spN_zero blk t (by omega) t (Nat.le_refl t)]
  · rw [if_neg h]
theorem set_again (w : List UInt32) (t : Nat) (x y : UInt32) (b : UInt8) (h : t < w.length) (e : y = x * 256 + b.toUInt32) : (w.set t x).set t (g32 (w.set t x) t * 256 + b.toUInt32) = w.set t y := by
 rw [g32_set _ _ _ _ h, if_pos rfl, List.set_set, e]
theorem ex8 {s : List UInt32} (h : s.length = 8) : [g32 s 0, g32 s 1, g32 s 2, g32 s 3, g32 s 4, g32 s 5, g32 s 6, g32 s 7] = s := by
 match s, h with
 | [_, _, _, _, _, _, _, _], _ => rfl
set_option maxHeartbeats 4000000 in
theorem rcompress_c (st : List UInt32) (ab : Option Addr) (cb : Nat) (blk : List UInt8) (w : World) (hs0 : st.length = 8) (hb : blk.length = 64) (hr : RdB w [] ab blk) (hG : GLr w) : Calls Tryd.prog 29 #[.agg (cu32 st).toArray, .slice ab 64 cb] w (Post w [] (fun v L => v = .agg (cu32 (comprL constL st blk)).toArray ∧ L = [])) := by
 refine enter w [] 199 [] [.agg (cu32 st).toArray, .slice ab 64 cb] Tryd.func29 rfl rfl (by simp) (Hp.start (by simp) (by simp) (by simp)) ?_
 show JC _ _ _ [(0, .agg (cu32 st).toArray), (1, .slice ab 64 cb)] _
 refine JC_seq ?_
 refine JC_region ?_
 refine JL_step (Step_box (.agg (cu32 st).toArray) (cu32 st) rfl (by first | rfl | simp)) rfl ?_
 rintro v1 L1 ⟨nb1, hnb1, rfl, rfl⟩
 show JL _ _ _ _ ((2, Ptr nb1 0) :: _) [⟨nb1, cu32 st, 31, (0, 0)⟩]
 refine JL_step (Step_alloc _ (cu32 (zr32 8)) Tryd.zeroValue31 (by kernel_rfl)) rfl ?_
 rintro v1 L1 ⟨nb2, hnb2, rfl, rfl⟩
 show JL _ _ _ _ ((4, Ptr nb2 0) :: _) [⟨nb1, cu32 st, 31, (0, 0)⟩, ⟨nb2, cu32 (zr32 8), 31, (0, 0)⟩]
 refine JL_nil ?_
 refine JQ_then ?_
 refine JC_seq ?_
 refine JC_region ?_
 refine JL_step (Step_alloc _ (cu32 (zr32 64)) Tryd.zeroValue44 (by kernel_rfl)) rfl ?_
 rintro v1 L1 ⟨nb3, hnb3, rfl, rfl⟩
 show JL _ _ _ _ ((5, Ptr nb3 0) :: _) [⟨nb1, cu32 st, 31, (0, 0)⟩, ⟨nb2, cu32 (zr32 8), 31, (0, 0)⟩, ⟨nb3, cu32 (zr32 64), 44, (0, 0)⟩]
 refine JL_nil ?_
 refine JQ_then ?_
 refine JC_seq ?_
 refine JC_seq ?_
 refine JC_region ?_
 refine JL_val _ (Ev_assign rfl) rfl ?_
 refine JL_nil ?_
 refine JQ_then ?_
 refine JC_block ?_
 refine JC_loop (ι := Nat × List UInt32) (fun ⟨t, ww⟩ => [(1, .slice ab 64 cb), (2, Ptr nb1 0), (4, Ptr nb2 0), (5, Ptr nb3 0), (6, I64 ((t:Int)))]) (fun ⟨t, ww⟩ => [⟨nb1, cu32 st, 31, (0, 0)⟩, ⟨nb2, cu32 (zr32 8), 31, (0, 0)⟩, ⟨nb3, cu32 ww, 44, (0, 0)⟩]) (fun ⟨t, ww⟩ => t ≤ 64 ∧ ww = spN blk t ∧ ww.length = 64) (fun ⟨t, ww⟩ => 64 - t) (0, zr32 64) ⟨by omega, by rw [spN], zr32_len 64⟩ (Sub.cons rfl (Sub.cons rfl (Sub.cons rfl (Sub.cons rfl (Sub.cons rfl (Sub.nil)))))) rfl ?_
 rintro ⟨t, ww⟩ ⟨hx1, hx2, hw⟩
 show JC _ _ _ [(1, .slice ab 64 cb), (2, Ptr nb1 0), (4, Ptr nb2 0), (5, Ptr nb3 0), (6, I64 ((t:Int)))] [⟨nb1, cu32 st, 31, (0, 0)⟩, ⟨nb2, cu32 (zr32 8), 31, (0, 0)⟩, ⟨nb3, cu32 ww, 44, (0, 0)⟩]
 refine JC_seq ?_
 refine JC_seq ?_
 refine JC_region ?_
 refine JL_val _ (Ev_move rfl) rfl ?_
 refine JL_val (.bool (decide (((t:Int)) < (64:Int)))) (Ev_bini rfl rfl fun _ => bin_lss_i _ _) rfl ?_
 refine JL_nil ?_
 refine JQ_then ?_
 refine JC_cond (decide (((t:Int)) < (64:Int))) rfl (fun hb1 => ?_) (fun hb1 => ?_)
 ·
  have hp1 : ((t:Int)) < (64:Int) := of_decide_eq_true hb1
  refine JC_skip ?_
  refine JQ_then ?_
  refine JC_seq ?_
  refine JC_block ?_
  refine JC_seq ?_
  refine JC_region ?_
  refine JL_val _ (Ev_move rfl) rfl ?_
  refine JL_val (.bool (decide (((t:Int)) < (16:Int)))) (Ev_bini rfl rfl fun _ => bin_lss_i _ _) rfl ?_
  refine JL_nil ?_
  refine JQ_then ?_
  refine JC_cond (decide (((t:Int)) < (16:Int))) rfl (fun hb2 => ?_) (fun hb2 => ?_)
  ·
   have hp2 : ((t:Int)) < (16:Int) := of_decide_eq_true hb2
   refine JC_seq ?_
   refine JC_region ?_
   refine JL_val _ (Ev_assign rfl) rfl ?_
   refine JL_nil ?_
   refine JQ_then ?_
   refine JC_block ?_
   refine JC_loop (ι := Nat × List UInt32) (fun ⟨i, u⟩ => [(1, .slice ab 64 cb), (2, Ptr nb1 0), (4, Ptr nb2 0), (5, Ptr nb3 0), (6, I64 ((t:Int))), (23, I64 ((t:Int))), (24, .bool (decide (((t:Int)) < (64:Int)))), (27, I64 ((t:Int))), (28, .bool (decide (((t:Int)) < (16:Int)))), (7, I64 ((i:Int)))]) (fun ⟨i, u⟩ => [⟨nb1, cu32 st, 31, (0, 0)⟩, ⟨nb2, cu32 (zr32 8), 31, (0, 0)⟩, ⟨nb3, cu32 u, 44, (0, 0)⟩]) (fun ⟨i, u⟩ => i ≤ 4 ∧ u = ww.set t (wrdN blk t i) ∧ u.length = 64) (fun ⟨i, u⟩ => 4 - i) (0, ww) ⟨by omega, by rw [hx2, wrdN]; exact spN_set0 blk (t := t) (by omega), hw⟩ (Sub.cons rfl (Sub.cons rfl (Sub.cons rfl (Sub.cons rfl (Sub.cons rfl (Sub.cons rfl (Sub.cons rfl (Sub.cons rfl (Sub.cons rfl (Sub.cons rfl (Sub.nil))))))))))) rfl ?_
   rintro ⟨i, u⟩ ⟨hz1, hz2, hu⟩
   show JC _ _ _ [(1, .slice ab 64 cb), (2, Ptr nb1 0), (4, Ptr nb2 0), (5, Ptr nb3 0), (6, I64 ((t:Int))), (23, I64 ((t:Int))), (24, .bool (decide (((t:Int)) < (64:Int)))), (27, I64 ((t:Int))), (28, .bool (decide (((t:Int)) < (16:Int)))), (7, I64 ((i:Int)))] [⟨nb1, cu32 st, 31, (0, 0)⟩, ⟨nb2, cu32 (zr32 8), 31, (0, 0)⟩, ⟨nb3, cu32 u, 44, (0, 0)⟩]
   refine JC_seq ?_
   refine JC_seq ?_
   refine JC_region ?_
   refine JL_val _ (Ev_move rfl) rfl ?_
   refine JL_val (.bool (decide (((i:Int)) < (4:Int)))) (Ev_bini rfl rfl fun _ => bin_lss_i _ _) rfl ?_
   refine JL_nil ?_
   refine JQ_then ?_
   refine JC_cond (decide (((i:Int)) < (4:Int))) rfl (fun hb3 => ?_) (fun hb3 => ?_)
   ·
    have hp3 : ((i:Int)) < (4:Int) := of_decide_eq_true hb3
    refine JC_skip ?_
    refine JQ_then ?_
    refine JC_seq ?_
    refine JC_block ?_
    obtain ⟨bz1, oz1, hz1, hm1⟩ := hr.pos (by rw [hb]; omega)
    refine JC_draw 199 2 [(0, I64 ((t:Int))), (1, I64 ((t:Int))), (2, Ptr nb3 t), (3, U32 (g32 u t)), (4, U32 ((g32 u t) * (256:UInt32))), (5, .slice ab 64 cb), (6, I64 ((t:Int))), (7, I64 (4*(t:Int))), (8, I64 ((i:Int))), (9, I64 ((i:Int) + 4*(t:Int))), (10, Ptr bz1 (i + oz1 + 4*t)), (11, U8 (g8 blk (i + 4*t))), (12, U32 ((g8 blk (i + 4*t)).toUInt32)), (13, U32 (((g32 u t) * (256:UInt32)) + ((g8 blk (i + 4*t)).toUInt32))), (14, Ptr nb3 t)] Tryd.mixed rfl (by decide +kernel) ?_
    have hl1 : (u.set t (((g32 u t) * (256:UInt32)) + ((g8 blk (i + 4*t)).toUInt32))).length = 64 := by simp [hu]
    refine DP_one ⟨[], [0, 1, 2, 3, 4, 5, 6, 7, 8, 9, 10, 11, 12, 13, 14], [], [0, 1, 2, 3, 4, 5, 6, 7, 8, 9, 10, 11, 12, 13, 14], [15]⟩ 15 _ rfl rfl (by decide +kernel) rfl ⟨⟨_, rfl, Qok_val rfl (Ev_move rfl)⟩, ⟨_, rfl, Qok_val rfl (Ev_move rfl)⟩, ⟨_, rfl, Qok_val rfl (Ev_indexArr 64 30 1 t Tryd.underlying44 Tryd.sizeOf30 rfl rfl (by omega) (by omega) (by omega))⟩, ⟨_, rfl, Qok_val rfl (Ev_load rfl (Ld_one Tryd.isAgg30 (MemAt.ent 2 rfl (Seg.get (g32_get (i := t) (by rw [hu]; omega))))))⟩, ⟨_, rfl, Qok_val rfl (Ev_bini rfl rfl fun _ => bin_mul_u32 (g32 u t) (256:UInt32))⟩, ⟨_, rfl, Qok_val rfl (Ev_move rfl)⟩, ⟨_, rfl, Qok_val rfl (Ev_move rfl)⟩, ⟨_, rfl, Qok_val rfl (Ev_bini rfl rfl fun _ => bin_mul_i _ _ (4*(t:Int)) (by omega) (by omega))⟩, ⟨_, rfl, Qok_val rfl (Ev_move rfl)⟩, ⟨_, rfl, Qok_val rfl (Ev_bini rfl rfl fun _ => bin_add_i _ _ ((i:Int) + 4*(t:Int)) (by omega) (by omega))⟩, ⟨_, rfl, Qok_val rfl (Ev_indexSlG 5 1 (i + oz1 + 4*t) Tryd.underlying22 Tryd.sizeOf5 rfl hz1 rfl (by omega) (by omega) (by omega))⟩, ⟨_, rfl, Qok_val rfl (Ev_load rfl (Ld_one Tryd.isAgg5 (MemAt.seg (MemAt.base hm1.1 hm1.2.1 hm1.2.2) (Seg.get (g8_get (i := (i + 4*t)) (by rw [hb]; omega))) (by omega))))⟩, ⟨_, rfl, Qok_val rfl (Ev_conv _ _ rfl fun _ => conv_u8_u32 (by rw [Tryd.underlying5]; rfl) Tryd.underlying30 _)⟩, ⟨_, rfl, Qok_val rfl (Ev_bini rfl rfl fun _ => bin_add_u32 ((g32 u t) * (256:UInt32)) ((g8 blk (i + 4*t)).toUInt32))⟩, ⟨_, rfl, Qok_val rfl (Ev_indexArr 64 30 1 t Tryd.underlying44 Tryd.sizeOf30 rfl rfl (by omega) (by omega) (by omega))⟩, trivial⟩ rfl (Cok_step rfl (Step_store 2 nb3 t 1 (cu32 u) 44 (U32 (((g32 u t) * (256:UInt32)) + ((g8 blk (i + 4*t)).toUInt32))) ([U32 (((g32 u t) * (256:UInt32)) + ((g8 blk (i + 4*t)).toUInt32))]) (cu32 (u.set t (((g32 u t) * (256:UInt32)) + ((g8 blk (i + 4*t)).toUInt32)))) rfl rfl rfl rfl Tryd.sizeOf30 rfl (by simp [Value.oneCell']) (by simp [hu]; try omega) (lay32 _ _ _ (by rw [hu]; omega)))) ?_
    rintro v1 L1 ⟨rfl, rfl⟩
    refine ⟨[], ?_⟩
    show DP _ _ _ _ _ _ _ _ [⟨nb1, cu32 st, 31, (0, 0)⟩, ⟨nb2, cu32 (zr32 8), 31, (0, 0)⟩, ⟨nb3, cu32 (u.set t (((g32 u t) * (256:UInt32)) + ((g8 blk (i + 4*t)).toUInt32))), 44, (0, 0)⟩]
    refine DP_end ⟨[15], [0, 1, 2, 3, 4, 5, 6, 7, 8, 9, 10, 11, 12, 13, 14], [0, 1, 2, 3, 4, 5, 6, 7, 8, 9, 10, 11, 12, 13, 14], [], []⟩ rfl rfl (by decide +kernel) rfl trivial ?_
    refine K_sub (F' := [(33, I64 ((t:Int))), (34, I64 ((t:Int))), (35, Ptr nb3 t), (36, U32 (g32 u t)), (37, U32 ((g32 u t) * (256:UInt32))), (38, .slice ab 64 cb), (39, I64 ((t:Int))), (40, I64 (4*(t:Int))), (41, I64 ((i:Int))), (42, I64 ((i:Int) + 4*(t:Int))), (43, Ptr bz1 (i + oz1 + 4*t)), (44, U8 (g8 blk (i + 4*t))), (45, U32 ((g8 blk (i + 4*t)).toUInt32)), (46, U32 (((g32 u t) * (256:UInt32)) + ((g8 blk (i + 4*t)).toUInt32))), (47, Ptr nb3 t), (1, .slice ab 64 cb), (2, Ptr nb1 0), (4, Ptr nb2 0), (5, Ptr nb3 0), (6, I64 ((t:Int))), (23, I64 ((t:Int))), (24, .bool (decide (((t:Int)) < (64:Int)))), (27, I64 ((t:Int))), (28, .bool (decide (((t:Int)) < (16:Int)))), (7, I64 ((i:Int))), (29, I64 ((i:Int))), (30, .bool (decide (((i:Int)) < (4:Int))))]) (Sub.cons (by kernel_rfl) (Sub.cons (by kernel_rfl) (Sub.cons (by kernel_rfl) (Sub.cons (by kernel_rfl) (Sub.cons (by kernel_rfl) (Sub.cons (by kernel_rfl) (Sub.cons (by kernel_rfl) (Sub.cons (by kernel_rfl) (Sub.cons (by kernel_rfl) (Sub.cons (by kernel_rfl) (Sub.cons (by kernel_rfl) (Sub.cons (by kernel_rfl) (Sub.cons (by kernel_rfl) (Sub.cons (by kernel_rfl) (Sub.cons (by kernel_rfl) (Sub.cons (by kernel_rfl) (Sub.cons (by kernel_rfl) (Sub.cons (by kernel_rfl) (Sub.cons (by kernel_rfl) (Sub.cons (by kernel_rfl) (Sub.cons (by kernel_rfl) (Sub.cons (by kernel_rfl) (Sub.cons (by kernel_rfl) (Sub.cons (by kernel_rfl) (Sub.cons (by kernel_rfl) (Sub.cons (by kernel_rfl) (Sub.cons (by kernel_rfl) (Sub.nil)))))))))))))))))))))))))))) ?_
    show JQ _ _ _ [(33, I64 ((t:Int))), (34, I64 ((t:Int))), (35, Ptr nb3 t), (36, U32 (g32 u t)), (37, U32 ((g32 u t) * (256:UInt32))), (38, .slice ab 64 cb), (39, I64 ((t:Int))), (40, I64 (4*(t:Int))), (41, I64 ((i:Int))), (42, I64 ((i:Int) + 4*(t:Int))), (43, Ptr bz1 (i + oz1 + 4*t)), (44, U8 (g8 blk (i + 4*t))), (45, U32 ((g8 blk (i + 4*t)).toUInt32)), (46, U32 (((g32 u t) * (256:UInt32)) + ((g8 blk (i + 4*t)).toUInt32))), (47, Ptr nb3 t), (1, .slice ab 64 cb), (2, Ptr nb1 0), (4, Ptr nb2 0), (5, Ptr nb3 0), (6, I64 ((t:Int))), (23, I64 ((t:Int))), (24, .bool (decide (((t:Int)) < (64:Int)))), (27, I64 ((t:Int))), (28, .bool (decide (((t:Int)) < (16:Int)))), (7, I64 ((i:Int))), (29, I64 ((i:Int))), (30, .bool (decide (((i:Int)) < (4:Int))))] _
    refine JQ_in_normal ?_
    refine JQ_then ?_
    refine JC_region ?_
    refine JL_val _ (Ev_move rfl) rfl ?_
    refine JL_val (I64 ((i:Int) + 1)) (Ev_bini rfl rfl fun _ => bin_add_i _ _ ((i:Int) + 1) (by omega) (by omega)) rfl ?_
    refine JL_val _ (Ev_assign rfl) rfl ?_
    refine JL_nil ?_
    refine JQ_thenK ?_
    refine K_next (i + 1, u.set t (((g32 u t) * (256:UInt32)) + ((g8 blk (i + 4*t)).toUInt32))) ⟨by omega, by rw [hz2]; exact set_again ww t _ _ _ (by omega) (by rw [wrdN]), hl1⟩ (by first | (simp; omega) | simp) (Sub.cons rfl (Sub.cons rfl (Sub.cons rfl (Sub.cons rfl (Sub.cons rfl (Sub.cons rfl (Sub.cons rfl (Sub.cons rfl (Sub.cons rfl (Sub.cons rfl (Sub.nil))))))))))) rfl
   ·
    have hp3 : ¬ (((i:Int)) < (4:Int)) := of_decide_eq_false hb3
    refine JC_exit ?_
    refine JQ_then_exit ?_
    refine JQ_then_exit ?_
    refine JQ_in_same ?_
    refine JQ_in_normal ?_
    refine JQ_then ?_
    refine JC_region ?_
    refine JL_val _ (Ev_move rfl) rfl ?_
    refine JL_val (I64 ((t:Int) + 1)) (Ev_bini rfl rfl fun _ => bin_add_i _ _ ((t:Int) + 1) (by omega) (by omega)) rfl ?_
    refine JL_val _ (Ev_assign rfl) rfl ?_
    refine JL_nil ?_
    refine JQ_thenK ?_
    refine K_next (t + 1, u) ⟨by omega, by rw [spN, spS, if_pos (by omega), ← hx2, hz2, show i = 4 from by omega, wrd_word], hu⟩ (by first | (simp; omega) | simp) (Sub.cons rfl (Sub.cons rfl (Sub.cons rfl (Sub.cons rfl (Sub.cons rfl (Sub.nil)))))) rfl
  ·
   have hp2 : ¬ (((t:Int)) < (16:Int)) := of_decide_eq_false hb2
   refine JC_seq ?_
   refine JC_draw 199 1 [(0, I64 ((t:Int))), (1, I64 ((t:Int) - 15)), (2, Ptr nb3 (t - 15)), (3, U32 (g32 ww (t - 15))), (4, I64 ((t:Int))), (5, I64 ((t:Int) - 2)), (6, Ptr nb3 (t - 2)), (7, U32 (g32 ww (t - 2))), (8, U32 (g32 ww (t - 15))), (9, U32 (g32 ww (t - 2)))] Tryd.mixed rfl (by decide +kernel) ?_
   refine DP_end ⟨[], [0, 1, 2, 3, 4, 5, 6, 7, 8, 9], [], [0, 1, 2, 3, 4, 5, 6, 7, 8, 9], []⟩ rfl rfl (by decide +kernel) rfl ⟨⟨_, rfl, Qok_val rfl (Ev_move rfl)⟩, ⟨_, rfl, Qok_val rfl (Ev_bini rfl rfl fun _ => bin_sub_i _ _ ((t:Int) - 15) (by omega) (by omega))⟩, ⟨_, rfl, Qok_val rfl (Ev_indexArr 64 30 1 (t - 15) Tryd.underlying44 Tryd.sizeOf30 rfl rfl (by omega) (by omega) (by omega))⟩, ⟨_, rfl, Qok_val rfl (Ev_load rfl (Ld_one Tryd.isAgg30 (MemAt.ent 2 rfl (Seg.get (g32_get (i := (t - 15)) (by rw [hw]; omega))))))⟩, ⟨_, rfl, Qok_val rfl (Ev_move rfl)⟩, ⟨_, rfl, Qok_val rfl (Ev_bini rfl rfl fun _ => bin_sub_i _ _ ((t:Int) - 2) (by omega) (by omega))⟩, ⟨_, rfl, Qok_val rfl (Ev_indexArr 64 30 1 (t - 2) Tryd.underlying44 Tryd.sizeOf30 rfl rfl (by omega) (by omega) (by omega))⟩, ⟨_, rfl, Qok_val rfl (Ev_load rfl (Ld_one Tryd.isAgg30 (MemAt.ent 2 rfl (Seg.get (g32_get (i := (t - 2)) (by rw [hw]; omega))))))⟩, ⟨_, rfl, Qok_val rfl (Ev_assign rfl)⟩, ⟨_, rfl, Qok_val rfl (Ev_assign rfl)⟩, trivial⟩ ?_
   refine K_sub (F' := [(48, I64 ((t:Int))), (49, I64 ((t:Int) - 15)), (50, Ptr nb3 (t - 15)), (51, U32 (g32 ww (t - 15))), (52, I64 ((t:Int))), (53, I64 ((t:Int) - 2)), (54, Ptr nb3 (t - 2)), (55, U32 (g32 ww (t - 2))), (8, U32 (g32 ww (t - 15))), (9, U32 (g32 ww (t - 2))), (1, .slice ab 64 cb), (2, Ptr nb1 0), (4, Ptr nb2 0), (5, Ptr nb3 0), (6, I64 ((t:Int))), (23, I64 ((t:Int))), (24, .bool (decide (((t:Int)) < (64:Int)))), (27, I64 ((t:Int))), (28, .bool (decide (((t:Int)) < (16:Int))))]) (Sub.cons (by kernel_rfl) (Sub.cons (by kernel_rfl) (Sub.cons (by kernel_rfl) (Sub.cons (by kernel_rfl) (Sub.cons (by kernel_rfl) (Sub.cons (by kernel_rfl) (Sub.cons (by kernel_rfl) (Sub.cons (by kernel_rfl) (Sub.cons (by kernel_rfl) (Sub.cons (by kernel_rfl) (Sub.cons (by kernel_rfl) (Sub.cons (by kernel_rfl) (Sub.cons (by kernel_rfl) (Sub.cons (by kernel_rfl) (Sub.cons (by kernel_rfl) (Sub.cons (by kernel_rfl) (Sub.cons (by kernel_rfl) (Sub.cons (by kernel_rfl) (Sub.cons (by kernel_rfl) (Sub.nil)))))))))))))))))))) ?_
   show JQ _ _ _ [(48, I64 ((t:Int))), (49, I64 ((t:Int) - 15)), (50, Ptr nb3 (t - 15)), (51, U32 (g32 ww (t - 15))), (52, I64 ((t:Int))), (53, I64 ((t:Int) - 2)), (54, Ptr nb3 (t - 2)), (55, U32 (g32 ww (t - 2))), (8, U32 (g32 ww (t - 15))), (9, U32 (g32 ww (t - 2))), (1, .slice ab 64 cb), (2, Ptr nb1 0), (4, Ptr nb2 0), (5, Ptr nb3 0), (6, I64 ((t:Int))), (23, I64 ((t:Int))), (24, .bool (decide (((t:Int)) < (64:Int)))), (27, I64 ((t:Int))), (28, .bool (decide (((t:Int)) < (16:Int))))] _
   refine JQ_then ?_
   refine JC_seq ?_
   refine JC_region ?_
   refine JL_val _ (Ev_move rfl) rfl ?_
   refine JL_step (Step_callP 87 [U32 (g32 ww (t - 15)), I64 (7:Int)] (U32 (rotr (g32 ww (t - 15)) 7)) (Cl_func [U32 (g32 ww (t - 15)), I64 (7:Int)] Tryd.call87 rfl) (fun w1 hw1 => rturn_c (g32 ww (t - 15)) 7 w1 (by omega) (by omega))) rfl ?_
   rintro v1 L1 ⟨rfl, rfl⟩
   show JL _ _ _ _ ((57, U32 (rotr (g32 ww (t - 15)) 7)) :: _) [⟨nb1, cu32 st, 31, (0, 0)⟩, ⟨nb2, cu32 (zr32 8), 31, (0, 0)⟩, ⟨nb3, cu32 ww, 44, (0, 0)⟩]
   refine JL_val _ (Ev_move rfl) rfl ?_
   refine JL_step (Step_callP 87 [U32 (g32 ww (t - 15)), I64 (18:Int)] (U32 (rotr (g32 ww (t - 15)) 18)) (Cl_func [U32 (g32 ww (t - 15)), I64 (18:Int)] Tryd.call87 rfl) (fun w1 hw1 => rturn_c (g32 ww (t - 15)) 18 w1 (by omega) (by omega))) rfl ?_
   rintro v1 L1 ⟨rfl, rfl⟩
   show JL _ _ _ _ ((59, U32 (rotr (g32 ww (t - 15)) 18)) :: _) [⟨nb1, cu32 st, 31, (0, 0)⟩, ⟨nb2, cu32 (zr32 8), 31, (0, 0)⟩, ⟨nb3, cu32 ww, 44, (0, 0)⟩]
   refine JL_val (U32 ((rotr (g32 ww (t - 15)) 7) ^^^ (rotr (g32 ww (t - 15)) 18))) (Ev_bini rfl rfl fun _ => bin_xor_u32 (rotr (g32 ww (t - 15)) 7) (rotr (g32 ww (t - 15)) 18)) rfl ?_
   refine JL_val _ (Ev_move rfl) rfl ?_
   refine JL_val (U32 ((g32 ww (t - 15)) >>> (3:UInt32))) (Ev_bini rfl rfl fun _ => bin_shr_u32 (g32 ww (t - 15)) _ _ 3 (by decide) rfl) rfl ?_
   refine JL_val (U32 (((rotr (g32 ww (t - 15)) 7) ^^^ (rotr (g32 ww (t - 15)) 18)) ^^^ ((g32 ww (t - 15)) >>> (3:UInt32)))) (Ev_bini rfl rfl fun _ => bin_xor_u32 ((rotr (g32 ww (t - 15)) 7) ^^^ (rotr (g32 ww (t - 15)) 18)) ((g32 ww (t - 15)) >>> (3:UInt32))) rfl ?_
   refine JL_val _ (Ev_assign rfl) rfl ?_
   refine JL_nil ?_
   refine JQ_then ?_
   refine JC_seq ?_
   refine JC_region ?_
   refine JL_val _ (Ev_move rfl) rfl ?_
   refine JL_step (Step_callP 87 [U32 (g32 ww (t - 2)), I64 (17:Int)] (U32 (rotr (g32 ww (t - 2)) 17)) (Cl_func [U32 (g32 ww (t - 2)), I64 (17:Int)] Tryd.call87 rfl) (fun w1 hw1 => rturn_c (g32 ww (t - 2)) 17 w1 (by omega) (by omega))) rfl ?_
   rintro v1 L1 ⟨rfl, rfl⟩
   show JL _ _ _ _ ((65, U32 (rotr (g32 ww (t - 2)) 17)) :: _) [⟨nb1, cu32 st, 31, (0, 0)⟩, ⟨nb2, cu32 (zr32 8), 31, (0, 0)⟩, ⟨nb3, cu32 ww, 44, (0, 0)⟩]
   refine JL_val _ (Ev_move rfl) rfl ?_
   refine JL_step (Step_callP 87 [U32 (g32 ww (t - 2)), I64 (19:Int)] (U32 (rotr (g32 ww (t - 2)) 19)) (Cl_func [U32 (g32 ww (t - 2)), I64 (19:Int)] Tryd.call87 rfl) (fun w1 hw1 => rturn_c (g32 ww (t - 2)) 19 w1 (by omega) (by omega))) rfl ?_
   rintro v1 L1 ⟨rfl, rfl⟩
   show JL _ _ _ _ ((67, U32 (rotr (g32 ww (t - 2)) 19)) :: _) [⟨nb1, cu32 st, 31, (0, 0)⟩, ⟨nb2, cu32 (zr32 8), 31, (0, 0)⟩, ⟨nb3, cu32 ww, 44, (0, 0)⟩]
   refine JL_val (U32 ((rotr (g32 ww (t - 2)) 17) ^^^ (rotr (g32 ww (t - 2)) 19))) (Ev_bini rfl rfl fun _ => bin_xor_u32 (rotr (g32 ww (t - 2)) 17) (rotr (g32 ww (t - 2)) 19)) rfl ?_
   refine JL_val _ (Ev_move rfl) rfl ?_
   refine JL_val (U32 ((g32 ww (t - 2)) >>> (10:UInt32))) (Ev_bini rfl rfl fun _ => bin_shr_u32 (g32 ww (t - 2)) _ _ 10 (by decide) rfl) rfl ?_
   refine JL_val (U32 (((rotr (g32 ww (t - 2)) 17) ^^^ (rotr (g32 ww (t - 2)) 19)) ^^^ ((g32 ww (t - 2)) >>> (10:UInt32)))) (Ev_bini rfl rfl fun _ => bin_xor_u32 ((rotr (g32 ww (t - 2)) 17) ^^^ (rotr (g32 ww (t - 2)) 19)) ((g32 ww (t - 2)) >>> (10:UInt32))) rfl ?_
   refine JL_val _ (Ev_assign rfl) rfl ?_
   refine JL_nil ?_
   refine JQ_then ?_
   refine JC_draw 199 2 [(0, I64 ((t:Int))), (1, I64 ((t:Int))), (2, I64 ((t:Int) - 16)), (3, Ptr nb3 (t - 16)), (4, U32 (g32 ww (t - 16))), (5, U32 (((rotr (g32 ww (t - 15)) 7) ^^^ (rotr (g32 ww (t - 15)) 18)) ^^^ ((g32 ww (t - 15)) >>> (3:UInt32)))), (6, U32 ((g32 ww (t - 16)) + (((rotr (g32 ww (t - 15)) 7) ^^^ (rotr (g32 ww (t - 15)) 18)) ^^^ ((g32 ww (t - 15)) >>> (3:UInt32))))), (7, I64 ((t:Int))), (8, I64 ((t:Int) - 7)), (9, Ptr nb3 (t - 7)), (10, U32 (g32 ww (t - 7))), (11, U32 (((g32 ww (t - 16)) + (((rotr (g32 ww (t - 15)) 7) ^^^ (rotr (g32 ww (t - 15)) 18)) ^^^ ((g32 ww (t - 15)) >>> (3:UInt32)))) + (g32 ww (t - 7)))), (12, U32 (((rotr (g32 ww (t - 2)) 17) ^^^ (rotr (g32 ww (t - 2)) 19)) ^^^ ((g32 ww (t - 2)) >>> (10:UInt32)))), (13, U32 ((((g32 ww (t - 16)) + (((rotr (g32 ww (t - 15)) 7) ^^^ (rotr (g32 ww (t - 15)) 18)) ^^^ ((g32 ww (t - 15)) >>> (3:UInt32)))) + (g32 ww (t - 7))) + (((rotr (g32 ww (t - 2)) 17) ^^^ (rotr (g32 ww (t - 2)) 19)) ^^^ ((g32 ww (t - 2)) >>> (10:UInt32))))), (14, Ptr nb3 t)] Tryd.mixed rfl (by decide +kernel) ?_
   have hl2 : (ww.set t ((((g32 ww (t - 16)) + (((rotr (g32 ww (t - 15)) 7) ^^^ (rotr (g32 ww (t - 15)) 18)) ^^^ ((g32 ww (t - 15)) >>> (3:UInt32)))) + (g32 ww (t - 7))) + (((rotr (g32 ww (t - 2)) 17) ^^^ (rotr (g32 ww (t - 2)) 19)) ^^^ ((g32 ww (t - 2)) >>> (10:UInt32))))).length = 64 := by simp [hw]
   refine DP_one ⟨[], [0, 1, 2, 3, 4, 5, 6, 7, 8, 9, 10, 11, 12, 13, 14], [], [0, 1, 2, 3, 4, 5, 6, 7, 8, 9, 10, 11, 12, 13, 14], [15]⟩ 15 _ rfl rfl (by decide +kernel) rfl ⟨⟨_, rfl, Qok_val rfl (Ev_move rfl)⟩, ⟨_, rfl, Qok_val rfl (Ev_move rfl)⟩, ⟨_, rfl, Qok_val rfl (Ev_bini rfl rfl fun _ => bin_sub_i _ _ ((t:Int) - 16) (by omega) (by omega))⟩, ⟨_, rfl, Qok_val rfl (Ev_indexArr 64 30 1 (t - 16) Tryd.underlying44 Tryd.sizeOf30 rfl rfl (by omega) (by omega) (by omega))⟩, ⟨_, rfl, Qok_val rfl (Ev_load rfl (Ld_one Tryd.isAgg30 (MemAt.ent 2 rfl (Seg.get (g32_get (i := (t - 16)) (by rw [hw]; omega))))))⟩, ⟨_, rfl, Qok_val rfl (Ev_move rfl)⟩, ⟨_, rfl, Qok_val rfl (Ev_bini rfl rfl fun _ => bin_add_u32 (g32 ww (t - 16)) (((rotr (g32 ww (t - 15)) 7) ^^^ (rotr (g32 ww (t - 15)) 18)) ^^^ ((g32 ww (t - 15)) >>> (3:UInt32))))⟩, ⟨_, rfl, Qok_val rfl (Ev_move rfl)⟩, ⟨_, rfl, Qok_val rfl (Ev_bini rfl rfl fun _ => bin_sub_i _ _ ((t:Int) - 7) (by omega) (by omega))⟩, ⟨_, rfl, Qok_val rfl (Ev_indexArr 64 30 1 (t - 7) Tryd.underlying44 Tryd.sizeOf30 rfl rfl (by omega) (by omega) (by omega))⟩, ⟨_, rfl, Qok_val rfl (Ev_load rfl (Ld_one Tryd.isAgg30 (MemAt.ent 2 rfl (Seg.get (g32_get (i := (t - 7)) (by rw [hw]; omega))))))⟩, ⟨_, rfl, Qok_val rfl (Ev_bini rfl rfl fun _ => bin_add_u32 ((g32 ww (t - 16)) + (((rotr (g32 ww (t - 15)) 7) ^^^ (rotr (g32 ww (t - 15)) 18)) ^^^ ((g32 ww (t - 15)) >>> (3:UInt32)))) (g32 ww (t - 7)))⟩, ⟨_, rfl, Qok_val rfl (Ev_move rfl)⟩, ⟨_, rfl, Qok_val rfl (Ev_bini rfl rfl fun _ => bin_add_u32 (((g32 ww (t - 16)) + (((rotr (g32 ww (t - 15)) 7) ^^^ (rotr (g32 ww (t - 15)) 18)) ^^^ ((g32 ww (t - 15)) >>> (3:UInt32)))) + (g32 ww (t - 7))) (((rotr (g32 ww (t - 2)) 17) ^^^ (rotr (g32 ww (t - 2)) 19)) ^^^ ((g32 ww (t - 2)) >>> (10:UInt32))))⟩, ⟨_, rfl, Qok_val rfl (Ev_indexArr 64 30 1 t Tryd.underlying44 Tryd.sizeOf30 rfl rfl (by omega) (by omega) (by omega))⟩, trivial⟩ rfl (Cok_step rfl (Step_store 2 nb3 t 1 (cu32 ww) 44 (U32 ((((g32 ww (t - 16)) + (((rotr (g32 ww (t - 15)) 7) ^^^ (rotr (g32 ww (t - 15)) 18)) ^^^ ((g32 ww (t - 15)) >>> (3:UInt32)))) + (g32 ww (t - 7))) + (((rotr (g32 ww (t - 2)) 17) ^^^ (rotr (g32 ww (t - 2)) 19)) ^^^ ((g32 ww (t - 2)) >>> (10:UInt32))))) ([U32 ((((g32 ww (t - 16)) + (((rotr (g32 ww (t - 15)) 7) ^^^ (rotr (g32 ww (t - 15)) 18)) ^^^ ((g32 ww (t - 15)) >>> (3:UInt32)))) + (g32 ww (t - 7))) + (((rotr (g32 ww (t - 2)) 17) ^^^ (rotr (g32 ww (t - 2)) 19)) ^^^ ((g32 ww (t - 2)) >>> (10:UInt32))))]) (cu32 (ww.set t ((((g32 ww (t - 16)) + (((rotr (g32 ww (t - 15)) 7) ^^^ (rotr (g32 ww (t - 15)) 18)) ^^^ ((g32 ww (t - 15)) >>> (3:UInt32)))) + (g32 ww (t - 7))) + (((rotr (g32 ww (t - 2)) 17) ^^^ (rotr (g32 ww (t - 2)) 19)) ^^^ ((g32 ww (t - 2)) >>> (10:UInt32)))))) rfl rfl rfl rfl Tryd.sizeOf30 rfl (by simp [Value.oneCell']) (by simp [hw]; try omega) (lay32 _ _ _ (by rw [hw]; omega)))) ?_
   rintro v1 L1 ⟨rfl, rfl⟩
   refine ⟨[], ?_⟩
   show DP _ _ _ _ _ _ _ _ [⟨nb1, cu32 st, 31, (0, 0)⟩, ⟨nb2, cu32 (zr32 8), 31, (0, 0)⟩, ⟨nb3, cu32 (ww.set t ((((g32 ww (t - 16)) + (((rotr (g32 ww (t - 15)) 7) ^^^ (rotr (g32 ww (t - 15)) 18)) ^^^ ((g32 ww (t - 15)) >>> (3:UInt32)))) + (g32 ww (t - 7))) + (((rotr (g32 ww (t - 2)) 17) ^^^ (rotr (g32 ww (t - 2)) 19)) ^^^ ((g32 ww (t - 2)) >>> (10:UInt32))))), 44, (0, 0)⟩]
   refine DP_end ⟨[15], [0, 1, 2, 3, 4, 5, 6, 7, 8, 9, 10, 11, 12, 13, 14], [0, 1, 2, 3, 4, 5, 6, 7, 8, 9, 10, 11, 12, 13, 14], [], []⟩ rfl rfl (by decide +kernel) rfl trivial ?_
   refine K_sub (F' := [(72, I64 ((t:Int))), (73, I64 ((t:Int))), (74, I64 ((t:Int) - 16)), (75, Ptr nb3 (t - 16)), (76, U32 (g32 ww (t - 16))), (77, U32 (((rotr (g32 ww (t - 15)) 7) ^^^ (rotr (g32 ww (t - 15)) 18)) ^^^ ((g32 ww (t - 15)) >>> (3:UInt32)))), (78, U32 ((g32 ww (t - 16)) + (((rotr (g32 ww (t - 15)) 7) ^^^ (rotr (g32 ww (t - 15)) 18)) ^^^ ((g32 ww (t - 15)) >>> (3:UInt32))))), (79, I64 ((t:Int))), (80, I64 ((t:Int) - 7)), (81, Ptr nb3 (t - 7)), (82, U32 (g32 ww (t - 7))), (83, U32 (((g32 ww (t - 16)) + (((rotr (g32 ww (t - 15)) 7) ^^^ (rotr (g32 ww (t - 15)) 18)) ^^^ ((g32 ww (t - 15)) >>> (3:UInt32)))) + (g32 ww (t - 7)))), (84, U32 (((rotr (g32 ww (t - 2)) 17) ^^^ (rotr (g32 ww (t - 2)) 19)) ^^^ ((g32 ww (t - 2)) >>> (10:UInt32)))), (85, U32 ((((g32 ww (t - 16)) + (((rotr (g32 ww (t - 15)) 7) ^^^ (rotr (g32 ww (t - 15)) 18)) ^^^ ((g32 ww (t - 15)) >>> (3:UInt32)))) + (g32 ww (t - 7))) + (((rotr (g32 ww (t - 2)) 17) ^^^ (rotr (g32 ww (t - 2)) 19)) ^^^ ((g32 ww (t - 2)) >>> (10:UInt32))))), (86, Ptr nb3 t), (48, I64 ((t:Int))), (49, I64 ((t:Int) - 15)), (50, Ptr nb3 (t - 15)), (51, U32 (g32 ww (t - 15))), (52, I64 ((t:Int))), (53, I64 ((t:Int) - 2)), (54, Ptr nb3 (t - 2)), (55, U32 (g32 ww (t - 2))), (8, U32 (g32 ww (t - 15))), (9, U32 (g32 ww (t - 2))), (1, .slice ab 64 cb), (2, Ptr nb1 0), (4, Ptr nb2 0), (5, Ptr nb3 0), (6, I64 ((t:Int))), (23, I64 ((t:Int))), (24, .bool (decide (((t:Int)) < (64:Int)))), (27, I64 ((t:Int))), (28, .bool (decide (((t:Int)) < (16:Int)))), (56, U32 (g32 ww (t - 15))), (57, U32 (rotr (g32 ww (t - 15)) 7)), (58, U32 (g32 ww (t - 15))), (59, U32 (rotr (g32 ww (t - 15)) 18)), (60, U32 ((rotr (g32 ww (t - 15)) 7) ^^^ (rotr (g32 ww (t - 15)) 18))), (61, U32 (g32 ww (t - 15))), (62, U32 ((g32 ww (t - 15)) >>> (3:UInt32))), (63, U32 (((rotr (g32 ww (t - 15)) 7) ^^^ (rotr (g32 ww (t - 15)) 18)) ^^^ ((g32 ww (t - 15)) >>> (3:UInt32)))), (10, U32 (((rotr (g32 ww (t - 15)) 7) ^^^ (rotr (g32 ww (t - 15)) 18)) ^^^ ((g32 ww (t - 15)) >>> (3:UInt32)))), (64, U32 (g32 ww (t - 2))), (65, U32 (rotr (g32 ww (t - 2)) 17)), (66, U32 (g32 ww (t - 2))), (67, U32 (rotr (g32 ww (t - 2)) 19)), (68, U32 ((rotr (g32 ww (t - 2)) 17) ^^^ (rotr (g32 ww (t - 2)) 19))), (69, U32 (g32 ww (t - 2))), (70, U32 ((g32 ww (t - 2)) >>> (10:UInt32))), (71, U32 (((rotr (g32 ww (t - 2)) 17) ^^^ (rotr (g32 ww (t - 2)) 19)) ^^^ ((g32 ww (t - 2)) >>> (10:UInt32)))), (11, U32 (((rotr (g32 ww (t - 2)) 17) ^^^ (rotr (g32 ww (t - 2)) 19)) ^^^ ((g32 ww (t - 2)) >>> (10:UInt32))))]) (Sub.cons (by kernel_rfl) (Sub.cons (by kernel_rfl) (Sub.cons (by kernel_rfl) (Sub.cons (by kernel_rfl) (Sub.cons (by kernel_rfl) (Sub.cons (by kernel_rfl) (Sub.cons (by kernel_rfl) (Sub.cons (by kernel_rfl) (Sub.cons (by kernel_rfl) (Sub.cons (by kernel_rfl) (Sub.cons (by kernel_rfl) (Sub.cons (by kernel_rfl) (Sub.cons (by kernel_rfl) (Sub.cons (by kernel_rfl) (Sub.cons (by kernel_rfl) (Sub.cons (by kernel_rfl) (Sub.cons (by kernel_rfl) (Sub.cons (by kernel_rfl) (Sub.cons (by kernel_rfl) (Sub.cons (by kernel_rfl) (Sub.cons (by kernel_rfl) (Sub.cons (by kernel_rfl) (Sub.cons (by kernel_rfl) (Sub.cons (by kernel_rfl) (Sub.cons (by kernel_rfl) (Sub.cons (by kernel_rfl) (Sub.cons (by kernel_rfl) (Sub.cons (by kernel_rfl) (Sub.cons (by kernel_rfl) (Sub.cons (by kernel_rfl) (Sub.cons (by kernel_rfl) (Sub.cons (by kernel_rfl) (Sub.cons (by kernel_rfl) (Sub.cons (by kernel_rfl) (Sub.cons (by kernel_rfl) (Sub.cons (by kernel_rfl) (Sub.cons (by kernel_rfl) (Sub.cons (by kernel_rfl) (Sub.cons (by kernel_rfl) (Sub.cons (by kernel_rfl) (Sub.cons (by kernel_rfl) (Sub.cons (by kernel_rfl) (Sub.cons (by kernel_rfl) (Sub.cons (by kernel_rfl) (Sub.cons (by kernel_rfl) (Sub.cons (by kernel_rfl) (Sub.cons (by kernel_rfl) (Sub.cons (by kernel_rfl) (Sub.cons (by kernel_rfl) (Sub.cons (by kernel_rfl) (Sub.cons (by kernel_rfl) (Sub.cons (by kernel_rfl) (Sub.nil))))))))))))))))))))))))))))))))))))))))))))))))))))) ?_
   show JQ _ _ _ [(72, I64 ((t:Int))), (73, I64 ((t:Int))), (74, I64 ((t:Int) - 16)), (75, Ptr nb3 (t - 16)), (76, U32 (g32 ww (t - 16))), (77, U32 (((rotr (g32 ww (t - 15)) 7) ^^^ (rotr (g32 ww (t - 15)) 18)) ^^^ ((g32 ww (t - 15)) >>> (3:UInt32)))), (78, U32 ((g32 ww (t - 16)) + (((rotr (g32 ww (t - 15)) 7) ^^^ (rotr (g32 ww (t - 15)) 18)) ^^^ ((g32 ww (t - 15)) >>> (3:UInt32))))), (79, I64 ((t:Int))), (80, I64 ((t:Int) - 7)), (81, Ptr nb3 (t - 7)), (82, U32 (g32 ww (t - 7))), (83, U32 (((g32 ww (t - 16)) + (((rotr (g32 ww (t - 15)) 7) ^^^ (rotr (g32 ww (t - 15)) 18)) ^^^ ((g32 ww (t - 15)) >>> (3:UInt32)))) + (g32 ww (t - 7)))), (84, U32 (((rotr (g32 ww (t - 2)) 17) ^^^ (rotr (g32 ww (t - 2)) 19)) ^^^ ((g32 ww (t - 2)) >>> (10:UInt32)))), (85, U32 ((((g32 ww (t - 16)) + (((rotr (g32 ww (t - 15)) 7) ^^^ (rotr (g32 ww (t - 15)) 18)) ^^^ ((g32 ww (t - 15)) >>> (3:UInt32)))) + (g32 ww (t - 7))) + (((rotr (g32 ww (t - 2)) 17) ^^^ (rotr (g32 ww (t - 2)) 19)) ^^^ ((g32 ww (t - 2)) >>> (10:UInt32))))), (86, Ptr nb3 t), (48, I64 ((t:Int))), (49, I64 ((t:Int) - 15)), (50, Ptr nb3 (t - 15)), (51, U32 (g32 ww (t - 15))), (52, I64 ((t:Int))), (53, I64 ((t:Int) - 2)), (54, Ptr nb3 (t - 2)), (55, U32 (g32 ww (t - 2))), (8, U32 (g32 ww (t - 15))), (9, U32 (g32 ww (t - 2))), (1, .slice ab 64 cb), (2, Ptr nb1 0), (4, Ptr nb2 0), (5, Ptr nb3 0), (6, I64 ((t:Int))), (23, I64 ((t:Int))), (24, .bool (decide (((t:Int)) < (64:Int)))), (27, I64 ((t:Int))), (28, .bool (decide (((t:Int)) < (16:Int)))), (56, U32 (g32 ww (t - 15))), (57, U32 (rotr (g32 ww (t - 15)) 7)), (58, U32 (g32 ww (t - 15))), (59, U32 (rotr (g32 ww (t - 15)) 18)), (60, U32 ((rotr (g32 ww (t - 15)) 7) ^^^ (rotr (g32 ww (t - 15)) 18))), (61, U32 (g32 ww (t - 15))), (62, U32 ((g32 ww (t - 15)) >>> (3:UInt32))), (63, U32 (((rotr (g32 ww (t - 15)) 7) ^^^ (rotr (g32 ww (t - 15)) 18)) ^^^ ((g32 ww (t - 15)) >>> (3:UInt32)))), (10, U32 (((rotr (g32 ww (t - 15)) 7) ^^^ (rotr (g32 ww (t - 15)) 18)) ^^^ ((g32 ww (t - 15)) >>> (3:UInt32)))), (64, U32 (g32 ww (t - 2))), (65, U32 (rotr (g32 ww (t - 2)) 17)), (66, U32 (g32 ww (t - 2))), (67, U32 (rotr (g32 ww (t - 2)) 19)), (68, U32 ((rotr (g32 ww (t - 2)) 17) ^^^ (rotr (g32 ww (t - 2)) 19))), (69, U32 (g32 ww (t - 2))), (70, U32 ((g32 ww (t - 2)) >>> (10:UInt32))), (71, U32 (((rotr (g32 ww (t - 2)) 17) ^^^ (rotr (g32 ww (t - 2)) 19)) ^^^ ((g32 ww (t - 2)) >>> (10:UInt32)))), (11, U32 (((rotr (g32 ww (t - 2)) 17) ^^^ (rotr (g32 ww (t - 2)) 19)) ^^^ ((g32 ww (t - 2)) >>> (10:UInt32))))] _
   refine JQ_in_normal ?_
   refine JQ_then ?_
   refine JC_region ?_
   refine JL_val _ (Ev_move rfl) rfl ?_
   refine JL_val (I64 ((t:Int) + 1)) (Ev_bini rfl rfl fun _ => bin_add_i _ _ ((t:Int) + 1) (by omega) (by omega)) rfl ?_
   refine JL_val _ (Ev_assign rfl) rfl ?_
   refine JL_nil ?_
   refine JQ_thenK ?_
   refine K_next (t + 1, ww.set t ((((g32 ww (t - 16)) + (((rotr (g32 ww (t - 15)) 7) ^^^ (rotr (g32 ww (t - 15)) 18)) ^^^ ((g32 ww (t - 15)) >>> (3:UInt32)))) + (g32 ww (t - 7))) + (((rotr (g32 ww (t - 2)) 17) ^^^ (rotr (g32 ww (t - 2)) 19)) ^^^ ((g32 ww (t - 2)) >>> (10:UInt32))))) ⟨by omega, by rw [spN, spS, if_neg (by omega), ← hx2], hl2⟩ (by first | (simp; omega) | simp) (Sub.cons rfl (Sub.cons rfl (Sub.cons rfl (Sub.cons rfl (Sub.cons rfl (Sub.nil)))))) rfl
 ·
  have hp1 : ¬ (((t:Int)) < (64:Int)) := of_decide_eq_false hb1
  refine JC_exit ?_
  refine JQ_then_exit ?_
  refine JQ_then_exit ?_
  refine JQ_in_same ?_
  refine JQ_then ?_
  refine JC_seq ?_
  refine JC_draw 199 1 [(0, Ptr nb1 0), (1, U32 (g32 st 0)), (2, Ptr nb1 1), (3, U32 (g32 st 1)), (4, Ptr nb1 2), (5, U32 (g32 st 2)), (6, Ptr nb1 3), (7, U32 (g32 st 3)), (8, Ptr nb1 4), (9, U32 (g32 st 4)), (10, Ptr nb1 5), (11, U32 (g32 st 5)), (12, Ptr nb1 6), (13, U32 (g32 st 6)), (14, Ptr nb1 7), (15, U32 (g32 st 7)), (16, U32 (g32 st 0)), (17, U32 (g32 st 1)), (18, U32 (g32 st 2)), (19, U32 (g32 st 3)), (20, U32 (g32 st 4)), (21, U32 (g32 st 5)), (22, U32 (g32 st 6)), (23, U32 (g32 st 7))] Tryd.mixed rfl (by decide +kernel) ?_
  refine DP_end ⟨[], [0, 1, 2, 3, 4, 5, 6, 7, 8, 9, 10, 11, 12, 13, 14, 15, 16, 17, 18, 19, 20, 21, 22, 23], [], [0, 1, 2, 3, 4, 5, 6, 7, 8, 9, 10, 11, 12, 13, 14, 15, 16, 17, 18, 19, 20, 21, 22, 23], []⟩ rfl rfl (by decide +kernel) rfl ⟨⟨_, rfl, Qok_val rfl (Ev_indexArr 8 30 1 0 Tryd.underlying31 Tryd.sizeOf30 rfl rfl (by omega) (by omega) (by omega))⟩, ⟨_, rfl, Qok_val rfl (Ev_load rfl (Ld_one Tryd.isAgg30 (MemAt.ent 0 rfl (Seg.get (g32_get (i := 0) (by rw [hs0]; omega))))))⟩, ⟨_, rfl, Qok_val rfl (Ev_indexArr 8 30 1 1 Tryd.underlying31 Tryd.sizeOf30 rfl rfl (by omega) (by omega) (by omega))⟩, ⟨_, rfl, Qok_val rfl (Ev_load rfl (Ld_one Tryd.isAgg30 (MemAt.ent 0 rfl (Seg.get (g32_get (i := 1) (by rw [hs0]; omega))))))⟩, ⟨_, rfl, Qok_val rfl (Ev_indexArr 8 30 1 2 Tryd.underlying31 Tryd.sizeOf30 rfl rfl (by omega) (by omega) (by omega))⟩, ⟨_, rfl, Qok_val rfl (Ev_load rfl (Ld_one Tryd.isAgg30 (MemAt.ent 0 rfl (Seg.get (g32_get (i := 2) (by rw [hs0]; omega))))))⟩, ⟨_, rfl, Qok_val rfl (Ev_indexArr 8 30 1 3 Tryd.underlying31 Tryd.sizeOf30 rfl rfl (by omega) (by omega) (by omega))⟩, ⟨_, rfl, Qok_val rfl (Ev_load rfl (Ld_one Tryd.isAgg30 (MemAt.ent 0 rfl (Seg.get (g32_get (i := 3) (by rw [hs0]; omega))))))⟩, ⟨_, rfl, Qok_val rfl (Ev_indexArr 8 30 1 4 Tryd.underlying31 Tryd.sizeOf30 rfl rfl (by omega) (by omega) (by omega))⟩, ⟨_, rfl, Qok_val rfl (Ev_load rfl (Ld_one Tryd.isAgg30 (MemAt.ent 0 rfl (Seg.get (g32_get (i := 4) (by rw [hs0]; omega))))))⟩, ⟨_, rfl, Qok_val rfl (Ev_indexArr 8 30 1 5 Tryd.underlying31 Tryd.sizeOf30 rfl rfl (by omega) (by omega) (by omega))⟩, ⟨_, rfl, Qok_val rfl (Ev_load rfl (Ld_one Tryd.isAgg30 (MemAt.ent 0 rfl (Seg.get (g32_get (i := 5) (by rw [hs0]; omega))))))⟩, ⟨_, rfl, Qok_val rfl (Ev_indexArr 8 30 1 6 Tryd.underlying31 Tryd.sizeOf30 rfl rfl (by omega) (by omega) (by omega))⟩, ⟨_, rfl, Qok_val rfl (Ev_load rfl (Ld_one Tryd.isAgg30 (MemAt.ent 0 rfl (Seg.get (g32_get (i := 6) (by rw [hs0]; omega))))))⟩, ⟨_, rfl, Qok_val rfl (Ev_indexArr 8 30 1 7 Tryd.underlying31 Tryd.sizeOf30 rfl rfl (by omega) (by omega) (by omega))⟩, ⟨_, rfl, Qok_val rfl (Ev_load rfl (Ld_one Tryd.isAgg30 (MemAt.ent 0 rfl (Seg.get (g32_get (i := 7) (by rw [hs0]; omega))))))⟩, ⟨_, rfl, Qok_val rfl (Ev_assign rfl)⟩, ⟨_, rfl, Qok_val rfl (Ev_assign rfl)⟩, ⟨_, rfl, Qok_val rfl (Ev_assign rfl)⟩, ⟨_, rfl, Qok_val rfl (Ev_assign rfl)⟩, ⟨_, rfl, Qok_val rfl (Ev_assign rfl)⟩, ⟨_, rfl, Qok_val rfl (Ev_assign rfl)⟩, ⟨_, rfl, Qok_val rfl (Ev_assign rfl)⟩, ⟨_, rfl, Qok_val rfl (Ev_assign rfl)⟩, trivial⟩ ?_
  refine K_sub (F' := [(12, U32 (g32 st 0)), (13, U32 (g32 st 1)), (14, U32 (g32 st 2)), (15, U32 (g32 st 3)), (16, U32 (g32 st 4)), (17, U32 (g32 st 5)), (18, U32 (g32 st 6)), (19, U32 (g32 st 7)), (2, Ptr nb1 0), (4, Ptr nb2 0), (5, Ptr nb3 0)]) (Sub.cons (by kernel_rfl) (Sub.cons (by kernel_rfl) (Sub.cons (by kernel_rfl) (Sub.cons (by kernel_rfl) (Sub.cons (by kernel_rfl) (Sub.cons (by kernel_rfl) (Sub.cons (by kernel_rfl) (Sub.cons (by kernel_rfl) (Sub.cons (by kernel_rfl) (Sub.cons (by kernel_rfl) (Sub.cons (by kernel_rfl) (Sub.nil)))))))))))) ?_
  show JQ _ _ _ [(12, U32 (g32 st 0)), (13, U32 (g32 st 1)), (14, U32 (g32 st 2)), (15, U32 (g32 st 3)), (16, U32 (g32 st 4)), (17, U32 (g32 st 5)), (18, U32 (g32 st 6)), (19, U32 (g32 st 7)), (2, Ptr nb1 0), (4, Ptr nb2 0), (5, Ptr nb3 0)] _
  refine JQ_then ?_
  refine JC_seq ?_
  refine JC_seq ?_
  refine JC_region ?_
  refine JL_val _ (Ev_assign rfl) rfl ?_
  refine JL_nil ?_
  refine JQ_then ?_
  refine JC_block ?_
  refine JC_loop (ι := Nat × UInt32 × UInt32 × UInt32 × UInt32 × UInt32 × UInt32 × UInt32 × UInt32) (fun ⟨r, va, vb, vc, vd, ve, vf, vg, vh⟩ => [(2, Ptr nb1 0), (4, Ptr nb2 0), (5, Ptr nb3 0), (20, I64 ((r:Int))), (12, U32 va), (13, U32 vb), (14, U32 vc), (15, U32 vd), (16, U32 ve), (17, U32 vf), (18, U32 vg), (19, U32 vh)]) (fun ⟨r, va, vb, vc, vd, ve, vf, vg, vh⟩ => [⟨nb1, cu32 st, 31, (0, 0)⟩, ⟨nb2, cu32 (zr32 8), 31, (0, 0)⟩, ⟨nb3, cu32 ww, 44, (0, 0)⟩]) (fun ⟨r, va, vb, vc, vd, ve, vf, vg, vh⟩ => r ≤ 64 ∧ [va, vb, vc, vd, ve, vf, vg, vh] = cpN constL st ww r) (fun ⟨r, va, vb, vc, vd, ve, vf, vg, vh⟩ => 64 - r) (0, g32 st 0, g32 st 1, g32 st 2, g32 st 3, g32 st 4, g32 st 5, g32 st 6, g32 st 7) ⟨by omega, by rw [cpN]; exact ex8 hs0⟩ (Sub.cons rfl (Sub.cons rfl (Sub.cons rfl (Sub.cons rfl (Sub.cons rfl (Sub.cons rfl (Sub.cons rfl (Sub.cons rfl (Sub.cons rfl (Sub.cons rfl (Sub.cons rfl (Sub.cons rfl (Sub.nil))))))))))))) rfl ?_
  rintro ⟨r, va, vb, vc, vd, ve, vf, vg, vh⟩ ⟨hy1, hy2⟩
  show JC _ _ _ [(2, Ptr nb1 0), (4, Ptr nb2 0), (5, Ptr nb3 0), (20, I64 ((r:Int))), (12, U32 va), (13, U32 vb), (14, U32 vc), (15, U32 vd), (16, U32 ve), (17, U32 vf), (18, U32 vg), (19, U32 vh)] [⟨nb1, cu32 st, 31, (0, 0)⟩, ⟨nb2, cu32 (zr32 8), 31, (0, 0)⟩, ⟨nb3, cu32 ww, 44, (0, 0)⟩]
  refine JC_seq ?_
  refine JC_seq ?_
  refine JC_region ?_
  refine JL_val _ (Ev_move rfl) rfl ?_
  refine JL_val (.bool (decide (((r:Int)) < (64:Int)))) (Ev_bini rfl rfl fun _ => bin_lss_i _ _) rfl ?_
  refine JL_nil ?_
  refine JQ_then ?_
  refine JC_cond (decide (((r:Int)) < (64:Int))) rfl (fun hb4 => ?_) (fun hb4 => ?_)
  ·
   have hp4 : ((r:Int)) < (64:Int) := of_decide_eq_true hb4
   refine JC_skip ?_
   refine JQ_then ?_
   refine JC_seq ?_
   refine JC_block ?_
   refine JC_seq ?_
   refine JC_draw 199 4 [(0, U32 vh), (1, U32 ve), (3, U32 ve), (6, U32 ve), (10, U32 ve), (11, U32 vf), (12, U32 (ve &&& vf)), (13, U32 ve), (14, U32 (~~~ve)), (15, U32 vg), (16, U32 ((~~~ve) &&& vg)), (17, U32 ((ve &&& vf) ^^^ ((~~~ve) &&& vg))), (19, I64 ((r:Int))), (20, Ptr 0 r), (21, U32 (g32 constL r)), (23, I64 ((r:Int))), (24, Ptr nb3 r), (25, U32 (g32 ww r))] Tryd.mixed rfl (by decide +kernel) ?_
   refine DP_one ⟨[], [0, 1, 3, 6, 10, 11, 12, 13, 14, 15, 16, 17, 19, 20, 21, 23, 24, 25], [], [0, 1, 3, 6, 10, 11, 12, 13, 14, 15, 16, 17, 19, 20, 21, 23, 24, 25], [2]⟩ 2 _ rfl rfl (by decide +kernel) rfl ⟨⟨_, rfl, Qok_val rfl (Ev_move rfl)⟩, ⟨_, rfl, Qok_val rfl (Ev_move rfl)⟩, ⟨_, rfl, Qok_val rfl (Ev_move rfl)⟩, ⟨_, rfl, Qok_val rfl (Ev_move rfl)⟩, ⟨_, rfl, Qok_val rfl (Ev_move rfl)⟩, ⟨_, rfl, Qok_val rfl (Ev_move rfl)⟩, ⟨_, rfl, Qok_val rfl (Ev_bini rfl rfl fun _ => bin_and_u32 ve vf)⟩, ⟨_, rfl, Qok_val rfl (Ev_move rfl)⟩, ⟨_, rfl, Qok_val rfl (Ev_un _ _ rfl fun _ => un_xor_u32 _)⟩, ⟨_, rfl, Qok_val rfl (Ev_move rfl)⟩, ⟨_, rfl, Qok_val rfl (Ev_bini rfl rfl fun _ => bin_and_u32 (~~~ve) vg)⟩, ⟨_, rfl, Qok_val rfl (Ev_bini rfl rfl fun _ => bin_xor_u32 (ve &&& vf) ((~~~ve) &&& vg))⟩, ⟨_, rfl, Qok_val rfl (Ev_move rfl)⟩, ⟨_, rfl, Qok_val rfl (Ev_indexArr 64 30 1 r Tryd.underlying44 Tryd.sizeOf30 rfl rfl (by omega) (by omega) (by omega))⟩, ⟨_, rfl, Qok_val rfl (Ev_load rfl (Ld_one Tryd.isAgg30 (MemAt.seg (RdA.mem hG (by simp)) (Seg.get (g32_get (i := r) (by rw [constL_len]; omega))) (by omega))))⟩, ⟨_, rfl, Qok_val rfl (Ev_move rfl)⟩, ⟨_, rfl, Qok_val rfl (Ev_indexArr 64 30 1 r Tryd.underlying44 Tryd.sizeOf30 rfl rfl (by omega) (by omega) (by omega))⟩, ⟨_, rfl, Qok_val rfl (Ev_load rfl (Ld_one Tryd.isAgg30 (MemAt.ent 2 rfl (Seg.get (g32_get (i := r) (by rw [hw]; omega))))))⟩, trivial⟩ rfl (Cok_step rfl (Step_callP 87 [U32 ve, I64 (6:Int)] (U32 (rotr ve 6)) (Cl_func [U32 ve, I64 (6:Int)] Tryd.call87 rfl) (fun w1 hw1 => rturn_c ve 6 w1 (by omega) (by omega)))) ?_
   rintro v1 L1 ⟨rfl, rfl⟩
   refine ⟨[], ?_⟩
   show DP _ _ _ _ _ _ _ _ [⟨nb1, cu32 st, 31, (0, 0)⟩, ⟨nb2, cu32 (zr32 8), 31, (0, 0)⟩, ⟨nb3, cu32 ww, 44, (0, 0)⟩]
   refine DP_one ⟨[2], [0, 1, 3, 6, 10, 11, 12, 13, 14, 15, 16, 17, 19, 20, 21, 23, 24, 25], [1], [0, 3, 6, 10, 11, 12, 13, 14, 15, 16, 17, 19, 20, 21, 23, 24, 25], [4]⟩ 4 _ rfl rfl (by decide +kernel) rfl ⟨⟨_, rfl, Qok_val rfl (Ev_move rfl)⟩, ⟨_, rfl, Qok_val rfl (Ev_move rfl)⟩, ⟨_, rfl, Qok_val rfl (Ev_move rfl)⟩, ⟨_, rfl, Qok_val rfl (Ev_move rfl)⟩, ⟨_, rfl, Qok_val rfl (Ev_move rfl)⟩, ⟨_, rfl, Qok_val rfl (Ev_bini rfl rfl fun _ => bin_and_u32 ve vf)⟩, ⟨_, rfl, Qok_val rfl (Ev_move rfl)⟩, ⟨_, rfl, Qok_val rfl (Ev_un _ _ rfl fun _ => un_xor_u32 _)⟩, ⟨_, rfl, Qok_val rfl (Ev_move rfl)⟩, ⟨_, rfl, Qok_val rfl (Ev_bini rfl rfl fun _ => bin_and_u32 (~~~ve) vg)⟩, ⟨_, rfl, Qok_val rfl (Ev_bini rfl rfl fun _ => bin_xor_u32 (ve &&& vf) ((~~~ve) &&& vg))⟩, ⟨_, rfl, Qok_val rfl (Ev_move rfl)⟩, ⟨_, rfl, Qok_val rfl (Ev_indexArr 64 30 1 r Tryd.underlying44 Tryd.sizeOf30 rfl rfl (by omega) (by omega) (by omega))⟩, ⟨_, rfl, Qok_val rfl (Ev_load rfl (Ld_one Tryd.isAgg30 (MemAt.seg (RdA.mem hG (by simp)) (Seg.get (g32_get (i := r) (by rw [constL_len]; omega))) (by omega))))⟩, ⟨_, rfl, Qok_val rfl (Ev_move rfl)⟩, ⟨_, rfl, Qok_val rfl (Ev_indexArr 64 30 1 r Tryd.underlying44 Tryd.sizeOf30 rfl rfl (by omega) (by omega) (by omega))⟩, ⟨_, rfl, Qok_val rfl (Ev_load rfl (Ld_one Tryd.isAgg30 (MemAt.ent 2 rfl (Seg.get (g32_get (i := r) (by rw [hw]; omega))))))⟩, trivial⟩ rfl (Cok_step rfl (Step_callP 87 [U32 ve, I64 (11:Int)] (U32 (rotr ve 11)) (Cl_func [U32 ve, I64 (11:Int)] Tryd.call87 rfl) (fun w1 hw1 => rturn_c ve 11 w1 (by omega) (by omega)))) ?_
   rintro v1 L1 ⟨rfl, rfl⟩
   refine ⟨[(5, U32 ((rotr ve 6) ^^^ (rotr ve 11)))], ?_⟩
   show DP _ _ _ _ _ _ _ _ [⟨nb1, cu32 st, 31, (0, 0)⟩, ⟨nb2, cu32 (zr32 8), 31, (0, 0)⟩, ⟨nb3, cu32 ww, 44, (0, 0)⟩]
   refine DP_one ⟨[2, 4], [0, 1, 3, 5, 6, 10, 11, 12, 13, 14, 15, 16, 17, 19, 20, 21, 23, 24, 25], [1, 3], [0, 5, 6, 10, 11, 12, 13, 14, 15, 16, 17, 19, 20, 21, 23, 24, 25], [7]⟩ 7 _ rfl rfl (by decide +kernel) rfl ⟨⟨_, rfl, Qok_val rfl (Ev_move rfl)⟩, ⟨_, rfl, Qok_val rfl (Ev_bini rfl rfl fun _ => bin_xor_u32 (rotr ve 6) (rotr ve 11))⟩, ⟨_, rfl, Qok_val rfl (Ev_move rfl)⟩, ⟨_, rfl, Qok_val rfl (Ev_move rfl)⟩, ⟨_, rfl, Qok_val rfl (Ev_move rfl)⟩, ⟨_, rfl, Qok_val rfl (Ev_bini rfl rfl fun _ => bin_and_u32 ve vf)⟩, ⟨_, rfl, Qok_val rfl (Ev_move rfl)⟩, ⟨_, rfl, Qok_val rfl (Ev_un _ _ rfl fun _ => un_xor_u32 _)⟩, ⟨_, rfl, Qok_val rfl (Ev_move rfl)⟩, ⟨_, rfl, Qok_val rfl (Ev_bini rfl rfl fun _ => bin_and_u32 (~~~ve) vg)⟩, ⟨_, rfl, Qok_val rfl (Ev_bini rfl rfl fun _ => bin_xor_u32 (ve &&& vf) ((~~~ve) &&& vg))⟩, ⟨_, rfl, Qok_val rfl (Ev_move rfl)⟩, ⟨_, rfl, Qok_val rfl (Ev_indexArr 64 30 1 r Tryd.underlying44 Tryd.sizeOf30 rfl rfl (by omega) (by omega) (by omega))⟩, ⟨_, rfl, Qok_val rfl (Ev_load rfl (Ld_one Tryd.isAgg30 (MemAt.seg (RdA.mem hG (by simp)) (Seg.get (g32_get (i := r) (by rw [constL_len]; omega))) (by omega))))⟩, ⟨_, rfl, Qok_val rfl (Ev_move rfl)⟩, ⟨_, rfl, Qok_val rfl (Ev_indexArr 64 30 1 r Tryd.underlying44 Tryd.sizeOf30 rfl rfl (by omega) (by omega) (by omega))⟩, ⟨_, rfl, Qok_val rfl (Ev_load rfl (Ld_one Tryd.isAgg30 (MemAt.ent 2 rfl (Seg.get (g32_get (i := r) (by rw [hw]; omega))))))⟩, trivial⟩ rfl (Cok_step rfl (Step_callP 87 [U32 ve, I64 (25:Int)] (U32 (rotr ve 25)) (Cl_func [U32 ve, I64 (25:Int)] Tryd.call87 rfl) (fun w1 hw1 => rturn_c ve 25 w1 (by omega) (by omega)))) ?_
   rintro v1 L1 ⟨rfl, rfl⟩
   refine ⟨[(8, U32 (((rotr ve 6) ^^^ (rotr ve 11)) ^^^ (rotr ve 25))), (9, U32 (vh + (((rotr ve 6) ^^^ (rotr ve 11)) ^^^ (rotr ve 25)))), (18, U32 ((vh + (((rotr ve 6) ^^^ (rotr ve 11)) ^^^ (rotr ve 25))) + ((ve &&& vf) ^^^ ((~~~ve) &&& vg)))), (22, U32 (((vh + (((rotr ve 6) ^^^ (rotr ve 11)) ^^^ (rotr ve 25))) + ((ve &&& vf) ^^^ ((~~~ve) &&& vg))) + (g32 constL r))), (26, U32 ((((vh + (((rotr ve 6) ^^^ (rotr ve 11)) ^^^ (rotr ve 25))) + ((ve &&& vf) ^^^ ((~~~ve) &&& vg))) + (g32 constL r)) + (g32 ww r))), (27, U32 ((((vh + (((rotr ve 6) ^^^ (rotr ve 11)) ^^^ (rotr ve 25))) + ((ve &&& vf) ^^^ ((~~~ve) &&& vg))) + (g32 constL r)) + (g32 ww r)))], ?_⟩
   show DP _ _ _ _ _ _ _ _ [⟨nb1, cu32 st, 31, (0, 0)⟩, ⟨nb2, cu32 (zr32 8), 31, (0, 0)⟩, ⟨nb3, cu32 ww, 44, (0, 0)⟩]
   refine DP_end ⟨[2, 4, 7], [0, 1, 3, 5, 6, 8, 9, 10, 11, 12, 13, 14, 15, 16, 17, 18, 19, 20, 21, 22, 23, 24, 25, 26, 27], [1, 3, 6], [0, 5, 8, 9, 10, 11, 12, 13, 14, 15, 16, 17, 18, 19, 20, 21, 22, 23, 24, 25, 26, 27], []⟩ rfl rfl (by decide +kernel) rfl ⟨⟨_, rfl, Qok_val rfl (Ev_move rfl)⟩, ⟨_, rfl, Qok_val rfl (Ev_bini rfl rfl fun _ => bin_xor_u32 (rotr ve 6) (rotr ve 11))⟩, ⟨_, rfl, Qok_val rfl (Ev_bini rfl rfl fun _ => bin_xor_u32 ((rotr ve 6) ^^^ (rotr ve 11)) (rotr ve 25))⟩, ⟨_, rfl, Qok_val rfl (Ev_bini rfl rfl fun _ => bin_add_u32 vh (((rotr ve 6) ^^^ (rotr ve 11)) ^^^ (rotr ve 25)))⟩, ⟨_, rfl, Qok_val rfl (Ev_move rfl)⟩, ⟨_, rfl, Qok_val rfl (Ev_move rfl)⟩, ⟨_, rfl, Qok_val rfl (Ev_bini rfl rfl fun _ => bin_and_u32 ve vf)⟩, ⟨_, rfl, Qok_val rfl (Ev_move rfl)⟩, ⟨_, rfl, Qok_val rfl (Ev_un _ _ rfl fun _ => un_xor_u32 _)⟩, ⟨_, rfl, Qok_val rfl (Ev_move rfl)⟩, ⟨_, rfl, Qok_val rfl (Ev_bini rfl rfl fun _ => bin_and_u32 (~~~ve) vg)⟩, ⟨_, rfl, Qok_val rfl (Ev_bini rfl rfl fun _ => bin_xor_u32 (ve &&& vf) ((~~~ve) &&& vg))⟩, ⟨_, rfl, Qok_val rfl (Ev_bini rfl rfl fun _ => bin_add_u32 (vh + (((rotr ve 6) ^^^ (rotr ve 11)) ^^^ (rotr ve 25))) ((ve &&& vf) ^^^ ((~~~ve) &&& vg)))⟩, ⟨_, rfl, Qok_val rfl (Ev_move rfl)⟩, ⟨_, rfl, Qok_val rfl (Ev_indexArr 64 30 1 r Tryd.underlying44 Tryd.sizeOf30 rfl rfl (by omega) (by omega) (by omega))⟩, ⟨_, rfl, Qok_val rfl (Ev_load rfl (Ld_one Tryd.isAgg30 (MemAt.seg (RdA.mem hG (by simp)) (Seg.get (g32_get (i := r) (by rw [constL_len]; omega))) (by omega))))⟩, ⟨_, rfl, Qok_val rfl (Ev_bini rfl rfl fun _ => bin_add_u32 ((vh + (((rotr ve 6) ^^^ (rotr ve 11)) ^^^ (rotr ve 25))) + ((ve &&& vf) ^^^ ((~~~ve) &&& vg))) (g32 constL r))⟩, ⟨_, rfl, Qok_val rfl (Ev_move rfl)⟩, ⟨_, rfl, Qok_val rfl (Ev_indexArr 64 30 1 r Tryd.underlying44 Tryd.sizeOf30 rfl rfl (by omega) (by omega) (by omega))⟩, ⟨_, rfl, Qok_val rfl (Ev_load rfl (Ld_one Tryd.isAgg30 (MemAt.ent 2 rfl (Seg.get (g32_get (i := r) (by rw [hw]; omega))))))⟩, ⟨_, rfl, Qok_val rfl (Ev_bini rfl rfl fun _ => bin_add_u32 (((vh + (((rotr ve 6) ^^^ (rotr ve 11)) ^^^ (rotr ve 25))) + ((ve &&& vf) ^^^ ((~~~ve) &&& vg))) + (g32 constL r)) (g32 ww r))⟩, ⟨_, rfl, Qok_val rfl (Ev_assign rfl)⟩, trivial⟩ ?_
   refine K_sub (F' := [(107, U32 vh), (108, U32 ve), (109, U32 (rotr ve 6)), (110, U32 ve), (111, U32 (rotr ve 11)), (112, U32 ((rotr ve 6) ^^^ (rotr ve 11))), (113, U32 ve), (114, U32 (rotr ve 25)), (115, U32 (((rotr ve 6) ^^^ (rotr ve 11)) ^^^ (rotr ve 25))), (116, U32 (vh + (((rotr ve 6) ^^^ (rotr ve 11)) ^^^ (rotr ve 25)))), (117, U32 ve), (118, U32 vf), (119, U32 (ve &&& vf)), (120, U32 ve), (121, U32 (~~~ve)), (122, U32 vg), (123, U32 ((~~~ve) &&& vg)), (124, U32 ((ve &&& vf) ^^^ ((~~~ve) &&& vg))), (125, U32 ((vh + (((rotr ve 6) ^^^ (rotr ve 11)) ^^^ (rotr ve 25))) + ((ve &&& vf) ^^^ ((~~~ve) &&& vg)))), (126, I64 ((r:Int))), (127, Ptr 0 r), (128, U32 (g32 constL r)), (129, U32 (((vh + (((rotr ve 6) ^^^ (rotr ve 11)) ^^^ (rotr ve 25))) + ((ve &&& vf) ^^^ ((~~~ve) &&& vg))) + (g32 constL r))), (130, I64 ((r:Int))), (131, Ptr nb3 r), (132, U32 (g32 ww r)), (133, U32 ((((vh + (((rotr ve 6) ^^^ (rotr ve 11)) ^^^ (rotr ve 25))) + ((ve &&& vf) ^^^ ((~~~ve) &&& vg))) + (g32 constL r)) + (g32 ww r))), (21, U32 ((((vh + (((rotr ve 6) ^^^ (rotr ve 11)) ^^^ (rotr ve 25))) + ((ve &&& vf) ^^^ ((~~~ve) &&& vg))) + (g32 constL r)) + (g32 ww r))), (2, Ptr nb1 0), (4, Ptr nb2 0), (5, Ptr nb3 0), (20, I64 ((r:Int))), (12, U32 va), (13, U32 vb), (14, U32 vc), (15, U32 vd), (16, U32 ve), (17, U32 vf), (18, U32 vg), (19, U32 vh), (103, I64 ((r:Int))), (104, .bool (decide (((r:Int)) < (64:Int))))]) (Sub.cons (by kernel_rfl) (Sub.cons (by kernel_rfl) (Sub.cons (by kernel_rfl) (Sub.cons (by kernel_rfl) (Sub.cons (by kernel_rfl) (Sub.cons (by kernel_rfl) (Sub.cons (by kernel_rfl) (Sub.cons (by kernel_rfl) (Sub.cons (by kernel_rfl) (Sub.cons (by kernel_rfl) (Sub.cons (by kernel_rfl) (Sub.cons (by kernel_rfl) (Sub.cons (by kernel_rfl) (Sub.cons (by kernel_rfl) (Sub.cons (by kernel_rfl) (Sub.cons (by kernel_rfl) (Sub.cons (by kernel_rfl) (Sub.cons (by kernel_rfl) (Sub.cons (by kernel_rfl) (Sub.cons (by kernel_rfl) (Sub.cons (by kernel_rfl) (Sub.cons (by kernel_rfl) (Sub.cons (by kernel_rfl) (Sub.cons (by kernel_rfl) (Sub.cons (by kernel_rfl) (Sub.cons (by kernel_rfl) (Sub.cons (by kernel_rfl) (Sub.cons (by kernel_rfl) (Sub.cons (by kernel_rfl) (Sub.cons (by kernel_rfl) (Sub.cons (by kernel_rfl) (Sub.cons (by kernel_rfl) (Sub.cons (by kernel_rfl) (Sub.cons (by kernel_rfl) (Sub.cons (by kernel_rfl) (Sub.cons (by kernel_rfl) (Sub.cons (by kernel_rfl) (Sub.cons (by kernel_rfl) (Sub.cons (by kernel_rfl) (Sub.cons (by kernel_rfl) (Sub.cons (by kernel_rfl) (Sub.cons (by kernel_rfl) (Sub.nil))))))))))))))))))))))))))))))))))))))))))) ?_
   show JQ _ _ _ [(107, U32 vh), (108, U32 ve), (109, U32 (rotr ve 6)), (110, U32 ve), (111, U32 (rotr ve 11)), (112, U32 ((rotr ve 6) ^^^ (rotr ve 11))), (113, U32 ve), (114, U32 (rotr ve 25)), (115, U32 (((rotr ve 6) ^^^ (rotr ve 11)) ^^^ (rotr ve 25))), (116, U32 (vh + (((rotr ve 6) ^^^ (rotr ve 11)) ^^^ (rotr ve 25)))), (117, U32 ve), (118, U32 vf), (119, U32 (ve &&& vf)), (120, U32 ve), (121, U32 (~~~ve)), (122, U32 vg), (123, U32 ((~~~ve) &&& vg)), (124, U32 ((ve &&& vf) ^^^ ((~~~ve) &&& vg))), (125, U32 ((vh + (((rotr ve 6) ^^^ (rotr ve 11)) ^^^ (rotr ve 25))) + ((ve &&& vf) ^^^ ((~~~ve) &&& vg)))), (126, I64 ((r:Int))), (127, Ptr 0 r), (128, U32 (g32 constL r)), (129, U32 (((vh + (((rotr ve 6) ^^^ (rotr ve 11)) ^^^ (rotr ve 25))) + ((ve &&& vf) ^^^ ((~~~ve) &&& vg))) + (g32 constL r))), (130, I64 ((r:Int))), (131, Ptr nb3 r), (132, U32 (g32 ww r)), (133, U32 ((((vh + (((rotr ve 6) ^^^ (rotr ve 11)) ^^^ (rotr ve 25))) + ((ve &&& vf) ^^^ ((~~~ve) &&& vg))) + (g32 constL r)) + (g32 ww r))), (21, U32 ((((vh + (((rotr ve 6) ^^^ (rotr ve 11)) ^^^ (rotr ve 25))) + ((ve &&& vf) ^^^ ((~~~ve) &&& vg))) + (g32 constL r)) + (g32 ww r))), (2, Ptr nb1 0), (4, Ptr nb2 0), (5, Ptr nb3 0), (20, I64 ((r:Int))), (12, U32 va), (13, U32 vb), (14, U32 vc), (15, U32 vd), (16, U32 ve), (17, U32 vf), (18, U32 vg), (19, U32 vh), (103, I64 ((r:Int))), (104, .bool (decide (((r:Int)) < (64:Int))))] _
   refine JQ_then ?_
   refine JC_seq ?_
   refine JC_region ?_
   refine JL_val _ (Ev_move rfl) rfl ?_
   refine JL_step (Step_callP 87 [U32 va, I64 (2:Int)] (U32 (rotr va 2)) (Cl_func [U32 va, I64 (2:Int)] Tryd.call87 rfl) (fun w1 hw1 => rturn_c va 2 w1 (by omega) (by omega))) rfl ?_
   rintro v1 L1 ⟨rfl, rfl⟩
   show JL _ _ _ _ ((135, U32 (rotr va 2)) :: _) [⟨nb1, cu32 st, 31, (0, 0)⟩, ⟨nb2, cu32 (zr32 8), 31, (0, 0)⟩, ⟨nb3, cu32 ww, 44, (0, 0)⟩]
   refine JL_val _ (Ev_move rfl) rfl ?_
   refine JL_step (Step_callP 87 [U32 va, I64 (13:Int)] (U32 (rotr va 13)) (Cl_func [U32 va, I64 (13:Int)] Tryd.call87 rfl) (fun w1 hw1 => rturn_c va 13 w1 (by omega) (by omega))) rfl ?_
   rintro v1 L1 ⟨rfl, rfl⟩
   show JL _ _ _ _ ((137, U32 (rotr va 13)) :: _) [⟨nb1, cu32 st, 31, (0, 0)⟩, ⟨nb2, cu32 (zr32 8), 31, (0, 0)⟩, ⟨nb3, cu32 ww, 44, (0, 0)⟩]
   refine JL_val (U32 ((rotr va 2) ^^^ (rotr va 13))) (Ev_bini rfl rfl fun _ => bin_xor_u32 (rotr va 2) (rotr va 13)) rfl ?_
   refine JL_val _ (Ev_move rfl) rfl ?_
   refine JL_step (Step_callP 87 [U32 va, I64 (22:Int)] (U32 (rotr va 22)) (Cl_func [U32 va, I64 (22:Int)] Tryd.call87 rfl) (fun w1 hw1 => rturn_c va 22 w1 (by omega) (by omega))) rfl ?_
   rintro v1 L1 ⟨rfl, rfl⟩
   show JL _ _ _ _ ((140, U32 (rotr va 22)) :: _) [⟨nb1, cu32 st, 31, (0, 0)⟩, ⟨nb2, cu32 (zr32 8), 31, (0, 0)⟩, ⟨nb3, cu32 ww, 44, (0, 0)⟩]
   refine JL_val (U32 (((rotr va 2) ^^^ (rotr va 13)) ^^^ (rotr va 22))) (Ev_bini rfl rfl fun _ => bin_xor_u32 ((rotr va 2) ^^^ (rotr va 13)) (rotr va 22)) rfl ?_
   refine JL_val _ (Ev_move rfl) rfl ?_
   refine JL_val _ (Ev_move rfl) rfl ?_
   refine JL_val (U32 (va &&& vb)) (Ev_bini rfl rfl fun _ => bin_and_u32 va vb) rfl ?_
   refine JL_val _ (Ev_move rfl) rfl ?_
   refine JL_val _ (Ev_move rfl) rfl ?_
   refine JL_val (U32 (va &&& vc)) (Ev_bini rfl rfl fun _ => bin_and_u32 va vc) rfl ?_
   refine JL_val (U32 ((va &&& vb) ^^^ (va &&& vc))) (Ev_bini rfl rfl fun _ => bin_xor_u32 (va &&& vb) (va &&& vc)) rfl ?_
   refine JL_val _ (Ev_move rfl) rfl ?_
   refine JL_val _ (Ev_move rfl) rfl ?_
   refine JL_val (U32 (vb &&& vc)) (Ev_bini rfl rfl fun _ => bin_and_u32 vb vc) rfl ?_
   refine JL_val (U32 (((va &&& vb) ^^^ (va &&& vc)) ^^^ (vb &&& vc))) (Ev_bini rfl rfl fun _ => bin_xor_u32 ((va &&& vb) ^^^ (va &&& vc)) (vb &&& vc)) rfl ?_
   refine JL_val (U32 ((((rotr va 2) ^^^ (rotr va 13)) ^^^ (rotr va 22)) + (((va &&& vb) ^^^ (va &&& vc)) ^^^ (vb &&& vc)))) (Ev_bini rfl rfl fun _ => bin_add_u32 (((rotr va 2) ^^^ (rotr va 13)) ^^^ (rotr va 22)) (((va &&& vb) ^^^ (va &&& vc)) ^^^ (vb &&& vc))) rfl ?_
   refine JL_val _ (Ev_assign rfl) rfl ?_
   refine JL_nil ?_
   refine JQ_then ?_
   refine JC_seq ?_
   refine JC_region ?_
   refine JL_val _ (Ev_move rfl) rfl ?_
   refine JL_val _ (Ev_assign rfl) rfl ?_
   refine JL_nil ?_
   refine JQ_then ?_
   refine JC_seq ?_
   refine JC_region ?_
   refine JL_val _ (Ev_move rfl) rfl ?_
   refine JL_val _ (Ev_assign rfl) rfl ?_
   refine JL_nil ?_
   refine JQ_then ?_
   refine JC_seq ?_
   refine JC_region ?_
   refine JL_val _ (Ev_move rfl) rfl ?_
   refine JL_val _ (Ev_assign rfl) rfl ?_
   refine JL_nil ?_
   refine JQ_then ?_
   refine JC_seq ?_
   refine JC_region ?_
   refine JL_val _ (Ev_move rfl) rfl ?_
   refine JL_val _ (Ev_move rfl) rfl ?_
   refine JL_val (U32 (vd + ((((vh + (((rotr ve 6) ^^^ (rotr ve 11)) ^^^ (rotr ve 25))) + ((ve &&& vf) ^^^ ((~~~ve) &&& vg))) + (g32 constL r)) + (g32 ww r)))) (Ev_bini rfl rfl fun _ => bin_add_u32 vd ((((vh + (((rotr ve 6) ^^^ (rotr ve 11)) ^^^ (rotr ve 25))) + ((ve &&& vf) ^^^ ((~~~ve) &&& vg))) + (g32 constL r)) + (g32 ww r))) rfl ?_
   refine JL_val _ (Ev_assign rfl) rfl ?_
   refine JL_nil ?_
   refine JQ_then ?_
   refine JC_seq ?_
   refine JC_region ?_
   refine JL_val _ (Ev_move rfl) rfl ?_
   refine JL_val _ (Ev_assign rfl) rfl ?_
   refine JL_nil ?_
   refine JQ_then ?_
   refine JC_seq ?_
   refine JC_region ?_
   refine JL_val _ (Ev_move rfl) rfl ?_
   refine JL_val _ (Ev_assign rfl) rfl ?_
   refine JL_nil ?_
   refine JQ_then ?_
   refine JC_seq ?_
   refine JC_region ?_
   refine JL_val _ (Ev_move rfl) rfl ?_
   refine JL_val _ (Ev_assign rfl) rfl ?_
   refine JL_nil ?_
   refine JQ_then ?_
   refine JC_region ?_
   refine JL_val _ (Ev_move rfl) rfl ?_
   refine JL_val _ (Ev_move rfl) rfl ?_
   refine JL_val (U32 (((((vh + (((rotr ve 6) ^^^ (rotr ve 11)) ^^^ (rotr ve 25))) + ((ve &&& vf) ^^^ ((~~~ve) &&& vg))) + (g32 constL r)) + (g32 ww r)) + ((((rotr va 2) ^^^ (rotr va 13)) ^^^ (rotr va 22)) + (((va &&& vb) ^^^ (va &&& vc)) ^^^ (vb &&& vc))))) (Ev_bini rfl rfl fun _ => bin_add_u32 ((((vh + (((rotr ve 6) ^^^ (rotr ve 11)) ^^^ (rotr ve 25))) + ((ve &&& vf) ^^^ ((~~~ve) &&& vg))) + (g32 constL r)) + (g32 ww r)) ((((rotr va 2) ^^^ (rotr va 13)) ^^^ (rotr va 22)) + (((va &&& vb) ^^^ (va &&& vc)) ^^^ (vb &&& vc)))) rfl ?_
   refine JL_val _ (Ev_assign rfl) rfl ?_
   refine JL_nil ?_
   refine JQ_in_normal ?_
   refine JQ_then ?_
   refine JC_region ?_
   refine JL_val _ (Ev_move rfl) rfl ?_
   refine JL_val (I64 ((r:Int) + 1)) (Ev_bini rfl rfl fun _ => bin_add_i _ _ ((r:Int) + 1) (by omega) (by omega)) rfl ?_
   refine JL_val _ (Ev_assign rfl) rfl ?_
   refine JL_nil ?_
   refine JQ_thenK ?_
   refine K_next (r + 1, ((((vh + (((rotr ve 6) ^^^ (rotr ve 11)) ^^^ (rotr ve 25))) + ((ve &&& vf) ^^^ ((~~~ve) &&& vg))) + (g32 constL r)) + (g32 ww r)) + ((((rotr va 2) ^^^ (rotr va 13)) ^^^ (rotr va 22)) + (((va &&& vb) ^^^ (va &&& vc)) ^^^ (vb &&& vc))), va, vb, vc, vd + ((((vh + (((rotr ve 6) ^^^ (rotr ve 11)) ^^^ (rotr ve 25))) + ((ve &&& vf) ^^^ ((~~~ve) &&& vg))) + (g32 constL r)) + (g32 ww r)), ve, vf, vg) ⟨by omega, by rw [cpN, ← hy2]; rfl⟩ (by first | (simp; omega) | simp) (Sub.cons rfl (Sub.cons rfl (Sub.cons rfl (Sub.cons rfl (Sub.cons rfl (Sub.cons rfl (Sub.cons rfl (Sub.cons rfl (Sub.cons rfl (Sub.cons rfl (Sub.cons rfl (Sub.cons rfl (Sub.nil))))))))))))) rfl
  ·
   have hp4 : ¬ (((r:Int)) < (64:Int)) := of_decide_eq_false hb4
   refine JC_exit ?_
   refine JQ_then_exit ?_
   refine JQ_then_exit ?_
   refine JQ_in_same ?_
   refine JQ_then ?_
   refine JC_seq ?_
   refine JC_region ?_
   refine JL_val (Ptr nb1 0) (Ev_indexArr 8 30 1 0 Tryd.underlying31 Tryd.sizeOf30 rfl rfl (by omega) (by omega) (by omega)) rfl ?_
   refine JL_val (U32 (g32 st 0)) (Ev_load rfl (Ld_one Tryd.isAgg30 (MemAt.ent 0 rfl (Seg.get (g32_get (i := 0) (by rw [hs0]; omega)))))) rfl ?_
   refine JL_val _ (Ev_move rfl) rfl ?_
   refine JL_val (U32 ((g32 st 0) + va)) (Ev_bini rfl rfl fun _ => bin_add_u32 (g32 st 0) va) rfl ?_
   refine JL_val (Ptr nb1 1) (Ev_indexArr 8 30 1 1 Tryd.underlying31 Tryd.sizeOf30 rfl rfl (by omega) (by omega) (by omega)) rfl ?_
   refine JL_val (U32 (g32 st 1)) (Ev_load rfl (Ld_one Tryd.isAgg30 (MemAt.ent 0 rfl (Seg.get (g32_get (i := 1) (by rw [hs0]; omega)))))) rfl ?_
   refine JL_val _ (Ev_move rfl) rfl ?_
   refine JL_val (U32 ((g32 st 1) + vb)) (Ev_bini rfl rfl fun _ => bin_add_u32 (g32 st 1) vb) rfl ?_
   refine JL_val (Ptr nb1 2) (Ev_indexArr 8 30 1 2 Tryd.underlying31 Tryd.sizeOf30 rfl rfl (by omega) (by omega) (by omega)) rfl ?_
   refine JL_val (U32 (g32 st 2)) (Ev_load rfl (Ld_one Tryd.isAgg30 (MemAt.ent 0 rfl (Seg.get (g32_get (i := 2) (by rw [hs0]; omega)))))) rfl ?_
   refine JL_val _ (Ev_move rfl) rfl ?_
   refine JL_val (U32 ((g32 st 2) + vc)) (Ev_bini rfl rfl fun _ => bin_add_u32 (g32 st 2) vc) rfl ?_
   refine JL_val (Ptr nb1 3) (Ev_indexArr 8 30 1 3 Tryd.underlying31 Tryd.sizeOf30 rfl rfl (by omega) (by omega) (by omega)) rfl ?_
   refine JL_val (U32 (g32 st 3)) (Ev_load rfl (Ld_one Tryd.isAgg30 (MemAt.ent 0 rfl (Seg.get (g32_get (i := 3) (by rw [hs0]; omega)))))) rfl ?_
   refine JL_val _ (Ev_move rfl) rfl ?_
   refine JL_val (U32 ((g32 st 3) + vd)) (Ev_bini rfl rfl fun _ => bin_add_u32 (g32 st 3) vd) rfl ?_
   refine JL_val (Ptr nb1 4) (Ev_indexArr 8 30 1 4 Tryd.underlying31 Tryd.sizeOf30 rfl rfl (by omega) (by omega) (by omega)) rfl ?_
   refine JL_val (U32 (g32 st 4)) (Ev_load rfl (Ld_one Tryd.isAgg30 (MemAt.ent 0 rfl (Seg.get (g32_get (i := 4) (by rw [hs0]; omega)))))) rfl ?_
   refine JL_val _ (Ev_move rfl) rfl ?_
   refine JL_val (U32 ((g32 st 4) + ve)) (Ev_bini rfl rfl fun _ => bin_add_u32 (g32 st 4) ve) rfl ?_
   refine JL_val (Ptr nb1 5) (Ev_indexArr 8 30 1 5 Tryd.underlying31 Tryd.sizeOf30 rfl rfl (by omega) (by omega) (by omega)) rfl ?_
   refine JL_val (U32 (g32 st 5)) (Ev_load rfl (Ld_one Tryd.isAgg30 (MemAt.ent 0 rfl (Seg.get (g32_get (i := 5) (by rw [hs0]; omega)))))) rfl ?_
   refine JL_val _ (Ev_move rfl) rfl ?_
   refine JL_val (U32 ((g32 st 5) + vf)) (Ev_bini rfl rfl fun _ => bin_add_u32 (g32 st 5) vf) rfl ?_
   refine JL_val (Ptr nb1 6) (Ev_indexArr 8 30 1 6 Tryd.underlying31 Tryd.sizeOf30 rfl rfl (by omega) (by omega) (by omega)) rfl ?_
   refine JL_val (U32 (g32 st 6)) (Ev_load rfl (Ld_one Tryd.isAgg30 (MemAt.ent 0 rfl (Seg.get (g32_get (i := 6) (by rw [hs0]; omega)))))) rfl ?_
   refine JL_val _ (Ev_move rfl) rfl ?_
   refine JL_val (U32 ((g32 st 6) + vg)) (Ev_bini rfl rfl fun _ => bin_add_u32 (g32 st 6) vg) rfl ?_
   refine JL_val (Ptr nb1 7) (Ev_indexArr 8 30 1 7 Tryd.underlying31 Tryd.sizeOf30 rfl rfl (by omega) (by omega) (by omega)) rfl ?_
   refine JL_val (U32 (g32 st 7)) (Ev_load rfl (Ld_one Tryd.isAgg30 (MemAt.ent 0 rfl (Seg.get (g32_get (i := 7) (by rw [hs0]; omega)))))) rfl ?_
   refine JL_val _ (Ev_move rfl) rfl ?_
   refine JL_val (U32 ((g32 st 7) + vh)) (Ev_bini rfl rfl fun _ => bin_add_u32 (g32 st 7) vh) rfl ?_
   refine JL_val (.agg (cu32 ([(g32 st 0) + va, (g32 st 1) + vb, (g32 st 2) + vc, (g32 st 3) + vd, (g32 st 4) + ve, (g32 st 5) + vf, (g32 st 6) + vg, (g32 st 7) + vh])).toArray) (Ev_build [(0, U32 ((g32 st 0) + va)), (1, U32 ((g32 st 1) + vb)), (2, U32 ((g32 st 2) + vc)), (3, U32 ((g32 st 3) + vd)), (4, U32 ((g32 st 4) + ve)), (5, U32 ((g32 st 5) + vf)), (6, U32 ((g32 st 6) + vg)), (7, U32 ((g32 st 7) + vh))] _ rfl (fun _ => by kernel_rfl)) rfl ?_
   refine JL_step (Step_store 1 nb2 0 8 (cu32 (zr32 8)) 31 (.agg (cu32 ([(g32 st 0) + va, (g32 st 1) + vb, (g32 st 2) + vc, (g32 st 3) + vd, (g32 st 4) + ve, (g32 st 5) + vf, (g32 st 6) + vg, (g32 st 7) + vh])).toArray) (cu32 ([(g32 st 0) + va, (g32 st 1) + vb, (g32 st 2) + vc, (g32 st 3) + vd, (g32 st 4) + ve, (g32 st 5) + vf, (g32 st 6) + vg, (g32 st 7) + vh])) (cu32 ([(g32 st 0) + va, (g32 st 1) + vb, (g32 st 2) + vc, (g32 st 3) + vd, (g32 st 4) + ve, (g32 st 5) + vf, (g32 st 6) + vg, (g32 st 7) + vh])) rfl rfl rfl (by first | rfl | simp) Tryd.sizeOf31 (by simp []) (by first | exact one_u8 | exact one_u32 | exact one_u64 | (simp [cu8, cu32, cu64, Value.oneCell']; done)) (by simp [(zr32_len 8)]) (lay_whole (by simp [(zr32_len 8)]))) rfl ?_
   rintro v1 L1 ⟨rfl, rfl⟩
   show JL _ _ _ _ _ [⟨nb1, cu32 st, 31, (0, 0)⟩, ⟨nb2, cu32 ([(g32 st 0) + va, (g32 st 1) + vb, (g32 st 2) + vc, (g32 st 3) + vd, (g32 st 4) + ve, (g32 st 5) + vf, (g32 st 6) + vg, (g32 st 7) + vh]), 31, (0, 0)⟩, ⟨nb3, cu32 ww, 44, (0, 0)⟩]
   refine JL_nil ?_
   refine JQ_then ?_
   refine JC_ret ?_
   refine JQ_ret (.agg (cu32 ([(g32 st 0) + va, (g32 st 1) + vb, (g32 st 2) + vc, (g32 st 3) + vd, (g32 st 4) + ve, (g32 st 5) + vf, (g32 st 6) + vg, (g32 st 7) + vh])).toArray) (res1 Tryd.results29 (RV_cell rfl (Ld_agg Tryd.isAgg31 Tryd.sizeOf31 (by simp []) (MemAt.ent 1 rfl (Seg.whole _))))) fun w1 hw1 => ?_
   have e1 : t = 64 := by omega
   have e2 : r = 64 := by omega
   subst e1; subst e2
   have e3 : cpN constL st (spreadL blk) 64 = [va, vb, vc, vd, ve, vf, vg, vh] := by rw [spreadL, ← hx2]; exact hy2.symm
   refine ⟨_, [], rfl, ⟨?_, rfl⟩, hw1.sub (by simp) (by simp)⟩
   rw [comprL_eq hs0 _ _ _ _ _ _ _ _ e3]
end Go.Proofs.YtncoifiafklkjaaDoor
