import Derived.Test.YtncoifiafklkjaaDoorKeys2
import Derived.Test.YtncoifiafklkjaaDoorSxMisc
namespace Go.Proofs.YtncoifiafklkjaaDoor
open Go Go.Sx
set_option linter.unusedVariables false
set_option linter.unusedSimpArgs false
set_option maxRecDepth 100000
attribute [local irreducible] mid zr8 zr32 rotr wordL spreadL comprL cpN adN spN wrdN constL initL padL stN outN routN hashL sumG blkL xbN raN macL orN numN rnN lblL sessL
theorem setSes_c (a b c d : List UInt8) (x : UInt64) (w : World) (ha : a.length = 16) (hb : b.length = 32) (hc : c.length = 32) (hd : d.length = 32) (hG : GLs w) : Calls Tryd.prog 53 #[.agg (cu8 a ++ cu8 b ++ cu8 c ++ cu8 d).toArray, U64 x] w (Post w [] (fun v L => v = .agg (cu8 (macL d (numN 8 x 8))).toArray ∧ L = [])) := by
  refine enter w [] 9 [] [.agg (cu8 a ++ cu8 b ++ cu8 c ++ cu8 d).toArray, U64 x] Tryd.func53 rfl rfl (by simp) (Hp.start (by simp) (by simp) (by simp)) ?_
  show JC _ _ _ [(0, .agg (cu8 a ++ cu8 b ++ cu8 c ++ cu8 d).toArray), (1, U64 x)] _
  refine JC_seq ?_
  refine JC_region ?_
  refine JL_step (Step_box (.agg (cu8 a ++ cu8 b ++ cu8 c ++ cu8 d).toArray) (cu8 a ++ cu8 b ++ cu8 c ++ cu8 d) rfl (by first | rfl | simp)) rfl ?_
  rintro v1 L1 ⟨nb1, hnb1, rfl, rfl⟩
  show JL _ _ _ _ ((2, Ptr nb1 0) :: _) [⟨nb1, cu8 a ++ cu8 b ++ cu8 c ++ cu8 d, 61, (0, 0)⟩]
  refine JL_step (Step_alloc _ (cu8 (zr8 32)) Tryd.zeroValue25 (by kernel_rfl)) rfl ?_
  rintro v1 L1 ⟨nb2, hnb2, rfl, rfl⟩
  show JL _ _ _ _ ((4, Ptr nb2 0) :: _) [⟨nb1, cu8 a ++ cu8 b ++ cu8 c ++ cu8 d, 61, (0, 0)⟩, ⟨nb2, cu8 (zr8 32), 25, (0, 0)⟩]
  refine JL_nil ?_
  refine JQ_then ?_
  refine JC_seq ?_
  refine JC_region ?_
  refine JL_val (Ptr nb1 80) (Ev_fieldAddr 80 25 32 Tryd.underlying61 rfl Tryd.sizeOf25 rfl rfl) rfl ?_
  refine JL_val (.agg (cu8 d).toArray) (Ev_load rfl (Ld_agg Tryd.isAgg25 Tryd.sizeOf25 (len_cu8 hd) (MemAt.ent 0 rfl (Seg.right 80 0 (by simp [ha, hb, hc]) rfl (Seg.whole _))))) rfl ?_
  refine JL_val _ (Ev_move rfl) rfl ?_
  refine JL_step (Step_callP 46 [.agg (cu8 d).toArray, U64 x] (.agg (cu8 (macL d (numN 8 x 8))).toArray) (Cl_func [.agg (cu8 d).toArray, U64 x] Tryd.call46 rfl) (fun w1 hw1 => session_c d x w1 hd (hG.at hw1))) rfl ?_
  rintro v1 L1 ⟨rfl, rfl⟩
  show JL _ _ _ _ ((8, .agg (cu8 (macL d (numN 8 x 8))).toArray) :: _) [⟨nb1, cu8 a ++ cu8 b ++ cu8 c ++ cu8 d, 61, (0, 0)⟩, ⟨nb2, cu8 (zr8 32), 25, (0, 0)⟩]
  refine JL_step (Step_store 1 nb2 0 32 (cu8 (zr8 32)) 25 (.agg (cu8 (macL d (numN 8 x 8))).toArray) (cu8 (macL d (numN 8 x 8))) (cu8 (macL d (numN 8 x 8))) rfl rfl rfl (by first | rfl | simp) Tryd.sizeOf25 (len_cu8 (macL_len _ _)) (by first | exact one_u8 | exact one_u32 | exact one_u64 | (simp [cu8, cu32, cu64, Value.oneCell']; done)) (by simp [(zr8_len 32)]) (lay_whole (by simp [(zr8_len 32), (macL_len _ _)]))) rfl ?_
  rintro v1 L1 ⟨rfl, rfl⟩
  show JL _ _ _ _ _ [⟨nb1, cu8 a ++ cu8 b ++ cu8 c ++ cu8 d, 61, (0, 0)⟩, ⟨nb2, cu8 (macL d (numN 8 x 8)), 25, (0, 0)⟩]
  refine JL_nil ?_
  refine JQ_then ?_
  refine JC_ret ?_
  refine JQ_ret (.agg (cu8 (macL d (numN 8 x 8))).toArray) (res1 Tryd.results53 (RV_cell rfl (Ld_agg Tryd.isAgg25 Tryd.sizeOf25 (len_cu8 (macL_len _ _)) (MemAt.ent 1 rfl (Seg.whole _))))) fun w1 hw1 => ?_
  exact ⟨_, [], rfl, ⟨rfl, rfl⟩, hw1.sub (by simp) (by simp)⟩

theorem alive6_1 : ¬ (mid (macL (zr8 16) ([101, 110, 116, 114, 117, 115, 116, 32, 115, 101, 97, 108] : List UInt8)) 0 16 = zr8 16) := by decide +kernel
theorem alive6_2 : ¬ (macL (zr8 16) ([101, 110, 116, 114, 117, 115, 116, 32, 116, 97, 103] : List UInt8) = macL (zr8 16) ([101, 110, 116, 114, 117, 115, 116, 32, 116, 105, 99, 107, 101, 116] : List UInt8)) := by decide +kernel
theorem alive6_3 : ¬ (macL (zr8 16) ([101, 110, 116, 114, 117, 115, 116, 32, 116, 105, 99, 107, 101, 116] : List UInt8) = macL (zr8 16) ([101, 110, 116, 114, 117, 115, 116, 32, 108, 105, 110, 107] : List UInt8)) := by decide +kernel

theorem alive6_c  (w : World) (hG : GLs w) : Calls Tryd.prog 43 #[] w (Post w [] (fun v L => v = .bool true ∧ L = [])) := by
  refine enter w [] 22 [] [] Tryd.func43 rfl rfl (by simp) (Hp.start (by simp) (by simp) (by simp)) ?_
  show JC _ _ _ [] _
  refine JC_seq ?_
  refine JC_region ?_
  refine JL_val _ (Ev_assign rfl) rfl ?_
  refine JL_nil ?_
  refine JQ_then ?_
  refine JC_seq ?_
  refine JC_region ?_
  refine JL_val (.agg (cu8 (zr8 16)).toArray) (Ev_build [] _ rfl (fun _ => by kernel_rfl)) rfl ?_
  refine JL_step (Step_callP 48 [.agg (cu8 (zr8 16)).toArray] (.agg (cu8 (mid (macL (zr8 16) ([101, 110, 116, 114, 117, 115, 116, 32, 115, 101, 97, 108] : List UInt8)) 0 16) ++ cu8 (macL (zr8 16) ([101, 110, 116, 114, 117, 115, 116, 32, 116, 97, 103] : List UInt8)) ++ cu8 (macL (zr8 16) ([101, 110, 116, 114, 117, 115, 116, 32, 116, 105, 99, 107, 101, 116] : List UInt8)) ++ cu8 (macL (zr8 16) ([101, 110, 116, 114, 117, 115, 116, 32, 108, 105, 110, 107] : List UInt8))).toArray) (Cl_func [.agg (cu8 (zr8 16)).toArray] Tryd.call48 rfl) (fun w1 hw1 => keysOf_c (zr8 16) w1 (zr8_len 16) (hG.at hw1))) rfl ?_
  rintro v1 L1 ⟨rfl, rfl⟩
  show JL _ _ _ _ ((3, .agg (cu8 (mid (macL (zr8 16) ([101, 110, 116, 114, 117, 115, 116, 32, 115, 101, 97, 108] : List UInt8)) 0 16) ++ cu8 (macL (zr8 16) ([101, 110, 116, 114, 117, 115, 116, 32, 116, 97, 103] : List UInt8)) ++ cu8 (macL (zr8 16) ([101, 110, 116, 114, 117, 115, 116, 32, 116, 105, 99, 107, 101, 116] : List UInt8)) ++ cu8 (macL (zr8 16) ([101, 110, 116, 114, 117, 115, 116, 32, 108, 105, 110, 107] : List UInt8))).toArray) :: _) []
  refine JL_step (Step_alloc _ (cu8 (zr8 16) ++ cu8 (zr8 32) ++ cu8 (zr8 32) ++ cu8 (zr8 32)) Tryd.zeroValue61 (by kernel_rfl)) rfl ?_
  rintro v1 L1 ⟨nb1, hnb1, rfl, rfl⟩
  show JL _ _ _ _ ((1, Ptr nb1 0) :: _) [⟨nb1, cu8 (zr8 16) ++ cu8 (zr8 32) ++ cu8 (zr8 32) ++ cu8 (zr8 32), 61, (0, 0)⟩]
  refine JL_step (Step_store 0 nb1 0 112 (cu8 (zr8 16) ++ cu8 (zr8 32) ++ cu8 (zr8 32) ++ cu8 (zr8 32)) 61 (.agg (cu8 (mid (macL (zr8 16) ([101, 110, 116, 114, 117, 115, 116, 32, 115, 101, 97, 108] : List UInt8)) 0 16) ++ cu8 (macL (zr8 16) ([101, 110, 116, 114, 117, 115, 116, 32, 116, 97, 103] : List UInt8)) ++ cu8 (macL (zr8 16) ([101, 110, 116, 114, 117, 115, 116, 32, 116, 105, 99, 107, 101, 116] : List UInt8)) ++ cu8 (macL (zr8 16) ([101, 110, 116, 114, 117, 115, 116, 32, 108, 105, 110, 107] : List UInt8))).toArray) (cu8 (mid (macL (zr8 16) ([101, 110, 116, 114, 117, 115, 116, 32, 115, 101, 97, 108] : List UInt8)) 0 16) ++ cu8 (macL (zr8 16) ([101, 110, 116, 114, 117, 115, 116, 32, 116, 97, 103] : List UInt8)) ++ cu8 (macL (zr8 16) ([101, 110, 116, 114, 117, 115, 116, 32, 116, 105, 99, 107, 101, 116] : List UInt8)) ++ cu8 (macL (zr8 16) ([101, 110, 116, 114, 117, 115, 116, 32, 108, 105, 110, 107] : List UInt8))) (cu8 (mid (macL (zr8 16) ([101, 110, 116, 114, 117, 115, 116, 32, 115, 101, 97, 108] : List UInt8)) 0 16) ++ cu8 (macL (zr8 16) ([101, 110, 116, 114, 117, 115, 116, 32, 116, 97, 103] : List UInt8)) ++ cu8 (macL (zr8 16) ([101, 110, 116, 114, 117, 115, 116, 32, 116, 105, 99, 107, 101, 116] : List UInt8)) ++ cu8 (macL (zr8 16) ([101, 110, 116, 114, 117, 115, 116, 32, 108, 105, 110, 107] : List UInt8))) rfl rfl rfl (by first | rfl | simp) Tryd.sizeOf61 (by simp [(midmac_len _ _), (macL_len _ _), (macL_len _ _), (macL_len _ _)]) (by simp only [← cu8_app]; exact one_u8) (by simp [(zr8_len 16), (zr8_len 32), (zr8_len 32), (zr8_len 32)]) (lay_whole (by simp [(zr8_len 16), (zr8_len 32), (zr8_len 32), (zr8_len 32), (midmac_len _ _), (macL_len _ _), (macL_len _ _), (macL_len _ _)]))) rfl ?_
  rintro v1 L1 ⟨rfl, rfl⟩
  show JL _ _ _ _ _ [⟨nb1, cu8 (mid (macL (zr8 16) ([101, 110, 116, 114, 117, 115, 116, 32, 115, 101, 97, 108] : List UInt8)) 0 16) ++ cu8 (macL (zr8 16) ([101, 110, 116, 114, 117, 115, 116, 32, 116, 97, 103] : List UInt8)) ++ cu8 (macL (zr8 16) ([101, 110, 116, 114, 117, 115, 116, 32, 116, 105, 99, 107, 101, 116] : List UInt8)) ++ cu8 (macL (zr8 16) ([101, 110, 116, 114, 117, 115, 116, 32, 108, 105, 110, 107] : List UInt8)), 61, (0, 0)⟩]
  refine JL_nil ?_
  refine JQ_then ?_
  refine JC_seq ?_
  refine JC_region ?_
  refine JL_val (Ptr nb1 0) (Ev_fieldAddr 0 55 16 Tryd.underlying61 rfl Tryd.sizeOf55 rfl rfl) rfl ?_
  refine JL_val (.agg (cu8 (mid (macL (zr8 16) ([101, 110, 116, 114, 117, 115, 116, 32, 115, 101, 97, 108] : List UInt8)) 0 16)).toArray) (Ev_load rfl (Ld_agg Tryd.isAgg55 Tryd.sizeOf55 (len_cu8 (midmac_len _ _)) (MemAt.ent 0 rfl (Seg.left (Seg.left (Seg.left (Seg.whole _))))))) rfl ?_
  refine JL_val (.agg (cu8 (zr8 16)).toArray) (Ev_build [] _ rfl (fun _ => by kernel_rfl)) rfl ?_
  refine JL_val (.bool (!(decide ((mid (macL (zr8 16) ([101, 110, 116, 114, 117, 115, 116, 32, 115, 101, 97, 108] : List UInt8)) 0 16) = (zr8 16))))) (Ev_bin _ _ _ rfl rfl (fun _ => eqGuard_agg _ _ _ _ _ _ (by kernel_rfl)) fun _ => neq_arr8 Tryd.underlying55 Tryd.underlying5 Tryd.isAgg5 Tryd.cells5 Tryd.has5 (by simp [(midmac_len _ _)]) (by simp [(zr8_len 16)])) rfl ?_
  refine JL_val _ (Ev_move rfl) rfl ?_
  refine JL_gval 4 8 true _ (Ptr nb1 16) rfl rfl (by rw [show (decide ((mid (macL (zr8 16) ([101, 110, 116, 114, 117, 115, 116, 32, 115, 101, 97, 108] : List UInt8)) 0 16) = (zr8 16))) = false from (decide_eq_false (alive6_1))]; rfl) (Ev_fieldAddr 16 25 32 Tryd.underlying61 rfl Tryd.sizeOf25 rfl rfl) rfl ?_
  refine JL_gval 4 8 true _ (.agg (cu8 (macL (zr8 16) ([101, 110, 116, 114, 117, 115, 116, 32, 116, 97, 103] : List UInt8))).toArray) rfl rfl (by rw [show (decide ((mid (macL (zr8 16) ([101, 110, 116, 114, 117, 115, 116, 32, 115, 101, 97, 108] : List UInt8)) 0 16) = (zr8 16))) = false from (decide_eq_false (alive6_1))]; rfl) (Ev_load rfl (Ld_agg Tryd.isAgg25 Tryd.sizeOf25 (len_cu8 (macL_len _ _)) (MemAt.ent 0 rfl (Seg.left (Seg.left (Seg.right 16 0 (by simp [(midmac_len _ _)]) rfl (Seg.whole _))))))) rfl ?_
  refine JL_gval 4 8 true _ (Ptr nb1 48) rfl rfl (by rw [show (decide ((mid (macL (zr8 16) ([101, 110, 116, 114, 117, 115, 116, 32, 115, 101, 97, 108] : List UInt8)) 0 16) = (zr8 16))) = false from (decide_eq_false (alive6_1))]; rfl) (Ev_fieldAddr 48 25 32 Tryd.underlying61 rfl Tryd.sizeOf25 rfl rfl) rfl ?_
  refine JL_gval 4 8 true _ (.agg (cu8 (macL (zr8 16) ([101, 110, 116, 114, 117, 115, 116, 32, 116, 105, 99, 107, 101, 116] : List UInt8))).toArray) rfl rfl (by rw [show (decide ((mid (macL (zr8 16) ([101, 110, 116, 114, 117, 115, 116, 32, 115, 101, 97, 108] : List UInt8)) 0 16) = (zr8 16))) = false from (decide_eq_false (alive6_1))]; rfl) (Ev_load rfl (Ld_agg Tryd.isAgg25 Tryd.sizeOf25 (len_cu8 (macL_len _ _)) (MemAt.ent 0 rfl (Seg.left (Seg.right 48 0 (by simp [(midmac_len _ _), (macL_len _ _)]) rfl (Seg.whole _)))))) rfl ?_
  refine JL_gval 4 8 true _ (.bool (!(decide ((macL (zr8 16) ([101, 110, 116, 114, 117, 115, 116, 32, 116, 97, 103] : List UInt8)) = (macL (zr8 16) ([101, 110, 116, 114, 117, 115, 116, 32, 116, 105, 99, 107, 101, 116] : List UInt8)))))) rfl rfl (by rw [show (decide ((mid (macL (zr8 16) ([101, 110, 116, 114, 117, 115, 116, 32, 115, 101, 97, 108] : List UInt8)) 0 16) = (zr8 16))) = false from (decide_eq_false (alive6_1))]; rfl) (Ev_bin _ _ _ rfl rfl (fun _ => eqGuard_agg _ _ _ _ _ _ (by kernel_rfl)) fun _ => neq_arr8 Tryd.underlying25 Tryd.underlying5 Tryd.isAgg5 Tryd.cells5 Tryd.has5 (by simp [(macL_len _ _)]) (by simp [(macL_len _ _)])) rfl ?_
  refine JL_val _ (Ev_pickT _ rfl (by rw [show (decide ((mid (macL (zr8 16) ([101, 110, 116, 114, 117, 115, 116, 32, 115, 101, 97, 108] : List UInt8)) 0 16) = (zr8 16))) = false from (decide_eq_false (alive6_1))]; rfl) rfl) rfl ?_
  refine JL_val _ (Ev_move rfl) rfl ?_
  refine JL_gval 11 15 true _ (Ptr nb1 48) rfl rfl (by rw [show (decide ((macL (zr8 16) ([101, 110, 116, 114, 117, 115, 116, 32, 116, 97, 103] : List UInt8)) = (macL (zr8 16) ([101, 110, 116, 114, 117, 115, 116, 32, 116, 105, 99, 107, 101, 116] : List UInt8)))) = false from (decide_eq_false (alive6_2))]; rfl) (Ev_fieldAddr 48 25 32 Tryd.underlying61 rfl Tryd.sizeOf25 rfl rfl) rfl ?_
  refine JL_gval 11 15 true _ (.agg (cu8 (macL (zr8 16) ([101, 110, 116, 114, 117, 115, 116, 32, 116, 105, 99, 107, 101, 116] : List UInt8))).toArray) rfl rfl (by rw [show (decide ((macL (zr8 16) ([101, 110, 116, 114, 117, 115, 116, 32, 116, 97, 103] : List UInt8)) = (macL (zr8 16) ([101, 110, 116, 114, 117, 115, 116, 32, 116, 105, 99, 107, 101, 116] : List UInt8)))) = false from (decide_eq_false (alive6_2))]; rfl) (Ev_load rfl (Ld_agg Tryd.isAgg25 Tryd.sizeOf25 (len_cu8 (macL_len _ _)) (MemAt.ent 0 rfl (Seg.left (Seg.right 48 0 (by simp [(midmac_len _ _), (macL_len _ _)]) rfl (Seg.whole _)))))) rfl ?_
  refine JL_gval 11 15 true _ (Ptr nb1 80) rfl rfl (by rw [show (decide ((macL (zr8 16) ([101, 110, 116, 114, 117, 115, 116, 32, 116, 97, 103] : List UInt8)) = (macL (zr8 16) ([101, 110, 116, 114, 117, 115, 116, 32, 116, 105, 99, 107, 101, 116] : List UInt8)))) = false from (decide_eq_false (alive6_2))]; rfl) (Ev_fieldAddr 80 25 32 Tryd.underlying61 rfl Tryd.sizeOf25 rfl rfl) rfl ?_
  refine JL_gval 11 15 true _ (.agg (cu8 (macL (zr8 16) ([101, 110, 116, 114, 117, 115, 116, 32, 108, 105, 110, 107] : List UInt8))).toArray) rfl rfl (by rw [show (decide ((macL (zr8 16) ([101, 110, 116, 114, 117, 115, 116, 32, 116, 97, 103] : List UInt8)) = (macL (zr8 16) ([101, 110, 116, 114, 117, 115, 116, 32, 116, 105, 99, 107, 101, 116] : List UInt8)))) = false from (decide_eq_false (alive6_2))]; rfl) (Ev_load rfl (Ld_agg Tryd.isAgg25 Tryd.sizeOf25 (len_cu8 (macL_len _ _)) (MemAt.ent 0 rfl (Seg.right 80 0 (by simp [(midmac_len _ _), (macL_len _ _), (macL_len _ _)]) rfl (Seg.whole _))))) rfl ?_
  refine JL_gval 11 15 true _ (.bool (!(decide ((macL (zr8 16) ([101, 110, 116, 114, 117, 115, 116, 32, 116, 105, 99, 107, 101, 116] : List UInt8)) = (macL (zr8 16) ([101, 110, 116, 114, 117, 115, 116, 32, 108, 105, 110, 107] : List UInt8)))))) rfl rfl (by rw [show (decide ((macL (zr8 16) ([101, 110, 116, 114, 117, 115, 116, 32, 116, 97, 103] : List UInt8)) = (macL (zr8 16) ([101, 110, 116, 114, 117, 115, 116, 32, 116, 105, 99, 107, 101, 116] : List UInt8)))) = false from (decide_eq_false (alive6_2))]; rfl) (Ev_bin _ _ _ rfl rfl (fun _ => eqGuard_agg _ _ _ _ _ _ (by kernel_rfl)) fun _ => neq_arr8 Tryd.underlying25 Tryd.underlying5 Tryd.isAgg5 Tryd.cells5 Tryd.has5 (by simp [(macL_len _ _)]) (by simp [(macL_len _ _)])) rfl ?_
  refine JL_val _ (Ev_pickT _ rfl (by rw [show (decide ((macL (zr8 16) ([101, 110, 116, 114, 117, 115, 116, 32, 116, 97, 103] : List UInt8)) = (macL (zr8 16) ([101, 110, 116, 114, 117, 115, 116, 32, 116, 105, 99, 107, 101, 116] : List UInt8)))) = false from (decide_eq_false (alive6_2))]; rfl) rfl) rfl ?_
  refine JL_val _ (Ev_assign rfl) rfl ?_
  refine JL_nil ?_
  refine JQ_then ?_
  refine JC_ret ?_
  refine JQ_ret (.bool (!(decide ((macL (zr8 16) ([101, 110, 116, 114, 117, 115, 116, 32, 116, 105, 99, 107, 101, 116] : List UInt8)) = (macL (zr8 16) ([101, 110, 116, 114, 117, 115, 116, 32, 108, 105, 110, 107] : List UInt8)))))) (res1 Tryd.results43 (RV_tmp rfl)) fun w1 hw1 => ?_
  exact ⟨_, [], rfl, ⟨by rw [show (!(decide ((macL (zr8 16) ([101, 110, 116, 114, 117, 115, 116, 32, 116, 105, 99, 107, 101, 116] : List UInt8)) = (macL (zr8 16) ([101, 110, 116, 114, 117, 115, 116, 32, 108, 105, 110, 107] : List UInt8))))) = true from (by rw [show (decide ((macL (zr8 16) ([101, 110, 116, 114, 117, 115, 116, 32, 116, 105, 99, 107, 101, 116] : List UInt8)) = (macL (zr8 16) ([101, 110, 116, 114, 117, 115, 116, 32, 108, 105, 110, 107] : List UInt8)))) = false from (decide_eq_false (alive6_3))]; rfl)], rfl⟩, hw1.sub (by simp) (by simp)⟩

theorem keysLabelsB_c (k l h : List UInt8) (w : World) (hk : k.length = 16) (hh : h.length = 32) (hG : GLs w) (hGr : GLr w) (hGi : GLi w) (hn : 500 < l.length) : Calls Tryd.prog 11 #[.agg (cu8 k).toArray, .string (⟨l.toArray⟩ : ByteArray), .agg (cu8 h).toArray] w (Post w [] (fun v L => v = .bool true ∧ L = [])) := by
  refine enter w [] 32 [] [.agg (cu8 k).toArray, .string (⟨l.toArray⟩ : ByteArray), .agg (cu8 h).toArray] Tryd.func11 rfl rfl (by simp) (Hp.start (by simp) (by simp) (by simp)) ?_
  show JC _ _ _ [(0, .agg (cu8 k).toArray), (1, .string (⟨l.toArray⟩ : ByteArray)), (2, .agg (cu8 h).toArray)] _
  refine JC_seq ?_
  refine JC_region ?_
  refine JL_step (Step_box (.agg (cu8 k).toArray) (cu8 k) rfl (by first | rfl | simp)) rfl ?_
  rintro v1 L1 ⟨nb1, hnb1, rfl, rfl⟩
  show JL _ _ _ _ ((3, Ptr nb1 0) :: _) [⟨nb1, cu8 k, 55, (0, 0)⟩]
  refine JL_step (Step_box (.agg (cu8 h).toArray) (cu8 h) rfl (by first | rfl | simp)) rfl ?_
  rintro v1 L1 ⟨nb2, hnb2, rfl, rfl⟩
  show JL _ _ _ _ ((5, Ptr nb2 0) :: _) [⟨nb1, cu8 k, 55, (0, 0)⟩, ⟨nb2, cu8 h, 25, (0, 0)⟩]
  refine JL_val _ (Ev_assign rfl) rfl ?_
  refine JL_nil ?_
  refine JQ_then ?_
  refine JC_seq ?_
  refine JC_seq ?_
  refine JC_region ?_
  refine JL_step (Step_callP 43 [] (.bool true) (Cl_func [] Tryd.call43 rfl) (fun w1 hw1 => alive6_c  w1 (hG.at hw1))) rfl ?_
  rintro v1 L1 ⟨rfl, rfl⟩
  show JL _ _ _ _ ((7, .bool true) :: _) [⟨nb1, cu8 k, 55, (0, 0)⟩, ⟨nb2, cu8 h, 25, (0, 0)⟩]
  refine JL_val (.bool (!true)) (Ev_not rfl) rfl ?_
  refine JL_nil ?_
  refine JQ_then ?_
  refine JC_condF _ rfl rfl ?_
  refine JC_skip ?_
  refine JQ_then ?_
  refine JC_seq ?_
  refine JC_seq ?_
  refine JC_region ?_
  refine JL_val _ (Ev_move rfl) rfl ?_
  refine JL_val (I64 ((l.length:Int))) (Ev_lenStrL Tryd.underlying9 rfl) rfl ?_
  refine JL_val (.bool (decide ((500:Int) < ((l.length:Int))))) (Ev_bini rfl rfl fun _ => bin_gtr_i _ _) rfl ?_
  refine JL_nil ?_
  refine JQ_then ?_
  refine JC_condT _ rfl (decide_eq_true (by omega)) ?_
  refine JC_seq ?_
  refine JC_region ?_
  refine JL_val _ (Ev_assign rfl) rfl ?_
  refine JL_nil ?_
  refine JQ_then ?_
  refine JC_ret ?_
  refine JQ_then_ret ?_
  refine JQ_ret (.bool true) (res1 Tryd.results11 (RV_tmp rfl)) fun w1 hw1 => ?_
  exact ⟨_, [], rfl, ⟨by rw [show (true) = true from rfl], rfl⟩, hw1.sub (by simp) (by simp)⟩

theorem keysLabelsI_c (k l h : List UInt8) (w : World) (hk : k.length = 16) (hh : h.length = 32) (hG : GLs w) (hGr : GLr w) (hGi : GLi w) (hn : l.length ≤ 500) : Calls Tryd.prog 11 #[.agg (cu8 k).toArray, .string (⟨l.toArray⟩ : ByteArray), .agg (cu8 h).toArray] w (Post w [] (fun v L => v = .bool true ∧ L = [])) := by
  refine enter w [] 32 [] [.agg (cu8 k).toArray, .string (⟨l.toArray⟩ : ByteArray), .agg (cu8 h).toArray] Tryd.func11 rfl rfl (by simp) (Hp.start (by simp) (by simp) (by simp)) ?_
  show JC _ _ _ [(0, .agg (cu8 k).toArray), (1, .string (⟨l.toArray⟩ : ByteArray)), (2, .agg (cu8 h).toArray)] _
  refine JC_seq ?_
  refine JC_region ?_
  refine JL_step (Step_box (.agg (cu8 k).toArray) (cu8 k) rfl (by first | rfl | simp)) rfl ?_
  rintro v1 L1 ⟨nb1, hnb1, rfl, rfl⟩
  show JL _ _ _ _ ((3, Ptr nb1 0) :: _) [⟨nb1, cu8 k, 55, (0, 0)⟩]
  refine JL_step (Step_box (.agg (cu8 h).toArray) (cu8 h) rfl (by first | rfl | simp)) rfl ?_
  rintro v1 L1 ⟨nb2, hnb2, rfl, rfl⟩
  show JL _ _ _ _ ((5, Ptr nb2 0) :: _) [⟨nb1, cu8 k, 55, (0, 0)⟩, ⟨nb2, cu8 h, 25, (0, 0)⟩]
  refine JL_val _ (Ev_assign rfl) rfl ?_
  refine JL_nil ?_
  refine JQ_then ?_
  refine JC_seq ?_
  refine JC_seq ?_
  refine JC_region ?_
  refine JL_step (Step_callP 43 [] (.bool true) (Cl_func [] Tryd.call43 rfl) (fun w1 hw1 => alive6_c  w1 (hG.at hw1))) rfl ?_
  rintro v1 L1 ⟨rfl, rfl⟩
  show JL _ _ _ _ ((7, .bool true) :: _) [⟨nb1, cu8 k, 55, (0, 0)⟩, ⟨nb2, cu8 h, 25, (0, 0)⟩]
  refine JL_val (.bool (!true)) (Ev_not rfl) rfl ?_
  refine JL_nil ?_
  refine JQ_then ?_
  refine JC_condF _ rfl rfl ?_
  refine JC_skip ?_
  refine JQ_then ?_
  refine JC_seq ?_
  refine JC_seq ?_
  refine JC_region ?_
  refine JL_val _ (Ev_move rfl) rfl ?_
  refine JL_val (I64 ((l.length:Int))) (Ev_lenStrL Tryd.underlying9 rfl) rfl ?_
  refine JL_val (.bool (decide ((500:Int) < ((l.length:Int))))) (Ev_bini rfl rfl fun _ => bin_gtr_i _ _) rfl ?_
  refine JL_nil ?_
  refine JQ_then ?_
  refine JC_condF _ rfl (decide_eq_false (by omega)) ?_
  refine JC_skip ?_
  refine JQ_then ?_
  refine JC_seq ?_
  refine JC_draw 32 5 [(0, .agg (cu8 k).toArray), (1, .string (⟨l.toArray⟩ : ByteArray)), (3, .agg (cu8 k).toArray), (4, .string (⟨l.toArray⟩ : ByteArray))] Tryd.mixed rfl (by decide +kernel) ?_
  refine DP_one ⟨[], [0, 1, 3, 4], [], [0, 1, 3, 4], [2]⟩ 2 _ rfl rfl (by decide +kernel) rfl ⟨⟨_, rfl, Qok_val rfl (Ev_load rfl (Ld_agg Tryd.isAgg55 Tryd.sizeOf55 (len_cu8 hk) (MemAt.ent 0 rfl (Seg.whole _))))⟩, ⟨_, rfl, Qok_val rfl (Ev_move rfl)⟩, ⟨_, rfl, Qok_val rfl (Ev_load rfl (Ld_agg Tryd.isAgg55 Tryd.sizeOf55 (len_cu8 hk) (MemAt.ent 0 rfl (Seg.whole _))))⟩, ⟨_, rfl, Qok_val rfl (Ev_move rfl)⟩, trivial⟩ rfl (Cok_step rfl (Step_callP 44 [.agg (cu8 k).toArray, .string (⟨l.toArray⟩ : ByteArray)] (.agg (cu8 (macL k l)).toArray) (Cl_func [.agg (cu8 k).toArray, .string (⟨l.toArray⟩ : ByteArray)] Tryd.call44 rfl) (fun w1 hw1 => label_c k l w1 hk (by first | omega | (simp; done)) (hG.at hw1)))) ?_
  rintro v1 L1 ⟨rfl, rfl⟩
  refine ⟨[], ?_⟩
  show DP _ _ _ _ _ _ _ _ [⟨nb1, cu8 k, 55, (0, 0)⟩, ⟨nb2, cu8 h, 25, (0, 0)⟩]
  refine DP_one ⟨[2], [0, 1, 3, 4], [0, 1], [3, 4], [5]⟩ 5 _ rfl rfl (by decide +kernel) rfl ⟨⟨_, rfl, Qok_val rfl (Ev_load rfl (Ld_agg Tryd.isAgg55 Tryd.sizeOf55 (len_cu8 hk) (MemAt.ent 0 rfl (Seg.whole _))))⟩, ⟨_, rfl, Qok_val rfl (Ev_move rfl)⟩, trivial⟩ rfl (Cok_step rfl (Step_callP 45 [.agg (cu8 k).toArray, .string (⟨l.toArray⟩ : ByteArray)] (.agg (cu8 (macL k l)).toArray) (Cl_func [.agg (cu8 k).toArray, .string (⟨l.toArray⟩ : ByteArray)] Tryd.call45 rfl) (fun w1 hw1 => rlabel_c k l w1 hk (by first | omega | (simp; done)) (GLr.at hw1 hGr) (GLi.at hw1 hGi)))) ?_
  rintro v1 L1 ⟨rfl, rfl⟩
  refine ⟨[(6, .bool (decide ((macL k l) = (macL k l)))), (7, .bool (decide ((macL k l) = (macL k l)))), (8, .agg (cu8 h).toArray), (9, .string (⟨l.toArray⟩ : ByteArray)), (10, I64 ((l.length:Int))), (11, U64 (UInt64.ofNat l.length)), (13, .agg (cu8 h).toArray), (14, .string (⟨l.toArray⟩ : ByteArray)), (15, I64 ((l.length:Int))), (16, U64 (UInt64.ofNat l.length))], ?_⟩
  show DP _ _ _ _ _ _ _ _ [⟨nb1, cu8 k, 55, (0, 0)⟩, ⟨nb2, cu8 h, 25, (0, 0)⟩]
  refine DP_one ⟨[2, 5], [0, 1, 3, 4, 6, 7, 8, 9, 10, 11, 13, 14, 15, 16], [0, 1, 3, 4], [6, 7, 8, 9, 10, 11, 13, 14, 15, 16], [12]⟩ 12 _ rfl rfl (by decide +kernel) rfl ⟨⟨_, rfl, Qok_val rfl (Ev_bin _ _ _ rfl rfl (fun _ => eqGuard_agg _ _ _ _ _ _ (by kernel_rfl)) fun _ => eql_arr8 Tryd.underlying25 Tryd.underlying5 Tryd.isAgg5 Tryd.cells5 Tryd.has5 (by simp [(macL_len _ _)]) (by simp [(macL_len _ _)]))⟩, ⟨_, rfl, Qok_val rfl (Ev_move rfl)⟩, ⟨_, rfl, Qok_gval 7 19 true _ rfl rfl rfl (decide_eq_true rfl) (Ev_load rfl (Ld_agg Tryd.isAgg25 Tryd.sizeOf25 (len_cu8 hh) (MemAt.ent 1 rfl (Seg.whole _))))⟩, ⟨_, rfl, Qok_gval 7 19 true _ rfl rfl rfl (decide_eq_true rfl) (Ev_move rfl)⟩, ⟨_, rfl, Qok_gval 7 19 true _ rfl rfl rfl (decide_eq_true rfl) (Ev_lenStrL Tryd.underlying9 rfl)⟩, ⟨_, rfl, Qok_gval 7 19 true _ rfl rfl rfl (decide_eq_true rfl) (Ev_conv _ _ rfl fun _ => conv_i64_u64 (by rw [Tryd.underlying3]; rfl) Tryd.underlying58 l.length _ (by omega))⟩, ⟨_, rfl, Qok_gval 7 19 true _ rfl rfl rfl (decide_eq_true rfl) (Ev_load rfl (Ld_agg Tryd.isAgg25 Tryd.sizeOf25 (len_cu8 hh) (MemAt.ent 1 rfl (Seg.whole _))))⟩, ⟨_, rfl, Qok_gval 7 19 true _ rfl rfl rfl (decide_eq_true rfl) (Ev_move rfl)⟩, ⟨_, rfl, Qok_gval 7 19 true _ rfl rfl rfl (decide_eq_true rfl) (Ev_lenStrL Tryd.underlying9 rfl)⟩, ⟨_, rfl, Qok_gval 7 19 true _ rfl rfl rfl (decide_eq_true rfl) (Ev_conv _ _ rfl fun _ => conv_i64_u64 (by rw [Tryd.underlying3]; rfl) Tryd.underlying58 l.length _ (by omega))⟩, trivial⟩ rfl (Cok_gstep 7 19 true _ rfl rfl rfl (decide_eq_true rfl) (Step_callP 46 [.agg (cu8 h).toArray, U64 (UInt64.ofNat l.length)] (.agg (cu8 (macL h (numN 8 (UInt64.ofNat l.length) 8))).toArray) (Cl_func [.agg (cu8 h).toArray, U64 (UInt64.ofNat l.length)] Tryd.call46 rfl) (fun w1 hw1 => session_c h (UInt64.ofNat l.length) w1 hh (hG.at hw1)))) ?_
  rintro v1 L1 ⟨rfl, rfl⟩
  refine ⟨[], ?_⟩
  show DP _ _ _ _ _ _ _ _ [⟨nb1, cu8 k, 55, (0, 0)⟩, ⟨nb2, cu8 h, 25, (0, 0)⟩]
  refine DP_one ⟨[2, 5, 12], [0, 1, 3, 4, 6, 7, 8, 9, 10, 11, 13, 14, 15, 16], [0, 1, 3, 4, 6, 7, 8, 9, 10, 11], [13, 14, 15, 16], [17]⟩ 17 _ rfl rfl (by decide +kernel) rfl ⟨⟨_, rfl, Qok_gval 7 19 true _ rfl rfl rfl (decide_eq_true rfl) (Ev_load rfl (Ld_agg Tryd.isAgg25 Tryd.sizeOf25 (len_cu8 hh) (MemAt.ent 1 rfl (Seg.whole _))))⟩, ⟨_, rfl, Qok_gval 7 19 true _ rfl rfl rfl (decide_eq_true rfl) (Ev_move rfl)⟩, ⟨_, rfl, Qok_gval 7 19 true _ rfl rfl rfl (decide_eq_true rfl) (Ev_lenStrL Tryd.underlying9 rfl)⟩, ⟨_, rfl, Qok_gval 7 19 true _ rfl rfl rfl (decide_eq_true rfl) (Ev_conv _ _ rfl fun _ => conv_i64_u64 (by rw [Tryd.underlying3]; rfl) Tryd.underlying58 l.length _ (by omega))⟩, trivial⟩ rfl (Cok_gstep 7 19 true _ rfl rfl rfl (decide_eq_true rfl) (Step_callP 47 [.agg (cu8 h).toArray, U64 (UInt64.ofNat l.length)] (.agg (cu8 (macL h (numN 8 (UInt64.ofNat l.length) 8))).toArray) (Cl_func [.agg (cu8 h).toArray, U64 (UInt64.ofNat l.length)] Tryd.call47 rfl) (fun w1 hw1 => rsession_c h (UInt64.ofNat l.length) w1 hh (GLr.at hw1 hGr) (GLi.at hw1 hGi)))) ?_
  rintro v1 L1 ⟨rfl, rfl⟩
  refine ⟨[(18, .bool (decide ((macL h (numN 8 (UInt64.ofNat l.length) 8)) = (macL h (numN 8 (UInt64.ofNat l.length) 8))))), (19, .bool (decide ((macL h (numN 8 (UInt64.ofNat l.length) 8)) = (macL h (numN 8 (UInt64.ofNat l.length) 8))))), (20, .bool (decide ((macL h (numN 8 (UInt64.ofNat l.length) 8)) = (macL h (numN 8 (UInt64.ofNat l.length) 8)))))], ?_⟩
  show DP _ _ _ _ _ _ _ _ [⟨nb1, cu8 k, 55, (0, 0)⟩, ⟨nb2, cu8 h, 25, (0, 0)⟩]
  refine DP_end ⟨[2, 5, 12, 17], [0, 1, 3, 4, 6, 7, 8, 9, 10, 11, 13, 14, 15, 16, 18, 19, 20], [0, 1, 3, 4, 6, 7, 8, 9, 10, 11, 13, 14, 15, 16], [18, 19, 20], []⟩ rfl rfl (by decide +kernel) rfl ⟨⟨_, rfl, Qok_gval 7 19 true _ rfl rfl rfl (decide_eq_true rfl) (Ev_bin _ _ _ rfl rfl (fun _ => eqGuard_agg _ _ _ _ _ _ (by kernel_rfl)) fun _ => eql_arr8 Tryd.underlying25 Tryd.underlying5 Tryd.isAgg5 Tryd.cells5 Tryd.has5 (by simp [(macL_len _ _)]) (by simp [(macL_len _ _)]))⟩, ⟨_, rfl, Qok_val rfl (Ev_pickT _ rfl (decide_eq_true rfl) rfl)⟩, ⟨_, rfl, Qok_val rfl (Ev_assign rfl)⟩, trivial⟩ ?_
  refine K_sub (F' := [(6, .bool (decide ((macL h (numN 8 (UInt64.ofNat l.length) 8)) = (macL h (numN 8 (UInt64.ofNat l.length) 8)))))]) (Sub.cons (by kernel_rfl) (Sub.nil)) ?_
  show JQ _ _ _ [(6, .bool (decide ((macL h (numN 8 (UInt64.ofNat l.length) 8)) = (macL h (numN 8 (UInt64.ofNat l.length) 8)))))] _
  refine JQ_then ?_
  refine JC_ret ?_
  refine JQ_ret (.bool (decide ((macL h (numN 8 (UInt64.ofNat l.length) 8)) = (macL h (numN 8 (UInt64.ofNat l.length) 8))))) (res1 Tryd.results11 (RV_tmp rfl)) fun w1 hw1 => ?_
  exact ⟨_, [], rfl, ⟨by rw [show (decide ((macL h (numN 8 (UInt64.ofNat l.length) 8)) = (macL h (numN 8 (UInt64.ofNat l.length) 8)))) = true from (decide_eq_true rfl)], rfl⟩, hw1.sub (by simp) (by simp)⟩

theorem keysLabels_w (k : List UInt8) (s : ByteArray) (h : List UInt8) (w : World) (hk : k.length = 16) (hs0 : s.size ≤ maxLen) (hh : h.length = 32) (hG : GLs w) (hGr : GLr w) (hGi : GLi w) : Calls Tryd.prog 11 #[.agg (cu8 k).toArray, .string s, .agg (cu8 h).toArray] w (Post w [] (fun v L => v = .bool true ∧ L = [])) := by
  obtain ⟨l, rfl⟩ : ∃ l : List UInt8, s = ⟨l.toArray⟩ := ⟨s.data.toList, by cases s; simp⟩
  by_cases hn : l.length ≤ 500
  · exact keysLabelsI_c k l h w hk hh hG hGr hGi hn
  · exact keysLabelsB_c k l h w hk hh hG hGr hGi (by omega)

theorem keysOfLaw_w (k : List UInt8) (x : UInt64) (w : World) (hk : k.length = 16) (hG : GLs w) (hGr : GLr w) (hGi : GLi w) : Calls Tryd.prog 12 #[.agg (cu8 k).toArray, U64 x] w (Post w [] (fun v L => v = .bool true ∧ L = [])) := by
  refine enter w [] 56 [] [.agg (cu8 k).toArray, U64 x] Tryd.func12 rfl rfl (by simp) (Hp.start (by simp) (by simp) (by simp)) ?_
  show JC _ _ _ [(0, .agg (cu8 k).toArray), (1, U64 x)] _
  refine JC_seq ?_
  refine JC_region ?_
  refine JL_step (Step_box (.agg (cu8 k).toArray) (cu8 k) rfl (by first | rfl | simp)) rfl ?_
  rintro v1 L1 ⟨nb1, hnb1, rfl, rfl⟩
  show JL _ _ _ _ ((2, Ptr nb1 0) :: _) [⟨nb1, cu8 k, 55, (0, 0)⟩]
  refine JL_val _ (Ev_assign rfl) rfl ?_
  refine JL_nil ?_
  refine JQ_then ?_
  refine JC_seq ?_
  refine JC_seq ?_
  refine JC_region ?_
  refine JL_step (Step_callP 43 [] (.bool true) (Cl_func [] Tryd.call43 rfl) (fun w1 hw1 => alive6_c  w1 (hG.at hw1))) rfl ?_
  rintro v1 L1 ⟨rfl, rfl⟩
  show JL _ _ _ _ ((7, .bool true) :: _) [⟨nb1, cu8 k, 55, (0, 0)⟩]
  refine JL_val (.bool (!true)) (Ev_not rfl) rfl ?_
  refine JL_nil ?_
  refine JQ_then ?_
  refine JC_condF _ rfl rfl ?_
  refine JC_skip ?_
  refine JQ_then ?_
  refine JC_seq ?_
  refine JC_region ?_
  refine JL_val (.agg (cu8 k).toArray) (Ev_load rfl (Ld_agg Tryd.isAgg55 Tryd.sizeOf55 (len_cu8 hk) (MemAt.ent 0 rfl (Seg.whole _)))) rfl ?_
  refine JL_step (Step_callP 48 [.agg (cu8 k).toArray] (.agg (cu8 (mid (macL k ([101, 110, 116, 114, 117, 115, 116, 32, 115, 101, 97, 108] : List UInt8)) 0 16) ++ cu8 (macL k ([101, 110, 116, 114, 117, 115, 116, 32, 116, 97, 103] : List UInt8)) ++ cu8 (macL k ([101, 110, 116, 114, 117, 115, 116, 32, 116, 105, 99, 107, 101, 116] : List UInt8)) ++ cu8 (macL k ([101, 110, 116, 114, 117, 115, 116, 32, 108, 105, 110, 107] : List UInt8))).toArray) (Cl_func [.agg (cu8 k).toArray] Tryd.call48 rfl) (fun w1 hw1 => keysOf_c k w1 hk (hG.at hw1))) rfl ?_
  rintro v1 L1 ⟨rfl, rfl⟩
  show JL _ _ _ _ ((10, .agg (cu8 (mid (macL k ([101, 110, 116, 114, 117, 115, 116, 32, 115, 101, 97, 108] : List UInt8)) 0 16) ++ cu8 (macL k ([101, 110, 116, 114, 117, 115, 116, 32, 116, 97, 103] : List UInt8)) ++ cu8 (macL k ([101, 110, 116, 114, 117, 115, 116, 32, 116, 105, 99, 107, 101, 116] : List UInt8)) ++ cu8 (macL k ([101, 110, 116, 114, 117, 115, 116, 32, 108, 105, 110, 107] : List UInt8))).toArray) :: _) [⟨nb1, cu8 k, 55, (0, 0)⟩]
  refine JL_step (Step_alloc _ (cu8 (zr8 16) ++ cu8 (zr8 32) ++ cu8 (zr8 32) ++ cu8 (zr8 32)) Tryd.zeroValue61 (by kernel_rfl)) rfl ?_
  rintro v1 L1 ⟨nb2, hnb2, rfl, rfl⟩
  show JL _ _ _ _ ((5, Ptr nb2 0) :: _) [⟨nb1, cu8 k, 55, (0, 0)⟩, ⟨nb2, cu8 (zr8 16) ++ cu8 (zr8 32) ++ cu8 (zr8 32) ++ cu8 (zr8 32), 61, (0, 0)⟩]
  refine JL_step (Step_store 1 nb2 0 112 (cu8 (zr8 16) ++ cu8 (zr8 32) ++ cu8 (zr8 32) ++ cu8 (zr8 32)) 61 (.agg (cu8 (mid (macL k ([101, 110, 116, 114, 117, 115, 116, 32, 115, 101, 97, 108] : List UInt8)) 0 16) ++ cu8 (macL k ([101, 110, 116, 114, 117, 115, 116, 32, 116, 97, 103] : List UInt8)) ++ cu8 (macL k ([101, 110, 116, 114, 117, 115, 116, 32, 116, 105, 99, 107, 101, 116] : List UInt8)) ++ cu8 (macL k ([101, 110, 116, 114, 117, 115, 116, 32, 108, 105, 110, 107] : List UInt8))).toArray) (cu8 (mid (macL k ([101, 110, 116, 114, 117, 115, 116, 32, 115, 101, 97, 108] : List UInt8)) 0 16) ++ cu8 (macL k ([101, 110, 116, 114, 117, 115, 116, 32, 116, 97, 103] : List UInt8)) ++ cu8 (macL k ([101, 110, 116, 114, 117, 115, 116, 32, 116, 105, 99, 107, 101, 116] : List UInt8)) ++ cu8 (macL k ([101, 110, 116, 114, 117, 115, 116, 32, 108, 105, 110, 107] : List UInt8))) (cu8 (mid (macL k ([101, 110, 116, 114, 117, 115, 116, 32, 115, 101, 97, 108] : List UInt8)) 0 16) ++ cu8 (macL k ([101, 110, 116, 114, 117, 115, 116, 32, 116, 97, 103] : List UInt8)) ++ cu8 (macL k ([101, 110, 116, 114, 117, 115, 116, 32, 116, 105, 99, 107, 101, 116] : List UInt8)) ++ cu8 (macL k ([101, 110, 116, 114, 117, 115, 116, 32, 108, 105, 110, 107] : List UInt8))) rfl rfl rfl (by first | rfl | simp) Tryd.sizeOf61 (by simp [(midmac_len _ _), (macL_len _ _), (macL_len _ _), (macL_len _ _)]) (by simp only [← cu8_app]; exact one_u8) (by simp [(zr8_len 16), (zr8_len 32), (zr8_len 32), (zr8_len 32)]) (lay_whole (by simp [(zr8_len 16), (zr8_len 32), (zr8_len 32), (zr8_len 32), (midmac_len _ _), (macL_len _ _), (macL_len _ _), (macL_len _ _)]))) rfl ?_
  rintro v1 L1 ⟨rfl, rfl⟩
  show JL _ _ _ _ _ [⟨nb1, cu8 k, 55, (0, 0)⟩, ⟨nb2, cu8 (mid (macL k ([101, 110, 116, 114, 117, 115, 116, 32, 115, 101, 97, 108] : List UInt8)) 0 16) ++ cu8 (macL k ([101, 110, 116, 114, 117, 115, 116, 32, 116, 97, 103] : List UInt8)) ++ cu8 (macL k ([101, 110, 116, 114, 117, 115, 116, 32, 116, 105, 99, 107, 101, 116] : List UInt8)) ++ cu8 (macL k ([101, 110, 116, 114, 117, 115, 116, 32, 108, 105, 110, 107] : List UInt8)), 61, (0, 0)⟩]
  refine JL_nil ?_
  refine JQ_then ?_
  refine JC_seq ?_
  refine JC_region ?_
  refine JL_val (.agg (cu8 k).toArray) (Ev_load rfl (Ld_agg Tryd.isAgg55 Tryd.sizeOf55 (len_cu8 hk) (MemAt.ent 0 rfl (Seg.whole _)))) rfl ?_
  refine JL_step (Step_callP 49 [.agg (cu8 k).toArray] (.agg (cu8 (macL k ([101, 110, 116, 114, 117, 115, 116, 32, 108, 105, 110, 107] : List UInt8))).toArray) (Cl_func [.agg (cu8 k).toArray] Tryd.call49 rfl) (fun w1 hw1 => rlink_c k w1 hk (GLr.at hw1 hGr) (GLi.at hw1 hGi))) rfl ?_
  rintro v1 L1 ⟨rfl, rfl⟩
  show JL _ _ _ _ ((12, .agg (cu8 (macL k ([101, 110, 116, 114, 117, 115, 116, 32, 108, 105, 110, 107] : List UInt8))).toArray) :: _) [⟨nb1, cu8 k, 55, (0, 0)⟩, ⟨nb2, cu8 (mid (macL k ([101, 110, 116, 114, 117, 115, 116, 32, 115, 101, 97, 108] : List UInt8)) 0 16) ++ cu8 (macL k ([101, 110, 116, 114, 117, 115, 116, 32, 116, 97, 103] : List UInt8)) ++ cu8 (macL k ([101, 110, 116, 114, 117, 115, 116, 32, 116, 105, 99, 107, 101, 116] : List UInt8)) ++ cu8 (macL k ([101, 110, 116, 114, 117, 115, 116, 32, 108, 105, 110, 107] : List UInt8)), 61, (0, 0)⟩]
  refine JL_val _ (Ev_move rfl) rfl ?_
  refine JL_step (Step_callP 47 [.agg (cu8 (macL k ([101, 110, 116, 114, 117, 115, 116, 32, 108, 105, 110, 107] : List UInt8))).toArray, U64 x] (.agg (cu8 (macL (macL k ([101, 110, 116, 114, 117, 115, 116, 32, 108, 105, 110, 107] : List UInt8)) (numN 8 x 8))).toArray) (Cl_func [.agg (cu8 (macL k ([101, 110, 116, 114, 117, 115, 116, 32, 108, 105, 110, 107] : List UInt8))).toArray, U64 x] Tryd.call47 rfl) (fun w1 hw1 => rsession_c (macL k ([101, 110, 116, 114, 117, 115, 116, 32, 108, 105, 110, 107] : List UInt8)) x w1 (macL_len _ _) (GLr.at hw1 hGr) (GLi.at hw1 hGi))) rfl ?_
  rintro v1 L1 ⟨rfl, rfl⟩
  show JL _ _ _ _ ((14, .agg (cu8 (macL (macL k ([101, 110, 116, 114, 117, 115, 116, 32, 108, 105, 110, 107] : List UInt8)) (numN 8 x 8))).toArray) :: _) [⟨nb1, cu8 k, 55, (0, 0)⟩, ⟨nb2, cu8 (mid (macL k ([101, 110, 116, 114, 117, 115, 116, 32, 115, 101, 97, 108] : List UInt8)) 0 16) ++ cu8 (macL k ([101, 110, 116, 114, 117, 115, 116, 32, 116, 97, 103] : List UInt8)) ++ cu8 (macL k ([101, 110, 116, 114, 117, 115, 116, 32, 116, 105, 99, 107, 101, 116] : List UInt8)) ++ cu8 (macL k ([101, 110, 116, 114, 117, 115, 116, 32, 108, 105, 110, 107] : List UInt8)), 61, (0, 0)⟩]
  refine JL_step (Step_alloc _ (cu8 (zr8 32)) Tryd.zeroValue25 (by kernel_rfl)) rfl ?_
  rintro v1 L1 ⟨nb3, hnb3, rfl, rfl⟩
  show JL _ _ _ _ ((6, Ptr nb3 0) :: _) [⟨nb1, cu8 k, 55, (0, 0)⟩, ⟨nb2, cu8 (mid (macL k ([101, 110, 116, 114, 117, 115, 116, 32, 115, 101, 97, 108] : List UInt8)) 0 16) ++ cu8 (macL k ([101, 110, 116, 114, 117, 115, 116, 32, 116, 97, 103] : List UInt8)) ++ cu8 (macL k ([101, 110, 116, 114, 117, 115, 116, 32, 116, 105, 99, 107, 101, 116] : List UInt8)) ++ cu8 (macL k ([101, 110, 116, 114, 117, 115, 116, 32, 108, 105, 110, 107] : List UInt8)), 61, (0, 0)⟩, ⟨nb3, cu8 (zr8 32), 25, (0, 0)⟩]
  refine JL_step (Step_store 2 nb3 0 32 (cu8 (zr8 32)) 25 (.agg (cu8 (macL (macL k ([101, 110, 116, 114, 117, 115, 116, 32, 108, 105, 110, 107] : List UInt8)) (numN 8 x 8))).toArray) (cu8 (macL (macL k ([101, 110, 116, 114, 117, 115, 116, 32, 108, 105, 110, 107] : List UInt8)) (numN 8 x 8))) (cu8 (macL (macL k ([101, 110, 116, 114, 117, 115, 116, 32, 108, 105, 110, 107] : List UInt8)) (numN 8 x 8))) rfl rfl rfl (by first | rfl | simp) Tryd.sizeOf25 (len_cu8 (macL_len _ _)) (by first | exact one_u8 | exact one_u32 | exact one_u64 | (simp [cu8, cu32, cu64, Value.oneCell']; done)) (by simp [(zr8_len 32)]) (lay_whole (by simp [(zr8_len 32), (macL_len _ _)]))) rfl ?_
  rintro v1 L1 ⟨rfl, rfl⟩
  show JL _ _ _ _ _ [⟨nb1, cu8 k, 55, (0, 0)⟩, ⟨nb2, cu8 (mid (macL k ([101, 110, 116, 114, 117, 115, 116, 32, 115, 101, 97, 108] : List UInt8)) 0 16) ++ cu8 (macL k ([101, 110, 116, 114, 117, 115, 116, 32, 116, 97, 103] : List UInt8)) ++ cu8 (macL k ([101, 110, 116, 114, 117, 115, 116, 32, 116, 105, 99, 107, 101, 116] : List UInt8)) ++ cu8 (macL k ([101, 110, 116, 114, 117, 115, 116, 32, 108, 105, 110, 107] : List UInt8)), 61, (0, 0)⟩, ⟨nb3, cu8 (macL (macL k ([101, 110, 116, 114, 117, 115, 116, 32, 108, 105, 110, 107] : List UInt8)) (numN 8 x 8)), 25, (0, 0)⟩]
  refine JL_nil ?_
  refine JQ_then ?_
  refine JC_seq ?_
  refine JC_draw 56 7 [(0, Ptr nb2 0), (1, .agg (cu8 (mid (macL k ([101, 110, 116, 114, 117, 115, 116, 32, 115, 101, 97, 108] : List UInt8)) 0 16)).toArray), (2, .agg (cu8 k).toArray)] Tryd.mixed rfl (by decide +kernel) ?_
  refine DP_one ⟨[], [0, 1, 2], [], [0, 1, 2], [3]⟩ 3 _ rfl rfl (by decide +kernel) rfl ⟨⟨_, rfl, Qok_val rfl (Ev_fieldAddr 0 55 16 Tryd.underlying61 rfl Tryd.sizeOf55 rfl rfl)⟩, ⟨_, rfl, Qok_val rfl (Ev_load rfl (Ld_agg Tryd.isAgg55 Tryd.sizeOf55 (len_cu8 (midmac_len _ _)) (MemAt.ent 1 rfl (Seg.left (Seg.left (Seg.left (Seg.whole _)))))))⟩, ⟨_, rfl, Qok_val rfl (Ev_load rfl (Ld_agg Tryd.isAgg55 Tryd.sizeOf55 (len_cu8 hk) (MemAt.ent 0 rfl (Seg.whole _))))⟩, trivial⟩ rfl (Cok_step rfl (Step_callP 50 [.agg (cu8 k).toArray] (.agg (cu8 (mid (macL k ([101, 110, 116, 114, 117, 115, 116, 32, 115, 101, 97, 108] : List UInt8)) 0 16)).toArray) (Cl_func [.agg (cu8 k).toArray] Tryd.call50 rfl) (fun w1 hw1 => renc6_c k w1 hk (GLr.at hw1 hGr) (GLi.at hw1 hGi)))) ?_
  rintro v1 L1 ⟨rfl, rfl⟩
  refine ⟨[(4, .bool (decide ((mid (macL k ([101, 110, 116, 114, 117, 115, 116, 32, 115, 101, 97, 108] : List UInt8)) 0 16) = (mid (macL k ([101, 110, 116, 114, 117, 115, 116, 32, 115, 101, 97, 108] : List UInt8)) 0 16)))), (5, .bool (decide ((mid (macL k ([101, 110, 116, 114, 117, 115, 116, 32, 115, 101, 97, 108] : List UInt8)) 0 16) = (mid (macL k ([101, 110, 116, 114, 117, 115, 116, 32, 115, 101, 97, 108] : List UInt8)) 0 16)))), (6, Ptr nb2 16), (7, .agg (cu8 (macL k ([101, 110, 116, 114, 117, 115, 116, 32, 116, 97, 103] : List UInt8))).toArray), (8, .agg (cu8 k).toArray)], ?_⟩
  show DP _ _ _ _ _ _ _ _ [⟨nb1, cu8 k, 55, (0, 0)⟩, ⟨nb2, cu8 (mid (macL k ([101, 110, 116, 114, 117, 115, 116, 32, 115, 101, 97, 108] : List UInt8)) 0 16) ++ cu8 (macL k ([101, 110, 116, 114, 117, 115, 116, 32, 116, 97, 103] : List UInt8)) ++ cu8 (macL k ([101, 110, 116, 114, 117, 115, 116, 32, 116, 105, 99, 107, 101, 116] : List UInt8)) ++ cu8 (macL k ([101, 110, 116, 114, 117, 115, 116, 32, 108, 105, 110, 107] : List UInt8)), 61, (0, 0)⟩, ⟨nb3, cu8 (macL (macL k ([101, 110, 116, 114, 117, 115, 116, 32, 108, 105, 110, 107] : List UInt8)) (numN 8 x 8)), 25, (0, 0)⟩]
  refine DP_one ⟨[3], [0, 1, 2, 4, 5, 6, 7, 8], [2], [0, 1, 4, 5, 6, 7, 8], [9]⟩ 9 _ rfl rfl (by decide +kernel) rfl ⟨⟨_, rfl, Qok_val rfl (Ev_fieldAddr 0 55 16 Tryd.underlying61 rfl Tryd.sizeOf55 rfl rfl)⟩, ⟨_, rfl, Qok_val rfl (Ev_load rfl (Ld_agg Tryd.isAgg55 Tryd.sizeOf55 (len_cu8 (midmac_len _ _)) (MemAt.ent 1 rfl (Seg.left (Seg.left (Seg.left (Seg.whole _)))))))⟩, ⟨_, rfl, Qok_val rfl (Ev_bin _ _ _ rfl rfl (fun _ => eqGuard_agg _ _ _ _ _ _ (by kernel_rfl)) fun _ => eql_arr8 Tryd.underlying55 Tryd.underlying5 Tryd.isAgg5 Tryd.cells5 Tryd.has5 (by simp [(midmac_len _ _)]) (by simp [(midmac_len _ _)]))⟩, ⟨_, rfl, Qok_val rfl (Ev_move rfl)⟩, ⟨_, rfl, Qok_gval 5 20 true _ rfl rfl rfl (decide_eq_true rfl) (Ev_fieldAddr 16 25 32 Tryd.underlying61 rfl Tryd.sizeOf25 rfl rfl)⟩, ⟨_, rfl, Qok_gval 5 20 true _ rfl rfl rfl (decide_eq_true rfl) (Ev_load rfl (Ld_agg Tryd.isAgg25 Tryd.sizeOf25 (len_cu8 (macL_len _ _)) (MemAt.ent 1 rfl (Seg.left (Seg.left (Seg.right 16 0 (by simp [(midmac_len _ _)]) rfl (Seg.whole _)))))))⟩, ⟨_, rfl, Qok_gval 5 20 true _ rfl rfl rfl (decide_eq_true rfl) (Ev_load rfl (Ld_agg Tryd.isAgg55 Tryd.sizeOf55 (len_cu8 hk) (MemAt.ent 0 rfl (Seg.whole _))))⟩, trivial⟩ rfl (Cok_gstep 5 20 true _ rfl rfl rfl (decide_eq_true rfl) (Step_callP 51 [.agg (cu8 k).toArray] (.agg (cu8 (macL k ([101, 110, 116, 114, 117, 115, 116, 32, 116, 97, 103] : List UInt8))).toArray) (Cl_func [.agg (cu8 k).toArray] Tryd.call51 rfl) (fun w1 hw1 => rtag_c k w1 hk (GLr.at hw1 hGr) (GLi.at hw1 hGi)))) ?_
  rintro v1 L1 ⟨rfl, rfl⟩
  refine ⟨[(10, .bool (decide ((macL k ([101, 110, 116, 114, 117, 115, 116, 32, 116, 97, 103] : List UInt8)) = (macL k ([101, 110, 116, 114, 117, 115, 116, 32, 116, 97, 103] : List UInt8))))), (11, .bool (decide ((macL k ([101, 110, 116, 114, 117, 115, 116, 32, 116, 97, 103] : List UInt8)) = (macL k ([101, 110, 116, 114, 117, 115, 116, 32, 116, 97, 103] : List UInt8))))), (12, .bool (decide ((macL k ([101, 110, 116, 114, 117, 115, 116, 32, 116, 97, 103] : List UInt8)) = (macL k ([101, 110, 116, 114, 117, 115, 116, 32, 116, 97, 103] : List UInt8))))), (13, Ptr nb2 48), (14, .agg (cu8 (macL k ([101, 110, 116, 114, 117, 115, 116, 32, 116, 105, 99, 107, 101, 116] : List UInt8))).toArray), (15, .agg (cu8 k).toArray)], ?_⟩
  show DP _ _ _ _ _ _ _ _ [⟨nb1, cu8 k, 55, (0, 0)⟩, ⟨nb2, cu8 (mid (macL k ([101, 110, 116, 114, 117, 115, 116, 32, 115, 101, 97, 108] : List UInt8)) 0 16) ++ cu8 (macL k ([101, 110, 116, 114, 117, 115, 116, 32, 116, 97, 103] : List UInt8)) ++ cu8 (macL k ([101, 110, 116, 114, 117, 115, 116, 32, 116, 105, 99, 107, 101, 116] : List UInt8)) ++ cu8 (macL k ([101, 110, 116, 114, 117, 115, 116, 32, 108, 105, 110, 107] : List UInt8)), 61, (0, 0)⟩, ⟨nb3, cu8 (macL (macL k ([101, 110, 116, 114, 117, 115, 116, 32, 108, 105, 110, 107] : List UInt8)) (numN 8 x 8)), 25, (0, 0)⟩]
  refine DP_one ⟨[3, 9], [0, 1, 2, 4, 5, 6, 7, 8, 10, 11, 12, 13, 14, 15], [0, 1, 2, 4, 5, 8], [6, 7, 10, 11, 12, 13, 14, 15], [16]⟩ 16 _ rfl rfl (by decide +kernel) rfl ⟨⟨_, rfl, Qok_gval 5 20 true _ rfl rfl rfl (decide_eq_true rfl) (Ev_fieldAddr 16 25 32 Tryd.underlying61 rfl Tryd.sizeOf25 rfl rfl)⟩, ⟨_, rfl, Qok_gval 5 20 true _ rfl rfl rfl (decide_eq_true rfl) (Ev_load rfl (Ld_agg Tryd.isAgg25 Tryd.sizeOf25 (len_cu8 (macL_len _ _)) (MemAt.ent 1 rfl (Seg.left (Seg.left (Seg.right 16 0 (by simp [(midmac_len _ _)]) rfl (Seg.whole _)))))))⟩, ⟨_, rfl, Qok_gval 5 20 true _ rfl rfl rfl (decide_eq_true rfl) (Ev_bin _ _ _ rfl rfl (fun _ => eqGuard_agg _ _ _ _ _ _ (by kernel_rfl)) fun _ => eql_arr8 Tryd.underlying25 Tryd.underlying5 Tryd.isAgg5 Tryd.cells5 Tryd.has5 (by simp [(macL_len _ _)]) (by simp [(macL_len _ _)]))⟩, ⟨_, rfl, Qok_val rfl (Ev_pickT _ rfl (decide_eq_true rfl) rfl)⟩, ⟨_, rfl, Qok_val rfl (Ev_move rfl)⟩, ⟨_, rfl, Qok_gval 12 27 true _ rfl rfl rfl (decide_eq_true rfl) (Ev_fieldAddr 48 25 32 Tryd.underlying61 rfl Tryd.sizeOf25 rfl rfl)⟩, ⟨_, rfl, Qok_gval 12 27 true _ rfl rfl rfl (decide_eq_true rfl) (Ev_load rfl (Ld_agg Tryd.isAgg25 Tryd.sizeOf25 (len_cu8 (macL_len _ _)) (MemAt.ent 1 rfl (Seg.left (Seg.right 48 0 (by simp [(midmac_len _ _), (macL_len _ _)]) rfl (Seg.whole _))))))⟩, ⟨_, rfl, Qok_gval 12 27 true _ rfl rfl rfl (decide_eq_true rfl) (Ev_load rfl (Ld_agg Tryd.isAgg55 Tryd.sizeOf55 (len_cu8 hk) (MemAt.ent 0 rfl (Seg.whole _))))⟩, trivial⟩ rfl (Cok_gstep 12 27 true _ rfl rfl rfl (decide_eq_true rfl) (Step_callP 52 [.agg (cu8 k).toArray] (.agg (cu8 (macL k ([101, 110, 116, 114, 117, 115, 116, 32, 116, 105, 99, 107, 101, 116] : List UInt8))).toArray) (Cl_func [.agg (cu8 k).toArray] Tryd.call52 rfl) (fun w1 hw1 => rticket_c k w1 hk (GLr.at hw1 hGr) (GLi.at hw1 hGi)))) ?_
  rintro v1 L1 ⟨rfl, rfl⟩
  refine ⟨[(17, .bool (decide ((macL k ([101, 110, 116, 114, 117, 115, 116, 32, 116, 105, 99, 107, 101, 116] : List UInt8)) = (macL k ([101, 110, 116, 114, 117, 115, 116, 32, 116, 105, 99, 107, 101, 116] : List UInt8))))), (18, .bool (decide ((macL k ([101, 110, 116, 114, 117, 115, 116, 32, 116, 105, 99, 107, 101, 116] : List UInt8)) = (macL k ([101, 110, 116, 114, 117, 115, 116, 32, 116, 105, 99, 107, 101, 116] : List UInt8))))), (19, .bool (decide ((macL k ([101, 110, 116, 114, 117, 115, 116, 32, 116, 105, 99, 107, 101, 116] : List UInt8)) = (macL k ([101, 110, 116, 114, 117, 115, 116, 32, 116, 105, 99, 107, 101, 116] : List UInt8))))), (20, Ptr nb2 80), (21, .agg (cu8 (macL k ([101, 110, 116, 114, 117, 115, 116, 32, 108, 105, 110, 107] : List UInt8))).toArray), (22, .agg (cu8 k).toArray)], ?_⟩
  show DP _ _ _ _ _ _ _ _ [⟨nb1, cu8 k, 55, (0, 0)⟩, ⟨nb2, cu8 (mid (macL k ([101, 110, 116, 114, 117, 115, 116, 32, 115, 101, 97, 108] : List UInt8)) 0 16) ++ cu8 (macL k ([101, 110, 116, 114, 117, 115, 116, 32, 116, 97, 103] : List UInt8)) ++ cu8 (macL k ([101, 110, 116, 114, 117, 115, 116, 32, 116, 105, 99, 107, 101, 116] : List UInt8)) ++ cu8 (macL k ([101, 110, 116, 114, 117, 115, 116, 32, 108, 105, 110, 107] : List UInt8)), 61, (0, 0)⟩, ⟨nb3, cu8 (macL (macL k ([101, 110, 116, 114, 117, 115, 116, 32, 108, 105, 110, 107] : List UInt8)) (numN 8 x 8)), 25, (0, 0)⟩]
  refine DP_one ⟨[3, 9, 16], [0, 1, 2, 4, 5, 6, 7, 8, 10, 11, 12, 13, 14, 15, 17, 18, 19, 20, 21, 22], [0, 1, 2, 4, 5, 6, 7, 8, 10, 11, 12, 15], [13, 14, 17, 18, 19, 20, 21, 22], [23]⟩ 23 _ rfl rfl (by decide +kernel) rfl ⟨⟨_, rfl, Qok_gval 12 27 true _ rfl rfl rfl (decide_eq_true rfl) (Ev_fieldAddr 48 25 32 Tryd.underlying61 rfl Tryd.sizeOf25 rfl rfl)⟩, ⟨_, rfl, Qok_gval 12 27 true _ rfl rfl rfl (decide_eq_true rfl) (Ev_load rfl (Ld_agg Tryd.isAgg25 Tryd.sizeOf25 (len_cu8 (macL_len _ _)) (MemAt.ent 1 rfl (Seg.left (Seg.right 48 0 (by simp [(midmac_len _ _), (macL_len _ _)]) rfl (Seg.whole _))))))⟩, ⟨_, rfl, Qok_gval 12 27 true _ rfl rfl rfl (decide_eq_true rfl) (Ev_bin _ _ _ rfl rfl (fun _ => eqGuard_agg _ _ _ _ _ _ (by kernel_rfl)) fun _ => eql_arr8 Tryd.underlying25 Tryd.underlying5 Tryd.isAgg5 Tryd.cells5 Tryd.has5 (by simp [(macL_len _ _)]) (by simp [(macL_len _ _)]))⟩, ⟨_, rfl, Qok_val rfl (Ev_pickT _ rfl (decide_eq_true rfl) rfl)⟩, ⟨_, rfl, Qok_val rfl (Ev_move rfl)⟩, ⟨_, rfl, Qok_gval 19 34 true _ rfl rfl rfl (decide_eq_true rfl) (Ev_fieldAddr 80 25 32 Tryd.underlying61 rfl Tryd.sizeOf25 rfl rfl)⟩, ⟨_, rfl, Qok_gval 19 34 true _ rfl rfl rfl (decide_eq_true rfl) (Ev_load rfl (Ld_agg Tryd.isAgg25 Tryd.sizeOf25 (len_cu8 (macL_len _ _)) (MemAt.ent 1 rfl (Seg.right 80 0 (by simp [(midmac_len _ _), (macL_len _ _), (macL_len _ _)]) rfl (Seg.whole _)))))⟩, ⟨_, rfl, Qok_gval 19 34 true _ rfl rfl rfl (decide_eq_true rfl) (Ev_load rfl (Ld_agg Tryd.isAgg55 Tryd.sizeOf55 (len_cu8 hk) (MemAt.ent 0 rfl (Seg.whole _))))⟩, trivial⟩ rfl (Cok_gstep 19 34 true _ rfl rfl rfl (decide_eq_true rfl) (Step_callP 49 [.agg (cu8 k).toArray] (.agg (cu8 (macL k ([101, 110, 116, 114, 117, 115, 116, 32, 108, 105, 110, 107] : List UInt8))).toArray) (Cl_func [.agg (cu8 k).toArray] Tryd.call49 rfl) (fun w1 hw1 => rlink_c k w1 hk (GLr.at hw1 hGr) (GLi.at hw1 hGi)))) ?_
  rintro v1 L1 ⟨rfl, rfl⟩
  refine ⟨[(24, .bool (decide ((macL k ([101, 110, 116, 114, 117, 115, 116, 32, 108, 105, 110, 107] : List UInt8)) = (macL k ([101, 110, 116, 114, 117, 115, 116, 32, 108, 105, 110, 107] : List UInt8))))), (25, .bool (decide ((macL k ([101, 110, 116, 114, 117, 115, 116, 32, 108, 105, 110, 107] : List UInt8)) = (macL k ([101, 110, 116, 114, 117, 115, 116, 32, 108, 105, 110, 107] : List UInt8))))), (26, .bool (decide ((macL k ([101, 110, 116, 114, 117, 115, 116, 32, 108, 105, 110, 107] : List UInt8)) = (macL k ([101, 110, 116, 114, 117, 115, 116, 32, 108, 105, 110, 107] : List UInt8))))), (27, .agg (cu8 (mid (macL k ([101, 110, 116, 114, 117, 115, 116, 32, 115, 101, 97, 108] : List UInt8)) 0 16) ++ cu8 (macL k ([101, 110, 116, 114, 117, 115, 116, 32, 116, 97, 103] : List UInt8)) ++ cu8 (macL k ([101, 110, 116, 114, 117, 115, 116, 32, 116, 105, 99, 107, 101, 116] : List UInt8)) ++ cu8 (macL k ([101, 110, 116, 114, 117, 115, 116, 32, 108, 105, 110, 107] : List UInt8))).toArray), (28, U64 x), (30, .agg (cu8 (macL (macL k ([101, 110, 116, 114, 117, 115, 116, 32, 108, 105, 110, 107] : List UInt8)) (numN 8 x 8))).toArray)], ?_⟩
  show DP _ _ _ _ _ _ _ _ [⟨nb1, cu8 k, 55, (0, 0)⟩, ⟨nb2, cu8 (mid (macL k ([101, 110, 116, 114, 117, 115, 116, 32, 115, 101, 97, 108] : List UInt8)) 0 16) ++ cu8 (macL k ([101, 110, 116, 114, 117, 115, 116, 32, 116, 97, 103] : List UInt8)) ++ cu8 (macL k ([101, 110, 116, 114, 117, 115, 116, 32, 116, 105, 99, 107, 101, 116] : List UInt8)) ++ cu8 (macL k ([101, 110, 116, 114, 117, 115, 116, 32, 108, 105, 110, 107] : List UInt8)), 61, (0, 0)⟩, ⟨nb3, cu8 (macL (macL k ([101, 110, 116, 114, 117, 115, 116, 32, 108, 105, 110, 107] : List UInt8)) (numN 8 x 8)), 25, (0, 0)⟩]
  refine DP_one ⟨[3, 9, 16, 23], [0, 1, 2, 4, 5, 6, 7, 8, 10, 11, 12, 13, 14, 15, 17, 18, 19, 20, 21, 22, 24, 25, 26, 27, 28, 30], [0, 1, 2, 4, 5, 6, 7, 8, 10, 11, 12, 13, 14, 15, 17, 18, 19, 22], [20, 21, 24, 25, 26, 27, 28, 30], [29]⟩ 29 _ rfl rfl (by decide +kernel) rfl ⟨⟨_, rfl, Qok_gval 19 34 true _ rfl rfl rfl (decide_eq_true rfl) (Ev_fieldAddr 80 25 32 Tryd.underlying61 rfl Tryd.sizeOf25 rfl rfl)⟩, ⟨_, rfl, Qok_gval 19 34 true _ rfl rfl rfl (decide_eq_true rfl) (Ev_load rfl (Ld_agg Tryd.isAgg25 Tryd.sizeOf25 (len_cu8 (macL_len _ _)) (MemAt.ent 1 rfl (Seg.right 80 0 (by simp [(midmac_len _ _), (macL_len _ _), (macL_len _ _)]) rfl (Seg.whole _)))))⟩, ⟨_, rfl, Qok_gval 19 34 true _ rfl rfl rfl (decide_eq_true rfl) (Ev_bin _ _ _ rfl rfl (fun _ => eqGuard_agg _ _ _ _ _ _ (by kernel_rfl)) fun _ => eql_arr8 Tryd.underlying25 Tryd.underlying5 Tryd.isAgg5 Tryd.cells5 Tryd.has5 (by simp [(macL_len _ _)]) (by simp [(macL_len _ _)]))⟩, ⟨_, rfl, Qok_val rfl (Ev_pickT _ rfl (decide_eq_true rfl) rfl)⟩, ⟨_, rfl, Qok_val rfl (Ev_move rfl)⟩, ⟨_, rfl, Qok_gval 26 41 true _ rfl rfl rfl (decide_eq_true rfl) (Ev_load rfl (Ld_agg Tryd.isAgg61 Tryd.sizeOf61 (by simp [(midmac_len _ _), (macL_len _ _), (macL_len _ _), (macL_len _ _)]) (MemAt.ent 1 rfl (Seg.whole _))))⟩, ⟨_, rfl, Qok_gval 26 41 true _ rfl rfl rfl (decide_eq_true rfl) (Ev_move rfl)⟩, ⟨_, rfl, Qok_gval 26 41 true _ rfl rfl rfl (decide_eq_true rfl) (Ev_load rfl (Ld_agg Tryd.isAgg25 Tryd.sizeOf25 (len_cu8 (macL_len _ _)) (MemAt.ent 2 rfl (Seg.whole _))))⟩, trivial⟩ rfl (Cok_gstep 26 41 true _ rfl rfl rfl (decide_eq_true rfl) (Step_callP 53 [.agg (cu8 (mid (macL k ([101, 110, 116, 114, 117, 115, 116, 32, 115, 101, 97, 108] : List UInt8)) 0 16) ++ cu8 (macL k ([101, 110, 116, 114, 117, 115, 116, 32, 116, 97, 103] : List UInt8)) ++ cu8 (macL k ([101, 110, 116, 114, 117, 115, 116, 32, 116, 105, 99, 107, 101, 116] : List UInt8)) ++ cu8 (macL k ([101, 110, 116, 114, 117, 115, 116, 32, 108, 105, 110, 107] : List UInt8))).toArray, U64 x] (.agg (cu8 (macL (macL k ([101, 110, 116, 114, 117, 115, 116, 32, 108, 105, 110, 107] : List UInt8)) (numN 8 x 8))).toArray) (Cl_func [.agg (cu8 (mid (macL k ([101, 110, 116, 114, 117, 115, 116, 32, 115, 101, 97, 108] : List UInt8)) 0 16) ++ cu8 (macL k ([101, 110, 116, 114, 117, 115, 116, 32, 116, 97, 103] : List UInt8)) ++ cu8 (macL k ([101, 110, 116, 114, 117, 115, 116, 32, 116, 105, 99, 107, 101, 116] : List UInt8)) ++ cu8 (macL k ([101, 110, 116, 114, 117, 115, 116, 32, 108, 105, 110, 107] : List UInt8))).toArray, U64 x] Tryd.call53 rfl) (fun w1 hw1 => setSes_c (mid (macL k ([101, 110, 116, 114, 117, 115, 116, 32, 115, 101, 97, 108] : List UInt8)) 0 16) (macL k ([101, 110, 116, 114, 117, 115, 116, 32, 116, 97, 103] : List UInt8)) (macL k ([101, 110, 116, 114, 117, 115, 116, 32, 116, 105, 99, 107, 101, 116] : List UInt8)) (macL k ([101, 110, 116, 114, 117, 115, 116, 32, 108, 105, 110, 107] : List UInt8)) x w1 (midmac_len _ _) (macL_len _ _) (macL_len _ _) (macL_len _ _) (hG.at hw1)))) ?_
  rintro v1 L1 ⟨rfl, rfl⟩
  refine ⟨[(31, .bool (decide ((macL (macL k ([101, 110, 116, 114, 117, 115, 116, 32, 108, 105, 110, 107] : List UInt8)) (numN 8 x 8)) = (macL (macL k ([101, 110, 116, 114, 117, 115, 116, 32, 108, 105, 110, 107] : List UInt8)) (numN 8 x 8))))), (32, .bool (decide ((macL (macL k ([101, 110, 116, 114, 117, 115, 116, 32, 108, 105, 110, 107] : List UInt8)) (numN 8 x 8)) = (macL (macL k ([101, 110, 116, 114, 117, 115, 116, 32, 108, 105, 110, 107] : List UInt8)) (numN 8 x 8))))), (33, .bool (decide ((macL (macL k ([101, 110, 116, 114, 117, 115, 116, 32, 108, 105, 110, 107] : List UInt8)) (numN 8 x 8)) = (macL (macL k ([101, 110, 116, 114, 117, 115, 116, 32, 108, 105, 110, 107] : List UInt8)) (numN 8 x 8))))), (34, Ptr nb2 80), (35, .agg (cu8 (macL k ([101, 110, 116, 114, 117, 115, 116, 32, 108, 105, 110, 107] : List UInt8))).toArray), (36, U64 x), (38, .agg (cu8 (macL (macL k ([101, 110, 116, 114, 117, 115, 116, 32, 108, 105, 110, 107] : List UInt8)) (numN 8 x 8))).toArray)], ?_⟩
  show DP _ _ _ _ _ _ _ _ [⟨nb1, cu8 k, 55, (0, 0)⟩, ⟨nb2, cu8 (mid (macL k ([101, 110, 116, 114, 117, 115, 116, 32, 115, 101, 97, 108] : List UInt8)) 0 16) ++ cu8 (macL k ([101, 110, 116, 114, 117, 115, 116, 32, 116, 97, 103] : List UInt8)) ++ cu8 (macL k ([101, 110, 116, 114, 117, 115, 116, 32, 116, 105, 99, 107, 101, 116] : List UInt8)) ++ cu8 (macL k ([101, 110, 116, 114, 117, 115, 116, 32, 108, 105, 110, 107] : List UInt8)), 61, (0, 0)⟩, ⟨nb3, cu8 (macL (macL k ([101, 110, 116, 114, 117, 115, 116, 32, 108, 105, 110, 107] : List UInt8)) (numN 8 x 8)), 25, (0, 0)⟩]
  refine DP_one ⟨[3, 9, 16, 23, 29], [0, 1, 2, 4, 5, 6, 7, 8, 10, 11, 12, 13, 14, 15, 17, 18, 19, 20, 21, 22, 24, 25, 26, 27, 28, 30, 31, 32, 33, 34, 35, 36, 38], [0, 1, 2, 4, 5, 6, 7, 8, 10, 11, 12, 13, 14, 15, 17, 18, 19, 20, 21, 22, 24, 25, 26, 27, 28], [30, 31, 32, 33, 34, 35, 36, 38], [37]⟩ 37 _ rfl rfl (by decide +kernel) rfl ⟨⟨_, rfl, Qok_gval 26 41 true _ rfl rfl rfl (decide_eq_true rfl) (Ev_load rfl (Ld_agg Tryd.isAgg25 Tryd.sizeOf25 (len_cu8 (macL_len _ _)) (MemAt.ent 2 rfl (Seg.whole _))))⟩, ⟨_, rfl, Qok_gval 26 41 true _ rfl rfl rfl (decide_eq_true rfl) (Ev_bin _ _ _ rfl rfl (fun _ => eqGuard_agg _ _ _ _ _ _ (by kernel_rfl)) fun _ => eql_arr8 Tryd.underlying25 Tryd.underlying5 Tryd.isAgg5 Tryd.cells5 Tryd.has5 (by simp [(macL_len _ _)]) (by simp [(macL_len _ _)]))⟩, ⟨_, rfl, Qok_val rfl (Ev_pickT _ rfl (decide_eq_true rfl) rfl)⟩, ⟨_, rfl, Qok_val rfl (Ev_move rfl)⟩, ⟨_, rfl, Qok_gval 33 48 true _ rfl rfl rfl (decide_eq_true rfl) (Ev_fieldAddr 80 25 32 Tryd.underlying61 rfl Tryd.sizeOf25 rfl rfl)⟩, ⟨_, rfl, Qok_gval 33 48 true _ rfl rfl rfl (decide_eq_true rfl) (Ev_load rfl (Ld_agg Tryd.isAgg25 Tryd.sizeOf25 (len_cu8 (macL_len _ _)) (MemAt.ent 1 rfl (Seg.right 80 0 (by simp [(midmac_len _ _), (macL_len _ _), (macL_len _ _)]) rfl (Seg.whole _)))))⟩, ⟨_, rfl, Qok_gval 33 48 true _ rfl rfl rfl (decide_eq_true rfl) (Ev_move rfl)⟩, ⟨_, rfl, Qok_gval 33 48 true _ rfl rfl rfl (decide_eq_true rfl) (Ev_load rfl (Ld_agg Tryd.isAgg25 Tryd.sizeOf25 (len_cu8 (macL_len _ _)) (MemAt.ent 2 rfl (Seg.whole _))))⟩, trivial⟩ rfl (Cok_gstep 33 48 true _ rfl rfl rfl (decide_eq_true rfl) (Step_callP 46 [.agg (cu8 (macL k ([101, 110, 116, 114, 117, 115, 116, 32, 108, 105, 110, 107] : List UInt8))).toArray, U64 x] (.agg (cu8 (macL (macL k ([101, 110, 116, 114, 117, 115, 116, 32, 108, 105, 110, 107] : List UInt8)) (numN 8 x 8))).toArray) (Cl_func [.agg (cu8 (macL k ([101, 110, 116, 114, 117, 115, 116, 32, 108, 105, 110, 107] : List UInt8))).toArray, U64 x] Tryd.call46 rfl) (fun w1 hw1 => session_c (macL k ([101, 110, 116, 114, 117, 115, 116, 32, 108, 105, 110, 107] : List UInt8)) x w1 (macL_len _ _) (hG.at hw1)))) ?_
  rintro v1 L1 ⟨rfl, rfl⟩
  refine ⟨[(39, .bool (decide ((macL (macL k ([101, 110, 116, 114, 117, 115, 116, 32, 108, 105, 110, 107] : List UInt8)) (numN 8 x 8)) = (macL (macL k ([101, 110, 116, 114, 117, 115, 116, 32, 108, 105, 110, 107] : List UInt8)) (numN 8 x 8))))), (40, .bool (decide ((macL (macL k ([101, 110, 116, 114, 117, 115, 116, 32, 108, 105, 110, 107] : List UInt8)) (numN 8 x 8)) = (macL (macL k ([101, 110, 116, 114, 117, 115, 116, 32, 108, 105, 110, 107] : List UInt8)) (numN 8 x 8))))), (41, .bool (decide ((macL (macL k ([101, 110, 116, 114, 117, 115, 116, 32, 108, 105, 110, 107] : List UInt8)) (numN 8 x 8)) = (macL (macL k ([101, 110, 116, 114, 117, 115, 116, 32, 108, 105, 110, 107] : List UInt8)) (numN 8 x 8)))))], ?_⟩
  show DP _ _ _ _ _ _ _ _ [⟨nb1, cu8 k, 55, (0, 0)⟩, ⟨nb2, cu8 (mid (macL k ([101, 110, 116, 114, 117, 115, 116, 32, 115, 101, 97, 108] : List UInt8)) 0 16) ++ cu8 (macL k ([101, 110, 116, 114, 117, 115, 116, 32, 116, 97, 103] : List UInt8)) ++ cu8 (macL k ([101, 110, 116, 114, 117, 115, 116, 32, 116, 105, 99, 107, 101, 116] : List UInt8)) ++ cu8 (macL k ([101, 110, 116, 114, 117, 115, 116, 32, 108, 105, 110, 107] : List UInt8)), 61, (0, 0)⟩, ⟨nb3, cu8 (macL (macL k ([101, 110, 116, 114, 117, 115, 116, 32, 108, 105, 110, 107] : List UInt8)) (numN 8 x 8)), 25, (0, 0)⟩]
  refine DP_end ⟨[3, 9, 16, 23, 29, 37], [0, 1, 2, 4, 5, 6, 7, 8, 10, 11, 12, 13, 14, 15, 17, 18, 19, 20, 21, 22, 24, 25, 26, 27, 28, 30, 31, 32, 33, 34, 35, 36, 38, 39, 40, 41], [0, 1, 2, 4, 5, 6, 7, 8, 10, 11, 12, 13, 14, 15, 17, 18, 19, 20, 21, 22, 24, 25, 26, 27, 28, 30, 31, 32, 33, 34, 35, 36], [38, 39, 40, 41], []⟩ rfl rfl (by decide +kernel) rfl ⟨⟨_, rfl, Qok_gval 33 48 true _ rfl rfl rfl (decide_eq_true rfl) (Ev_load rfl (Ld_agg Tryd.isAgg25 Tryd.sizeOf25 (len_cu8 (macL_len _ _)) (MemAt.ent 2 rfl (Seg.whole _))))⟩, ⟨_, rfl, Qok_gval 33 48 true _ rfl rfl rfl (decide_eq_true rfl) (Ev_bin _ _ _ rfl rfl (fun _ => eqGuard_agg _ _ _ _ _ _ (by kernel_rfl)) fun _ => eql_arr8 Tryd.underlying25 Tryd.underlying5 Tryd.isAgg5 Tryd.cells5 Tryd.has5 (by simp [(macL_len _ _)]) (by simp [(macL_len _ _)]))⟩, ⟨_, rfl, Qok_val rfl (Ev_pickT _ rfl (decide_eq_true rfl) rfl)⟩, ⟨_, rfl, Qok_val rfl (Ev_assign rfl)⟩, trivial⟩ ?_
  refine K_sub (F' := [(4, .bool (decide ((macL (macL k ([101, 110, 116, 114, 117, 115, 116, 32, 108, 105, 110, 107] : List UInt8)) (numN 8 x 8)) = (macL (macL k ([101, 110, 116, 114, 117, 115, 116, 32, 108, 105, 110, 107] : List UInt8)) (numN 8 x 8)))))]) (Sub.cons (by kernel_rfl) (Sub.nil)) ?_
  show JQ _ _ _ [(4, .bool (decide ((macL (macL k ([101, 110, 116, 114, 117, 115, 116, 32, 108, 105, 110, 107] : List UInt8)) (numN 8 x 8)) = (macL (macL k ([101, 110, 116, 114, 117, 115, 116, 32, 108, 105, 110, 107] : List UInt8)) (numN 8 x 8)))))] _
  refine JQ_then ?_
  refine JC_ret ?_
  refine JQ_ret (.bool (decide ((macL (macL k ([101, 110, 116, 114, 117, 115, 116, 32, 108, 105, 110, 107] : List UInt8)) (numN 8 x 8)) = (macL (macL k ([101, 110, 116, 114, 117, 115, 116, 32, 108, 105, 110, 107] : List UInt8)) (numN 8 x 8))))) (res1 Tryd.results12 (RV_tmp rfl)) fun w1 hw1 => ?_
  exact ⟨_, [], rfl, ⟨by rw [show (decide ((macL (macL k ([101, 110, 116, 114, 117, 115, 116, 32, 108, 105, 110, 107] : List UInt8)) (numN 8 x 8)) = (macL (macL k ([101, 110, 116, 114, 117, 115, 116, 32, 108, 105, 110, 107] : List UInt8)) (numN 8 x 8)))) = true from (decide_eq_true rfl)], rfl⟩, hw1.sub (by simp) (by simp)⟩

end Go.Proofs.YtncoifiafklkjaaDoor
