import Derived.Test.YtncoifiafklkjaaDoorKeys1
import Derived.Test.YtncoifiafklkjaaDoorSxY
namespace Go.Proofs.YtncoifiafklkjaaDoor
open Go Go.Sx
set_option linter.unusedVariables false
set_option linter.unusedSimpArgs false
set_option maxRecDepth 100000
attribute [local irreducible] mid zr8 zr32 rotr wordL spreadL comprL cpN adN spN wrdN constL initL padL stN outN routN hashL sumG blkL xbN raN macL orN numN rnN lblL sessL
theorem label_c (k l : List UInt8) (w : World) (hk : k.length = 16) (hl : l.length ≤ 1000) (hG : GLs w) : Calls Tryd.prog 44 #[.agg (cu8 k).toArray, .string (⟨l.toArray⟩ : ByteArray)] w (Post w [] (fun v L => v = .agg (cu8 (macL k l)).toArray ∧ L = [])) := by
  have hmx : maxLen = 9223372036854775807 := rfl
  refine enter w [] 10 [] [.agg (cu8 k).toArray, .string (⟨l.toArray⟩ : ByteArray)] Tryd.func44 rfl rfl (by simp) (Hp.start (by simp) (by simp) (by simp)) ?_
  show JC _ _ _ [(0, .agg (cu8 k).toArray), (1, .string (⟨l.toArray⟩ : ByteArray))] _
  refine JC_seq ?_
  refine JC_region ?_
  refine JL_step (Step_box (.agg (cu8 k).toArray) (cu8 k) rfl (by first | rfl | simp)) rfl ?_
  rintro v1 L1 ⟨nb1, hnb1, rfl, rfl⟩
  show JL _ _ _ _ ((2, Ptr nb1 0) :: _) [⟨nb1, cu8 k, 55, (0, 0)⟩]
  refine JL_step (Step_alloc _ (cu8 (zr8 32)) Tryd.zeroValue25 (by kernel_rfl)) rfl ?_
  rintro v1 L1 ⟨nb2, hnb2, rfl, rfl⟩
  show JL _ _ _ _ ((4, Ptr nb2 0) :: _) [⟨nb1, cu8 k, 55, (0, 0)⟩, ⟨nb2, cu8 (zr8 32), 25, (0, 0)⟩]
  refine JL_nil ?_
  refine JQ_then ?_
  refine JC_seq ?_
  refine JC_region ?_
  refine JL_val (Slc nb1 0 16 16) (Ev_sliceA 16 5 1 0 16 0 16 Tryd.underlying55 Tryd.sizeOf5 rfl rfl rfl (by omega) (by omega) (by omega) (by omega) (by omega) 16 (by omega)) rfl ?_
  refine JL_val _ (Ev_move rfl) rfl ?_
  refine JL_step (Step_strBytes 5 l Tryd.underlying9 Tryd.underlying22 Tryd.underlying5 rfl (by first | omega | (simp [maxLen]; done))) rfl ?_
  rintro v1 L1 ⟨nb3, sp1, cp1, fz1, hnb3, rfl, rfl, hl1, hm1⟩
  show JL _ _ _ _ ((7, Slc nb3 0 l.length cp1) :: _) [⟨nb1, cu8 k, 55, (0, 0)⟩, ⟨nb2, cu8 (zr8 32), 25, (0, 0)⟩, ⟨nb3, cu8 l ++ sp1, 5, fz1⟩]
  refine JL_step (Step_buildSlice 22 1 _ [(0, Slc nb3 0 l.length cp1)] ([Slc nb3 0 l.length cp1]) Tryd.underlying125 Tryd.sizeOf22 Tryd.zeroValue22 rfl rfl rfl (by kernel_rfl)) rfl ?_
  rintro v1 L1 ⟨nb4, hnb4, rfl, rfl⟩
  show JL _ _ _ _ ((8, Slc nb4 0 1 1) :: _) [⟨nb1, cu8 k, 55, (0, 0)⟩, ⟨nb2, cu8 (zr8 32), 25, (0, 0)⟩, ⟨nb3, cu8 l ++ sp1, 5, fz1⟩, ⟨nb4, [Slc nb3 0 l.length cp1], 22, (0, 0)⟩]
  refine JL_step (Step_callP 39 [Slc nb1 0 16 16, Slc nb4 0 1 1] (.agg (cu8 (macL k ([l].flatten))).toArray) (Cl_func [Slc nb1 0 16 16, Slc nb4 0 1 1] Tryd.call39 rfl) (fun w1 hw1 => mac_c (some ⟨nb1, 0, none⟩) 16 16 k nb4 1 [Slc nb3 0 l.length cp1] [l] w1 hk (fun h => by cases h) (by omega) (RdB.of hw1 (MemAt.ent 0 rfl (Seg.whole _)) (by simp)) (by simp) (by simp) (by simp) ⟨RdA.of hw1 (MemAt.ent 3 rfl (Seg.head)) (by simp), ⟨⟨(some ⟨nb3, 0, none⟩), cp1, congrArg (fun n => Value.slice (some ⟨nb3, 0, none⟩) n cp1) ((rfl : l.length = _)).symm, (RdB.of hw1 (MemAt.ent 2 rfl (Seg.left (Seg.whole _))) (by simp))⟩, trivial⟩⟩ (by simp only [List.flatten_cons, List.flatten_nil, List.length_append, List.length_nil]; omega) (hG.at hw1))) rfl ?_
  rintro v1 L1 ⟨rfl, rfl⟩
  show JL _ _ _ _ ((9, .agg (cu8 (macL k ([l].flatten))).toArray) :: _) [⟨nb1, cu8 k, 55, (0, 0)⟩, ⟨nb2, cu8 (zr8 32), 25, (0, 0)⟩, ⟨nb3, cu8 l ++ sp1, 5, fz1⟩, ⟨nb4, [Slc nb3 0 l.length cp1], 22, (0, 0)⟩]
  refine JL_step (Step_store 1 nb2 0 32 (cu8 (zr8 32)) 25 (.agg (cu8 (macL k ([l].flatten))).toArray) (cu8 (macL k ([l].flatten))) (cu8 (macL k ([l].flatten))) rfl rfl rfl (by first | rfl | simp) Tryd.sizeOf25 (len_cu8 (macL_len _ _)) (by first | exact one_u8 | exact one_u32 | exact one_u64 | (simp [cu8, cu32, cu64, Value.oneCell']; done)) (by simp [(zr8_len 32)]) (lay_whole (by simp [(zr8_len 32), (macL_len _ _)]))) rfl ?_
  rintro v1 L1 ⟨rfl, rfl⟩
  show JL _ _ _ _ _ [⟨nb1, cu8 k, 55, (0, 0)⟩, ⟨nb2, cu8 (macL k ([l].flatten)), 25, (0, 0)⟩, ⟨nb3, cu8 l ++ sp1, 5, fz1⟩, ⟨nb4, [Slc nb3 0 l.length cp1], 22, (0, 0)⟩]
  refine JL_nil ?_
  refine JQ_then ?_
  refine JC_ret ?_
  refine JQ_ret (.agg (cu8 (macL k ([l].flatten))).toArray) (res1 Tryd.results44 (RV_cell rfl (Ld_agg Tryd.isAgg25 Tryd.sizeOf25 (len_cu8 (macL_len _ _)) (MemAt.ent 1 rfl (Seg.whole _))))) fun w1 hw1 => ?_
  refine ⟨_, [], rfl, ⟨?_, rfl⟩, hw1.sub (by simp) (by simp)⟩
  first | rfl | (simp; done)

theorem rlabel_c (k l : List UInt8) (w : World) (hk : k.length = 16) (hl : l.length ≤ 1000) (hGr : GLr w) (hGi : GLi w) : Calls Tryd.prog 45 #[.agg (cu8 k).toArray, .string (⟨l.toArray⟩ : ByteArray)] w (Post w [] (fun v L => v = .agg (cu8 (macL k l)).toArray ∧ L = [])) := by
  have hmx : maxLen = 9223372036854775807 := rfl
  refine enter w [] 9 [] [.agg (cu8 k).toArray, .string (⟨l.toArray⟩ : ByteArray)] Tryd.func45 rfl rfl (by simp) (Hp.start (by simp) (by simp) (by simp)) ?_
  show JC _ _ _ [(0, .agg (cu8 k).toArray), (1, .string (⟨l.toArray⟩ : ByteArray))] _
  refine JC_seq ?_
  refine JC_region ?_
  refine JL_step (Step_box (.agg (cu8 k).toArray) (cu8 k) rfl (by first | rfl | simp)) rfl ?_
  rintro v1 L1 ⟨nb1, hnb1, rfl, rfl⟩
  show JL _ _ _ _ ((2, Ptr nb1 0) :: _) [⟨nb1, cu8 k, 55, (0, 0)⟩]
  refine JL_step (Step_alloc _ (cu8 (zr8 32)) Tryd.zeroValue25 (by kernel_rfl)) rfl ?_
  rintro v1 L1 ⟨nb2, hnb2, rfl, rfl⟩
  show JL _ _ _ _ ((4, Ptr nb2 0) :: _) [⟨nb1, cu8 k, 55, (0, 0)⟩, ⟨nb2, cu8 (zr8 32), 25, (0, 0)⟩]
  refine JL_nil ?_
  refine JQ_then ?_
  refine JC_seq ?_
  refine JC_region ?_
  refine JL_val (Slc nb1 0 16 16) (Ev_sliceA 16 5 1 0 16 0 16 Tryd.underlying55 Tryd.sizeOf5 rfl rfl rfl (by omega) (by omega) (by omega) (by omega) (by omega) 16 (by omega)) rfl ?_
  refine JL_val _ (Ev_move rfl) rfl ?_
  refine JL_step (Step_strBytes 5 l Tryd.underlying9 Tryd.underlying22 Tryd.underlying5 rfl (by first | omega | (simp [maxLen]; done))) rfl ?_
  rintro v1 L1 ⟨nb3, sp1, cp1, fz1, hnb3, rfl, rfl, hl1, hm1⟩
  show JL _ _ _ _ ((7, Slc nb3 0 l.length cp1) :: _) [⟨nb1, cu8 k, 55, (0, 0)⟩, ⟨nb2, cu8 (zr8 32), 25, (0, 0)⟩, ⟨nb3, cu8 l ++ sp1, 5, fz1⟩]
  refine JL_step (Step_callP 37 [Slc nb1 0 16 16, Slc nb3 0 l.length cp1] (.agg (cu8 (macL k l)).toArray) (Cl_func [Slc nb1 0 16 16, Slc nb3 0 l.length cp1] Tryd.call37 rfl) (fun w1 hw1 => rmac_c (some ⟨nb1, 0, none⟩) 16 16 k (some ⟨nb3, 0, none⟩) l.length cp1 l w1 hk (fun h => by cases h) (by omega) (RdB.of hw1 (MemAt.ent 0 rfl (Seg.whole _)) (by simp)) (rfl : l.length = _) (by omega) (RdB.of hw1 (MemAt.ent 2 rfl (Seg.left (Seg.whole _))) (by simp)) (GLr.at hw1 hGr) (GLi.at hw1 hGi))) rfl ?_
  rintro v1 L1 ⟨rfl, rfl⟩
  show JL _ _ _ _ ((8, .agg (cu8 (macL k l)).toArray) :: _) [⟨nb1, cu8 k, 55, (0, 0)⟩, ⟨nb2, cu8 (zr8 32), 25, (0, 0)⟩, ⟨nb3, cu8 l ++ sp1, 5, fz1⟩]
  refine JL_step (Step_store 1 nb2 0 32 (cu8 (zr8 32)) 25 (.agg (cu8 (macL k l)).toArray) (cu8 (macL k l)) (cu8 (macL k l)) rfl rfl rfl (by first | rfl | simp) Tryd.sizeOf25 (len_cu8 (macL_len _ _)) (by first | exact one_u8 | exact one_u32 | exact one_u64 | (simp [cu8, cu32, cu64, Value.oneCell']; done)) (by simp [(zr8_len 32)]) (lay_whole (by simp [(zr8_len 32), (macL_len _ _)]))) rfl ?_
  rintro v1 L1 ⟨rfl, rfl⟩
  show JL _ _ _ _ _ [⟨nb1, cu8 k, 55, (0, 0)⟩, ⟨nb2, cu8 (macL k l), 25, (0, 0)⟩, ⟨nb3, cu8 l ++ sp1, 5, fz1⟩]
  refine JL_nil ?_
  refine JQ_then ?_
  refine JC_ret ?_
  refine JQ_ret (.agg (cu8 (macL k l)).toArray) (res1 Tryd.results45 (RV_cell rfl (Ld_agg Tryd.isAgg25 Tryd.sizeOf25 (len_cu8 (macL_len _ _)) (MemAt.ent 1 rfl (Seg.whole _))))) fun w1 hw1 => ?_
  refine ⟨_, [], rfl, ⟨?_, rfl⟩, hw1.sub (by simp) (by simp)⟩
  first | rfl | (simp; done)

theorem session_c (s : List UInt8) (x : UInt64) (w : World) (hs : s.length = 32) (hG : GLs w) : Calls Tryd.prog 46 #[.agg (cu8 s).toArray, U64 x] w (Post w [] (fun v L => v = .agg (cu8 (macL s (numN 8 x 8))).toArray ∧ L = [])) := by
  have hmx : maxLen = 9223372036854775807 := rfl
  refine enter w [] 24 [] [.agg (cu8 s).toArray, U64 x] Tryd.func46 rfl rfl (by simp) (Hp.start (by simp) (by simp) (by simp)) ?_
  show JC _ _ _ [(0, .agg (cu8 s).toArray), (1, U64 x)] _
  refine JC_seq ?_
  refine JC_region ?_
  refine JL_step (Step_box (.agg (cu8 s).toArray) (cu8 s) rfl (by first | rfl | simp)) rfl ?_
  rintro v1 L1 ⟨nb1, hnb1, rfl, rfl⟩
  show JL _ _ _ _ ((2, Ptr nb1 0) :: _) [⟨nb1, cu8 s, 25, (0, 0)⟩]
  refine JL_step (Step_alloc _ (cu8 (zr8 32)) Tryd.zeroValue25 (by kernel_rfl)) rfl ?_
  rintro v1 L1 ⟨nb2, hnb2, rfl, rfl⟩
  show JL _ _ _ _ ((4, Ptr nb2 0) :: _) [⟨nb1, cu8 s, 25, (0, 0)⟩, ⟨nb2, cu8 (zr8 32), 25, (0, 0)⟩]
  refine JL_nil ?_
  refine JQ_then ?_
  refine JC_seq ?_
  refine JC_region ?_
  refine JL_val (.agg ([.nilIface, .slice none 0 0]).toArray) (Ev_build [] _ rfl (fun _ => by kernel_rfl)) rfl ?_
  refine JL_step (Step_box (.agg ([.nilIface, .slice none 0 0]).toArray) ([.nilIface, .slice none 0 0]) rfl (by first | rfl | simp)) rfl ?_
  rintro v1 L1 ⟨nb3, hnb3, rfl, rfl⟩
  show JL _ _ _ _ ((9, Ptr nb3 0) :: _) [⟨nb1, cu8 s, 25, (0, 0)⟩, ⟨nb2, cu8 (zr8 32), 25, (0, 0)⟩, ⟨nb3, [.nilIface, .slice none 0 0], 138, (0, 0)⟩]
  refine JL_val _ (Ev_assign rfl) rfl ?_
  refine JL_nil ?_
  refine JQ_then ?_
  refine JC_seq ?_
  refine JC_region ?_
  refine JL_val _ (Ev_move rfl) rfl ?_
  refine JL_val _ (Ev_move rfl) rfl ?_
  refine JL_step (Step_call 97 _ [false, false, true] [nb3] _ (Cl_func [Ptr nb3 0, U64 x, I64 (8:Int)] Tryd.call97 rfl) rfl (fun w1 hw1 => num8N_c nb3 x w1 (hw1.ent _ (List.mem_of_getElem? (i := 2) rfl)))) rfl ?_
  rintro v1 L1 ⟨_, ⟨rfl, nb4, sp1, cp1, rfl, hc1, hc2, hc3⟩, rfl⟩
  show JL _ _ _ _ ((13, Ptr nb3 0) :: _) [⟨nb1, cu8 s, 25, (0, 0)⟩, ⟨nb2, cu8 (zr8 32), 25, (0, 0)⟩, ⟨nb3, [.nilIface, Slc nb4 0 8 cp1], 138, (0, 0)⟩, ⟨nb4, cu8 (numN 8 x 8) ++ sp1, 5, (0, 0)⟩]
  refine JL_step (Step_callN 98 [Ptr nb3 0] _ (Cl_func [Ptr nb3 0] Tryd.call98 rfl) (fun w1 hw1 => done_c nb3 nb4 8 cp1 (numN 8 x 8) w1 (RdA.of hw1 (MemAt.ent 2 rfl (Seg.whole _)) (by simp)) (numN_len _ _ _) (by omega) (RdB.of hw1 (MemAt.ent 3 rfl (Seg.left (Seg.whole _))) (by simp)))) rfl ?_
  rintro v1 L1 ⟨_, ⟨nb5, sp2, cp2, rfl, rfl, hc4, hc5, hc6⟩, rfl⟩
  show JL _ _ _ _ ((14, .tuple #[Slc nb5 0 8 cp2, .nilIface]) :: _) [⟨nb1, cu8 s, 25, (0, 0)⟩, ⟨nb2, cu8 (zr8 32), 25, (0, 0)⟩, ⟨nb3, [.nilIface, Slc nb4 0 8 cp1], 138, (0, 0)⟩, ⟨nb4, cu8 (numN 8 x 8) ++ sp1, 5, (0, 0)⟩, ⟨nb5, cu8 (numN 8 x 8) ++ sp2, 5, (0, 0)⟩]
  refine JL_val _ (Ev_move rfl) rfl ?_
  refine JL_val _ (Ev_extract rfl rfl) rfl ?_
  refine JL_val _ (Ev_extract rfl rfl) rfl ?_
  refine JL_val _ (Ev_assign rfl) rfl ?_
  refine JL_val _ (Ev_assign rfl) rfl ?_
  refine JL_nil ?_
  refine JQ_then ?_
  refine JC_seq ?_
  refine JC_seq ?_
  refine JC_region ?_
  refine JL_val _ (Ev_move rfl) rfl ?_
  refine JL_val (.bool false) (Ev_bin _ _ _ rfl rfl (fun _ => eqGuard_nn ..) fun _ => neq_if_nil_nil Tryd.underlying39) rfl ?_
  refine JL_nil ?_
  refine JQ_then ?_
  refine JC_condF _ rfl rfl ?_
  refine JC_skip ?_
  refine JQ_then ?_
  refine JC_seq ?_
  refine JC_region ?_
  refine JL_val (Slc nb1 0 32 32) (Ev_sliceA 32 5 1 0 32 0 32 Tryd.underlying25 Tryd.sizeOf5 rfl rfl rfl (by omega) (by omega) (by omega) (by omega) (by omega) 32 (by omega)) rfl ?_
  refine JL_val _ (Ev_move rfl) rfl ?_
  refine JL_step (Step_buildSlice 22 1 _ [(0, Slc nb5 0 8 cp2)] ([Slc nb5 0 8 cp2]) Tryd.underlying125 Tryd.sizeOf22 Tryd.zeroValue22 rfl rfl rfl (by kernel_rfl)) rfl ?_
  rintro v1 L1 ⟨nb6, hnb6, rfl, rfl⟩
  show JL _ _ _ _ ((22, Slc nb6 0 1 1) :: _) [⟨nb1, cu8 s, 25, (0, 0)⟩, ⟨nb2, cu8 (zr8 32), 25, (0, 0)⟩, ⟨nb3, [.nilIface, Slc nb4 0 8 cp1], 138, (0, 0)⟩, ⟨nb4, cu8 (numN 8 x 8) ++ sp1, 5, (0, 0)⟩, ⟨nb5, cu8 (numN 8 x 8) ++ sp2, 5, (0, 0)⟩, ⟨nb6, [Slc nb5 0 8 cp2], 22, (0, 0)⟩]
  refine JL_step (Step_callP 39 [Slc nb1 0 32 32, Slc nb6 0 1 1] (.agg (cu8 (macL s ([numN 8 x 8].flatten))).toArray) (Cl_func [Slc nb1 0 32 32, Slc nb6 0 1 1] Tryd.call39 rfl) (fun w1 hw1 => mac_c (some ⟨nb1, 0, none⟩) 32 32 s nb6 1 [Slc nb5 0 8 cp2] [numN 8 x 8] w1 hs (fun h => by cases h) (by omega) (RdB.of hw1 (MemAt.ent 0 rfl (Seg.whole _)) (by simp)) (by simp) (by simp) (by simp) ⟨RdA.of hw1 (MemAt.ent 5 rfl (Seg.head)) (by simp), ⟨⟨(some ⟨nb5, 0, none⟩), cp2, congrArg (fun n => Value.slice (some ⟨nb5, 0, none⟩) n cp2) ((numN_len _ _ _)).symm, (RdB.of hw1 (MemAt.ent 4 rfl (Seg.left (Seg.whole _))) (by simp))⟩, trivial⟩⟩ (by simp only [List.flatten_cons, List.flatten_nil, List.length_append, List.length_nil, (numN_len _ _ _)]; omega) (hG.at hw1))) rfl ?_
  rintro v1 L1 ⟨rfl, rfl⟩
  show JL _ _ _ _ ((23, .agg (cu8 (macL s ([numN 8 x 8].flatten))).toArray) :: _) [⟨nb1, cu8 s, 25, (0, 0)⟩, ⟨nb2, cu8 (zr8 32), 25, (0, 0)⟩, ⟨nb3, [.nilIface, Slc nb4 0 8 cp1], 138, (0, 0)⟩, ⟨nb4, cu8 (numN 8 x 8) ++ sp1, 5, (0, 0)⟩, ⟨nb5, cu8 (numN 8 x 8) ++ sp2, 5, (0, 0)⟩, ⟨nb6, [Slc nb5 0 8 cp2], 22, (0, 0)⟩]
  refine JL_step (Step_store 1 nb2 0 32 (cu8 (zr8 32)) 25 (.agg (cu8 (macL s ([numN 8 x 8].flatten))).toArray) (cu8 (macL s ([numN 8 x 8].flatten))) (cu8 (macL s ([numN 8 x 8].flatten))) rfl rfl rfl (by first | rfl | simp) Tryd.sizeOf25 (len_cu8 (macL_len _ _)) (by first | exact one_u8 | exact one_u32 | exact one_u64 | (simp [cu8, cu32, cu64, Value.oneCell']; done)) (by simp [(zr8_len 32)]) (lay_whole (by simp [(zr8_len 32), (macL_len _ _)]))) rfl ?_
  rintro v1 L1 ⟨rfl, rfl⟩
  show JL _ _ _ _ _ [⟨nb1, cu8 s, 25, (0, 0)⟩, ⟨nb2, cu8 (macL s ([numN 8 x 8].flatten)), 25, (0, 0)⟩, ⟨nb3, [.nilIface, Slc nb4 0 8 cp1], 138, (0, 0)⟩, ⟨nb4, cu8 (numN 8 x 8) ++ sp1, 5, (0, 0)⟩, ⟨nb5, cu8 (numN 8 x 8) ++ sp2, 5, (0, 0)⟩, ⟨nb6, [Slc nb5 0 8 cp2], 22, (0, 0)⟩]
  refine JL_nil ?_
  refine JQ_then ?_
  refine JC_ret ?_
  refine JQ_ret (.agg (cu8 (macL s ([numN 8 x 8].flatten))).toArray) (res1 Tryd.results46 (RV_cell rfl (Ld_agg Tryd.isAgg25 Tryd.sizeOf25 (len_cu8 (macL_len _ _)) (MemAt.ent 1 rfl (Seg.whole _))))) fun w1 hw1 => ?_
  refine ⟨_, [], rfl, ⟨?_, rfl⟩, hw1.sub (by simp) (by simp)⟩
  first | rfl | (simp; done)

theorem rsession_c (s : List UInt8) (x : UInt64) (w : World) (hs : s.length = 32) (hGr : GLr w) (hGi : GLi w) : Calls Tryd.prog 47 #[.agg (cu8 s).toArray, U64 x] w (Post w [] (fun v L => v = .agg (cu8 (macL s (numN 8 x 8))).toArray ∧ L = [])) := by
  have hmx : maxLen = 9223372036854775807 := rfl
  refine enter w [] 9 [] [.agg (cu8 s).toArray, U64 x] Tryd.func47 rfl rfl (by simp) (Hp.start (by simp) (by simp) (by simp)) ?_
  show JC _ _ _ [(0, .agg (cu8 s).toArray), (1, U64 x)] _
  refine JC_seq ?_
  refine JC_region ?_
  refine JL_step (Step_box (.agg (cu8 s).toArray) (cu8 s) rfl (by first | rfl | simp)) rfl ?_
  rintro v1 L1 ⟨nb1, hnb1, rfl, rfl⟩
  show JL _ _ _ _ ((2, Ptr nb1 0) :: _) [⟨nb1, cu8 s, 25, (0, 0)⟩]
  refine JL_step (Step_alloc _ (cu8 (zr8 32)) Tryd.zeroValue25 (by kernel_rfl)) rfl ?_
  rintro v1 L1 ⟨nb2, hnb2, rfl, rfl⟩
  show JL _ _ _ _ ((4, Ptr nb2 0) :: _) [⟨nb1, cu8 s, 25, (0, 0)⟩, ⟨nb2, cu8 (zr8 32), 25, (0, 0)⟩]
  refine JL_nil ?_
  refine JQ_then ?_
  refine JC_seq ?_
  refine JC_draw 9 4 [(0, Slc nb1 0 32 32), (1, U64 x)] Tryd.mixed rfl (by decide +kernel) ?_
  refine DP_one ⟨[], [0, 1], [], [0, 1], [2]⟩ 2 _ rfl rfl (by decide +kernel) rfl ⟨⟨_, rfl, Qok_val rfl (Ev_sliceA 32 5 1 0 32 0 32 Tryd.underlying25 Tryd.sizeOf5 rfl rfl rfl (by omega) (by omega) (by omega) (by omega) (by omega) 32 (by omega))⟩, ⟨_, rfl, Qok_val rfl (Ev_move rfl)⟩, trivial⟩ rfl (Cok_step rfl (Step_callN 55 [U64 x, I64 (8:Int)] _ (Cl_func [U64 x, I64 (8:Int)] Tryd.call55 rfl) (fun w1 hw1 => rnum_c x w1))) ?_
  rintro v1 L1 ⟨_, ⟨nb3, rfl, rfl⟩, rfl⟩
  refine ⟨[], ?_⟩
  show DP _ _ _ _ _ _ _ _ [⟨nb1, cu8 s, 25, (0, 0)⟩, ⟨nb2, cu8 (zr8 32), 25, (0, 0)⟩, ⟨nb3, cu8 (numN 8 x 8), 5, (0, 0)⟩]
  refine DP_one ⟨[2], [0, 1], [1], [0], [3]⟩ 3 _ rfl rfl (by decide +kernel) rfl ⟨⟨_, rfl, Qok_val rfl (Ev_sliceA 32 5 1 0 32 0 32 Tryd.underlying25 Tryd.sizeOf5 rfl rfl rfl (by omega) (by omega) (by omega) (by omega) (by omega) 32 (by omega))⟩, trivial⟩ rfl (Cok_step rfl (Step_callP 37 [Slc nb1 0 32 32, Slc nb3 0 8 8] (.agg (cu8 (macL s (numN 8 x 8))).toArray) (Cl_func [Slc nb1 0 32 32, Slc nb3 0 8 8] Tryd.call37 rfl) (fun w1 hw1 => rmac_c (some ⟨nb1, 0, none⟩) 32 32 s (some ⟨nb3, 0, none⟩) 8 8 (numN 8 x 8) w1 hs (fun h => by cases h) (by omega) (RdB.of hw1 (MemAt.ent 0 rfl (Seg.whole _)) (by simp)) (numN_len _ _ _) (by omega) (RdB.of hw1 (MemAt.ent 2 rfl (Seg.whole _)) (by simp)) (GLr.at hw1 hGr) (GLi.at hw1 hGi)))) ?_
  rintro v1 L1 ⟨rfl, rfl⟩
  refine ⟨[], ?_⟩
  show DP _ _ _ _ _ _ _ _ [⟨nb1, cu8 s, 25, (0, 0)⟩, ⟨nb2, cu8 (zr8 32), 25, (0, 0)⟩, ⟨nb3, cu8 (numN 8 x 8), 5, (0, 0)⟩]
  refine DP_one ⟨[2, 3], [0, 1], [0, 1], [], [4]⟩ 4 _ rfl rfl (by decide +kernel) rfl trivial rfl (Cok_step rfl (Step_store 1 nb2 0 32 (cu8 (zr8 32)) 25 (.agg (cu8 (macL s (numN 8 x 8))).toArray) (cu8 (macL s (numN 8 x 8))) (cu8 (macL s (numN 8 x 8))) rfl rfl rfl (by first | rfl | simp) Tryd.sizeOf25 (len_cu8 (macL_len _ _)) (by first | exact one_u8 | exact one_u32 | exact one_u64 | (simp [cu8, cu32, cu64, Value.oneCell']; done)) (by simp [(zr8_len 32)]) (lay_whole (by simp [(zr8_len 32), (macL_len _ _)])))) ?_
  rintro v1 L1 ⟨rfl, rfl⟩
  refine ⟨[], ?_⟩
  show DP _ _ _ _ _ _ _ _ [⟨nb1, cu8 s, 25, (0, 0)⟩, ⟨nb2, cu8 (macL s (numN 8 x 8)), 25, (0, 0)⟩, ⟨nb3, cu8 (numN 8 x 8), 5, (0, 0)⟩]
  refine DP_end ⟨[2, 3, 4], [0, 1], [0, 1], [], []⟩ rfl rfl (by decide +kernel) rfl trivial ?_
  refine K_sub (F' := [(4, Ptr nb2 0)]) (Sub.cons (by kernel_rfl) (Sub.nil)) ?_
  show JQ _ _ _ [(4, Ptr nb2 0)] _
  refine JQ_then ?_
  refine JC_ret ?_
  refine JQ_ret (.agg (cu8 (macL s (numN 8 x 8))).toArray) (res1 Tryd.results47 (RV_cell rfl (Ld_agg Tryd.isAgg25 Tryd.sizeOf25 (len_cu8 (macL_len _ _)) (MemAt.ent 1 rfl (Seg.whole _))))) fun w1 hw1 => ?_
  refine ⟨_, [], rfl, ⟨?_, rfl⟩, hw1.sub (by simp) (by simp)⟩
  first | rfl | (simp; done)

theorem keysOf_c (k : List UInt8) (w : World) (hk : k.length = 16) (hG : GLs w) : Calls Tryd.prog 48 #[.agg (cu8 k).toArray] w (Post w [] (fun v L => v = .agg (cu8 (mid (macL k ([101, 110, 116, 114, 117, 115, 116, 32, 115, 101, 97, 108] : List UInt8)) 0 16) ++ cu8 (macL k ([101, 110, 116, 114, 117, 115, 116, 32, 116, 97, 103] : List UInt8)) ++ cu8 (macL k ([101, 110, 116, 114, 117, 115, 116, 32, 116, 105, 99, 107, 101, 116] : List UInt8)) ++ cu8 (macL k ([101, 110, 116, 114, 117, 115, 116, 32, 108, 105, 110, 107] : List UInt8))).toArray ∧ L = [])) := by
  refine enter w [] 16 [] [.agg (cu8 k).toArray] Tryd.func48 rfl rfl (by simp) (Hp.start (by simp) (by simp) (by simp)) ?_
  show JC _ _ _ [(0, .agg (cu8 k).toArray)] _
  refine JC_seq ?_
  refine JC_region ?_
  refine JL_step (Step_box (.agg (cu8 k).toArray) (cu8 k) rfl (by first | rfl | simp)) rfl ?_
  rintro v1 L1 ⟨nb1, hnb1, rfl, rfl⟩
  show JL _ _ _ _ ((1, Ptr nb1 0) :: _) [⟨nb1, cu8 k, 55, (0, 0)⟩]
  refine JL_step (Step_alloc _ (cu8 (zr8 16) ++ cu8 (zr8 32) ++ cu8 (zr8 32) ++ cu8 (zr8 32)) Tryd.zeroValue61 (by kernel_rfl)) rfl ?_
  rintro v1 L1 ⟨nb2, hnb2, rfl, rfl⟩
  show JL _ _ _ _ ((2, Ptr nb2 0) :: _) [⟨nb1, cu8 k, 55, (0, 0)⟩, ⟨nb2, cu8 (zr8 16) ++ cu8 (zr8 32) ++ cu8 (zr8 32) ++ cu8 (zr8 32), 61, (0, 0)⟩]
  refine JL_nil ?_
  refine JQ_then ?_
  refine JC_seq ?_
  refine JC_region ?_
  refine JL_val (.agg (cu8 k).toArray) (Ev_load rfl (Ld_agg Tryd.isAgg55 Tryd.sizeOf55 (len_cu8 hk) (MemAt.ent 0 rfl (Seg.whole _)))) rfl ?_
  refine JL_step (Step_callP 44 [.agg (cu8 k).toArray, .string (⟨⟨[101, 110, 116, 114, 117, 115, 116, 32, 115, 101, 97, 108]⟩⟩)] (.agg (cu8 (macL k ([101, 110, 116, 114, 117, 115, 116, 32, 115, 101, 97, 108] : List UInt8))).toArray) (Cl_func [.agg (cu8 k).toArray, .string (⟨⟨[101, 110, 116, 114, 117, 115, 116, 32, 115, 101, 97, 108]⟩⟩)] Tryd.call44 rfl) (fun w1 hw1 => label_c k ([101, 110, 116, 114, 117, 115, 116, 32, 115, 101, 97, 108] : List UInt8) w1 hk (by first | omega | (simp; done)) (hG.at hw1))) rfl ?_
  rintro v1 L1 ⟨rfl, rfl⟩
  show JL _ _ _ _ ((5, .agg (cu8 (macL k ([101, 110, 116, 114, 117, 115, 116, 32, 115, 101, 97, 108] : List UInt8))).toArray) :: _) [⟨nb1, cu8 k, 55, (0, 0)⟩, ⟨nb2, cu8 (zr8 16) ++ cu8 (zr8 32) ++ cu8 (zr8 32) ++ cu8 (zr8 32), 61, (0, 0)⟩]
  refine JL_step (Step_alloc _ (cu8 (zr8 32)) Tryd.zeroValue25 (by kernel_rfl)) rfl ?_
  rintro v1 L1 ⟨nb3, hnb3, rfl, rfl⟩
  show JL _ _ _ _ ((3, Ptr nb3 0) :: _) [⟨nb1, cu8 k, 55, (0, 0)⟩, ⟨nb2, cu8 (zr8 16) ++ cu8 (zr8 32) ++ cu8 (zr8 32) ++ cu8 (zr8 32), 61, (0, 0)⟩, ⟨nb3, cu8 (zr8 32), 25, (0, 0)⟩]
  refine JL_step (Step_store 2 nb3 0 32 (cu8 (zr8 32)) 25 (.agg (cu8 (macL k ([101, 110, 116, 114, 117, 115, 116, 32, 115, 101, 97, 108] : List UInt8))).toArray) (cu8 (macL k ([101, 110, 116, 114, 117, 115, 116, 32, 115, 101, 97, 108] : List UInt8))) (cu8 (macL k ([101, 110, 116, 114, 117, 115, 116, 32, 115, 101, 97, 108] : List UInt8))) rfl rfl rfl (by first | rfl | simp) Tryd.sizeOf25 (len_cu8 (macL_len _ _)) (by first | exact one_u8 | exact one_u32 | exact one_u64 | (simp [cu8, cu32, cu64, Value.oneCell']; done)) (by simp [(zr8_len 32)]) (lay_whole (by simp [(zr8_len 32), (macL_len _ _)]))) rfl ?_
  rintro v1 L1 ⟨rfl, rfl⟩
  show JL _ _ _ _ _ [⟨nb1, cu8 k, 55, (0, 0)⟩, ⟨nb2, cu8 (zr8 16) ++ cu8 (zr8 32) ++ cu8 (zr8 32) ++ cu8 (zr8 32), 61, (0, 0)⟩, ⟨nb3, cu8 (macL k ([101, 110, 116, 114, 117, 115, 116, 32, 115, 101, 97, 108] : List UInt8)), 25, (0, 0)⟩]
  refine JL_nil ?_
  refine JQ_then ?_
  refine JC_seq ?_
  have hl1 : (mid (macL k ([101, 110, 116, 114, 117, 115, 116, 32, 115, 101, 97, 108] : List UInt8)) 0 16).length = 16 := mid_len (by rw [(macL_len _ _)]; omega)
  refine JC_draw 16 5 [(0, Slc nb3 0 16 32), (1, Ptr nb3 0), (2, .agg (cu8 (mid (macL k ([101, 110, 116, 114, 117, 115, 116, 32, 115, 101, 97, 108] : List UInt8)) 0 16)).toArray), (3, .agg (cu8 k).toArray), (5, .agg (cu8 k).toArray), (7, .agg (cu8 k).toArray)] Tryd.mixed rfl (by decide +kernel) ?_
  have hl2 : (mid (macL k ([101, 110, 116, 114, 117, 115, 116, 32, 115, 101, 97, 108] : List UInt8)) 0 16).length = 16 := mid_len (by rw [(macL_len _ _)]; omega)
  refine DP_one ⟨[], [0, 1, 2, 3, 5, 7], [], [0, 1, 2, 3, 5, 7], [4]⟩ 4 _ rfl rfl (by decide +kernel) rfl ⟨⟨_, rfl, Qok_val rfl (Ev_sliceA 32 5 1 0 16 0 32 Tryd.underlying25 Tryd.sizeOf5 rfl rfl rfl (by omega) (by omega) (by omega) (by omega) (by omega) 16 (by omega))⟩, ⟨_, rfl, Qok_val rfl (Ev_s2ap 16 Tryd.underlying55 rfl (by omega))⟩, ⟨_, rfl, Qok_val rfl (Ev_load rfl (Ld_agg Tryd.isAgg55 Tryd.sizeOf55 (len_cu8 hl2) (MemAt.ent 2 rfl (segm_u8 0 16 (by rw [(macL_len _ _)]; omega)))))⟩, ⟨_, rfl, Qok_val rfl (Ev_load rfl (Ld_agg Tryd.isAgg55 Tryd.sizeOf55 (len_cu8 hk) (MemAt.ent 0 rfl (Seg.whole _))))⟩, ⟨_, rfl, Qok_val rfl (Ev_load rfl (Ld_agg Tryd.isAgg55 Tryd.sizeOf55 (len_cu8 hk) (MemAt.ent 0 rfl (Seg.whole _))))⟩, ⟨_, rfl, Qok_val rfl (Ev_load rfl (Ld_agg Tryd.isAgg55 Tryd.sizeOf55 (len_cu8 hk) (MemAt.ent 0 rfl (Seg.whole _))))⟩, trivial⟩ rfl (Cok_step rfl (Step_callP 44 [.agg (cu8 k).toArray, .string (⟨⟨[101, 110, 116, 114, 117, 115, 116, 32, 116, 97, 103]⟩⟩)] (.agg (cu8 (macL k ([101, 110, 116, 114, 117, 115, 116, 32, 116, 97, 103] : List UInt8))).toArray) (Cl_func [.agg (cu8 k).toArray, .string (⟨⟨[101, 110, 116, 114, 117, 115, 116, 32, 116, 97, 103]⟩⟩)] Tryd.call44 rfl) (fun w1 hw1 => label_c k ([101, 110, 116, 114, 117, 115, 116, 32, 116, 97, 103] : List UInt8) w1 hk (by first | omega | (simp; done)) (hG.at hw1)))) ?_
  rintro v1 L1 ⟨rfl, rfl⟩
  refine ⟨[], ?_⟩
  show DP _ _ _ _ _ _ _ _ [⟨nb1, cu8 k, 55, (0, 0)⟩, ⟨nb2, cu8 (zr8 16) ++ cu8 (zr8 32) ++ cu8 (zr8 32) ++ cu8 (zr8 32), 61, (0, 0)⟩, ⟨nb3, cu8 (macL k ([101, 110, 116, 114, 117, 115, 116, 32, 115, 101, 97, 108] : List UInt8)), 25, (0, 0)⟩]
  have hl3 : (mid (macL k ([101, 110, 116, 114, 117, 115, 116, 32, 115, 101, 97, 108] : List UInt8)) 0 16).length = 16 := mid_len (by rw [(macL_len _ _)]; omega)
  refine DP_one ⟨[4], [0, 1, 2, 3, 5, 7], [3], [0, 1, 2, 5, 7], [6]⟩ 6 _ rfl rfl (by decide +kernel) rfl ⟨⟨_, rfl, Qok_val rfl (Ev_sliceA 32 5 1 0 16 0 32 Tryd.underlying25 Tryd.sizeOf5 rfl rfl rfl (by omega) (by omega) (by omega) (by omega) (by omega) 16 (by omega))⟩, ⟨_, rfl, Qok_val rfl (Ev_s2ap 16 Tryd.underlying55 rfl (by omega))⟩, ⟨_, rfl, Qok_val rfl (Ev_load rfl (Ld_agg Tryd.isAgg55 Tryd.sizeOf55 (len_cu8 hl3) (MemAt.ent 2 rfl (segm_u8 0 16 (by rw [(macL_len _ _)]; omega)))))⟩, ⟨_, rfl, Qok_val rfl (Ev_load rfl (Ld_agg Tryd.isAgg55 Tryd.sizeOf55 (len_cu8 hk) (MemAt.ent 0 rfl (Seg.whole _))))⟩, ⟨_, rfl, Qok_val rfl (Ev_load rfl (Ld_agg Tryd.isAgg55 Tryd.sizeOf55 (len_cu8 hk) (MemAt.ent 0 rfl (Seg.whole _))))⟩, trivial⟩ rfl (Cok_step rfl (Step_callP 44 [.agg (cu8 k).toArray, .string (⟨⟨[101, 110, 116, 114, 117, 115, 116, 32, 116, 105, 99, 107, 101, 116]⟩⟩)] (.agg (cu8 (macL k ([101, 110, 116, 114, 117, 115, 116, 32, 116, 105, 99, 107, 101, 116] : List UInt8))).toArray) (Cl_func [.agg (cu8 k).toArray, .string (⟨⟨[101, 110, 116, 114, 117, 115, 116, 32, 116, 105, 99, 107, 101, 116]⟩⟩)] Tryd.call44 rfl) (fun w1 hw1 => label_c k ([101, 110, 116, 114, 117, 115, 116, 32, 116, 105, 99, 107, 101, 116] : List UInt8) w1 hk (by first | omega | (simp; done)) (hG.at hw1)))) ?_
  rintro v1 L1 ⟨rfl, rfl⟩
  refine ⟨[], ?_⟩
  show DP _ _ _ _ _ _ _ _ [⟨nb1, cu8 k, 55, (0, 0)⟩, ⟨nb2, cu8 (zr8 16) ++ cu8 (zr8 32) ++ cu8 (zr8 32) ++ cu8 (zr8 32), 61, (0, 0)⟩, ⟨nb3, cu8 (macL k ([101, 110, 116, 114, 117, 115, 116, 32, 115, 101, 97, 108] : List UInt8)), 25, (0, 0)⟩]
  have hl4 : (mid (macL k ([101, 110, 116, 114, 117, 115, 116, 32, 115, 101, 97, 108] : List UInt8)) 0 16).length = 16 := mid_len (by rw [(macL_len _ _)]; omega)
  refine DP_one ⟨[4, 6], [0, 1, 2, 3, 5, 7], [3, 5], [0, 1, 2, 7], [8]⟩ 8 _ rfl rfl (by decide +kernel) rfl ⟨⟨_, rfl, Qok_val rfl (Ev_sliceA 32 5 1 0 16 0 32 Tryd.underlying25 Tryd.sizeOf5 rfl rfl rfl (by omega) (by omega) (by omega) (by omega) (by omega) 16 (by omega))⟩, ⟨_, rfl, Qok_val rfl (Ev_s2ap 16 Tryd.underlying55 rfl (by omega))⟩, ⟨_, rfl, Qok_val rfl (Ev_load rfl (Ld_agg Tryd.isAgg55 Tryd.sizeOf55 (len_cu8 hl4) (MemAt.ent 2 rfl (segm_u8 0 16 (by rw [(macL_len _ _)]; omega)))))⟩, ⟨_, rfl, Qok_val rfl (Ev_load rfl (Ld_agg Tryd.isAgg55 Tryd.sizeOf55 (len_cu8 hk) (MemAt.ent 0 rfl (Seg.whole _))))⟩, trivial⟩ rfl (Cok_step rfl (Step_callP 44 [.agg (cu8 k).toArray, .string (⟨⟨[101, 110, 116, 114, 117, 115, 116, 32, 108, 105, 110, 107]⟩⟩)] (.agg (cu8 (macL k ([101, 110, 116, 114, 117, 115, 116, 32, 108, 105, 110, 107] : List UInt8))).toArray) (Cl_func [.agg (cu8 k).toArray, .string (⟨⟨[101, 110, 116, 114, 117, 115, 116, 32, 108, 105, 110, 107]⟩⟩)] Tryd.call44 rfl) (fun w1 hw1 => label_c k ([101, 110, 116, 114, 117, 115, 116, 32, 108, 105, 110, 107] : List UInt8) w1 hk (by first | omega | (simp; done)) (hG.at hw1)))) ?_
  rintro v1 L1 ⟨rfl, rfl⟩
  refine ⟨[(9, .agg (cu8 (mid (macL k ([101, 110, 116, 114, 117, 115, 116, 32, 115, 101, 97, 108] : List UInt8)) 0 16) ++ cu8 (macL k ([101, 110, 116, 114, 117, 115, 116, 32, 116, 97, 103] : List UInt8)) ++ cu8 (macL k ([101, 110, 116, 114, 117, 115, 116, 32, 116, 105, 99, 107, 101, 116] : List UInt8)) ++ cu8 (macL k ([101, 110, 116, 114, 117, 115, 116, 32, 108, 105, 110, 107] : List UInt8))).toArray)], ?_⟩
  show DP _ _ _ _ _ _ _ _ [⟨nb1, cu8 k, 55, (0, 0)⟩, ⟨nb2, cu8 (zr8 16) ++ cu8 (zr8 32) ++ cu8 (zr8 32) ++ cu8 (zr8 32), 61, (0, 0)⟩, ⟨nb3, cu8 (macL k ([101, 110, 116, 114, 117, 115, 116, 32, 115, 101, 97, 108] : List UInt8)), 25, (0, 0)⟩]
  have hl5 : (mid (macL k ([101, 110, 116, 114, 117, 115, 116, 32, 115, 101, 97, 108] : List UInt8)) 0 16).length = 16 := mid_len (by rw [(macL_len _ _)]; omega)
  refine DP_one ⟨[4, 6, 8], [0, 1, 2, 3, 5, 7, 9], [3, 5, 7], [0, 1, 2, 9], [10]⟩ 10 _ rfl rfl (by decide +kernel) rfl ⟨⟨_, rfl, Qok_val rfl (Ev_sliceA 32 5 1 0 16 0 32 Tryd.underlying25 Tryd.sizeOf5 rfl rfl rfl (by omega) (by omega) (by omega) (by omega) (by omega) 16 (by omega))⟩, ⟨_, rfl, Qok_val rfl (Ev_s2ap 16 Tryd.underlying55 rfl (by omega))⟩, ⟨_, rfl, Qok_val rfl (Ev_load rfl (Ld_agg Tryd.isAgg55 Tryd.sizeOf55 (len_cu8 hl5) (MemAt.ent 2 rfl (segm_u8 0 16 (by rw [(macL_len _ _)]; omega)))))⟩, ⟨_, rfl, Qok_val rfl (Ev_build [(0, .agg (cu8 (mid (macL k ([101, 110, 116, 114, 117, 115, 116, 32, 115, 101, 97, 108] : List UInt8)) 0 16)).toArray), (1, .agg (cu8 (macL k ([101, 110, 116, 114, 117, 115, 116, 32, 116, 97, 103] : List UInt8))).toArray), (2, .agg (cu8 (macL k ([101, 110, 116, 114, 117, 115, 116, 32, 116, 105, 99, 107, 101, 116] : List UInt8))).toArray), (3, .agg (cu8 (macL k ([101, 110, 116, 114, 117, 115, 116, 32, 108, 105, 110, 107] : List UInt8))).toArray)] _ rfl (fun _ => run_build_struct (places := #[(0, 16), (16, 32), (48, 32), (80, 32)]) (z := .agg ((List.replicate 16 (U8 0) ++ (List.replicate 32 (U8 0) ++ (List.replicate 32 (U8 0) ++ (List.replicate 32 (U8 0) ++ []))))).toArray) (fun _ => by kernel_rfl) Tryd.underlying61 (fun _ => by kernel_rfl) ((fill_step ([]) (List.replicate 16 (U8 0)) (List.replicate 32 (U8 0) ++ (List.replicate 32 (U8 0) ++ (List.replicate 32 (U8 0) ++ []))) (cu8 (mid (macL k ([101, 110, 116, 114, 117, 115, 116, 32, 115, 101, 97, 108] : List UInt8)) 0 16)) rfl (by simp [hl1]) (by simp [hl1])).trans ((fill_step (([]) ++ (cu8 (mid (macL k ([101, 110, 116, 114, 117, 115, 116, 32, 115, 101, 97, 108] : List UInt8)) 0 16))) (List.replicate 32 (U8 0)) (List.replicate 32 (U8 0) ++ (List.replicate 32 (U8 0) ++ [])) (cu8 (macL k ([101, 110, 116, 114, 117, 115, 116, 32, 116, 97, 103] : List UInt8))) rfl (by simp [hl1, (macL_len _ _)]) (by simp [(macL_len _ _)])).trans ((fill_step ((([]) ++ (cu8 (mid (macL k ([101, 110, 116, 114, 117, 115, 116, 32, 115, 101, 97, 108] : List UInt8)) 0 16))) ++ (cu8 (macL k ([101, 110, 116, 114, 117, 115, 116, 32, 116, 97, 103] : List UInt8)))) (List.replicate 32 (U8 0)) (List.replicate 32 (U8 0) ++ []) (cu8 (macL k ([101, 110, 116, 114, 117, 115, 116, 32, 116, 105, 99, 107, 101, 116] : List UInt8))) rfl (by simp [hl1, (macL_len _ _), (macL_len _ _)]) (by simp [(macL_len _ _)])).trans ((fill_step (((([]) ++ (cu8 (mid (macL k ([101, 110, 116, 114, 117, 115, 116, 32, 115, 101, 97, 108] : List UInt8)) 0 16))) ++ (cu8 (macL k ([101, 110, 116, 114, 117, 115, 116, 32, 116, 97, 103] : List UInt8)))) ++ (cu8 (macL k ([101, 110, 116, 114, 117, 115, 116, 32, 116, 105, 99, 107, 101, 116] : List UInt8)))) (List.replicate 32 (U8 0)) [] (cu8 (macL k ([101, 110, 116, 114, 117, 115, 116, 32, 108, 105, 110, 107] : List UInt8))) rfl (by simp [hl1, (macL_len _ _), (macL_len _ _), (macL_len _ _)]) (by simp [(macL_len _ _)])).trans (by simp [Instr.fill])))))))⟩, trivial⟩ rfl (Cok_step rfl (Step_store 1 nb2 0 112 (cu8 (zr8 16) ++ cu8 (zr8 32) ++ cu8 (zr8 32) ++ cu8 (zr8 32)) 61 (.agg (cu8 (mid (macL k ([101, 110, 116, 114, 117, 115, 116, 32, 115, 101, 97, 108] : List UInt8)) 0 16) ++ cu8 (macL k ([101, 110, 116, 114, 117, 115, 116, 32, 116, 97, 103] : List UInt8)) ++ cu8 (macL k ([101, 110, 116, 114, 117, 115, 116, 32, 116, 105, 99, 107, 101, 116] : List UInt8)) ++ cu8 (macL k ([101, 110, 116, 114, 117, 115, 116, 32, 108, 105, 110, 107] : List UInt8))).toArray) (cu8 (mid (macL k ([101, 110, 116, 114, 117, 115, 116, 32, 115, 101, 97, 108] : List UInt8)) 0 16) ++ cu8 (macL k ([101, 110, 116, 114, 117, 115, 116, 32, 116, 97, 103] : List UInt8)) ++ cu8 (macL k ([101, 110, 116, 114, 117, 115, 116, 32, 116, 105, 99, 107, 101, 116] : List UInt8)) ++ cu8 (macL k ([101, 110, 116, 114, 117, 115, 116, 32, 108, 105, 110, 107] : List UInt8))) (cu8 (mid (macL k ([101, 110, 116, 114, 117, 115, 116, 32, 115, 101, 97, 108] : List UInt8)) 0 16) ++ cu8 (macL k ([101, 110, 116, 114, 117, 115, 116, 32, 116, 97, 103] : List UInt8)) ++ cu8 (macL k ([101, 110, 116, 114, 117, 115, 116, 32, 116, 105, 99, 107, 101, 116] : List UInt8)) ++ cu8 (macL k ([101, 110, 116, 114, 117, 115, 116, 32, 108, 105, 110, 107] : List UInt8))) rfl rfl rfl (by first | rfl | simp) Tryd.sizeOf61 (by simp [hl1, (macL_len _ _), (macL_len _ _), (macL_len _ _)]) (by simp only [← cu8_app]; exact one_u8) (by simp [(zr8_len 16), (zr8_len 32), (zr8_len 32), (zr8_len 32)]) (lay_whole (by simp [(zr8_len 16), (zr8_len 32), (zr8_len 32), (zr8_len 32), hl1, (macL_len _ _), (macL_len _ _), (macL_len _ _)])))) ?_
  rintro v1 L1 ⟨rfl, rfl⟩
  refine ⟨[], ?_⟩
  show DP _ _ _ _ _ _ _ _ [⟨nb1, cu8 k, 55, (0, 0)⟩, ⟨nb2, cu8 (mid (macL k ([101, 110, 116, 114, 117, 115, 116, 32, 115, 101, 97, 108] : List UInt8)) 0 16) ++ cu8 (macL k ([101, 110, 116, 114, 117, 115, 116, 32, 116, 97, 103] : List UInt8)) ++ cu8 (macL k ([101, 110, 116, 114, 117, 115, 116, 32, 116, 105, 99, 107, 101, 116] : List UInt8)) ++ cu8 (macL k ([101, 110, 116, 114, 117, 115, 116, 32, 108, 105, 110, 107] : List UInt8)), 61, (0, 0)⟩, ⟨nb3, cu8 (macL k ([101, 110, 116, 114, 117, 115, 116, 32, 115, 101, 97, 108] : List UInt8)), 25, (0, 0)⟩]
  refine DP_end ⟨[4, 6, 8, 10], [0, 1, 2, 3, 5, 7, 9], [0, 1, 2, 3, 5, 7, 9], [], []⟩ rfl rfl (by decide +kernel) rfl trivial ?_
  refine K_sub (F' := [(2, Ptr nb2 0)]) (Sub.cons (by kernel_rfl) (Sub.nil)) ?_
  show JQ _ _ _ [(2, Ptr nb2 0)] _
  refine JQ_then ?_
  refine JC_ret ?_
  refine JQ_ret (.agg (cu8 (mid (macL k ([101, 110, 116, 114, 117, 115, 116, 32, 115, 101, 97, 108] : List UInt8)) 0 16) ++ cu8 (macL k ([101, 110, 116, 114, 117, 115, 116, 32, 116, 97, 103] : List UInt8)) ++ cu8 (macL k ([101, 110, 116, 114, 117, 115, 116, 32, 116, 105, 99, 107, 101, 116] : List UInt8)) ++ cu8 (macL k ([101, 110, 116, 114, 117, 115, 116, 32, 108, 105, 110, 107] : List UInt8))).toArray) (res1 Tryd.results48 (RV_cell rfl (Ld_agg Tryd.isAgg61 Tryd.sizeOf61 (by simp [hl1, (macL_len _ _), (macL_len _ _), (macL_len _ _)]) (MemAt.ent 1 rfl (Seg.whole _))))) fun w1 hw1 => ?_
  exact ⟨_, [], rfl, ⟨rfl, rfl⟩, hw1.sub (by simp) (by simp)⟩

theorem rlink_c (k : List UInt8) (w : World) (hk : k.length = 16) (hGr : GLr w) (hGi : GLi w) : Calls Tryd.prog 49 #[.agg (cu8 k).toArray] w (Post w [] (fun v L => v = .agg (cu8 (macL k ([101, 110, 116, 114, 117, 115, 116, 32, 108, 105, 110, 107] : List UInt8))).toArray ∧ L = [])) := by
  refine enter w [] 5 [] [.agg (cu8 k).toArray] Tryd.func49 rfl rfl (by simp) (Hp.start (by simp) (by simp) (by simp)) ?_
  show JC _ _ _ [(0, .agg (cu8 k).toArray)] _
  refine JC_seq ?_
  refine JC_region ?_
  refine JL_step (Step_box (.agg (cu8 k).toArray) (cu8 k) rfl (by first | rfl | simp)) rfl ?_
  rintro v1 L1 ⟨nb1, hnb1, rfl, rfl⟩
  show JL _ _ _ _ ((1, Ptr nb1 0) :: _) [⟨nb1, cu8 k, 55, (0, 0)⟩]
  refine JL_step (Step_alloc _ (cu8 (zr8 32)) Tryd.zeroValue25 (by kernel_rfl)) rfl ?_
  rintro v1 L1 ⟨nb2, hnb2, rfl, rfl⟩
  show JL _ _ _ _ ((2, Ptr nb2 0) :: _) [⟨nb1, cu8 k, 55, (0, 0)⟩, ⟨nb2, cu8 (zr8 32), 25, (0, 0)⟩]
  refine JL_nil ?_
  refine JQ_then ?_
  refine JC_seq ?_
  refine JC_region ?_
  refine JL_val (.agg (cu8 k).toArray) (Ev_load rfl (Ld_agg Tryd.isAgg55 Tryd.sizeOf55 (len_cu8 hk) (MemAt.ent 0 rfl (Seg.whole _)))) rfl ?_
  refine JL_step (Step_callP 45 [.agg (cu8 k).toArray, .string (⟨⟨[101, 110, 116, 114, 117, 115, 116, 32, 108, 105, 110, 107]⟩⟩)] (.agg (cu8 (macL k ([101, 110, 116, 114, 117, 115, 116, 32, 108, 105, 110, 107] : List UInt8))).toArray) (Cl_func [.agg (cu8 k).toArray, .string (⟨⟨[101, 110, 116, 114, 117, 115, 116, 32, 108, 105, 110, 107]⟩⟩)] Tryd.call45 rfl) (fun w1 hw1 => rlabel_c k ([101, 110, 116, 114, 117, 115, 116, 32, 108, 105, 110, 107] : List UInt8) w1 hk (by first | omega | (simp; done)) (GLr.at hw1 hGr) (GLi.at hw1 hGi))) rfl ?_
  rintro v1 L1 ⟨rfl, rfl⟩
  show JL _ _ _ _ ((4, .agg (cu8 (macL k ([101, 110, 116, 114, 117, 115, 116, 32, 108, 105, 110, 107] : List UInt8))).toArray) :: _) [⟨nb1, cu8 k, 55, (0, 0)⟩, ⟨nb2, cu8 (zr8 32), 25, (0, 0)⟩]
  refine JL_step (Step_store 1 nb2 0 32 (cu8 (zr8 32)) 25 (.agg (cu8 (macL k ([101, 110, 116, 114, 117, 115, 116, 32, 108, 105, 110, 107] : List UInt8))).toArray) (cu8 (macL k ([101, 110, 116, 114, 117, 115, 116, 32, 108, 105, 110, 107] : List UInt8))) (cu8 (macL k ([101, 110, 116, 114, 117, 115, 116, 32, 108, 105, 110, 107] : List UInt8))) rfl rfl rfl (by first | rfl | simp) Tryd.sizeOf25 (len_cu8 (macL_len _ _)) (by first | exact one_u8 | exact one_u32 | exact one_u64 | (simp [cu8, cu32, cu64, Value.oneCell']; done)) (by simp [(zr8_len 32)]) (lay_whole (by simp [(zr8_len 32), (macL_len _ _)]))) rfl ?_
  rintro v1 L1 ⟨rfl, rfl⟩
  show JL _ _ _ _ _ [⟨nb1, cu8 k, 55, (0, 0)⟩, ⟨nb2, cu8 (macL k ([101, 110, 116, 114, 117, 115, 116, 32, 108, 105, 110, 107] : List UInt8)), 25, (0, 0)⟩]
  refine JL_nil ?_
  refine JQ_then ?_
  refine JC_ret ?_
  refine JQ_ret (.agg (cu8 (macL k ([101, 110, 116, 114, 117, 115, 116, 32, 108, 105, 110, 107] : List UInt8))).toArray) (res1 Tryd.results49 (RV_cell rfl (Ld_agg Tryd.isAgg25 Tryd.sizeOf25 (len_cu8 (macL_len _ _)) (MemAt.ent 1 rfl (Seg.whole _))))) fun w1 hw1 => ?_
  exact ⟨_, [], rfl, ⟨rfl, rfl⟩, hw1.sub (by simp) (by simp)⟩

theorem rtag_c (k : List UInt8) (w : World) (hk : k.length = 16) (hGr : GLr w) (hGi : GLi w) : Calls Tryd.prog 51 #[.agg (cu8 k).toArray] w (Post w [] (fun v L => v = .agg (cu8 (macL k ([101, 110, 116, 114, 117, 115, 116, 32, 116, 97, 103] : List UInt8))).toArray ∧ L = [])) := by
  refine enter w [] 5 [] [.agg (cu8 k).toArray] Tryd.func51 rfl rfl (by simp) (Hp.start (by simp) (by simp) (by simp)) ?_
  show JC _ _ _ [(0, .agg (cu8 k).toArray)] _
  refine JC_seq ?_
  refine JC_region ?_
  refine JL_step (Step_box (.agg (cu8 k).toArray) (cu8 k) rfl (by first | rfl | simp)) rfl ?_
  rintro v1 L1 ⟨nb1, hnb1, rfl, rfl⟩
  show JL _ _ _ _ ((1, Ptr nb1 0) :: _) [⟨nb1, cu8 k, 55, (0, 0)⟩]
  refine JL_step (Step_alloc _ (cu8 (zr8 32)) Tryd.zeroValue25 (by kernel_rfl)) rfl ?_
  rintro v1 L1 ⟨nb2, hnb2, rfl, rfl⟩
  show JL _ _ _ _ ((2, Ptr nb2 0) :: _) [⟨nb1, cu8 k, 55, (0, 0)⟩, ⟨nb2, cu8 (zr8 32), 25, (0, 0)⟩]
  refine JL_nil ?_
  refine JQ_then ?_
  refine JC_seq ?_
  refine JC_region ?_
  refine JL_val (.agg (cu8 k).toArray) (Ev_load rfl (Ld_agg Tryd.isAgg55 Tryd.sizeOf55 (len_cu8 hk) (MemAt.ent 0 rfl (Seg.whole _)))) rfl ?_
  refine JL_step (Step_callP 45 [.agg (cu8 k).toArray, .string (⟨⟨[101, 110, 116, 114, 117, 115, 116, 32, 116, 97, 103]⟩⟩)] (.agg (cu8 (macL k ([101, 110, 116, 114, 117, 115, 116, 32, 116, 97, 103] : List UInt8))).toArray) (Cl_func [.agg (cu8 k).toArray, .string (⟨⟨[101, 110, 116, 114, 117, 115, 116, 32, 116, 97, 103]⟩⟩)] Tryd.call45 rfl) (fun w1 hw1 => rlabel_c k ([101, 110, 116, 114, 117, 115, 116, 32, 116, 97, 103] : List UInt8) w1 hk (by first | omega | (simp; done)) (GLr.at hw1 hGr) (GLi.at hw1 hGi))) rfl ?_
  rintro v1 L1 ⟨rfl, rfl⟩
  show JL _ _ _ _ ((4, .agg (cu8 (macL k ([101, 110, 116, 114, 117, 115, 116, 32, 116, 97, 103] : List UInt8))).toArray) :: _) [⟨nb1, cu8 k, 55, (0, 0)⟩, ⟨nb2, cu8 (zr8 32), 25, (0, 0)⟩]
  refine JL_step (Step_store 1 nb2 0 32 (cu8 (zr8 32)) 25 (.agg (cu8 (macL k ([101, 110, 116, 114, 117, 115, 116, 32, 116, 97, 103] : List UInt8))).toArray) (cu8 (macL k ([101, 110, 116, 114, 117, 115, 116, 32, 116, 97, 103] : List UInt8))) (cu8 (macL k ([101, 110, 116, 114, 117, 115, 116, 32, 116, 97, 103] : List UInt8))) rfl rfl rfl (by first | rfl | simp) Tryd.sizeOf25 (len_cu8 (macL_len _ _)) (by first | exact one_u8 | exact one_u32 | exact one_u64 | (simp [cu8, cu32, cu64, Value.oneCell']; done)) (by simp [(zr8_len 32)]) (lay_whole (by simp [(zr8_len 32), (macL_len _ _)]))) rfl ?_
  rintro v1 L1 ⟨rfl, rfl⟩
  show JL _ _ _ _ _ [⟨nb1, cu8 k, 55, (0, 0)⟩, ⟨nb2, cu8 (macL k ([101, 110, 116, 114, 117, 115, 116, 32, 116, 97, 103] : List UInt8)), 25, (0, 0)⟩]
  refine JL_nil ?_
  refine JQ_then ?_
  refine JC_ret ?_
  refine JQ_ret (.agg (cu8 (macL k ([101, 110, 116, 114, 117, 115, 116, 32, 116, 97, 103] : List UInt8))).toArray) (res1 Tryd.results51 (RV_cell rfl (Ld_agg Tryd.isAgg25 Tryd.sizeOf25 (len_cu8 (macL_len _ _)) (MemAt.ent 1 rfl (Seg.whole _))))) fun w1 hw1 => ?_
  exact ⟨_, [], rfl, ⟨rfl, rfl⟩, hw1.sub (by simp) (by simp)⟩

theorem rticket_c (k : List UInt8) (w : World) (hk : k.length = 16) (hGr : GLr w) (hGi : GLi w) : Calls Tryd.prog 52 #[.agg (cu8 k).toArray] w (Post w [] (fun v L => v = .agg (cu8 (macL k ([101, 110, 116, 114, 117, 115, 116, 32, 116, 105, 99, 107, 101, 116] : List UInt8))).toArray ∧ L = [])) := by
  refine enter w [] 5 [] [.agg (cu8 k).toArray] Tryd.func52 rfl rfl (by simp) (Hp.start (by simp) (by simp) (by simp)) ?_
  show JC _ _ _ [(0, .agg (cu8 k).toArray)] _
  refine JC_seq ?_
  refine JC_region ?_
  refine JL_step (Step_box (.agg (cu8 k).toArray) (cu8 k) rfl (by first | rfl | simp)) rfl ?_
  rintro v1 L1 ⟨nb1, hnb1, rfl, rfl⟩
  show JL _ _ _ _ ((1, Ptr nb1 0) :: _) [⟨nb1, cu8 k, 55, (0, 0)⟩]
  refine JL_step (Step_alloc _ (cu8 (zr8 32)) Tryd.zeroValue25 (by kernel_rfl)) rfl ?_
  rintro v1 L1 ⟨nb2, hnb2, rfl, rfl⟩
  show JL _ _ _ _ ((2, Ptr nb2 0) :: _) [⟨nb1, cu8 k, 55, (0, 0)⟩, ⟨nb2, cu8 (zr8 32), 25, (0, 0)⟩]
  refine JL_nil ?_
  refine JQ_then ?_
  refine JC_seq ?_
  refine JC_region ?_
  refine JL_val (.agg (cu8 k).toArray) (Ev_load rfl (Ld_agg Tryd.isAgg55 Tryd.sizeOf55 (len_cu8 hk) (MemAt.ent 0 rfl (Seg.whole _)))) rfl ?_
  refine JL_step (Step_callP 45 [.agg (cu8 k).toArray, .string (⟨⟨[101, 110, 116, 114, 117, 115, 116, 32, 116, 105, 99, 107, 101, 116]⟩⟩)] (.agg (cu8 (macL k ([101, 110, 116, 114, 117, 115, 116, 32, 116, 105, 99, 107, 101, 116] : List UInt8))).toArray) (Cl_func [.agg (cu8 k).toArray, .string (⟨⟨[101, 110, 116, 114, 117, 115, 116, 32, 116, 105, 99, 107, 101, 116]⟩⟩)] Tryd.call45 rfl) (fun w1 hw1 => rlabel_c k ([101, 110, 116, 114, 117, 115, 116, 32, 116, 105, 99, 107, 101, 116] : List UInt8) w1 hk (by first | omega | (simp; done)) (GLr.at hw1 hGr) (GLi.at hw1 hGi))) rfl ?_
  rintro v1 L1 ⟨rfl, rfl⟩
  show JL _ _ _ _ ((4, .agg (cu8 (macL k ([101, 110, 116, 114, 117, 115, 116, 32, 116, 105, 99, 107, 101, 116] : List UInt8))).toArray) :: _) [⟨nb1, cu8 k, 55, (0, 0)⟩, ⟨nb2, cu8 (zr8 32), 25, (0, 0)⟩]
  refine JL_step (Step_store 1 nb2 0 32 (cu8 (zr8 32)) 25 (.agg (cu8 (macL k ([101, 110, 116, 114, 117, 115, 116, 32, 116, 105, 99, 107, 101, 116] : List UInt8))).toArray) (cu8 (macL k ([101, 110, 116, 114, 117, 115, 116, 32, 116, 105, 99, 107, 101, 116] : List UInt8))) (cu8 (macL k ([101, 110, 116, 114, 117, 115, 116, 32, 116, 105, 99, 107, 101, 116] : List UInt8))) rfl rfl rfl (by first | rfl | simp) Tryd.sizeOf25 (len_cu8 (macL_len _ _)) (by first | exact one_u8 | exact one_u32 | exact one_u64 | (simp [cu8, cu32, cu64, Value.oneCell']; done)) (by simp [(zr8_len 32)]) (lay_whole (by simp [(zr8_len 32), (macL_len _ _)]))) rfl ?_
  rintro v1 L1 ⟨rfl, rfl⟩
  show JL _ _ _ _ _ [⟨nb1, cu8 k, 55, (0, 0)⟩, ⟨nb2, cu8 (macL k ([101, 110, 116, 114, 117, 115, 116, 32, 116, 105, 99, 107, 101, 116] : List UInt8)), 25, (0, 0)⟩]
  refine JL_nil ?_
  refine JQ_then ?_
  refine JC_ret ?_
  refine JQ_ret (.agg (cu8 (macL k ([101, 110, 116, 114, 117, 115, 116, 32, 116, 105, 99, 107, 101, 116] : List UInt8))).toArray) (res1 Tryd.results52 (RV_cell rfl (Ld_agg Tryd.isAgg25 Tryd.sizeOf25 (len_cu8 (macL_len _ _)) (MemAt.ent 1 rfl (Seg.whole _))))) fun w1 hw1 => ?_
  exact ⟨_, [], rfl, ⟨rfl, rfl⟩, hw1.sub (by simp) (by simp)⟩

theorem renc6_c (k : List UInt8) (w : World) (hk : k.length = 16) (hGr : GLr w) (hGi : GLi w) : Calls Tryd.prog 50 #[.agg (cu8 k).toArray] w (Post w [] (fun v L => v = .agg (cu8 (mid (macL k ([101, 110, 116, 114, 117, 115, 116, 32, 115, 101, 97, 108] : List UInt8)) 0 16)).toArray ∧ L = [])) := by
  refine enter w [] 11 [] [.agg (cu8 k).toArray] Tryd.func50 rfl rfl (by simp) (Hp.start (by simp) (by simp) (by simp)) ?_
  show JC _ _ _ [(0, .agg (cu8 k).toArray)] _
  refine JC_seq ?_
  refine JC_region ?_
  refine JL_step (Step_box (.agg (cu8 k).toArray) (cu8 k) rfl (by first | rfl | simp)) rfl ?_
  rintro v1 L1 ⟨nb1, hnb1, rfl, rfl⟩
  show JL _ _ _ _ ((1, Ptr nb1 0) :: _) [⟨nb1, cu8 k, 55, (0, 0)⟩]
  refine JL_step (Step_alloc _ (cu8 (zr8 16)) Tryd.zeroValue55 (by kernel_rfl)) rfl ?_
  rintro v1 L1 ⟨nb2, hnb2, rfl, rfl⟩
  show JL _ _ _ _ ((2, Ptr nb2 0) :: _) [⟨nb1, cu8 k, 55, (0, 0)⟩, ⟨nb2, cu8 (zr8 16), 55, (0, 0)⟩]
  refine JL_nil ?_
  refine JQ_then ?_
  refine JC_seq ?_
  refine JC_region ?_
  refine JL_val (.agg (cu8 k).toArray) (Ev_load rfl (Ld_agg Tryd.isAgg55 Tryd.sizeOf55 (len_cu8 hk) (MemAt.ent 0 rfl (Seg.whole _)))) rfl ?_
  refine JL_step (Step_callP 45 [.agg (cu8 k).toArray, .string (⟨⟨[101, 110, 116, 114, 117, 115, 116, 32, 115, 101, 97, 108]⟩⟩)] (.agg (cu8 (macL k ([101, 110, 116, 114, 117, 115, 116, 32, 115, 101, 97, 108] : List UInt8))).toArray) (Cl_func [.agg (cu8 k).toArray, .string (⟨⟨[101, 110, 116, 114, 117, 115, 116, 32, 115, 101, 97, 108]⟩⟩)] Tryd.call45 rfl) (fun w1 hw1 => rlabel_c k ([101, 110, 116, 114, 117, 115, 116, 32, 115, 101, 97, 108] : List UInt8) w1 hk (by first | omega | (simp; done)) (GLr.at hw1 hGr) (GLi.at hw1 hGi))) rfl ?_
  rintro v1 L1 ⟨rfl, rfl⟩
  show JL _ _ _ _ ((6, .agg (cu8 (macL k ([101, 110, 116, 114, 117, 115, 116, 32, 115, 101, 97, 108] : List UInt8))).toArray) :: _) [⟨nb1, cu8 k, 55, (0, 0)⟩, ⟨nb2, cu8 (zr8 16), 55, (0, 0)⟩]
  refine JL_step (Step_alloc _ (cu8 (zr8 32)) Tryd.zeroValue25 (by kernel_rfl)) rfl ?_
  rintro v1 L1 ⟨nb3, hnb3, rfl, rfl⟩
  show JL _ _ _ _ ((3, Ptr nb3 0) :: _) [⟨nb1, cu8 k, 55, (0, 0)⟩, ⟨nb2, cu8 (zr8 16), 55, (0, 0)⟩, ⟨nb3, cu8 (zr8 32), 25, (0, 0)⟩]
  refine JL_step (Step_store 2 nb3 0 32 (cu8 (zr8 32)) 25 (.agg (cu8 (macL k ([101, 110, 116, 114, 117, 115, 116, 32, 115, 101, 97, 108] : List UInt8))).toArray) (cu8 (macL k ([101, 110, 116, 114, 117, 115, 116, 32, 115, 101, 97, 108] : List UInt8))) (cu8 (macL k ([101, 110, 116, 114, 117, 115, 116, 32, 115, 101, 97, 108] : List UInt8))) rfl rfl rfl (by first | rfl | simp) Tryd.sizeOf25 (len_cu8 (macL_len _ _)) (by first | exact one_u8 | exact one_u32 | exact one_u64 | (simp [cu8, cu32, cu64, Value.oneCell']; done)) (by simp [(zr8_len 32)]) (lay_whole (by simp [(zr8_len 32), (macL_len _ _)]))) rfl ?_
  rintro v1 L1 ⟨rfl, rfl⟩
  show JL _ _ _ _ _ [⟨nb1, cu8 k, 55, (0, 0)⟩, ⟨nb2, cu8 (zr8 16), 55, (0, 0)⟩, ⟨nb3, cu8 (macL k ([101, 110, 116, 114, 117, 115, 116, 32, 115, 101, 97, 108] : List UInt8)), 25, (0, 0)⟩]
  refine JL_nil ?_
  refine JQ_then ?_
  refine JC_seq ?_
  refine JC_region ?_
  refine JL_step (Step_alloc _ (cu8 (zr8 16)) Tryd.zeroValue55 (by kernel_rfl)) rfl ?_
  rintro v1 L1 ⟨nb4, hnb4, rfl, rfl⟩
  show JL _ _ _ _ ((4, Ptr nb4 0) :: _) [⟨nb1, cu8 k, 55, (0, 0)⟩, ⟨nb2, cu8 (zr8 16), 55, (0, 0)⟩, ⟨nb3, cu8 (macL k ([101, 110, 116, 114, 117, 115, 116, 32, 115, 101, 97, 108] : List UInt8)), 25, (0, 0)⟩, ⟨nb4, cu8 (zr8 16), 55, (0, 0)⟩]
  refine JL_nil ?_
  refine JQ_then ?_
  refine JC_seq ?_
  refine JC_draw 11 2 [(0, Slc nb4 0 16 16), (1, Slc nb3 0 32 32)] Tryd.mixed rfl (by decide +kernel) ?_
  have hl1 : (mid (macL k ([101, 110, 116, 114, 117, 115, 116, 32, 115, 101, 97, 108] : List UInt8)) 0 16).length = 16 := mid_len (by rw [(macL_len _ _)]; omega)
  refine DP_one ⟨[], [0, 1], [], [0, 1], [2]⟩ 2 _ rfl rfl (by decide +kernel) rfl ⟨⟨_, rfl, Qok_val rfl (Ev_sliceA 16 5 1 0 16 0 16 Tryd.underlying55 Tryd.sizeOf5 rfl rfl rfl (by omega) (by omega) (by omega) (by omega) (by omega) 16 (by omega))⟩, ⟨_, rfl, Qok_val rfl (Ev_sliceA 32 5 1 0 32 0 32 Tryd.underlying25 Tryd.sizeOf5 rfl rfl rfl (by omega) (by omega) (by omega) (by omega) (by omega) 32 (by omega))⟩, trivial⟩ rfl (Cok_step rfl (Step_copy 22 22 5 3 nb4 0 16 16 (cu8 (zr8 16)) 55 (some ⟨nb3, 0, none⟩) 32 32 16 (cu8 (mid (macL k ([101, 110, 116, 114, 117, 115, 116, 32, 115, 101, 97, 108] : List UInt8)) 0 16)) (cu8 (mid (macL k ([101, 110, 116, 114, 117, 115, 116, 32, 115, 101, 97, 108] : List UInt8)) 0 16)) Tryd.underlying22 Tryd.size1_5 rfl rfl rfl (by rfl) (by simp [hl1]; try omega) (SrcAt.mem (MemAt.ent 2 rfl (segm_u8 0 16 (by rw [(macL_len _ _)]; omega)))) (by simp [(zr8_len 16)]; try omega) (by first | exact one_u8 | exact one_u32 | exact one_u64 | (simp [cu8, cu32, cu64, Value.oneCell']; done)) (lay_whole (by simp [(zr8_len 16), hl1])))) ?_
  rintro v1 L1 ⟨rfl, rfl⟩
  refine ⟨[], ?_⟩
  show DP _ _ _ _ _ _ _ _ [⟨nb1, cu8 k, 55, (0, 0)⟩, ⟨nb2, cu8 (zr8 16), 55, (0, 0)⟩, ⟨nb3, cu8 (macL k ([101, 110, 116, 114, 117, 115, 116, 32, 115, 101, 97, 108] : List UInt8)), 25, (0, 0)⟩, ⟨nb4, cu8 (mid (macL k ([101, 110, 116, 114, 117, 115, 116, 32, 115, 101, 97, 108] : List UInt8)) 0 16), 55, (0, 0)⟩]
  refine DP_end ⟨[2], [0, 1], [0, 1], [], []⟩ rfl rfl (by decide +kernel) rfl trivial ?_
  refine K_sub (F' := [(2, Ptr nb2 0), (4, Ptr nb4 0)]) (Sub.cons (by kernel_rfl) (Sub.cons (by kernel_rfl) (Sub.nil))) ?_
  show JQ _ _ _ [(2, Ptr nb2 0), (4, Ptr nb4 0)] _
  refine JQ_then ?_
  refine JC_seq ?_
  refine JC_region ?_
  refine JL_val (.agg (cu8 (mid (macL k ([101, 110, 116, 114, 117, 115, 116, 32, 115, 101, 97, 108] : List UInt8)) 0 16)).toArray) (Ev_load rfl (Ld_agg Tryd.isAgg55 Tryd.sizeOf55 (len_cu8 hl1) (MemAt.ent 3 rfl (Seg.whole _)))) rfl ?_
  refine JL_step (Step_store 1 nb2 0 16 (cu8 (zr8 16)) 55 (.agg (cu8 (mid (macL k ([101, 110, 116, 114, 117, 115, 116, 32, 115, 101, 97, 108] : List UInt8)) 0 16)).toArray) (cu8 (mid (macL k ([101, 110, 116, 114, 117, 115, 116, 32, 115, 101, 97, 108] : List UInt8)) 0 16)) (cu8 (mid (macL k ([101, 110, 116, 114, 117, 115, 116, 32, 115, 101, 97, 108] : List UInt8)) 0 16)) rfl rfl rfl (by first | rfl | simp) Tryd.sizeOf55 (len_cu8 hl1) (by first | exact one_u8 | exact one_u32 | exact one_u64 | (simp [cu8, cu32, cu64, Value.oneCell']; done)) (by simp [(zr8_len 16)]) (lay_whole (by simp [(zr8_len 16), hl1]))) rfl ?_
  rintro v1 L1 ⟨rfl, rfl⟩
  show JL _ _ _ _ _ [⟨nb1, cu8 k, 55, (0, 0)⟩, ⟨nb2, cu8 (mid (macL k ([101, 110, 116, 114, 117, 115, 116, 32, 115, 101, 97, 108] : List UInt8)) 0 16), 55, (0, 0)⟩, ⟨nb3, cu8 (macL k ([101, 110, 116, 114, 117, 115, 116, 32, 115, 101, 97, 108] : List UInt8)), 25, (0, 0)⟩, ⟨nb4, cu8 (mid (macL k ([101, 110, 116, 114, 117, 115, 116, 32, 115, 101, 97, 108] : List UInt8)) 0 16), 55, (0, 0)⟩]
  refine JL_nil ?_
  refine JQ_then ?_
  refine JC_ret ?_
  refine JQ_ret (.agg (cu8 (mid (macL k ([101, 110, 116, 114, 117, 115, 116, 32, 115, 101, 97, 108] : List UInt8)) 0 16)).toArray) (res1 Tryd.results50 (RV_cell rfl (Ld_agg Tryd.isAgg55 Tryd.sizeOf55 (len_cu8 hl1) (MemAt.ent 1 rfl (Seg.whole _))))) fun w1 hw1 => ?_
  exact ⟨_, [], rfl, ⟨rfl, rfl⟩, hw1.sub (by simp) (by simp)⟩

end Go.Proofs.YtncoifiafklkjaaDoor
