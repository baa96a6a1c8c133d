import Derived.Test.YtncoifiafklkjaaFx
import Derived.Test.YtncoifiafklkjaaSxL
import Derived.Test.YtncoifiafklkjaaCtr4
namespace Go.Proofs.Ytncoifiafklkjaa
open Go Go.Sx
set_option linter.unusedVariables false
set_option linter.unusedSimpArgs false
set_option maxRecDepth 100000
attribute [local irreducible] mid zr8 rkeysL rencL encL decL rkL thereL backL nextL rnextL strT
theorem mod12 (x : UInt64) : (x % 12).toNat < 12 := by
  rw [UInt64.toNat_mod]; exact Nat.mod_lt _ (by decide)
theorem lt12 {m : Nat} (h : m < 12) : m < 9223372036854775808 := by omega
theorem later_blk {ks c : List UInt8} {m : Nat} (hc : c.length = 16) (hm : m < 12) : mid (strT (eBlk ks c) (16*m + 16)) (16*m) 16 = strT (eBlk ks (nextL c (UInt64.ofNat m))) 16 := by
  rw [strT_blk (fun k => eBlk_len hc k) (Nat.le_refl m), strT_one (fun k => eBlk_len (nextL_len hc) k), eBlk, eBlk, ctrN, ← ctrN_next hc, UInt64.toNat_ofNat', Nat.mod_eq_of_lt (by omega)]

theorem ctrBlocks_c (key c : List UInt8) (n : Int) (w : World) (hk : key.length = 16) (hc : c.length = 16) : Calls Try.prog 8 #[.agg (cu8 key).toArray, .agg (cu8 c).toArray, I64 (n)] w (Post w [] (fun v L => v = .bool true ∧ L = [])) := by
  have hm := mod12 (u64i n)
  refine enterM w [] 86 [] [.agg (cu8 key).toArray, .agg (cu8 c).toArray, I64 (n)] Try.func8 rfl rfl (by simp) (Hp.start (by simp) (by simp) (by simp)) ?_
  show JC _ _ _ [(0, .agg (cu8 key).toArray), (1, .agg (cu8 c).toArray), (2, I64 (n))] _
  refine JC_seq ?_
  refine JC_region ?_
  refine JL_step (Step_box (.agg (cu8 key).toArray) (cu8 key) rfl (by first | rfl | simp)) rfl ?_
  rintro v1 L1 ⟨nb1, hnb1, rfl, rfl⟩
  show JL _ _ _ _ ((3, Ptr nb1 0) :: _) [⟨nb1, cu8 key, 28, (0, 0)⟩]
  refine JL_step (Step_box (.agg (cu8 c).toArray) (cu8 c) rfl (by first | rfl | simp)) rfl ?_
  rintro v1 L1 ⟨nb2, hnb2, rfl, rfl⟩
  show JL _ _ _ _ ((4, Ptr nb2 0) :: _) [⟨nb1, cu8 key, 28, (0, 0)⟩, ⟨nb2, cu8 c, 27, (0, 0)⟩]
  refine JL_step (Step_box (I64 (n)) ([I64 (n)]) rfl rfl) rfl ?_
  rintro v1 L1 ⟨nb3, hnb3, rfl, rfl⟩
  show JL _ _ _ _ ((5, Ptr nb3 0) :: _) [⟨nb1, cu8 key, 28, (0, 0)⟩, ⟨nb2, cu8 c, 27, (0, 0)⟩, ⟨nb3, [I64 (n)], 3, (0, 0)⟩]
  refine JL_step (Step_alloc _ ([.bool false]) Try.zeroValue4 (by kernel_rfl)) rfl ?_
  rintro v1 L1 ⟨nb4, hnb4, rfl, rfl⟩
  show JL _ _ _ _ ((6, Ptr nb4 0) :: _) [⟨nb1, cu8 key, 28, (0, 0)⟩, ⟨nb2, cu8 c, 27, (0, 0)⟩, ⟨nb3, [I64 (n)], 3, (0, 0)⟩, ⟨nb4, [.bool false], 4, (0, 0)⟩]
  refine JL_nil ?_
  refine JQ_then ?_
  refine JC_seq ?_
  refine JC_seq ?_
  refine JC_region ?_
  refine JL_step (Step_callP 30 [] (.bool true) (Cl_func [] Try.call30 rfl) (fun w1 _ => alive5_c  w1)) rfl ?_
  rintro v1 L1 ⟨rfl, rfl⟩
  show JL _ _ _ _ ((14, .bool true) :: _) [⟨nb1, cu8 key, 28, (0, 0)⟩, ⟨nb2, cu8 c, 27, (0, 0)⟩, ⟨nb3, [I64 (n)], 3, (0, 0)⟩, ⟨nb4, [.bool false], 4, (0, 0)⟩]
  refine JL_val (.bool (!true)) (Ev_not rfl) rfl ?_
  refine JL_nil ?_
  refine JQ_then ?_
  refine JC_condF _ rfl rfl ?_
  refine JC_skip ?_
  refine JQ_then ?_
  refine JC_seq ?_
  refine JC_region ?_
  refine JL_val (I64 (n)) (Ev_load rfl (Ld_one Try.isAgg3 (MemAt.ent 2 rfl (Seg.head)))) rfl ?_
  refine JL_val (U64 (u64i (n))) (Ev_conv _ _ rfl fun _ => conv_i64_u64i (by rw [Try.underlying3]; rfl) Try.underlying49 (n)) rfl ?_
  refine JL_val (U64 ((u64i (n)) % (12:UInt64))) (Ev_bini rfl rfl fun _ => bin_rem_u64 (u64i (n)) (12:UInt64) (by decide)) rfl ?_
  refine JL_val (I64 ((((u64i (n)) % (12:UInt64)).toNat:Int))) (Ev_conv _ _ rfl fun _ => conv_u64_i64 (by rw [Try.underlying49]; rfl) Try.underlying3 ((u64i (n)) % (12:UInt64)) _ rfl (lt12 (mod12 _))) rfl ?_
  refine JL_step (Step_store 2 nb3 0 1 ([I64 (n)]) 3 (I64 ((((u64i (n)) % (12:UInt64)).toNat:Int))) ([I64 ((((u64i (n)) % (12:UInt64)).toNat:Int))]) ([I64 ((((u64i (n)) % (12:UInt64)).toNat:Int))]) rfl rfl rfl rfl Try.sizeOf3 rfl (by simp [Value.oneCell']) (Nat.le_of_ble_eq_true rfl) (lay_whole (by simp []))) rfl ?_
  rintro v1 L1 ⟨rfl, rfl⟩
  show JL _ _ _ _ _ [⟨nb1, cu8 key, 28, (0, 0)⟩, ⟨nb2, cu8 c, 27, (0, 0)⟩, ⟨nb3, [I64 ((((u64i (n)) % (12:UInt64)).toNat:Int))], 3, (0, 0)⟩, ⟨nb4, [.bool false], 4, (0, 0)⟩]
  refine JL_nil ?_
  refine JQ_then ?_
  refine JC_seq ?_
  refine JC_region ?_
  refine JL_val (.agg (cu8 key).toArray) (Ev_load rfl (Ld_agg Try.isAgg28 Try.sizeOf28 (len_cu8 hk) (MemAt.ent 0 rfl (Seg.whole _)))) rfl ?_
  refine JL_step (Step_callN 22 [.agg (cu8 key).toArray] _ (Cl_func [.agg (cu8 key).toArray] Try.call22 rfl) (fun w1 hw1 => new_c key w1 hk)) rfl ?_
  rintro v1 L1 ⟨_, ⟨nb5, rfl, rfl⟩, rfl⟩
  show JL _ _ _ _ ((21, Ptr nb5 0) :: _) [⟨nb1, cu8 key, 28, (0, 0)⟩, ⟨nb2, cu8 c, 27, (0, 0)⟩, ⟨nb3, [I64 ((((u64i (n)) % (12:UInt64)).toNat:Int))], 3, (0, 0)⟩, ⟨nb4, [.bool false], 4, (0, 0)⟩, ⟨nb5, cu8 (rkL key) ++ cu8 thereL ++ cu8 backL, 106, (0, 0)⟩]
  refine JL_val _ (Ev_assign rfl) rfl ?_
  refine JL_nil ?_
  refine JQ_then ?_
  refine JC_seq ?_
  refine JC_region ?_
  refine JL_val _ (Ev_move rfl) rfl ?_
  refine JL_val (.agg (cu8 c).toArray) (Ev_load rfl (Ld_agg Try.isAgg27 Try.sizeOf27 (len_cu8 hc) (MemAt.ent 1 rfl (Seg.whole _)))) rfl ?_
  refine JL_val (I64 ((((u64i (n)) % (12:UInt64)).toNat:Int))) (Ev_load rfl (Ld_one Try.isAgg3 (MemAt.ent 2 rfl (Seg.head)))) rfl ?_
  refine JL_val (I64 (16*(((u64i (n)) % (12:UInt64)).toNat:Int))) (Ev_bini rfl rfl fun _ => bin_mul_i _ _ (16*(((u64i (n)) % (12:UInt64)).toNat:Int)) (by omega) (by omega)) rfl ?_
  refine JL_val (I64 (16*(((u64i (n)) % (12:UInt64)).toNat:Int) + 16)) (Ev_bini rfl rfl fun _ => bin_add_i _ _ (16*(((u64i (n)) % (12:UInt64)).toNat:Int) + 16) (by omega) (by omega)) rfl ?_
  refine JL_step (Step_callN 33 [Ptr nb5 0, .agg (cu8 c).toArray, I64 (16*(((u64i (n)) % (12:UInt64)).toNat:Int) + 16)] _ (Cl_func [Ptr nb5 0, .agg (cu8 c).toArray, I64 (16*(((u64i (n)) % (12:UInt64)).toNat:Int) + 16)] Try.call33 rfl) (fun w1 hw1 => streamIn_c (some ⟨nb5, 0, none⟩) (rkL key) c (16*(((u64i (n)) % (12:UInt64)).toNat) + 16) w1 hc (by omega) (CiphM.own (rkL_len key hk) (hw1.ent _ (List.mem_of_getElem? (i := 4) rfl))))) rfl ?_
  rintro v1 L1 ⟨_, ⟨nb6, sp1, cp1, rfl, rfl, hc1, hc2, hc3⟩, rfl⟩
  show JL _ _ _ _ ((28, .tuple #[Slc nb6 0 (16*(((u64i (n)) % (12:UInt64)).toNat) + 16) cp1, .nilIface]) :: _) [⟨nb1, cu8 key, 28, (0, 0)⟩, ⟨nb2, cu8 c, 27, (0, 0)⟩, ⟨nb3, [I64 ((((u64i (n)) % (12:UInt64)).toNat:Int))], 3, (0, 0)⟩, ⟨nb4, [.bool false], 4, (0, 0)⟩, ⟨nb5, cu8 (rkL key) ++ cu8 thereL ++ cu8 backL, 106, (0, 0)⟩, ⟨nb6, cu8 (strT (eBlk (rkL key) c) (16*(((u64i (n)) % (12:UInt64)).toNat) + 16)) ++ sp1, 5, (0, 0)⟩]
  refine JL_val _ (Ev_move rfl) rfl ?_
  refine JL_val _ (Ev_extract rfl rfl) rfl ?_
  refine JL_val _ (Ev_extract rfl rfl) rfl ?_
  refine JL_step (Step_alloc _ ([.slice none 0 0]) Try.zeroValue38 (by kernel_rfl)) rfl ?_
  rintro v1 L1 ⟨nb7, hnb7, rfl, rfl⟩
  show JL _ _ _ _ ((8, Ptr nb7 0) :: _) [⟨nb1, cu8 key, 28, (0, 0)⟩, ⟨nb2, cu8 c, 27, (0, 0)⟩, ⟨nb3, [I64 ((((u64i (n)) % (12:UInt64)).toNat:Int))], 3, (0, 0)⟩, ⟨nb4, [.bool false], 4, (0, 0)⟩, ⟨nb5, cu8 (rkL key) ++ cu8 thereL ++ cu8 backL, 106, (0, 0)⟩, ⟨nb6, cu8 (strT (eBlk (rkL key) c) (16*(((u64i (n)) % (12:UInt64)).toNat) + 16)) ++ sp1, 5, (0, 0)⟩, ⟨nb7, [.slice none 0 0], 38, (0, 0)⟩]
  refine JL_step (Step_store 6 nb7 0 1 ([.slice none 0 0]) 38 (Slc nb6 0 (16*(((u64i (n)) % (12:UInt64)).toNat) + 16) cp1) ([Slc nb6 0 (16*(((u64i (n)) % (12:UInt64)).toNat) + 16) cp1]) ([Slc nb6 0 (16*(((u64i (n)) % (12:UInt64)).toNat) + 16) cp1]) rfl rfl rfl rfl Try.sizeOf38 rfl (by simp [Value.oneCell']) (Nat.le_of_ble_eq_true rfl) (lay_whole (by simp []))) rfl ?_
  rintro v1 L1 ⟨rfl, rfl⟩
  show JL _ _ _ _ _ [⟨nb1, cu8 key, 28, (0, 0)⟩, ⟨nb2, cu8 c, 27, (0, 0)⟩, ⟨nb3, [I64 ((((u64i (n)) % (12:UInt64)).toNat:Int))], 3, (0, 0)⟩, ⟨nb4, [.bool false], 4, (0, 0)⟩, ⟨nb5, cu8 (rkL key) ++ cu8 thereL ++ cu8 backL, 106, (0, 0)⟩, ⟨nb6, cu8 (strT (eBlk (rkL key) c) (16*(((u64i (n)) % (12:UInt64)).toNat) + 16)) ++ sp1, 5, (0, 0)⟩, ⟨nb7, [Slc nb6 0 (16*(((u64i (n)) % (12:UInt64)).toNat) + 16) cp1], 38, (0, 0)⟩]
  refine JL_val _ (Ev_assign rfl) rfl ?_
  refine JL_nil ?_
  refine JQ_then ?_
  refine JC_seq ?_
  refine JC_region ?_
  refine JL_val _ (Ev_move rfl) rfl ?_
  refine JL_val (.agg (cu8 c).toArray) (Ev_load rfl (Ld_agg Try.isAgg27 Try.sizeOf27 (len_cu8 hc) (MemAt.ent 1 rfl (Seg.whole _)))) rfl ?_
  refine JL_val (I64 ((((u64i (n)) % (12:UInt64)).toNat:Int))) (Ev_load rfl (Ld_one Try.isAgg3 (MemAt.ent 2 rfl (Seg.head)))) rfl ?_
  refine JL_val (U64 (UInt64.ofNat (((u64i (n)) % (12:UInt64)).toNat))) (Ev_conv _ _ rfl fun _ => conv_i64_u64 (by rw [Try.underlying3]; rfl) Try.underlying44 (((u64i (n)) % (12:UInt64)).toNat) _ (by omega)) rfl ?_
  refine JL_step (Step_callP 31 [.agg (cu8 c).toArray, U64 (UInt64.ofNat (((u64i (n)) % (12:UInt64)).toNat))] (.agg (cu8 (nextL c (UInt64.ofNat (((u64i (n)) % (12:UInt64)).toNat)))).toArray) (Cl_func [.agg (cu8 c).toArray, U64 (UInt64.ofNat (((u64i (n)) % (12:UInt64)).toNat))] Try.call31 rfl) (fun w1 hw1 => next_c c (UInt64.ofNat (((u64i (n)) % (12:UInt64)).toNat)) w1 hc)) rfl ?_
  rintro v1 L1 ⟨rfl, rfl⟩
  show JL _ _ _ _ ((36, .agg (cu8 (nextL c (UInt64.ofNat (((u64i (n)) % (12:UInt64)).toNat)))).toArray) :: _) [⟨nb1, cu8 key, 28, (0, 0)⟩, ⟨nb2, cu8 c, 27, (0, 0)⟩, ⟨nb3, [I64 ((((u64i (n)) % (12:UInt64)).toNat:Int))], 3, (0, 0)⟩, ⟨nb4, [.bool false], 4, (0, 0)⟩, ⟨nb5, cu8 (rkL key) ++ cu8 thereL ++ cu8 backL, 106, (0, 0)⟩, ⟨nb6, cu8 (strT (eBlk (rkL key) c) (16*(((u64i (n)) % (12:UInt64)).toNat) + 16)) ++ sp1, 5, (0, 0)⟩, ⟨nb7, [Slc nb6 0 (16*(((u64i (n)) % (12:UInt64)).toNat) + 16) cp1], 38, (0, 0)⟩]
  refine JL_step (Step_callN 33 [Ptr nb5 0, .agg (cu8 (nextL c (UInt64.ofNat (((u64i (n)) % (12:UInt64)).toNat)))).toArray, I64 (16:Int)] _ (Cl_func [Ptr nb5 0, .agg (cu8 (nextL c (UInt64.ofNat (((u64i (n)) % (12:UInt64)).toNat)))).toArray, I64 (16:Int)] Try.call33 rfl) (fun w1 hw1 => streamIn_c (some ⟨nb5, 0, none⟩) (rkL key) (nextL c (UInt64.ofNat (((u64i (n)) % (12:UInt64)).toNat))) 16 w1 (nextL_len hc) (by omega) (CiphM.own (rkL_len key hk) (hw1.ent _ (List.mem_of_getElem? (i := 4) rfl))))) rfl ?_
  rintro v1 L1 ⟨_, ⟨nb8, sp2, cp2, rfl, rfl, hc4, hc5, hc6⟩, rfl⟩
  show JL _ _ _ _ ((37, .tuple #[Slc nb8 0 16 cp2, .nilIface]) :: _) [⟨nb1, cu8 key, 28, (0, 0)⟩, ⟨nb2, cu8 c, 27, (0, 0)⟩, ⟨nb3, [I64 ((((u64i (n)) % (12:UInt64)).toNat:Int))], 3, (0, 0)⟩, ⟨nb4, [.bool false], 4, (0, 0)⟩, ⟨nb5, cu8 (rkL key) ++ cu8 thereL ++ cu8 backL, 106, (0, 0)⟩, ⟨nb6, cu8 (strT (eBlk (rkL key) c) (16*(((u64i (n)) % (12:UInt64)).toNat) + 16)) ++ sp1, 5, (0, 0)⟩, ⟨nb7, [Slc nb6 0 (16*(((u64i (n)) % (12:UInt64)).toNat) + 16) cp1], 38, (0, 0)⟩, ⟨nb8, cu8 (strT (eBlk (rkL key) (nextL c (UInt64.ofNat (((u64i (n)) % (12:UInt64)).toNat)))) 16) ++ sp2, 5, (0, 0)⟩]
  refine JL_val _ (Ev_move rfl) rfl ?_
  refine JL_val _ (Ev_extract rfl rfl) rfl ?_
  refine JL_val _ (Ev_extract rfl rfl) rfl ?_
  refine JL_val _ (Ev_assign rfl) rfl ?_
  refine JL_val _ (Ev_assign rfl) rfl ?_
  refine JL_nil ?_
  refine JQ_then ?_
  refine JC_seq ?_
  refine JC_seq ?_
  refine JC_region ?_
  refine JL_val _ (Ev_move rfl) rfl ?_
  refine JL_val (.bool false) (Ev_bin _ _ _ rfl rfl (fun _ => eqGuard_nn ..) fun _ => neq_if_nil_nil Try.underlying30) rfl ?_
  refine JL_val _ (Ev_move rfl) rfl ?_
  refine JL_gval 2 42 false _ _ rfl rfl rfl (Ev_move rfl) rfl ?_
  refine JL_gval 2 42 false _ (.bool false) rfl rfl rfl (Ev_bin _ _ _ rfl rfl (fun _ => eqGuard_nn ..) fun _ => neq_if_nil_nil Try.underlying30) rfl ?_
  refine JL_val _ (Ev_pickF _ rfl rfl rfl) rfl ?_
  refine JL_val _ (Ev_move rfl) rfl ?_
  refine JL_gval 6 46 false _ (Slc nb6 0 (16*(((u64i (n)) % (12:UInt64)).toNat) + 16) cp1) rfl rfl rfl (Ev_load rfl (Ld_one Try.isAgg38 (MemAt.ent 6 rfl (Seg.head)))) rfl ?_
  refine JL_gval 6 46 false _ (I64 (16*(((u64i (n)) % (12:UInt64)).toNat:Int) + 16)) rfl rfl rfl (Ev_len Try.underlying38 rfl) rfl ?_
  refine JL_gval 6 46 false _ (I64 ((((u64i (n)) % (12:UInt64)).toNat:Int))) rfl rfl rfl (Ev_load rfl (Ld_one Try.isAgg3 (MemAt.ent 2 rfl (Seg.head)))) rfl ?_
  refine JL_gval 6 46 false _ (I64 (16*(((u64i (n)) % (12:UInt64)).toNat:Int))) rfl rfl rfl (Ev_bini rfl rfl fun _ => bin_mul_i _ _ (16*(((u64i (n)) % (12:UInt64)).toNat:Int)) (by omega) (by omega)) rfl ?_
  refine JL_gval 6 46 false _ (I64 (16*(((u64i (n)) % (12:UInt64)).toNat:Int) + 16)) rfl rfl rfl (Ev_bini rfl rfl fun _ => bin_add_i _ _ (16*(((u64i (n)) % (12:UInt64)).toNat:Int) + 16) (by omega) (by omega)) rfl ?_
  refine JL_gval 6 46 false _ (.bool (decide ((16*(((u64i (n)) % (12:UInt64)).toNat:Int) + 16) ≠ (16*(((u64i (n)) % (12:UInt64)).toNat:Int) + 16)))) rfl rfl rfl (Ev_bini rfl rfl fun _ => bin_neq_i _ _) rfl ?_
  refine JL_val _ (Ev_pickF _ rfl rfl rfl) rfl ?_
  refine JL_val _ (Ev_move rfl) rfl ?_
  refine JL_gval 14 54 false _ (Slc nb6 0 (16*(((u64i (n)) % (12:UInt64)).toNat) + 16) cp1) rfl rfl (by simp) (Ev_load rfl (Ld_one Try.isAgg38 (MemAt.ent 6 rfl (Seg.head)))) rfl ?_
  refine JL_gval 14 54 false _ (I64 ((((u64i (n)) % (12:UInt64)).toNat:Int))) rfl rfl (by simp) (Ev_load rfl (Ld_one Try.isAgg3 (MemAt.ent 2 rfl (Seg.head)))) rfl ?_
  refine JL_gval 14 54 false _ (I64 (16*(((u64i (n)) % (12:UInt64)).toNat:Int))) rfl rfl (by simp) (Ev_bini rfl rfl fun _ => bin_mul_i _ _ (16*(((u64i (n)) % (12:UInt64)).toNat:Int)) (by omega) (by omega)) rfl ?_
  refine JL_gval 14 54 false _ (Slc nb6 (16*(((u64i (n)) % (12:UInt64)).toNat)) 16 (cp1 - 16*(((u64i (n)) % (12:UInt64)).toNat))) rfl rfl (by simp) (Ev_slice 5 1 (16*(((u64i (n)) % (12:UInt64)).toNat)) (16*(((u64i (n)) % (12:UInt64)).toNat) + 16) (16*(((u64i (n)) % (12:UInt64)).toNat)) (cp1 - 16*(((u64i (n)) % (12:UInt64)).toNat)) Try.underlying38 Try.sizeOf5 rfl (some_i64 (by omega)) rfl (by omega) (by omega) (by omega) (by omega) (by omega) 16 (by omega)) rfl ?_
  refine JL_gval 14 54 false _ _ rfl rfl (by simp) (Ev_move rfl) rfl ?_
  have hl1 : (mid (strT (eBlk (rkL key) c) (16*(((u64i (n)) % (12:UInt64)).toNat) + 16)) (16*(((u64i (n)) % (12:UInt64)).toNat)) 16).length = 16 := mid_len (by rw [(strT_len (fun k => eBlk_len hc k) (16*(((u64i (n)) % (12:UInt64)).toNat) + 16))]; omega)
  refine JL_gstep 14 54 false _ rfl rfl (by simp) (Step_callP 25 [Slc nb6 (16*(((u64i (n)) % (12:UInt64)).toNat)) 16 (cp1 - 16*(((u64i (n)) % (12:UInt64)).toNat)), Slc nb8 0 16 cp2] (.bool (decide ((mid (strT (eBlk (rkL key) c) (16*(((u64i (n)) % (12:UInt64)).toNat) + 16)) (16*(((u64i (n)) % (12:UInt64)).toNat)) 16) = (strT (eBlk (rkL key) (nextL c (UInt64.ofNat (((u64i (n)) % (12:UInt64)).toNat)))) 16)))) (Cl_func [Slc nb6 (16*(((u64i (n)) % (12:UInt64)).toNat)) 16 (cp1 - 16*(((u64i (n)) % (12:UInt64)).toNat)), Slc nb8 0 16 cp2] Try.call25 rfl) (fun w1 hw1 => bytes_c (some ⟨nb6, (16*(((u64i (n)) % (12:UInt64)).toNat)), none⟩) (some ⟨nb8, 0, none⟩) 16 16 (cp1 - 16*(((u64i (n)) % (12:UInt64)).toNat)) cp2 (mid (strT (eBlk (rkL key) c) (16*(((u64i (n)) % (12:UInt64)).toNat) + 16)) (16*(((u64i (n)) % (12:UInt64)).toNat)) 16) (strT (eBlk (rkL key) (nextL c (UInt64.ofNat (((u64i (n)) % (12:UInt64)).toNat)))) 16) w1 hl1 (strT_len (fun k => eBlk_len (nextL_len hc) k) 16) (RdB.of hw1 (MemAt.ent 5 rfl (Seg.left (segm_u8 (16*(((u64i (n)) % (12:UInt64)).toNat)) 16 (by rw [(strT_len (fun k => eBlk_len hc k) (16*(((u64i (n)) % (12:UInt64)).toNat) + 16))]; omega)))) (by simp)) (RdB.of hw1 (MemAt.ent 7 rfl (Seg.left (Seg.whole _))) (by simp)))) rfl ?_
  rintro v1 L1 ⟨rfl, rfl⟩
  show JL _ _ _ _ ((60, .bool (decide ((mid (strT (eBlk (rkL key) c) (16*(((u64i (n)) % (12:UInt64)).toNat) + 16)) (16*(((u64i (n)) % (12:UInt64)).toNat)) 16) = (strT (eBlk (rkL key) (nextL c (UInt64.ofNat (((u64i (n)) % (12:UInt64)).toNat)))) 16)))) :: _) [⟨nb1, cu8 key, 28, (0, 0)⟩, ⟨nb2, cu8 c, 27, (0, 0)⟩, ⟨nb3, [I64 ((((u64i (n)) % (12:UInt64)).toNat:Int))], 3, (0, 0)⟩, ⟨nb4, [.bool false], 4, (0, 0)⟩, ⟨nb5, cu8 (rkL key) ++ cu8 thereL ++ cu8 backL, 106, (0, 0)⟩, ⟨nb6, cu8 (strT (eBlk (rkL key) c) (16*(((u64i (n)) % (12:UInt64)).toNat) + 16)) ++ sp1, 5, (0, 0)⟩, ⟨nb7, [Slc nb6 0 (16*(((u64i (n)) % (12:UInt64)).toNat) + 16) cp1], 38, (0, 0)⟩, ⟨nb8, cu8 (strT (eBlk (rkL key) (nextL c (UInt64.ofNat (((u64i (n)) % (12:UInt64)).toNat)))) 16) ++ sp2, 5, (0, 0)⟩]
  refine JL_gval 14 54 false _ (.bool (!(decide ((mid (strT (eBlk (rkL key) c) (16*(((u64i (n)) % (12:UInt64)).toNat) + 16)) (16*(((u64i (n)) % (12:UInt64)).toNat)) 16) = (strT (eBlk (rkL key) (nextL c (UInt64.ofNat (((u64i (n)) % (12:UInt64)).toNat)))) 16))))) rfl rfl (by simp) (Ev_not rfl) rfl ?_
  refine JL_val _ (Ev_pickF _ rfl (by simp) rfl) rfl ?_
  refine JL_nil ?_
  refine JQ_then ?_
  refine JC_condF _ rfl (by rw [show (decide ((mid (strT (eBlk (rkL key) c) (16*(((u64i (n)) % (12:UInt64)).toNat) + 16)) (16*(((u64i (n)) % (12:UInt64)).toNat)) 16) = (strT (eBlk (rkL key) (nextL c (UInt64.ofNat (((u64i (n)) % (12:UInt64)).toNat)))) 16))) = true from (decide_eq_true (later_blk hc (mod12 _)))]; rfl) ?_
  refine JC_skip ?_
  refine JQ_then ?_
  refine JC_seq ?_
  refine JC_region ?_
  refine JL_step (Step_alloc _ ([I64 (0:Int)]) Try.zeroValue3 (by kernel_rfl)) rfl ?_
  rintro v1 L1 ⟨nb9, hnb9, rfl, rfl⟩
  show JL _ _ _ _ ((12, Ptr nb9 0) :: _) [⟨nb1, cu8 key, 28, (0, 0)⟩, ⟨nb2, cu8 c, 27, (0, 0)⟩, ⟨nb3, [I64 ((((u64i (n)) % (12:UInt64)).toNat:Int))], 3, (0, 0)⟩, ⟨nb4, [.bool false], 4, (0, 0)⟩, ⟨nb5, cu8 (rkL key) ++ cu8 thereL ++ cu8 backL, 106, (0, 0)⟩, ⟨nb6, cu8 (strT (eBlk (rkL key) c) (16*(((u64i (n)) % (12:UInt64)).toNat) + 16)) ++ sp1, 5, (0, 0)⟩, ⟨nb7, [Slc nb6 0 (16*(((u64i (n)) % (12:UInt64)).toNat) + 16) cp1], 38, (0, 0)⟩, ⟨nb8, cu8 (strT (eBlk (rkL key) (nextL c (UInt64.ofNat (((u64i (n)) % (12:UInt64)).toNat)))) 16) ++ sp2, 5, (0, 0)⟩, ⟨nb9, [I64 (0:Int)], 3, (0, 0)⟩]
  refine JL_step (Step_store 8 nb9 0 1 ([I64 (0:Int)]) 3 (I64 (0:Int)) ([I64 (0:Int)]) ([I64 (0:Int)]) rfl rfl rfl rfl Try.sizeOf3 rfl (by simp [Value.oneCell']) (Nat.le_of_ble_eq_true rfl) (lay_whole (by simp []))) rfl ?_
  rintro v1 L1 ⟨rfl, rfl⟩
  show JL _ _ _ _ _ [⟨nb1, cu8 key, 28, (0, 0)⟩, ⟨nb2, cu8 c, 27, (0, 0)⟩, ⟨nb3, [I64 ((((u64i (n)) % (12:UInt64)).toNat:Int))], 3, (0, 0)⟩, ⟨nb4, [.bool false], 4, (0, 0)⟩, ⟨nb5, cu8 (rkL key) ++ cu8 thereL ++ cu8 backL, 106, (0, 0)⟩, ⟨nb6, cu8 (strT (eBlk (rkL key) c) (16*(((u64i (n)) % (12:UInt64)).toNat) + 16)) ++ sp1, 5, (0, 0)⟩, ⟨nb7, [Slc nb6 0 (16*(((u64i (n)) % (12:UInt64)).toNat) + 16) cp1], 38, (0, 0)⟩, ⟨nb8, cu8 (strT (eBlk (rkL key) (nextL c (UInt64.ofNat (((u64i (n)) % (12:UInt64)).toNat)))) 16) ++ sp2, 5, (0, 0)⟩, ⟨nb9, [I64 (0:Int)], 3, (0, 0)⟩]
  refine JL_nil ?_
  refine JQ_then ?_
  refine JC_seq ?_
  refine JC_seq ?_
  refine JC_region ?_
  refine JL_val _ (Ev_move rfl) rfl ?_
  refine JL_val (.agg (cu8 c).toArray) (Ev_load rfl (Ld_agg Try.isAgg27 Try.sizeOf27 (len_cu8 hc) (MemAt.ent 1 rfl (Seg.whole _)))) rfl ?_
  refine JL_step (Step_callN 34 [Ptr nb5 0, .agg (cu8 c).toArray] _ (Cl_func [Ptr nb5 0, .agg (cu8 c).toArray] Try.call34 rfl) (fun w1 hw1 => blocks_c (some ⟨nb5, 0, none⟩) c w1 hc)) rfl ?_
  rintro v1 L1 ⟨_, ⟨nb10, nb11, rfl, rfl⟩, rfl⟩
  show JL _ _ _ _ ((65, .func (.func 78) #[] #[Ptr nb10 0, Ptr nb11 0]) :: _) [⟨nb1, cu8 key, 28, (0, 0)⟩, ⟨nb2, cu8 c, 27, (0, 0)⟩, ⟨nb3, [I64 ((((u64i (n)) % (12:UInt64)).toNat:Int))], 3, (0, 0)⟩, ⟨nb4, [.bool false], 4, (0, 0)⟩, ⟨nb5, cu8 (rkL key) ++ cu8 thereL ++ cu8 backL, 106, (0, 0)⟩, ⟨nb6, cu8 (strT (eBlk (rkL key) c) (16*(((u64i (n)) % (12:UInt64)).toNat) + 16)) ++ sp1, 5, (0, 0)⟩, ⟨nb7, [Slc nb6 0 (16*(((u64i (n)) % (12:UInt64)).toNat) + 16) cp1], 38, (0, 0)⟩, ⟨nb8, cu8 (strT (eBlk (rkL key) (nextL c (UInt64.ofNat (((u64i (n)) % (12:UInt64)).toNat)))) 16) ++ sp2, 5, (0, 0)⟩, ⟨nb9, [I64 (0:Int)], 3, (0, 0)⟩, ⟨nb10, [Ptr nb5 0], 32, (0, 0)⟩, ⟨nb11, cu8 c, 27, (0, 0)⟩]
  refine JL_nil ?_
  refine JQ_then ?_
  refine JC_block ?_
  refine K_sub (F' := [(5, Ptr nb3 0), (6, Ptr nb4 0), (8, Ptr nb7 0), (12, Ptr nb9 0), (65, .func (.func 78) #[] #[Ptr nb10 0, Ptr nb11 0])]) (Sub.cons rfl (Sub.cons rfl (Sub.cons rfl (Sub.cons rfl (Sub.cons rfl (Sub.nil)))))) ?_
  refine K_pick [3, 2, 6, 5, 4, 9, 10, 8] (by decide) ?_
  show JC _ _ _ _ [⟨nb4, [.bool false], 4, (0, 0)⟩, ⟨nb3, [I64 ((((u64i (n)) % (12:UInt64)).toNat:Int))], 3, (0, 0)⟩, ⟨nb7, [Slc nb6 0 (16*(((u64i (n)) % (12:UInt64)).toNat) + 16) cp1], 38, (0, 0)⟩, ⟨nb6, cu8 (strT (eBlk (rkL key) c) (16*(((u64i (n)) % (12:UInt64)).toNat) + 16)) ++ sp1, 5, (0, 0)⟩, ⟨nb5, cu8 (rkL key) ++ cu8 thereL ++ cu8 backL, 106, (0, 0)⟩, ⟨nb10, [Ptr nb5 0], 32, (0, 0)⟩, ⟨nb11, cu8 c, 27, (0, 0)⟩, ⟨nb9, [I64 (0:Int)], 3, (0, 0)⟩]
  refine JC_range [⟨nb4, [.bool false], 4, (0, 0)⟩, ⟨nb3, [I64 ((((u64i (n)) % (12:UInt64)).toNat:Int))], 3, (0, 0)⟩, ⟨nb7, [Slc nb6 0 (16*(((u64i (n)) % (12:UInt64)).toNat) + 16) cp1], 38, (0, 0)⟩, ⟨nb6, cu8 (strT (eBlk (rkL key) c) (16*(((u64i (n)) % (12:UInt64)).toNat) + 16)) ++ sp1, 5, (0, 0)⟩, ⟨nb5, cu8 (rkL key) ++ cu8 thereL ++ cu8 backL, 106, (0, 0)⟩] [⟨nb10, [Ptr nb5 0], 32, (0, 0)⟩, ⟨nb11, cu8 c, 27, (0, 0)⟩] [⟨nb9, [I64 (0:Int)], 3, (0, 0)⟩] (rbOf (some ⟨nb5, 0, none⟩)) (fun _ => True) (fun _ => False) (fun k => .agg (cu8 (encL (rkL key) (ctrN c k))).toArray) (((u64i (n)) % (12:UInt64)).toNat) (fun k L => k ≤ ((u64i (n)) % (12:UInt64)).toNat ∧ L = [⟨nb9, [I64 ((k:Nat):Int)], 3, (0, 0)⟩]) (fun k c' L => c' = .exit 0 ∧ L = [⟨nb9, [I64 (((((u64i (n)) % (12:UInt64)).toNat:Nat):Int) + 1)], 3, (0, 0)⟩]) rfl rfl rfl Try.call78 (List.Perm.refl _) rfl ⟨by omega, rfl⟩ (fun b hb => .inr (by simp [rbOf] at hb; subst hb; simp)) (fun w1 hw1 => blocks_it nb10 nb11 _ (rkL key) c w1 hc (CiphM.own (rkL_len key hk) (hw1.ent _ (List.mem_of_getElem? (i := 4) rfl)))) ?_ ?_ ?_
  ·
    intro l rb k Sk W1 hgo hkB hSk hl0 hlM hA hB hle
    have hA0 := hA _ (List.mem_of_getElem? (i := 0) rfl)
    have hA1 := hA _ (List.mem_of_getElem? (i := 1) rfl)
    have hA2 := hA _ (List.mem_of_getElem? (i := 2) rfl)
    have hA3 := hA _ (List.mem_of_getElem? (i := 3) rfl)
    have hA4 := hA _ (List.mem_of_getElem? (i := 4) rfl)
    obtain ⟨hx1, rfl⟩ := hSk
    show JC _ _ _ _ [⟨nb9, [I64 ((k:Int))], 3, (0, 0)⟩]
    refine JC_region ?_
    refine JL_step (Step_alloc _ (cu8 (zr8 16)) Try.zeroValue27 (by kernel_rfl)) rfl ?_
    rintro v1 L1 ⟨nb12, hnb12, rfl, rfl⟩
    show JL _ _ _ _ ((13, Ptr nb12 0) :: _) [⟨nb9, [I64 ((k:Int))], 3, (0, 0)⟩, ⟨nb12, cu8 (zr8 16), 27, (0, 0)⟩]
    refine JL_step (Step_store 1 nb12 0 16 (cu8 (zr8 16)) 27 (.agg (cu8 (encL (rkL key) (ctrN c k))).toArray) (cu8 (encL (rkL key) (ctrN c k))) (cu8 (encL (rkL key) (ctrN c k))) rfl rfl rfl (by first | rfl | simp) Try.sizeOf27 (len_cu8 (encL_len _ _ (ctrN_len hc k))) (by first | exact one_u8 | exact one_u32 | exact one_u64 | (simp [cu8, cu32, cu64, Value.oneCell']; done)) (by simp [(zr8_len 16)]) (lay_whole (by simp [(zr8_len 16), (encL_len _ _ (ctrN_len hc k))]))) rfl ?_
    rintro v1 L1 ⟨rfl, rfl⟩
    show JL _ _ _ _ _ [⟨nb9, [I64 ((k:Int))], 3, (0, 0)⟩, ⟨nb12, cu8 (encL (rkL key) (ctrN c k)), 27, (0, 0)⟩]
    refine JL_nil ?_
    refine JQ_begin hl0 hlM ?_
    show JC _ _ _ _ [⟨nb9, [I64 ((k:Int))], 3, (0, 0)⟩, ⟨nb12, cu8 (encL (rkL key) (ctrN c k)), 27, (0, 0)⟩]
    refine JC_block ?_
    refine JC_seq ?_
    refine JC_seq ?_
    refine JC_draw 86 2 [(0, Slc nb12 0 16 16), (1, Slc nb6 0 (16*(((u64i (n)) % (12:UInt64)).toNat) + 16) cp1), (2, I64 ((k:Int))), (3, I64 (16*(k:Int))), (4, I64 ((k:Int))), (5, I64 (16*(k:Int))), (6, I64 (16*(k:Int) + 16)), (7, Slc nb6 (16*k) 16 (cp1 - 16*k))] Try.mixed rfl (by decide +kernel) ?_
    have hl2 : (mid (strT (eBlk (rkL key) c) (16*(((u64i (n)) % (12:UInt64)).toNat) + 16)) (16*k) 16).length = 16 := mid_len (by rw [(strT_len (fun k => eBlk_len hc k) (16*(((u64i (n)) % (12:UInt64)).toNat) + 16))]; omega)
    refine DP_one ⟨[], [0, 1, 2, 3, 4, 5, 6, 7], [], [0, 1, 2, 3, 4, 5, 6, 7], [8]⟩ 8 _ rfl rfl (by decide +kernel) rfl ⟨⟨_, rfl, Qok_val rfl (Ev_sliceA 16 5 1 0 16 0 16 Try.underlying27 Try.sizeOf5 rfl rfl rfl (by omega) (by omega) (by omega) (by omega) (by omega) 16 (by omega))⟩, ⟨_, rfl, Qok_val rfl (Ev_load rfl (Ld_one Try.isAgg38 (MemAt.seg (MemAt.heap ((World.putObj_heap_other hA2.2.2).trans hA2.1) hA2.2.1) (Seg.head) (by omega))))⟩, ⟨_, rfl, Qok_val rfl (Ev_load rfl (Ld_one Try.isAgg3 (MemAt.ent 0 rfl (Seg.head))))⟩, ⟨_, rfl, Qok_val rfl (Ev_bini rfl rfl fun _ => bin_mul_i _ _ (16*(k:Int)) (by omega) (by omega))⟩, ⟨_, rfl, Qok_val rfl (Ev_load rfl (Ld_one Try.isAgg3 (MemAt.ent 0 rfl (Seg.head))))⟩, ⟨_, rfl, Qok_val rfl (Ev_bini rfl rfl fun _ => bin_mul_i _ _ (16*(k:Int)) (by omega) (by omega))⟩, ⟨_, rfl, Qok_val rfl (Ev_bini rfl rfl fun _ => bin_add_i _ _ (16*(k:Int) + 16) (by omega) (by omega))⟩, ⟨_, rfl, Qok_val rfl (Ev_slice 5 1 (16*k) (16*k + 16) (16*k) (cp1 - 16*k) Try.underlying38 Try.sizeOf5 rfl (some_i64 (by omega)) (some_i64 (by omega)) (by omega) (by omega) (by omega) (by omega) (by omega) 16 (by omega))⟩, trivial⟩ rfl (Cok_step rfl (Step_callP 25 [Slc nb12 0 16 16, Slc nb6 (16*k) 16 (cp1 - 16*k)] (.bool (decide ((encL (rkL key) (ctrN c k)) = (mid (strT (eBlk (rkL key) c) (16*(((u64i (n)) % (12:UInt64)).toNat) + 16)) (16*k) 16)))) (Cl_func [Slc nb12 0 16 16, Slc nb6 (16*k) 16 (cp1 - 16*k)] Try.call25 rfl) (fun w1 hw1 => bytes_c (some ⟨nb12, 0, none⟩) (some ⟨nb6, (16*k), none⟩) 16 16 16 (cp1 - 16*k) (encL (rkL key) (ctrN c k)) (mid (strT (eBlk (rkL key) c) (16*(((u64i (n)) % (12:UInt64)).toNat) + 16)) (16*k) 16) w1 (encL_len _ _ (ctrN_len hc k)) hl2 (RdB.of hw1 (MemAt.ent 1 rfl (Seg.whole _)) (by simp)) (RdB.of hw1 (MemAt.seg (MemAt.heap ((World.putObj_heap_other hA3.2.2).trans hA3.1) hA3.2.1) (Seg.left (segm_u8 (16*k) 16 (by rw [(strT_len (fun k => eBlk_len hc k) (16*(((u64i (n)) % (12:UInt64)).toNat) + 16))]; omega))) (by omega)) (by simp))))) ?_
    rintro v1 L1 ⟨rfl, rfl⟩
    refine ⟨[(9, .bool (!(decide ((encL (rkL key) (ctrN c k)) = (mid (strT (eBlk (rkL key) c) (16*(((u64i (n)) % (12:UInt64)).toNat) + 16)) (16*k) 16)))))], ?_⟩
    show DP _ _ _ _ _ _ _ _ [⟨nb9, [I64 ((k:Int))], 3, (0, 0)⟩, ⟨nb12, cu8 (encL (rkL key) (ctrN c k)), 27, (0, 0)⟩]
    refine DP_end ⟨[8], [0, 1, 2, 3, 4, 5, 6, 7, 9], [0, 1, 2, 3, 4, 5, 6, 7], [9], []⟩ rfl rfl (by decide +kernel) rfl ⟨⟨_, rfl, Qok_val rfl (Ev_not rfl)⟩, trivial⟩ ?_
    refine K_sub (F' := [(76, .bool (!(decide ((encL (rkL key) (ctrN c k)) = (mid (strT (eBlk (rkL key) c) (16*(((u64i (n)) % (12:UInt64)).toNat) + 16)) (16*k) 16))))), (5, Ptr nb3 0), (6, Ptr nb4 0), (12, Ptr nb9 0)]) (Sub.cons (by kernel_rfl) (Sub.cons (by kernel_rfl) (Sub.cons (by kernel_rfl) (Sub.cons (by kernel_rfl) (Sub.nil))))) ?_
    show JQ _ _ _ [(76, .bool (!(decide ((encL (rkL key) (ctrN c k)) = (mid (strT (eBlk (rkL key) c) (16*(((u64i (n)) % (12:UInt64)).toNat) + 16)) (16*k) 16))))), (5, Ptr nb3 0), (6, Ptr nb4 0), (12, Ptr nb9 0)] _
    refine JQ_then ?_
    refine JC_condF _ rfl (by rw [show (decide ((encL (rkL key) (ctrN c k)) = (mid (strT (eBlk (rkL key) c) (16*(((u64i (n)) % (12:UInt64)).toNat) + 16)) (16*k) 16))) = true from (decide_eq_true ((strT_blk (fun k => eBlk_len hc k) hx1).symm))]; rfl) ?_
    refine JC_skip ?_
    refine JQ_then ?_
    refine JC_seq ?_
    refine JC_region ?_
    refine JL_val (I64 ((k:Int))) (Ev_load rfl (Ld_one Try.isAgg3 (MemAt.ent 0 rfl (Seg.head)))) rfl ?_
    refine JL_val (I64 ((k:Int) + 1)) (Ev_bini rfl rfl fun _ => bin_add_i _ _ ((k:Int) + 1) (by omega) (by omega)) rfl ?_
    refine JL_step (Step_store 0 nb9 0 1 ([I64 ((k:Int))]) 3 (I64 ((k:Int) + 1)) ([I64 ((k:Int) + 1)]) ([I64 ((k:Int) + 1)]) rfl rfl rfl rfl Try.sizeOf3 rfl (by simp [Value.oneCell']) (Nat.le_of_ble_eq_true rfl) (lay_whole (by simp []))) rfl ?_
    rintro v1 L1 ⟨rfl, rfl⟩
    show JL _ _ _ _ _ [⟨nb9, [I64 ((k:Int) + 1)], 3, (0, 0)⟩, ⟨nb12, cu8 (encL (rkL key) (ctrN c k)), 27, (0, 0)⟩]
    refine JL_nil ?_
    refine JQ_then ?_
    refine JC_seq ?_
    refine JC_region ?_
    refine JL_val (I64 ((k:Int) + 1)) (Ev_load rfl (Ld_one Try.isAgg3 (MemAt.ent 0 rfl (Seg.head)))) rfl ?_
    refine JL_val (I64 ((((u64i (n)) % (12:UInt64)).toNat:Int))) (Ev_load rfl (Ld_one Try.isAgg3 (MemAt.seg (MemAt.heap ((World.putObj_heap_other hA1.2.2).trans hA1.1) hA1.2.1) (Seg.head) (by omega)))) rfl ?_
    refine JL_val (.bool (decide (((((u64i (n)) % (12:UInt64)).toNat:Int)) < ((k:Int) + 1)))) (Ev_bini rfl rfl fun _ => bin_gtr_i _ _) rfl ?_
    refine JL_nil ?_
    refine JQ_then ?_
    refine JC_cond (decide (((((u64i (n)) % (12:UInt64)).toNat:Int)) < ((k:Int) + 1))) rfl (fun hb1 => ?_) (fun hb1 => ?_)
    ·
      have hp1 : ((((u64i (n)) % (12:UInt64)).toNat:Int)) < ((k:Int) + 1) := of_decide_eq_true hb1
      refine JC_exit ?_
      refine JQ_in_other rfl ?_
      refine K_pick [0] (by decide) ?_
      show K _ _ [⟨nb9, [I64 ((k:Int) + 1)], 3, (0, 0)⟩] _
      refine JQ_bodyX ⟨rfl, by rw [show ((((u64i (n)) % (12:UInt64)).toNat:Nat):Int) = (k:Int) from by omega]⟩
    ·
      have hp1 : ¬ (((((u64i (n)) % (12:UInt64)).toNat:Int)) < ((k:Int) + 1)) := of_decide_eq_false hb1
      refine JC_skip ?_
      refine JQ_in_normal ?_
      refine K_pick [0] (by decide) ?_
      show K _ _ [⟨nb9, [I64 ((k:Int) + 1)], 3, (0, 0)⟩] _
      refine JQ_bodyN ⟨by omega, by omega, by rw [show (((k + 1 : Nat)) : Int) = (k:Int) + 1 from by omega]⟩
  ·
    intro D k L' W' hf
    exact hf.elim
  ·
    intro D k c L' W' hf hX hw' hD hDle
    obtain ⟨rfl, rfl⟩ := hX
    show JC _ _ _ _ [⟨nb4, [.bool false], 4, (0, 0)⟩, ⟨nb3, [I64 ((((u64i (n)) % (12:UInt64)).toNat:Int))], 3, (0, 0)⟩, ⟨nb7, [Slc nb6 0 (16*(((u64i (n)) % (12:UInt64)).toNat) + 16) cp1], 38, (0, 0)⟩, ⟨nb6, cu8 (strT (eBlk (rkL key) c) (16*(((u64i (n)) % (12:UInt64)).toNat) + 16)) ++ sp1, 5, (0, 0)⟩, ⟨nb5, cu8 (rkL key) ++ cu8 thereL ++ cu8 backL, 106, (0, 0)⟩, ⟨nb9, [I64 ((((u64i (n)) % (12:UInt64)).toNat:Int) + 1)], 3, (0, 0)⟩]
    refine JC_exit ?_
    refine JQ_in_same ?_
    refine JQ_then ?_
    refine JC_seq ?_
    refine JC_region ?_
    refine JL_val (I64 ((((u64i (n)) % (12:UInt64)).toNat:Int) + 1)) (Ev_load rfl (Ld_one Try.isAgg3 (MemAt.ent 5 rfl (Seg.head)))) rfl ?_
    refine JL_val (I64 ((((u64i (n)) % (12:UInt64)).toNat:Int))) (Ev_load rfl (Ld_one Try.isAgg3 (MemAt.ent 1 rfl (Seg.head)))) rfl ?_
    refine JL_val (I64 ((((u64i (n)) % (12:UInt64)).toNat:Int) + 1)) (Ev_bini rfl rfl fun _ => bin_add_i _ _ ((((u64i (n)) % (12:UInt64)).toNat:Int) + 1) (by omega) (by omega)) rfl ?_
    refine JL_val (.bool (decide (((((u64i (n)) % (12:UInt64)).toNat:Int) + 1) = ((((u64i (n)) % (12:UInt64)).toNat:Int) + 1)))) (Ev_bini rfl rfl fun _ => bin_eql_i _ _) rfl ?_
    refine JL_step (Step_store 0 nb4 0 1 ([.bool false]) 4 (.bool (decide (((((u64i (n)) % (12:UInt64)).toNat:Int) + 1) = ((((u64i (n)) % (12:UInt64)).toNat:Int) + 1)))) ([.bool (decide (((((u64i (n)) % (12:UInt64)).toNat:Int) + 1) = ((((u64i (n)) % (12:UInt64)).toNat:Int) + 1)))]) ([.bool (decide (((((u64i (n)) % (12:UInt64)).toNat:Int) + 1) = ((((u64i (n)) % (12:UInt64)).toNat:Int) + 1)))]) rfl rfl rfl rfl Try.sizeOf4 rfl (by simp [Value.oneCell']) (Nat.le_of_ble_eq_true rfl) (lay_whole (by simp []))) rfl ?_
    rintro v1 L1 ⟨rfl, rfl⟩
    show JL _ _ _ _ _ [⟨nb4, [.bool (decide (((((u64i (n)) % (12:UInt64)).toNat:Int) + 1) = ((((u64i (n)) % (12:UInt64)).toNat:Int) + 1)))], 4, (0, 0)⟩, ⟨nb3, [I64 ((((u64i (n)) % (12:UInt64)).toNat:Int))], 3, (0, 0)⟩, ⟨nb7, [Slc nb6 0 (16*(((u64i (n)) % (12:UInt64)).toNat) + 16) cp1], 38, (0, 0)⟩, ⟨nb6, cu8 (strT (eBlk (rkL key) c) (16*(((u64i (n)) % (12:UInt64)).toNat) + 16)) ++ sp1, 5, (0, 0)⟩, ⟨nb5, cu8 (rkL key) ++ cu8 thereL ++ cu8 backL, 106, (0, 0)⟩, ⟨nb9, [I64 ((((u64i (n)) % (12:UInt64)).toNat:Int) + 1)], 3, (0, 0)⟩]
    refine JL_nil ?_
    refine JQ_then ?_
    refine JC_ret ?_
    refine JQ_retM D (.bool (decide (((((u64i (n)) % (12:UInt64)).toNat:Int) + 1) = ((((u64i (n)) % (12:UInt64)).toNat:Int) + 1)))) rfl hD rfl hw'.here (fun _ => (res1 Try.results8 (RV_cell rfl (Ld_one Try.isAgg4 (MemAt.ent 0 rfl (Seg.head)))))) (fun w1 hw1 => ?_)
    have hw1 := hw'.fin hD hDle hw1 (.deferred none)
    exact ⟨_, [], rfl, ⟨by rw [show (decide (((((u64i (n)) % (12:UInt64)).toNat:Int) + 1) = ((((u64i (n)) % (12:UInt64)).toNat:Int) + 1))) = true from (by simp)], rfl⟩, hw1.sub (by simp) (by simp)⟩

theorem ctrBlocks_w (key c : List UInt8) (n : Int) (w : World) (hk : key.length = 16) (hc : c.length = 16) (_ : -9223372036854775808 ≤ n ∧ n ≤ 9223372036854775807) : Calls Try.prog 8 #[.agg (cu8 key).toArray, .agg (cu8 c).toArray, I64 n] w (Post w [] (fun v L => v = .bool true ∧ L = [])) := ctrBlocks_c key c n w hk hc

end Go.Proofs.Ytncoifiafklkjaa
