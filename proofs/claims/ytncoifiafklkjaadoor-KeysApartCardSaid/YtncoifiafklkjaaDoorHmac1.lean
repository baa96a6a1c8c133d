import Derived.Test.YtncoifiafklkjaaDoorHmacLaw
namespace Go.Proofs.YtncoifiafklkjaaDoor
open Go Go.Sx
set_option linter.unusedVariables false
set_option linter.unusedSimpArgs false
set_option maxRecDepth 100000
attribute [local irreducible] mid zr8 zr32 rotr wordL spreadL comprL cpN adN spN wrdN constL initL padL stN outN routN hashL sumG blkL xbN raN macL orN
theorem block_c (ao : Option Addr) (n cb : Nat) (b : List UInt8) (w : World) (hb : b.length = n) (hcb : ao = none → cb = 0) (hn : n ≤ 17592186044416) (hr : RdB w [] ao b) (hG : GLs w) : Calls Tryd.prog 38 #[.slice ao n cb] w (Post w [] (fun v L => v = .agg (cu8 (blkL b)).toArray ∧ L = [])) := by
  refine enter w [] 15 [] [.slice ao n cb] Tryd.func38 rfl rfl (by simp) (Hp.start (by simp) (by simp) (by simp)) ?_
  show JC _ _ _ [(0, .slice ao n cb)] _
  refine JC_seq ?_
  refine JC_region ?_
  refine JL_step (Step_alloc _ (cu8 (zr8 64)) Tryd.zeroValue32 (by kernel_rfl)) rfl ?_
  rintro v1 L1 ⟨nb1, hnb1, rfl, rfl⟩
  show JL _ _ _ _ ((2, Ptr nb1 0) :: _) [⟨nb1, cu8 (zr8 64), 32, (0, 0)⟩]
  refine JL_nil ?_
  refine JQ_then ?_
  refine JC_seq ?_
  refine JC_region ?_
  refine JL_step (Step_alloc _ (cu8 (zr8 64)) Tryd.zeroValue32 (by kernel_rfl)) rfl ?_
  rintro v1 L1 ⟨nb2, hnb2, rfl, rfl⟩
  show JL _ _ _ _ ((3, Ptr nb2 0) :: _) [⟨nb1, cu8 (zr8 64), 32, (0, 0)⟩, ⟨nb2, cu8 (zr8 64), 32, (0, 0)⟩]
  refine JL_nil ?_
  refine JQ_then ?_
  refine JC_seq ?_
  refine JC_seq ?_
  refine JC_region ?_
  refine JL_val _ (Ev_move rfl) rfl ?_
  refine JL_val (I64 ((n:Int))) (Ev_len Tryd.underlying22 rfl) rfl ?_
  refine JL_val (.bool (decide ((64:Int) < ((n:Int))))) (Ev_bini rfl rfl fun _ => bin_gtr_i _ _) rfl ?_
  refine JL_nil ?_
  refine JQ_then ?_
  refine JC_cond (decide ((64:Int) < ((n:Int)))) rfl (fun hb1 => ?_) (fun hb1 => ?_)
  ·
    have hp1 : (64:Int) < ((n:Int)) := of_decide_eq_true hb1
    refine JC_seq ?_
    refine JC_region ?_
    refine JL_val _ (Ev_move rfl) rfl ?_
    refine JL_step (Step_callP 23 [.slice ao n cb] (.agg (cu8 (sumG constL initL b)).toArray) (Cl_func [.slice ao n cb] Tryd.call23 rfl) (fun w1 hw1 => sum_c ao n cb b w1 hb hcb (by omega) (hr.at (M' := []) hw1 (by simp)) (hG.at hw1))) rfl ?_
    rintro v1 L1 ⟨rfl, rfl⟩
    show JL _ _ _ _ ((9, .agg (cu8 (sumG constL initL b)).toArray) :: _) [⟨nb1, cu8 (zr8 64), 32, (0, 0)⟩, ⟨nb2, cu8 (zr8 64), 32, (0, 0)⟩]
    refine JL_step (Step_alloc _ (cu8 (zr8 32)) Tryd.zeroValue25 (by kernel_rfl)) rfl ?_
    rintro v1 L1 ⟨nb3, hnb3, rfl, rfl⟩
    show JL _ _ _ _ ((4, Ptr nb3 0) :: _) [⟨nb1, cu8 (zr8 64), 32, (0, 0)⟩, ⟨nb2, cu8 (zr8 64), 32, (0, 0)⟩, ⟨nb3, cu8 (zr8 32), 25, (0, 0)⟩]
    refine JL_step (Step_store 2 nb3 0 32 (cu8 (zr8 32)) 25 (.agg (cu8 (sumG constL initL b)).toArray) (cu8 (sumG constL initL b)) (cu8 (sumG constL initL b)) rfl rfl rfl (by first | rfl | simp) Tryd.sizeOf25 (len_cu8 (sumG_len _ _ _)) (by first | exact one_u8 | exact one_u32 | exact one_u64 | (simp [cu8, cu32, cu64, Value.oneCell']; done)) (by simp [(zr8_len 32)]) (lay_whole (by simp [(zr8_len 32), (sumG_len _ _ _)]))) rfl ?_
    rintro v1 L1 ⟨rfl, rfl⟩
    show JL _ _ _ _ _ [⟨nb1, cu8 (zr8 64), 32, (0, 0)⟩, ⟨nb2, cu8 (zr8 64), 32, (0, 0)⟩, ⟨nb3, cu8 (sumG constL initL b), 25, (0, 0)⟩]
    refine JL_nil ?_
    refine JQ_then ?_
    refine JC_region ?_
    refine JL_val (Slc nb3 0 32 32) (Ev_sliceA 32 5 1 0 32 0 32 Tryd.underlying25 Tryd.sizeOf5 rfl rfl rfl (by omega) (by omega) (by omega) (by omega) (by omega) 32 (by omega)) rfl ?_
    refine JL_val _ (Ev_assign rfl) rfl ?_
    refine JL_nil ?_
    refine JQ_then ?_
    refine JC_seq ?_
    refine JC_region ?_
    refine JL_val (Slc nb2 0 64 64) (Ev_sliceA 64 5 1 0 64 0 64 Tryd.underlying32 Tryd.sizeOf5 rfl rfl rfl (by omega) (by omega) (by omega) (by omega) (by omega) 64 (by omega)) rfl ?_
    refine JL_val _ (Ev_move rfl) rfl ?_
    have hl1 : (spl (zr8 64) 0 (sumG constL initL b)).length = 64 := by rw [spl_len (by simp [(zr8_len 64), (sumG_len _ _ _)])]; simp [(zr8_len 64), (sumG_len _ _ _)]
    refine JL_step (Step_copy 22 22 5 1 nb2 0 64 64 (cu8 (zr8 64)) 32 (some ⟨nb3, 0, none⟩) 32 32 32 (cu8 (sumG constL initL b)) (cu8 (spl (zr8 64) 0 (sumG constL initL b))) Tryd.underlying22 Tryd.size1_5 rfl rfl rfl (Nat.min_eq_left (by omega)) (by simp [(sumG_len _ _ _)]; try omega) (SrcAt.mem (MemAt.ent 2 rfl (Seg.whole _))) (by simp [(zr8_len 64)]; try omega) (by first | exact one_u8 | exact one_u32 | exact one_u64 | (simp [cu8, cu32, cu64, Value.oneCell']; done)) (laySpl8 _ _ _ (by simp [(zr8_len 64), (sumG_len _ _ _)]))) rfl ?_
    rintro v1 L1 ⟨rfl, rfl⟩
    show JL _ _ _ _ ((13, I64 (32:Int)) :: _) [⟨nb1, cu8 (zr8 64), 32, (0, 0)⟩, ⟨nb2, cu8 (spl (zr8 64) 0 (sumG constL initL b)), 32, (0, 0)⟩, ⟨nb3, cu8 (sumG constL initL b), 25, (0, 0)⟩]
    refine JL_nil ?_
    refine JQ_then ?_
    refine JC_seq ?_
    refine JC_region ?_
    refine JL_val (.agg (cu8 (spl (zr8 64) 0 (sumG constL initL b))).toArray) (Ev_load rfl (Ld_agg Tryd.isAgg32 Tryd.sizeOf32 (len_cu8 hl1) (MemAt.ent 1 rfl (Seg.whole _)))) rfl ?_
    refine JL_step (Step_store 0 nb1 0 64 (cu8 (zr8 64)) 32 (.agg (cu8 (spl (zr8 64) 0 (sumG constL initL b))).toArray) (cu8 (spl (zr8 64) 0 (sumG constL initL b))) (cu8 (spl (zr8 64) 0 (sumG constL initL b))) rfl rfl rfl (by first | rfl | simp) Tryd.sizeOf32 (len_cu8 hl1) (by first | exact one_u8 | exact one_u32 | exact one_u64 | (simp [cu8, cu32, cu64, Value.oneCell']; done)) (by simp [(zr8_len 64)]) (lay_whole (by simp [(zr8_len 64), hl1]))) rfl ?_
    rintro v1 L1 ⟨rfl, rfl⟩
    show JL _ _ _ _ _ [⟨nb1, cu8 (spl (zr8 64) 0 (sumG constL initL b)), 32, (0, 0)⟩, ⟨nb2, cu8 (spl (zr8 64) 0 (sumG constL initL b)), 32, (0, 0)⟩, ⟨nb3, cu8 (sumG constL initL b), 25, (0, 0)⟩]
    refine JL_nil ?_
    refine JQ_then ?_
    refine JC_ret ?_
    refine JQ_ret (.agg (cu8 (spl (zr8 64) 0 (sumG constL initL b))).toArray) (res1 Tryd.results38 (RV_cell rfl (Ld_agg Tryd.isAgg32 Tryd.sizeOf32 (len_cu8 hl1) (MemAt.ent 0 rfl (Seg.whole _))))) fun w1 hw1 => ?_
    refine ⟨_, [], rfl, ⟨?_, rfl⟩, hw1.sub (by simp) (by simp)⟩
    first | (rw [blkL, if_pos (by omega)]; done) | (rw [blkL, if_neg (by omega)]; done)
  ·
    have hp1 : ¬ ((64:Int) < ((n:Int))) := of_decide_eq_false hb1
    refine JC_skip ?_
    refine JQ_then ?_
    refine JC_seq ?_
    refine JC_region ?_
    refine JL_val (Slc nb2 0 64 64) (Ev_sliceA 64 5 1 0 64 0 64 Tryd.underlying32 Tryd.sizeOf5 rfl rfl rfl (by omega) (by omega) (by omega) (by omega) (by omega) 64 (by omega)) rfl ?_
    refine JL_val _ (Ev_move rfl) rfl ?_
    have hl2 : (spl (zr8 64) 0 b).length = 64 := (spl_len (by rw [hb, (zr8_len 64)]; omega)).trans (zr8_len 64)
    refine JL_step (Step_copy 22 22 5 1 nb2 0 64 64 (cu8 (zr8 64)) 32 ao n cb n (cu8 b) (cu8 (spl (zr8 64) 0 b)) Tryd.underlying22 Tryd.size1_5 rfl rfl rfl (Nat.min_eq_left (by omega)) (by simp [hb]; try omega) (hr.src) (by simp [(zr8_len 64)]; try omega) (by first | exact one_u8 | exact one_u32 | exact one_u64 | (simp [cu8, cu32, cu64, Value.oneCell']; done)) (laySpl8 _ _ _ (by rw [hb, (zr8_len 64)]; omega))) rfl ?_
    rintro v1 L1 ⟨rfl, rfl⟩
    show JL _ _ _ _ ((13, I64 ((n:Int))) :: _) [⟨nb1, cu8 (zr8 64), 32, (0, 0)⟩, ⟨nb2, cu8 (spl (zr8 64) 0 b), 32, (0, 0)⟩]
    refine JL_nil ?_
    refine JQ_then ?_
    refine JC_seq ?_
    refine JC_region ?_
    refine JL_val (.agg (cu8 (spl (zr8 64) 0 b)).toArray) (Ev_load rfl (Ld_agg Tryd.isAgg32 Tryd.sizeOf32 (len_cu8 hl2) (MemAt.ent 1 rfl (Seg.whole _)))) rfl ?_
    refine JL_step (Step_store 0 nb1 0 64 (cu8 (zr8 64)) 32 (.agg (cu8 (spl (zr8 64) 0 b)).toArray) (cu8 (spl (zr8 64) 0 b)) (cu8 (spl (zr8 64) 0 b)) rfl rfl rfl (by first | rfl | simp) Tryd.sizeOf32 (len_cu8 hl2) (by first | exact one_u8 | exact one_u32 | exact one_u64 | (simp [cu8, cu32, cu64, Value.oneCell']; done)) (by simp [(zr8_len 64)]) (lay_whole (by simp [(zr8_len 64), hl2]))) rfl ?_
    rintro v1 L1 ⟨rfl, rfl⟩
    show JL _ _ _ _ _ [⟨nb1, cu8 (spl (zr8 64) 0 b), 32, (0, 0)⟩, ⟨nb2, cu8 (spl (zr8 64) 0 b), 32, (0, 0)⟩]
    refine JL_nil ?_
    refine JQ_then ?_
    refine JC_ret ?_
    refine JQ_ret (.agg (cu8 (spl (zr8 64) 0 b)).toArray) (res1 Tryd.results38 (RV_cell rfl (Ld_agg Tryd.isAgg32 Tryd.sizeOf32 (len_cu8 hl2) (MemAt.ent 0 rfl (Seg.whole _))))) fun w1 hw1 => ?_
    refine ⟨_, [], rfl, ⟨?_, rfl⟩, hw1.sub (by simp) (by simp)⟩
    first | (rw [blkL, if_pos (by omega)]; done) | (rw [blkL, if_neg (by omega)]; done)

theorem with_c (b : List UInt8) (x : UInt8) (w : World) (hb : b.length = 64) : Calls Tryd.prog 95 #[.agg (cu8 b).toArray, U8 x] w (Post w [] (fun v L => ∃ g T, v = Slc g 0 64 64 ∧ L = [⟨g, cu8 (xbN b x 64), T, (0, 0)⟩])) := by
  refine enter w [] 17 [] [.agg (cu8 b).toArray, U8 x] Tryd.func95 rfl rfl (by simp) (Hp.start (by simp) (by simp) (by simp)) ?_
  show JC _ _ _ [(0, .agg (cu8 b).toArray), (1, U8 x)] _
  refine JC_seq ?_
  refine JC_region ?_
  refine JL_step (Step_box (.agg (cu8 b).toArray) (cu8 b) rfl (by first | rfl | simp)) rfl ?_
  rintro v1 L1 ⟨nb1, hnb1, rfl, rfl⟩
  show JL _ _ _ _ ((2, Ptr nb1 0) :: _) [⟨nb1, cu8 b, 32, (0, 0)⟩]
  refine JL_val _ (Ev_assign rfl) rfl ?_
  refine JL_nil ?_
  refine JQ_then ?_
  refine JC_seq ?_
  refine JC_seq ?_
  refine JC_region ?_
  refine JL_val _ (Ev_move rfl) rfl ?_
  refine JL_nil ?_
  refine JQ_then ?_
  refine JC_block ?_
  refine JC_loop (ι := Nat × List UInt8) (fun ⟨k, o⟩ => [(1, U8 x), (2, Ptr nb1 0), (4, .slice none 0 0), (6, I64 ((k:Int)))]) (fun ⟨k, o⟩ => [⟨nb1, cu8 o, 32, (0, 0)⟩]) (fun ⟨k, o⟩ => k ≤ 64 ∧ o = xbN b x k ∧ o.length = 64) (fun ⟨k, o⟩ => 64 - k) (0, b) ⟨by omega, by rw [xbN], hb⟩ (Sub.cons rfl (Sub.cons rfl (Sub.cons rfl (Sub.cons rfl (Sub.nil))))) rfl ?_
  rintro ⟨k, o⟩ ⟨hx1, hx2, ho⟩
  show JC _ _ _ [(1, U8 x), (2, Ptr nb1 0), (4, .slice none 0 0), (6, I64 ((k:Int)))] [⟨nb1, cu8 o, 32, (0, 0)⟩]
  refine JC_seq ?_
  refine JC_region ?_
  refine JL_val (.bool (decide (((k:Int)) < (64:Int)))) (Ev_bini rfl rfl fun _ => bin_lss_i _ _) rfl ?_
  refine JL_nil ?_
  refine JQ_then ?_
  refine JC_seq ?_
  refine JC_cond (decide (((k:Int)) < (64:Int))) rfl (fun hb1 => ?_) (fun hb1 => ?_)
  ·
    have hp1 : ((k:Int)) < (64:Int) := of_decide_eq_true hb1
    refine JC_skip ?_
    refine JQ_then ?_
    refine JC_seq ?_
    refine JC_block ?_
    refine JC_seq ?_
    refine JC_region ?_
    refine JL_val _ (Ev_move rfl) rfl ?_
    refine JL_val _ (Ev_assign rfl) rfl ?_
    refine JL_nil ?_
    refine JQ_then ?_
    refine JC_region ?_
    refine JL_val _ (Ev_move rfl) rfl ?_
    refine JL_val (Ptr nb1 k) (Ev_indexArr 64 5 1 k Tryd.underlying32 Tryd.sizeOf5 rfl rfl (by omega) (by omega) (by omega)) rfl ?_
    refine JL_val (U8 (g8 o k)) (Ev_load rfl (Ld_one Tryd.isAgg5 (MemAt.ent 0 rfl (Seg.get (g8_get (i := k) (by rw [ho]; omega)))))) rfl ?_
    refine JL_val _ (Ev_move rfl) rfl ?_
    refine JL_val (U8 ((g8 o k) ^^^ x)) (Ev_bini rfl rfl fun _ => bin_xor_u8 (g8 o k) x) rfl ?_
    refine JL_val (Ptr nb1 k) (Ev_indexArr 64 5 1 k Tryd.underlying32 Tryd.sizeOf5 rfl rfl (by omega) (by omega) (by omega)) rfl ?_
    have hl1 : (o.set k ((g8 o k) ^^^ x)).length = 64 := by first | (rw [List.length_set]; exact ho) | simp [ho]
    refine JL_step (Step_store 0 nb1 k 1 (cu8 o) 32 (U8 ((g8 o k) ^^^ x)) ([U8 ((g8 o k) ^^^ x)]) (cu8 (o.set k ((g8 o k) ^^^ x))) rfl rfl rfl rfl Tryd.sizeOf5 rfl (by simp [Value.oneCell']) (by simp [ho]; try omega) (lay8 _ _ _ (by rw [ho]; omega))) rfl ?_
    rintro v1 L1 ⟨rfl, rfl⟩
    show JL _ _ _ _ _ [⟨nb1, cu8 (o.set k ((g8 o k) ^^^ x)), 32, (0, 0)⟩]
    refine JL_nil ?_
    refine JQ_in_normal ?_
    refine JQ_then ?_
    refine JC_region ?_
    refine JL_val (I64 ((k:Int) + 1)) (Ev_bini rfl rfl fun _ => bin_add_i _ _ ((k:Int) + 1) (by omega) (by omega)) rfl ?_
    refine JL_val _ (Ev_move rfl) rfl ?_
    refine JL_nil ?_
    refine JQ_thenK ?_
    refine K_next (k + 1, o.set k ((g8 o k) ^^^ x)) ⟨by omega, by rw [xbN, ← hx2], hl1⟩ (by first | (simp; omega) | simp | (dsimp only; omega) | omega) (Sub.cons rfl (Sub.cons rfl (Sub.cons rfl (Sub.cons rfl (Sub.nil))))) rfl
  ·
    have hp1 : ¬ (((k:Int)) < (64:Int)) := of_decide_eq_false hb1
    refine JC_exit ?_
    refine JQ_then_exit ?_
    refine JQ_then_exit ?_
    refine JQ_in_same ?_
    refine JQ_then ?_
    refine JC_seq ?_
    refine JC_region ?_
    refine JL_val (Slc nb1 0 64 64) (Ev_sliceA 64 5 1 0 64 0 64 Tryd.underlying32 Tryd.sizeOf5 rfl rfl rfl (by omega) (by omega) (by omega) (by omega) (by omega) 64 (by omega)) rfl ?_
    refine JL_val _ (Ev_assign rfl) rfl ?_
    refine JL_nil ?_
    refine JQ_then ?_
    refine JC_ret ?_
    refine JQ_ret (Slc nb1 0 64 64) (res1 Tryd.results95 (RV_tmp rfl)) fun w1 hw1 => ?_
    have e1 : k = 64 := by omega
    subst e1
    rw [hx2] at hw1
    exact ⟨_, _, rfl, ⟨nb1, 32, rfl, rfl⟩, hw1.sub (by simp) (by simp)⟩

theorem mac_c (ao : Option Addr) (n cb : Nat) (key : List UInt8) (b c : Nat) (vs : List Value) (ls : List (List UInt8)) (w : World) (hb : key.length = n) (hcb : ao = none → cb = 0) (hn : n ≤ 17592186044416) (hr : RdB w [] ao key) (hk : 1 ≤ ls.length) (hc : ls.length ≤ c) (hk2 : ls.length ≤ 1000) (hp : Parts w b vs ls) (hs : ls.flatten.length ≤ 100000000) (hG : GLs w) : Calls Tryd.prog 39 #[.slice ao n cb, .slice (some ⟨b, 0, none⟩) ls.length c] w (Post w [] (fun v L => v = .agg (cu8 (macL key ls.flatten)).toArray ∧ L = [])) := by
  refine enter w [] 20 [] [.slice ao n cb, .slice (some ⟨b, 0, none⟩) ls.length c] Tryd.func39 rfl rfl (by simp) (Hp.start (by simp) (by simp) (by simp)) ?_
  show JC _ _ _ [(0, .slice ao n cb), (1, .slice (some ⟨b, 0, none⟩) ls.length c)] _
  refine JC_seq ?_
  refine JC_region ?_
  refine JL_step (Step_alloc _ (cu8 (zr8 32)) Tryd.zeroValue25 (by kernel_rfl)) rfl ?_
  rintro v1 L1 ⟨nb1, hnb1, rfl, rfl⟩
  show JL _ _ _ _ ((4, Ptr nb1 0) :: _) [⟨nb1, cu8 (zr8 32), 25, (0, 0)⟩]
  refine JL_nil ?_
  refine JQ_then ?_
  refine JC_seq ?_
  refine JC_region ?_
  refine JL_val _ (Ev_move rfl) rfl ?_
  refine JL_step (Step_callP 38 [.slice ao n cb] (.agg (cu8 (blkL key)).toArray) (Cl_func [.slice ao n cb] Tryd.call38 rfl) (fun w1 hw1 => block_c ao n cb key w1 hb hcb (by omega) (hr.at (M' := []) hw1 (by simp)) (hG.at hw1))) rfl ?_
  rintro v1 L1 ⟨rfl, rfl⟩
  show JL _ _ _ _ ((8, .agg (cu8 (blkL key)).toArray) :: _) [⟨nb1, cu8 (zr8 32), 25, (0, 0)⟩]
  refine JL_step (Step_alloc _ (cu8 (zr8 64)) Tryd.zeroValue32 (by kernel_rfl)) rfl ?_
  rintro v1 L1 ⟨nb2, hnb2, rfl, rfl⟩
  show JL _ _ _ _ ((5, Ptr nb2 0) :: _) [⟨nb1, cu8 (zr8 32), 25, (0, 0)⟩, ⟨nb2, cu8 (zr8 64), 32, (0, 0)⟩]
  refine JL_step (Step_store 1 nb2 0 64 (cu8 (zr8 64)) 32 (.agg (cu8 (blkL key)).toArray) (cu8 (blkL key)) (cu8 (blkL key)) rfl rfl rfl (by first | rfl | simp) Tryd.sizeOf32 (len_cu8 (blkL_len _)) (by first | exact one_u8 | exact one_u32 | exact one_u64 | (simp [cu8, cu32, cu64, Value.oneCell']; done)) (by simp [(zr8_len 64)]) (lay_whole (by simp [(zr8_len 64), (blkL_len _)]))) rfl ?_
  rintro v1 L1 ⟨rfl, rfl⟩
  show JL _ _ _ _ _ [⟨nb1, cu8 (zr8 32), 25, (0, 0)⟩, ⟨nb2, cu8 (blkL key), 32, (0, 0)⟩]
  refine JL_nil ?_
  refine JQ_then ?_
  refine JC_seq ?_
  refine JC_region ?_
  refine JL_val (.agg (cu8 (blkL key)).toArray) (Ev_load rfl (Ld_agg Tryd.isAgg32 Tryd.sizeOf32 (len_cu8 (blkL_len _)) (MemAt.ent 1 rfl (Seg.whole _)))) rfl ?_
  refine JL_step (Step_callN 95 [.agg (cu8 (blkL key)).toArray, U8 (54:UInt8)] _ (Cl_func [.agg (cu8 (blkL key)).toArray, U8 (54:UInt8)] Tryd.call95 rfl) (fun w1 hw1 => with_c (blkL key) (54:UInt8) w1 (blkL_len _))) rfl ?_
  rintro v1 L1 ⟨_, ⟨nb3, tw1, rfl, rfl⟩, rfl⟩
  show JL _ _ _ _ ((10, Slc nb3 0 64 64) :: _) [⟨nb1, cu8 (zr8 32), 25, (0, 0)⟩, ⟨nb2, cu8 (blkL key), 32, (0, 0)⟩, ⟨nb3, cu8 (xbN (blkL key) (54:UInt8) 64), tw1, (0, 0)⟩]
  refine JL_val _ (Ev_move rfl) rfl ?_
  refine JL_step (Step_callN 88 [.slice (some ⟨b, 0, none⟩) ls.length c, .slice none 0 0] _ (Cl_func [.slice (some ⟨b, 0, none⟩) ls.length c, .slice none 0 0] Tryd.call88 rfl) (fun w1 hw1 => join_c b c vs ls w1 hk hc hk2 (hp.at hw1 rfl (by omega)) (by omega))) rfl ?_
  rintro v1 L1 ⟨_, (⟨he1, ao1, ca1, rfl, rfl, hn1⟩ | ⟨hp1, nb4, sp1, cp1, tj1, fj1, rfl, rfl, hl1, hm1⟩), rfl⟩
  ·
    show JL _ _ _ _ ((12, .slice ao1 0 ca1) :: _) [⟨nb1, cu8 (zr8 32), 25, (0, 0)⟩, ⟨nb2, cu8 (blkL key), 32, (0, 0)⟩, ⟨nb3, cu8 (xbN (blkL key) (54:UInt8) 64), tw1, (0, 0)⟩]
    refine JL_step (Step_buildSlice 22 1 _ [(0, Slc nb3 0 64 64), (1, .slice ao1 0 ca1)] ([Slc nb3 0 64 64, .slice ao1 0 ca1]) Tryd.underlying125 Tryd.sizeOf22 Tryd.zeroValue22 rfl rfl rfl (by kernel_rfl)) rfl ?_
    rintro v1 L1 ⟨nb5, hnb5, rfl, rfl⟩
    show JL _ _ _ _ ((13, Slc nb5 0 2 2) :: _) [⟨nb1, cu8 (zr8 32), 25, (0, 0)⟩, ⟨nb2, cu8 (blkL key), 32, (0, 0)⟩, ⟨nb3, cu8 (xbN (blkL key) (54:UInt8) 64), tw1, (0, 0)⟩, ⟨nb5, [Slc nb3 0 64 64, .slice ao1 0 ca1], 22, (0, 0)⟩]
    refine JL_step (Step_callP 30 [Slc nb5 0 2 2] (.agg (cu8 (sumG constL initL ([xbN (blkL key) (54:UInt8) 64, ([] : List UInt8)].flatten))).toArray) (Cl_func [Slc nb5 0 2 2] Tryd.call30 rfl) (fun w1 hw1 => of_c nb5 2 [Slc nb3 0 64 64, .slice ao1 0 ca1] [xbN (blkL key) (54:UInt8) 64, ([] : List UInt8)] w1 (by simp) (by simp) (by simp) ⟨RdA.of hw1 (MemAt.ent 3 rfl (Seg.whole _)) (by simp), ⟨⟨(some ⟨nb3, 0, none⟩), 64, congrArg (fun n => Value.slice (some ⟨nb3, 0, none⟩) n 64) ((xbN_len64 _ 64 (blkL_len _))).symm, (RdB.of hw1 (MemAt.ent 2 rfl (Seg.whole _)) (by simp))⟩, ⟨⟨ao1, ca1, congrArg (fun n => Value.slice ao1 n ca1) (rfl).symm, RdB.nil⟩, trivial⟩⟩⟩ (by simp only [List.flatten_cons, List.flatten_nil, List.length_append, List.length_nil, (xbN_len64 _ 64 (blkL_len _))]; omega) (hG.at hw1))) rfl ?_
    rintro v1 L1 ⟨rfl, rfl⟩
    show JL _ _ _ _ ((14, .agg (cu8 (sumG constL initL ([xbN (blkL key) (54:UInt8) 64, ([] : List UInt8)].flatten))).toArray) :: _) [⟨nb1, cu8 (zr8 32), 25, (0, 0)⟩, ⟨nb2, cu8 (blkL key), 32, (0, 0)⟩, ⟨nb3, cu8 (xbN (blkL key) (54:UInt8) 64), tw1, (0, 0)⟩, ⟨nb5, [Slc nb3 0 64 64, .slice ao1 0 ca1], 22, (0, 0)⟩]
    refine JL_step (Step_alloc _ (cu8 (zr8 32)) Tryd.zeroValue25 (by kernel_rfl)) rfl ?_
    rintro v1 L1 ⟨nb6, hnb6, rfl, rfl⟩
    show JL _ _ _ _ ((6, Ptr nb6 0) :: _) [⟨nb1, cu8 (zr8 32), 25, (0, 0)⟩, ⟨nb2, cu8 (blkL key), 32, (0, 0)⟩, ⟨nb3, cu8 (xbN (blkL key) (54:UInt8) 64), tw1, (0, 0)⟩, ⟨nb5, [Slc nb3 0 64 64, .slice ao1 0 ca1], 22, (0, 0)⟩, ⟨nb6, cu8 (zr8 32), 25, (0, 0)⟩]
    refine JL_step (Step_store 4 nb6 0 32 (cu8 (zr8 32)) 25 (.agg (cu8 (sumG constL initL ([xbN (blkL key) (54:UInt8) 64, ([] : List UInt8)].flatten))).toArray) (cu8 (sumG constL initL ([xbN (blkL key) (54:UInt8) 64, ([] : List UInt8)].flatten))) (cu8 (sumG constL initL ([xbN (blkL key) (54:UInt8) 64, ([] : List UInt8)].flatten))) rfl rfl rfl (by first | rfl | simp) Tryd.sizeOf25 (len_cu8 (sumG_len _ _ _)) (by first | exact one_u8 | exact one_u32 | exact one_u64 | (simp [cu8, cu32, cu64, Value.oneCell']; done)) (by simp [(zr8_len 32)]) (lay_whole (by simp [(zr8_len 32), (sumG_len _ _ _)]))) rfl ?_
    rintro v1 L1 ⟨rfl, rfl⟩
    show JL _ _ _ _ _ [⟨nb1, cu8 (zr8 32), 25, (0, 0)⟩, ⟨nb2, cu8 (blkL key), 32, (0, 0)⟩, ⟨nb3, cu8 (xbN (blkL key) (54:UInt8) 64), tw1, (0, 0)⟩, ⟨nb5, [Slc nb3 0 64 64, .slice ao1 0 ca1], 22, (0, 0)⟩, ⟨nb6, cu8 (sumG constL initL ([xbN (blkL key) (54:UInt8) 64, ([] : List UInt8)].flatten)), 25, (0, 0)⟩]
    refine JL_nil ?_
    refine JQ_then ?_
    refine JC_seq ?_
    refine JC_draw 20 5 [(0, .agg (cu8 (blkL key)).toArray), (2, Slc nb6 0 32 32)] Tryd.mixed rfl (by decide +kernel) ?_
    refine DP_one ⟨[], [0, 2], [], [0, 2], [1]⟩ 1 _ rfl rfl (by decide +kernel) rfl ⟨⟨_, rfl, Qok_val rfl (Ev_load rfl (Ld_agg Tryd.isAgg32 Tryd.sizeOf32 (len_cu8 (blkL_len _)) (MemAt.ent 1 rfl (Seg.whole _))))⟩, ⟨_, rfl, Qok_val rfl (Ev_sliceA 32 5 1 0 32 0 32 Tryd.underlying25 Tryd.sizeOf5 rfl rfl rfl (by omega) (by omega) (by omega) (by omega) (by omega) 32 (by omega))⟩, trivial⟩ rfl (Cok_step rfl (Step_callN 95 [.agg (cu8 (blkL key)).toArray, U8 (92:UInt8)] _ (Cl_func [.agg (cu8 (blkL key)).toArray, U8 (92:UInt8)] Tryd.call95 rfl) (fun w1 hw1 => with_c (blkL key) (92:UInt8) w1 (blkL_len _)))) ?_
    rintro v1 L1 ⟨_, ⟨nb7, tw2, rfl, rfl⟩, rfl⟩
    refine ⟨[], ?_⟩
    show DP _ _ _ _ _ _ _ _ [⟨nb1, cu8 (zr8 32), 25, (0, 0)⟩, ⟨nb2, cu8 (blkL key), 32, (0, 0)⟩, ⟨nb3, cu8 (xbN (blkL key) (54:UInt8) 64), tw1, (0, 0)⟩, ⟨nb5, [Slc nb3 0 64 64, .slice ao1 0 ca1], 22, (0, 0)⟩, ⟨nb6, cu8 (sumG constL initL ([xbN (blkL key) (54:UInt8) 64, ([] : List UInt8)].flatten)), 25, (0, 0)⟩, ⟨nb7, cu8 (xbN (blkL key) (92:UInt8) 64), tw2, (0, 0)⟩]
    refine DP_one ⟨[1], [0, 2], [0], [2], [3]⟩ 3 _ rfl rfl (by decide +kernel) rfl ⟨⟨_, rfl, Qok_val rfl (Ev_sliceA 32 5 1 0 32 0 32 Tryd.underlying25 Tryd.sizeOf5 rfl rfl rfl (by omega) (by omega) (by omega) (by omega) (by omega) 32 (by omega))⟩, trivial⟩ rfl (Cok_step rfl (Step_buildSlice 22 1 _ [(0, Slc nb7 0 64 64), (1, Slc nb6 0 32 32)] ([Slc nb7 0 64 64, Slc nb6 0 32 32]) Tryd.underlying125 Tryd.sizeOf22 Tryd.zeroValue22 rfl rfl rfl (by kernel_rfl))) ?_
    rintro v1 L1 ⟨nb8, hnb8, rfl, rfl⟩
    refine ⟨[], ?_⟩
    show DP _ _ _ _ _ _ _ _ [⟨nb1, cu8 (zr8 32), 25, (0, 0)⟩, ⟨nb2, cu8 (blkL key), 32, (0, 0)⟩, ⟨nb3, cu8 (xbN (blkL key) (54:UInt8) 64), tw1, (0, 0)⟩, ⟨nb5, [Slc nb3 0 64 64, .slice ao1 0 ca1], 22, (0, 0)⟩, ⟨nb6, cu8 (sumG constL initL ([xbN (blkL key) (54:UInt8) 64, ([] : List UInt8)].flatten)), 25, (0, 0)⟩, ⟨nb7, cu8 (xbN (blkL key) (92:UInt8) 64), tw2, (0, 0)⟩, ⟨nb8, [Slc nb7 0 64 64, Slc nb6 0 32 32], 22, (0, 0)⟩]
    refine DP_one ⟨[1, 3], [0, 2], [0, 2], [], [4]⟩ 4 _ rfl rfl (by decide +kernel) rfl trivial rfl (Cok_step rfl (Step_callP 30 [Slc nb8 0 2 2] (.agg (cu8 (sumG constL initL ([xbN (blkL key) (92:UInt8) 64, sumG constL initL ([xbN (blkL key) (54:UInt8) 64, ([] : List UInt8)].flatten)].flatten))).toArray) (Cl_func [Slc nb8 0 2 2] Tryd.call30 rfl) (fun w1 hw1 => of_c nb8 2 [Slc nb7 0 64 64, Slc nb6 0 32 32] [xbN (blkL key) (92:UInt8) 64, sumG constL initL ([xbN (blkL key) (54:UInt8) 64, ([] : List UInt8)].flatten)] w1 (by simp) (by simp) (by simp) ⟨RdA.of hw1 (MemAt.ent 6 rfl (Seg.whole _)) (by simp), ⟨⟨(some ⟨nb7, 0, none⟩), 64, congrArg (fun n => Value.slice (some ⟨nb7, 0, none⟩) n 64) ((xbN_len64 _ 64 (blkL_len _))).symm, (RdB.of hw1 (MemAt.ent 5 rfl (Seg.whole _)) (by simp))⟩, ⟨⟨(some ⟨nb6, 0, none⟩), 32, congrArg (fun n => Value.slice (some ⟨nb6, 0, none⟩) n 32) ((sumG_len _ _ _)).symm, (RdB.of hw1 (MemAt.ent 4 rfl (Seg.whole _)) (by simp))⟩, trivial⟩⟩⟩ (by simp only [List.flatten_cons, List.flatten_nil, List.length_append, List.length_nil, (xbN_len64 _ 64 (blkL_len _)), (sumG_len _ _ _)]; omega) (hG.at hw1)))) ?_
    rintro v1 L1 ⟨rfl, rfl⟩
    refine ⟨[], ?_⟩
    show DP _ _ _ _ _ _ _ _ [⟨nb1, cu8 (zr8 32), 25, (0, 0)⟩, ⟨nb2, cu8 (blkL key), 32, (0, 0)⟩, ⟨nb3, cu8 (xbN (blkL key) (54:UInt8) 64), tw1, (0, 0)⟩, ⟨nb5, [Slc nb3 0 64 64, .slice ao1 0 ca1], 22, (0, 0)⟩, ⟨nb6, cu8 (sumG constL initL ([xbN (blkL key) (54:UInt8) 64, ([] : List UInt8)].flatten)), 25, (0, 0)⟩, ⟨nb7, cu8 (xbN (blkL key) (92:UInt8) 64), tw2, (0, 0)⟩, ⟨nb8, [Slc nb7 0 64 64, Slc nb6 0 32 32], 22, (0, 0)⟩]
    refine DP_one ⟨[1, 3, 4], [0, 2], [0, 2], [], [5]⟩ 5 _ rfl rfl (by decide +kernel) rfl trivial rfl (Cok_step rfl (Step_store 0 nb1 0 32 (cu8 (zr8 32)) 25 (.agg (cu8 (sumG constL initL ([xbN (blkL key) (92:UInt8) 64, sumG constL initL ([xbN (blkL key) (54:UInt8) 64, ([] : List UInt8)].flatten)].flatten))).toArray) (cu8 (sumG constL initL ([xbN (blkL key) (92:UInt8) 64, sumG constL initL ([xbN (blkL key) (54:UInt8) 64, ([] : List UInt8)].flatten)].flatten))) (cu8 (sumG constL initL ([xbN (blkL key) (92:UInt8) 64, sumG constL initL ([xbN (blkL key) (54:UInt8) 64, ([] : List UInt8)].flatten)].flatten))) rfl rfl rfl (by first | rfl | simp) Tryd.sizeOf25 (len_cu8 (sumG_len _ _ _)) (by first | exact one_u8 | exact one_u32 | exact one_u64 | (simp [cu8, cu32, cu64, Value.oneCell']; done)) (by simp [(zr8_len 32)]) (lay_whole (by simp [(zr8_len 32), (sumG_len _ _ _)])))) ?_
    rintro v1 L1 ⟨rfl, rfl⟩
    refine ⟨[], ?_⟩
    show DP _ _ _ _ _ _ _ _ [⟨nb1, cu8 (sumG constL initL ([xbN (blkL key) (92:UInt8) 64, sumG constL initL ([xbN (blkL key) (54:UInt8) 64, ([] : List UInt8)].flatten)].flatten)), 25, (0, 0)⟩, ⟨nb2, cu8 (blkL key), 32, (0, 0)⟩, ⟨nb3, cu8 (xbN (blkL key) (54:UInt8) 64), tw1, (0, 0)⟩, ⟨nb5, [Slc nb3 0 64 64, .slice ao1 0 ca1], 22, (0, 0)⟩, ⟨nb6, cu8 (sumG constL initL ([xbN (blkL key) (54:UInt8) 64, ([] : List UInt8)].flatten)), 25, (0, 0)⟩, ⟨nb7, cu8 (xbN (blkL key) (92:UInt8) 64), tw2, (0, 0)⟩, ⟨nb8, [Slc nb7 0 64 64, Slc nb6 0 32 32], 22, (0, 0)⟩]
    refine DP_end ⟨[1, 3, 4, 5], [0, 2], [0, 2], [], []⟩ rfl rfl (by decide +kernel) rfl trivial ?_
    refine K_sub (F' := [(4, Ptr nb1 0)]) (Sub.cons (by kernel_rfl) (Sub.nil)) ?_
    show JQ _ _ _ [(4, Ptr nb1 0)] _
    refine JQ_then ?_
    refine JC_ret ?_
    refine JQ_ret (.agg (cu8 (sumG constL initL ([xbN (blkL key) (92:UInt8) 64, sumG constL initL ([xbN (blkL key) (54:UInt8) 64, ([] : List UInt8)].flatten)].flatten))).toArray) (res1 Tryd.results39 (RV_cell rfl (Ld_agg Tryd.isAgg25 Tryd.sizeOf25 (len_cu8 (sumG_len _ _ _)) (MemAt.ent 0 rfl (Seg.whole _))))) fun w1 hw1 => ?_
    refine ⟨_, [], rfl, ⟨?_, rfl⟩, hw1.sub (by simp) (by simp)⟩
    rw [macL]
    first | (simp; done) | (rw [he1]; simp; done)
  ·
    show JL _ _ _ _ ((12, Slc nb4 0 ls.flatten.length cp1) :: _) [⟨nb1, cu8 (zr8 32), 25, (0, 0)⟩, ⟨nb2, cu8 (blkL key), 32, (0, 0)⟩, ⟨nb3, cu8 (xbN (blkL key) (54:UInt8) 64), tw1, (0, 0)⟩, ⟨nb4, cu8 ls.flatten ++ sp1, tj1, fj1⟩]
    refine JL_step (Step_buildSlice 22 1 _ [(0, Slc nb3 0 64 64), (1, Slc nb4 0 ls.flatten.length cp1)] ([Slc nb3 0 64 64, Slc nb4 0 ls.flatten.length cp1]) Tryd.underlying125 Tryd.sizeOf22 Tryd.zeroValue22 rfl rfl rfl (by kernel_rfl)) rfl ?_
    rintro v1 L1 ⟨nb9, hnb9, rfl, rfl⟩
    show JL _ _ _ _ ((13, Slc nb9 0 2 2) :: _) [⟨nb1, cu8 (zr8 32), 25, (0, 0)⟩, ⟨nb2, cu8 (blkL key), 32, (0, 0)⟩, ⟨nb3, cu8 (xbN (blkL key) (54:UInt8) 64), tw1, (0, 0)⟩, ⟨nb4, cu8 ls.flatten ++ sp1, tj1, fj1⟩, ⟨nb9, [Slc nb3 0 64 64, Slc nb4 0 ls.flatten.length cp1], 22, (0, 0)⟩]
    refine JL_step (Step_callP 30 [Slc nb9 0 2 2] (.agg (cu8 (sumG constL initL ([xbN (blkL key) (54:UInt8) 64, ls.flatten].flatten))).toArray) (Cl_func [Slc nb9 0 2 2] Tryd.call30 rfl) (fun w1 hw1 => of_c nb9 2 [Slc nb3 0 64 64, Slc nb4 0 ls.flatten.length cp1] [xbN (blkL key) (54:UInt8) 64, ls.flatten] w1 (by simp) (by simp) (by simp) ⟨RdA.of hw1 (MemAt.ent 4 rfl (Seg.whole _)) (by simp), ⟨⟨(some ⟨nb3, 0, none⟩), 64, congrArg (fun n => Value.slice (some ⟨nb3, 0, none⟩) n 64) ((xbN_len64 _ 64 (blkL_len _))).symm, (RdB.of hw1 (MemAt.ent 2 rfl (Seg.whole _)) (by simp))⟩, ⟨⟨(some ⟨nb4, 0, none⟩), cp1, congrArg (fun n => Value.slice (some ⟨nb4, 0, none⟩) n cp1) ((rfl : ls.flatten.length = _)).symm, (RdB.of hw1 (MemAt.ent 3 rfl (Seg.left (Seg.whole _))) (by simp))⟩, trivial⟩⟩⟩ (by simp only [List.flatten_cons, List.flatten_nil, List.length_append, List.length_nil, (xbN_len64 _ 64 (blkL_len _))]; omega) (hG.at hw1))) rfl ?_
    rintro v1 L1 ⟨rfl, rfl⟩
    show JL _ _ _ _ ((14, .agg (cu8 (sumG constL initL ([xbN (blkL key) (54:UInt8) 64, ls.flatten].flatten))).toArray) :: _) [⟨nb1, cu8 (zr8 32), 25, (0, 0)⟩, ⟨nb2, cu8 (blkL key), 32, (0, 0)⟩, ⟨nb3, cu8 (xbN (blkL key) (54:UInt8) 64), tw1, (0, 0)⟩, ⟨nb4, cu8 ls.flatten ++ sp1, tj1, fj1⟩, ⟨nb9, [Slc nb3 0 64 64, Slc nb4 0 ls.flatten.length cp1], 22, (0, 0)⟩]
    refine JL_step (Step_alloc _ (cu8 (zr8 32)) Tryd.zeroValue25 (by kernel_rfl)) rfl ?_
    rintro v1 L1 ⟨nb10, hnb10, rfl, rfl⟩
    show JL _ _ _ _ ((6, Ptr nb10 0) :: _) [⟨nb1, cu8 (zr8 32), 25, (0, 0)⟩, ⟨nb2, cu8 (blkL key), 32, (0, 0)⟩, ⟨nb3, cu8 (xbN (blkL key) (54:UInt8) 64), tw1, (0, 0)⟩, ⟨nb4, cu8 ls.flatten ++ sp1, tj1, fj1⟩, ⟨nb9, [Slc nb3 0 64 64, Slc nb4 0 ls.flatten.length cp1], 22, (0, 0)⟩, ⟨nb10, cu8 (zr8 32), 25, (0, 0)⟩]
    refine JL_step (Step_store 5 nb10 0 32 (cu8 (zr8 32)) 25 (.agg (cu8 (sumG constL initL ([xbN (blkL key) (54:UInt8) 64, ls.flatten].flatten))).toArray) (cu8 (sumG constL initL ([xbN (blkL key) (54:UInt8) 64, ls.flatten].flatten))) (cu8 (sumG constL initL ([xbN (blkL key) (54:UInt8) 64, ls.flatten].flatten))) rfl rfl rfl (by first | rfl | simp) Tryd.sizeOf25 (len_cu8 (sumG_len _ _ _)) (by first | exact one_u8 | exact one_u32 | exact one_u64 | (simp [cu8, cu32, cu64, Value.oneCell']; done)) (by simp [(zr8_len 32)]) (lay_whole (by simp [(zr8_len 32), (sumG_len _ _ _)]))) rfl ?_
    rintro v1 L1 ⟨rfl, rfl⟩
    show JL _ _ _ _ _ [⟨nb1, cu8 (zr8 32), 25, (0, 0)⟩, ⟨nb2, cu8 (blkL key), 32, (0, 0)⟩, ⟨nb3, cu8 (xbN (blkL key) (54:UInt8) 64), tw1, (0, 0)⟩, ⟨nb4, cu8 ls.flatten ++ sp1, tj1, fj1⟩, ⟨nb9, [Slc nb3 0 64 64, Slc nb4 0 ls.flatten.length cp1], 22, (0, 0)⟩, ⟨nb10, cu8 (sumG constL initL ([xbN (blkL key) (54:UInt8) 64, ls.flatten].flatten)), 25, (0, 0)⟩]
    refine JL_nil ?_
    refine JQ_then ?_
    refine JC_seq ?_
    refine JC_draw 20 5 [(0, .agg (cu8 (blkL key)).toArray), (2, Slc nb10 0 32 32)] Tryd.mixed rfl (by decide +kernel) ?_
    refine DP_one ⟨[], [0, 2], [], [0, 2], [1]⟩ 1 _ rfl rfl (by decide +kernel) rfl ⟨⟨_, rfl, Qok_val rfl (Ev_load rfl (Ld_agg Tryd.isAgg32 Tryd.sizeOf32 (len_cu8 (blkL_len _)) (MemAt.ent 1 rfl (Seg.whole _))))⟩, ⟨_, rfl, Qok_val rfl (Ev_sliceA 32 5 1 0 32 0 32 Tryd.underlying25 Tryd.sizeOf5 rfl rfl rfl (by omega) (by omega) (by omega) (by omega) (by omega) 32 (by omega))⟩, trivial⟩ rfl (Cok_step rfl (Step_callN 95 [.agg (cu8 (blkL key)).toArray, U8 (92:UInt8)] _ (Cl_func [.agg (cu8 (blkL key)).toArray, U8 (92:UInt8)] Tryd.call95 rfl) (fun w1 hw1 => with_c (blkL key) (92:UInt8) w1 (blkL_len _)))) ?_
    rintro v1 L1 ⟨_, ⟨nb11, tw3, rfl, rfl⟩, rfl⟩
    refine ⟨[], ?_⟩
    show DP _ _ _ _ _ _ _ _ [⟨nb1, cu8 (zr8 32), 25, (0, 0)⟩, ⟨nb2, cu8 (blkL key), 32, (0, 0)⟩, ⟨nb3, cu8 (xbN (blkL key) (54:UInt8) 64), tw1, (0, 0)⟩, ⟨nb4, cu8 ls.flatten ++ sp1, tj1, fj1⟩, ⟨nb9, [Slc nb3 0 64 64, Slc nb4 0 ls.flatten.length cp1], 22, (0, 0)⟩, ⟨nb10, cu8 (sumG constL initL ([xbN (blkL key) (54:UInt8) 64, ls.flatten].flatten)), 25, (0, 0)⟩, ⟨nb11, cu8 (xbN (blkL key) (92:UInt8) 64), tw3, (0, 0)⟩]
    refine DP_one ⟨[1], [0, 2], [0], [2], [3]⟩ 3 _ rfl rfl (by decide +kernel) rfl ⟨⟨_, rfl, Qok_val rfl (Ev_sliceA 32 5 1 0 32 0 32 Tryd.underlying25 Tryd.sizeOf5 rfl rfl rfl (by omega) (by omega) (by omega) (by omega) (by omega) 32 (by omega))⟩, trivial⟩ rfl (Cok_step rfl (Step_buildSlice 22 1 _ [(0, Slc nb11 0 64 64), (1, Slc nb10 0 32 32)] ([Slc nb11 0 64 64, Slc nb10 0 32 32]) Tryd.underlying125 Tryd.sizeOf22 Tryd.zeroValue22 rfl rfl rfl (by kernel_rfl))) ?_
    rintro v1 L1 ⟨nb12, hnb12, rfl, rfl⟩
    refine ⟨[], ?_⟩
    show DP _ _ _ _ _ _ _ _ [⟨nb1, cu8 (zr8 32), 25, (0, 0)⟩, ⟨nb2, cu8 (blkL key), 32, (0, 0)⟩, ⟨nb3, cu8 (xbN (blkL key) (54:UInt8) 64), tw1, (0, 0)⟩, ⟨nb4, cu8 ls.flatten ++ sp1, tj1, fj1⟩, ⟨nb9, [Slc nb3 0 64 64, Slc nb4 0 ls.flatten.length cp1], 22, (0, 0)⟩, ⟨nb10, cu8 (sumG constL initL ([xbN (blkL key) (54:UInt8) 64, ls.flatten].flatten)), 25, (0, 0)⟩, ⟨nb11, cu8 (xbN (blkL key) (92:UInt8) 64), tw3, (0, 0)⟩, ⟨nb12, [Slc nb11 0 64 64, Slc nb10 0 32 32], 22, (0, 0)⟩]
    refine DP_one ⟨[1, 3], [0, 2], [0, 2], [], [4]⟩ 4 _ rfl rfl (by decide +kernel) rfl trivial rfl (Cok_step rfl (Step_callP 30 [Slc nb12 0 2 2] (.agg (cu8 (sumG constL initL ([xbN (blkL key) (92:UInt8) 64, sumG constL initL ([xbN (blkL key) (54:UInt8) 64, ls.flatten].flatten)].flatten))).toArray) (Cl_func [Slc nb12 0 2 2] Tryd.call30 rfl) (fun w1 hw1 => of_c nb12 2 [Slc nb11 0 64 64, Slc nb10 0 32 32] [xbN (blkL key) (92:UInt8) 64, sumG constL initL ([xbN (blkL key) (54:UInt8) 64, ls.flatten].flatten)] w1 (by simp) (by simp) (by simp) ⟨RdA.of hw1 (MemAt.ent 7 rfl (Seg.whole _)) (by simp), ⟨⟨(some ⟨nb11, 0, none⟩), 64, congrArg (fun n => Value.slice (some ⟨nb11, 0, none⟩) n 64) ((xbN_len64 _ 64 (blkL_len _))).symm, (RdB.of hw1 (MemAt.ent 6 rfl (Seg.whole _)) (by simp))⟩, ⟨⟨(some ⟨nb10, 0, none⟩), 32, congrArg (fun n => Value.slice (some ⟨nb10, 0, none⟩) n 32) ((sumG_len _ _ _)).symm, (RdB.of hw1 (MemAt.ent 5 rfl (Seg.whole _)) (by simp))⟩, trivial⟩⟩⟩ (by simp only [List.flatten_cons, List.flatten_nil, List.length_append, List.length_nil, (xbN_len64 _ 64 (blkL_len _)), (sumG_len _ _ _)]; omega) (hG.at hw1)))) ?_
    rintro v1 L1 ⟨rfl, rfl⟩
    refine ⟨[], ?_⟩
    show DP _ _ _ _ _ _ _ _ [⟨nb1, cu8 (zr8 32), 25, (0, 0)⟩, ⟨nb2, cu8 (blkL key), 32, (0, 0)⟩, ⟨nb3, cu8 (xbN (blkL key) (54:UInt8) 64), tw1, (0, 0)⟩, ⟨nb4, cu8 ls.flatten ++ sp1, tj1, fj1⟩, ⟨nb9, [Slc nb3 0 64 64, Slc nb4 0 ls.flatten.length cp1], 22, (0, 0)⟩, ⟨nb10, cu8 (sumG constL initL ([xbN (blkL key) (54:UInt8) 64, ls.flatten].flatten)), 25, (0, 0)⟩, ⟨nb11, cu8 (xbN (blkL key) (92:UInt8) 64), tw3, (0, 0)⟩, ⟨nb12, [Slc nb11 0 64 64, Slc nb10 0 32 32], 22, (0, 0)⟩]
    refine DP_one ⟨[1, 3, 4], [0, 2], [0, 2], [], [5]⟩ 5 _ rfl rfl (by decide +kernel) rfl trivial rfl (Cok_step rfl (Step_store 0 nb1 0 32 (cu8 (zr8 32)) 25 (.agg (cu8 (sumG constL initL ([xbN (blkL key) (92:UInt8) 64, sumG constL initL ([xbN (blkL key) (54:UInt8) 64, ls.flatten].flatten)].flatten))).toArray) (cu8 (sumG constL initL ([xbN (blkL key) (92:UInt8) 64, sumG constL initL ([xbN (blkL key) (54:UInt8) 64, ls.flatten].flatten)].flatten))) (cu8 (sumG constL initL ([xbN (blkL key) (92:UInt8) 64, sumG constL initL ([xbN (blkL key) (54:UInt8) 64, ls.flatten].flatten)].flatten))) rfl rfl rfl (by first | rfl | simp) Tryd.sizeOf25 (len_cu8 (sumG_len _ _ _)) (by first | exact one_u8 | exact one_u32 | exact one_u64 | (simp [cu8, cu32, cu64, Value.oneCell']; done)) (by simp [(zr8_len 32)]) (lay_whole (by simp [(zr8_len 32), (sumG_len _ _ _)])))) ?_
    rintro v1 L1 ⟨rfl, rfl⟩
    refine ⟨[], ?_⟩
    show DP _ _ _ _ _ _ _ _ [⟨nb1, cu8 (sumG constL initL ([xbN (blkL key) (92:UInt8) 64, sumG constL initL ([xbN (blkL key) (54:UInt8) 64, ls.flatten].flatten)].flatten)), 25, (0, 0)⟩, ⟨nb2, cu8 (blkL key), 32, (0, 0)⟩, ⟨nb3, cu8 (xbN (blkL key) (54:UInt8) 64), tw1, (0, 0)⟩, ⟨nb4, cu8 ls.flatten ++ sp1, tj1, fj1⟩, ⟨nb9, [Slc nb3 0 64 64, Slc nb4 0 ls.flatten.length cp1], 22, (0, 0)⟩, ⟨nb10, cu8 (sumG constL initL ([xbN (blkL key) (54:UInt8) 64, ls.flatten].flatten)), 25, (0, 0)⟩, ⟨nb11, cu8 (xbN (blkL key) (92:UInt8) 64), tw3, (0, 0)⟩, ⟨nb12, [Slc nb11 0 64 64, Slc nb10 0 32 32], 22, (0, 0)⟩]
    refine DP_end ⟨[1, 3, 4, 5], [0, 2], [0, 2], [], []⟩ rfl rfl (by decide +kernel) rfl trivial ?_
    refine K_sub (F' := [(4, Ptr nb1 0)]) (Sub.cons (by kernel_rfl) (Sub.nil)) ?_
    show JQ _ _ _ [(4, Ptr nb1 0)] _
    refine JQ_then ?_
    refine JC_ret ?_
    refine JQ_ret (.agg (cu8 (sumG constL initL ([xbN (blkL key) (92:UInt8) 64, sumG constL initL ([xbN (blkL key) (54:UInt8) 64, ls.flatten].flatten)].flatten))).toArray) (res1 Tryd.results39 (RV_cell rfl (Ld_agg Tryd.isAgg25 Tryd.sizeOf25 (len_cu8 (sumG_len _ _ _)) (MemAt.ent 0 rfl (Seg.whole _))))) fun w1 hw1 => ?_
    refine ⟨_, [], rfl, ⟨?_, rfl⟩, hw1.sub (by simp) (by simp)⟩
    rw [macL]
    first | (simp; done) | (rw [he1]; simp; done)

theorem mac0_c (ao : Option Addr) (n cb : Nat) (key : List UInt8)  (w : World) (hb : key.length = n) (hcb : ao = none → cb = 0) (hn : n ≤ 17592186044416) (hr : RdB w [] ao key) (hG : GLs w) : Calls Tryd.prog 39 #[.slice ao n cb, .slice none 0 0] w (Post w [] (fun v L => v = .agg (cu8 (macL key [])).toArray ∧ L = [])) := by
  refine enter w [] 20 [] [.slice ao n cb, .slice none 0 0] Tryd.func39 rfl rfl (by simp) (Hp.start (by simp) (by simp) (by simp)) ?_
  show JC _ _ _ [(0, .slice ao n cb), (1, .slice none 0 0)] _
  refine JC_seq ?_
  refine JC_region ?_
  refine JL_step (Step_alloc _ (cu8 (zr8 32)) Tryd.zeroValue25 (by kernel_rfl)) rfl ?_
  rintro v1 L1 ⟨nb1, hnb1, rfl, rfl⟩
  show JL _ _ _ _ ((4, Ptr nb1 0) :: _) [⟨nb1, cu8 (zr8 32), 25, (0, 0)⟩]
  refine JL_nil ?_
  refine JQ_then ?_
  refine JC_seq ?_
  refine JC_region ?_
  refine JL_val _ (Ev_move rfl) rfl ?_
  refine JL_step (Step_callP 38 [.slice ao n cb] (.agg (cu8 (blkL key)).toArray) (Cl_func [.slice ao n cb] Tryd.call38 rfl) (fun w1 hw1 => block_c ao n cb key w1 hb hcb (by omega) (hr.at (M' := []) hw1 (by simp)) (hG.at hw1))) rfl ?_
  rintro v1 L1 ⟨rfl, rfl⟩
  show JL _ _ _ _ ((8, .agg (cu8 (blkL key)).toArray) :: _) [⟨nb1, cu8 (zr8 32), 25, (0, 0)⟩]
  refine JL_step (Step_alloc _ (cu8 (zr8 64)) Tryd.zeroValue32 (by kernel_rfl)) rfl ?_
  rintro v1 L1 ⟨nb2, hnb2, rfl, rfl⟩
  show JL _ _ _ _ ((5, Ptr nb2 0) :: _) [⟨nb1, cu8 (zr8 32), 25, (0, 0)⟩, ⟨nb2, cu8 (zr8 64), 32, (0, 0)⟩]
  refine JL_step (Step_store 1 nb2 0 64 (cu8 (zr8 64)) 32 (.agg (cu8 (blkL key)).toArray) (cu8 (blkL key)) (cu8 (blkL key)) rfl rfl rfl (by first | rfl | simp) Tryd.sizeOf32 (len_cu8 (blkL_len _)) (by first | exact one_u8 | exact one_u32 | exact one_u64 | (simp [cu8, cu32, cu64, Value.oneCell']; done)) (by simp [(zr8_len 64)]) (lay_whole (by simp [(zr8_len 64), (blkL_len _)]))) rfl ?_
  rintro v1 L1 ⟨rfl, rfl⟩
  show JL _ _ _ _ _ [⟨nb1, cu8 (zr8 32), 25, (0, 0)⟩, ⟨nb2, cu8 (blkL key), 32, (0, 0)⟩]
  refine JL_nil ?_
  refine JQ_then ?_
  refine JC_seq ?_
  refine JC_region ?_
  refine JL_val (.agg (cu8 (blkL key)).toArray) (Ev_load rfl (Ld_agg Tryd.isAgg32 Tryd.sizeOf32 (len_cu8 (blkL_len _)) (MemAt.ent 1 rfl (Seg.whole _)))) rfl ?_
  refine JL_step (Step_callN 95 [.agg (cu8 (blkL key)).toArray, U8 (54:UInt8)] _ (Cl_func [.agg (cu8 (blkL key)).toArray, U8 (54:UInt8)] Tryd.call95 rfl) (fun w1 hw1 => with_c (blkL key) (54:UInt8) w1 (blkL_len _))) rfl ?_
  rintro v1 L1 ⟨_, ⟨nb3, tw1, rfl, rfl⟩, rfl⟩
  show JL _ _ _ _ ((10, Slc nb3 0 64 64) :: _) [⟨nb1, cu8 (zr8 32), 25, (0, 0)⟩, ⟨nb2, cu8 (blkL key), 32, (0, 0)⟩, ⟨nb3, cu8 (xbN (blkL key) (54:UInt8) 64), tw1, (0, 0)⟩]
  refine JL_val _ (Ev_move rfl) rfl ?_
  refine JL_step (Step_callN 88 [.slice none 0 0, .slice none 0 0] _ (Cl_func [.slice none 0 0, .slice none 0 0] Tryd.call88 rfl) (fun w1 hw1 => join0_c none 0 w1)) rfl ?_
  rintro v1 L1 ⟨_, (⟨he1, ao1, ca1, rfl, rfl, hn1⟩ | ⟨⟨⟩, _⟩), rfl⟩
  ·
    show JL _ _ _ _ ((12, .slice ao1 0 ca1) :: _) [⟨nb1, cu8 (zr8 32), 25, (0, 0)⟩, ⟨nb2, cu8 (blkL key), 32, (0, 0)⟩, ⟨nb3, cu8 (xbN (blkL key) (54:UInt8) 64), tw1, (0, 0)⟩]
    refine JL_step (Step_buildSlice 22 1 _ [(0, Slc nb3 0 64 64), (1, .slice ao1 0 ca1)] ([Slc nb3 0 64 64, .slice ao1 0 ca1]) Tryd.underlying125 Tryd.sizeOf22 Tryd.zeroValue22 rfl rfl rfl (by kernel_rfl)) rfl ?_
    rintro v1 L1 ⟨nb5, hnb5, rfl, rfl⟩
    show JL _ _ _ _ ((13, Slc nb5 0 2 2) :: _) [⟨nb1, cu8 (zr8 32), 25, (0, 0)⟩, ⟨nb2, cu8 (blkL key), 32, (0, 0)⟩, ⟨nb3, cu8 (xbN (blkL key) (54:UInt8) 64), tw1, (0, 0)⟩, ⟨nb5, [Slc nb3 0 64 64, .slice ao1 0 ca1], 22, (0, 0)⟩]
    refine JL_step (Step_callP 30 [Slc nb5 0 2 2] (.agg (cu8 (sumG constL initL ([xbN (blkL key) (54:UInt8) 64, ([] : List UInt8)].flatten))).toArray) (Cl_func [Slc nb5 0 2 2] Tryd.call30 rfl) (fun w1 hw1 => of_c nb5 2 [Slc nb3 0 64 64, .slice ao1 0 ca1] [xbN (blkL key) (54:UInt8) 64, ([] : List UInt8)] w1 (by simp) (by simp) (by simp) ⟨RdA.of hw1 (MemAt.ent 3 rfl (Seg.whole _)) (by simp), ⟨⟨(some ⟨nb3, 0, none⟩), 64, congrArg (fun n => Value.slice (some ⟨nb3, 0, none⟩) n 64) ((xbN_len64 _ 64 (blkL_len _))).symm, (RdB.of hw1 (MemAt.ent 2 rfl (Seg.whole _)) (by simp))⟩, ⟨⟨ao1, ca1, congrArg (fun n => Value.slice ao1 n ca1) (rfl).symm, RdB.nil⟩, trivial⟩⟩⟩ (by simp only [List.flatten_cons, List.flatten_nil, List.length_append, List.length_nil, (xbN_len64 _ 64 (blkL_len _))]; omega) (hG.at hw1))) rfl ?_
    rintro v1 L1 ⟨rfl, rfl⟩
    show JL _ _ _ _ ((14, .agg (cu8 (sumG constL initL ([xbN (blkL key) (54:UInt8) 64, ([] : List UInt8)].flatten))).toArray) :: _) [⟨nb1, cu8 (zr8 32), 25, (0, 0)⟩, ⟨nb2, cu8 (blkL key), 32, (0, 0)⟩, ⟨nb3, cu8 (xbN (blkL key) (54:UInt8) 64), tw1, (0, 0)⟩, ⟨nb5, [Slc nb3 0 64 64, .slice ao1 0 ca1], 22, (0, 0)⟩]
    refine JL_step (Step_alloc _ (cu8 (zr8 32)) Tryd.zeroValue25 (by kernel_rfl)) rfl ?_
    rintro v1 L1 ⟨nb6, hnb6, rfl, rfl⟩
    show JL _ _ _ _ ((6, Ptr nb6 0) :: _) [⟨nb1, cu8 (zr8 32), 25, (0, 0)⟩, ⟨nb2, cu8 (blkL key), 32, (0, 0)⟩, ⟨nb3, cu8 (xbN (blkL key) (54:UInt8) 64), tw1, (0, 0)⟩, ⟨nb5, [Slc nb3 0 64 64, .slice ao1 0 ca1], 22, (0, 0)⟩, ⟨nb6, cu8 (zr8 32), 25, (0, 0)⟩]
    refine JL_step (Step_store 4 nb6 0 32 (cu8 (zr8 32)) 25 (.agg (cu8 (sumG constL initL ([xbN (blkL key) (54:UInt8) 64, ([] : List UInt8)].flatten))).toArray) (cu8 (sumG constL initL ([xbN (blkL key) (54:UInt8) 64, ([] : List UInt8)].flatten))) (cu8 (sumG constL initL ([xbN (blkL key) (54:UInt8) 64, ([] : List UInt8)].flatten))) rfl rfl rfl (by first | rfl | simp) Tryd.sizeOf25 (len_cu8 (sumG_len _ _ _)) (by first | exact one_u8 | exact one_u32 | exact one_u64 | (simp [cu8, cu32, cu64, Value.oneCell']; done)) (by simp [(zr8_len 32)]) (lay_whole (by simp [(zr8_len 32), (sumG_len _ _ _)]))) rfl ?_
    rintro v1 L1 ⟨rfl, rfl⟩
    show JL _ _ _ _ _ [⟨nb1, cu8 (zr8 32), 25, (0, 0)⟩, ⟨nb2, cu8 (blkL key), 32, (0, 0)⟩, ⟨nb3, cu8 (xbN (blkL key) (54:UInt8) 64), tw1, (0, 0)⟩, ⟨nb5, [Slc nb3 0 64 64, .slice ao1 0 ca1], 22, (0, 0)⟩, ⟨nb6, cu8 (sumG constL initL ([xbN (blkL key) (54:UInt8) 64, ([] : List UInt8)].flatten)), 25, (0, 0)⟩]
    refine JL_nil ?_
    refine JQ_then ?_
    refine JC_seq ?_
    refine JC_draw 20 5 [(0, .agg (cu8 (blkL key)).toArray), (2, Slc nb6 0 32 32)] Tryd.mixed rfl (by decide +kernel) ?_
    refine DP_one ⟨[], [0, 2], [], [0, 2], [1]⟩ 1 _ rfl rfl (by decide +kernel) rfl ⟨⟨_, rfl, Qok_val rfl (Ev_load rfl (Ld_agg Tryd.isAgg32 Tryd.sizeOf32 (len_cu8 (blkL_len _)) (MemAt.ent 1 rfl (Seg.whole _))))⟩, ⟨_, rfl, Qok_val rfl (Ev_sliceA 32 5 1 0 32 0 32 Tryd.underlying25 Tryd.sizeOf5 rfl rfl rfl (by omega) (by omega) (by omega) (by omega) (by omega) 32 (by omega))⟩, trivial⟩ rfl (Cok_step rfl (Step_callN 95 [.agg (cu8 (blkL key)).toArray, U8 (92:UInt8)] _ (Cl_func [.agg (cu8 (blkL key)).toArray, U8 (92:UInt8)] Tryd.call95 rfl) (fun w1 hw1 => with_c (blkL key) (92:UInt8) w1 (blkL_len _)))) ?_
    rintro v1 L1 ⟨_, ⟨nb7, tw2, rfl, rfl⟩, rfl⟩
    refine ⟨[], ?_⟩
    show DP _ _ _ _ _ _ _ _ [⟨nb1, cu8 (zr8 32), 25, (0, 0)⟩, ⟨nb2, cu8 (blkL key), 32, (0, 0)⟩, ⟨nb3, cu8 (xbN (blkL key) (54:UInt8) 64), tw1, (0, 0)⟩, ⟨nb5, [Slc nb3 0 64 64, .slice ao1 0 ca1], 22, (0, 0)⟩, ⟨nb6, cu8 (sumG constL initL ([xbN (blkL key) (54:UInt8) 64, ([] : List UInt8)].flatten)), 25, (0, 0)⟩, ⟨nb7, cu8 (xbN (blkL key) (92:UInt8) 64), tw2, (0, 0)⟩]
    refine DP_one ⟨[1], [0, 2], [0], [2], [3]⟩ 3 _ rfl rfl (by decide +kernel) rfl ⟨⟨_, rfl, Qok_val rfl (Ev_sliceA 32 5 1 0 32 0 32 Tryd.underlying25 Tryd.sizeOf5 rfl rfl rfl (by omega) (by omega) (by omega) (by omega) (by omega) 32 (by omega))⟩, trivial⟩ rfl (Cok_step rfl (Step_buildSlice 22 1 _ [(0, Slc nb7 0 64 64), (1, Slc nb6 0 32 32)] ([Slc nb7 0 64 64, Slc nb6 0 32 32]) Tryd.underlying125 Tryd.sizeOf22 Tryd.zeroValue22 rfl rfl rfl (by kernel_rfl))) ?_
    rintro v1 L1 ⟨nb8, hnb8, rfl, rfl⟩
    refine ⟨[], ?_⟩
    show DP _ _ _ _ _ _ _ _ [⟨nb1, cu8 (zr8 32), 25, (0, 0)⟩, ⟨nb2, cu8 (blkL key), 32, (0, 0)⟩, ⟨nb3, cu8 (xbN (blkL key) (54:UInt8) 64), tw1, (0, 0)⟩, ⟨nb5, [Slc nb3 0 64 64, .slice ao1 0 ca1], 22, (0, 0)⟩, ⟨nb6, cu8 (sumG constL initL ([xbN (blkL key) (54:UInt8) 64, ([] : List UInt8)].flatten)), 25, (0, 0)⟩, ⟨nb7, cu8 (xbN (blkL key) (92:UInt8) 64), tw2, (0, 0)⟩, ⟨nb8, [Slc nb7 0 64 64, Slc nb6 0 32 32], 22, (0, 0)⟩]
    refine DP_one ⟨[1, 3], [0, 2], [0, 2], [], [4]⟩ 4 _ rfl rfl (by decide +kernel) rfl trivial rfl (Cok_step rfl (Step_callP 30 [Slc nb8 0 2 2] (.agg (cu8 (sumG constL initL ([xbN (blkL key) (92:UInt8) 64, sumG constL initL ([xbN (blkL key) (54:UInt8) 64, ([] : List UInt8)].flatten)].flatten))).toArray) (Cl_func [Slc nb8 0 2 2] Tryd.call30 rfl) (fun w1 hw1 => of_c nb8 2 [Slc nb7 0 64 64, Slc nb6 0 32 32] [xbN (blkL key) (92:UInt8) 64, sumG constL initL ([xbN (blkL key) (54:UInt8) 64, ([] : List UInt8)].flatten)] w1 (by simp) (by simp) (by simp) ⟨RdA.of hw1 (MemAt.ent 6 rfl (Seg.whole _)) (by simp), ⟨⟨(some ⟨nb7, 0, none⟩), 64, congrArg (fun n => Value.slice (some ⟨nb7, 0, none⟩) n 64) ((xbN_len64 _ 64 (blkL_len _))).symm, (RdB.of hw1 (MemAt.ent 5 rfl (Seg.whole _)) (by simp))⟩, ⟨⟨(some ⟨nb6, 0, none⟩), 32, congrArg (fun n => Value.slice (some ⟨nb6, 0, none⟩) n 32) ((sumG_len _ _ _)).symm, (RdB.of hw1 (MemAt.ent 4 rfl (Seg.whole _)) (by simp))⟩, trivial⟩⟩⟩ (by simp only [List.flatten_cons, List.flatten_nil, List.length_append, List.length_nil, (xbN_len64 _ 64 (blkL_len _)), (sumG_len _ _ _)]; omega) (hG.at hw1)))) ?_
    rintro v1 L1 ⟨rfl, rfl⟩
    refine ⟨[], ?_⟩
    show DP _ _ _ _ _ _ _ _ [⟨nb1, cu8 (zr8 32), 25, (0, 0)⟩, ⟨nb2, cu8 (blkL key), 32, (0, 0)⟩, ⟨nb3, cu8 (xbN (blkL key) (54:UInt8) 64), tw1, (0, 0)⟩, ⟨nb5, [Slc nb3 0 64 64, .slice ao1 0 ca1], 22, (0, 0)⟩, ⟨nb6, cu8 (sumG constL initL ([xbN (blkL key) (54:UInt8) 64, ([] : List UInt8)].flatten)), 25, (0, 0)⟩, ⟨nb7, cu8 (xbN (blkL key) (92:UInt8) 64), tw2, (0, 0)⟩, ⟨nb8, [Slc nb7 0 64 64, Slc nb6 0 32 32], 22, (0, 0)⟩]
    refine DP_one ⟨[1, 3, 4], [0, 2], [0, 2], [], [5]⟩ 5 _ rfl rfl (by decide +kernel) rfl trivial rfl (Cok_step rfl (Step_store 0 nb1 0 32 (cu8 (zr8 32)) 25 (.agg (cu8 (sumG constL initL ([xbN (blkL key) (92:UInt8) 64, sumG constL initL ([xbN (blkL key) (54:UInt8) 64, ([] : List UInt8)].flatten)].flatten))).toArray) (cu8 (sumG constL initL ([xbN (blkL key) (92:UInt8) 64, sumG constL initL ([xbN (blkL key) (54:UInt8) 64, ([] : List UInt8)].flatten)].flatten))) (cu8 (sumG constL initL ([xbN (blkL key) (92:UInt8) 64, sumG constL initL ([xbN (blkL key) (54:UInt8) 64, ([] : List UInt8)].flatten)].flatten))) rfl rfl rfl (by first | rfl | simp) Tryd.sizeOf25 (len_cu8 (sumG_len _ _ _)) (by first | exact one_u8 | exact one_u32 | exact one_u64 | (simp [cu8, cu32, cu64, Value.oneCell']; done)) (by simp [(zr8_len 32)]) (lay_whole (by simp [(zr8_len 32), (sumG_len _ _ _)])))) ?_
    rintro v1 L1 ⟨rfl, rfl⟩
    refine ⟨[], ?_⟩
    show DP _ _ _ _ _ _ _ _ [⟨nb1, cu8 (sumG constL initL ([xbN (blkL key) (92:UInt8) 64, sumG constL initL ([xbN (blkL key) (54:UInt8) 64, ([] : List UInt8)].flatten)].flatten)), 25, (0, 0)⟩, ⟨nb2, cu8 (blkL key), 32, (0, 0)⟩, ⟨nb3, cu8 (xbN (blkL key) (54:UInt8) 64), tw1, (0, 0)⟩, ⟨nb5, [Slc nb3 0 64 64, .slice ao1 0 ca1], 22, (0, 0)⟩, ⟨nb6, cu8 (sumG constL initL ([xbN (blkL key) (54:UInt8) 64, ([] : List UInt8)].flatten)), 25, (0, 0)⟩, ⟨nb7, cu8 (xbN (blkL key) (92:UInt8) 64), tw2, (0, 0)⟩, ⟨nb8, [Slc nb7 0 64 64, Slc nb6 0 32 32], 22, (0, 0)⟩]
    refine DP_end ⟨[1, 3, 4, 5], [0, 2], [0, 2], [], []⟩ rfl rfl (by decide +kernel) rfl trivial ?_
    refine K_sub (F' := [(4, Ptr nb1 0)]) (Sub.cons (by kernel_rfl) (Sub.nil)) ?_
    show JQ _ _ _ [(4, Ptr nb1 0)] _
    refine JQ_then ?_
    refine JC_ret ?_
    refine JQ_ret (.agg (cu8 (sumG constL initL ([xbN (blkL key) (92:UInt8) 64, sumG constL initL ([xbN (blkL key) (54:UInt8) 64, ([] : List UInt8)].flatten)].flatten))).toArray) (res1 Tryd.results39 (RV_cell rfl (Ld_agg Tryd.isAgg25 Tryd.sizeOf25 (len_cu8 (sumG_len _ _ _)) (MemAt.ent 0 rfl (Seg.whole _))))) fun w1 hw1 => ?_
    refine ⟨_, [], rfl, ⟨?_, rfl⟩, hw1.sub (by simp) (by simp)⟩
    rw [macL]
    first | (simp; done) | (rw [he1]; simp; done)

end Go.Proofs.YtncoifiafklkjaaDoor
