import Derived.Laws.IdiomStrings
import Derived.LaidEql
import Derived.MakeChecks
import Derived.Laws.StructEq
import Derived.Test.YtkdpdgpphpngeaaDoorPkLink2
namespace Go.Proofs.YtkdpdgpphpngeaaDoor
open Go Go.Sx
set_option linter.unusedVariables false
set_option linter.unusedSimpArgs false
set_option maxRecDepth 100000
attribute [local irreducible] mid zr8 zr32 rotr wordL spreadL comprL cpN adN spN wrdN constL initL padL stN outN routN hashL sumG blkL xbN raN macL orN
theorem block_c (ao : Option Addr) (n cb : Nat) (b : List UInt8) (w : World) (hb : b.length = n) (hcb : ao = none → cb = 0) (hn : n ≤ 17592186044416) (hr : RdB w [] ao b) (hG : GLs w) : Calls Tryd.prog 171 #[.slice ao n cb] w (Post w [] (fun v L => v = .agg (cu8 (blkL b)).toArray ∧ L = [])) := by
  refine enter w [] 15 [] [.slice ao n cb] Tryd.func171 rfl rfl (by simp) (Hp.start (by simp) (by simp) (by simp)) ?_
  show JC _ _ _ [(0, .slice ao n cb)] _
  refine JC_seq ?_
  refine JC_region ?_
  refine JL_step (Step_alloc _ (cu8 (zr8 64)) Tryd.zeroValue262 (by kernel_rfl)) rfl ?_
  rintro v1 L1 ⟨nb1, hnb1, rfl, rfl⟩
  show JL _ _ _ _ ((2, Ptr nb1 0) :: _) [⟨nb1, cu8 (zr8 64), 262, (0, 0)⟩]
  refine JL_nil ?_
  refine JQ_then ?_
  refine JC_seq ?_
  refine JC_region ?_
  refine JL_step (Step_alloc _ (cu8 (zr8 64)) Tryd.zeroValue262 (by kernel_rfl)) rfl ?_
  rintro v1 L1 ⟨nb2, hnb2, rfl, rfl⟩
  show JL _ _ _ _ ((3, Ptr nb2 0) :: _) [⟨nb1, cu8 (zr8 64), 262, (0, 0)⟩, ⟨nb2, cu8 (zr8 64), 262, (0, 0)⟩]
  refine JL_nil ?_
  refine JQ_then ?_
  refine JC_seq ?_
  refine JC_seq ?_
  refine JC_region ?_
  refine JL_val _ (Ev_move rfl) rfl ?_
  refine JL_val (I64 ((n:Int))) (Ev_len Tryd.underlying43 rfl) rfl ?_
  refine JL_val (.bool (decide ((64:Int) < ((n:Int))))) (Ev_bini rfl rfl fun _ => bin_gtr_i _ _) rfl ?_
  refine JL_nil ?_
  refine JQ_then ?_
  refine JC_cond (decide ((64:Int) < ((n:Int)))) rfl (fun hb1 => ?_) (fun hb1 => ?_)
  ·
    have hp1 : (64:Int) < ((n:Int)) := of_decide_eq_true hb1
    refine JC_seq ?_
    refine JC_region ?_
    refine JL_val _ (Ev_move rfl) rfl ?_
    refine JL_step (Step_callP 177 [.slice ao n cb] (.agg (cu8 (sumG constL initL b)).toArray) (Cl_func [.slice ao n cb] Tryd.call177 rfl) (fun w1 hw1 => sum_c ao n cb b w1 hb hcb (by omega) (hr.at (M' := []) hw1 (by simp)) (hG.at hw1))) rfl ?_
    rintro v1 L1 ⟨rfl, rfl⟩
    show JL _ _ _ _ ((9, .agg (cu8 (sumG constL initL b)).toArray) :: _) [⟨nb1, cu8 (zr8 64), 262, (0, 0)⟩, ⟨nb2, cu8 (zr8 64), 262, (0, 0)⟩]
    refine JL_step (Step_alloc _ (cu8 (zr8 32)) Tryd.zeroValue54 (by kernel_rfl)) rfl ?_
    rintro v1 L1 ⟨nb3, hnb3, rfl, rfl⟩
    show JL _ _ _ _ ((4, Ptr nb3 0) :: _) [⟨nb1, cu8 (zr8 64), 262, (0, 0)⟩, ⟨nb2, cu8 (zr8 64), 262, (0, 0)⟩, ⟨nb3, cu8 (zr8 32), 54, (0, 0)⟩]
    refine JL_step (Step_store 2 nb3 0 32 (cu8 (zr8 32)) 54 (.agg (cu8 (sumG constL initL b)).toArray) (cu8 (sumG constL initL b)) (cu8 (sumG constL initL b)) rfl rfl rfl (by first | rfl | simp) Tryd.sizeOf54 (len_cu8 (sumG_len _ _ _)) (by first | exact one_u8 | exact one_u32 | exact one_u64 | (simp [cu8, cu32, cu64, Value.oneCell']; done)) (by simp [(zr8_len 32)]) (lay_whole (by simp [(zr8_len 32), (sumG_len _ _ _)]))) rfl ?_
    rintro v1 L1 ⟨rfl, rfl⟩
    show JL _ _ _ _ _ [⟨nb1, cu8 (zr8 64), 262, (0, 0)⟩, ⟨nb2, cu8 (zr8 64), 262, (0, 0)⟩, ⟨nb3, cu8 (sumG constL initL b), 54, (0, 0)⟩]
    refine JL_nil ?_
    refine JQ_then ?_
    refine JC_region ?_
    refine JL_val (Slc nb3 0 32 32) (Ev_sliceA 32 5 1 0 32 0 32 Tryd.underlying54 Tryd.sizeOf5 rfl rfl rfl (by omega) (by omega) (by omega) (by omega) (by omega) 32 (by omega)) rfl ?_
    refine JL_val _ (Ev_assign rfl) rfl ?_
    refine JL_nil ?_
    refine JQ_then ?_
    refine JC_seq ?_
    refine JC_region ?_
    refine JL_val (Slc nb2 0 64 64) (Ev_sliceA 64 5 1 0 64 0 64 Tryd.underlying262 Tryd.sizeOf5 rfl rfl rfl (by omega) (by omega) (by omega) (by omega) (by omega) 64 (by omega)) rfl ?_
    refine JL_val _ (Ev_move rfl) rfl ?_
    have hl1 : (spl (zr8 64) 0 (sumG constL initL b)).length = 64 := by rw [spl_len (by simp [(zr8_len 64), (sumG_len _ _ _)])]; simp [(zr8_len 64), (sumG_len _ _ _)]
    refine JL_step (Step_copy 43 43 5 1 nb2 0 64 64 (cu8 (zr8 64)) 262 (some ⟨nb3, 0, none⟩) 32 32 32 (cu8 (sumG constL initL b)) (cu8 (spl (zr8 64) 0 (sumG constL initL b))) Tryd.underlying43 Tryd.size1_5 rfl rfl rfl (Nat.min_eq_left (by omega)) (by simp [(sumG_len _ _ _)]; try omega) (SrcAt.mem (MemAt.ent 2 rfl (Seg.whole _))) (by simp [(zr8_len 64)]; try omega) (by first | exact one_u8 | exact one_u32 | exact one_u64 | (simp [cu8, cu32, cu64, Value.oneCell']; done)) (laySpl8 _ _ _ (by simp [(zr8_len 64), (sumG_len _ _ _)]))) rfl ?_
    rintro v1 L1 ⟨rfl, rfl⟩
    show JL _ _ _ _ ((13, I64 (32:Int)) :: _) [⟨nb1, cu8 (zr8 64), 262, (0, 0)⟩, ⟨nb2, cu8 (spl (zr8 64) 0 (sumG constL initL b)), 262, (0, 0)⟩, ⟨nb3, cu8 (sumG constL initL b), 54, (0, 0)⟩]
    refine JL_nil ?_
    refine JQ_then ?_
    refine JC_seq ?_
    refine JC_region ?_
    refine JL_val (.agg (cu8 (spl (zr8 64) 0 (sumG constL initL b))).toArray) (Ev_load rfl (Ld_agg Tryd.isAgg262 Tryd.sizeOf262 (len_cu8 hl1) (MemAt.ent 1 rfl (Seg.whole _)))) rfl ?_
    refine JL_step (Step_store 0 nb1 0 64 (cu8 (zr8 64)) 262 (.agg (cu8 (spl (zr8 64) 0 (sumG constL initL b))).toArray) (cu8 (spl (zr8 64) 0 (sumG constL initL b))) (cu8 (spl (zr8 64) 0 (sumG constL initL b))) rfl rfl rfl (by first | rfl | simp) Tryd.sizeOf262 (len_cu8 hl1) (by first | exact one_u8 | exact one_u32 | exact one_u64 | (simp [cu8, cu32, cu64, Value.oneCell']; done)) (by simp [(zr8_len 64)]) (lay_whole (by simp [(zr8_len 64), hl1]))) rfl ?_
    rintro v1 L1 ⟨rfl, rfl⟩
    show JL _ _ _ _ _ [⟨nb1, cu8 (spl (zr8 64) 0 (sumG constL initL b)), 262, (0, 0)⟩, ⟨nb2, cu8 (spl (zr8 64) 0 (sumG constL initL b)), 262, (0, 0)⟩, ⟨nb3, cu8 (sumG constL initL b), 54, (0, 0)⟩]
    refine JL_nil ?_
    refine JQ_then ?_
    refine JC_ret ?_
    refine JQ_ret (.agg (cu8 (spl (zr8 64) 0 (sumG constL initL b))).toArray) (res1 Tryd.results171 (RV_cell rfl (Ld_agg Tryd.isAgg262 Tryd.sizeOf262 (len_cu8 hl1) (MemAt.ent 0 rfl (Seg.whole _))))) fun w1 hw1 => ?_
    refine ⟨_, [], rfl, ⟨?_, rfl⟩, hw1.sub (by simp) (by simp)⟩
    first | (rw [blkL, if_pos (by omega)]; done) | (rw [blkL, if_neg (by omega)]; done)
  ·
    have hp1 : ¬ ((64:Int) < ((n:Int))) := of_decide_eq_false hb1
    refine JC_skip ?_
    refine JQ_then ?_
    refine JC_seq ?_
    refine JC_region ?_
    refine JL_val (Slc nb2 0 64 64) (Ev_sliceA 64 5 1 0 64 0 64 Tryd.underlying262 Tryd.sizeOf5 rfl rfl rfl (by omega) (by omega) (by omega) (by omega) (by omega) 64 (by omega)) rfl ?_
    refine JL_val _ (Ev_move rfl) rfl ?_
    have hl2 : (spl (zr8 64) 0 b).length = 64 := (spl_len (by rw [hb, (zr8_len 64)]; omega)).trans (zr8_len 64)
    refine JL_step (Step_copy 43 43 5 1 nb2 0 64 64 (cu8 (zr8 64)) 262 ao n cb n (cu8 b) (cu8 (spl (zr8 64) 0 b)) Tryd.underlying43 Tryd.size1_5 rfl rfl rfl (Nat.min_eq_left (by omega)) (by simp [hb]; try omega) (hr.src) (by simp [(zr8_len 64)]; try omega) (by first | exact one_u8 | exact one_u32 | exact one_u64 | (simp [cu8, cu32, cu64, Value.oneCell']; done)) (laySpl8 _ _ _ (by rw [hb, (zr8_len 64)]; omega))) rfl ?_
    rintro v1 L1 ⟨rfl, rfl⟩
    show JL _ _ _ _ ((13, I64 ((n:Int))) :: _) [⟨nb1, cu8 (zr8 64), 262, (0, 0)⟩, ⟨nb2, cu8 (spl (zr8 64) 0 b), 262, (0, 0)⟩]
    refine JL_nil ?_
    refine JQ_then ?_
    refine JC_seq ?_
    refine JC_region ?_
    refine JL_val (.agg (cu8 (spl (zr8 64) 0 b)).toArray) (Ev_load rfl (Ld_agg Tryd.isAgg262 Tryd.sizeOf262 (len_cu8 hl2) (MemAt.ent 1 rfl (Seg.whole _)))) rfl ?_
    refine JL_step (Step_store 0 nb1 0 64 (cu8 (zr8 64)) 262 (.agg (cu8 (spl (zr8 64) 0 b)).toArray) (cu8 (spl (zr8 64) 0 b)) (cu8 (spl (zr8 64) 0 b)) rfl rfl rfl (by first | rfl | simp) Tryd.sizeOf262 (len_cu8 hl2) (by first | exact one_u8 | exact one_u32 | exact one_u64 | (simp [cu8, cu32, cu64, Value.oneCell']; done)) (by simp [(zr8_len 64)]) (lay_whole (by simp [(zr8_len 64), hl2]))) rfl ?_
    rintro v1 L1 ⟨rfl, rfl⟩
    show JL _ _ _ _ _ [⟨nb1, cu8 (spl (zr8 64) 0 b), 262, (0, 0)⟩, ⟨nb2, cu8 (spl (zr8 64) 0 b), 262, (0, 0)⟩]
    refine JL_nil ?_
    refine JQ_then ?_
    refine JC_ret ?_
    refine JQ_ret (.agg (cu8 (spl (zr8 64) 0 b)).toArray) (res1 Tryd.results171 (RV_cell rfl (Ld_agg Tryd.isAgg262 Tryd.sizeOf262 (len_cu8 hl2) (MemAt.ent 0 rfl (Seg.whole _))))) fun w1 hw1 => ?_
    refine ⟨_, [], rfl, ⟨?_, rfl⟩, hw1.sub (by simp) (by simp)⟩
    first | (rw [blkL, if_pos (by omega)]; done) | (rw [blkL, if_neg (by omega)]; done)

theorem with_c (b : List UInt8) (x : UInt8) (w : World) (hb : b.length = 64) : Calls Tryd.prog 173 #[.agg (cu8 b).toArray, U8 x] w (Post w [] (fun v L => ∃ g T, v = Slc g 0 64 64 ∧ L = [⟨g, cu8 (xbN b x 64), T, (0, 0)⟩])) := by
  refine enter w [] 17 [] [.agg (cu8 b).toArray, U8 x] Tryd.func173 rfl rfl (by simp) (Hp.start (by simp) (by simp) (by simp)) ?_
  show JC _ _ _ [(0, .agg (cu8 b).toArray), (1, U8 x)] _
  refine JC_seq ?_
  refine JC_region ?_
  refine JL_step (Step_box (.agg (cu8 b).toArray) (cu8 b) rfl (by first | rfl | simp)) rfl ?_
  rintro v1 L1 ⟨nb1, hnb1, rfl, rfl⟩
  show JL _ _ _ _ ((2, Ptr nb1 0) :: _) [⟨nb1, cu8 b, 262, (0, 0)⟩]
  refine JL_val _ (Ev_assign rfl) rfl ?_
  refine JL_nil ?_
  refine JQ_then ?_
  refine JC_seq ?_
  refine JC_seq ?_
  refine JC_region ?_
  refine JL_val _ (Ev_move rfl) rfl ?_
  refine JL_nil ?_
  refine JQ_then ?_
  refine JC_block ?_
  refine JC_loop (ι := Nat × List UInt8) (fun ⟨k, o⟩ => [(1, U8 x), (2, Ptr nb1 0), (4, .slice none 0 0), (6, I64 ((k:Int)))]) (fun ⟨k, o⟩ => [⟨nb1, cu8 o, 262, (0, 0)⟩]) (fun ⟨k, o⟩ => k ≤ 64 ∧ o = xbN b x k ∧ o.length = 64) (fun ⟨k, o⟩ => 64 - k) (0, b) ⟨by omega, by rw [xbN], hb⟩ (Sub.cons rfl (Sub.cons rfl (Sub.cons rfl (Sub.cons rfl (Sub.nil))))) rfl ?_
  rintro ⟨k, o⟩ ⟨hx1, hx2, ho⟩
  show JC _ _ _ [(1, U8 x), (2, Ptr nb1 0), (4, .slice none 0 0), (6, I64 ((k:Int)))] [⟨nb1, cu8 o, 262, (0, 0)⟩]
  refine JC_seq ?_
  refine JC_region ?_
  refine JL_val (.bool (decide (((k:Int)) < (64:Int)))) (Ev_bini rfl rfl fun _ => bin_lss_i _ _) rfl ?_
  refine JL_nil ?_
  refine JQ_then ?_
  refine JC_seq ?_
  refine JC_cond (decide (((k:Int)) < (64:Int))) rfl (fun hb1 => ?_) (fun hb1 => ?_)
  ·
    have hp1 : ((k:Int)) < (64:Int) := of_decide_eq_true hb1
    refine JC_skip ?_
    refine JQ_then ?_
    refine JC_seq ?_
    refine JC_block ?_
    refine JC_seq ?_
    refine JC_region ?_
    refine JL_val _ (Ev_move rfl) rfl ?_
    refine JL_val _ (Ev_assign rfl) rfl ?_
    refine JL_nil ?_
    refine JQ_then ?_
    refine JC_region ?_
    refine JL_val _ (Ev_move rfl) rfl ?_
    refine JL_val (Ptr nb1 k) (Ev_indexArr 64 5 1 k Tryd.underlying262 Tryd.sizeOf5 rfl rfl (by omega) (by omega) (by omega)) rfl ?_
    refine JL_val (U8 (g8 o k)) (Ev_load rfl (Ld_one Tryd.isAgg5 (MemAt.ent 0 rfl (Seg.get (g8_get (i := k) (by rw [ho]; omega)))))) rfl ?_
    refine JL_val _ (Ev_move rfl) rfl ?_
    refine JL_val (U8 ((g8 o k) ^^^ x)) (Ev_bini rfl rfl fun _ => bin_xor_u8 (g8 o k) x) rfl ?_
    refine JL_val (Ptr nb1 k) (Ev_indexArr 64 5 1 k Tryd.underlying262 Tryd.sizeOf5 rfl rfl (by omega) (by omega) (by omega)) rfl ?_
    have hl1 : (o.set k ((g8 o k) ^^^ x)).length = 64 := by first | (rw [List.length_set]; exact ho) | simp [ho]
    refine JL_step (Step_store 0 nb1 k 1 (cu8 o) 262 (U8 ((g8 o k) ^^^ x)) ([U8 ((g8 o k) ^^^ x)]) (cu8 (o.set k ((g8 o k) ^^^ x))) rfl rfl rfl rfl Tryd.sizeOf5 rfl (by simp [Value.oneCell']) (by simp [ho]; try omega) (lay8 _ _ _ (by rw [ho]; omega))) rfl ?_
    rintro v1 L1 ⟨rfl, rfl⟩
    show JL _ _ _ _ _ [⟨nb1, cu8 (o.set k ((g8 o k) ^^^ x)), 262, (0, 0)⟩]
    refine JL_nil ?_
    refine JQ_in_normal ?_
    refine JQ_then ?_
    refine JC_region ?_
    refine JL_val (I64 ((k:Int) + 1)) (Ev_bini rfl rfl fun _ => bin_add_i _ _ ((k:Int) + 1) (by omega) (by omega)) rfl ?_
    refine JL_val _ (Ev_move rfl) rfl ?_
    refine JL_nil ?_
    refine JQ_thenK ?_
    refine K_next (k + 1, o.set k ((g8 o k) ^^^ x)) ⟨by omega, by rw [xbN, ← hx2], hl1⟩ (by first | (simp; omega) | simp | (dsimp only; omega) | omega) (Sub.cons rfl (Sub.cons rfl (Sub.cons rfl (Sub.cons rfl (Sub.nil))))) rfl
  ·
    have hp1 : ¬ (((k:Int)) < (64:Int)) := of_decide_eq_false hb1
    refine JC_exit ?_
    refine JQ_then_exit ?_
    refine JQ_then_exit ?_
    refine JQ_in_same ?_
    refine JQ_then ?_
    refine JC_seq ?_
    refine JC_region ?_
    refine JL_val (Slc nb1 0 64 64) (Ev_sliceA 64 5 1 0 64 0 64 Tryd.underlying262 Tryd.sizeOf5 rfl rfl rfl (by omega) (by omega) (by omega) (by omega) (by omega) 64 (by omega)) rfl ?_
    refine JL_val _ (Ev_assign rfl) rfl ?_
    refine JL_nil ?_
    refine JQ_then ?_
    refine JC_ret ?_
    refine JQ_ret (Slc nb1 0 64 64) (res1 Tryd.results173 (RV_tmp rfl)) fun w1 hw1 => ?_
    have e1 : k = 64 := by omega
    subst e1
    rw [hx2] at hw1
    exact ⟨_, _, rfl, ⟨nb1, 262, rfl, rfl⟩, hw1.sub (by simp) (by simp)⟩

theorem mac_c (ao : Option Addr) (n cb : Nat) (key : List UInt8) (b c : Nat) (vs : List Value) (ls : List (List UInt8)) (w : World) (hb : key.length = n) (hcb : ao = none → cb = 0) (hn : n ≤ 17592186044416) (hr : RdB w [] ao key) (hk : 1 ≤ ls.length) (hc : ls.length ≤ c) (hk2 : ls.length ≤ 1000) (hp : Parts w b vs ls) (hs : ls.flatten.length ≤ 100000000) (hG : GLs w) : Calls Tryd.prog 145 #[.slice ao n cb, .slice (some ⟨b, 0, none⟩) ls.length c] w (Post w [] (fun v L => v = .agg (cu8 (macL key ls.flatten)).toArray ∧ L = [])) := by
  refine enter w [] 20 [] [.slice ao n cb, .slice (some ⟨b, 0, none⟩) ls.length c] Tryd.func145 rfl rfl (by simp) (Hp.start (by simp) (by simp) (by simp)) ?_
  show JC _ _ _ [(0, .slice ao n cb), (1, .slice (some ⟨b, 0, none⟩) ls.length c)] _
  refine JC_seq ?_
  refine JC_region ?_
  refine JL_step (Step_alloc _ (cu8 (zr8 32)) Tryd.zeroValue54 (by kernel_rfl)) rfl ?_
  rintro v1 L1 ⟨nb1, hnb1, rfl, rfl⟩
  show JL _ _ _ _ ((4, Ptr nb1 0) :: _) [⟨nb1, cu8 (zr8 32), 54, (0, 0)⟩]
  refine JL_nil ?_
  refine JQ_then ?_
  refine JC_seq ?_
  refine JC_region ?_
  refine JL_val _ (Ev_move rfl) rfl ?_
  refine JL_step (Step_callP 171 [.slice ao n cb] (.agg (cu8 (blkL key)).toArray) (Cl_func [.slice ao n cb] Tryd.call171 rfl) (fun w1 hw1 => block_c ao n cb key w1 hb hcb (by omega) (hr.at (M' := []) hw1 (by simp)) (hG.at hw1))) rfl ?_
  rintro v1 L1 ⟨rfl, rfl⟩
  show JL _ _ _ _ ((8, .agg (cu8 (blkL key)).toArray) :: _) [⟨nb1, cu8 (zr8 32), 54, (0, 0)⟩]
  refine JL_step (Step_alloc _ (cu8 (zr8 64)) Tryd.zeroValue262 (by kernel_rfl)) rfl ?_
  rintro v1 L1 ⟨nb2, hnb2, rfl, rfl⟩
  show JL _ _ _ _ ((5, Ptr nb2 0) :: _) [⟨nb1, cu8 (zr8 32), 54, (0, 0)⟩, ⟨nb2, cu8 (zr8 64), 262, (0, 0)⟩]
  refine JL_step (Step_store 1 nb2 0 64 (cu8 (zr8 64)) 262 (.agg (cu8 (blkL key)).toArray) (cu8 (blkL key)) (cu8 (blkL key)) rfl rfl rfl (by first | rfl | simp) Tryd.sizeOf262 (len_cu8 (blkL_len _)) (by first | exact one_u8 | exact one_u32 | exact one_u64 | (simp [cu8, cu32, cu64, Value.oneCell']; done)) (by simp [(zr8_len 64)]) (lay_whole (by simp [(zr8_len 64), (blkL_len _)]))) rfl ?_
  rintro v1 L1 ⟨rfl, rfl⟩
  show JL _ _ _ _ _ [⟨nb1, cu8 (zr8 32), 54, (0, 0)⟩, ⟨nb2, cu8 (blkL key), 262, (0, 0)⟩]
  refine JL_nil ?_
  refine JQ_then ?_
  refine JC_seq ?_
  refine JC_region ?_
  refine JL_val (.agg (cu8 (blkL key)).toArray) (Ev_load rfl (Ld_agg Tryd.isAgg262 Tryd.sizeOf262 (len_cu8 (blkL_len _)) (MemAt.ent 1 rfl (Seg.whole _)))) rfl ?_
  refine JL_step (Step_callN 173 [.agg (cu8 (blkL key)).toArray, U8 (54:UInt8)] _ (Cl_func [.agg (cu8 (blkL key)).toArray, U8 (54:UInt8)] Tryd.call173 rfl) (fun w1 hw1 => with_c (blkL key) (54:UInt8) w1 (blkL_len _))) rfl ?_
  rintro v1 L1 ⟨_, ⟨nb3, tw1, rfl, rfl⟩, rfl⟩
  show JL _ _ _ _ ((10, Slc nb3 0 64 64) :: _) [⟨nb1, cu8 (zr8 32), 54, (0, 0)⟩, ⟨nb2, cu8 (blkL key), 262, (0, 0)⟩, ⟨nb3, cu8 (xbN (blkL key) (54:UInt8) 64), tw1, (0, 0)⟩]
  refine JL_val _ (Ev_move rfl) rfl ?_
  refine JL_step (Step_callN 174 [.slice (some ⟨b, 0, none⟩) ls.length c, .slice none 0 0] _ (Cl_func [.slice (some ⟨b, 0, none⟩) ls.length c, .slice none 0 0] Tryd.call174 rfl) (fun w1 hw1 => join_c b c vs ls w1 hk hc hk2 (hp.at hw1 rfl (by omega)) (by omega))) rfl ?_
  rintro v1 L1 ⟨_, (⟨he1, ao1, ca1, rfl, rfl, hn1⟩ | ⟨hp1, nb4, sp1, cp1, tj1, fj1, rfl, rfl, hl1, hm1⟩), rfl⟩
  ·
    show JL _ _ _ _ ((12, .slice ao1 0 ca1) :: _) [⟨nb1, cu8 (zr8 32), 54, (0, 0)⟩, ⟨nb2, cu8 (blkL key), 262, (0, 0)⟩, ⟨nb3, cu8 (xbN (blkL key) (54:UInt8) 64), tw1, (0, 0)⟩]
    refine JL_step (Step_buildSlice 43 1 _ [(0, Slc nb3 0 64 64), (1, .slice ao1 0 ca1)] ([Slc nb3 0 64 64, .slice ao1 0 ca1]) Tryd.underlying230 Tryd.sizeOf43 Tryd.zeroValue43 rfl rfl rfl (by kernel_rfl)) rfl ?_
    rintro v1 L1 ⟨nb5, hnb5, rfl, rfl⟩
    show JL _ _ _ _ ((13, Slc nb5 0 2 2) :: _) [⟨nb1, cu8 (zr8 32), 54, (0, 0)⟩, ⟨nb2, cu8 (blkL key), 262, (0, 0)⟩, ⟨nb3, cu8 (xbN (blkL key) (54:UInt8) 64), tw1, (0, 0)⟩, ⟨nb5, [Slc nb3 0 64 64, .slice ao1 0 ca1], 43, (0, 0)⟩]
    refine JL_step (Step_callP 172 [Slc nb5 0 2 2] (.agg (cu8 (sumG constL initL ([xbN (blkL key) (54:UInt8) 64, ([] : List UInt8)].flatten))).toArray) (Cl_func [Slc nb5 0 2 2] Tryd.call172 rfl) (fun w1 hw1 => of_c nb5 2 [Slc nb3 0 64 64, .slice ao1 0 ca1] [xbN (blkL key) (54:UInt8) 64, ([] : List UInt8)] w1 (by simp) (by simp) (by simp) ⟨RdA.of hw1 (MemAt.ent 3 rfl (Seg.whole _)) (by simp), ⟨⟨(some ⟨nb3, 0, none⟩), 64, congrArg (fun n => Value.slice (some ⟨nb3, 0, none⟩) n 64) ((xbN_len64 _ 64 (blkL_len _))).symm, (RdB.of hw1 (MemAt.ent 2 rfl (Seg.whole _)) (by simp))⟩, ⟨⟨ao1, ca1, congrArg (fun n => Value.slice ao1 n ca1) (rfl).symm, RdB.nil⟩, trivial⟩⟩⟩ (by simp only [List.flatten_cons, List.flatten_nil, List.length_append, List.length_nil, (xbN_len64 _ 64 (blkL_len _))]; omega) (hG.at hw1))) rfl ?_
    rintro v1 L1 ⟨rfl, rfl⟩
    show JL _ _ _ _ ((14, .agg (cu8 (sumG constL initL ([xbN (blkL key) (54:UInt8) 64, ([] : List UInt8)].flatten))).toArray) :: _) [⟨nb1, cu8 (zr8 32), 54, (0, 0)⟩, ⟨nb2, cu8 (blkL key), 262, (0, 0)⟩, ⟨nb3, cu8 (xbN (blkL key) (54:UInt8) 64), tw1, (0, 0)⟩, ⟨nb5, [Slc nb3 0 64 64, .slice ao1 0 ca1], 43, (0, 0)⟩]
    refine JL_step (Step_alloc _ (cu8 (zr8 32)) Tryd.zeroValue54 (by kernel_rfl)) rfl ?_
    rintro v1 L1 ⟨nb6, hnb6, rfl, rfl⟩
    show JL _ _ _ _ ((6, Ptr nb6 0) :: _) [⟨nb1, cu8 (zr8 32), 54, (0, 0)⟩, ⟨nb2, cu8 (blkL key), 262, (0, 0)⟩, ⟨nb3, cu8 (xbN (blkL key) (54:UInt8) 64), tw1, (0, 0)⟩, ⟨nb5, [Slc nb3 0 64 64, .slice ao1 0 ca1], 43, (0, 0)⟩, ⟨nb6, cu8 (zr8 32), 54, (0, 0)⟩]
    refine JL_step (Step_store 4 nb6 0 32 (cu8 (zr8 32)) 54 (.agg (cu8 (sumG constL initL ([xbN (blkL key) (54:UInt8) 64, ([] : List UInt8)].flatten))).toArray) (cu8 (sumG constL initL ([xbN (blkL key) (54:UInt8) 64, ([] : List UInt8)].flatten))) (cu8 (sumG constL initL ([xbN (blkL key) (54:UInt8) 64, ([] : List UInt8)].flatten))) rfl rfl rfl (by first | rfl | simp) Tryd.sizeOf54 (len_cu8 (sumG_len _ _ _)) (by first | exact one_u8 | exact one_u32 | exact one_u64 | (simp [cu8, cu32, cu64, Value.oneCell']; done)) (by simp [(zr8_len 32)]) (lay_whole (by simp [(zr8_len 32), (sumG_len _ _ _)]))) rfl ?_
    rintro v1 L1 ⟨rfl, rfl⟩
    show JL _ _ _ _ _ [⟨nb1, cu8 (zr8 32), 54, (0, 0)⟩, ⟨nb2, cu8 (blkL key), 262, (0, 0)⟩, ⟨nb3, cu8 (xbN (blkL key) (54:UInt8) 64), tw1, (0, 0)⟩, ⟨nb5, [Slc nb3 0 64 64, .slice ao1 0 ca1], 43, (0, 0)⟩, ⟨nb6, cu8 (sumG constL initL ([xbN (blkL key) (54:UInt8) 64, ([] : List UInt8)].flatten)), 54, (0, 0)⟩]
    refine JL_nil ?_
    refine JQ_then ?_
    refine JC_seq ?_
    refine JC_draw 20 5 [(0, .agg (cu8 (blkL key)).toArray), (2, Slc nb6 0 32 32)] Tryd.mixed rfl (by decide +kernel) ?_
    refine DP_one ⟨[], [0, 2], [], [0, 2], [1]⟩ 1 _ rfl rfl (by decide +kernel) rfl ⟨⟨_, rfl, Qok_val rfl (Ev_load rfl (Ld_agg Tryd.isAgg262 Tryd.sizeOf262 (len_cu8 (blkL_len _)) (MemAt.ent 1 rfl (Seg.whole _))))⟩, ⟨_, rfl, Qok_val rfl (Ev_sliceA 32 5 1 0 32 0 32 Tryd.underlying54 Tryd.sizeOf5 rfl rfl rfl (by omega) (by omega) (by omega) (by omega) (by omega) 32 (by omega))⟩, trivial⟩ rfl (Cok_step rfl (Step_callN 173 [.agg (cu8 (blkL key)).toArray, U8 (92:UInt8)] _ (Cl_func [.agg (cu8 (blkL key)).toArray, U8 (92:UInt8)] Tryd.call173 rfl) (fun w1 hw1 => with_c (blkL key) (92:UInt8) w1 (blkL_len _)))) ?_
    rintro v1 L1 ⟨_, ⟨nb7, tw2, rfl, rfl⟩, rfl⟩
    refine ⟨[], ?_⟩
    show DP _ _ _ _ _ _ _ _ [⟨nb1, cu8 (zr8 32), 54, (0, 0)⟩, ⟨nb2, cu8 (blkL key), 262, (0, 0)⟩, ⟨nb3, cu8 (xbN (blkL key) (54:UInt8) 64), tw1, (0, 0)⟩, ⟨nb5, [Slc nb3 0 64 64, .slice ao1 0 ca1], 43, (0, 0)⟩, ⟨nb6, cu8 (sumG constL initL ([xbN (blkL key) (54:UInt8) 64, ([] : List UInt8)].flatten)), 54, (0, 0)⟩, ⟨nb7, cu8 (xbN (blkL key) (92:UInt8) 64), tw2, (0, 0)⟩]
    refine DP_one ⟨[1], [0, 2], [0], [2], [3]⟩ 3 _ rfl rfl (by decide +kernel) rfl ⟨⟨_, rfl, Qok_val rfl (Ev_sliceA 32 5 1 0 32 0 32 Tryd.underlying54 Tryd.sizeOf5 rfl rfl rfl (by omega) (by omega) (by omega) (by omega) (by omega) 32 (by omega))⟩, trivial⟩ rfl (Cok_step rfl (Step_buildSlice 43 1 _ [(0, Slc nb7 0 64 64), (1, Slc nb6 0 32 32)] ([Slc nb7 0 64 64, Slc nb6 0 32 32]) Tryd.underlying230 Tryd.sizeOf43 Tryd.zeroValue43 rfl rfl rfl (by kernel_rfl))) ?_
    rintro v1 L1 ⟨nb8, hnb8, rfl, rfl⟩
    refine ⟨[], ?_⟩
    show DP _ _ _ _ _ _ _ _ [⟨nb1, cu8 (zr8 32), 54, (0, 0)⟩, ⟨nb2, cu8 (blkL key), 262, (0, 0)⟩, ⟨nb3, cu8 (xbN (blkL key) (54:UInt8) 64), tw1, (0, 0)⟩, ⟨nb5, [Slc nb3 0 64 64, .slice ao1 0 ca1], 43, (0, 0)⟩, ⟨nb6, cu8 (sumG constL initL ([xbN (blkL key) (54:UInt8) 64, ([] : List UInt8)].flatten)), 54, (0, 0)⟩, ⟨nb7, cu8 (xbN (blkL key) (92:UInt8) 64), tw2, (0, 0)⟩, ⟨nb8, [Slc nb7 0 64 64, Slc nb6 0 32 32], 43, (0, 0)⟩]
    refine DP_one ⟨[1, 3], [0, 2], [0, 2], [], [4]⟩ 4 _ rfl rfl (by decide +kernel) rfl trivial rfl (Cok_step rfl (Step_callP 172 [Slc nb8 0 2 2] (.agg (cu8 (sumG constL initL ([xbN (blkL key) (92:UInt8) 64, sumG constL initL ([xbN (blkL key) (54:UInt8) 64, ([] : List UInt8)].flatten)].flatten))).toArray) (Cl_func [Slc nb8 0 2 2] Tryd.call172 rfl) (fun w1 hw1 => of_c nb8 2 [Slc nb7 0 64 64, Slc nb6 0 32 32] [xbN (blkL key) (92:UInt8) 64, sumG constL initL ([xbN (blkL key) (54:UInt8) 64, ([] : List UInt8)].flatten)] w1 (by simp) (by simp) (by simp) ⟨RdA.of hw1 (MemAt.ent 6 rfl (Seg.whole _)) (by simp), ⟨⟨(some ⟨nb7, 0, none⟩), 64, congrArg (fun n => Value.slice (some ⟨nb7, 0, none⟩) n 64) ((xbN_len64 _ 64 (blkL_len _))).symm, (RdB.of hw1 (MemAt.ent 5 rfl (Seg.whole _)) (by simp))⟩, ⟨⟨(some ⟨nb6, 0, none⟩), 32, congrArg (fun n => Value.slice (some ⟨nb6, 0, none⟩) n 32) ((sumG_len _ _ _)).symm, (RdB.of hw1 (MemAt.ent 4 rfl (Seg.whole _)) (by simp))⟩, trivial⟩⟩⟩ (by simp only [List.flatten_cons, List.flatten_nil, List.length_append, List.length_nil, (xbN_len64 _ 64 (blkL_len _)), (sumG_len _ _ _)]; omega) (hG.at hw1)))) ?_
    rintro v1 L1 ⟨rfl, rfl⟩
    refine ⟨[], ?_⟩
    show DP _ _ _ _ _ _ _ _ [⟨nb1, cu8 (zr8 32), 54, (0, 0)⟩, ⟨nb2, cu8 (blkL key), 262, (0, 0)⟩, ⟨nb3, cu8 (xbN (blkL key) (54:UInt8) 64), tw1, (0, 0)⟩, ⟨nb5, [Slc nb3 0 64 64, .slice ao1 0 ca1], 43, (0, 0)⟩, ⟨nb6, cu8 (sumG constL initL ([xbN (blkL key) (54:UInt8) 64, ([] : List UInt8)].flatten)), 54, (0, 0)⟩, ⟨nb7, cu8 (xbN (blkL key) (92:UInt8) 64), tw2, (0, 0)⟩, ⟨nb8, [Slc nb7 0 64 64, Slc nb6 0 32 32], 43, (0, 0)⟩]
    refine DP_one ⟨[1, 3, 4], [0, 2], [0, 2], [], [5]⟩ 5 _ rfl rfl (by decide +kernel) rfl trivial rfl (Cok_step rfl (Step_store 0 nb1 0 32 (cu8 (zr8 32)) 54 (.agg (cu8 (sumG constL initL ([xbN (blkL key) (92:UInt8) 64, sumG constL initL ([xbN (blkL key) (54:UInt8) 64, ([] : List UInt8)].flatten)].flatten))).toArray) (cu8 (sumG constL initL ([xbN (blkL key) (92:UInt8) 64, sumG constL initL ([xbN (blkL key) (54:UInt8) 64, ([] : List UInt8)].flatten)].flatten))) (cu8 (sumG constL initL ([xbN (blkL key) (92:UInt8) 64, sumG constL initL ([xbN (blkL key) (54:UInt8) 64, ([] : List UInt8)].flatten)].flatten))) rfl rfl rfl (by first | rfl | simp) Tryd.sizeOf54 (len_cu8 (sumG_len _ _ _)) (by first | exact one_u8 | exact one_u32 | exact one_u64 | (simp [cu8, cu32, cu64, Value.oneCell']; done)) (by simp [(zr8_len 32)]) (lay_whole (by simp [(zr8_len 32), (sumG_len _ _ _)])))) ?_
    rintro v1 L1 ⟨rfl, rfl⟩
    refine ⟨[], ?_⟩
    show DP _ _ _ _ _ _ _ _ [⟨nb1, cu8 (sumG constL initL ([xbN (blkL key) (92:UInt8) 64, sumG constL initL ([xbN (blkL key) (54:UInt8) 64, ([] : List UInt8)].flatten)].flatten)), 54, (0, 0)⟩, ⟨nb2, cu8 (blkL key), 262, (0, 0)⟩, ⟨nb3, cu8 (xbN (blkL key) (54:UInt8) 64), tw1, (0, 0)⟩, ⟨nb5, [Slc nb3 0 64 64, .slice ao1 0 ca1], 43, (0, 0)⟩, ⟨nb6, cu8 (sumG constL initL ([xbN (blkL key) (54:UInt8) 64, ([] : List UInt8)].flatten)), 54, (0, 0)⟩, ⟨nb7, cu8 (xbN (blkL key) (92:UInt8) 64), tw2, (0, 0)⟩, ⟨nb8, [Slc nb7 0 64 64, Slc nb6 0 32 32], 43, (0, 0)⟩]
    refine DP_end ⟨[1, 3, 4, 5], [0, 2], [0, 2], [], []⟩ rfl rfl (by decide +kernel) rfl trivial ?_
    refine K_sub (F' := [(4, Ptr nb1 0)]) (Sub.cons (by kernel_rfl) (Sub.nil)) ?_
    show JQ _ _ _ [(4, Ptr nb1 0)] _
    refine JQ_then ?_
    refine JC_ret ?_
    refine JQ_ret (.agg (cu8 (sumG constL initL ([xbN (blkL key) (92:UInt8) 64, sumG constL initL ([xbN (blkL key) (54:UInt8) 64, ([] : List UInt8)].flatten)].flatten))).toArray) (res1 Tryd.results145 (RV_cell rfl (Ld_agg Tryd.isAgg54 Tryd.sizeOf54 (len_cu8 (sumG_len _ _ _)) (MemAt.ent 0 rfl (Seg.whole _))))) fun w1 hw1 => ?_
    refine ⟨_, [], rfl, ⟨?_, rfl⟩, hw1.sub (by simp) (by simp)⟩
    rw [macL]
    first | (simp; done) | (rw [he1]; simp; done)
  ·
    show JL _ _ _ _ ((12, Slc nb4 0 ls.flatten.length cp1) :: _) [⟨nb1, cu8 (zr8 32), 54, (0, 0)⟩, ⟨nb2, cu8 (blkL key), 262, (0, 0)⟩, ⟨nb3, cu8 (xbN (blkL key) (54:UInt8) 64), tw1, (0, 0)⟩, ⟨nb4, cu8 ls.flatten ++ sp1, tj1, fj1⟩]
    refine JL_step (Step_buildSlice 43 1 _ [(0, Slc nb3 0 64 64), (1, Slc nb4 0 ls.flatten.length cp1)] ([Slc nb3 0 64 64, Slc nb4 0 ls.flatten.length cp1]) Tryd.underlying230 Tryd.sizeOf43 Tryd.zeroValue43 rfl rfl rfl (by kernel_rfl)) rfl ?_
    rintro v1 L1 ⟨nb9, hnb9, rfl, rfl⟩
    show JL _ _ _ _ ((13, Slc nb9 0 2 2) :: _) [⟨nb1, cu8 (zr8 32), 54, (0, 0)⟩, ⟨nb2, cu8 (blkL key), 262, (0, 0)⟩, ⟨nb3, cu8 (xbN (blkL key) (54:UInt8) 64), tw1, (0, 0)⟩, ⟨nb4, cu8 ls.flatten ++ sp1, tj1, fj1⟩, ⟨nb9, [Slc nb3 0 64 64, Slc nb4 0 ls.flatten.length cp1], 43, (0, 0)⟩]
    refine JL_step (Step_callP 172 [Slc nb9 0 2 2] (.agg (cu8 (sumG constL initL ([xbN (blkL key) (54:UInt8) 64, ls.flatten].flatten))).toArray) (Cl_func [Slc nb9 0 2 2] Tryd.call172 rfl) (fun w1 hw1 => of_c nb9 2 [Slc nb3 0 64 64, Slc nb4 0 ls.flatten.length cp1] [xbN (blkL key) (54:UInt8) 64, ls.flatten] w1 (by simp) (by simp) (by simp) ⟨RdA.of hw1 (MemAt.ent 4 rfl (Seg.whole _)) (by simp), ⟨⟨(some ⟨nb3, 0, none⟩), 64, congrArg (fun n => Value.slice (some ⟨nb3, 0, none⟩) n 64) ((xbN_len64 _ 64 (blkL_len _))).symm, (RdB.of hw1 (MemAt.ent 2 rfl (Seg.whole _)) (by simp))⟩, ⟨⟨(some ⟨nb4, 0, none⟩), cp1, congrArg (fun n => Value.slice (some ⟨nb4, 0, none⟩) n cp1) ((rfl : ls.flatten.length = _)).symm, (RdB.of hw1 (MemAt.ent 3 rfl (Seg.left (Seg.whole _))) (by simp))⟩, trivial⟩⟩⟩ (by simp only [List.flatten_cons, List.flatten_nil, List.length_append, List.length_nil, (xbN_len64 _ 64 (blkL_len _))]; omega) (hG.at hw1))) rfl ?_
    rintro v1 L1 ⟨rfl, rfl⟩
    show JL _ _ _ _ ((14, .agg (cu8 (sumG constL initL ([xbN (blkL key) (54:UInt8) 64, ls.flatten].flatten))).toArray) :: _) [⟨nb1, cu8 (zr8 32), 54, (0, 0)⟩, ⟨nb2, cu8 (blkL key), 262, (0, 0)⟩, ⟨nb3, cu8 (xbN (blkL key) (54:UInt8) 64), tw1, (0, 0)⟩, ⟨nb4, cu8 ls.flatten ++ sp1, tj1, fj1⟩, ⟨nb9, [Slc nb3 0 64 64, Slc nb4 0 ls.flatten.length cp1], 43, (0, 0)⟩]
    refine JL_step (Step_alloc _ (cu8 (zr8 32)) Tryd.zeroValue54 (by kernel_rfl)) rfl ?_
    rintro v1 L1 ⟨nb10, hnb10, rfl, rfl⟩
    show JL _ _ _ _ ((6, Ptr nb10 0) :: _) [⟨nb1, cu8 (zr8 32), 54, (0, 0)⟩, ⟨nb2, cu8 (blkL key), 262, (0, 0)⟩, ⟨nb3, cu8 (xbN (blkL key) (54:UInt8) 64), tw1, (0, 0)⟩, ⟨nb4, cu8 ls.flatten ++ sp1, tj1, fj1⟩, ⟨nb9, [Slc nb3 0 64 64, Slc nb4 0 ls.flatten.length cp1], 43, (0, 0)⟩, ⟨nb10, cu8 (zr8 32), 54, (0, 0)⟩]
    refine JL_step (Step_store 5 nb10 0 32 (cu8 (zr8 32)) 54 (.agg (cu8 (sumG constL initL ([xbN (blkL key) (54:UInt8) 64, ls.flatten].flatten))).toArray) (cu8 (sumG constL initL ([xbN (blkL key) (54:UInt8) 64, ls.flatten].flatten))) (cu8 (sumG constL initL ([xbN (blkL key) (54:UInt8) 64, ls.flatten].flatten))) rfl rfl rfl (by first | rfl | simp) Tryd.sizeOf54 (len_cu8 (sumG_len _ _ _)) (by first | exact one_u8 | exact one_u32 | exact one_u64 | (simp [cu8, cu32, cu64, Value.oneCell']; done)) (by simp [(zr8_len 32)]) (lay_whole (by simp [(zr8_len 32), (sumG_len _ _ _)]))) rfl ?_
    rintro v1 L1 ⟨rfl, rfl⟩
    show JL _ _ _ _ _ [⟨nb1, cu8 (zr8 32), 54, (0, 0)⟩, ⟨nb2, cu8 (blkL key), 262, (0, 0)⟩, ⟨nb3, cu8 (xbN (blkL key) (54:UInt8) 64), tw1, (0, 0)⟩, ⟨nb4, cu8 ls.flatten ++ sp1, tj1, fj1⟩, ⟨nb9, [Slc nb3 0 64 64, Slc nb4 0 ls.flatten.length cp1], 43, (0, 0)⟩, ⟨nb10, cu8 (sumG constL initL ([xbN (blkL key) (54:UInt8) 64, ls.flatten].flatten)), 54, (0, 0)⟩]
    refine JL_nil ?_
    refine JQ_then ?_
    refine JC_seq ?_
    refine JC_draw 20 5 [(0, .agg (cu8 (blkL key)).toArray), (2, Slc nb10 0 32 32)] Tryd.mixed rfl (by decide +kernel) ?_
    refine DP_one ⟨[], [0, 2], [], [0, 2], [1]⟩ 1 _ rfl rfl (by decide +kernel) rfl ⟨⟨_, rfl, Qok_val rfl (Ev_load rfl (Ld_agg Tryd.isAgg262 Tryd.sizeOf262 (len_cu8 (blkL_len _)) (MemAt.ent 1 rfl (Seg.whole _))))⟩, ⟨_, rfl, Qok_val rfl (Ev_sliceA 32 5 1 0 32 0 32 Tryd.underlying54 Tryd.sizeOf5 rfl rfl rfl (by omega) (by omega) (by omega) (by omega) (by omega) 32 (by omega))⟩, trivial⟩ rfl (Cok_step rfl (Step_callN 173 [.agg (cu8 (blkL key)).toArray, U8 (92:UInt8)] _ (Cl_func [.agg (cu8 (blkL key)).toArray, U8 (92:UInt8)] Tryd.call173 rfl) (fun w1 hw1 => with_c (blkL key) (92:UInt8) w1 (blkL_len _)))) ?_
    rintro v1 L1 ⟨_, ⟨nb11, tw3, rfl, rfl⟩, rfl⟩
    refine ⟨[], ?_⟩
    show DP _ _ _ _ _ _ _ _ [⟨nb1, cu8 (zr8 32), 54, (0, 0)⟩, ⟨nb2, cu8 (blkL key), 262, (0, 0)⟩, ⟨nb3, cu8 (xbN (blkL key) (54:UInt8) 64), tw1, (0, 0)⟩, ⟨nb4, cu8 ls.flatten ++ sp1, tj1, fj1⟩, ⟨nb9, [Slc nb3 0 64 64, Slc nb4 0 ls.flatten.length cp1], 43, (0, 0)⟩, ⟨nb10, cu8 (sumG constL initL ([xbN (blkL key) (54:UInt8) 64, ls.flatten].flatten)), 54, (0, 0)⟩, ⟨nb11, cu8 (xbN (blkL key) (92:UInt8) 64), tw3, (0, 0)⟩]
    refine DP_one ⟨[1], [0, 2], [0], [2], [3]⟩ 3 _ rfl rfl (by decide +kernel) rfl ⟨⟨_, rfl, Qok_val rfl (Ev_sliceA 32 5 1 0 32 0 32 Tryd.underlying54 Tryd.sizeOf5 rfl rfl rfl (by omega) (by omega) (by omega) (by omega) (by omega) 32 (by omega))⟩, trivial⟩ rfl (Cok_step rfl (Step_buildSlice 43 1 _ [(0, Slc nb11 0 64 64), (1, Slc nb10 0 32 32)] ([Slc nb11 0 64 64, Slc nb10 0 32 32]) Tryd.underlying230 Tryd.sizeOf43 Tryd.zeroValue43 rfl rfl rfl (by kernel_rfl))) ?_
    rintro v1 L1 ⟨nb12, hnb12, rfl, rfl⟩
    refine ⟨[], ?_⟩
    show DP _ _ _ _ _ _ _ _ [⟨nb1, cu8 (zr8 32), 54, (0, 0)⟩, ⟨nb2, cu8 (blkL key), 262, (0, 0)⟩, ⟨nb3, cu8 (xbN (blkL key) (54:UInt8) 64), tw1, (0, 0)⟩, ⟨nb4, cu8 ls.flatten ++ sp1, tj1, fj1⟩, ⟨nb9, [Slc nb3 0 64 64, Slc nb4 0 ls.flatten.length cp1], 43, (0, 0)⟩, ⟨nb10, cu8 (sumG constL initL ([xbN (blkL key) (54:UInt8) 64, ls.flatten].flatten)), 54, (0, 0)⟩, ⟨nb11, cu8 (xbN (blkL key) (92:UInt8) 64), tw3, (0, 0)⟩, ⟨nb12, [Slc nb11 0 64 64, Slc nb10 0 32 32], 43, (0, 0)⟩]
    refine DP_one ⟨[1, 3], [0, 2], [0, 2], [], [4]⟩ 4 _ rfl rfl (by decide +kernel) rfl trivial rfl (Cok_step rfl (Step_callP 172 [Slc nb12 0 2 2] (.agg (cu8 (sumG constL initL ([xbN (blkL key) (92:UInt8) 64, sumG constL initL ([xbN (blkL key) (54:UInt8) 64, ls.flatten].flatten)].flatten))).toArray) (Cl_func [Slc nb12 0 2 2] Tryd.call172 rfl) (fun w1 hw1 => of_c nb12 2 [Slc nb11 0 64 64, Slc nb10 0 32 32] [xbN (blkL key) (92:UInt8) 64, sumG constL initL ([xbN (blkL key) (54:UInt8) 64, ls.flatten].flatten)] w1 (by simp) (by simp) (by simp) ⟨RdA.of hw1 (MemAt.ent 7 rfl (Seg.whole _)) (by simp), ⟨⟨(some ⟨nb11, 0, none⟩), 64, congrArg (fun n => Value.slice (some ⟨nb11, 0, none⟩) n 64) ((xbN_len64 _ 64 (blkL_len _))).symm, (RdB.of hw1 (MemAt.ent 6 rfl (Seg.whole _)) (by simp))⟩, ⟨⟨(some ⟨nb10, 0, none⟩), 32, congrArg (fun n => Value.slice (some ⟨nb10, 0, none⟩) n 32) ((sumG_len _ _ _)).symm, (RdB.of hw1 (MemAt.ent 5 rfl (Seg.whole _)) (by simp))⟩, trivial⟩⟩⟩ (by simp only [List.flatten_cons, List.flatten_nil, List.length_append, List.length_nil, (xbN_len64 _ 64 (blkL_len _)), (sumG_len _ _ _)]; omega) (hG.at hw1)))) ?_
    rintro v1 L1 ⟨rfl, rfl⟩
    refine ⟨[], ?_⟩
    show DP _ _ _ _ _ _ _ _ [⟨nb1, cu8 (zr8 32), 54, (0, 0)⟩, ⟨nb2, cu8 (blkL key), 262, (0, 0)⟩, ⟨nb3, cu8 (xbN (blkL key) (54:UInt8) 64), tw1, (0, 0)⟩, ⟨nb4, cu8 ls.flatten ++ sp1, tj1, fj1⟩, ⟨nb9, [Slc nb3 0 64 64, Slc nb4 0 ls.flatten.length cp1], 43, (0, 0)⟩, ⟨nb10, cu8 (sumG constL initL ([xbN (blkL key) (54:UInt8) 64, ls.flatten].flatten)), 54, (0, 0)⟩, ⟨nb11, cu8 (xbN (blkL key) (92:UInt8) 64), tw3, (0, 0)⟩, ⟨nb12, [Slc nb11 0 64 64, Slc nb10 0 32 32], 43, (0, 0)⟩]
    refine DP_one ⟨[1, 3, 4], [0, 2], [0, 2], [], [5]⟩ 5 _ rfl rfl (by decide +kernel) rfl trivial rfl (Cok_step rfl (Step_store 0 nb1 0 32 (cu8 (zr8 32)) 54 (.agg (cu8 (sumG constL initL ([xbN (blkL key) (92:UInt8) 64, sumG constL initL ([xbN (blkL key) (54:UInt8) 64, ls.flatten].flatten)].flatten))).toArray) (cu8 (sumG constL initL ([xbN (blkL key) (92:UInt8) 64, sumG constL initL ([xbN (blkL key) (54:UInt8) 64, ls.flatten].flatten)].flatten))) (cu8 (sumG constL initL ([xbN (blkL key) (92:UInt8) 64, sumG constL initL ([xbN (blkL key) (54:UInt8) 64, ls.flatten].flatten)].flatten))) rfl rfl rfl (by first | rfl | simp) Tryd.sizeOf54 (len_cu8 (sumG_len _ _ _)) (by first | exact one_u8 | exact one_u32 | exact one_u64 | (simp [cu8, cu32, cu64, Value.oneCell']; done)) (by simp [(zr8_len 32)]) (lay_whole (by simp [(zr8_len 32), (sumG_len _ _ _)])))) ?_
    rintro v1 L1 ⟨rfl, rfl⟩
    refine ⟨[], ?_⟩
    show DP _ _ _ _ _ _ _ _ [⟨nb1, cu8 (sumG constL initL ([xbN (blkL key) (92:UInt8) 64, sumG constL initL ([xbN (blkL key) (54:UInt8) 64, ls.flatten].flatten)].flatten)), 54, (0, 0)⟩, ⟨nb2, cu8 (blkL key), 262, (0, 0)⟩, ⟨nb3, cu8 (xbN (blkL key) (54:UInt8) 64), tw1, (0, 0)⟩, ⟨nb4, cu8 ls.flatten ++ sp1, tj1, fj1⟩, ⟨nb9, [Slc nb3 0 64 64, Slc nb4 0 ls.flatten.length cp1], 43, (0, 0)⟩, ⟨nb10, cu8 (sumG constL initL ([xbN (blkL key) (54:UInt8) 64, ls.flatten].flatten)), 54, (0, 0)⟩, ⟨nb11, cu8 (xbN (blkL key) (92:UInt8) 64), tw3, (0, 0)⟩, ⟨nb12, [Slc nb11 0 64 64, Slc nb10 0 32 32], 43, (0, 0)⟩]
    refine DP_end ⟨[1, 3, 4, 5], [0, 2], [0, 2], [], []⟩ rfl rfl (by decide +kernel) rfl trivial ?_
    refine K_sub (F' := [(4, Ptr nb1 0)]) (Sub.cons (by kernel_rfl) (Sub.nil)) ?_
    show JQ _ _ _ [(4, Ptr nb1 0)] _
    refine JQ_then ?_
    refine JC_ret ?_
    refine JQ_ret (.agg (cu8 (sumG constL initL ([xbN (blkL key) (92:UInt8) 64, sumG constL initL ([xbN (blkL key) (54:UInt8) 64, ls.flatten].flatten)].flatten))).toArray) (res1 Tryd.results145 (RV_cell rfl (Ld_agg Tryd.isAgg54 Tryd.sizeOf54 (len_cu8 (sumG_len _ _ _)) (MemAt.ent 0 rfl (Seg.whole _))))) fun w1 hw1 => ?_
    refine ⟨_, [], rfl, ⟨?_, rfl⟩, hw1.sub (by simp) (by simp)⟩
    rw [macL]
    first | (simp; done) | (rw [he1]; simp; done)

end Go.Proofs.YtkdpdgpphpngeaaDoor
namespace Go.Proofs.YtkdpdgpphpngeaaDoor
open Go Go.Sx
set_option linter.unusedVariables false
set_option linter.unusedSimpArgs false
set_option maxRecDepth 100000
attribute [local irreducible] mid zr8 zr32 rotr wordL spreadL comprL cpN adN spN wrdN constL initL padL stN outN routN hashL sumG blkL xbN raN macL orN
theorem short_c (ao : Option Addr) (n cb : Nat) (key : List UInt8) (b c : Nat) (vs : List Value) (ls : List (List UInt8)) (w : World) (hb : key.length = n) (hcb : ao = none → cb = 0) (hn : n ≤ 17592186044416) (hr : RdB w [] ao key) (hk : 1 ≤ ls.length) (hc : ls.length ≤ c) (hk2 : ls.length ≤ 1000) (hp : Parts w b vs ls) (hs : ls.flatten.length ≤ 100000000) (hG : GLs w) : Calls Tryd.prog 90 #[.slice ao n cb, .slice (some ⟨b, 0, none⟩) ls.length c] w (Post w [] (fun v L => ∃ g sp cap, v = Slc g 0 16 cap ∧ L = [⟨g, cu8 (mid (macL key ls.flatten) 0 16) ++ sp, 5, (0, 0)⟩] ∧ sp.length = cap - 16 ∧ 16 ≤ cap ∧ cap ≤ maxLen)) := by
  refine enter w [] 11 [] [.slice ao n cb, .slice (some ⟨b, 0, none⟩) ls.length c] Tryd.func90 rfl rfl (by simp) (Hp.start (by simp) (by simp) (by simp)) ?_
  show JC _ _ _ [(0, .slice ao n cb), (1, .slice (some ⟨b, 0, none⟩) ls.length c)] _
  refine JC_seq ?_
  refine JC_region ?_
  refine JL_val _ (Ev_assign rfl) rfl ?_
  refine JL_nil ?_
  refine JQ_then ?_
  refine JC_seq ?_
  refine JC_region ?_
  refine JL_val _ (Ev_move rfl) rfl ?_
  refine JL_val _ (Ev_move rfl) rfl ?_
  refine JL_step (Step_callP 145 [.slice ao n cb, .slice (some ⟨b, 0, none⟩) ls.length c] (.agg (cu8 (macL key ls.flatten)).toArray) (Cl_func [.slice ao n cb, .slice (some ⟨b, 0, none⟩) ls.length c] Tryd.call145 rfl) (fun w1 hw1 => mac_c ao n cb key b c vs ls w1 hb hcb (by omega) (hr.at (M' := []) hw1 (by simp)) hk hc hk2 (hp.at hw1 rfl (by omega)) hs (hG.at hw1))) rfl ?_
  rintro v1 L1 ⟨rfl, rfl⟩
  show JL _ _ _ _ ((8, .agg (cu8 (macL key ls.flatten)).toArray) :: _) []
  refine JL_step (Step_alloc _ (cu8 (zr8 32)) Tryd.zeroValue54 (by kernel_rfl)) rfl ?_
  rintro v1 L1 ⟨nb1, hnb1, rfl, rfl⟩
  show JL _ _ _ _ ((5, Ptr nb1 0) :: _) [⟨nb1, cu8 (zr8 32), 54, (0, 0)⟩]
  refine JL_step (Step_store 0 nb1 0 32 (cu8 (zr8 32)) 54 (.agg (cu8 (macL key ls.flatten)).toArray) (cu8 (macL key ls.flatten)) (cu8 (macL key ls.flatten)) rfl rfl rfl (by first | rfl | simp) Tryd.sizeOf54 (len_cu8 (macL_len _ _)) (by first | exact one_u8 | exact one_u32 | exact one_u64 | (simp [cu8, cu32, cu64, Value.oneCell']; done)) (by simp [(zr8_len 32)]) (lay_whole (by simp [(zr8_len 32), (macL_len _ _)]))) rfl ?_
  rintro v1 L1 ⟨rfl, rfl⟩
  show JL _ _ _ _ _ [⟨nb1, cu8 (macL key ls.flatten), 54, (0, 0)⟩]
  refine JL_nil ?_
  refine JQ_then ?_
  refine JC_seq ?_
  refine JC_region ?_
  refine JL_val (Slc nb1 0 16 32) (Ev_sliceA 32 5 1 0 16 0 32 Tryd.underlying54 Tryd.sizeOf5 rfl rfl rfl (by omega) (by omega) (by omega) (by omega) (by omega) 16 (by omega)) rfl ?_
  have hl1 : (mid (macL key ls.flatten) 0 16).length = 16 := mid_len (by rw [(macL_len _ _)]; omega)
  refine JL_step (Step_callN 146 [Slc nb1 0 16 32] _ (Cl_func [Slc nb1 0 16 32] Tryd.call146 rfl) (fun w1 hw1 => bclone_c (some ⟨nb1, 0, none⟩) 16 32 (mid (macL key ls.flatten) 0 16) w1 rfl hl1 (by omega) (RdB.of hw1 (MemAt.ent 0 rfl (segm_u8 0 16 (by rw [(macL_len _ _)]; omega))) (by simp)))) rfl ?_
  rintro v1 L1 ⟨_, ⟨nb2, sp1, cp1, rfl, rfl, hc1, hc2, hc3⟩, rfl⟩
  show JL _ _ _ _ ((10, Slc nb2 0 16 cp1) :: _) [⟨nb1, cu8 (macL key ls.flatten), 54, (0, 0)⟩, ⟨nb2, cu8 (mid (macL key ls.flatten) 0 16) ++ sp1, 5, (0, 0)⟩]
  refine JL_val _ (Ev_assign rfl) rfl ?_
  refine JL_nil ?_
  refine JQ_then ?_
  refine JC_ret ?_
  refine JQ_ret (Slc nb2 0 16 cp1) (res1 Tryd.results90 (RV_tmp rfl)) fun w1 hw1 => ?_
  exact ⟨_, _, rfl, ⟨nb2, sp1, cp1, rfl, rfl, hc1, hc2, hc3⟩, hw1.sub (by simp) (by simp)⟩

theorem rblockS_c (ao : Option Addr) (n cb : Nat) (b : List UInt8) (w : World) (hb : b.length = n) (hcb : ao = none → cb = 0) (hr : RdB w [] ao b) (hGr : GLr w) (hGi : GLi w) (hn : n ≤ 64) : Calls Tryd.prog 147 #[.slice ao n cb] w (Post w [] (fun v L => ∃ g sp cap, v = Slc g 0 64 cap ∧ L = [⟨g, cu8 (blkL b) ++ sp, 5, (0, 0)⟩] ∧ sp.length = cap - 64 ∧ 64 ≤ cap ∧ cap ≤ maxLen)) := by
  have hmx : maxLen = 9223372036854775807 := rfl
  refine enter w [] 21 [] [.slice ao n cb] Tryd.func147 rfl rfl (by simp) (Hp.start (by simp) (by simp) (by simp)) ?_
  show JC _ _ _ [(0, .slice ao n cb)] _
  refine JC_seq ?_
  refine JC_region ?_
  refine JL_val _ (Ev_assign rfl) rfl ?_
  refine JL_nil ?_
  refine JQ_then ?_
  refine JC_seq ?_
  refine JC_region ?_
  refine JL_step (Step_buildSlice0 5 1 Tryd.underlying43 Tryd.sizeOf5) rfl ?_
  rintro v1 L1 ⟨nb1, hnb1, rfl, rfl⟩
  show JL _ _ _ _ ((5, Slc nb1 0 0 0) :: _) [⟨nb1, [], 5, (0, 0)⟩]
  refine JL_val _ (Ev_move rfl) rfl ?_
  refine JL_step (Step_appM8 43 5 [true] (Slc nb1 0 0 0) 0 ([] : List UInt8) b ao n cb n Tryd.underlying43 Tryd.info5 rfl (.inr ⟨nb1, [], 0, rfl, (by simp [take?, cu8, cu32, cu64]), rfl, (by simp), (by omega), (by unfold maxLen; omega)⟩) rfl (by simp [hb]; try omega) (hr.src) (by omega) (by unfold maxLen; omega) (by omega)) rfl ?_
  rintro v1 L1 ⟨nb2, sp1, cp1, hg1, rfl, rfl, ha1, ha2, ha3, ha4⟩
  show JL _ _ _ _ ((7, Slc nb2 0 n cp1) :: _) [⟨nb2, cu8 (([] : List UInt8) ++ b) ++ sp1, 5, (0, 0)⟩]
  refine JL_val _ (Ev_assign rfl) rfl ?_
  refine JL_nil ?_
  refine JQ_then ?_
  refine JC_seq ?_
  refine JC_seq ?_
  refine JC_region ?_
  refine JL_val _ (Ev_move rfl) rfl ?_
  refine JL_val (I64 ((n:Int))) (Ev_len Tryd.underlying43 rfl) rfl ?_
  refine JL_val (.bool (decide ((64:Int) < ((n:Int))))) (Ev_bini rfl rfl fun _ => bin_gtr_i _ _) rfl ?_
  refine JL_nil ?_
  refine JQ_then ?_
  refine JC_condF _ rfl (decide_eq_false (by omega)) ?_
  refine JC_skip ?_
  refine JQ_then ?_
  refine JC_seq ?_
  refine JC_block ?_
  refine JC_loop (ι := Nat × List UInt8 × Nat × List Value × Nat) (fun ⟨j, o, g1, sp1, cp1⟩ => [(2, .slice none 0 0), (3, Slc g1 0 (j + n) cp1)]) (fun ⟨j, o, g1, sp1, cp1⟩ => [⟨g1, cu8 o ++ sp1, 5, (0, 0)⟩]) (fun ⟨j, o, g1, sp1, cp1⟩ => j + n ≤ 64 ∧ o = b ++ zr8 j ∧ o.length = j + n ∧ sp1.length = cp1 - (j + n) ∧ j + n ≤ cp1 ∧ cp1 ≤ maxLen) (fun ⟨j, o, g1, sp1, cp1⟩ => 64 - (j + n)) (0, ([] : List UInt8) ++ b, nb2, sp1, cp1) ⟨by omega, by simp [zr8], by simp [hb], by omega, by omega, ha4⟩ (Sub.cons rfl (Sub.cons (some_slc (by omega)) (Sub.nil))) rfl ?_
  rintro ⟨j, o, g1, sp1, cp1⟩ ⟨hx1, hx2, ho, hx4, hx5, hx6⟩
  show JC _ _ _ [(2, .slice none 0 0), (3, Slc g1 0 (j + n) cp1)] [⟨g1, cu8 o ++ sp1, 5, (0, 0)⟩]
  refine JC_seq ?_
  refine JC_seq ?_
  refine JC_region ?_
  refine JL_val _ (Ev_move rfl) rfl ?_
  refine JL_val (I64 ((j:Int) + (n:Int))) (Ev_lenX Tryd.underlying43 rfl (by omega)) rfl ?_
  refine JL_val (.bool (decide (((j:Int) + (n:Int)) < (64:Int)))) (Ev_bini rfl rfl fun _ => bin_lss_i _ _) rfl ?_
  refine JL_nil ?_
  refine JQ_then ?_
  refine JC_cond (decide (((j:Int) + (n:Int)) < (64:Int))) rfl (fun hb1 => ?_) (fun hb1 => ?_)
  ·
    have hp1 : ((j:Int) + (n:Int)) < (64:Int) := of_decide_eq_true hb1
    refine JC_skip ?_
    refine JQ_then ?_
    refine JC_block ?_
    refine JC_region ?_
    refine JL_val _ (Ev_move rfl) rfl ?_
    refine JL_step (Step_buildSlice 5 1 _ [(0, U8 (0:UInt8))] (cu8 ([(0:UInt8)])) Tryd.underlying43 Tryd.sizeOf5 Tryd.zeroValue5 rfl rfl rfl (by kernel_rfl)) rfl ?_
    rintro v1 L1 ⟨nb3, hnb3, rfl, rfl⟩
    show JL _ _ _ _ ((18, Slc nb3 0 1 1) :: _) [⟨g1, cu8 o ++ sp1, 5, (0, 0)⟩, ⟨nb3, cu8 ([(0:UInt8)]), 5, (0, 0)⟩]
    refine JL_step (Step_appM8 43 5 [true, false] (Slc g1 0 (j + n) cp1) (j + n) o ([(0:UInt8)]) (some ⟨nb3, 0, none⟩) 1 1 (j + n + 1) Tryd.underlying43 Tryd.info5 rfl (.inr ⟨g1, sp1, cp1, rfl, rfl, (by first | exact ho | simp [ho]), hx4, (by omega), (by omega)⟩) rfl (by simp) (SrcAt.mem (MemAt.ent 1 rfl (Seg.whole _))) (by omega) (by unfold maxLen; omega) (by omega)) rfl ?_
    rintro v1 L1 ⟨nb4, sp2, cp2, hg2, rfl, rfl, ha5, ha6, ha7, ha8⟩
    show JL _ _ _ _ ((19, Slc nb4 0 (j + n + 1) cp2) :: _) [⟨nb3, cu8 ([(0:UInt8)]), 5, (0, 0)⟩, ⟨nb4, cu8 (o ++ ([(0:UInt8)])) ++ sp2, 5, (0, 0)⟩]
    refine JL_val _ (Ev_assign rfl) rfl ?_
    refine JL_nil ?_
    refine JQ_in_normal ?_
    refine JQ_thenK ?_
    refine K_mask [false, true] ?_
    show K _ _ [⟨nb4, cu8 (o ++ ([(0:UInt8)])) ++ sp2, 5, (0, 0)⟩] _
    refine K_next (j + 1, o ++ ([(0:UInt8)]), nb4, sp2, cp2) ⟨by omega, by rw [hx2, zr8_succ, List.append_assoc], (ha5).trans (by first | rfl | simp +arith), (ha6).trans (by first | rfl | simp +arith), by omega, ha8⟩ (by first | (simp; omega) | simp | (dsimp only; omega) | omega) (Sub.cons rfl (Sub.cons (some_slc (by omega)) (Sub.nil))) rfl
  ·
    have hp1 : ¬ (((j:Int) + (n:Int)) < (64:Int)) := of_decide_eq_false hb1
    refine JC_exit ?_
    refine JQ_then_exit ?_
    refine JQ_then_exit ?_
    refine JQ_in_same ?_
    refine JQ_then ?_
    refine JC_seq ?_
    refine JC_region ?_
    refine JL_val _ (Ev_move rfl) rfl ?_
    refine JL_val _ (Ev_assign rfl) rfl ?_
    refine JL_nil ?_
    refine JQ_then ?_
    refine JC_ret ?_
    refine JQ_ret (Slc g1 0 (j + n) cp1) (res1 Tryd.results147 (RV_tmp rfl)) fun w1 hw1 => ?_
    have e1 : n + j = 64 := by omega
    have ex : o = blkL b := by rw [blkL_small (by omega), hx2]; congr 2; omega
    rw [ex] at hw1
    exact ⟨_, _, rfl, ⟨g1, sp1, cp1, slc_len (by omega), rfl, by omega, by omega, hx6⟩, hw1.sub (by simp) (by simp)⟩

theorem rblockB_c (ao : Option Addr) (n cb : Nat) (b : List UInt8) (w : World) (hb : b.length = n) (hcb : ao = none → cb = 0) (hr : RdB w [] ao b) (hGr : GLr w) (hGi : GLi w) (hn : 64 < n) (hn2 : n ≤ 17592186044416) : Calls Tryd.prog 147 #[.slice ao n cb] w (Post w [] (fun v L => ∃ g sp cap, v = Slc g 0 64 cap ∧ L = [⟨g, cu8 (blkL b) ++ sp, 5, (0, 0)⟩] ∧ sp.length = cap - 64 ∧ 64 ≤ cap ∧ cap ≤ maxLen)) := by
  have hmx : maxLen = 9223372036854775807 := rfl
  refine enter w [] 21 [] [.slice ao n cb] Tryd.func147 rfl rfl (by simp) (Hp.start (by simp) (by simp) (by simp)) ?_
  show JC _ _ _ [(0, .slice ao n cb)] _
  refine JC_seq ?_
  refine JC_region ?_
  refine JL_val _ (Ev_assign rfl) rfl ?_
  refine JL_nil ?_
  refine JQ_then ?_
  refine JC_seq ?_
  refine JC_region ?_
  refine JL_step (Step_buildSlice0 5 1 Tryd.underlying43 Tryd.sizeOf5) rfl ?_
  rintro v1 L1 ⟨nb1, hnb1, rfl, rfl⟩
  show JL _ _ _ _ ((5, Slc nb1 0 0 0) :: _) [⟨nb1, [], 5, (0, 0)⟩]
  refine JL_val _ (Ev_move rfl) rfl ?_
  refine JL_step (Step_appM8 43 5 [true] (Slc nb1 0 0 0) 0 ([] : List UInt8) b ao n cb n Tryd.underlying43 Tryd.info5 rfl (.inr ⟨nb1, [], 0, rfl, (by simp [take?, cu8, cu32, cu64]), rfl, (by simp), (by omega), (by unfold maxLen; omega)⟩) rfl (by simp [hb]; try omega) (hr.src) (by omega) (by unfold maxLen; omega) (by omega)) rfl ?_
  rintro v1 L1 ⟨nb2, sp1, cp1, hg1, rfl, rfl, ha1, ha2, ha3, ha4⟩
  show JL _ _ _ _ ((7, Slc nb2 0 n cp1) :: _) [⟨nb2, cu8 (([] : List UInt8) ++ b) ++ sp1, 5, (0, 0)⟩]
  refine JL_val _ (Ev_assign rfl) rfl ?_
  refine JL_nil ?_
  refine JQ_then ?_
  refine JC_seq ?_
  refine JC_seq ?_
  refine JC_region ?_
  refine JL_val _ (Ev_move rfl) rfl ?_
  refine JL_val (I64 ((n:Int))) (Ev_len Tryd.underlying43 rfl) rfl ?_
  refine JL_val (.bool (decide ((64:Int) < ((n:Int))))) (Ev_bini rfl rfl fun _ => bin_gtr_i _ _) rfl ?_
  refine JL_nil ?_
  refine JQ_then ?_
  refine JC_condT _ rfl (decide_eq_true (by omega)) ?_
  refine JC_seq ?_
  refine JC_region ?_
  refine JL_val _ (Ev_move rfl) rfl ?_
  refine JL_step (Step_callP 148 [.slice ao n cb] (.agg (cu8 (sumG constL initL b)).toArray) (Cl_func [.slice ao n cb] Tryd.call148 rfl) (fun w1 hw1 => rsum_c ao n cb b w1 hb (by omega) (hr.at (M' := []) hw1 (by simp)) (GLr.at hw1 hGr) (GLi.at hw1 hGi))) rfl ?_
  rintro v1 L1 ⟨rfl, rfl⟩
  show JL _ _ _ _ ((12, .agg (cu8 (sumG constL initL b)).toArray) :: _) [⟨nb2, cu8 (([] : List UInt8) ++ b) ++ sp1, 5, (0, 0)⟩]
  refine JL_step (Step_alloc _ (cu8 (zr8 32)) Tryd.zeroValue54 (by kernel_rfl)) rfl ?_
  rintro v1 L1 ⟨nb3, hnb3, rfl, rfl⟩
  show JL _ _ _ _ ((4, Ptr nb3 0) :: _) [⟨nb2, cu8 (([] : List UInt8) ++ b) ++ sp1, 5, (0, 0)⟩, ⟨nb3, cu8 (zr8 32), 54, (0, 0)⟩]
  refine JL_step (Step_store 1 nb3 0 32 (cu8 (zr8 32)) 54 (.agg (cu8 (sumG constL initL b)).toArray) (cu8 (sumG constL initL b)) (cu8 (sumG constL initL b)) rfl rfl rfl (by first | rfl | simp) Tryd.sizeOf54 (len_cu8 (sumG_len _ _ _)) (by first | exact one_u8 | exact one_u32 | exact one_u64 | (simp [cu8, cu32, cu64, Value.oneCell']; done)) (by simp [(zr8_len 32)]) (lay_whole (by simp [(zr8_len 32), (sumG_len _ _ _)]))) rfl ?_
  rintro v1 L1 ⟨rfl, rfl⟩
  show JL _ _ _ _ _ [⟨nb2, cu8 (([] : List UInt8) ++ b) ++ sp1, 5, (0, 0)⟩, ⟨nb3, cu8 (sumG constL initL b), 54, (0, 0)⟩]
  refine JL_nil ?_
  refine JQ_then ?_
  refine JC_region ?_
  refine JL_val (Slc nb3 0 32 32) (Ev_sliceA 32 5 1 0 32 0 32 Tryd.underlying54 Tryd.sizeOf5 rfl rfl rfl (by omega) (by omega) (by omega) (by omega) (by omega) 32 (by omega)) rfl ?_
  refine JL_val _ (Ev_assign rfl) rfl ?_
  refine JL_nil ?_
  refine JQ_then ?_
  refine JC_seq ?_
  refine JC_block ?_
  refine K_mask [false, true] ?_
  show JC _ _ _ _ [⟨nb3, cu8 (sumG constL initL b), 54, (0, 0)⟩]
  refine JC_loop (ι := (Unit) ⊕ (Nat × List UInt8 × Nat × List Value × Nat)) (fun x => match x with | .inl _ => [(2, .slice none 0 0), (3, Slc nb3 0 32 32)] | .inr ⟨j, o, g1, sp1, cp1⟩ => [(2, .slice none 0 0), (3, Slc g1 0 (j + 32) cp1)]) (fun x => match x with | .inl _ => [⟨nb3, cu8 (sumG constL initL b), 54, (0, 0)⟩] | .inr ⟨j, o, g1, sp1, cp1⟩ => [⟨g1, cu8 o ++ sp1, 5, (0, 0)⟩]) (fun x => match x with | .inl _ => True | .inr ⟨j, o, g1, sp1, cp1⟩ => 1 ≤ j ∧ j ≤ 32 ∧ o = sumG constL initL b ++ zr8 j ∧ o.length = j + 32 ∧ sp1.length = cp1 - (j + 32) ∧ j + 32 ≤ cp1 ∧ cp1 ≤ maxLen) (fun x => match x with | .inl _ => 33 | .inr ⟨j, o, g1, sp1, cp1⟩ => 32 - j) (.inl ()) trivial (Sub.cons rfl (Sub.cons rfl (Sub.nil))) rfl ?_
  rintro (_ | ⟨j, o, g1, sp1, cp1⟩) hx
  ·
    obtain _ := hx
    show JC _ _ _ [(2, .slice none 0 0), (3, Slc nb3 0 32 32)] [⟨nb3, cu8 (sumG constL initL b), 54, (0, 0)⟩]
    refine JC_seq ?_
    refine JC_seq ?_
    refine JC_region ?_
    refine JL_val _ (Ev_move rfl) rfl ?_
    refine JL_val (I64 (32:Int)) (Ev_len Tryd.underlying43 rfl) rfl ?_
    refine JL_val (.bool (decide ((32:Int) < (64:Int)))) (Ev_bini rfl rfl fun _ => bin_lss_i _ _) rfl ?_
    refine JL_nil ?_
    refine JQ_then ?_
    refine JC_condT _ rfl (by decide) ?_
    refine JC_skip ?_
    refine JQ_then ?_
    refine JC_block ?_
    refine JC_region ?_
    refine JL_val _ (Ev_move rfl) rfl ?_
    refine JL_step (Step_buildSlice 5 1 _ [(0, U8 (0:UInt8))] (cu8 ([(0:UInt8)])) Tryd.underlying43 Tryd.sizeOf5 Tryd.zeroValue5 rfl rfl rfl (by kernel_rfl)) rfl ?_
    rintro v1 L1 ⟨nb4, hnb4, rfl, rfl⟩
    show JL _ _ _ _ ((18, Slc nb4 0 1 1) :: _) [⟨nb3, cu8 (sumG constL initL b), 54, (0, 0)⟩, ⟨nb4, cu8 ([(0:UInt8)]), 5, (0, 0)⟩]
    refine JL_step (Step_appG8 43 5 ⟨nb3, 0, none⟩ 32 32 (sumG constL initL b) ([(0:UInt8)]) (some ⟨nb4, 0, none⟩) 1 1 33 Tryd.underlying43 Tryd.info5 rfl (sumG_len _ _ _) (SrcAt.mem (MemAt.ent 0 rfl (Seg.whole _))) rfl (by simp) (SrcAt.mem (MemAt.ent 1 rfl (Seg.whole _))) (by omega) (by omega) (by omega) (by unfold maxLen; omega) (by omega)) rfl ?_
    rintro v1 L1 ⟨nb5, sp2, cp2, hg2, rfl, rfl, ha5, ha6, ha7, ha8⟩
    show JL _ _ _ _ ((19, Slc nb5 0 33 cp2) :: _) [⟨nb3, cu8 (sumG constL initL b), 54, (0, 0)⟩, ⟨nb4, cu8 ([(0:UInt8)]), 5, (0, 0)⟩, ⟨nb5, cu8 ((sumG constL initL b) ++ ([(0:UInt8)])) ++ sp2, 5, (0, 0)⟩]
    refine JL_val _ (Ev_assign rfl) rfl ?_
    refine JL_nil ?_
    refine JQ_in_normal ?_
    refine JQ_thenK ?_
    refine K_mask [false, false, true] ?_
    show K _ _ [⟨nb5, cu8 ((sumG constL initL b) ++ ([(0:UInt8)])) ++ sp2, 5, (0, 0)⟩] _
    refine K_next (.inr (1, (sumG constL initL b) ++ ([(0:UInt8)]), nb5, sp2, cp2)) ⟨by omega, by omega, by simp [zr8], (ha5).trans (by first | rfl | simp +arith), (ha6).trans (by first | rfl | simp +arith), by omega, ha8⟩ (by first | (simp; omega) | simp | (dsimp only; omega) | omega) (Sub.cons rfl (Sub.cons (some_slc (by omega)) (Sub.nil))) rfl
  ·
    obtain ⟨hx0, hx1, hx2, ho, hx4, hx5, hx6⟩ := hx
    show JC _ _ _ [(2, .slice none 0 0), (3, Slc g1 0 (j + 32) cp1)] [⟨g1, cu8 o ++ sp1, 5, (0, 0)⟩]
    refine JC_seq ?_
    refine JC_seq ?_
    refine JC_region ?_
    refine JL_val _ (Ev_move rfl) rfl ?_
    refine JL_val (I64 ((j:Int) + 32)) (Ev_lenX Tryd.underlying43 rfl (by omega)) rfl ?_
    refine JL_val (.bool (decide (((j:Int) + 32) < (64:Int)))) (Ev_bini rfl rfl fun _ => bin_lss_i _ _) rfl ?_
    refine JL_nil ?_
    refine JQ_then ?_
    refine JC_cond (decide (((j:Int) + 32) < (64:Int))) rfl (fun hb1 => ?_) (fun hb1 => ?_)
    ·
      have hp1 : ((j:Int) + 32) < (64:Int) := of_decide_eq_true hb1
      refine JC_skip ?_
      refine JQ_then ?_
      refine JC_block ?_
      refine JC_region ?_
      refine JL_val _ (Ev_move rfl) rfl ?_
      refine JL_step (Step_buildSlice 5 1 _ [(0, U8 (0:UInt8))] (cu8 ([(0:UInt8)])) Tryd.underlying43 Tryd.sizeOf5 Tryd.zeroValue5 rfl rfl rfl (by kernel_rfl)) rfl ?_
      rintro v1 L1 ⟨nb6, hnb6, rfl, rfl⟩
      show JL _ _ _ _ ((18, Slc nb6 0 1 1) :: _) [⟨g1, cu8 o ++ sp1, 5, (0, 0)⟩, ⟨nb6, cu8 ([(0:UInt8)]), 5, (0, 0)⟩]
      refine JL_step (Step_appM8 43 5 [true, false] (Slc g1 0 (j + 32) cp1) (j + 32) o ([(0:UInt8)]) (some ⟨nb6, 0, none⟩) 1 1 (j + 33) Tryd.underlying43 Tryd.info5 rfl (.inr ⟨g1, sp1, cp1, rfl, rfl, (by first | exact ho | simp [ho]), hx4, (by omega), (by omega)⟩) rfl (by simp) (SrcAt.mem (MemAt.ent 1 rfl (Seg.whole _))) (by omega) (by unfold maxLen; omega) (by omega)) rfl ?_
      rintro v1 L1 ⟨nb7, sp3, cp3, hg3, rfl, rfl, ha9, ha10, ha11, ha12⟩
      show JL _ _ _ _ ((19, Slc nb7 0 (j + 33) cp3) :: _) [⟨nb6, cu8 ([(0:UInt8)]), 5, (0, 0)⟩, ⟨nb7, cu8 (o ++ ([(0:UInt8)])) ++ sp3, 5, (0, 0)⟩]
      refine JL_val _ (Ev_assign rfl) rfl ?_
      refine JL_nil ?_
      refine JQ_in_normal ?_
      refine JQ_thenK ?_
      refine K_mask [false, true] ?_
      show K _ _ [⟨nb7, cu8 (o ++ ([(0:UInt8)])) ++ sp3, 5, (0, 0)⟩] _
      refine K_next (.inr (j + 1, o ++ ([(0:UInt8)]), nb7, sp3, cp3)) ⟨by omega, by omega, by rw [hx2, zr8_succ, List.append_assoc], (ha9).trans (by first | rfl | simp +arith), (ha10).trans (by first | rfl | simp +arith), by omega, ha12⟩ (by first | (simp; omega) | simp | (dsimp only; omega) | omega) (Sub.cons rfl (Sub.cons (some_slc (by omega)) (Sub.nil))) rfl
    ·
      have hp1 : ¬ (((j:Int) + 32) < (64:Int)) := of_decide_eq_false hb1
      refine JC_exit ?_
      refine JQ_then_exit ?_
      refine JQ_then_exit ?_
      refine JQ_in_same ?_
      refine JQ_then ?_
      refine JC_seq ?_
      refine JC_region ?_
      refine JL_val _ (Ev_move rfl) rfl ?_
      refine JL_val _ (Ev_assign rfl) rfl ?_
      refine JL_nil ?_
      refine JQ_then ?_
      refine JC_ret ?_
      refine JQ_ret (Slc g1 0 (j + 32) cp1) (res1 Tryd.results147 (RV_tmp rfl)) fun w1 hw1 => ?_
      have e1 : j = 32 := by omega
      have ex : o = blkL b := by rw [blkL_big (by omega), hx2, e1]
      rw [ex] at hw1
      exact ⟨_, _, rfl, ⟨g1, sp1, cp1, slc_len (by omega), rfl, by omega, by omega, hx6⟩, hw1.sub (by simp) (by simp)⟩

end Go.Proofs.YtkdpdgpphpngeaaDoor
namespace Go.Proofs.YtkdpdgpphpngeaaDoor
open Go Go.Sx
set_option linter.unusedVariables false
set_option linter.unusedSimpArgs false
set_option maxRecDepth 100000
attribute [local irreducible] mid zr8 zr32 rotr wordL spreadL comprL cpN adN spN wrdN constL initL padL stN outN routN hashL sumG blkL xbN raN macL orN
theorem rblock_w (ao : Option Addr) (n cb : Nat) (b : List UInt8) (w : World) (hb : b.length = n) (hcb : ao = none → cb = 0) (hr : RdB w [] ao b) (hGr : GLr w) (hGi : GLi w) (hn : n ≤ 17592186044416) : Calls Tryd.prog 147 #[.slice ao n cb] w (Post w [] (fun v L => ∃ g sp cap, v = Slc g 0 64 cap ∧ L = [⟨g, cu8 (blkL b) ++ sp, 5, (0, 0)⟩] ∧ sp.length = cap - 64 ∧ 64 ≤ cap ∧ cap ≤ maxLen)) := by
  by_cases h : n ≤ 64
  · exact rblockS_c ao n cb b w hb hcb hr hGr hGi h
  · exact rblockB_c ao n cb b w hb hcb hr hGr hGi (by omega) hn

theorem rmac_c (ao : Option Addr) (n cb : Nat) (key : List UInt8) (ax : Option Addr) (m ct : Nat) (t : List UInt8) (w : World) (hb : key.length = n) (hcb : ao = none → cb = 0) (hn : n ≤ 17592186044416) (hr : RdB w [] ao key) (ht : t.length = m) (hm : m ≤ 1000000000) (hrt : RdB w [] ax t) (hGr : GLr w) (hGi : GLi w) : Calls Tryd.prog 92 #[.slice ao n cb, .slice ax m ct] w (Post w [] (fun v L => v = .agg (cu8 (macL key t)).toArray ∧ L = [])) := by
  have hmx : maxLen = 9223372036854775807 := rfl
  refine enter w [] 40 [] [.slice ao n cb, .slice ax m ct] Tryd.func92 rfl rfl (by simp) (Hp.start (by simp) (by simp) (by simp)) ?_
  show JC _ _ _ [(0, .slice ao n cb), (1, .slice ax m ct)] _
  refine JC_seq ?_
  refine JC_region ?_
  refine JL_step (Step_alloc _ (cu8 (zr8 32)) Tryd.zeroValue54 (by kernel_rfl)) rfl ?_
  rintro v1 L1 ⟨nb1, hnb1, rfl, rfl⟩
  show JL _ _ _ _ ((4, Ptr nb1 0) :: _) [⟨nb1, cu8 (zr8 32), 54, (0, 0)⟩]
  refine JL_nil ?_
  refine JQ_then ?_
  refine JC_seq ?_
  refine JC_region ?_
  refine JL_val _ (Ev_move rfl) rfl ?_
  refine JL_step (Step_callN 147 [.slice ao n cb] _ (Cl_func [.slice ao n cb] Tryd.call147 rfl) (fun w1 hw1 => rblock_w ao n cb key w1 hb hcb (hr.at (M' := []) hw1 (by simp)) (GLr.at hw1 hGr) (GLi.at hw1 hGi) (by omega))) rfl ?_
  rintro v1 L1 ⟨_, ⟨nb2, sp1, cp1, rfl, rfl, hc1, hc2, hc3⟩, rfl⟩
  show JL _ _ _ _ ((11, Slc nb2 0 64 cp1) :: _) [⟨nb1, cu8 (zr8 32), 54, (0, 0)⟩, ⟨nb2, cu8 (blkL key) ++ sp1, 5, (0, 0)⟩]
  refine JL_val _ (Ev_assign rfl) rfl ?_
  refine JL_nil ?_
  refine JQ_then ?_
  refine JC_seq ?_
  refine JC_region ?_
  refine JL_val _ (Ev_assign rfl) rfl ?_
  refine JL_val _ (Ev_assign rfl) rfl ?_
  refine JL_nil ?_
  refine JQ_then ?_
  refine JC_seq ?_
  refine JC_seq ?_
  refine JC_region ?_
  refine JL_val _ (Ev_assign rfl) rfl ?_
  refine JL_nil ?_
  refine JQ_then ?_
  refine JC_block ?_
  refine JC_loop (ι := (Unit) ⊕ (Nat × List UInt8 × Nat × List Value × Nat × List UInt8 × Nat × List Value × Nat)) (fun x => match x with | .inl _ => [(1, .slice ax m ct), (4, Ptr nb1 0), (5, Slc nb2 0 64 cp1), (6, .slice none 0 0), (7, .slice none 0 0), (8, I64 (0:Int))] | .inr ⟨k, o6, g6, sp6, cp6, o7, g7, sp7, cp7⟩ => [(1, .slice ax m ct), (4, Ptr nb1 0), (5, Slc nb2 0 64 cp1), (6, Slc g6 0 k cp6), (7, Slc g7 0 k cp7), (8, I64 ((k:Int)))]) (fun x => match x with | .inl _ => [⟨nb1, cu8 (zr8 32), 54, (0, 0)⟩, ⟨nb2, cu8 (blkL key) ++ sp1, 5, (0, 0)⟩] | .inr ⟨k, o6, g6, sp6, cp6, o7, g7, sp7, cp7⟩ => [⟨nb1, cu8 (zr8 32), 54, (0, 0)⟩, ⟨nb2, cu8 (blkL key) ++ sp1, 5, (0, 0)⟩, ⟨g6, cu8 o6 ++ sp6, 5, (0, 0)⟩, ⟨g7, cu8 o7 ++ sp7, 5, (0, 0)⟩]) (fun x => match x with | .inl _ => True | .inr ⟨k, o6, g6, sp6, cp6, o7, g7, sp7, cp7⟩ => 1 ≤ k ∧ k ≤ 64 ∧ o6 = raN (blkL key) 54 k ∧ o6.length = k ∧ sp6.length = cp6 - k ∧ k ≤ cp6 ∧ cp6 ≤ maxLen ∧ o7 = raN (blkL key) 92 k ∧ o7.length = k ∧ sp7.length = cp7 - k ∧ k ≤ cp7 ∧ cp7 ≤ maxLen) (fun x => match x with | .inl _ => 65 | .inr ⟨k, o6, g6, sp6, cp6, o7, g7, sp7, cp7⟩ => 64 - k) (.inl ()) trivial (Sub.cons rfl (Sub.cons rfl (Sub.cons rfl (Sub.cons rfl (Sub.cons rfl (Sub.cons rfl (Sub.nil))))))) rfl ?_
  rintro (_ | ⟨k, o6, g6, sp6, cp6, o7, g7, sp7, cp7⟩) hx
  ·
    obtain _ := hx
    show JC _ _ _ [(1, .slice ax m ct), (4, Ptr nb1 0), (5, Slc nb2 0 64 cp1), (6, .slice none 0 0), (7, .slice none 0 0), (8, I64 (0:Int))] [⟨nb1, cu8 (zr8 32), 54, (0, 0)⟩, ⟨nb2, cu8 (blkL key) ++ sp1, 5, (0, 0)⟩]
    refine JC_seq ?_
    refine JC_seq ?_
    refine JC_region ?_
    refine JL_val _ (Ev_move rfl) rfl ?_
    refine JL_val (.bool (decide ((0:Int) < (64:Int)))) (Ev_bini rfl rfl fun _ => bin_lss_i _ _) rfl ?_
    refine JL_nil ?_
    refine JQ_then ?_
    refine JC_condT _ rfl (by decide) ?_
    refine JC_skip ?_
    refine JQ_then ?_
    refine JC_seq ?_
    refine JC_block ?_
    refine JC_seq ?_
    refine JC_region ?_
    refine JL_val _ (Ev_move rfl) rfl ?_
    refine JL_val _ (Ev_move rfl) rfl ?_
    refine JL_val _ (Ev_move rfl) rfl ?_
    refine JL_val (Ptr nb2 0) (Ev_indexSl 5 1 0 Tryd.underlying43 Tryd.sizeOf5 rfl rfl (by omega) (by omega) (by omega)) rfl ?_
    refine JL_val (U8 (g8 (blkL key) 0)) (Ev_load rfl (Ld_one Tryd.isAgg5 (MemAt.ent 1 rfl (Seg.left (Seg.get (g8_get (i := 0) (by rw [(blkL_len _)]; omega))))))) rfl ?_
    refine JL_val (U8 ((g8 (blkL key) 0) ^^^ (54:UInt8))) (Ev_bini rfl rfl fun _ => bin_xor_u8 (g8 (blkL key) 0) (54:UInt8)) rfl ?_
    refine JL_step (Step_buildSlice 5 1 _ [(0, U8 ((g8 (blkL key) 0) ^^^ (54:UInt8)))] (cu8 ([(g8 (blkL key) 0) ^^^ (54:UInt8)])) Tryd.underlying43 Tryd.sizeOf5 Tryd.zeroValue5 rfl rfl rfl (by kernel_rfl)) rfl ?_
    rintro v1 L1 ⟨nb3, hnb3, rfl, rfl⟩
    show JL _ _ _ _ ((22, Slc nb3 0 1 1) :: _) [⟨nb1, cu8 (zr8 32), 54, (0, 0)⟩, ⟨nb2, cu8 (blkL key) ++ sp1, 5, (0, 0)⟩, ⟨nb3, cu8 ([(g8 (blkL key) 0) ^^^ (54:UInt8)]), 5, (0, 0)⟩]
    refine JL_step (Step_appM8 43 5 [false, false, false] (.slice none 0 0) 0 ([] : List UInt8) ([(g8 (blkL key) 0) ^^^ (54:UInt8)]) (some ⟨nb3, 0, none⟩) 1 1 1 Tryd.underlying43 Tryd.info5 rfl (.inl ⟨rfl, rfl, rfl, rfl, by omega⟩) rfl (by simp) (SrcAt.mem (MemAt.ent 2 rfl (Seg.whole _))) (by omega) (by unfold maxLen; omega) (by omega)) rfl ?_
    rintro v1 L1 ⟨nb4, sp2, cp2, hg1, rfl, rfl, ha1, ha2, ha3, ha4⟩
    show JL _ _ _ _ ((23, Slc nb4 0 1 cp2) :: _) [⟨nb1, cu8 (zr8 32), 54, (0, 0)⟩, ⟨nb2, cu8 (blkL key) ++ sp1, 5, (0, 0)⟩, ⟨nb3, cu8 ([(g8 (blkL key) 0) ^^^ (54:UInt8)]), 5, (0, 0)⟩, ⟨nb4, cu8 (([] : List UInt8) ++ ([(g8 (blkL key) 0) ^^^ (54:UInt8)])) ++ sp2, 5, (0, 0)⟩]
    refine JL_val _ (Ev_assign rfl) rfl ?_
    refine JL_nil ?_
    refine JQ_then ?_
    refine JC_region ?_
    refine JL_val _ (Ev_move rfl) rfl ?_
    refine JL_val _ (Ev_move rfl) rfl ?_
    refine JL_val _ (Ev_move rfl) rfl ?_
    refine JL_val (Ptr nb2 0) (Ev_indexSl 5 1 0 Tryd.underlying43 Tryd.sizeOf5 rfl rfl (by omega) (by omega) (by omega)) rfl ?_
    refine JL_val (U8 (g8 (blkL key) 0)) (Ev_load rfl (Ld_one Tryd.isAgg5 (MemAt.ent 1 rfl (Seg.left (Seg.get (g8_get (i := 0) (by rw [(blkL_len _)]; omega))))))) rfl ?_
    refine JL_val (U8 ((g8 (blkL key) 0) ^^^ (92:UInt8))) (Ev_bini rfl rfl fun _ => bin_xor_u8 (g8 (blkL key) 0) (92:UInt8)) rfl ?_
    refine JL_step (Step_buildSlice 5 1 _ [(0, U8 ((g8 (blkL key) 0) ^^^ (92:UInt8)))] (cu8 ([(g8 (blkL key) 0) ^^^ (92:UInt8)])) Tryd.underlying43 Tryd.sizeOf5 Tryd.zeroValue5 rfl rfl rfl (by kernel_rfl)) rfl ?_
    rintro v1 L1 ⟨nb5, hnb5, rfl, rfl⟩
    show JL _ _ _ _ ((30, Slc nb5 0 1 1) :: _) [⟨nb1, cu8 (zr8 32), 54, (0, 0)⟩, ⟨nb2, cu8 (blkL key) ++ sp1, 5, (0, 0)⟩, ⟨nb3, cu8 ([(g8 (blkL key) 0) ^^^ (54:UInt8)]), 5, (0, 0)⟩, ⟨nb4, cu8 (([] : List UInt8) ++ ([(g8 (blkL key) 0) ^^^ (54:UInt8)])) ++ sp2, 5, (0, 0)⟩, ⟨nb5, cu8 ([(g8 (blkL key) 0) ^^^ (92:UInt8)]), 5, (0, 0)⟩]
    refine JL_step (Step_appM8 43 5 [false, false, false, false, false] (.slice none 0 0) 0 ([] : List UInt8) ([(g8 (blkL key) 0) ^^^ (92:UInt8)]) (some ⟨nb5, 0, none⟩) 1 1 1 Tryd.underlying43 Tryd.info5 rfl (.inl ⟨rfl, rfl, rfl, rfl, by omega⟩) rfl (by simp) (SrcAt.mem (MemAt.ent 4 rfl (Seg.whole _))) (by omega) (by unfold maxLen; omega) (by omega)) rfl ?_
    rintro v1 L1 ⟨nb6, sp3, cp3, hg2, rfl, rfl, ha5, ha6, ha7, ha8⟩
    show JL _ _ _ _ ((31, Slc nb6 0 1 cp3) :: _) [⟨nb1, cu8 (zr8 32), 54, (0, 0)⟩, ⟨nb2, cu8 (blkL key) ++ sp1, 5, (0, 0)⟩, ⟨nb3, cu8 ([(g8 (blkL key) 0) ^^^ (54:UInt8)]), 5, (0, 0)⟩, ⟨nb4, cu8 (([] : List UInt8) ++ ([(g8 (blkL key) 0) ^^^ (54:UInt8)])) ++ sp2, 5, (0, 0)⟩, ⟨nb5, cu8 ([(g8 (blkL key) 0) ^^^ (92:UInt8)]), 5, (0, 0)⟩, ⟨nb6, cu8 (([] : List UInt8) ++ ([(g8 (blkL key) 0) ^^^ (92:UInt8)])) ++ sp3, 5, (0, 0)⟩]
    refine JL_val _ (Ev_assign rfl) rfl ?_
    refine JL_nil ?_
    refine JQ_in_normal ?_
    refine JQ_then ?_
    refine JC_region ?_
    refine JL_val _ (Ev_move rfl) rfl ?_
    refine JL_val (I64 (1:Int)) (Ev_bini rfl rfl fun _ => bin_add_i _ _ (1:Int) (by omega) (by omega)) rfl ?_
    refine JL_val _ (Ev_assign rfl) rfl ?_
    refine JL_nil ?_
    refine JQ_thenK ?_
    refine K_mask [true, true, false, true, false, true] ?_
    show K _ _ [⟨nb1, cu8 (zr8 32), 54, (0, 0)⟩, ⟨nb2, cu8 (blkL key) ++ sp1, 5, (0, 0)⟩, ⟨nb4, cu8 (([] : List UInt8) ++ ([(g8 (blkL key) 0) ^^^ (54:UInt8)])) ++ sp2, 5, (0, 0)⟩, ⟨nb6, cu8 (([] : List UInt8) ++ ([(g8 (blkL key) 0) ^^^ (92:UInt8)])) ++ sp3, 5, (0, 0)⟩] _
    refine K_next (.inr (1, ([] : List UInt8) ++ ([(g8 (blkL key) 0) ^^^ (54:UInt8)]), nb4, sp2, cp2, ([] : List UInt8) ++ ([(g8 (blkL key) 0) ^^^ (92:UInt8)]), nb6, sp3, cp3)) ⟨by omega, by omega, by rw [raN, raN], (ha1).trans (by first | rfl | simp +arith), (ha2).trans (by first | rfl | simp +arith), by omega, ha4, by rw [raN, raN], (ha5).trans (by first | rfl | simp +arith), (ha6).trans (by first | rfl | simp +arith), by omega, ha8⟩ (by first | (simp; omega) | simp | (dsimp only; omega) | omega) (Sub.cons rfl (Sub.cons rfl (Sub.cons rfl (Sub.cons rfl (Sub.cons rfl (Sub.cons rfl (Sub.nil))))))) rfl
  ·
    obtain ⟨hx0, hx1, hx2, ho6, hs6, hy6, hz6, hx3, ho7, hs7, hy7, hz7⟩ := hx
    show JC _ _ _ [(1, .slice ax m ct), (4, Ptr nb1 0), (5, Slc nb2 0 64 cp1), (6, Slc g6 0 k cp6), (7, Slc g7 0 k cp7), (8, I64 ((k:Int)))] [⟨nb1, cu8 (zr8 32), 54, (0, 0)⟩, ⟨nb2, cu8 (blkL key) ++ sp1, 5, (0, 0)⟩, ⟨g6, cu8 o6 ++ sp6, 5, (0, 0)⟩, ⟨g7, cu8 o7 ++ sp7, 5, (0, 0)⟩]
    refine JC_seq ?_
    refine JC_seq ?_
    refine JC_region ?_
    refine JL_val _ (Ev_move rfl) rfl ?_
    refine JL_val (.bool (decide (((k:Int)) < (64:Int)))) (Ev_bini rfl rfl fun _ => bin_lss_i _ _) rfl ?_
    refine JL_nil ?_
    refine JQ_then ?_
    refine JC_cond (decide (((k:Int)) < (64:Int))) rfl (fun hb1 => ?_) (fun hb1 => ?_)
    ·
      have hp1 : ((k:Int)) < (64:Int) := of_decide_eq_true hb1
      refine JC_skip ?_
      refine JQ_then ?_
      refine JC_seq ?_
      refine JC_block ?_
      refine JC_seq ?_
      refine JC_region ?_
      refine JL_val _ (Ev_move rfl) rfl ?_
      refine JL_val _ (Ev_move rfl) rfl ?_
      refine JL_val _ (Ev_move rfl) rfl ?_
      refine JL_val (Ptr nb2 k) (Ev_indexSl 5 1 k Tryd.underlying43 Tryd.sizeOf5 rfl rfl (by omega) (by omega) (by omega)) rfl ?_
      refine JL_val (U8 (g8 (blkL key) k)) (Ev_load rfl (Ld_one Tryd.isAgg5 (MemAt.ent 1 rfl (Seg.left (Seg.get (g8_get (i := k) (by rw [(blkL_len _)]; omega))))))) rfl ?_
      refine JL_val (U8 ((g8 (blkL key) k) ^^^ (54:UInt8))) (Ev_bini rfl rfl fun _ => bin_xor_u8 (g8 (blkL key) k) (54:UInt8)) rfl ?_
      refine JL_step (Step_buildSlice 5 1 _ [(0, U8 ((g8 (blkL key) k) ^^^ (54:UInt8)))] (cu8 ([(g8 (blkL key) k) ^^^ (54:UInt8)])) Tryd.underlying43 Tryd.sizeOf5 Tryd.zeroValue5 rfl rfl rfl (by kernel_rfl)) rfl ?_
      rintro v1 L1 ⟨nb7, hnb7, rfl, rfl⟩
      show JL _ _ _ _ ((22, Slc nb7 0 1 1) :: _) [⟨nb1, cu8 (zr8 32), 54, (0, 0)⟩, ⟨nb2, cu8 (blkL key) ++ sp1, 5, (0, 0)⟩, ⟨g6, cu8 o6 ++ sp6, 5, (0, 0)⟩, ⟨g7, cu8 o7 ++ sp7, 5, (0, 0)⟩, ⟨nb7, cu8 ([(g8 (blkL key) k) ^^^ (54:UInt8)]), 5, (0, 0)⟩]
      refine JL_step (Step_appM8 43 5 [false, false, true, false, false] (Slc g6 0 k cp6) k o6 ([(g8 (blkL key) k) ^^^ (54:UInt8)]) (some ⟨nb7, 0, none⟩) 1 1 (k + 1) Tryd.underlying43 Tryd.info5 rfl (.inr ⟨g6, sp6, cp6, rfl, rfl, (by first | exact ho6 | simp [ho6]), hs6, (by omega), (by omega)⟩) rfl (by simp) (SrcAt.mem (MemAt.ent 4 rfl (Seg.whole _))) (by omega) (by unfold maxLen; omega) (by omega)) rfl ?_
      rintro v1 L1 ⟨nb8, sp4, cp4, hg3, rfl, rfl, ha9, ha10, ha11, ha12⟩
      show JL _ _ _ _ ((23, Slc nb8 0 (k + 1) cp4) :: _) [⟨nb1, cu8 (zr8 32), 54, (0, 0)⟩, ⟨nb2, cu8 (blkL key) ++ sp1, 5, (0, 0)⟩, ⟨g7, cu8 o7 ++ sp7, 5, (0, 0)⟩, ⟨nb7, cu8 ([(g8 (blkL key) k) ^^^ (54:UInt8)]), 5, (0, 0)⟩, ⟨nb8, cu8 (o6 ++ ([(g8 (blkL key) k) ^^^ (54:UInt8)])) ++ sp4, 5, (0, 0)⟩]
      refine JL_val _ (Ev_assign rfl) rfl ?_
      refine JL_nil ?_
      refine JQ_then ?_
      refine JC_region ?_
      refine JL_val _ (Ev_move rfl) rfl ?_
      refine JL_val _ (Ev_move rfl) rfl ?_
      refine JL_val _ (Ev_move rfl) rfl ?_
      refine JL_val (Ptr nb2 k) (Ev_indexSl 5 1 k Tryd.underlying43 Tryd.sizeOf5 rfl rfl (by omega) (by omega) (by omega)) rfl ?_
      refine JL_val (U8 (g8 (blkL key) k)) (Ev_load rfl (Ld_one Tryd.isAgg5 (MemAt.ent 1 rfl (Seg.left (Seg.get (g8_get (i := k) (by rw [(blkL_len _)]; omega))))))) rfl ?_
      refine JL_val (U8 ((g8 (blkL key) k) ^^^ (92:UInt8))) (Ev_bini rfl rfl fun _ => bin_xor_u8 (g8 (blkL key) k) (92:UInt8)) rfl ?_
      refine JL_step (Step_buildSlice 5 1 _ [(0, U8 ((g8 (blkL key) k) ^^^ (92:UInt8)))] (cu8 ([(g8 (blkL key) k) ^^^ (92:UInt8)])) Tryd.underlying43 Tryd.sizeOf5 Tryd.zeroValue5 rfl rfl rfl (by kernel_rfl)) rfl ?_
      rintro v1 L1 ⟨nb9, hnb9, rfl, rfl⟩
      show JL _ _ _ _ ((30, Slc nb9 0 1 1) :: _) [⟨nb1, cu8 (zr8 32), 54, (0, 0)⟩, ⟨nb2, cu8 (blkL key) ++ sp1, 5, (0, 0)⟩, ⟨g7, cu8 o7 ++ sp7, 5, (0, 0)⟩, ⟨nb7, cu8 ([(g8 (blkL key) k) ^^^ (54:UInt8)]), 5, (0, 0)⟩, ⟨nb8, cu8 (o6 ++ ([(g8 (blkL key) k) ^^^ (54:UInt8)])) ++ sp4, 5, (0, 0)⟩, ⟨nb9, cu8 ([(g8 (blkL key) k) ^^^ (92:UInt8)]), 5, (0, 0)⟩]
      refine JL_step (Step_appM8 43 5 [false, false, true, false, false, false] (Slc g7 0 k cp7) k o7 ([(g8 (blkL key) k) ^^^ (92:UInt8)]) (some ⟨nb9, 0, none⟩) 1 1 (k + 1) Tryd.underlying43 Tryd.info5 rfl (.inr ⟨g7, sp7, cp7, rfl, rfl, (by first | exact ho7 | simp [ho7]), hs7, (by omega), (by omega)⟩) rfl (by simp) (SrcAt.mem (MemAt.ent 5 rfl (Seg.whole _))) (by omega) (by unfold maxLen; omega) (by omega)) rfl ?_
      rintro v1 L1 ⟨nb10, sp5, cp5, hg4, rfl, rfl, ha13, ha14, ha15, ha16⟩
      show JL _ _ _ _ ((31, Slc nb10 0 (k + 1) cp5) :: _) [⟨nb1, cu8 (zr8 32), 54, (0, 0)⟩, ⟨nb2, cu8 (blkL key) ++ sp1, 5, (0, 0)⟩, ⟨nb7, cu8 ([(g8 (blkL key) k) ^^^ (54:UInt8)]), 5, (0, 0)⟩, ⟨nb8, cu8 (o6 ++ ([(g8 (blkL key) k) ^^^ (54:UInt8)])) ++ sp4, 5, (0, 0)⟩, ⟨nb9, cu8 ([(g8 (blkL key) k) ^^^ (92:UInt8)]), 5, (0, 0)⟩, ⟨nb10, cu8 (o7 ++ ([(g8 (blkL key) k) ^^^ (92:UInt8)])) ++ sp5, 5, (0, 0)⟩]
      refine JL_val _ (Ev_assign rfl) rfl ?_
      refine JL_nil ?_
      refine JQ_in_normal ?_
      refine JQ_then ?_
      refine JC_region ?_
      refine JL_val _ (Ev_move rfl) rfl ?_
      refine JL_val (I64 ((k:Int) + 1)) (Ev_bini rfl rfl fun _ => bin_add_i _ _ ((k:Int) + 1) (by omega) (by omega)) rfl ?_
      refine JL_val _ (Ev_assign rfl) rfl ?_
      refine JL_nil ?_
      refine JQ_thenK ?_
      refine K_mask [true, true, false, true, false, true] ?_
      show K _ _ [⟨nb1, cu8 (zr8 32), 54, (0, 0)⟩, ⟨nb2, cu8 (blkL key) ++ sp1, 5, (0, 0)⟩, ⟨nb8, cu8 (o6 ++ ([(g8 (blkL key) k) ^^^ (54:UInt8)])) ++ sp4, 5, (0, 0)⟩, ⟨nb10, cu8 (o7 ++ ([(g8 (blkL key) k) ^^^ (92:UInt8)])) ++ sp5, 5, (0, 0)⟩] _
      refine K_next (.inr (k + 1, o6 ++ ([(g8 (blkL key) k) ^^^ (54:UInt8)]), nb8, sp4, cp4, o7 ++ ([(g8 (blkL key) k) ^^^ (92:UInt8)]), nb10, sp5, cp5)) ⟨by omega, by omega, by rw [raN, ← hx2], (ha9).trans (by first | rfl | simp +arith), (ha10).trans (by first | rfl | simp +arith), by omega, ha12, by rw [raN, ← hx3], (ha13).trans (by first | rfl | simp +arith), (ha14).trans (by first | rfl | simp +arith), by omega, ha16⟩ (by first | (simp; omega) | simp | (dsimp only; omega) | omega) (Sub.cons rfl (Sub.cons rfl (Sub.cons rfl (Sub.cons rfl (Sub.cons rfl (Sub.cons rfl (Sub.nil))))))) rfl
    ·
      have hp1 : ¬ (((k:Int)) < (64:Int)) := of_decide_eq_false hb1
      refine JC_exit ?_
      refine JQ_then_exit ?_
      refine JQ_then_exit ?_
      refine JQ_in_same ?_
      refine JQ_then ?_
      refine JC_seq ?_
      refine JC_region ?_
      refine JL_val _ (Ev_move rfl) rfl ?_
      refine JL_val _ (Ev_move rfl) rfl ?_
      refine JL_step (Step_appM8 43 5 [false, false, true, false] (Slc g6 0 k cp6) k o6 t ax m ct (k + m) Tryd.underlying43 Tryd.info5 rfl (.inr ⟨g6, sp6, cp6, rfl, rfl, (by first | exact ho6 | simp [ho6]), hs6, (by omega), (by omega)⟩) rfl (by simp [ht]; try omega) (hrt.src) (by omega) (by unfold maxLen; omega) (by omega)) rfl ?_
      rintro v1 L1 ⟨nb11, sp6, cp6, hg5, rfl, rfl, ha17, ha18, ha19, ha20⟩
      show JL _ _ _ _ ((34, Slc nb11 0 (k + m) cp6) :: _) [⟨nb1, cu8 (zr8 32), 54, (0, 0)⟩, ⟨nb2, cu8 (blkL key) ++ sp1, 5, (0, 0)⟩, ⟨g7, cu8 o7 ++ sp7, 5, (0, 0)⟩, ⟨nb11, cu8 (o6 ++ t) ++ sp6, 5, (0, 0)⟩]
      refine JL_step (Step_callP 148 [Slc nb11 0 (k + m) cp6] (.agg (cu8 (sumG constL initL (o6 ++ t))).toArray) (Cl_func [Slc nb11 0 (k + m) cp6] Tryd.call148 rfl) (fun w1 hw1 => rsum_c (some ⟨nb11, 0, none⟩) (k + m) cp6 (o6 ++ t) w1 ha17 (by omega) (RdB.of hw1 (MemAt.ent 3 rfl (Seg.left (Seg.whole _))) (by simp)) (GLr.at hw1 hGr) (GLi.at hw1 hGi))) rfl ?_
      rintro v1 L1 ⟨rfl, rfl⟩
      show JL _ _ _ _ ((35, .agg (cu8 (sumG constL initL (o6 ++ t))).toArray) :: _) [⟨nb1, cu8 (zr8 32), 54, (0, 0)⟩, ⟨nb2, cu8 (blkL key) ++ sp1, 5, (0, 0)⟩, ⟨g7, cu8 o7 ++ sp7, 5, (0, 0)⟩, ⟨nb11, cu8 (o6 ++ t) ++ sp6, 5, (0, 0)⟩]
      refine JL_step (Step_alloc _ (cu8 (zr8 32)) Tryd.zeroValue54 (by kernel_rfl)) rfl ?_
      rintro v1 L1 ⟨nb12, hnb12, rfl, rfl⟩
      show JL _ _ _ _ ((9, Ptr nb12 0) :: _) [⟨nb1, cu8 (zr8 32), 54, (0, 0)⟩, ⟨nb2, cu8 (blkL key) ++ sp1, 5, (0, 0)⟩, ⟨g7, cu8 o7 ++ sp7, 5, (0, 0)⟩, ⟨nb11, cu8 (o6 ++ t) ++ sp6, 5, (0, 0)⟩, ⟨nb12, cu8 (zr8 32), 54, (0, 0)⟩]
      refine JL_step (Step_store 4 nb12 0 32 (cu8 (zr8 32)) 54 (.agg (cu8 (sumG constL initL (o6 ++ t))).toArray) (cu8 (sumG constL initL (o6 ++ t))) (cu8 (sumG constL initL (o6 ++ t))) rfl rfl rfl (by first | rfl | simp) Tryd.sizeOf54 (len_cu8 (sumG_len _ _ _)) (by first | exact one_u8 | exact one_u32 | exact one_u64 | (simp [cu8, cu32, cu64, Value.oneCell']; done)) (by simp [(zr8_len 32)]) (lay_whole (by simp [(zr8_len 32), (sumG_len _ _ _)]))) rfl ?_
      rintro v1 L1 ⟨rfl, rfl⟩
      show JL _ _ _ _ _ [⟨nb1, cu8 (zr8 32), 54, (0, 0)⟩, ⟨nb2, cu8 (blkL key) ++ sp1, 5, (0, 0)⟩, ⟨g7, cu8 o7 ++ sp7, 5, (0, 0)⟩, ⟨nb11, cu8 (o6 ++ t) ++ sp6, 5, (0, 0)⟩, ⟨nb12, cu8 (sumG constL initL (o6 ++ t)), 54, (0, 0)⟩]
      refine JL_nil ?_
      refine JQ_then ?_
      refine JC_seq ?_
      refine JC_region ?_
      refine JL_val _ (Ev_move rfl) rfl ?_
      refine JL_val (Slc nb12 0 32 32) (Ev_sliceA 32 5 1 0 32 0 32 Tryd.underlying54 Tryd.sizeOf5 rfl rfl rfl (by omega) (by omega) (by omega) (by omega) (by omega) 32 (by omega)) rfl ?_
      refine JL_step (Step_appM8 43 5 [false, false, true, false, false] (Slc g7 0 k cp7) k o7 (sumG constL initL (o6 ++ t)) (some ⟨nb12, 0, none⟩) 32 32 (k + 32) Tryd.underlying43 Tryd.info5 rfl (.inr ⟨g7, sp7, cp7, rfl, rfl, (by first | exact ho7 | simp [ho7]), hs7, (by omega), (by omega)⟩) rfl (by simp [(sumG_len _ _ _)]; try omega) (SrcAt.mem (MemAt.ent 4 rfl (Seg.whole _))) (by omega) (by unfold maxLen; omega) (by omega)) rfl ?_
      rintro v1 L1 ⟨nb13, sp7, cp7, hg6, rfl, rfl, ha21, ha22, ha23, ha24⟩
      show JL _ _ _ _ ((38, Slc nb13 0 (k + 32) cp7) :: _) [⟨nb1, cu8 (zr8 32), 54, (0, 0)⟩, ⟨nb2, cu8 (blkL key) ++ sp1, 5, (0, 0)⟩, ⟨nb11, cu8 (o6 ++ t) ++ sp6, 5, (0, 0)⟩, ⟨nb12, cu8 (sumG constL initL (o6 ++ t)), 54, (0, 0)⟩, ⟨nb13, cu8 (o7 ++ (sumG constL initL (o6 ++ t))) ++ sp7, 5, (0, 0)⟩]
      refine JL_step (Step_callP 148 [Slc nb13 0 (k + 32) cp7] (.agg (cu8 (sumG constL initL (o7 ++ (sumG constL initL (o6 ++ t))))).toArray) (Cl_func [Slc nb13 0 (k + 32) cp7] Tryd.call148 rfl) (fun w1 hw1 => rsum_c (some ⟨nb13, 0, none⟩) (k + 32) cp7 (o7 ++ (sumG constL initL (o6 ++ t))) w1 ha21 (by omega) (RdB.of hw1 (MemAt.ent 4 rfl (Seg.left (Seg.whole _))) (by simp)) (GLr.at hw1 hGr) (GLi.at hw1 hGi))) rfl ?_
      rintro v1 L1 ⟨rfl, rfl⟩
      show JL _ _ _ _ ((39, .agg (cu8 (sumG constL initL (o7 ++ (sumG constL initL (o6 ++ t))))).toArray) :: _) [⟨nb1, cu8 (zr8 32), 54, (0, 0)⟩, ⟨nb2, cu8 (blkL key) ++ sp1, 5, (0, 0)⟩, ⟨nb11, cu8 (o6 ++ t) ++ sp6, 5, (0, 0)⟩, ⟨nb12, cu8 (sumG constL initL (o6 ++ t)), 54, (0, 0)⟩, ⟨nb13, cu8 (o7 ++ (sumG constL initL (o6 ++ t))) ++ sp7, 5, (0, 0)⟩]
      refine JL_step (Step_store 0 nb1 0 32 (cu8 (zr8 32)) 54 (.agg (cu8 (sumG constL initL (o7 ++ (sumG constL initL (o6 ++ t))))).toArray) (cu8 (sumG constL initL (o7 ++ (sumG constL initL (o6 ++ t))))) (cu8 (sumG constL initL (o7 ++ (sumG constL initL (o6 ++ t))))) rfl rfl rfl (by first | rfl | simp) Tryd.sizeOf54 (len_cu8 (sumG_len _ _ _)) (by first | exact one_u8 | exact one_u32 | exact one_u64 | (simp [cu8, cu32, cu64, Value.oneCell']; done)) (by simp [(zr8_len 32)]) (lay_whole (by simp [(zr8_len 32), (sumG_len _ _ _)]))) rfl ?_
      rintro v1 L1 ⟨rfl, rfl⟩
      show JL _ _ _ _ _ [⟨nb1, cu8 (sumG constL initL (o7 ++ (sumG constL initL (o6 ++ t)))), 54, (0, 0)⟩, ⟨nb2, cu8 (blkL key) ++ sp1, 5, (0, 0)⟩, ⟨nb11, cu8 (o6 ++ t) ++ sp6, 5, (0, 0)⟩, ⟨nb12, cu8 (sumG constL initL (o6 ++ t)), 54, (0, 0)⟩, ⟨nb13, cu8 (o7 ++ (sumG constL initL (o6 ++ t))) ++ sp7, 5, (0, 0)⟩]
      refine JL_nil ?_
      refine JQ_then ?_
      refine JC_ret ?_
      refine JQ_ret (.agg (cu8 (sumG constL initL (o7 ++ (sumG constL initL (o6 ++ t))))).toArray) (res1 Tryd.results92 (RV_cell rfl (Ld_agg Tryd.isAgg54 Tryd.sizeOf54 (len_cu8 (sumG_len _ _ _)) (MemAt.ent 0 rfl (Seg.whole _))))) fun w1 hw1 => ?_
      have e1 : k = 64 := by omega
      subst e1
      refine ⟨_, [], rfl, ⟨?_, rfl⟩, hw1.sub (by simp) (by simp)⟩
      rw [macL, hx2, hx3, raN_xbN _ (blkL_len _), raN_xbN _ (blkL_len _)]

theorem same_c (a1 a2 : Option Addr) (n1 n2 c1 c2 : Nat) (x y : List UInt8) (w : World) (hx : x.length = n1) (hy : y.length = n2) (h1 : RdB w [] a1 x) (h2 : RdB w [] a2 y) (hi1 : n1 ≤ 9223372036854775807) (hi2 : n2 ≤ 9223372036854775807) : Calls Tryd.prog 151 #[.slice a1 n1 c1, .slice a2 n2 c2] w (Post w [] (fun v L => v = .bool (decide (x = y)) ∧ L = [])) := by
  refine enter w [] 31 [] [.slice a1 n1 c1, .slice a2 n2 c2] Tryd.func151 rfl rfl (by simp) (Hp.start (by simp) (by simp) (by simp)) ?_
  show JC _ _ _ [(0, .slice a1 n1 c1), (1, .slice a2 n2 c2)] _
  refine JC_seq ?_
  refine JC_region ?_
  refine JL_val _ (Ev_assign rfl) rfl ?_
  refine JL_nil ?_
  refine JQ_then ?_
  refine JC_seq ?_
  refine JC_seq ?_
  refine JC_region ?_
  refine JL_val _ (Ev_move rfl) rfl ?_
  refine JL_val (I64 ((n1:Int))) (Ev_len Tryd.underlying43 rfl) rfl ?_
  refine JL_val _ (Ev_move rfl) rfl ?_
  refine JL_val (I64 ((n2:Int))) (Ev_len Tryd.underlying43 rfl) rfl ?_
  refine JL_val (.bool (decide (((n1:Int)) ≠ ((n2:Int))))) (Ev_bini rfl rfl fun _ => bin_neq_i _ _) rfl ?_
  refine JL_nil ?_
  refine JQ_then ?_
  refine JC_cond (decide (((n1:Int)) ≠ ((n2:Int)))) rfl (fun hb1 => ?_) (fun hb1 => ?_)
  ·
    have hp1 : ((n1:Int)) ≠ ((n2:Int)) := of_decide_eq_true hb1
    refine JC_seq ?_
    refine JC_region ?_
    refine JL_val _ (Ev_assign rfl) rfl ?_
    refine JL_nil ?_
    refine JQ_then ?_
    refine JC_ret ?_
    refine JQ_then_ret ?_
    refine JQ_ret (.bool false) (res1 Tryd.results151 (RV_tmp rfl)) fun w1 hw1 => ?_
    refine ⟨_, [], rfl, ⟨?_, rfl⟩, hw1.sub (by simp) (by simp)⟩
    have hne : x ≠ y := fun h => by subst h; omega
    rw [decide_eq_false hne]
  ·
    have hp1 : ¬ (((n1:Int)) ≠ ((n2:Int))) := of_decide_eq_false hb1
    refine JC_skip ?_
    refine JQ_then ?_
    refine JC_seq ?_
    refine JC_region ?_
    refine JL_val _ (Ev_assign rfl) rfl ?_
    refine JL_nil ?_
    refine JQ_then ?_
    refine JC_seq ?_
    refine JC_seq ?_
    refine JC_region ?_
    refine JL_val _ (Ev_move rfl) rfl ?_
    refine JL_val (I64 ((n1:Int))) (Ev_len Tryd.underlying43 rfl) rfl ?_
    refine JL_val _ (Ev_move rfl) rfl ?_
    refine JL_nil ?_
    refine JQ_then ?_
    refine JC_block ?_
    refine JC_loop (ι := Nat × UInt8) (fun ⟨i, a⟩ => [(0, .slice a1 n1 c1), (1, .slice a2 n2 c2), (4, .bool false), (13, I64 ((n1:Int))), (14, I64 ((i:Int))), (5, U8 a)]) (fun ⟨i, a⟩ => []) (fun ⟨i, a⟩ => i ≤ n1 ∧ a = orN x y i) (fun ⟨i, a⟩ => n1 - i) (0, 0) ⟨by omega, by rw [orN]⟩ (Sub.cons rfl (Sub.cons rfl (Sub.cons rfl (Sub.cons rfl (Sub.cons rfl (Sub.cons rfl (Sub.nil))))))) rfl ?_
    rintro ⟨i, a⟩ ⟨hx1, hx2⟩
    show JC _ _ _ [(0, .slice a1 n1 c1), (1, .slice a2 n2 c2), (4, .bool false), (13, I64 ((n1:Int))), (14, I64 ((i:Int))), (5, U8 a)] []
    refine JC_seq ?_
    refine JC_region ?_
    refine JL_val (.bool (decide (((i:Int)) < ((n1:Int))))) (Ev_bini rfl rfl fun _ => bin_lss_i _ _) rfl ?_
    refine JL_nil ?_
    refine JQ_then ?_
    refine JC_seq ?_
    refine JC_cond (decide (((i:Int)) < ((n1:Int)))) rfl (fun hb2 => ?_) (fun hb2 => ?_)
    ·
      have hp2 : ((i:Int)) < ((n1:Int)) := of_decide_eq_true hb2
      refine JC_skip ?_
      refine JQ_then ?_
      refine JC_seq ?_
      refine JC_block ?_
      refine JC_seq ?_
      refine JC_region ?_
      refine JL_val _ (Ev_move rfl) rfl ?_
      refine JL_val _ (Ev_assign rfl) rfl ?_
      refine JL_nil ?_
      refine JQ_then ?_
      obtain ⟨bz1, oz1, hz1, hm1⟩ := h1.pos (by rw [hx]; omega)
      obtain ⟨bz2, oz2, hz2, hm2⟩ := h2.pos (by rw [hy]; omega)
      refine JC_draw 31 1 [(0, U8 a), (1, .slice a1 n1 c1), (2, I64 ((i:Int))), (3, Ptr bz1 (i + oz1)), (4, U8 (g8 x i)), (5, .slice a2 n2 c2), (6, I64 ((i:Int))), (7, Ptr bz2 (i + oz2)), (8, U8 (g8 y i)), (9, U8 ((g8 x i) ^^^ (g8 y i))), (10, U8 (a ||| ((g8 x i) ^^^ (g8 y i)))), (11, U8 (a ||| ((g8 x i) ^^^ (g8 y i))))] Tryd.mixed rfl (by decide +kernel) ?_
      refine DP_end ⟨[], [0, 1, 2, 3, 4, 5, 6, 7, 8, 9, 10, 11], [], [0, 1, 2, 3, 4, 5, 6, 7, 8, 9, 10, 11], []⟩ rfl rfl (by decide +kernel) rfl ⟨⟨_, rfl, Qok_val rfl (Ev_move rfl)⟩, ⟨_, rfl, Qok_val rfl (Ev_move rfl)⟩, ⟨_, rfl, Qok_val rfl (Ev_move rfl)⟩, ⟨_, rfl, Qok_val rfl (Ev_indexSlG 5 1 (i + oz1) Tryd.underlying43 Tryd.sizeOf5 rfl hz1 rfl (by omega) (by omega) (by omega))⟩, ⟨_, rfl, Qok_val rfl (Ev_load rfl (Ld_one Tryd.isAgg5 (MemAt.seg (MemAt.base hm1.1 hm1.2.1 hm1.2.2) (Seg.get (g8_get (i := i) (by rw [hx]; omega))) (by omega))))⟩, ⟨_, rfl, Qok_val rfl (Ev_move rfl)⟩, ⟨_, rfl, Qok_val rfl (Ev_move rfl)⟩, ⟨_, rfl, Qok_val rfl (Ev_indexSlG 5 1 (i + oz2) Tryd.underlying43 Tryd.sizeOf5 rfl hz2 rfl (by omega) (by omega) (by omega))⟩, ⟨_, rfl, Qok_val rfl (Ev_load rfl (Ld_one Tryd.isAgg5 (MemAt.seg (MemAt.base hm2.1 hm2.2.1 hm2.2.2) (Seg.get (g8_get (i := i) (by rw [hy]; omega))) (by omega))))⟩, ⟨_, rfl, Qok_val rfl (Ev_bini rfl rfl fun _ => bin_xor_u8 (g8 x i) (g8 y i))⟩, ⟨_, rfl, Qok_val rfl (Ev_bini rfl rfl fun _ => bin_or_u8 a ((g8 x i) ^^^ (g8 y i)))⟩, ⟨_, rfl, Qok_val rfl (Ev_assign rfl)⟩, trivial⟩ ?_
      refine K_sub (F' := [(17, U8 a), (18, .slice a1 n1 c1), (19, I64 ((i:Int))), (20, Ptr bz1 (i + oz1)), (21, U8 (g8 x i)), (22, .slice a2 n2 c2), (23, I64 ((i:Int))), (24, Ptr bz2 (i + oz2)), (25, U8 (g8 y i)), (26, U8 ((g8 x i) ^^^ (g8 y i))), (27, U8 (a ||| ((g8 x i) ^^^ (g8 y i)))), (5, U8 (a ||| ((g8 x i) ^^^ (g8 y i)))), (0, .slice a1 n1 c1), (1, .slice a2 n2 c2), (4, .bool false), (13, I64 ((n1:Int))), (14, I64 ((i:Int))), (15, .bool (decide (((i:Int)) < ((n1:Int))))), (16, I64 ((i:Int))), (6, I64 ((i:Int)))]) (Sub.cons (by kernel_rfl) (Sub.cons (by kernel_rfl) (Sub.cons (by kernel_rfl) (Sub.cons (by kernel_rfl) (Sub.cons (by kernel_rfl) (Sub.cons (by kernel_rfl) (Sub.cons (by kernel_rfl) (Sub.cons (by kernel_rfl) (Sub.cons (by kernel_rfl) (Sub.cons (by kernel_rfl) (Sub.cons (by kernel_rfl) (Sub.cons (by kernel_rfl) (Sub.cons (by kernel_rfl) (Sub.cons (by kernel_rfl) (Sub.cons (by kernel_rfl) (Sub.cons (by kernel_rfl) (Sub.cons (by kernel_rfl) (Sub.cons (by kernel_rfl) (Sub.cons (by kernel_rfl) (Sub.cons (by kernel_rfl) (Sub.nil))))))))))))))))))))) ?_
      show JQ _ _ _ [(17, U8 a), (18, .slice a1 n1 c1), (19, I64 ((i:Int))), (20, Ptr bz1 (i + oz1)), (21, U8 (g8 x i)), (22, .slice a2 n2 c2), (23, I64 ((i:Int))), (24, Ptr bz2 (i + oz2)), (25, U8 (g8 y i)), (26, U8 ((g8 x i) ^^^ (g8 y i))), (27, U8 (a ||| ((g8 x i) ^^^ (g8 y i)))), (5, U8 (a ||| ((g8 x i) ^^^ (g8 y i)))), (0, .slice a1 n1 c1), (1, .slice a2 n2 c2), (4, .bool false), (13, I64 ((n1:Int))), (14, I64 ((i:Int))), (15, .bool (decide (((i:Int)) < ((n1:Int))))), (16, I64 ((i:Int))), (6, I64 ((i:Int)))] _
      refine JQ_in_normal ?_
      refine JQ_then ?_
      refine JC_region ?_
      refine JL_val (I64 ((i:Int) + 1)) (Ev_bini rfl rfl fun _ => bin_add_i _ _ ((i:Int) + 1) (by omega) (by omega)) rfl ?_
      refine JL_val _ (Ev_move rfl) rfl ?_
      refine JL_nil ?_
      refine JQ_thenK ?_
      refine K_next (i + 1, a ||| ((g8 x i) ^^^ (g8 y i))) ⟨by omega, by rw [orN, ← hx2]⟩ (by first | (simp; omega) | simp | (dsimp only; omega) | omega) (Sub.cons rfl (Sub.cons rfl (Sub.cons rfl (Sub.cons rfl (Sub.cons rfl (Sub.cons rfl (Sub.nil))))))) rfl
    ·
      have hp2 : ¬ (((i:Int)) < ((n1:Int))) := of_decide_eq_false hb2
      refine JC_exit ?_
      refine JQ_then_exit ?_
      refine JQ_then_exit ?_
      refine JQ_in_same ?_
      refine JQ_then ?_
      refine JC_seq ?_
      refine JC_region ?_
      refine JL_val _ (Ev_move rfl) rfl ?_
      refine JL_val (.bool (decide (a = (0:UInt8)))) (Ev_bini rfl rfl fun _ => bin_eql_u8 a (0:UInt8)) rfl ?_
      refine JL_val _ (Ev_assign rfl) rfl ?_
      refine JL_nil ?_
      refine JQ_then ?_
      refine JC_ret ?_
      refine JQ_ret (.bool (decide (a = (0:UInt8)))) (res1 Tryd.results151 (RV_tmp rfl)) fun w1 hw1 => ?_
      refine ⟨_, [], rfl, ⟨?_, rfl⟩, hw1.sub (by simp) (by simp)⟩
      have e1 : i = n1 := by omega
      rw [hx2, e1, orN_same hx (by omega)]

end Go.Proofs.YtkdpdgpphpngeaaDoor
namespace Go.Proofs.YtkdpdgpphpngeaaDoor
open Go Go.Sx
set_option linter.unusedVariables false
set_option linter.unusedSimpArgs false
set_option maxRecDepth 100000
attribute [local irreducible] mid zr8 zr32 rotr wordL spreadL comprL cpN adN spN wrdN constL initL padL stN outN routN hashL sumG blkL xbN raN macL orN
theorem check_c (am : Option Addr) (m cm : Nat) (mm : List UInt8) (ao : Option Addr) (n cb : Nat) (key : List UInt8) (b c : Nat) (vs : List Value) (ls : List (List UInt8)) (w : World) (hm : mm.length = m) (hmi : m ≤ 9223372036854775807) (hrm : RdB w [] am mm) (hb : key.length = n) (hcb : ao = none → cb = 0) (hn : n ≤ 17592186044416) (hr : RdB w [] ao key) (hk : 1 ≤ ls.length) (hc : ls.length ≤ c) (hk2 : ls.length ≤ 1000) (hp : Parts w b vs ls) (hs : ls.flatten.length ≤ 100000000) (hG : GLs w) : Calls Tryd.prog 107 #[.slice am m cm, .slice ao n cb, .slice (some ⟨b, 0, none⟩) ls.length c] w (Post w [] (fun v L => v = .bool (decide (mm = macL key ls.flatten) || decide (mm = mid (macL key ls.flatten) 0 16)) ∧ L = [])) := by
  refine enter w [] 23 [] [.slice am m cm, .slice ao n cb, .slice (some ⟨b, 0, none⟩) ls.length c] Tryd.func107 rfl rfl (by simp) (Hp.start (by simp) (by simp) (by simp)) ?_
  show JC _ _ _ [(0, .slice am m cm), (1, .slice ao n cb), (2, .slice (some ⟨b, 0, none⟩) ls.length c)] _
  refine JC_seq ?_
  refine JC_region ?_
  refine JL_val _ (Ev_assign rfl) rfl ?_
  refine JL_nil ?_
  refine JQ_then ?_
  refine JC_seq ?_
  refine JC_region ?_
  refine JL_val _ (Ev_move rfl) rfl ?_
  refine JL_val _ (Ev_move rfl) rfl ?_
  refine JL_step (Step_callP 145 [.slice ao n cb, .slice (some ⟨b, 0, none⟩) ls.length c] (.agg (cu8 (macL key ls.flatten)).toArray) (Cl_func [.slice ao n cb, .slice (some ⟨b, 0, none⟩) ls.length c] Tryd.call145 rfl) (fun w1 hw1 => mac_c ao n cb key b c vs ls w1 hb hcb (by omega) (hr.at (M' := []) hw1 (by simp)) hk hc hk2 (hp.at hw1 rfl (by omega)) hs (hG.at hw1))) rfl ?_
  rintro v1 L1 ⟨rfl, rfl⟩
  show JL _ _ _ _ ((10, .agg (cu8 (macL key ls.flatten)).toArray) :: _) []
  refine JL_step (Step_alloc _ (cu8 (zr8 32)) Tryd.zeroValue54 (by kernel_rfl)) rfl ?_
  rintro v1 L1 ⟨nb1, hnb1, rfl, rfl⟩
  show JL _ _ _ _ ((7, Ptr nb1 0) :: _) [⟨nb1, cu8 (zr8 32), 54, (0, 0)⟩]
  refine JL_step (Step_store 0 nb1 0 32 (cu8 (zr8 32)) 54 (.agg (cu8 (macL key ls.flatten)).toArray) (cu8 (macL key ls.flatten)) (cu8 (macL key ls.flatten)) rfl rfl rfl (by first | rfl | simp) Tryd.sizeOf54 (len_cu8 (macL_len _ _)) (by first | exact one_u8 | exact one_u32 | exact one_u64 | (simp [cu8, cu32, cu64, Value.oneCell']; done)) (by simp [(zr8_len 32)]) (lay_whole (by simp [(zr8_len 32), (macL_len _ _)]))) rfl ?_
  rintro v1 L1 ⟨rfl, rfl⟩
  show JL _ _ _ _ _ [⟨nb1, cu8 (macL key ls.flatten), 54, (0, 0)⟩]
  refine JL_nil ?_
  refine JQ_then ?_
  refine JC_seq ?_
  refine JC_seq ?_
  refine JC_region ?_
  refine JL_val _ (Ev_move rfl) rfl ?_
  refine JL_val (I64 ((m:Int))) (Ev_len Tryd.underlying43 rfl) rfl ?_
  refine JL_nil ?_
  refine JQ_then ?_
  refine JC_block ?_
  refine JC_seq ?_
  refine JC_region ?_
  refine JL_val (.bool (decide (((m:Int)) = (16:Int)))) (Ev_bini rfl rfl fun _ => bin_eql_i _ _) rfl ?_
  refine JL_val _ (Ev_assign rfl) rfl ?_
  refine JL_nil ?_
  refine JQ_then ?_
  refine JC_cond (decide (((m:Int)) = (16:Int))) rfl (fun hb1 => ?_) (fun hb1 => ?_)
  ·
    have hp1 : ((m:Int)) = (16:Int) := of_decide_eq_true hb1
    refine JC_seq ?_
    refine JC_region ?_
    refine JL_val _ (Ev_move rfl) rfl ?_
    refine JL_val (Slc nb1 0 16 32) (Ev_sliceA 32 5 1 0 16 0 32 Tryd.underlying54 Tryd.sizeOf5 rfl rfl rfl (by omega) (by omega) (by omega) (by omega) (by omega) 16 (by omega)) rfl ?_
    have hl1 : (mid (macL key ls.flatten) 0 16).length = 16 := mid_len (by rw [(macL_len _ _)]; omega)
    refine JL_step (Step_callP 151 [.slice am m cm, Slc nb1 0 16 32] (.bool (decide (mm = (mid (macL key ls.flatten) 0 16)))) (Cl_func [.slice am m cm, Slc nb1 0 16 32] Tryd.call151 rfl) (fun w1 hw1 => same_c am (some ⟨nb1, 0, none⟩) m 16 cm 32 mm (mid (macL key ls.flatten) 0 16) w1 hm hl1 (hrm.at (M' := []) hw1 (by simp)) (RdB.of hw1 (MemAt.ent 0 rfl (segm_u8 0 16 (by rw [(macL_len _ _)]; omega))) (by simp)) (by omega) (by omega))) rfl ?_
    rintro v1 L1 ⟨rfl, rfl⟩
    show JL _ _ _ _ ((17, .bool (decide (mm = (mid (macL key ls.flatten) 0 16)))) :: _) [⟨nb1, cu8 (macL key ls.flatten), 54, (0, 0)⟩]
    refine JL_val _ (Ev_assign rfl) rfl ?_
    refine JL_nil ?_
    refine JQ_then ?_
    refine JC_ret ?_
    refine JQ_in_ret ?_
    refine JQ_then_ret ?_
    refine JQ_ret (.bool (decide (mm = (mid (macL key ls.flatten) 0 16)))) (res1 Tryd.results107 (RV_tmp rfl)) fun w1 hw1 => ?_
    refine ⟨_, [], rfl, ⟨?_, rfl⟩, hw1.sub (by simp) (by simp)⟩
    have hl1 : (macL key ls.flatten).length = 32 := macL_len _ _
    have hl2 : (mid (macL key ls.flatten) 0 16).length = 16 := mid_len (by rw [hl1]; omega)
    first
    | (have hne : ¬ mm = macL key ls.flatten := fun h => by rw [← h] at hl1; omega
       rw [decide_eq_false hne, Bool.false_or]; done)
    | (have hne : ¬ mm = mid (macL key ls.flatten) 0 16 := fun h => by rw [← h] at hl2; omega
       rw [decide_eq_false hne, Bool.or_false]; done)
    | (have hne : ¬ mm = macL key ls.flatten := fun h => by rw [← h] at hl1; omega
       have hne2 : ¬ mm = mid (macL key ls.flatten) 0 16 := fun h => by rw [← h] at hl2; omega
       rw [decide_eq_false hne, decide_eq_false hne2]; rfl)
  ·
    have hp1 : ¬ (((m:Int)) = (16:Int)) := of_decide_eq_false hb1
    refine JC_seq ?_
    refine JC_region ?_
    refine JL_val (.bool (decide (((m:Int)) = (32:Int)))) (Ev_bini rfl rfl fun _ => bin_eql_i _ _) rfl ?_
    refine JL_val _ (Ev_assign rfl) rfl ?_
    refine JL_nil ?_
    refine JQ_then ?_
    refine JC_cond (decide (((m:Int)) = (32:Int))) rfl (fun hb2 => ?_) (fun hb2 => ?_)
    ·
      have hp2 : ((m:Int)) = (32:Int) := of_decide_eq_true hb2
      refine JC_seq ?_
      refine JC_region ?_
      refine JL_val _ (Ev_move rfl) rfl ?_
      refine JL_val (Slc nb1 0 32 32) (Ev_sliceA 32 5 1 0 32 0 32 Tryd.underlying54 Tryd.sizeOf5 rfl rfl rfl (by omega) (by omega) (by omega) (by omega) (by omega) 32 (by omega)) rfl ?_
      refine JL_step (Step_callP 151 [.slice am m cm, Slc nb1 0 32 32] (.bool (decide (mm = (macL key ls.flatten)))) (Cl_func [.slice am m cm, Slc nb1 0 32 32] Tryd.call151 rfl) (fun w1 hw1 => same_c am (some ⟨nb1, 0, none⟩) m 32 cm 32 mm (macL key ls.flatten) w1 hm (macL_len _ _) (hrm.at (M' := []) hw1 (by simp)) (RdB.of hw1 (MemAt.ent 0 rfl (Seg.whole _)) (by simp)) (by omega) (by omega))) rfl ?_
      rintro v1 L1 ⟨rfl, rfl⟩
      show JL _ _ _ _ ((22, .bool (decide (mm = (macL key ls.flatten)))) :: _) [⟨nb1, cu8 (macL key ls.flatten), 54, (0, 0)⟩]
      refine JL_val _ (Ev_assign rfl) rfl ?_
      refine JL_nil ?_
      refine JQ_then ?_
      refine JC_ret ?_
      refine JQ_in_ret ?_
      refine JQ_then_ret ?_
      refine JQ_ret (.bool (decide (mm = (macL key ls.flatten)))) (res1 Tryd.results107 (RV_tmp rfl)) fun w1 hw1 => ?_
      refine ⟨_, [], rfl, ⟨?_, rfl⟩, hw1.sub (by simp) (by simp)⟩
      have hl1 : (macL key ls.flatten).length = 32 := macL_len _ _
      have hl2 : (mid (macL key ls.flatten) 0 16).length = 16 := mid_len (by rw [hl1]; omega)
      first
      | (have hne : ¬ mm = macL key ls.flatten := fun h => by rw [← h] at hl1; omega
         rw [decide_eq_false hne, Bool.false_or]; done)
      | (have hne : ¬ mm = mid (macL key ls.flatten) 0 16 := fun h => by rw [← h] at hl2; omega
         rw [decide_eq_false hne, Bool.or_false]; done)
      | (have hne : ¬ mm = macL key ls.flatten := fun h => by rw [← h] at hl1; omega
         have hne2 : ¬ mm = mid (macL key ls.flatten) 0 16 := fun h => by rw [← h] at hl2; omega
         rw [decide_eq_false hne, decide_eq_false hne2]; rfl)
    ·
      have hp2 : ¬ (((m:Int)) = (32:Int)) := of_decide_eq_false hb2
      refine JC_skip ?_
      refine JQ_in_normal ?_
      refine JQ_then ?_
      refine JC_seq ?_
      refine JC_region ?_
      refine JL_val _ (Ev_assign rfl) rfl ?_
      refine JL_nil ?_
      refine JQ_then ?_
      refine JC_ret ?_
      refine JQ_ret (.bool false) (res1 Tryd.results107 (RV_tmp rfl)) fun w1 hw1 => ?_
      refine ⟨_, [], rfl, ⟨?_, rfl⟩, hw1.sub (by simp) (by simp)⟩
      have hl1 : (macL key ls.flatten).length = 32 := macL_len _ _
      have hl2 : (mid (macL key ls.flatten) 0 16).length = 16 := mid_len (by rw [hl1]; omega)
      first
      | (have hne : ¬ mm = macL key ls.flatten := fun h => by rw [← h] at hl1; omega
         rw [decide_eq_false hne, Bool.false_or]; done)
      | (have hne : ¬ mm = mid (macL key ls.flatten) 0 16 := fun h => by rw [← h] at hl2; omega
         rw [decide_eq_false hne, Bool.or_false]; done)
      | (have hne : ¬ mm = macL key ls.flatten := fun h => by rw [← h] at hl1; omega
         have hne2 : ¬ mm = mid (macL key ls.flatten) 0 16 := fun h => by rw [← h] at hl2; omega
         rw [decide_eq_false hne, decide_eq_false hne2]; rfl)

end Go.Proofs.YtkdpdgpphpngeaaDoor
namespace Go.Proofs.YtkdpdgpphpngeaaDoor
open Go Go.Sx
set_option linter.unusedVariables false
set_option linter.unusedSimpArgs false
def numN (k : Nat) (x : UInt64) (j : Nat) : List UInt8 := (List.range j).map fun i => (x >>> UInt64.ofNat (8*k - 8 - 8*i)).toUInt8
theorem numN_len (k : Nat) (x : UInt64) (j : Nat) : (numN k x j).length = j := by simp [numN]
theorem numN_zero (k : Nat) (x : UInt64) : numN k x 0 = [] := rfl
theorem numN_succ (k : Nat) (x : UInt64) (j : Nat) : numN k x (j + 1) = numN k x j ++ [(x >>> UInt64.ofNat (8*k - 8 - 8*j)).toUInt8] := by
  simp [numN, List.range_succ]
def rnN (x : UInt64) : Nat → List UInt8 × UInt64
  | 0 => (zr8 8, x)
  | j + 1 => ((rnN x j).1.set (7 - j) ((rnN x j).2 % 256).toUInt8, (rnN x j).2 / 256)
theorem rnN_len (x : UInt64) : ∀ j, (rnN x j).1.length = 8
  | 0 => zr8_len 8
  | j + 1 => by rw [rnN]; simp [rnN_len x j]
theorem rnN_snd (x : UInt64) : ∀ j, j ≤ 7 → (rnN x j).2.toNat = x.toNat / 256 ^ j
  | 0, _ => by simp [rnN]
  | j + 1, h => by
    rw [rnN]
    show ((rnN x j).2 / 256).toNat = _
    rw [UInt64.toNat_div, rnN_snd x j (by omega), Nat.pow_succ, ← Nat.div_div_eq_div_mul]
    rfl
theorem u8_mod (y : UInt64) : (y % 256).toUInt8 = y.toUInt8 := by
  apply UInt8.toNat_inj.1
  rw [UInt64.toNat_toUInt8, UInt64.toNat_toUInt8, UInt64.toNat_mod]
  show y.toNat % 256 % 2 ^ 8 = _
  omega
theorem shr_div (x : UInt64) (j : Nat) (h : j ≤ 7) : (x >>> UInt64.ofNat (8*j)).toNat = x.toNat / 256 ^ j := by
  have : (UInt64.ofNat (8*j)).toNat = 8*j := by rw [UInt64.toNat_ofNat']; exact Nat.mod_eq_of_lt (by omega)
  rw [UInt64.toNat_shiftRight, this, Nat.mod_eq_of_lt (by omega), Nat.shiftRight_eq_div_pow, Nat.pow_mul]
theorem rnN_get (x : UInt64) : ∀ j, j ≤ 8 → ∀ i, 8 - j ≤ i → i < 8 → g8 (rnN x j).1 i = (x >>> UInt64.ofNat (56 - 8*i)).toUInt8
  | 0, _, i, h1, h2 => by omega
  | j + 1, h, i, h1, h2 => by
    rw [rnN]
    show g8 ((rnN x j).1.set (7 - j) ((rnN x j).2 % 256).toUInt8) i = _
    rw [g8_set _ _ _ _ (by rw [rnN_len]; omega)]
    by_cases hi : 7 - j = i
    · rw [if_pos hi, u8_mod]
      have : (rnN x j).2 = x >>> UInt64.ofNat (8*j) := UInt64.toNat_inj.1 (by rw [rnN_snd x j (by omega), shr_div x j (by omega)])
      rw [this]
      have e : 56 - 8*i = 8*j := by omega
      rw [e]
    · rw [if_neg hi]
      exact rnN_get x j (by omega) i (by omega) h2
theorem rnN_num (x : UInt64) : (rnN x 8).1 = numN 8 x 8 :=
  ext8 (by rw [rnN_len, numN_len]) fun i hi => by
    rw [rnN_len] at hi
    rw [rnN_get x 8 (by omega) i (by omega) hi, numN, g8_map_range hi]
end Go.Proofs.YtkdpdgpphpngeaaDoor
namespace Go.Proofs.YtkdpdgpphpngeaaDoor
open Go Go.Sx
set_option linter.unusedVariables false
set_option linter.unusedSimpArgs false
set_option maxRecDepth 100000
attribute [local irreducible] mid zr8 zr32 rotr wordL spreadL comprL cpN adN spN wrdN constL initL padL stN outN routN hashL sumG blkL xbN raN macL orN numN rnN
theorem sized8_c  (w : World) : Calls Tryd.prog 143 #[I64 (8:Int)] w (Post w [] (fun v L => v = .bool true ∧ L = [])) := by
  refine enter w [] 17 [] [I64 (8:Int)] Tryd.func143 rfl rfl (by simp) (Hp.start (by simp) (by simp) (by simp)) ?_
  show JC _ _ _ [(0, I64 (8:Int))] _
  refine JC_seq ?_
  refine JC_region ?_
  refine JL_val _ (Ev_assign rfl) rfl ?_
  refine JL_nil ?_
  refine JQ_then ?_
  refine JC_seq ?_
  refine JC_region ?_
  refine JL_val _ (Ev_move rfl) rfl ?_
  refine JL_val (.bool (decide ((8:Int) = (1:Int)))) (Ev_bini rfl rfl fun _ => bin_eql_i _ _) rfl ?_
  refine JL_val _ (Ev_move rfl) rfl ?_
  refine JL_gval 2 5 false _ _ rfl rfl (by decide) (Ev_move rfl) rfl ?_
  refine JL_gval 2 5 false _ (.bool (decide ((8:Int) = (2:Int)))) rfl rfl (by decide) (Ev_bini rfl rfl fun _ => bin_eql_i _ _) rfl ?_
  refine JL_val _ (Ev_pickF _ rfl (by decide) rfl) rfl ?_
  refine JL_val _ (Ev_move rfl) rfl ?_
  refine JL_gval 6 9 false _ _ rfl rfl (by decide) (Ev_move rfl) rfl ?_
  refine JL_gval 6 9 false _ (.bool (decide ((8:Int) = (4:Int)))) rfl rfl (by decide) (Ev_bini rfl rfl fun _ => bin_eql_i _ _) rfl ?_
  refine JL_val _ (Ev_pickF _ rfl (by decide) rfl) rfl ?_
  refine JL_val _ (Ev_move rfl) rfl ?_
  refine JL_gval 10 13 false _ _ rfl rfl (by decide) (Ev_move rfl) rfl ?_
  refine JL_gval 10 13 false _ (.bool (decide ((8:Int) = (8:Int)))) rfl rfl (by decide) (Ev_bini rfl rfl fun _ => bin_eql_i _ _) rfl ?_
  refine JL_val _ (Ev_pickF _ rfl (by decide) rfl) rfl ?_
  refine JL_val _ (Ev_assign rfl) rfl ?_
  refine JL_nil ?_
  refine JQ_then ?_
  refine JC_ret ?_
  refine JQ_ret (.bool (decide ((8:Int) = (8:Int)))) (res1 Tryd.results143 (RV_tmp rfl)) fun w1 hw1 => ?_
  exact ⟨_, [], rfl, ⟨by rw [show (decide ((8:Int) = (8:Int))) = true from (by decide)], rfl⟩, hw1.sub (by simp) (by simp)⟩

theorem num8N_c (wb : Nat) (nv : UInt64) (w : World) (h0 : w.heap[wb]? = some (.cells [.nilIface, .slice none 0 0].toArray 149 (0, 0)))  : Calls Tryd.prog 81 #[Ptr wb 0, U64 nv, I64 (8:Int)] w (Post w [wb] (fun v L => v = Ptr wb 0 ∧ ∃ g sp cap, L = [⟨wb, [.nilIface, Slc g 0 8 cap], 149, (0, 0)⟩, ⟨g, cu8 (numN 8 nv 8) ++ sp, 5, (0, 0)⟩] ∧ sp.length = cap - 8 ∧ 8 ≤ cap ∧ cap ≤ maxLen)) := by
  have hmx : maxLen = 9223372036854775807 := rfl
  refine enter w [wb] 51 [⟨wb, [.nilIface, .slice none 0 0], 149, (0, 0)⟩] [Ptr wb 0, U64 nv, I64 (8:Int)] Tryd.func81 rfl rfl (by simp) (Hp.start (by simpa using h0) (by simp) (by simp)) ?_
  show JC _ _ _ [(0, Ptr wb 0), (1, U64 nv), (2, I64 (8:Int))] _
  refine JC_seq ?_
  refine JC_region ?_
  refine JL_val _ (Ev_assign rfl) rfl ?_
  refine JL_nil ?_
  refine JQ_then ?_
  refine JC_seq ?_
  refine JC_seq ?_
  refine JC_region ?_
  refine JL_val _ (Ev_move rfl) rfl ?_
  refine JL_val (.bool false) (Ev_bin _ _ _ rfl rfl (fun _ => eqGuard_ptr ..) fun _ => eql_ptr_nil Tryd.underlying145) rfl ?_
  refine JL_nil ?_
  refine JQ_then ?_
  refine JC_condF _ rfl rfl ?_
  refine JC_skip ?_
  refine JQ_then ?_
  refine JC_seq ?_
  refine JC_seq ?_
  refine JC_region ?_
  refine JL_val _ (Ev_move rfl) rfl ?_
  refine JL_step (Step_callP 143 [I64 (8:Int)] (.bool true) (Cl_func [I64 (8:Int)] Tryd.call143 rfl) (fun w1 _ => sized8_c w1)) rfl ?_
  rintro v1 L1 ⟨rfl, rfl⟩
  show JL _ _ _ _ ((11, .bool true) :: _) [⟨wb, [.nilIface, .slice none 0 0], 149, (0, 0)⟩]
  refine JL_val (.bool (!true)) (Ev_not rfl) rfl ?_
  refine JL_val _ (Ev_move rfl) rfl ?_
  refine JL_gval 3 13 false _ _ rfl rfl rfl (Ev_move rfl) rfl ?_
  refine JL_gval 3 13 false _ (.bool (decide ((8:Int) < (8:Int)))) rfl rfl rfl (Ev_bini rfl rfl fun _ => bin_lss_i _ _) rfl ?_
  refine JL_gval 3 13 false _ _ rfl rfl rfl (Ev_move rfl) rfl ?_
  refine JL_gskip 6 16 true _ rfl rfl (by decide) rfl ?_
  refine JL_gskip 6 16 true _ rfl rfl (by decide) rfl ?_
  refine JL_gskip 6 16 true _ rfl rfl (by decide) rfl ?_
  refine JL_gskip 6 16 true _ rfl rfl (by decide) rfl ?_
  refine JL_gskip 6 16 true _ rfl rfl (by decide) rfl ?_
  refine JL_gval 3 13 false _ _ rfl rfl rfl (Ev_pickF _ rfl (by decide) rfl) rfl ?_
  refine JL_val _ (Ev_pickF _ rfl rfl rfl) rfl ?_
  refine JL_nil ?_
  refine JQ_then ?_
  refine JC_condF _ rfl rfl ?_
  refine JC_skip ?_
  refine JQ_then ?_
  refine JC_seq ?_
  refine JC_seq ?_
  refine JC_region ?_
  refine JL_val _ (Ev_move rfl) rfl ?_
  refine JL_val (I64 (7:Int)) (Ev_bini rfl rfl fun _ => bin_sub_i _ _ (7:Int) (by omega) (by omega)) rfl ?_
  refine JL_val _ (Ev_assign rfl) rfl ?_
  refine JL_nil ?_
  refine JQ_then ?_
  refine JC_block ?_
  refine JC_loop (ι := (Unit) ⊕ (Nat × List UInt8 × Nat × List Value × Nat)) (fun x => match x with | .inl _ => [(0, Ptr wb 0), (1, U64 nv), (6, .pointer none), (7, I64 (7:Int))] | .inr ⟨q, oq, gq, spq, cpq⟩ => [(0, Ptr wb 0), (1, U64 nv), (6, .pointer none), (7, I64 (-(q:Int) + 7))]) (fun x => match x with | .inl _ => [⟨wb, [.nilIface, .slice none 0 0], 149, (0, 0)⟩] | .inr ⟨q, oq, gq, spq, cpq⟩ => [⟨wb, [.nilIface, Slc gq 0 q cpq], 149, (0, 0)⟩, ⟨gq, cu8 oq ++ spq, 5, (0, 0)⟩]) (fun x => match x with | .inl _ => True | .inr ⟨q, oq, gq, spq, cpq⟩ => 1 ≤ q ∧ q ≤ 8 ∧ oq = numN 8 nv q ∧ oq.length = q ∧ spq.length = cpq - (q) ∧ q ≤ cpq ∧ cpq ≤ maxLen) (fun x => match x with | .inl _ => 9 | .inr ⟨q, oq, gq, spq, cpq⟩ => 8 - q) (.inl ()) trivial (Sub.cons rfl (Sub.cons rfl (Sub.cons rfl (Sub.cons rfl (Sub.nil))))) rfl ?_
  rintro (_ | ⟨q, oq, gq, spq, cpq⟩) hx
  ·
    obtain _ := hx
    show JC _ _ _ [(0, Ptr wb 0), (1, U64 nv), (6, .pointer none), (7, I64 (7:Int))] [⟨wb, [.nilIface, .slice none 0 0], 149, (0, 0)⟩]
    refine JC_seq ?_
    refine JC_seq ?_
    refine JC_region ?_
    refine JL_val _ (Ev_move rfl) rfl ?_
    refine JL_val (.bool (decide ((0:Int) ≤ (7:Int)))) (Ev_bini rfl rfl fun _ => bin_geq_i _ _) rfl ?_
    refine JL_nil ?_
    refine JQ_then ?_
    refine JC_condT _ rfl (by decide) ?_
    refine JC_skip ?_
    refine JQ_then ?_
    refine JC_seq ?_
    refine JC_block ?_
    refine JC_draw 51 4 [(0, Ptr wb 0), (1, Ptr wb 0), (2, Ptr wb 0), (3, Ptr wb 1), (4, .slice none 0 0), (5, U64 nv), (6, I64 (7:Int)), (7, I64 (56:Int)), (8, U64 (nv >>> (56:UInt64))), (9, U8 ((nv >>> (56:UInt64)).toUInt8))] Tryd.mixed rfl (by decide +kernel) ?_
    refine DP_one ⟨[], [0, 1, 2, 3, 4, 5, 6, 7, 8, 9], [], [0, 1, 2, 3, 4, 5, 6, 7, 8, 9], [10]⟩ 10 _ rfl rfl (by decide +kernel) rfl ⟨⟨_, rfl, Qok_val rfl (Ev_move rfl)⟩, ⟨_, rfl, Qok_val rfl (Ev_move rfl)⟩, ⟨_, rfl, Qok_val rfl (Ev_nilCheck rfl)⟩, ⟨_, rfl, Qok_val rfl (Ev_fieldAddr 1 43 1 Tryd.underlying149 rfl Tryd.sizeOf43 rfl rfl)⟩, ⟨_, rfl, Qok_val rfl (Ev_load rfl (Ld_one Tryd.isAgg43 (MemAt.ent 0 rfl (Seg.tail (Seg.head)))))⟩, ⟨_, rfl, Qok_val rfl (Ev_move rfl)⟩, ⟨_, rfl, Qok_val rfl (Ev_move rfl)⟩, ⟨_, rfl, Qok_val rfl (Ev_bini rfl rfl fun _ => bin_mul_i _ _ (56:Int) (by omega) (by omega))⟩, ⟨_, rfl, Qok_val rfl (Ev_bini rfl rfl fun _ => bin_shr_u64 nv _ _ 56 (by decide) rfl)⟩, ⟨_, rfl, Qok_val rfl (Ev_conv _ _ rfl fun _ => conv_u64_u8 (by rw [Tryd.underlying22]; rfl) Tryd.underlying5 _)⟩, trivial⟩ rfl (Cok_step rfl (Step_buildSlice 5 1 _ [(0, U8 ((nv >>> (56:UInt64)).toUInt8))] (cu8 ([(nv >>> (56:UInt64)).toUInt8])) Tryd.underlying43 Tryd.sizeOf5 Tryd.zeroValue5 rfl rfl rfl (by kernel_rfl))) ?_
    rintro v1 L1 ⟨nb1, hnb1, rfl, rfl⟩
    refine ⟨[], ?_⟩
    show DP _ _ _ _ _ _ _ _ [⟨wb, [.nilIface, .slice none 0 0], 149, (0, 0)⟩, ⟨nb1, cu8 ([(nv >>> (56:UInt64)).toUInt8]), 5, (0, 0)⟩]
    refine DP_one ⟨[10], [0, 1, 2, 3, 4, 5, 6, 7, 8, 9], [5, 6, 7, 8, 9], [0, 1, 2, 3, 4], [11]⟩ 11 _ rfl rfl (by decide +kernel) rfl ⟨⟨_, rfl, Qok_val rfl (Ev_move rfl)⟩, ⟨_, rfl, Qok_val rfl (Ev_move rfl)⟩, ⟨_, rfl, Qok_val rfl (Ev_nilCheck rfl)⟩, ⟨_, rfl, Qok_val rfl (Ev_fieldAddr 1 43 1 Tryd.underlying149 rfl Tryd.sizeOf43 rfl rfl)⟩, ⟨_, rfl, Qok_val rfl (Ev_load rfl (Ld_one Tryd.isAgg43 (MemAt.ent 0 rfl (Seg.tail (Seg.head)))))⟩, trivial⟩ rfl (Cok_step rfl (Step_appM8 43 5 [false, false] (.slice none 0 0) 0 ([] : List UInt8) ([(nv >>> (56:UInt64)).toUInt8]) (some ⟨nb1, 0, none⟩) 1 1 1 Tryd.underlying43 Tryd.info5 rfl (.inl ⟨rfl, rfl, rfl, rfl, by omega⟩) rfl (by simp) (SrcAt.mem (MemAt.ent 1 rfl (Seg.whole _))) (by omega) (by unfold maxLen; omega) (by omega))) ?_
    rintro v1 L1 ⟨nb2, sp1, cp1, hg1, rfl, rfl, ha1, ha2, ha3, ha4⟩
    refine ⟨[(12, Ptr wb 0), (13, Ptr wb 1)], ?_⟩
    show DP _ _ _ _ _ _ _ _ [⟨wb, [.nilIface, .slice none 0 0], 149, (0, 0)⟩, ⟨nb1, cu8 ([(nv >>> (56:UInt64)).toUInt8]), 5, (0, 0)⟩, ⟨nb2, cu8 (([] : List UInt8) ++ ([(nv >>> (56:UInt64)).toUInt8])) ++ sp1, 5, (0, 0)⟩]
    refine DP_one ⟨[10, 11], [0, 1, 2, 3, 4, 5, 6, 7, 8, 9, 12, 13], [1, 2, 3, 4, 5, 6, 7, 8, 9], [0, 12, 13], [14]⟩ 14 _ rfl rfl (by decide +kernel) rfl ⟨⟨_, rfl, Qok_val rfl (Ev_move rfl)⟩, ⟨_, rfl, Qok_val rfl (Ev_nilCheck rfl)⟩, ⟨_, rfl, Qok_val rfl (Ev_fieldAddr 1 43 1 Tryd.underlying149 rfl Tryd.sizeOf43 rfl rfl)⟩, trivial⟩ rfl (Cok_step rfl (Step_store 0 wb 1 1 ([.nilIface, .slice none 0 0]) 149 (Slc nb2 0 1 cp1) ([Slc nb2 0 1 cp1]) ([.nilIface, Slc nb2 0 1 cp1]) rfl rfl rfl rfl Tryd.sizeOf43 rfl (by simp [Value.oneCell']) (Nat.le_of_ble_eq_true rfl) (rfl))) ?_
    rintro v1 L1 ⟨rfl, rfl⟩
    refine ⟨[], ?_⟩
    show DP _ _ _ _ _ _ _ _ [⟨wb, [.nilIface, Slc nb2 0 1 cp1], 149, (0, 0)⟩, ⟨nb1, cu8 ([(nv >>> (56:UInt64)).toUInt8]), 5, (0, 0)⟩, ⟨nb2, cu8 (([] : List UInt8) ++ ([(nv >>> (56:UInt64)).toUInt8])) ++ sp1, 5, (0, 0)⟩]
    refine DP_end ⟨[10, 11, 14], [0, 1, 2, 3, 4, 5, 6, 7, 8, 9, 12, 13], [0, 1, 2, 3, 4, 5, 6, 7, 8, 9, 12, 13], [], []⟩ rfl rfl (by decide +kernel) rfl trivial ?_
    refine K_sub (F' := [(36, Ptr wb 0), (37, Ptr wb 0), (38, Ptr wb 0), (39, Ptr wb 1), (40, .slice none 0 0), (41, U64 nv), (42, I64 (7:Int)), (43, I64 (56:Int)), (44, U64 (nv >>> (56:UInt64))), (45, U8 ((nv >>> (56:UInt64)).toUInt8)), (46, Slc nb1 0 1 1), (47, Slc nb2 0 1 cp1), (48, Ptr wb 0), (49, Ptr wb 1), (0, Ptr wb 0), (1, U64 nv), (6, .pointer none), (7, I64 (7:Int)), (32, I64 (7:Int)), (33, .bool (decide ((0:Int) ≤ (7:Int))))]) (Sub.cons (by kernel_rfl) (Sub.cons (by kernel_rfl) (Sub.cons (by kernel_rfl) (Sub.cons (by kernel_rfl) (Sub.cons (by kernel_rfl) (Sub.cons (by kernel_rfl) (Sub.cons (by kernel_rfl) (Sub.cons (by kernel_rfl) (Sub.cons (by kernel_rfl) (Sub.cons (by kernel_rfl) (Sub.cons (by kernel_rfl) (Sub.cons (by kernel_rfl) (Sub.cons (by kernel_rfl) (Sub.cons (by kernel_rfl) (Sub.cons (by kernel_rfl) (Sub.cons (by kernel_rfl) (Sub.cons (by kernel_rfl) (Sub.cons (by kernel_rfl) (Sub.cons (by kernel_rfl) (Sub.cons (by kernel_rfl) (Sub.nil))))))))))))))))))))) ?_
    show JQ _ _ _ [(36, Ptr wb 0), (37, Ptr wb 0), (38, Ptr wb 0), (39, Ptr wb 1), (40, .slice none 0 0), (41, U64 nv), (42, I64 (7:Int)), (43, I64 (56:Int)), (44, U64 (nv >>> (56:UInt64))), (45, U8 ((nv >>> (56:UInt64)).toUInt8)), (46, Slc nb1 0 1 1), (47, Slc nb2 0 1 cp1), (48, Ptr wb 0), (49, Ptr wb 1), (0, Ptr wb 0), (1, U64 nv), (6, .pointer none), (7, I64 (7:Int)), (32, I64 (7:Int)), (33, .bool (decide ((0:Int) ≤ (7:Int))))] _
    refine JQ_in_normal ?_
    refine JQ_then ?_
    refine JC_region ?_
    refine JL_val _ (Ev_move rfl) rfl ?_
    refine JL_val (I64 (6:Int)) (Ev_bini rfl rfl fun _ => bin_sub_i _ _ (6:Int) (by omega) (by omega)) rfl ?_
    refine JL_val _ (Ev_assign rfl) rfl ?_
    refine JL_nil ?_
    refine JQ_thenK ?_
    refine K_mask [true, false, true] ?_
    show K _ _ [⟨wb, [.nilIface, Slc nb2 0 1 cp1], 149, (0, 0)⟩, ⟨nb2, cu8 (([] : List UInt8) ++ ([(nv >>> (56:UInt64)).toUInt8])) ++ sp1, 5, (0, 0)⟩] _
    refine K_next (.inr (1, ([] : List UInt8) ++ ([(nv >>> (56:UInt64)).toUInt8]), nb2, sp1, cp1)) ⟨by omega, by omega, by rw [numN_succ, numN_zero]; rfl, (ha1).trans (by first | rfl | simp +arith), (ha2).trans (by first | rfl | simp +arith), by omega, ha4⟩ (by first | (simp; omega) | simp | (dsimp only; omega) | omega) (Sub.cons rfl (Sub.cons rfl (Sub.cons rfl (Sub.cons (some_i64 (by omega)) (Sub.nil))))) rfl
  ·
    obtain ⟨hx0, hx1, hx2, hoq, hx4, hx5, hx6⟩ := hx
    show JC _ _ _ [(0, Ptr wb 0), (1, U64 nv), (6, .pointer none), (7, I64 (-(q:Int) + 7))] [⟨wb, [.nilIface, Slc gq 0 q cpq], 149, (0, 0)⟩, ⟨gq, cu8 oq ++ spq, 5, (0, 0)⟩]
    refine JC_seq ?_
    refine JC_seq ?_
    refine JC_region ?_
    refine JL_val _ (Ev_move rfl) rfl ?_
    refine JL_val (.bool (decide ((0:Int) ≤ (-(q:Int) + 7)))) (Ev_bini rfl rfl fun _ => bin_geq_i _ _) rfl ?_
    refine JL_nil ?_
    refine JQ_then ?_
    refine JC_cond (decide ((0:Int) ≤ (-(q:Int) + 7))) rfl (fun hb1 => ?_) (fun hb1 => ?_)
    ·
      have hp1 : (0:Int) ≤ (-(q:Int) + 7) := of_decide_eq_true hb1
      refine JC_skip ?_
      refine JQ_then ?_
      refine JC_seq ?_
      refine JC_block ?_
      refine JC_draw 51 4 [(0, Ptr wb 0), (1, Ptr wb 0), (2, Ptr wb 0), (3, Ptr wb 1), (4, Slc gq 0 q cpq), (5, U64 nv), (6, I64 (-(q:Int) + 7)), (7, I64 (-8*(q:Int) + 56)), (8, U64 (nv >>> UInt64.ofNat (56 - 8*q))), (9, U8 ((nv >>> UInt64.ofNat (56 - 8*q)).toUInt8))] Tryd.mixed rfl (by decide +kernel) ?_
      refine DP_one ⟨[], [0, 1, 2, 3, 4, 5, 6, 7, 8, 9], [], [0, 1, 2, 3, 4, 5, 6, 7, 8, 9], [10]⟩ 10 _ rfl rfl (by decide +kernel) rfl ⟨⟨_, rfl, Qok_val rfl (Ev_move rfl)⟩, ⟨_, rfl, Qok_val rfl (Ev_move rfl)⟩, ⟨_, rfl, Qok_val rfl (Ev_nilCheck rfl)⟩, ⟨_, rfl, Qok_val rfl (Ev_fieldAddr 1 43 1 Tryd.underlying149 rfl Tryd.sizeOf43 rfl rfl)⟩, ⟨_, rfl, Qok_val rfl (Ev_load rfl (Ld_one Tryd.isAgg43 (MemAt.ent 0 rfl (Seg.tail (Seg.head)))))⟩, ⟨_, rfl, Qok_val rfl (Ev_move rfl)⟩, ⟨_, rfl, Qok_val rfl (Ev_move rfl)⟩, ⟨_, rfl, Qok_val rfl (Ev_bini rfl rfl fun _ => bin_mul_i _ _ (-8*(q:Int) + 56) (by omega) (by omega))⟩, ⟨_, rfl, Qok_val rfl (Ev_bini rfl rfl fun _ => bin_shr_u64 nv _ _ (56 - 8*q) (by omega) (by omega))⟩, ⟨_, rfl, Qok_val rfl (Ev_conv _ _ rfl fun _ => conv_u64_u8 (by rw [Tryd.underlying22]; rfl) Tryd.underlying5 _)⟩, trivial⟩ rfl (Cok_step rfl (Step_buildSlice 5 1 _ [(0, U8 ((nv >>> UInt64.ofNat (56 - 8*q)).toUInt8))] (cu8 ([(nv >>> UInt64.ofNat (56 - 8*q)).toUInt8])) Tryd.underlying43 Tryd.sizeOf5 Tryd.zeroValue5 rfl rfl rfl (by kernel_rfl))) ?_
      rintro v1 L1 ⟨nb3, hnb3, rfl, rfl⟩
      refine ⟨[], ?_⟩
      show DP _ _ _ _ _ _ _ _ [⟨wb, [.nilIface, Slc gq 0 q cpq], 149, (0, 0)⟩, ⟨gq, cu8 oq ++ spq, 5, (0, 0)⟩, ⟨nb3, cu8 ([(nv >>> UInt64.ofNat (56 - 8*q)).toUInt8]), 5, (0, 0)⟩]
      refine DP_one ⟨[10], [0, 1, 2, 3, 4, 5, 6, 7, 8, 9], [5, 6, 7, 8, 9], [0, 1, 2, 3, 4], [11]⟩ 11 _ rfl rfl (by decide +kernel) rfl ⟨⟨_, rfl, Qok_val rfl (Ev_move rfl)⟩, ⟨_, rfl, Qok_val rfl (Ev_move rfl)⟩, ⟨_, rfl, Qok_val rfl (Ev_nilCheck rfl)⟩, ⟨_, rfl, Qok_val rfl (Ev_fieldAddr 1 43 1 Tryd.underlying149 rfl Tryd.sizeOf43 rfl rfl)⟩, ⟨_, rfl, Qok_val rfl (Ev_load rfl (Ld_one Tryd.isAgg43 (MemAt.ent 0 rfl (Seg.tail (Seg.head)))))⟩, trivial⟩ rfl (Cok_step rfl (Step_appM8 43 5 [false, true, false] (Slc gq 0 q cpq) q oq ([(nv >>> UInt64.ofNat (56 - 8*q)).toUInt8]) (some ⟨nb3, 0, none⟩) 1 1 (q + 1) Tryd.underlying43 Tryd.info5 rfl (.inr ⟨gq, spq, cpq, rfl, rfl, (by first | exact hoq | simp [hoq]), hx4, (by omega), (by omega)⟩) rfl (by simp) (SrcAt.mem (MemAt.ent 2 rfl (Seg.whole _))) (by omega) (by unfold maxLen; omega) (by omega))) ?_
      rintro v1 L1 ⟨nb4, sp2, cp2, hg2, rfl, rfl, ha5, ha6, ha7, ha8⟩
      refine ⟨[(12, Ptr wb 0), (13, Ptr wb 1)], ?_⟩
      show DP _ _ _ _ _ _ _ _ [⟨wb, [.nilIface, Slc gq 0 q cpq], 149, (0, 0)⟩, ⟨nb3, cu8 ([(nv >>> UInt64.ofNat (56 - 8*q)).toUInt8]), 5, (0, 0)⟩, ⟨nb4, cu8 (oq ++ ([(nv >>> UInt64.ofNat (56 - 8*q)).toUInt8])) ++ sp2, 5, (0, 0)⟩]
      refine DP_one ⟨[10, 11], [0, 1, 2, 3, 4, 5, 6, 7, 8, 9, 12, 13], [1, 2, 3, 4, 5, 6, 7, 8, 9], [0, 12, 13], [14]⟩ 14 _ rfl rfl (by decide +kernel) rfl ⟨⟨_, rfl, Qok_val rfl (Ev_move rfl)⟩, ⟨_, rfl, Qok_val rfl (Ev_nilCheck rfl)⟩, ⟨_, rfl, Qok_val rfl (Ev_fieldAddr 1 43 1 Tryd.underlying149 rfl Tryd.sizeOf43 rfl rfl)⟩, trivial⟩ rfl (Cok_step rfl (Step_store 0 wb 1 1 ([.nilIface, Slc gq 0 q cpq]) 149 (Slc nb4 0 (q + 1) cp2) ([Slc nb4 0 (q + 1) cp2]) ([.nilIface, Slc nb4 0 (q + 1) cp2]) rfl rfl rfl rfl Tryd.sizeOf43 rfl (by simp [Value.oneCell']) (Nat.le_of_ble_eq_true rfl) (rfl))) ?_
      rintro v1 L1 ⟨rfl, rfl⟩
      refine ⟨[], ?_⟩
      show DP _ _ _ _ _ _ _ _ [⟨wb, [.nilIface, Slc nb4 0 (q + 1) cp2], 149, (0, 0)⟩, ⟨nb3, cu8 ([(nv >>> UInt64.ofNat (56 - 8*q)).toUInt8]), 5, (0, 0)⟩, ⟨nb4, cu8 (oq ++ ([(nv >>> UInt64.ofNat (56 - 8*q)).toUInt8])) ++ sp2, 5, (0, 0)⟩]
      refine DP_end ⟨[10, 11, 14], [0, 1, 2, 3, 4, 5, 6, 7, 8, 9, 12, 13], [0, 1, 2, 3, 4, 5, 6, 7, 8, 9, 12, 13], [], []⟩ rfl rfl (by decide +kernel) rfl trivial ?_
      refine K_sub (F' := [(36, Ptr wb 0), (37, Ptr wb 0), (38, Ptr wb 0), (39, Ptr wb 1), (40, Slc gq 0 q cpq), (41, U64 nv), (42, I64 (-(q:Int) + 7)), (43, I64 (-8*(q:Int) + 56)), (44, U64 (nv >>> UInt64.ofNat (56 - 8*q))), (45, U8 ((nv >>> UInt64.ofNat (56 - 8*q)).toUInt8)), (46, Slc nb3 0 1 1), (47, Slc nb4 0 (q + 1) cp2), (48, Ptr wb 0), (49, Ptr wb 1), (0, Ptr wb 0), (1, U64 nv), (6, .pointer none), (7, I64 (-(q:Int) + 7)), (32, I64 (-(q:Int) + 7)), (33, .bool (decide ((0:Int) ≤ (-(q:Int) + 7))))]) (Sub.cons (by kernel_rfl) (Sub.cons (by kernel_rfl) (Sub.cons (by kernel_rfl) (Sub.cons (by kernel_rfl) (Sub.cons (by kernel_rfl) (Sub.cons (by kernel_rfl) (Sub.cons (by kernel_rfl) (Sub.cons (by kernel_rfl) (Sub.cons (by kernel_rfl) (Sub.cons (by kernel_rfl) (Sub.cons (by kernel_rfl) (Sub.cons (by kernel_rfl) (Sub.cons (by kernel_rfl) (Sub.cons (by kernel_rfl) (Sub.cons (by kernel_rfl) (Sub.cons (by kernel_rfl) (Sub.cons (by kernel_rfl) (Sub.cons (by kernel_rfl) (Sub.cons (by kernel_rfl) (Sub.cons (by kernel_rfl) (Sub.nil))))))))))))))))))))) ?_
      show JQ _ _ _ [(36, Ptr wb 0), (37, Ptr wb 0), (38, Ptr wb 0), (39, Ptr wb 1), (40, Slc gq 0 q cpq), (41, U64 nv), (42, I64 (-(q:Int) + 7)), (43, I64 (-8*(q:Int) + 56)), (44, U64 (nv >>> UInt64.ofNat (56 - 8*q))), (45, U8 ((nv >>> UInt64.ofNat (56 - 8*q)).toUInt8)), (46, Slc nb3 0 1 1), (47, Slc nb4 0 (q + 1) cp2), (48, Ptr wb 0), (49, Ptr wb 1), (0, Ptr wb 0), (1, U64 nv), (6, .pointer none), (7, I64 (-(q:Int) + 7)), (32, I64 (-(q:Int) + 7)), (33, .bool (decide ((0:Int) ≤ (-(q:Int) + 7))))] _
      refine JQ_in_normal ?_
      refine JQ_then ?_
      refine JC_region ?_
      refine JL_val _ (Ev_move rfl) rfl ?_
      refine JL_val (I64 (-(q:Int) + 6)) (Ev_bini rfl rfl fun _ => bin_sub_i _ _ (-(q:Int) + 6) (by omega) (by omega)) rfl ?_
      refine JL_val _ (Ev_assign rfl) rfl ?_
      refine JL_nil ?_
      refine JQ_thenK ?_
      refine K_mask [true, false, true] ?_
      show K _ _ [⟨wb, [.nilIface, Slc nb4 0 (q + 1) cp2], 149, (0, 0)⟩, ⟨nb4, cu8 (oq ++ ([(nv >>> UInt64.ofNat (56 - 8*q)).toUInt8])) ++ sp2, 5, (0, 0)⟩] _
      refine K_next (.inr (q + 1, oq ++ ([(nv >>> UInt64.ofNat (56 - 8*q)).toUInt8]), nb4, sp2, cp2)) ⟨by omega, by omega, by rw [numN_succ, ← hx2], (ha5).trans (by first | rfl | simp +arith), (ha6).trans (by first | rfl | simp +arith), by omega, ha8⟩ (by first | (simp; omega) | simp | (dsimp only; omega) | omega) (Sub.cons rfl (Sub.cons rfl (Sub.cons rfl (Sub.cons (some_i64 (by omega)) (Sub.nil))))) rfl
    ·
      have hp1 : ¬ ((0:Int) ≤ (-(q:Int) + 7)) := of_decide_eq_false hb1
      refine JC_exit ?_
      refine JQ_then_exit ?_
      refine JQ_then_exit ?_
      refine JQ_in_same ?_
      refine JQ_then ?_
      refine JC_seq ?_
      refine JC_region ?_
      refine JL_val _ (Ev_move rfl) rfl ?_
      refine JL_val _ (Ev_assign rfl) rfl ?_
      refine JL_nil ?_
      refine JQ_then ?_
      refine JC_ret ?_
      refine JQ_ret (Ptr wb 0) (res1 Tryd.results81 (RV_tmp rfl)) fun w1 hw1 => ?_
      have e1 : q = 8 := by omega
      rw [hx2, e1] at hw1
      exact ⟨_, _, rfl, ⟨rfl, gq, spq, cpq, by rw [slc_len (show 8 = q by omega)], by omega, by omega, hx6⟩, hw1⟩

theorem done_c (wb gb n cap0 : Nat) (o : List UInt8) (w : World) (hw : RdA w wb 0 [.nilIface, Slc gb 0 n cap0]) (ho : o.length = n) (hn : n ≤ 1000000) (hr : RdB w [] (some ⟨gb, 0, none⟩) o) : Calls Tryd.prog 83 #[Ptr wb 0] w (Post w [] (fun v L => ∃ g sp cap, v = .tuple #[Slc g 0 n cap, .nilIface] ∧ L = [⟨g, cu8 o ++ sp, 5, (0, 0)⟩] ∧ sp.length = cap - n ∧ n ≤ cap ∧ cap ≤ maxLen)) := by
  refine enter w [] 25 [] [Ptr wb 0] Tryd.func83 rfl rfl (by simp) (Hp.start (by simp) (by simp) (by simp)) ?_
  show JC _ _ _ [(0, Ptr wb 0)] _
  refine JC_seq ?_
  refine JC_region ?_
  refine JL_val _ (Ev_assign rfl) rfl ?_
  refine JL_val _ (Ev_assign rfl) rfl ?_
  refine JL_nil ?_
  refine JQ_then ?_
  refine JC_seq ?_
  refine JC_block ?_
  refine JC_seq ?_
  refine JC_region ?_
  refine JL_val _ (Ev_move rfl) rfl ?_
  refine JL_val (.bool false) (Ev_bin _ _ _ rfl rfl (fun _ => eqGuard_ptr ..) fun _ => eql_ptr_nil Tryd.underlying145) rfl ?_
  refine JL_val _ (Ev_assign rfl) rfl ?_
  refine JL_nil ?_
  refine JQ_then ?_
  refine JC_condF _ rfl rfl ?_
  refine JC_seq ?_
  refine JC_region ?_
  refine JL_val _ (Ev_move rfl) rfl ?_
  refine JL_val _ (Ev_nilCheck rfl) rfl ?_
  refine JL_val (Ptr wb 0) (Ev_fieldAddr 0 147 1 Tryd.underlying149 rfl Tryd.sizeOf147 rfl rfl) rfl ?_
  refine JL_val (Ptr wb 0) (Ev_fieldAddr 0 45 1 Tryd.underlying147 rfl Tryd.sizeOf45 rfl rfl) rfl ?_
  refine JL_val (.nilIface) (Ev_load rfl (Ld_one Tryd.isAgg45 (MemAt.seg (hw.mem (by simp)) (Seg.head) (by omega)))) rfl ?_
  refine JL_val (.bool false) (Ev_bin _ _ _ rfl rfl (fun _ => eqGuard_nn ..) fun _ => neq_if_nil_nil Tryd.underlying45) rfl ?_
  refine JL_val _ (Ev_assign rfl) rfl ?_
  refine JL_nil ?_
  refine JQ_then ?_
  refine JC_condF _ rfl rfl ?_
  refine JC_skip ?_
  refine JQ_in_normal ?_
  refine JQ_then ?_
  refine JC_seq ?_
  refine JC_region ?_
  refine JL_val _ (Ev_move rfl) rfl ?_
  refine JL_val _ (Ev_nilCheck rfl) rfl ?_
  refine JL_val (Ptr wb 1) (Ev_fieldAddr 1 43 1 Tryd.underlying149 rfl Tryd.sizeOf43 rfl rfl) rfl ?_
  refine JL_val (.slice (some ⟨gb, 0, none⟩) n cap0) (Ev_load rfl (Ld_one Tryd.isAgg43 (MemAt.seg (hw.mem (by simp)) (Seg.tail (Seg.head)) (by omega)))) rfl ?_
  refine JL_step (Step_callN 108 [.slice (some ⟨gb, 0, none⟩) n cap0] _ (Cl_func [.slice (some ⟨gb, 0, none⟩) n cap0] Tryd.call108 rfl) (fun w1 hw1 => sclone_c (some ⟨gb, 0, none⟩) n cap0 o w1 rfl ho (by omega) (hr.at (M' := []) hw1 (by simp)))) rfl ?_
  rintro v1 L1 ⟨_, ⟨nb1, sp1, cp1, rfl, rfl, hc1, hc2, hc3⟩, rfl⟩
  show JL _ _ _ _ ((24, Slc nb1 0 n cp1) :: _) [⟨nb1, cu8 o ++ sp1, 5, (0, 0)⟩]
  refine JL_val _ (Ev_assign rfl) rfl ?_
  refine JL_val _ (Ev_assign rfl) rfl ?_
  refine JL_nil ?_
  refine JQ_then ?_
  refine JC_ret ?_
  refine JQ_ret (.tuple #[Slc nb1 0 n cp1, .nilIface]) (res2 Tryd.results83 (RV_tmp rfl) (RV_tmp rfl)) fun w1 hw1 => ?_
  exact ⟨_, _, rfl, ⟨nb1, sp1, cp1, rfl, rfl, hc1, hc2, hc3⟩, hw1.sub (by simp) (by simp)⟩

theorem rnum_c (nv : UInt64) (w : World) : Calls Tryd.prog 88 #[U64 nv, I64 (8:Int)] w (Post w [] (fun v L => ∃ g, v = Slc g 0 8 8 ∧ L = [⟨g, cu8 (numN 8 nv 8), 5, (0, 0)⟩])) := by
  refine enter w [] 24 [] [U64 nv, I64 (8:Int)] Tryd.func88 rfl rfl (by simp) (Hp.start (by simp) (by simp) (by simp)) ?_
  show JC _ _ _ [(0, U64 nv), (1, I64 (8:Int))] _
  refine JC_seq ?_
  refine JC_region ?_
  refine JL_val _ (Ev_assign rfl) rfl ?_
  refine JL_nil ?_
  refine JQ_then ?_
  refine JC_seq ?_
  refine JC_region ?_
  refine JL_val _ (Ev_move rfl) rfl ?_
  refine JL_step (Step_make8 5 1 8 8 Tryd.underlying43 Tryd.info5 rfl rfl (by omega) (by omega) (by unfold maxLen; omega)) rfl ?_
  rintro v1 L1 ⟨nb1, hnb1, rfl, rfl⟩
  show JL _ _ _ _ ((8, Slc nb1 0 8 8) :: _) [⟨nb1, cu8 (zr8 8), 5, (0, 0)⟩]
  refine JL_val _ (Ev_assign rfl) rfl ?_
  refine JL_nil ?_
  refine JQ_then ?_
  refine JC_seq ?_
  refine JC_seq ?_
  refine JC_region ?_
  refine JL_val _ (Ev_move rfl) rfl ?_
  refine JL_val (I64 (7:Int)) (Ev_bini rfl rfl fun _ => bin_sub_i _ _ (7:Int) (by omega) (by omega)) rfl ?_
  refine JL_val _ (Ev_assign rfl) rfl ?_
  refine JL_nil ?_
  refine JQ_then ?_
  refine JC_block ?_
  refine JC_loop (ι := Nat × List UInt8 × UInt64) (fun ⟨j, o, y⟩ => [(4, .slice none 0 0), (5, Slc nb1 0 8 8), (6, I64 (-(j:Int) + 7)), (0, U64 y)]) (fun ⟨j, o, y⟩ => [⟨nb1, cu8 o, 5, (0, 0)⟩]) (fun ⟨j, o, y⟩ => j ≤ 8 ∧ o = (rnN nv j).1 ∧ y = (rnN nv j).2 ∧ o.length = 8) (fun ⟨j, o, y⟩ => 8 - j) (0, zr8 8, nv) ⟨by omega, by rw [rnN], by rw [rnN], zr8_len 8⟩ (Sub.cons rfl (Sub.cons rfl (Sub.cons (some_i64 (by omega)) (Sub.cons rfl (Sub.nil))))) rfl ?_
  rintro ⟨j, o, y⟩ ⟨hx1, hx2, hx3, ho⟩
  show JC _ _ _ [(4, .slice none 0 0), (5, Slc nb1 0 8 8), (6, I64 (-(j:Int) + 7)), (0, U64 y)] [⟨nb1, cu8 o, 5, (0, 0)⟩]
  refine JC_seq ?_
  refine JC_seq ?_
  refine JC_region ?_
  refine JL_val _ (Ev_move rfl) rfl ?_
  refine JL_val (.bool (decide ((0:Int) ≤ (-(j:Int) + 7)))) (Ev_bini rfl rfl fun _ => bin_geq_i _ _) rfl ?_
  refine JL_nil ?_
  refine JQ_then ?_
  refine JC_cond (decide ((0:Int) ≤ (-(j:Int) + 7))) rfl (fun hb1 => ?_) (fun hb1 => ?_)
  ·
    have hp1 : (0:Int) ≤ (-(j:Int) + 7) := of_decide_eq_true hb1
    refine JC_skip ?_
    refine JQ_then ?_
    refine JC_seq ?_
    refine JC_block ?_
    refine JC_seq ?_
    refine JC_region ?_
    refine JL_val _ (Ev_move rfl) rfl ?_
    refine JL_val _ (Ev_move rfl) rfl ?_
    refine JL_val _ (Ev_move rfl) rfl ?_
    refine JL_val (U64 (y % (256:UInt64))) (Ev_bini rfl rfl fun _ => bin_rem_u64 y (256:UInt64) (by decide)) rfl ?_
    refine JL_val (U8 ((y % (256:UInt64)).toUInt8)) (Ev_conv _ _ rfl fun _ => conv_u64_u8 (by rw [Tryd.underlying22]; rfl) Tryd.underlying5 _) rfl ?_
    refine JL_val (Ptr nb1 (7 - j)) (Ev_indexSl 5 1 (7 - j) Tryd.underlying43 Tryd.sizeOf5 rfl rfl (by omega) (by omega) (by omega)) rfl ?_
    have hl1 : (o.set (7 - j) ((y % (256:UInt64)).toUInt8)).length = 8 := by first | (rw [List.length_set]; exact ho) | simp [ho]
    refine JL_step (Step_store 0 nb1 (7 - j) 1 (cu8 o) 5 (U8 ((y % (256:UInt64)).toUInt8)) ([U8 ((y % (256:UInt64)).toUInt8)]) (cu8 (o.set (7 - j) ((y % (256:UInt64)).toUInt8))) rfl rfl rfl rfl Tryd.sizeOf5 rfl (by simp [Value.oneCell']) (by simp [ho]; try omega) (lay8 _ _ _ (by rw [ho]; omega))) rfl ?_
    rintro v1 L1 ⟨rfl, rfl⟩
    show JL _ _ _ _ _ [⟨nb1, cu8 (o.set (7 - j) ((y % (256:UInt64)).toUInt8)), 5, (0, 0)⟩]
    refine JL_nil ?_
    refine JQ_then ?_
    refine JC_region ?_
    refine JL_val _ (Ev_move rfl) rfl ?_
    refine JL_val (U64 (y / (256:UInt64))) (Ev_bini rfl rfl fun _ => bin_quo_u64 y (256:UInt64) (by decide)) rfl ?_
    refine JL_val _ (Ev_assign rfl) rfl ?_
    refine JL_nil ?_
    refine JQ_in_normal ?_
    refine JQ_then ?_
    refine JC_region ?_
    refine JL_val _ (Ev_move rfl) rfl ?_
    refine JL_val (I64 (-(j:Int) + 6)) (Ev_bini rfl rfl fun _ => bin_sub_i _ _ (-(j:Int) + 6) (by omega) (by omega)) rfl ?_
    refine JL_val _ (Ev_assign rfl) rfl ?_
    refine JL_nil ?_
    refine JQ_thenK ?_
    refine K_next (j + 1, o.set (7 - j) ((y % (256:UInt64)).toUInt8), y / (256:UInt64)) ⟨by omega, by rw [rnN, ← hx2, ← hx3], by rw [rnN, ← hx3], hl1⟩ (by first | (simp; omega) | simp | (dsimp only; omega) | omega) (Sub.cons rfl (Sub.cons rfl (Sub.cons (some_i64 (by omega)) (Sub.cons rfl (Sub.nil))))) rfl
  ·
    have hp1 : ¬ ((0:Int) ≤ (-(j:Int) + 7)) := of_decide_eq_false hb1
    refine JC_exit ?_
    refine JQ_then_exit ?_
    refine JQ_then_exit ?_
    refine JQ_in_same ?_
    refine JQ_then ?_
    refine JC_seq ?_
    refine JC_region ?_
    refine JL_val _ (Ev_move rfl) rfl ?_
    refine JL_val _ (Ev_assign rfl) rfl ?_
    refine JL_nil ?_
    refine JQ_then ?_
    refine JC_ret ?_
    refine JQ_ret (Slc nb1 0 8 8) (res1 Tryd.results88 (RV_tmp rfl)) fun w1 hw1 => ?_
    have e1 : j = 8 := by omega
    rw [hx2, e1, rnN_num] at hw1
    exact ⟨_, _, rfl, ⟨_, rfl, rfl⟩, hw1.sub (by simp) (by simp)⟩

end Go.Proofs.YtkdpdgpphpngeaaDoor
namespace Go.Proofs.YtkdpdgpphpngeaaDoor
open Go Go.Sx
set_option linter.unusedVariables false
set_option linter.unusedSimpArgs false
set_option maxRecDepth 100000
attribute [local irreducible] mid zr8 zr32 rotr wordL spreadL comprL cpN adN spN wrdN constL initL padL stN outN routN hashL sumG blkL xbN raN macL orN numN rnN
theorem session_c (s : List UInt8) (x : UInt64) (w : World) (hs : s.length = 32) (hG : GLs w) : Calls Tryd.prog 89 #[.agg (cu8 s).toArray, U64 x] w (Post w [] (fun v L => v = .agg (cu8 (macL s (numN 8 x 8))).toArray ∧ L = [])) := by
  have hmx : maxLen = 9223372036854775807 := rfl
  refine enter w [] 24 [] [.agg (cu8 s).toArray, U64 x] Tryd.func89 rfl rfl (by simp) (Hp.start (by simp) (by simp) (by simp)) ?_
  show JC _ _ _ [(0, .agg (cu8 s).toArray), (1, U64 x)] _
  refine JC_seq ?_
  refine JC_region ?_
  refine JL_step (Step_box (.agg (cu8 s).toArray) (cu8 s) rfl (by first | rfl | simp)) rfl ?_
  rintro v1 L1 ⟨nb1, hnb1, rfl, rfl⟩
  show JL _ _ _ _ ((2, Ptr nb1 0) :: _) [⟨nb1, cu8 s, 54, (0, 0)⟩]
  refine JL_step (Step_alloc _ (cu8 (zr8 32)) Tryd.zeroValue54 (by kernel_rfl)) rfl ?_
  rintro v1 L1 ⟨nb2, hnb2, rfl, rfl⟩
  show JL _ _ _ _ ((4, Ptr nb2 0) :: _) [⟨nb1, cu8 s, 54, (0, 0)⟩, ⟨nb2, cu8 (zr8 32), 54, (0, 0)⟩]
  refine JL_nil ?_
  refine JQ_then ?_
  refine JC_seq ?_
  refine JC_region ?_
  refine JL_val (.agg (List.toArray (α := Value) ([.nilIface, .slice none 0 0]))) (Ev_build [] _ rfl (fun _ => by kernel_rfl)) rfl ?_
  refine JL_step (Step_box (.agg (List.toArray (α := Value) ([.nilIface, .slice none 0 0]))) ([.nilIface, .slice none 0 0]) rfl (by first | rfl | simp)) rfl ?_
  rintro v1 L1 ⟨nb3, hnb3, rfl, rfl⟩
  show JL _ _ _ _ ((9, Ptr nb3 0) :: _) [⟨nb1, cu8 s, 54, (0, 0)⟩, ⟨nb2, cu8 (zr8 32), 54, (0, 0)⟩, ⟨nb3, [.nilIface, .slice none 0 0], 149, (0, 0)⟩]
  refine JL_val _ (Ev_assign rfl) rfl ?_
  refine JL_nil ?_
  refine JQ_then ?_
  refine JC_seq ?_
  refine JC_region ?_
  refine JL_val _ (Ev_move rfl) rfl ?_
  refine JL_val _ (Ev_move rfl) rfl ?_
  refine JL_step (Step_call 81 _ [false, false, true] [nb3] _ (Cl_func [Ptr nb3 0, U64 x, I64 (8:Int)] Tryd.call81 rfl) rfl (fun w1 hw1 => num8N_c nb3 x w1 (hw1.ent _ (List.mem_of_getElem? (i := 2) rfl)))) rfl ?_
  rintro v1 L1 ⟨_, ⟨rfl, nb4, sp1, cp1, rfl, hc1, hc2, hc3⟩, rfl⟩
  show JL _ _ _ _ ((13, Ptr nb3 0) :: _) [⟨nb1, cu8 s, 54, (0, 0)⟩, ⟨nb2, cu8 (zr8 32), 54, (0, 0)⟩, ⟨nb3, [.nilIface, Slc nb4 0 8 cp1], 149, (0, 0)⟩, ⟨nb4, cu8 (numN 8 x 8) ++ sp1, 5, (0, 0)⟩]
  refine JL_step (Step_callN 83 [Ptr nb3 0] _ (Cl_func [Ptr nb3 0] Tryd.call83 rfl) (fun w1 hw1 => done_c nb3 nb4 8 cp1 (numN 8 x 8) w1 (RdA.of hw1 (MemAt.ent 2 rfl (Seg.whole _)) (by simp)) (numN_len _ _ _) (by omega) (RdB.of hw1 (MemAt.ent 3 rfl (Seg.left (Seg.whole _))) (by simp)))) rfl ?_
  rintro v1 L1 ⟨_, ⟨nb5, sp2, cp2, rfl, rfl, hc4, hc5, hc6⟩, rfl⟩
  show JL _ _ _ _ ((14, .tuple #[Slc nb5 0 8 cp2, .nilIface]) :: _) [⟨nb1, cu8 s, 54, (0, 0)⟩, ⟨nb2, cu8 (zr8 32), 54, (0, 0)⟩, ⟨nb3, [.nilIface, Slc nb4 0 8 cp1], 149, (0, 0)⟩, ⟨nb4, cu8 (numN 8 x 8) ++ sp1, 5, (0, 0)⟩, ⟨nb5, cu8 (numN 8 x 8) ++ sp2, 5, (0, 0)⟩]
  refine JL_val _ (Ev_move rfl) rfl ?_
  refine JL_val _ (Ev_extract rfl rfl) rfl ?_
  refine JL_val _ (Ev_extract rfl rfl) rfl ?_
  refine JL_val _ (Ev_assign rfl) rfl ?_
  refine JL_val _ (Ev_assign rfl) rfl ?_
  refine JL_nil ?_
  refine JQ_then ?_
  refine JC_seq ?_
  refine JC_seq ?_
  refine JC_region ?_
  refine JL_val _ (Ev_move rfl) rfl ?_
  refine JL_val (.bool false) (Ev_bin _ _ _ rfl rfl (fun _ => eqGuard_nn ..) fun _ => neq_if_nil_nil Tryd.underlying45) rfl ?_
  refine JL_nil ?_
  refine JQ_then ?_
  refine JC_condF _ rfl rfl ?_
  refine JC_skip ?_
  refine JQ_then ?_
  refine JC_seq ?_
  refine JC_region ?_
  refine JL_val (Slc nb1 0 32 32) (Ev_sliceA 32 5 1 0 32 0 32 Tryd.underlying54 Tryd.sizeOf5 rfl rfl rfl (by omega) (by omega) (by omega) (by omega) (by omega) 32 (by omega)) rfl ?_
  refine JL_val _ (Ev_move rfl) rfl ?_
  refine JL_step (Step_buildSlice 43 1 _ [(0, Slc nb5 0 8 cp2)] ([Slc nb5 0 8 cp2]) Tryd.underlying230 Tryd.sizeOf43 Tryd.zeroValue43 rfl rfl rfl (by kernel_rfl)) rfl ?_
  rintro v1 L1 ⟨nb6, hnb6, rfl, rfl⟩
  show JL _ _ _ _ ((22, Slc nb6 0 1 1) :: _) [⟨nb1, cu8 s, 54, (0, 0)⟩, ⟨nb2, cu8 (zr8 32), 54, (0, 0)⟩, ⟨nb3, [.nilIface, Slc nb4 0 8 cp1], 149, (0, 0)⟩, ⟨nb4, cu8 (numN 8 x 8) ++ sp1, 5, (0, 0)⟩, ⟨nb5, cu8 (numN 8 x 8) ++ sp2, 5, (0, 0)⟩, ⟨nb6, [Slc nb5 0 8 cp2], 43, (0, 0)⟩]
  refine JL_step (Step_callP 145 [Slc nb1 0 32 32, Slc nb6 0 1 1] (.agg (cu8 (macL s ([numN 8 x 8].flatten))).toArray) (Cl_func [Slc nb1 0 32 32, Slc nb6 0 1 1] Tryd.call145 rfl) (fun w1 hw1 => mac_c (some ⟨nb1, 0, none⟩) 32 32 s nb6 1 [Slc nb5 0 8 cp2] [numN 8 x 8] w1 hs (fun h => by cases h) (by omega) (RdB.of hw1 (MemAt.ent 0 rfl (Seg.whole _)) (by simp)) (by simp) (by simp) (by simp) ⟨RdA.of hw1 (MemAt.ent 5 rfl (Seg.head)) (by simp), ⟨⟨(some ⟨nb5, 0, none⟩), cp2, congrArg (fun n => Value.slice (some ⟨nb5, 0, none⟩) n cp2) ((numN_len _ _ _)).symm, (RdB.of hw1 (MemAt.ent 4 rfl (Seg.left (Seg.whole _))) (by simp))⟩, trivial⟩⟩ (by simp only [List.flatten_cons, List.flatten_nil, List.length_append, List.length_nil, (numN_len _ _ _)]; omega) (hG.at hw1))) rfl ?_
  rintro v1 L1 ⟨rfl, rfl⟩
  show JL _ _ _ _ ((23, .agg (cu8 (macL s ([numN 8 x 8].flatten))).toArray) :: _) [⟨nb1, cu8 s, 54, (0, 0)⟩, ⟨nb2, cu8 (zr8 32), 54, (0, 0)⟩, ⟨nb3, [.nilIface, Slc nb4 0 8 cp1], 149, (0, 0)⟩, ⟨nb4, cu8 (numN 8 x 8) ++ sp1, 5, (0, 0)⟩, ⟨nb5, cu8 (numN 8 x 8) ++ sp2, 5, (0, 0)⟩, ⟨nb6, [Slc nb5 0 8 cp2], 43, (0, 0)⟩]
  refine JL_step (Step_store 1 nb2 0 32 (cu8 (zr8 32)) 54 (.agg (cu8 (macL s ([numN 8 x 8].flatten))).toArray) (cu8 (macL s ([numN 8 x 8].flatten))) (cu8 (macL s ([numN 8 x 8].flatten))) rfl rfl rfl (by first | rfl | simp) Tryd.sizeOf54 (len_cu8 (macL_len _ _)) (by first | exact one_u8 | exact one_u32 | exact one_u64 | (simp [cu8, cu32, cu64, Value.oneCell']; done)) (by simp [(zr8_len 32)]) (lay_whole (by simp [(zr8_len 32), (macL_len _ _)]))) rfl ?_
  rintro v1 L1 ⟨rfl, rfl⟩
  show JL _ _ _ _ _ [⟨nb1, cu8 s, 54, (0, 0)⟩, ⟨nb2, cu8 (macL s ([numN 8 x 8].flatten)), 54, (0, 0)⟩, ⟨nb3, [.nilIface, Slc nb4 0 8 cp1], 149, (0, 0)⟩, ⟨nb4, cu8 (numN 8 x 8) ++ sp1, 5, (0, 0)⟩, ⟨nb5, cu8 (numN 8 x 8) ++ sp2, 5, (0, 0)⟩, ⟨nb6, [Slc nb5 0 8 cp2], 43, (0, 0)⟩]
  refine JL_nil ?_
  refine JQ_then ?_
  refine JC_ret ?_
  refine JQ_ret (.agg (cu8 (macL s ([numN 8 x 8].flatten))).toArray) (res1 Tryd.results89 (RV_cell rfl (Ld_agg Tryd.isAgg54 Tryd.sizeOf54 (len_cu8 (macL_len _ _)) (MemAt.ent 1 rfl (Seg.whole _))))) fun w1 hw1 => ?_
  refine ⟨_, [], rfl, ⟨?_, rfl⟩, hw1.sub (by simp) (by simp)⟩
  first | rfl | (simp; done)

theorem rsession_c (s : List UInt8) (x : UInt64) (w : World) (hs : s.length = 32) (hGr : GLr w) (hGi : GLi w) : Calls Tryd.prog 91 #[.agg (cu8 s).toArray, U64 x] w (Post w [] (fun v L => v = .agg (cu8 (macL s (numN 8 x 8))).toArray ∧ L = [])) := by
  have hmx : maxLen = 9223372036854775807 := rfl
  refine enter w [] 9 [] [.agg (cu8 s).toArray, U64 x] Tryd.func91 rfl rfl (by simp) (Hp.start (by simp) (by simp) (by simp)) ?_
  show JC _ _ _ [(0, .agg (cu8 s).toArray), (1, U64 x)] _
  refine JC_seq ?_
  refine JC_region ?_
  refine JL_step (Step_box (.agg (cu8 s).toArray) (cu8 s) rfl (by first | rfl | simp)) rfl ?_
  rintro v1 L1 ⟨nb1, hnb1, rfl, rfl⟩
  show JL _ _ _ _ ((2, Ptr nb1 0) :: _) [⟨nb1, cu8 s, 54, (0, 0)⟩]
  refine JL_step (Step_alloc _ (cu8 (zr8 32)) Tryd.zeroValue54 (by kernel_rfl)) rfl ?_
  rintro v1 L1 ⟨nb2, hnb2, rfl, rfl⟩
  show JL _ _ _ _ ((4, Ptr nb2 0) :: _) [⟨nb1, cu8 s, 54, (0, 0)⟩, ⟨nb2, cu8 (zr8 32), 54, (0, 0)⟩]
  refine JL_nil ?_
  refine JQ_then ?_
  refine JC_seq ?_
  refine JC_draw 9 4 [(0, Slc nb1 0 32 32), (1, U64 x)] Tryd.mixed rfl (by decide +kernel) ?_
  refine DP_one ⟨[], [0, 1], [], [0, 1], [2]⟩ 2 _ rfl rfl (by decide +kernel) rfl ⟨⟨_, rfl, Qok_val rfl (Ev_sliceA 32 5 1 0 32 0 32 Tryd.underlying54 Tryd.sizeOf5 rfl rfl rfl (by omega) (by omega) (by omega) (by omega) (by omega) 32 (by omega))⟩, ⟨_, rfl, Qok_val rfl (Ev_move rfl)⟩, trivial⟩ rfl (Cok_step rfl (Step_callN 88 [U64 x, I64 (8:Int)] _ (Cl_func [U64 x, I64 (8:Int)] Tryd.call88 rfl) (fun w1 hw1 => rnum_c x w1))) ?_
  rintro v1 L1 ⟨_, ⟨nb3, rfl, rfl⟩, rfl⟩
  refine ⟨[], ?_⟩
  show DP _ _ _ _ _ _ _ _ [⟨nb1, cu8 s, 54, (0, 0)⟩, ⟨nb2, cu8 (zr8 32), 54, (0, 0)⟩, ⟨nb3, cu8 (numN 8 x 8), 5, (0, 0)⟩]
  refine DP_one ⟨[2], [0, 1], [1], [0], [3]⟩ 3 _ rfl rfl (by decide +kernel) rfl ⟨⟨_, rfl, Qok_val rfl (Ev_sliceA 32 5 1 0 32 0 32 Tryd.underlying54 Tryd.sizeOf5 rfl rfl rfl (by omega) (by omega) (by omega) (by omega) (by omega) 32 (by omega))⟩, trivial⟩ rfl (Cok_step rfl (Step_callP 92 [Slc nb1 0 32 32, Slc nb3 0 8 8] (.agg (cu8 (macL s (numN 8 x 8))).toArray) (Cl_func [Slc nb1 0 32 32, Slc nb3 0 8 8] Tryd.call92 rfl) (fun w1 hw1 => rmac_c (some ⟨nb1, 0, none⟩) 32 32 s (some ⟨nb3, 0, none⟩) 8 8 (numN 8 x 8) w1 hs (fun h => by cases h) (by omega) (RdB.of hw1 (MemAt.ent 0 rfl (Seg.whole _)) (by simp)) (numN_len _ _ _) (by omega) (RdB.of hw1 (MemAt.ent 2 rfl (Seg.whole _)) (by simp)) (GLr.at hw1 hGr) (GLi.at hw1 hGi)))) ?_
  rintro v1 L1 ⟨rfl, rfl⟩
  refine ⟨[], ?_⟩
  show DP _ _ _ _ _ _ _ _ [⟨nb1, cu8 s, 54, (0, 0)⟩, ⟨nb2, cu8 (zr8 32), 54, (0, 0)⟩, ⟨nb3, cu8 (numN 8 x 8), 5, (0, 0)⟩]
  refine DP_one ⟨[2, 3], [0, 1], [0, 1], [], [4]⟩ 4 _ rfl rfl (by decide +kernel) rfl trivial rfl (Cok_step rfl (Step_store 1 nb2 0 32 (cu8 (zr8 32)) 54 (.agg (cu8 (macL s (numN 8 x 8))).toArray) (cu8 (macL s (numN 8 x 8))) (cu8 (macL s (numN 8 x 8))) rfl rfl rfl (by first | rfl | simp) Tryd.sizeOf54 (len_cu8 (macL_len _ _)) (by first | exact one_u8 | exact one_u32 | exact one_u64 | (simp [cu8, cu32, cu64, Value.oneCell']; done)) (by simp [(zr8_len 32)]) (lay_whole (by simp [(zr8_len 32), (macL_len _ _)])))) ?_
  rintro v1 L1 ⟨rfl, rfl⟩
  refine ⟨[], ?_⟩
  show DP _ _ _ _ _ _ _ _ [⟨nb1, cu8 s, 54, (0, 0)⟩, ⟨nb2, cu8 (macL s (numN 8 x 8)), 54, (0, 0)⟩, ⟨nb3, cu8 (numN 8 x 8), 5, (0, 0)⟩]
  refine DP_end ⟨[2, 3, 4], [0, 1], [0, 1], [], []⟩ rfl rfl (by decide +kernel) rfl trivial ?_
  refine K_sub (F' := [(4, Ptr nb2 0)]) (Sub.cons (by kernel_rfl) (Sub.nil)) ?_
  show JQ _ _ _ [(4, Ptr nb2 0)] _
  refine JQ_then ?_
  refine JC_ret ?_
  refine JQ_ret (.agg (cu8 (macL s (numN 8 x 8))).toArray) (res1 Tryd.results91 (RV_cell rfl (Ld_agg Tryd.isAgg54 Tryd.sizeOf54 (len_cu8 (macL_len _ _)) (MemAt.ent 1 rfl (Seg.whole _))))) fun w1 hw1 => ?_
  refine ⟨_, [], rfl, ⟨?_, rfl⟩, hw1.sub (by simp) (by simp)⟩
  first | rfl | (simp; done)

end Go.Proofs.YtkdpdgpphpngeaaDoor
namespace Go.Sx
open Go Go.RowKit
set_option linter.unusedVariables false
set_option linter.unusedSimpArgs false
def errV (T e : Nat) : Value := if e = 0 then .nilIface else .iface T (I64 e)
theorem errV_pos {T e : Nat} (h : e ≠ 0) : errV T e = .iface T (I64 e) := if_neg h
section
variable {P : Program} {w : World}
theorem eqGuard_errV (op : BinOp) (t : TypeId) (x : Operand) (v : Value) (T e : Nat) : (eqGuard op t x (.const v) (errV T e) .nilIface).run P w = .ok () w := by
  unfold errV
  split
  · exact eqGuard_nilc op t x v
  · exact eqGuard_if op t x _ _ _
theorem eql_errV {t : TypeId} {ms : Array (String × TypeId)} (hu : P.underlying t = some (.interface ms)) (T e : Nat) : (binOp .eql t (errV T e) .nilIface).run P w = .ok (.bool (decide (e = 0))) w := by
  by_cases h : e = 0
  · subst h; exact eql_if_nil_nil hu
  · rw [errV_pos h, decide_eq_false h]; exact eql_if_nil hu
theorem neq_errV {t : TypeId} {ms : Array (String × TypeId)} (hu : P.underlying t = some (.interface ms)) (T e : Nat) : (binOp .neq t (errV T e) .nilIface).run P w = .ok (.bool (!(decide (e = 0)))) w := by
  by_cases h : e = 0
  · subst h; exact neq_if_nil_nil hu
  · rw [errV_pos h, decide_eq_false h]; exact neq_if_nil hu
end
end Go.Sx
namespace Go.Proofs.YtkdpdgpphpngeaaDoor
open Go Go.Sx
set_option linter.unusedVariables false
set_option linter.unusedSimpArgs false
theorem ext8n {a b : List UInt8} (hl : a.length = b.length) (h : ∀ i, i < a.length → g8 a i = g8 b i) : a = b :=
  List.ext_getElem hl fun i h1 h2 => by
    have := h i h1
    rwa [g8_eq h1, g8_eq h2] at this
theorem g8_mr {f : Nat → UInt8} {n i : Nat} (h : i < n) : g8 ((List.range n).map f) i = f i := by
  rw [g8_eq (by simpa using h)]; simp
def numK (k : Nat) (x : UInt64) (j : Nat) : List UInt8 := (List.range j).map fun i => (x >>> UInt64.ofNat (8*k - 8*i - 8)).toUInt8
theorem numK_len (k : Nat) (x : UInt64) (j : Nat) : (numK k x j).length = j := by simp [numK]
theorem numK_zero (k : Nat) (x : UInt64) : numK k x 0 = [] := rfl
theorem numK_succ (k : Nat) (x : UInt64) (j : Nat) : numK k x (j + 1) = numK k x j ++ [(x >>> UInt64.ofNat (8*k - 8*j - 8)).toUInt8] := by
  simp [numK, List.range_succ]
theorem shr_divK (x : UInt64) (j : Nat) (h : j ≤ 7) : (x >>> UInt64.ofNat (8*j)).toNat = x.toNat / 256 ^ j := by
  have : (UInt64.ofNat (8*j)).toNat = 8*j := by rw [UInt64.toNat_ofNat']; exact Nat.mod_eq_of_lt (by omega)
  rw [UInt64.toNat_shiftRight, this, Nat.mod_eq_of_lt (by omega), Nat.shiftRight_eq_div_pow, Nat.pow_mul]
def valK (l : List UInt8) : Nat → UInt64
  | 0 => 0
  | j + 1 => (valK l j <<< 8) ||| (g8 l j).toUInt64
def rvalK (l : List UInt8) : Nat → UInt64
  | 0 => 0
  | j + 1 => rvalK l j * 256 + (g8 l j).toUInt64
theorem or_nat (a b : Nat) (hb : b < 256) : ((a * 256) ||| b) = a * 256 + b := by
  have h := Nat.shiftLeft_add_eq_or_of_lt (i := 8) (b := b) (by simpa using hb) a
  rw [Nat.shiftLeft_eq] at h
  exact h.symm
theorem shl_or (x : UInt64) (b : UInt8) : (x <<< 8) ||| b.toUInt64 = x * 256 + b.toUInt64 := by
  apply UInt64.toNat_inj.1
  have hx := UInt64.toNat_lt x
  have hb := UInt8.toNat_lt b
  rw [UInt64.toNat_or, UInt64.toNat_shiftLeft, UInt64.toNat_add, UInt64.toNat_mul, UInt8.toNat_toUInt64]
  show (x.toNat <<< (8 % 64)) % 2 ^ 64 ||| b.toNat = (x.toNat * 256 % 2 ^ 64 + b.toNat) % 2 ^ 64
  rw [Nat.shiftLeft_eq]
  have e : x.toNat * 2 ^ (8 % 64) % 2 ^ 64 = (x.toNat % 2 ^ 56) * 256 := by
    show x.toNat * 256 % 2 ^ 64 = _
    omega
  rw [e, or_nat _ _ (by omega)]
  omega
theorem rvalK_eq (l : List UInt8) : ∀ j, rvalK l j = valK l j
  | 0 => rfl
  | j + 1 => by rw [rvalK, valK, shl_or, rvalK_eq l j]
theorem valK_num (k : Nat) (x : UInt64) (hk : k ≤ 8) (hx : x.toNat / 256 ^ k = 0) : ∀ j, j ≤ k → (valK (numK k x k) j).toNat = x.toNat / 256 ^ (k - j)
  | 0, _ => by simp only [valK, Nat.sub_zero, hx]; rfl
  | j + 1, h => by
    have ih := valK_num k x hk hx j (by omega)
    have hl := UInt64.toNat_lt x
    rw [valK, shl_or, UInt64.toNat_add, UInt64.toNat_mul, ih, UInt8.toNat_toUInt64, numK, g8_mr (by omega), UInt64.toNat_toUInt8]
    have e : 8*k - 8*j - 8 = 8*(k - 1 - j) := by omega
    rw [e, shr_divK x _ (by omega)]
    have e2 : 256 ^ (k - j) = 256 ^ (k - 1 - j) * 256 := by rw [← Nat.pow_succ]; congr 1; omega
    have e3 : k - (j + 1) = k - 1 - j := by omega
    rw [e2, e3, ← Nat.div_div_eq_div_mul]
    have h4 : x.toNat / 256 ^ (k - 1 - j) ≤ x.toNat := Nat.div_le_self _ _
    generalize x.toNat / 256 ^ (k - 1 - j) = y at *
    show ((y / 256) * 256 % 2 ^ 64 + y % 2 ^ 8) % 2 ^ 64 = y
    omega
theorem valK_back (k : Nat) (x : UInt64) (hk : k ≤ 8) (hx : x.toNat / 256 ^ k = 0) : valK (numK k x k) k = x :=
  UInt64.toNat_inj.1 (by rw [valK_num k x hk hx k (Nat.le_refl _)]; simp)
theorem valK_congr {a b : List UInt8} : ∀ j, (∀ i, i < j → g8 a i = g8 b i) → valK a j = valK b j
  | 0, _ => rfl
  | j + 1, h => by rw [valK, valK, valK_congr j (fun i hi => h i (by omega)), h j (by omega)]
def hashL (z : List UInt8) : List UInt8 := (z ++ zr8 32).take 32
theorem hashL_len (z : List UInt8) : (hashL z).length = 32 := by simp [hashL, zr8]
def Szd (s : Int) : Prop := s = 1 ∨ s = 2 ∨ s = 4 ∨ s = 8
end Go.Proofs.YtkdpdgpphpngeaaDoor
namespace Go.Sx
open Go Go.RowKit
set_option linter.unusedVariables false
set_option linter.unusedSimpArgs false
variable {C : Cx} {F : Frm} {L : List Ent}
theorem Hp.apart {w0 w : World} {M : List Nat} {L : List Ent} (h : Hp w0 M L w) (is M' : List Nat) (hM : M' = is.filterMap (fun i => (L[i]?).map Ent.b)) : ∀ b, b < w0.heap.size → b ∉ M → b ∉ M' := fun b h1 h2 h3 => by
  subst hM
  obtain ⟨i, _, hi⟩ := List.mem_filterMap.1 h3
  obtain ⟨e, he, rfl⟩ := Option.map_eq_some_iff.1 hi
  rcases h.own e (List.mem_of_getElem? he) with h4 | h4
  · exact h2 h4
  · omega
theorem Ev_sliceHi {T : Nat} {x hi : Operand} {ty : TypeId} {ao : Option Addr} {l c : Nat} (e s j : Nat) (hu : C.P.underlying T = some (.slice e)) (hS : ∀ w, (sizeOf e).run C.P w = .ok s w) (hx : ev F x = some (.slice ao l c))
    (hh : ev F hi = some (I64 j)) (h2 : j ≤ c) : Ev C F L (.slice T x none (some hi) none) ty (.slice ao j c) := by
  have h := Ev_sliceG (ty := ty) (L := L) (lo := none) (hi := some hi) e s 0 j hu hS hx rfl hh (Nat.zero_le _) h2
  rw [Nat.zero_mul, addr_map, ite_self, Nat.sub_zero, Nat.sub_zero] at h
  exact h
theorem Ev_sliceLo {T : Nat} {x lo : Operand} {ty : TypeId} {ao : Option Addr} {l c : Nat} (e i n' c' : Nat) (hu : C.P.underlying T = some (.slice e)) (hS : ∀ w, (sizeOf e).run C.P w = .ok 1 w) (hx : ev F x = some (.slice ao l c))
    (hl : ev F lo = some (I64 i)) (h1 : i ≤ l) (h2 : l ≤ c) (hn : l - i = n') (hc : c - i = c') : Ev C F L (.slice T x (some lo) none none) ty (.slice (if c = i then ao else ao.map (·.add (i * 1))) n' c') := by
  subst hn; subst hc
  exact Ev_sliceG (ty := ty) (L := L) (lo := some lo) (hi := none) e 1 i l hu hS hx hl rfl h1 h2
end Go.Sx
namespace Go.Proofs.YtkdpdgpphpngeaaDoor
open Go Go.Sx
set_option linter.unusedVariables false
set_option linter.unusedSimpArgs false
set_option maxRecDepth 100000
attribute [local irreducible] mid zr8 zr32 numK valK rvalK
theorem sizedT_c (s : Int) (w : World) (hs : Szd s) : Calls Tryd.prog 143 #[I64 (s)] w (Post w [] (fun v L => v = .bool true ∧ L = [])) := by
  refine enter w [] 17 [] [I64 (s)] Tryd.func143 rfl rfl (by simp) (Hp.start (by simp) (by simp) (by simp)) ?_
  show JC _ _ _ [(0, I64 (s))] _
  refine JC_seq ?_
  refine JC_region ?_
  refine JL_val _ (Ev_assign rfl) rfl ?_
  refine JL_nil ?_
  refine JQ_then ?_
  refine JC_seq ?_
  refine JC_region ?_
  refine JL_val _ (Ev_move rfl) rfl ?_
  refine JL_val (.bool (decide ((s) = (1:Int)))) (Ev_bini rfl rfl fun _ => bin_eql_i _ _) rfl ?_
  refine JL_val _ (Ev_move rfl) rfl ?_
  rcases Bool.eq_false_or_eq_true (decide ((s) = (1:Int))) with hb1 | hb1
  ·
    have hp1 : (s) = (1:Int) := of_decide_eq_true hb1
    refine JL_gskip 2 5 false _ rfl rfl hb1 rfl ?_
    refine JL_gskip 2 5 false _ rfl rfl hb1 rfl ?_
    refine JL_val _ (Ev_pickT _ rfl hb1 rfl) rfl ?_
    refine JL_val _ (Ev_move rfl) rfl ?_
    refine JL_gskip 6 9 false _ rfl rfl rfl rfl ?_
    refine JL_gskip 6 9 false _ rfl rfl rfl rfl ?_
    refine JL_val _ (Ev_pickT _ rfl rfl rfl) rfl ?_
    refine JL_val _ (Ev_move rfl) rfl ?_
    refine JL_gskip 10 13 false _ rfl rfl rfl rfl ?_
    refine JL_gskip 10 13 false _ rfl rfl rfl rfl ?_
    refine JL_val _ (Ev_pickT _ rfl rfl rfl) rfl ?_
    refine JL_val _ (Ev_assign rfl) rfl ?_
    refine JL_nil ?_
    refine JQ_then ?_
    refine JC_ret ?_
    refine JQ_ret (.bool true) (res1 Tryd.results143 (RV_tmp rfl)) fun w1 hw1 => ?_
    exact ⟨_, [], rfl, ⟨by rw [show (true) = true from rfl], rfl⟩, hw1.sub (by simp) (by simp)⟩
  ·
    have hp1 : ¬ ((s) = (1:Int)) := of_decide_eq_false hb1
    refine JL_gval 2 5 false _ _ rfl rfl hb1 (Ev_move rfl) rfl ?_
    refine JL_gval 2 5 false _ (.bool (decide ((s) = (2:Int)))) rfl rfl hb1 (Ev_bini rfl rfl fun _ => bin_eql_i _ _) rfl ?_
    refine JL_val _ (Ev_pickF _ rfl hb1 rfl) rfl ?_
    refine JL_val _ (Ev_move rfl) rfl ?_
    rcases Bool.eq_false_or_eq_true (decide ((s) = (2:Int))) with hb2 | hb2
    ·
      have hp2 : (s) = (2:Int) := of_decide_eq_true hb2
      refine JL_gskip 6 9 false _ rfl rfl hb2 rfl ?_
      refine JL_gskip 6 9 false _ rfl rfl hb2 rfl ?_
      refine JL_val _ (Ev_pickT _ rfl hb2 rfl) rfl ?_
      refine JL_val _ (Ev_move rfl) rfl ?_
      refine JL_gskip 10 13 false _ rfl rfl rfl rfl ?_
      refine JL_gskip 10 13 false _ rfl rfl rfl rfl ?_
      refine JL_val _ (Ev_pickT _ rfl rfl rfl) rfl ?_
      refine JL_val _ (Ev_assign rfl) rfl ?_
      refine JL_nil ?_
      refine JQ_then ?_
      refine JC_ret ?_
      refine JQ_ret (.bool true) (res1 Tryd.results143 (RV_tmp rfl)) fun w1 hw1 => ?_
      exact ⟨_, [], rfl, ⟨by rw [show (true) = true from rfl], rfl⟩, hw1.sub (by simp) (by simp)⟩
    ·
      have hp2 : ¬ ((s) = (2:Int)) := of_decide_eq_false hb2
      refine JL_gval 6 9 false _ _ rfl rfl hb2 (Ev_move rfl) rfl ?_
      refine JL_gval 6 9 false _ (.bool (decide ((s) = (4:Int)))) rfl rfl hb2 (Ev_bini rfl rfl fun _ => bin_eql_i _ _) rfl ?_
      refine JL_val _ (Ev_pickF _ rfl hb2 rfl) rfl ?_
      refine JL_val _ (Ev_move rfl) rfl ?_
      rcases Bool.eq_false_or_eq_true (decide ((s) = (4:Int))) with hb3 | hb3
      ·
        have hp3 : (s) = (4:Int) := of_decide_eq_true hb3
        refine JL_gskip 10 13 false _ rfl rfl hb3 rfl ?_
        refine JL_gskip 10 13 false _ rfl rfl hb3 rfl ?_
        refine JL_val _ (Ev_pickT _ rfl hb3 rfl) rfl ?_
        refine JL_val _ (Ev_assign rfl) rfl ?_
        refine JL_nil ?_
        refine JQ_then ?_
        refine JC_ret ?_
        refine JQ_ret (.bool true) (res1 Tryd.results143 (RV_tmp rfl)) fun w1 hw1 => ?_
        exact ⟨_, [], rfl, ⟨by rw [show (true) = true from rfl], rfl⟩, hw1.sub (by simp) (by simp)⟩
      ·
        have hp3 : ¬ ((s) = (4:Int)) := of_decide_eq_false hb3
        refine JL_gval 10 13 false _ _ rfl rfl hb3 (Ev_move rfl) rfl ?_
        refine JL_gval 10 13 false _ (.bool (decide ((s) = (8:Int)))) rfl rfl hb3 (Ev_bini rfl rfl fun _ => bin_eql_i _ _) rfl ?_
        refine JL_val _ (Ev_pickF _ rfl hb3 rfl) rfl ?_
        refine JL_val _ (Ev_assign rfl) rfl ?_
        refine JL_nil ?_
        refine JQ_then ?_
        refine JC_ret ?_
        refine JQ_ret (.bool (decide ((s) = (8:Int)))) (res1 Tryd.results143 (RV_tmp rfl)) fun w1 hw1 => ?_
        exact ⟨_, [], rfl, ⟨congrArg Value.bool (decide_eq_true (by unfold Szd at hs; omega)), rfl⟩, hw1.sub (by simp) (by simp)⟩

theorem numN_c (wb tot : Nat) (ev : Value) (nv : UInt64) (k : Nat)  (w : World) (h0 : w.heap[wb]? = some (.cells [ev, .slice none 0 0].toArray 149 (0, 0))) (hs : Szd (k:Int)) (hx : k < 8 → nv >>> UInt64.ofNat (8*k) = 0) (ht : k = tot) : Calls Tryd.prog 81 #[Ptr wb 0, U64 nv, I64 ((k:Int))] w (Post w [wb] (fun v L => v = Ptr wb 0 ∧ ∃ g sp cap, L = [⟨wb, [ev, Slc g 0 tot cap], 149, (0, 0)⟩, ⟨g, cu8 (numK k nv k) ++ sp, 5, (0, 0)⟩] ∧ sp.length = cap - tot ∧ tot ≤ cap ∧ cap ≤ maxLen)) := by
  have hmx : maxLen = 9223372036854775807 := rfl
  have hs4 : k = 1 ∨ k = 2 ∨ k = 4 ∨ k = 8 := by unfold Szd at hs; omega
  refine enter w [wb] 51 [⟨wb, [ev, .slice none 0 0], 149, (0, 0)⟩] [Ptr wb 0, U64 nv, I64 ((k:Int))] Tryd.func81 rfl rfl (by simp) (Hp.start (by simpa using h0) (by simp) (by simp)) ?_
  show JC _ _ _ [(0, Ptr wb 0), (1, U64 nv), (2, I64 ((k:Int)))] _
  refine JC_seq ?_
  refine JC_region ?_
  refine JL_val _ (Ev_assign rfl) rfl ?_
  refine JL_nil ?_
  refine JQ_then ?_
  refine JC_seq ?_
  refine JC_seq ?_
  refine JC_region ?_
  refine JL_val _ (Ev_move rfl) rfl ?_
  refine JL_val (.bool false) (Ev_bin _ _ _ rfl rfl (fun _ => eqGuard_ptr ..) fun _ => eql_ptr_nil Tryd.underlying145) rfl ?_
  refine JL_nil ?_
  refine JQ_then ?_
  refine JC_condF _ rfl rfl ?_
  refine JC_skip ?_
  refine JQ_then ?_
  refine JC_seq ?_
  refine JC_seq ?_
  refine JC_region ?_
  refine JL_val _ (Ev_move rfl) rfl ?_
  refine JL_step (Step_callP 143 [I64 ((k:Int))] (.bool true) (Cl_func [I64 ((k:Int))] Tryd.call143 rfl) (fun w1 _ => sizedT_c ((k:Int)) w1 hs)) rfl ?_
  rintro v1 L1 ⟨rfl, rfl⟩
  show JL _ _ _ _ ((11, .bool true) :: _) [⟨wb, [ev, .slice none 0 0], 149, (0, 0)⟩]
  refine JL_val (.bool (!true)) (Ev_not rfl) rfl ?_
  refine JL_val _ (Ev_move rfl) rfl ?_
  refine JL_gval 3 13 false _ _ rfl rfl rfl (Ev_move rfl) rfl ?_
  refine JL_gval 3 13 false _ (.bool (decide (((k:Int)) < (8:Int)))) rfl rfl rfl (Ev_bini rfl rfl fun _ => bin_lss_i _ _) rfl ?_
  refine JL_gval 3 13 false _ _ rfl rfl rfl (Ev_move rfl) rfl ?_
  rcases Bool.eq_false_or_eq_true (decide (((k:Int)) < (8:Int))) with hb1 | hb1
  ·
    have hp1 : ((k:Int)) < (8:Int) := of_decide_eq_true hb1
    refine JL_gval 6 16 true _ _ rfl rfl hb1 (Ev_move rfl) rfl ?_
    refine JL_gval 6 16 true _ _ rfl rfl hb1 (Ev_move rfl) rfl ?_
    refine JL_gval 6 16 true _ (I64 (8*(k:Int))) rfl rfl hb1 (Ev_bini rfl rfl fun _ => bin_mul_i _ _ (8*(k:Int)) (by omega) (by omega)) rfl ?_
    refine JL_gval 6 16 true _ (U64 (nv >>> UInt64.ofNat (8*k))) rfl rfl hb1 (Ev_bini rfl rfl fun _ => bin_shr_u64 nv _ _ (8*k) (by omega) (by omega)) rfl ?_
    refine JL_gval 6 16 true _ (.bool (decide ((nv >>> UInt64.ofNat (8*k)) ≠ (0:UInt64)))) rfl rfl hb1 (Ev_bini rfl rfl fun _ => bin_neq_u64 (nv >>> UInt64.ofNat (8*k)) (0:UInt64)) rfl ?_
    refine JL_gval 3 13 false _ _ rfl rfl rfl (Ev_pickT _ rfl hb1 rfl) rfl ?_
    refine JL_val _ (Ev_pickF _ rfl rfl rfl) rfl ?_
    refine JL_nil ?_
    refine JQ_then ?_
    refine JC_condF _ rfl (decide_eq_false (fun h => h (hx (by omega)))) ?_
    refine JC_skip ?_
    refine JQ_then ?_
    refine JC_seq ?_
    refine JC_seq ?_
    refine JC_region ?_
    refine JL_val _ (Ev_move rfl) rfl ?_
    refine JL_val (I64 ((k:Int) - 1)) (Ev_bini rfl rfl fun _ => bin_sub_i _ _ ((k:Int) - 1) (by omega) (by omega)) rfl ?_
    refine JL_val _ (Ev_assign rfl) rfl ?_
    refine JL_nil ?_
    refine JQ_then ?_
    refine JC_block ?_
    refine JC_loop (ι := (Unit) ⊕ (Nat × List UInt8 × Nat × List Value × Nat)) (fun x => match x with | .inl _ => [(0, Ptr wb 0), (1, U64 nv), (6, .pointer none), (7, I64 ((k:Int) - 1))] | .inr ⟨q, oq, gq, spq, cpq⟩ => [(0, Ptr wb 0), (1, U64 nv), (6, .pointer none), (7, I64 ((k:Int) - (q:Int) - 1))]) (fun x => match x with | .inl _ => [⟨wb, [ev, .slice none 0 0], 149, (0, 0)⟩] | .inr ⟨q, oq, gq, spq, cpq⟩ => [⟨wb, [ev, Slc gq 0 q cpq], 149, (0, 0)⟩, ⟨gq, cu8 oq ++ spq, 5, (0, 0)⟩]) (fun x => match x with | .inl _ => True | .inr ⟨q, oq, gq, spq, cpq⟩ => 1 ≤ q ∧ q ≤ k ∧ oq = numK k nv q ∧ oq.length = q ∧ spq.length = cpq - (q) ∧ q ≤ cpq ∧ cpq ≤ maxLen) (fun x => match x with | .inl _ => k + 1 | .inr ⟨q, oq, gq, spq, cpq⟩ => k - q) (.inl ()) trivial (Sub.cons rfl (Sub.cons rfl (Sub.cons rfl (Sub.cons rfl (Sub.nil))))) rfl ?_
    rintro (_ | ⟨q, oq, gq, spq, cpq⟩) hx
    ·
      obtain _ := hx
      show JC _ _ _ [(0, Ptr wb 0), (1, U64 nv), (6, .pointer none), (7, I64 ((k:Int) - 1))] [⟨wb, [ev, .slice none 0 0], 149, (0, 0)⟩]
      refine JC_seq ?_
      refine JC_seq ?_
      refine JC_region ?_
      refine JL_val _ (Ev_move rfl) rfl ?_
      refine JL_val (.bool (decide ((0:Int) ≤ ((k:Int) - 1)))) (Ev_bini rfl rfl fun _ => bin_geq_i _ _) rfl ?_
      refine JL_nil ?_
      refine JQ_then ?_
      refine JC_condT _ rfl (decide_eq_true (by omega)) ?_
      refine JC_skip ?_
      refine JQ_then ?_
      refine JC_seq ?_
      refine JC_block ?_
      refine JC_draw 51 4 [(0, Ptr wb 0), (1, Ptr wb 0), (2, Ptr wb 0), (3, Ptr wb 1), (4, .slice none 0 0), (5, U64 nv), (6, I64 ((k:Int) - 1)), (7, I64 (8*(k:Int) - 8)), (8, U64 (nv >>> UInt64.ofNat (8*k - 8))), (9, U8 ((nv >>> UInt64.ofNat (8*k - 8)).toUInt8))] Tryd.mixed rfl (by decide +kernel) ?_
      refine DP_one ⟨[], [0, 1, 2, 3, 4, 5, 6, 7, 8, 9], [], [0, 1, 2, 3, 4, 5, 6, 7, 8, 9], [10]⟩ 10 _ rfl rfl (by decide +kernel) rfl ⟨⟨_, rfl, Qok_val rfl (Ev_move rfl)⟩, ⟨_, rfl, Qok_val rfl (Ev_move rfl)⟩, ⟨_, rfl, Qok_val rfl (Ev_nilCheck rfl)⟩, ⟨_, rfl, Qok_val rfl (Ev_fieldAddr 1 43 1 Tryd.underlying149 rfl Tryd.sizeOf43 rfl rfl)⟩, ⟨_, rfl, Qok_val rfl (Ev_load rfl (Ld_one Tryd.isAgg43 (MemAt.ent 0 rfl (Seg.tail (Seg.head)))))⟩, ⟨_, rfl, Qok_val rfl (Ev_move rfl)⟩, ⟨_, rfl, Qok_val rfl (Ev_move rfl)⟩, ⟨_, rfl, Qok_val rfl (Ev_bini rfl rfl fun _ => bin_mul_i _ _ (8*(k:Int) - 8) (by omega) (by omega))⟩, ⟨_, rfl, Qok_val rfl (Ev_bini rfl rfl fun _ => bin_shr_u64 nv _ _ (8*k - 8) (by omega) (by omega))⟩, ⟨_, rfl, Qok_val rfl (Ev_conv _ _ rfl fun _ => conv_u64_u8 (by rw [Tryd.underlying22]; rfl) Tryd.underlying5 _)⟩, trivial⟩ rfl (Cok_step rfl (Step_buildSlice 5 1 _ [(0, U8 ((nv >>> UInt64.ofNat (8*k - 8)).toUInt8))] (cu8 ([(nv >>> UInt64.ofNat (8*k - 8)).toUInt8])) Tryd.underlying43 Tryd.sizeOf5 Tryd.zeroValue5 rfl rfl rfl (by kernel_rfl))) ?_
      rintro v1 L1 ⟨nb1, hnb1, rfl, rfl⟩
      refine ⟨[], ?_⟩
      show DP _ _ _ _ _ _ _ _ [⟨wb, [ev, .slice none 0 0], 149, (0, 0)⟩, ⟨nb1, cu8 ([(nv >>> UInt64.ofNat (8*k - 8)).toUInt8]), 5, (0, 0)⟩]
      refine DP_one ⟨[10], [0, 1, 2, 3, 4, 5, 6, 7, 8, 9], [5, 6, 7, 8, 9], [0, 1, 2, 3, 4], [11]⟩ 11 _ rfl rfl (by decide +kernel) rfl ⟨⟨_, rfl, Qok_val rfl (Ev_move rfl)⟩, ⟨_, rfl, Qok_val rfl (Ev_move rfl)⟩, ⟨_, rfl, Qok_val rfl (Ev_nilCheck rfl)⟩, ⟨_, rfl, Qok_val rfl (Ev_fieldAddr 1 43 1 Tryd.underlying149 rfl Tryd.sizeOf43 rfl rfl)⟩, ⟨_, rfl, Qok_val rfl (Ev_load rfl (Ld_one Tryd.isAgg43 (MemAt.ent 0 rfl (Seg.tail (Seg.head)))))⟩, trivial⟩ rfl (Cok_step rfl (Step_appM8 43 5 [false, false] (.slice none 0 0) 0 ([] : List UInt8) ([(nv >>> UInt64.ofNat (8*k - 8)).toUInt8]) (some ⟨nb1, 0, none⟩) 1 1 1 Tryd.underlying43 Tryd.info5 rfl (.inl ⟨rfl, rfl, rfl, rfl, by omega⟩) rfl (by simp) (SrcAt.mem (MemAt.ent 1 rfl (Seg.whole _))) (by omega) (by unfold maxLen; omega) (by omega))) ?_
      rintro v1 L1 ⟨nb2, sp1, cp1, hg1, rfl, rfl, ha1, ha2, ha3, ha4⟩
      refine ⟨[(12, Ptr wb 0), (13, Ptr wb 1)], ?_⟩
      show DP _ _ _ _ _ _ _ _ [⟨wb, [ev, .slice none 0 0], 149, (0, 0)⟩, ⟨nb1, cu8 ([(nv >>> UInt64.ofNat (8*k - 8)).toUInt8]), 5, (0, 0)⟩, ⟨nb2, cu8 (([] : List UInt8) ++ ([(nv >>> UInt64.ofNat (8*k - 8)).toUInt8])) ++ sp1, 5, (0, 0)⟩]
      refine DP_one ⟨[10, 11], [0, 1, 2, 3, 4, 5, 6, 7, 8, 9, 12, 13], [1, 2, 3, 4, 5, 6, 7, 8, 9], [0, 12, 13], [14]⟩ 14 _ rfl rfl (by decide +kernel) rfl ⟨⟨_, rfl, Qok_val rfl (Ev_move rfl)⟩, ⟨_, rfl, Qok_val rfl (Ev_nilCheck rfl)⟩, ⟨_, rfl, Qok_val rfl (Ev_fieldAddr 1 43 1 Tryd.underlying149 rfl Tryd.sizeOf43 rfl rfl)⟩, trivial⟩ rfl (Cok_step rfl (Step_store 0 wb 1 1 ([ev, .slice none 0 0]) 149 (Slc nb2 0 1 cp1) ([Slc nb2 0 1 cp1]) ([ev, Slc nb2 0 1 cp1]) rfl rfl rfl rfl Tryd.sizeOf43 rfl (by simp [Value.oneCell']) (Nat.le_of_ble_eq_true rfl) (rfl))) ?_
      rintro v1 L1 ⟨rfl, rfl⟩
      refine ⟨[], ?_⟩
      show DP _ _ _ _ _ _ _ _ [⟨wb, [ev, Slc nb2 0 1 cp1], 149, (0, 0)⟩, ⟨nb1, cu8 ([(nv >>> UInt64.ofNat (8*k - 8)).toUInt8]), 5, (0, 0)⟩, ⟨nb2, cu8 (([] : List UInt8) ++ ([(nv >>> UInt64.ofNat (8*k - 8)).toUInt8])) ++ sp1, 5, (0, 0)⟩]
      refine DP_end ⟨[10, 11, 14], [0, 1, 2, 3, 4, 5, 6, 7, 8, 9, 12, 13], [0, 1, 2, 3, 4, 5, 6, 7, 8, 9, 12, 13], [], []⟩ rfl rfl (by decide +kernel) rfl trivial ?_
      refine K_sub (F' := [(36, Ptr wb 0), (37, Ptr wb 0), (38, Ptr wb 0), (39, Ptr wb 1), (40, .slice none 0 0), (41, U64 nv), (42, I64 ((k:Int) - 1)), (43, I64 (8*(k:Int) - 8)), (44, U64 (nv >>> UInt64.ofNat (8*k - 8))), (45, U8 ((nv >>> UInt64.ofNat (8*k - 8)).toUInt8)), (46, Slc nb1 0 1 1), (47, Slc nb2 0 1 cp1), (48, Ptr wb 0), (49, Ptr wb 1), (0, Ptr wb 0), (1, U64 nv), (6, .pointer none), (7, I64 ((k:Int) - 1)), (32, I64 ((k:Int) - 1)), (33, .bool (decide ((0:Int) ≤ ((k:Int) - 1))))]) (Sub.cons (by kernel_rfl) (Sub.cons (by kernel_rfl) (Sub.cons (by kernel_rfl) (Sub.cons (by kernel_rfl) (Sub.cons (by kernel_rfl) (Sub.cons (by kernel_rfl) (Sub.cons (by kernel_rfl) (Sub.cons (by kernel_rfl) (Sub.cons (by kernel_rfl) (Sub.cons (by kernel_rfl) (Sub.cons (by kernel_rfl) (Sub.cons (by kernel_rfl) (Sub.cons (by kernel_rfl) (Sub.cons (by kernel_rfl) (Sub.cons (by kernel_rfl) (Sub.cons (by kernel_rfl) (Sub.cons (by kernel_rfl) (Sub.cons (by kernel_rfl) (Sub.cons (by kernel_rfl) (Sub.cons (by kernel_rfl) (Sub.nil))))))))))))))))))))) ?_
      show JQ _ _ _ [(36, Ptr wb 0), (37, Ptr wb 0), (38, Ptr wb 0), (39, Ptr wb 1), (40, .slice none 0 0), (41, U64 nv), (42, I64 ((k:Int) - 1)), (43, I64 (8*(k:Int) - 8)), (44, U64 (nv >>> UInt64.ofNat (8*k - 8))), (45, U8 ((nv >>> UInt64.ofNat (8*k - 8)).toUInt8)), (46, Slc nb1 0 1 1), (47, Slc nb2 0 1 cp1), (48, Ptr wb 0), (49, Ptr wb 1), (0, Ptr wb 0), (1, U64 nv), (6, .pointer none), (7, I64 ((k:Int) - 1)), (32, I64 ((k:Int) - 1)), (33, .bool (decide ((0:Int) ≤ ((k:Int) - 1))))] _
      refine JQ_in_normal ?_
      refine JQ_then ?_
      refine JC_region ?_
      refine JL_val _ (Ev_move rfl) rfl ?_
      refine JL_val (I64 ((k:Int) - 2)) (Ev_bini rfl rfl fun _ => bin_sub_i _ _ ((k:Int) - 2) (by omega) (by omega)) rfl ?_
      refine JL_val _ (Ev_assign rfl) rfl ?_
      refine JL_nil ?_
      refine JQ_thenK ?_
      refine K_mask [true, false, true] ?_
      show K _ _ [⟨wb, [ev, Slc nb2 0 1 cp1], 149, (0, 0)⟩, ⟨nb2, cu8 (([] : List UInt8) ++ ([(nv >>> UInt64.ofNat (8*k - 8)).toUInt8])) ++ sp1, 5, (0, 0)⟩] _
      refine K_next (.inr (1, ([] : List UInt8) ++ ([(nv >>> UInt64.ofNat (8*k - 8)).toUInt8]), nb2, sp1, cp1)) ⟨by omega, by omega, by rw [numK_succ, numK_zero]; rfl, (ha1).trans (by first | rfl | simp +arith), (ha2).trans (by first | rfl | simp +arith), by omega, ha4⟩ (by first | (simp; omega) | simp | (dsimp only; omega) | omega) (Sub.cons rfl (Sub.cons rfl (Sub.cons rfl (Sub.cons (some_i64 (by omega)) (Sub.nil))))) rfl
    ·
      obtain ⟨hx0, hx1, hx2, hoq, hx4, hx5, hx6⟩ := hx
      show JC _ _ _ [(0, Ptr wb 0), (1, U64 nv), (6, .pointer none), (7, I64 ((k:Int) - (q:Int) - 1))] [⟨wb, [ev, Slc gq 0 q cpq], 149, (0, 0)⟩, ⟨gq, cu8 oq ++ spq, 5, (0, 0)⟩]
      refine JC_seq ?_
      refine JC_seq ?_
      refine JC_region ?_
      refine JL_val _ (Ev_move rfl) rfl ?_
      refine JL_val (.bool (decide ((0:Int) ≤ ((k:Int) - (q:Int) - 1)))) (Ev_bini rfl rfl fun _ => bin_geq_i _ _) rfl ?_
      refine JL_nil ?_
      refine JQ_then ?_
      refine JC_cond (decide ((0:Int) ≤ ((k:Int) - (q:Int) - 1))) rfl (fun hb2 => ?_) (fun hb2 => ?_)
      ·
        have hp2 : (0:Int) ≤ ((k:Int) - (q:Int) - 1) := of_decide_eq_true hb2
        refine JC_skip ?_
        refine JQ_then ?_
        refine JC_seq ?_
        refine JC_block ?_
        refine JC_draw 51 4 [(0, Ptr wb 0), (1, Ptr wb 0), (2, Ptr wb 0), (3, Ptr wb 1), (4, Slc gq 0 q cpq), (5, U64 nv), (6, I64 ((k:Int) - (q:Int) - 1)), (7, I64 (8*(k:Int) - 8*(q:Int) - 8)), (8, U64 (nv >>> UInt64.ofNat (8*k - 8*q - 8))), (9, U8 ((nv >>> UInt64.ofNat (8*k - 8*q - 8)).toUInt8))] Tryd.mixed rfl (by decide +kernel) ?_
        refine DP_one ⟨[], [0, 1, 2, 3, 4, 5, 6, 7, 8, 9], [], [0, 1, 2, 3, 4, 5, 6, 7, 8, 9], [10]⟩ 10 _ rfl rfl (by decide +kernel) rfl ⟨⟨_, rfl, Qok_val rfl (Ev_move rfl)⟩, ⟨_, rfl, Qok_val rfl (Ev_move rfl)⟩, ⟨_, rfl, Qok_val rfl (Ev_nilCheck rfl)⟩, ⟨_, rfl, Qok_val rfl (Ev_fieldAddr 1 43 1 Tryd.underlying149 rfl Tryd.sizeOf43 rfl rfl)⟩, ⟨_, rfl, Qok_val rfl (Ev_load rfl (Ld_one Tryd.isAgg43 (MemAt.ent 0 rfl (Seg.tail (Seg.head)))))⟩, ⟨_, rfl, Qok_val rfl (Ev_move rfl)⟩, ⟨_, rfl, Qok_val rfl (Ev_move rfl)⟩, ⟨_, rfl, Qok_val rfl (Ev_bini rfl rfl fun _ => bin_mul_i _ _ (8*(k:Int) - 8*(q:Int) - 8) (by omega) (by omega))⟩, ⟨_, rfl, Qok_val rfl (Ev_bini rfl rfl fun _ => bin_shr_u64 nv _ _ (8*k - 8*q - 8) (by omega) (by omega))⟩, ⟨_, rfl, Qok_val rfl (Ev_conv _ _ rfl fun _ => conv_u64_u8 (by rw [Tryd.underlying22]; rfl) Tryd.underlying5 _)⟩, trivial⟩ rfl (Cok_step rfl (Step_buildSlice 5 1 _ [(0, U8 ((nv >>> UInt64.ofNat (8*k - 8*q - 8)).toUInt8))] (cu8 ([(nv >>> UInt64.ofNat (8*k - 8*q - 8)).toUInt8])) Tryd.underlying43 Tryd.sizeOf5 Tryd.zeroValue5 rfl rfl rfl (by kernel_rfl))) ?_
        rintro v1 L1 ⟨nb3, hnb3, rfl, rfl⟩
        refine ⟨[], ?_⟩
        show DP _ _ _ _ _ _ _ _ [⟨wb, [ev, Slc gq 0 q cpq], 149, (0, 0)⟩, ⟨gq, cu8 oq ++ spq, 5, (0, 0)⟩, ⟨nb3, cu8 ([(nv >>> UInt64.ofNat (8*k - 8*q - 8)).toUInt8]), 5, (0, 0)⟩]
        refine DP_one ⟨[10], [0, 1, 2, 3, 4, 5, 6, 7, 8, 9], [5, 6, 7, 8, 9], [0, 1, 2, 3, 4], [11]⟩ 11 _ rfl rfl (by decide +kernel) rfl ⟨⟨_, rfl, Qok_val rfl (Ev_move rfl)⟩, ⟨_, rfl, Qok_val rfl (Ev_move rfl)⟩, ⟨_, rfl, Qok_val rfl (Ev_nilCheck rfl)⟩, ⟨_, rfl, Qok_val rfl (Ev_fieldAddr 1 43 1 Tryd.underlying149 rfl Tryd.sizeOf43 rfl rfl)⟩, ⟨_, rfl, Qok_val rfl (Ev_load rfl (Ld_one Tryd.isAgg43 (MemAt.ent 0 rfl (Seg.tail (Seg.head)))))⟩, trivial⟩ rfl (Cok_step rfl (Step_appM8 43 5 [false, true, false] (Slc gq 0 q cpq) q oq ([(nv >>> UInt64.ofNat (8*k - 8*q - 8)).toUInt8]) (some ⟨nb3, 0, none⟩) 1 1 (q + 1) Tryd.underlying43 Tryd.info5 rfl (.inr ⟨gq, spq, cpq, rfl, rfl, (by first | exact hoq | simp [hoq]), hx4, (by omega), (by omega)⟩) rfl (by simp) (SrcAt.mem (MemAt.ent 2 rfl (Seg.whole _))) (by omega) (by unfold maxLen; omega) (by omega))) ?_
        rintro v1 L1 ⟨nb4, sp2, cp2, hg2, rfl, rfl, ha5, ha6, ha7, ha8⟩
        refine ⟨[(12, Ptr wb 0), (13, Ptr wb 1)], ?_⟩
        show DP _ _ _ _ _ _ _ _ [⟨wb, [ev, Slc gq 0 q cpq], 149, (0, 0)⟩, ⟨nb3, cu8 ([(nv >>> UInt64.ofNat (8*k - 8*q - 8)).toUInt8]), 5, (0, 0)⟩, ⟨nb4, cu8 (oq ++ ([(nv >>> UInt64.ofNat (8*k - 8*q - 8)).toUInt8])) ++ sp2, 5, (0, 0)⟩]
        refine DP_one ⟨[10, 11], [0, 1, 2, 3, 4, 5, 6, 7, 8, 9, 12, 13], [1, 2, 3, 4, 5, 6, 7, 8, 9], [0, 12, 13], [14]⟩ 14 _ rfl rfl (by decide +kernel) rfl ⟨⟨_, rfl, Qok_val rfl (Ev_move rfl)⟩, ⟨_, rfl, Qok_val rfl (Ev_nilCheck rfl)⟩, ⟨_, rfl, Qok_val rfl (Ev_fieldAddr 1 43 1 Tryd.underlying149 rfl Tryd.sizeOf43 rfl rfl)⟩, trivial⟩ rfl (Cok_step rfl (Step_store 0 wb 1 1 ([ev, Slc gq 0 q cpq]) 149 (Slc nb4 0 (q + 1) cp2) ([Slc nb4 0 (q + 1) cp2]) ([ev, Slc nb4 0 (q + 1) cp2]) rfl rfl rfl rfl Tryd.sizeOf43 rfl (by simp [Value.oneCell']) (Nat.le_of_ble_eq_true rfl) (rfl))) ?_
        rintro v1 L1 ⟨rfl, rfl⟩
        refine ⟨[], ?_⟩
        show DP _ _ _ _ _ _ _ _ [⟨wb, [ev, Slc nb4 0 (q + 1) cp2], 149, (0, 0)⟩, ⟨nb3, cu8 ([(nv >>> UInt64.ofNat (8*k - 8*q - 8)).toUInt8]), 5, (0, 0)⟩, ⟨nb4, cu8 (oq ++ ([(nv >>> UInt64.ofNat (8*k - 8*q - 8)).toUInt8])) ++ sp2, 5, (0, 0)⟩]
        refine DP_end ⟨[10, 11, 14], [0, 1, 2, 3, 4, 5, 6, 7, 8, 9, 12, 13], [0, 1, 2, 3, 4, 5, 6, 7, 8, 9, 12, 13], [], []⟩ rfl rfl (by decide +kernel) rfl trivial ?_
        refine K_sub (F' := [(36, Ptr wb 0), (37, Ptr wb 0), (38, Ptr wb 0), (39, Ptr wb 1), (40, Slc gq 0 q cpq), (41, U64 nv), (42, I64 ((k:Int) - (q:Int) - 1)), (43, I64 (8*(k:Int) - 8*(q:Int) - 8)), (44, U64 (nv >>> UInt64.ofNat (8*k - 8*q - 8))), (45, U8 ((nv >>> UInt64.ofNat (8*k - 8*q - 8)).toUInt8)), (46, Slc nb3 0 1 1), (47, Slc nb4 0 (q + 1) cp2), (48, Ptr wb 0), (49, Ptr wb 1), (0, Ptr wb 0), (1, U64 nv), (6, .pointer none), (7, I64 ((k:Int) - (q:Int) - 1)), (32, I64 ((k:Int) - (q:Int) - 1)), (33, .bool (decide ((0:Int) ≤ ((k:Int) - (q:Int) - 1))))]) (Sub.cons (by kernel_rfl) (Sub.cons (by kernel_rfl) (Sub.cons (by kernel_rfl) (Sub.cons (by kernel_rfl) (Sub.cons (by kernel_rfl) (Sub.cons (by kernel_rfl) (Sub.cons (by kernel_rfl) (Sub.cons (by kernel_rfl) (Sub.cons (by kernel_rfl) (Sub.cons (by kernel_rfl) (Sub.cons (by kernel_rfl) (Sub.cons (by kernel_rfl) (Sub.cons (by kernel_rfl) (Sub.cons (by kernel_rfl) (Sub.cons (by kernel_rfl) (Sub.cons (by kernel_rfl) (Sub.cons (by kernel_rfl) (Sub.cons (by kernel_rfl) (Sub.cons (by kernel_rfl) (Sub.cons (by kernel_rfl) (Sub.nil))))))))))))))))))))) ?_
        show JQ _ _ _ [(36, Ptr wb 0), (37, Ptr wb 0), (38, Ptr wb 0), (39, Ptr wb 1), (40, Slc gq 0 q cpq), (41, U64 nv), (42, I64 ((k:Int) - (q:Int) - 1)), (43, I64 (8*(k:Int) - 8*(q:Int) - 8)), (44, U64 (nv >>> UInt64.ofNat (8*k - 8*q - 8))), (45, U8 ((nv >>> UInt64.ofNat (8*k - 8*q - 8)).toUInt8)), (46, Slc nb3 0 1 1), (47, Slc nb4 0 (q + 1) cp2), (48, Ptr wb 0), (49, Ptr wb 1), (0, Ptr wb 0), (1, U64 nv), (6, .pointer none), (7, I64 ((k:Int) - (q:Int) - 1)), (32, I64 ((k:Int) - (q:Int) - 1)), (33, .bool (decide ((0:Int) ≤ ((k:Int) - (q:Int) - 1))))] _
        refine JQ_in_normal ?_
        refine JQ_then ?_
        refine JC_region ?_
        refine JL_val _ (Ev_move rfl) rfl ?_
        refine JL_val (I64 ((k:Int) - (q:Int) - 2)) (Ev_bini rfl rfl fun _ => bin_sub_i _ _ ((k:Int) - (q:Int) - 2) (by omega) (by omega)) rfl ?_
        refine JL_val _ (Ev_assign rfl) rfl ?_
        refine JL_nil ?_
        refine JQ_thenK ?_
        refine K_mask [true, false, true] ?_
        show K _ _ [⟨wb, [ev, Slc nb4 0 (q + 1) cp2], 149, (0, 0)⟩, ⟨nb4, cu8 (oq ++ ([(nv >>> UInt64.ofNat (8*k - 8*q - 8)).toUInt8])) ++ sp2, 5, (0, 0)⟩] _
        refine K_next (.inr (q + 1, oq ++ ([(nv >>> UInt64.ofNat (8*k - 8*q - 8)).toUInt8]), nb4, sp2, cp2)) ⟨by omega, by omega, by rw [numK_succ, ← hx2], (ha5).trans (by first | rfl | simp +arith), (ha6).trans (by first | rfl | simp +arith), by omega, ha8⟩ (by first | (simp; omega) | simp | (dsimp only; omega) | omega) (Sub.cons rfl (Sub.cons rfl (Sub.cons rfl (Sub.cons (some_i64 (by omega)) (Sub.nil))))) rfl
      ·
        have hp2 : ¬ ((0:Int) ≤ ((k:Int) - (q:Int) - 1)) := of_decide_eq_false hb2
        refine JC_exit ?_
        refine JQ_then_exit ?_
        refine JQ_then_exit ?_
        refine JQ_in_same ?_
        refine JQ_then ?_
        refine JC_seq ?_
        refine JC_region ?_
        refine JL_val _ (Ev_move rfl) rfl ?_
        refine JL_val _ (Ev_assign rfl) rfl ?_
        refine JL_nil ?_
        refine JQ_then ?_
        refine JC_ret ?_
        refine JQ_ret (Ptr wb 0) (res1 Tryd.results81 (RV_tmp rfl)) fun w1 hw1 => ?_
        have e1 : q = k := by omega
        rw [hx2, e1] at hw1
        obtain rfl : tot = k := by omega
        exact ⟨_, _, rfl, ⟨rfl, gq, spq, cpq, rfl, by omega, by omega, hx6⟩, hw1⟩
  ·
    have hp1 : ¬ (((k:Int)) < (8:Int)) := of_decide_eq_false hb1
    refine JL_gskip 6 16 true _ rfl rfl hb1 rfl ?_
    refine JL_gskip 6 16 true _ rfl rfl hb1 rfl ?_
    refine JL_gskip 6 16 true _ rfl rfl hb1 rfl ?_
    refine JL_gskip 6 16 true _ rfl rfl hb1 rfl ?_
    refine JL_gskip 6 16 true _ rfl rfl hb1 rfl ?_
    refine JL_gval 3 13 false _ _ rfl rfl rfl (Ev_pickF _ rfl hb1 rfl) rfl ?_
    refine JL_val _ (Ev_pickF _ rfl rfl rfl) rfl ?_
    refine JL_nil ?_
    refine JQ_then ?_
    refine JC_condF _ rfl rfl ?_
    refine JC_skip ?_
    refine JQ_then ?_
    refine JC_seq ?_
    refine JC_seq ?_
    refine JC_region ?_
    refine JL_val _ (Ev_move rfl) rfl ?_
    refine JL_val (I64 ((k:Int) - 1)) (Ev_bini rfl rfl fun _ => bin_sub_i _ _ ((k:Int) - 1) (by omega) (by omega)) rfl ?_
    refine JL_val _ (Ev_assign rfl) rfl ?_
    refine JL_nil ?_
    refine JQ_then ?_
    refine JC_block ?_
    refine JC_loop (ι := (Unit) ⊕ (Nat × List UInt8 × Nat × List Value × Nat)) (fun x => match x with | .inl _ => [(0, Ptr wb 0), (1, U64 nv), (6, .pointer none), (7, I64 ((k:Int) - 1))] | .inr ⟨q, oq, gq, spq, cpq⟩ => [(0, Ptr wb 0), (1, U64 nv), (6, .pointer none), (7, I64 ((k:Int) - (q:Int) - 1))]) (fun x => match x with | .inl _ => [⟨wb, [ev, .slice none 0 0], 149, (0, 0)⟩] | .inr ⟨q, oq, gq, spq, cpq⟩ => [⟨wb, [ev, Slc gq 0 q cpq], 149, (0, 0)⟩, ⟨gq, cu8 oq ++ spq, 5, (0, 0)⟩]) (fun x => match x with | .inl _ => True | .inr ⟨q, oq, gq, spq, cpq⟩ => 1 ≤ q ∧ q ≤ k ∧ oq = numK k nv q ∧ oq.length = q ∧ spq.length = cpq - (q) ∧ q ≤ cpq ∧ cpq ≤ maxLen) (fun x => match x with | .inl _ => k + 1 | .inr ⟨q, oq, gq, spq, cpq⟩ => k - q) (.inl ()) trivial (Sub.cons rfl (Sub.cons rfl (Sub.cons rfl (Sub.cons rfl (Sub.nil))))) rfl ?_
    rintro (_ | ⟨q, oq, gq, spq, cpq⟩) hx
    ·
      obtain _ := hx
      show JC _ _ _ [(0, Ptr wb 0), (1, U64 nv), (6, .pointer none), (7, I64 ((k:Int) - 1))] [⟨wb, [ev, .slice none 0 0], 149, (0, 0)⟩]
      refine JC_seq ?_
      refine JC_seq ?_
      refine JC_region ?_
      refine JL_val _ (Ev_move rfl) rfl ?_
      refine JL_val (.bool (decide ((0:Int) ≤ ((k:Int) - 1)))) (Ev_bini rfl rfl fun _ => bin_geq_i _ _) rfl ?_
      refine JL_nil ?_
      refine JQ_then ?_
      refine JC_condT _ rfl (decide_eq_true (by omega)) ?_
      refine JC_skip ?_
      refine JQ_then ?_
      refine JC_seq ?_
      refine JC_block ?_
      refine JC_draw 51 4 [(0, Ptr wb 0), (1, Ptr wb 0), (2, Ptr wb 0), (3, Ptr wb 1), (4, .slice none 0 0), (5, U64 nv), (6, I64 ((k:Int) - 1)), (7, I64 (8*(k:Int) - 8)), (8, U64 (nv >>> UInt64.ofNat (8*k - 8))), (9, U8 ((nv >>> UInt64.ofNat (8*k - 8)).toUInt8))] Tryd.mixed rfl (by decide +kernel) ?_
      refine DP_one ⟨[], [0, 1, 2, 3, 4, 5, 6, 7, 8, 9], [], [0, 1, 2, 3, 4, 5, 6, 7, 8, 9], [10]⟩ 10 _ rfl rfl (by decide +kernel) rfl ⟨⟨_, rfl, Qok_val rfl (Ev_move rfl)⟩, ⟨_, rfl, Qok_val rfl (Ev_move rfl)⟩, ⟨_, rfl, Qok_val rfl (Ev_nilCheck rfl)⟩, ⟨_, rfl, Qok_val rfl (Ev_fieldAddr 1 43 1 Tryd.underlying149 rfl Tryd.sizeOf43 rfl rfl)⟩, ⟨_, rfl, Qok_val rfl (Ev_load rfl (Ld_one Tryd.isAgg43 (MemAt.ent 0 rfl (Seg.tail (Seg.head)))))⟩, ⟨_, rfl, Qok_val rfl (Ev_move rfl)⟩, ⟨_, rfl, Qok_val rfl (Ev_move rfl)⟩, ⟨_, rfl, Qok_val rfl (Ev_bini rfl rfl fun _ => bin_mul_i _ _ (8*(k:Int) - 8) (by omega) (by omega))⟩, ⟨_, rfl, Qok_val rfl (Ev_bini rfl rfl fun _ => bin_shr_u64 nv _ _ (8*k - 8) (by omega) (by omega))⟩, ⟨_, rfl, Qok_val rfl (Ev_conv _ _ rfl fun _ => conv_u64_u8 (by rw [Tryd.underlying22]; rfl) Tryd.underlying5 _)⟩, trivial⟩ rfl (Cok_step rfl (Step_buildSlice 5 1 _ [(0, U8 ((nv >>> UInt64.ofNat (8*k - 8)).toUInt8))] (cu8 ([(nv >>> UInt64.ofNat (8*k - 8)).toUInt8])) Tryd.underlying43 Tryd.sizeOf5 Tryd.zeroValue5 rfl rfl rfl (by kernel_rfl))) ?_
      rintro v1 L1 ⟨nb5, hnb5, rfl, rfl⟩
      refine ⟨[], ?_⟩
      show DP _ _ _ _ _ _ _ _ [⟨wb, [ev, .slice none 0 0], 149, (0, 0)⟩, ⟨nb5, cu8 ([(nv >>> UInt64.ofNat (8*k - 8)).toUInt8]), 5, (0, 0)⟩]
      refine DP_one ⟨[10], [0, 1, 2, 3, 4, 5, 6, 7, 8, 9], [5, 6, 7, 8, 9], [0, 1, 2, 3, 4], [11]⟩ 11 _ rfl rfl (by decide +kernel) rfl ⟨⟨_, rfl, Qok_val rfl (Ev_move rfl)⟩, ⟨_, rfl, Qok_val rfl (Ev_move rfl)⟩, ⟨_, rfl, Qok_val rfl (Ev_nilCheck rfl)⟩, ⟨_, rfl, Qok_val rfl (Ev_fieldAddr 1 43 1 Tryd.underlying149 rfl Tryd.sizeOf43 rfl rfl)⟩, ⟨_, rfl, Qok_val rfl (Ev_load rfl (Ld_one Tryd.isAgg43 (MemAt.ent 0 rfl (Seg.tail (Seg.head)))))⟩, trivial⟩ rfl (Cok_step rfl (Step_appM8 43 5 [false, false] (.slice none 0 0) 0 ([] : List UInt8) ([(nv >>> UInt64.ofNat (8*k - 8)).toUInt8]) (some ⟨nb5, 0, none⟩) 1 1 1 Tryd.underlying43 Tryd.info5 rfl (.inl ⟨rfl, rfl, rfl, rfl, by omega⟩) rfl (by simp) (SrcAt.mem (MemAt.ent 1 rfl (Seg.whole _))) (by omega) (by unfold maxLen; omega) (by omega))) ?_
      rintro v1 L1 ⟨nb6, sp3, cp3, hg3, rfl, rfl, ha9, ha10, ha11, ha12⟩
      refine ⟨[(12, Ptr wb 0), (13, Ptr wb 1)], ?_⟩
      show DP _ _ _ _ _ _ _ _ [⟨wb, [ev, .slice none 0 0], 149, (0, 0)⟩, ⟨nb5, cu8 ([(nv >>> UInt64.ofNat (8*k - 8)).toUInt8]), 5, (0, 0)⟩, ⟨nb6, cu8 (([] : List UInt8) ++ ([(nv >>> UInt64.ofNat (8*k - 8)).toUInt8])) ++ sp3, 5, (0, 0)⟩]
      refine DP_one ⟨[10, 11], [0, 1, 2, 3, 4, 5, 6, 7, 8, 9, 12, 13], [1, 2, 3, 4, 5, 6, 7, 8, 9], [0, 12, 13], [14]⟩ 14 _ rfl rfl (by decide +kernel) rfl ⟨⟨_, rfl, Qok_val rfl (Ev_move rfl)⟩, ⟨_, rfl, Qok_val rfl (Ev_nilCheck rfl)⟩, ⟨_, rfl, Qok_val rfl (Ev_fieldAddr 1 43 1 Tryd.underlying149 rfl Tryd.sizeOf43 rfl rfl)⟩, trivial⟩ rfl (Cok_step rfl (Step_store 0 wb 1 1 ([ev, .slice none 0 0]) 149 (Slc nb6 0 1 cp3) ([Slc nb6 0 1 cp3]) ([ev, Slc nb6 0 1 cp3]) rfl rfl rfl rfl Tryd.sizeOf43 rfl (by simp [Value.oneCell']) (Nat.le_of_ble_eq_true rfl) (rfl))) ?_
      rintro v1 L1 ⟨rfl, rfl⟩
      refine ⟨[], ?_⟩
      show DP _ _ _ _ _ _ _ _ [⟨wb, [ev, Slc nb6 0 1 cp3], 149, (0, 0)⟩, ⟨nb5, cu8 ([(nv >>> UInt64.ofNat (8*k - 8)).toUInt8]), 5, (0, 0)⟩, ⟨nb6, cu8 (([] : List UInt8) ++ ([(nv >>> UInt64.ofNat (8*k - 8)).toUInt8])) ++ sp3, 5, (0, 0)⟩]
      refine DP_end ⟨[10, 11, 14], [0, 1, 2, 3, 4, 5, 6, 7, 8, 9, 12, 13], [0, 1, 2, 3, 4, 5, 6, 7, 8, 9, 12, 13], [], []⟩ rfl rfl (by decide +kernel) rfl trivial ?_
      refine K_sub (F' := [(36, Ptr wb 0), (37, Ptr wb 0), (38, Ptr wb 0), (39, Ptr wb 1), (40, .slice none 0 0), (41, U64 nv), (42, I64 ((k:Int) - 1)), (43, I64 (8*(k:Int) - 8)), (44, U64 (nv >>> UInt64.ofNat (8*k - 8))), (45, U8 ((nv >>> UInt64.ofNat (8*k - 8)).toUInt8)), (46, Slc nb5 0 1 1), (47, Slc nb6 0 1 cp3), (48, Ptr wb 0), (49, Ptr wb 1), (0, Ptr wb 0), (1, U64 nv), (6, .pointer none), (7, I64 ((k:Int) - 1)), (32, I64 ((k:Int) - 1)), (33, .bool (decide ((0:Int) ≤ ((k:Int) - 1))))]) (Sub.cons (by kernel_rfl) (Sub.cons (by kernel_rfl) (Sub.cons (by kernel_rfl) (Sub.cons (by kernel_rfl) (Sub.cons (by kernel_rfl) (Sub.cons (by kernel_rfl) (Sub.cons (by kernel_rfl) (Sub.cons (by kernel_rfl) (Sub.cons (by kernel_rfl) (Sub.cons (by kernel_rfl) (Sub.cons (by kernel_rfl) (Sub.cons (by kernel_rfl) (Sub.cons (by kernel_rfl) (Sub.cons (by kernel_rfl) (Sub.cons (by kernel_rfl) (Sub.cons (by kernel_rfl) (Sub.cons (by kernel_rfl) (Sub.cons (by kernel_rfl) (Sub.cons (by kernel_rfl) (Sub.cons (by kernel_rfl) (Sub.nil))))))))))))))))))))) ?_
      show JQ _ _ _ [(36, Ptr wb 0), (37, Ptr wb 0), (38, Ptr wb 0), (39, Ptr wb 1), (40, .slice none 0 0), (41, U64 nv), (42, I64 ((k:Int) - 1)), (43, I64 (8*(k:Int) - 8)), (44, U64 (nv >>> UInt64.ofNat (8*k - 8))), (45, U8 ((nv >>> UInt64.ofNat (8*k - 8)).toUInt8)), (46, Slc nb5 0 1 1), (47, Slc nb6 0 1 cp3), (48, Ptr wb 0), (49, Ptr wb 1), (0, Ptr wb 0), (1, U64 nv), (6, .pointer none), (7, I64 ((k:Int) - 1)), (32, I64 ((k:Int) - 1)), (33, .bool (decide ((0:Int) ≤ ((k:Int) - 1))))] _
      refine JQ_in_normal ?_
      refine JQ_then ?_
      refine JC_region ?_
      refine JL_val _ (Ev_move rfl) rfl ?_
      refine JL_val (I64 ((k:Int) - 2)) (Ev_bini rfl rfl fun _ => bin_sub_i _ _ ((k:Int) - 2) (by omega) (by omega)) rfl ?_
      refine JL_val _ (Ev_assign rfl) rfl ?_
      refine JL_nil ?_
      refine JQ_thenK ?_
      refine K_mask [true, false, true] ?_
      show K _ _ [⟨wb, [ev, Slc nb6 0 1 cp3], 149, (0, 0)⟩, ⟨nb6, cu8 (([] : List UInt8) ++ ([(nv >>> UInt64.ofNat (8*k - 8)).toUInt8])) ++ sp3, 5, (0, 0)⟩] _
      refine K_next (.inr (1, ([] : List UInt8) ++ ([(nv >>> UInt64.ofNat (8*k - 8)).toUInt8]), nb6, sp3, cp3)) ⟨by omega, by omega, by rw [numK_succ, numK_zero]; rfl, (ha9).trans (by first | rfl | simp +arith), (ha10).trans (by first | rfl | simp +arith), by omega, ha12⟩ (by first | (simp; omega) | simp | (dsimp only; omega) | omega) (Sub.cons rfl (Sub.cons rfl (Sub.cons rfl (Sub.cons (some_i64 (by omega)) (Sub.nil))))) rfl
    ·
      obtain ⟨hx0, hx1, hx2, hoq, hx4, hx5, hx6⟩ := hx
      show JC _ _ _ [(0, Ptr wb 0), (1, U64 nv), (6, .pointer none), (7, I64 ((k:Int) - (q:Int) - 1))] [⟨wb, [ev, Slc gq 0 q cpq], 149, (0, 0)⟩, ⟨gq, cu8 oq ++ spq, 5, (0, 0)⟩]
      refine JC_seq ?_
      refine JC_seq ?_
      refine JC_region ?_
      refine JL_val _ (Ev_move rfl) rfl ?_
      refine JL_val (.bool (decide ((0:Int) ≤ ((k:Int) - (q:Int) - 1)))) (Ev_bini rfl rfl fun _ => bin_geq_i _ _) rfl ?_
      refine JL_nil ?_
      refine JQ_then ?_
      refine JC_cond (decide ((0:Int) ≤ ((k:Int) - (q:Int) - 1))) rfl (fun hb3 => ?_) (fun hb3 => ?_)
      ·
        have hp3 : (0:Int) ≤ ((k:Int) - (q:Int) - 1) := of_decide_eq_true hb3
        refine JC_skip ?_
        refine JQ_then ?_
        refine JC_seq ?_
        refine JC_block ?_
        refine JC_draw 51 4 [(0, Ptr wb 0), (1, Ptr wb 0), (2, Ptr wb 0), (3, Ptr wb 1), (4, Slc gq 0 q cpq), (5, U64 nv), (6, I64 ((k:Int) - (q:Int) - 1)), (7, I64 (8*(k:Int) - 8*(q:Int) - 8)), (8, U64 (nv >>> UInt64.ofNat (8*k - 8*q - 8))), (9, U8 ((nv >>> UInt64.ofNat (8*k - 8*q - 8)).toUInt8))] Tryd.mixed rfl (by decide +kernel) ?_
        refine DP_one ⟨[], [0, 1, 2, 3, 4, 5, 6, 7, 8, 9], [], [0, 1, 2, 3, 4, 5, 6, 7, 8, 9], [10]⟩ 10 _ rfl rfl (by decide +kernel) rfl ⟨⟨_, rfl, Qok_val rfl (Ev_move rfl)⟩, ⟨_, rfl, Qok_val rfl (Ev_move rfl)⟩, ⟨_, rfl, Qok_val rfl (Ev_nilCheck rfl)⟩, ⟨_, rfl, Qok_val rfl (Ev_fieldAddr 1 43 1 Tryd.underlying149 rfl Tryd.sizeOf43 rfl rfl)⟩, ⟨_, rfl, Qok_val rfl (Ev_load rfl (Ld_one Tryd.isAgg43 (MemAt.ent 0 rfl (Seg.tail (Seg.head)))))⟩, ⟨_, rfl, Qok_val rfl (Ev_move rfl)⟩, ⟨_, rfl, Qok_val rfl (Ev_move rfl)⟩, ⟨_, rfl, Qok_val rfl (Ev_bini rfl rfl fun _ => bin_mul_i _ _ (8*(k:Int) - 8*(q:Int) - 8) (by omega) (by omega))⟩, ⟨_, rfl, Qok_val rfl (Ev_bini rfl rfl fun _ => bin_shr_u64 nv _ _ (8*k - 8*q - 8) (by omega) (by omega))⟩, ⟨_, rfl, Qok_val rfl (Ev_conv _ _ rfl fun _ => conv_u64_u8 (by rw [Tryd.underlying22]; rfl) Tryd.underlying5 _)⟩, trivial⟩ rfl (Cok_step rfl (Step_buildSlice 5 1 _ [(0, U8 ((nv >>> UInt64.ofNat (8*k - 8*q - 8)).toUInt8))] (cu8 ([(nv >>> UInt64.ofNat (8*k - 8*q - 8)).toUInt8])) Tryd.underlying43 Tryd.sizeOf5 Tryd.zeroValue5 rfl rfl rfl (by kernel_rfl))) ?_
        rintro v1 L1 ⟨nb7, hnb7, rfl, rfl⟩
        refine ⟨[], ?_⟩
        show DP _ _ _ _ _ _ _ _ [⟨wb, [ev, Slc gq 0 q cpq], 149, (0, 0)⟩, ⟨gq, cu8 oq ++ spq, 5, (0, 0)⟩, ⟨nb7, cu8 ([(nv >>> UInt64.ofNat (8*k - 8*q - 8)).toUInt8]), 5, (0, 0)⟩]
        refine DP_one ⟨[10], [0, 1, 2, 3, 4, 5, 6, 7, 8, 9], [5, 6, 7, 8, 9], [0, 1, 2, 3, 4], [11]⟩ 11 _ rfl rfl (by decide +kernel) rfl ⟨⟨_, rfl, Qok_val rfl (Ev_move rfl)⟩, ⟨_, rfl, Qok_val rfl (Ev_move rfl)⟩, ⟨_, rfl, Qok_val rfl (Ev_nilCheck rfl)⟩, ⟨_, rfl, Qok_val rfl (Ev_fieldAddr 1 43 1 Tryd.underlying149 rfl Tryd.sizeOf43 rfl rfl)⟩, ⟨_, rfl, Qok_val rfl (Ev_load rfl (Ld_one Tryd.isAgg43 (MemAt.ent 0 rfl (Seg.tail (Seg.head)))))⟩, trivial⟩ rfl (Cok_step rfl (Step_appM8 43 5 [false, true, false] (Slc gq 0 q cpq) q oq ([(nv >>> UInt64.ofNat (8*k - 8*q - 8)).toUInt8]) (some ⟨nb7, 0, none⟩) 1 1 (q + 1) Tryd.underlying43 Tryd.info5 rfl (.inr ⟨gq, spq, cpq, rfl, rfl, (by first | exact hoq | simp [hoq]), hx4, (by omega), (by omega)⟩) rfl (by simp) (SrcAt.mem (MemAt.ent 2 rfl (Seg.whole _))) (by omega) (by unfold maxLen; omega) (by omega))) ?_
        rintro v1 L1 ⟨nb8, sp4, cp4, hg4, rfl, rfl, ha13, ha14, ha15, ha16⟩
        refine ⟨[(12, Ptr wb 0), (13, Ptr wb 1)], ?_⟩
        show DP _ _ _ _ _ _ _ _ [⟨wb, [ev, Slc gq 0 q cpq], 149, (0, 0)⟩, ⟨nb7, cu8 ([(nv >>> UInt64.ofNat (8*k - 8*q - 8)).toUInt8]), 5, (0, 0)⟩, ⟨nb8, cu8 (oq ++ ([(nv >>> UInt64.ofNat (8*k - 8*q - 8)).toUInt8])) ++ sp4, 5, (0, 0)⟩]
        refine DP_one ⟨[10, 11], [0, 1, 2, 3, 4, 5, 6, 7, 8, 9, 12, 13], [1, 2, 3, 4, 5, 6, 7, 8, 9], [0, 12, 13], [14]⟩ 14 _ rfl rfl (by decide +kernel) rfl ⟨⟨_, rfl, Qok_val rfl (Ev_move rfl)⟩, ⟨_, rfl, Qok_val rfl (Ev_nilCheck rfl)⟩, ⟨_, rfl, Qok_val rfl (Ev_fieldAddr 1 43 1 Tryd.underlying149 rfl Tryd.sizeOf43 rfl rfl)⟩, trivial⟩ rfl (Cok_step rfl (Step_store 0 wb 1 1 ([ev, Slc gq 0 q cpq]) 149 (Slc nb8 0 (q + 1) cp4) ([Slc nb8 0 (q + 1) cp4]) ([ev, Slc nb8 0 (q + 1) cp4]) rfl rfl rfl rfl Tryd.sizeOf43 rfl (by simp [Value.oneCell']) (Nat.le_of_ble_eq_true rfl) (rfl))) ?_
        rintro v1 L1 ⟨rfl, rfl⟩
        refine ⟨[], ?_⟩
        show DP _ _ _ _ _ _ _ _ [⟨wb, [ev, Slc nb8 0 (q + 1) cp4], 149, (0, 0)⟩, ⟨nb7, cu8 ([(nv >>> UInt64.ofNat (8*k - 8*q - 8)).toUInt8]), 5, (0, 0)⟩, ⟨nb8, cu8 (oq ++ ([(nv >>> UInt64.ofNat (8*k - 8*q - 8)).toUInt8])) ++ sp4, 5, (0, 0)⟩]
        refine DP_end ⟨[10, 11, 14], [0, 1, 2, 3, 4, 5, 6, 7, 8, 9, 12, 13], [0, 1, 2, 3, 4, 5, 6, 7, 8, 9, 12, 13], [], []⟩ rfl rfl (by decide +kernel) rfl trivial ?_
        refine K_sub (F' := [(36, Ptr wb 0), (37, Ptr wb 0), (38, Ptr wb 0), (39, Ptr wb 1), (40, Slc gq 0 q cpq), (41, U64 nv), (42, I64 ((k:Int) - (q:Int) - 1)), (43, I64 (8*(k:Int) - 8*(q:Int) - 8)), (44, U64 (nv >>> UInt64.ofNat (8*k - 8*q - 8))), (45, U8 ((nv >>> UInt64.ofNat (8*k - 8*q - 8)).toUInt8)), (46, Slc nb7 0 1 1), (47, Slc nb8 0 (q + 1) cp4), (48, Ptr wb 0), (49, Ptr wb 1), (0, Ptr wb 0), (1, U64 nv), (6, .pointer none), (7, I64 ((k:Int) - (q:Int) - 1)), (32, I64 ((k:Int) - (q:Int) - 1)), (33, .bool (decide ((0:Int) ≤ ((k:Int) - (q:Int) - 1))))]) (Sub.cons (by kernel_rfl) (Sub.cons (by kernel_rfl) (Sub.cons (by kernel_rfl) (Sub.cons (by kernel_rfl) (Sub.cons (by kernel_rfl) (Sub.cons (by kernel_rfl) (Sub.cons (by kernel_rfl) (Sub.cons (by kernel_rfl) (Sub.cons (by kernel_rfl) (Sub.cons (by kernel_rfl) (Sub.cons (by kernel_rfl) (Sub.cons (by kernel_rfl) (Sub.cons (by kernel_rfl) (Sub.cons (by kernel_rfl) (Sub.cons (by kernel_rfl) (Sub.cons (by kernel_rfl) (Sub.cons (by kernel_rfl) (Sub.cons (by kernel_rfl) (Sub.cons (by kernel_rfl) (Sub.cons (by kernel_rfl) (Sub.nil))))))))))))))))))))) ?_
        show JQ _ _ _ [(36, Ptr wb 0), (37, Ptr wb 0), (38, Ptr wb 0), (39, Ptr wb 1), (40, Slc gq 0 q cpq), (41, U64 nv), (42, I64 ((k:Int) - (q:Int) - 1)), (43, I64 (8*(k:Int) - 8*(q:Int) - 8)), (44, U64 (nv >>> UInt64.ofNat (8*k - 8*q - 8))), (45, U8 ((nv >>> UInt64.ofNat (8*k - 8*q - 8)).toUInt8)), (46, Slc nb7 0 1 1), (47, Slc nb8 0 (q + 1) cp4), (48, Ptr wb 0), (49, Ptr wb 1), (0, Ptr wb 0), (1, U64 nv), (6, .pointer none), (7, I64 ((k:Int) - (q:Int) - 1)), (32, I64 ((k:Int) - (q:Int) - 1)), (33, .bool (decide ((0:Int) ≤ ((k:Int) - (q:Int) - 1))))] _
        refine JQ_in_normal ?_
        refine JQ_then ?_
        refine JC_region ?_
        refine JL_val _ (Ev_move rfl) rfl ?_
        refine JL_val (I64 ((k:Int) - (q:Int) - 2)) (Ev_bini rfl rfl fun _ => bin_sub_i _ _ ((k:Int) - (q:Int) - 2) (by omega) (by omega)) rfl ?_
        refine JL_val _ (Ev_assign rfl) rfl ?_
        refine JL_nil ?_
        refine JQ_thenK ?_
        refine K_mask [true, false, true] ?_
        show K _ _ [⟨wb, [ev, Slc nb8 0 (q + 1) cp4], 149, (0, 0)⟩, ⟨nb8, cu8 (oq ++ ([(nv >>> UInt64.ofNat (8*k - 8*q - 8)).toUInt8])) ++ sp4, 5, (0, 0)⟩] _
        refine K_next (.inr (q + 1, oq ++ ([(nv >>> UInt64.ofNat (8*k - 8*q - 8)).toUInt8]), nb8, sp4, cp4)) ⟨by omega, by omega, by rw [numK_succ, ← hx2], (ha13).trans (by first | rfl | simp +arith), (ha14).trans (by first | rfl | simp +arith), by omega, ha16⟩ (by first | (simp; omega) | simp | (dsimp only; omega) | omega) (Sub.cons rfl (Sub.cons rfl (Sub.cons rfl (Sub.cons (some_i64 (by omega)) (Sub.nil))))) rfl
      ·
        have hp3 : ¬ ((0:Int) ≤ ((k:Int) - (q:Int) - 1)) := of_decide_eq_false hb3
        refine JC_exit ?_
        refine JQ_then_exit ?_
        refine JQ_then_exit ?_
        refine JQ_in_same ?_
        refine JQ_then ?_
        refine JC_seq ?_
        refine JC_region ?_
        refine JL_val _ (Ev_move rfl) rfl ?_
        refine JL_val _ (Ev_assign rfl) rfl ?_
        refine JL_nil ?_
        refine JQ_then ?_
        refine JC_ret ?_
        refine JQ_ret (Ptr wb 0) (res1 Tryd.results81 (RV_tmp rfl)) fun w1 hw1 => ?_
        have e1 : q = k := by omega
        rw [hx2, e1] at hw1
        obtain rfl : tot = k := by omega
        exact ⟨_, _, rfl, ⟨rfl, gq, spq, cpq, rfl, by omega, by omega, hx6⟩, hw1⟩

theorem numO_c (wb gb n cap0 tot : Nat) (ev : Value) (o : List UInt8) (sp0 : List Value) (nv : UInt64) (k : Nat)  (w : World) (h0 : w.heap[wb]? = some (.cells [ev, Slc gb 0 n cap0].toArray 149 (0, 0))) (h1 : w.heap[gb]? = some (.cells (cu8 o ++ sp0).toArray 5 (0, 0))) (hne : wb ≠ gb) (ho : o.length = n) (hsp : sp0.length = cap0 - n) (hca : n ≤ cap0) (hcm : cap0 ≤ maxLen) (hn : n ≤ 1000000000) (hs : Szd (k:Int)) (hx : k < 8 → nv >>> UInt64.ofNat (8*k) = 0) (ht : n + k = tot) : Calls Tryd.prog 81 #[Ptr wb 0, U64 nv, I64 ((k:Int))] w (Post w [wb, gb] (fun v L => v = Ptr wb 0 ∧ ∃ g sp cap, L = [⟨wb, [ev, Slc g 0 tot cap], 149, (0, 0)⟩, ⟨g, cu8 (o ++ numK k nv k) ++ sp, 5, (0, 0)⟩] ∧ sp.length = cap - tot ∧ tot ≤ cap ∧ cap ≤ maxLen)) := by
  have hmx : maxLen = 9223372036854775807 := rfl
  have hs4 : k = 1 ∨ k = 2 ∨ k = 4 ∨ k = 8 := by unfold Szd at hs; omega
  refine enter w [wb, gb] 51 [⟨wb, [ev, Slc gb 0 n cap0], 149, (0, 0)⟩, ⟨gb, cu8 o ++ sp0, 5, (0, 0)⟩] [Ptr wb 0, U64 nv, I64 ((k:Int))] Tryd.func81 rfl rfl (by simp) (Hp.start (by simp; exact ⟨h0, h1⟩) (by simp; exact hne) (by simp)) ?_
  show JC _ _ _ [(0, Ptr wb 0), (1, U64 nv), (2, I64 ((k:Int)))] _
  refine JC_seq ?_
  refine JC_region ?_
  refine JL_val _ (Ev_assign rfl) rfl ?_
  refine JL_nil ?_
  refine JQ_then ?_
  refine JC_seq ?_
  refine JC_seq ?_
  refine JC_region ?_
  refine JL_val _ (Ev_move rfl) rfl ?_
  refine JL_val (.bool false) (Ev_bin _ _ _ rfl rfl (fun _ => eqGuard_ptr ..) fun _ => eql_ptr_nil Tryd.underlying145) rfl ?_
  refine JL_nil ?_
  refine JQ_then ?_
  refine JC_condF _ rfl rfl ?_
  refine JC_skip ?_
  refine JQ_then ?_
  refine JC_seq ?_
  refine JC_seq ?_
  refine JC_region ?_
  refine JL_val _ (Ev_move rfl) rfl ?_
  refine JL_step (Step_callP 143 [I64 ((k:Int))] (.bool true) (Cl_func [I64 ((k:Int))] Tryd.call143 rfl) (fun w1 _ => sizedT_c ((k:Int)) w1 hs)) rfl ?_
  rintro v1 L1 ⟨rfl, rfl⟩
  show JL _ _ _ _ ((11, .bool true) :: _) [⟨wb, [ev, Slc gb 0 n cap0], 149, (0, 0)⟩, ⟨gb, cu8 o ++ sp0, 5, (0, 0)⟩]
  refine JL_val (.bool (!true)) (Ev_not rfl) rfl ?_
  refine JL_val _ (Ev_move rfl) rfl ?_
  refine JL_gval 3 13 false _ _ rfl rfl rfl (Ev_move rfl) rfl ?_
  refine JL_gval 3 13 false _ (.bool (decide (((k:Int)) < (8:Int)))) rfl rfl rfl (Ev_bini rfl rfl fun _ => bin_lss_i _ _) rfl ?_
  refine JL_gval 3 13 false _ _ rfl rfl rfl (Ev_move rfl) rfl ?_
  rcases Bool.eq_false_or_eq_true (decide (((k:Int)) < (8:Int))) with hb1 | hb1
  ·
    have hp1 : ((k:Int)) < (8:Int) := of_decide_eq_true hb1
    refine JL_gval 6 16 true _ _ rfl rfl hb1 (Ev_move rfl) rfl ?_
    refine JL_gval 6 16 true _ _ rfl rfl hb1 (Ev_move rfl) rfl ?_
    refine JL_gval 6 16 true _ (I64 (8*(k:Int))) rfl rfl hb1 (Ev_bini rfl rfl fun _ => bin_mul_i _ _ (8*(k:Int)) (by omega) (by omega)) rfl ?_
    refine JL_gval 6 16 true _ (U64 (nv >>> UInt64.ofNat (8*k))) rfl rfl hb1 (Ev_bini rfl rfl fun _ => bin_shr_u64 nv _ _ (8*k) (by omega) (by omega)) rfl ?_
    refine JL_gval 6 16 true _ (.bool (decide ((nv >>> UInt64.ofNat (8*k)) ≠ (0:UInt64)))) rfl rfl hb1 (Ev_bini rfl rfl fun _ => bin_neq_u64 (nv >>> UInt64.ofNat (8*k)) (0:UInt64)) rfl ?_
    refine JL_gval 3 13 false _ _ rfl rfl rfl (Ev_pickT _ rfl hb1 rfl) rfl ?_
    refine JL_val _ (Ev_pickF _ rfl rfl rfl) rfl ?_
    refine JL_nil ?_
    refine JQ_then ?_
    refine JC_condF _ rfl (decide_eq_false (fun h => h (hx (by omega)))) ?_
    refine JC_skip ?_
    refine JQ_then ?_
    refine JC_seq ?_
    refine JC_seq ?_
    refine JC_region ?_
    refine JL_val _ (Ev_move rfl) rfl ?_
    refine JL_val (I64 ((k:Int) - 1)) (Ev_bini rfl rfl fun _ => bin_sub_i _ _ ((k:Int) - 1) (by omega) (by omega)) rfl ?_
    refine JL_val _ (Ev_assign rfl) rfl ?_
    refine JL_nil ?_
    refine JQ_then ?_
    refine JC_block ?_
    refine JC_loop (ι := Nat × List UInt8 × Nat × List Value × Nat) (fun ⟨q, oq, gq, spq, cpq⟩ => [(0, Ptr wb 0), (1, U64 nv), (6, .pointer none), (7, I64 ((k:Int) - (q:Int) - 1))]) (fun ⟨q, oq, gq, spq, cpq⟩ => [⟨wb, [ev, Slc gq 0 (n + q) cpq], 149, (0, 0)⟩, ⟨gq, cu8 oq ++ spq, 5, (0, 0)⟩]) (fun ⟨q, oq, gq, spq, cpq⟩ => q ≤ k ∧ oq = o ++ numK k nv q ∧ oq.length = (n + q) ∧ spq.length = cpq - ((n + q)) ∧ (n + q) ≤ cpq ∧ cpq ≤ maxLen) (fun ⟨q, oq, gq, spq, cpq⟩ => k - q) (0, o, gb, sp0, cap0) ⟨by omega, by rw [numK_zero, List.append_nil], by omega, by omega, by omega, hcm⟩ (Sub.cons rfl (Sub.cons rfl (Sub.cons rfl (Sub.cons (some_i64 (by omega)) (Sub.nil))))) rfl ?_
    rintro ⟨q, oq, gq, spq, cpq⟩ ⟨hx1, hx2, hoq, hx4, hx5, hx6⟩
    show JC _ _ _ [(0, Ptr wb 0), (1, U64 nv), (6, .pointer none), (7, I64 ((k:Int) - (q:Int) - 1))] [⟨wb, [ev, Slc gq 0 (n + q) cpq], 149, (0, 0)⟩, ⟨gq, cu8 oq ++ spq, 5, (0, 0)⟩]
    refine JC_seq ?_
    refine JC_seq ?_
    refine JC_region ?_
    refine JL_val _ (Ev_move rfl) rfl ?_
    refine JL_val (.bool (decide ((0:Int) ≤ ((k:Int) - (q:Int) - 1)))) (Ev_bini rfl rfl fun _ => bin_geq_i _ _) rfl ?_
    refine JL_nil ?_
    refine JQ_then ?_
    refine JC_cond (decide ((0:Int) ≤ ((k:Int) - (q:Int) - 1))) rfl (fun hb2 => ?_) (fun hb2 => ?_)
    ·
      have hp2 : (0:Int) ≤ ((k:Int) - (q:Int) - 1) := of_decide_eq_true hb2
      refine JC_skip ?_
      refine JQ_then ?_
      refine JC_seq ?_
      refine JC_block ?_
      refine JC_draw 51 4 [(0, Ptr wb 0), (1, Ptr wb 0), (2, Ptr wb 0), (3, Ptr wb 1), (4, Slc gq 0 (n + q) cpq), (5, U64 nv), (6, I64 ((k:Int) - (q:Int) - 1)), (7, I64 (8*(k:Int) - 8*(q:Int) - 8)), (8, U64 (nv >>> UInt64.ofNat (8*k - 8*q - 8))), (9, U8 ((nv >>> UInt64.ofNat (8*k - 8*q - 8)).toUInt8))] Tryd.mixed rfl (by decide +kernel) ?_
      refine DP_one ⟨[], [0, 1, 2, 3, 4, 5, 6, 7, 8, 9], [], [0, 1, 2, 3, 4, 5, 6, 7, 8, 9], [10]⟩ 10 _ rfl rfl (by decide +kernel) rfl ⟨⟨_, rfl, Qok_val rfl (Ev_move rfl)⟩, ⟨_, rfl, Qok_val rfl (Ev_move rfl)⟩, ⟨_, rfl, Qok_val rfl (Ev_nilCheck rfl)⟩, ⟨_, rfl, Qok_val rfl (Ev_fieldAddr 1 43 1 Tryd.underlying149 rfl Tryd.sizeOf43 rfl rfl)⟩, ⟨_, rfl, Qok_val rfl (Ev_load rfl (Ld_one Tryd.isAgg43 (MemAt.ent 0 rfl (Seg.tail (Seg.head)))))⟩, ⟨_, rfl, Qok_val rfl (Ev_move rfl)⟩, ⟨_, rfl, Qok_val rfl (Ev_move rfl)⟩, ⟨_, rfl, Qok_val rfl (Ev_bini rfl rfl fun _ => bin_mul_i _ _ (8*(k:Int) - 8*(q:Int) - 8) (by omega) (by omega))⟩, ⟨_, rfl, Qok_val rfl (Ev_bini rfl rfl fun _ => bin_shr_u64 nv _ _ (8*k - 8*q - 8) (by omega) (by omega))⟩, ⟨_, rfl, Qok_val rfl (Ev_conv _ _ rfl fun _ => conv_u64_u8 (by rw [Tryd.underlying22]; rfl) Tryd.underlying5 _)⟩, trivial⟩ rfl (Cok_step rfl (Step_buildSlice 5 1 _ [(0, U8 ((nv >>> UInt64.ofNat (8*k - 8*q - 8)).toUInt8))] (cu8 ([(nv >>> UInt64.ofNat (8*k - 8*q - 8)).toUInt8])) Tryd.underlying43 Tryd.sizeOf5 Tryd.zeroValue5 rfl rfl rfl (by kernel_rfl))) ?_
      rintro v1 L1 ⟨nb1, hnb1, rfl, rfl⟩
      refine ⟨[], ?_⟩
      show DP _ _ _ _ _ _ _ _ [⟨wb, [ev, Slc gq 0 (n + q) cpq], 149, (0, 0)⟩, ⟨gq, cu8 oq ++ spq, 5, (0, 0)⟩, ⟨nb1, cu8 ([(nv >>> UInt64.ofNat (8*k - 8*q - 8)).toUInt8]), 5, (0, 0)⟩]
      refine DP_one ⟨[10], [0, 1, 2, 3, 4, 5, 6, 7, 8, 9], [5, 6, 7, 8, 9], [0, 1, 2, 3, 4], [11]⟩ 11 _ rfl rfl (by decide +kernel) rfl ⟨⟨_, rfl, Qok_val rfl (Ev_move rfl)⟩, ⟨_, rfl, Qok_val rfl (Ev_move rfl)⟩, ⟨_, rfl, Qok_val rfl (Ev_nilCheck rfl)⟩, ⟨_, rfl, Qok_val rfl (Ev_fieldAddr 1 43 1 Tryd.underlying149 rfl Tryd.sizeOf43 rfl rfl)⟩, ⟨_, rfl, Qok_val rfl (Ev_load rfl (Ld_one Tryd.isAgg43 (MemAt.ent 0 rfl (Seg.tail (Seg.head)))))⟩, trivial⟩ rfl (Cok_step rfl (Step_appM8 43 5 [false, true, false] (Slc gq 0 (n + q) cpq) (n + q) oq ([(nv >>> UInt64.ofNat (8*k - 8*q - 8)).toUInt8]) (some ⟨nb1, 0, none⟩) 1 1 (n + q + 1) Tryd.underlying43 Tryd.info5 rfl (.inr ⟨gq, spq, cpq, rfl, rfl, (by first | exact hoq | simp [hoq]), hx4, (by omega), (by omega)⟩) rfl (by simp) (SrcAt.mem (MemAt.ent 2 rfl (Seg.whole _))) (by omega) (by unfold maxLen; omega) (by omega))) ?_
      rintro v1 L1 ⟨nb2, sp1, cp1, hg1, rfl, rfl, ha1, ha2, ha3, ha4⟩
      refine ⟨[(12, Ptr wb 0), (13, Ptr wb 1)], ?_⟩
      show DP _ _ _ _ _ _ _ _ [⟨wb, [ev, Slc gq 0 (n + q) cpq], 149, (0, 0)⟩, ⟨nb1, cu8 ([(nv >>> UInt64.ofNat (8*k - 8*q - 8)).toUInt8]), 5, (0, 0)⟩, ⟨nb2, cu8 (oq ++ ([(nv >>> UInt64.ofNat (8*k - 8*q - 8)).toUInt8])) ++ sp1, 5, (0, 0)⟩]
      refine DP_one ⟨[10, 11], [0, 1, 2, 3, 4, 5, 6, 7, 8, 9, 12, 13], [1, 2, 3, 4, 5, 6, 7, 8, 9], [0, 12, 13], [14]⟩ 14 _ rfl rfl (by decide +kernel) rfl ⟨⟨_, rfl, Qok_val rfl (Ev_move rfl)⟩, ⟨_, rfl, Qok_val rfl (Ev_nilCheck rfl)⟩, ⟨_, rfl, Qok_val rfl (Ev_fieldAddr 1 43 1 Tryd.underlying149 rfl Tryd.sizeOf43 rfl rfl)⟩, trivial⟩ rfl (Cok_step rfl (Step_store 0 wb 1 1 ([ev, Slc gq 0 (n + q) cpq]) 149 (Slc nb2 0 (n + q + 1) cp1) ([Slc nb2 0 (n + q + 1) cp1]) ([ev, Slc nb2 0 (n + q + 1) cp1]) rfl rfl rfl rfl Tryd.sizeOf43 rfl (by simp [Value.oneCell']) (Nat.le_of_ble_eq_true rfl) (rfl))) ?_
      rintro v1 L1 ⟨rfl, rfl⟩
      refine ⟨[], ?_⟩
      show DP _ _ _ _ _ _ _ _ [⟨wb, [ev, Slc nb2 0 (n + q + 1) cp1], 149, (0, 0)⟩, ⟨nb1, cu8 ([(nv >>> UInt64.ofNat (8*k - 8*q - 8)).toUInt8]), 5, (0, 0)⟩, ⟨nb2, cu8 (oq ++ ([(nv >>> UInt64.ofNat (8*k - 8*q - 8)).toUInt8])) ++ sp1, 5, (0, 0)⟩]
      refine DP_end ⟨[10, 11, 14], [0, 1, 2, 3, 4, 5, 6, 7, 8, 9, 12, 13], [0, 1, 2, 3, 4, 5, 6, 7, 8, 9, 12, 13], [], []⟩ rfl rfl (by decide +kernel) rfl trivial ?_
      refine K_sub (F' := [(36, Ptr wb 0), (37, Ptr wb 0), (38, Ptr wb 0), (39, Ptr wb 1), (40, Slc gq 0 (n + q) cpq), (41, U64 nv), (42, I64 ((k:Int) - (q:Int) - 1)), (43, I64 (8*(k:Int) - 8*(q:Int) - 8)), (44, U64 (nv >>> UInt64.ofNat (8*k - 8*q - 8))), (45, U8 ((nv >>> UInt64.ofNat (8*k - 8*q - 8)).toUInt8)), (46, Slc nb1 0 1 1), (47, Slc nb2 0 (n + q + 1) cp1), (48, Ptr wb 0), (49, Ptr wb 1), (0, Ptr wb 0), (1, U64 nv), (6, .pointer none), (7, I64 ((k:Int) - (q:Int) - 1)), (32, I64 ((k:Int) - (q:Int) - 1)), (33, .bool (decide ((0:Int) ≤ ((k:Int) - (q:Int) - 1))))]) (Sub.cons (by kernel_rfl) (Sub.cons (by kernel_rfl) (Sub.cons (by kernel_rfl) (Sub.cons (by kernel_rfl) (Sub.cons (by kernel_rfl) (Sub.cons (by kernel_rfl) (Sub.cons (by kernel_rfl) (Sub.cons (by kernel_rfl) (Sub.cons (by kernel_rfl) (Sub.cons (by kernel_rfl) (Sub.cons (by kernel_rfl) (Sub.cons (by kernel_rfl) (Sub.cons (by kernel_rfl) (Sub.cons (by kernel_rfl) (Sub.cons (by kernel_rfl) (Sub.cons (by kernel_rfl) (Sub.cons (by kernel_rfl) (Sub.cons (by kernel_rfl) (Sub.cons (by kernel_rfl) (Sub.cons (by kernel_rfl) (Sub.nil))))))))))))))))))))) ?_
      show JQ _ _ _ [(36, Ptr wb 0), (37, Ptr wb 0), (38, Ptr wb 0), (39, Ptr wb 1), (40, Slc gq 0 (n + q) cpq), (41, U64 nv), (42, I64 ((k:Int) - (q:Int) - 1)), (43, I64 (8*(k:Int) - 8*(q:Int) - 8)), (44, U64 (nv >>> UInt64.ofNat (8*k - 8*q - 8))), (45, U8 ((nv >>> UInt64.ofNat (8*k - 8*q - 8)).toUInt8)), (46, Slc nb1 0 1 1), (47, Slc nb2 0 (n + q + 1) cp1), (48, Ptr wb 0), (49, Ptr wb 1), (0, Ptr wb 0), (1, U64 nv), (6, .pointer none), (7, I64 ((k:Int) - (q:Int) - 1)), (32, I64 ((k:Int) - (q:Int) - 1)), (33, .bool (decide ((0:Int) ≤ ((k:Int) - (q:Int) - 1))))] _
      refine JQ_in_normal ?_
      refine JQ_then ?_
      refine JC_region ?_
      refine JL_val _ (Ev_move rfl) rfl ?_
      refine JL_val (I64 ((k:Int) - (q:Int) - 2)) (Ev_bini rfl rfl fun _ => bin_sub_i _ _ ((k:Int) - (q:Int) - 2) (by omega) (by omega)) rfl ?_
      refine JL_val _ (Ev_assign rfl) rfl ?_
      refine JL_nil ?_
      refine JQ_thenK ?_
      refine K_mask [true, false, true] ?_
      show K _ _ [⟨wb, [ev, Slc nb2 0 (n + q + 1) cp1], 149, (0, 0)⟩, ⟨nb2, cu8 (oq ++ ([(nv >>> UInt64.ofNat (8*k - 8*q - 8)).toUInt8])) ++ sp1, 5, (0, 0)⟩] _
      refine K_next (q + 1, oq ++ ([(nv >>> UInt64.ofNat (8*k - 8*q - 8)).toUInt8]), nb2, sp1, cp1) ⟨by omega, by rw [numK_succ, ← List.append_assoc, ← hx2], (ha1).trans (by first | rfl | simp +arith), (ha2).trans (by first | rfl | simp +arith), by omega, ha4⟩ (by first | (simp; omega) | simp | (dsimp only; omega) | omega) (Sub.cons rfl (Sub.cons rfl (Sub.cons rfl (Sub.cons (some_i64 (by omega)) (Sub.nil))))) rfl
    ·
      have hp2 : ¬ ((0:Int) ≤ ((k:Int) - (q:Int) - 1)) := of_decide_eq_false hb2
      refine JC_exit ?_
      refine JQ_then_exit ?_
      refine JQ_then_exit ?_
      refine JQ_in_same ?_
      refine JQ_then ?_
      refine JC_seq ?_
      refine JC_region ?_
      refine JL_val _ (Ev_move rfl) rfl ?_
      refine JL_val _ (Ev_assign rfl) rfl ?_
      refine JL_nil ?_
      refine JQ_then ?_
      refine JC_ret ?_
      refine JQ_ret (Ptr wb 0) (res1 Tryd.results81 (RV_tmp rfl)) fun w1 hw1 => ?_
      have e1 : q = k := by omega
      rw [hx2, e1] at hw1
      obtain rfl : tot = n + k := by omega
      exact ⟨_, _, rfl, ⟨rfl, gq, spq, cpq, rfl, by omega, by omega, hx6⟩, hw1⟩
  ·
    have hp1 : ¬ (((k:Int)) < (8:Int)) := of_decide_eq_false hb1
    refine JL_gskip 6 16 true _ rfl rfl hb1 rfl ?_
    refine JL_gskip 6 16 true _ rfl rfl hb1 rfl ?_
    refine JL_gskip 6 16 true _ rfl rfl hb1 rfl ?_
    refine JL_gskip 6 16 true _ rfl rfl hb1 rfl ?_
    refine JL_gskip 6 16 true _ rfl rfl hb1 rfl ?_
    refine JL_gval 3 13 false _ _ rfl rfl rfl (Ev_pickF _ rfl hb1 rfl) rfl ?_
    refine JL_val _ (Ev_pickF _ rfl rfl rfl) rfl ?_
    refine JL_nil ?_
    refine JQ_then ?_
    refine JC_condF _ rfl rfl ?_
    refine JC_skip ?_
    refine JQ_then ?_
    refine JC_seq ?_
    refine JC_seq ?_
    refine JC_region ?_
    refine JL_val _ (Ev_move rfl) rfl ?_
    refine JL_val (I64 ((k:Int) - 1)) (Ev_bini rfl rfl fun _ => bin_sub_i _ _ ((k:Int) - 1) (by omega) (by omega)) rfl ?_
    refine JL_val _ (Ev_assign rfl) rfl ?_
    refine JL_nil ?_
    refine JQ_then ?_
    refine JC_block ?_
    refine JC_loop (ι := Nat × List UInt8 × Nat × List Value × Nat) (fun ⟨q, oq, gq, spq, cpq⟩ => [(0, Ptr wb 0), (1, U64 nv), (6, .pointer none), (7, I64 ((k:Int) - (q:Int) - 1))]) (fun ⟨q, oq, gq, spq, cpq⟩ => [⟨wb, [ev, Slc gq 0 (n + q) cpq], 149, (0, 0)⟩, ⟨gq, cu8 oq ++ spq, 5, (0, 0)⟩]) (fun ⟨q, oq, gq, spq, cpq⟩ => q ≤ k ∧ oq = o ++ numK k nv q ∧ oq.length = (n + q) ∧ spq.length = cpq - ((n + q)) ∧ (n + q) ≤ cpq ∧ cpq ≤ maxLen) (fun ⟨q, oq, gq, spq, cpq⟩ => k - q) (0, o, gb, sp0, cap0) ⟨by omega, by rw [numK_zero, List.append_nil], by omega, by omega, by omega, hcm⟩ (Sub.cons rfl (Sub.cons rfl (Sub.cons rfl (Sub.cons (some_i64 (by omega)) (Sub.nil))))) rfl ?_
    rintro ⟨q, oq, gq, spq, cpq⟩ ⟨hx1, hx2, hoq, hx4, hx5, hx6⟩
    show JC _ _ _ [(0, Ptr wb 0), (1, U64 nv), (6, .pointer none), (7, I64 ((k:Int) - (q:Int) - 1))] [⟨wb, [ev, Slc gq 0 (n + q) cpq], 149, (0, 0)⟩, ⟨gq, cu8 oq ++ spq, 5, (0, 0)⟩]
    refine JC_seq ?_
    refine JC_seq ?_
    refine JC_region ?_
    refine JL_val _ (Ev_move rfl) rfl ?_
    refine JL_val (.bool (decide ((0:Int) ≤ ((k:Int) - (q:Int) - 1)))) (Ev_bini rfl rfl fun _ => bin_geq_i _ _) rfl ?_
    refine JL_nil ?_
    refine JQ_then ?_
    refine JC_cond (decide ((0:Int) ≤ ((k:Int) - (q:Int) - 1))) rfl (fun hb3 => ?_) (fun hb3 => ?_)
    ·
      have hp3 : (0:Int) ≤ ((k:Int) - (q:Int) - 1) := of_decide_eq_true hb3
      refine JC_skip ?_
      refine JQ_then ?_
      refine JC_seq ?_
      refine JC_block ?_
      refine JC_draw 51 4 [(0, Ptr wb 0), (1, Ptr wb 0), (2, Ptr wb 0), (3, Ptr wb 1), (4, Slc gq 0 (n + q) cpq), (5, U64 nv), (6, I64 ((k:Int) - (q:Int) - 1)), (7, I64 (8*(k:Int) - 8*(q:Int) - 8)), (8, U64 (nv >>> UInt64.ofNat (8*k - 8*q - 8))), (9, U8 ((nv >>> UInt64.ofNat (8*k - 8*q - 8)).toUInt8))] Tryd.mixed rfl (by decide +kernel) ?_
      refine DP_one ⟨[], [0, 1, 2, 3, 4, 5, 6, 7, 8, 9], [], [0, 1, 2, 3, 4, 5, 6, 7, 8, 9], [10]⟩ 10 _ rfl rfl (by decide +kernel) rfl ⟨⟨_, rfl, Qok_val rfl (Ev_move rfl)⟩, ⟨_, rfl, Qok_val rfl (Ev_move rfl)⟩, ⟨_, rfl, Qok_val rfl (Ev_nilCheck rfl)⟩, ⟨_, rfl, Qok_val rfl (Ev_fieldAddr 1 43 1 Tryd.underlying149 rfl Tryd.sizeOf43 rfl rfl)⟩, ⟨_, rfl, Qok_val rfl (Ev_load rfl (Ld_one Tryd.isAgg43 (MemAt.ent 0 rfl (Seg.tail (Seg.head)))))⟩, ⟨_, rfl, Qok_val rfl (Ev_move rfl)⟩, ⟨_, rfl, Qok_val rfl (Ev_move rfl)⟩, ⟨_, rfl, Qok_val rfl (Ev_bini rfl rfl fun _ => bin_mul_i _ _ (8*(k:Int) - 8*(q:Int) - 8) (by omega) (by omega))⟩, ⟨_, rfl, Qok_val rfl (Ev_bini rfl rfl fun _ => bin_shr_u64 nv _ _ (8*k - 8*q - 8) (by omega) (by omega))⟩, ⟨_, rfl, Qok_val rfl (Ev_conv _ _ rfl fun _ => conv_u64_u8 (by rw [Tryd.underlying22]; rfl) Tryd.underlying5 _)⟩, trivial⟩ rfl (Cok_step rfl (Step_buildSlice 5 1 _ [(0, U8 ((nv >>> UInt64.ofNat (8*k - 8*q - 8)).toUInt8))] (cu8 ([(nv >>> UInt64.ofNat (8*k - 8*q - 8)).toUInt8])) Tryd.underlying43 Tryd.sizeOf5 Tryd.zeroValue5 rfl rfl rfl (by kernel_rfl))) ?_
      rintro v1 L1 ⟨nb3, hnb3, rfl, rfl⟩
      refine ⟨[], ?_⟩
      show DP _ _ _ _ _ _ _ _ [⟨wb, [ev, Slc gq 0 (n + q) cpq], 149, (0, 0)⟩, ⟨gq, cu8 oq ++ spq, 5, (0, 0)⟩, ⟨nb3, cu8 ([(nv >>> UInt64.ofNat (8*k - 8*q - 8)).toUInt8]), 5, (0, 0)⟩]
      refine DP_one ⟨[10], [0, 1, 2, 3, 4, 5, 6, 7, 8, 9], [5, 6, 7, 8, 9], [0, 1, 2, 3, 4], [11]⟩ 11 _ rfl rfl (by decide +kernel) rfl ⟨⟨_, rfl, Qok_val rfl (Ev_move rfl)⟩, ⟨_, rfl, Qok_val rfl (Ev_move rfl)⟩, ⟨_, rfl, Qok_val rfl (Ev_nilCheck rfl)⟩, ⟨_, rfl, Qok_val rfl (Ev_fieldAddr 1 43 1 Tryd.underlying149 rfl Tryd.sizeOf43 rfl rfl)⟩, ⟨_, rfl, Qok_val rfl (Ev_load rfl (Ld_one Tryd.isAgg43 (MemAt.ent 0 rfl (Seg.tail (Seg.head)))))⟩, trivial⟩ rfl (Cok_step rfl (Step_appM8 43 5 [false, true, false] (Slc gq 0 (n + q) cpq) (n + q) oq ([(nv >>> UInt64.ofNat (8*k - 8*q - 8)).toUInt8]) (some ⟨nb3, 0, none⟩) 1 1 (n + q + 1) Tryd.underlying43 Tryd.info5 rfl (.inr ⟨gq, spq, cpq, rfl, rfl, (by first | exact hoq | simp [hoq]), hx4, (by omega), (by omega)⟩) rfl (by simp) (SrcAt.mem (MemAt.ent 2 rfl (Seg.whole _))) (by omega) (by unfold maxLen; omega) (by omega))) ?_
      rintro v1 L1 ⟨nb4, sp2, cp2, hg2, rfl, rfl, ha5, ha6, ha7, ha8⟩
      refine ⟨[(12, Ptr wb 0), (13, Ptr wb 1)], ?_⟩
      show DP _ _ _ _ _ _ _ _ [⟨wb, [ev, Slc gq 0 (n + q) cpq], 149, (0, 0)⟩, ⟨nb3, cu8 ([(nv >>> UInt64.ofNat (8*k - 8*q - 8)).toUInt8]), 5, (0, 0)⟩, ⟨nb4, cu8 (oq ++ ([(nv >>> UInt64.ofNat (8*k - 8*q - 8)).toUInt8])) ++ sp2, 5, (0, 0)⟩]
      refine DP_one ⟨[10, 11], [0, 1, 2, 3, 4, 5, 6, 7, 8, 9, 12, 13], [1, 2, 3, 4, 5, 6, 7, 8, 9], [0, 12, 13], [14]⟩ 14 _ rfl rfl (by decide +kernel) rfl ⟨⟨_, rfl, Qok_val rfl (Ev_move rfl)⟩, ⟨_, rfl, Qok_val rfl (Ev_nilCheck rfl)⟩, ⟨_, rfl, Qok_val rfl (Ev_fieldAddr 1 43 1 Tryd.underlying149 rfl Tryd.sizeOf43 rfl rfl)⟩, trivial⟩ rfl (Cok_step rfl (Step_store 0 wb 1 1 ([ev, Slc gq 0 (n + q) cpq]) 149 (Slc nb4 0 (n + q + 1) cp2) ([Slc nb4 0 (n + q + 1) cp2]) ([ev, Slc nb4 0 (n + q + 1) cp2]) rfl rfl rfl rfl Tryd.sizeOf43 rfl (by simp [Value.oneCell']) (Nat.le_of_ble_eq_true rfl) (rfl))) ?_
      rintro v1 L1 ⟨rfl, rfl⟩
      refine ⟨[], ?_⟩
      show DP _ _ _ _ _ _ _ _ [⟨wb, [ev, Slc nb4 0 (n + q + 1) cp2], 149, (0, 0)⟩, ⟨nb3, cu8 ([(nv >>> UInt64.ofNat (8*k - 8*q - 8)).toUInt8]), 5, (0, 0)⟩, ⟨nb4, cu8 (oq ++ ([(nv >>> UInt64.ofNat (8*k - 8*q - 8)).toUInt8])) ++ sp2, 5, (0, 0)⟩]
      refine DP_end ⟨[10, 11, 14], [0, 1, 2, 3, 4, 5, 6, 7, 8, 9, 12, 13], [0, 1, 2, 3, 4, 5, 6, 7, 8, 9, 12, 13], [], []⟩ rfl rfl (by decide +kernel) rfl trivial ?_
      refine K_sub (F' := [(36, Ptr wb 0), (37, Ptr wb 0), (38, Ptr wb 0), (39, Ptr wb 1), (40, Slc gq 0 (n + q) cpq), (41, U64 nv), (42, I64 ((k:Int) - (q:Int) - 1)), (43, I64 (8*(k:Int) - 8*(q:Int) - 8)), (44, U64 (nv >>> UInt64.ofNat (8*k - 8*q - 8))), (45, U8 ((nv >>> UInt64.ofNat (8*k - 8*q - 8)).toUInt8)), (46, Slc nb3 0 1 1), (47, Slc nb4 0 (n + q + 1) cp2), (48, Ptr wb 0), (49, Ptr wb 1), (0, Ptr wb 0), (1, U64 nv), (6, .pointer none), (7, I64 ((k:Int) - (q:Int) - 1)), (32, I64 ((k:Int) - (q:Int) - 1)), (33, .bool (decide ((0:Int) ≤ ((k:Int) - (q:Int) - 1))))]) (Sub.cons (by kernel_rfl) (Sub.cons (by kernel_rfl) (Sub.cons (by kernel_rfl) (Sub.cons (by kernel_rfl) (Sub.cons (by kernel_rfl) (Sub.cons (by kernel_rfl) (Sub.cons (by kernel_rfl) (Sub.cons (by kernel_rfl) (Sub.cons (by kernel_rfl) (Sub.cons (by kernel_rfl) (Sub.cons (by kernel_rfl) (Sub.cons (by kernel_rfl) (Sub.cons (by kernel_rfl) (Sub.cons (by kernel_rfl) (Sub.cons (by kernel_rfl) (Sub.cons (by kernel_rfl) (Sub.cons (by kernel_rfl) (Sub.cons (by kernel_rfl) (Sub.cons (by kernel_rfl) (Sub.cons (by kernel_rfl) (Sub.nil))))))))))))))))))))) ?_
      show JQ _ _ _ [(36, Ptr wb 0), (37, Ptr wb 0), (38, Ptr wb 0), (39, Ptr wb 1), (40, Slc gq 0 (n + q) cpq), (41, U64 nv), (42, I64 ((k:Int) - (q:Int) - 1)), (43, I64 (8*(k:Int) - 8*(q:Int) - 8)), (44, U64 (nv >>> UInt64.ofNat (8*k - 8*q - 8))), (45, U8 ((nv >>> UInt64.ofNat (8*k - 8*q - 8)).toUInt8)), (46, Slc nb3 0 1 1), (47, Slc nb4 0 (n + q + 1) cp2), (48, Ptr wb 0), (49, Ptr wb 1), (0, Ptr wb 0), (1, U64 nv), (6, .pointer none), (7, I64 ((k:Int) - (q:Int) - 1)), (32, I64 ((k:Int) - (q:Int) - 1)), (33, .bool (decide ((0:Int) ≤ ((k:Int) - (q:Int) - 1))))] _
      refine JQ_in_normal ?_
      refine JQ_then ?_
      refine JC_region ?_
      refine JL_val _ (Ev_move rfl) rfl ?_
      refine JL_val (I64 ((k:Int) - (q:Int) - 2)) (Ev_bini rfl rfl fun _ => bin_sub_i _ _ ((k:Int) - (q:Int) - 2) (by omega) (by omega)) rfl ?_
      refine JL_val _ (Ev_assign rfl) rfl ?_
      refine JL_nil ?_
      refine JQ_thenK ?_
      refine K_mask [true, false, true] ?_
      show K _ _ [⟨wb, [ev, Slc nb4 0 (n + q + 1) cp2], 149, (0, 0)⟩, ⟨nb4, cu8 (oq ++ ([(nv >>> UInt64.ofNat (8*k - 8*q - 8)).toUInt8])) ++ sp2, 5, (0, 0)⟩] _
      refine K_next (q + 1, oq ++ ([(nv >>> UInt64.ofNat (8*k - 8*q - 8)).toUInt8]), nb4, sp2, cp2) ⟨by omega, by rw [numK_succ, ← List.append_assoc, ← hx2], (ha5).trans (by first | rfl | simp +arith), (ha6).trans (by first | rfl | simp +arith), by omega, ha8⟩ (by first | (simp; omega) | simp | (dsimp only; omega) | omega) (Sub.cons rfl (Sub.cons rfl (Sub.cons rfl (Sub.cons (some_i64 (by omega)) (Sub.nil))))) rfl
    ·
      have hp3 : ¬ ((0:Int) ≤ ((k:Int) - (q:Int) - 1)) := of_decide_eq_false hb3
      refine JC_exit ?_
      refine JQ_then_exit ?_
      refine JQ_then_exit ?_
      refine JQ_in_same ?_
      refine JQ_then ?_
      refine JC_seq ?_
      refine JC_region ?_
      refine JL_val _ (Ev_move rfl) rfl ?_
      refine JL_val _ (Ev_assign rfl) rfl ?_
      refine JL_nil ?_
      refine JQ_then ?_
      refine JC_ret ?_
      refine JQ_ret (Ptr wb 0) (res1 Tryd.results81 (RV_tmp rfl)) fun w1 hw1 => ?_
      have e1 : q = k := by omega
      rw [hx2, e1] at hw1
      obtain rfl : tot = n + k := by omega
      exact ⟨_, _, rfl, ⟨rfl, gq, spq, cpq, rfl, by omega, by omega, hx6⟩, hw1⟩

theorem rawO_c (wb gb n cap0 tot : Nat) (ev : Value) (o : List UInt8) (sp0 : List Value) (ax : Option Addr) (p cx : Nat) (z : List UInt8) (w : World) (h0 : w.heap[wb]? = some (.cells [ev, Slc gb 0 n cap0].toArray 149 (0, 0))) (h1 : w.heap[gb]? = some (.cells (cu8 o ++ sp0).toArray 5 (0, 0))) (hne : wb ≠ gb) (ho : o.length = n) (hsp : sp0.length = cap0 - n) (hca : n ≤ cap0) (hcm : cap0 ≤ maxLen) (hn : n ≤ 1000000000) (hz : z.length = p) (hm : p ≤ 1000000000) (hr : RdB w [wb, gb] ax z) (ht : n + p = tot) : Calls Tryd.prog 82 #[Ptr wb 0, .slice ax p cx] w (Post w [wb, gb] (fun v L => v = Ptr wb 0 ∧ ∃ g sp cap, L = [⟨wb, [ev, Slc g 0 tot cap], 149, (0, 0)⟩, ⟨g, cu8 (o ++ z) ++ sp, 5, (0, 0)⟩] ∧ sp.length = cap - tot ∧ tot ≤ cap ∧ cap ≤ maxLen)) := by
  have hmx : maxLen = 9223372036854775807 := rfl
  refine enter w [wb, gb] 17 [⟨wb, [ev, Slc gb 0 n cap0], 149, (0, 0)⟩, ⟨gb, cu8 o ++ sp0, 5, (0, 0)⟩] [Ptr wb 0, .slice ax p cx] Tryd.func82 rfl rfl (by simp) (Hp.start (by simp; exact ⟨h0, h1⟩) (by simp; exact hne) (by simp)) ?_
  show JC _ _ _ [(0, Ptr wb 0), (1, .slice ax p cx)] _
  refine JC_seq ?_
  refine JC_region ?_
  refine JL_val _ (Ev_assign rfl) rfl ?_
  refine JL_nil ?_
  refine JQ_then ?_
  refine JC_seq ?_
  refine JC_seq ?_
  refine JC_region ?_
  refine JL_val _ (Ev_move rfl) rfl ?_
  refine JL_val (.bool false) (Ev_bin _ _ _ rfl rfl (fun _ => eqGuard_ptr ..) fun _ => eql_ptr_nil Tryd.underlying145) rfl ?_
  refine JL_nil ?_
  refine JQ_then ?_
  refine JC_condF _ rfl rfl ?_
  refine JC_skip ?_
  refine JQ_then ?_
  refine JC_seq ?_
  refine JC_region ?_
  refine JL_val _ (Ev_move rfl) rfl ?_
  refine JL_val _ (Ev_move rfl) rfl ?_
  refine JL_val _ (Ev_nilCheck rfl) rfl ?_
  refine JL_val (Ptr wb 1) (Ev_fieldAddr 1 43 1 Tryd.underlying149 rfl Tryd.sizeOf43 rfl rfl) rfl ?_
  refine JL_val (Slc gb 0 n cap0) (Ev_load rfl (Ld_one Tryd.isAgg43 (MemAt.ent 0 rfl (Seg.tail (Seg.head))))) rfl ?_
  refine JL_val _ (Ev_move rfl) rfl ?_
  refine JL_step (Step_appM8 43 5 [false, true] (Slc gb 0 n cap0) n o z ax p cx (n + p) Tryd.underlying43 Tryd.info5 rfl (.inr ⟨gb, sp0, cap0, rfl, rfl, (by first | exact ho | simp [ho]), hsp, (by omega), (by omega)⟩) rfl (by simp [hz]; try omega) (hr.src) (by omega) (by unfold maxLen; omega) (by omega)) rfl ?_
  rintro v1 L1 ⟨nb1, sp1, cp1, hg1, rfl, rfl, ha1, ha2, ha3, ha4⟩
  show JL _ _ _ _ ((13, Slc nb1 0 (n + p) cp1) :: _) [⟨wb, [ev, Slc gb 0 n cap0], 149, (0, 0)⟩, ⟨nb1, cu8 (o ++ z) ++ sp1, 5, (0, 0)⟩]
  refine JL_val _ (Ev_nilCheck rfl) rfl ?_
  refine JL_val (Ptr wb 1) (Ev_fieldAddr 1 43 1 Tryd.underlying149 rfl Tryd.sizeOf43 rfl rfl) rfl ?_
  refine JL_step (Step_store 0 wb 1 1 ([ev, Slc gb 0 n cap0]) 149 (Slc nb1 0 (n + p) cp1) ([Slc nb1 0 (n + p) cp1]) ([ev, Slc nb1 0 (n + p) cp1]) rfl rfl rfl rfl Tryd.sizeOf43 rfl (by simp [Value.oneCell']) (Nat.le_of_ble_eq_true rfl) (rfl)) rfl ?_
  rintro v1 L1 ⟨rfl, rfl⟩
  show JL _ _ _ _ _ [⟨wb, [ev, Slc nb1 0 (n + p) cp1], 149, (0, 0)⟩, ⟨nb1, cu8 (o ++ z) ++ sp1, 5, (0, 0)⟩]
  refine JL_nil ?_
  refine JQ_then ?_
  refine JC_seq ?_
  refine JC_region ?_
  refine JL_val _ (Ev_move rfl) rfl ?_
  refine JL_val _ (Ev_assign rfl) rfl ?_
  refine JL_nil ?_
  refine JQ_then ?_
  refine JC_ret ?_
  refine JQ_ret (Ptr wb 0) (res1 Tryd.results82 (RV_tmp rfl)) fun w1 hw1 => ?_
  obtain rfl : tot = (n + p) := by omega
  exact ⟨_, _, rfl, ⟨rfl, nb1, sp1, cp1, rfl, ha2, ha3, ha4⟩, hw1⟩

end Go.Proofs.YtkdpdgpphpngeaaDoor
namespace Go.Proofs.YtkdpdgpphpngeaaDoor
open Go Go.Sx
set_option linter.unusedVariables false
set_option linter.unusedSimpArgs false
set_option maxRecDepth 100000
attribute [local irreducible] mid zr8 zr32 numK valK rvalK
theorem doneO_c (wb e gb n cap0 : Nat) (o : List UInt8) (w : World) (hw : RdA w wb 0 [errV 50 e, Slc gb 0 n cap0]) (he : e = 0) (ho : o.length = n) (hn : n ≤ 2000000000) (hr : RdB w [] (some ⟨gb, 0, none⟩) o) : Calls Tryd.prog 83 #[Ptr wb 0] w (Post w [] (fun v L => ∃ g sp cap, v = .tuple #[Slc g 0 n cap, .nilIface] ∧ L = [⟨g, cu8 o ++ sp, 5, (0, 0)⟩] ∧ sp.length = cap - n ∧ n ≤ cap ∧ cap ≤ maxLen)) := by
  refine enter w [] 25 [] [Ptr wb 0] Tryd.func83 rfl rfl (by simp) (Hp.start (by simp) (by simp) (by simp)) ?_
  show JC _ _ _ [(0, Ptr wb 0)] _
  refine JC_seq ?_
  refine JC_region ?_
  refine JL_val _ (Ev_assign rfl) rfl ?_
  refine JL_val _ (Ev_assign rfl) rfl ?_
  refine JL_nil ?_
  refine JQ_then ?_
  refine JC_seq ?_
  refine JC_block ?_
  refine JC_seq ?_
  refine JC_region ?_
  refine JL_val _ (Ev_move rfl) rfl ?_
  refine JL_val (.bool false) (Ev_bin _ _ _ rfl rfl (fun _ => eqGuard_ptr ..) fun _ => eql_ptr_nil Tryd.underlying145) rfl ?_
  refine JL_val _ (Ev_assign rfl) rfl ?_
  refine JL_nil ?_
  refine JQ_then ?_
  refine JC_condF _ rfl rfl ?_
  refine JC_seq ?_
  refine JC_region ?_
  refine JL_val _ (Ev_move rfl) rfl ?_
  refine JL_val _ (Ev_nilCheck rfl) rfl ?_
  refine JL_val (Ptr wb 0) (Ev_fieldAddr 0 147 1 Tryd.underlying149 rfl Tryd.sizeOf147 rfl rfl) rfl ?_
  refine JL_val (Ptr wb 0) (Ev_fieldAddr 0 45 1 Tryd.underlying147 rfl Tryd.sizeOf45 rfl rfl) rfl ?_
  refine JL_val (errV 50 e) (Ev_load rfl (Ld_one Tryd.isAgg45 (MemAt.seg (hw.mem (by simp)) (Seg.head) (by omega)))) rfl ?_
  refine JL_val (.bool (!(decide (e = 0)))) (Ev_bin _ _ _ rfl rfl (fun _ => eqGuard_errV ..) fun _ => neq_errV Tryd.underlying45 _ _) rfl ?_
  refine JL_val _ (Ev_assign rfl) rfl ?_
  refine JL_nil ?_
  refine JQ_then ?_
  refine JC_condF _ rfl (by rw [show (decide (e = 0)) = true from (decide_eq_true he)] <;> rfl) ?_
  refine JC_skip ?_
  refine JQ_in_normal ?_
  refine JQ_then ?_
  refine JC_seq ?_
  refine JC_region ?_
  refine JL_val _ (Ev_move rfl) rfl ?_
  refine JL_val _ (Ev_nilCheck rfl) rfl ?_
  refine JL_val (Ptr wb 1) (Ev_fieldAddr 1 43 1 Tryd.underlying149 rfl Tryd.sizeOf43 rfl rfl) rfl ?_
  refine JL_val (.slice (some ⟨gb, 0, none⟩) n cap0) (Ev_load rfl (Ld_one Tryd.isAgg43 (MemAt.seg (hw.mem (by simp)) (Seg.tail (Seg.head)) (by omega)))) rfl ?_
  refine JL_step (Step_callN 108 [.slice (some ⟨gb, 0, none⟩) n cap0] _ (Cl_func [.slice (some ⟨gb, 0, none⟩) n cap0] Tryd.call108 rfl) (fun w1 hw1 => sclone_c (some ⟨gb, 0, none⟩) n cap0 o w1 rfl ho (by omega) (hr.at (M' := []) hw1 (by simp)))) rfl ?_
  rintro v1 L1 ⟨_, ⟨nb1, sp1, cp1, rfl, rfl, hc1, hc2, hc3⟩, rfl⟩
  show JL _ _ _ _ ((24, Slc nb1 0 n cp1) :: _) [⟨nb1, cu8 o ++ sp1, 5, (0, 0)⟩]
  refine JL_val _ (Ev_assign rfl) rfl ?_
  refine JL_val _ (Ev_assign rfl) rfl ?_
  refine JL_nil ?_
  refine JQ_then ?_
  refine JC_ret ?_
  refine JQ_ret (.tuple #[Slc nb1 0 n cp1, .nilIface]) (res2 Tryd.results83 (RV_tmp rfl) (RV_tmp rfl)) fun w1 hw1 => ?_
  exact ⟨_, _, rfl, ⟨nb1, sp1, cp1, rfl, rfl, hc1, hc2, hc3⟩, hw1.sub (by simp) (by simp)⟩

theorem errNo_c  (w : World) : Calls Tryd.prog 29 #[.nilIface] w (Post w [] (fun v L => v = I64 0 ∧ L = [])) := by
  refine enter w [] 18 [] [.nilIface] Tryd.func29 rfl rfl (by simp) (Hp.start (by simp) (by simp) (by simp)) ?_
  show JC _ _ _ [(0, .nilIface)] _
  refine JC_seq ?_
  refine JC_region ?_
  refine JL_val _ (Ev_assign rfl) rfl ?_
  refine JL_nil ?_
  refine JQ_then ?_
  refine JC_seq ?_
  refine JC_seq ?_
  refine JC_region ?_
  refine JL_val _ (Ev_move rfl) rfl ?_
  refine JL_val (.bool true) (Ev_bin _ _ _ rfl rfl (fun _ => eqGuard_nn ..) fun _ => eql_if_nil_nil Tryd.underlying45) rfl ?_
  refine JL_nil ?_
  refine JQ_then ?_
  refine JC_condT _ rfl rfl ?_
  refine JC_seq ?_
  refine JC_region ?_
  refine JL_val _ (Ev_assign rfl) rfl ?_
  refine JL_nil ?_
  refine JQ_then ?_
  refine JC_ret ?_
  refine JQ_then_ret ?_
  refine JQ_ret (I64 (0:Int)) (res1 Tryd.results29 (RV_tmp rfl)) fun w1 hw1 => ?_
  exact ⟨_, [], rfl, ⟨rfl, rfl⟩, hw1.sub (by simp) (by simp)⟩

theorem errSome_c (e : Nat) (w : World) (he : e ≠ 0) : Calls Tryd.prog 29 #[.iface 50 (I64 ((e:Int)))] w (Post w [] (fun v L => v = I64 (e : Int) ∧ L = [])) := by
  refine enter w [] 18 [] [.iface 50 (I64 ((e:Int)))] Tryd.func29 rfl rfl (by simp) (Hp.start (by simp) (by simp) (by simp)) ?_
  show JC _ _ _ [(0, .iface 50 (I64 ((e:Int))))] _
  refine JC_seq ?_
  refine JC_region ?_
  refine JL_val _ (Ev_assign rfl) rfl ?_
  refine JL_nil ?_
  refine JQ_then ?_
  refine JC_seq ?_
  refine JC_seq ?_
  refine JC_region ?_
  refine JL_val _ (Ev_move rfl) rfl ?_
  refine JL_val (.bool false) (Ev_bin _ _ _ rfl rfl (fun _ => eqGuard_if ..) fun _ => eql_if_nil Tryd.underlying45) rfl ?_
  refine JL_nil ?_
  refine JQ_then ?_
  refine JC_condF _ rfl rfl ?_
  refine JC_skip ?_
  refine JQ_then ?_
  refine JC_seq ?_
  refine JC_seq ?_
  refine JC_region ?_
  refine JL_val _ (Ev_move rfl) rfl ?_
  refine JL_val (.tuple #[I64 ((e:Int)), .bool true]) (Ev_assert _ _ rfl (fun _ => by kernel_rfl)) rfl ?_
  refine JL_val _ (Ev_move rfl) rfl ?_
  refine JL_val _ (Ev_extract rfl rfl) rfl ?_
  refine JL_val _ (Ev_extract rfl rfl) rfl ?_
  refine JL_val _ (Ev_assign rfl) rfl ?_
  refine JL_val _ (Ev_assign rfl) rfl ?_
  refine JL_nil ?_
  refine JQ_then ?_
  refine JC_seq ?_
  refine JC_region ?_
  refine JL_val _ (Ev_move rfl) rfl ?_
  refine JL_val _ (Ev_move rfl) rfl ?_
  refine JL_gval 1 13 true _ _ rfl rfl rfl (Ev_move rfl) rfl ?_
  refine JL_gval 1 13 true _ (.bool (decide (((e:Int)) ≠ (0:Int)))) rfl rfl rfl (Ev_bini rfl rfl fun _ => bin_neq_i _ _) rfl ?_
  refine JL_val _ (Ev_pickT _ rfl rfl rfl) rfl ?_
  refine JL_nil ?_
  refine JQ_then ?_
  refine JC_condT _ rfl (decide_eq_true (by omega)) ?_
  refine JC_seq ?_
  refine JC_region ?_
  refine JL_val _ (Ev_move rfl) rfl ?_
  refine JL_val _ (Ev_assign rfl) rfl ?_
  refine JL_nil ?_
  refine JQ_then ?_
  refine JC_ret ?_
  refine JQ_then_ret ?_
  refine JQ_ret (I64 ((e:Int))) (res1 Tryd.results29 (RV_tmp rfl)) fun w1 hw1 => ?_
  exact ⟨_, [], rfl, ⟨rfl, rfl⟩, hw1.sub (by simp) (by simp)⟩

theorem errNum_w (e : Nat) (w : World) : Calls Tryd.prog 29 #[errV 50 e] w (Post w [] (fun v L => v = I64 (e : Int) ∧ L = [])) := by
  by_cases he : e = 0
  · subst he; exact errNo_c w
  · rw [errV_pos he]; exact errSome_c e w he

end Go.Proofs.YtkdpdgpphpngeaaDoor
namespace Go.Sx
open Go Go.RowKit
open Go.ChangeShapes Go.WideShapes
set_option linter.unusedVariables false
set_option linter.unusedSimpArgs false
section
variable {H : Type} {enc : TypeId × Value → H} {P : Program} {w : World} {base : Nat} {spare : Nat → Bool} {held : Bool} {sz : Bool}
def TD (enc : TypeId × Value → H) (P : Program) (w : World) (base : Nat) (spare : Nat → Bool) (held sz : Bool) (t : TypeId) (cs : List Value) : Prop :=
  ∃ fuel d ps, DataW.trod enc P w base spare held fuel t cs = some (d, ps) ∧ (sz = true → (d.weights P t).all (· ≤ reachBytes) = true)
theorem TD.of {t : TypeId} {v : Value} {d : DataW H} {ps : List MemPlace} (h : DataW.Trod enc P w base spare held t v d ps) (hw : sz = true → (d.weights P t).all (· ≤ reachBytes) = true) : TD enc P w base spare held sz t v.cells.toList := by
  obtain ⟨fuel, hf⟩ := h
  exact ⟨fuel, d, ps, hf, hw⟩
theorem TD.ofN {t : TypeId} {v : Value} {d : DataW H} {ps : List MemPlace} (h : DataW.Trod enc P w base spare held t v d ps) : TD enc P w base spare held false t v.cells.toList := TD.of h (fun h => by cases h)
theorem wEach_get {p : Nat → Bool} : ∀ (ts : List TypeId) (ds : List (DataW H)), (DataW.weightsEach P ts ds).all p = true → ∀ (i : Nat) (t : TypeId) (d : DataW H), ts[i]? = some t → ds[i]? = some d → (d.weights P t).all p = true
  | [], _, _, i, t, d, h, _ => by simp at h
  | t0 :: ts, [], _, i, t, d, _, h => by simp at h
  | t0 :: ts, d0 :: ds, h, i, t, d, ht, hd => by
    rw [DataW.weightsEach, List.all_append, Bool.and_eq_true] at h
    cases i with
    | zero => simp at ht hd; subst ht; subst hd; exact h.1
    | succ i => exact wEach_get ts ds h.2 i t d (by simpa using ht) (by simpa using hd)
theorem wAll_get {p : Nat → Bool} {e : TypeId} : ∀ (ds : List (DataW H)), (DataW.weightsAll P e ds).all p = true → ∀ (i : Nat) (d : DataW H), ds[i]? = some d → (d.weights P e).all p = true
  | [], _, i, d, h => by simp at h
  | d0 :: ds, h, i, d, hd => by
    rw [DataW.weightsAll, List.all_append, Bool.and_eq_true] at h
    cases i with
    | zero => simp at hd; subst hd; exact h.1
    | succ i => exact wAll_get ds h.2 i d (by simpa using hd)
variable {t : TypeId} {cs : List Value}
theorem TD.slen {fs : Array Field} (ht : P.underlying t = some (.struct fs)) (h : TD enc P w base spare held sz t cs) : cs.length = P.cellsOf t := by
  obtain ⟨fuel, d, ps, h, hw⟩ := h
  obtain ⟨xs, n, _, hx, hl, hlen, hf⟩ := DataW.trod_struct ht h
  exact hl
theorem TD.alen {n e : Nat} (ht : P.underlying t = some (.array n e)) (h : TD enc P w base spare held sz t cs) : cs.length = P.cellsOf t := by
  obtain ⟨fuel, d, ps, h, hw⟩ := h
  obtain ⟨xs, m, _, hx, hl, hlen, hf⟩ := DataW.trod_array ht h
  exact hl
theorem TD.field {fs : Array Field} (i o ft s : Nat) (ht : P.underlying t = some (.struct fs)) (hi : (fs[i]?).map (fun f => (f.offset, f.type)) = some (o, ft)) (hs : P.cellsOf ft = s) (h : TD enc P w base spare held sz t cs) :
    TD enc P w base spare held sz ft ((cs.drop o).take s) := by
  obtain ⟨fuel, d, ps, h, hw⟩ := h
  obtain ⟨xs, n, _, hx, hl, hlen, hf⟩ := DataW.trod_struct ht h
  obtain ⟨f, hfi, hfo⟩ := Option.map_eq_some_iff.1 hi
  simp only [Prod.mk.injEq] at hfo
  obtain ⟨rfl, rfl⟩ := hfo
  subst hs
  have hlt : i < xs.length := by rw [hlen]; exact (Array.getElem?_eq_some_iff.1 hfi).1
  have hk := hf i f hfi
  rw [List.getElem?_eq_getElem hlt] at hk
  refine ⟨n, _, _, hk, fun hz => ?_⟩
  have hw := hw hz
  simp only [Prod.mk.injEq] at hx
  rw [hx.1, DataW.weights, ht] at hw
  exact wEach_get _ _ hw i f.type _ (by simp [hfi]) (by simp [hlt])
theorem TD.elem {n e : Nat} (i o s : Nat) (ht : P.underlying t = some (.array n e)) (hi : i < n) (hs : P.cellsOf e = s) (ho : o = i * s) (h : TD enc P w base spare held sz t cs) :
    TD enc P w base spare held sz e ((cs.drop o).take s) := by
  obtain ⟨fuel, d, ps, h, hw⟩ := h
  obtain ⟨xs, m, _, hx, hl, hlen, hf⟩ := DataW.trod_array ht h
  subst ho; subst hs
  have hlt : i < xs.length := by rw [hlen]; exact hi
  have hk := hf i hi
  rw [List.getElem?_eq_getElem hlt] at hk
  refine ⟨m, _, _, hk, fun hz => ?_⟩
  have hw := hw hz
  simp only [Prod.mk.injEq] at hx
  rw [hx.1, DataW.weights, ht] at hw
  exact wAll_get _ hw i _ (by simp [hlt])
theorem TD.u8 (ht : P.underlying t = some (.int .u8)) (h : TD enc P w base spare held sz t cs) : ∃ a : UInt8, cs = [U8 a] := by
  obtain ⟨fuel, d, ps, h, hw⟩ := h
  obtain ⟨n, rfl, _, hn⟩ := DataW.trod_int ht h
  obtain ⟨u, rfl⟩ := wf_u8 hn
  exact ⟨u, rfl⟩
theorem TD.u32 (ht : P.underlying t = some (.int .u32)) (h : TD enc P w base spare held sz t cs) : ∃ a : UInt32, cs = [U32 a] := by
  obtain ⟨fuel, d, ps, h, hw⟩ := h
  obtain ⟨n, rfl, _, hn⟩ := DataW.trod_int ht h
  obtain ⟨u, rfl⟩ := wf_u32 hn
  exact ⟨u, rfl⟩
theorem TD.u64 (ht : P.underlying t = some (.int .u64)) (h : TD enc P w base spare held sz t cs) : ∃ a : UInt64, cs = [U64 a] := by
  obtain ⟨fuel, d, ps, h, hw⟩ := h
  obtain ⟨n, rfl, _, hn⟩ := DataW.trod_int ht h
  obtain ⟨u, rfl⟩ := wf_u64 hn
  exact ⟨u, rfl⟩
theorem TD.i64 (ht : P.underlying t = some (.int .i64)) (h : TD enc P w base spare held sz t cs) : ∃ a : Int, cs = [I64 a] ∧ (-9223372036854775808 ≤ a ∧ a ≤ 9223372036854775807) := by
  obtain ⟨fuel, d, ps, h, hw⟩ := h
  obtain ⟨n, rfl, _, hn⟩ := DataW.trod_int ht h
  exact ⟨n, rfl, bounds_i64 hn⟩
theorem TD.bool (ht : P.underlying t = some .bool) (h : TD enc P w base spare held sz t cs) : ∃ a : Bool, cs = [.bool a] := by
  obtain ⟨fuel, d, ps, h, hw⟩ := h
  obtain ⟨b, rfl, _⟩ := DataW.trod_bool ht h
  exact ⟨b, rfl⟩
theorem TD.arr8 {n e : Nat} (ht : P.underlying t = some (.array n e)) (he : P.underlying e = some (.int .u8)) (hc : P.cellsOf e = 1) (hT : P.cellsOf t = n) (h : TD enc P w base spare held sz t cs) : ∃ l : List UInt8, cs = cu8 l ∧ l.length = n := by
  have hl := TD.alen ht h
  obtain ⟨l, rfl⟩ := all_u8 cs (fun i hi => by
    obtain ⟨u, hu⟩ := TD.u8 he (TD.elem i i 1 ht (by omega) hc (by omega) h)
    refine ⟨u, ?_⟩
    have h0 : ((cs.drop i).take 1)[0]? = some (U8 u) := by rw [hu]; rfl
    rw [List.getElem?_take, if_pos (by omega), List.getElem?_drop] at h0
    simpa using h0)
  exact ⟨l, rfl, by rw [← hT, ← hl]; simp⟩
theorem cat0 {a : List Value} {s : Nat} (h : (cs.drop 0).take s = a) : cs.take s = a := h
theorem cat_step {a b : List Value} {o s o' : Nat} (h : cs.take o = a) (h1 : (cs.drop o).take s = b) (ho : o' = o + s) : cs.take o' = a ++ b := by
  subst ho; rw [List.take_add, h, h1]
theorem cat_end {a : List Value} {o : Nat} (h : cs.take o = a) (hl : cs.length = o) : cs = a := by
  rw [← h, ← hl, List.take_length]
theorem agg_of {v : Value} {cs : List Value} {r : Reach} {b0 : Nat} {fs : Array Field} (ht : P.underlying t = some (.struct fs)) (hval : Value.okWide P w r b0 t v) (h : v.cells.toList = cs) : v = .agg cs.toArray := by
  simp only [Value.okWide, ht] at hval
  obtain ⟨xs, rfl, _⟩ := hval
  have : (Value.agg xs).cells = xs := rfl
  rw [this] at h
  rw [← h]
theorem agg_ofA {v : Value} {cs : List Value} {r : Reach} {b0 n e : Nat} (ht : P.underlying t = some (.array n e)) (hval : Value.okWide P w r b0 t v) (h : v.cells.toList = cs) : v = .agg cs.toArray := by
  simp only [Value.okWide, ht] at hval
  obtain ⟨xs, rfl, _⟩ := hval
  have : (Value.agg xs).cells = xs := rfl
  rw [this] at h
  rw [← h]
end
end Go.Sx
namespace Go.Proofs.YtkdpdgpphpngeaaDoor
open Go Go.Sx Go.RowKit
set_option linter.unusedVariables false
set_option linter.unusedSimpArgs false
instance (s : Int) : Decidable (Szd s) := by unfold Szd; infer_instance
def advA (ao : Option Addr) (c s : Nat) : Option Addr := if c = s then ao else ao.map (·.add (s * 1))
theorem RdB.adv {w : World} {M : List Nat} {ao : Option Addr} {z : List UInt8} {c : Nat} (h : RdB w M ao z) (s : Nat) (hs : s ≤ z.length) (hc : z.length ≤ c) : RdB w M (advA ao c s) (z.drop s) := by
  have := RdB.slice h s z.length (Nat.le_refl _) hc
  rwa [List.take_of_length_le (by simp)] at this
theorem RdB.pre {w : World} {M : List Nat} {ao : Option Addr} {z : List UInt8} (h : RdB w M ao z) (s : Nat) : RdB w M ao (mid z 0 s) := by
  rcases h with rfl | ⟨b, off, h1, h2, h3, h4⟩
  · exact .inl (by simp [mid])
  · refine .inr ⟨b, off, h1, h2, h3, fun j v hj => h4 j v ?_⟩
    simp only [mid, List.drop_zero, cu8, List.map_take] at hj
    have hlt := (List.getElem?_eq_some_iff.1 hj).1
    rw [List.getElem?_take, if_pos (by simp at hlt; omega)] at hj
    exact hj
def Adv (ao : Option Addr) (z : List UInt8) (c : Nat) (ao' : Option Addr) (z' : List UInt8) (c' : Nat) : Prop :=
  (∀ w M, RdB w M ao z → RdB w M ao' z') ∧ z'.length ≤ c' ∧ c' ≤ maxLen ∧ z'.length ≤ z.length
theorem Adv.drop {ao : Option Addr} {z : List UInt8} {c : Nat} (s : Nat) (hs : s ≤ z.length) (h : z.length ≤ c) (hm : c ≤ maxLen) : Adv ao z c (advA ao c s) (z.drop s) (c - s) :=
  ⟨fun _ _ hr => RdB.adv hr s hs h, by simp; omega, by omega, by simp⟩
theorem Adv.trans {ao ao' ao'' : Option Addr} {z z' z'' : List UInt8} {c c' c'' : Nat} (h : Adv ao z c ao' z' c') (h' : Adv ao' z' c' ao'' z'' c'') : Adv ao z c ao'' z'' c'' :=
  ⟨fun w M hr => h'.1 w M (h.1 w M hr), h'.2.1, h'.2.2.1, Nat.le_trans h'.2.2.2 h.2.2.2⟩
def TkOk (z : List UInt8) (e : Nat) (s : Int) : Prop := e = 0 ∧ 0 ≤ s ∧ s ≤ z.length
instance (z : List UInt8) (e : Nat) (s : Int) : Decidable (TkOk z e s) := by unfold TkOk; infer_instance
def NuOk (z : List UInt8) (e : Nat) (s : Int) : Prop := e = 0 ∧ Szd s ∧ s ≤ z.length
instance (z : List UInt8) (e : Nat) (s : Int) : Decidable (NuOk z e s) := by unfold NuOk; infer_instance
def fdN (z : List UInt8) : Nat := 256 * (g8 z 0).toNat + (g8 z 1).toNat
def FdOk (z : List UInt8) (e : Nat) (s : Int) : Prop := e = 0 ∧ 2 ≤ z.length ∧ (fdN z : Int) ≤ s ∧ fdN z + 2 ≤ z.length
instance (z : List UInt8) (e : Nat) (s : Int) : Decidable (FdOk z e s) := by unfold FdOk; infer_instance
def HsOk (z : List UInt8) (e : Nat) : Prop := e = 0 ∧ 32 ≤ z.length
instance (z : List UInt8) (e : Nat) : Decidable (HsOk z e) := by unfold HsOk; infer_instance
def FgOk (z : List UInt8) (e : Nat) : Prop := e = 0 ∧ 1 ≤ z.length ∧ g8 z 0 ≤ 1
instance (z : List UInt8) (e : Nat) : Decidable (FgOk z e) := by unfold FgOk; infer_instance
theorem valK_one (z : List UInt8) : valK z 1 = (g8 z 0).toUInt64 := by
  rw [valK, valK, shl_or]; simp
structure ActV where
  kd : Int
  s : Int
  nn : UInt64
  ao : Option Addr
  p : Nat
  c : Nat
  z : List UInt8
section
variable {H : Type} {enc : TypeId × Value → H} {P : Program} {w : World} {base : Nat} {spare : Nat → Bool} {held : Bool} {sz : Bool}
end
def sumP (asL : List ActV) (i : Nat) : Nat := ((asL.take i).map ActV.p).sum
def LongP (asL : List ActV) (n : Nat) : Prop := ¬ (n ≤ 41 ∧ sumP asL n ≤ 200000)
instance (asL : List ActV) (n : Nat) : Decidable (LongP asL n) := by unfold LongP; infer_instance
end Go.Proofs.YtkdpdgpphpngeaaDoor
namespace Go.Proofs.YtkdpdgpphpngeaaDoor
open Go Go.Sx
set_option linter.unusedVariables false
set_option linter.unusedSimpArgs false
set_option maxRecDepth 100000
attribute [local irreducible] mid zr8 zr32 numK valK rvalK
theorem leftZ_c (rb e : Nat) (ao : Option Addr) (n c : Nat) (w : World) (hw : RdA w rb 0 [errV 50 e, .slice ao n c]) (he : e = 0) : Calls Tryd.prog 61 #[Ptr rb 0] w (Post w [] (fun v L => v = I64 (n : Int) ∧ L = [])) := by
  refine enter w [] 18 [] [Ptr rb 0] Tryd.func61 rfl rfl (by simp) (Hp.start (by simp) (by simp) (by simp)) ?_
  show JC _ _ _ [(0, Ptr rb 0)] _
  refine JC_seq ?_
  refine JC_region ?_
  refine JL_val _ (Ev_assign rfl) rfl ?_
  refine JL_nil ?_
  refine JQ_then ?_
  refine JC_seq ?_
  refine JC_seq ?_
  refine JC_region ?_
  refine JL_val _ (Ev_move rfl) rfl ?_
  refine JL_val (.bool false) (Ev_bin _ _ _ rfl rfl (fun _ => eqGuard_ptr ..) fun _ => eql_ptr_nil Tryd.underlying110) rfl ?_
  refine JL_val _ (Ev_move rfl) rfl ?_
  refine JL_gval 2 5 false _ _ rfl rfl rfl (Ev_move rfl) rfl ?_
  refine JL_gval 2 5 false _ _ rfl rfl rfl (Ev_nilCheck rfl) rfl ?_
  refine JL_gval 2 5 false _ (Ptr rb 0) rfl rfl rfl (Ev_fieldAddr 0 147 1 Tryd.underlying204 rfl Tryd.sizeOf147 rfl rfl) rfl ?_
  refine JL_gval 2 5 false _ (Ptr rb 0) rfl rfl rfl (Ev_fieldAddr 0 45 1 Tryd.underlying147 rfl Tryd.sizeOf45 rfl rfl) rfl ?_
  refine JL_gval 2 5 false _ (errV 50 e) rfl rfl rfl (Ev_load rfl (Ld_one Tryd.isAgg45 (MemAt.seg (hw.mem (by simp)) (Seg.head) (by omega)))) rfl ?_
  refine JL_gval 2 5 false _ (.bool (!(decide (e = 0)))) rfl rfl rfl (Ev_bin _ _ _ rfl rfl (fun _ => eqGuard_errV ..) fun _ => neq_errV Tryd.underlying45 _ _) rfl ?_
  refine JL_val _ (Ev_pickF _ rfl rfl rfl) rfl ?_
  refine JL_nil ?_
  refine JQ_then ?_
  refine JC_condF _ rfl (by rw [show (decide (e = 0)) = true from (decide_eq_true he)] <;> rfl) ?_
  refine JC_skip ?_
  refine JQ_then ?_
  refine JC_seq ?_
  refine JC_region ?_
  refine JL_val _ (Ev_move rfl) rfl ?_
  refine JL_val _ (Ev_nilCheck rfl) rfl ?_
  refine JL_val (Ptr rb 1) (Ev_fieldAddr 1 43 1 Tryd.underlying204 rfl Tryd.sizeOf43 rfl rfl) rfl ?_
  refine JL_val (.slice ao n c) (Ev_load rfl (Ld_one Tryd.isAgg43 (MemAt.seg (hw.mem (by simp)) (Seg.tail (Seg.head)) (by omega)))) rfl ?_
  refine JL_val (I64 ((n:Int))) (Ev_len Tryd.underlying43 rfl) rfl ?_
  refine JL_val _ (Ev_assign rfl) rfl ?_
  refine JL_nil ?_
  refine JQ_then ?_
  refine JC_ret ?_
  refine JQ_ret (I64 ((n:Int))) (res1 Tryd.results61 (RV_tmp rfl)) fun w1 hw1 => ?_
  exact ⟨_, [], rfl, ⟨rfl, rfl⟩, hw1.sub (by simp) (by simp)⟩

theorem rawROk_c (rb e : Nat) (ao : Option Addr) (n c : Nat) (z : List UInt8) (s n2 c2 : Nat) (w : World) (h0 : w.heap[rb]? = some (.cells [errV 50 e, .slice ao n c].toArray 204 (0, 0))) (hz : z.length = n) (hn : n ≤ 2000000000) (hc : n ≤ c) (hcm : c ≤ maxLen) (hr : RdB w [rb] ao z) (he : e = 0) (h1 : 0 < s) (h2 : s ≤ n) (ht1 : s + n2 = n) (ht2 : s + c2 = c) : Calls Tryd.prog 127 #[Ptr rb 0, I64 ((s:Int))] w (Post w [rb] (fun v L => ∃ g sp cap, v = Slc g 0 s cap ∧ L = [⟨rb, [errV 50 e, .slice (advA ao c s) n2 c2], 204, (0, 0)⟩, ⟨g, cu8 (mid z 0 s) ++ sp, 5, (0, 0)⟩] ∧ sp.length = cap - s ∧ s ≤ cap ∧ cap ≤ maxLen)) := by
  have hsome : ao.isNone = false := by
    obtain ⟨_, _, ha, _⟩ := hr.pos (by omega)
    rw [ha]; rfl
  refine enter w [rb] 36 [⟨rb, [errV 50 e, .slice ao n c], 204, (0, 0)⟩] [Ptr rb 0, I64 ((s:Int))] Tryd.func127 rfl rfl (by simp) (Hp.start (by simpa using h0) (by simp) (by simp)) ?_
  show JC _ _ _ [(0, Ptr rb 0), (1, I64 ((s:Int)))] _
  refine JC_seq ?_
  refine JC_region ?_
  refine JL_val _ (Ev_assign rfl) rfl ?_
  refine JL_nil ?_
  refine JQ_then ?_
  refine JC_seq ?_
  refine JC_seq ?_
  refine JC_region ?_
  refine JL_val _ (Ev_move rfl) rfl ?_
  refine JL_val (.bool (decide (((s:Int)) < (0:Int)))) (Ev_bini rfl rfl fun _ => bin_lss_i _ _) rfl ?_
  refine JL_val _ (Ev_move rfl) rfl ?_
  refine JL_gval 2 8 false _ _ rfl rfl (decide_eq_false (by omega)) (Ev_move rfl) rfl ?_
  refine JL_gval 2 8 false _ _ rfl rfl (decide_eq_false (by omega)) (Ev_move rfl) rfl ?_
  refine JL_gstep 2 8 false _ rfl rfl (decide_eq_false (by omega)) (Step_callP 61 [Ptr rb 0] (I64 ((n:Int))) (Cl_func [Ptr rb 0] Tryd.call61 rfl) (fun w1 hw1 => leftZ_c rb e ao n c w1 (RdA.of hw1 (MemAt.ent 0 rfl (Seg.whole _)) (by simp)) he)) rfl ?_
  rintro v1 L1 ⟨rfl, rfl⟩
  show JL _ _ _ _ ((11, I64 ((n:Int))) :: _) [⟨rb, [errV 50 e, .slice ao n c], 204, (0, 0)⟩]
  refine JL_gval 2 8 false _ (.bool (decide (((n:Int)) < ((s:Int))))) rfl rfl (decide_eq_false (by omega)) (Ev_bini rfl rfl fun _ => bin_gtr_i _ _) rfl ?_
  refine JL_val _ (Ev_pickF _ rfl (decide_eq_false (by omega)) rfl) rfl ?_
  refine JL_nil ?_
  refine JQ_then ?_
  refine JC_condF _ rfl (decide_eq_false (by omega)) ?_
  refine JC_skip ?_
  refine JQ_then ?_
  refine JC_seq ?_
  refine JC_seq ?_
  refine JC_region ?_
  refine JL_val _ (Ev_move rfl) rfl ?_
  refine JL_val (.bool (decide (((s:Int)) = (0:Int)))) (Ev_bini rfl rfl fun _ => bin_eql_i _ _) rfl ?_
  refine JL_nil ?_
  refine JQ_then ?_
  refine JC_condF _ rfl (decide_eq_false (by omega)) ?_
  refine JC_skip ?_
  refine JQ_then ?_
  refine JC_seq ?_
  refine JC_region ?_
  refine JL_val _ (Ev_move rfl) rfl ?_
  refine JL_val _ (Ev_nilCheck rfl) rfl ?_
  refine JL_val (Ptr rb 1) (Ev_fieldAddr 1 43 1 Tryd.underlying204 rfl Tryd.sizeOf43 rfl rfl) rfl ?_
  refine JL_val (.slice ao n c) (Ev_load rfl (Ld_one Tryd.isAgg43 (MemAt.ent 0 rfl (Seg.tail (Seg.head))))) rfl ?_
  refine JL_val _ (Ev_move rfl) rfl ?_
  have hl1 : (mid z 0 s).length = s := mid_len (by rw [hz]; omega)
  have hr1 := RdB.pre hr s
  refine JL_val (.slice ao s c) (Ev_sliceHi 5 1 s Tryd.underlying43 Tryd.sizeOf5 rfl rfl (by omega)) rfl ?_
  refine JL_step (Step_callN 108 [.slice ao s c] _ (Cl_func [.slice ao s c] Tryd.call108 rfl) (fun w1 hw1 => sclone_c ao s c (mid z 0 s) w1 hsome hl1 (by omega) (hr1.at (M' := []) hw1 (by simp)))) rfl ?_
  rintro v1 L1 ⟨_, ⟨nb1, sp1, cp1, rfl, rfl, hc1, hc2, hc3⟩, rfl⟩
  show JL _ _ _ _ ((25, Slc nb1 0 s cp1) :: _) [⟨rb, [errV 50 e, .slice ao n c], 204, (0, 0)⟩, ⟨nb1, cu8 (mid z 0 s) ++ sp1, 5, (0, 0)⟩]
  refine JL_val _ (Ev_assign rfl) rfl ?_
  refine JL_nil ?_
  refine JQ_then ?_
  refine JC_seq ?_
  refine JC_region ?_
  refine JL_val _ (Ev_move rfl) rfl ?_
  refine JL_val _ (Ev_move rfl) rfl ?_
  refine JL_val _ (Ev_nilCheck rfl) rfl ?_
  refine JL_val (Ptr rb 1) (Ev_fieldAddr 1 43 1 Tryd.underlying204 rfl Tryd.sizeOf43 rfl rfl) rfl ?_
  refine JL_val (.slice ao n c) (Ev_load rfl (Ld_one Tryd.isAgg43 (MemAt.ent 0 rfl (Seg.tail (Seg.head))))) rfl ?_
  refine JL_val _ (Ev_move rfl) rfl ?_
  have hl2 : (z.drop s).length = (n - s) := by rw [List.length_drop, hz] <;> omega
  have hr2 := RdB.adv (c := c) hr s (by rw [hz]; omega) (by rw [hz]; omega)
  refine JL_val (.slice (advA ao c s) (n - s) (c - s)) (Ev_sliceLo 5 s (n - s) (c - s) Tryd.underlying43 Tryd.sizeOf5 rfl rfl (by omega) (by omega) (by omega) (by omega)) rfl ?_
  refine JL_val _ (Ev_nilCheck rfl) rfl ?_
  refine JL_val (Ptr rb 1) (Ev_fieldAddr 1 43 1 Tryd.underlying204 rfl Tryd.sizeOf43 rfl rfl) rfl ?_
  refine JL_step (Step_store 0 rb 1 1 ([errV 50 e, .slice ao n c]) 204 (.slice (advA ao c s) (n - s) (c - s)) ([.slice (advA ao c s) (n - s) (c - s)]) ([errV 50 e, .slice (advA ao c s) (n - s) (c - s)]) rfl rfl rfl rfl Tryd.sizeOf43 rfl (by simp [Value.oneCell']) (Nat.le_of_ble_eq_true rfl) (rfl)) rfl ?_
  rintro v1 L1 ⟨rfl, rfl⟩
  show JL _ _ _ _ _ [⟨rb, [errV 50 e, .slice (advA ao c s) (n - s) (c - s)], 204, (0, 0)⟩, ⟨nb1, cu8 (mid z 0 s) ++ sp1, 5, (0, 0)⟩]
  refine JL_nil ?_
  refine JQ_then ?_
  refine JC_seq ?_
  refine JC_region ?_
  refine JL_val _ (Ev_move rfl) rfl ?_
  refine JL_val _ (Ev_assign rfl) rfl ?_
  refine JL_nil ?_
  refine JQ_then ?_
  refine JC_ret ?_
  refine JQ_ret (Slc nb1 0 s cp1) (res1 Tryd.results127 (RV_tmp rfl)) fun w1 hw1 => ?_
  obtain rfl : n2 = (n - s) := by omega
  obtain rfl : c2 = (c - s) := by omega
  exact ⟨_, _, rfl, ⟨nb1, sp1, cp1, rfl, rfl, hc1, hc2, hc3⟩, hw1⟩

theorem numROk_c (rb e : Nat) (ao : Option Addr) (n c : Nat) (z : List UInt8) (k n2 c2 : Nat) (w : World) (h0 : w.heap[rb]? = some (.cells [errV 50 e, .slice ao n c].toArray 204 (0, 0))) (hz : z.length = n) (hn : n ≤ 2000000000) (hc : n ≤ c) (hcm : c ≤ maxLen) (hr : RdB w [rb] ao z) (he : e = 0) (hs : Szd (k:Int)) (h2 : k ≤ n) (ht1 : k + n2 = n) (ht2 : k + c2 = c) : Calls Tryd.prog 109 #[Ptr rb 0, I64 ((k:Int))] w (Post w [rb] (fun v L => v = U64 (valK z k) ∧ L = [⟨rb, [errV 50 e, .slice (advA ao c k) n2 c2], 204, (0, 0)⟩])) := by
  have hs4 : k = 1 ∨ k = 2 ∨ k = 4 ∨ k = 8 := by have := hs; unfold Szd at this; omega
  refine enter w [rb] 29 [⟨rb, [errV 50 e, .slice ao n c], 204, (0, 0)⟩] [Ptr rb 0, I64 ((k:Int))] Tryd.func109 rfl rfl (by simp) (Hp.start (by simpa using h0) (by simp) (by simp)) ?_
  show JC _ _ _ [(0, Ptr rb 0), (1, I64 ((k:Int)))] _
  refine JC_seq ?_
  refine JC_region ?_
  refine JL_val _ (Ev_assign rfl) rfl ?_
  refine JL_nil ?_
  refine JQ_then ?_
  refine JC_seq ?_
  refine JC_seq ?_
  refine JC_region ?_
  refine JL_val _ (Ev_move rfl) rfl ?_
  refine JL_step (Step_callP 143 [I64 ((k:Int))] (.bool true) (Cl_func [I64 ((k:Int))] Tryd.call143 rfl) (fun w1 _ => sizedT_c ((k:Int)) w1 hs)) rfl ?_
  rintro v1 L1 ⟨rfl, rfl⟩
  show JL _ _ _ _ ((9, .bool true) :: _) [⟨rb, [errV 50 e, .slice ao n c], 204, (0, 0)⟩]
  refine JL_val (.bool (!true)) (Ev_not rfl) rfl ?_
  refine JL_nil ?_
  refine JQ_then ?_
  refine JC_condF _ rfl rfl ?_
  refine JC_skip ?_
  refine JQ_then ?_
  refine JC_seq ?_
  refine JC_region ?_
  refine JL_val _ (Ev_assign rfl) rfl ?_
  refine JL_nil ?_
  refine JQ_then ?_
  refine JC_seq ?_
  refine JC_seq ?_
  refine JC_region ?_
  refine JL_val _ (Ev_move rfl) rfl ?_
  refine JL_val _ (Ev_move rfl) rfl ?_
  have hl1 : (z.drop k).length = (n - k) := by rw [List.length_drop, hz] <;> omega
  have hr1 := RdB.adv (c := c) hr k (by rw [hz]; omega) (by rw [hz]; omega)
  have hl2 : (mid z 0 k).length = k := mid_len (by rw [hz]; omega)
  refine JL_step (Step_call 127 _ [true] [rb] _ (Cl_func [Ptr rb 0, I64 ((k:Int))] Tryd.call127 rfl) rfl (fun w1 hw1 => rawROk_c rb e ao n c z k (n - k) (c - k) w1 (hw1.ent _ (List.mem_of_getElem? (i := 0) rfl)) hz (by omega) (by omega) (by omega) (hr.at (M' := [rb]) hw1 (hw1.apart [0] _ rfl)) he (by unfold Szd at hs; omega) h2 (by omega) (by omega))) rfl ?_
  rintro v1 L1 ⟨_, ⟨nb1, sp1, cp1, rfl, rfl, hc1, hc2, hc3⟩, rfl⟩
  show JL _ _ _ _ ((16, Slc nb1 0 k cp1) :: _) [⟨rb, [errV 50 e, .slice (advA ao c k) (n - k) (c - k)], 204, (0, 0)⟩, ⟨nb1, cu8 (mid z 0 k) ++ sp1, 5, (0, 0)⟩]
  refine JL_val (I64 ((k:Int))) (Ev_len Tryd.underlying43 rfl) rfl ?_
  refine JL_val _ (Ev_move rfl) rfl ?_
  refine JL_nil ?_
  refine JQ_then ?_
  refine JC_block ?_
  refine JC_loop (ι := Nat × UInt64) (fun ⟨j, y⟩ => [(4, U64 (0:UInt64)), (16, Slc nb1 0 k cp1), (17, I64 ((k:Int))), (18, I64 ((j:Int))), (5, U64 y)]) (fun ⟨j, y⟩ => [⟨rb, [errV 50 e, .slice (advA ao c k) (n - k) (c - k)], 204, (0, 0)⟩, ⟨nb1, cu8 (mid z 0 k) ++ sp1, 5, (0, 0)⟩]) (fun ⟨j, y⟩ => j ≤ k ∧ y = valK (mid z 0 k) j) (fun ⟨j, y⟩ => k - j) (0, 0) ⟨by omega, by rw [valK]⟩ (Sub.cons rfl (Sub.cons rfl (Sub.cons rfl (Sub.cons rfl (Sub.cons rfl (Sub.nil)))))) rfl ?_
  rintro ⟨j, y⟩ ⟨hx1, hx2⟩
  show JC _ _ _ [(4, U64 (0:UInt64)), (16, Slc nb1 0 k cp1), (17, I64 ((k:Int))), (18, I64 ((j:Int))), (5, U64 y)] [⟨rb, [errV 50 e, .slice (advA ao c k) (n - k) (c - k)], 204, (0, 0)⟩, ⟨nb1, cu8 (mid z 0 k) ++ sp1, 5, (0, 0)⟩]
  refine JC_seq ?_
  refine JC_region ?_
  refine JL_val (.bool (decide (((j:Int)) < ((k:Int))))) (Ev_bini rfl rfl fun _ => bin_lss_i _ _) rfl ?_
  refine JL_nil ?_
  refine JQ_then ?_
  refine JC_seq ?_
  refine JC_cond (decide (((j:Int)) < ((k:Int)))) rfl (fun hb1 => ?_) (fun hb1 => ?_)
  ·
    have hp1 : ((j:Int)) < ((k:Int)) := of_decide_eq_true hb1
    refine JC_skip ?_
    refine JQ_then ?_
    refine JC_seq ?_
    refine JC_block ?_
    refine JC_seq ?_
    refine JC_region ?_
    refine JL_val (Ptr nb1 j) (Ev_indexSl 5 1 j Tryd.underlying43 Tryd.sizeOf5 rfl rfl (by omega) (by omega) (by omega)) rfl ?_
    refine JL_val (U8 (g8 (mid z 0 k) j)) (Ev_load rfl (Ld_one Tryd.isAgg5 (MemAt.ent 1 rfl (Seg.left (Seg.get (g8_get (i := j) (by rw [hl2]; omega))))))) rfl ?_
    refine JL_val _ (Ev_assign rfl) rfl ?_
    refine JL_nil ?_
    refine JQ_then ?_
    refine JC_region ?_
    refine JL_val _ (Ev_move rfl) rfl ?_
    refine JL_val (U64 (y <<< (8:UInt64))) (Ev_bini rfl rfl fun _ => bin_shl_u64 y _ _ 8 (by decide) rfl) rfl ?_
    refine JL_val _ (Ev_move rfl) rfl ?_
    refine JL_val (U64 ((g8 (mid z 0 k) j).toUInt64)) (Ev_conv _ _ rfl fun _ => conv_u8_u64 (by rw [Tryd.underlying5]; rfl) Tryd.underlying22 _) rfl ?_
    refine JL_val (U64 ((y <<< (8:UInt64)) ||| ((g8 (mid z 0 k) j).toUInt64))) (Ev_bini rfl rfl fun _ => bin_or_u64 (y <<< (8:UInt64)) ((g8 (mid z 0 k) j).toUInt64)) rfl ?_
    refine JL_val _ (Ev_assign rfl) rfl ?_
    refine JL_nil ?_
    refine JQ_in_normal ?_
    refine JQ_then ?_
    refine JC_region ?_
    refine JL_val (I64 ((j:Int) + 1)) (Ev_bini rfl rfl fun _ => bin_add_i _ _ ((j:Int) + 1) (by omega) (by omega)) rfl ?_
    refine JL_val _ (Ev_move rfl) rfl ?_
    refine JL_nil ?_
    refine JQ_thenK ?_
    refine K_next (j + 1, (y <<< (8:UInt64)) ||| ((g8 (mid z 0 k) j).toUInt64)) ⟨by omega, by rw [valK, ← hx2]⟩ (by first | (simp; omega) | simp | (dsimp only; omega) | omega) (Sub.cons rfl (Sub.cons rfl (Sub.cons rfl (Sub.cons rfl (Sub.cons rfl (Sub.nil)))))) rfl
  ·
    have hp1 : ¬ (((j:Int)) < ((k:Int))) := of_decide_eq_false hb1
    refine JC_exit ?_
    refine JQ_then_exit ?_
    refine JQ_then_exit ?_
    refine JQ_in_same ?_
    refine JQ_then ?_
    refine JC_seq ?_
    refine JC_region ?_
    refine JL_val _ (Ev_move rfl) rfl ?_
    refine JL_val _ (Ev_assign rfl) rfl ?_
    refine JL_nil ?_
    refine JQ_then ?_
    refine JC_ret ?_
    refine K_mask [true, false] ?_
    show JQ _ _ _ _ [⟨rb, [errV 50 e, .slice (advA ao c k) (n - k) (c - k)], 204, (0, 0)⟩]
    refine JQ_ret (U64 y) (res1 Tryd.results109 (RV_tmp rfl)) fun w1 hw1 => ?_
    have e1 : j = k := by omega
    have e2 : valK (mid z 0 k) k = valK z k := valK_congr k fun i hi => by rw [g8_mid hi, Nat.zero_add]
    obtain rfl : n2 = (n - k) := by omega
    obtain rfl : c2 = (c - k) := by omega
    exact ⟨_, _, rfl, ⟨by rw [hx2, e1, e2], rfl⟩, hw1⟩

end Go.Proofs.YtkdpdgpphpngeaaDoor
namespace Go.Proofs.YtkdpdgpphpngeaaDoor
open Go Go.Sx
set_option linter.unusedVariables false
set_option linter.unusedSimpArgs false
set_option maxRecDepth 100000
attribute [local irreducible] mid zr8 zr32 numK valK rvalK
theorem from_c (ax : Option Addr) (p cx : Nat) (z : List UInt8) (w : World) (ha : ax.isNone = false) (hz : z.length = p) (hn : p ≤ 2000000000) (hr : RdB w [] ax z) : Calls Tryd.prog 59 #[.slice ax p cx] w (Post w [] (fun v L => ∃ rb g sp cap, v = Ptr rb 0 ∧ L = [⟨rb, [.nilIface, Slc g 0 p cap], 204, (0, 0)⟩, ⟨g, cu8 z ++ sp, 5, (0, 0)⟩] ∧ sp.length = cap - p ∧ p ≤ cap ∧ cap ≤ maxLen)) := by
  refine enter w [] 7 [] [.slice ax p cx] Tryd.func59 rfl rfl (by simp) (Hp.start (by simp) (by simp) (by simp)) ?_
  show JC _ _ _ [(0, .slice ax p cx)] _
  refine JC_seq ?_
  refine JC_region ?_
  refine JL_val _ (Ev_assign rfl) rfl ?_
  refine JL_nil ?_
  refine JQ_then ?_
  refine JC_seq ?_
  refine JC_region ?_
  refine JL_val _ (Ev_move rfl) rfl ?_
  refine JL_step (Step_callN 108 [.slice ax p cx] _ (Cl_func [.slice ax p cx] Tryd.call108 rfl) (fun w1 hw1 => sclone_c ax p cx z w1 ha hz (by omega) (hr.at (M' := []) hw1 (by simp)))) rfl ?_
  rintro v1 L1 ⟨_, ⟨nb1, sp1, cp1, rfl, rfl, hc1, hc2, hc3⟩, rfl⟩
  show JL _ _ _ _ ((4, Slc nb1 0 p cp1) :: _) [⟨nb1, cu8 z ++ sp1, 5, (0, 0)⟩]
  refine JL_val (.agg (List.toArray (α := Value) ([.nilIface, Slc nb1 0 p cp1]))) (Ev_build [(1, Slc nb1 0 p cp1)] _ rfl (fun _ => by kernel_rfl)) rfl ?_
  refine JL_step (Step_box (.agg (List.toArray (α := Value) ([.nilIface, Slc nb1 0 p cp1]))) ([.nilIface, Slc nb1 0 p cp1]) rfl (by first | rfl | simp)) rfl ?_
  rintro v1 L1 ⟨nb2, hnb2, rfl, rfl⟩
  show JL _ _ _ _ ((6, Ptr nb2 0) :: _) [⟨nb1, cu8 z ++ sp1, 5, (0, 0)⟩, ⟨nb2, [.nilIface, Slc nb1 0 p cp1], 204, (0, 0)⟩]
  refine JL_val _ (Ev_assign rfl) rfl ?_
  refine JL_nil ?_
  refine JQ_then ?_
  refine JC_ret ?_
  refine JQ_ret (Ptr nb2 0) (res1 Tryd.results59 (RV_tmp rfl)) fun w1 hw1 => ?_
  exact ⟨_, _, rfl, ⟨nb2, nb1, sp1, cp1, rfl, rfl, hc1, hc2, hc3⟩, hw1.sub (by simp) (by simpa using hw1.ne (i := 1) (j := 0) rfl rfl (by decide))⟩

end Go.Proofs.YtkdpdgpphpngeaaDoor
namespace Go.Proofs.YtkdpdgpphpngeaaDoor
open Go Go.Sx
set_option linter.unusedVariables false
set_option linter.unusedSimpArgs false
theorem one_shl {r : Nat} (h : r < 8) : (1:UInt8) <<< UInt8.ofNat r ≠ 0 := by
  have : r = 0 ∨ r = 1 ∨ r = 2 ∨ r = 3 ∨ r = 4 ∨ r = 5 ∨ r = 6 ∨ r = 7 := by omega
  rcases this with rfl | rfl | rfl | rfl | rfl | rfl | rfl | rfl <;> decide
theorem xor_ne {b c : UInt8} (h : c ≠ 0) : b ^^^ c ≠ b := fun e => h (by
  have h2 : b ^^^ (b ^^^ c) = b ^^^ b := by rw [e]
  rwa [← UInt8.xor_assoc, UInt8.xor_self, UInt8.zero_xor] at h2)
end Go.Proofs.YtkdpdgpphpngeaaDoor
namespace Go.Proofs.YtkdpdgpphpngeaaDoor
open Go Go.Sx
set_option linter.unusedVariables false
theorem valK_lt (l : List UInt8) : ∀ j, j ≤ 7 → (valK l j).toNat < 256 ^ j
  | 0, _ => by rw [valK]; decide
  | j + 1, h => by
    have ih := valK_lt l j (by omega)
    have hb : (g8 l j).toNat < 256 := UInt8.toNat_lt _
    have hp : 256 ^ j * 256 ≤ 256 ^ 7 := by
      rw [← Nat.pow_succ]; exact Nat.pow_le_pow_right (by omega) h
    rw [valK, shl_or, UInt64.toNat_add, UInt64.toNat_mul, UInt8.toNat_toUInt64]
    have h256 : (256:UInt64).toNat = 256 := rfl
    rw [h256, Nat.pow_succ]
    have : (256:Nat) ^ 7 = 72057594037927936 := by decide
    omega
theorem valK_nat (l : List UInt8) (j : Nat) (h : j ≤ 7) : (valK l (j + 1)).toNat = (valK l j).toNat * 256 + (g8 l j).toNat := by
  have ih := valK_lt l j h
  have hb : (g8 l j).toNat < 256 := UInt8.toNat_lt _
  have hp : (256:Nat) ^ j ≤ 256 ^ 7 := Nat.pow_le_pow_right (by omega) h
  rw [valK, shl_or, UInt64.toNat_add, UInt64.toNat_mul, UInt8.toNat_toUInt64]
  have h256 : (256:UInt64).toNat = 256 := rfl
  rw [h256]
  have : (256:Nat) ^ 7 = 72057594037927936 := by decide
  omega
theorem valK_div (l : List UInt8) : ∀ m j, j + m ≤ 8 → (valK l (j + m)).toNat / 256 ^ m = (valK l j).toNat
  | 0, j, _ => by simp
  | m + 1, j, h => by
    have ih := valK_div l m (j + 1) (by omega)
    rw [Nat.pow_succ, ← Nat.div_div_eq_div_mul, show j + (m + 1) = j + 1 + m by omega, ih, valK_nat l j (by omega)]
    have hb : (g8 l j).toNat < 256 := UInt8.toNat_lt _
    omega
theorem numK_val {l : List UInt8} {k : Nat} (hk : k ≤ 8) (hl : l.length = k) : numK k (valK l k) k = l := by
  apply ext8n (by rw [numK_len, hl])
  intro i hi
  rw [numK_len] at hi
  apply UInt8.toNat_inj.1
  unfold numK
  rw [g8_mr hi, show 8*k - 8*i - 8 = 8*(k - i - 1) by omega, UInt64.toNat_toUInt8, shr_divK _ _ (by omega)]
  have h1 := valK_div l (k - i - 1) (i + 1) (by omega)
  rw [show i + 1 + (k - i - 1) = k by omega] at h1
  have hb : (g8 l i).toNat < 256 := UInt8.toNat_lt _
  rw [h1, valK_nat l i (by omega)]
  omega
theorem numK_oneL (x : UInt64) : numK 1 x 1 = [x.toUInt8] := by
  unfold numK
  simp
theorem u8_ofN (h : Nat) : (UInt64.ofNat h).toUInt8 = UInt8.ofNat h := by
  apply UInt8.toNat_inj.1
  rw [UInt64.toNat_toUInt8, UInt64.toNat_ofNat', UInt8.toNat_ofNat']
  omega
theorem numN_numK (x : UInt64) : numN 8 x 8 = numK 8 x 8 := by
  unfold numN numK
  apply List.map_congr_left
  intro i hi
  rw [show 8*8 - 8 - 8*i = 8*8 - 8*i - 8 by omega]
theorem shr8w {k : Nat} (h : k = 1 ∨ k = 2) : UInt64.ofNat k >>> UInt64.ofNat (8*1) = 0 := by
  rcases h with rfl | rfl <;> rfl
def headT (k : Nat) (s : UInt64) : List UInt8 := numK 1 (UInt64.ofNat k) 1 ++ numK 8 s 8
theorem headT_len (k : Nat) (s : UInt64) : (headT k s).length = 9 := by
  unfold headT; rw [List.length_append, numK_len, numK_len]
theorem headT_ref (k : Nat) (s : UInt64) : headT k s = [UInt8.ofNat k] ++ numK 8 s 8 := by
  unfold headT; rw [numK_oneL, u8_ofN]
def tagT (key : List UInt8) (s : UInt64) (t : List UInt8) : List UInt8 := mid (macL (macL key (numN 8 s 8)) t) 0 16
theorem tagT_len (key : List UInt8) (s : UInt64) (t : List UInt8) : (tagT key s t).length = 16 := mid_len (by rw [macL_len]; omega)
def frmT (key : List UInt8) (k : Nat) (s : UInt64) (b : List UInt8) : List UInt8 := (headT k s ++ b) ++ tagT key s (headT k s ++ b)
theorem frmT_len {key : List UInt8} {k : Nat} {s : UInt64} {b : List UInt8} {n : Nat} (hb : b.length = n) : (frmT key k s b).length = n + 25 := by
  unfold frmT; rw [List.length_append, List.length_append, headT_len, tagT_len, hb]; omega
def wayF (z : List UInt8) : Nat := (g8 z 0).toNat
def seF (z : List UInt8) : UInt64 := valK (mid (z.drop 1) 0 8) 8
theorem g8_midL {l : List UInt8} {o n i : Nat} (h : i < n) : g8 (mid l o n) i = g8 l (o + i) := by
  unfold mid g8
  rw [List.getD_eq_getElem?_getD, List.getD_eq_getElem?_getD, List.getElem?_take, if_pos h, List.getElem?_drop]
theorem g8_dropL {l : List UInt8} {o i : Nat} : g8 (l.drop o) i = g8 l (o + i) := by
  unfold g8
  rw [List.getD_eq_getElem?_getD, List.getD_eq_getElem?_getD, List.getElem?_drop]
theorem way_eq (z : List UInt8) : (valK (mid z 0 9) 1).toNat = wayF z := by
  rw [valK_one, UInt8.toNat_toUInt64, g8_midL (by omega)]; rfl
theorem se_eq (z : List UInt8) : valK ((mid z 0 9).drop 1) 8 = seF z := by
  refine valK_congr 8 fun i hi => ?_
  rw [g8_dropL, g8_midL (by omega), g8_midL hi, g8_dropL]
  congr 1; omega
theorem wayF_def (z : List UInt8) : wayF z = (g8 z 0).toNat := rfl
theorem wayF_lt (z : List UInt8) : wayF z < 256 := UInt8.toNat_lt _
theorem seF_def (z : List UInt8) : seF z = valK (mid (z.drop 1) 0 8) 8 := rfl
theorem way_u8 {z : List UInt8} (h : wayF z = 1 ∨ wayF z = 2) (h1 : g8 z 0 ≠ 1) : g8 z 0 = 2 := by
  unfold wayF at h
  apply UInt8.toNat_inj.1
  have h3 : ¬ (g8 z 0).toNat = 1 := fun q => h1 (UInt8.toNat_inj.1 q)
  have h2 : (2:UInt8).toNat = 2 := rfl
  omega
theorem way_ne {z : List UInt8} (h : ¬ (wayF z = 1 ∨ wayF z = 2)) : g8 z 0 ≠ 1 ∧ g8 z 0 ≠ 2 := by
  unfold wayF at h
  exact ⟨fun q => h (.inl (by rw [q]; rfl)), fun q => h (.inr (by rw [q]; rfl))⟩
theorem advA_some {ao : Option Addr} {c s : Nat} (h : ao.isNone = false) : (advA ao c s).isNone = false := by
  cases ao with
  | none => cases h
  | some a => unfold advA; split <;> rfl
def PkOk (z : List UInt8) : Prop := 25 ≤ z.length ∧ z.length ≤ 262144 ∧ (wayF z = 1 ∨ wayF z = 2)
instance (z : List UInt8) : Decidable (PkOk z) := by unfold PkOk; infer_instance
def AuthP (key : List UInt8) (s : UInt64) (z : List UInt8) : Prop := z.drop (z.length - 16) = tagT key s (mid z 0 (z.length - 16))
instance (key : List UInt8) (s : UInt64) (z : List UInt8) : Decidable (AuthP key s z) := by unfold AuthP; infer_instance
def openE (key : List UInt8) (way : Int) (s : UInt64) (z : List UInt8) : Nat :=
  if PkOk z then (if (wayF z : Int) = way ∧ seF z = s then (if AuthP key s z then 0 else 4) else 6) else 2
theorem chk_auth {key : List UInt8} {s : UInt64} {z : List UInt8} {n : Nat} (hz : z.length = n) (h : 25 ≤ n) :
    (decide (z.drop (n - 16) = macL (macL key (numN 8 s 8)) [mid z 0 (n - 16)].flatten) || decide (z.drop (n - 16) = mid (macL (macL key (numN 8 s 8)) [mid z 0 (n - 16)].flatten) 0 16)) = decide (AuthP key s z) := by
  have e : [mid z 0 (n - 16)].flatten = mid z 0 (n - 16) := by simp
  rw [e, decide_eq_false, Bool.false_or]
  · exact decide_eq_decide.2 (by unfold AuthP tagT; rw [hz])
  · intro h2
    have := congrArg List.length h2
    rw [macL_len, List.length_drop, hz] at this
    omega
theorem mid9_head {z : List UInt8} (h : PkOk z) : headT (wayF z) (seF z) = mid z 0 9 := by
  have hl : (mid (z.drop 1) 0 8).length = 8 := mid_len (by rw [List.length_drop]; have := h.1; omega)
  rw [headT_ref, seF, numK_val (by omega) hl]
  have h1 := h.1
  match z, h1 with
  | a :: t, _ =>
    show [UInt8.ofNat a.toNat] ++ (mid t 0 8) = mid (a :: t) 0 9
    rw [UInt8.ofNat_toNat]
    simp [mid]
theorem mid_cat (z : List UInt8) (a b : Nat) : mid z 0 a ++ mid (z.drop a) 0 b = mid z 0 (a + b) := by
  simp [mid, List.take_add]
theorem frm_iff {key : List UInt8} {z : List UInt8} {n : Nat} (hz : z.length = n) (h : PkOk z) : decide (frmT key (wayF z) (seF z) (mid (z.drop 9) 0 (n - 25)) = z) = decide (AuthP key (seF z) z) := by
  have h25 : 25 ≤ n := hz ▸ h.1
  have e : headT (wayF z) (seF z) ++ mid (z.drop 9) 0 (n - 25) = mid z 0 (n - 16) := by
    rw [mid9_head h, mid_cat, show 9 + (n - 25) = n - 16 by omega]
  have e2 : z = mid z 0 (n - 16) ++ z.drop (n - 16) := by simp [mid]
  refine decide_eq_decide.2 ?_
  unfold frmT AuthP
  rw [e, hz]
  refine ⟨fun h => ?_, fun h => ?_⟩
  · rw [e2] at h
    have := List.append_inj_right h (by rw [← e2])
    rw [← e2] at this
    exact this.symm
  · rw [← h]; exact e2.symm
theorem wayF_frm {key : List UInt8} {k : Nat} {s : UInt64} {b : List UInt8} (hk : k = 1 ∨ k = 2) : wayF (frmT key k s b) = k := by
  unfold wayF frmT
  rw [headT_ref]
  show (UInt8.ofNat k).toNat = k
  rcases hk with rfl | rfl <;> rfl
theorem seF_frm {key : List UInt8} {k : Nat} {s : UInt64} {b : List UInt8} : seF (frmT key k s b) = s := by
  have e : mid ((frmT key k s b).drop 1) 0 8 = numK 8 s 8 := by
    unfold frmT
    rw [headT_ref]
    have hl := numK_len 8 s 8
    simp [mid, hl, List.append_assoc]
  unfold seF
  rw [e]
  exact valK_back 8 s (by omega) (Nat.div_eq_of_lt s.toNat_lt)
theorem PkOk_frm {key : List UInt8} {k : Nat} {s : UInt64} {b : List UInt8} (hk : k = 1 ∨ k = 2) (hb : b.length + 25 ≤ 262144) : PkOk (frmT key k s b) :=
  ⟨by rw [frmT_len rfl]; omega, by rw [frmT_len rfl]; exact hb, by rw [wayF_frm hk]; exact hk⟩
theorem pre_frm {key : List UInt8} {k : Nat} {s : UInt64} {b : List UInt8} {n : Nat} (hb : b.length = n) : mid (frmT key k s b) 0 (n + 9) = headT k s ++ b := by
  have hl : (headT k s ++ b).length = n + 9 := by rw [List.length_append, headT_len, hb]; omega
  unfold frmT mid
  rw [List.drop_zero, ← hl, List.take_left]
theorem tail_frm {key : List UInt8} {k : Nat} {s : UInt64} {b : List UInt8} {n : Nat} (hb : b.length = n) : (frmT key k s b).drop (n + 9) = tagT key s (headT k s ++ b) := by
  have hl : (headT k s ++ b).length = n + 9 := by rw [List.length_append, headT_len, hb]; omega
  unfold frmT
  rw [← hl, List.drop_left]
theorem body_frm {key : List UInt8} {k : Nat} {s : UInt64} {b : List UInt8} {n : Nat} (hb : b.length = n) : mid ((frmT key k s b).drop 9) 0 n = b := by
  unfold frmT
  rw [List.append_assoc, ← headT_len k s, List.drop_left]
  simp [mid, ← hb]
theorem auth_frm {key key' : List UInt8} {k : Nat} {s s' : UInt64} {b : List UInt8} : AuthP key' s' (frmT key k s b) ↔ tagT key s (headT k s ++ b) = tagT key' s' (headT k s ++ b) := by
  unfold AuthP
  rw [frmT_len rfl, show b.length + 25 - 16 = b.length + 9 by omega, pre_frm rfl, tail_frm rfl]
theorem open_frm {key : List UInt8} {k : Nat} {s : UInt64} {b : List UInt8} (hk : k = 1 ∨ k = 2) (hb : b.length + 25 ≤ 262144) : openE key k s (frmT key k s b) = 0 := by
  unfold openE
  rw [if_pos (PkOk_frm hk hb), if_pos ⟨by rw [wayF_frm hk], seF_frm⟩, if_pos (auth_frm.2 rfl)]
theorem open_side {key key' : List UInt8} {k : Nat} {s s' : UInt64} {way : Int} {b : List UInt8} (hk : k = 1 ∨ k = 2) (h : openE key' way s' (frmT key k s b) = 0) : (k : Int) = way ∧ s = s' := by
  unfold openE at h
  split at h
  · split at h
    · rename_i h2
      rw [wayF_frm hk, seF_frm] at h2
      exact h2
    · omega
  · omega
def flipB (f : List UInt8) (q r : Nat) : List UInt8 := f.set q (g8 f q ^^^ ((1:UInt8) <<< UInt8.ofNat r))
theorem flipB_def (f : List UInt8) (q r : Nat) : flipB f q r = f.set q (g8 f q ^^^ ((1:UInt8) <<< UInt8.ofNat r)) := rfl
theorem ofN_ne {m : Nat} (h0 : 0 < m) (h : m < 18446744073709551616) : UInt64.ofNat m ≠ 0 := fun q => by
  have := congrArg UInt64.toNat q
  rw [UInt64.toNat_ofNat', Nat.mod_eq_of_lt h] at this
  have h2 : (0:UInt64).toNat = 0 := rfl
  omega
theorem rem_lt {m : Nat} (x : UInt64) (h0 : 0 < m) (h : m < 18446744073709551616) : (x % UInt64.ofNat m).toNat < m := by
  rw [UInt64.toNat_mod, UInt64.toNat_ofNat', Nat.mod_eq_of_lt h]
  exact Nat.mod_lt _ h0
theorem flipB_len (f : List UInt8) (q r : Nat) : (flipB f q r).length = f.length := by unfold flipB; simp
theorem flipB_ne {f : List UInt8} {q r : Nat} (hq : q < f.length) (hr : r < 8) : g8 (flipB f q r) q ≠ g8 f q := by
  unfold flipB
  rw [g8_set f q q _ hq, if_pos rfl]
  exact xor_ne (one_shl hr)
theorem flipB_at {f : List UInt8} {q r i : Nat} (hq : q < f.length) (h : i ≠ q) : g8 (flipB f q r) i = g8 f i := by
  unfold flipB
  rw [g8_set f q i _ hq, if_neg (by omega)]
theorem open_flip {key : List UInt8} {k : Nat} {s : UInt64} {b : List UInt8} {n q r : Nat} (hk : k = 1 ∨ k = 2) (hb : b.length = n) (hq : q < n + 25) (hr : r < 8) (h : openE key k s (flipB (frmT key k s b) q r) = 0) : 9 ≤ q ∧ q < n + 9 := by
  have hl : (frmT key k s b).length = n + 25 := frmT_len hb
  have hne := flipB_ne (f := frmT key k s b) (q := q) (r := r) (by omega) hr
  unfold openE at h
  split at h
  case isFalse => omega
  rename_i hp
  split at h
  case isFalse => omega
  rename_i hs
  split at h
  case isFalse => omega
  rename_i ha
  by_cases h9 : q < 9
  · exfalso
    have h1 := mid9_head hp
    have h2 := mid9_head (PkOk_frm (key := key) (s := s) (b := b) hk (by have := hp.2.1; rw [flipB_len, hl] at this; omega))
    rw [wayF_frm hk, seF_frm] at h2
    have hw : wayF (flipB (frmT key k s b) q r) = k := by omega
    rw [hw, hs.2, h2] at h1
    apply hne
    have h3 := congrArg (fun l => g8 l q) h1
    simp only [g8_midL h9, Nat.zero_add] at h3
    exact h3.symm
  · by_cases h16 : q < n + 9
    · exact ⟨by omega, h16⟩
    · exfalso
      unfold AuthP at ha
      rw [flipB_len, hl, show n + 25 - 16 = n + 9 by omega] at ha
      have e : mid (flipB (frmT key k s b) q r) 0 (n + 9) = mid (frmT key k s b) 0 (n + 9) := by
        apply ext8n
        · rw [mid_len (by rw [flipB_len, hl]; omega), mid_len (by rw [hl]; omega)]
        · intro i hi
          rw [mid_len (by rw [flipB_len, hl]; omega)] at hi
          rw [g8_midL hi, g8_midL hi, flipB_at (by omega) (by omega)]
      rw [e, pre_frm hb, ← tail_frm (key := key) hb] at ha
      apply hne
      have h3 := congrArg (fun l => g8 l (q - (n + 9))) ha
      simp only [g8_dropL] at h3
      rw [show n + 9 + (q - (n + 9)) = q by omega] at h3
      exact h3
end Go.Proofs.YtkdpdgpphpngeaaDoor
namespace Go.Sx
open Go Go.RowKit
set_option linter.unusedVariables false
set_option linter.unusedSimpArgs false
section
variable {P : Program}
def PartV (P : Program) (t : TypeId) (cs : List Value) (off : Nat) (u : Value) : Prop := ∀ w, (part t cs.toArray off).run P w = .ok u w
theorem PartV.one {t : TypeId} {cs : List Value} {off : Nat} {v : Value} (hA : ∀ w, (isAgg t).run P w = .ok false w) (h : Seg cs off [v]) : PartV P t cs off v := fun w => by
  have h0 : cs[off]? = some v := by simpa using h 0 v rfl
  simp [part, hA w, h0]
theorem PartV.agg {t : TypeId} {cs vs : List Value} {off n : Nat} (hA : ∀ w, (isAgg t).run P w = .ok true w) (hS : ∀ w, (sizeOf t).run P w = .ok n w) (h : (cs.drop off).take n = vs) : PartV P t cs off (.agg vs.toArray) := fun w => by
  simp [part, hA w, hS w, ← h]
def EqV (P : Program) (d : Nat) (t : TypeId) (u v : Value) (b : Bool) : Prop := ∀ w, (Op.equalIn d t u v).run P w = .ok b w
theorem EqV.u64 {d : Nat} {t : TypeId} (he : P.underlying t = some (.int .u64)) (a b : UInt64) : EqV P (d + 1) t (U64 a) (U64 b) (decide (a = b)) := fun w => by
  have pe := run_equalIn_int (P := P) w d t .u64 .u64 a.toNat b.toNat he
  have e1 : ((a.toNat : Int) == (b.toNat : Int)) = decide (a = b) := by rw [Bool.eq_iff_iff]; simp [← UInt64.toNat_inj]; omega
  rw [e1] at pe
  simpa using pe
theorem EqV.u8 {d : Nat} {t : TypeId} (he : P.underlying t = some (.int .u8)) (a b : UInt8) : EqV P (d + 1) t (U8 a) (U8 b) (decide (a = b)) := fun w => by
  have pe := run_equalIn_int (P := P) w d t .u8 .u8 a.toNat b.toNat he
  have e1 : ((a.toNat : Int) == (b.toNat : Int)) = decide (a = b) := by rw [Bool.eq_iff_iff]; simp [← UInt8.toNat_inj]; omega
  rw [e1] at pe
  simpa using pe
theorem EqV.i64 {d : Nat} {t : TypeId} (he : P.underlying t = some (.int .i64)) (a b : Int) : EqV P (d + 1) t (I64 a) (I64 b) (decide (a = b)) := fun w => by
  have pe := run_equalIn_int (P := P) w d t .i64 .i64 a b he
  have e1 : (a == b) = decide (a = b) := rfl
  rw [e1] at pe
  simpa using pe
theorem EqV.bool {d : Nat} {t : TypeId} (he : P.underlying t = some .bool) (a b : Bool) : EqV P (d + 1) t (.bool a) (.bool b) (a == b) := fun w => by
  simp [Op.equalIn, run_underlying he]
theorem EqV.arr8 {d : Nat} {T e : TypeId} {n : Nat} (hu : P.underlying T = some (.array n e)) (he : P.underlying e = some (.int .u8)) (hA : ∀ w, (isAgg e).run P w = .ok false w) (hc : P.cellsOf e = 1) (hi : (P.info? e).isSome = true) {a b : List UInt8} (ha : a.length = n) (hb : b.length = n) :
    EqV P (d + 2) T (.agg (cu8 a).toArray) (.agg (cu8 b).toArray) (decide (a = b)) := fun w => equalIn_arr8 d hu he hA hc hi ha hb
inductive EqRs (P : Program) (d : Nat) (xs ys : List Value) : List (TypeId × Nat) → Bool → Prop
  | last (t o : Nat) (u v : Value) (b : Bool) : PartV P t xs o u → PartV P t ys o v → EqV P d t u v b → EqRs P d xs ys [(t, o)] b
  | cons (t o : Nat) (u v : Value) (b : Bool) (r : List (TypeId × Nat)) (c : Bool) : PartV P t xs o u → PartV P t ys o v → EqV P d t u v b → EqRs P d xs ys r c → EqRs P d xs ys ((t, o) :: r) (b && c)
theorem EqRs.run {d : Nat} {xs ys : List Value} {r : List (TypeId × Nat)} {b : Bool} (h : EqRs P d xs ys r b) : ∀ (fs : List Field), fs.map (fun f => (decide (f.name ≠ "_"), f.type, f.offset)) = r.map (fun x => (true, x.1, x.2)) →
    ∀ w, (Op.eqFields d xs.toArray ys.toArray fs).run P w = .ok b w := by
  induction h with
  | last t o u v b hx hy he =>
    intro fs hf w
    obtain ⟨f, rfl⟩ : ∃ f, fs = [f] := by
      cases fs with
      | nil => simp at hf
      | cons f r => cases r with
        | nil => exact ⟨f, rfl⟩
        | cons g r => simp at hf
    · simp only [List.map_cons, List.map_nil, List.cons.injEq, Prod.mk.injEq, and_true, decide_eq_true_eq] at hf
      obtain ⟨h1, h2, h3⟩ := hf
      rw [Op.eqFields, if_pos h1, h2, h3]
      simp only [Sem.run_bind, hx w, hy w, he w, Result.andThen_ok, Op.eqFields]
      cases b <;> simp
  | cons t o u v b r c hx hy he hr ih =>
    intro fs hf w
    cases fs with
    | nil => simp at hf
    | cons f fs =>
      simp only [List.map_cons, List.cons.injEq, Prod.mk.injEq, decide_eq_true_eq] at hf
      obtain ⟨⟨h1, h2, h3⟩, h4⟩ := hf
      rw [Op.eqFields, if_pos h1, h2, h3]
      simp only [Sem.run_bind, hx w, hy w, he w, Result.andThen_ok]
      cases b with
      | false => simp
      | true => simpa using ih fs h4 w
theorem EqV.struct {d : Nat} {t : TypeId} {xs ys : List Value} {r : List (TypeId × Nat)} {b : Bool} (hu : P.underlying t = some (.struct (P.fieldsOf t))) (hp : P.stoodInHeld t = false)
    (hr : (P.fieldsOf t).toList.map (fun f => (decide (f.name ≠ "_"), f.type, f.offset)) = r.map (fun x => (true, x.1, x.2))) (h : EqRs P d xs ys r b) : EqV P (d + 1) t (.agg xs.toArray) (.agg ys.toArray) b := fun w => by
  rw [run_equalIn_struct w d t _ _ hu hp]
  exact h.run _ hr w
theorem eql_struct {t : TypeId} {x y : Array Value} {b : Bool} (p : Prop) [Decidable p] (h : EqV P 10000 t (.agg x) (.agg y) b) (hb : b = decide p) : ∀ w, (binOp .eql t (.agg x) (.agg y)).run P w = .ok (.bool (decide p)) w := fun w => by
  subst hb
  exact eql_of (by simp [binOp]) (h w)
theorem neq_struct {t : TypeId} {x y : Array Value} {b : Bool} (p : Prop) [Decidable p] (h : EqV P 10000 t (.agg x) (.agg y) b) (hb : b = decide p) : ∀ w, (binOp .neq t (.agg x) (.agg y)).run P w = .ok (.bool (!decide p)) w := fun w => by
  subst hb
  exact neq_of (by simp [binOp]) (h w)
theorem dt_dt {cs : List Value} {a n b m o : Nat} (hb : b + m ≤ n) (ho : o = a + b) : ((((cs.drop a).take n).drop b).take m) = (cs.drop o).take m := by
  subst ho
  rw [List.drop_take, List.take_take, List.drop_drop, Nat.min_eq_left (by omega)]
theorem TD.sub {H : Type} {enc : TypeId × Value → H} {w : World} {base : Nat} {spare : Nat → Bool} {held sz : Bool} {t : TypeId} {cs : List Value} {a n b m o : Nat} (h : TD enc P w base spare held sz t ((((cs.drop a).take n).drop b).take m)) (hb : b + m ≤ n) (ho : o = a + b) :
    TD enc P w base spare held sz t ((cs.drop o).take m) := by rw [← dt_dt hb ho]; exact h
theorem Seg.split {cs p q vs : List Value} {off : Nat} (h : cs = p ++ (vs ++ q)) (hn : p.length = off) : Seg cs off vs := Seg.sub (p := p) (q := q) (o := 0) hn (by omega) (by rw [h, List.append_assoc]; exact Seg.whole _)
end
section
variable {C : Cx} {F : Frm} {L : List Ent}
end
end Go.Sx
namespace Go.Sx
open Go Go.RowKit
set_option linter.unusedVariables false
variable {C : Cx} {F : Frm} {L : List Ent}
theorem Ev_sliceBoth {T : Nat} {x lo hi : Operand} {ty : TypeId} {ao : Option Addr} {l c : Nat} (e i j n' c' : Nat) (hu : C.P.underlying T = some (.slice e)) (hS : ∀ w, (sizeOf e).run C.P w = .ok 1 w) (hx : ev F x = some (.slice ao l c))
    (hl : ev F lo = some (I64 i)) (hh : ev F hi = some (I64 j)) (h1 : i ≤ j) (h2 : j ≤ c) (hn : j - i = n') (hc : c - i = c') : Ev C F L (.slice T x (some lo) (some hi) none) ty (.slice (if c = i then ao else ao.map (·.add (i * 1))) n' c') := by
  subst hn; subst hc
  exact Ev_sliceG (ty := ty) (L := L) (lo := some lo) (hi := some hi) e 1 i j hu hS hx hl hh h1 h2
end Go.Sx
