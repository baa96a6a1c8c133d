import Derived.Test.YtncoifiafklkjaaDoorHmac3
namespace Go.Proofs.YtncoifiafklkjaaDoor
open Go Go.Sx
set_option linter.unusedVariables false
set_option linter.unusedSimpArgs false
set_option maxRecDepth 100000
attribute [local irreducible] mid zr8 zr32 rotr wordL spreadL comprL cpN adN spN wrdN constL initL padL stN outN routN hashL sumG blkL xbN raN macL orN
theorem check_c (am : Option Addr) (m cm : Nat) (mm : List UInt8) (ao : Option Addr) (n cb : Nat) (key : List UInt8) (b c : Nat) (vs : List Value) (ls : List (List UInt8)) (w : World) (hm : mm.length = m) (hmi : m ≤ 9223372036854775807) (hrm : RdB w [] am mm) (hb : key.length = n) (hcb : ao = none → cb = 0) (hn : n ≤ 17592186044416) (hr : RdB w [] ao key) (hk : 1 ≤ ls.length) (hc : ls.length ≤ c) (hk2 : ls.length ≤ 1000) (hp : Parts w b vs ls) (hs : ls.flatten.length ≤ 100000000) (hG : GLs w) : Calls Tryd.prog 42 #[.slice am m cm, .slice ao n cb, .slice (some ⟨b, 0, none⟩) ls.length c] w (Post w [] (fun v L => v = .bool (decide (mm = macL key ls.flatten) || decide (mm = mid (macL key ls.flatten) 0 16)) ∧ L = [])) := by
  refine enter w [] 23 [] [.slice am m cm, .slice ao n cb, .slice (some ⟨b, 0, none⟩) ls.length c] Tryd.func42 rfl rfl (by simp) (Hp.start (by simp) (by simp) (by simp)) ?_
  show JC _ _ _ [(0, .slice am m cm), (1, .slice ao n cb), (2, .slice (some ⟨b, 0, none⟩) ls.length c)] _
  refine JC_seq ?_
  refine JC_region ?_
  refine JL_val _ (Ev_assign rfl) rfl ?_
  refine JL_nil ?_
  refine JQ_then ?_
  refine JC_seq ?_
  refine JC_region ?_
  refine JL_val _ (Ev_move rfl) rfl ?_
  refine JL_val _ (Ev_move rfl) rfl ?_
  refine JL_step (Step_callP 39 [.slice ao n cb, .slice (some ⟨b, 0, none⟩) ls.length c] (.agg (cu8 (macL key ls.flatten)).toArray) (Cl_func [.slice ao n cb, .slice (some ⟨b, 0, none⟩) ls.length c] Tryd.call39 rfl) (fun w1 hw1 => mac_c ao n cb key b c vs ls w1 hb hcb (by omega) (hr.at (M' := []) hw1 (by simp)) hk hc hk2 (hp.at hw1 rfl (by omega)) hs (hG.at hw1))) rfl ?_
  rintro v1 L1 ⟨rfl, rfl⟩
  show JL _ _ _ _ ((10, .agg (cu8 (macL key ls.flatten)).toArray) :: _) []
  refine JL_step (Step_alloc _ (cu8 (zr8 32)) Tryd.zeroValue25 (by kernel_rfl)) rfl ?_
  rintro v1 L1 ⟨nb1, hnb1, rfl, rfl⟩
  show JL _ _ _ _ ((7, Ptr nb1 0) :: _) [⟨nb1, cu8 (zr8 32), 25, (0, 0)⟩]
  refine JL_step (Step_store 0 nb1 0 32 (cu8 (zr8 32)) 25 (.agg (cu8 (macL key ls.flatten)).toArray) (cu8 (macL key ls.flatten)) (cu8 (macL key ls.flatten)) rfl rfl rfl (by first | rfl | simp) Tryd.sizeOf25 (len_cu8 (macL_len _ _)) (by first | exact one_u8 | exact one_u32 | exact one_u64 | (simp [cu8, cu32, cu64, Value.oneCell']; done)) (by simp [(zr8_len 32)]) (lay_whole (by simp [(zr8_len 32), (macL_len _ _)]))) rfl ?_
  rintro v1 L1 ⟨rfl, rfl⟩
  show JL _ _ _ _ _ [⟨nb1, cu8 (macL key ls.flatten), 25, (0, 0)⟩]
  refine JL_nil ?_
  refine JQ_then ?_
  refine JC_seq ?_
  refine JC_seq ?_
  refine JC_region ?_
  refine JL_val _ (Ev_move rfl) rfl ?_
  refine JL_val (I64 ((m:Int))) (Ev_len Tryd.underlying22 rfl) rfl ?_
  refine JL_nil ?_
  refine JQ_then ?_
  refine JC_block ?_
  refine JC_seq ?_
  refine JC_region ?_
  refine JL_val (.bool (decide (((m:Int)) = (16:Int)))) (Ev_bini rfl rfl fun _ => bin_eql_i _ _) rfl ?_
  refine JL_val _ (Ev_assign rfl) rfl ?_
  refine JL_nil ?_
  refine JQ_then ?_
  refine JC_cond (decide (((m:Int)) = (16:Int))) rfl (fun hb1 => ?_) (fun hb1 => ?_)
  ·
    have hp1 : ((m:Int)) = (16:Int) := of_decide_eq_true hb1
    refine JC_seq ?_
    refine JC_region ?_
    refine JL_val _ (Ev_move rfl) rfl ?_
    refine JL_val (Slc nb1 0 16 32) (Ev_sliceA 32 5 1 0 16 0 32 Tryd.underlying25 Tryd.sizeOf5 rfl rfl rfl (by omega) (by omega) (by omega) (by omega) (by omega) 16 (by omega)) rfl ?_
    have hl1 : (mid (macL key ls.flatten) 0 16).length = 16 := mid_len (by rw [(macL_len _ _)]; omega)
    refine JL_step (Step_callP 36 [.slice am m cm, Slc nb1 0 16 32] (.bool (decide (mm = (mid (macL key ls.flatten) 0 16)))) (Cl_func [.slice am m cm, Slc nb1 0 16 32] Tryd.call36 rfl) (fun w1 hw1 => same_c am (some ⟨nb1, 0, none⟩) m 16 cm 32 mm (mid (macL key ls.flatten) 0 16) w1 hm hl1 (hrm.at (M' := []) hw1 (by simp)) (RdB.of hw1 (MemAt.ent 0 rfl (segm_u8 0 16 (by rw [(macL_len _ _)]; omega))) (by simp)) (by omega) (by omega))) rfl ?_
    rintro v1 L1 ⟨rfl, rfl⟩
    show JL _ _ _ _ ((17, .bool (decide (mm = (mid (macL key ls.flatten) 0 16)))) :: _) [⟨nb1, cu8 (macL key ls.flatten), 25, (0, 0)⟩]
    refine JL_val _ (Ev_assign rfl) rfl ?_
    refine JL_nil ?_
    refine JQ_then ?_
    refine JC_ret ?_
    refine JQ_in_ret ?_
    refine JQ_then_ret ?_
    refine JQ_ret (.bool (decide (mm = (mid (macL key ls.flatten) 0 16)))) (res1 Tryd.results42 (RV_tmp rfl)) fun w1 hw1 => ?_
    refine ⟨_, [], rfl, ⟨?_, rfl⟩, hw1.sub (by simp) (by simp)⟩
    have hl1 : (macL key ls.flatten).length = 32 := macL_len _ _
    have hl2 : (mid (macL key ls.flatten) 0 16).length = 16 := mid_len (by rw [hl1]; omega)
    first
    | (have hne : ¬ mm = macL key ls.flatten := fun h => by rw [← h] at hl1; omega
       rw [decide_eq_false hne, Bool.false_or]; done)
    | (have hne : ¬ mm = mid (macL key ls.flatten) 0 16 := fun h => by rw [← h] at hl2; omega
       rw [decide_eq_false hne, Bool.or_false]; done)
    | (have hne : ¬ mm = macL key ls.flatten := fun h => by rw [← h] at hl1; omega
       have hne2 : ¬ mm = mid (macL key ls.flatten) 0 16 := fun h => by rw [← h] at hl2; omega
       rw [decide_eq_false hne, decide_eq_false hne2]; rfl)
  ·
    have hp1 : ¬ (((m:Int)) = (16:Int)) := of_decide_eq_false hb1
    refine JC_seq ?_
    refine JC_region ?_
    refine JL_val (.bool (decide (((m:Int)) = (32:Int)))) (Ev_bini rfl rfl fun _ => bin_eql_i _ _) rfl ?_
    refine JL_val _ (Ev_assign rfl) rfl ?_
    refine JL_nil ?_
    refine JQ_then ?_
    refine JC_cond (decide (((m:Int)) = (32:Int))) rfl (fun hb2 => ?_) (fun hb2 => ?_)
    ·
      have hp2 : ((m:Int)) = (32:Int) := of_decide_eq_true hb2
      refine JC_seq ?_
      refine JC_region ?_
      refine JL_val _ (Ev_move rfl) rfl ?_
      refine JL_val (Slc nb1 0 32 32) (Ev_sliceA 32 5 1 0 32 0 32 Tryd.underlying25 Tryd.sizeOf5 rfl rfl rfl (by omega) (by omega) (by omega) (by omega) (by omega) 32 (by omega)) rfl ?_
      refine JL_step (Step_callP 36 [.slice am m cm, Slc nb1 0 32 32] (.bool (decide (mm = (macL key ls.flatten)))) (Cl_func [.slice am m cm, Slc nb1 0 32 32] Tryd.call36 rfl) (fun w1 hw1 => same_c am (some ⟨nb1, 0, none⟩) m 32 cm 32 mm (macL key ls.flatten) w1 hm (macL_len _ _) (hrm.at (M' := []) hw1 (by simp)) (RdB.of hw1 (MemAt.ent 0 rfl (Seg.whole _)) (by simp)) (by omega) (by omega))) rfl ?_
      rintro v1 L1 ⟨rfl, rfl⟩
      show JL _ _ _ _ ((22, .bool (decide (mm = (macL key ls.flatten)))) :: _) [⟨nb1, cu8 (macL key ls.flatten), 25, (0, 0)⟩]
      refine JL_val _ (Ev_assign rfl) rfl ?_
      refine JL_nil ?_
      refine JQ_then ?_
      refine JC_ret ?_
      refine JQ_in_ret ?_
      refine JQ_then_ret ?_
      refine JQ_ret (.bool (decide (mm = (macL key ls.flatten)))) (res1 Tryd.results42 (RV_tmp rfl)) fun w1 hw1 => ?_
      refine ⟨_, [], rfl, ⟨?_, rfl⟩, hw1.sub (by simp) (by simp)⟩
      have hl1 : (macL key ls.flatten).length = 32 := macL_len _ _
      have hl2 : (mid (macL key ls.flatten) 0 16).length = 16 := mid_len (by rw [hl1]; omega)
      first
      | (have hne : ¬ mm = macL key ls.flatten := fun h => by rw [← h] at hl1; omega
         rw [decide_eq_false hne, Bool.false_or]; done)
      | (have hne : ¬ mm = mid (macL key ls.flatten) 0 16 := fun h => by rw [← h] at hl2; omega
         rw [decide_eq_false hne, Bool.or_false]; done)
      | (have hne : ¬ mm = macL key ls.flatten := fun h => by rw [← h] at hl1; omega
         have hne2 : ¬ mm = mid (macL key ls.flatten) 0 16 := fun h => by rw [← h] at hl2; omega
         rw [decide_eq_false hne, decide_eq_false hne2]; rfl)
    ·
      have hp2 : ¬ (((m:Int)) = (32:Int)) := of_decide_eq_false hb2
      refine JC_skip ?_
      refine JQ_in_normal ?_
      refine JQ_then ?_
      refine JC_seq ?_
      refine JC_region ?_
      refine JL_val _ (Ev_assign rfl) rfl ?_
      refine JL_nil ?_
      refine JQ_then ?_
      refine JC_ret ?_
      refine JQ_ret (.bool false) (res1 Tryd.results42 (RV_tmp rfl)) fun w1 hw1 => ?_
      refine ⟨_, [], rfl, ⟨?_, rfl⟩, hw1.sub (by simp) (by simp)⟩
      have hl1 : (macL key ls.flatten).length = 32 := macL_len _ _
      have hl2 : (mid (macL key ls.flatten) 0 16).length = 16 := mid_len (by rw [hl1]; omega)
      first
      | (have hne : ¬ mm = macL key ls.flatten := fun h => by rw [← h] at hl1; omega
         rw [decide_eq_false hne, Bool.false_or]; done)
      | (have hne : ¬ mm = mid (macL key ls.flatten) 0 16 := fun h => by rw [← h] at hl2; omega
         rw [decide_eq_false hne, Bool.or_false]; done)
      | (have hne : ¬ mm = macL key ls.flatten := fun h => by rw [← h] at hl1; omega
         have hne2 : ¬ mm = mid (macL key ls.flatten) 0 16 := fun h => by rw [← h] at hl2; omega
         rw [decide_eq_false hne, decide_eq_false hne2]; rfl)

theorem mac_nil : g8 (macL [] []) 0 = 182 ∧ g8 (macL [] []) 1 = 19 ∧ g8 (macL [] []) 2 = 103 ∧ g8 (macL [] []) 3 = 154 := by decide +kernel

theorem alive3_c  (w : World) (hG : GLs w) : Calls Tryd.prog 35 #[] w (Post w [] (fun v L => v = .bool true ∧ L = [])) := by
  refine enter w [] 26 [] [] Tryd.func35 rfl rfl (by simp) (Hp.start (by simp) (by simp) (by simp)) ?_
  show JC _ _ _ [] _
  refine JC_seq ?_
  refine JC_region ?_
  refine JL_val _ (Ev_assign rfl) rfl ?_
  refine JL_nil ?_
  refine JQ_then ?_
  refine JC_seq ?_
  refine JC_region ?_
  refine JL_step (Step_callP 39 [.slice none 0 0, .slice none 0 0] (.agg (cu8 (macL ([] : List UInt8) ([] : List UInt8))).toArray) (Cl_func [.slice none 0 0, .slice none 0 0] Tryd.call39 rfl) (fun w1 hw1 => mac0_c none 0 0 ([] : List UInt8) w1 rfl (fun _ => rfl) (by omega) RdB.nil (hG.at hw1))) rfl ?_
  rintro v1 L1 ⟨rfl, rfl⟩
  show JL _ _ _ _ ((2, .agg (cu8 (macL ([] : List UInt8) ([] : List UInt8))).toArray) :: _) []
  refine JL_step (Step_alloc _ (cu8 (zr8 32)) Tryd.zeroValue25 (by kernel_rfl)) rfl ?_
  rintro v1 L1 ⟨nb1, hnb1, rfl, rfl⟩
  show JL _ _ _ _ ((1, Ptr nb1 0) :: _) [⟨nb1, cu8 (zr8 32), 25, (0, 0)⟩]
  refine JL_step (Step_store 0 nb1 0 32 (cu8 (zr8 32)) 25 (.agg (cu8 (macL ([] : List UInt8) ([] : List UInt8))).toArray) (cu8 (macL ([] : List UInt8) ([] : List UInt8))) (cu8 (macL ([] : List UInt8) ([] : List UInt8))) rfl rfl rfl (by first | rfl | simp) Tryd.sizeOf25 (len_cu8 (macL_len _ _)) (by first | exact one_u8 | exact one_u32 | exact one_u64 | (simp [cu8, cu32, cu64, Value.oneCell']; done)) (by simp [(zr8_len 32)]) (lay_whole (by simp [(zr8_len 32), (macL_len _ _)]))) rfl ?_
  rintro v1 L1 ⟨rfl, rfl⟩
  show JL _ _ _ _ _ [⟨nb1, cu8 (macL ([] : List UInt8) ([] : List UInt8)), 25, (0, 0)⟩]
  refine JL_nil ?_
  refine JQ_then ?_
  refine JC_seq ?_
  refine JC_region ?_
  refine JL_val (Ptr nb1 0) (Ev_indexArr 32 5 1 0 Tryd.underlying25 Tryd.sizeOf5 rfl rfl (by omega) (by omega) (by omega)) rfl ?_
  refine JL_val (U8 (g8 (macL ([] : List UInt8) ([] : List UInt8)) 0)) (Ev_load rfl (Ld_one Tryd.isAgg5 (MemAt.ent 0 rfl (Seg.get (g8_get (i := 0) (by rw [(macL_len _ _)]; omega)))))) rfl ?_
  refine JL_val (.bool (decide ((g8 (macL ([] : List UInt8) ([] : List UInt8)) 0) = (182:UInt8)))) (Ev_bini rfl rfl fun _ => bin_eql_u8 (g8 (macL ([] : List UInt8) ([] : List UInt8)) 0) (182:UInt8)) rfl ?_
  refine JL_val _ (Ev_move rfl) rfl ?_
  refine JL_gval 3 6 true _ (Ptr nb1 1) rfl rfl (decide_eq_true (mac_nil.1)) (Ev_indexArr 32 5 1 1 Tryd.underlying25 Tryd.sizeOf5 rfl rfl (by omega) (by omega) (by omega)) rfl ?_
  refine JL_gval 3 6 true _ (U8 (g8 (macL ([] : List UInt8) ([] : List UInt8)) 1)) rfl rfl (decide_eq_true (mac_nil.1)) (Ev_load rfl (Ld_one Tryd.isAgg5 (MemAt.ent 0 rfl (Seg.get (g8_get (i := 1) (by rw [(macL_len _ _)]; omega)))))) rfl ?_
  refine JL_gval 3 6 true _ (.bool (decide ((g8 (macL ([] : List UInt8) ([] : List UInt8)) 1) = (19:UInt8)))) rfl rfl (decide_eq_true (mac_nil.1)) (Ev_bini rfl rfl fun _ => bin_eql_u8 (g8 (macL ([] : List UInt8) ([] : List UInt8)) 1) (19:UInt8)) rfl ?_
  refine JL_val _ (Ev_pickT _ rfl (decide_eq_true (mac_nil.1)) rfl) rfl ?_
  refine JL_val _ (Ev_move rfl) rfl ?_
  refine JL_gval 8 11 true _ (Ptr nb1 2) rfl rfl (decide_eq_true (mac_nil.2.1)) (Ev_indexArr 32 5 1 2 Tryd.underlying25 Tryd.sizeOf5 rfl rfl (by omega) (by omega) (by omega)) rfl ?_
  refine JL_gval 8 11 true _ (U8 (g8 (macL ([] : List UInt8) ([] : List UInt8)) 2)) rfl rfl (decide_eq_true (mac_nil.2.1)) (Ev_load rfl (Ld_one Tryd.isAgg5 (MemAt.ent 0 rfl (Seg.get (g8_get (i := 2) (by rw [(macL_len _ _)]; omega)))))) rfl ?_
  refine JL_gval 8 11 true _ (.bool (decide ((g8 (macL ([] : List UInt8) ([] : List UInt8)) 2) = (103:UInt8)))) rfl rfl (decide_eq_true (mac_nil.2.1)) (Ev_bini rfl rfl fun _ => bin_eql_u8 (g8 (macL ([] : List UInt8) ([] : List UInt8)) 2) (103:UInt8)) rfl ?_
  refine JL_val _ (Ev_pickT _ rfl (decide_eq_true (mac_nil.2.1)) rfl) rfl ?_
  refine JL_val _ (Ev_move rfl) rfl ?_
  refine JL_gval 13 16 true _ (Ptr nb1 3) rfl rfl (decide_eq_true (mac_nil.2.2.1)) (Ev_indexArr 32 5 1 3 Tryd.underlying25 Tryd.sizeOf5 rfl rfl (by omega) (by omega) (by omega)) rfl ?_
  refine JL_gval 13 16 true _ (U8 (g8 (macL ([] : List UInt8) ([] : List UInt8)) 3)) rfl rfl (decide_eq_true (mac_nil.2.2.1)) (Ev_load rfl (Ld_one Tryd.isAgg5 (MemAt.ent 0 rfl (Seg.get (g8_get (i := 3) (by rw [(macL_len _ _)]; omega)))))) rfl ?_
  refine JL_gval 13 16 true _ (.bool (decide ((g8 (macL ([] : List UInt8) ([] : List UInt8)) 3) = (154:UInt8)))) rfl rfl (decide_eq_true (mac_nil.2.2.1)) (Ev_bini rfl rfl fun _ => bin_eql_u8 (g8 (macL ([] : List UInt8) ([] : List UInt8)) 3) (154:UInt8)) rfl ?_
  refine JL_val _ (Ev_pickT _ rfl (decide_eq_true (mac_nil.2.2.1)) rfl) rfl ?_
  refine JL_val _ (Ev_move rfl) rfl ?_
  refine JL_gstep 18 21 true _ rfl rfl (decide_eq_true (mac_nil.2.2.2)) (Step_buildSlice 5 1 _ [(0, U8 (1:UInt8))] (cu8 ([(1:UInt8)])) Tryd.underlying22 Tryd.sizeOf5 Tryd.zeroValue5 rfl rfl rfl (by kernel_rfl)) rfl ?_
  rintro v1 L1 ⟨nb2, hnb2, rfl, rfl⟩
  show JL _ _ _ _ ((22, Slc nb2 0 1 1) :: _) [⟨nb1, cu8 (macL ([] : List UInt8) ([] : List UInt8)), 25, (0, 0)⟩, ⟨nb2, cu8 ([(1:UInt8)]), 5, (0, 0)⟩]
  refine JL_gstep 18 21 true _ rfl rfl (decide_eq_true (mac_nil.2.2.2)) (Step_buildSlice 5 1 _ [(0, U8 (1:UInt8))] (cu8 ([(1:UInt8)])) Tryd.underlying22 Tryd.sizeOf5 Tryd.zeroValue5 rfl rfl rfl (by kernel_rfl)) rfl ?_
  rintro v1 L1 ⟨nb3, hnb3, rfl, rfl⟩
  show JL _ _ _ _ ((23, Slc nb3 0 1 1) :: _) [⟨nb1, cu8 (macL ([] : List UInt8) ([] : List UInt8)), 25, (0, 0)⟩, ⟨nb2, cu8 ([(1:UInt8)]), 5, (0, 0)⟩, ⟨nb3, cu8 ([(1:UInt8)]), 5, (0, 0)⟩]
  refine JL_gstep 18 21 true _ rfl rfl (decide_eq_true (mac_nil.2.2.2)) (Step_callP 36 [Slc nb2 0 1 1, Slc nb3 0 1 1] (.bool (decide (([(1:UInt8)]) = ([(1:UInt8)])))) (Cl_func [Slc nb2 0 1 1, Slc nb3 0 1 1] Tryd.call36 rfl) (fun w1 hw1 => same_c (some ⟨nb2, 0, none⟩) (some ⟨nb3, 0, none⟩) 1 1 1 1 ([(1:UInt8)]) ([(1:UInt8)]) w1 rfl rfl (RdB.of hw1 (MemAt.ent 1 rfl (Seg.whole _)) (by simp)) (RdB.of hw1 (MemAt.ent 2 rfl (Seg.whole _)) (by simp)) (by omega) (by omega))) rfl ?_
  rintro v1 L1 ⟨rfl, rfl⟩
  show JL _ _ _ _ ((24, .bool (decide (([(1:UInt8)]) = ([(1:UInt8)])))) :: _) [⟨nb1, cu8 (macL ([] : List UInt8) ([] : List UInt8)), 25, (0, 0)⟩, ⟨nb2, cu8 ([(1:UInt8)]), 5, (0, 0)⟩, ⟨nb3, cu8 ([(1:UInt8)]), 5, (0, 0)⟩]
  refine JL_val _ (Ev_pickT _ rfl (decide_eq_true (mac_nil.2.2.2)) rfl) rfl ?_
  refine JL_val _ (Ev_assign rfl) rfl ?_
  refine JL_nil ?_
  refine JQ_then ?_
  refine JC_ret ?_
  refine JQ_ret (.bool (decide (([(1:UInt8)]) = ([(1:UInt8)])))) (res1 Tryd.results35 (RV_tmp rfl)) fun w1 hw1 => ?_
  exact ⟨_, [], rfl, ⟨by rw [show (decide (([(1:UInt8)]) = ([(1:UInt8)]))) = true from (decide_eq_true rfl)], rfl⟩, hw1.sub (by simp) (by simp)⟩

end Go.Proofs.YtncoifiafklkjaaDoor
