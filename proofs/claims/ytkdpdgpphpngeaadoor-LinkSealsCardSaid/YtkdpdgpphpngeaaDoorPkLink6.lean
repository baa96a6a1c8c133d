import Derived.Test.YtkdpdgpphpngeaaDoorPkLink5
namespace Go.Proofs.YtkdpdgpphpngeaaDoor
open Go Go.Sx
set_option linter.unusedVariables false
set_option linter.unusedSimpArgs false
set_option maxRecDepth 100000
attribute [local irreducible] mid zr8 zr32 numK valK rvalK numN rotr wordL spreadL comprL cpN adN spN wrdN constL initL padL stN outN routN sumG blkL xbN raN macL headT tagT frmT wayF seF flipB
theorem linkBackX_c (ka kb : List UInt8) (v0 : Int) (s : UInt64) (v1 : Int) (s1 : UInt64) (az : Option Addr) (n cz : Nat) (z : List UInt8)  (w : World) (hka : ka.length = 32) (hkb : kb.length = 32) (hz : z.length = n) (hcb : az = none → cz = 0) (hnc : n ≤ cz) (hcm : cz ≤ maxLen) (hr : RdB w [] az z) (hG : GLs w) (hGr : GLr w) (hGi : GLi w) (hn : 3000 < n) : Calls Tryd.prog 8 #[.agg (cu8 ka ++ cu8 kb).toArray, .agg (List.toArray (α := Value) ([I64 (v0), U64 s, I64 (v1), U64 s1])), .slice az n cz] w (Post w [] (fun v L => v = .bool true ∧ L = [])) := by
  refine enter (P := Tryd.prog) (f := 8) (fn := Tryd.f8) w [] 182 [] [.agg (cu8 ka ++ cu8 kb).toArray, .agg (List.toArray (α := Value) ([I64 (v0), U64 s, I64 (v1), U64 s1])), .slice az n cz] Tryd.func8 rfl rfl (by simp) (Hp.start (by simp) (by simp) (by simp)) ?_
  show JC _ _ _ [(0, .agg (cu8 ka ++ cu8 kb).toArray), (1, .agg (List.toArray (α := Value) ([I64 (v0), U64 s, I64 (v1), U64 s1]))), (2, .slice az n cz)] _
  refine JC_seq ?_
  refine JC_region ?_
  refine JL_step (Step_box (.agg (cu8 ka ++ cu8 kb).toArray) (cu8 ka ++ cu8 kb) rfl (by first | rfl | simp)) rfl ?_
  rintro v1 L1 ⟨nb1, hnb1, rfl, rfl⟩
  show JL _ _ _ _ ((3, Ptr nb1 0) :: _) [⟨nb1, cu8 ka ++ cu8 kb, 82, (0, 0)⟩]
  refine JL_step (Step_box (.agg (List.toArray (α := Value) ([I64 (v0), U64 s, I64 (v1), U64 s1]))) ([I64 (v0), U64 s, I64 (v1), U64 s1]) rfl (by first | rfl | simp)) rfl ?_
  rintro v1 L1 ⟨nb2, hnb2, rfl, rfl⟩
  show JL _ _ _ _ ((4, Ptr nb2 0) :: _) [⟨nb1, cu8 ka ++ cu8 kb, 82, (0, 0)⟩, ⟨nb2, [I64 (v0), U64 s, I64 (v1), U64 s1], 83, (0, 0)⟩]
  refine JL_val _ (Ev_assign rfl) rfl ?_
  refine JL_nil ?_
  refine JQ_then ?_
  refine JC_seq ?_
  refine JC_seq ?_
  refine JC_region ?_
  refine JL_step (Step_callP 26 [] (.bool true) (Cl_func [] Tryd.call26 rfl) (fun w1 hw1 => alive15_c  w1 (hG.at hw1))) rfl ?_
  rintro v1 L1 ⟨rfl, rfl⟩
  show JL _ _ _ _ ((13, .bool true) :: _) [⟨nb1, cu8 ka ++ cu8 kb, 82, (0, 0)⟩, ⟨nb2, [I64 (v0), U64 s, I64 (v1), U64 s1], 83, (0, 0)⟩]
  refine JL_val (.bool (!true)) (Ev_not rfl) rfl ?_
  refine JL_nil ?_
  refine JQ_then ?_
  refine JC_condF _ rfl rfl ?_
  refine JC_skip ?_
  refine JQ_then ?_
  refine JC_seq ?_
  refine JC_seq ?_
  refine JC_region ?_
  refine JL_val _ (Ev_move rfl) rfl ?_
  refine JL_val (I64 ((n:Int))) (Ev_len Tryd.underlying43 rfl) rfl ?_
  refine JL_val (.bool (decide ((3000:Int) < ((n:Int))))) (Ev_bini rfl rfl fun _ => bin_gtr_i _ _) rfl ?_
  refine JL_nil ?_
  refine JQ_then ?_
  refine JC_condT _ rfl (decide_eq_true (by omega)) ?_
  refine JC_seq ?_
  refine JC_region ?_
  refine JL_val _ (Ev_assign rfl) rfl ?_
  refine JL_nil ?_
  refine JQ_then ?_
  refine JC_ret ?_
  refine JQ_then_ret ?_
  refine JQ_ret (.bool true) (res1 Tryd.results8 (RV_tmp rfl)) fun w1 hw1 => ?_
  exact ⟨_, [], rfl, ⟨by rw [show (true) = true from rfl], rfl⟩, hw1.sub (by simp) (by simp)⟩

theorem linkBackW_c (ka kb : List UInt8) (v0 : Int) (s : UInt64) (v1 : Int) (s1 : UInt64) (az : Option Addr) (n cz : Nat) (z : List UInt8)  (w : World) (hka : ka.length = 32) (hkb : kb.length = 32) (hz : z.length = n) (hcb : az = none → cz = 0) (hnc : n ≤ cz) (hcm : cz ≤ maxLen) (hr : RdB w [] az z) (hG : GLs w) (hGr : GLr w) (hGi : GLi w) (hn : n ≤ 3000) (hw : ¬ (v0 = 1 ∨ v0 = 2)) : Calls Tryd.prog 8 #[.agg (cu8 ka ++ cu8 kb).toArray, .agg (List.toArray (α := Value) ([I64 (v0), U64 s, I64 (v1), U64 s1])), .slice az n cz] w (Post w [] (fun v L => v = .bool true ∧ L = [])) := by
  refine enter (P := Tryd.prog) (f := 8) (fn := Tryd.f8) w [] 182 [] [.agg (cu8 ka ++ cu8 kb).toArray, .agg (List.toArray (α := Value) ([I64 (v0), U64 s, I64 (v1), U64 s1])), .slice az n cz] Tryd.func8 rfl rfl (by simp) (Hp.start (by simp) (by simp) (by simp)) ?_
  show JC _ _ _ [(0, .agg (cu8 ka ++ cu8 kb).toArray), (1, .agg (List.toArray (α := Value) ([I64 (v0), U64 s, I64 (v1), U64 s1]))), (2, .slice az n cz)] _
  refine JC_seq ?_
  refine JC_region ?_
  refine JL_step (Step_box (.agg (cu8 ka ++ cu8 kb).toArray) (cu8 ka ++ cu8 kb) rfl (by first | rfl | simp)) rfl ?_
  rintro v1 L1 ⟨nb1, hnb1, rfl, rfl⟩
  show JL _ _ _ _ ((3, Ptr nb1 0) :: _) [⟨nb1, cu8 ka ++ cu8 kb, 82, (0, 0)⟩]
  refine JL_step (Step_box (.agg (List.toArray (α := Value) ([I64 (v0), U64 s, I64 (v1), U64 s1]))) ([I64 (v0), U64 s, I64 (v1), U64 s1]) rfl (by first | rfl | simp)) rfl ?_
  rintro v1 L1 ⟨nb2, hnb2, rfl, rfl⟩
  show JL _ _ _ _ ((4, Ptr nb2 0) :: _) [⟨nb1, cu8 ka ++ cu8 kb, 82, (0, 0)⟩, ⟨nb2, [I64 (v0), U64 s, I64 (v1), U64 s1], 83, (0, 0)⟩]
  refine JL_val _ (Ev_assign rfl) rfl ?_
  refine JL_nil ?_
  refine JQ_then ?_
  refine JC_seq ?_
  refine JC_seq ?_
  refine JC_region ?_
  refine JL_step (Step_callP 26 [] (.bool true) (Cl_func [] Tryd.call26 rfl) (fun w1 hw1 => alive15_c  w1 (hG.at hw1))) rfl ?_
  rintro v1 L1 ⟨rfl, rfl⟩
  show JL _ _ _ _ ((13, .bool true) :: _) [⟨nb1, cu8 ka ++ cu8 kb, 82, (0, 0)⟩, ⟨nb2, [I64 (v0), U64 s, I64 (v1), U64 s1], 83, (0, 0)⟩]
  refine JL_val (.bool (!true)) (Ev_not rfl) rfl ?_
  refine JL_nil ?_
  refine JQ_then ?_
  refine JC_condF _ rfl rfl ?_
  refine JC_skip ?_
  refine JQ_then ?_
  refine JC_seq ?_
  refine JC_seq ?_
  refine JC_region ?_
  refine JL_val _ (Ev_move rfl) rfl ?_
  refine JL_val (I64 ((n:Int))) (Ev_len Tryd.underlying43 rfl) rfl ?_
  refine JL_val (.bool (decide ((3000:Int) < ((n:Int))))) (Ev_bini rfl rfl fun _ => bin_gtr_i _ _) rfl ?_
  refine JL_nil ?_
  refine JQ_then ?_
  refine JC_condF _ rfl (decide_eq_false (by omega)) ?_
  refine JC_skip ?_
  refine JQ_then ?_
  refine JC_seq ?_
  refine JC_region ?_
  refine JL_val (Ptr nb1 0) (Ev_indexArr 2 54 32 0 Tryd.underlying82 Tryd.sizeOf54 rfl rfl (by omega) (by omega) (by omega)) rfl ?_
  refine JL_val (.agg (cu8 ka).toArray) (Ev_load rfl (Ld_agg Tryd.isAgg54 Tryd.sizeOf54 (len_cu8 hka) (MemAt.ent 0 rfl (Seg.left (Seg.whole _))))) rfl ?_
  refine JL_val (Ptr nb2 0) (Ev_indexArr 2 56 2 0 Tryd.underlying83 Tryd.sizeOf56 rfl rfl (by omega) (by omega) (by omega)) rfl ?_
  refine JL_val (Ptr nb2 0) (Ev_fieldAddr 0 3 1 Tryd.underlying56 rfl Tryd.sizeOf3 rfl rfl) rfl ?_
  refine JL_val (I64 (v0)) (Ev_load rfl (Ld_one Tryd.isAgg3 (MemAt.ent 1 rfl (Seg.head)))) rfl ?_
  refine JL_val (Ptr nb2 0) (Ev_indexArr 2 56 2 0 Tryd.underlying83 Tryd.sizeOf56 rfl rfl (by omega) (by omega) (by omega)) rfl ?_
  refine JL_val (Ptr nb2 1) (Ev_fieldAddr 1 22 1 Tryd.underlying56 rfl Tryd.sizeOf22 rfl rfl) rfl ?_
  refine JL_val (U64 s) (Ev_load rfl (Ld_one Tryd.isAgg22 (MemAt.ent 1 rfl (Seg.tail (Seg.head))))) rfl ?_
  refine JL_val _ (Ev_move rfl) rfl ?_
  refine JL_step (Step_callP 27 [.agg (cu8 ka).toArray, I64 (v0), U64 s, .slice az n cz] (.tuple #[.slice none 0 0, .iface 50 (I64 (2:Int))]) (Cl_func [.agg (cu8 ka).toArray, I64 (v0), U64 s, .slice az n cz] Tryd.call27 rfl) (fun w1 hw1 => lsealW_c ka (v0) s az n cz z w1 hka hz hcb (by omega) (by omega) (hr.at (M' := []) hw1 (by simp)) hw)) rfl ?_
  rintro v1 L1 ⟨rfl, rfl⟩
  show JL _ _ _ _ ((28, .tuple #[.slice none 0 0, .iface 50 (I64 (2:Int))]) :: _) [⟨nb1, cu8 ka ++ cu8 kb, 82, (0, 0)⟩, ⟨nb2, [I64 (v0), U64 s, I64 (v1), U64 s1], 83, (0, 0)⟩]
  refine JL_val _ (Ev_move rfl) rfl ?_
  refine JL_val _ (Ev_extract rfl rfl) rfl ?_
  refine JL_val _ (Ev_extract rfl rfl) rfl ?_
  refine JL_val _ (Ev_assign rfl) rfl ?_
  refine JL_val _ (Ev_assign rfl) rfl ?_
  refine JL_nil ?_
  refine JQ_then ?_
  refine JC_seq ?_
  refine JC_seq ?_
  refine JC_region ?_
  refine JL_val _ (Ev_move rfl) rfl ?_
  refine JL_val (.bool true) (Ev_bin _ _ _ rfl rfl (fun _ => eqGuard_if ..) fun _ => neq_if_nil Tryd.underlying45) rfl ?_
  refine JL_nil ?_
  refine JQ_then ?_
  refine JC_condT _ rfl rfl ?_
  refine JC_seq ?_
  refine JC_region ?_
  refine JL_val _ (Ev_move rfl) rfl ?_
  refine JL_val (I64 (0:Int)) (Ev_len Tryd.underlying43 rfl) rfl ?_
  refine JL_val (.bool (decide ((0:Int) = (0:Int)))) (Ev_bini rfl rfl fun _ => bin_eql_i _ _) rfl ?_
  refine JL_val _ (Ev_assign rfl) rfl ?_
  refine JL_nil ?_
  refine JQ_then ?_
  refine JC_ret ?_
  refine JQ_then_ret ?_
  refine JQ_ret (.bool (decide ((0:Int) = (0:Int)))) (res1 Tryd.results8 (RV_tmp rfl)) fun w1 hw1 => ?_
  exact ⟨_, [], rfl, ⟨by rw [show (decide ((0:Int) = (0:Int))) = true from (by decide)], rfl⟩, hw1.sub (by simp) (by simp)⟩

theorem linkBackK_c (ka kb : List UInt8) (k : Nat) (s : UInt64) (v1 : Int) (s1 : UInt64) (az : Option Addr) (n cz : Nat) (z : List UInt8)  (w : World) (hka : ka.length = 32) (hkb : kb.length = 32) (hz : z.length = n) (hcb : az = none → cz = 0) (hnc : n ≤ cz) (hcm : cz ≤ maxLen) (hr : RdB w [] az z) (hG : GLs w) (hGr : GLr w) (hGi : GLi w) (hn : n ≤ 3000) (hw : k = 1 ∨ k = 2) (ho1 : openE kb v1 s1 (frmT ka k s z) = 0) : Calls Tryd.prog 8 #[.agg (cu8 ka ++ cu8 kb).toArray, .agg (List.toArray (α := Value) ([I64 ((k:Int)), U64 s, I64 (v1), U64 s1])), .slice az n cz] w (Post w [] (fun v L => v = .bool true ∧ L = [])) := by
  have hmx : maxLen = 9223372036854775807 := rfl
  have hkq := rem_lt (m := 8*n + 200) s1 (by omega) (by omega)
  refine enter (P := Tryd.prog) (f := 8) (fn := Tryd.f8) w [] 182 [] [.agg (cu8 ka ++ cu8 kb).toArray, .agg (List.toArray (α := Value) ([I64 ((k:Int)), U64 s, I64 (v1), U64 s1])), .slice az n cz] Tryd.func8 rfl rfl (by simp) (Hp.start (by simp) (by simp) (by simp)) ?_
  show JC _ _ _ [(0, .agg (cu8 ka ++ cu8 kb).toArray), (1, .agg (List.toArray (α := Value) ([I64 ((k:Int)), U64 s, I64 (v1), U64 s1]))), (2, .slice az n cz)] _
  refine JC_seq ?_
  refine JC_region ?_
  refine JL_step (Step_box (.agg (cu8 ka ++ cu8 kb).toArray) (cu8 ka ++ cu8 kb) rfl (by first | rfl | simp)) rfl ?_
  rintro v1 L1 ⟨nb1, hnb1, rfl, rfl⟩
  show JL _ _ _ _ ((3, Ptr nb1 0) :: _) [⟨nb1, cu8 ka ++ cu8 kb, 82, (0, 0)⟩]
  refine JL_step (Step_box (.agg (List.toArray (α := Value) ([I64 ((k:Int)), U64 s, I64 (v1), U64 s1]))) ([I64 ((k:Int)), U64 s, I64 (v1), U64 s1]) rfl (by first | rfl | simp)) rfl ?_
  rintro v1 L1 ⟨nb2, hnb2, rfl, rfl⟩
  show JL _ _ _ _ ((4, Ptr nb2 0) :: _) [⟨nb1, cu8 ka ++ cu8 kb, 82, (0, 0)⟩, ⟨nb2, [I64 ((k:Int)), U64 s, I64 (v1), U64 s1], 83, (0, 0)⟩]
  refine JL_val _ (Ev_assign rfl) rfl ?_
  refine JL_nil ?_
  refine JQ_then ?_
  refine JC_seq ?_
  refine JC_seq ?_
  refine JC_region ?_
  refine JL_step (Step_callP 26 [] (.bool true) (Cl_func [] Tryd.call26 rfl) (fun w1 hw1 => alive15_c  w1 (hG.at hw1))) rfl ?_
  rintro v1 L1 ⟨rfl, rfl⟩
  show JL _ _ _ _ ((13, .bool true) :: _) [⟨nb1, cu8 ka ++ cu8 kb, 82, (0, 0)⟩, ⟨nb2, [I64 ((k:Int)), U64 s, I64 (v1), U64 s1], 83, (0, 0)⟩]
  refine JL_val (.bool (!true)) (Ev_not rfl) rfl ?_
  refine JL_nil ?_
  refine JQ_then ?_
  refine JC_condF _ rfl rfl ?_
  refine JC_skip ?_
  refine JQ_then ?_
  refine JC_seq ?_
  refine JC_seq ?_
  refine JC_region ?_
  refine JL_val _ (Ev_move rfl) rfl ?_
  refine JL_val (I64 ((n:Int))) (Ev_len Tryd.underlying43 rfl) rfl ?_
  refine JL_val (.bool (decide ((3000:Int) < ((n:Int))))) (Ev_bini rfl rfl fun _ => bin_gtr_i _ _) rfl ?_
  refine JL_nil ?_
  refine JQ_then ?_
  refine JC_condF _ rfl (decide_eq_false (by omega)) ?_
  refine JC_skip ?_
  refine JQ_then ?_
  refine JC_seq ?_
  refine JC_region ?_
  refine JL_val (Ptr nb1 0) (Ev_indexArr 2 54 32 0 Tryd.underlying82 Tryd.sizeOf54 rfl rfl (by omega) (by omega) (by omega)) rfl ?_
  refine JL_val (.agg (cu8 ka).toArray) (Ev_load rfl (Ld_agg Tryd.isAgg54 Tryd.sizeOf54 (len_cu8 hka) (MemAt.ent 0 rfl (Seg.left (Seg.whole _))))) rfl ?_
  refine JL_val (Ptr nb2 0) (Ev_indexArr 2 56 2 0 Tryd.underlying83 Tryd.sizeOf56 rfl rfl (by omega) (by omega) (by omega)) rfl ?_
  refine JL_val (Ptr nb2 0) (Ev_fieldAddr 0 3 1 Tryd.underlying56 rfl Tryd.sizeOf3 rfl rfl) rfl ?_
  refine JL_val (I64 ((k:Int))) (Ev_load rfl (Ld_one Tryd.isAgg3 (MemAt.ent 1 rfl (Seg.head)))) rfl ?_
  refine JL_val (Ptr nb2 0) (Ev_indexArr 2 56 2 0 Tryd.underlying83 Tryd.sizeOf56 rfl rfl (by omega) (by omega) (by omega)) rfl ?_
  refine JL_val (Ptr nb2 1) (Ev_fieldAddr 1 22 1 Tryd.underlying56 rfl Tryd.sizeOf22 rfl rfl) rfl ?_
  refine JL_val (U64 s) (Ev_load rfl (Ld_one Tryd.isAgg22 (MemAt.ent 1 rfl (Seg.tail (Seg.head))))) rfl ?_
  refine JL_val _ (Ev_move rfl) rfl ?_
  refine JL_step (Step_callN 27 [.agg (cu8 ka).toArray, I64 ((k:Int)), U64 s, .slice az n cz] _ (Cl_func [.agg (cu8 ka).toArray, I64 ((k:Int)), U64 s, .slice az n cz] Tryd.call27 rfl) (fun w1 hw1 => lseal_c ka k s az n cz z (n + 25) w1 hka hz hcb (by omega) (by omega) (hr.at (M' := []) hw1 (by simp)) hw (by omega) (by omega) (hG.at hw1))) rfl ?_
  rintro v1 L1 ⟨_, ⟨nb3, sp1, cp1, rfl, rfl, hc1, hc2, hc3⟩, rfl⟩
  show JL _ _ _ _ ((28, .tuple #[Slc nb3 0 (n + 25) cp1, .nilIface]) :: _) [⟨nb1, cu8 ka ++ cu8 kb, 82, (0, 0)⟩, ⟨nb2, [I64 ((k:Int)), U64 s, I64 (v1), U64 s1], 83, (0, 0)⟩, ⟨nb3, cu8 (frmT ka k s z) ++ sp1, 5, (0, 0)⟩]
  refine JL_val _ (Ev_move rfl) rfl ?_
  refine JL_val _ (Ev_extract rfl rfl) rfl ?_
  refine JL_val _ (Ev_extract rfl rfl) rfl ?_
  refine JL_val _ (Ev_assign rfl) rfl ?_
  refine JL_val _ (Ev_assign rfl) rfl ?_
  refine JL_nil ?_
  refine JQ_then ?_
  refine JC_seq ?_
  refine JC_seq ?_
  refine JC_region ?_
  refine JL_val _ (Ev_move rfl) rfl ?_
  refine JL_val (.bool false) (Ev_bin _ _ _ rfl rfl (fun _ => eqGuard_nn ..) fun _ => neq_if_nil_nil Tryd.underlying45) rfl ?_
  refine JL_nil ?_
  refine JQ_then ?_
  refine JC_condF _ rfl rfl ?_
  refine JC_skip ?_
  refine JQ_then ?_
  refine JC_seq ?_
  refine JC_region ?_
  refine JL_val (Ptr nb1 0) (Ev_indexArr 2 54 32 0 Tryd.underlying82 Tryd.sizeOf54 rfl rfl (by omega) (by omega) (by omega)) rfl ?_
  refine JL_val (.agg (cu8 ka).toArray) (Ev_load rfl (Ld_agg Tryd.isAgg54 Tryd.sizeOf54 (len_cu8 hka) (MemAt.ent 0 rfl (Seg.left (Seg.whole _))))) rfl ?_
  refine JL_val (Ptr nb2 0) (Ev_indexArr 2 56 2 0 Tryd.underlying83 Tryd.sizeOf56 rfl rfl (by omega) (by omega) (by omega)) rfl ?_
  refine JL_val (Ptr nb2 0) (Ev_fieldAddr 0 3 1 Tryd.underlying56 rfl Tryd.sizeOf3 rfl rfl) rfl ?_
  refine JL_val (I64 ((k:Int))) (Ev_load rfl (Ld_one Tryd.isAgg3 (MemAt.ent 1 rfl (Seg.head)))) rfl ?_
  refine JL_val (Ptr nb2 0) (Ev_indexArr 2 56 2 0 Tryd.underlying83 Tryd.sizeOf56 rfl rfl (by omega) (by omega) (by omega)) rfl ?_
  refine JL_val (Ptr nb2 1) (Ev_fieldAddr 1 22 1 Tryd.underlying56 rfl Tryd.sizeOf22 rfl rfl) rfl ?_
  refine JL_val (U64 s) (Ev_load rfl (Ld_one Tryd.isAgg22 (MemAt.ent 1 rfl (Seg.tail (Seg.head))))) rfl ?_
  refine JL_val _ (Ev_move rfl) rfl ?_
  have hl1 : (mid ((frmT ka k s z).drop 9) 0 n).length = n := mid_len (by rw [List.length_drop, show (frmT ka k s z).length = (n + 25) from (show (frmT ka k s z).length = (n + 25) from (by rw [frmT_len hz] <;> omega))]; omega)
  refine JL_step (Step_callN 39 [.agg (cu8 ka).toArray, I64 ((k:Int)), U64 s, Slc nb3 0 (n + 25) cp1] _ (Cl_func [.agg (cu8 ka).toArray, I64 ((k:Int)), U64 s, Slc nb3 0 (n + 25) cp1] Tryd.call39 rfl) (fun w1 hw1 => lopenK_w ka ((k:Int)) s (some ⟨nb3, 0, none⟩) (n + 25) cp1 (frmT ka k s z) w1 hka (show (frmT ka k s z).length = (n + 25) from (by rw [frmT_len hz] <;> omega)) (fun h => by cases h) (by omega) (by omega) (RdB.of hw1 (MemAt.ent 2 rfl (Seg.left (Seg.whole _))) (by simp)) (hG.at hw1) (open_frm hw (by rw [hz]; omega)))) rfl ?_
  rintro v1 L1 ⟨_, ⟨nb4, sp2, cp2, rfl, rfl, hc4, hc5, hc6⟩, rfl⟩
  show JL _ _ _ _ ((46, .tuple #[Slc nb4 0 n cp2, .nilIface]) :: _) [⟨nb1, cu8 ka ++ cu8 kb, 82, (0, 0)⟩, ⟨nb2, [I64 ((k:Int)), U64 s, I64 (v1), U64 s1], 83, (0, 0)⟩, ⟨nb3, cu8 (frmT ka k s z) ++ sp1, 5, (0, 0)⟩, ⟨nb4, cu8 (mid ((frmT ka k s z).drop 9) 0 n) ++ sp2, 5, (0, 0)⟩]
  refine JL_val _ (Ev_move rfl) rfl ?_
  refine JL_val _ (Ev_extract rfl rfl) rfl ?_
  refine JL_val _ (Ev_extract rfl rfl) rfl ?_
  refine JL_val _ (Ev_assign rfl) rfl ?_
  refine JL_val _ (Ev_assign rfl) rfl ?_
  refine JL_nil ?_
  refine JQ_then ?_
  refine JC_seq ?_
  refine JC_seq ?_
  refine JC_region ?_
  refine JL_val _ (Ev_move rfl) rfl ?_
  refine JL_val (.bool false) (Ev_bin _ _ _ rfl rfl (fun _ => eqGuard_nn ..) fun _ => neq_if_nil_nil Tryd.underlying45) rfl ?_
  refine JL_val _ (Ev_move rfl) rfl ?_
  refine JL_gval 2 51 false _ _ rfl rfl rfl (Ev_move rfl) rfl ?_
  refine JL_gval 2 51 false _ _ rfl rfl rfl (Ev_move rfl) rfl ?_
  refine JL_gstep 2 51 false _ rfl rfl rfl (Step_callP 24 [Slc nb4 0 n cp2, .slice az n cz] (.bool (decide ((mid ((frmT ka k s z).drop 9) 0 n) = z))) (Cl_func [Slc nb4 0 n cp2, .slice az n cz] Tryd.call24 rfl) (fun w1 hw1 => bytes_c (some ⟨nb4, 0, none⟩) az n n cp2 cz (mid ((frmT ka k s z).drop 9) 0 n) z w1 hl1 hz (RdB.of hw1 (MemAt.ent 3 rfl (Seg.left (Seg.whole _))) (by simp)) (hr.at (M' := []) hw1 (by simp)))) rfl ?_
  rintro v1 L1 ⟨rfl, rfl⟩
  show JL _ _ _ _ ((54, .bool (decide ((mid ((frmT ka k s z).drop 9) 0 n) = z))) :: _) [⟨nb1, cu8 ka ++ cu8 kb, 82, (0, 0)⟩, ⟨nb2, [I64 ((k:Int)), U64 s, I64 (v1), U64 s1], 83, (0, 0)⟩, ⟨nb3, cu8 (frmT ka k s z) ++ sp1, 5, (0, 0)⟩, ⟨nb4, cu8 (mid ((frmT ka k s z).drop 9) 0 n) ++ sp2, 5, (0, 0)⟩]
  refine JL_gval 2 51 false _ (.bool (!(decide ((mid ((frmT ka k s z).drop 9) 0 n) = z)))) rfl rfl rfl (Ev_not rfl) rfl ?_
  refine JL_val _ (Ev_pickF _ rfl rfl rfl) rfl ?_
  refine JL_nil ?_
  refine JQ_then ?_
  refine JC_condF _ rfl (by rw [show (decide ((mid ((frmT ka k s z).drop 9) 0 n) = z)) = true from (decide_eq_true (body_frm hz))] <;> rfl) ?_
  refine JC_skip ?_
  refine JQ_then ?_
  refine JC_seq ?_
  refine JC_region ?_
  refine JL_val (Ptr nb1 32) (Ev_indexArr 2 54 32 32 Tryd.underlying82 Tryd.sizeOf54 rfl rfl (by omega) (by omega) (by omega)) rfl ?_
  refine JL_val (.agg (cu8 kb).toArray) (Ev_load rfl (Ld_agg Tryd.isAgg54 Tryd.sizeOf54 (len_cu8 hkb) (MemAt.ent 0 rfl (Seg.right 32 0 (by simp [hka]) rfl (Seg.whole _))))) rfl ?_
  refine JL_val (Ptr nb2 2) (Ev_indexArr 2 56 2 2 Tryd.underlying83 Tryd.sizeOf56 rfl rfl (by omega) (by omega) (by omega)) rfl ?_
  refine JL_val (Ptr nb2 2) (Ev_fieldAddr 0 3 1 Tryd.underlying56 rfl Tryd.sizeOf3 rfl rfl) rfl ?_
  refine JL_val (I64 (v1)) (Ev_load rfl (Ld_one Tryd.isAgg3 (MemAt.ent 1 rfl (Seg.tail (Seg.tail (Seg.head)))))) rfl ?_
  refine JL_val (Ptr nb2 2) (Ev_indexArr 2 56 2 2 Tryd.underlying83 Tryd.sizeOf56 rfl rfl (by omega) (by omega) (by omega)) rfl ?_
  refine JL_val (Ptr nb2 3) (Ev_fieldAddr 1 22 1 Tryd.underlying56 rfl Tryd.sizeOf22 rfl rfl) rfl ?_
  refine JL_val (U64 s1) (Ev_load rfl (Ld_one Tryd.isAgg22 (MemAt.ent 1 rfl (Seg.tail (Seg.tail (Seg.tail (Seg.head))))))) rfl ?_
  refine JL_val _ (Ev_move rfl) rfl ?_
  refine JL_step (Step_callP 40 [.agg (cu8 kb).toArray, I64 (v1), U64 s1, Slc nb3 0 (n + 25) cp1] (.tuple #[.slice (advA (some ⟨nb3, 0, none⟩) cp1 9) n (cp1 - 9), I64 (0:Int)]) (Cl_func [.agg (cu8 kb).toArray, I64 (v1), U64 s1, Slc nb3 0 (n + 25) cp1] Tryd.call40 rfl) (fun w1 hw1 => ropenK_w kb (v1) s1 (some ⟨nb3, 0, none⟩) (n + 25) cp1 (frmT ka k s z) w1 hkb (show (frmT ka k s z).length = (n + 25) from (by rw [frmT_len hz] <;> omega)) (fun h => by cases h) (by omega) (by omega) (RdB.of hw1 (MemAt.ent 2 rfl (Seg.left (Seg.whole _))) (by simp)) (GLr.at hw1 hGr) (GLi.at hw1 hGi) ho1)) rfl ?_
  rintro v1 L1 ⟨rfl, rfl⟩
  show JL _ _ _ _ ((67, .tuple #[.slice (advA (some ⟨nb3, 0, none⟩) cp1 9) n (cp1 - 9), I64 (0:Int)]) :: _) [⟨nb1, cu8 ka ++ cu8 kb, 82, (0, 0)⟩, ⟨nb2, [I64 ((k:Int)), U64 s, I64 (v1), U64 s1], 83, (0, 0)⟩, ⟨nb3, cu8 (frmT ka k s z) ++ sp1, 5, (0, 0)⟩, ⟨nb4, cu8 (mid ((frmT ka k s z).drop 9) 0 n) ++ sp2, 5, (0, 0)⟩]
  refine JL_val _ (Ev_move rfl) rfl ?_
  refine JL_val _ (Ev_extract rfl rfl) rfl ?_
  refine JL_val _ (Ev_extract rfl rfl) rfl ?_
  refine JL_val _ (Ev_assign rfl) rfl ?_
  refine JL_val _ (Ev_assign rfl) rfl ?_
  refine JL_nil ?_
  refine JQ_then ?_
  refine JC_seq ?_
  refine JC_region ?_
  refine JL_val (Ptr nb1 32) (Ev_indexArr 2 54 32 32 Tryd.underlying82 Tryd.sizeOf54 rfl rfl (by omega) (by omega) (by omega)) rfl ?_
  refine JL_val (.agg (cu8 kb).toArray) (Ev_load rfl (Ld_agg Tryd.isAgg54 Tryd.sizeOf54 (len_cu8 hkb) (MemAt.ent 0 rfl (Seg.right 32 0 (by simp [hka]) rfl (Seg.whole _))))) rfl ?_
  refine JL_val (Ptr nb2 2) (Ev_indexArr 2 56 2 2 Tryd.underlying83 Tryd.sizeOf56 rfl rfl (by omega) (by omega) (by omega)) rfl ?_
  refine JL_val (Ptr nb2 2) (Ev_fieldAddr 0 3 1 Tryd.underlying56 rfl Tryd.sizeOf3 rfl rfl) rfl ?_
  refine JL_val (I64 (v1)) (Ev_load rfl (Ld_one Tryd.isAgg3 (MemAt.ent 1 rfl (Seg.tail (Seg.tail (Seg.head)))))) rfl ?_
  refine JL_val (Ptr nb2 2) (Ev_indexArr 2 56 2 2 Tryd.underlying83 Tryd.sizeOf56 rfl rfl (by omega) (by omega) (by omega)) rfl ?_
  refine JL_val (Ptr nb2 3) (Ev_fieldAddr 1 22 1 Tryd.underlying56 rfl Tryd.sizeOf22 rfl rfl) rfl ?_
  refine JL_val (U64 s1) (Ev_load rfl (Ld_one Tryd.isAgg22 (MemAt.ent 1 rfl (Seg.tail (Seg.tail (Seg.tail (Seg.head))))))) rfl ?_
  refine JL_val _ (Ev_move rfl) rfl ?_
  have hl2 : (mid ((frmT ka k s z).drop 9) 0 n).length = n := mid_len (by rw [List.length_drop, show (frmT ka k s z).length = (n + 25) from (show (frmT ka k s z).length = (n + 25) from (by rw [frmT_len hz] <;> omega))]; omega)
  refine JL_step (Step_callN 39 [.agg (cu8 kb).toArray, I64 (v1), U64 s1, Slc nb3 0 (n + 25) cp1] _ (Cl_func [.agg (cu8 kb).toArray, I64 (v1), U64 s1, Slc nb3 0 (n + 25) cp1] Tryd.call39 rfl) (fun w1 hw1 => lopenK_w kb (v1) s1 (some ⟨nb3, 0, none⟩) (n + 25) cp1 (frmT ka k s z) w1 hkb (show (frmT ka k s z).length = (n + 25) from (by rw [frmT_len hz] <;> omega)) (fun h => by cases h) (by omega) (by omega) (RdB.of hw1 (MemAt.ent 2 rfl (Seg.left (Seg.whole _))) (by simp)) (hG.at hw1) ho1)) rfl ?_
  rintro v1 L1 ⟨_, ⟨nb5, sp3, cp3, rfl, rfl, hc7, hc8, hc9⟩, rfl⟩
  show JL _ _ _ _ ((80, .tuple #[Slc nb5 0 n cp3, .nilIface]) :: _) [⟨nb1, cu8 ka ++ cu8 kb, 82, (0, 0)⟩, ⟨nb2, [I64 ((k:Int)), U64 s, I64 (v1), U64 s1], 83, (0, 0)⟩, ⟨nb3, cu8 (frmT ka k s z) ++ sp1, 5, (0, 0)⟩, ⟨nb4, cu8 (mid ((frmT ka k s z).drop 9) 0 n) ++ sp2, 5, (0, 0)⟩, ⟨nb5, cu8 (mid ((frmT ka k s z).drop 9) 0 n) ++ sp3, 5, (0, 0)⟩]
  refine JL_val _ (Ev_move rfl) rfl ?_
  refine JL_val _ (Ev_extract rfl rfl) rfl ?_
  refine JL_val _ (Ev_extract rfl rfl) rfl ?_
  refine JL_val _ (Ev_assign rfl) rfl ?_
  refine JL_nil ?_
  refine JQ_then ?_
  refine JC_seq ?_
  refine JC_seq ?_
  refine JC_region ?_
  refine JL_val _ (Ev_move rfl) rfl ?_
  refine JL_step (Step_callP 29 [.nilIface] (I64 (0:Int)) (Cl_func [.nilIface] Tryd.call29 rfl) (fun w1 hw1 => errNo_c w1)) rfl ?_
  rintro v1 L1 ⟨rfl, rfl⟩
  show JL _ _ _ _ ((84, I64 (0:Int)) :: _) [⟨nb1, cu8 ka ++ cu8 kb, 82, (0, 0)⟩, ⟨nb2, [I64 ((k:Int)), U64 s, I64 (v1), U64 s1], 83, (0, 0)⟩, ⟨nb3, cu8 (frmT ka k s z) ++ sp1, 5, (0, 0)⟩, ⟨nb4, cu8 (mid ((frmT ka k s z).drop 9) 0 n) ++ sp2, 5, (0, 0)⟩, ⟨nb5, cu8 (mid ((frmT ka k s z).drop 9) 0 n) ++ sp3, 5, (0, 0)⟩]
  refine JL_val _ (Ev_move rfl) rfl ?_
  refine JL_val (.bool (decide ((0:Int) ≠ (0:Int)))) (Ev_bini rfl rfl fun _ => bin_neq_i _ _) rfl ?_
  refine JL_val _ (Ev_move rfl) rfl ?_
  refine JL_gval 4 87 false _ (Ptr nb2 0) rfl rfl (by decide) (Ev_indexArr 2 56 2 0 Tryd.underlying83 Tryd.sizeOf56 rfl rfl (by omega) (by omega) (by omega)) rfl ?_
  refine JL_gval 4 87 false _ (.agg (List.toArray (α := Value) ([I64 ((k:Int)), U64 s]))) rfl rfl (by decide) (Ev_load rfl (Ld_agg Tryd.isAgg56 Tryd.sizeOf56 rfl (MemAt.ent 1 rfl (Seg.split (p := []) (q := [I64 (v1), U64 s1]) (vs := [I64 ((k:Int)), U64 s]) (by first | rfl | (simp only [List.append_assoc, List.nil_append, List.append_nil, List.cons_append]; done)) rfl)))) rfl ?_
  refine JL_gval 4 87 false _ (Ptr nb2 2) rfl rfl (by decide) (Ev_indexArr 2 56 2 2 Tryd.underlying83 Tryd.sizeOf56 rfl rfl (by omega) (by omega) (by omega)) rfl ?_
  refine JL_gval 4 87 false _ (.agg (List.toArray (α := Value) ([I64 (v1), U64 s1]))) rfl rfl (by decide) (Ev_load rfl (Ld_agg Tryd.isAgg56 Tryd.sizeOf56 rfl (MemAt.ent 1 rfl (Seg.split (p := [I64 ((k:Int)), U64 s]) (q := []) (vs := [I64 (v1), U64 s1]) (by first | rfl | (simp only [List.append_assoc, List.nil_append, List.append_nil, List.cons_append]; done)) rfl)))) rfl ?_
  refine JL_gval 4 87 false _ (.bool (!(decide (((k:Int)) = (v1) ∧ s = s1)))) rfl rfl (by decide) (Ev_bin _ _ _ rfl rfl (fun _ => eqGuard_agg _ _ _ _ _ _ (by kernel_rfl)) (neq_struct (((k:Int)) = (v1) ∧ s = s1) (EqV.struct (d := 9999) (by kernel_rfl) (by kernel_rfl) (by kernel_rfl) (EqRs.cons 3 0 (I64 ((k:Int))) (I64 (v1)) _ _ _ (PartV.one Tryd.isAgg3 (Seg.head)) (PartV.one Tryd.isAgg3 (Seg.head)) (EqV.i64 (d := 9998) Tryd.underlying3 ((k:Int)) (v1)) (EqRs.last 22 1 (U64 s) (U64 s1) _ (PartV.one Tryd.isAgg22 (Seg.tail (Seg.head))) (PartV.one Tryd.isAgg22 (Seg.tail (Seg.head))) (EqV.u64 (d := 9998) Tryd.underlying22 s s1)))) (by first | rfl | (simp only [Bool.decide_and, Bool.and_assoc]; done) | (simp [Bool.and_assoc]; done)))) rfl ?_
  refine JL_gval 4 87 false _ _ rfl rfl (by decide) (Ev_move rfl) rfl ?_
  refine JL_gskip 10 93 true _ rfl rfl (by rw [show (decide (((k:Int)) = (v1) ∧ s = s1)) = true from (decide_eq_true (open_side hw ho1))] <;> rfl) rfl ?_
  refine JL_gskip 10 93 true _ rfl rfl (by rw [show (decide (((k:Int)) = (v1) ∧ s = s1)) = true from (decide_eq_true (open_side hw ho1))] <;> rfl) rfl ?_
  refine JL_gval 4 87 false _ _ rfl rfl (by decide) (Ev_pickF _ rfl (by rw [show (decide (((k:Int)) = (v1) ∧ s = s1)) = true from (decide_eq_true (open_side hw ho1))] <;> rfl) rfl) rfl ?_
  refine JL_val _ (Ev_pickF _ rfl (by decide) rfl) rfl ?_
  refine JL_val _ (Ev_move rfl) rfl ?_
  refine JL_gval 15 98 false _ (Ptr nb2 0) rfl rfl rfl (Ev_indexArr 2 56 2 0 Tryd.underlying83 Tryd.sizeOf56 rfl rfl (by omega) (by omega) (by omega)) rfl ?_
  refine JL_gval 15 98 false _ (.agg (List.toArray (α := Value) ([I64 ((k:Int)), U64 s]))) rfl rfl rfl (Ev_load rfl (Ld_agg Tryd.isAgg56 Tryd.sizeOf56 rfl (MemAt.ent 1 rfl (Seg.split (p := []) (q := [I64 (v1), U64 s1]) (vs := [I64 ((k:Int)), U64 s]) (by first | rfl | (simp only [List.append_assoc, List.nil_append, List.append_nil, List.cons_append]; done)) rfl)))) rfl ?_
  refine JL_gval 15 98 false _ (Ptr nb2 2) rfl rfl rfl (Ev_indexArr 2 56 2 2 Tryd.underlying83 Tryd.sizeOf56 rfl rfl (by omega) (by omega) (by omega)) rfl ?_
  refine JL_gval 15 98 false _ (.agg (List.toArray (α := Value) ([I64 (v1), U64 s1]))) rfl rfl rfl (Ev_load rfl (Ld_agg Tryd.isAgg56 Tryd.sizeOf56 rfl (MemAt.ent 1 rfl (Seg.split (p := [I64 ((k:Int)), U64 s]) (q := []) (vs := [I64 (v1), U64 s1]) (by first | rfl | (simp only [List.append_assoc, List.nil_append, List.append_nil, List.cons_append]; done)) rfl)))) rfl ?_
  refine JL_gval 15 98 false _ (.bool (decide (((k:Int)) = (v1) ∧ s = s1))) rfl rfl rfl (Ev_bin _ _ _ rfl rfl (fun _ => eqGuard_agg _ _ _ _ _ _ (by kernel_rfl)) (eql_struct (((k:Int)) = (v1) ∧ s = s1) (EqV.struct (d := 9999) (by kernel_rfl) (by kernel_rfl) (by kernel_rfl) (EqRs.cons 3 0 (I64 ((k:Int))) (I64 (v1)) _ _ _ (PartV.one Tryd.isAgg3 (Seg.head)) (PartV.one Tryd.isAgg3 (Seg.head)) (EqV.i64 (d := 9998) Tryd.underlying3 ((k:Int)) (v1)) (EqRs.last 22 1 (U64 s) (U64 s1) _ (PartV.one Tryd.isAgg22 (Seg.tail (Seg.head))) (PartV.one Tryd.isAgg22 (Seg.tail (Seg.head))) (EqV.u64 (d := 9998) Tryd.underlying22 s s1)))) (by first | rfl | (simp only [Bool.decide_and, Bool.and_assoc]; done) | (simp [Bool.and_assoc]; done)))) rfl ?_
  refine JL_gval 15 98 false _ _ rfl rfl rfl (Ev_move rfl) rfl ?_
  refine JL_gval 21 104 true _ (Ptr nb1 0) rfl rfl (decide_eq_true (open_side hw ho1)) (Ev_indexArr 2 54 32 0 Tryd.underlying82 Tryd.sizeOf54 rfl rfl (by omega) (by omega) (by omega)) rfl ?_
  refine JL_gval 21 104 true _ (.agg (cu8 ka).toArray) rfl rfl (decide_eq_true (open_side hw ho1)) (Ev_load rfl (Ld_agg Tryd.isAgg54 Tryd.sizeOf54 (len_cu8 hka) (MemAt.ent 0 rfl (Seg.left (Seg.whole _))))) rfl ?_
  refine JL_gval 21 104 true _ (Ptr nb1 32) rfl rfl (decide_eq_true (open_side hw ho1)) (Ev_indexArr 2 54 32 32 Tryd.underlying82 Tryd.sizeOf54 rfl rfl (by omega) (by omega) (by omega)) rfl ?_
  refine JL_gval 21 104 true _ (.agg (cu8 kb).toArray) rfl rfl (decide_eq_true (open_side hw ho1)) (Ev_load rfl (Ld_agg Tryd.isAgg54 Tryd.sizeOf54 (len_cu8 hkb) (MemAt.ent 0 rfl (Seg.right 32 0 (by simp [hka]) rfl (Seg.whole _))))) rfl ?_
  refine JL_gval 21 104 true _ (.bool (decide (ka = kb))) rfl rfl (decide_eq_true (open_side hw ho1)) (Ev_bin _ _ _ rfl rfl (fun _ => eqGuard_agg _ _ _ _ _ _ (by kernel_rfl)) fun _ => eql_arr8 Tryd.underlying54 Tryd.underlying5 Tryd.isAgg5 Tryd.cells5 Tryd.has5 (by simp [hka]) (by simp [hkb])) rfl ?_
  refine JL_gval 15 98 false _ _ rfl rfl rfl (Ev_pickT _ rfl (decide_eq_true (open_side hw ho1)) rfl) rfl ?_
  refine JL_gval 15 98 false _ _ rfl rfl rfl (Ev_move rfl) rfl ?_
  rcases Bool.eq_false_or_eq_true (decide (ka = kb)) with hb1 | hb1
  ·
    have hp1 : ka = kb := of_decide_eq_true hb1
    refine JL_gval 28 111 true _ _ rfl rfl hb1 (Ev_move rfl) rfl ?_
    refine JL_gval 28 111 true _ (.bool false) rfl rfl hb1 (Ev_bin _ _ _ rfl rfl (fun _ => eqGuard_nn ..) fun _ => neq_if_nil_nil Tryd.underlying45) rfl ?_
    refine JL_gval 15 98 false _ _ rfl rfl rfl (Ev_pickT _ rfl hb1 rfl) rfl ?_
    refine JL_val _ (Ev_pickF _ rfl rfl rfl) rfl ?_
    refine JL_nil ?_
    refine JQ_then ?_
    refine JC_condF _ rfl rfl ?_
    refine JC_skip ?_
    refine JQ_then ?_
    refine JC_seq ?_
    refine JC_region ?_
    refine JL_val (Ptr nb2 2) (Ev_indexArr 2 56 2 2 Tryd.underlying83 Tryd.sizeOf56 rfl rfl (by omega) (by omega) (by omega)) rfl ?_
    refine JL_val (Ptr nb2 3) (Ev_fieldAddr 1 22 1 Tryd.underlying56 rfl Tryd.sizeOf22 rfl rfl) rfl ?_
    refine JL_val (U64 s1) (Ev_load rfl (Ld_one Tryd.isAgg22 (MemAt.ent 1 rfl (Seg.tail (Seg.tail (Seg.tail (Seg.head))))))) rfl ?_
    refine JL_val _ (Ev_move rfl) rfl ?_
    refine JL_val (I64 ((n:Int) + 25)) (Ev_lenX Tryd.underlying43 rfl (by omega)) rfl ?_
    refine JL_val (I64 (8*(n:Int) + 200)) (Ev_bini rfl rfl fun _ => bin_mul_i _ _ (8*(n:Int) + 200) (by omega) (by omega)) rfl ?_
    refine JL_val (U64 (UInt64.ofNat (8*n + 200))) (Ev_conv _ _ rfl fun _ => conv_i64_u64 (by rw [Tryd.underlying3]; rfl) Tryd.underlying22 (8*n + 200) _ (by omega)) rfl ?_
    refine JL_val (U64 (s1 % (UInt64.ofNat (8*n + 200)))) (Ev_bini rfl rfl fun _ => bin_rem_u64 s1 (UInt64.ofNat (8*n + 200)) (ofN_ne (by omega) (by omega))) rfl ?_
    refine JL_val (I64 (((s1 % (UInt64.ofNat (8*n + 200))).toNat:Int))) (Ev_conv _ _ rfl fun _ => conv_u64_i64 (by rw [Tryd.underlying22]; rfl) Tryd.underlying3 (s1 % (UInt64.ofNat (8*n + 200))) _ rfl (by omega)) rfl ?_
    refine JL_val _ (Ev_assign rfl) rfl ?_
    refine JL_nil ?_
    refine JQ_then ?_
    refine JC_seq ?_
    obtain ⟨dq1, hdq1, hdq1a, hdq1b⟩ : ∃ q : Nat, q = ((s1 % (UInt64.ofNat (8*n + 200))).toNat) / 8 ∧ (q : Int) = (((s1 % (UInt64.ofNat (8*n + 200))).toNat:Int)) / 8 ∧ (q * 8 ≤ ((s1 % (UInt64.ofNat (8*n + 200))).toNat) ∧ ((s1 % (UInt64.ofNat (8*n + 200))).toNat) < q * 8 + 8) := ⟨_, rfl, by first | rfl | omega, by omega⟩
    obtain ⟨dq2, hdq2, hdq2a, hdq2b⟩ : ∃ q : Nat, q = ((s1 % (UInt64.ofNat (8*n + 200))).toNat) % 8 ∧ (q : Int) = (((s1 % (UInt64.ofNat (8*n + 200))).toNat:Int)) % 8 ∧ (q < 8) := ⟨_, rfl, by first | rfl | omega, by omega⟩
    refine JC_draw 182 2 [(0, Slc nb3 0 (n + 25) cp1), (1, I64 (((s1 % (UInt64.ofNat (8*n + 200))).toNat:Int))), (2, I64 ((dq1:Int))), (3, Ptr nb3 dq1), (4, U8 (g8 (frmT ka k s z) dq1)), (5, I64 (((s1 % (UInt64.ofNat (8*n + 200))).toNat:Int))), (6, I64 ((dq2:Int))), (7, U8 ((1:UInt8) <<< UInt8.ofNat dq2)), (8, U8 ((g8 (frmT ka k s z) dq1) ^^^ ((1:UInt8) <<< UInt8.ofNat dq2))), (9, Ptr nb3 dq1)] Tryd.mixed rfl (by decide +kernel) ?_
    have hl3 : ((frmT ka k s z).set dq1 ((g8 (frmT ka k s z) dq1) ^^^ ((1:UInt8) <<< UInt8.ofNat dq2))).length = (n + 25) := by first | (rw [List.length_set]; exact (show (frmT ka k s z).length = (n + 25) from (by rw [frmT_len hz] <;> omega))) | simp [(show (frmT ka k s z).length = (n + 25) from (by rw [frmT_len hz] <;> omega))]
    refine DP_one ⟨[], [0, 1, 2, 3, 4, 5, 6, 7, 8, 9], [], [0, 1, 2, 3, 4, 5, 6, 7, 8, 9], [10]⟩ 10 _ rfl rfl (by decide +kernel) rfl ⟨⟨_, rfl, Qok_val rfl (Ev_move rfl)⟩, ⟨_, rfl, Qok_val rfl (Ev_move rfl)⟩, ⟨_, rfl, Qok_val rfl (Ev_bini rfl rfl fun _ => bin_quo_i _ _ ((dq1:Int)) (by omega) (by omega) (by omega))⟩, ⟨_, rfl, Qok_val rfl (Ev_indexSl 5 1 dq1 Tryd.underlying43 Tryd.sizeOf5 rfl rfl (by omega) (by omega) (by omega))⟩, ⟨_, rfl, Qok_val rfl (Ev_load rfl (Ld_one Tryd.isAgg5 (MemAt.ent 2 rfl (Seg.left (Seg.get (g8_get (i := dq1) (by rw [(show (frmT ka k s z).length = (n + 25) from (by rw [frmT_len hz] <;> omega))]; omega)))))))⟩, ⟨_, rfl, Qok_val rfl (Ev_move rfl)⟩, ⟨_, rfl, Qok_val rfl (Ev_bini rfl rfl fun _ => bin_rem_i _ _ ((dq2:Int)) (by omega) (by omega) (by omega))⟩, ⟨_, rfl, Qok_val rfl (Ev_bini rfl rfl fun _ => bin_shl_u8 (1:UInt8) _ _ dq2 (by omega) (by omega))⟩, ⟨_, rfl, Qok_val rfl (Ev_bini rfl rfl fun _ => bin_xor_u8 (g8 (frmT ka k s z) dq1) ((1:UInt8) <<< UInt8.ofNat dq2))⟩, ⟨_, rfl, Qok_val rfl (Ev_indexSl 5 1 dq1 Tryd.underlying43 Tryd.sizeOf5 rfl rfl (by omega) (by omega) (by omega))⟩, trivial⟩ rfl (Cok_step rfl (Step_store 2 nb3 dq1 1 (cu8 (frmT ka k s z) ++ sp1) 5 (U8 ((g8 (frmT ka k s z) dq1) ^^^ ((1:UInt8) <<< UInt8.ofNat dq2))) ([U8 ((g8 (frmT ka k s z) dq1) ^^^ ((1:UInt8) <<< UInt8.ofNat dq2))]) (cu8 ((frmT ka k s z).set dq1 ((g8 (frmT ka k s z) dq1) ^^^ ((1:UInt8) <<< UInt8.ofNat dq2))) ++ sp1) rfl rfl rfl rfl Tryd.sizeOf5 rfl (by simp [Value.oneCell']) (by simp [(show (frmT ka k s z).length = (n + 25) from (by rw [frmT_len hz] <;> omega)), hc1]; try omega) (lay_left (p := cu8 (frmT ka k s z)) (vs := [U8 ((g8 (frmT ka k s z) dq1) ^^^ ((1:UInt8) <<< UInt8.ofNat dq2))]) (o := dq1) (by simp [(show (frmT ka k s z).length = (n + 25) from (by rw [frmT_len hz] <;> omega))]; omega) (lay8 _ _ _ (by rw [(show (frmT ka k s z).length = (n + 25) from (by rw [frmT_len hz] <;> omega))]; omega))))) ?_
    rintro v1 L1 ⟨rfl, rfl⟩
    refine ⟨[], ?_⟩
    show DP _ _ _ _ _ _ _ _ [⟨nb1, cu8 ka ++ cu8 kb, 82, (0, 0)⟩, ⟨nb2, [I64 ((k:Int)), U64 s, I64 (v1), U64 s1], 83, (0, 0)⟩, ⟨nb3, cu8 ((frmT ka k s z).set dq1 ((g8 (frmT ka k s z) dq1) ^^^ ((1:UInt8) <<< UInt8.ofNat dq2))) ++ sp1, 5, (0, 0)⟩, ⟨nb4, cu8 (mid ((frmT ka k s z).drop 9) 0 n) ++ sp2, 5, (0, 0)⟩, ⟨nb5, cu8 (mid ((frmT ka k s z).drop 9) 0 n) ++ sp3, 5, (0, 0)⟩]
    refine DP_end ⟨[10], [0, 1, 2, 3, 4, 5, 6, 7, 8, 9], [0, 1, 2, 3, 4, 5, 6, 7, 8, 9], [], []⟩ rfl rfl (by decide +kernel) rfl trivial ?_
    refine K_sub (F' := [(3, Ptr nb1 0), (4, Ptr nb2 0), (6, .bool false), (7, Slc nb3 0 (n + 25) cp1), (8, .nilIface), (11, I64 (0:Int)), (12, I64 (((s1 % (UInt64.ofNat (8*n + 200))).toNat:Int)))]) (Sub.cons (by kernel_rfl) (Sub.cons (by kernel_rfl) (Sub.cons (by kernel_rfl) (Sub.cons (by kernel_rfl) (Sub.cons (by kernel_rfl) (Sub.cons (by kernel_rfl) (Sub.cons (by kernel_rfl) (Sub.nil)))))))) ?_
    show JQ _ _ _ [(3, Ptr nb1 0), (4, Ptr nb2 0), (6, .bool false), (7, Slc nb3 0 (n + 25) cp1), (8, .nilIface), (11, I64 (0:Int)), (12, I64 (((s1 % (UInt64.ofNat (8*n + 200))).toNat:Int)))] _
    refine JQ_then ?_
    refine JC_seq ?_
    have hF : (frmT ka k s z).set dq1 ((g8 (frmT ka k s z) dq1) ^^^ ((1:UInt8) <<< UInt8.ofNat dq2)) = flipB (frmT ka k s z) dq1 dq2 := (flipB_def _ _ _).symm
    have hlF : (flipB (frmT ka k s z) dq1 dq2).length = n + 25 := by rw [← hF]; exact hl3
    rw [hF]
    clear hF
    show JC _ _ _ _ [⟨nb1, cu8 ka ++ cu8 kb, 82, (0, 0)⟩, ⟨nb2, [I64 ((k:Int)), U64 s, I64 (v1), U64 s1], 83, (0, 0)⟩, ⟨nb3, cu8 (flipB (frmT ka k s z) dq1 dq2) ++ sp1, 5, (0, 0)⟩, ⟨nb4, cu8 (mid ((frmT ka k s z).drop 9) 0 n) ++ sp2, 5, (0, 0)⟩, ⟨nb5, cu8 (mid ((frmT ka k s z).drop 9) 0 n) ++ sp3, 5, (0, 0)⟩]
    by_cases hfl : openE ka (k:Int) s (flipB (frmT ka k s z) dq1 dq2) = 0
    ·
      have hin := open_flip hw hz (q := dq1) (r := dq2) (by omega) (by omega) hfl
      refine JC_region ?_
      refine JL_val (Ptr nb1 0) (Ev_indexArr 2 54 32 0 Tryd.underlying82 Tryd.sizeOf54 rfl rfl (by omega) (by omega) (by omega)) rfl ?_
      refine JL_val (.agg (cu8 ka).toArray) (Ev_load rfl (Ld_agg Tryd.isAgg54 Tryd.sizeOf54 (len_cu8 hka) (MemAt.ent 0 rfl (Seg.left (Seg.whole _))))) rfl ?_
      refine JL_val (Ptr nb2 0) (Ev_indexArr 2 56 2 0 Tryd.underlying83 Tryd.sizeOf56 rfl rfl (by omega) (by omega) (by omega)) rfl ?_
      refine JL_val (Ptr nb2 0) (Ev_fieldAddr 0 3 1 Tryd.underlying56 rfl Tryd.sizeOf3 rfl rfl) rfl ?_
      refine JL_val (I64 ((k:Int))) (Ev_load rfl (Ld_one Tryd.isAgg3 (MemAt.ent 1 rfl (Seg.head)))) rfl ?_
      refine JL_val (Ptr nb2 0) (Ev_indexArr 2 56 2 0 Tryd.underlying83 Tryd.sizeOf56 rfl rfl (by omega) (by omega) (by omega)) rfl ?_
      refine JL_val (Ptr nb2 1) (Ev_fieldAddr 1 22 1 Tryd.underlying56 rfl Tryd.sizeOf22 rfl rfl) rfl ?_
      refine JL_val (U64 s) (Ev_load rfl (Ld_one Tryd.isAgg22 (MemAt.ent 1 rfl (Seg.tail (Seg.head))))) rfl ?_
      refine JL_val _ (Ev_move rfl) rfl ?_
      refine JL_step (Step_callP 40 [.agg (cu8 ka).toArray, I64 ((k:Int)), U64 s, Slc nb3 0 (n + 25) cp1] (.tuple #[.slice (advA (some ⟨nb3, 0, none⟩) cp1 9) n (cp1 - 9), I64 (0:Int)]) (Cl_func [.agg (cu8 ka).toArray, I64 ((k:Int)), U64 s, Slc nb3 0 (n + 25) cp1] Tryd.call40 rfl) (fun w1 hw1 => ropenK_w ka ((k:Int)) s (some ⟨nb3, 0, none⟩) (n + 25) cp1 (flipB (frmT ka k s z) dq1 dq2) w1 hka hlF (fun h => by cases h) (by omega) (by omega) (RdB.of hw1 (MemAt.ent 2 rfl (Seg.left (Seg.whole _))) (by simp)) (GLr.at hw1 hGr) (GLi.at hw1 hGi) hfl)) rfl ?_
      rintro v1 L1 ⟨rfl, rfl⟩
      show JL _ _ _ _ ((145, .tuple #[.slice (advA (some ⟨nb3, 0, none⟩) cp1 9) n (cp1 - 9), I64 (0:Int)]) :: _) [⟨nb1, cu8 ka ++ cu8 kb, 82, (0, 0)⟩, ⟨nb2, [I64 ((k:Int)), U64 s, I64 (v1), U64 s1], 83, (0, 0)⟩, ⟨nb3, cu8 (flipB (frmT ka k s z) dq1 dq2) ++ sp1, 5, (0, 0)⟩, ⟨nb4, cu8 (mid ((frmT ka k s z).drop 9) 0 n) ++ sp2, 5, (0, 0)⟩, ⟨nb5, cu8 (mid ((frmT ka k s z).drop 9) 0 n) ++ sp3, 5, (0, 0)⟩]
      refine JL_val _ (Ev_move rfl) rfl ?_
      refine JL_val _ (Ev_extract rfl rfl) rfl ?_
      refine JL_val _ (Ev_extract rfl rfl) rfl ?_
      refine JL_val _ (Ev_assign rfl) rfl ?_
      refine JL_nil ?_
      refine JQ_then ?_
      refine JC_seq ?_
      refine JC_region ?_
      refine JL_val (Ptr nb1 0) (Ev_indexArr 2 54 32 0 Tryd.underlying82 Tryd.sizeOf54 rfl rfl (by omega) (by omega) (by omega)) rfl ?_
      refine JL_val (.agg (cu8 ka).toArray) (Ev_load rfl (Ld_agg Tryd.isAgg54 Tryd.sizeOf54 (len_cu8 hka) (MemAt.ent 0 rfl (Seg.left (Seg.whole _))))) rfl ?_
      refine JL_val (Ptr nb2 0) (Ev_indexArr 2 56 2 0 Tryd.underlying83 Tryd.sizeOf56 rfl rfl (by omega) (by omega) (by omega)) rfl ?_
      refine JL_val (Ptr nb2 0) (Ev_fieldAddr 0 3 1 Tryd.underlying56 rfl Tryd.sizeOf3 rfl rfl) rfl ?_
      refine JL_val (I64 ((k:Int))) (Ev_load rfl (Ld_one Tryd.isAgg3 (MemAt.ent 1 rfl (Seg.head)))) rfl ?_
      refine JL_val (Ptr nb2 0) (Ev_indexArr 2 56 2 0 Tryd.underlying83 Tryd.sizeOf56 rfl rfl (by omega) (by omega) (by omega)) rfl ?_
      refine JL_val (Ptr nb2 1) (Ev_fieldAddr 1 22 1 Tryd.underlying56 rfl Tryd.sizeOf22 rfl rfl) rfl ?_
      refine JL_val (U64 s) (Ev_load rfl (Ld_one Tryd.isAgg22 (MemAt.ent 1 rfl (Seg.tail (Seg.head))))) rfl ?_
      refine JL_val _ (Ev_move rfl) rfl ?_
      have hl4 : (mid ((flipB (frmT ka k s z) dq1 dq2).drop 9) 0 n).length = n := mid_len (by rw [List.length_drop, show (flipB (frmT ka k s z) dq1 dq2).length = (n + 25) from hlF]; omega)
      refine JL_step (Step_callN 39 [.agg (cu8 ka).toArray, I64 ((k:Int)), U64 s, Slc nb3 0 (n + 25) cp1] _ (Cl_func [.agg (cu8 ka).toArray, I64 ((k:Int)), U64 s, Slc nb3 0 (n + 25) cp1] Tryd.call39 rfl) (fun w1 hw1 => lopenK_w ka ((k:Int)) s (some ⟨nb3, 0, none⟩) (n + 25) cp1 (flipB (frmT ka k s z) dq1 dq2) w1 hka hlF (fun h => by cases h) (by omega) (by omega) (RdB.of hw1 (MemAt.ent 2 rfl (Seg.left (Seg.whole _))) (by simp)) (hG.at hw1) hfl)) rfl ?_
      rintro v1 L1 ⟨_, ⟨nb6, sp4, cp4, rfl, rfl, hc10, hc11, hc12⟩, rfl⟩
      show JL _ _ _ _ ((158, .tuple #[Slc nb6 0 n cp4, .nilIface]) :: _) [⟨nb1, cu8 ka ++ cu8 kb, 82, (0, 0)⟩, ⟨nb2, [I64 ((k:Int)), U64 s, I64 (v1), U64 s1], 83, (0, 0)⟩, ⟨nb3, cu8 (flipB (frmT ka k s z) dq1 dq2) ++ sp1, 5, (0, 0)⟩, ⟨nb4, cu8 (mid ((frmT ka k s z).drop 9) 0 n) ++ sp2, 5, (0, 0)⟩, ⟨nb5, cu8 (mid ((frmT ka k s z).drop 9) 0 n) ++ sp3, 5, (0, 0)⟩, ⟨nb6, cu8 (mid ((flipB (frmT ka k s z) dq1 dq2).drop 9) 0 n) ++ sp4, 5, (0, 0)⟩]
      refine JL_val _ (Ev_move rfl) rfl ?_
      refine JL_val _ (Ev_extract rfl rfl) rfl ?_
      refine JL_val _ (Ev_extract rfl rfl) rfl ?_
      refine JL_val _ (Ev_assign rfl) rfl ?_
      refine JL_nil ?_
      refine JQ_then ?_
      refine JC_seq ?_
      refine JC_region ?_
      refine JL_val _ (Ev_move rfl) rfl ?_
      refine JL_step (Step_callP 29 [.nilIface] (I64 (0:Int)) (Cl_func [.nilIface] Tryd.call29 rfl) (fun w1 hw1 => errNo_c w1)) rfl ?_
      rintro v1 L1 ⟨rfl, rfl⟩
      show JL _ _ _ _ ((162, I64 (0:Int)) :: _) [⟨nb1, cu8 ka ++ cu8 kb, 82, (0, 0)⟩, ⟨nb2, [I64 ((k:Int)), U64 s, I64 (v1), U64 s1], 83, (0, 0)⟩, ⟨nb3, cu8 (flipB (frmT ka k s z) dq1 dq2) ++ sp1, 5, (0, 0)⟩, ⟨nb4, cu8 (mid ((frmT ka k s z).drop 9) 0 n) ++ sp2, 5, (0, 0)⟩, ⟨nb5, cu8 (mid ((frmT ka k s z).drop 9) 0 n) ++ sp3, 5, (0, 0)⟩, ⟨nb6, cu8 (mid ((flipB (frmT ka k s z) dq1 dq2).drop 9) 0 n) ++ sp4, 5, (0, 0)⟩]
      refine JL_val _ (Ev_move rfl) rfl ?_
      refine JL_val (.bool (decide ((0:Int) = (0:Int)))) (Ev_bini rfl rfl fun _ => bin_eql_i _ _) rfl ?_
      refine JL_val _ (Ev_move rfl) rfl ?_
      refine JL_gval 4 165 true _ _ rfl rfl (by decide) (Ev_move rfl) rfl ?_
      refine JL_gval 4 165 true _ (.bool false) rfl rfl (by decide) (Ev_bin _ _ _ rfl rfl (fun _ => eqGuard_nn ..) fun _ => neq_if_nil_nil Tryd.underlying45) rfl ?_
      refine JL_gval 4 165 true _ _ rfl rfl (by decide) (Ev_move rfl) rfl ?_
      refine JL_gval 7 168 false _ _ rfl rfl rfl (Ev_move rfl) rfl ?_
      refine JL_gval 7 168 false _ (I64 ((dq1:Int))) rfl rfl rfl (Ev_bini rfl rfl fun _ => bin_quo_i _ _ ((dq1:Int)) (by omega) (by omega) (by omega)) rfl ?_
      refine JL_gval 7 168 false _ (.bool (decide ((9:Int) ≤ ((dq1:Int))))) rfl rfl rfl (Ev_bini rfl rfl fun _ => bin_geq_i _ _) rfl ?_
      refine JL_gval 7 168 false _ _ rfl rfl rfl (Ev_move rfl) rfl ?_
      refine JL_gval 11 172 true _ _ rfl rfl (decide_eq_true (by omega)) (Ev_move rfl) rfl ?_
      refine JL_gval 11 172 true _ (I64 ((dq1:Int))) rfl rfl (decide_eq_true (by omega)) (Ev_bini rfl rfl fun _ => bin_quo_i _ _ ((dq1:Int)) (by omega) (by omega) (by omega)) rfl ?_
      refine JL_gval 11 172 true _ _ rfl rfl (decide_eq_true (by omega)) (Ev_move rfl) rfl ?_
      refine JL_gval 11 172 true _ (I64 ((n:Int) + 25)) rfl rfl (decide_eq_true (by omega)) (Ev_lenX Tryd.underlying43 rfl (by omega)) rfl ?_
      refine JL_gval 11 172 true _ (I64 ((n:Int) + 9)) rfl rfl (decide_eq_true (by omega)) (Ev_bini rfl rfl fun _ => bin_sub_i _ _ ((n:Int) + 9) (by omega) (by omega)) rfl ?_
      refine JL_gval 11 172 true _ (.bool (decide (((dq1:Int)) < ((n:Int) + 9)))) rfl rfl (decide_eq_true (by omega)) (Ev_bini rfl rfl fun _ => bin_lss_i _ _) rfl ?_
      refine JL_gval 7 168 false _ _ rfl rfl rfl (Ev_pickT _ rfl (decide_eq_true (by omega)) rfl) rfl ?_
      refine JL_gval 4 165 true _ _ rfl rfl (by decide) (Ev_pickF _ rfl rfl rfl) rfl ?_
      refine JL_val _ (Ev_pickT _ rfl (by decide) rfl) rfl ?_
      refine JL_val _ (Ev_assign rfl) rfl ?_
      refine JL_nil ?_
      refine JQ_then ?_
      refine JC_ret ?_
      refine JQ_ret (.bool (decide (((dq1:Int)) < ((n:Int) + 9)))) (res1 Tryd.results8 (RV_tmp rfl)) fun w1 hw1 => ?_
      exact ⟨_, [], rfl, ⟨by rw [show (decide (((dq1:Int)) < ((n:Int) + 9))) = true from (decide_eq_true (by omega))], rfl⟩, hw1.sub (by simp) (by simp)⟩
    ·
      refine JC_region ?_
      refine JL_val (Ptr nb1 0) (Ev_indexArr 2 54 32 0 Tryd.underlying82 Tryd.sizeOf54 rfl rfl (by omega) (by omega) (by omega)) rfl ?_
      refine JL_val (.agg (cu8 ka).toArray) (Ev_load rfl (Ld_agg Tryd.isAgg54 Tryd.sizeOf54 (len_cu8 hka) (MemAt.ent 0 rfl (Seg.left (Seg.whole _))))) rfl ?_
      refine JL_val (Ptr nb2 0) (Ev_indexArr 2 56 2 0 Tryd.underlying83 Tryd.sizeOf56 rfl rfl (by omega) (by omega) (by omega)) rfl ?_
      refine JL_val (Ptr nb2 0) (Ev_fieldAddr 0 3 1 Tryd.underlying56 rfl Tryd.sizeOf3 rfl rfl) rfl ?_
      refine JL_val (I64 ((k:Int))) (Ev_load rfl (Ld_one Tryd.isAgg3 (MemAt.ent 1 rfl (Seg.head)))) rfl ?_
      refine JL_val (Ptr nb2 0) (Ev_indexArr 2 56 2 0 Tryd.underlying83 Tryd.sizeOf56 rfl rfl (by omega) (by omega) (by omega)) rfl ?_
      refine JL_val (Ptr nb2 1) (Ev_fieldAddr 1 22 1 Tryd.underlying56 rfl Tryd.sizeOf22 rfl rfl) rfl ?_
      refine JL_val (U64 s) (Ev_load rfl (Ld_one Tryd.isAgg22 (MemAt.ent 1 rfl (Seg.tail (Seg.head))))) rfl ?_
      refine JL_val _ (Ev_move rfl) rfl ?_
      refine JL_step (Step_callP 40 [.agg (cu8 ka).toArray, I64 ((k:Int)), U64 s, Slc nb3 0 (n + 25) cp1] (.tuple #[.slice none 0 0, I64 ((openE ka ((k:Int)) s (flipB (frmT ka k s z) dq1 dq2):Int))]) (Cl_func [.agg (cu8 ka).toArray, I64 ((k:Int)), U64 s, Slc nb3 0 (n + 25) cp1] Tryd.call40 rfl) (fun w1 hw1 => ropenB_w ka ((k:Int)) s (some ⟨nb3, 0, none⟩) (n + 25) cp1 (flipB (frmT ka k s z) dq1 dq2) w1 hka hlF (fun h => by cases h) (by omega) (by omega) (RdB.of hw1 (MemAt.ent 2 rfl (Seg.left (Seg.whole _))) (by simp)) (GLr.at hw1 hGr) (GLi.at hw1 hGi) hfl)) rfl ?_
      rintro v1 L1 ⟨rfl, rfl⟩
      show JL _ _ _ _ ((145, .tuple #[.slice none 0 0, I64 ((openE ka ((k:Int)) s (flipB (frmT ka k s z) dq1 dq2):Int))]) :: _) [⟨nb1, cu8 ka ++ cu8 kb, 82, (0, 0)⟩, ⟨nb2, [I64 ((k:Int)), U64 s, I64 (v1), U64 s1], 83, (0, 0)⟩, ⟨nb3, cu8 (flipB (frmT ka k s z) dq1 dq2) ++ sp1, 5, (0, 0)⟩, ⟨nb4, cu8 (mid ((frmT ka k s z).drop 9) 0 n) ++ sp2, 5, (0, 0)⟩, ⟨nb5, cu8 (mid ((frmT ka k s z).drop 9) 0 n) ++ sp3, 5, (0, 0)⟩]
      refine JL_val _ (Ev_move rfl) rfl ?_
      refine JL_val _ (Ev_extract rfl rfl) rfl ?_
      refine JL_val _ (Ev_extract rfl rfl) rfl ?_
      refine JL_val _ (Ev_assign rfl) rfl ?_
      refine JL_nil ?_
      refine JQ_then ?_
      refine JC_seq ?_
      refine JC_region ?_
      refine JL_val (Ptr nb1 0) (Ev_indexArr 2 54 32 0 Tryd.underlying82 Tryd.sizeOf54 rfl rfl (by omega) (by omega) (by omega)) rfl ?_
      refine JL_val (.agg (cu8 ka).toArray) (Ev_load rfl (Ld_agg Tryd.isAgg54 Tryd.sizeOf54 (len_cu8 hka) (MemAt.ent 0 rfl (Seg.left (Seg.whole _))))) rfl ?_
      refine JL_val (Ptr nb2 0) (Ev_indexArr 2 56 2 0 Tryd.underlying83 Tryd.sizeOf56 rfl rfl (by omega) (by omega) (by omega)) rfl ?_
      refine JL_val (Ptr nb2 0) (Ev_fieldAddr 0 3 1 Tryd.underlying56 rfl Tryd.sizeOf3 rfl rfl) rfl ?_
      refine JL_val (I64 ((k:Int))) (Ev_load rfl (Ld_one Tryd.isAgg3 (MemAt.ent 1 rfl (Seg.head)))) rfl ?_
      refine JL_val (Ptr nb2 0) (Ev_indexArr 2 56 2 0 Tryd.underlying83 Tryd.sizeOf56 rfl rfl (by omega) (by omega) (by omega)) rfl ?_
      refine JL_val (Ptr nb2 1) (Ev_fieldAddr 1 22 1 Tryd.underlying56 rfl Tryd.sizeOf22 rfl rfl) rfl ?_
      refine JL_val (U64 s) (Ev_load rfl (Ld_one Tryd.isAgg22 (MemAt.ent 1 rfl (Seg.tail (Seg.head))))) rfl ?_
      refine JL_val _ (Ev_move rfl) rfl ?_
      refine JL_step (Step_callP 39 [.agg (cu8 ka).toArray, I64 ((k:Int)), U64 s, Slc nb3 0 (n + 25) cp1] (.tuple #[.slice none 0 0, errV 50 (openE ka ((k:Int)) s (flipB (frmT ka k s z) dq1 dq2))]) (Cl_func [.agg (cu8 ka).toArray, I64 ((k:Int)), U64 s, Slc nb3 0 (n + 25) cp1] Tryd.call39 rfl) (fun w1 hw1 => lopenB_w ka ((k:Int)) s (some ⟨nb3, 0, none⟩) (n + 25) cp1 (flipB (frmT ka k s z) dq1 dq2) w1 hka hlF (fun h => by cases h) (by omega) (by omega) (RdB.of hw1 (MemAt.ent 2 rfl (Seg.left (Seg.whole _))) (by simp)) (hG.at hw1) hfl)) rfl ?_
      rintro v1 L1 ⟨rfl, rfl⟩
      show JL _ _ _ _ ((158, .tuple #[.slice none 0 0, errV 50 (openE ka ((k:Int)) s (flipB (frmT ka k s z) dq1 dq2))]) :: _) [⟨nb1, cu8 ka ++ cu8 kb, 82, (0, 0)⟩, ⟨nb2, [I64 ((k:Int)), U64 s, I64 (v1), U64 s1], 83, (0, 0)⟩, ⟨nb3, cu8 (flipB (frmT ka k s z) dq1 dq2) ++ sp1, 5, (0, 0)⟩, ⟨nb4, cu8 (mid ((frmT ka k s z).drop 9) 0 n) ++ sp2, 5, (0, 0)⟩, ⟨nb5, cu8 (mid ((frmT ka k s z).drop 9) 0 n) ++ sp3, 5, (0, 0)⟩]
      refine JL_val _ (Ev_move rfl) rfl ?_
      refine JL_val _ (Ev_extract rfl rfl) rfl ?_
      refine JL_val _ (Ev_extract rfl rfl) rfl ?_
      refine JL_val _ (Ev_assign rfl) rfl ?_
      refine JL_nil ?_
      refine JQ_then ?_
      refine JC_seq ?_
      refine JC_region ?_
      refine JL_val _ (Ev_move rfl) rfl ?_
      refine JL_step (Step_callP 29 [errV 50 (openE ka ((k:Int)) s (flipB (frmT ka k s z) dq1 dq2))] (I64 ((openE ka ((k:Int)) s (flipB (frmT ka k s z) dq1 dq2):Int))) (Cl_func [errV 50 (openE ka ((k:Int)) s (flipB (frmT ka k s z) dq1 dq2))] Tryd.call29 rfl) (fun w1 hw1 => errNum_w (openE ka ((k:Int)) s (flipB (frmT ka k s z) dq1 dq2)) w1)) rfl ?_
      rintro v1 L1 ⟨rfl, rfl⟩
      show JL _ _ _ _ ((162, I64 ((openE ka ((k:Int)) s (flipB (frmT ka k s z) dq1 dq2):Int))) :: _) [⟨nb1, cu8 ka ++ cu8 kb, 82, (0, 0)⟩, ⟨nb2, [I64 ((k:Int)), U64 s, I64 (v1), U64 s1], 83, (0, 0)⟩, ⟨nb3, cu8 (flipB (frmT ka k s z) dq1 dq2) ++ sp1, 5, (0, 0)⟩, ⟨nb4, cu8 (mid ((frmT ka k s z).drop 9) 0 n) ++ sp2, 5, (0, 0)⟩, ⟨nb5, cu8 (mid ((frmT ka k s z).drop 9) 0 n) ++ sp3, 5, (0, 0)⟩]
      refine JL_val _ (Ev_move rfl) rfl ?_
      refine JL_val (.bool (decide (((openE ka ((k:Int)) s (flipB (frmT ka k s z) dq1 dq2):Int)) = ((openE ka ((k:Int)) s (flipB (frmT ka k s z) dq1 dq2):Int))))) (Ev_bini rfl rfl fun _ => bin_eql_i _ _) rfl ?_
      refine JL_val _ (Ev_move rfl) rfl ?_
      refine JL_gval 4 165 true _ _ rfl rfl (by simp) (Ev_move rfl) rfl ?_
      refine JL_gval 4 165 true _ (.bool (!(decide (openE ka ((k:Int)) s (flipB (frmT ka k s z) dq1 dq2) = 0)))) rfl rfl (by simp) (Ev_bin _ _ _ rfl rfl (fun _ => eqGuard_errV ..) fun _ => neq_errV Tryd.underlying45 _ _) rfl ?_
      refine JL_gval 4 165 true _ _ rfl rfl (by simp) (Ev_move rfl) rfl ?_
      refine JL_gskip 7 168 false _ rfl rfl (by rw [show (decide (openE ka ((k:Int)) s (flipB (frmT ka k s z) dq1 dq2) = 0)) = false from (decide_eq_false hfl)] <;> rfl) rfl ?_
      refine JL_gskip 7 168 false _ rfl rfl (by rw [show (decide (openE ka ((k:Int)) s (flipB (frmT ka k s z) dq1 dq2) = 0)) = false from (decide_eq_false hfl)] <;> rfl) rfl ?_
      refine JL_gskip 7 168 false _ rfl rfl (by rw [show (decide (openE ka ((k:Int)) s (flipB (frmT ka k s z) dq1 dq2) = 0)) = false from (decide_eq_false hfl)] <;> rfl) rfl ?_
      refine JL_gskip 7 168 false _ rfl rfl (by rw [show (decide (openE ka ((k:Int)) s (flipB (frmT ka k s z) dq1 dq2) = 0)) = false from (decide_eq_false hfl)] <;> rfl) rfl ?_
      refine JL_gskipU 11 172 true rfl rfl rfl ?_
      refine JL_gskipU 11 172 true rfl rfl rfl ?_
      refine JL_gskipU 11 172 true rfl rfl rfl ?_
      refine JL_gskipU 11 172 true rfl rfl rfl ?_
      refine JL_gskipU 11 172 true rfl rfl rfl ?_
      refine JL_gskipU 11 172 true rfl rfl rfl ?_
      refine JL_gskip 7 168 false _ rfl rfl (by rw [show (decide (openE ka ((k:Int)) s (flipB (frmT ka k s z) dq1 dq2) = 0)) = false from (decide_eq_false hfl)] <;> rfl) rfl ?_
      refine JL_gval 4 165 true _ _ rfl rfl (by simp) (Ev_pickT _ rfl (by rw [show (decide (openE ka ((k:Int)) s (flipB (frmT ka k s z) dq1 dq2) = 0)) = false from (decide_eq_false hfl)] <;> rfl) rfl) rfl ?_
      refine JL_val _ (Ev_pickT _ rfl (by simp) rfl) rfl ?_
      refine JL_val _ (Ev_assign rfl) rfl ?_
      refine JL_nil ?_
      refine JQ_then ?_
      refine JC_ret ?_
      refine JQ_ret (.bool true) (res1 Tryd.results8 (RV_tmp rfl)) fun w1 hw1 => ?_
      exact ⟨_, [], rfl, ⟨by rw [show (true) = true from rfl], rfl⟩, hw1.sub (by simp) (by simp)⟩
  ·
    have hp1 : ¬ (ka = kb) := of_decide_eq_false hb1
    refine JL_gskip 28 111 true _ rfl rfl hb1 rfl ?_
    refine JL_gskip 28 111 true _ rfl rfl hb1 rfl ?_
    refine JL_gval 15 98 false _ _ rfl rfl rfl (Ev_pickF _ rfl hb1 rfl) rfl ?_
    refine JL_val _ (Ev_pickF _ rfl rfl rfl) rfl ?_
    refine JL_nil ?_
    refine JQ_then ?_
    refine JC_condF _ rfl rfl ?_
    refine JC_skip ?_
    refine JQ_then ?_
    refine JC_seq ?_
    refine JC_region ?_
    refine JL_val (Ptr nb2 2) (Ev_indexArr 2 56 2 2 Tryd.underlying83 Tryd.sizeOf56 rfl rfl (by omega) (by omega) (by omega)) rfl ?_
    refine JL_val (Ptr nb2 3) (Ev_fieldAddr 1 22 1 Tryd.underlying56 rfl Tryd.sizeOf22 rfl rfl) rfl ?_
    refine JL_val (U64 s1) (Ev_load rfl (Ld_one Tryd.isAgg22 (MemAt.ent 1 rfl (Seg.tail (Seg.tail (Seg.tail (Seg.head))))))) rfl ?_
    refine JL_val _ (Ev_move rfl) rfl ?_
    refine JL_val (I64 ((n:Int) + 25)) (Ev_lenX Tryd.underlying43 rfl (by omega)) rfl ?_
    refine JL_val (I64 (8*(n:Int) + 200)) (Ev_bini rfl rfl fun _ => bin_mul_i _ _ (8*(n:Int) + 200) (by omega) (by omega)) rfl ?_
    refine JL_val (U64 (UInt64.ofNat (8*n + 200))) (Ev_conv _ _ rfl fun _ => conv_i64_u64 (by rw [Tryd.underlying3]; rfl) Tryd.underlying22 (8*n + 200) _ (by omega)) rfl ?_
    refine JL_val (U64 (s1 % (UInt64.ofNat (8*n + 200)))) (Ev_bini rfl rfl fun _ => bin_rem_u64 s1 (UInt64.ofNat (8*n + 200)) (ofN_ne (by omega) (by omega))) rfl ?_
    refine JL_val (I64 (((s1 % (UInt64.ofNat (8*n + 200))).toNat:Int))) (Ev_conv _ _ rfl fun _ => conv_u64_i64 (by rw [Tryd.underlying22]; rfl) Tryd.underlying3 (s1 % (UInt64.ofNat (8*n + 200))) _ rfl (by omega)) rfl ?_
    refine JL_val _ (Ev_assign rfl) rfl ?_
    refine JL_nil ?_
    refine JQ_then ?_
    refine JC_seq ?_
    obtain ⟨dq3, hdq3, hdq3a, hdq3b⟩ : ∃ q : Nat, q = ((s1 % (UInt64.ofNat (8*n + 200))).toNat) / 8 ∧ (q : Int) = (((s1 % (UInt64.ofNat (8*n + 200))).toNat:Int)) / 8 ∧ (q * 8 ≤ ((s1 % (UInt64.ofNat (8*n + 200))).toNat) ∧ ((s1 % (UInt64.ofNat (8*n + 200))).toNat) < q * 8 + 8) := ⟨_, rfl, by first | rfl | omega, by omega⟩
    obtain ⟨dq4, hdq4, hdq4a, hdq4b⟩ : ∃ q : Nat, q = ((s1 % (UInt64.ofNat (8*n + 200))).toNat) % 8 ∧ (q : Int) = (((s1 % (UInt64.ofNat (8*n + 200))).toNat:Int)) % 8 ∧ (q < 8) := ⟨_, rfl, by first | rfl | omega, by omega⟩
    refine JC_draw 182 2 [(0, Slc nb3 0 (n + 25) cp1), (1, I64 (((s1 % (UInt64.ofNat (8*n + 200))).toNat:Int))), (2, I64 ((dq3:Int))), (3, Ptr nb3 dq3), (4, U8 (g8 (frmT ka k s z) dq3)), (5, I64 (((s1 % (UInt64.ofNat (8*n + 200))).toNat:Int))), (6, I64 ((dq4:Int))), (7, U8 ((1:UInt8) <<< UInt8.ofNat dq4)), (8, U8 ((g8 (frmT ka k s z) dq3) ^^^ ((1:UInt8) <<< UInt8.ofNat dq4))), (9, Ptr nb3 dq3)] Tryd.mixed rfl (by decide +kernel) ?_
    have hl5 : ((frmT ka k s z).set dq3 ((g8 (frmT ka k s z) dq3) ^^^ ((1:UInt8) <<< UInt8.ofNat dq4))).length = (n + 25) := by first | (rw [List.length_set]; exact (show (frmT ka k s z).length = (n + 25) from (by rw [frmT_len hz] <;> omega))) | simp [(show (frmT ka k s z).length = (n + 25) from (by rw [frmT_len hz] <;> omega))]
    refine DP_one ⟨[], [0, 1, 2, 3, 4, 5, 6, 7, 8, 9], [], [0, 1, 2, 3, 4, 5, 6, 7, 8, 9], [10]⟩ 10 _ rfl rfl (by decide +kernel) rfl ⟨⟨_, rfl, Qok_val rfl (Ev_move rfl)⟩, ⟨_, rfl, Qok_val rfl (Ev_move rfl)⟩, ⟨_, rfl, Qok_val rfl (Ev_bini rfl rfl fun _ => bin_quo_i _ _ ((dq3:Int)) (by omega) (by omega) (by omega))⟩, ⟨_, rfl, Qok_val rfl (Ev_indexSl 5 1 dq3 Tryd.underlying43 Tryd.sizeOf5 rfl rfl (by omega) (by omega) (by omega))⟩, ⟨_, rfl, Qok_val rfl (Ev_load rfl (Ld_one Tryd.isAgg5 (MemAt.ent 2 rfl (Seg.left (Seg.get (g8_get (i := dq3) (by rw [(show (frmT ka k s z).length = (n + 25) from (by rw [frmT_len hz] <;> omega))]; omega)))))))⟩, ⟨_, rfl, Qok_val rfl (Ev_move rfl)⟩, ⟨_, rfl, Qok_val rfl (Ev_bini rfl rfl fun _ => bin_rem_i _ _ ((dq4:Int)) (by omega) (by omega) (by omega))⟩, ⟨_, rfl, Qok_val rfl (Ev_bini rfl rfl fun _ => bin_shl_u8 (1:UInt8) _ _ dq4 (by omega) (by omega))⟩, ⟨_, rfl, Qok_val rfl (Ev_bini rfl rfl fun _ => bin_xor_u8 (g8 (frmT ka k s z) dq3) ((1:UInt8) <<< UInt8.ofNat dq4))⟩, ⟨_, rfl, Qok_val rfl (Ev_indexSl 5 1 dq3 Tryd.underlying43 Tryd.sizeOf5 rfl rfl (by omega) (by omega) (by omega))⟩, trivial⟩ rfl (Cok_step rfl (Step_store 2 nb3 dq3 1 (cu8 (frmT ka k s z) ++ sp1) 5 (U8 ((g8 (frmT ka k s z) dq3) ^^^ ((1:UInt8) <<< UInt8.ofNat dq4))) ([U8 ((g8 (frmT ka k s z) dq3) ^^^ ((1:UInt8) <<< UInt8.ofNat dq4))]) (cu8 ((frmT ka k s z).set dq3 ((g8 (frmT ka k s z) dq3) ^^^ ((1:UInt8) <<< UInt8.ofNat dq4))) ++ sp1) rfl rfl rfl rfl Tryd.sizeOf5 rfl (by simp [Value.oneCell']) (by simp [(show (frmT ka k s z).length = (n + 25) from (by rw [frmT_len hz] <;> omega)), hc1]; try omega) (lay_left (p := cu8 (frmT ka k s z)) (vs := [U8 ((g8 (frmT ka k s z) dq3) ^^^ ((1:UInt8) <<< UInt8.ofNat dq4))]) (o := dq3) (by simp [(show (frmT ka k s z).length = (n + 25) from (by rw [frmT_len hz] <;> omega))]; omega) (lay8 _ _ _ (by rw [(show (frmT ka k s z).length = (n + 25) from (by rw [frmT_len hz] <;> omega))]; omega))))) ?_
    rintro v1 L1 ⟨rfl, rfl⟩
    refine ⟨[], ?_⟩
    show DP _ _ _ _ _ _ _ _ [⟨nb1, cu8 ka ++ cu8 kb, 82, (0, 0)⟩, ⟨nb2, [I64 ((k:Int)), U64 s, I64 (v1), U64 s1], 83, (0, 0)⟩, ⟨nb3, cu8 ((frmT ka k s z).set dq3 ((g8 (frmT ka k s z) dq3) ^^^ ((1:UInt8) <<< UInt8.ofNat dq4))) ++ sp1, 5, (0, 0)⟩, ⟨nb4, cu8 (mid ((frmT ka k s z).drop 9) 0 n) ++ sp2, 5, (0, 0)⟩, ⟨nb5, cu8 (mid ((frmT ka k s z).drop 9) 0 n) ++ sp3, 5, (0, 0)⟩]
    refine DP_end ⟨[10], [0, 1, 2, 3, 4, 5, 6, 7, 8, 9], [0, 1, 2, 3, 4, 5, 6, 7, 8, 9], [], []⟩ rfl rfl (by decide +kernel) rfl trivial ?_
    refine K_sub (F' := [(3, Ptr nb1 0), (4, Ptr nb2 0), (6, .bool false), (7, Slc nb3 0 (n + 25) cp1), (8, .nilIface), (11, I64 (0:Int)), (12, I64 (((s1 % (UInt64.ofNat (8*n + 200))).toNat:Int)))]) (Sub.cons (by kernel_rfl) (Sub.cons (by kernel_rfl) (Sub.cons (by kernel_rfl) (Sub.cons (by kernel_rfl) (Sub.cons (by kernel_rfl) (Sub.cons (by kernel_rfl) (Sub.cons (by kernel_rfl) (Sub.nil)))))))) ?_
    show JQ _ _ _ [(3, Ptr nb1 0), (4, Ptr nb2 0), (6, .bool false), (7, Slc nb3 0 (n + 25) cp1), (8, .nilIface), (11, I64 (0:Int)), (12, I64 (((s1 % (UInt64.ofNat (8*n + 200))).toNat:Int)))] _
    refine JQ_then ?_
    refine JC_seq ?_
    have hF : (frmT ka k s z).set dq3 ((g8 (frmT ka k s z) dq3) ^^^ ((1:UInt8) <<< UInt8.ofNat dq4)) = flipB (frmT ka k s z) dq3 dq4 := (flipB_def _ _ _).symm
    have hlF : (flipB (frmT ka k s z) dq3 dq4).length = n + 25 := by rw [← hF]; exact hl5
    rw [hF]
    clear hF
    show JC _ _ _ _ [⟨nb1, cu8 ka ++ cu8 kb, 82, (0, 0)⟩, ⟨nb2, [I64 ((k:Int)), U64 s, I64 (v1), U64 s1], 83, (0, 0)⟩, ⟨nb3, cu8 (flipB (frmT ka k s z) dq3 dq4) ++ sp1, 5, (0, 0)⟩, ⟨nb4, cu8 (mid ((frmT ka k s z).drop 9) 0 n) ++ sp2, 5, (0, 0)⟩, ⟨nb5, cu8 (mid ((frmT ka k s z).drop 9) 0 n) ++ sp3, 5, (0, 0)⟩]
    by_cases hfl : openE ka (k:Int) s (flipB (frmT ka k s z) dq3 dq4) = 0
    ·
      have hin := open_flip hw hz (q := dq3) (r := dq4) (by omega) (by omega) hfl
      refine JC_region ?_
      refine JL_val (Ptr nb1 0) (Ev_indexArr 2 54 32 0 Tryd.underlying82 Tryd.sizeOf54 rfl rfl (by omega) (by omega) (by omega)) rfl ?_
      refine JL_val (.agg (cu8 ka).toArray) (Ev_load rfl (Ld_agg Tryd.isAgg54 Tryd.sizeOf54 (len_cu8 hka) (MemAt.ent 0 rfl (Seg.left (Seg.whole _))))) rfl ?_
      refine JL_val (Ptr nb2 0) (Ev_indexArr 2 56 2 0 Tryd.underlying83 Tryd.sizeOf56 rfl rfl (by omega) (by omega) (by omega)) rfl ?_
      refine JL_val (Ptr nb2 0) (Ev_fieldAddr 0 3 1 Tryd.underlying56 rfl Tryd.sizeOf3 rfl rfl) rfl ?_
      refine JL_val (I64 ((k:Int))) (Ev_load rfl (Ld_one Tryd.isAgg3 (MemAt.ent 1 rfl (Seg.head)))) rfl ?_
      refine JL_val (Ptr nb2 0) (Ev_indexArr 2 56 2 0 Tryd.underlying83 Tryd.sizeOf56 rfl rfl (by omega) (by omega) (by omega)) rfl ?_
      refine JL_val (Ptr nb2 1) (Ev_fieldAddr 1 22 1 Tryd.underlying56 rfl Tryd.sizeOf22 rfl rfl) rfl ?_
      refine JL_val (U64 s) (Ev_load rfl (Ld_one Tryd.isAgg22 (MemAt.ent 1 rfl (Seg.tail (Seg.head))))) rfl ?_
      refine JL_val _ (Ev_move rfl) rfl ?_
      refine JL_step (Step_callP 40 [.agg (cu8 ka).toArray, I64 ((k:Int)), U64 s, Slc nb3 0 (n + 25) cp1] (.tuple #[.slice (advA (some ⟨nb3, 0, none⟩) cp1 9) n (cp1 - 9), I64 (0:Int)]) (Cl_func [.agg (cu8 ka).toArray, I64 ((k:Int)), U64 s, Slc nb3 0 (n + 25) cp1] Tryd.call40 rfl) (fun w1 hw1 => ropenK_w ka ((k:Int)) s (some ⟨nb3, 0, none⟩) (n + 25) cp1 (flipB (frmT ka k s z) dq3 dq4) w1 hka hlF (fun h => by cases h) (by omega) (by omega) (RdB.of hw1 (MemAt.ent 2 rfl (Seg.left (Seg.whole _))) (by simp)) (GLr.at hw1 hGr) (GLi.at hw1 hGi) hfl)) rfl ?_
      rintro v1 L1 ⟨rfl, rfl⟩
      show JL _ _ _ _ ((145, .tuple #[.slice (advA (some ⟨nb3, 0, none⟩) cp1 9) n (cp1 - 9), I64 (0:Int)]) :: _) [⟨nb1, cu8 ka ++ cu8 kb, 82, (0, 0)⟩, ⟨nb2, [I64 ((k:Int)), U64 s, I64 (v1), U64 s1], 83, (0, 0)⟩, ⟨nb3, cu8 (flipB (frmT ka k s z) dq3 dq4) ++ sp1, 5, (0, 0)⟩, ⟨nb4, cu8 (mid ((frmT ka k s z).drop 9) 0 n) ++ sp2, 5, (0, 0)⟩, ⟨nb5, cu8 (mid ((frmT ka k s z).drop 9) 0 n) ++ sp3, 5, (0, 0)⟩]
      refine JL_val _ (Ev_move rfl) rfl ?_
      refine JL_val _ (Ev_extract rfl rfl) rfl ?_
      refine JL_val _ (Ev_extract rfl rfl) rfl ?_
      refine JL_val _ (Ev_assign rfl) rfl ?_
      refine JL_nil ?_
      refine JQ_then ?_
      refine JC_seq ?_
      refine JC_region ?_
      refine JL_val (Ptr nb1 0) (Ev_indexArr 2 54 32 0 Tryd.underlying82 Tryd.sizeOf54 rfl rfl (by omega) (by omega) (by omega)) rfl ?_
      refine JL_val (.agg (cu8 ka).toArray) (Ev_load rfl (Ld_agg Tryd.isAgg54 Tryd.sizeOf54 (len_cu8 hka) (MemAt.ent 0 rfl (Seg.left (Seg.whole _))))) rfl ?_
      refine JL_val (Ptr nb2 0) (Ev_indexArr 2 56 2 0 Tryd.underlying83 Tryd.sizeOf56 rfl rfl (by omega) (by omega) (by omega)) rfl ?_
      refine JL_val (Ptr nb2 0) (Ev_fieldAddr 0 3 1 Tryd.underlying56 rfl Tryd.sizeOf3 rfl rfl) rfl ?_
      refine JL_val (I64 ((k:Int))) (Ev_load rfl (Ld_one Tryd.isAgg3 (MemAt.ent 1 rfl (Seg.head)))) rfl ?_
      refine JL_val (Ptr nb2 0) (Ev_indexArr 2 56 2 0 Tryd.underlying83 Tryd.sizeOf56 rfl rfl (by omega) (by omega) (by omega)) rfl ?_
      refine JL_val (Ptr nb2 1) (Ev_fieldAddr 1 22 1 Tryd.underlying56 rfl Tryd.sizeOf22 rfl rfl) rfl ?_
      refine JL_val (U64 s) (Ev_load rfl (Ld_one Tryd.isAgg22 (MemAt.ent 1 rfl (Seg.tail (Seg.head))))) rfl ?_
      refine JL_val _ (Ev_move rfl) rfl ?_
      have hl6 : (mid ((flipB (frmT ka k s z) dq3 dq4).drop 9) 0 n).length = n := mid_len (by rw [List.length_drop, show (flipB (frmT ka k s z) dq3 dq4).length = (n + 25) from hlF]; omega)
      refine JL_step (Step_callN 39 [.agg (cu8 ka).toArray, I64 ((k:Int)), U64 s, Slc nb3 0 (n + 25) cp1] _ (Cl_func [.agg (cu8 ka).toArray, I64 ((k:Int)), U64 s, Slc nb3 0 (n + 25) cp1] Tryd.call39 rfl) (fun w1 hw1 => lopenK_w ka ((k:Int)) s (some ⟨nb3, 0, none⟩) (n + 25) cp1 (flipB (frmT ka k s z) dq3 dq4) w1 hka hlF (fun h => by cases h) (by omega) (by omega) (RdB.of hw1 (MemAt.ent 2 rfl (Seg.left (Seg.whole _))) (by simp)) (hG.at hw1) hfl)) rfl ?_
      rintro v1 L1 ⟨_, ⟨nb7, sp5, cp5, rfl, rfl, hc13, hc14, hc15⟩, rfl⟩
      show JL _ _ _ _ ((158, .tuple #[Slc nb7 0 n cp5, .nilIface]) :: _) [⟨nb1, cu8 ka ++ cu8 kb, 82, (0, 0)⟩, ⟨nb2, [I64 ((k:Int)), U64 s, I64 (v1), U64 s1], 83, (0, 0)⟩, ⟨nb3, cu8 (flipB (frmT ka k s z) dq3 dq4) ++ sp1, 5, (0, 0)⟩, ⟨nb4, cu8 (mid ((frmT ka k s z).drop 9) 0 n) ++ sp2, 5, (0, 0)⟩, ⟨nb5, cu8 (mid ((frmT ka k s z).drop 9) 0 n) ++ sp3, 5, (0, 0)⟩, ⟨nb7, cu8 (mid ((flipB (frmT ka k s z) dq3 dq4).drop 9) 0 n) ++ sp5, 5, (0, 0)⟩]
      refine JL_val _ (Ev_move rfl) rfl ?_
      refine JL_val _ (Ev_extract rfl rfl) rfl ?_
      refine JL_val _ (Ev_extract rfl rfl) rfl ?_
      refine JL_val _ (Ev_assign rfl) rfl ?_
      refine JL_nil ?_
      refine JQ_then ?_
      refine JC_seq ?_
      refine JC_region ?_
      refine JL_val _ (Ev_move rfl) rfl ?_
      refine JL_step (Step_callP 29 [.nilIface] (I64 (0:Int)) (Cl_func [.nilIface] Tryd.call29 rfl) (fun w1 hw1 => errNo_c w1)) rfl ?_
      rintro v1 L1 ⟨rfl, rfl⟩
      show JL _ _ _ _ ((162, I64 (0:Int)) :: _) [⟨nb1, cu8 ka ++ cu8 kb, 82, (0, 0)⟩, ⟨nb2, [I64 ((k:Int)), U64 s, I64 (v1), U64 s1], 83, (0, 0)⟩, ⟨nb3, cu8 (flipB (frmT ka k s z) dq3 dq4) ++ sp1, 5, (0, 0)⟩, ⟨nb4, cu8 (mid ((frmT ka k s z).drop 9) 0 n) ++ sp2, 5, (0, 0)⟩, ⟨nb5, cu8 (mid ((frmT ka k s z).drop 9) 0 n) ++ sp3, 5, (0, 0)⟩, ⟨nb7, cu8 (mid ((flipB (frmT ka k s z) dq3 dq4).drop 9) 0 n) ++ sp5, 5, (0, 0)⟩]
      refine JL_val _ (Ev_move rfl) rfl ?_
      refine JL_val (.bool (decide ((0:Int) = (0:Int)))) (Ev_bini rfl rfl fun _ => bin_eql_i _ _) rfl ?_
      refine JL_val _ (Ev_move rfl) rfl ?_
      refine JL_gval 4 165 true _ _ rfl rfl (by decide) (Ev_move rfl) rfl ?_
      refine JL_gval 4 165 true _ (.bool false) rfl rfl (by decide) (Ev_bin _ _ _ rfl rfl (fun _ => eqGuard_nn ..) fun _ => neq_if_nil_nil Tryd.underlying45) rfl ?_
      refine JL_gval 4 165 true _ _ rfl rfl (by decide) (Ev_move rfl) rfl ?_
      refine JL_gval 7 168 false _ _ rfl rfl rfl (Ev_move rfl) rfl ?_
      refine JL_gval 7 168 false _ (I64 ((dq3:Int))) rfl rfl rfl (Ev_bini rfl rfl fun _ => bin_quo_i _ _ ((dq3:Int)) (by omega) (by omega) (by omega)) rfl ?_
      refine JL_gval 7 168 false _ (.bool (decide ((9:Int) ≤ ((dq3:Int))))) rfl rfl rfl (Ev_bini rfl rfl fun _ => bin_geq_i _ _) rfl ?_
      refine JL_gval 7 168 false _ _ rfl rfl rfl (Ev_move rfl) rfl ?_
      refine JL_gval 11 172 true _ _ rfl rfl (decide_eq_true (by omega)) (Ev_move rfl) rfl ?_
      refine JL_gval 11 172 true _ (I64 ((dq3:Int))) rfl rfl (decide_eq_true (by omega)) (Ev_bini rfl rfl fun _ => bin_quo_i _ _ ((dq3:Int)) (by omega) (by omega) (by omega)) rfl ?_
      refine JL_gval 11 172 true _ _ rfl rfl (decide_eq_true (by omega)) (Ev_move rfl) rfl ?_
      refine JL_gval 11 172 true _ (I64 ((n:Int) + 25)) rfl rfl (decide_eq_true (by omega)) (Ev_lenX Tryd.underlying43 rfl (by omega)) rfl ?_
      refine JL_gval 11 172 true _ (I64 ((n:Int) + 9)) rfl rfl (decide_eq_true (by omega)) (Ev_bini rfl rfl fun _ => bin_sub_i _ _ ((n:Int) + 9) (by omega) (by omega)) rfl ?_
      refine JL_gval 11 172 true _ (.bool (decide (((dq3:Int)) < ((n:Int) + 9)))) rfl rfl (decide_eq_true (by omega)) (Ev_bini rfl rfl fun _ => bin_lss_i _ _) rfl ?_
      refine JL_gval 7 168 false _ _ rfl rfl rfl (Ev_pickT _ rfl (decide_eq_true (by omega)) rfl) rfl ?_
      refine JL_gval 4 165 true _ _ rfl rfl (by decide) (Ev_pickF _ rfl rfl rfl) rfl ?_
      refine JL_val _ (Ev_pickT _ rfl (by decide) rfl) rfl ?_
      refine JL_val _ (Ev_assign rfl) rfl ?_
      refine JL_nil ?_
      refine JQ_then ?_
      refine JC_ret ?_
      refine JQ_ret (.bool (decide (((dq3:Int)) < ((n:Int) + 9)))) (res1 Tryd.results8 (RV_tmp rfl)) fun w1 hw1 => ?_
      exact ⟨_, [], rfl, ⟨by rw [show (decide (((dq3:Int)) < ((n:Int) + 9))) = true from (decide_eq_true (by omega))], rfl⟩, hw1.sub (by simp) (by simp)⟩
    ·
      refine JC_region ?_
      refine JL_val (Ptr nb1 0) (Ev_indexArr 2 54 32 0 Tryd.underlying82 Tryd.sizeOf54 rfl rfl (by omega) (by omega) (by omega)) rfl ?_
      refine JL_val (.agg (cu8 ka).toArray) (Ev_load rfl (Ld_agg Tryd.isAgg54 Tryd.sizeOf54 (len_cu8 hka) (MemAt.ent 0 rfl (Seg.left (Seg.whole _))))) rfl ?_
      refine JL_val (Ptr nb2 0) (Ev_indexArr 2 56 2 0 Tryd.underlying83 Tryd.sizeOf56 rfl rfl (by omega) (by omega) (by omega)) rfl ?_
      refine JL_val (Ptr nb2 0) (Ev_fieldAddr 0 3 1 Tryd.underlying56 rfl Tryd.sizeOf3 rfl rfl) rfl ?_
      refine JL_val (I64 ((k:Int))) (Ev_load rfl (Ld_one Tryd.isAgg3 (MemAt.ent 1 rfl (Seg.head)))) rfl ?_
      refine JL_val (Ptr nb2 0) (Ev_indexArr 2 56 2 0 Tryd.underlying83 Tryd.sizeOf56 rfl rfl (by omega) (by omega) (by omega)) rfl ?_
      refine JL_val (Ptr nb2 1) (Ev_fieldAddr 1 22 1 Tryd.underlying56 rfl Tryd.sizeOf22 rfl rfl) rfl ?_
      refine JL_val (U64 s) (Ev_load rfl (Ld_one Tryd.isAgg22 (MemAt.ent 1 rfl (Seg.tail (Seg.head))))) rfl ?_
      refine JL_val _ (Ev_move rfl) rfl ?_
      refine JL_step (Step_callP 40 [.agg (cu8 ka).toArray, I64 ((k:Int)), U64 s, Slc nb3 0 (n + 25) cp1] (.tuple #[.slice none 0 0, I64 ((openE ka ((k:Int)) s (flipB (frmT ka k s z) dq3 dq4):Int))]) (Cl_func [.agg (cu8 ka).toArray, I64 ((k:Int)), U64 s, Slc nb3 0 (n + 25) cp1] Tryd.call40 rfl) (fun w1 hw1 => ropenB_w ka ((k:Int)) s (some ⟨nb3, 0, none⟩) (n + 25) cp1 (flipB (frmT ka k s z) dq3 dq4) w1 hka hlF (fun h => by cases h) (by omega) (by omega) (RdB.of hw1 (MemAt.ent 2 rfl (Seg.left (Seg.whole _))) (by simp)) (GLr.at hw1 hGr) (GLi.at hw1 hGi) hfl)) rfl ?_
      rintro v1 L1 ⟨rfl, rfl⟩
      show JL _ _ _ _ ((145, .tuple #[.slice none 0 0, I64 ((openE ka ((k:Int)) s (flipB (frmT ka k s z) dq3 dq4):Int))]) :: _) [⟨nb1, cu8 ka ++ cu8 kb, 82, (0, 0)⟩, ⟨nb2, [I64 ((k:Int)), U64 s, I64 (v1), U64 s1], 83, (0, 0)⟩, ⟨nb3, cu8 (flipB (frmT ka k s z) dq3 dq4) ++ sp1, 5, (0, 0)⟩, ⟨nb4, cu8 (mid ((frmT ka k s z).drop 9) 0 n) ++ sp2, 5, (0, 0)⟩, ⟨nb5, cu8 (mid ((frmT ka k s z).drop 9) 0 n) ++ sp3, 5, (0, 0)⟩]
      refine JL_val _ (Ev_move rfl) rfl ?_
      refine JL_val _ (Ev_extract rfl rfl) rfl ?_
      refine JL_val _ (Ev_extract rfl rfl) rfl ?_
      refine JL_val _ (Ev_assign rfl) rfl ?_
      refine JL_nil ?_
      refine JQ_then ?_
      refine JC_seq ?_
      refine JC_region ?_
      refine JL_val (Ptr nb1 0) (Ev_indexArr 2 54 32 0 Tryd.underlying82 Tryd.sizeOf54 rfl rfl (by omega) (by omega) (by omega)) rfl ?_
      refine JL_val (.agg (cu8 ka).toArray) (Ev_load rfl (Ld_agg Tryd.isAgg54 Tryd.sizeOf54 (len_cu8 hka) (MemAt.ent 0 rfl (Seg.left (Seg.whole _))))) rfl ?_
      refine JL_val (Ptr nb2 0) (Ev_indexArr 2 56 2 0 Tryd.underlying83 Tryd.sizeOf56 rfl rfl (by omega) (by omega) (by omega)) rfl ?_
      refine JL_val (Ptr nb2 0) (Ev_fieldAddr 0 3 1 Tryd.underlying56 rfl Tryd.sizeOf3 rfl rfl) rfl ?_
      refine JL_val (I64 ((k:Int))) (Ev_load rfl (Ld_one Tryd.isAgg3 (MemAt.ent 1 rfl (Seg.head)))) rfl ?_
      refine JL_val (Ptr nb2 0) (Ev_indexArr 2 56 2 0 Tryd.underlying83 Tryd.sizeOf56 rfl rfl (by omega) (by omega) (by omega)) rfl ?_
      refine JL_val (Ptr nb2 1) (Ev_fieldAddr 1 22 1 Tryd.underlying56 rfl Tryd.sizeOf22 rfl rfl) rfl ?_
      refine JL_val (U64 s) (Ev_load rfl (Ld_one Tryd.isAgg22 (MemAt.ent 1 rfl (Seg.tail (Seg.head))))) rfl ?_
      refine JL_val _ (Ev_move rfl) rfl ?_
      refine JL_step (Step_callP 39 [.agg (cu8 ka).toArray, I64 ((k:Int)), U64 s, Slc nb3 0 (n + 25) cp1] (.tuple #[.slice none 0 0, errV 50 (openE ka ((k:Int)) s (flipB (frmT ka k s z) dq3 dq4))]) (Cl_func [.agg (cu8 ka).toArray, I64 ((k:Int)), U64 s, Slc nb3 0 (n + 25) cp1] Tryd.call39 rfl) (fun w1 hw1 => lopenB_w ka ((k:Int)) s (some ⟨nb3, 0, none⟩) (n + 25) cp1 (flipB (frmT ka k s z) dq3 dq4) w1 hka hlF (fun h => by cases h) (by omega) (by omega) (RdB.of hw1 (MemAt.ent 2 rfl (Seg.left (Seg.whole _))) (by simp)) (hG.at hw1) hfl)) rfl ?_
      rintro v1 L1 ⟨rfl, rfl⟩
      show JL _ _ _ _ ((158, .tuple #[.slice none 0 0, errV 50 (openE ka ((k:Int)) s (flipB (frmT ka k s z) dq3 dq4))]) :: _) [⟨nb1, cu8 ka ++ cu8 kb, 82, (0, 0)⟩, ⟨nb2, [I64 ((k:Int)), U64 s, I64 (v1), U64 s1], 83, (0, 0)⟩, ⟨nb3, cu8 (flipB (frmT ka k s z) dq3 dq4) ++ sp1, 5, (0, 0)⟩, ⟨nb4, cu8 (mid ((frmT ka k s z).drop 9) 0 n) ++ sp2, 5, (0, 0)⟩, ⟨nb5, cu8 (mid ((frmT ka k s z).drop 9) 0 n) ++ sp3, 5, (0, 0)⟩]
      refine JL_val _ (Ev_move rfl) rfl ?_
      refine JL_val _ (Ev_extract rfl rfl) rfl ?_
      refine JL_val _ (Ev_extract rfl rfl) rfl ?_
      refine JL_val _ (Ev_assign rfl) rfl ?_
      refine JL_nil ?_
      refine JQ_then ?_
      refine JC_seq ?_
      refine JC_region ?_
      refine JL_val _ (Ev_move rfl) rfl ?_
      refine JL_step (Step_callP 29 [errV 50 (openE ka ((k:Int)) s (flipB (frmT ka k s z) dq3 dq4))] (I64 ((openE ka ((k:Int)) s (flipB (frmT ka k s z) dq3 dq4):Int))) (Cl_func [errV 50 (openE ka ((k:Int)) s (flipB (frmT ka k s z) dq3 dq4))] Tryd.call29 rfl) (fun w1 hw1 => errNum_w (openE ka ((k:Int)) s (flipB (frmT ka k s z) dq3 dq4)) w1)) rfl ?_
      rintro v1 L1 ⟨rfl, rfl⟩
      show JL _ _ _ _ ((162, I64 ((openE ka ((k:Int)) s (flipB (frmT ka k s z) dq3 dq4):Int))) :: _) [⟨nb1, cu8 ka ++ cu8 kb, 82, (0, 0)⟩, ⟨nb2, [I64 ((k:Int)), U64 s, I64 (v1), U64 s1], 83, (0, 0)⟩, ⟨nb3, cu8 (flipB (frmT ka k s z) dq3 dq4) ++ sp1, 5, (0, 0)⟩, ⟨nb4, cu8 (mid ((frmT ka k s z).drop 9) 0 n) ++ sp2, 5, (0, 0)⟩, ⟨nb5, cu8 (mid ((frmT ka k s z).drop 9) 0 n) ++ sp3, 5, (0, 0)⟩]
      refine JL_val _ (Ev_move rfl) rfl ?_
      refine JL_val (.bool (decide (((openE ka ((k:Int)) s (flipB (frmT ka k s z) dq3 dq4):Int)) = ((openE ka ((k:Int)) s (flipB (frmT ka k s z) dq3 dq4):Int))))) (Ev_bini rfl rfl fun _ => bin_eql_i _ _) rfl ?_
      refine JL_val _ (Ev_move rfl) rfl ?_
      refine JL_gval 4 165 true _ _ rfl rfl (by simp) (Ev_move rfl) rfl ?_
      refine JL_gval 4 165 true _ (.bool (!(decide (openE ka ((k:Int)) s (flipB (frmT ka k s z) dq3 dq4) = 0)))) rfl rfl (by simp) (Ev_bin _ _ _ rfl rfl (fun _ => eqGuard_errV ..) fun _ => neq_errV Tryd.underlying45 _ _) rfl ?_
      refine JL_gval 4 165 true _ _ rfl rfl (by simp) (Ev_move rfl) rfl ?_
      refine JL_gskip 7 168 false _ rfl rfl (by rw [show (decide (openE ka ((k:Int)) s (flipB (frmT ka k s z) dq3 dq4) = 0)) = false from (decide_eq_false hfl)] <;> rfl) rfl ?_
      refine JL_gskip 7 168 false _ rfl rfl (by rw [show (decide (openE ka ((k:Int)) s (flipB (frmT ka k s z) dq3 dq4) = 0)) = false from (decide_eq_false hfl)] <;> rfl) rfl ?_
      refine JL_gskip 7 168 false _ rfl rfl (by rw [show (decide (openE ka ((k:Int)) s (flipB (frmT ka k s z) dq3 dq4) = 0)) = false from (decide_eq_false hfl)] <;> rfl) rfl ?_
      refine JL_gskip 7 168 false _ rfl rfl (by rw [show (decide (openE ka ((k:Int)) s (flipB (frmT ka k s z) dq3 dq4) = 0)) = false from (decide_eq_false hfl)] <;> rfl) rfl ?_
      refine JL_gskipU 11 172 true rfl rfl rfl ?_
      refine JL_gskipU 11 172 true rfl rfl rfl ?_
      refine JL_gskipU 11 172 true rfl rfl rfl ?_
      refine JL_gskipU 11 172 true rfl rfl rfl ?_
      refine JL_gskipU 11 172 true rfl rfl rfl ?_
      refine JL_gskipU 11 172 true rfl rfl rfl ?_
      refine JL_gskip 7 168 false _ rfl rfl (by rw [show (decide (openE ka ((k:Int)) s (flipB (frmT ka k s z) dq3 dq4) = 0)) = false from (decide_eq_false hfl)] <;> rfl) rfl ?_
      refine JL_gval 4 165 true _ _ rfl rfl (by simp) (Ev_pickT _ rfl (by rw [show (decide (openE ka ((k:Int)) s (flipB (frmT ka k s z) dq3 dq4) = 0)) = false from (decide_eq_false hfl)] <;> rfl) rfl) rfl ?_
      refine JL_val _ (Ev_pickT _ rfl (by simp) rfl) rfl ?_
      refine JL_val _ (Ev_assign rfl) rfl ?_
      refine JL_nil ?_
      refine JQ_then ?_
      refine JC_ret ?_
      refine JQ_ret (.bool true) (res1 Tryd.results8 (RV_tmp rfl)) fun w1 hw1 => ?_
      exact ⟨_, [], rfl, ⟨by rw [show (true) = true from rfl], rfl⟩, hw1.sub (by simp) (by simp)⟩

theorem linkBackS_c (ka kb : List UInt8) (k : Nat) (s : UInt64) (v1 : Int) (s1 : UInt64) (az : Option Addr) (n cz : Nat) (z : List UInt8)  (w : World) (hka : ka.length = 32) (hkb : kb.length = 32) (hz : z.length = n) (hcb : az = none → cz = 0) (hnc : n ≤ cz) (hcm : cz ≤ maxLen) (hr : RdB w [] az z) (hG : GLs w) (hGr : GLr w) (hGi : GLi w) (hn : n ≤ 3000) (hw : k = 1 ∨ k = 2) (ho1 : openE kb v1 s1 (frmT ka k s z) ≠ 0) (hsd : ¬ ((k:Int) = v1 ∧ s = s1)) : Calls Tryd.prog 8 #[.agg (cu8 ka ++ cu8 kb).toArray, .agg (List.toArray (α := Value) ([I64 ((k:Int)), U64 s, I64 (v1), U64 s1])), .slice az n cz] w (Post w [] (fun v L => v = .bool true ∧ L = [])) := by
  have hmx : maxLen = 9223372036854775807 := rfl
  have hkq := rem_lt (m := 8*n + 200) s1 (by omega) (by omega)
  refine enter (P := Tryd.prog) (f := 8) (fn := Tryd.f8) w [] 182 [] [.agg (cu8 ka ++ cu8 kb).toArray, .agg (List.toArray (α := Value) ([I64 ((k:Int)), U64 s, I64 (v1), U64 s1])), .slice az n cz] Tryd.func8 rfl rfl (by simp) (Hp.start (by simp) (by simp) (by simp)) ?_
  show JC _ _ _ [(0, .agg (cu8 ka ++ cu8 kb).toArray), (1, .agg (List.toArray (α := Value) ([I64 ((k:Int)), U64 s, I64 (v1), U64 s1]))), (2, .slice az n cz)] _
  refine JC_seq ?_
  refine JC_region ?_
  refine JL_step (Step_box (.agg (cu8 ka ++ cu8 kb).toArray) (cu8 ka ++ cu8 kb) rfl (by first | rfl | simp)) rfl ?_
  rintro v1 L1 ⟨nb1, hnb1, rfl, rfl⟩
  show JL _ _ _ _ ((3, Ptr nb1 0) :: _) [⟨nb1, cu8 ka ++ cu8 kb, 82, (0, 0)⟩]
  refine JL_step (Step_box (.agg (List.toArray (α := Value) ([I64 ((k:Int)), U64 s, I64 (v1), U64 s1]))) ([I64 ((k:Int)), U64 s, I64 (v1), U64 s1]) rfl (by first | rfl | simp)) rfl ?_
  rintro v1 L1 ⟨nb2, hnb2, rfl, rfl⟩
  show JL _ _ _ _ ((4, Ptr nb2 0) :: _) [⟨nb1, cu8 ka ++ cu8 kb, 82, (0, 0)⟩, ⟨nb2, [I64 ((k:Int)), U64 s, I64 (v1), U64 s1], 83, (0, 0)⟩]
  refine JL_val _ (Ev_assign rfl) rfl ?_
  refine JL_nil ?_
  refine JQ_then ?_
  refine JC_seq ?_
  refine JC_seq ?_
  refine JC_region ?_
  refine JL_step (Step_callP 26 [] (.bool true) (Cl_func [] Tryd.call26 rfl) (fun w1 hw1 => alive15_c  w1 (hG.at hw1))) rfl ?_
  rintro v1 L1 ⟨rfl, rfl⟩
  show JL _ _ _ _ ((13, .bool true) :: _) [⟨nb1, cu8 ka ++ cu8 kb, 82, (0, 0)⟩, ⟨nb2, [I64 ((k:Int)), U64 s, I64 (v1), U64 s1], 83, (0, 0)⟩]
  refine JL_val (.bool (!true)) (Ev_not rfl) rfl ?_
  refine JL_nil ?_
  refine JQ_then ?_
  refine JC_condF _ rfl rfl ?_
  refine JC_skip ?_
  refine JQ_then ?_
  refine JC_seq ?_
  refine JC_seq ?_
  refine JC_region ?_
  refine JL_val _ (Ev_move rfl) rfl ?_
  refine JL_val (I64 ((n:Int))) (Ev_len Tryd.underlying43 rfl) rfl ?_
  refine JL_val (.bool (decide ((3000:Int) < ((n:Int))))) (Ev_bini rfl rfl fun _ => bin_gtr_i _ _) rfl ?_
  refine JL_nil ?_
  refine JQ_then ?_
  refine JC_condF _ rfl (decide_eq_false (by omega)) ?_
  refine JC_skip ?_
  refine JQ_then ?_
  refine JC_seq ?_
  refine JC_region ?_
  refine JL_val (Ptr nb1 0) (Ev_indexArr 2 54 32 0 Tryd.underlying82 Tryd.sizeOf54 rfl rfl (by omega) (by omega) (by omega)) rfl ?_
  refine JL_val (.agg (cu8 ka).toArray) (Ev_load rfl (Ld_agg Tryd.isAgg54 Tryd.sizeOf54 (len_cu8 hka) (MemAt.ent 0 rfl (Seg.left (Seg.whole _))))) rfl ?_
  refine JL_val (Ptr nb2 0) (Ev_indexArr 2 56 2 0 Tryd.underlying83 Tryd.sizeOf56 rfl rfl (by omega) (by omega) (by omega)) rfl ?_
  refine JL_val (Ptr nb2 0) (Ev_fieldAddr 0 3 1 Tryd.underlying56 rfl Tryd.sizeOf3 rfl rfl) rfl ?_
  refine JL_val (I64 ((k:Int))) (Ev_load rfl (Ld_one Tryd.isAgg3 (MemAt.ent 1 rfl (Seg.head)))) rfl ?_
  refine JL_val (Ptr nb2 0) (Ev_indexArr 2 56 2 0 Tryd.underlying83 Tryd.sizeOf56 rfl rfl (by omega) (by omega) (by omega)) rfl ?_
  refine JL_val (Ptr nb2 1) (Ev_fieldAddr 1 22 1 Tryd.underlying56 rfl Tryd.sizeOf22 rfl rfl) rfl ?_
  refine JL_val (U64 s) (Ev_load rfl (Ld_one Tryd.isAgg22 (MemAt.ent 1 rfl (Seg.tail (Seg.head))))) rfl ?_
  refine JL_val _ (Ev_move rfl) rfl ?_
  refine JL_step (Step_callN 27 [.agg (cu8 ka).toArray, I64 ((k:Int)), U64 s, .slice az n cz] _ (Cl_func [.agg (cu8 ka).toArray, I64 ((k:Int)), U64 s, .slice az n cz] Tryd.call27 rfl) (fun w1 hw1 => lseal_c ka k s az n cz z (n + 25) w1 hka hz hcb (by omega) (by omega) (hr.at (M' := []) hw1 (by simp)) hw (by omega) (by omega) (hG.at hw1))) rfl ?_
  rintro v1 L1 ⟨_, ⟨nb3, sp1, cp1, rfl, rfl, hc1, hc2, hc3⟩, rfl⟩
  show JL _ _ _ _ ((28, .tuple #[Slc nb3 0 (n + 25) cp1, .nilIface]) :: _) [⟨nb1, cu8 ka ++ cu8 kb, 82, (0, 0)⟩, ⟨nb2, [I64 ((k:Int)), U64 s, I64 (v1), U64 s1], 83, (0, 0)⟩, ⟨nb3, cu8 (frmT ka k s z) ++ sp1, 5, (0, 0)⟩]
  refine JL_val _ (Ev_move rfl) rfl ?_
  refine JL_val _ (Ev_extract rfl rfl) rfl ?_
  refine JL_val _ (Ev_extract rfl rfl) rfl ?_
  refine JL_val _ (Ev_assign rfl) rfl ?_
  refine JL_val _ (Ev_assign rfl) rfl ?_
  refine JL_nil ?_
  refine JQ_then ?_
  refine JC_seq ?_
  refine JC_seq ?_
  refine JC_region ?_
  refine JL_val _ (Ev_move rfl) rfl ?_
  refine JL_val (.bool false) (Ev_bin _ _ _ rfl rfl (fun _ => eqGuard_nn ..) fun _ => neq_if_nil_nil Tryd.underlying45) rfl ?_
  refine JL_nil ?_
  refine JQ_then ?_
  refine JC_condF _ rfl rfl ?_
  refine JC_skip ?_
  refine JQ_then ?_
  refine JC_seq ?_
  refine JC_region ?_
  refine JL_val (Ptr nb1 0) (Ev_indexArr 2 54 32 0 Tryd.underlying82 Tryd.sizeOf54 rfl rfl (by omega) (by omega) (by omega)) rfl ?_
  refine JL_val (.agg (cu8 ka).toArray) (Ev_load rfl (Ld_agg Tryd.isAgg54 Tryd.sizeOf54 (len_cu8 hka) (MemAt.ent 0 rfl (Seg.left (Seg.whole _))))) rfl ?_
  refine JL_val (Ptr nb2 0) (Ev_indexArr 2 56 2 0 Tryd.underlying83 Tryd.sizeOf56 rfl rfl (by omega) (by omega) (by omega)) rfl ?_
  refine JL_val (Ptr nb2 0) (Ev_fieldAddr 0 3 1 Tryd.underlying56 rfl Tryd.sizeOf3 rfl rfl) rfl ?_
  refine JL_val (I64 ((k:Int))) (Ev_load rfl (Ld_one Tryd.isAgg3 (MemAt.ent 1 rfl (Seg.head)))) rfl ?_
  refine JL_val (Ptr nb2 0) (Ev_indexArr 2 56 2 0 Tryd.underlying83 Tryd.sizeOf56 rfl rfl (by omega) (by omega) (by omega)) rfl ?_
  refine JL_val (Ptr nb2 1) (Ev_fieldAddr 1 22 1 Tryd.underlying56 rfl Tryd.sizeOf22 rfl rfl) rfl ?_
  refine JL_val (U64 s) (Ev_load rfl (Ld_one Tryd.isAgg22 (MemAt.ent 1 rfl (Seg.tail (Seg.head))))) rfl ?_
  refine JL_val _ (Ev_move rfl) rfl ?_
  have hl1 : (mid ((frmT ka k s z).drop 9) 0 n).length = n := mid_len (by rw [List.length_drop, show (frmT ka k s z).length = (n + 25) from (show (frmT ka k s z).length = (n + 25) from (by rw [frmT_len hz] <;> omega))]; omega)
  refine JL_step (Step_callN 39 [.agg (cu8 ka).toArray, I64 ((k:Int)), U64 s, Slc nb3 0 (n + 25) cp1] _ (Cl_func [.agg (cu8 ka).toArray, I64 ((k:Int)), U64 s, Slc nb3 0 (n + 25) cp1] Tryd.call39 rfl) (fun w1 hw1 => lopenK_w ka ((k:Int)) s (some ⟨nb3, 0, none⟩) (n + 25) cp1 (frmT ka k s z) w1 hka (show (frmT ka k s z).length = (n + 25) from (by rw [frmT_len hz] <;> omega)) (fun h => by cases h) (by omega) (by omega) (RdB.of hw1 (MemAt.ent 2 rfl (Seg.left (Seg.whole _))) (by simp)) (hG.at hw1) (open_frm hw (by rw [hz]; omega)))) rfl ?_
  rintro v1 L1 ⟨_, ⟨nb4, sp2, cp2, rfl, rfl, hc4, hc5, hc6⟩, rfl⟩
  show JL _ _ _ _ ((46, .tuple #[Slc nb4 0 n cp2, .nilIface]) :: _) [⟨nb1, cu8 ka ++ cu8 kb, 82, (0, 0)⟩, ⟨nb2, [I64 ((k:Int)), U64 s, I64 (v1), U64 s1], 83, (0, 0)⟩, ⟨nb3, cu8 (frmT ka k s z) ++ sp1, 5, (0, 0)⟩, ⟨nb4, cu8 (mid ((frmT ka k s z).drop 9) 0 n) ++ sp2, 5, (0, 0)⟩]
  refine JL_val _ (Ev_move rfl) rfl ?_
  refine JL_val _ (Ev_extract rfl rfl) rfl ?_
  refine JL_val _ (Ev_extract rfl rfl) rfl ?_
  refine JL_val _ (Ev_assign rfl) rfl ?_
  refine JL_val _ (Ev_assign rfl) rfl ?_
  refine JL_nil ?_
  refine JQ_then ?_
  refine JC_seq ?_
  refine JC_seq ?_
  refine JC_region ?_
  refine JL_val _ (Ev_move rfl) rfl ?_
  refine JL_val (.bool false) (Ev_bin _ _ _ rfl rfl (fun _ => eqGuard_nn ..) fun _ => neq_if_nil_nil Tryd.underlying45) rfl ?_
  refine JL_val _ (Ev_move rfl) rfl ?_
  refine JL_gval 2 51 false _ _ rfl rfl rfl (Ev_move rfl) rfl ?_
  refine JL_gval 2 51 false _ _ rfl rfl rfl (Ev_move rfl) rfl ?_
  refine JL_gstep 2 51 false _ rfl rfl rfl (Step_callP 24 [Slc nb4 0 n cp2, .slice az n cz] (.bool (decide ((mid ((frmT ka k s z).drop 9) 0 n) = z))) (Cl_func [Slc nb4 0 n cp2, .slice az n cz] Tryd.call24 rfl) (fun w1 hw1 => bytes_c (some ⟨nb4, 0, none⟩) az n n cp2 cz (mid ((frmT ka k s z).drop 9) 0 n) z w1 hl1 hz (RdB.of hw1 (MemAt.ent 3 rfl (Seg.left (Seg.whole _))) (by simp)) (hr.at (M' := []) hw1 (by simp)))) rfl ?_
  rintro v1 L1 ⟨rfl, rfl⟩
  show JL _ _ _ _ ((54, .bool (decide ((mid ((frmT ka k s z).drop 9) 0 n) = z))) :: _) [⟨nb1, cu8 ka ++ cu8 kb, 82, (0, 0)⟩, ⟨nb2, [I64 ((k:Int)), U64 s, I64 (v1), U64 s1], 83, (0, 0)⟩, ⟨nb3, cu8 (frmT ka k s z) ++ sp1, 5, (0, 0)⟩, ⟨nb4, cu8 (mid ((frmT ka k s z).drop 9) 0 n) ++ sp2, 5, (0, 0)⟩]
  refine JL_gval 2 51 false _ (.bool (!(decide ((mid ((frmT ka k s z).drop 9) 0 n) = z)))) rfl rfl rfl (Ev_not rfl) rfl ?_
  refine JL_val _ (Ev_pickF _ rfl rfl rfl) rfl ?_
  refine JL_nil ?_
  refine JQ_then ?_
  refine JC_condF _ rfl (by rw [show (decide ((mid ((frmT ka k s z).drop 9) 0 n) = z)) = true from (decide_eq_true (body_frm hz))] <;> rfl) ?_
  refine JC_skip ?_
  refine JQ_then ?_
  refine JC_seq ?_
  refine JC_region ?_
  refine JL_val (Ptr nb1 32) (Ev_indexArr 2 54 32 32 Tryd.underlying82 Tryd.sizeOf54 rfl rfl (by omega) (by omega) (by omega)) rfl ?_
  refine JL_val (.agg (cu8 kb).toArray) (Ev_load rfl (Ld_agg Tryd.isAgg54 Tryd.sizeOf54 (len_cu8 hkb) (MemAt.ent 0 rfl (Seg.right 32 0 (by simp [hka]) rfl (Seg.whole _))))) rfl ?_
  refine JL_val (Ptr nb2 2) (Ev_indexArr 2 56 2 2 Tryd.underlying83 Tryd.sizeOf56 rfl rfl (by omega) (by omega) (by omega)) rfl ?_
  refine JL_val (Ptr nb2 2) (Ev_fieldAddr 0 3 1 Tryd.underlying56 rfl Tryd.sizeOf3 rfl rfl) rfl ?_
  refine JL_val (I64 (v1)) (Ev_load rfl (Ld_one Tryd.isAgg3 (MemAt.ent 1 rfl (Seg.tail (Seg.tail (Seg.head)))))) rfl ?_
  refine JL_val (Ptr nb2 2) (Ev_indexArr 2 56 2 2 Tryd.underlying83 Tryd.sizeOf56 rfl rfl (by omega) (by omega) (by omega)) rfl ?_
  refine JL_val (Ptr nb2 3) (Ev_fieldAddr 1 22 1 Tryd.underlying56 rfl Tryd.sizeOf22 rfl rfl) rfl ?_
  refine JL_val (U64 s1) (Ev_load rfl (Ld_one Tryd.isAgg22 (MemAt.ent 1 rfl (Seg.tail (Seg.tail (Seg.tail (Seg.head))))))) rfl ?_
  refine JL_val _ (Ev_move rfl) rfl ?_
  refine JL_step (Step_callP 40 [.agg (cu8 kb).toArray, I64 (v1), U64 s1, Slc nb3 0 (n + 25) cp1] (.tuple #[.slice none 0 0, I64 ((openE kb (v1) s1 (frmT ka k s z):Int))]) (Cl_func [.agg (cu8 kb).toArray, I64 (v1), U64 s1, Slc nb3 0 (n + 25) cp1] Tryd.call40 rfl) (fun w1 hw1 => ropenB_w kb (v1) s1 (some ⟨nb3, 0, none⟩) (n + 25) cp1 (frmT ka k s z) w1 hkb (show (frmT ka k s z).length = (n + 25) from (by rw [frmT_len hz] <;> omega)) (fun h => by cases h) (by omega) (by omega) (RdB.of hw1 (MemAt.ent 2 rfl (Seg.left (Seg.whole _))) (by simp)) (GLr.at hw1 hGr) (GLi.at hw1 hGi) ho1)) rfl ?_
  rintro v1 L1 ⟨rfl, rfl⟩
  show JL _ _ _ _ ((67, .tuple #[.slice none 0 0, I64 ((openE kb (v1) s1 (frmT ka k s z):Int))]) :: _) [⟨nb1, cu8 ka ++ cu8 kb, 82, (0, 0)⟩, ⟨nb2, [I64 ((k:Int)), U64 s, I64 (v1), U64 s1], 83, (0, 0)⟩, ⟨nb3, cu8 (frmT ka k s z) ++ sp1, 5, (0, 0)⟩, ⟨nb4, cu8 (mid ((frmT ka k s z).drop 9) 0 n) ++ sp2, 5, (0, 0)⟩]
  refine JL_val _ (Ev_move rfl) rfl ?_
  refine JL_val _ (Ev_extract rfl rfl) rfl ?_
  refine JL_val _ (Ev_extract rfl rfl) rfl ?_
  refine JL_val _ (Ev_assign rfl) rfl ?_
  refine JL_val _ (Ev_assign rfl) rfl ?_
  refine JL_nil ?_
  refine JQ_then ?_
  refine JC_seq ?_
  refine JC_region ?_
  refine JL_val (Ptr nb1 32) (Ev_indexArr 2 54 32 32 Tryd.underlying82 Tryd.sizeOf54 rfl rfl (by omega) (by omega) (by omega)) rfl ?_
  refine JL_val (.agg (cu8 kb).toArray) (Ev_load rfl (Ld_agg Tryd.isAgg54 Tryd.sizeOf54 (len_cu8 hkb) (MemAt.ent 0 rfl (Seg.right 32 0 (by simp [hka]) rfl (Seg.whole _))))) rfl ?_
  refine JL_val (Ptr nb2 2) (Ev_indexArr 2 56 2 2 Tryd.underlying83 Tryd.sizeOf56 rfl rfl (by omega) (by omega) (by omega)) rfl ?_
  refine JL_val (Ptr nb2 2) (Ev_fieldAddr 0 3 1 Tryd.underlying56 rfl Tryd.sizeOf3 rfl rfl) rfl ?_
  refine JL_val (I64 (v1)) (Ev_load rfl (Ld_one Tryd.isAgg3 (MemAt.ent 1 rfl (Seg.tail (Seg.tail (Seg.head)))))) rfl ?_
  refine JL_val (Ptr nb2 2) (Ev_indexArr 2 56 2 2 Tryd.underlying83 Tryd.sizeOf56 rfl rfl (by omega) (by omega) (by omega)) rfl ?_
  refine JL_val (Ptr nb2 3) (Ev_fieldAddr 1 22 1 Tryd.underlying56 rfl Tryd.sizeOf22 rfl rfl) rfl ?_
  refine JL_val (U64 s1) (Ev_load rfl (Ld_one Tryd.isAgg22 (MemAt.ent 1 rfl (Seg.tail (Seg.tail (Seg.tail (Seg.head))))))) rfl ?_
  refine JL_val _ (Ev_move rfl) rfl ?_
  refine JL_step (Step_callP 39 [.agg (cu8 kb).toArray, I64 (v1), U64 s1, Slc nb3 0 (n + 25) cp1] (.tuple #[.slice none 0 0, errV 50 (openE kb (v1) s1 (frmT ka k s z))]) (Cl_func [.agg (cu8 kb).toArray, I64 (v1), U64 s1, Slc nb3 0 (n + 25) cp1] Tryd.call39 rfl) (fun w1 hw1 => lopenB_w kb (v1) s1 (some ⟨nb3, 0, none⟩) (n + 25) cp1 (frmT ka k s z) w1 hkb (show (frmT ka k s z).length = (n + 25) from (by rw [frmT_len hz] <;> omega)) (fun h => by cases h) (by omega) (by omega) (RdB.of hw1 (MemAt.ent 2 rfl (Seg.left (Seg.whole _))) (by simp)) (hG.at hw1) ho1)) rfl ?_
  rintro v1 L1 ⟨rfl, rfl⟩
  show JL _ _ _ _ ((80, .tuple #[.slice none 0 0, errV 50 (openE kb (v1) s1 (frmT ka k s z))]) :: _) [⟨nb1, cu8 ka ++ cu8 kb, 82, (0, 0)⟩, ⟨nb2, [I64 ((k:Int)), U64 s, I64 (v1), U64 s1], 83, (0, 0)⟩, ⟨nb3, cu8 (frmT ka k s z) ++ sp1, 5, (0, 0)⟩, ⟨nb4, cu8 (mid ((frmT ka k s z).drop 9) 0 n) ++ sp2, 5, (0, 0)⟩]
  refine JL_val _ (Ev_move rfl) rfl ?_
  refine JL_val _ (Ev_extract rfl rfl) rfl ?_
  refine JL_val _ (Ev_extract rfl rfl) rfl ?_
  refine JL_val _ (Ev_assign rfl) rfl ?_
  refine JL_nil ?_
  refine JQ_then ?_
  refine JC_seq ?_
  refine JC_seq ?_
  refine JC_region ?_
  refine JL_val _ (Ev_move rfl) rfl ?_
  refine JL_step (Step_callP 29 [errV 50 (openE kb (v1) s1 (frmT ka k s z))] (I64 ((openE kb (v1) s1 (frmT ka k s z):Int))) (Cl_func [errV 50 (openE kb (v1) s1 (frmT ka k s z))] Tryd.call29 rfl) (fun w1 hw1 => errNum_w (openE kb (v1) s1 (frmT ka k s z)) w1)) rfl ?_
  rintro v1 L1 ⟨rfl, rfl⟩
  show JL _ _ _ _ ((84, I64 ((openE kb (v1) s1 (frmT ka k s z):Int))) :: _) [⟨nb1, cu8 ka ++ cu8 kb, 82, (0, 0)⟩, ⟨nb2, [I64 ((k:Int)), U64 s, I64 (v1), U64 s1], 83, (0, 0)⟩, ⟨nb3, cu8 (frmT ka k s z) ++ sp1, 5, (0, 0)⟩, ⟨nb4, cu8 (mid ((frmT ka k s z).drop 9) 0 n) ++ sp2, 5, (0, 0)⟩]
  refine JL_val _ (Ev_move rfl) rfl ?_
  refine JL_val (.bool (decide (((openE kb (v1) s1 (frmT ka k s z):Int)) ≠ ((openE kb (v1) s1 (frmT ka k s z):Int))))) (Ev_bini rfl rfl fun _ => bin_neq_i _ _) rfl ?_
  refine JL_val _ (Ev_move rfl) rfl ?_
  refine JL_gval 4 87 false _ (Ptr nb2 0) rfl rfl (by simp) (Ev_indexArr 2 56 2 0 Tryd.underlying83 Tryd.sizeOf56 rfl rfl (by omega) (by omega) (by omega)) rfl ?_
  refine JL_gval 4 87 false _ (.agg (List.toArray (α := Value) ([I64 ((k:Int)), U64 s]))) rfl rfl (by simp) (Ev_load rfl (Ld_agg Tryd.isAgg56 Tryd.sizeOf56 rfl (MemAt.ent 1 rfl (Seg.split (p := []) (q := [I64 (v1), U64 s1]) (vs := [I64 ((k:Int)), U64 s]) (by first | rfl | (simp only [List.append_assoc, List.nil_append, List.append_nil, List.cons_append]; done)) rfl)))) rfl ?_
  refine JL_gval 4 87 false _ (Ptr nb2 2) rfl rfl (by simp) (Ev_indexArr 2 56 2 2 Tryd.underlying83 Tryd.sizeOf56 rfl rfl (by omega) (by omega) (by omega)) rfl ?_
  refine JL_gval 4 87 false _ (.agg (List.toArray (α := Value) ([I64 (v1), U64 s1]))) rfl rfl (by simp) (Ev_load rfl (Ld_agg Tryd.isAgg56 Tryd.sizeOf56 rfl (MemAt.ent 1 rfl (Seg.split (p := [I64 ((k:Int)), U64 s]) (q := []) (vs := [I64 (v1), U64 s1]) (by first | rfl | (simp only [List.append_assoc, List.nil_append, List.append_nil, List.cons_append]; done)) rfl)))) rfl ?_
  refine JL_gval 4 87 false _ (.bool (!(decide (((k:Int)) = (v1) ∧ s = s1)))) rfl rfl (by simp) (Ev_bin _ _ _ rfl rfl (fun _ => eqGuard_agg _ _ _ _ _ _ (by kernel_rfl)) (neq_struct (((k:Int)) = (v1) ∧ s = s1) (EqV.struct (d := 9999) (by kernel_rfl) (by kernel_rfl) (by kernel_rfl) (EqRs.cons 3 0 (I64 ((k:Int))) (I64 (v1)) _ _ _ (PartV.one Tryd.isAgg3 (Seg.head)) (PartV.one Tryd.isAgg3 (Seg.head)) (EqV.i64 (d := 9998) Tryd.underlying3 ((k:Int)) (v1)) (EqRs.last 22 1 (U64 s) (U64 s1) _ (PartV.one Tryd.isAgg22 (Seg.tail (Seg.head))) (PartV.one Tryd.isAgg22 (Seg.tail (Seg.head))) (EqV.u64 (d := 9998) Tryd.underlying22 s s1)))) (by first | rfl | (simp only [Bool.decide_and, Bool.and_assoc]; done) | (simp [Bool.and_assoc]; done)))) rfl ?_
  refine JL_gval 4 87 false _ _ rfl rfl (by simp) (Ev_move rfl) rfl ?_
  refine JL_gval 10 93 true _ _ rfl rfl (by rw [show (decide (((k:Int)) = (v1) ∧ s = s1)) = false from (decide_eq_false hsd)] <;> rfl) (Ev_move rfl) rfl ?_
  refine JL_gval 10 93 true _ (.bool (decide (openE kb (v1) s1 (frmT ka k s z) = 0))) rfl rfl (by rw [show (decide (((k:Int)) = (v1) ∧ s = s1)) = false from (decide_eq_false hsd)] <;> rfl) (Ev_bin _ _ _ rfl rfl (fun _ => eqGuard_errV ..) fun _ => eql_errV Tryd.underlying45 _ _) rfl ?_
  refine JL_gval 4 87 false _ _ rfl rfl (by simp) (Ev_pickT _ rfl (by rw [show (decide (((k:Int)) = (v1) ∧ s = s1)) = false from (decide_eq_false hsd)] <;> rfl) rfl) rfl ?_
  refine JL_val _ (Ev_pickF _ rfl (by simp) rfl) rfl ?_
  refine JL_val _ (Ev_move rfl) rfl ?_
  refine JL_gval 15 98 false _ (Ptr nb2 0) rfl rfl (decide_eq_false ho1) (Ev_indexArr 2 56 2 0 Tryd.underlying83 Tryd.sizeOf56 rfl rfl (by omega) (by omega) (by omega)) rfl ?_
  refine JL_gval 15 98 false _ (.agg (List.toArray (α := Value) ([I64 ((k:Int)), U64 s]))) rfl rfl (decide_eq_false ho1) (Ev_load rfl (Ld_agg Tryd.isAgg56 Tryd.sizeOf56 rfl (MemAt.ent 1 rfl (Seg.split (p := []) (q := [I64 (v1), U64 s1]) (vs := [I64 ((k:Int)), U64 s]) (by first | rfl | (simp only [List.append_assoc, List.nil_append, List.append_nil, List.cons_append]; done)) rfl)))) rfl ?_
  refine JL_gval 15 98 false _ (Ptr nb2 2) rfl rfl (decide_eq_false ho1) (Ev_indexArr 2 56 2 2 Tryd.underlying83 Tryd.sizeOf56 rfl rfl (by omega) (by omega) (by omega)) rfl ?_
  refine JL_gval 15 98 false _ (.agg (List.toArray (α := Value) ([I64 (v1), U64 s1]))) rfl rfl (decide_eq_false ho1) (Ev_load rfl (Ld_agg Tryd.isAgg56 Tryd.sizeOf56 rfl (MemAt.ent 1 rfl (Seg.split (p := [I64 ((k:Int)), U64 s]) (q := []) (vs := [I64 (v1), U64 s1]) (by first | rfl | (simp only [List.append_assoc, List.nil_append, List.append_nil, List.cons_append]; done)) rfl)))) rfl ?_
  refine JL_gval 15 98 false _ (.bool (decide (((k:Int)) = (v1) ∧ s = s1))) rfl rfl (decide_eq_false ho1) (Ev_bin _ _ _ rfl rfl (fun _ => eqGuard_agg _ _ _ _ _ _ (by kernel_rfl)) (eql_struct (((k:Int)) = (v1) ∧ s = s1) (EqV.struct (d := 9999) (by kernel_rfl) (by kernel_rfl) (by kernel_rfl) (EqRs.cons 3 0 (I64 ((k:Int))) (I64 (v1)) _ _ _ (PartV.one Tryd.isAgg3 (Seg.head)) (PartV.one Tryd.isAgg3 (Seg.head)) (EqV.i64 (d := 9998) Tryd.underlying3 ((k:Int)) (v1)) (EqRs.last 22 1 (U64 s) (U64 s1) _ (PartV.one Tryd.isAgg22 (Seg.tail (Seg.head))) (PartV.one Tryd.isAgg22 (Seg.tail (Seg.head))) (EqV.u64 (d := 9998) Tryd.underlying22 s s1)))) (by first | rfl | (simp only [Bool.decide_and, Bool.and_assoc]; done) | (simp [Bool.and_assoc]; done)))) rfl ?_
  refine JL_gval 15 98 false _ _ rfl rfl (decide_eq_false ho1) (Ev_move rfl) rfl ?_
  refine JL_gskip 21 104 true _ rfl rfl (decide_eq_false hsd) rfl ?_
  refine JL_gskip 21 104 true _ rfl rfl (decide_eq_false hsd) rfl ?_
  refine JL_gskip 21 104 true _ rfl rfl (decide_eq_false hsd) rfl ?_
  refine JL_gskip 21 104 true _ rfl rfl (decide_eq_false hsd) rfl ?_
  refine JL_gskip 21 104 true _ rfl rfl (decide_eq_false hsd) rfl ?_
  refine JL_gval 15 98 false _ _ rfl rfl (decide_eq_false ho1) (Ev_pickF _ rfl (decide_eq_false hsd) rfl) rfl ?_
  refine JL_gval 15 98 false _ _ rfl rfl (decide_eq_false ho1) (Ev_move rfl) rfl ?_
  refine JL_gskip 28 111 true _ rfl rfl rfl rfl ?_
  refine JL_gskip 28 111 true _ rfl rfl rfl rfl ?_
  refine JL_gval 15 98 false _ _ rfl rfl (decide_eq_false ho1) (Ev_pickF _ rfl rfl rfl) rfl ?_
  refine JL_val _ (Ev_pickF _ rfl (decide_eq_false ho1) rfl) rfl ?_
  refine JL_nil ?_
  refine JQ_then ?_
  refine JC_condF _ rfl rfl ?_
  refine JC_skip ?_
  refine JQ_then ?_
  refine JC_seq ?_
  refine JC_region ?_
  refine JL_val (Ptr nb2 2) (Ev_indexArr 2 56 2 2 Tryd.underlying83 Tryd.sizeOf56 rfl rfl (by omega) (by omega) (by omega)) rfl ?_
  refine JL_val (Ptr nb2 3) (Ev_fieldAddr 1 22 1 Tryd.underlying56 rfl Tryd.sizeOf22 rfl rfl) rfl ?_
  refine JL_val (U64 s1) (Ev_load rfl (Ld_one Tryd.isAgg22 (MemAt.ent 1 rfl (Seg.tail (Seg.tail (Seg.tail (Seg.head))))))) rfl ?_
  refine JL_val _ (Ev_move rfl) rfl ?_
  refine JL_val (I64 ((n:Int) + 25)) (Ev_lenX Tryd.underlying43 rfl (by omega)) rfl ?_
  refine JL_val (I64 (8*(n:Int) + 200)) (Ev_bini rfl rfl fun _ => bin_mul_i _ _ (8*(n:Int) + 200) (by omega) (by omega)) rfl ?_
  refine JL_val (U64 (UInt64.ofNat (8*n + 200))) (Ev_conv _ _ rfl fun _ => conv_i64_u64 (by rw [Tryd.underlying3]; rfl) Tryd.underlying22 (8*n + 200) _ (by omega)) rfl ?_
  refine JL_val (U64 (s1 % (UInt64.ofNat (8*n + 200)))) (Ev_bini rfl rfl fun _ => bin_rem_u64 s1 (UInt64.ofNat (8*n + 200)) (ofN_ne (by omega) (by omega))) rfl ?_
  refine JL_val (I64 (((s1 % (UInt64.ofNat (8*n + 200))).toNat:Int))) (Ev_conv _ _ rfl fun _ => conv_u64_i64 (by rw [Tryd.underlying22]; rfl) Tryd.underlying3 (s1 % (UInt64.ofNat (8*n + 200))) _ rfl (by omega)) rfl ?_
  refine JL_val _ (Ev_assign rfl) rfl ?_
  refine JL_nil ?_
  refine JQ_then ?_
  refine JC_seq ?_
  obtain ⟨dq1, hdq1, hdq1a, hdq1b⟩ : ∃ q : Nat, q = ((s1 % (UInt64.ofNat (8*n + 200))).toNat) / 8 ∧ (q : Int) = (((s1 % (UInt64.ofNat (8*n + 200))).toNat:Int)) / 8 ∧ (q * 8 ≤ ((s1 % (UInt64.ofNat (8*n + 200))).toNat) ∧ ((s1 % (UInt64.ofNat (8*n + 200))).toNat) < q * 8 + 8) := ⟨_, rfl, by first | rfl | omega, by omega⟩
  obtain ⟨dq2, hdq2, hdq2a, hdq2b⟩ : ∃ q : Nat, q = ((s1 % (UInt64.ofNat (8*n + 200))).toNat) % 8 ∧ (q : Int) = (((s1 % (UInt64.ofNat (8*n + 200))).toNat:Int)) % 8 ∧ (q < 8) := ⟨_, rfl, by first | rfl | omega, by omega⟩
  refine JC_draw 182 2 [(0, Slc nb3 0 (n + 25) cp1), (1, I64 (((s1 % (UInt64.ofNat (8*n + 200))).toNat:Int))), (2, I64 ((dq1:Int))), (3, Ptr nb3 dq1), (4, U8 (g8 (frmT ka k s z) dq1)), (5, I64 (((s1 % (UInt64.ofNat (8*n + 200))).toNat:Int))), (6, I64 ((dq2:Int))), (7, U8 ((1:UInt8) <<< UInt8.ofNat dq2)), (8, U8 ((g8 (frmT ka k s z) dq1) ^^^ ((1:UInt8) <<< UInt8.ofNat dq2))), (9, Ptr nb3 dq1)] Tryd.mixed rfl (by decide +kernel) ?_
  have hl2 : ((frmT ka k s z).set dq1 ((g8 (frmT ka k s z) dq1) ^^^ ((1:UInt8) <<< UInt8.ofNat dq2))).length = (n + 25) := by first | (rw [List.length_set]; exact (show (frmT ka k s z).length = (n + 25) from (by rw [frmT_len hz] <;> omega))) | simp [(show (frmT ka k s z).length = (n + 25) from (by rw [frmT_len hz] <;> omega))]
  refine DP_one ⟨[], [0, 1, 2, 3, 4, 5, 6, 7, 8, 9], [], [0, 1, 2, 3, 4, 5, 6, 7, 8, 9], [10]⟩ 10 _ rfl rfl (by decide +kernel) rfl ⟨⟨_, rfl, Qok_val rfl (Ev_move rfl)⟩, ⟨_, rfl, Qok_val rfl (Ev_move rfl)⟩, ⟨_, rfl, Qok_val rfl (Ev_bini rfl rfl fun _ => bin_quo_i _ _ ((dq1:Int)) (by omega) (by omega) (by omega))⟩, ⟨_, rfl, Qok_val rfl (Ev_indexSl 5 1 dq1 Tryd.underlying43 Tryd.sizeOf5 rfl rfl (by omega) (by omega) (by omega))⟩, ⟨_, rfl, Qok_val rfl (Ev_load rfl (Ld_one Tryd.isAgg5 (MemAt.ent 2 rfl (Seg.left (Seg.get (g8_get (i := dq1) (by rw [(show (frmT ka k s z).length = (n + 25) from (by rw [frmT_len hz] <;> omega))]; omega)))))))⟩, ⟨_, rfl, Qok_val rfl (Ev_move rfl)⟩, ⟨_, rfl, Qok_val rfl (Ev_bini rfl rfl fun _ => bin_rem_i _ _ ((dq2:Int)) (by omega) (by omega) (by omega))⟩, ⟨_, rfl, Qok_val rfl (Ev_bini rfl rfl fun _ => bin_shl_u8 (1:UInt8) _ _ dq2 (by omega) (by omega))⟩, ⟨_, rfl, Qok_val rfl (Ev_bini rfl rfl fun _ => bin_xor_u8 (g8 (frmT ka k s z) dq1) ((1:UInt8) <<< UInt8.ofNat dq2))⟩, ⟨_, rfl, Qok_val rfl (Ev_indexSl 5 1 dq1 Tryd.underlying43 Tryd.sizeOf5 rfl rfl (by omega) (by omega) (by omega))⟩, trivial⟩ rfl (Cok_step rfl (Step_store 2 nb3 dq1 1 (cu8 (frmT ka k s z) ++ sp1) 5 (U8 ((g8 (frmT ka k s z) dq1) ^^^ ((1:UInt8) <<< UInt8.ofNat dq2))) ([U8 ((g8 (frmT ka k s z) dq1) ^^^ ((1:UInt8) <<< UInt8.ofNat dq2))]) (cu8 ((frmT ka k s z).set dq1 ((g8 (frmT ka k s z) dq1) ^^^ ((1:UInt8) <<< UInt8.ofNat dq2))) ++ sp1) rfl rfl rfl rfl Tryd.sizeOf5 rfl (by simp [Value.oneCell']) (by simp [(show (frmT ka k s z).length = (n + 25) from (by rw [frmT_len hz] <;> omega)), hc1]; try omega) (lay_left (p := cu8 (frmT ka k s z)) (vs := [U8 ((g8 (frmT ka k s z) dq1) ^^^ ((1:UInt8) <<< UInt8.ofNat dq2))]) (o := dq1) (by simp [(show (frmT ka k s z).length = (n + 25) from (by rw [frmT_len hz] <;> omega))]; omega) (lay8 _ _ _ (by rw [(show (frmT ka k s z).length = (n + 25) from (by rw [frmT_len hz] <;> omega))]; omega))))) ?_
  rintro v1 L1 ⟨rfl, rfl⟩
  refine ⟨[], ?_⟩
  show DP _ _ _ _ _ _ _ _ [⟨nb1, cu8 ka ++ cu8 kb, 82, (0, 0)⟩, ⟨nb2, [I64 ((k:Int)), U64 s, I64 (v1), U64 s1], 83, (0, 0)⟩, ⟨nb3, cu8 ((frmT ka k s z).set dq1 ((g8 (frmT ka k s z) dq1) ^^^ ((1:UInt8) <<< UInt8.ofNat dq2))) ++ sp1, 5, (0, 0)⟩, ⟨nb4, cu8 (mid ((frmT ka k s z).drop 9) 0 n) ++ sp2, 5, (0, 0)⟩]
  refine DP_end ⟨[10], [0, 1, 2, 3, 4, 5, 6, 7, 8, 9], [0, 1, 2, 3, 4, 5, 6, 7, 8, 9], [], []⟩ rfl rfl (by decide +kernel) rfl trivial ?_
  refine K_sub (F' := [(3, Ptr nb1 0), (4, Ptr nb2 0), (6, .bool false), (7, Slc nb3 0 (n + 25) cp1), (8, errV 50 (openE kb (v1) s1 (frmT ka k s z))), (11, I64 ((openE kb (v1) s1 (frmT ka k s z):Int))), (12, I64 (((s1 % (UInt64.ofNat (8*n + 200))).toNat:Int)))]) (Sub.cons (by kernel_rfl) (Sub.cons (by kernel_rfl) (Sub.cons (by kernel_rfl) (Sub.cons (by kernel_rfl) (Sub.cons (by kernel_rfl) (Sub.cons (by kernel_rfl) (Sub.cons (by kernel_rfl) (Sub.nil)))))))) ?_
  show JQ _ _ _ [(3, Ptr nb1 0), (4, Ptr nb2 0), (6, .bool false), (7, Slc nb3 0 (n + 25) cp1), (8, errV 50 (openE kb (v1) s1 (frmT ka k s z))), (11, I64 ((openE kb (v1) s1 (frmT ka k s z):Int))), (12, I64 (((s1 % (UInt64.ofNat (8*n + 200))).toNat:Int)))] _
  refine JQ_then ?_
  refine JC_seq ?_
  have hF : (frmT ka k s z).set dq1 ((g8 (frmT ka k s z) dq1) ^^^ ((1:UInt8) <<< UInt8.ofNat dq2)) = flipB (frmT ka k s z) dq1 dq2 := (flipB_def _ _ _).symm
  have hlF : (flipB (frmT ka k s z) dq1 dq2).length = n + 25 := by rw [← hF]; exact hl2
  rw [hF]
  clear hF
  show JC _ _ _ _ [⟨nb1, cu8 ka ++ cu8 kb, 82, (0, 0)⟩, ⟨nb2, [I64 ((k:Int)), U64 s, I64 (v1), U64 s1], 83, (0, 0)⟩, ⟨nb3, cu8 (flipB (frmT ka k s z) dq1 dq2) ++ sp1, 5, (0, 0)⟩, ⟨nb4, cu8 (mid ((frmT ka k s z).drop 9) 0 n) ++ sp2, 5, (0, 0)⟩]
  by_cases hfl : openE ka (k:Int) s (flipB (frmT ka k s z) dq1 dq2) = 0
  ·
    have hin := open_flip hw hz (q := dq1) (r := dq2) (by omega) (by omega) hfl
    refine JC_region ?_
    refine JL_val (Ptr nb1 0) (Ev_indexArr 2 54 32 0 Tryd.underlying82 Tryd.sizeOf54 rfl rfl (by omega) (by omega) (by omega)) rfl ?_
    refine JL_val (.agg (cu8 ka).toArray) (Ev_load rfl (Ld_agg Tryd.isAgg54 Tryd.sizeOf54 (len_cu8 hka) (MemAt.ent 0 rfl (Seg.left (Seg.whole _))))) rfl ?_
    refine JL_val (Ptr nb2 0) (Ev_indexArr 2 56 2 0 Tryd.underlying83 Tryd.sizeOf56 rfl rfl (by omega) (by omega) (by omega)) rfl ?_
    refine JL_val (Ptr nb2 0) (Ev_fieldAddr 0 3 1 Tryd.underlying56 rfl Tryd.sizeOf3 rfl rfl) rfl ?_
    refine JL_val (I64 ((k:Int))) (Ev_load rfl (Ld_one Tryd.isAgg3 (MemAt.ent 1 rfl (Seg.head)))) rfl ?_
    refine JL_val (Ptr nb2 0) (Ev_indexArr 2 56 2 0 Tryd.underlying83 Tryd.sizeOf56 rfl rfl (by omega) (by omega) (by omega)) rfl ?_
    refine JL_val (Ptr nb2 1) (Ev_fieldAddr 1 22 1 Tryd.underlying56 rfl Tryd.sizeOf22 rfl rfl) rfl ?_
    refine JL_val (U64 s) (Ev_load rfl (Ld_one Tryd.isAgg22 (MemAt.ent 1 rfl (Seg.tail (Seg.head))))) rfl ?_
    refine JL_val _ (Ev_move rfl) rfl ?_
    refine JL_step (Step_callP 40 [.agg (cu8 ka).toArray, I64 ((k:Int)), U64 s, Slc nb3 0 (n + 25) cp1] (.tuple #[.slice (advA (some ⟨nb3, 0, none⟩) cp1 9) n (cp1 - 9), I64 (0:Int)]) (Cl_func [.agg (cu8 ka).toArray, I64 ((k:Int)), U64 s, Slc nb3 0 (n + 25) cp1] Tryd.call40 rfl) (fun w1 hw1 => ropenK_w ka ((k:Int)) s (some ⟨nb3, 0, none⟩) (n + 25) cp1 (flipB (frmT ka k s z) dq1 dq2) w1 hka hlF (fun h => by cases h) (by omega) (by omega) (RdB.of hw1 (MemAt.ent 2 rfl (Seg.left (Seg.whole _))) (by simp)) (GLr.at hw1 hGr) (GLi.at hw1 hGi) hfl)) rfl ?_
    rintro v1 L1 ⟨rfl, rfl⟩
    show JL _ _ _ _ ((145, .tuple #[.slice (advA (some ⟨nb3, 0, none⟩) cp1 9) n (cp1 - 9), I64 (0:Int)]) :: _) [⟨nb1, cu8 ka ++ cu8 kb, 82, (0, 0)⟩, ⟨nb2, [I64 ((k:Int)), U64 s, I64 (v1), U64 s1], 83, (0, 0)⟩, ⟨nb3, cu8 (flipB (frmT ka k s z) dq1 dq2) ++ sp1, 5, (0, 0)⟩, ⟨nb4, cu8 (mid ((frmT ka k s z).drop 9) 0 n) ++ sp2, 5, (0, 0)⟩]
    refine JL_val _ (Ev_move rfl) rfl ?_
    refine JL_val _ (Ev_extract rfl rfl) rfl ?_
    refine JL_val _ (Ev_extract rfl rfl) rfl ?_
    refine JL_val _ (Ev_assign rfl) rfl ?_
    refine JL_nil ?_
    refine JQ_then ?_
    refine JC_seq ?_
    refine JC_region ?_
    refine JL_val (Ptr nb1 0) (Ev_indexArr 2 54 32 0 Tryd.underlying82 Tryd.sizeOf54 rfl rfl (by omega) (by omega) (by omega)) rfl ?_
    refine JL_val (.agg (cu8 ka).toArray) (Ev_load rfl (Ld_agg Tryd.isAgg54 Tryd.sizeOf54 (len_cu8 hka) (MemAt.ent 0 rfl (Seg.left (Seg.whole _))))) rfl ?_
    refine JL_val (Ptr nb2 0) (Ev_indexArr 2 56 2 0 Tryd.underlying83 Tryd.sizeOf56 rfl rfl (by omega) (by omega) (by omega)) rfl ?_
    refine JL_val (Ptr nb2 0) (Ev_fieldAddr 0 3 1 Tryd.underlying56 rfl Tryd.sizeOf3 rfl rfl) rfl ?_
    refine JL_val (I64 ((k:Int))) (Ev_load rfl (Ld_one Tryd.isAgg3 (MemAt.ent 1 rfl (Seg.head)))) rfl ?_
    refine JL_val (Ptr nb2 0) (Ev_indexArr 2 56 2 0 Tryd.underlying83 Tryd.sizeOf56 rfl rfl (by omega) (by omega) (by omega)) rfl ?_
    refine JL_val (Ptr nb2 1) (Ev_fieldAddr 1 22 1 Tryd.underlying56 rfl Tryd.sizeOf22 rfl rfl) rfl ?_
    refine JL_val (U64 s) (Ev_load rfl (Ld_one Tryd.isAgg22 (MemAt.ent 1 rfl (Seg.tail (Seg.head))))) rfl ?_
    refine JL_val _ (Ev_move rfl) rfl ?_
    have hl3 : (mid ((flipB (frmT ka k s z) dq1 dq2).drop 9) 0 n).length = n := mid_len (by rw [List.length_drop, show (flipB (frmT ka k s z) dq1 dq2).length = (n + 25) from hlF]; omega)
    refine JL_step (Step_callN 39 [.agg (cu8 ka).toArray, I64 ((k:Int)), U64 s, Slc nb3 0 (n + 25) cp1] _ (Cl_func [.agg (cu8 ka).toArray, I64 ((k:Int)), U64 s, Slc nb3 0 (n + 25) cp1] Tryd.call39 rfl) (fun w1 hw1 => lopenK_w ka ((k:Int)) s (some ⟨nb3, 0, none⟩) (n + 25) cp1 (flipB (frmT ka k s z) dq1 dq2) w1 hka hlF (fun h => by cases h) (by omega) (by omega) (RdB.of hw1 (MemAt.ent 2 rfl (Seg.left (Seg.whole _))) (by simp)) (hG.at hw1) hfl)) rfl ?_
    rintro v1 L1 ⟨_, ⟨nb5, sp3, cp3, rfl, rfl, hc7, hc8, hc9⟩, rfl⟩
    show JL _ _ _ _ ((158, .tuple #[Slc nb5 0 n cp3, .nilIface]) :: _) [⟨nb1, cu8 ka ++ cu8 kb, 82, (0, 0)⟩, ⟨nb2, [I64 ((k:Int)), U64 s, I64 (v1), U64 s1], 83, (0, 0)⟩, ⟨nb3, cu8 (flipB (frmT ka k s z) dq1 dq2) ++ sp1, 5, (0, 0)⟩, ⟨nb4, cu8 (mid ((frmT ka k s z).drop 9) 0 n) ++ sp2, 5, (0, 0)⟩, ⟨nb5, cu8 (mid ((flipB (frmT ka k s z) dq1 dq2).drop 9) 0 n) ++ sp3, 5, (0, 0)⟩]
    refine JL_val _ (Ev_move rfl) rfl ?_
    refine JL_val _ (Ev_extract rfl rfl) rfl ?_
    refine JL_val _ (Ev_extract rfl rfl) rfl ?_
    refine JL_val _ (Ev_assign rfl) rfl ?_
    refine JL_nil ?_
    refine JQ_then ?_
    refine JC_seq ?_
    refine JC_region ?_
    refine JL_val _ (Ev_move rfl) rfl ?_
    refine JL_step (Step_callP 29 [.nilIface] (I64 (0:Int)) (Cl_func [.nilIface] Tryd.call29 rfl) (fun w1 hw1 => errNo_c w1)) rfl ?_
    rintro v1 L1 ⟨rfl, rfl⟩
    show JL _ _ _ _ ((162, I64 (0:Int)) :: _) [⟨nb1, cu8 ka ++ cu8 kb, 82, (0, 0)⟩, ⟨nb2, [I64 ((k:Int)), U64 s, I64 (v1), U64 s1], 83, (0, 0)⟩, ⟨nb3, cu8 (flipB (frmT ka k s z) dq1 dq2) ++ sp1, 5, (0, 0)⟩, ⟨nb4, cu8 (mid ((frmT ka k s z).drop 9) 0 n) ++ sp2, 5, (0, 0)⟩, ⟨nb5, cu8 (mid ((flipB (frmT ka k s z) dq1 dq2).drop 9) 0 n) ++ sp3, 5, (0, 0)⟩]
    refine JL_val _ (Ev_move rfl) rfl ?_
    refine JL_val (.bool (decide ((0:Int) = (0:Int)))) (Ev_bini rfl rfl fun _ => bin_eql_i _ _) rfl ?_
    refine JL_val _ (Ev_move rfl) rfl ?_
    refine JL_gval 4 165 true _ _ rfl rfl (by decide) (Ev_move rfl) rfl ?_
    refine JL_gval 4 165 true _ (.bool false) rfl rfl (by decide) (Ev_bin _ _ _ rfl rfl (fun _ => eqGuard_nn ..) fun _ => neq_if_nil_nil Tryd.underlying45) rfl ?_
    refine JL_gval 4 165 true _ _ rfl rfl (by decide) (Ev_move rfl) rfl ?_
    refine JL_gval 7 168 false _ _ rfl rfl rfl (Ev_move rfl) rfl ?_
    refine JL_gval 7 168 false _ (I64 ((dq1:Int))) rfl rfl rfl (Ev_bini rfl rfl fun _ => bin_quo_i _ _ ((dq1:Int)) (by omega) (by omega) (by omega)) rfl ?_
    refine JL_gval 7 168 false _ (.bool (decide ((9:Int) ≤ ((dq1:Int))))) rfl rfl rfl (Ev_bini rfl rfl fun _ => bin_geq_i _ _) rfl ?_
    refine JL_gval 7 168 false _ _ rfl rfl rfl (Ev_move rfl) rfl ?_
    refine JL_gval 11 172 true _ _ rfl rfl (decide_eq_true (by omega)) (Ev_move rfl) rfl ?_
    refine JL_gval 11 172 true _ (I64 ((dq1:Int))) rfl rfl (decide_eq_true (by omega)) (Ev_bini rfl rfl fun _ => bin_quo_i _ _ ((dq1:Int)) (by omega) (by omega) (by omega)) rfl ?_
    refine JL_gval 11 172 true _ _ rfl rfl (decide_eq_true (by omega)) (Ev_move rfl) rfl ?_
    refine JL_gval 11 172 true _ (I64 ((n:Int) + 25)) rfl rfl (decide_eq_true (by omega)) (Ev_lenX Tryd.underlying43 rfl (by omega)) rfl ?_
    refine JL_gval 11 172 true _ (I64 ((n:Int) + 9)) rfl rfl (decide_eq_true (by omega)) (Ev_bini rfl rfl fun _ => bin_sub_i _ _ ((n:Int) + 9) (by omega) (by omega)) rfl ?_
    refine JL_gval 11 172 true _ (.bool (decide (((dq1:Int)) < ((n:Int) + 9)))) rfl rfl (decide_eq_true (by omega)) (Ev_bini rfl rfl fun _ => bin_lss_i _ _) rfl ?_
    refine JL_gval 7 168 false _ _ rfl rfl rfl (Ev_pickT _ rfl (decide_eq_true (by omega)) rfl) rfl ?_
    refine JL_gval 4 165 true _ _ rfl rfl (by decide) (Ev_pickF _ rfl rfl rfl) rfl ?_
    refine JL_val _ (Ev_pickT _ rfl (by decide) rfl) rfl ?_
    refine JL_val _ (Ev_assign rfl) rfl ?_
    refine JL_nil ?_
    refine JQ_then ?_
    refine JC_ret ?_
    refine JQ_ret (.bool (decide (((dq1:Int)) < ((n:Int) + 9)))) (res1 Tryd.results8 (RV_tmp rfl)) fun w1 hw1 => ?_
    exact ⟨_, [], rfl, ⟨by rw [show (decide (((dq1:Int)) < ((n:Int) + 9))) = true from (decide_eq_true (by omega))], rfl⟩, hw1.sub (by simp) (by simp)⟩
  ·
    refine JC_region ?_
    refine JL_val (Ptr nb1 0) (Ev_indexArr 2 54 32 0 Tryd.underlying82 Tryd.sizeOf54 rfl rfl (by omega) (by omega) (by omega)) rfl ?_
    refine JL_val (.agg (cu8 ka).toArray) (Ev_load rfl (Ld_agg Tryd.isAgg54 Tryd.sizeOf54 (len_cu8 hka) (MemAt.ent 0 rfl (Seg.left (Seg.whole _))))) rfl ?_
    refine JL_val (Ptr nb2 0) (Ev_indexArr 2 56 2 0 Tryd.underlying83 Tryd.sizeOf56 rfl rfl (by omega) (by omega) (by omega)) rfl ?_
    refine JL_val (Ptr nb2 0) (Ev_fieldAddr 0 3 1 Tryd.underlying56 rfl Tryd.sizeOf3 rfl rfl) rfl ?_
    refine JL_val (I64 ((k:Int))) (Ev_load rfl (Ld_one Tryd.isAgg3 (MemAt.ent 1 rfl (Seg.head)))) rfl ?_
    refine JL_val (Ptr nb2 0) (Ev_indexArr 2 56 2 0 Tryd.underlying83 Tryd.sizeOf56 rfl rfl (by omega) (by omega) (by omega)) rfl ?_
    refine JL_val (Ptr nb2 1) (Ev_fieldAddr 1 22 1 Tryd.underlying56 rfl Tryd.sizeOf22 rfl rfl) rfl ?_
    refine JL_val (U64 s) (Ev_load rfl (Ld_one Tryd.isAgg22 (MemAt.ent 1 rfl (Seg.tail (Seg.head))))) rfl ?_
    refine JL_val _ (Ev_move rfl) rfl ?_
    refine JL_step (Step_callP 40 [.agg (cu8 ka).toArray, I64 ((k:Int)), U64 s, Slc nb3 0 (n + 25) cp1] (.tuple #[.slice none 0 0, I64 ((openE ka ((k:Int)) s (flipB (frmT ka k s z) dq1 dq2):Int))]) (Cl_func [.agg (cu8 ka).toArray, I64 ((k:Int)), U64 s, Slc nb3 0 (n + 25) cp1] Tryd.call40 rfl) (fun w1 hw1 => ropenB_w ka ((k:Int)) s (some ⟨nb3, 0, none⟩) (n + 25) cp1 (flipB (frmT ka k s z) dq1 dq2) w1 hka hlF (fun h => by cases h) (by omega) (by omega) (RdB.of hw1 (MemAt.ent 2 rfl (Seg.left (Seg.whole _))) (by simp)) (GLr.at hw1 hGr) (GLi.at hw1 hGi) hfl)) rfl ?_
    rintro v1 L1 ⟨rfl, rfl⟩
    show JL _ _ _ _ ((145, .tuple #[.slice none 0 0, I64 ((openE ka ((k:Int)) s (flipB (frmT ka k s z) dq1 dq2):Int))]) :: _) [⟨nb1, cu8 ka ++ cu8 kb, 82, (0, 0)⟩, ⟨nb2, [I64 ((k:Int)), U64 s, I64 (v1), U64 s1], 83, (0, 0)⟩, ⟨nb3, cu8 (flipB (frmT ka k s z) dq1 dq2) ++ sp1, 5, (0, 0)⟩, ⟨nb4, cu8 (mid ((frmT ka k s z).drop 9) 0 n) ++ sp2, 5, (0, 0)⟩]
    refine JL_val _ (Ev_move rfl) rfl ?_
    refine JL_val _ (Ev_extract rfl rfl) rfl ?_
    refine JL_val _ (Ev_extract rfl rfl) rfl ?_
    refine JL_val _ (Ev_assign rfl) rfl ?_
    refine JL_nil ?_
    refine JQ_then ?_
    refine JC_seq ?_
    refine JC_region ?_
    refine JL_val (Ptr nb1 0) (Ev_indexArr 2 54 32 0 Tryd.underlying82 Tryd.sizeOf54 rfl rfl (by omega) (by omega) (by omega)) rfl ?_
    refine JL_val (.agg (cu8 ka).toArray) (Ev_load rfl (Ld_agg Tryd.isAgg54 Tryd.sizeOf54 (len_cu8 hka) (MemAt.ent 0 rfl (Seg.left (Seg.whole _))))) rfl ?_
    refine JL_val (Ptr nb2 0) (Ev_indexArr 2 56 2 0 Tryd.underlying83 Tryd.sizeOf56 rfl rfl (by omega) (by omega) (by omega)) rfl ?_
    refine JL_val (Ptr nb2 0) (Ev_fieldAddr 0 3 1 Tryd.underlying56 rfl Tryd.sizeOf3 rfl rfl) rfl ?_
    refine JL_val (I64 ((k:Int))) (Ev_load rfl (Ld_one Tryd.isAgg3 (MemAt.ent 1 rfl (Seg.head)))) rfl ?_
    refine JL_val (Ptr nb2 0) (Ev_indexArr 2 56 2 0 Tryd.underlying83 Tryd.sizeOf56 rfl rfl (by omega) (by omega) (by omega)) rfl ?_
    refine JL_val (Ptr nb2 1) (Ev_fieldAddr 1 22 1 Tryd.underlying56 rfl Tryd.sizeOf22 rfl rfl) rfl ?_
    refine JL_val (U64 s) (Ev_load rfl (Ld_one Tryd.isAgg22 (MemAt.ent 1 rfl (Seg.tail (Seg.head))))) rfl ?_
    refine JL_val _ (Ev_move rfl) rfl ?_
    refine JL_step (Step_callP 39 [.agg (cu8 ka).toArray, I64 ((k:Int)), U64 s, Slc nb3 0 (n + 25) cp1] (.tuple #[.slice none 0 0, errV 50 (openE ka ((k:Int)) s (flipB (frmT ka k s z) dq1 dq2))]) (Cl_func [.agg (cu8 ka).toArray, I64 ((k:Int)), U64 s, Slc nb3 0 (n + 25) cp1] Tryd.call39 rfl) (fun w1 hw1 => lopenB_w ka ((k:Int)) s (some ⟨nb3, 0, none⟩) (n + 25) cp1 (flipB (frmT ka k s z) dq1 dq2) w1 hka hlF (fun h => by cases h) (by omega) (by omega) (RdB.of hw1 (MemAt.ent 2 rfl (Seg.left (Seg.whole _))) (by simp)) (hG.at hw1) hfl)) rfl ?_
    rintro v1 L1 ⟨rfl, rfl⟩
    show JL _ _ _ _ ((158, .tuple #[.slice none 0 0, errV 50 (openE ka ((k:Int)) s (flipB (frmT ka k s z) dq1 dq2))]) :: _) [⟨nb1, cu8 ka ++ cu8 kb, 82, (0, 0)⟩, ⟨nb2, [I64 ((k:Int)), U64 s, I64 (v1), U64 s1], 83, (0, 0)⟩, ⟨nb3, cu8 (flipB (frmT ka k s z) dq1 dq2) ++ sp1, 5, (0, 0)⟩, ⟨nb4, cu8 (mid ((frmT ka k s z).drop 9) 0 n) ++ sp2, 5, (0, 0)⟩]
    refine JL_val _ (Ev_move rfl) rfl ?_
    refine JL_val _ (Ev_extract rfl rfl) rfl ?_
    refine JL_val _ (Ev_extract rfl rfl) rfl ?_
    refine JL_val _ (Ev_assign rfl) rfl ?_
    refine JL_nil ?_
    refine JQ_then ?_
    refine JC_seq ?_
    refine JC_region ?_
    refine JL_val _ (Ev_move rfl) rfl ?_
    refine JL_step (Step_callP 29 [errV 50 (openE ka ((k:Int)) s (flipB (frmT ka k s z) dq1 dq2))] (I64 ((openE ka ((k:Int)) s (flipB (frmT ka k s z) dq1 dq2):Int))) (Cl_func [errV 50 (openE ka ((k:Int)) s (flipB (frmT ka k s z) dq1 dq2))] Tryd.call29 rfl) (fun w1 hw1 => errNum_w (openE ka ((k:Int)) s (flipB (frmT ka k s z) dq1 dq2)) w1)) rfl ?_
    rintro v1 L1 ⟨rfl, rfl⟩
    show JL _ _ _ _ ((162, I64 ((openE ka ((k:Int)) s (flipB (frmT ka k s z) dq1 dq2):Int))) :: _) [⟨nb1, cu8 ka ++ cu8 kb, 82, (0, 0)⟩, ⟨nb2, [I64 ((k:Int)), U64 s, I64 (v1), U64 s1], 83, (0, 0)⟩, ⟨nb3, cu8 (flipB (frmT ka k s z) dq1 dq2) ++ sp1, 5, (0, 0)⟩, ⟨nb4, cu8 (mid ((frmT ka k s z).drop 9) 0 n) ++ sp2, 5, (0, 0)⟩]
    refine JL_val _ (Ev_move rfl) rfl ?_
    refine JL_val (.bool (decide (((openE ka ((k:Int)) s (flipB (frmT ka k s z) dq1 dq2):Int)) = ((openE ka ((k:Int)) s (flipB (frmT ka k s z) dq1 dq2):Int))))) (Ev_bini rfl rfl fun _ => bin_eql_i _ _) rfl ?_
    refine JL_val _ (Ev_move rfl) rfl ?_
    refine JL_gval 4 165 true _ _ rfl rfl (by simp) (Ev_move rfl) rfl ?_
    refine JL_gval 4 165 true _ (.bool (!(decide (openE ka ((k:Int)) s (flipB (frmT ka k s z) dq1 dq2) = 0)))) rfl rfl (by simp) (Ev_bin _ _ _ rfl rfl (fun _ => eqGuard_errV ..) fun _ => neq_errV Tryd.underlying45 _ _) rfl ?_
    refine JL_gval 4 165 true _ _ rfl rfl (by simp) (Ev_move rfl) rfl ?_
    refine JL_gskip 7 168 false _ rfl rfl (by rw [show (decide (openE ka ((k:Int)) s (flipB (frmT ka k s z) dq1 dq2) = 0)) = false from (decide_eq_false hfl)] <;> rfl) rfl ?_
    refine JL_gskip 7 168 false _ rfl rfl (by rw [show (decide (openE ka ((k:Int)) s (flipB (frmT ka k s z) dq1 dq2) = 0)) = false from (decide_eq_false hfl)] <;> rfl) rfl ?_
    refine JL_gskip 7 168 false _ rfl rfl (by rw [show (decide (openE ka ((k:Int)) s (flipB (frmT ka k s z) dq1 dq2) = 0)) = false from (decide_eq_false hfl)] <;> rfl) rfl ?_
    refine JL_gskip 7 168 false _ rfl rfl (by rw [show (decide (openE ka ((k:Int)) s (flipB (frmT ka k s z) dq1 dq2) = 0)) = false from (decide_eq_false hfl)] <;> rfl) rfl ?_
    refine JL_gskipU 11 172 true rfl rfl rfl ?_
    refine JL_gskipU 11 172 true rfl rfl rfl ?_
    refine JL_gskipU 11 172 true rfl rfl rfl ?_
    refine JL_gskipU 11 172 true rfl rfl rfl ?_
    refine JL_gskipU 11 172 true rfl rfl rfl ?_
    refine JL_gskipU 11 172 true rfl rfl rfl ?_
    refine JL_gskip 7 168 false _ rfl rfl (by rw [show (decide (openE ka ((k:Int)) s (flipB (frmT ka k s z) dq1 dq2) = 0)) = false from (decide_eq_false hfl)] <;> rfl) rfl ?_
    refine JL_gval 4 165 true _ _ rfl rfl (by simp) (Ev_pickT _ rfl (by rw [show (decide (openE ka ((k:Int)) s (flipB (frmT ka k s z) dq1 dq2) = 0)) = false from (decide_eq_false hfl)] <;> rfl) rfl) rfl ?_
    refine JL_val _ (Ev_pickT _ rfl (by simp) rfl) rfl ?_
    refine JL_val _ (Ev_assign rfl) rfl ?_
    refine JL_nil ?_
    refine JQ_then ?_
    refine JC_ret ?_
    refine JQ_ret (.bool true) (res1 Tryd.results8 (RV_tmp rfl)) fun w1 hw1 => ?_
    exact ⟨_, [], rfl, ⟨by rw [show (true) = true from rfl], rfl⟩, hw1.sub (by simp) (by simp)⟩

theorem linkBackE_c (ka kb : List UInt8) (k : Nat) (s : UInt64) (v1 : Int) (s1 : UInt64) (az : Option Addr) (n cz : Nat) (z : List UInt8)  (w : World) (hka : ka.length = 32) (hkb : kb.length = 32) (hz : z.length = n) (hcb : az = none → cz = 0) (hnc : n ≤ cz) (hcm : cz ≤ maxLen) (hr : RdB w [] az z) (hG : GLs w) (hGr : GLr w) (hGi : GLi w) (hn : n ≤ 3000) (hw : k = 1 ∨ k = 2) (ho1 : openE kb v1 s1 (frmT ka k s z) ≠ 0) (hsd : (k:Int) = v1 ∧ s = s1) (hkk : ¬ ka = kb) : Calls Tryd.prog 8 #[.agg (cu8 ka ++ cu8 kb).toArray, .agg (List.toArray (α := Value) ([I64 ((k:Int)), U64 s, I64 (v1), U64 s1])), .slice az n cz] w (Post w [] (fun v L => v = .bool true ∧ L = [])) := by
  have hmx : maxLen = 9223372036854775807 := rfl
  have hkq := rem_lt (m := 8*n + 200) s1 (by omega) (by omega)
  refine enter (P := Tryd.prog) (f := 8) (fn := Tryd.f8) w [] 182 [] [.agg (cu8 ka ++ cu8 kb).toArray, .agg (List.toArray (α := Value) ([I64 ((k:Int)), U64 s, I64 (v1), U64 s1])), .slice az n cz] Tryd.func8 rfl rfl (by simp) (Hp.start (by simp) (by simp) (by simp)) ?_
  show JC _ _ _ [(0, .agg (cu8 ka ++ cu8 kb).toArray), (1, .agg (List.toArray (α := Value) ([I64 ((k:Int)), U64 s, I64 (v1), U64 s1]))), (2, .slice az n cz)] _
  refine JC_seq ?_
  refine JC_region ?_
  refine JL_step (Step_box (.agg (cu8 ka ++ cu8 kb).toArray) (cu8 ka ++ cu8 kb) rfl (by first | rfl | simp)) rfl ?_
  rintro v1 L1 ⟨nb1, hnb1, rfl, rfl⟩
  show JL _ _ _ _ ((3, Ptr nb1 0) :: _) [⟨nb1, cu8 ka ++ cu8 kb, 82, (0, 0)⟩]
  refine JL_step (Step_box (.agg (List.toArray (α := Value) ([I64 ((k:Int)), U64 s, I64 (v1), U64 s1]))) ([I64 ((k:Int)), U64 s, I64 (v1), U64 s1]) rfl (by first | rfl | simp)) rfl ?_
  rintro v1 L1 ⟨nb2, hnb2, rfl, rfl⟩
  show JL _ _ _ _ ((4, Ptr nb2 0) :: _) [⟨nb1, cu8 ka ++ cu8 kb, 82, (0, 0)⟩, ⟨nb2, [I64 ((k:Int)), U64 s, I64 (v1), U64 s1], 83, (0, 0)⟩]
  refine JL_val _ (Ev_assign rfl) rfl ?_
  refine JL_nil ?_
  refine JQ_then ?_
  refine JC_seq ?_
  refine JC_seq ?_
  refine JC_region ?_
  refine JL_step (Step_callP 26 [] (.bool true) (Cl_func [] Tryd.call26 rfl) (fun w1 hw1 => alive15_c  w1 (hG.at hw1))) rfl ?_
  rintro v1 L1 ⟨rfl, rfl⟩
  show JL _ _ _ _ ((13, .bool true) :: _) [⟨nb1, cu8 ka ++ cu8 kb, 82, (0, 0)⟩, ⟨nb2, [I64 ((k:Int)), U64 s, I64 (v1), U64 s1], 83, (0, 0)⟩]
  refine JL_val (.bool (!true)) (Ev_not rfl) rfl ?_
  refine JL_nil ?_
  refine JQ_then ?_
  refine JC_condF _ rfl rfl ?_
  refine JC_skip ?_
  refine JQ_then ?_
  refine JC_seq ?_
  refine JC_seq ?_
  refine JC_region ?_
  refine JL_val _ (Ev_move rfl) rfl ?_
  refine JL_val (I64 ((n:Int))) (Ev_len Tryd.underlying43 rfl) rfl ?_
  refine JL_val (.bool (decide ((3000:Int) < ((n:Int))))) (Ev_bini rfl rfl fun _ => bin_gtr_i _ _) rfl ?_
  refine JL_nil ?_
  refine JQ_then ?_
  refine JC_condF _ rfl (decide_eq_false (by omega)) ?_
  refine JC_skip ?_
  refine JQ_then ?_
  refine JC_seq ?_
  refine JC_region ?_
  refine JL_val (Ptr nb1 0) (Ev_indexArr 2 54 32 0 Tryd.underlying82 Tryd.sizeOf54 rfl rfl (by omega) (by omega) (by omega)) rfl ?_
  refine JL_val (.agg (cu8 ka).toArray) (Ev_load rfl (Ld_agg Tryd.isAgg54 Tryd.sizeOf54 (len_cu8 hka) (MemAt.ent 0 rfl (Seg.left (Seg.whole _))))) rfl ?_
  refine JL_val (Ptr nb2 0) (Ev_indexArr 2 56 2 0 Tryd.underlying83 Tryd.sizeOf56 rfl rfl (by omega) (by omega) (by omega)) rfl ?_
  refine JL_val (Ptr nb2 0) (Ev_fieldAddr 0 3 1 Tryd.underlying56 rfl Tryd.sizeOf3 rfl rfl) rfl ?_
  refine JL_val (I64 ((k:Int))) (Ev_load rfl (Ld_one Tryd.isAgg3 (MemAt.ent 1 rfl (Seg.head)))) rfl ?_
  refine JL_val (Ptr nb2 0) (Ev_indexArr 2 56 2 0 Tryd.underlying83 Tryd.sizeOf56 rfl rfl (by omega) (by omega) (by omega)) rfl ?_
  refine JL_val (Ptr nb2 1) (Ev_fieldAddr 1 22 1 Tryd.underlying56 rfl Tryd.sizeOf22 rfl rfl) rfl ?_
  refine JL_val (U64 s) (Ev_load rfl (Ld_one Tryd.isAgg22 (MemAt.ent 1 rfl (Seg.tail (Seg.head))))) rfl ?_
  refine JL_val _ (Ev_move rfl) rfl ?_
  refine JL_step (Step_callN 27 [.agg (cu8 ka).toArray, I64 ((k:Int)), U64 s, .slice az n cz] _ (Cl_func [.agg (cu8 ka).toArray, I64 ((k:Int)), U64 s, .slice az n cz] Tryd.call27 rfl) (fun w1 hw1 => lseal_c ka k s az n cz z (n + 25) w1 hka hz hcb (by omega) (by omega) (hr.at (M' := []) hw1 (by simp)) hw (by omega) (by omega) (hG.at hw1))) rfl ?_
  rintro v1 L1 ⟨_, ⟨nb3, sp1, cp1, rfl, rfl, hc1, hc2, hc3⟩, rfl⟩
  show JL _ _ _ _ ((28, .tuple #[Slc nb3 0 (n + 25) cp1, .nilIface]) :: _) [⟨nb1, cu8 ka ++ cu8 kb, 82, (0, 0)⟩, ⟨nb2, [I64 ((k:Int)), U64 s, I64 (v1), U64 s1], 83, (0, 0)⟩, ⟨nb3, cu8 (frmT ka k s z) ++ sp1, 5, (0, 0)⟩]
  refine JL_val _ (Ev_move rfl) rfl ?_
  refine JL_val _ (Ev_extract rfl rfl) rfl ?_
  refine JL_val _ (Ev_extract rfl rfl) rfl ?_
  refine JL_val _ (Ev_assign rfl) rfl ?_
  refine JL_val _ (Ev_assign rfl) rfl ?_
  refine JL_nil ?_
  refine JQ_then ?_
  refine JC_seq ?_
  refine JC_seq ?_
  refine JC_region ?_
  refine JL_val _ (Ev_move rfl) rfl ?_
  refine JL_val (.bool false) (Ev_bin _ _ _ rfl rfl (fun _ => eqGuard_nn ..) fun _ => neq_if_nil_nil Tryd.underlying45) rfl ?_
  refine JL_nil ?_
  refine JQ_then ?_
  refine JC_condF _ rfl rfl ?_
  refine JC_skip ?_
  refine JQ_then ?_
  refine JC_seq ?_
  refine JC_region ?_
  refine JL_val (Ptr nb1 0) (Ev_indexArr 2 54 32 0 Tryd.underlying82 Tryd.sizeOf54 rfl rfl (by omega) (by omega) (by omega)) rfl ?_
  refine JL_val (.agg (cu8 ka).toArray) (Ev_load rfl (Ld_agg Tryd.isAgg54 Tryd.sizeOf54 (len_cu8 hka) (MemAt.ent 0 rfl (Seg.left (Seg.whole _))))) rfl ?_
  refine JL_val (Ptr nb2 0) (Ev_indexArr 2 56 2 0 Tryd.underlying83 Tryd.sizeOf56 rfl rfl (by omega) (by omega) (by omega)) rfl ?_
  refine JL_val (Ptr nb2 0) (Ev_fieldAddr 0 3 1 Tryd.underlying56 rfl Tryd.sizeOf3 rfl rfl) rfl ?_
  refine JL_val (I64 ((k:Int))) (Ev_load rfl (Ld_one Tryd.isAgg3 (MemAt.ent 1 rfl (Seg.head)))) rfl ?_
  refine JL_val (Ptr nb2 0) (Ev_indexArr 2 56 2 0 Tryd.underlying83 Tryd.sizeOf56 rfl rfl (by omega) (by omega) (by omega)) rfl ?_
  refine JL_val (Ptr nb2 1) (Ev_fieldAddr 1 22 1 Tryd.underlying56 rfl Tryd.sizeOf22 rfl rfl) rfl ?_
  refine JL_val (U64 s) (Ev_load rfl (Ld_one Tryd.isAgg22 (MemAt.ent 1 rfl (Seg.tail (Seg.head))))) rfl ?_
  refine JL_val _ (Ev_move rfl) rfl ?_
  have hl1 : (mid ((frmT ka k s z).drop 9) 0 n).length = n := mid_len (by rw [List.length_drop, show (frmT ka k s z).length = (n + 25) from (show (frmT ka k s z).length = (n + 25) from (by rw [frmT_len hz] <;> omega))]; omega)
  refine JL_step (Step_callN 39 [.agg (cu8 ka).toArray, I64 ((k:Int)), U64 s, Slc nb3 0 (n + 25) cp1] _ (Cl_func [.agg (cu8 ka).toArray, I64 ((k:Int)), U64 s, Slc nb3 0 (n + 25) cp1] Tryd.call39 rfl) (fun w1 hw1 => lopenK_w ka ((k:Int)) s (some ⟨nb3, 0, none⟩) (n + 25) cp1 (frmT ka k s z) w1 hka (show (frmT ka k s z).length = (n + 25) from (by rw [frmT_len hz] <;> omega)) (fun h => by cases h) (by omega) (by omega) (RdB.of hw1 (MemAt.ent 2 rfl (Seg.left (Seg.whole _))) (by simp)) (hG.at hw1) (open_frm hw (by rw [hz]; omega)))) rfl ?_
  rintro v1 L1 ⟨_, ⟨nb4, sp2, cp2, rfl, rfl, hc4, hc5, hc6⟩, rfl⟩
  show JL _ _ _ _ ((46, .tuple #[Slc nb4 0 n cp2, .nilIface]) :: _) [⟨nb1, cu8 ka ++ cu8 kb, 82, (0, 0)⟩, ⟨nb2, [I64 ((k:Int)), U64 s, I64 (v1), U64 s1], 83, (0, 0)⟩, ⟨nb3, cu8 (frmT ka k s z) ++ sp1, 5, (0, 0)⟩, ⟨nb4, cu8 (mid ((frmT ka k s z).drop 9) 0 n) ++ sp2, 5, (0, 0)⟩]
  refine JL_val _ (Ev_move rfl) rfl ?_
  refine JL_val _ (Ev_extract rfl rfl) rfl ?_
  refine JL_val _ (Ev_extract rfl rfl) rfl ?_
  refine JL_val _ (Ev_assign rfl) rfl ?_
  refine JL_val _ (Ev_assign rfl) rfl ?_
  refine JL_nil ?_
  refine JQ_then ?_
  refine JC_seq ?_
  refine JC_seq ?_
  refine JC_region ?_
  refine JL_val _ (Ev_move rfl) rfl ?_
  refine JL_val (.bool false) (Ev_bin _ _ _ rfl rfl (fun _ => eqGuard_nn ..) fun _ => neq_if_nil_nil Tryd.underlying45) rfl ?_
  refine JL_val _ (Ev_move rfl) rfl ?_
  refine JL_gval 2 51 false _ _ rfl rfl rfl (Ev_move rfl) rfl ?_
  refine JL_gval 2 51 false _ _ rfl rfl rfl (Ev_move rfl) rfl ?_
  refine JL_gstep 2 51 false _ rfl rfl rfl (Step_callP 24 [Slc nb4 0 n cp2, .slice az n cz] (.bool (decide ((mid ((frmT ka k s z).drop 9) 0 n) = z))) (Cl_func [Slc nb4 0 n cp2, .slice az n cz] Tryd.call24 rfl) (fun w1 hw1 => bytes_c (some ⟨nb4, 0, none⟩) az n n cp2 cz (mid ((frmT ka k s z).drop 9) 0 n) z w1 hl1 hz (RdB.of hw1 (MemAt.ent 3 rfl (Seg.left (Seg.whole _))) (by simp)) (hr.at (M' := []) hw1 (by simp)))) rfl ?_
  rintro v1 L1 ⟨rfl, rfl⟩
  show JL _ _ _ _ ((54, .bool (decide ((mid ((frmT ka k s z).drop 9) 0 n) = z))) :: _) [⟨nb1, cu8 ka ++ cu8 kb, 82, (0, 0)⟩, ⟨nb2, [I64 ((k:Int)), U64 s, I64 (v1), U64 s1], 83, (0, 0)⟩, ⟨nb3, cu8 (frmT ka k s z) ++ sp1, 5, (0, 0)⟩, ⟨nb4, cu8 (mid ((frmT ka k s z).drop 9) 0 n) ++ sp2, 5, (0, 0)⟩]
  refine JL_gval 2 51 false _ (.bool (!(decide ((mid ((frmT ka k s z).drop 9) 0 n) = z)))) rfl rfl rfl (Ev_not rfl) rfl ?_
  refine JL_val _ (Ev_pickF _ rfl rfl rfl) rfl ?_
  refine JL_nil ?_
  refine JQ_then ?_
  refine JC_condF _ rfl (by rw [show (decide ((mid ((frmT ka k s z).drop 9) 0 n) = z)) = true from (decide_eq_true (body_frm hz))] <;> rfl) ?_
  refine JC_skip ?_
  refine JQ_then ?_
  refine JC_seq ?_
  refine JC_region ?_
  refine JL_val (Ptr nb1 32) (Ev_indexArr 2 54 32 32 Tryd.underlying82 Tryd.sizeOf54 rfl rfl (by omega) (by omega) (by omega)) rfl ?_
  refine JL_val (.agg (cu8 kb).toArray) (Ev_load rfl (Ld_agg Tryd.isAgg54 Tryd.sizeOf54 (len_cu8 hkb) (MemAt.ent 0 rfl (Seg.right 32 0 (by simp [hka]) rfl (Seg.whole _))))) rfl ?_
  refine JL_val (Ptr nb2 2) (Ev_indexArr 2 56 2 2 Tryd.underlying83 Tryd.sizeOf56 rfl rfl (by omega) (by omega) (by omega)) rfl ?_
  refine JL_val (Ptr nb2 2) (Ev_fieldAddr 0 3 1 Tryd.underlying56 rfl Tryd.sizeOf3 rfl rfl) rfl ?_
  refine JL_val (I64 (v1)) (Ev_load rfl (Ld_one Tryd.isAgg3 (MemAt.ent 1 rfl (Seg.tail (Seg.tail (Seg.head)))))) rfl ?_
  refine JL_val (Ptr nb2 2) (Ev_indexArr 2 56 2 2 Tryd.underlying83 Tryd.sizeOf56 rfl rfl (by omega) (by omega) (by omega)) rfl ?_
  refine JL_val (Ptr nb2 3) (Ev_fieldAddr 1 22 1 Tryd.underlying56 rfl Tryd.sizeOf22 rfl rfl) rfl ?_
  refine JL_val (U64 s1) (Ev_load rfl (Ld_one Tryd.isAgg22 (MemAt.ent 1 rfl (Seg.tail (Seg.tail (Seg.tail (Seg.head))))))) rfl ?_
  refine JL_val _ (Ev_move rfl) rfl ?_
  refine JL_step (Step_callP 40 [.agg (cu8 kb).toArray, I64 (v1), U64 s1, Slc nb3 0 (n + 25) cp1] (.tuple #[.slice none 0 0, I64 ((openE kb (v1) s1 (frmT ka k s z):Int))]) (Cl_func [.agg (cu8 kb).toArray, I64 (v1), U64 s1, Slc nb3 0 (n + 25) cp1] Tryd.call40 rfl) (fun w1 hw1 => ropenB_w kb (v1) s1 (some ⟨nb3, 0, none⟩) (n + 25) cp1 (frmT ka k s z) w1 hkb (show (frmT ka k s z).length = (n + 25) from (by rw [frmT_len hz] <;> omega)) (fun h => by cases h) (by omega) (by omega) (RdB.of hw1 (MemAt.ent 2 rfl (Seg.left (Seg.whole _))) (by simp)) (GLr.at hw1 hGr) (GLi.at hw1 hGi) ho1)) rfl ?_
  rintro v1 L1 ⟨rfl, rfl⟩
  show JL _ _ _ _ ((67, .tuple #[.slice none 0 0, I64 ((openE kb (v1) s1 (frmT ka k s z):Int))]) :: _) [⟨nb1, cu8 ka ++ cu8 kb, 82, (0, 0)⟩, ⟨nb2, [I64 ((k:Int)), U64 s, I64 (v1), U64 s1], 83, (0, 0)⟩, ⟨nb3, cu8 (frmT ka k s z) ++ sp1, 5, (0, 0)⟩, ⟨nb4, cu8 (mid ((frmT ka k s z).drop 9) 0 n) ++ sp2, 5, (0, 0)⟩]
  refine JL_val _ (Ev_move rfl) rfl ?_
  refine JL_val _ (Ev_extract rfl rfl) rfl ?_
  refine JL_val _ (Ev_extract rfl rfl) rfl ?_
  refine JL_val _ (Ev_assign rfl) rfl ?_
  refine JL_val _ (Ev_assign rfl) rfl ?_
  refine JL_nil ?_
  refine JQ_then ?_
  refine JC_seq ?_
  refine JC_region ?_
  refine JL_val (Ptr nb1 32) (Ev_indexArr 2 54 32 32 Tryd.underlying82 Tryd.sizeOf54 rfl rfl (by omega) (by omega) (by omega)) rfl ?_
  refine JL_val (.agg (cu8 kb).toArray) (Ev_load rfl (Ld_agg Tryd.isAgg54 Tryd.sizeOf54 (len_cu8 hkb) (MemAt.ent 0 rfl (Seg.right 32 0 (by simp [hka]) rfl (Seg.whole _))))) rfl ?_
  refine JL_val (Ptr nb2 2) (Ev_indexArr 2 56 2 2 Tryd.underlying83 Tryd.sizeOf56 rfl rfl (by omega) (by omega) (by omega)) rfl ?_
  refine JL_val (Ptr nb2 2) (Ev_fieldAddr 0 3 1 Tryd.underlying56 rfl Tryd.sizeOf3 rfl rfl) rfl ?_
  refine JL_val (I64 (v1)) (Ev_load rfl (Ld_one Tryd.isAgg3 (MemAt.ent 1 rfl (Seg.tail (Seg.tail (Seg.head)))))) rfl ?_
  refine JL_val (Ptr nb2 2) (Ev_indexArr 2 56 2 2 Tryd.underlying83 Tryd.sizeOf56 rfl rfl (by omega) (by omega) (by omega)) rfl ?_
  refine JL_val (Ptr nb2 3) (Ev_fieldAddr 1 22 1 Tryd.underlying56 rfl Tryd.sizeOf22 rfl rfl) rfl ?_
  refine JL_val (U64 s1) (Ev_load rfl (Ld_one Tryd.isAgg22 (MemAt.ent 1 rfl (Seg.tail (Seg.tail (Seg.tail (Seg.head))))))) rfl ?_
  refine JL_val _ (Ev_move rfl) rfl ?_
  refine JL_step (Step_callP 39 [.agg (cu8 kb).toArray, I64 (v1), U64 s1, Slc nb3 0 (n + 25) cp1] (.tuple #[.slice none 0 0, errV 50 (openE kb (v1) s1 (frmT ka k s z))]) (Cl_func [.agg (cu8 kb).toArray, I64 (v1), U64 s1, Slc nb3 0 (n + 25) cp1] Tryd.call39 rfl) (fun w1 hw1 => lopenB_w kb (v1) s1 (some ⟨nb3, 0, none⟩) (n + 25) cp1 (frmT ka k s z) w1 hkb (show (frmT ka k s z).length = (n + 25) from (by rw [frmT_len hz] <;> omega)) (fun h => by cases h) (by omega) (by omega) (RdB.of hw1 (MemAt.ent 2 rfl (Seg.left (Seg.whole _))) (by simp)) (hG.at hw1) ho1)) rfl ?_
  rintro v1 L1 ⟨rfl, rfl⟩
  show JL _ _ _ _ ((80, .tuple #[.slice none 0 0, errV 50 (openE kb (v1) s1 (frmT ka k s z))]) :: _) [⟨nb1, cu8 ka ++ cu8 kb, 82, (0, 0)⟩, ⟨nb2, [I64 ((k:Int)), U64 s, I64 (v1), U64 s1], 83, (0, 0)⟩, ⟨nb3, cu8 (frmT ka k s z) ++ sp1, 5, (0, 0)⟩, ⟨nb4, cu8 (mid ((frmT ka k s z).drop 9) 0 n) ++ sp2, 5, (0, 0)⟩]
  refine JL_val _ (Ev_move rfl) rfl ?_
  refine JL_val _ (Ev_extract rfl rfl) rfl ?_
  refine JL_val _ (Ev_extract rfl rfl) rfl ?_
  refine JL_val _ (Ev_assign rfl) rfl ?_
  refine JL_nil ?_
  refine JQ_then ?_
  refine JC_seq ?_
  refine JC_seq ?_
  refine JC_region ?_
  refine JL_val _ (Ev_move rfl) rfl ?_
  refine JL_step (Step_callP 29 [errV 50 (openE kb (v1) s1 (frmT ka k s z))] (I64 ((openE kb (v1) s1 (frmT ka k s z):Int))) (Cl_func [errV 50 (openE kb (v1) s1 (frmT ka k s z))] Tryd.call29 rfl) (fun w1 hw1 => errNum_w (openE kb (v1) s1 (frmT ka k s z)) w1)) rfl ?_
  rintro v1 L1 ⟨rfl, rfl⟩
  show JL _ _ _ _ ((84, I64 ((openE kb (v1) s1 (frmT ka k s z):Int))) :: _) [⟨nb1, cu8 ka ++ cu8 kb, 82, (0, 0)⟩, ⟨nb2, [I64 ((k:Int)), U64 s, I64 (v1), U64 s1], 83, (0, 0)⟩, ⟨nb3, cu8 (frmT ka k s z) ++ sp1, 5, (0, 0)⟩, ⟨nb4, cu8 (mid ((frmT ka k s z).drop 9) 0 n) ++ sp2, 5, (0, 0)⟩]
  refine JL_val _ (Ev_move rfl) rfl ?_
  refine JL_val (.bool (decide (((openE kb (v1) s1 (frmT ka k s z):Int)) ≠ ((openE kb (v1) s1 (frmT ka k s z):Int))))) (Ev_bini rfl rfl fun _ => bin_neq_i _ _) rfl ?_
  refine JL_val _ (Ev_move rfl) rfl ?_
  refine JL_gval 4 87 false _ (Ptr nb2 0) rfl rfl (by simp) (Ev_indexArr 2 56 2 0 Tryd.underlying83 Tryd.sizeOf56 rfl rfl (by omega) (by omega) (by omega)) rfl ?_
  refine JL_gval 4 87 false _ (.agg (List.toArray (α := Value) ([I64 ((k:Int)), U64 s]))) rfl rfl (by simp) (Ev_load rfl (Ld_agg Tryd.isAgg56 Tryd.sizeOf56 rfl (MemAt.ent 1 rfl (Seg.split (p := []) (q := [I64 (v1), U64 s1]) (vs := [I64 ((k:Int)), U64 s]) (by first | rfl | (simp only [List.append_assoc, List.nil_append, List.append_nil, List.cons_append]; done)) rfl)))) rfl ?_
  refine JL_gval 4 87 false _ (Ptr nb2 2) rfl rfl (by simp) (Ev_indexArr 2 56 2 2 Tryd.underlying83 Tryd.sizeOf56 rfl rfl (by omega) (by omega) (by omega)) rfl ?_
  refine JL_gval 4 87 false _ (.agg (List.toArray (α := Value) ([I64 (v1), U64 s1]))) rfl rfl (by simp) (Ev_load rfl (Ld_agg Tryd.isAgg56 Tryd.sizeOf56 rfl (MemAt.ent 1 rfl (Seg.split (p := [I64 ((k:Int)), U64 s]) (q := []) (vs := [I64 (v1), U64 s1]) (by first | rfl | (simp only [List.append_assoc, List.nil_append, List.append_nil, List.cons_append]; done)) rfl)))) rfl ?_
  refine JL_gval 4 87 false _ (.bool (!(decide (((k:Int)) = (v1) ∧ s = s1)))) rfl rfl (by simp) (Ev_bin _ _ _ rfl rfl (fun _ => eqGuard_agg _ _ _ _ _ _ (by kernel_rfl)) (neq_struct (((k:Int)) = (v1) ∧ s = s1) (EqV.struct (d := 9999) (by kernel_rfl) (by kernel_rfl) (by kernel_rfl) (EqRs.cons 3 0 (I64 ((k:Int))) (I64 (v1)) _ _ _ (PartV.one Tryd.isAgg3 (Seg.head)) (PartV.one Tryd.isAgg3 (Seg.head)) (EqV.i64 (d := 9998) Tryd.underlying3 ((k:Int)) (v1)) (EqRs.last 22 1 (U64 s) (U64 s1) _ (PartV.one Tryd.isAgg22 (Seg.tail (Seg.head))) (PartV.one Tryd.isAgg22 (Seg.tail (Seg.head))) (EqV.u64 (d := 9998) Tryd.underlying22 s s1)))) (by first | rfl | (simp only [Bool.decide_and, Bool.and_assoc]; done) | (simp [Bool.and_assoc]; done)))) rfl ?_
  refine JL_gval 4 87 false _ _ rfl rfl (by simp) (Ev_move rfl) rfl ?_
  refine JL_gskip 10 93 true _ rfl rfl (by rw [show (decide (((k:Int)) = (v1) ∧ s = s1)) = true from (decide_eq_true hsd)] <;> rfl) rfl ?_
  refine JL_gskip 10 93 true _ rfl rfl (by rw [show (decide (((k:Int)) = (v1) ∧ s = s1)) = true from (decide_eq_true hsd)] <;> rfl) rfl ?_
  refine JL_gval 4 87 false _ _ rfl rfl (by simp) (Ev_pickF _ rfl (by rw [show (decide (((k:Int)) = (v1) ∧ s = s1)) = true from (decide_eq_true hsd)] <;> rfl) rfl) rfl ?_
  refine JL_val _ (Ev_pickF _ rfl (by simp) rfl) rfl ?_
  refine JL_val _ (Ev_move rfl) rfl ?_
  refine JL_gval 15 98 false _ (Ptr nb2 0) rfl rfl rfl (Ev_indexArr 2 56 2 0 Tryd.underlying83 Tryd.sizeOf56 rfl rfl (by omega) (by omega) (by omega)) rfl ?_
  refine JL_gval 15 98 false _ (.agg (List.toArray (α := Value) ([I64 ((k:Int)), U64 s]))) rfl rfl rfl (Ev_load rfl (Ld_agg Tryd.isAgg56 Tryd.sizeOf56 rfl (MemAt.ent 1 rfl (Seg.split (p := []) (q := [I64 (v1), U64 s1]) (vs := [I64 ((k:Int)), U64 s]) (by first | rfl | (simp only [List.append_assoc, List.nil_append, List.append_nil, List.cons_append]; done)) rfl)))) rfl ?_
  refine JL_gval 15 98 false _ (Ptr nb2 2) rfl rfl rfl (Ev_indexArr 2 56 2 2 Tryd.underlying83 Tryd.sizeOf56 rfl rfl (by omega) (by omega) (by omega)) rfl ?_
  refine JL_gval 15 98 false _ (.agg (List.toArray (α := Value) ([I64 (v1), U64 s1]))) rfl rfl rfl (Ev_load rfl (Ld_agg Tryd.isAgg56 Tryd.sizeOf56 rfl (MemAt.ent 1 rfl (Seg.split (p := [I64 ((k:Int)), U64 s]) (q := []) (vs := [I64 (v1), U64 s1]) (by first | rfl | (simp only [List.append_assoc, List.nil_append, List.append_nil, List.cons_append]; done)) rfl)))) rfl ?_
  refine JL_gval 15 98 false _ (.bool (decide (((k:Int)) = (v1) ∧ s = s1))) rfl rfl rfl (Ev_bin _ _ _ rfl rfl (fun _ => eqGuard_agg _ _ _ _ _ _ (by kernel_rfl)) (eql_struct (((k:Int)) = (v1) ∧ s = s1) (EqV.struct (d := 9999) (by kernel_rfl) (by kernel_rfl) (by kernel_rfl) (EqRs.cons 3 0 (I64 ((k:Int))) (I64 (v1)) _ _ _ (PartV.one Tryd.isAgg3 (Seg.head)) (PartV.one Tryd.isAgg3 (Seg.head)) (EqV.i64 (d := 9998) Tryd.underlying3 ((k:Int)) (v1)) (EqRs.last 22 1 (U64 s) (U64 s1) _ (PartV.one Tryd.isAgg22 (Seg.tail (Seg.head))) (PartV.one Tryd.isAgg22 (Seg.tail (Seg.head))) (EqV.u64 (d := 9998) Tryd.underlying22 s s1)))) (by first | rfl | (simp only [Bool.decide_and, Bool.and_assoc]; done) | (simp [Bool.and_assoc]; done)))) rfl ?_
  refine JL_gval 15 98 false _ _ rfl rfl rfl (Ev_move rfl) rfl ?_
  refine JL_gval 21 104 true _ (Ptr nb1 0) rfl rfl (decide_eq_true hsd) (Ev_indexArr 2 54 32 0 Tryd.underlying82 Tryd.sizeOf54 rfl rfl (by omega) (by omega) (by omega)) rfl ?_
  refine JL_gval 21 104 true _ (.agg (cu8 ka).toArray) rfl rfl (decide_eq_true hsd) (Ev_load rfl (Ld_agg Tryd.isAgg54 Tryd.sizeOf54 (len_cu8 hka) (MemAt.ent 0 rfl (Seg.left (Seg.whole _))))) rfl ?_
  refine JL_gval 21 104 true _ (Ptr nb1 32) rfl rfl (decide_eq_true hsd) (Ev_indexArr 2 54 32 32 Tryd.underlying82 Tryd.sizeOf54 rfl rfl (by omega) (by omega) (by omega)) rfl ?_
  refine JL_gval 21 104 true _ (.agg (cu8 kb).toArray) rfl rfl (decide_eq_true hsd) (Ev_load rfl (Ld_agg Tryd.isAgg54 Tryd.sizeOf54 (len_cu8 hkb) (MemAt.ent 0 rfl (Seg.right 32 0 (by simp [hka]) rfl (Seg.whole _))))) rfl ?_
  refine JL_gval 21 104 true _ (.bool (decide (ka = kb))) rfl rfl (decide_eq_true hsd) (Ev_bin _ _ _ rfl rfl (fun _ => eqGuard_agg _ _ _ _ _ _ (by kernel_rfl)) fun _ => eql_arr8 Tryd.underlying54 Tryd.underlying5 Tryd.isAgg5 Tryd.cells5 Tryd.has5 (by simp [hka]) (by simp [hkb])) rfl ?_
  refine JL_gval 15 98 false _ _ rfl rfl rfl (Ev_pickT _ rfl (decide_eq_true hsd) rfl) rfl ?_
  refine JL_gval 15 98 false _ _ rfl rfl rfl (Ev_move rfl) rfl ?_
  refine JL_gskip 28 111 true _ rfl rfl (decide_eq_false hkk) rfl ?_
  refine JL_gskip 28 111 true _ rfl rfl (decide_eq_false hkk) rfl ?_
  refine JL_gval 15 98 false _ _ rfl rfl rfl (Ev_pickF _ rfl (decide_eq_false hkk) rfl) rfl ?_
  refine JL_val _ (Ev_pickF _ rfl rfl rfl) rfl ?_
  refine JL_nil ?_
  refine JQ_then ?_
  refine JC_condF _ rfl rfl ?_
  refine JC_skip ?_
  refine JQ_then ?_
  refine JC_seq ?_
  refine JC_region ?_
  refine JL_val (Ptr nb2 2) (Ev_indexArr 2 56 2 2 Tryd.underlying83 Tryd.sizeOf56 rfl rfl (by omega) (by omega) (by omega)) rfl ?_
  refine JL_val (Ptr nb2 3) (Ev_fieldAddr 1 22 1 Tryd.underlying56 rfl Tryd.sizeOf22 rfl rfl) rfl ?_
  refine JL_val (U64 s1) (Ev_load rfl (Ld_one Tryd.isAgg22 (MemAt.ent 1 rfl (Seg.tail (Seg.tail (Seg.tail (Seg.head))))))) rfl ?_
  refine JL_val _ (Ev_move rfl) rfl ?_
  refine JL_val (I64 ((n:Int) + 25)) (Ev_lenX Tryd.underlying43 rfl (by omega)) rfl ?_
  refine JL_val (I64 (8*(n:Int) + 200)) (Ev_bini rfl rfl fun _ => bin_mul_i _ _ (8*(n:Int) + 200) (by omega) (by omega)) rfl ?_
  refine JL_val (U64 (UInt64.ofNat (8*n + 200))) (Ev_conv _ _ rfl fun _ => conv_i64_u64 (by rw [Tryd.underlying3]; rfl) Tryd.underlying22 (8*n + 200) _ (by omega)) rfl ?_
  refine JL_val (U64 (s1 % (UInt64.ofNat (8*n + 200)))) (Ev_bini rfl rfl fun _ => bin_rem_u64 s1 (UInt64.ofNat (8*n + 200)) (ofN_ne (by omega) (by omega))) rfl ?_
  refine JL_val (I64 (((s1 % (UInt64.ofNat (8*n + 200))).toNat:Int))) (Ev_conv _ _ rfl fun _ => conv_u64_i64 (by rw [Tryd.underlying22]; rfl) Tryd.underlying3 (s1 % (UInt64.ofNat (8*n + 200))) _ rfl (by omega)) rfl ?_
  refine JL_val _ (Ev_assign rfl) rfl ?_
  refine JL_nil ?_
  refine JQ_then ?_
  refine JC_seq ?_
  obtain ⟨dq1, hdq1, hdq1a, hdq1b⟩ : ∃ q : Nat, q = ((s1 % (UInt64.ofNat (8*n + 200))).toNat) / 8 ∧ (q : Int) = (((s1 % (UInt64.ofNat (8*n + 200))).toNat:Int)) / 8 ∧ (q * 8 ≤ ((s1 % (UInt64.ofNat (8*n + 200))).toNat) ∧ ((s1 % (UInt64.ofNat (8*n + 200))).toNat) < q * 8 + 8) := ⟨_, rfl, by first | rfl | omega, by omega⟩
  obtain ⟨dq2, hdq2, hdq2a, hdq2b⟩ : ∃ q : Nat, q = ((s1 % (UInt64.ofNat (8*n + 200))).toNat) % 8 ∧ (q : Int) = (((s1 % (UInt64.ofNat (8*n + 200))).toNat:Int)) % 8 ∧ (q < 8) := ⟨_, rfl, by first | rfl | omega, by omega⟩
  refine JC_draw 182 2 [(0, Slc nb3 0 (n + 25) cp1), (1, I64 (((s1 % (UInt64.ofNat (8*n + 200))).toNat:Int))), (2, I64 ((dq1:Int))), (3, Ptr nb3 dq1), (4, U8 (g8 (frmT ka k s z) dq1)), (5, I64 (((s1 % (UInt64.ofNat (8*n + 200))).toNat:Int))), (6, I64 ((dq2:Int))), (7, U8 ((1:UInt8) <<< UInt8.ofNat dq2)), (8, U8 ((g8 (frmT ka k s z) dq1) ^^^ ((1:UInt8) <<< UInt8.ofNat dq2))), (9, Ptr nb3 dq1)] Tryd.mixed rfl (by decide +kernel) ?_
  have hl2 : ((frmT ka k s z).set dq1 ((g8 (frmT ka k s z) dq1) ^^^ ((1:UInt8) <<< UInt8.ofNat dq2))).length = (n + 25) := by first | (rw [List.length_set]; exact (show (frmT ka k s z).length = (n + 25) from (by rw [frmT_len hz] <;> omega))) | simp [(show (frmT ka k s z).length = (n + 25) from (by rw [frmT_len hz] <;> omega))]
  refine DP_one ⟨[], [0, 1, 2, 3, 4, 5, 6, 7, 8, 9], [], [0, 1, 2, 3, 4, 5, 6, 7, 8, 9], [10]⟩ 10 _ rfl rfl (by decide +kernel) rfl ⟨⟨_, rfl, Qok_val rfl (Ev_move rfl)⟩, ⟨_, rfl, Qok_val rfl (Ev_move rfl)⟩, ⟨_, rfl, Qok_val rfl (Ev_bini rfl rfl fun _ => bin_quo_i _ _ ((dq1:Int)) (by omega) (by omega) (by omega))⟩, ⟨_, rfl, Qok_val rfl (Ev_indexSl 5 1 dq1 Tryd.underlying43 Tryd.sizeOf5 rfl rfl (by omega) (by omega) (by omega))⟩, ⟨_, rfl, Qok_val rfl (Ev_load rfl (Ld_one Tryd.isAgg5 (MemAt.ent 2 rfl (Seg.left (Seg.get (g8_get (i := dq1) (by rw [(show (frmT ka k s z).length = (n + 25) from (by rw [frmT_len hz] <;> omega))]; omega)))))))⟩, ⟨_, rfl, Qok_val rfl (Ev_move rfl)⟩, ⟨_, rfl, Qok_val rfl (Ev_bini rfl rfl fun _ => bin_rem_i _ _ ((dq2:Int)) (by omega) (by omega) (by omega))⟩, ⟨_, rfl, Qok_val rfl (Ev_bini rfl rfl fun _ => bin_shl_u8 (1:UInt8) _ _ dq2 (by omega) (by omega))⟩, ⟨_, rfl, Qok_val rfl (Ev_bini rfl rfl fun _ => bin_xor_u8 (g8 (frmT ka k s z) dq1) ((1:UInt8) <<< UInt8.ofNat dq2))⟩, ⟨_, rfl, Qok_val rfl (Ev_indexSl 5 1 dq1 Tryd.underlying43 Tryd.sizeOf5 rfl rfl (by omega) (by omega) (by omega))⟩, trivial⟩ rfl (Cok_step rfl (Step_store 2 nb3 dq1 1 (cu8 (frmT ka k s z) ++ sp1) 5 (U8 ((g8 (frmT ka k s z) dq1) ^^^ ((1:UInt8) <<< UInt8.ofNat dq2))) ([U8 ((g8 (frmT ka k s z) dq1) ^^^ ((1:UInt8) <<< UInt8.ofNat dq2))]) (cu8 ((frmT ka k s z).set dq1 ((g8 (frmT ka k s z) dq1) ^^^ ((1:UInt8) <<< UInt8.ofNat dq2))) ++ sp1) rfl rfl rfl rfl Tryd.sizeOf5 rfl (by simp [Value.oneCell']) (by simp [(show (frmT ka k s z).length = (n + 25) from (by rw [frmT_len hz] <;> omega)), hc1]; try omega) (lay_left (p := cu8 (frmT ka k s z)) (vs := [U8 ((g8 (frmT ka k s z) dq1) ^^^ ((1:UInt8) <<< UInt8.ofNat dq2))]) (o := dq1) (by simp [(show (frmT ka k s z).length = (n + 25) from (by rw [frmT_len hz] <;> omega))]; omega) (lay8 _ _ _ (by rw [(show (frmT ka k s z).length = (n + 25) from (by rw [frmT_len hz] <;> omega))]; omega))))) ?_
  rintro v1 L1 ⟨rfl, rfl⟩
  refine ⟨[], ?_⟩
  show DP _ _ _ _ _ _ _ _ [⟨nb1, cu8 ka ++ cu8 kb, 82, (0, 0)⟩, ⟨nb2, [I64 ((k:Int)), U64 s, I64 (v1), U64 s1], 83, (0, 0)⟩, ⟨nb3, cu8 ((frmT ka k s z).set dq1 ((g8 (frmT ka k s z) dq1) ^^^ ((1:UInt8) <<< UInt8.ofNat dq2))) ++ sp1, 5, (0, 0)⟩, ⟨nb4, cu8 (mid ((frmT ka k s z).drop 9) 0 n) ++ sp2, 5, (0, 0)⟩]
  refine DP_end ⟨[10], [0, 1, 2, 3, 4, 5, 6, 7, 8, 9], [0, 1, 2, 3, 4, 5, 6, 7, 8, 9], [], []⟩ rfl rfl (by decide +kernel) rfl trivial ?_
  refine K_sub (F' := [(3, Ptr nb1 0), (4, Ptr nb2 0), (6, .bool false), (7, Slc nb3 0 (n + 25) cp1), (8, errV 50 (openE kb (v1) s1 (frmT ka k s z))), (11, I64 ((openE kb (v1) s1 (frmT ka k s z):Int))), (12, I64 (((s1 % (UInt64.ofNat (8*n + 200))).toNat:Int)))]) (Sub.cons (by kernel_rfl) (Sub.cons (by kernel_rfl) (Sub.cons (by kernel_rfl) (Sub.cons (by kernel_rfl) (Sub.cons (by kernel_rfl) (Sub.cons (by kernel_rfl) (Sub.cons (by kernel_rfl) (Sub.nil)))))))) ?_
  show JQ _ _ _ [(3, Ptr nb1 0), (4, Ptr nb2 0), (6, .bool false), (7, Slc nb3 0 (n + 25) cp1), (8, errV 50 (openE kb (v1) s1 (frmT ka k s z))), (11, I64 ((openE kb (v1) s1 (frmT ka k s z):Int))), (12, I64 (((s1 % (UInt64.ofNat (8*n + 200))).toNat:Int)))] _
  refine JQ_then ?_
  refine JC_seq ?_
  have hF : (frmT ka k s z).set dq1 ((g8 (frmT ka k s z) dq1) ^^^ ((1:UInt8) <<< UInt8.ofNat dq2)) = flipB (frmT ka k s z) dq1 dq2 := (flipB_def _ _ _).symm
  have hlF : (flipB (frmT ka k s z) dq1 dq2).length = n + 25 := by rw [← hF]; exact hl2
  rw [hF]
  clear hF
  show JC _ _ _ _ [⟨nb1, cu8 ka ++ cu8 kb, 82, (0, 0)⟩, ⟨nb2, [I64 ((k:Int)), U64 s, I64 (v1), U64 s1], 83, (0, 0)⟩, ⟨nb3, cu8 (flipB (frmT ka k s z) dq1 dq2) ++ sp1, 5, (0, 0)⟩, ⟨nb4, cu8 (mid ((frmT ka k s z).drop 9) 0 n) ++ sp2, 5, (0, 0)⟩]
  by_cases hfl : openE ka (k:Int) s (flipB (frmT ka k s z) dq1 dq2) = 0
  ·
    have hin := open_flip hw hz (q := dq1) (r := dq2) (by omega) (by omega) hfl
    refine JC_region ?_
    refine JL_val (Ptr nb1 0) (Ev_indexArr 2 54 32 0 Tryd.underlying82 Tryd.sizeOf54 rfl rfl (by omega) (by omega) (by omega)) rfl ?_
    refine JL_val (.agg (cu8 ka).toArray) (Ev_load rfl (Ld_agg Tryd.isAgg54 Tryd.sizeOf54 (len_cu8 hka) (MemAt.ent 0 rfl (Seg.left (Seg.whole _))))) rfl ?_
    refine JL_val (Ptr nb2 0) (Ev_indexArr 2 56 2 0 Tryd.underlying83 Tryd.sizeOf56 rfl rfl (by omega) (by omega) (by omega)) rfl ?_
    refine JL_val (Ptr nb2 0) (Ev_fieldAddr 0 3 1 Tryd.underlying56 rfl Tryd.sizeOf3 rfl rfl) rfl ?_
    refine JL_val (I64 ((k:Int))) (Ev_load rfl (Ld_one Tryd.isAgg3 (MemAt.ent 1 rfl (Seg.head)))) rfl ?_
    refine JL_val (Ptr nb2 0) (Ev_indexArr 2 56 2 0 Tryd.underlying83 Tryd.sizeOf56 rfl rfl (by omega) (by omega) (by omega)) rfl ?_
    refine JL_val (Ptr nb2 1) (Ev_fieldAddr 1 22 1 Tryd.underlying56 rfl Tryd.sizeOf22 rfl rfl) rfl ?_
    refine JL_val (U64 s) (Ev_load rfl (Ld_one Tryd.isAgg22 (MemAt.ent 1 rfl (Seg.tail (Seg.head))))) rfl ?_
    refine JL_val _ (Ev_move rfl) rfl ?_
    refine JL_step (Step_callP 40 [.agg (cu8 ka).toArray, I64 ((k:Int)), U64 s, Slc nb3 0 (n + 25) cp1] (.tuple #[.slice (advA (some ⟨nb3, 0, none⟩) cp1 9) n (cp1 - 9), I64 (0:Int)]) (Cl_func [.agg (cu8 ka).toArray, I64 ((k:Int)), U64 s, Slc nb3 0 (n + 25) cp1] Tryd.call40 rfl) (fun w1 hw1 => ropenK_w ka ((k:Int)) s (some ⟨nb3, 0, none⟩) (n + 25) cp1 (flipB (frmT ka k s z) dq1 dq2) w1 hka hlF (fun h => by cases h) (by omega) (by omega) (RdB.of hw1 (MemAt.ent 2 rfl (Seg.left (Seg.whole _))) (by simp)) (GLr.at hw1 hGr) (GLi.at hw1 hGi) hfl)) rfl ?_
    rintro v1 L1 ⟨rfl, rfl⟩
    show JL _ _ _ _ ((145, .tuple #[.slice (advA (some ⟨nb3, 0, none⟩) cp1 9) n (cp1 - 9), I64 (0:Int)]) :: _) [⟨nb1, cu8 ka ++ cu8 kb, 82, (0, 0)⟩, ⟨nb2, [I64 ((k:Int)), U64 s, I64 (v1), U64 s1], 83, (0, 0)⟩, ⟨nb3, cu8 (flipB (frmT ka k s z) dq1 dq2) ++ sp1, 5, (0, 0)⟩, ⟨nb4, cu8 (mid ((frmT ka k s z).drop 9) 0 n) ++ sp2, 5, (0, 0)⟩]
    refine JL_val _ (Ev_move rfl) rfl ?_
    refine JL_val _ (Ev_extract rfl rfl) rfl ?_
    refine JL_val _ (Ev_extract rfl rfl) rfl ?_
    refine JL_val _ (Ev_assign rfl) rfl ?_
    refine JL_nil ?_
    refine JQ_then ?_
    refine JC_seq ?_
    refine JC_region ?_
    refine JL_val (Ptr nb1 0) (Ev_indexArr 2 54 32 0 Tryd.underlying82 Tryd.sizeOf54 rfl rfl (by omega) (by omega) (by omega)) rfl ?_
    refine JL_val (.agg (cu8 ka).toArray) (Ev_load rfl (Ld_agg Tryd.isAgg54 Tryd.sizeOf54 (len_cu8 hka) (MemAt.ent 0 rfl (Seg.left (Seg.whole _))))) rfl ?_
    refine JL_val (Ptr nb2 0) (Ev_indexArr 2 56 2 0 Tryd.underlying83 Tryd.sizeOf56 rfl rfl (by omega) (by omega) (by omega)) rfl ?_
    refine JL_val (Ptr nb2 0) (Ev_fieldAddr 0 3 1 Tryd.underlying56 rfl Tryd.sizeOf3 rfl rfl) rfl ?_
    refine JL_val (I64 ((k:Int))) (Ev_load rfl (Ld_one Tryd.isAgg3 (MemAt.ent 1 rfl (Seg.head)))) rfl ?_
    refine JL_val (Ptr nb2 0) (Ev_indexArr 2 56 2 0 Tryd.underlying83 Tryd.sizeOf56 rfl rfl (by omega) (by omega) (by omega)) rfl ?_
    refine JL_val (Ptr nb2 1) (Ev_fieldAddr 1 22 1 Tryd.underlying56 rfl Tryd.sizeOf22 rfl rfl) rfl ?_
    refine JL_val (U64 s) (Ev_load rfl (Ld_one Tryd.isAgg22 (MemAt.ent 1 rfl (Seg.tail (Seg.head))))) rfl ?_
    refine JL_val _ (Ev_move rfl) rfl ?_
    have hl3 : (mid ((flipB (frmT ka k s z) dq1 dq2).drop 9) 0 n).length = n := mid_len (by rw [List.length_drop, show (flipB (frmT ka k s z) dq1 dq2).length = (n + 25) from hlF]; omega)
    refine JL_step (Step_callN 39 [.agg (cu8 ka).toArray, I64 ((k:Int)), U64 s, Slc nb3 0 (n + 25) cp1] _ (Cl_func [.agg (cu8 ka).toArray, I64 ((k:Int)), U64 s, Slc nb3 0 (n + 25) cp1] Tryd.call39 rfl) (fun w1 hw1 => lopenK_w ka ((k:Int)) s (some ⟨nb3, 0, none⟩) (n + 25) cp1 (flipB (frmT ka k s z) dq1 dq2) w1 hka hlF (fun h => by cases h) (by omega) (by omega) (RdB.of hw1 (MemAt.ent 2 rfl (Seg.left (Seg.whole _))) (by simp)) (hG.at hw1) hfl)) rfl ?_
    rintro v1 L1 ⟨_, ⟨nb5, sp3, cp3, rfl, rfl, hc7, hc8, hc9⟩, rfl⟩
    show JL _ _ _ _ ((158, .tuple #[Slc nb5 0 n cp3, .nilIface]) :: _) [⟨nb1, cu8 ka ++ cu8 kb, 82, (0, 0)⟩, ⟨nb2, [I64 ((k:Int)), U64 s, I64 (v1), U64 s1], 83, (0, 0)⟩, ⟨nb3, cu8 (flipB (frmT ka k s z) dq1 dq2) ++ sp1, 5, (0, 0)⟩, ⟨nb4, cu8 (mid ((frmT ka k s z).drop 9) 0 n) ++ sp2, 5, (0, 0)⟩, ⟨nb5, cu8 (mid ((flipB (frmT ka k s z) dq1 dq2).drop 9) 0 n) ++ sp3, 5, (0, 0)⟩]
    refine JL_val _ (Ev_move rfl) rfl ?_
    refine JL_val _ (Ev_extract rfl rfl) rfl ?_
    refine JL_val _ (Ev_extract rfl rfl) rfl ?_
    refine JL_val _ (Ev_assign rfl) rfl ?_
    refine JL_nil ?_
    refine JQ_then ?_
    refine JC_seq ?_
    refine JC_region ?_
    refine JL_val _ (Ev_move rfl) rfl ?_
    refine JL_step (Step_callP 29 [.nilIface] (I64 (0:Int)) (Cl_func [.nilIface] Tryd.call29 rfl) (fun w1 hw1 => errNo_c w1)) rfl ?_
    rintro v1 L1 ⟨rfl, rfl⟩
    show JL _ _ _ _ ((162, I64 (0:Int)) :: _) [⟨nb1, cu8 ka ++ cu8 kb, 82, (0, 0)⟩, ⟨nb2, [I64 ((k:Int)), U64 s, I64 (v1), U64 s1], 83, (0, 0)⟩, ⟨nb3, cu8 (flipB (frmT ka k s z) dq1 dq2) ++ sp1, 5, (0, 0)⟩, ⟨nb4, cu8 (mid ((frmT ka k s z).drop 9) 0 n) ++ sp2, 5, (0, 0)⟩, ⟨nb5, cu8 (mid ((flipB (frmT ka k s z) dq1 dq2).drop 9) 0 n) ++ sp3, 5, (0, 0)⟩]
    refine JL_val _ (Ev_move rfl) rfl ?_
    refine JL_val (.bool (decide ((0:Int) = (0:Int)))) (Ev_bini rfl rfl fun _ => bin_eql_i _ _) rfl ?_
    refine JL_val _ (Ev_move rfl) rfl ?_
    refine JL_gval 4 165 true _ _ rfl rfl (by decide) (Ev_move rfl) rfl ?_
    refine JL_gval 4 165 true _ (.bool false) rfl rfl (by decide) (Ev_bin _ _ _ rfl rfl (fun _ => eqGuard_nn ..) fun _ => neq_if_nil_nil Tryd.underlying45) rfl ?_
    refine JL_gval 4 165 true _ _ rfl rfl (by decide) (Ev_move rfl) rfl ?_
    refine JL_gval 7 168 false _ _ rfl rfl rfl (Ev_move rfl) rfl ?_
    refine JL_gval 7 168 false _ (I64 ((dq1:Int))) rfl rfl rfl (Ev_bini rfl rfl fun _ => bin_quo_i _ _ ((dq1:Int)) (by omega) (by omega) (by omega)) rfl ?_
    refine JL_gval 7 168 false _ (.bool (decide ((9:Int) ≤ ((dq1:Int))))) rfl rfl rfl (Ev_bini rfl rfl fun _ => bin_geq_i _ _) rfl ?_
    refine JL_gval 7 168 false _ _ rfl rfl rfl (Ev_move rfl) rfl ?_
    refine JL_gval 11 172 true _ _ rfl rfl (decide_eq_true (by omega)) (Ev_move rfl) rfl ?_
    refine JL_gval 11 172 true _ (I64 ((dq1:Int))) rfl rfl (decide_eq_true (by omega)) (Ev_bini rfl rfl fun _ => bin_quo_i _ _ ((dq1:Int)) (by omega) (by omega) (by omega)) rfl ?_
    refine JL_gval 11 172 true _ _ rfl rfl (decide_eq_true (by omega)) (Ev_move rfl) rfl ?_
    refine JL_gval 11 172 true _ (I64 ((n:Int) + 25)) rfl rfl (decide_eq_true (by omega)) (Ev_lenX Tryd.underlying43 rfl (by omega)) rfl ?_
    refine JL_gval 11 172 true _ (I64 ((n:Int) + 9)) rfl rfl (decide_eq_true (by omega)) (Ev_bini rfl rfl fun _ => bin_sub_i _ _ ((n:Int) + 9) (by omega) (by omega)) rfl ?_
    refine JL_gval 11 172 true _ (.bool (decide (((dq1:Int)) < ((n:Int) + 9)))) rfl rfl (decide_eq_true (by omega)) (Ev_bini rfl rfl fun _ => bin_lss_i _ _) rfl ?_
    refine JL_gval 7 168 false _ _ rfl rfl rfl (Ev_pickT _ rfl (decide_eq_true (by omega)) rfl) rfl ?_
    refine JL_gval 4 165 true _ _ rfl rfl (by decide) (Ev_pickF _ rfl rfl rfl) rfl ?_
    refine JL_val _ (Ev_pickT _ rfl (by decide) rfl) rfl ?_
    refine JL_val _ (Ev_assign rfl) rfl ?_
    refine JL_nil ?_
    refine JQ_then ?_
    refine JC_ret ?_
    refine JQ_ret (.bool (decide (((dq1:Int)) < ((n:Int) + 9)))) (res1 Tryd.results8 (RV_tmp rfl)) fun w1 hw1 => ?_
    exact ⟨_, [], rfl, ⟨by rw [show (decide (((dq1:Int)) < ((n:Int) + 9))) = true from (decide_eq_true (by omega))], rfl⟩, hw1.sub (by simp) (by simp)⟩
  ·
    refine JC_region ?_
    refine JL_val (Ptr nb1 0) (Ev_indexArr 2 54 32 0 Tryd.underlying82 Tryd.sizeOf54 rfl rfl (by omega) (by omega) (by omega)) rfl ?_
    refine JL_val (.agg (cu8 ka).toArray) (Ev_load rfl (Ld_agg Tryd.isAgg54 Tryd.sizeOf54 (len_cu8 hka) (MemAt.ent 0 rfl (Seg.left (Seg.whole _))))) rfl ?_
    refine JL_val (Ptr nb2 0) (Ev_indexArr 2 56 2 0 Tryd.underlying83 Tryd.sizeOf56 rfl rfl (by omega) (by omega) (by omega)) rfl ?_
    refine JL_val (Ptr nb2 0) (Ev_fieldAddr 0 3 1 Tryd.underlying56 rfl Tryd.sizeOf3 rfl rfl) rfl ?_
    refine JL_val (I64 ((k:Int))) (Ev_load rfl (Ld_one Tryd.isAgg3 (MemAt.ent 1 rfl (Seg.head)))) rfl ?_
    refine JL_val (Ptr nb2 0) (Ev_indexArr 2 56 2 0 Tryd.underlying83 Tryd.sizeOf56 rfl rfl (by omega) (by omega) (by omega)) rfl ?_
    refine JL_val (Ptr nb2 1) (Ev_fieldAddr 1 22 1 Tryd.underlying56 rfl Tryd.sizeOf22 rfl rfl) rfl ?_
    refine JL_val (U64 s) (Ev_load rfl (Ld_one Tryd.isAgg22 (MemAt.ent 1 rfl (Seg.tail (Seg.head))))) rfl ?_
    refine JL_val _ (Ev_move rfl) rfl ?_
    refine JL_step (Step_callP 40 [.agg (cu8 ka).toArray, I64 ((k:Int)), U64 s, Slc nb3 0 (n + 25) cp1] (.tuple #[.slice none 0 0, I64 ((openE ka ((k:Int)) s (flipB (frmT ka k s z) dq1 dq2):Int))]) (Cl_func [.agg (cu8 ka).toArray, I64 ((k:Int)), U64 s, Slc nb3 0 (n + 25) cp1] Tryd.call40 rfl) (fun w1 hw1 => ropenB_w ka ((k:Int)) s (some ⟨nb3, 0, none⟩) (n + 25) cp1 (flipB (frmT ka k s z) dq1 dq2) w1 hka hlF (fun h => by cases h) (by omega) (by omega) (RdB.of hw1 (MemAt.ent 2 rfl (Seg.left (Seg.whole _))) (by simp)) (GLr.at hw1 hGr) (GLi.at hw1 hGi) hfl)) rfl ?_
    rintro v1 L1 ⟨rfl, rfl⟩
    show JL _ _ _ _ ((145, .tuple #[.slice none 0 0, I64 ((openE ka ((k:Int)) s (flipB (frmT ka k s z) dq1 dq2):Int))]) :: _) [⟨nb1, cu8 ka ++ cu8 kb, 82, (0, 0)⟩, ⟨nb2, [I64 ((k:Int)), U64 s, I64 (v1), U64 s1], 83, (0, 0)⟩, ⟨nb3, cu8 (flipB (frmT ka k s z) dq1 dq2) ++ sp1, 5, (0, 0)⟩, ⟨nb4, cu8 (mid ((frmT ka k s z).drop 9) 0 n) ++ sp2, 5, (0, 0)⟩]
    refine JL_val _ (Ev_move rfl) rfl ?_
    refine JL_val _ (Ev_extract rfl rfl) rfl ?_
    refine JL_val _ (Ev_extract rfl rfl) rfl ?_
    refine JL_val _ (Ev_assign rfl) rfl ?_
    refine JL_nil ?_
    refine JQ_then ?_
    refine JC_seq ?_
    refine JC_region ?_
    refine JL_val (Ptr nb1 0) (Ev_indexArr 2 54 32 0 Tryd.underlying82 Tryd.sizeOf54 rfl rfl (by omega) (by omega) (by omega)) rfl ?_
    refine JL_val (.agg (cu8 ka).toArray) (Ev_load rfl (Ld_agg Tryd.isAgg54 Tryd.sizeOf54 (len_cu8 hka) (MemAt.ent 0 rfl (Seg.left (Seg.whole _))))) rfl ?_
    refine JL_val (Ptr nb2 0) (Ev_indexArr 2 56 2 0 Tryd.underlying83 Tryd.sizeOf56 rfl rfl (by omega) (by omega) (by omega)) rfl ?_
    refine JL_val (Ptr nb2 0) (Ev_fieldAddr 0 3 1 Tryd.underlying56 rfl Tryd.sizeOf3 rfl rfl) rfl ?_
    refine JL_val (I64 ((k:Int))) (Ev_load rfl (Ld_one Tryd.isAgg3 (MemAt.ent 1 rfl (Seg.head)))) rfl ?_
    refine JL_val (Ptr nb2 0) (Ev_indexArr 2 56 2 0 Tryd.underlying83 Tryd.sizeOf56 rfl rfl (by omega) (by omega) (by omega)) rfl ?_
    refine JL_val (Ptr nb2 1) (Ev_fieldAddr 1 22 1 Tryd.underlying56 rfl Tryd.sizeOf22 rfl rfl) rfl ?_
    refine JL_val (U64 s) (Ev_load rfl (Ld_one Tryd.isAgg22 (MemAt.ent 1 rfl (Seg.tail (Seg.head))))) rfl ?_
    refine JL_val _ (Ev_move rfl) rfl ?_
    refine JL_step (Step_callP 39 [.agg (cu8 ka).toArray, I64 ((k:Int)), U64 s, Slc nb3 0 (n + 25) cp1] (.tuple #[.slice none 0 0, errV 50 (openE ka ((k:Int)) s (flipB (frmT ka k s z) dq1 dq2))]) (Cl_func [.agg (cu8 ka).toArray, I64 ((k:Int)), U64 s, Slc nb3 0 (n + 25) cp1] Tryd.call39 rfl) (fun w1 hw1 => lopenB_w ka ((k:Int)) s (some ⟨nb3, 0, none⟩) (n + 25) cp1 (flipB (frmT ka k s z) dq1 dq2) w1 hka hlF (fun h => by cases h) (by omega) (by omega) (RdB.of hw1 (MemAt.ent 2 rfl (Seg.left (Seg.whole _))) (by simp)) (hG.at hw1) hfl)) rfl ?_
    rintro v1 L1 ⟨rfl, rfl⟩
    show JL _ _ _ _ ((158, .tuple #[.slice none 0 0, errV 50 (openE ka ((k:Int)) s (flipB (frmT ka k s z) dq1 dq2))]) :: _) [⟨nb1, cu8 ka ++ cu8 kb, 82, (0, 0)⟩, ⟨nb2, [I64 ((k:Int)), U64 s, I64 (v1), U64 s1], 83, (0, 0)⟩, ⟨nb3, cu8 (flipB (frmT ka k s z) dq1 dq2) ++ sp1, 5, (0, 0)⟩, ⟨nb4, cu8 (mid ((frmT ka k s z).drop 9) 0 n) ++ sp2, 5, (0, 0)⟩]
    refine JL_val _ (Ev_move rfl) rfl ?_
    refine JL_val _ (Ev_extract rfl rfl) rfl ?_
    refine JL_val _ (Ev_extract rfl rfl) rfl ?_
    refine JL_val _ (Ev_assign rfl) rfl ?_
    refine JL_nil ?_
    refine JQ_then ?_
    refine JC_seq ?_
    refine JC_region ?_
    refine JL_val _ (Ev_move rfl) rfl ?_
    refine JL_step (Step_callP 29 [errV 50 (openE ka ((k:Int)) s (flipB (frmT ka k s z) dq1 dq2))] (I64 ((openE ka ((k:Int)) s (flipB (frmT ka k s z) dq1 dq2):Int))) (Cl_func [errV 50 (openE ka ((k:Int)) s (flipB (frmT ka k s z) dq1 dq2))] Tryd.call29 rfl) (fun w1 hw1 => errNum_w (openE ka ((k:Int)) s (flipB (frmT ka k s z) dq1 dq2)) w1)) rfl ?_
    rintro v1 L1 ⟨rfl, rfl⟩
    show JL _ _ _ _ ((162, I64 ((openE ka ((k:Int)) s (flipB (frmT ka k s z) dq1 dq2):Int))) :: _) [⟨nb1, cu8 ka ++ cu8 kb, 82, (0, 0)⟩, ⟨nb2, [I64 ((k:Int)), U64 s, I64 (v1), U64 s1], 83, (0, 0)⟩, ⟨nb3, cu8 (flipB (frmT ka k s z) dq1 dq2) ++ sp1, 5, (0, 0)⟩, ⟨nb4, cu8 (mid ((frmT ka k s z).drop 9) 0 n) ++ sp2, 5, (0, 0)⟩]
    refine JL_val _ (Ev_move rfl) rfl ?_
    refine JL_val (.bool (decide (((openE ka ((k:Int)) s (flipB (frmT ka k s z) dq1 dq2):Int)) = ((openE ka ((k:Int)) s (flipB (frmT ka k s z) dq1 dq2):Int))))) (Ev_bini rfl rfl fun _ => bin_eql_i _ _) rfl ?_
    refine JL_val _ (Ev_move rfl) rfl ?_
    refine JL_gval 4 165 true _ _ rfl rfl (by simp) (Ev_move rfl) rfl ?_
    refine JL_gval 4 165 true _ (.bool (!(decide (openE ka ((k:Int)) s (flipB (frmT ka k s z) dq1 dq2) = 0)))) rfl rfl (by simp) (Ev_bin _ _ _ rfl rfl (fun _ => eqGuard_errV ..) fun _ => neq_errV Tryd.underlying45 _ _) rfl ?_
    refine JL_gval 4 165 true _ _ rfl rfl (by simp) (Ev_move rfl) rfl ?_
    refine JL_gskip 7 168 false _ rfl rfl (by rw [show (decide (openE ka ((k:Int)) s (flipB (frmT ka k s z) dq1 dq2) = 0)) = false from (decide_eq_false hfl)] <;> rfl) rfl ?_
    refine JL_gskip 7 168 false _ rfl rfl (by rw [show (decide (openE ka ((k:Int)) s (flipB (frmT ka k s z) dq1 dq2) = 0)) = false from (decide_eq_false hfl)] <;> rfl) rfl ?_
    refine JL_gskip 7 168 false _ rfl rfl (by rw [show (decide (openE ka ((k:Int)) s (flipB (frmT ka k s z) dq1 dq2) = 0)) = false from (decide_eq_false hfl)] <;> rfl) rfl ?_
    refine JL_gskip 7 168 false _ rfl rfl (by rw [show (decide (openE ka ((k:Int)) s (flipB (frmT ka k s z) dq1 dq2) = 0)) = false from (decide_eq_false hfl)] <;> rfl) rfl ?_
    refine JL_gskipU 11 172 true rfl rfl rfl ?_
    refine JL_gskipU 11 172 true rfl rfl rfl ?_
    refine JL_gskipU 11 172 true rfl rfl rfl ?_
    refine JL_gskipU 11 172 true rfl rfl rfl ?_
    refine JL_gskipU 11 172 true rfl rfl rfl ?_
    refine JL_gskipU 11 172 true rfl rfl rfl ?_
    refine JL_gskip 7 168 false _ rfl rfl (by rw [show (decide (openE ka ((k:Int)) s (flipB (frmT ka k s z) dq1 dq2) = 0)) = false from (decide_eq_false hfl)] <;> rfl) rfl ?_
    refine JL_gval 4 165 true _ _ rfl rfl (by simp) (Ev_pickT _ rfl (by rw [show (decide (openE ka ((k:Int)) s (flipB (frmT ka k s z) dq1 dq2) = 0)) = false from (decide_eq_false hfl)] <;> rfl) rfl) rfl ?_
    refine JL_val _ (Ev_pickT _ rfl (by simp) rfl) rfl ?_
    refine JL_val _ (Ev_assign rfl) rfl ?_
    refine JL_nil ?_
    refine JQ_then ?_
    refine JC_ret ?_
    refine JQ_ret (.bool true) (res1 Tryd.results8 (RV_tmp rfl)) fun w1 hw1 => ?_
    exact ⟨_, [], rfl, ⟨by rw [show (true) = true from rfl], rfl⟩, hw1.sub (by simp) (by simp)⟩

theorem linkBack_w (ka kb : List UInt8) (v0 : Int) (s : UInt64) (v1 : Int) (s1 : UInt64) (az : Option Addr) (n cz : Nat) (z : List UInt8) (w : World) (hka : ka.length = 32) (hkb : kb.length = 32) (hv0 : -9223372036854775808 ≤ v0 ∧ v0 ≤ 9223372036854775807) (hv1 : -9223372036854775808 ≤ v1 ∧ v1 ≤ 9223372036854775807) (hz : z.length = n) (hcb : az = none → cz = 0) (hc : n ≤ cz ∧ cz ≤ maxLen) (hr : RdB w [] az z) (hG : GLs w) (hGr : GLr w) (hGi : GLi w) : Calls Tryd.prog 8 #[.agg (cu8 ka ++ cu8 kb).toArray, .agg (List.toArray (α := Value) [I64 v0, U64 s, I64 v1, U64 s1]), .slice az n cz] w (Post w [] (fun v L => v = .bool true ∧ L = [])) := by
  obtain ⟨hnc, hcm⟩ := hc
  by_cases hn : n ≤ 3000
  · by_cases hw : v0 = 1 ∨ v0 = 2
    · obtain ⟨k, rfl⟩ : ∃ k : Nat, v0 = k := ⟨v0.toNat, by omega⟩
      have hw' : k = 1 ∨ k = 2 := by omega
      by_cases ho : openE kb v1 s1 (frmT ka k s z) = 0
      · exact linkBackK_c ka kb k s v1 s1 az n cz z w hka hkb hz hcb hnc hcm hr hG hGr hGi hn hw' ho
      · by_cases hsd : (k:Int) = v1 ∧ s = s1
        · by_cases hkk : ka = kb
          · exfalso
            apply ho
            rw [← hkk, ← hsd.1, ← hsd.2]
            exact open_frm hw' (by omega)
          · exact linkBackE_c ka kb k s v1 s1 az n cz z w hka hkb hz hcb hnc hcm hr hG hGr hGi hn hw' ho hsd hkk
        · exact linkBackS_c ka kb k s v1 s1 az n cz z w hka hkb hz hcb hnc hcm hr hG hGr hGi hn hw' ho hsd
    · exact linkBackW_c ka kb v0 s v1 s1 az n cz z w hka hkb hz hcb hnc hcm hr hG hGr hGi hn hw
  · exact linkBackX_c ka kb v0 s v1 s1 az n cz z w hka hkb hz hcb hnc hcm hr hG hGr hGi (by omega)

end Go.Proofs.YtkdpdgpphpngeaaDoor
