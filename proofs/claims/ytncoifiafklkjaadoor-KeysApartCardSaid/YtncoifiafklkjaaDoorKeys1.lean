import Derived.Test.YtncoifiafklkjaaDoorKeysLaw
namespace Go.Proofs.YtncoifiafklkjaaDoor
open Go Go.Sx
set_option linter.unusedVariables false
set_option linter.unusedSimpArgs false
set_option maxRecDepth 100000
attribute [local irreducible] mid zr8 zr32 rotr wordL spreadL comprL cpN adN spN wrdN constL initL padL stN outN routN hashL sumG blkL xbN raN macL orN numN rnN lblL sessL
theorem sized1_c  (w : World) : Calls Tryd.prog 121 #[I64 (1:Int)] w (Post w [] (fun v L => v = .bool true ∧ L = [])) := by
  refine enter w [] 17 [] [I64 (1:Int)] Tryd.func121 rfl rfl (by simp) (Hp.start (by simp) (by simp) (by simp)) ?_
  show JC _ _ _ [(0, I64 (1:Int))] _
  refine JC_seq ?_
  refine JC_region ?_
  refine JL_val _ (Ev_assign rfl) rfl ?_
  refine JL_nil ?_
  refine JQ_then ?_
  refine JC_seq ?_
  refine JC_region ?_
  refine JL_val _ (Ev_move rfl) rfl ?_
  refine JL_val (.bool (decide ((1:Int) = (1:Int)))) (Ev_bini rfl rfl fun _ => bin_eql_i _ _) rfl ?_
  refine JL_val _ (Ev_move rfl) rfl ?_
  refine JL_gskip 2 5 false _ rfl rfl (by decide) rfl ?_
  refine JL_gskip 2 5 false _ rfl rfl (by decide) rfl ?_
  refine JL_val _ (Ev_pickT _ rfl (by decide) rfl) rfl ?_
  refine JL_val _ (Ev_move rfl) rfl ?_
  refine JL_gskip 6 9 false _ rfl rfl rfl rfl ?_
  refine JL_gskip 6 9 false _ rfl rfl rfl rfl ?_
  refine JL_val _ (Ev_pickT _ rfl rfl rfl) rfl ?_
  refine JL_val _ (Ev_move rfl) rfl ?_
  refine JL_gskip 10 13 false _ rfl rfl rfl rfl ?_
  refine JL_gskip 10 13 false _ rfl rfl rfl rfl ?_
  refine JL_val _ (Ev_pickT _ rfl rfl rfl) rfl ?_
  refine JL_val _ (Ev_assign rfl) rfl ?_
  refine JL_nil ?_
  refine JQ_then ?_
  refine JC_ret ?_
  refine JQ_ret (.bool true) (res1 Tryd.results121 (RV_tmp rfl)) fun w1 hw1 => ?_
  exact ⟨_, [], rfl, ⟨by rw [show (true) = true from rfl], rfl⟩, hw1.sub (by simp) (by simp)⟩

theorem sized2_c  (w : World) : Calls Tryd.prog 121 #[I64 (2:Int)] w (Post w [] (fun v L => v = .bool true ∧ L = [])) := by
  refine enter w [] 17 [] [I64 (2:Int)] Tryd.func121 rfl rfl (by simp) (Hp.start (by simp) (by simp) (by simp)) ?_
  show JC _ _ _ [(0, I64 (2:Int))] _
  refine JC_seq ?_
  refine JC_region ?_
  refine JL_val _ (Ev_assign rfl) rfl ?_
  refine JL_nil ?_
  refine JQ_then ?_
  refine JC_seq ?_
  refine JC_region ?_
  refine JL_val _ (Ev_move rfl) rfl ?_
  refine JL_val (.bool (decide ((2:Int) = (1:Int)))) (Ev_bini rfl rfl fun _ => bin_eql_i _ _) rfl ?_
  refine JL_val _ (Ev_move rfl) rfl ?_
  refine JL_gval 2 5 false _ _ rfl rfl (by decide) (Ev_move rfl) rfl ?_
  refine JL_gval 2 5 false _ (.bool (decide ((2:Int) = (2:Int)))) rfl rfl (by decide) (Ev_bini rfl rfl fun _ => bin_eql_i _ _) rfl ?_
  refine JL_val _ (Ev_pickF _ rfl (by decide) rfl) rfl ?_
  refine JL_val _ (Ev_move rfl) rfl ?_
  refine JL_gskip 6 9 false _ rfl rfl (by decide) rfl ?_
  refine JL_gskip 6 9 false _ rfl rfl (by decide) rfl ?_
  refine JL_val _ (Ev_pickT _ rfl (by decide) rfl) rfl ?_
  refine JL_val _ (Ev_move rfl) rfl ?_
  refine JL_gskip 10 13 false _ rfl rfl rfl rfl ?_
  refine JL_gskip 10 13 false _ rfl rfl rfl rfl ?_
  refine JL_val _ (Ev_pickT _ rfl rfl rfl) rfl ?_
  refine JL_val _ (Ev_assign rfl) rfl ?_
  refine JL_nil ?_
  refine JQ_then ?_
  refine JC_ret ?_
  refine JQ_ret (.bool true) (res1 Tryd.results121 (RV_tmp rfl)) fun w1 hw1 => ?_
  exact ⟨_, [], rfl, ⟨by rw [show (true) = true from rfl], rfl⟩, hw1.sub (by simp) (by simp)⟩

theorem sized4_c  (w : World) : Calls Tryd.prog 121 #[I64 (4:Int)] w (Post w [] (fun v L => v = .bool true ∧ L = [])) := by
  refine enter w [] 17 [] [I64 (4:Int)] Tryd.func121 rfl rfl (by simp) (Hp.start (by simp) (by simp) (by simp)) ?_
  show JC _ _ _ [(0, I64 (4:Int))] _
  refine JC_seq ?_
  refine JC_region ?_
  refine JL_val _ (Ev_assign rfl) rfl ?_
  refine JL_nil ?_
  refine JQ_then ?_
  refine JC_seq ?_
  refine JC_region ?_
  refine JL_val _ (Ev_move rfl) rfl ?_
  refine JL_val (.bool (decide ((4:Int) = (1:Int)))) (Ev_bini rfl rfl fun _ => bin_eql_i _ _) rfl ?_
  refine JL_val _ (Ev_move rfl) rfl ?_
  refine JL_gval 2 5 false _ _ rfl rfl (by decide) (Ev_move rfl) rfl ?_
  refine JL_gval 2 5 false _ (.bool (decide ((4:Int) = (2:Int)))) rfl rfl (by decide) (Ev_bini rfl rfl fun _ => bin_eql_i _ _) rfl ?_
  refine JL_val _ (Ev_pickF _ rfl (by decide) rfl) rfl ?_
  refine JL_val _ (Ev_move rfl) rfl ?_
  refine JL_gval 6 9 false _ _ rfl rfl (by decide) (Ev_move rfl) rfl ?_
  refine JL_gval 6 9 false _ (.bool (decide ((4:Int) = (4:Int)))) rfl rfl (by decide) (Ev_bini rfl rfl fun _ => bin_eql_i _ _) rfl ?_
  refine JL_val _ (Ev_pickF _ rfl (by decide) rfl) rfl ?_
  refine JL_val _ (Ev_move rfl) rfl ?_
  refine JL_gskip 10 13 false _ rfl rfl (by decide) rfl ?_
  refine JL_gskip 10 13 false _ rfl rfl (by decide) rfl ?_
  refine JL_val _ (Ev_pickT _ rfl (by decide) rfl) rfl ?_
  refine JL_val _ (Ev_assign rfl) rfl ?_
  refine JL_nil ?_
  refine JQ_then ?_
  refine JC_ret ?_
  refine JQ_ret (.bool true) (res1 Tryd.results121 (RV_tmp rfl)) fun w1 hw1 => ?_
  exact ⟨_, [], rfl, ⟨by rw [show (true) = true from rfl], rfl⟩, hw1.sub (by simp) (by simp)⟩

theorem sized8_c  (w : World) : Calls Tryd.prog 121 #[I64 (8:Int)] w (Post w [] (fun v L => v = .bool true ∧ L = [])) := by
  refine enter w [] 17 [] [I64 (8:Int)] Tryd.func121 rfl rfl (by simp) (Hp.start (by simp) (by simp) (by simp)) ?_
  show JC _ _ _ [(0, I64 (8:Int))] _
  refine JC_seq ?_
  refine JC_region ?_
  refine JL_val _ (Ev_assign rfl) rfl ?_
  refine JL_nil ?_
  refine JQ_then ?_
  refine JC_seq ?_
  refine JC_region ?_
  refine JL_val _ (Ev_move rfl) rfl ?_
  refine JL_val (.bool (decide ((8:Int) = (1:Int)))) (Ev_bini rfl rfl fun _ => bin_eql_i _ _) rfl ?_
  refine JL_val _ (Ev_move rfl) rfl ?_
  refine JL_gval 2 5 false _ _ rfl rfl (by decide) (Ev_move rfl) rfl ?_
  refine JL_gval 2 5 false _ (.bool (decide ((8:Int) = (2:Int)))) rfl rfl (by decide) (Ev_bini rfl rfl fun _ => bin_eql_i _ _) rfl ?_
  refine JL_val _ (Ev_pickF _ rfl (by decide) rfl) rfl ?_
  refine JL_val _ (Ev_move rfl) rfl ?_
  refine JL_gval 6 9 false _ _ rfl rfl (by decide) (Ev_move rfl) rfl ?_
  refine JL_gval 6 9 false _ (.bool (decide ((8:Int) = (4:Int)))) rfl rfl (by decide) (Ev_bini rfl rfl fun _ => bin_eql_i _ _) rfl ?_
  refine JL_val _ (Ev_pickF _ rfl (by decide) rfl) rfl ?_
  refine JL_val _ (Ev_move rfl) rfl ?_
  refine JL_gval 10 13 false _ _ rfl rfl (by decide) (Ev_move rfl) rfl ?_
  refine JL_gval 10 13 false _ (.bool (decide ((8:Int) = (8:Int)))) rfl rfl (by decide) (Ev_bini rfl rfl fun _ => bin_eql_i _ _) rfl ?_
  refine JL_val _ (Ev_pickF _ rfl (by decide) rfl) rfl ?_
  refine JL_val _ (Ev_assign rfl) rfl ?_
  refine JL_nil ?_
  refine JQ_then ?_
  refine JC_ret ?_
  refine JQ_ret (.bool (decide ((8:Int) = (8:Int)))) (res1 Tryd.results121 (RV_tmp rfl)) fun w1 hw1 => ?_
  exact ⟨_, [], rfl, ⟨by rw [show (decide ((8:Int) = (8:Int))) = true from (by decide)], rfl⟩, hw1.sub (by simp) (by simp)⟩

theorem num8N_c (wb : Nat) (nv : UInt64) (w : World) (h0 : w.heap[wb]? = some (.cells [.nilIface, .slice none 0 0].toArray 138 (0, 0)))  : Calls Tryd.prog 97 #[Ptr wb 0, U64 nv, I64 (8:Int)] w (Post w [wb] (fun v L => v = Ptr wb 0 ∧ ∃ g sp cap, L = [⟨wb, [.nilIface, Slc g 0 8 cap], 138, (0, 0)⟩, ⟨g, cu8 (numN 8 nv 8) ++ sp, 5, (0, 0)⟩] ∧ sp.length = cap - 8 ∧ 8 ≤ cap ∧ cap ≤ maxLen)) := by
  have hmx : maxLen = 9223372036854775807 := rfl
  refine enter w [wb] 51 [⟨wb, [.nilIface, .slice none 0 0], 138, (0, 0)⟩] [Ptr wb 0, U64 nv, I64 (8:Int)] Tryd.func97 rfl rfl (by simp) (Hp.start (by simpa using h0) (by simp) (by simp)) ?_
  show JC _ _ _ [(0, Ptr wb 0), (1, U64 nv), (2, I64 (8:Int))] _
  refine JC_seq ?_
  refine JC_region ?_
  refine JL_val _ (Ev_assign rfl) rfl ?_
  refine JL_nil ?_
  refine JQ_then ?_
  refine JC_seq ?_
  refine JC_seq ?_
  refine JC_region ?_
  refine JL_val _ (Ev_move rfl) rfl ?_
  refine JL_val (.bool false) (Ev_bin _ _ _ rfl rfl (fun _ => eqGuard_ptr ..) fun _ => eql_ptr_nil Tryd.underlying134) rfl ?_
  refine JL_nil ?_
  refine JQ_then ?_
  refine JC_condF _ rfl rfl ?_
  refine JC_skip ?_
  refine JQ_then ?_
  refine JC_seq ?_
  refine JC_seq ?_
  refine JC_region ?_
  refine JL_val _ (Ev_move rfl) rfl ?_
  refine JL_step (Step_callP 121 [I64 (8:Int)] (.bool true) (Cl_func [I64 (8:Int)] Tryd.call121 rfl) (fun w1 _ => sized8_c w1)) rfl ?_
  rintro v1 L1 ⟨rfl, rfl⟩
  show JL _ _ _ _ ((11, .bool true) :: _) [⟨wb, [.nilIface, .slice none 0 0], 138, (0, 0)⟩]
  refine JL_val (.bool (!true)) (Ev_not rfl) rfl ?_
  refine JL_val _ (Ev_move rfl) rfl ?_
  refine JL_gval 3 13 false _ _ rfl rfl rfl (Ev_move rfl) rfl ?_
  refine JL_gval 3 13 false _ (.bool (decide ((8:Int) < (8:Int)))) rfl rfl rfl (Ev_bini rfl rfl fun _ => bin_lss_i _ _) rfl ?_
  refine JL_gval 3 13 false _ _ rfl rfl rfl (Ev_move rfl) rfl ?_
  refine JL_gskip 6 16 true _ rfl rfl (by decide) rfl ?_
  refine JL_gskip 6 16 true _ rfl rfl (by decide) rfl ?_
  refine JL_gskip 6 16 true _ rfl rfl (by decide) rfl ?_
  refine JL_gskip 6 16 true _ rfl rfl (by decide) rfl ?_
  refine JL_gskip 6 16 true _ rfl rfl (by decide) rfl ?_
  refine JL_gval 3 13 false _ _ rfl rfl rfl (Ev_pickF _ rfl (by decide) rfl) rfl ?_
  refine JL_val _ (Ev_pickF _ rfl rfl rfl) rfl ?_
  refine JL_nil ?_
  refine JQ_then ?_
  refine JC_condF _ rfl rfl ?_
  refine JC_skip ?_
  refine JQ_then ?_
  refine JC_seq ?_
  refine JC_seq ?_
  refine JC_region ?_
  refine JL_val _ (Ev_move rfl) rfl ?_
  refine JL_val (I64 (7:Int)) (Ev_bini rfl rfl fun _ => bin_sub_i _ _ (7:Int) (by omega) (by omega)) rfl ?_
  refine JL_val _ (Ev_assign rfl) rfl ?_
  refine JL_nil ?_
  refine JQ_then ?_
  refine JC_block ?_
  refine JC_loop (ι := (Unit) ⊕ (Nat × List UInt8 × Nat × List Value × Nat)) (fun x => match x with | .inl _ => [(0, Ptr wb 0), (1, U64 nv), (6, .pointer none), (7, I64 (7:Int))] | .inr ⟨q, oq, gq, spq, cpq⟩ => [(0, Ptr wb 0), (1, U64 nv), (6, .pointer none), (7, I64 (-(q:Int) + 7))]) (fun x => match x with | .inl _ => [⟨wb, [.nilIface, .slice none 0 0], 138, (0, 0)⟩] | .inr ⟨q, oq, gq, spq, cpq⟩ => [⟨wb, [.nilIface, Slc gq 0 q cpq], 138, (0, 0)⟩, ⟨gq, cu8 oq ++ spq, 5, (0, 0)⟩]) (fun x => match x with | .inl _ => True | .inr ⟨q, oq, gq, spq, cpq⟩ => 1 ≤ q ∧ q ≤ 8 ∧ oq = numN 8 nv q ∧ oq.length = q ∧ spq.length = cpq - (q) ∧ q ≤ cpq ∧ cpq ≤ maxLen) (fun x => match x with | .inl _ => 9 | .inr ⟨q, oq, gq, spq, cpq⟩ => 8 - q) (.inl ()) trivial (Sub.cons rfl (Sub.cons rfl (Sub.cons rfl (Sub.cons rfl (Sub.nil))))) rfl ?_
  rintro (_ | ⟨q, oq, gq, spq, cpq⟩) hx
  ·
    obtain _ := hx
    show JC _ _ _ [(0, Ptr wb 0), (1, U64 nv), (6, .pointer none), (7, I64 (7:Int))] [⟨wb, [.nilIface, .slice none 0 0], 138, (0, 0)⟩]
    refine JC_seq ?_
    refine JC_seq ?_
    refine JC_region ?_
    refine JL_val _ (Ev_move rfl) rfl ?_
    refine JL_val (.bool (decide ((0:Int) ≤ (7:Int)))) (Ev_bini rfl rfl fun _ => bin_geq_i _ _) rfl ?_
    refine JL_nil ?_
    refine JQ_then ?_
    refine JC_condT _ rfl (by decide) ?_
    refine JC_skip ?_
    refine JQ_then ?_
    refine JC_seq ?_
    refine JC_block ?_
    refine JC_draw 51 4 [(0, Ptr wb 0), (1, Ptr wb 0), (2, Ptr wb 0), (3, Ptr wb 1), (4, .slice none 0 0), (5, U64 nv), (6, I64 (7:Int)), (7, I64 (56:Int)), (8, U64 (nv >>> (56:UInt64))), (9, U8 ((nv >>> (56:UInt64)).toUInt8))] Tryd.mixed rfl (by decide +kernel) ?_
    refine DP_one ⟨[], [0, 1, 2, 3, 4, 5, 6, 7, 8, 9], [], [0, 1, 2, 3, 4, 5, 6, 7, 8, 9], [10]⟩ 10 _ rfl rfl (by decide +kernel) rfl ⟨⟨_, rfl, Qok_val rfl (Ev_move rfl)⟩, ⟨_, rfl, Qok_val rfl (Ev_move rfl)⟩, ⟨_, rfl, Qok_val rfl (Ev_nilCheck rfl)⟩, ⟨_, rfl, Qok_val rfl (Ev_fieldAddr 1 22 1 Tryd.underlying138 rfl Tryd.sizeOf22 rfl rfl)⟩, ⟨_, rfl, Qok_val rfl (Ev_load rfl (Ld_one Tryd.isAgg22 (MemAt.ent 0 rfl (Seg.tail (Seg.head)))))⟩, ⟨_, rfl, Qok_val rfl (Ev_move rfl)⟩, ⟨_, rfl, Qok_val rfl (Ev_move rfl)⟩, ⟨_, rfl, Qok_val rfl (Ev_bini rfl rfl fun _ => bin_mul_i _ _ (56:Int) (by omega) (by omega))⟩, ⟨_, rfl, Qok_val rfl (Ev_bini rfl rfl fun _ => bin_shr_u64 nv _ _ 56 (by decide) rfl)⟩, ⟨_, rfl, Qok_val rfl (Ev_conv _ _ rfl fun _ => conv_u64_u8 (by rw [Tryd.underlying58]; rfl) Tryd.underlying5 _)⟩, trivial⟩ rfl (Cok_step rfl (Step_buildSlice 5 1 _ [(0, U8 ((nv >>> (56:UInt64)).toUInt8))] (cu8 ([(nv >>> (56:UInt64)).toUInt8])) Tryd.underlying22 Tryd.sizeOf5 Tryd.zeroValue5 rfl rfl rfl (by kernel_rfl))) ?_
    rintro v1 L1 ⟨nb1, hnb1, rfl, rfl⟩
    refine ⟨[], ?_⟩
    show DP _ _ _ _ _ _ _ _ [⟨wb, [.nilIface, .slice none 0 0], 138, (0, 0)⟩, ⟨nb1, cu8 ([(nv >>> (56:UInt64)).toUInt8]), 5, (0, 0)⟩]
    refine DP_one ⟨[10], [0, 1, 2, 3, 4, 5, 6, 7, 8, 9], [5, 6, 7, 8, 9], [0, 1, 2, 3, 4], [11]⟩ 11 _ rfl rfl (by decide +kernel) rfl ⟨⟨_, rfl, Qok_val rfl (Ev_move rfl)⟩, ⟨_, rfl, Qok_val rfl (Ev_move rfl)⟩, ⟨_, rfl, Qok_val rfl (Ev_nilCheck rfl)⟩, ⟨_, rfl, Qok_val rfl (Ev_fieldAddr 1 22 1 Tryd.underlying138 rfl Tryd.sizeOf22 rfl rfl)⟩, ⟨_, rfl, Qok_val rfl (Ev_load rfl (Ld_one Tryd.isAgg22 (MemAt.ent 0 rfl (Seg.tail (Seg.head)))))⟩, trivial⟩ rfl (Cok_step rfl (Step_appM8 22 5 [false, false] (.slice none 0 0) 0 ([] : List UInt8) ([(nv >>> (56:UInt64)).toUInt8]) (some ⟨nb1, 0, none⟩) 1 1 1 Tryd.underlying22 Tryd.info5 rfl (.inl ⟨rfl, rfl, rfl, rfl, by omega⟩) rfl (by simp) (SrcAt.mem (MemAt.ent 1 rfl (Seg.whole _))) (by omega) (by unfold maxLen; omega) (by omega))) ?_
    rintro v1 L1 ⟨nb2, sp1, cp1, hg1, rfl, rfl, ha1, ha2, ha3, ha4⟩
    refine ⟨[(12, Ptr wb 0), (13, Ptr wb 1)], ?_⟩
    show DP _ _ _ _ _ _ _ _ [⟨wb, [.nilIface, .slice none 0 0], 138, (0, 0)⟩, ⟨nb1, cu8 ([(nv >>> (56:UInt64)).toUInt8]), 5, (0, 0)⟩, ⟨nb2, cu8 (([] : List UInt8) ++ ([(nv >>> (56:UInt64)).toUInt8])) ++ sp1, 5, (0, 0)⟩]
    refine DP_one ⟨[10, 11], [0, 1, 2, 3, 4, 5, 6, 7, 8, 9, 12, 13], [1, 2, 3, 4, 5, 6, 7, 8, 9], [0, 12, 13], [14]⟩ 14 _ rfl rfl (by decide +kernel) rfl ⟨⟨_, rfl, Qok_val rfl (Ev_move rfl)⟩, ⟨_, rfl, Qok_val rfl (Ev_nilCheck rfl)⟩, ⟨_, rfl, Qok_val rfl (Ev_fieldAddr 1 22 1 Tryd.underlying138 rfl Tryd.sizeOf22 rfl rfl)⟩, trivial⟩ rfl (Cok_step rfl (Step_store 0 wb 1 1 ([.nilIface, .slice none 0 0]) 138 (Slc nb2 0 1 cp1) ([Slc nb2 0 1 cp1]) ([.nilIface, Slc nb2 0 1 cp1]) rfl rfl rfl rfl Tryd.sizeOf22 rfl (by simp [Value.oneCell']) (Nat.le_of_ble_eq_true rfl) (rfl))) ?_
    rintro v1 L1 ⟨rfl, rfl⟩
    refine ⟨[], ?_⟩
    show DP _ _ _ _ _ _ _ _ [⟨wb, [.nilIface, Slc nb2 0 1 cp1], 138, (0, 0)⟩, ⟨nb1, cu8 ([(nv >>> (56:UInt64)).toUInt8]), 5, (0, 0)⟩, ⟨nb2, cu8 (([] : List UInt8) ++ ([(nv >>> (56:UInt64)).toUInt8])) ++ sp1, 5, (0, 0)⟩]
    refine DP_end ⟨[10, 11, 14], [0, 1, 2, 3, 4, 5, 6, 7, 8, 9, 12, 13], [0, 1, 2, 3, 4, 5, 6, 7, 8, 9, 12, 13], [], []⟩ rfl rfl (by decide +kernel) rfl trivial ?_
    refine K_sub (F' := [(36, Ptr wb 0), (37, Ptr wb 0), (38, Ptr wb 0), (39, Ptr wb 1), (40, .slice none 0 0), (41, U64 nv), (42, I64 (7:Int)), (43, I64 (56:Int)), (44, U64 (nv >>> (56:UInt64))), (45, U8 ((nv >>> (56:UInt64)).toUInt8)), (46, Slc nb1 0 1 1), (47, Slc nb2 0 1 cp1), (48, Ptr wb 0), (49, Ptr wb 1), (0, Ptr wb 0), (1, U64 nv), (6, .pointer none), (7, I64 (7:Int)), (32, I64 (7:Int)), (33, .bool (decide ((0:Int) ≤ (7:Int))))]) (Sub.cons (by kernel_rfl) (Sub.cons (by kernel_rfl) (Sub.cons (by kernel_rfl) (Sub.cons (by kernel_rfl) (Sub.cons (by kernel_rfl) (Sub.cons (by kernel_rfl) (Sub.cons (by kernel_rfl) (Sub.cons (by kernel_rfl) (Sub.cons (by kernel_rfl) (Sub.cons (by kernel_rfl) (Sub.cons (by kernel_rfl) (Sub.cons (by kernel_rfl) (Sub.cons (by kernel_rfl) (Sub.cons (by kernel_rfl) (Sub.cons (by kernel_rfl) (Sub.cons (by kernel_rfl) (Sub.cons (by kernel_rfl) (Sub.cons (by kernel_rfl) (Sub.cons (by kernel_rfl) (Sub.cons (by kernel_rfl) (Sub.nil))))))))))))))))))))) ?_
    show JQ _ _ _ [(36, Ptr wb 0), (37, Ptr wb 0), (38, Ptr wb 0), (39, Ptr wb 1), (40, .slice none 0 0), (41, U64 nv), (42, I64 (7:Int)), (43, I64 (56:Int)), (44, U64 (nv >>> (56:UInt64))), (45, U8 ((nv >>> (56:UInt64)).toUInt8)), (46, Slc nb1 0 1 1), (47, Slc nb2 0 1 cp1), (48, Ptr wb 0), (49, Ptr wb 1), (0, Ptr wb 0), (1, U64 nv), (6, .pointer none), (7, I64 (7:Int)), (32, I64 (7:Int)), (33, .bool (decide ((0:Int) ≤ (7:Int))))] _
    refine JQ_in_normal ?_
    refine JQ_then ?_
    refine JC_region ?_
    refine JL_val _ (Ev_move rfl) rfl ?_
    refine JL_val (I64 (6:Int)) (Ev_bini rfl rfl fun _ => bin_sub_i _ _ (6:Int) (by omega) (by omega)) rfl ?_
    refine JL_val _ (Ev_assign rfl) rfl ?_
    refine JL_nil ?_
    refine JQ_thenK ?_
    refine K_mask [true, false, true] ?_
    show K _ _ [⟨wb, [.nilIface, Slc nb2 0 1 cp1], 138, (0, 0)⟩, ⟨nb2, cu8 (([] : List UInt8) ++ ([(nv >>> (56:UInt64)).toUInt8])) ++ sp1, 5, (0, 0)⟩] _
    refine K_next (.inr (1, ([] : List UInt8) ++ ([(nv >>> (56:UInt64)).toUInt8]), nb2, sp1, cp1)) ⟨by omega, by omega, by rw [numN_succ, numN_zero]; rfl, (ha1).trans (by first | rfl | simp +arith), (ha2).trans (by first | rfl | simp +arith), by omega, ha4⟩ (by first | (simp; omega) | simp) (Sub.cons rfl (Sub.cons rfl (Sub.cons rfl (Sub.cons (some_i64 (by omega)) (Sub.nil))))) rfl
  ·
    obtain ⟨hx0, hx1, hx2, hoq, hx4, hx5, hx6⟩ := hx
    show JC _ _ _ [(0, Ptr wb 0), (1, U64 nv), (6, .pointer none), (7, I64 (-(q:Int) + 7))] [⟨wb, [.nilIface, Slc gq 0 q cpq], 138, (0, 0)⟩, ⟨gq, cu8 oq ++ spq, 5, (0, 0)⟩]
    refine JC_seq ?_
    refine JC_seq ?_
    refine JC_region ?_
    refine JL_val _ (Ev_move rfl) rfl ?_
    refine JL_val (.bool (decide ((0:Int) ≤ (-(q:Int) + 7)))) (Ev_bini rfl rfl fun _ => bin_geq_i _ _) rfl ?_
    refine JL_nil ?_
    refine JQ_then ?_
    refine JC_cond (decide ((0:Int) ≤ (-(q:Int) + 7))) rfl (fun hb1 => ?_) (fun hb1 => ?_)
    ·
      have hp1 : (0:Int) ≤ (-(q:Int) + 7) := of_decide_eq_true hb1
      refine JC_skip ?_
      refine JQ_then ?_
      refine JC_seq ?_
      refine JC_block ?_
      refine JC_draw 51 4 [(0, Ptr wb 0), (1, Ptr wb 0), (2, Ptr wb 0), (3, Ptr wb 1), (4, Slc gq 0 q cpq), (5, U64 nv), (6, I64 (-(q:Int) + 7)), (7, I64 (-8*(q:Int) + 56)), (8, U64 (nv >>> UInt64.ofNat (56 - 8*q))), (9, U8 ((nv >>> UInt64.ofNat (56 - 8*q)).toUInt8))] Tryd.mixed rfl (by decide +kernel) ?_
      refine DP_one ⟨[], [0, 1, 2, 3, 4, 5, 6, 7, 8, 9], [], [0, 1, 2, 3, 4, 5, 6, 7, 8, 9], [10]⟩ 10 _ rfl rfl (by decide +kernel) rfl ⟨⟨_, rfl, Qok_val rfl (Ev_move rfl)⟩, ⟨_, rfl, Qok_val rfl (Ev_move rfl)⟩, ⟨_, rfl, Qok_val rfl (Ev_nilCheck rfl)⟩, ⟨_, rfl, Qok_val rfl (Ev_fieldAddr 1 22 1 Tryd.underlying138 rfl Tryd.sizeOf22 rfl rfl)⟩, ⟨_, rfl, Qok_val rfl (Ev_load rfl (Ld_one Tryd.isAgg22 (MemAt.ent 0 rfl (Seg.tail (Seg.head)))))⟩, ⟨_, rfl, Qok_val rfl (Ev_move rfl)⟩, ⟨_, rfl, Qok_val rfl (Ev_move rfl)⟩, ⟨_, rfl, Qok_val rfl (Ev_bini rfl rfl fun _ => bin_mul_i _ _ (-8*(q:Int) + 56) (by omega) (by omega))⟩, ⟨_, rfl, Qok_val rfl (Ev_bini rfl rfl fun _ => bin_shr_u64 nv _ _ (56 - 8*q) (by omega) (by omega))⟩, ⟨_, rfl, Qok_val rfl (Ev_conv _ _ rfl fun _ => conv_u64_u8 (by rw [Tryd.underlying58]; rfl) Tryd.underlying5 _)⟩, trivial⟩ rfl (Cok_step rfl (Step_buildSlice 5 1 _ [(0, U8 ((nv >>> UInt64.ofNat (56 - 8*q)).toUInt8))] (cu8 ([(nv >>> UInt64.ofNat (56 - 8*q)).toUInt8])) Tryd.underlying22 Tryd.sizeOf5 Tryd.zeroValue5 rfl rfl rfl (by kernel_rfl))) ?_
      rintro v1 L1 ⟨nb3, hnb3, rfl, rfl⟩
      refine ⟨[], ?_⟩
      show DP _ _ _ _ _ _ _ _ [⟨wb, [.nilIface, Slc gq 0 q cpq], 138, (0, 0)⟩, ⟨gq, cu8 oq ++ spq, 5, (0, 0)⟩, ⟨nb3, cu8 ([(nv >>> UInt64.ofNat (56 - 8*q)).toUInt8]), 5, (0, 0)⟩]
      refine DP_one ⟨[10], [0, 1, 2, 3, 4, 5, 6, 7, 8, 9], [5, 6, 7, 8, 9], [0, 1, 2, 3, 4], [11]⟩ 11 _ rfl rfl (by decide +kernel) rfl ⟨⟨_, rfl, Qok_val rfl (Ev_move rfl)⟩, ⟨_, rfl, Qok_val rfl (Ev_move rfl)⟩, ⟨_, rfl, Qok_val rfl (Ev_nilCheck rfl)⟩, ⟨_, rfl, Qok_val rfl (Ev_fieldAddr 1 22 1 Tryd.underlying138 rfl Tryd.sizeOf22 rfl rfl)⟩, ⟨_, rfl, Qok_val rfl (Ev_load rfl (Ld_one Tryd.isAgg22 (MemAt.ent 0 rfl (Seg.tail (Seg.head)))))⟩, trivial⟩ rfl (Cok_step rfl (Step_appM8 22 5 [false, true, false] (Slc gq 0 q cpq) q oq ([(nv >>> UInt64.ofNat (56 - 8*q)).toUInt8]) (some ⟨nb3, 0, none⟩) 1 1 (q + 1) Tryd.underlying22 Tryd.info5 rfl (.inr ⟨gq, spq, cpq, rfl, rfl, (by first | exact hoq | simp [hoq]), hx4, (by omega), (by omega)⟩) rfl (by simp) (SrcAt.mem (MemAt.ent 2 rfl (Seg.whole _))) (by omega) (by unfold maxLen; omega) (by omega))) ?_
      rintro v1 L1 ⟨nb4, sp2, cp2, hg2, rfl, rfl, ha5, ha6, ha7, ha8⟩
      refine ⟨[(12, Ptr wb 0), (13, Ptr wb 1)], ?_⟩
      show DP _ _ _ _ _ _ _ _ [⟨wb, [.nilIface, Slc gq 0 q cpq], 138, (0, 0)⟩, ⟨nb3, cu8 ([(nv >>> UInt64.ofNat (56 - 8*q)).toUInt8]), 5, (0, 0)⟩, ⟨nb4, cu8 (oq ++ ([(nv >>> UInt64.ofNat (56 - 8*q)).toUInt8])) ++ sp2, 5, (0, 0)⟩]
      refine DP_one ⟨[10, 11], [0, 1, 2, 3, 4, 5, 6, 7, 8, 9, 12, 13], [1, 2, 3, 4, 5, 6, 7, 8, 9], [0, 12, 13], [14]⟩ 14 _ rfl rfl (by decide +kernel) rfl ⟨⟨_, rfl, Qok_val rfl (Ev_move rfl)⟩, ⟨_, rfl, Qok_val rfl (Ev_nilCheck rfl)⟩, ⟨_, rfl, Qok_val rfl (Ev_fieldAddr 1 22 1 Tryd.underlying138 rfl Tryd.sizeOf22 rfl rfl)⟩, trivial⟩ rfl (Cok_step rfl (Step_store 0 wb 1 1 ([.nilIface, Slc gq 0 q cpq]) 138 (Slc nb4 0 (q + 1) cp2) ([Slc nb4 0 (q + 1) cp2]) ([.nilIface, Slc nb4 0 (q + 1) cp2]) rfl rfl rfl rfl Tryd.sizeOf22 rfl (by simp [Value.oneCell']) (Nat.le_of_ble_eq_true rfl) (rfl))) ?_
      rintro v1 L1 ⟨rfl, rfl⟩
      refine ⟨[], ?_⟩
      show DP _ _ _ _ _ _ _ _ [⟨wb, [.nilIface, Slc nb4 0 (q + 1) cp2], 138, (0, 0)⟩, ⟨nb3, cu8 ([(nv >>> UInt64.ofNat (56 - 8*q)).toUInt8]), 5, (0, 0)⟩, ⟨nb4, cu8 (oq ++ ([(nv >>> UInt64.ofNat (56 - 8*q)).toUInt8])) ++ sp2, 5, (0, 0)⟩]
      refine DP_end ⟨[10, 11, 14], [0, 1, 2, 3, 4, 5, 6, 7, 8, 9, 12, 13], [0, 1, 2, 3, 4, 5, 6, 7, 8, 9, 12, 13], [], []⟩ rfl rfl (by decide +kernel) rfl trivial ?_
      refine K_sub (F' := [(36, Ptr wb 0), (37, Ptr wb 0), (38, Ptr wb 0), (39, Ptr wb 1), (40, Slc gq 0 q cpq), (41, U64 nv), (42, I64 (-(q:Int) + 7)), (43, I64 (-8*(q:Int) + 56)), (44, U64 (nv >>> UInt64.ofNat (56 - 8*q))), (45, U8 ((nv >>> UInt64.ofNat (56 - 8*q)).toUInt8)), (46, Slc nb3 0 1 1), (47, Slc nb4 0 (q + 1) cp2), (48, Ptr wb 0), (49, Ptr wb 1), (0, Ptr wb 0), (1, U64 nv), (6, .pointer none), (7, I64 (-(q:Int) + 7)), (32, I64 (-(q:Int) + 7)), (33, .bool (decide ((0:Int) ≤ (-(q:Int) + 7))))]) (Sub.cons (by kernel_rfl) (Sub.cons (by kernel_rfl) (Sub.cons (by kernel_rfl) (Sub.cons (by kernel_rfl) (Sub.cons (by kernel_rfl) (Sub.cons (by kernel_rfl) (Sub.cons (by kernel_rfl) (Sub.cons (by kernel_rfl) (Sub.cons (by kernel_rfl) (Sub.cons (by kernel_rfl) (Sub.cons (by kernel_rfl) (Sub.cons (by kernel_rfl) (Sub.cons (by kernel_rfl) (Sub.cons (by kernel_rfl) (Sub.cons (by kernel_rfl) (Sub.cons (by kernel_rfl) (Sub.cons (by kernel_rfl) (Sub.cons (by kernel_rfl) (Sub.cons (by kernel_rfl) (Sub.cons (by kernel_rfl) (Sub.nil))))))))))))))))))))) ?_
      show JQ _ _ _ [(36, Ptr wb 0), (37, Ptr wb 0), (38, Ptr wb 0), (39, Ptr wb 1), (40, Slc gq 0 q cpq), (41, U64 nv), (42, I64 (-(q:Int) + 7)), (43, I64 (-8*(q:Int) + 56)), (44, U64 (nv >>> UInt64.ofNat (56 - 8*q))), (45, U8 ((nv >>> UInt64.ofNat (56 - 8*q)).toUInt8)), (46, Slc nb3 0 1 1), (47, Slc nb4 0 (q + 1) cp2), (48, Ptr wb 0), (49, Ptr wb 1), (0, Ptr wb 0), (1, U64 nv), (6, .pointer none), (7, I64 (-(q:Int) + 7)), (32, I64 (-(q:Int) + 7)), (33, .bool (decide ((0:Int) ≤ (-(q:Int) + 7))))] _
      refine JQ_in_normal ?_
      refine JQ_then ?_
      refine JC_region ?_
      refine JL_val _ (Ev_move rfl) rfl ?_
      refine JL_val (I64 (-(q:Int) + 6)) (Ev_bini rfl rfl fun _ => bin_sub_i _ _ (-(q:Int) + 6) (by omega) (by omega)) rfl ?_
      refine JL_val _ (Ev_assign rfl) rfl ?_
      refine JL_nil ?_
      refine JQ_thenK ?_
      refine K_mask [true, false, true] ?_
      show K _ _ [⟨wb, [.nilIface, Slc nb4 0 (q + 1) cp2], 138, (0, 0)⟩, ⟨nb4, cu8 (oq ++ ([(nv >>> UInt64.ofNat (56 - 8*q)).toUInt8])) ++ sp2, 5, (0, 0)⟩] _
      refine K_next (.inr (q + 1, oq ++ ([(nv >>> UInt64.ofNat (56 - 8*q)).toUInt8]), nb4, sp2, cp2)) ⟨by omega, by omega, by rw [numN_succ, ← hx2], (ha5).trans (by first | rfl | simp +arith), (ha6).trans (by first | rfl | simp +arith), by omega, ha8⟩ (by first | (simp; omega) | simp) (Sub.cons rfl (Sub.cons rfl (Sub.cons rfl (Sub.cons (some_i64 (by omega)) (Sub.nil))))) rfl
    ·
      have hp1 : ¬ ((0:Int) ≤ (-(q:Int) + 7)) := of_decide_eq_false hb1
      refine JC_exit ?_
      refine JQ_then_exit ?_
      refine JQ_then_exit ?_
      refine JQ_in_same ?_
      refine JQ_then ?_
      refine JC_seq ?_
      refine JC_region ?_
      refine JL_val _ (Ev_move rfl) rfl ?_
      refine JL_val _ (Ev_assign rfl) rfl ?_
      refine JL_nil ?_
      refine JQ_then ?_
      refine JC_ret ?_
      refine JQ_ret (Ptr wb 0) (res1 Tryd.results97 (RV_tmp rfl)) fun w1 hw1 => ?_
      have e1 : q = 8 := by omega
      rw [hx2, e1] at hw1
      exact ⟨_, _, rfl, ⟨rfl, gq, spq, cpq, by rw [slc_len (show 8 = q by omega)], by omega, by omega, hx6⟩, hw1⟩

theorem num8O_c (wb gb n cap0 : Nat) (o : List UInt8) (sp0 : List Value) (nv : UInt64) (w : World) (h0 : w.heap[wb]? = some (.cells [.nilIface, Slc gb 0 n cap0].toArray 138 (0, 0))) (h1 : w.heap[gb]? = some (.cells (cu8 o ++ sp0).toArray 5 (0, 0))) (hne : wb ≠ gb) (ho : o.length = n) (hsp : sp0.length = cap0 - n) (hca : n ≤ cap0) (hcm : cap0 ≤ maxLen) (hn : n ≤ 1000000)  : Calls Tryd.prog 97 #[Ptr wb 0, U64 nv, I64 (8:Int)] w (Post w [wb, gb] (fun v L => v = Ptr wb 0 ∧ ∃ g sp cap, L = [⟨wb, [.nilIface, Slc g 0 (n + 8) cap], 138, (0, 0)⟩, ⟨g, cu8 (o ++ numN 8 nv 8) ++ sp, 5, (0, 0)⟩] ∧ sp.length = cap - (n + 8) ∧ (n + 8) ≤ cap ∧ cap ≤ maxLen)) := by
  have hmx : maxLen = 9223372036854775807 := rfl
  refine enter w [wb, gb] 51 [⟨wb, [.nilIface, Slc gb 0 n cap0], 138, (0, 0)⟩, ⟨gb, cu8 o ++ sp0, 5, (0, 0)⟩] [Ptr wb 0, U64 nv, I64 (8:Int)] Tryd.func97 rfl rfl (by simp) (Hp.start (by simp; exact ⟨h0, h1⟩) (by simp; exact hne) (by simp)) ?_
  show JC _ _ _ [(0, Ptr wb 0), (1, U64 nv), (2, I64 (8:Int))] _
  refine JC_seq ?_
  refine JC_region ?_
  refine JL_val _ (Ev_assign rfl) rfl ?_
  refine JL_nil ?_
  refine JQ_then ?_
  refine JC_seq ?_
  refine JC_seq ?_
  refine JC_region ?_
  refine JL_val _ (Ev_move rfl) rfl ?_
  refine JL_val (.bool false) (Ev_bin _ _ _ rfl rfl (fun _ => eqGuard_ptr ..) fun _ => eql_ptr_nil Tryd.underlying134) rfl ?_
  refine JL_nil ?_
  refine JQ_then ?_
  refine JC_condF _ rfl rfl ?_
  refine JC_skip ?_
  refine JQ_then ?_
  refine JC_seq ?_
  refine JC_seq ?_
  refine JC_region ?_
  refine JL_val _ (Ev_move rfl) rfl ?_
  refine JL_step (Step_callP 121 [I64 (8:Int)] (.bool true) (Cl_func [I64 (8:Int)] Tryd.call121 rfl) (fun w1 _ => sized8_c w1)) rfl ?_
  rintro v1 L1 ⟨rfl, rfl⟩
  show JL _ _ _ _ ((11, .bool true) :: _) [⟨wb, [.nilIface, Slc gb 0 n cap0], 138, (0, 0)⟩, ⟨gb, cu8 o ++ sp0, 5, (0, 0)⟩]
  refine JL_val (.bool (!true)) (Ev_not rfl) rfl ?_
  refine JL_val _ (Ev_move rfl) rfl ?_
  refine JL_gval 3 13 false _ _ rfl rfl rfl (Ev_move rfl) rfl ?_
  refine JL_gval 3 13 false _ (.bool (decide ((8:Int) < (8:Int)))) rfl rfl rfl (Ev_bini rfl rfl fun _ => bin_lss_i _ _) rfl ?_
  refine JL_gval 3 13 false _ _ rfl rfl rfl (Ev_move rfl) rfl ?_
  refine JL_gskip 6 16 true _ rfl rfl (by decide) rfl ?_
  refine JL_gskip 6 16 true _ rfl rfl (by decide) rfl ?_
  refine JL_gskip 6 16 true _ rfl rfl (by decide) rfl ?_
  refine JL_gskip 6 16 true _ rfl rfl (by decide) rfl ?_
  refine JL_gskip 6 16 true _ rfl rfl (by decide) rfl ?_
  refine JL_gval 3 13 false _ _ rfl rfl rfl (Ev_pickF _ rfl (by decide) rfl) rfl ?_
  refine JL_val _ (Ev_pickF _ rfl rfl rfl) rfl ?_
  refine JL_nil ?_
  refine JQ_then ?_
  refine JC_condF _ rfl rfl ?_
  refine JC_skip ?_
  refine JQ_then ?_
  refine JC_seq ?_
  refine JC_seq ?_
  refine JC_region ?_
  refine JL_val _ (Ev_move rfl) rfl ?_
  refine JL_val (I64 (7:Int)) (Ev_bini rfl rfl fun _ => bin_sub_i _ _ (7:Int) (by omega) (by omega)) rfl ?_
  refine JL_val _ (Ev_assign rfl) rfl ?_
  refine JL_nil ?_
  refine JQ_then ?_
  refine JC_block ?_
  refine JC_loop (ι := Nat × List UInt8 × Nat × List Value × Nat) (fun ⟨q, oq, gq, spq, cpq⟩ => [(0, Ptr wb 0), (1, U64 nv), (6, .pointer none), (7, I64 (-(q:Int) + 7))]) (fun ⟨q, oq, gq, spq, cpq⟩ => [⟨wb, [.nilIface, Slc gq 0 (n + q) cpq], 138, (0, 0)⟩, ⟨gq, cu8 oq ++ spq, 5, (0, 0)⟩]) (fun ⟨q, oq, gq, spq, cpq⟩ => q ≤ 8 ∧ oq = o ++ numN 8 nv q ∧ oq.length = (n + q) ∧ spq.length = cpq - ((n + q)) ∧ (n + q) ≤ cpq ∧ cpq ≤ maxLen) (fun ⟨q, oq, gq, spq, cpq⟩ => 8 - q) (0, o, gb, sp0, cap0) ⟨by omega, by rw [numN_zero, List.append_nil], by omega, by omega, by omega, hcm⟩ (Sub.cons rfl (Sub.cons rfl (Sub.cons rfl (Sub.cons (some_i64 (by omega)) (Sub.nil))))) rfl ?_
  rintro ⟨q, oq, gq, spq, cpq⟩ ⟨hx1, hx2, hoq, hx4, hx5, hx6⟩
  show JC _ _ _ [(0, Ptr wb 0), (1, U64 nv), (6, .pointer none), (7, I64 (-(q:Int) + 7))] [⟨wb, [.nilIface, Slc gq 0 (n + q) cpq], 138, (0, 0)⟩, ⟨gq, cu8 oq ++ spq, 5, (0, 0)⟩]
  refine JC_seq ?_
  refine JC_seq ?_
  refine JC_region ?_
  refine JL_val _ (Ev_move rfl) rfl ?_
  refine JL_val (.bool (decide ((0:Int) ≤ (-(q:Int) + 7)))) (Ev_bini rfl rfl fun _ => bin_geq_i _ _) rfl ?_
  refine JL_nil ?_
  refine JQ_then ?_
  refine JC_cond (decide ((0:Int) ≤ (-(q:Int) + 7))) rfl (fun hb1 => ?_) (fun hb1 => ?_)
  ·
    have hp1 : (0:Int) ≤ (-(q:Int) + 7) := of_decide_eq_true hb1
    refine JC_skip ?_
    refine JQ_then ?_
    refine JC_seq ?_
    refine JC_block ?_
    refine JC_draw 51 4 [(0, Ptr wb 0), (1, Ptr wb 0), (2, Ptr wb 0), (3, Ptr wb 1), (4, Slc gq 0 (n + q) cpq), (5, U64 nv), (6, I64 (-(q:Int) + 7)), (7, I64 (-8*(q:Int) + 56)), (8, U64 (nv >>> UInt64.ofNat (56 - 8*q))), (9, U8 ((nv >>> UInt64.ofNat (56 - 8*q)).toUInt8))] Tryd.mixed rfl (by decide +kernel) ?_
    refine DP_one ⟨[], [0, 1, 2, 3, 4, 5, 6, 7, 8, 9], [], [0, 1, 2, 3, 4, 5, 6, 7, 8, 9], [10]⟩ 10 _ rfl rfl (by decide +kernel) rfl ⟨⟨_, rfl, Qok_val rfl (Ev_move rfl)⟩, ⟨_, rfl, Qok_val rfl (Ev_move rfl)⟩, ⟨_, rfl, Qok_val rfl (Ev_nilCheck rfl)⟩, ⟨_, rfl, Qok_val rfl (Ev_fieldAddr 1 22 1 Tryd.underlying138 rfl Tryd.sizeOf22 rfl rfl)⟩, ⟨_, rfl, Qok_val rfl (Ev_load rfl (Ld_one Tryd.isAgg22 (MemAt.ent 0 rfl (Seg.tail (Seg.head)))))⟩, ⟨_, rfl, Qok_val rfl (Ev_move rfl)⟩, ⟨_, rfl, Qok_val rfl (Ev_move rfl)⟩, ⟨_, rfl, Qok_val rfl (Ev_bini rfl rfl fun _ => bin_mul_i _ _ (-8*(q:Int) + 56) (by omega) (by omega))⟩, ⟨_, rfl, Qok_val rfl (Ev_bini rfl rfl fun _ => bin_shr_u64 nv _ _ (56 - 8*q) (by omega) (by omega))⟩, ⟨_, rfl, Qok_val rfl (Ev_conv _ _ rfl fun _ => conv_u64_u8 (by rw [Tryd.underlying58]; rfl) Tryd.underlying5 _)⟩, trivial⟩ rfl (Cok_step rfl (Step_buildSlice 5 1 _ [(0, U8 ((nv >>> UInt64.ofNat (56 - 8*q)).toUInt8))] (cu8 ([(nv >>> UInt64.ofNat (56 - 8*q)).toUInt8])) Tryd.underlying22 Tryd.sizeOf5 Tryd.zeroValue5 rfl rfl rfl (by kernel_rfl))) ?_
    rintro v1 L1 ⟨nb1, hnb1, rfl, rfl⟩
    refine ⟨[], ?_⟩
    show DP _ _ _ _ _ _ _ _ [⟨wb, [.nilIface, Slc gq 0 (n + q) cpq], 138, (0, 0)⟩, ⟨gq, cu8 oq ++ spq, 5, (0, 0)⟩, ⟨nb1, cu8 ([(nv >>> UInt64.ofNat (56 - 8*q)).toUInt8]), 5, (0, 0)⟩]
    refine DP_one ⟨[10], [0, 1, 2, 3, 4, 5, 6, 7, 8, 9], [5, 6, 7, 8, 9], [0, 1, 2, 3, 4], [11]⟩ 11 _ rfl rfl (by decide +kernel) rfl ⟨⟨_, rfl, Qok_val rfl (Ev_move rfl)⟩, ⟨_, rfl, Qok_val rfl (Ev_move rfl)⟩, ⟨_, rfl, Qok_val rfl (Ev_nilCheck rfl)⟩, ⟨_, rfl, Qok_val rfl (Ev_fieldAddr 1 22 1 Tryd.underlying138 rfl Tryd.sizeOf22 rfl rfl)⟩, ⟨_, rfl, Qok_val rfl (Ev_load rfl (Ld_one Tryd.isAgg22 (MemAt.ent 0 rfl (Seg.tail (Seg.head)))))⟩, trivial⟩ rfl (Cok_step rfl (Step_appM8 22 5 [false, true, false] (Slc gq 0 (n + q) cpq) (n + q) oq ([(nv >>> UInt64.ofNat (56 - 8*q)).toUInt8]) (some ⟨nb1, 0, none⟩) 1 1 (n + q + 1) Tryd.underlying22 Tryd.info5 rfl (.inr ⟨gq, spq, cpq, rfl, rfl, (by first | exact hoq | simp [hoq]), hx4, (by omega), (by omega)⟩) rfl (by simp) (SrcAt.mem (MemAt.ent 2 rfl (Seg.whole _))) (by omega) (by unfold maxLen; omega) (by omega))) ?_
    rintro v1 L1 ⟨nb2, sp1, cp1, hg1, rfl, rfl, ha1, ha2, ha3, ha4⟩
    refine ⟨[(12, Ptr wb 0), (13, Ptr wb 1)], ?_⟩
    show DP _ _ _ _ _ _ _ _ [⟨wb, [.nilIface, Slc gq 0 (n + q) cpq], 138, (0, 0)⟩, ⟨nb1, cu8 ([(nv >>> UInt64.ofNat (56 - 8*q)).toUInt8]), 5, (0, 0)⟩, ⟨nb2, cu8 (oq ++ ([(nv >>> UInt64.ofNat (56 - 8*q)).toUInt8])) ++ sp1, 5, (0, 0)⟩]
    refine DP_one ⟨[10, 11], [0, 1, 2, 3, 4, 5, 6, 7, 8, 9, 12, 13], [1, 2, 3, 4, 5, 6, 7, 8, 9], [0, 12, 13], [14]⟩ 14 _ rfl rfl (by decide +kernel) rfl ⟨⟨_, rfl, Qok_val rfl (Ev_move rfl)⟩, ⟨_, rfl, Qok_val rfl (Ev_nilCheck rfl)⟩, ⟨_, rfl, Qok_val rfl (Ev_fieldAddr 1 22 1 Tryd.underlying138 rfl Tryd.sizeOf22 rfl rfl)⟩, trivial⟩ rfl (Cok_step rfl (Step_store 0 wb 1 1 ([.nilIface, Slc gq 0 (n + q) cpq]) 138 (Slc nb2 0 (n + q + 1) cp1) ([Slc nb2 0 (n + q + 1) cp1]) ([.nilIface, Slc nb2 0 (n + q + 1) cp1]) rfl rfl rfl rfl Tryd.sizeOf22 rfl (by simp [Value.oneCell']) (Nat.le_of_ble_eq_true rfl) (rfl))) ?_
    rintro v1 L1 ⟨rfl, rfl⟩
    refine ⟨[], ?_⟩
    show DP _ _ _ _ _ _ _ _ [⟨wb, [.nilIface, Slc nb2 0 (n + q + 1) cp1], 138, (0, 0)⟩, ⟨nb1, cu8 ([(nv >>> UInt64.ofNat (56 - 8*q)).toUInt8]), 5, (0, 0)⟩, ⟨nb2, cu8 (oq ++ ([(nv >>> UInt64.ofNat (56 - 8*q)).toUInt8])) ++ sp1, 5, (0, 0)⟩]
    refine DP_end ⟨[10, 11, 14], [0, 1, 2, 3, 4, 5, 6, 7, 8, 9, 12, 13], [0, 1, 2, 3, 4, 5, 6, 7, 8, 9, 12, 13], [], []⟩ rfl rfl (by decide +kernel) rfl trivial ?_
    refine K_sub (F' := [(36, Ptr wb 0), (37, Ptr wb 0), (38, Ptr wb 0), (39, Ptr wb 1), (40, Slc gq 0 (n + q) cpq), (41, U64 nv), (42, I64 (-(q:Int) + 7)), (43, I64 (-8*(q:Int) + 56)), (44, U64 (nv >>> UInt64.ofNat (56 - 8*q))), (45, U8 ((nv >>> UInt64.ofNat (56 - 8*q)).toUInt8)), (46, Slc nb1 0 1 1), (47, Slc nb2 0 (n + q + 1) cp1), (48, Ptr wb 0), (49, Ptr wb 1), (0, Ptr wb 0), (1, U64 nv), (6, .pointer none), (7, I64 (-(q:Int) + 7)), (32, I64 (-(q:Int) + 7)), (33, .bool (decide ((0:Int) ≤ (-(q:Int) + 7))))]) (Sub.cons (by kernel_rfl) (Sub.cons (by kernel_rfl) (Sub.cons (by kernel_rfl) (Sub.cons (by kernel_rfl) (Sub.cons (by kernel_rfl) (Sub.cons (by kernel_rfl) (Sub.cons (by kernel_rfl) (Sub.cons (by kernel_rfl) (Sub.cons (by kernel_rfl) (Sub.cons (by kernel_rfl) (Sub.cons (by kernel_rfl) (Sub.cons (by kernel_rfl) (Sub.cons (by kernel_rfl) (Sub.cons (by kernel_rfl) (Sub.cons (by kernel_rfl) (Sub.cons (by kernel_rfl) (Sub.cons (by kernel_rfl) (Sub.cons (by kernel_rfl) (Sub.cons (by kernel_rfl) (Sub.cons (by kernel_rfl) (Sub.nil))))))))))))))))))))) ?_
    show JQ _ _ _ [(36, Ptr wb 0), (37, Ptr wb 0), (38, Ptr wb 0), (39, Ptr wb 1), (40, Slc gq 0 (n + q) cpq), (41, U64 nv), (42, I64 (-(q:Int) + 7)), (43, I64 (-8*(q:Int) + 56)), (44, U64 (nv >>> UInt64.ofNat (56 - 8*q))), (45, U8 ((nv >>> UInt64.ofNat (56 - 8*q)).toUInt8)), (46, Slc nb1 0 1 1), (47, Slc nb2 0 (n + q + 1) cp1), (48, Ptr wb 0), (49, Ptr wb 1), (0, Ptr wb 0), (1, U64 nv), (6, .pointer none), (7, I64 (-(q:Int) + 7)), (32, I64 (-(q:Int) + 7)), (33, .bool (decide ((0:Int) ≤ (-(q:Int) + 7))))] _
    refine JQ_in_normal ?_
    refine JQ_then ?_
    refine JC_region ?_
    refine JL_val _ (Ev_move rfl) rfl ?_
    refine JL_val (I64 (-(q:Int) + 6)) (Ev_bini rfl rfl fun _ => bin_sub_i _ _ (-(q:Int) + 6) (by omega) (by omega)) rfl ?_
    refine JL_val _ (Ev_assign rfl) rfl ?_
    refine JL_nil ?_
    refine JQ_thenK ?_
    refine K_mask [true, false, true] ?_
    show K _ _ [⟨wb, [.nilIface, Slc nb2 0 (n + q + 1) cp1], 138, (0, 0)⟩, ⟨nb2, cu8 (oq ++ ([(nv >>> UInt64.ofNat (56 - 8*q)).toUInt8])) ++ sp1, 5, (0, 0)⟩] _
    refine K_next (q + 1, oq ++ ([(nv >>> UInt64.ofNat (56 - 8*q)).toUInt8]), nb2, sp1, cp1) ⟨by omega, by rw [numN_succ, ← List.append_assoc, ← hx2], (ha1).trans (by first | rfl | simp +arith), (ha2).trans (by first | rfl | simp +arith), by omega, ha4⟩ (by first | (simp; omega) | simp) (Sub.cons rfl (Sub.cons rfl (Sub.cons rfl (Sub.cons (some_i64 (by omega)) (Sub.nil))))) rfl
  ·
    have hp1 : ¬ ((0:Int) ≤ (-(q:Int) + 7)) := of_decide_eq_false hb1
    refine JC_exit ?_
    refine JQ_then_exit ?_
    refine JQ_then_exit ?_
    refine JQ_in_same ?_
    refine JQ_then ?_
    refine JC_seq ?_
    refine JC_region ?_
    refine JL_val _ (Ev_move rfl) rfl ?_
    refine JL_val _ (Ev_assign rfl) rfl ?_
    refine JL_nil ?_
    refine JQ_then ?_
    refine JC_ret ?_
    refine JQ_ret (Ptr wb 0) (res1 Tryd.results97 (RV_tmp rfl)) fun w1 hw1 => ?_
    have e1 : q = 8 := by omega
    rw [hx2, e1] at hw1
    exact ⟨_, _, rfl, ⟨rfl, gq, spq, cpq, by rw [slc_len (show n + 8 = (n + q) by omega)], by omega, by omega, hx6⟩, hw1⟩

theorem done_c (wb gb n cap0 : Nat) (o : List UInt8) (w : World) (hw : RdA w wb 0 [.nilIface, Slc gb 0 n cap0]) (ho : o.length = n) (hn : n ≤ 1000000) (hr : RdB w [] (some ⟨gb, 0, none⟩) o) : Calls Tryd.prog 98 #[Ptr wb 0] w (Post w [] (fun v L => ∃ g sp cap, v = .tuple #[Slc g 0 n cap, .nilIface] ∧ L = [⟨g, cu8 o ++ sp, 5, (0, 0)⟩] ∧ sp.length = cap - n ∧ n ≤ cap ∧ cap ≤ maxLen)) := by
  refine enter w [] 25 [] [Ptr wb 0] Tryd.func98 rfl rfl (by simp) (Hp.start (by simp) (by simp) (by simp)) ?_
  show JC _ _ _ [(0, Ptr wb 0)] _
  refine JC_seq ?_
  refine JC_region ?_
  refine JL_val _ (Ev_assign rfl) rfl ?_
  refine JL_val _ (Ev_assign rfl) rfl ?_
  refine JL_nil ?_
  refine JQ_then ?_
  refine JC_seq ?_
  refine JC_block ?_
  refine JC_seq ?_
  refine JC_region ?_
  refine JL_val _ (Ev_move rfl) rfl ?_
  refine JL_val (.bool false) (Ev_bin _ _ _ rfl rfl (fun _ => eqGuard_ptr ..) fun _ => eql_ptr_nil Tryd.underlying134) rfl ?_
  refine JL_val _ (Ev_assign rfl) rfl ?_
  refine JL_nil ?_
  refine JQ_then ?_
  refine JC_condF _ rfl rfl ?_
  refine JC_seq ?_
  refine JC_region ?_
  refine JL_val _ (Ev_move rfl) rfl ?_
  refine JL_val _ (Ev_nilCheck rfl) rfl ?_
  refine JL_val (Ptr wb 0) (Ev_fieldAddr 0 136 1 Tryd.underlying138 rfl Tryd.sizeOf136 rfl rfl) rfl ?_
  refine JL_val (Ptr wb 0) (Ev_fieldAddr 0 39 1 Tryd.underlying136 rfl Tryd.sizeOf39 rfl rfl) rfl ?_
  refine JL_val (.nilIface) (Ev_load rfl (Ld_one Tryd.isAgg39 (MemAt.seg (hw.mem (by simp)) (Seg.head) (by omega)))) rfl ?_
  refine JL_val (.bool false) (Ev_bin _ _ _ rfl rfl (fun _ => eqGuard_nn ..) fun _ => neq_if_nil_nil Tryd.underlying39) rfl ?_
  refine JL_val _ (Ev_assign rfl) rfl ?_
  refine JL_nil ?_
  refine JQ_then ?_
  refine JC_condF _ rfl rfl ?_
  refine JC_skip ?_
  refine JQ_in_normal ?_
  refine JQ_then ?_
  refine JC_seq ?_
  refine JC_region ?_
  refine JL_val _ (Ev_move rfl) rfl ?_
  refine JL_val _ (Ev_nilCheck rfl) rfl ?_
  refine JL_val (Ptr wb 1) (Ev_fieldAddr 1 22 1 Tryd.underlying138 rfl Tryd.sizeOf22 rfl rfl) rfl ?_
  refine JL_val (.slice (some ⟨gb, 0, none⟩) n cap0) (Ev_load rfl (Ld_one Tryd.isAgg22 (MemAt.seg (hw.mem (by simp)) (Seg.tail (Seg.head)) (by omega)))) rfl ?_
  refine JL_step (Step_callN 84 [.slice (some ⟨gb, 0, none⟩) n cap0] _ (Cl_func [.slice (some ⟨gb, 0, none⟩) n cap0] Tryd.call84 rfl) (fun w1 hw1 => sclone_c (some ⟨gb, 0, none⟩) n cap0 o w1 rfl ho (by omega) (hr.at (M' := []) hw1 (by simp)))) rfl ?_
  rintro v1 L1 ⟨_, ⟨nb1, sp1, cp1, rfl, rfl, hc1, hc2, hc3⟩, rfl⟩
  show JL _ _ _ _ ((24, Slc nb1 0 n cp1) :: _) [⟨nb1, cu8 o ++ sp1, 5, (0, 0)⟩]
  refine JL_val _ (Ev_assign rfl) rfl ?_
  refine JL_val _ (Ev_assign rfl) rfl ?_
  refine JL_nil ?_
  refine JQ_then ?_
  refine JC_ret ?_
  refine JQ_ret (.tuple #[Slc nb1 0 n cp1, .nilIface]) (res2 Tryd.results98 (RV_tmp rfl) (RV_tmp rfl)) fun w1 hw1 => ?_
  exact ⟨_, _, rfl, ⟨nb1, sp1, cp1, rfl, rfl, hc1, hc2, hc3⟩, hw1.sub (by simp) (by simp)⟩

theorem rnum_c (nv : UInt64) (w : World) : Calls Tryd.prog 55 #[U64 nv, I64 (8:Int)] w (Post w [] (fun v L => ∃ g, v = Slc g 0 8 8 ∧ L = [⟨g, cu8 (numN 8 nv 8), 5, (0, 0)⟩])) := by
  refine enter w [] 24 [] [U64 nv, I64 (8:Int)] Tryd.func55 rfl rfl (by simp) (Hp.start (by simp) (by simp) (by simp)) ?_
  show JC _ _ _ [(0, U64 nv), (1, I64 (8:Int))] _
  refine JC_seq ?_
  refine JC_region ?_
  refine JL_val _ (Ev_assign rfl) rfl ?_
  refine JL_nil ?_
  refine JQ_then ?_
  refine JC_seq ?_
  refine JC_region ?_
  refine JL_val _ (Ev_move rfl) rfl ?_
  refine JL_step (Step_make8 5 1 8 8 Tryd.underlying22 Tryd.info5 rfl rfl (by omega) (by omega) (by unfold maxLen; omega)) rfl ?_
  rintro v1 L1 ⟨nb1, hnb1, rfl, rfl⟩
  show JL _ _ _ _ ((8, Slc nb1 0 8 8) :: _) [⟨nb1, cu8 (zr8 8), 5, (0, 0)⟩]
  refine JL_val _ (Ev_assign rfl) rfl ?_
  refine JL_nil ?_
  refine JQ_then ?_
  refine JC_seq ?_
  refine JC_seq ?_
  refine JC_region ?_
  refine JL_val _ (Ev_move rfl) rfl ?_
  refine JL_val (I64 (7:Int)) (Ev_bini rfl rfl fun _ => bin_sub_i _ _ (7:Int) (by omega) (by omega)) rfl ?_
  refine JL_val _ (Ev_assign rfl) rfl ?_
  refine JL_nil ?_
  refine JQ_then ?_
  refine JC_block ?_
  refine JC_loop (ι := Nat × List UInt8 × UInt64) (fun ⟨j, o, y⟩ => [(4, .slice none 0 0), (5, Slc nb1 0 8 8), (6, I64 (-(j:Int) + 7)), (0, U64 y)]) (fun ⟨j, o, y⟩ => [⟨nb1, cu8 o, 5, (0, 0)⟩]) (fun ⟨j, o, y⟩ => j ≤ 8 ∧ o = (rnN nv j).1 ∧ y = (rnN nv j).2 ∧ o.length = 8) (fun ⟨j, o, y⟩ => 8 - j) (0, zr8 8, nv) ⟨by omega, by rw [rnN], by rw [rnN], zr8_len 8⟩ (Sub.cons rfl (Sub.cons rfl (Sub.cons (some_i64 (by omega)) (Sub.cons rfl (Sub.nil))))) rfl ?_
  rintro ⟨j, o, y⟩ ⟨hx1, hx2, hx3, ho⟩
  show JC _ _ _ [(4, .slice none 0 0), (5, Slc nb1 0 8 8), (6, I64 (-(j:Int) + 7)), (0, U64 y)] [⟨nb1, cu8 o, 5, (0, 0)⟩]
  refine JC_seq ?_
  refine JC_seq ?_
  refine JC_region ?_
  refine JL_val _ (Ev_move rfl) rfl ?_
  refine JL_val (.bool (decide ((0:Int) ≤ (-(j:Int) + 7)))) (Ev_bini rfl rfl fun _ => bin_geq_i _ _) rfl ?_
  refine JL_nil ?_
  refine JQ_then ?_
  refine JC_cond (decide ((0:Int) ≤ (-(j:Int) + 7))) rfl (fun hb1 => ?_) (fun hb1 => ?_)
  ·
    have hp1 : (0:Int) ≤ (-(j:Int) + 7) := of_decide_eq_true hb1
    refine JC_skip ?_
    refine JQ_then ?_
    refine JC_seq ?_
    refine JC_block ?_
    refine JC_seq ?_
    refine JC_region ?_
    refine JL_val _ (Ev_move rfl) rfl ?_
    refine JL_val _ (Ev_move rfl) rfl ?_
    refine JL_val _ (Ev_move rfl) rfl ?_
    refine JL_val (U64 (y % (256:UInt64))) (Ev_bini rfl rfl fun _ => bin_rem_u64 y (256:UInt64) (by decide)) rfl ?_
    refine JL_val (U8 ((y % (256:UInt64)).toUInt8)) (Ev_conv _ _ rfl fun _ => conv_u64_u8 (by rw [Tryd.underlying58]; rfl) Tryd.underlying5 _) rfl ?_
    refine JL_val (Ptr nb1 (7 - j)) (Ev_indexSl 5 1 (7 - j) Tryd.underlying22 Tryd.sizeOf5 rfl rfl (by omega) (by omega) (by omega)) rfl ?_
    have hl1 : (o.set (7 - j) ((y % (256:UInt64)).toUInt8)).length = 8 := by simp [ho]
    refine JL_step (Step_store 0 nb1 (7 - j) 1 (cu8 o) 5 (U8 ((y % (256:UInt64)).toUInt8)) ([U8 ((y % (256:UInt64)).toUInt8)]) (cu8 (o.set (7 - j) ((y % (256:UInt64)).toUInt8))) rfl rfl rfl rfl Tryd.sizeOf5 rfl (by simp [Value.oneCell']) (by simp [ho]; try omega) (lay8 _ _ _ (by rw [ho]; omega))) rfl ?_
    rintro v1 L1 ⟨rfl, rfl⟩
    show JL _ _ _ _ _ [⟨nb1, cu8 (o.set (7 - j) ((y % (256:UInt64)).toUInt8)), 5, (0, 0)⟩]
    refine JL_nil ?_
    refine JQ_then ?_
    refine JC_region ?_
    refine JL_val _ (Ev_move rfl) rfl ?_
    refine JL_val (U64 (y / (256:UInt64))) (Ev_bini rfl rfl fun _ => bin_quo_u64 y (256:UInt64) (by decide)) rfl ?_
    refine JL_val _ (Ev_assign rfl) rfl ?_
    refine JL_nil ?_
    refine JQ_in_normal ?_
    refine JQ_then ?_
    refine JC_region ?_
    refine JL_val _ (Ev_move rfl) rfl ?_
    refine JL_val (I64 (-(j:Int) + 6)) (Ev_bini rfl rfl fun _ => bin_sub_i _ _ (-(j:Int) + 6) (by omega) (by omega)) rfl ?_
    refine JL_val _ (Ev_assign rfl) rfl ?_
    refine JL_nil ?_
    refine JQ_thenK ?_
    refine K_next (j + 1, o.set (7 - j) ((y % (256:UInt64)).toUInt8), y / (256:UInt64)) ⟨by omega, by rw [rnN, ← hx2, ← hx3], by rw [rnN, ← hx3], hl1⟩ (by first | (simp; omega) | simp) (Sub.cons rfl (Sub.cons rfl (Sub.cons (some_i64 (by omega)) (Sub.cons rfl (Sub.nil))))) rfl
  ·
    have hp1 : ¬ ((0:Int) ≤ (-(j:Int) + 7)) := of_decide_eq_false hb1
    refine JC_exit ?_
    refine JQ_then_exit ?_
    refine JQ_then_exit ?_
    refine JQ_in_same ?_
    refine JQ_then ?_
    refine JC_seq ?_
    refine JC_region ?_
    refine JL_val _ (Ev_move rfl) rfl ?_
    refine JL_val _ (Ev_assign rfl) rfl ?_
    refine JL_nil ?_
    refine JQ_then ?_
    refine JC_ret ?_
    refine JQ_ret (Slc nb1 0 8 8) (res1 Tryd.results55 (RV_tmp rfl)) fun w1 hw1 => ?_
    have e1 : j = 8 := by omega
    rw [hx2, e1, rnN_num] at hw1
    exact ⟨_, _, rfl, ⟨_, rfl, rfl⟩, hw1.sub (by simp) (by simp)⟩

end Go.Proofs.YtncoifiafklkjaaDoor
