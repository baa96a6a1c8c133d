import Derived.MakeChecks
import Derived.Laws.StructEq
import Derived.Test.YtncoifiafklkjaaDoorPkSealBack3
namespace Go.Proofs.YtncoifiafklkjaaDoor
open Go Go.Sx
set_option linter.unusedVariables false
set_option linter.unusedSimpArgs false
set_option maxRecDepth 100000
attribute [local irreducible] mid zr8 zr32 numK rnK valK
theorem sizedT_c (s : Int) (w : World) (hs : Szd s) : Calls Tryd.prog 121 #[I64 (s)] w (Post w [] (fun v L => v = .bool true ∧ L = [])) := by
 refine enter w [] 17 [] [I64 (s)] Tryd.func121 rfl rfl (by simp) (Hp.start (by simp) (by simp) (by simp)) ?_
 show JC _ _ _ [(0, I64 (s))] _
 refine JC_seq ?_
 refine JC_region ?_
 refine JL_val _ (Ev_assign rfl) rfl ?_
 refine JL_nil ?_
 refine JQ_then ?_
 refine JC_seq ?_
 refine JC_region ?_
 refine JL_val _ (Ev_move rfl) rfl ?_
 refine JL_val (.bool (decide ((s) = (1:Int)))) (Ev_bini rfl rfl fun _ => bin_eql_i _ _) rfl ?_
 refine JL_val _ (Ev_move rfl) rfl ?_
 rcases Bool.eq_false_or_eq_true (decide ((s) = (1:Int))) with hb1 | hb1
 ·
  have hp1 : (s) = (1:Int) := of_decide_eq_true hb1
  refine JL_gskip 2 5 false _ rfl rfl hb1 rfl ?_
  refine JL_gskip 2 5 false _ rfl rfl hb1 rfl ?_
  refine JL_val _ (Ev_pickT _ rfl hb1 rfl) rfl ?_
  refine JL_val _ (Ev_move rfl) rfl ?_
  refine JL_gskip 6 9 false _ rfl rfl rfl rfl ?_
  refine JL_gskip 6 9 false _ rfl rfl rfl rfl ?_
  refine JL_val _ (Ev_pickT _ rfl rfl rfl) rfl ?_
  refine JL_val _ (Ev_move rfl) rfl ?_
  refine JL_gskip 10 13 false _ rfl rfl rfl rfl ?_
  refine JL_gskip 10 13 false _ rfl rfl rfl rfl ?_
  refine JL_val _ (Ev_pickT _ rfl rfl rfl) rfl ?_
  refine JL_val _ (Ev_assign rfl) rfl ?_
  refine JL_nil ?_
  refine JQ_then ?_
  refine JC_ret ?_
  refine JQ_ret (.bool true) (res1 Tryd.results121 (RV_tmp rfl)) fun w1 hw1 => ?_
  exact ⟨_, [], rfl, ⟨by rw [show (true) = true from rfl], rfl⟩, hw1.sub (by simp) (by simp)⟩
 ·
  have hp1 : ¬ ((s) = (1:Int)) := of_decide_eq_false hb1
  refine JL_gval 2 5 false _ _ rfl rfl hb1 (Ev_move rfl) rfl ?_
  refine JL_gval 2 5 false _ (.bool (decide ((s) = (2:Int)))) rfl rfl hb1 (Ev_bini rfl rfl fun _ => bin_eql_i _ _) rfl ?_
  refine JL_val _ (Ev_pickF _ rfl hb1 rfl) rfl ?_
  refine JL_val _ (Ev_move rfl) rfl ?_
  rcases Bool.eq_false_or_eq_true (decide ((s) = (2:Int))) with hb2 | hb2
  ·
   have hp2 : (s) = (2:Int) := of_decide_eq_true hb2
   refine JL_gskip 6 9 false _ rfl rfl hb2 rfl ?_
   refine JL_gskip 6 9 false _ rfl rfl hb2 rfl ?_
   refine JL_val _ (Ev_pickT _ rfl hb2 rfl) rfl ?_
   refine JL_val _ (Ev_move rfl) rfl ?_
   refine JL_gskip 10 13 false _ rfl rfl rfl rfl ?_
   refine JL_gskip 10 13 false _ rfl rfl rfl rfl ?_
   refine JL_val _ (Ev_pickT _ rfl rfl rfl) rfl ?_
   refine JL_val _ (Ev_assign rfl) rfl ?_
   refine JL_nil ?_
   refine JQ_then ?_
   refine JC_ret ?_
   refine JQ_ret (.bool true) (res1 Tryd.results121 (RV_tmp rfl)) fun w1 hw1 => ?_
   exact ⟨_, [], rfl, ⟨by rw [show (true) = true from rfl], rfl⟩, hw1.sub (by simp) (by simp)⟩
  ·
   have hp2 : ¬ ((s) = (2:Int)) := of_decide_eq_false hb2
   refine JL_gval 6 9 false _ _ rfl rfl hb2 (Ev_move rfl) rfl ?_
   refine JL_gval 6 9 false _ (.bool (decide ((s) = (4:Int)))) rfl rfl hb2 (Ev_bini rfl rfl fun _ => bin_eql_i _ _) rfl ?_
   refine JL_val _ (Ev_pickF _ rfl hb2 rfl) rfl ?_
   refine JL_val _ (Ev_move rfl) rfl ?_
   rcases Bool.eq_false_or_eq_true (decide ((s) = (4:Int))) with hb3 | hb3
   ·
    have hp3 : (s) = (4:Int) := of_decide_eq_true hb3
    refine JL_gskip 10 13 false _ rfl rfl hb3 rfl ?_
    refine JL_gskip 10 13 false _ rfl rfl hb3 rfl ?_
    refine JL_val _ (Ev_pickT _ rfl hb3 rfl) rfl ?_
    refine JL_val _ (Ev_assign rfl) rfl ?_
    refine JL_nil ?_
    refine JQ_then ?_
    refine JC_ret ?_
    refine JQ_ret (.bool true) (res1 Tryd.results121 (RV_tmp rfl)) fun w1 hw1 => ?_
    exact ⟨_, [], rfl, ⟨by rw [show (true) = true from rfl], rfl⟩, hw1.sub (by simp) (by simp)⟩
   ·
    have hp3 : ¬ ((s) = (4:Int)) := of_decide_eq_false hb3
    refine JL_gval 10 13 false _ _ rfl rfl hb3 (Ev_move rfl) rfl ?_
    refine JL_gval 10 13 false _ (.bool (decide ((s) = (8:Int)))) rfl rfl hb3 (Ev_bini rfl rfl fun _ => bin_eql_i _ _) rfl ?_
    refine JL_val _ (Ev_pickF _ rfl hb3 rfl) rfl ?_
    refine JL_val _ (Ev_assign rfl) rfl ?_
    refine JL_nil ?_
    refine JQ_then ?_
    refine JC_ret ?_
    refine JQ_ret (.bool (decide ((s) = (8:Int)))) (res1 Tryd.results121 (RV_tmp rfl)) fun w1 hw1 => ?_
    exact ⟨_, [], rfl, ⟨congrArg Value.bool (decide_eq_true (by unfold Szd at hs; omega)), rfl⟩, hw1.sub (by simp) (by simp)⟩
theorem numN_c (wb tot : Nat) (ev : Value) (nv : UInt64) (k : Nat)  (w : World) (h0 : w.heap[wb]? = some (.cells [ev, .slice none 0 0].toArray 138 (0, 0))) (hs : Szd (k:Int)) (hx : k < 8 → nv >>> UInt64.ofNat (8*k) = 0) (ht : k = tot) : Calls Tryd.prog 97 #[Ptr wb 0, U64 nv, I64 ((k:Int))] w (Post w [wb] (fun v L => v = Ptr wb 0 ∧ ∃ g sp cap, L = [⟨wb, [ev, Slc g 0 tot cap], 138, (0, 0)⟩, ⟨g, cu8 (numK k nv k) ++ sp, 5, (0, 0)⟩] ∧ sp.length = cap - tot ∧ tot ≤ cap ∧ cap ≤ maxLen)) := by
 have hmx : maxLen = 9223372036854775807 := rfl
 have hs4 : k = 1 ∨ k = 2 ∨ k = 4 ∨ k = 8 := by unfold Szd at hs; omega
 refine enter w [wb] 51 [⟨wb, [ev, .slice none 0 0], 138, (0, 0)⟩] [Ptr wb 0, U64 nv, I64 ((k:Int))] Tryd.func97 rfl rfl (by simp) (Hp.start (by simpa using h0) (by simp) (by simp)) ?_
 show JC _ _ _ [(0, Ptr wb 0), (1, U64 nv), (2, I64 ((k:Int)))] _
 refine JC_seq ?_
 refine JC_region ?_
 refine JL_val _ (Ev_assign rfl) rfl ?_
 refine JL_nil ?_
 refine JQ_then ?_
 refine JC_seq ?_
 refine JC_seq ?_
 refine JC_region ?_
 refine JL_val _ (Ev_move rfl) rfl ?_
 refine JL_val (.bool false) (Ev_bin _ _ _ rfl rfl (fun _ => eqGuard_ptr ..) fun _ => eql_ptr_nil Tryd.underlying134) rfl ?_
 refine JL_nil ?_
 refine JQ_then ?_
 refine JC_condF _ rfl rfl ?_
 refine JC_skip ?_
 refine JQ_then ?_
 refine JC_seq ?_
 refine JC_seq ?_
 refine JC_region ?_
 refine JL_val _ (Ev_move rfl) rfl ?_
 refine JL_step (Step_callP 121 [I64 ((k:Int))] (.bool true) (Cl_func [I64 ((k:Int))] Tryd.call121 rfl) (fun w1 _ => sizedT_c ((k:Int)) w1 hs)) rfl ?_
 rintro v1 L1 ⟨rfl, rfl⟩
 show JL _ _ _ _ ((11, .bool true) :: _) [⟨wb, [ev, .slice none 0 0], 138, (0, 0)⟩]
 refine JL_val (.bool (!true)) (Ev_not rfl) rfl ?_
 refine JL_val _ (Ev_move rfl) rfl ?_
 refine JL_gval 3 13 false _ _ rfl rfl rfl (Ev_move rfl) rfl ?_
 refine JL_gval 3 13 false _ (.bool (decide (((k:Int)) < (8:Int)))) rfl rfl rfl (Ev_bini rfl rfl fun _ => bin_lss_i _ _) rfl ?_
 refine JL_gval 3 13 false _ _ rfl rfl rfl (Ev_move rfl) rfl ?_
 rcases Bool.eq_false_or_eq_true (decide (((k:Int)) < (8:Int))) with hb1 | hb1
 ·
  have hp1 : ((k:Int)) < (8:Int) := of_decide_eq_true hb1
  refine JL_gval 6 16 true _ _ rfl rfl hb1 (Ev_move rfl) rfl ?_
  refine JL_gval 6 16 true _ _ rfl rfl hb1 (Ev_move rfl) rfl ?_
  refine JL_gval 6 16 true _ (I64 (8*(k:Int))) rfl rfl hb1 (Ev_bini rfl rfl fun _ => bin_mul_i _ _ (8*(k:Int)) (by omega) (by omega)) rfl ?_
  refine JL_gval 6 16 true _ (U64 (nv >>> UInt64.ofNat (8*k))) rfl rfl hb1 (Ev_bini rfl rfl fun _ => bin_shr_u64 nv _ _ (8*k) (by omega) (by omega)) rfl ?_
  refine JL_gval 6 16 true _ (.bool (decide ((nv >>> UInt64.ofNat (8*k)) ≠ (0:UInt64)))) rfl rfl hb1 (Ev_bini rfl rfl fun _ => bin_neq_u64 (nv >>> UInt64.ofNat (8*k)) (0:UInt64)) rfl ?_
  refine JL_gval 3 13 false _ _ rfl rfl rfl (Ev_pickT _ rfl hb1 rfl) rfl ?_
  refine JL_val _ (Ev_pickF _ rfl rfl rfl) rfl ?_
  refine JL_nil ?_
  refine JQ_then ?_
  refine JC_condF _ rfl (decide_eq_false (fun h => h (hx (by omega)))) ?_
  refine JC_skip ?_
  refine JQ_then ?_
  refine JC_seq ?_
  refine JC_seq ?_
  refine JC_region ?_
  refine JL_val _ (Ev_move rfl) rfl ?_
  refine JL_val (I64 ((k:Int) - 1)) (Ev_bini rfl rfl fun _ => bin_sub_i _ _ ((k:Int) - 1) (by omega) (by omega)) rfl ?_
  refine JL_val _ (Ev_assign rfl) rfl ?_
  refine JL_nil ?_
  refine JQ_then ?_
  refine JC_block ?_
  refine JC_loop (ι := (Unit) ⊕ (Nat × List UInt8 × Nat × List Value × Nat)) (fun x => match x with | .inl _ => [(0, Ptr wb 0), (1, U64 nv), (6, .pointer none), (7, I64 ((k:Int) - 1))] | .inr ⟨q, oq, gq, spq, cpq⟩ => [(0, Ptr wb 0), (1, U64 nv), (6, .pointer none), (7, I64 ((k:Int) - (q:Int) - 1))]) (fun x => match x with | .inl _ => [⟨wb, [ev, .slice none 0 0], 138, (0, 0)⟩] | .inr ⟨q, oq, gq, spq, cpq⟩ => [⟨wb, [ev, Slc gq 0 q cpq], 138, (0, 0)⟩, ⟨gq, cu8 oq ++ spq, 5, (0, 0)⟩]) (fun x => match x with | .inl _ => True | .inr ⟨q, oq, gq, spq, cpq⟩ => 1 ≤ q ∧ q ≤ k ∧ oq = numK k nv q ∧ oq.length = q ∧ spq.length = cpq - (q) ∧ q ≤ cpq ∧ cpq ≤ maxLen) (fun x => match x with | .inl _ => k + 1 | .inr ⟨q, oq, gq, spq, cpq⟩ => k - q) (.inl ()) trivial (Sub.cons rfl (Sub.cons rfl (Sub.cons rfl (Sub.cons rfl (Sub.nil))))) rfl ?_
  rintro (_ | ⟨q, oq, gq, spq, cpq⟩) hx
  ·
   obtain _ := hx
   show JC _ _ _ [(0, Ptr wb 0), (1, U64 nv), (6, .pointer none), (7, I64 ((k:Int) - 1))] [⟨wb, [ev, .slice none 0 0], 138, (0, 0)⟩]
   refine JC_seq ?_
   refine JC_seq ?_
   refine JC_region ?_
   refine JL_val _ (Ev_move rfl) rfl ?_
   refine JL_val (.bool (decide ((0:Int) ≤ ((k:Int) - 1)))) (Ev_bini rfl rfl fun _ => bin_geq_i _ _) rfl ?_
   refine JL_nil ?_
   refine JQ_then ?_
   refine JC_condT _ rfl (decide_eq_true (by omega)) ?_
   refine JC_skip ?_
   refine JQ_then ?_
   refine JC_seq ?_
   refine JC_block ?_
   refine JC_draw 51 4 [(0, Ptr wb 0), (1, Ptr wb 0), (2, Ptr wb 0), (3, Ptr wb 1), (4, .slice none 0 0), (5, U64 nv), (6, I64 ((k:Int) - 1)), (7, I64 (8*(k:Int) - 8)), (8, U64 (nv >>> UInt64.ofNat (8*k - 8))), (9, U8 ((nv >>> UInt64.ofNat (8*k - 8)).toUInt8))] Tryd.mixed rfl (by decide +kernel) ?_
   refine DP_one ⟨[], [0, 1, 2, 3, 4, 5, 6, 7, 8, 9], [], [0, 1, 2, 3, 4, 5, 6, 7, 8, 9], [10]⟩ 10 _ rfl rfl (by decide +kernel) rfl ⟨⟨_, rfl, Qok_val rfl (Ev_move rfl)⟩, ⟨_, rfl, Qok_val rfl (Ev_move rfl)⟩, ⟨_, rfl, Qok_val rfl (Ev_nilCheck rfl)⟩, ⟨_, rfl, Qok_val rfl (Ev_fieldAddr 1 22 1 Tryd.underlying138 rfl Tryd.sizeOf22 rfl rfl)⟩, ⟨_, rfl, Qok_val rfl (Ev_load rfl (Ld_one Tryd.isAgg22 (MemAt.ent 0 rfl (Seg.tail (Seg.head)))))⟩, ⟨_, rfl, Qok_val rfl (Ev_move rfl)⟩, ⟨_, rfl, Qok_val rfl (Ev_move rfl)⟩, ⟨_, rfl, Qok_val rfl (Ev_bini rfl rfl fun _ => bin_mul_i _ _ (8*(k:Int) - 8) (by omega) (by omega))⟩, ⟨_, rfl, Qok_val rfl (Ev_bini rfl rfl fun _ => bin_shr_u64 nv _ _ (8*k - 8) (by omega) (by omega))⟩, ⟨_, rfl, Qok_val rfl (Ev_conv _ _ rfl fun _ => conv_u64_u8 (by rw [Tryd.underlying58]; rfl) Tryd.underlying5 _)⟩, trivial⟩ rfl (Cok_step rfl (Step_buildSlice 5 1 _ [(0, U8 ((nv >>> UInt64.ofNat (8*k - 8)).toUInt8))] (cu8 ([(nv >>> UInt64.ofNat (8*k - 8)).toUInt8])) Tryd.underlying22 Tryd.sizeOf5 Tryd.zeroValue5 rfl rfl rfl (by kernel_rfl))) ?_
   rintro v1 L1 ⟨nb1, hnb1, rfl, rfl⟩
   refine ⟨[], ?_⟩
   show DP _ _ _ _ _ _ _ _ [⟨wb, [ev, .slice none 0 0], 138, (0, 0)⟩, ⟨nb1, cu8 ([(nv >>> UInt64.ofNat (8*k - 8)).toUInt8]), 5, (0, 0)⟩]
   refine DP_one ⟨[10], [0, 1, 2, 3, 4, 5, 6, 7, 8, 9], [5, 6, 7, 8, 9], [0, 1, 2, 3, 4], [11]⟩ 11 _ rfl rfl (by decide +kernel) rfl ⟨⟨_, rfl, Qok_val rfl (Ev_move rfl)⟩, ⟨_, rfl, Qok_val rfl (Ev_move rfl)⟩, ⟨_, rfl, Qok_val rfl (Ev_nilCheck rfl)⟩, ⟨_, rfl, Qok_val rfl (Ev_fieldAddr 1 22 1 Tryd.underlying138 rfl Tryd.sizeOf22 rfl rfl)⟩, ⟨_, rfl, Qok_val rfl (Ev_load rfl (Ld_one Tryd.isAgg22 (MemAt.ent 0 rfl (Seg.tail (Seg.head)))))⟩, trivial⟩ rfl (Cok_step rfl (Step_appM8 22 5 [false, false] (.slice none 0 0) 0 ([] : List UInt8) ([(nv >>> UInt64.ofNat (8*k - 8)).toUInt8]) (some ⟨nb1, 0, none⟩) 1 1 1 Tryd.underlying22 Tryd.info5 rfl (.inl ⟨rfl, rfl, rfl, rfl, by omega⟩) rfl (by simp) (SrcAt.mem (MemAt.ent 1 rfl (Seg.whole _))) (by omega) (by unfold maxLen; omega) (by omega))) ?_
   rintro v1 L1 ⟨nb2, sp1, cp1, hg1, rfl, rfl, ha1, ha2, ha3, ha4⟩
   refine ⟨[(12, Ptr wb 0), (13, Ptr wb 1)], ?_⟩
   show DP _ _ _ _ _ _ _ _ [⟨wb, [ev, .slice none 0 0], 138, (0, 0)⟩, ⟨nb1, cu8 ([(nv >>> UInt64.ofNat (8*k - 8)).toUInt8]), 5, (0, 0)⟩, ⟨nb2, cu8 (([] : List UInt8) ++ ([(nv >>> UInt64.ofNat (8*k - 8)).toUInt8])) ++ sp1, 5, (0, 0)⟩]
   refine DP_one ⟨[10, 11], [0, 1, 2, 3, 4, 5, 6, 7, 8, 9, 12, 13], [1, 2, 3, 4, 5, 6, 7, 8, 9], [0, 12, 13], [14]⟩ 14 _ rfl rfl (by decide +kernel) rfl ⟨⟨_, rfl, Qok_val rfl (Ev_move rfl)⟩, ⟨_, rfl, Qok_val rfl (Ev_nilCheck rfl)⟩, ⟨_, rfl, Qok_val rfl (Ev_fieldAddr 1 22 1 Tryd.underlying138 rfl Tryd.sizeOf22 rfl rfl)⟩, trivial⟩ rfl (Cok_step rfl (Step_store 0 wb 1 1 ([ev, .slice none 0 0]) 138 (Slc nb2 0 1 cp1) ([Slc nb2 0 1 cp1]) ([ev, Slc nb2 0 1 cp1]) rfl rfl rfl rfl Tryd.sizeOf22 rfl (by simp [Value.oneCell']) (Nat.le_of_ble_eq_true rfl) (rfl))) ?_
   rintro v1 L1 ⟨rfl, rfl⟩
   refine ⟨[], ?_⟩
   show DP _ _ _ _ _ _ _ _ [⟨wb, [ev, Slc nb2 0 1 cp1], 138, (0, 0)⟩, ⟨nb1, cu8 ([(nv >>> UInt64.ofNat (8*k - 8)).toUInt8]), 5, (0, 0)⟩, ⟨nb2, cu8 (([] : List UInt8) ++ ([(nv >>> UInt64.ofNat (8*k - 8)).toUInt8])) ++ sp1, 5, (0, 0)⟩]
   refine DP_end ⟨[10, 11, 14], [0, 1, 2, 3, 4, 5, 6, 7, 8, 9, 12, 13], [0, 1, 2, 3, 4, 5, 6, 7, 8, 9, 12, 13], [], []⟩ rfl rfl (by decide +kernel) rfl trivial ?_
   refine K_sub (F' := [(36, Ptr wb 0), (37, Ptr wb 0), (38, Ptr wb 0), (39, Ptr wb 1), (40, .slice none 0 0), (41, U64 nv), (42, I64 ((k:Int) - 1)), (43, I64 (8*(k:Int) - 8)), (44, U64 (nv >>> UInt64.ofNat (8*k - 8))), (45, U8 ((nv >>> UInt64.ofNat (8*k - 8)).toUInt8)), (46, Slc nb1 0 1 1), (47, Slc nb2 0 1 cp1), (48, Ptr wb 0), (49, Ptr wb 1), (0, Ptr wb 0), (1, U64 nv), (6, .pointer none), (7, I64 ((k:Int) - 1)), (32, I64 ((k:Int) - 1)), (33, .bool (decide ((0:Int) ≤ ((k:Int) - 1))))]) (Sub.cons (by kernel_rfl) (Sub.cons (by kernel_rfl) (Sub.cons (by kernel_rfl) (Sub.cons (by kernel_rfl) (Sub.cons (by kernel_rfl) (Sub.cons (by kernel_rfl) (Sub.cons (by kernel_rfl) (Sub.cons (by kernel_rfl) (Sub.cons (by kernel_rfl) (Sub.cons (by kernel_rfl) (Sub.cons (by kernel_rfl) (Sub.cons (by kernel_rfl) (Sub.cons (by kernel_rfl) (Sub.cons (by kernel_rfl) (Sub.cons (by kernel_rfl) (Sub.cons (by kernel_rfl) (Sub.cons (by kernel_rfl) (Sub.cons (by kernel_rfl) (Sub.cons (by kernel_rfl) (Sub.cons (by kernel_rfl) (Sub.nil))))))))))))))))))))) ?_
   show JQ _ _ _ [(36, Ptr wb 0), (37, Ptr wb 0), (38, Ptr wb 0), (39, Ptr wb 1), (40, .slice none 0 0), (41, U64 nv), (42, I64 ((k:Int) - 1)), (43, I64 (8*(k:Int) - 8)), (44, U64 (nv >>> UInt64.ofNat (8*k - 8))), (45, U8 ((nv >>> UInt64.ofNat (8*k - 8)).toUInt8)), (46, Slc nb1 0 1 1), (47, Slc nb2 0 1 cp1), (48, Ptr wb 0), (49, Ptr wb 1), (0, Ptr wb 0), (1, U64 nv), (6, .pointer none), (7, I64 ((k:Int) - 1)), (32, I64 ((k:Int) - 1)), (33, .bool (decide ((0:Int) ≤ ((k:Int) - 1))))] _
   refine JQ_in_normal ?_
   refine JQ_then ?_
   refine JC_region ?_
   refine JL_val _ (Ev_move rfl) rfl ?_
   refine JL_val (I64 ((k:Int) - 2)) (Ev_bini rfl rfl fun _ => bin_sub_i _ _ ((k:Int) - 2) (by omega) (by omega)) rfl ?_
   refine JL_val _ (Ev_assign rfl) rfl ?_
   refine JL_nil ?_
   refine JQ_thenK ?_
   refine K_mask [true, false, true] ?_
   show K _ _ [⟨wb, [ev, Slc nb2 0 1 cp1], 138, (0, 0)⟩, ⟨nb2, cu8 (([] : List UInt8) ++ ([(nv >>> UInt64.ofNat (8*k - 8)).toUInt8])) ++ sp1, 5, (0, 0)⟩] _
   refine K_next (.inr (1, ([] : List UInt8) ++ ([(nv >>> UInt64.ofNat (8*k - 8)).toUInt8]), nb2, sp1, cp1)) ⟨by omega, by omega, by rw [numK_succ, numK_zero]; rfl, (ha1).trans (by first | rfl | simp +arith), (ha2).trans (by first | rfl | simp +arith), by omega, ha4⟩ (by first | (simp; omega) | simp) (Sub.cons rfl (Sub.cons rfl (Sub.cons rfl (Sub.cons (some_i64 (by omega)) (Sub.nil))))) rfl
  ·
   obtain ⟨hx0, hx1, hx2, hoq, hx4, hx5, hx6⟩ := hx
   show JC _ _ _ [(0, Ptr wb 0), (1, U64 nv), (6, .pointer none), (7, I64 ((k:Int) - (q:Int) - 1))] [⟨wb, [ev, Slc gq 0 q cpq], 138, (0, 0)⟩, ⟨gq, cu8 oq ++ spq, 5, (0, 0)⟩]
   refine JC_seq ?_
   refine JC_seq ?_
   refine JC_region ?_
   refine JL_val _ (Ev_move rfl) rfl ?_
   refine JL_val (.bool (decide ((0:Int) ≤ ((k:Int) - (q:Int) - 1)))) (Ev_bini rfl rfl fun _ => bin_geq_i _ _) rfl ?_
   refine JL_nil ?_
   refine JQ_then ?_
   refine JC_cond (decide ((0:Int) ≤ ((k:Int) - (q:Int) - 1))) rfl (fun hb2 => ?_) (fun hb2 => ?_)
   ·
    have hp2 : (0:Int) ≤ ((k:Int) - (q:Int) - 1) := of_decide_eq_true hb2
    refine JC_skip ?_
    refine JQ_then ?_
    refine JC_seq ?_
    refine JC_block ?_
    refine JC_draw 51 4 [(0, Ptr wb 0), (1, Ptr wb 0), (2, Ptr wb 0), (3, Ptr wb 1), (4, Slc gq 0 q cpq), (5, U64 nv), (6, I64 ((k:Int) - (q:Int) - 1)), (7, I64 (8*(k:Int) - 8*(q:Int) - 8)), (8, U64 (nv >>> UInt64.ofNat (8*k - 8*q - 8))), (9, U8 ((nv >>> UInt64.ofNat (8*k - 8*q - 8)).toUInt8))] Tryd.mixed rfl (by decide +kernel) ?_
    refine DP_one ⟨[], [0, 1, 2, 3, 4, 5, 6, 7, 8, 9], [], [0, 1, 2, 3, 4, 5, 6, 7, 8, 9], [10]⟩ 10 _ rfl rfl (by decide +kernel) rfl ⟨⟨_, rfl, Qok_val rfl (Ev_move rfl)⟩, ⟨_, rfl, Qok_val rfl (Ev_move rfl)⟩, ⟨_, rfl, Qok_val rfl (Ev_nilCheck rfl)⟩, ⟨_, rfl, Qok_val rfl (Ev_fieldAddr 1 22 1 Tryd.underlying138 rfl Tryd.sizeOf22 rfl rfl)⟩, ⟨_, rfl, Qok_val rfl (Ev_load rfl (Ld_one Tryd.isAgg22 (MemAt.ent 0 rfl (Seg.tail (Seg.head)))))⟩, ⟨_, rfl, Qok_val rfl (Ev_move rfl)⟩, ⟨_, rfl, Qok_val rfl (Ev_move rfl)⟩, ⟨_, rfl, Qok_val rfl (Ev_bini rfl rfl fun _ => bin_mul_i _ _ (8*(k:Int) - 8*(q:Int) - 8) (by omega) (by omega))⟩, ⟨_, rfl, Qok_val rfl (Ev_bini rfl rfl fun _ => bin_shr_u64 nv _ _ (8*k - 8*q - 8) (by omega) (by omega))⟩, ⟨_, rfl, Qok_val rfl (Ev_conv _ _ rfl fun _ => conv_u64_u8 (by rw [Tryd.underlying58]; rfl) Tryd.underlying5 _)⟩, trivial⟩ rfl (Cok_step rfl (Step_buildSlice 5 1 _ [(0, U8 ((nv >>> UInt64.ofNat (8*k - 8*q - 8)).toUInt8))] (cu8 ([(nv >>> UInt64.ofNat (8*k - 8*q - 8)).toUInt8])) Tryd.underlying22 Tryd.sizeOf5 Tryd.zeroValue5 rfl rfl rfl (by kernel_rfl))) ?_
    rintro v1 L1 ⟨nb3, hnb3, rfl, rfl⟩
    refine ⟨[], ?_⟩
    show DP _ _ _ _ _ _ _ _ [⟨wb, [ev, Slc gq 0 q cpq], 138, (0, 0)⟩, ⟨gq, cu8 oq ++ spq, 5, (0, 0)⟩, ⟨nb3, cu8 ([(nv >>> UInt64.ofNat (8*k - 8*q - 8)).toUInt8]), 5, (0, 0)⟩]
    refine DP_one ⟨[10], [0, 1, 2, 3, 4, 5, 6, 7, 8, 9], [5, 6, 7, 8, 9], [0, 1, 2, 3, 4], [11]⟩ 11 _ rfl rfl (by decide +kernel) rfl ⟨⟨_, rfl, Qok_val rfl (Ev_move rfl)⟩, ⟨_, rfl, Qok_val rfl (Ev_move rfl)⟩, ⟨_, rfl, Qok_val rfl (Ev_nilCheck rfl)⟩, ⟨_, rfl, Qok_val rfl (Ev_fieldAddr 1 22 1 Tryd.underlying138 rfl Tryd.sizeOf22 rfl rfl)⟩, ⟨_, rfl, Qok_val rfl (Ev_load rfl (Ld_one Tryd.isAgg22 (MemAt.ent 0 rfl (Seg.tail (Seg.head)))))⟩, trivial⟩ rfl (Cok_step rfl (Step_appM8 22 5 [false, true, false] (Slc gq 0 q cpq) q oq ([(nv >>> UInt64.ofNat (8*k - 8*q - 8)).toUInt8]) (some ⟨nb3, 0, none⟩) 1 1 (q + 1) Tryd.underlying22 Tryd.info5 rfl (.inr ⟨gq, spq, cpq, rfl, rfl, (by first | exact hoq | simp [hoq]), hx4, (by omega), (by omega)⟩) rfl (by simp) (SrcAt.mem (MemAt.ent 2 rfl (Seg.whole _))) (by omega) (by unfold maxLen; omega) (by omega))) ?_
    rintro v1 L1 ⟨nb4, sp2, cp2, hg2, rfl, rfl, ha5, ha6, ha7, ha8⟩
    refine ⟨[(12, Ptr wb 0), (13, Ptr wb 1)], ?_⟩
    show DP _ _ _ _ _ _ _ _ [⟨wb, [ev, Slc gq 0 q cpq], 138, (0, 0)⟩, ⟨nb3, cu8 ([(nv >>> UInt64.ofNat (8*k - 8*q - 8)).toUInt8]), 5, (0, 0)⟩, ⟨nb4, cu8 (oq ++ ([(nv >>> UInt64.ofNat (8*k - 8*q - 8)).toUInt8])) ++ sp2, 5, (0, 0)⟩]
    refine DP_one ⟨[10, 11], [0, 1, 2, 3, 4, 5, 6, 7, 8, 9, 12, 13], [1, 2, 3, 4, 5, 6, 7, 8, 9], [0, 12, 13], [14]⟩ 14 _ rfl rfl (by decide +kernel) rfl ⟨⟨_, rfl, Qok_val rfl (Ev_move rfl)⟩, ⟨_, rfl, Qok_val rfl (Ev_nilCheck rfl)⟩, ⟨_, rfl, Qok_val rfl (Ev_fieldAddr 1 22 1 Tryd.underlying138 rfl Tryd.sizeOf22 rfl rfl)⟩, trivial⟩ rfl (Cok_step rfl (Step_store 0 wb 1 1 ([ev, Slc gq 0 q cpq]) 138 (Slc nb4 0 (q + 1) cp2) ([Slc nb4 0 (q + 1) cp2]) ([ev, Slc nb4 0 (q + 1) cp2]) rfl rfl rfl rfl Tryd.sizeOf22 rfl (by simp [Value.oneCell']) (Nat.le_of_ble_eq_true rfl) (rfl))) ?_
    rintro v1 L1 ⟨rfl, rfl⟩
    refine ⟨[], ?_⟩
    show DP _ _ _ _ _ _ _ _ [⟨wb, [ev, Slc nb4 0 (q + 1) cp2], 138, (0, 0)⟩, ⟨nb3, cu8 ([(nv >>> UInt64.ofNat (8*k - 8*q - 8)).toUInt8]), 5, (0, 0)⟩, ⟨nb4, cu8 (oq ++ ([(nv >>> UInt64.ofNat (8*k - 8*q - 8)).toUInt8])) ++ sp2, 5, (0, 0)⟩]
    refine DP_end ⟨[10, 11, 14], [0, 1, 2, 3, 4, 5, 6, 7, 8, 9, 12, 13], [0, 1, 2, 3, 4, 5, 6, 7, 8, 9, 12, 13], [], []⟩ rfl rfl (by decide +kernel) rfl trivial ?_
    refine K_sub (F' := [(36, Ptr wb 0), (37, Ptr wb 0), (38, Ptr wb 0), (39, Ptr wb 1), (40, Slc gq 0 q cpq), (41, U64 nv), (42, I64 ((k:Int) - (q:Int) - 1)), (43, I64 (8*(k:Int) - 8*(q:Int) - 8)), (44, U64 (nv >>> UInt64.ofNat (8*k - 8*q - 8))), (45, U8 ((nv >>> UInt64.ofNat (8*k - 8*q - 8)).toUInt8)), (46, Slc nb3 0 1 1), (47, Slc nb4 0 (q + 1) cp2), (48, Ptr wb 0), (49, Ptr wb 1), (0, Ptr wb 0), (1, U64 nv), (6, .pointer none), (7, I64 ((k:Int) - (q:Int) - 1)), (32, I64 ((k:Int) - (q:Int) - 1)), (33, .bool (decide ((0:Int) ≤ ((k:Int) - (q:Int) - 1))))]) (Sub.cons (by kernel_rfl) (Sub.cons (by kernel_rfl) (Sub.cons (by kernel_rfl) (Sub.cons (by kernel_rfl) (Sub.cons (by kernel_rfl) (Sub.cons (by kernel_rfl) (Sub.cons (by kernel_rfl) (Sub.cons (by kernel_rfl) (Sub.cons (by kernel_rfl) (Sub.cons (by kernel_rfl) (Sub.cons (by kernel_rfl) (Sub.cons (by kernel_rfl) (Sub.cons (by kernel_rfl) (Sub.cons (by kernel_rfl) (Sub.cons (by kernel_rfl) (Sub.cons (by kernel_rfl) (Sub.cons (by kernel_rfl) (Sub.cons (by kernel_rfl) (Sub.cons (by kernel_rfl) (Sub.cons (by kernel_rfl) (Sub.nil))))))))))))))))))))) ?_
    show JQ _ _ _ [(36, Ptr wb 0), (37, Ptr wb 0), (38, Ptr wb 0), (39, Ptr wb 1), (40, Slc gq 0 q cpq), (41, U64 nv), (42, I64 ((k:Int) - (q:Int) - 1)), (43, I64 (8*(k:Int) - 8*(q:Int) - 8)), (44, U64 (nv >>> UInt64.ofNat (8*k - 8*q - 8))), (45, U8 ((nv >>> UInt64.ofNat (8*k - 8*q - 8)).toUInt8)), (46, Slc nb3 0 1 1), (47, Slc nb4 0 (q + 1) cp2), (48, Ptr wb 0), (49, Ptr wb 1), (0, Ptr wb 0), (1, U64 nv), (6, .pointer none), (7, I64 ((k:Int) - (q:Int) - 1)), (32, I64 ((k:Int) - (q:Int) - 1)), (33, .bool (decide ((0:Int) ≤ ((k:Int) - (q:Int) - 1))))] _
    refine JQ_in_normal ?_
    refine JQ_then ?_
    refine JC_region ?_
    refine JL_val _ (Ev_move rfl) rfl ?_
    refine JL_val (I64 ((k:Int) - (q:Int) - 2)) (Ev_bini rfl rfl fun _ => bin_sub_i _ _ ((k:Int) - (q:Int) - 2) (by omega) (by omega)) rfl ?_
    refine JL_val _ (Ev_assign rfl) rfl ?_
    refine JL_nil ?_
    refine JQ_thenK ?_
    refine K_mask [true, false, true] ?_
    show K _ _ [⟨wb, [ev, Slc nb4 0 (q + 1) cp2], 138, (0, 0)⟩, ⟨nb4, cu8 (oq ++ ([(nv >>> UInt64.ofNat (8*k - 8*q - 8)).toUInt8])) ++ sp2, 5, (0, 0)⟩] _
    refine K_next (.inr (q + 1, oq ++ ([(nv >>> UInt64.ofNat (8*k - 8*q - 8)).toUInt8]), nb4, sp2, cp2)) ⟨by omega, by omega, by rw [numK_succ, ← hx2], (ha5).trans (by first | rfl | simp +arith), (ha6).trans (by first | rfl | simp +arith), by omega, ha8⟩ (by first | (simp; omega) | simp) (Sub.cons rfl (Sub.cons rfl (Sub.cons rfl (Sub.cons (some_i64 (by omega)) (Sub.nil))))) rfl
   ·
    have hp2 : ¬ ((0:Int) ≤ ((k:Int) - (q:Int) - 1)) := of_decide_eq_false hb2
    refine JC_exit ?_
    refine JQ_then_exit ?_
    refine JQ_then_exit ?_
    refine JQ_in_same ?_
    refine JQ_then ?_
    refine JC_seq ?_
    refine JC_region ?_
    refine JL_val _ (Ev_move rfl) rfl ?_
    refine JL_val _ (Ev_assign rfl) rfl ?_
    refine JL_nil ?_
    refine JQ_then ?_
    refine JC_ret ?_
    refine JQ_ret (Ptr wb 0) (res1 Tryd.results97 (RV_tmp rfl)) fun w1 hw1 => ?_
    have e1 : q = k := by omega
    rw [hx2, e1] at hw1
    obtain rfl : tot = k := by omega
    exact ⟨_, _, rfl, ⟨rfl, gq, spq, cpq, rfl, by omega, by omega, hx6⟩, hw1⟩
 ·
  have hp1 : ¬ (((k:Int)) < (8:Int)) := of_decide_eq_false hb1
  refine JL_gskip 6 16 true _ rfl rfl hb1 rfl ?_
  refine JL_gskip 6 16 true _ rfl rfl hb1 rfl ?_
  refine JL_gskip 6 16 true _ rfl rfl hb1 rfl ?_
  refine JL_gskip 6 16 true _ rfl rfl hb1 rfl ?_
  refine JL_gskip 6 16 true _ rfl rfl hb1 rfl ?_
  refine JL_gval 3 13 false _ _ rfl rfl rfl (Ev_pickF _ rfl hb1 rfl) rfl ?_
  refine JL_val _ (Ev_pickF _ rfl rfl rfl) rfl ?_
  refine JL_nil ?_
  refine JQ_then ?_
  refine JC_condF _ rfl rfl ?_
  refine JC_skip ?_
  refine JQ_then ?_
  refine JC_seq ?_
  refine JC_seq ?_
  refine JC_region ?_
  refine JL_val _ (Ev_move rfl) rfl ?_
  refine JL_val (I64 ((k:Int) - 1)) (Ev_bini rfl rfl fun _ => bin_sub_i _ _ ((k:Int) - 1) (by omega) (by omega)) rfl ?_
  refine JL_val _ (Ev_assign rfl) rfl ?_
  refine JL_nil ?_
  refine JQ_then ?_
  refine JC_block ?_
  refine JC_loop (ι := (Unit) ⊕ (Nat × List UInt8 × Nat × List Value × Nat)) (fun x => match x with | .inl _ => [(0, Ptr wb 0), (1, U64 nv), (6, .pointer none), (7, I64 ((k:Int) - 1))] | .inr ⟨q, oq, gq, spq, cpq⟩ => [(0, Ptr wb 0), (1, U64 nv), (6, .pointer none), (7, I64 ((k:Int) - (q:Int) - 1))]) (fun x => match x with | .inl _ => [⟨wb, [ev, .slice none 0 0], 138, (0, 0)⟩] | .inr ⟨q, oq, gq, spq, cpq⟩ => [⟨wb, [ev, Slc gq 0 q cpq], 138, (0, 0)⟩, ⟨gq, cu8 oq ++ spq, 5, (0, 0)⟩]) (fun x => match x with | .inl _ => True | .inr ⟨q, oq, gq, spq, cpq⟩ => 1 ≤ q ∧ q ≤ k ∧ oq = numK k nv q ∧ oq.length = q ∧ spq.length = cpq - (q) ∧ q ≤ cpq ∧ cpq ≤ maxLen) (fun x => match x with | .inl _ => k + 1 | .inr ⟨q, oq, gq, spq, cpq⟩ => k - q) (.inl ()) trivial (Sub.cons rfl (Sub.cons rfl (Sub.cons rfl (Sub.cons rfl (Sub.nil))))) rfl ?_
  rintro (_ | ⟨q, oq, gq, spq, cpq⟩) hx
  ·
   obtain _ := hx
   show JC _ _ _ [(0, Ptr wb 0), (1, U64 nv), (6, .pointer none), (7, I64 ((k:Int) - 1))] [⟨wb, [ev, .slice none 0 0], 138, (0, 0)⟩]
   refine JC_seq ?_
   refine JC_seq ?_
   refine JC_region ?_
   refine JL_val _ (Ev_move rfl) rfl ?_
   refine JL_val (.bool (decide ((0:Int) ≤ ((k:Int) - 1)))) (Ev_bini rfl rfl fun _ => bin_geq_i _ _) rfl ?_
   refine JL_nil ?_
   refine JQ_then ?_
   refine JC_condT _ rfl (decide_eq_true (by omega)) ?_
   refine JC_skip ?_
   refine JQ_then ?_
   refine JC_seq ?_
   refine JC_block ?_
   refine JC_draw 51 4 [(0, Ptr wb 0), (1, Ptr wb 0), (2, Ptr wb 0), (3, Ptr wb 1), (4, .slice none 0 0), (5, U64 nv), (6, I64 ((k:Int) - 1)), (7, I64 (8*(k:Int) - 8)), (8, U64 (nv >>> UInt64.ofNat (8*k - 8))), (9, U8 ((nv >>> UInt64.ofNat (8*k - 8)).toUInt8))] Tryd.mixed rfl (by decide +kernel) ?_
   refine DP_one ⟨[], [0, 1, 2, 3, 4, 5, 6, 7, 8, 9], [], [0, 1, 2, 3, 4, 5, 6, 7, 8, 9], [10]⟩ 10 _ rfl rfl (by decide +kernel) rfl ⟨⟨_, rfl, Qok_val rfl (Ev_move rfl)⟩, ⟨_, rfl, Qok_val rfl (Ev_move rfl)⟩, ⟨_, rfl, Qok_val rfl (Ev_nilCheck rfl)⟩, ⟨_, rfl, Qok_val rfl (Ev_fieldAddr 1 22 1 Tryd.underlying138 rfl Tryd.sizeOf22 rfl rfl)⟩, ⟨_, rfl, Qok_val rfl (Ev_load rfl (Ld_one Tryd.isAgg22 (MemAt.ent 0 rfl (Seg.tail (Seg.head)))))⟩, ⟨_, rfl, Qok_val rfl (Ev_move rfl)⟩, ⟨_, rfl, Qok_val rfl (Ev_move rfl)⟩, ⟨_, rfl, Qok_val rfl (Ev_bini rfl rfl fun _ => bin_mul_i _ _ (8*(k:Int) - 8) (by omega) (by omega))⟩, ⟨_, rfl, Qok_val rfl (Ev_bini rfl rfl fun _ => bin_shr_u64 nv _ _ (8*k - 8) (by omega) (by omega))⟩, ⟨_, rfl, Qok_val rfl (Ev_conv _ _ rfl fun _ => conv_u64_u8 (by rw [Tryd.underlying58]; rfl) Tryd.underlying5 _)⟩, trivial⟩ rfl (Cok_step rfl (Step_buildSlice 5 1 _ [(0, U8 ((nv >>> UInt64.ofNat (8*k - 8)).toUInt8))] (cu8 ([(nv >>> UInt64.ofNat (8*k - 8)).toUInt8])) Tryd.underlying22 Tryd.sizeOf5 Tryd.zeroValue5 rfl rfl rfl (by kernel_rfl))) ?_
   rintro v1 L1 ⟨nb5, hnb5, rfl, rfl⟩
   refine ⟨[], ?_⟩
   show DP _ _ _ _ _ _ _ _ [⟨wb, [ev, .slice none 0 0], 138, (0, 0)⟩, ⟨nb5, cu8 ([(nv >>> UInt64.ofNat (8*k - 8)).toUInt8]), 5, (0, 0)⟩]
   refine DP_one ⟨[10], [0, 1, 2, 3, 4, 5, 6, 7, 8, 9], [5, 6, 7, 8, 9], [0, 1, 2, 3, 4], [11]⟩ 11 _ rfl rfl (by decide +kernel) rfl ⟨⟨_, rfl, Qok_val rfl (Ev_move rfl)⟩, ⟨_, rfl, Qok_val rfl (Ev_move rfl)⟩, ⟨_, rfl, Qok_val rfl (Ev_nilCheck rfl)⟩, ⟨_, rfl, Qok_val rfl (Ev_fieldAddr 1 22 1 Tryd.underlying138 rfl Tryd.sizeOf22 rfl rfl)⟩, ⟨_, rfl, Qok_val rfl (Ev_load rfl (Ld_one Tryd.isAgg22 (MemAt.ent 0 rfl (Seg.tail (Seg.head)))))⟩, trivial⟩ rfl (Cok_step rfl (Step_appM8 22 5 [false, false] (.slice none 0 0) 0 ([] : List UInt8) ([(nv >>> UInt64.ofNat (8*k - 8)).toUInt8]) (some ⟨nb5, 0, none⟩) 1 1 1 Tryd.underlying22 Tryd.info5 rfl (.inl ⟨rfl, rfl, rfl, rfl, by omega⟩) rfl (by simp) (SrcAt.mem (MemAt.ent 1 rfl (Seg.whole _))) (by omega) (by unfold maxLen; omega) (by omega))) ?_
   rintro v1 L1 ⟨nb6, sp3, cp3, hg3, rfl, rfl, ha9, ha10, ha11, ha12⟩
   refine ⟨[(12, Ptr wb 0), (13, Ptr wb 1)], ?_⟩
   show DP _ _ _ _ _ _ _ _ [⟨wb, [ev, .slice none 0 0], 138, (0, 0)⟩, ⟨nb5, cu8 ([(nv >>> UInt64.ofNat (8*k - 8)).toUInt8]), 5, (0, 0)⟩, ⟨nb6, cu8 (([] : List UInt8) ++ ([(nv >>> UInt64.ofNat (8*k - 8)).toUInt8])) ++ sp3, 5, (0, 0)⟩]
   refine DP_one ⟨[10, 11], [0, 1, 2, 3, 4, 5, 6, 7, 8, 9, 12, 13], [1, 2, 3, 4, 5, 6, 7, 8, 9], [0, 12, 13], [14]⟩ 14 _ rfl rfl (by decide +kernel) rfl ⟨⟨_, rfl, Qok_val rfl (Ev_move rfl)⟩, ⟨_, rfl, Qok_val rfl (Ev_nilCheck rfl)⟩, ⟨_, rfl, Qok_val rfl (Ev_fieldAddr 1 22 1 Tryd.underlying138 rfl Tryd.sizeOf22 rfl rfl)⟩, trivial⟩ rfl (Cok_step rfl (Step_store 0 wb 1 1 ([ev, .slice none 0 0]) 138 (Slc nb6 0 1 cp3) ([Slc nb6 0 1 cp3]) ([ev, Slc nb6 0 1 cp3]) rfl rfl rfl rfl Tryd.sizeOf22 rfl (by simp [Value.oneCell']) (Nat.le_of_ble_eq_true rfl) (rfl))) ?_
   rintro v1 L1 ⟨rfl, rfl⟩
   refine ⟨[], ?_⟩
   show DP _ _ _ _ _ _ _ _ [⟨wb, [ev, Slc nb6 0 1 cp3], 138, (0, 0)⟩, ⟨nb5, cu8 ([(nv >>> UInt64.ofNat (8*k - 8)).toUInt8]), 5, (0, 0)⟩, ⟨nb6, cu8 (([] : List UInt8) ++ ([(nv >>> UInt64.ofNat (8*k - 8)).toUInt8])) ++ sp3, 5, (0, 0)⟩]
   refine DP_end ⟨[10, 11, 14], [0, 1, 2, 3, 4, 5, 6, 7, 8, 9, 12, 13], [0, 1, 2, 3, 4, 5, 6, 7, 8, 9, 12, 13], [], []⟩ rfl rfl (by decide +kernel) rfl trivial ?_
   refine K_sub (F' := [(36, Ptr wb 0), (37, Ptr wb 0), (38, Ptr wb 0), (39, Ptr wb 1), (40, .slice none 0 0), (41, U64 nv), (42, I64 ((k:Int) - 1)), (43, I64 (8*(k:Int) - 8)), (44, U64 (nv >>> UInt64.ofNat (8*k - 8))), (45, U8 ((nv >>> UInt64.ofNat (8*k - 8)).toUInt8)), (46, Slc nb5 0 1 1), (47, Slc nb6 0 1 cp3), (48, Ptr wb 0), (49, Ptr wb 1), (0, Ptr wb 0), (1, U64 nv), (6, .pointer none), (7, I64 ((k:Int) - 1)), (32, I64 ((k:Int) - 1)), (33, .bool (decide ((0:Int) ≤ ((k:Int) - 1))))]) (Sub.cons (by kernel_rfl) (Sub.cons (by kernel_rfl) (Sub.cons (by kernel_rfl) (Sub.cons (by kernel_rfl) (Sub.cons (by kernel_rfl) (Sub.cons (by kernel_rfl) (Sub.cons (by kernel_rfl) (Sub.cons (by kernel_rfl) (Sub.cons (by kernel_rfl) (Sub.cons (by kernel_rfl) (Sub.cons (by kernel_rfl) (Sub.cons (by kernel_rfl) (Sub.cons (by kernel_rfl) (Sub.cons (by kernel_rfl) (Sub.cons (by kernel_rfl) (Sub.cons (by kernel_rfl) (Sub.cons (by kernel_rfl) (Sub.cons (by kernel_rfl) (Sub.cons (by kernel_rfl) (Sub.cons (by kernel_rfl) (Sub.nil))))))))))))))))))))) ?_
   show JQ _ _ _ [(36, Ptr wb 0), (37, Ptr wb 0), (38, Ptr wb 0), (39, Ptr wb 1), (40, .slice none 0 0), (41, U64 nv), (42, I64 ((k:Int) - 1)), (43, I64 (8*(k:Int) - 8)), (44, U64 (nv >>> UInt64.ofNat (8*k - 8))), (45, U8 ((nv >>> UInt64.ofNat (8*k - 8)).toUInt8)), (46, Slc nb5 0 1 1), (47, Slc nb6 0 1 cp3), (48, Ptr wb 0), (49, Ptr wb 1), (0, Ptr wb 0), (1, U64 nv), (6, .pointer none), (7, I64 ((k:Int) - 1)), (32, I64 ((k:Int) - 1)), (33, .bool (decide ((0:Int) ≤ ((k:Int) - 1))))] _
   refine JQ_in_normal ?_
   refine JQ_then ?_
   refine JC_region ?_
   refine JL_val _ (Ev_move rfl) rfl ?_
   refine JL_val (I64 ((k:Int) - 2)) (Ev_bini rfl rfl fun _ => bin_sub_i _ _ ((k:Int) - 2) (by omega) (by omega)) rfl ?_
   refine JL_val _ (Ev_assign rfl) rfl ?_
   refine JL_nil ?_
   refine JQ_thenK ?_
   refine K_mask [true, false, true] ?_
   show K _ _ [⟨wb, [ev, Slc nb6 0 1 cp3], 138, (0, 0)⟩, ⟨nb6, cu8 (([] : List UInt8) ++ ([(nv >>> UInt64.ofNat (8*k - 8)).toUInt8])) ++ sp3, 5, (0, 0)⟩] _
   refine K_next (.inr (1, ([] : List UInt8) ++ ([(nv >>> UInt64.ofNat (8*k - 8)).toUInt8]), nb6, sp3, cp3)) ⟨by omega, by omega, by rw [numK_succ, numK_zero]; rfl, (ha9).trans (by first | rfl | simp +arith), (ha10).trans (by first | rfl | simp +arith), by omega, ha12⟩ (by first | (simp; omega) | simp) (Sub.cons rfl (Sub.cons rfl (Sub.cons rfl (Sub.cons (some_i64 (by omega)) (Sub.nil))))) rfl
  ·
   obtain ⟨hx0, hx1, hx2, hoq, hx4, hx5, hx6⟩ := hx
   show JC _ _ _ [(0, Ptr wb 0), (1, U64 nv), (6, .pointer none), (7, I64 ((k:Int) - (q:Int) - 1))] [⟨wb, [ev, Slc gq 0 q cpq], 138, (0, 0)⟩, ⟨gq, cu8 oq ++ spq, 5, (0, 0)⟩]
   refine JC_seq ?_
   refine JC_seq ?_
   refine JC_region ?_
   refine JL_val _ (Ev_move rfl) rfl ?_
   refine JL_val (.bool (decide ((0:Int) ≤ ((k:Int) - (q:Int) - 1)))) (Ev_bini rfl rfl fun _ => bin_geq_i _ _) rfl ?_
   refine JL_nil ?_
   refine JQ_then ?_
   refine JC_cond (decide ((0:Int) ≤ ((k:Int) - (q:Int) - 1))) rfl (fun hb3 => ?_) (fun hb3 => ?_)
   ·
    have hp3 : (0:Int) ≤ ((k:Int) - (q:Int) - 1) := of_decide_eq_true hb3
    refine JC_skip ?_
    refine JQ_then ?_
    refine JC_seq ?_
    refine JC_block ?_
    refine JC_draw 51 4 [(0, Ptr wb 0), (1, Ptr wb 0), (2, Ptr wb 0), (3, Ptr wb 1), (4, Slc gq 0 q cpq), (5, U64 nv), (6, I64 ((k:Int) - (q:Int) - 1)), (7, I64 (8*(k:Int) - 8*(q:Int) - 8)), (8, U64 (nv >>> UInt64.ofNat (8*k - 8*q - 8))), (9, U8 ((nv >>> UInt64.ofNat (8*k - 8*q - 8)).toUInt8))] Tryd.mixed rfl (by decide +kernel) ?_
    refine DP_one ⟨[], [0, 1, 2, 3, 4, 5, 6, 7, 8, 9], [], [0, 1, 2, 3, 4, 5, 6, 7, 8, 9], [10]⟩ 10 _ rfl rfl (by decide +kernel) rfl ⟨⟨_, rfl, Qok_val rfl (Ev_move rfl)⟩, ⟨_, rfl, Qok_val rfl (Ev_move rfl)⟩, ⟨_, rfl, Qok_val rfl (Ev_nilCheck rfl)⟩, ⟨_, rfl, Qok_val rfl (Ev_fieldAddr 1 22 1 Tryd.underlying138 rfl Tryd.sizeOf22 rfl rfl)⟩, ⟨_, rfl, Qok_val rfl (Ev_load rfl (Ld_one Tryd.isAgg22 (MemAt.ent 0 rfl (Seg.tail (Seg.head)))))⟩, ⟨_, rfl, Qok_val rfl (Ev_move rfl)⟩, ⟨_, rfl, Qok_val rfl (Ev_move rfl)⟩, ⟨_, rfl, Qok_val rfl (Ev_bini rfl rfl fun _ => bin_mul_i _ _ (8*(k:Int) - 8*(q:Int) - 8) (by omega) (by omega))⟩, ⟨_, rfl, Qok_val rfl (Ev_bini rfl rfl fun _ => bin_shr_u64 nv _ _ (8*k - 8*q - 8) (by omega) (by omega))⟩, ⟨_, rfl, Qok_val rfl (Ev_conv _ _ rfl fun _ => conv_u64_u8 (by rw [Tryd.underlying58]; rfl) Tryd.underlying5 _)⟩, trivial⟩ rfl (Cok_step rfl (Step_buildSlice 5 1 _ [(0, U8 ((nv >>> UInt64.ofNat (8*k - 8*q - 8)).toUInt8))] (cu8 ([(nv >>> UInt64.ofNat (8*k - 8*q - 8)).toUInt8])) Tryd.underlying22 Tryd.sizeOf5 Tryd.zeroValue5 rfl rfl rfl (by kernel_rfl))) ?_
    rintro v1 L1 ⟨nb7, hnb7, rfl, rfl⟩
    refine ⟨[], ?_⟩
    show DP _ _ _ _ _ _ _ _ [⟨wb, [ev, Slc gq 0 q cpq], 138, (0, 0)⟩, ⟨gq, cu8 oq ++ spq, 5, (0, 0)⟩, ⟨nb7, cu8 ([(nv >>> UInt64.ofNat (8*k - 8*q - 8)).toUInt8]), 5, (0, 0)⟩]
    refine DP_one ⟨[10], [0, 1, 2, 3, 4, 5, 6, 7, 8, 9], [5, 6, 7, 8, 9], [0, 1, 2, 3, 4], [11]⟩ 11 _ rfl rfl (by decide +kernel) rfl ⟨⟨_, rfl, Qok_val rfl (Ev_move rfl)⟩, ⟨_, rfl, Qok_val rfl (Ev_move rfl)⟩, ⟨_, rfl, Qok_val rfl (Ev_nilCheck rfl)⟩, ⟨_, rfl, Qok_val rfl (Ev_fieldAddr 1 22 1 Tryd.underlying138 rfl Tryd.sizeOf22 rfl rfl)⟩, ⟨_, rfl, Qok_val rfl (Ev_load rfl (Ld_one Tryd.isAgg22 (MemAt.ent 0 rfl (Seg.tail (Seg.head)))))⟩, trivial⟩ rfl (Cok_step rfl (Step_appM8 22 5 [false, true, false] (Slc gq 0 q cpq) q oq ([(nv >>> UInt64.ofNat (8*k - 8*q - 8)).toUInt8]) (some ⟨nb7, 0, none⟩) 1 1 (q + 1) Tryd.underlying22 Tryd.info5 rfl (.inr ⟨gq, spq, cpq, rfl, rfl, (by first | exact hoq | simp [hoq]), hx4, (by omega), (by omega)⟩) rfl (by simp) (SrcAt.mem (MemAt.ent 2 rfl (Seg.whole _))) (by omega) (by unfold maxLen; omega) (by omega))) ?_
    rintro v1 L1 ⟨nb8, sp4, cp4, hg4, rfl, rfl, ha13, ha14, ha15, ha16⟩
    refine ⟨[(12, Ptr wb 0), (13, Ptr wb 1)], ?_⟩
    show DP _ _ _ _ _ _ _ _ [⟨wb, [ev, Slc gq 0 q cpq], 138, (0, 0)⟩, ⟨nb7, cu8 ([(nv >>> UInt64.ofNat (8*k - 8*q - 8)).toUInt8]), 5, (0, 0)⟩, ⟨nb8, cu8 (oq ++ ([(nv >>> UInt64.ofNat (8*k - 8*q - 8)).toUInt8])) ++ sp4, 5, (0, 0)⟩]
    refine DP_one ⟨[10, 11], [0, 1, 2, 3, 4, 5, 6, 7, 8, 9, 12, 13], [1, 2, 3, 4, 5, 6, 7, 8, 9], [0, 12, 13], [14]⟩ 14 _ rfl rfl (by decide +kernel) rfl ⟨⟨_, rfl, Qok_val rfl (Ev_move rfl)⟩, ⟨_, rfl, Qok_val rfl (Ev_nilCheck rfl)⟩, ⟨_, rfl, Qok_val rfl (Ev_fieldAddr 1 22 1 Tryd.underlying138 rfl Tryd.sizeOf22 rfl rfl)⟩, trivial⟩ rfl (Cok_step rfl (Step_store 0 wb 1 1 ([ev, Slc gq 0 q cpq]) 138 (Slc nb8 0 (q + 1) cp4) ([Slc nb8 0 (q + 1) cp4]) ([ev, Slc nb8 0 (q + 1) cp4]) rfl rfl rfl rfl Tryd.sizeOf22 rfl (by simp [Value.oneCell']) (Nat.le_of_ble_eq_true rfl) (rfl))) ?_
    rintro v1 L1 ⟨rfl, rfl⟩
    refine ⟨[], ?_⟩
    show DP _ _ _ _ _ _ _ _ [⟨wb, [ev, Slc nb8 0 (q + 1) cp4], 138, (0, 0)⟩, ⟨nb7, cu8 ([(nv >>> UInt64.ofNat (8*k - 8*q - 8)).toUInt8]), 5, (0, 0)⟩, ⟨nb8, cu8 (oq ++ ([(nv >>> UInt64.ofNat (8*k - 8*q - 8)).toUInt8])) ++ sp4, 5, (0, 0)⟩]
    refine DP_end ⟨[10, 11, 14], [0, 1, 2, 3, 4, 5, 6, 7, 8, 9, 12, 13], [0, 1, 2, 3, 4, 5, 6, 7, 8, 9, 12, 13], [], []⟩ rfl rfl (by decide +kernel) rfl trivial ?_
    refine K_sub (F' := [(36, Ptr wb 0), (37, Ptr wb 0), (38, Ptr wb 0), (39, Ptr wb 1), (40, Slc gq 0 q cpq), (41, U64 nv), (42, I64 ((k:Int) - (q:Int) - 1)), (43, I64 (8*(k:Int) - 8*(q:Int) - 8)), (44, U64 (nv >>> UInt64.ofNat (8*k - 8*q - 8))), (45, U8 ((nv >>> UInt64.ofNat (8*k - 8*q - 8)).toUInt8)), (46, Slc nb7 0 1 1), (47, Slc nb8 0 (q + 1) cp4), (48, Ptr wb 0), (49, Ptr wb 1), (0, Ptr wb 0), (1, U64 nv), (6, .pointer none), (7, I64 ((k:Int) - (q:Int) - 1)), (32, I64 ((k:Int) - (q:Int) - 1)), (33, .bool (decide ((0:Int) ≤ ((k:Int) - (q:Int) - 1))))]) (Sub.cons (by kernel_rfl) (Sub.cons (by kernel_rfl) (Sub.cons (by kernel_rfl) (Sub.cons (by kernel_rfl) (Sub.cons (by kernel_rfl) (Sub.cons (by kernel_rfl) (Sub.cons (by kernel_rfl) (Sub.cons (by kernel_rfl) (Sub.cons (by kernel_rfl) (Sub.cons (by kernel_rfl) (Sub.cons (by kernel_rfl) (Sub.cons (by kernel_rfl) (Sub.cons (by kernel_rfl) (Sub.cons (by kernel_rfl) (Sub.cons (by kernel_rfl) (Sub.cons (by kernel_rfl) (Sub.cons (by kernel_rfl) (Sub.cons (by kernel_rfl) (Sub.cons (by kernel_rfl) (Sub.cons (by kernel_rfl) (Sub.nil))))))))))))))))))))) ?_
    show JQ _ _ _ [(36, Ptr wb 0), (37, Ptr wb 0), (38, Ptr wb 0), (39, Ptr wb 1), (40, Slc gq 0 q cpq), (41, U64 nv), (42, I64 ((k:Int) - (q:Int) - 1)), (43, I64 (8*(k:Int) - 8*(q:Int) - 8)), (44, U64 (nv >>> UInt64.ofNat (8*k - 8*q - 8))), (45, U8 ((nv >>> UInt64.ofNat (8*k - 8*q - 8)).toUInt8)), (46, Slc nb7 0 1 1), (47, Slc nb8 0 (q + 1) cp4), (48, Ptr wb 0), (49, Ptr wb 1), (0, Ptr wb 0), (1, U64 nv), (6, .pointer none), (7, I64 ((k:Int) - (q:Int) - 1)), (32, I64 ((k:Int) - (q:Int) - 1)), (33, .bool (decide ((0:Int) ≤ ((k:Int) - (q:Int) - 1))))] _
    refine JQ_in_normal ?_
    refine JQ_then ?_
    refine JC_region ?_
    refine JL_val _ (Ev_move rfl) rfl ?_
    refine JL_val (I64 ((k:Int) - (q:Int) - 2)) (Ev_bini rfl rfl fun _ => bin_sub_i _ _ ((k:Int) - (q:Int) - 2) (by omega) (by omega)) rfl ?_
    refine JL_val _ (Ev_assign rfl) rfl ?_
    refine JL_nil ?_
    refine JQ_thenK ?_
    refine K_mask [true, false, true] ?_
    show K _ _ [⟨wb, [ev, Slc nb8 0 (q + 1) cp4], 138, (0, 0)⟩, ⟨nb8, cu8 (oq ++ ([(nv >>> UInt64.ofNat (8*k - 8*q - 8)).toUInt8])) ++ sp4, 5, (0, 0)⟩] _
    refine K_next (.inr (q + 1, oq ++ ([(nv >>> UInt64.ofNat (8*k - 8*q - 8)).toUInt8]), nb8, sp4, cp4)) ⟨by omega, by omega, by rw [numK_succ, ← hx2], (ha13).trans (by first | rfl | simp +arith), (ha14).trans (by first | rfl | simp +arith), by omega, ha16⟩ (by first | (simp; omega) | simp) (Sub.cons rfl (Sub.cons rfl (Sub.cons rfl (Sub.cons (some_i64 (by omega)) (Sub.nil))))) rfl
   ·
    have hp3 : ¬ ((0:Int) ≤ ((k:Int) - (q:Int) - 1)) := of_decide_eq_false hb3
    refine JC_exit ?_
    refine JQ_then_exit ?_
    refine JQ_then_exit ?_
    refine JQ_in_same ?_
    refine JQ_then ?_
    refine JC_seq ?_
    refine JC_region ?_
    refine JL_val _ (Ev_move rfl) rfl ?_
    refine JL_val _ (Ev_assign rfl) rfl ?_
    refine JL_nil ?_
    refine JQ_then ?_
    refine JC_ret ?_
    refine JQ_ret (Ptr wb 0) (res1 Tryd.results97 (RV_tmp rfl)) fun w1 hw1 => ?_
    have e1 : q = k := by omega
    rw [hx2, e1] at hw1
    obtain rfl : tot = k := by omega
    exact ⟨_, _, rfl, ⟨rfl, gq, spq, cpq, rfl, by omega, by omega, hx6⟩, hw1⟩
theorem numO_c (wb gb n cap0 tot : Nat) (ev : Value) (o : List UInt8) (sp0 : List Value) (nv : UInt64) (k : Nat)  (w : World) (h0 : w.heap[wb]? = some (.cells [ev, Slc gb 0 n cap0].toArray 138 (0, 0))) (h1 : w.heap[gb]? = some (.cells (cu8 o ++ sp0).toArray 5 (0, 0))) (hne : wb ≠ gb) (ho : o.length = n) (hsp : sp0.length = cap0 - n) (hca : n ≤ cap0) (hcm : cap0 ≤ maxLen) (hn : n ≤ 1000000000) (hs : Szd (k:Int)) (hx : k < 8 → nv >>> UInt64.ofNat (8*k) = 0) (ht : n + k = tot) : Calls Tryd.prog 97 #[Ptr wb 0, U64 nv, I64 ((k:Int))] w (Post w [wb, gb] (fun v L => v = Ptr wb 0 ∧ ∃ g sp cap, L = [⟨wb, [ev, Slc g 0 tot cap], 138, (0, 0)⟩, ⟨g, cu8 (o ++ numK k nv k) ++ sp, 5, (0, 0)⟩] ∧ sp.length = cap - tot ∧ tot ≤ cap ∧ cap ≤ maxLen)) := by
 have hmx : maxLen = 9223372036854775807 := rfl
 have hs4 : k = 1 ∨ k = 2 ∨ k = 4 ∨ k = 8 := by unfold Szd at hs; omega
 refine enter w [wb, gb] 51 [⟨wb, [ev, Slc gb 0 n cap0], 138, (0, 0)⟩, ⟨gb, cu8 o ++ sp0, 5, (0, 0)⟩] [Ptr wb 0, U64 nv, I64 ((k:Int))] Tryd.func97 rfl rfl (by simp) (Hp.start (by simp; exact ⟨h0, h1⟩) (by simp; exact hne) (by simp)) ?_
 show JC _ _ _ [(0, Ptr wb 0), (1, U64 nv), (2, I64 ((k:Int)))] _
 refine JC_seq ?_
 refine JC_region ?_
 refine JL_val _ (Ev_assign rfl) rfl ?_
 refine JL_nil ?_
 refine JQ_then ?_
 refine JC_seq ?_
 refine JC_seq ?_
 refine JC_region ?_
 refine JL_val _ (Ev_move rfl) rfl ?_
 refine JL_val (.bool false) (Ev_bin _ _ _ rfl rfl (fun _ => eqGuard_ptr ..) fun _ => eql_ptr_nil Tryd.underlying134) rfl ?_
 refine JL_nil ?_
 refine JQ_then ?_
 refine JC_condF _ rfl rfl ?_
 refine JC_skip ?_
 refine JQ_then ?_
 refine JC_seq ?_
 refine JC_seq ?_
 refine JC_region ?_
 refine JL_val _ (Ev_move rfl) rfl ?_
 refine JL_step (Step_callP 121 [I64 ((k:Int))] (.bool true) (Cl_func [I64 ((k:Int))] Tryd.call121 rfl) (fun w1 _ => sizedT_c ((k:Int)) w1 hs)) rfl ?_
 rintro v1 L1 ⟨rfl, rfl⟩
 show JL _ _ _ _ ((11, .bool true) :: _) [⟨wb, [ev, Slc gb 0 n cap0], 138, (0, 0)⟩, ⟨gb, cu8 o ++ sp0, 5, (0, 0)⟩]
 refine JL_val (.bool (!true)) (Ev_not rfl) rfl ?_
 refine JL_val _ (Ev_move rfl) rfl ?_
 refine JL_gval 3 13 false _ _ rfl rfl rfl (Ev_move rfl) rfl ?_
 refine JL_gval 3 13 false _ (.bool (decide (((k:Int)) < (8:Int)))) rfl rfl rfl (Ev_bini rfl rfl fun _ => bin_lss_i _ _) rfl ?_
 refine JL_gval 3 13 false _ _ rfl rfl rfl (Ev_move rfl) rfl ?_
 rcases Bool.eq_false_or_eq_true (decide (((k:Int)) < (8:Int))) with hb1 | hb1
 ·
  have hp1 : ((k:Int)) < (8:Int) := of_decide_eq_true hb1
  refine JL_gval 6 16 true _ _ rfl rfl hb1 (Ev_move rfl) rfl ?_
  refine JL_gval 6 16 true _ _ rfl rfl hb1 (Ev_move rfl) rfl ?_
  refine JL_gval 6 16 true _ (I64 (8*(k:Int))) rfl rfl hb1 (Ev_bini rfl rfl fun _ => bin_mul_i _ _ (8*(k:Int)) (by omega) (by omega)) rfl ?_
  refine JL_gval 6 16 true _ (U64 (nv >>> UInt64.ofNat (8*k))) rfl rfl hb1 (Ev_bini rfl rfl fun _ => bin_shr_u64 nv _ _ (8*k) (by omega) (by omega)) rfl ?_
  refine JL_gval 6 16 true _ (.bool (decide ((nv >>> UInt64.ofNat (8*k)) ≠ (0:UInt64)))) rfl rfl hb1 (Ev_bini rfl rfl fun _ => bin_neq_u64 (nv >>> UInt64.ofNat (8*k)) (0:UInt64)) rfl ?_
  refine JL_gval 3 13 false _ _ rfl rfl rfl (Ev_pickT _ rfl hb1 rfl) rfl ?_
  refine JL_val _ (Ev_pickF _ rfl rfl rfl) rfl ?_
  refine JL_nil ?_
  refine JQ_then ?_
  refine JC_condF _ rfl (decide_eq_false (fun h => h (hx (by omega)))) ?_
  refine JC_skip ?_
  refine JQ_then ?_
  refine JC_seq ?_
  refine JC_seq ?_
  refine JC_region ?_
  refine JL_val _ (Ev_move rfl) rfl ?_
  refine JL_val (I64 ((k:Int) - 1)) (Ev_bini rfl rfl fun _ => bin_sub_i _ _ ((k:Int) - 1) (by omega) (by omega)) rfl ?_
  refine JL_val _ (Ev_assign rfl) rfl ?_
  refine JL_nil ?_
  refine JQ_then ?_
  refine JC_block ?_
  refine JC_loop (ι := Nat × List UInt8 × Nat × List Value × Nat) (fun ⟨q, oq, gq, spq, cpq⟩ => [(0, Ptr wb 0), (1, U64 nv), (6, .pointer none), (7, I64 ((k:Int) - (q:Int) - 1))]) (fun ⟨q, oq, gq, spq, cpq⟩ => [⟨wb, [ev, Slc gq 0 (n + q) cpq], 138, (0, 0)⟩, ⟨gq, cu8 oq ++ spq, 5, (0, 0)⟩]) (fun ⟨q, oq, gq, spq, cpq⟩ => q ≤ k ∧ oq = o ++ numK k nv q ∧ oq.length = (n + q) ∧ spq.length = cpq - ((n + q)) ∧ (n + q) ≤ cpq ∧ cpq ≤ maxLen) (fun ⟨q, oq, gq, spq, cpq⟩ => k - q) (0, o, gb, sp0, cap0) ⟨by omega, by rw [numK_zero, List.append_nil], by omega, by omega, by omega, hcm⟩ (Sub.cons rfl (Sub.cons rfl (Sub.cons rfl (Sub.cons (some_i64 (by omega)) (Sub.nil))))) rfl ?_
  rintro ⟨q, oq, gq, spq, cpq⟩ ⟨hx1, hx2, hoq, hx4, hx5, hx6⟩
  show JC _ _ _ [(0, Ptr wb 0), (1, U64 nv), (6, .pointer none), (7, I64 ((k:Int) - (q:Int) - 1))] [⟨wb, [ev, Slc gq 0 (n + q) cpq], 138, (0, 0)⟩, ⟨gq, cu8 oq ++ spq, 5, (0, 0)⟩]
  refine JC_seq ?_
  refine JC_seq ?_
  refine JC_region ?_
  refine JL_val _ (Ev_move rfl) rfl ?_
  refine JL_val (.bool (decide ((0:Int) ≤ ((k:Int) - (q:Int) - 1)))) (Ev_bini rfl rfl fun _ => bin_geq_i _ _) rfl ?_
  refine JL_nil ?_
  refine JQ_then ?_
  refine JC_cond (decide ((0:Int) ≤ ((k:Int) - (q:Int) - 1))) rfl (fun hb2 => ?_) (fun hb2 => ?_)
  ·
   have hp2 : (0:Int) ≤ ((k:Int) - (q:Int) - 1) := of_decide_eq_true hb2
   refine JC_skip ?_
   refine JQ_then ?_
   refine JC_seq ?_
   refine JC_block ?_
   refine JC_draw 51 4 [(0, Ptr wb 0), (1, Ptr wb 0), (2, Ptr wb 0), (3, Ptr wb 1), (4, Slc gq 0 (n + q) cpq), (5, U64 nv), (6, I64 ((k:Int) - (q:Int) - 1)), (7, I64 (8*(k:Int) - 8*(q:Int) - 8)), (8, U64 (nv >>> UInt64.ofNat (8*k - 8*q - 8))), (9, U8 ((nv >>> UInt64.ofNat (8*k - 8*q - 8)).toUInt8))] Tryd.mixed rfl (by decide +kernel) ?_
   refine DP_one ⟨[], [0, 1, 2, 3, 4, 5, 6, 7, 8, 9], [], [0, 1, 2, 3, 4, 5, 6, 7, 8, 9], [10]⟩ 10 _ rfl rfl (by decide +kernel) rfl ⟨⟨_, rfl, Qok_val rfl (Ev_move rfl)⟩, ⟨_, rfl, Qok_val rfl (Ev_move rfl)⟩, ⟨_, rfl, Qok_val rfl (Ev_nilCheck rfl)⟩, ⟨_, rfl, Qok_val rfl (Ev_fieldAddr 1 22 1 Tryd.underlying138 rfl Tryd.sizeOf22 rfl rfl)⟩, ⟨_, rfl, Qok_val rfl (Ev_load rfl (Ld_one Tryd.isAgg22 (MemAt.ent 0 rfl (Seg.tail (Seg.head)))))⟩, ⟨_, rfl, Qok_val rfl (Ev_move rfl)⟩, ⟨_, rfl, Qok_val rfl (Ev_move rfl)⟩, ⟨_, rfl, Qok_val rfl (Ev_bini rfl rfl fun _ => bin_mul_i _ _ (8*(k:Int) - 8*(q:Int) - 8) (by omega) (by omega))⟩, ⟨_, rfl, Qok_val rfl (Ev_bini rfl rfl fun _ => bin_shr_u64 nv _ _ (8*k - 8*q - 8) (by omega) (by omega))⟩, ⟨_, rfl, Qok_val rfl (Ev_conv _ _ rfl fun _ => conv_u64_u8 (by rw [Tryd.underlying58]; rfl) Tryd.underlying5 _)⟩, trivial⟩ rfl (Cok_step rfl (Step_buildSlice 5 1 _ [(0, U8 ((nv >>> UInt64.ofNat (8*k - 8*q - 8)).toUInt8))] (cu8 ([(nv >>> UInt64.ofNat (8*k - 8*q - 8)).toUInt8])) Tryd.underlying22 Tryd.sizeOf5 Tryd.zeroValue5 rfl rfl rfl (by kernel_rfl))) ?_
   rintro v1 L1 ⟨nb1, hnb1, rfl, rfl⟩
   refine ⟨[], ?_⟩
   show DP _ _ _ _ _ _ _ _ [⟨wb, [ev, Slc gq 0 (n + q) cpq], 138, (0, 0)⟩, ⟨gq, cu8 oq ++ spq, 5, (0, 0)⟩, ⟨nb1, cu8 ([(nv >>> UInt64.ofNat (8*k - 8*q - 8)).toUInt8]), 5, (0, 0)⟩]
   refine DP_one ⟨[10], [0, 1, 2, 3, 4, 5, 6, 7, 8, 9], [5, 6, 7, 8, 9], [0, 1, 2, 3, 4], [11]⟩ 11 _ rfl rfl (by decide +kernel) rfl ⟨⟨_, rfl, Qok_val rfl (Ev_move rfl)⟩, ⟨_, rfl, Qok_val rfl (Ev_move rfl)⟩, ⟨_, rfl, Qok_val rfl (Ev_nilCheck rfl)⟩, ⟨_, rfl, Qok_val rfl (Ev_fieldAddr 1 22 1 Tryd.underlying138 rfl Tryd.sizeOf22 rfl rfl)⟩, ⟨_, rfl, Qok_val rfl (Ev_load rfl (Ld_one Tryd.isAgg22 (MemAt.ent 0 rfl (Seg.tail (Seg.head)))))⟩, trivial⟩ rfl (Cok_step rfl (Step_appM8 22 5 [false, true, false] (Slc gq 0 (n + q) cpq) (n + q) oq ([(nv >>> UInt64.ofNat (8*k - 8*q - 8)).toUInt8]) (some ⟨nb1, 0, none⟩) 1 1 (n + q + 1) Tryd.underlying22 Tryd.info5 rfl (.inr ⟨gq, spq, cpq, rfl, rfl, (by first | exact hoq | simp [hoq]), hx4, (by omega), (by omega)⟩) rfl (by simp) (SrcAt.mem (MemAt.ent 2 rfl (Seg.whole _))) (by omega) (by unfold maxLen; omega) (by omega))) ?_
   rintro v1 L1 ⟨nb2, sp1, cp1, hg1, rfl, rfl, ha1, ha2, ha3, ha4⟩
   refine ⟨[(12, Ptr wb 0), (13, Ptr wb 1)], ?_⟩
   show DP _ _ _ _ _ _ _ _ [⟨wb, [ev, Slc gq 0 (n + q) cpq], 138, (0, 0)⟩, ⟨nb1, cu8 ([(nv >>> UInt64.ofNat (8*k - 8*q - 8)).toUInt8]), 5, (0, 0)⟩, ⟨nb2, cu8 (oq ++ ([(nv >>> UInt64.ofNat (8*k - 8*q - 8)).toUInt8])) ++ sp1, 5, (0, 0)⟩]
   refine DP_one ⟨[10, 11], [0, 1, 2, 3, 4, 5, 6, 7, 8, 9, 12, 13], [1, 2, 3, 4, 5, 6, 7, 8, 9], [0, 12, 13], [14]⟩ 14 _ rfl rfl (by decide +kernel) rfl ⟨⟨_, rfl, Qok_val rfl (Ev_move rfl)⟩, ⟨_, rfl, Qok_val rfl (Ev_nilCheck rfl)⟩, ⟨_, rfl, Qok_val rfl (Ev_fieldAddr 1 22 1 Tryd.underlying138 rfl Tryd.sizeOf22 rfl rfl)⟩, trivial⟩ rfl (Cok_step rfl (Step_store 0 wb 1 1 ([ev, Slc gq 0 (n + q) cpq]) 138 (Slc nb2 0 (n + q + 1) cp1) ([Slc nb2 0 (n + q + 1) cp1]) ([ev, Slc nb2 0 (n + q + 1) cp1]) rfl rfl rfl rfl Tryd.sizeOf22 rfl (by simp [Value.oneCell']) (Nat.le_of_ble_eq_true rfl) (rfl))) ?_
   rintro v1 L1 ⟨rfl, rfl⟩
   refine ⟨[], ?_⟩
   show DP _ _ _ _ _ _ _ _ [⟨wb, [ev, Slc nb2 0 (n + q + 1) cp1], 138, (0, 0)⟩, ⟨nb1, cu8 ([(nv >>> UInt64.ofNat (8*k - 8*q - 8)).toUInt8]), 5, (0, 0)⟩, ⟨nb2, cu8 (oq ++ ([(nv >>> UInt64.ofNat (8*k - 8*q - 8)).toUInt8])) ++ sp1, 5, (0, 0)⟩]
   refine DP_end ⟨[10, 11, 14], [0, 1, 2, 3, 4, 5, 6, 7, 8, 9, 12, 13], [0, 1, 2, 3, 4, 5, 6, 7, 8, 9, 12, 13], [], []⟩ rfl rfl (by decide +kernel) rfl trivial ?_
   refine K_sub (F' := [(36, Ptr wb 0), (37, Ptr wb 0), (38, Ptr wb 0), (39, Ptr wb 1), (40, Slc gq 0 (n + q) cpq), (41, U64 nv), (42, I64 ((k:Int) - (q:Int) - 1)), (43, I64 (8*(k:Int) - 8*(q:Int) - 8)), (44, U64 (nv >>> UInt64.ofNat (8*k - 8*q - 8))), (45, U8 ((nv >>> UInt64.ofNat (8*k - 8*q - 8)).toUInt8)), (46, Slc nb1 0 1 1), (47, Slc nb2 0 (n + q + 1) cp1), (48, Ptr wb 0), (49, Ptr wb 1), (0, Ptr wb 0), (1, U64 nv), (6, .pointer none), (7, I64 ((k:Int) - (q:Int) - 1)), (32, I64 ((k:Int) - (q:Int) - 1)), (33, .bool (decide ((0:Int) ≤ ((k:Int) - (q:Int) - 1))))]) (Sub.cons (by kernel_rfl) (Sub.cons (by kernel_rfl) (Sub.cons (by kernel_rfl) (Sub.cons (by kernel_rfl) (Sub.cons (by kernel_rfl) (Sub.cons (by kernel_rfl) (Sub.cons (by kernel_rfl) (Sub.cons (by kernel_rfl) (Sub.cons (by kernel_rfl) (Sub.cons (by kernel_rfl) (Sub.cons (by kernel_rfl) (Sub.cons (by kernel_rfl) (Sub.cons (by kernel_rfl) (Sub.cons (by kernel_rfl) (Sub.cons (by kernel_rfl) (Sub.cons (by kernel_rfl) (Sub.cons (by kernel_rfl) (Sub.cons (by kernel_rfl) (Sub.cons (by kernel_rfl) (Sub.cons (by kernel_rfl) (Sub.nil))))))))))))))))))))) ?_
   show JQ _ _ _ [(36, Ptr wb 0), (37, Ptr wb 0), (38, Ptr wb 0), (39, Ptr wb 1), (40, Slc gq 0 (n + q) cpq), (41, U64 nv), (42, I64 ((k:Int) - (q:Int) - 1)), (43, I64 (8*(k:Int) - 8*(q:Int) - 8)), (44, U64 (nv >>> UInt64.ofNat (8*k - 8*q - 8))), (45, U8 ((nv >>> UInt64.ofNat (8*k - 8*q - 8)).toUInt8)), (46, Slc nb1 0 1 1), (47, Slc nb2 0 (n + q + 1) cp1), (48, Ptr wb 0), (49, Ptr wb 1), (0, Ptr wb 0), (1, U64 nv), (6, .pointer none), (7, I64 ((k:Int) - (q:Int) - 1)), (32, I64 ((k:Int) - (q:Int) - 1)), (33, .bool (decide ((0:Int) ≤ ((k:Int) - (q:Int) - 1))))] _
   refine JQ_in_normal ?_
   refine JQ_then ?_
   refine JC_region ?_
   refine JL_val _ (Ev_move rfl) rfl ?_
   refine JL_val (I64 ((k:Int) - (q:Int) - 2)) (Ev_bini rfl rfl fun _ => bin_sub_i _ _ ((k:Int) - (q:Int) - 2) (by omega) (by omega)) rfl ?_
   refine JL_val _ (Ev_assign rfl) rfl ?_
   refine JL_nil ?_
   refine JQ_thenK ?_
   refine K_mask [true, false, true] ?_
   show K _ _ [⟨wb, [ev, Slc nb2 0 (n + q + 1) cp1], 138, (0, 0)⟩, ⟨nb2, cu8 (oq ++ ([(nv >>> UInt64.ofNat (8*k - 8*q - 8)).toUInt8])) ++ sp1, 5, (0, 0)⟩] _
   refine K_next (q + 1, oq ++ ([(nv >>> UInt64.ofNat (8*k - 8*q - 8)).toUInt8]), nb2, sp1, cp1) ⟨by omega, by rw [numK_succ, ← List.append_assoc, ← hx2], (ha1).trans (by first | rfl | simp +arith), (ha2).trans (by first | rfl | simp +arith), by omega, ha4⟩ (by first | (simp; omega) | simp) (Sub.cons rfl (Sub.cons rfl (Sub.cons rfl (Sub.cons (some_i64 (by omega)) (Sub.nil))))) rfl
  ·
   have hp2 : ¬ ((0:Int) ≤ ((k:Int) - (q:Int) - 1)) := of_decide_eq_false hb2
   refine JC_exit ?_
   refine JQ_then_exit ?_
   refine JQ_then_exit ?_
   refine JQ_in_same ?_
   refine JQ_then ?_
   refine JC_seq ?_
   refine JC_region ?_
   refine JL_val _ (Ev_move rfl) rfl ?_
   refine JL_val _ (Ev_assign rfl) rfl ?_
   refine JL_nil ?_
   refine JQ_then ?_
   refine JC_ret ?_
   refine JQ_ret (Ptr wb 0) (res1 Tryd.results97 (RV_tmp rfl)) fun w1 hw1 => ?_
   have e1 : q = k := by omega
   rw [hx2, e1] at hw1
   obtain rfl : tot = n + k := by omega
   exact ⟨_, _, rfl, ⟨rfl, gq, spq, cpq, rfl, by omega, by omega, hx6⟩, hw1⟩
 ·
  have hp1 : ¬ (((k:Int)) < (8:Int)) := of_decide_eq_false hb1
  refine JL_gskip 6 16 true _ rfl rfl hb1 rfl ?_
  refine JL_gskip 6 16 true _ rfl rfl hb1 rfl ?_
  refine JL_gskip 6 16 true _ rfl rfl hb1 rfl ?_
  refine JL_gskip 6 16 true _ rfl rfl hb1 rfl ?_
  refine JL_gskip 6 16 true _ rfl rfl hb1 rfl ?_
  refine JL_gval 3 13 false _ _ rfl rfl rfl (Ev_pickF _ rfl hb1 rfl) rfl ?_
  refine JL_val _ (Ev_pickF _ rfl rfl rfl) rfl ?_
  refine JL_nil ?_
  refine JQ_then ?_
  refine JC_condF _ rfl rfl ?_
  refine JC_skip ?_
  refine JQ_then ?_
  refine JC_seq ?_
  refine JC_seq ?_
  refine JC_region ?_
  refine JL_val _ (Ev_move rfl) rfl ?_
  refine JL_val (I64 ((k:Int) - 1)) (Ev_bini rfl rfl fun _ => bin_sub_i _ _ ((k:Int) - 1) (by omega) (by omega)) rfl ?_
  refine JL_val _ (Ev_assign rfl) rfl ?_
  refine JL_nil ?_
  refine JQ_then ?_
  refine JC_block ?_
  refine JC_loop (ι := Nat × List UInt8 × Nat × List Value × Nat) (fun ⟨q, oq, gq, spq, cpq⟩ => [(0, Ptr wb 0), (1, U64 nv), (6, .pointer none), (7, I64 ((k:Int) - (q:Int) - 1))]) (fun ⟨q, oq, gq, spq, cpq⟩ => [⟨wb, [ev, Slc gq 0 (n + q) cpq], 138, (0, 0)⟩, ⟨gq, cu8 oq ++ spq, 5, (0, 0)⟩]) (fun ⟨q, oq, gq, spq, cpq⟩ => q ≤ k ∧ oq = o ++ numK k nv q ∧ oq.length = (n + q) ∧ spq.length = cpq - ((n + q)) ∧ (n + q) ≤ cpq ∧ cpq ≤ maxLen) (fun ⟨q, oq, gq, spq, cpq⟩ => k - q) (0, o, gb, sp0, cap0) ⟨by omega, by rw [numK_zero, List.append_nil], by omega, by omega, by omega, hcm⟩ (Sub.cons rfl (Sub.cons rfl (Sub.cons rfl (Sub.cons (some_i64 (by omega)) (Sub.nil))))) rfl ?_
  rintro ⟨q, oq, gq, spq, cpq⟩ ⟨hx1, hx2, hoq, hx4, hx5, hx6⟩
  show JC _ _ _ [(0, Ptr wb 0), (1, U64 nv), (6, .pointer none), (7, I64 ((k:Int) - (q:Int) - 1))] [⟨wb, [ev, Slc gq 0 (n + q) cpq], 138, (0, 0)⟩, ⟨gq, cu8 oq ++ spq, 5, (0, 0)⟩]
  refine JC_seq ?_
  refine JC_seq ?_
  refine JC_region ?_
  refine JL_val _ (Ev_move rfl) rfl ?_
  refine JL_val (.bool (decide ((0:Int) ≤ ((k:Int) - (q:Int) - 1)))) (Ev_bini rfl rfl fun _ => bin_geq_i _ _) rfl ?_
  refine JL_nil ?_
  refine JQ_then ?_
  refine JC_cond (decide ((0:Int) ≤ ((k:Int) - (q:Int) - 1))) rfl (fun hb3 => ?_) (fun hb3 => ?_)
  ·
   have hp3 : (0:Int) ≤ ((k:Int) - (q:Int) - 1) := of_decide_eq_true hb3
   refine JC_skip ?_
   refine JQ_then ?_
   refine JC_seq ?_
   refine JC_block ?_
   refine JC_draw 51 4 [(0, Ptr wb 0), (1, Ptr wb 0), (2, Ptr wb 0), (3, Ptr wb 1), (4, Slc gq 0 (n + q) cpq), (5, U64 nv), (6, I64 ((k:Int) - (q:Int) - 1)), (7, I64 (8*(k:Int) - 8*(q:Int) - 8)), (8, U64 (nv >>> UInt64.ofNat (8*k - 8*q - 8))), (9, U8 ((nv >>> UInt64.ofNat (8*k - 8*q - 8)).toUInt8))] Tryd.mixed rfl (by decide +kernel) ?_
   refine DP_one ⟨[], [0, 1, 2, 3, 4, 5, 6, 7, 8, 9], [], [0, 1, 2, 3, 4, 5, 6, 7, 8, 9], [10]⟩ 10 _ rfl rfl (by decide +kernel) rfl ⟨⟨_, rfl, Qok_val rfl (Ev_move rfl)⟩, ⟨_, rfl, Qok_val rfl (Ev_move rfl)⟩, ⟨_, rfl, Qok_val rfl (Ev_nilCheck rfl)⟩, ⟨_, rfl, Qok_val rfl (Ev_fieldAddr 1 22 1 Tryd.underlying138 rfl Tryd.sizeOf22 rfl rfl)⟩, ⟨_, rfl, Qok_val rfl (Ev_load rfl (Ld_one Tryd.isAgg22 (MemAt.ent 0 rfl (Seg.tail (Seg.head)))))⟩, ⟨_, rfl, Qok_val rfl (Ev_move rfl)⟩, ⟨_, rfl, Qok_val rfl (Ev_move rfl)⟩, ⟨_, rfl, Qok_val rfl (Ev_bini rfl rfl fun _ => bin_mul_i _ _ (8*(k:Int) - 8*(q:Int) - 8) (by omega) (by omega))⟩, ⟨_, rfl, Qok_val rfl (Ev_bini rfl rfl fun _ => bin_shr_u64 nv _ _ (8*k - 8*q - 8) (by omega) (by omega))⟩, ⟨_, rfl, Qok_val rfl (Ev_conv _ _ rfl fun _ => conv_u64_u8 (by rw [Tryd.underlying58]; rfl) Tryd.underlying5 _)⟩, trivial⟩ rfl (Cok_step rfl (Step_buildSlice 5 1 _ [(0, U8 ((nv >>> UInt64.ofNat (8*k - 8*q - 8)).toUInt8))] (cu8 ([(nv >>> UInt64.ofNat (8*k - 8*q - 8)).toUInt8])) Tryd.underlying22 Tryd.sizeOf5 Tryd.zeroValue5 rfl rfl rfl (by kernel_rfl))) ?_
   rintro v1 L1 ⟨nb3, hnb3, rfl, rfl⟩
   refine ⟨[], ?_⟩
   show DP _ _ _ _ _ _ _ _ [⟨wb, [ev, Slc gq 0 (n + q) cpq], 138, (0, 0)⟩, ⟨gq, cu8 oq ++ spq, 5, (0, 0)⟩, ⟨nb3, cu8 ([(nv >>> UInt64.ofNat (8*k - 8*q - 8)).toUInt8]), 5, (0, 0)⟩]
   refine DP_one ⟨[10], [0, 1, 2, 3, 4, 5, 6, 7, 8, 9], [5, 6, 7, 8, 9], [0, 1, 2, 3, 4], [11]⟩ 11 _ rfl rfl (by decide +kernel) rfl ⟨⟨_, rfl, Qok_val rfl (Ev_move rfl)⟩, ⟨_, rfl, Qok_val rfl (Ev_move rfl)⟩, ⟨_, rfl, Qok_val rfl (Ev_nilCheck rfl)⟩, ⟨_, rfl, Qok_val rfl (Ev_fieldAddr 1 22 1 Tryd.underlying138 rfl Tryd.sizeOf22 rfl rfl)⟩, ⟨_, rfl, Qok_val rfl (Ev_load rfl (Ld_one Tryd.isAgg22 (MemAt.ent 0 rfl (Seg.tail (Seg.head)))))⟩, trivial⟩ rfl (Cok_step rfl (Step_appM8 22 5 [false, true, false] (Slc gq 0 (n + q) cpq) (n + q) oq ([(nv >>> UInt64.ofNat (8*k - 8*q - 8)).toUInt8]) (some ⟨nb3, 0, none⟩) 1 1 (n + q + 1) Tryd.underlying22 Tryd.info5 rfl (.inr ⟨gq, spq, cpq, rfl, rfl, (by first | exact hoq | simp [hoq]), hx4, (by omega), (by omega)⟩) rfl (by simp) (SrcAt.mem (MemAt.ent 2 rfl (Seg.whole _))) (by omega) (by unfold maxLen; omega) (by omega))) ?_
   rintro v1 L1 ⟨nb4, sp2, cp2, hg2, rfl, rfl, ha5, ha6, ha7, ha8⟩
   refine ⟨[(12, Ptr wb 0), (13, Ptr wb 1)], ?_⟩
   show DP _ _ _ _ _ _ _ _ [⟨wb, [ev, Slc gq 0 (n + q) cpq], 138, (0, 0)⟩, ⟨nb3, cu8 ([(nv >>> UInt64.ofNat (8*k - 8*q - 8)).toUInt8]), 5, (0, 0)⟩, ⟨nb4, cu8 (oq ++ ([(nv >>> UInt64.ofNat (8*k - 8*q - 8)).toUInt8])) ++ sp2, 5, (0, 0)⟩]
   refine DP_one ⟨[10, 11], [0, 1, 2, 3, 4, 5, 6, 7, 8, 9, 12, 13], [1, 2, 3, 4, 5, 6, 7, 8, 9], [0, 12, 13], [14]⟩ 14 _ rfl rfl (by decide +kernel) rfl ⟨⟨_, rfl, Qok_val rfl (Ev_move rfl)⟩, ⟨_, rfl, Qok_val rfl (Ev_nilCheck rfl)⟩, ⟨_, rfl, Qok_val rfl (Ev_fieldAddr 1 22 1 Tryd.underlying138 rfl Tryd.sizeOf22 rfl rfl)⟩, trivial⟩ rfl (Cok_step rfl (Step_store 0 wb 1 1 ([ev, Slc gq 0 (n + q) cpq]) 138 (Slc nb4 0 (n + q + 1) cp2) ([Slc nb4 0 (n + q + 1) cp2]) ([ev, Slc nb4 0 (n + q + 1) cp2]) rfl rfl rfl rfl Tryd.sizeOf22 rfl (by simp [Value.oneCell']) (Nat.le_of_ble_eq_true rfl) (rfl))) ?_
   rintro v1 L1 ⟨rfl, rfl⟩
   refine ⟨[], ?_⟩
   show DP _ _ _ _ _ _ _ _ [⟨wb, [ev, Slc nb4 0 (n + q + 1) cp2], 138, (0, 0)⟩, ⟨nb3, cu8 ([(nv >>> UInt64.ofNat (8*k - 8*q - 8)).toUInt8]), 5, (0, 0)⟩, ⟨nb4, cu8 (oq ++ ([(nv >>> UInt64.ofNat (8*k - 8*q - 8)).toUInt8])) ++ sp2, 5, (0, 0)⟩]
   refine DP_end ⟨[10, 11, 14], [0, 1, 2, 3, 4, 5, 6, 7, 8, 9, 12, 13], [0, 1, 2, 3, 4, 5, 6, 7, 8, 9, 12, 13], [], []⟩ rfl rfl (by decide +kernel) rfl trivial ?_
   refine K_sub (F' := [(36, Ptr wb 0), (37, Ptr wb 0), (38, Ptr wb 0), (39, Ptr wb 1), (40, Slc gq 0 (n + q) cpq), (41, U64 nv), (42, I64 ((k:Int) - (q:Int) - 1)), (43, I64 (8*(k:Int) - 8*(q:Int) - 8)), (44, U64 (nv >>> UInt64.ofNat (8*k - 8*q - 8))), (45, U8 ((nv >>> UInt64.ofNat (8*k - 8*q - 8)).toUInt8)), (46, Slc nb3 0 1 1), (47, Slc nb4 0 (n + q + 1) cp2), (48, Ptr wb 0), (49, Ptr wb 1), (0, Ptr wb 0), (1, U64 nv), (6, .pointer none), (7, I64 ((k:Int) - (q:Int) - 1)), (32, I64 ((k:Int) - (q:Int) - 1)), (33, .bool (decide ((0:Int) ≤ ((k:Int) - (q:Int) - 1))))]) (Sub.cons (by kernel_rfl) (Sub.cons (by kernel_rfl) (Sub.cons (by kernel_rfl) (Sub.cons (by kernel_rfl) (Sub.cons (by kernel_rfl) (Sub.cons (by kernel_rfl) (Sub.cons (by kernel_rfl) (Sub.cons (by kernel_rfl) (Sub.cons (by kernel_rfl) (Sub.cons (by kernel_rfl) (Sub.cons (by kernel_rfl) (Sub.cons (by kernel_rfl) (Sub.cons (by kernel_rfl) (Sub.cons (by kernel_rfl) (Sub.cons (by kernel_rfl) (Sub.cons (by kernel_rfl) (Sub.cons (by kernel_rfl) (Sub.cons (by kernel_rfl) (Sub.cons (by kernel_rfl) (Sub.cons (by kernel_rfl) (Sub.nil))))))))))))))))))))) ?_
   show JQ _ _ _ [(36, Ptr wb 0), (37, Ptr wb 0), (38, Ptr wb 0), (39, Ptr wb 1), (40, Slc gq 0 (n + q) cpq), (41, U64 nv), (42, I64 ((k:Int) - (q:Int) - 1)), (43, I64 (8*(k:Int) - 8*(q:Int) - 8)), (44, U64 (nv >>> UInt64.ofNat (8*k - 8*q - 8))), (45, U8 ((nv >>> UInt64.ofNat (8*k - 8*q - 8)).toUInt8)), (46, Slc nb3 0 1 1), (47, Slc nb4 0 (n + q + 1) cp2), (48, Ptr wb 0), (49, Ptr wb 1), (0, Ptr wb 0), (1, U64 nv), (6, .pointer none), (7, I64 ((k:Int) - (q:Int) - 1)), (32, I64 ((k:Int) - (q:Int) - 1)), (33, .bool (decide ((0:Int) ≤ ((k:Int) - (q:Int) - 1))))] _
   refine JQ_in_normal ?_
   refine JQ_then ?_
   refine JC_region ?_
   refine JL_val _ (Ev_move rfl) rfl ?_
   refine JL_val (I64 ((k:Int) - (q:Int) - 2)) (Ev_bini rfl rfl fun _ => bin_sub_i _ _ ((k:Int) - (q:Int) - 2) (by omega) (by omega)) rfl ?_
   refine JL_val _ (Ev_assign rfl) rfl ?_
   refine JL_nil ?_
   refine JQ_thenK ?_
   refine K_mask [true, false, true] ?_
   show K _ _ [⟨wb, [ev, Slc nb4 0 (n + q + 1) cp2], 138, (0, 0)⟩, ⟨nb4, cu8 (oq ++ ([(nv >>> UInt64.ofNat (8*k - 8*q - 8)).toUInt8])) ++ sp2, 5, (0, 0)⟩] _
   refine K_next (q + 1, oq ++ ([(nv >>> UInt64.ofNat (8*k - 8*q - 8)).toUInt8]), nb4, sp2, cp2) ⟨by omega, by rw [numK_succ, ← List.append_assoc, ← hx2], (ha5).trans (by first | rfl | simp +arith), (ha6).trans (by first | rfl | simp +arith), by omega, ha8⟩ (by first | (simp; omega) | simp) (Sub.cons rfl (Sub.cons rfl (Sub.cons rfl (Sub.cons (some_i64 (by omega)) (Sub.nil))))) rfl
  ·
   have hp3 : ¬ ((0:Int) ≤ ((k:Int) - (q:Int) - 1)) := of_decide_eq_false hb3
   refine JC_exit ?_
   refine JQ_then_exit ?_
   refine JQ_then_exit ?_
   refine JQ_in_same ?_
   refine JQ_then ?_
   refine JC_seq ?_
   refine JC_region ?_
   refine JL_val _ (Ev_move rfl) rfl ?_
   refine JL_val _ (Ev_assign rfl) rfl ?_
   refine JL_nil ?_
   refine JQ_then ?_
   refine JC_ret ?_
   refine JQ_ret (Ptr wb 0) (res1 Tryd.results97 (RV_tmp rfl)) fun w1 hw1 => ?_
   have e1 : q = k := by omega
   rw [hx2, e1] at hw1
   obtain rfl : tot = n + k := by omega
   exact ⟨_, _, rfl, ⟨rfl, gq, spq, cpq, rfl, by omega, by omega, hx6⟩, hw1⟩
theorem rawO_c (wb gb n cap0 tot : Nat) (ev : Value) (o : List UInt8) (sp0 : List Value) (ax : Option Addr) (p cx : Nat) (z : List UInt8) (w : World) (h0 : w.heap[wb]? = some (.cells [ev, Slc gb 0 n cap0].toArray 138 (0, 0))) (h1 : w.heap[gb]? = some (.cells (cu8 o ++ sp0).toArray 5 (0, 0))) (hne : wb ≠ gb) (ho : o.length = n) (hsp : sp0.length = cap0 - n) (hca : n ≤ cap0) (hcm : cap0 ≤ maxLen) (hn : n ≤ 1000000000) (hz : z.length = p) (hm : p ≤ 1000000000) (hr : RdB w [wb, gb] ax z) (ht : n + p = tot) : Calls Tryd.prog 106 #[Ptr wb 0, .slice ax p cx] w (Post w [wb, gb] (fun v L => v = Ptr wb 0 ∧ ∃ g sp cap, L = [⟨wb, [ev, Slc g 0 tot cap], 138, (0, 0)⟩, ⟨g, cu8 (o ++ z) ++ sp, 5, (0, 0)⟩] ∧ sp.length = cap - tot ∧ tot ≤ cap ∧ cap ≤ maxLen)) := by
 have hmx : maxLen = 9223372036854775807 := rfl
 refine enter w [wb, gb] 17 [⟨wb, [ev, Slc gb 0 n cap0], 138, (0, 0)⟩, ⟨gb, cu8 o ++ sp0, 5, (0, 0)⟩] [Ptr wb 0, .slice ax p cx] Tryd.func106 rfl rfl (by simp) (Hp.start (by simp; exact ⟨h0, h1⟩) (by simp; exact hne) (by simp)) ?_
 show JC _ _ _ [(0, Ptr wb 0), (1, .slice ax p cx)] _
 refine JC_seq ?_
 refine JC_region ?_
 refine JL_val _ (Ev_assign rfl) rfl ?_
 refine JL_nil ?_
 refine JQ_then ?_
 refine JC_seq ?_
 refine JC_seq ?_
 refine JC_region ?_
 refine JL_val _ (Ev_move rfl) rfl ?_
 refine JL_val (.bool false) (Ev_bin _ _ _ rfl rfl (fun _ => eqGuard_ptr ..) fun _ => eql_ptr_nil Tryd.underlying134) rfl ?_
 refine JL_nil ?_
 refine JQ_then ?_
 refine JC_condF _ rfl rfl ?_
 refine JC_skip ?_
 refine JQ_then ?_
 refine JC_seq ?_
 refine JC_region ?_
 refine JL_val _ (Ev_move rfl) rfl ?_
 refine JL_val _ (Ev_move rfl) rfl ?_
 refine JL_val _ (Ev_nilCheck rfl) rfl ?_
 refine JL_val (Ptr wb 1) (Ev_fieldAddr 1 22 1 Tryd.underlying138 rfl Tryd.sizeOf22 rfl rfl) rfl ?_
 refine JL_val (Slc gb 0 n cap0) (Ev_load rfl (Ld_one Tryd.isAgg22 (MemAt.ent 0 rfl (Seg.tail (Seg.head))))) rfl ?_
 refine JL_val _ (Ev_move rfl) rfl ?_
 refine JL_step (Step_appM8 22 5 [false, true] (Slc gb 0 n cap0) n o z ax p cx (n + p) Tryd.underlying22 Tryd.info5 rfl (.inr ⟨gb, sp0, cap0, rfl, rfl, (by first | exact ho | simp [ho]), hsp, (by omega), (by omega)⟩) rfl (by simp [hz]; try omega) (hr.src) (by omega) (by unfold maxLen; omega) (by omega)) rfl ?_
 rintro v1 L1 ⟨nb1, sp1, cp1, hg1, rfl, rfl, ha1, ha2, ha3, ha4⟩
 show JL _ _ _ _ ((13, Slc nb1 0 (n + p) cp1) :: _) [⟨wb, [ev, Slc gb 0 n cap0], 138, (0, 0)⟩, ⟨nb1, cu8 (o ++ z) ++ sp1, 5, (0, 0)⟩]
 refine JL_val _ (Ev_nilCheck rfl) rfl ?_
 refine JL_val (Ptr wb 1) (Ev_fieldAddr 1 22 1 Tryd.underlying138 rfl Tryd.sizeOf22 rfl rfl) rfl ?_
 refine JL_step (Step_store 0 wb 1 1 ([ev, Slc gb 0 n cap0]) 138 (Slc nb1 0 (n + p) cp1) ([Slc nb1 0 (n + p) cp1]) ([ev, Slc nb1 0 (n + p) cp1]) rfl rfl rfl rfl Tryd.sizeOf22 rfl (by simp [Value.oneCell']) (Nat.le_of_ble_eq_true rfl) (rfl)) rfl ?_
 rintro v1 L1 ⟨rfl, rfl⟩
 show JL _ _ _ _ _ [⟨wb, [ev, Slc nb1 0 (n + p) cp1], 138, (0, 0)⟩, ⟨nb1, cu8 (o ++ z) ++ sp1, 5, (0, 0)⟩]
 refine JL_nil ?_
 refine JQ_then ?_
 refine JC_seq ?_
 refine JC_region ?_
 refine JL_val _ (Ev_move rfl) rfl ?_
 refine JL_val _ (Ev_assign rfl) rfl ?_
 refine JL_nil ?_
 refine JQ_then ?_
 refine JC_ret ?_
 refine JQ_ret (Ptr wb 0) (res1 Tryd.results106 (RV_tmp rfl)) fun w1 hw1 => ?_
 obtain rfl : tot = (n + p) := by omega
 exact ⟨_, _, rfl, ⟨rfl, nb1, sp1, cp1, rfl, ha2, ha3, ha4⟩, hw1⟩
end Go.Proofs.YtncoifiafklkjaaDoor
namespace Go.Proofs.YtncoifiafklkjaaDoor
open Go Go.Sx
set_option linter.unusedVariables false
set_option linter.unusedSimpArgs false
set_option maxRecDepth 100000
attribute [local irreducible] mid zr8 zr32 numK rnK valK
theorem doneO_c (wb e gb n cap0 : Nat) (o : List UInt8) (w : World) (hw : RdA w wb 0 [errV 43 e, Slc gb 0 n cap0]) (he : e = 0) (ho : o.length = n) (hn : n ≤ 2000000000) (hr : RdB w [] (some ⟨gb, 0, none⟩) o) : Calls Tryd.prog 98 #[Ptr wb 0] w (Post w [] (fun v L => ∃ g sp cap, v = .tuple #[Slc g 0 n cap, .nilIface] ∧ L = [⟨g, cu8 o ++ sp, 5, (0, 0)⟩] ∧ sp.length = cap - n ∧ n ≤ cap ∧ cap ≤ maxLen)) := by
 refine enter w [] 25 [] [Ptr wb 0] Tryd.func98 rfl rfl (by simp) (Hp.start (by simp) (by simp) (by simp)) ?_
 show JC _ _ _ [(0, Ptr wb 0)] _
 refine JC_seq ?_
 refine JC_region ?_
 refine JL_val _ (Ev_assign rfl) rfl ?_
 refine JL_val _ (Ev_assign rfl) rfl ?_
 refine JL_nil ?_
 refine JQ_then ?_
 refine JC_seq ?_
 refine JC_block ?_
 refine JC_seq ?_
 refine JC_region ?_
 refine JL_val _ (Ev_move rfl) rfl ?_
 refine JL_val (.bool false) (Ev_bin _ _ _ rfl rfl (fun _ => eqGuard_ptr ..) fun _ => eql_ptr_nil Tryd.underlying134) rfl ?_
 refine JL_val _ (Ev_assign rfl) rfl ?_
 refine JL_nil ?_
 refine JQ_then ?_
 refine JC_condF _ rfl rfl ?_
 refine JC_seq ?_
 refine JC_region ?_
 refine JL_val _ (Ev_move rfl) rfl ?_
 refine JL_val _ (Ev_nilCheck rfl) rfl ?_
 refine JL_val (Ptr wb 0) (Ev_fieldAddr 0 136 1 Tryd.underlying138 rfl Tryd.sizeOf136 rfl rfl) rfl ?_
 refine JL_val (Ptr wb 0) (Ev_fieldAddr 0 39 1 Tryd.underlying136 rfl Tryd.sizeOf39 rfl rfl) rfl ?_
 refine JL_val (errV 43 e) (Ev_load rfl (Ld_one Tryd.isAgg39 (MemAt.seg (hw.mem (by simp)) (Seg.head) (by omega)))) rfl ?_
 refine JL_val (.bool (!(decide (e = 0)))) (Ev_bin _ _ _ rfl rfl (fun _ => eqGuard_errV ..) fun _ => neq_errV Tryd.underlying39 _ _) rfl ?_
 refine JL_val _ (Ev_assign rfl) rfl ?_
 refine JL_nil ?_
 refine JQ_then ?_
 refine JC_condF _ rfl (by rw [show (decide (e = 0)) = true from (decide_eq_true he)]; rfl) ?_
 refine JC_skip ?_
 refine JQ_in_normal ?_
 refine JQ_then ?_
 refine JC_seq ?_
 refine JC_region ?_
 refine JL_val _ (Ev_move rfl) rfl ?_
 refine JL_val _ (Ev_nilCheck rfl) rfl ?_
 refine JL_val (Ptr wb 1) (Ev_fieldAddr 1 22 1 Tryd.underlying138 rfl Tryd.sizeOf22 rfl rfl) rfl ?_
 refine JL_val (.slice (some ⟨gb, 0, none⟩) n cap0) (Ev_load rfl (Ld_one Tryd.isAgg22 (MemAt.seg (hw.mem (by simp)) (Seg.tail (Seg.head)) (by omega)))) rfl ?_
 refine JL_step (Step_callN 84 [.slice (some ⟨gb, 0, none⟩) n cap0] _ (Cl_func [.slice (some ⟨gb, 0, none⟩) n cap0] Tryd.call84 rfl) (fun w1 hw1 => sclone_c (some ⟨gb, 0, none⟩) n cap0 o w1 rfl ho (by omega) (hr.at (M' := []) hw1 (by simp)))) rfl ?_
 rintro v1 L1 ⟨_, ⟨nb1, sp1, cp1, rfl, rfl, hc1, hc2, hc3⟩, rfl⟩
 show JL _ _ _ _ ((24, Slc nb1 0 n cp1) :: _) [⟨nb1, cu8 o ++ sp1, 5, (0, 0)⟩]
 refine JL_val _ (Ev_assign rfl) rfl ?_
 refine JL_val _ (Ev_assign rfl) rfl ?_
 refine JL_nil ?_
 refine JQ_then ?_
 refine JC_ret ?_
 refine JQ_ret (.tuple #[Slc nb1 0 n cp1, .nilIface]) (res2 Tryd.results98 (RV_tmp rfl) (RV_tmp rfl)) fun w1 hw1 => ?_
 exact ⟨_, _, rfl, ⟨nb1, sp1, cp1, rfl, rfl, hc1, hc2, hc3⟩, hw1.sub (by simp) (by simp)⟩
theorem errNo_c  (w : World) : Calls Tryd.prog 64 #[.nilIface] w (Post w [] (fun v L => v = I64 0 ∧ L = [])) := by
 refine enter w [] 18 [] [.nilIface] Tryd.func64 rfl rfl (by simp) (Hp.start (by simp) (by simp) (by simp)) ?_
 show JC _ _ _ [(0, .nilIface)] _
 refine JC_seq ?_
 refine JC_region ?_
 refine JL_val _ (Ev_assign rfl) rfl ?_
 refine JL_nil ?_
 refine JQ_then ?_
 refine JC_seq ?_
 refine JC_seq ?_
 refine JC_region ?_
 refine JL_val _ (Ev_move rfl) rfl ?_
 refine JL_val (.bool true) (Ev_bin _ _ _ rfl rfl (fun _ => eqGuard_nn ..) fun _ => eql_if_nil_nil Tryd.underlying39) rfl ?_
 refine JL_nil ?_
 refine JQ_then ?_
 refine JC_condT _ rfl rfl ?_
 refine JC_seq ?_
 refine JC_region ?_
 refine JL_val _ (Ev_assign rfl) rfl ?_
 refine JL_nil ?_
 refine JQ_then ?_
 refine JC_ret ?_
 refine JQ_then_ret ?_
 refine JQ_ret (I64 (0:Int)) (res1 Tryd.results64 (RV_tmp rfl)) fun w1 hw1 => ?_
 exact ⟨_, [], rfl, ⟨rfl, rfl⟩, hw1.sub (by simp) (by simp)⟩
theorem errSome_c (e : Nat) (w : World) (he : e ≠ 0) : Calls Tryd.prog 64 #[.iface 43 (I64 ((e:Int)))] w (Post w [] (fun v L => v = I64 (e : Int) ∧ L = [])) := by
 refine enter w [] 18 [] [.iface 43 (I64 ((e:Int)))] Tryd.func64 rfl rfl (by simp) (Hp.start (by simp) (by simp) (by simp)) ?_
 show JC _ _ _ [(0, .iface 43 (I64 ((e:Int))))] _
 refine JC_seq ?_
 refine JC_region ?_
 refine JL_val _ (Ev_assign rfl) rfl ?_
 refine JL_nil ?_
 refine JQ_then ?_
 refine JC_seq ?_
 refine JC_seq ?_
 refine JC_region ?_
 refine JL_val _ (Ev_move rfl) rfl ?_
 refine JL_val (.bool false) (Ev_bin _ _ _ rfl rfl (fun _ => eqGuard_if ..) fun _ => eql_if_nil Tryd.underlying39) rfl ?_
 refine JL_nil ?_
 refine JQ_then ?_
 refine JC_condF _ rfl rfl ?_
 refine JC_skip ?_
 refine JQ_then ?_
 refine JC_seq ?_
 refine JC_seq ?_
 refine JC_region ?_
 refine JL_val _ (Ev_move rfl) rfl ?_
 refine JL_val (.tuple #[I64 ((e:Int)), .bool true]) (Ev_assert _ _ rfl (fun _ => by kernel_rfl)) rfl ?_
 refine JL_val _ (Ev_move rfl) rfl ?_
 refine JL_val _ (Ev_extract rfl rfl) rfl ?_
 refine JL_val _ (Ev_extract rfl rfl) rfl ?_
 refine JL_val _ (Ev_assign rfl) rfl ?_
 refine JL_val _ (Ev_assign rfl) rfl ?_
 refine JL_nil ?_
 refine JQ_then ?_
 refine JC_seq ?_
 refine JC_region ?_
 refine JL_val _ (Ev_move rfl) rfl ?_
 refine JL_val _ (Ev_move rfl) rfl ?_
 refine JL_gval 1 13 true _ _ rfl rfl rfl (Ev_move rfl) rfl ?_
 refine JL_gval 1 13 true _ (.bool (decide (((e:Int)) ≠ (0:Int)))) rfl rfl rfl (Ev_bini rfl rfl fun _ => bin_neq_i _ _) rfl ?_
 refine JL_val _ (Ev_pickT _ rfl rfl rfl) rfl ?_
 refine JL_nil ?_
 refine JQ_then ?_
 refine JC_condT _ rfl (decide_eq_true (by omega)) ?_
 refine JC_seq ?_
 refine JC_region ?_
 refine JL_val _ (Ev_move rfl) rfl ?_
 refine JL_val _ (Ev_assign rfl) rfl ?_
 refine JL_nil ?_
 refine JQ_then ?_
 refine JC_ret ?_
 refine JQ_then_ret ?_
 refine JQ_ret (I64 ((e:Int))) (res1 Tryd.results64 (RV_tmp rfl)) fun w1 hw1 => ?_
 exact ⟨_, [], rfl, ⟨rfl, rfl⟩, hw1.sub (by simp) (by simp)⟩
theorem errNum_w (e : Nat) (w : World) : Calls Tryd.prog 64 #[errV 43 e] w (Post w [] (fun v L => v = I64 (e : Int) ∧ L = [])) := by
  by_cases he : e = 0
  · subst he; exact errNo_c w
  · rw [errV_pos he]; exact errSome_c e w he

theorem is_c (e k : Nat) (w : World) : Calls Tryd.prog 33 #[errV 43 e, I64 ((k:Int))] w (Post w [] (fun v L => v = .bool (decide ((e:Int) = (k:Int))) ∧ L = [])) := by
 refine enter w [] 9 [] [errV 43 e, I64 ((k:Int))] Tryd.func33 rfl rfl (by simp) (Hp.start (by simp) (by simp) (by simp)) ?_
 show JC _ _ _ [(0, errV 43 e), (1, I64 ((k:Int)))] _
 refine JC_seq ?_
 refine JC_region ?_
 refine JL_val _ (Ev_assign rfl) rfl ?_
 refine JL_nil ?_
 refine JQ_then ?_
 refine JC_seq ?_
 refine JC_region ?_
 refine JL_val _ (Ev_move rfl) rfl ?_
 refine JL_step (Step_callP 64 [errV 43 e] (I64 ((e:Int))) (Cl_func [errV 43 e] Tryd.call64 rfl) (fun w1 hw1 => errNum_w e w1)) rfl ?_
 rintro v1 L1 ⟨rfl, rfl⟩
 show JL _ _ _ _ ((6, I64 ((e:Int))) :: _) []
 refine JL_val _ (Ev_move rfl) rfl ?_
 refine JL_val (.bool (decide (((e:Int)) = ((k:Int))))) (Ev_bini rfl rfl fun _ => bin_eql_i _ _) rfl ?_
 refine JL_val _ (Ev_assign rfl) rfl ?_
 refine JL_nil ?_
 refine JQ_then ?_
 refine JC_ret ?_
 refine JQ_ret (.bool (decide (((e:Int)) = ((k:Int))))) (res1 Tryd.results33 (RV_tmp rfl)) fun w1 hw1 => ?_
 exact ⟨_, [], rfl, ⟨rfl, rfl⟩, hw1.sub (by simp) (by simp)⟩
end Go.Proofs.YtncoifiafklkjaaDoor
namespace Go.Proofs.YtncoifiafklkjaaDoor
open Go Go.Sx
set_option linter.unusedVariables false
def putL (e : UInt64) (d t : List UInt8) : List UInt8 := (numK 8 e 8 ++ d) ++ t
theorem putL_len {e : UInt64} {d t : List UInt8} (hd : d.length = 32) (ht : t.length = 16) : (putL e d t).length = 56 := by
 unfold putL; rw [List.length_append, List.length_append, numK_len, hd, ht]
theorem shr4z {i : UInt64} (h : ¬ (4294967295:UInt64) < i) : 4 < 8 → i >>> UInt64.ofNat (8*4) = 0 := fun _ => by
 apply UInt64.toNat_inj.1
 rw [shr_divK _ 4 (by omega)]
 have h2 := Nat.le_of_not_lt fun q => h (UInt64.lt_iff_toNat_lt.2 q)
 have h3 : (4294967295:UInt64).toNat = 4294967295 := rfl
 have h4 : (0:UInt64).toNat = 0 := rfl
 rw [h3] at h2; rw [h4]
 omega
end Go.Proofs.YtncoifiafklkjaaDoor
namespace Go.Proofs.YtncoifiafklkjaaDoor
open Go Go.Sx
set_option linter.unusedVariables false
def encK (k : List UInt8) : List UInt8 := mid (macL k ([101, 110, 116, 114, 117, 115, 116, 32, 115, 101, 97, 108] : List UInt8)) 0 16
def tgK (k : List UInt8) : List UInt8 := macL k ([101, 110, 116, 114, 117, 115, 116, 32, 116, 97, 103] : List UInt8)
theorem encK_len (k : List UInt8) : (encK k).length = 16 := mid_len (by rw [macL_len]; omega)
theorem tgK_len (k : List UInt8) : (tgK k).length = 32 := macL_len _ _
def placeT (i e : UInt64) : List UInt8 := numK 4 i 4 ++ numK 8 e 8
theorem placeT_len (i e : UInt64) : (placeT i e).length = 12 := by unfold placeT; rw [List.length_append, numK_len, numK_len]
theorem spl12 {p : List UInt8} (h : p.length = 12) : spl (zr8 16) 0 p = p ++ zr8 4 := by
 unfold spl
 rw [h]
 simp [zr8]
theorem ctr12 {p : List UInt8} (h : p.length = 12) : (p ++ zr8 4).length = 16 := by rw [List.length_append, h, zr8_len]
def turnP (k p b : List UInt8) : List UInt8 := xorN (strT (eBlk (rkL (encK k)) (p ++ zr8 4)) 32) b 32
theorem turnP_len (k b : List UInt8) {p : List UInt8} (h : p.length = 12) : (turnP k p b).length = 32 := by
 unfold turnP; exact (xorN_len _ _ _).trans (strT_len (fun j => eBlk_len (ctr12 h) j) 32)
theorem turnP_twice {k p b : List UInt8} (h : p.length = 12) (hb : b.length = 32) : turnP k p (turnP k p b) = b := by
 unfold turnP; exact xorN_twice (strT_len (fun j => eBlk_len (ctr12 h) j) 32) hb
def tagP (k p d : List UInt8) : List UInt8 := mid (macL (tgK k) (p ++ d)) 0 16
theorem tagP_len (k p d : List UInt8) : (tagP k p d).length = 16 := mid_len (by rw [macL_len]; omega)
def RightB (i e : UInt64) : Bool := decide (i < 4294967296) && (decide (1 ≤ e) && decide (e < 18446744073709551615))
theorem u64_bounds (i e : UInt64) : (i ≤ 4294967295 ↔ i < 4294967296) ∧ (e ≠ 0 ↔ 1 ≤ e) ∧ (e ≠ 18446744073709551615 ↔ e < 18446744073709551615) := by
 have h1 : (4294967295:UInt64).toNat = 4294967295 := rfl
 have h2 : (4294967296:UInt64).toNat = 4294967296 := rfl
 have h3 : (0:UInt64).toNat = 0 := rfl
 have h4 : (1:UInt64).toNat = 1 := rfl
 have h5 : (18446744073709551615:UInt64).toNat = 18446744073709551615 := rfl
 have h6 := e.toNat_lt
 simp only [UInt64.lt_iff_toNat_lt, UInt64.le_iff_toNat_le, ne_eq, ← UInt64.toNat_inj, h1, h2, h3, h4, h5]
 omega
theorem RightB_ref (i e : UInt64) : RightB i e = (decide (i ≤ 4294967295) && (decide (e ≠ 0) && decide (e ≠ 18446744073709551615))) := by
 obtain ⟨h1, h2, h3⟩ := u64_bounds i e
 unfold RightB
 rw [decide_eq_decide.2 h1, decide_eq_decide.2 h2, decide_eq_decide.2 h3]
theorem right_not {i e : UInt64} (h : RightB i e = true) : ¬ (4294967295:UInt64) < i := fun h2 => by
 unfold RightB at h
 simp only [Bool.and_eq_true, decide_eq_true_eq] at h
 exact absurd ((u64_bounds i e).1.2 h.1) (UInt64.not_le.2 h2)
def sealN (i e : UInt64) : Nat := if RightB i e then 0 else 1
def sE (i e : UInt64) : UInt64 := if RightB i e then e else 0
def sD (k : List UInt8) (i e : UInt64) (b : List UInt8) : List UInt8 := if RightB i e then turnP k (placeT i e) b else zr8 32
def sT (k : List UInt8) (i e : UInt64) (b : List UInt8) : List UInt8 := if RightB i e then tagP k (placeT i e) (turnP k (placeT i e) b) else zr8 16
theorem sD_len (k : List UInt8) (i e : UInt64) (b : List UInt8) : (sD k i e b).length = 32 := by
  unfold sD; split
  · exact turnP_len k b (placeT_len i e)
  · exact zr8_len 32
theorem sT_len (k : List UInt8) (i e : UInt64) (b : List UInt8) : (sT k i e b).length = 16 := by
  unfold sT; split
  · exact tagP_len _ _ _
  · exact zr8_len 16
def openN (k : List UInt8) (i e : UInt64) (d t : List UInt8) : Nat := if RightB i e then (if t = tagP k (placeT i e) d then 0 else 4) else 1
def openBk (k : List UInt8) (i e : UInt64) (d t : List UInt8) : List UInt8 := if RightB i e ∧ t = tagP k (placeT i e) d then turnP k (placeT i e) d else zr8 32
theorem openBk_len (k : List UInt8) (i e : UInt64) (d t : List UInt8) : (openBk k i e d t).length = 32 := by
  unfold openBk; split
  · exact turnP_len k d (placeT_len i e)
  · exact zr8_len 32
theorem open_seal {k b : List UInt8} {i e : UInt64} (hb : b.length = 32) (h : RightB i e = true) : openN k i (sE i e) (sD k i e b) (sT k i e b) = 0 ∧ openBk k i (sE i e) (sD k i e b) (sT k i e b) = b := by
 have h1 : sE i e = e := by unfold sE; rw [if_pos h]
 have h2 : sD k i e b = turnP k (placeT i e) b := by unfold sD; rw [if_pos h]
 have h3 : sT k i e b = tagP k (placeT i e) (turnP k (placeT i e) b) := by unfold sT; rw [if_pos h]
 rw [h1, h2, h3]
 unfold openN openBk
 rw [if_pos h, if_pos rfl, if_pos ⟨h, rfl⟩]
 exact ⟨rfl, turnP_twice (placeT_len i e) hb⟩
end Go.Proofs.YtncoifiafklkjaaDoor
namespace Go.Sx
open Go Go.RowKit
open Go.ChangeShapes Go.WideShapes
set_option linter.unusedVariables false
set_option linter.unusedSimpArgs false
section
variable {H : Type} {enc : TypeId × Value → H} {P : Program} {w : World} {base : Nat} {spare : Nat → Bool} {held : Bool} {sz : Bool}
def TD (enc : TypeId × Value → H) (P : Program) (w : World) (base : Nat) (spare : Nat → Bool) (held sz : Bool) (t : TypeId) (cs : List Value) : Prop :=
 ∃ fuel d ps, DataW.trod enc P w base spare held fuel t cs = some (d, ps) ∧ (sz = true → (d.weights P t).all (· ≤ reachBytes) = true)
theorem TD.of {t : TypeId} {v : Value} {d : DataW H} {ps : List MemPlace} (h : DataW.Trod enc P w base spare held t v d ps) (hw : sz = true → (d.weights P t).all (· ≤ reachBytes) = true) : TD enc P w base spare held sz t v.cells.toList := by
 obtain ⟨fuel, hf⟩ := h
 exact ⟨fuel, d, ps, hf, hw⟩
theorem TD.ofN {t : TypeId} {v : Value} {d : DataW H} {ps : List MemPlace} (h : DataW.Trod enc P w base spare held t v d ps) : TD enc P w base spare held false t v.cells.toList := TD.of h (fun h => by cases h)
theorem wEach_get {p : Nat → Bool} : ∀ (ts : List TypeId) (ds : List (DataW H)), (DataW.weightsEach P ts ds).all p = true → ∀ (i : Nat) (t : TypeId) (d : DataW H), ts[i]? = some t → ds[i]? = some d → (d.weights P t).all p = true
 | [], _, _, i, t, d, h, _ => by simp at h
 | t0 :: ts, [], _, i, t, d, _, h => by simp at h
 | t0 :: ts, d0 :: ds, h, i, t, d, ht, hd => by
  rw [DataW.weightsEach, List.all_append, Bool.and_eq_true] at h
  cases i with
  | zero => simp at ht hd; subst ht; subst hd; exact h.1
  | succ i => exact wEach_get ts ds h.2 i t d (by simpa using ht) (by simpa using hd)
theorem wAll_get {p : Nat → Bool} {e : TypeId} : ∀ (ds : List (DataW H)), (DataW.weightsAll P e ds).all p = true → ∀ (i : Nat) (d : DataW H), ds[i]? = some d → (d.weights P e).all p = true
 | [], _, i, d, h => by simp at h
 | d0 :: ds, h, i, d, hd => by
  rw [DataW.weightsAll, List.all_append, Bool.and_eq_true] at h
  cases i with
  | zero => simp at hd; subst hd; exact h.1
  | succ i => exact wAll_get ds h.2 i d (by simpa using hd)
variable {t : TypeId} {cs : List Value}
theorem TD.alen {n e : Nat} (ht : P.underlying t = some (.array n e)) (h : TD enc P w base spare held sz t cs) : cs.length = P.cellsOf t := by
 obtain ⟨fuel, d, ps, h, hw⟩ := h
 obtain ⟨xs, m, _, hx, hl, hlen, hf⟩ := DataW.trod_array ht h
 exact hl
theorem TD.field {fs : Array Field} (i o ft s : Nat) (ht : P.underlying t = some (.struct fs)) (hi : (fs[i]?).map (fun f => (f.offset, f.type)) = some (o, ft)) (hs : P.cellsOf ft = s) (h : TD enc P w base spare held sz t cs) :
  TD enc P w base spare held sz ft ((cs.drop o).take s) := by
 obtain ⟨fuel, d, ps, h, hw⟩ := h
 obtain ⟨xs, n, _, hx, hl, hlen, hf⟩ := DataW.trod_struct ht h
 obtain ⟨f, hfi, hfo⟩ := Option.map_eq_some_iff.1 hi
 simp only [Prod.mk.injEq] at hfo
 obtain ⟨rfl, rfl⟩ := hfo
 subst hs
 have hlt : i < xs.length := by rw [hlen]; exact (Array.getElem?_eq_some_iff.1 hfi).1
 have hk := hf i f hfi
 rw [List.getElem?_eq_getElem hlt] at hk
 refine ⟨n, _, _, hk, fun hz => ?_⟩
 have hw := hw hz
 simp only [Prod.mk.injEq] at hx
 rw [hx.1, DataW.weights, ht] at hw
 exact wEach_get _ _ hw i f.type _ (by simp [hfi]) (by simp [hlt])
theorem TD.elem {n e : Nat} (i o s : Nat) (ht : P.underlying t = some (.array n e)) (hi : i < n) (hs : P.cellsOf e = s) (ho : o = i * s) (h : TD enc P w base spare held sz t cs) :
  TD enc P w base spare held sz e ((cs.drop o).take s) := by
 obtain ⟨fuel, d, ps, h, hw⟩ := h
 obtain ⟨xs, m, _, hx, hl, hlen, hf⟩ := DataW.trod_array ht h
 subst ho; subst hs
 have hlt : i < xs.length := by rw [hlen]; exact hi
 have hk := hf i hi
 rw [List.getElem?_eq_getElem hlt] at hk
 refine ⟨m, _, _, hk, fun hz => ?_⟩
 have hw := hw hz
 simp only [Prod.mk.injEq] at hx
 rw [hx.1, DataW.weights, ht] at hw
 exact wAll_get _ hw i _ (by simp [hlt])
theorem TD.u8 (ht : P.underlying t = some (.int .u8)) (h : TD enc P w base spare held sz t cs) : ∃ a : UInt8, cs = [U8 a] := by
 obtain ⟨fuel, d, ps, h, hw⟩ := h
 obtain ⟨n, rfl, _, hn⟩ := DataW.trod_int ht h
 obtain ⟨u, rfl⟩ := wf_u8 hn
 exact ⟨u, rfl⟩
theorem TD.u32 (ht : P.underlying t = some (.int .u32)) (h : TD enc P w base spare held sz t cs) : ∃ a : UInt32, cs = [U32 a] := by
 obtain ⟨fuel, d, ps, h, hw⟩ := h
 obtain ⟨n, rfl, _, hn⟩ := DataW.trod_int ht h
 obtain ⟨u, rfl⟩ := wf_u32 hn
 exact ⟨u, rfl⟩
theorem TD.u64 (ht : P.underlying t = some (.int .u64)) (h : TD enc P w base spare held sz t cs) : ∃ a : UInt64, cs = [U64 a] := by
 obtain ⟨fuel, d, ps, h, hw⟩ := h
 obtain ⟨n, rfl, _, hn⟩ := DataW.trod_int ht h
 obtain ⟨u, rfl⟩ := wf_u64 hn
 exact ⟨u, rfl⟩
theorem TD.i64 (ht : P.underlying t = some (.int .i64)) (h : TD enc P w base spare held sz t cs) : ∃ a : Int, cs = [I64 a] ∧ (-9223372036854775808 ≤ a ∧ a ≤ 9223372036854775807) := by
 obtain ⟨fuel, d, ps, h, hw⟩ := h
 obtain ⟨n, rfl, _, hn⟩ := DataW.trod_int ht h
 exact ⟨n, rfl, bounds_i64 hn⟩
theorem TD.bool (ht : P.underlying t = some .bool) (h : TD enc P w base spare held sz t cs) : ∃ a : Bool, cs = [.bool a] := by
 obtain ⟨fuel, d, ps, h, hw⟩ := h
 obtain ⟨b, rfl, _⟩ := DataW.trod_bool ht h
 exact ⟨b, rfl⟩
theorem TD.arr8 {n e : Nat} (ht : P.underlying t = some (.array n e)) (he : P.underlying e = some (.int .u8)) (hc : P.cellsOf e = 1) (hT : P.cellsOf t = n) (h : TD enc P w base spare held sz t cs) : ∃ l : List UInt8, cs = cu8 l ∧ l.length = n := by
 have hl := TD.alen ht h
 obtain ⟨l, rfl⟩ := all_u8 cs (fun i hi => by
  obtain ⟨u, hu⟩ := TD.u8 he (TD.elem i i 1 ht (by omega) hc (by omega) h)
  refine ⟨u, ?_⟩
  have h0 : ((cs.drop i).take 1)[0]? = some (U8 u) := by rw [hu]; rfl
  rw [List.getElem?_take, if_pos (by omega), List.getElem?_drop] at h0
  simpa using h0)
 exact ⟨l, rfl, by rw [← hT, ← hl]; simp⟩
theorem cat0 {a : List Value} {s : Nat} (h : (cs.drop 0).take s = a) : cs.take s = a := h
theorem cat_step {a b : List Value} {o s o' : Nat} (h : cs.take o = a) (h1 : (cs.drop o).take s = b) (ho : o' = o + s) : cs.take o' = a ++ b := by
 subst ho; rw [List.take_add, h, h1]
theorem cat_end {a : List Value} {o : Nat} (h : cs.take o = a) (hl : cs.length = o) : cs = a := by
 rw [← h, ← hl, List.take_length]
theorem agg_ofA {v : Value} {cs : List Value} {r : Reach} {b0 n e : Nat} (ht : P.underlying t = some (.array n e)) (hval : Value.okWide P w r b0 t v) (h : v.cells.toList = cs) : v = .agg cs.toArray := by
 simp only [Value.okWide, ht] at hval
 obtain ⟨xs, rfl, _⟩ := hval
 have : (Value.agg xs).cells = xs := rfl
 rw [this] at h
 rw [← h]
end
end Go.Sx
namespace Go.Sx
open Go Go.RowKit
set_option linter.unusedVariables false
set_option linter.unusedSimpArgs false
section
variable {P : Program}
def PartV (P : Program) (t : TypeId) (cs : List Value) (off : Nat) (u : Value) : Prop := ∀ w, (part t cs.toArray off).run P w = .ok u w
theorem PartV.one {t : TypeId} {cs : List Value} {off : Nat} {v : Value} (hA : ∀ w, (isAgg t).run P w = .ok false w) (h : Seg cs off [v]) : PartV P t cs off v := fun w => by
 have h0 : cs[off]? = some v := by simpa using h 0 v rfl
 simp [part, hA w, h0]
theorem PartV.agg {t : TypeId} {cs vs : List Value} {off n : Nat} (hA : ∀ w, (isAgg t).run P w = .ok true w) (hS : ∀ w, (sizeOf t).run P w = .ok n w) (h : (cs.drop off).take n = vs) : PartV P t cs off (.agg vs.toArray) := fun w => by
 simp [part, hA w, hS w, ← h]
def EqV (P : Program) (d : Nat) (t : TypeId) (u v : Value) (b : Bool) : Prop := ∀ w, (Op.equalIn d t u v).run P w = .ok b w
theorem EqV.u64 {d : Nat} {t : TypeId} (he : P.underlying t = some (.int .u64)) (a b : UInt64) : EqV P (d + 1) t (U64 a) (U64 b) (decide (a = b)) := fun w => by
 have pe := run_equalIn_int (P := P) w d t .u64 .u64 a.toNat b.toNat he
 have e1 : ((a.toNat : Int) == (b.toNat : Int)) = decide (a = b) := by rw [Bool.eq_iff_iff]; simp [← UInt64.toNat_inj]; omega
 rw [e1] at pe
 simpa using pe
theorem EqV.u8 {d : Nat} {t : TypeId} (he : P.underlying t = some (.int .u8)) (a b : UInt8) : EqV P (d + 1) t (U8 a) (U8 b) (decide (a = b)) := fun w => by
 have pe := run_equalIn_int (P := P) w d t .u8 .u8 a.toNat b.toNat he
 have e1 : ((a.toNat : Int) == (b.toNat : Int)) = decide (a = b) := by rw [Bool.eq_iff_iff]; simp [← UInt8.toNat_inj]; omega
 rw [e1] at pe
 simpa using pe
theorem EqV.i64 {d : Nat} {t : TypeId} (he : P.underlying t = some (.int .i64)) (a b : Int) : EqV P (d + 1) t (I64 a) (I64 b) (decide (a = b)) := fun w => by
 have pe := run_equalIn_int (P := P) w d t .i64 .i64 a b he
 have e1 : (a == b) = decide (a = b) := rfl
 rw [e1] at pe
 simpa using pe
theorem EqV.bool {d : Nat} {t : TypeId} (he : P.underlying t = some .bool) (a b : Bool) : EqV P (d + 1) t (.bool a) (.bool b) (a == b) := fun w => by
 simp [Op.equalIn, run_underlying he]
theorem EqV.arr8 {d : Nat} {T e : TypeId} {n : Nat} (hu : P.underlying T = some (.array n e)) (he : P.underlying e = some (.int .u8)) (hA : ∀ w, (isAgg e).run P w = .ok false w) (hc : P.cellsOf e = 1) (hi : (P.info? e).isSome = true) {a b : List UInt8} (ha : a.length = n) (hb : b.length = n) :
  EqV P (d + 2) T (.agg (cu8 a).toArray) (.agg (cu8 b).toArray) (decide (a = b)) := fun w => equalIn_arr8 d hu he hA hc hi ha hb
inductive EqRs (P : Program) (d : Nat) (xs ys : List Value) : List (TypeId × Nat) → Bool → Prop
 | last (t o : Nat) (u v : Value) (b : Bool) : PartV P t xs o u → PartV P t ys o v → EqV P d t u v b → EqRs P d xs ys [(t, o)] b
 | cons (t o : Nat) (u v : Value) (b : Bool) (r : List (TypeId × Nat)) (c : Bool) : PartV P t xs o u → PartV P t ys o v → EqV P d t u v b → EqRs P d xs ys r c → EqRs P d xs ys ((t, o) :: r) (b && c)
theorem EqRs.run {d : Nat} {xs ys : List Value} {r : List (TypeId × Nat)} {b : Bool} (h : EqRs P d xs ys r b) : ∀ (fs : List Field), fs.map (fun f => (decide (f.name ≠ "_"), f.type, f.offset)) = r.map (fun x => (true, x.1, x.2)) →
    ∀ w, (Op.eqFields d xs.toArray ys.toArray fs).run P w = .ok b w := by
  induction h with
  | last t o u v b hx hy he =>
    intro fs hf w
    obtain ⟨f, rfl⟩ : ∃ f, fs = [f] := by
      cases fs with
      | nil => simp at hf
      | cons f r => cases r with
        | nil => exact ⟨f, rfl⟩
        | cons g r => simp at hf
    · simp only [List.map_cons, List.map_nil, List.cons.injEq, Prod.mk.injEq, and_true, decide_eq_true_eq] at hf
      obtain ⟨h1, h2, h3⟩ := hf
      rw [Op.eqFields, if_pos h1, h2, h3]
      simp only [Sem.run_bind, hx w, hy w, he w, Result.andThen_ok, Op.eqFields]
      cases b <;> simp
  | cons t o u v b r c hx hy he hr ih =>
    intro fs hf w
    cases fs with
    | nil => simp at hf
    | cons f fs =>
      simp only [List.map_cons, List.cons.injEq, Prod.mk.injEq, decide_eq_true_eq] at hf
      obtain ⟨⟨h1, h2, h3⟩, h4⟩ := hf
      rw [Op.eqFields, if_pos h1, h2, h3]
      simp only [Sem.run_bind, hx w, hy w, he w, Result.andThen_ok]
      cases b with
      | false => simp
      | true => simpa using ih fs h4 w
theorem EqV.struct {d : Nat} {t : TypeId} {xs ys : List Value} {r : List (TypeId × Nat)} {b : Bool} (hu : P.underlying t = some (.struct (P.fieldsOf t))) (hp : P.stoodInHeld t = false)
  (hr : (P.fieldsOf t).toList.map (fun f => (decide (f.name ≠ "_"), f.type, f.offset)) = r.map (fun x => (true, x.1, x.2))) (h : EqRs P d xs ys r b) : EqV P (d + 1) t (.agg xs.toArray) (.agg ys.toArray) b := fun w => by
 rw [run_equalIn_struct w d t _ _ hu hp]
 exact h.run _ hr w
theorem eql_struct {t : TypeId} {x y : Array Value} {b : Bool} (p : Prop) [Decidable p] (h : EqV P 10000 t (.agg x) (.agg y) b) (hb : b = decide p) : ∀ w, (binOp .eql t (.agg x) (.agg y)).run P w = .ok (.bool (decide p)) w := fun w => by
 subst hb
 exact eql_of (by simp [binOp]) (h w)
theorem dt_dt {cs : List Value} {a n b m o : Nat} (hb : b + m ≤ n) (ho : o = a + b) : ((((cs.drop a).take n).drop b).take m) = (cs.drop o).take m := by
 subst ho
 rw [List.drop_take, List.take_take, List.drop_drop, Nat.min_eq_left (by omega)]
theorem TD.sub {H : Type} {enc : TypeId × Value → H} {w : World} {base : Nat} {spare : Nat → Bool} {held sz : Bool} {t : TypeId} {cs : List Value} {a n b m o : Nat} (h : TD enc P w base spare held sz t ((((cs.drop a).take n).drop b).take m)) (hb : b + m ≤ n) (ho : o = a + b) :
  TD enc P w base spare held sz t ((cs.drop o).take m) := by rw [← dt_dt hb ho]; exact h
theorem Seg.split {cs p q vs : List Value} {off : Nat} (h : cs = p ++ (vs ++ q)) (hn : p.length = off) : Seg cs off vs := Seg.sub (p := p) (q := q) (o := 0) hn (by omega) (by rw [h, List.append_assoc]; exact Seg.whole _)
theorem fill_start {place : Nat → Option (Nat × Nat)} {i : Nat} {v : Value} {rest : List (Nat × Value)} (z post c : List Value) (hc : v.cells = c.toArray) (hp : place i = some (0, z.length)) (hl : c.length = z.length) :
  Instr.fill place (z ++ post).toArray ((i, v) :: rest) = Instr.fill place (c ++ post).toArray rest := fill_step [] z post c hc hp hl
theorem run_build_structL {w : World} {T : TypeId} {fields : Array Field} {Z : List Value} {places : Array (Nat × Nat)} {pv : Array (Nat × Value)} {cs : List Value} (hz : ∀ w, (zeroValue T).run P w = .ok (.agg Z.toArray) w) (hu : P.underlying T = some (.struct fields))
  (hp : ∀ w, (fields.mapM fun f => do pure (f.offset, ← sizeOf f.type) : Sem (Array (Nat × Nat))).run P w = .ok places w) (hf : Instr.fill (places[·]?) Z.toArray pv.toList = some cs.toArray) : (Instr.build T pv).run P w = .ok (.agg cs.toArray) w := run_build_struct hz hu hp hf
theorem fill_skip {place : Nat → Option (Nat × Nat)} {rest : List (Nat × Value)} (pre z post : List Value) : Instr.fill place (pre ++ (z ++ post)).toArray rest = Instr.fill place ((pre ++ z) ++ post).toArray rest := by rw [List.append_assoc]
theorem one_app {a b : List Value} (ha : ∀ u ∈ a, u.oneCell' = true) (hb : ∀ u ∈ b, u.oneCell' = true) : ∀ u ∈ a ++ b, u.oneCell' = true := fun u hu => (List.mem_append.1 hu).elim (ha u) (hb u)
end
section
variable {C : Cx} {F : Frm} {L : List Ent}
end
end Go.Sx
namespace Go.Proofs.YtncoifiafklkjaaDoor
open Go Go.Sx
set_option linter.unusedVariables false
set_option linter.unusedSimpArgs false
set_option maxRecDepth 100000
attribute [local irreducible] mid zr8 zr32 numK rnK valK rotr wordL spreadL comprL cpN adN spN wrdN constL initL padL stN outN routN sumG putL blkL xbN raN macL encL rkL thereL backL nextL strT xorN eBlk encK tgK placeT turnP tagP RightB sealN sE sD sT openN openBk
theorem rnumber_c (nv : UInt64) (k : Nat) (w : World) (hk : k ≤ 8) : Calls Tryd.prog 55 #[U64 nv, I64 ((k:Int))] w (Post w [] (fun v L => ∃ g, v = Slc g 0 k k ∧ L = [⟨g, cu8 (numK k nv k), 5, (0, 0)⟩])) := by
 have hmx : maxLen = 9223372036854775807 := rfl
 refine enter w [] 24 [] [U64 nv, I64 ((k:Int))] Tryd.func55 rfl rfl (by simp) (Hp.start (by simp) (by simp) (by simp)) ?_
 show JC _ _ _ [(0, U64 nv), (1, I64 ((k:Int)))] _
 refine JC_seq ?_
 refine JC_region ?_
 refine JL_val _ (Ev_assign rfl) rfl ?_
 refine JL_nil ?_
 refine JQ_then ?_
 refine JC_seq ?_
 refine JC_region ?_
 refine JL_val _ (Ev_move rfl) rfl ?_
 refine JL_step (Step_make8 5 1 k k Tryd.underlying22 Tryd.info5 rfl rfl (by omega) (by omega) (by unfold maxLen; omega)) rfl ?_
 rintro v1 L1 ⟨nb1, hnb1, rfl, rfl⟩
 show JL _ _ _ _ ((8, Slc nb1 0 k k) :: _) [⟨nb1, cu8 (zr8 k), 5, (0, 0)⟩]
 refine JL_val _ (Ev_assign rfl) rfl ?_
 refine JL_nil ?_
 refine JQ_then ?_
 refine JC_seq ?_
 refine JC_seq ?_
 refine JC_region ?_
 refine JL_val _ (Ev_move rfl) rfl ?_
 refine JL_val (I64 ((k:Int) - 1)) (Ev_bini rfl rfl fun _ => bin_sub_i _ _ ((k:Int) - 1) (by omega) (by omega)) rfl ?_
 refine JL_val _ (Ev_assign rfl) rfl ?_
 refine JL_nil ?_
 refine JQ_then ?_
 refine JC_block ?_
 refine JC_loop (ι := Nat × List UInt8 × UInt64) (fun ⟨j, o, y⟩ => [(4, .slice none 0 0), (5, Slc nb1 0 k k), (6, I64 (-(j:Int) + (k:Int) - 1)), (0, U64 y)]) (fun ⟨j, o, y⟩ => [⟨nb1, cu8 o, 5, (0, 0)⟩]) (fun ⟨j, o, y⟩ => j ≤ k ∧ o = (rnK k nv j).1 ∧ y = (rnK k nv j).2 ∧ o.length = k) (fun ⟨j, o, y⟩ => k - j) (0, zr8 k, nv) ⟨by omega, by rw [rnK], by rw [rnK], zr8_len k⟩ (Sub.cons rfl (Sub.cons rfl (Sub.cons (some_i64 (by omega)) (Sub.cons rfl (Sub.nil))))) rfl ?_
 rintro ⟨j, o, y⟩ ⟨hx1, hx2, hx3, ho⟩
 show JC _ _ _ [(4, .slice none 0 0), (5, Slc nb1 0 k k), (6, I64 (-(j:Int) + (k:Int) - 1)), (0, U64 y)] [⟨nb1, cu8 o, 5, (0, 0)⟩]
 refine JC_seq ?_
 refine JC_seq ?_
 refine JC_region ?_
 refine JL_val _ (Ev_move rfl) rfl ?_
 refine JL_val (.bool (decide ((0:Int) ≤ (-(j:Int) + (k:Int) - 1)))) (Ev_bini rfl rfl fun _ => bin_geq_i _ _) rfl ?_
 refine JL_nil ?_
 refine JQ_then ?_
 refine JC_cond (decide ((0:Int) ≤ (-(j:Int) + (k:Int) - 1))) rfl (fun hb1 => ?_) (fun hb1 => ?_)
 ·
  have hp1 : (0:Int) ≤ (-(j:Int) + (k:Int) - 1) := of_decide_eq_true hb1
  refine JC_skip ?_
  refine JQ_then ?_
  refine JC_seq ?_
  refine JC_block ?_
  refine JC_seq ?_
  refine JC_region ?_
  refine JL_val _ (Ev_move rfl) rfl ?_
  refine JL_val _ (Ev_move rfl) rfl ?_
  refine JL_val _ (Ev_move rfl) rfl ?_
  refine JL_val (U64 (y % (256:UInt64))) (Ev_bini rfl rfl fun _ => bin_rem_u64 y (256:UInt64) (by decide)) rfl ?_
  refine JL_val (U8 ((y % (256:UInt64)).toUInt8)) (Ev_conv _ _ rfl fun _ => conv_u64_u8 (by rw [Tryd.underlying58]; rfl) Tryd.underlying5 _) rfl ?_
  refine JL_val (Ptr nb1 (k - j - 1)) (Ev_indexSl 5 1 (k - j - 1) Tryd.underlying22 Tryd.sizeOf5 rfl rfl (by omega) (by omega) (by omega)) rfl ?_
  have hl1 : (o.set (k - j - 1) ((y % (256:UInt64)).toUInt8)).length = k := by first | (rw [List.length_set]; exact ho) | simp [ho]
  refine JL_step (Step_store 0 nb1 (k - j - 1) 1 (cu8 o) 5 (U8 ((y % (256:UInt64)).toUInt8)) ([U8 ((y % (256:UInt64)).toUInt8)]) (cu8 (o.set (k - j - 1) ((y % (256:UInt64)).toUInt8))) rfl rfl rfl rfl Tryd.sizeOf5 rfl (by simp [Value.oneCell']) (by simp [ho]; try omega) (lay8 _ _ _ (by rw [ho]; omega))) rfl ?_
  rintro v1 L1 ⟨rfl, rfl⟩
  show JL _ _ _ _ _ [⟨nb1, cu8 (o.set (k - j - 1) ((y % (256:UInt64)).toUInt8)), 5, (0, 0)⟩]
  refine JL_nil ?_
  refine JQ_then ?_
  refine JC_region ?_
  refine JL_val _ (Ev_move rfl) rfl ?_
  refine JL_val (U64 (y / (256:UInt64))) (Ev_bini rfl rfl fun _ => bin_quo_u64 y (256:UInt64) (by decide)) rfl ?_
  refine JL_val _ (Ev_assign rfl) rfl ?_
  refine JL_nil ?_
  refine JQ_in_normal ?_
  refine JQ_then ?_
  refine JC_region ?_
  refine JL_val _ (Ev_move rfl) rfl ?_
  refine JL_val (I64 (-(j:Int) + (k:Int) - 2)) (Ev_bini rfl rfl fun _ => bin_sub_i _ _ (-(j:Int) + (k:Int) - 2) (by omega) (by omega)) rfl ?_
  refine JL_val _ (Ev_assign rfl) rfl ?_
  refine JL_nil ?_
  refine JQ_thenK ?_
  refine K_next (j + 1, o.set (k - j - 1) ((y % (256:UInt64)).toUInt8), y / (256:UInt64)) ⟨by omega, by rw [rnK, ← hx2, ← hx3], by rw [rnK, ← hx3], hl1⟩ (by first | (simp; omega) | simp | (dsimp only; omega) | omega) (Sub.cons rfl (Sub.cons rfl (Sub.cons (some_i64 (by omega)) (Sub.cons rfl (Sub.nil))))) rfl
 ·
  have hp1 : ¬ ((0:Int) ≤ (-(j:Int) + (k:Int) - 1)) := of_decide_eq_false hb1
  refine JC_exit ?_
  refine JQ_then_exit ?_
  refine JQ_then_exit ?_
  refine JQ_in_same ?_
  refine JQ_then ?_
  refine JC_seq ?_
  refine JC_region ?_
  refine JL_val _ (Ev_move rfl) rfl ?_
  refine JL_val _ (Ev_assign rfl) rfl ?_
  refine JL_nil ?_
  refine JQ_then ?_
  refine JC_ret ?_
  refine JQ_ret (Slc nb1 0 k k) (res1 Tryd.results55 (RV_tmp rfl)) fun w1 hw1 => ?_
  have e1 : j = k := by omega
  rw [hx2, e1, rnK_num k nv hk] at hw1
  exact ⟨_, _, rfl, ⟨_, rfl, rfl⟩, hw1.sub (by simp) (by simp)⟩
theorem put7_c (e : UInt64) (d t : List UInt8) (w : World) (hd : d.length = 32) (ht : t.length = 16) : Calls Tryd.prog 67 #[.agg (List.toArray (α := Value) ([U64 e] ++ cu8 d ++ cu8 t))] w (Post w [] (fun v L => ∃ g sp cap, v = Slc g 0 56 cap ∧ L = [⟨g, cu8 (putL e d t) ++ sp, 5, (0, 0)⟩] ∧ sp.length = cap - 56 ∧ 56 ≤ cap ∧ cap ≤ maxLen)) := by
 have hmx : maxLen = 9223372036854775807 := rfl
 refine enter (P := Tryd.prog) (f := 67) (fn := Tryd.f67) w [] 25 [] [.agg (List.toArray (α := Value) ([U64 e] ++ cu8 d ++ cu8 t))] Tryd.func67 rfl rfl (by simp) (Hp.start (by simp) (by simp) (by simp)) ?_
 show JC _ _ _ [(0, .agg (List.toArray (α := Value) ([U64 e] ++ cu8 d ++ cu8 t)))] _
 refine JC_seq ?_
 refine JC_region ?_
 refine JL_step (Step_box (.agg (List.toArray (α := Value) ([U64 e] ++ cu8 d ++ cu8 t))) ([U64 e] ++ cu8 d ++ cu8 t) rfl (by first | rfl | simp)) rfl ?_
 rintro v1 L1 ⟨nb1, hnb1, rfl, rfl⟩
 show JL _ _ _ _ ((1, Ptr nb1 0) :: _) [⟨nb1, [U64 e] ++ cu8 d ++ cu8 t, 76, (0, 0)⟩]
 refine JL_val _ (Ev_assign rfl) rfl ?_
 refine JL_nil ?_
 refine JQ_then ?_
 refine JC_seq ?_
 refine JC_region ?_
 refine JL_val (.agg (List.toArray (α := Value) ([.nilIface, .slice none 0 0]))) (Ev_build [] _ rfl (fun _ => by kernel_rfl)) rfl ?_
 refine JL_step (Step_box (.agg (List.toArray (α := Value) ([.nilIface, .slice none 0 0]))) ([.nilIface, .slice none 0 0]) rfl (by first | rfl | simp)) rfl ?_
 rintro v1 L1 ⟨nb2, hnb2, rfl, rfl⟩
 show JL _ _ _ _ ((7, Ptr nb2 0) :: _) [⟨nb1, [U64 e] ++ cu8 d ++ cu8 t, 76, (0, 0)⟩, ⟨nb2, [.nilIface, .slice none 0 0], 138, (0, 0)⟩]
 refine JL_val _ (Ev_assign rfl) rfl ?_
 refine JL_nil ?_
 refine JQ_then ?_
 refine JC_seq ?_
 refine JC_draw 25 5 [(0, Ptr nb2 0), (1, Ptr nb1 0), (2, U64 e), (4, Ptr nb1 1), (5, Slc nb1 1 32 32), (7, Ptr nb1 33), (8, Slc nb1 33 16 16)] Tryd.mixed rfl (by decide +kernel) ?_
 refine DP_one ⟨[], [0, 1, 2, 4, 5, 7, 8], [], [0, 1, 2, 4, 5, 7, 8], [3]⟩ 3 _ rfl rfl (by decide +kernel) rfl ⟨⟨_, rfl, Qok_val rfl (Ev_move rfl)⟩, ⟨_, rfl, Qok_val rfl (Ev_fieldAddr 0 58 1 Tryd.underlying76 rfl Tryd.sizeOf58 rfl rfl)⟩, ⟨_, rfl, Qok_val rfl (Ev_load rfl (Ld_one Tryd.isAgg58 (MemAt.ent 0 rfl (Seg.left (Seg.left (Seg.head))))))⟩, ⟨_, rfl, Qok_val rfl (Ev_fieldAddr 1 74 32 Tryd.underlying76 rfl Tryd.sizeOf74 rfl rfl)⟩, ⟨_, rfl, Qok_val rfl (Ev_sliceA 32 5 1 0 32 1 32 Tryd.underlying74 Tryd.sizeOf5 rfl rfl rfl (by omega) (by omega) (by omega) (by omega) (by omega) 32 (by omega))⟩, ⟨_, rfl, Qok_val rfl (Ev_fieldAddr 33 54 16 Tryd.underlying76 rfl Tryd.sizeOf54 rfl rfl)⟩, ⟨_, rfl, Qok_val rfl (Ev_sliceA 16 5 1 0 16 33 16 Tryd.underlying54 Tryd.sizeOf5 rfl rfl rfl (by omega) (by omega) (by omega) (by omega) (by omega) 16 (by omega))⟩, trivial⟩ rfl (Cok_step rfl (Step_call 97 _ [false, true] [nb2] _ (Cl_func [Ptr nb2 0, U64 e, I64 (8:Int)] Tryd.call97 rfl) rfl (fun w1 hw1 => numN_c nb2 8 .nilIface e 8 w1 (hw1.ent _ (List.mem_of_getElem? (i := 1) rfl)) (by unfold Szd; omega) (fun h => absurd h (by omega)) (by omega)))) ?_
 rintro v1 L1 ⟨_, ⟨rfl, nb3, sp1, cp1, rfl, hc1, hc2, hc3⟩, rfl⟩
 refine ⟨[], ?_⟩
 show DP _ _ _ _ _ _ _ _ [⟨nb1, [U64 e] ++ cu8 d ++ cu8 t, 76, (0, 0)⟩, ⟨nb2, [.nilIface, Slc nb3 0 8 cp1], 138, (0, 0)⟩, ⟨nb3, cu8 (numK 8 e 8) ++ sp1, 5, (0, 0)⟩]
 refine DP_one ⟨[3], [0, 1, 2, 4, 5, 7, 8], [0, 1, 2], [4, 5, 7, 8], [6]⟩ 6 _ rfl rfl (by decide +kernel) rfl ⟨⟨_, rfl, Qok_val rfl (Ev_fieldAddr 1 74 32 Tryd.underlying76 rfl Tryd.sizeOf74 rfl rfl)⟩, ⟨_, rfl, Qok_val rfl (Ev_sliceA 32 5 1 0 32 1 32 Tryd.underlying74 Tryd.sizeOf5 rfl rfl rfl (by omega) (by omega) (by omega) (by omega) (by omega) 32 (by omega))⟩, ⟨_, rfl, Qok_val rfl (Ev_fieldAddr 33 54 16 Tryd.underlying76 rfl Tryd.sizeOf54 rfl rfl)⟩, ⟨_, rfl, Qok_val rfl (Ev_sliceA 16 5 1 0 16 33 16 Tryd.underlying54 Tryd.sizeOf5 rfl rfl rfl (by omega) (by omega) (by omega) (by omega) (by omega) 16 (by omega))⟩, trivial⟩ rfl (Cok_step rfl (Step_call 106 _ [false, true, true] [nb2, nb3] _ (Cl_func [Ptr nb2 0, Slc nb1 1 32 32] Tryd.call106 rfl) rfl (fun w1 hw1 => rawO_c nb2 nb3 8 cp1 40 .nilIface (numK 8 e 8) sp1 (some ⟨nb1, 1, none⟩) 32 32 d w1 (hw1.ent _ (List.mem_of_getElem? (i := 1) rfl)) (hw1.ent _ (List.mem_of_getElem? (i := 2) rfl)) (hw1.ne (i := 1) (j := 2) rfl rfl (by decide)) (show (numK 8 e 8).length = 8 from (numK_len _ _ _)) hc1 hc2 hc3 (by omega) hd (by omega) (RdB.of hw1 (MemAt.ent 0 rfl (Seg.left (Seg.right 1 0 rfl rfl (Seg.whole _)))) (by intro _; simp only [List.mem_cons, List.not_mem_nil, or_false, not_or]; exact ⟨hw1.ne (i := 0) (j := 1) rfl rfl (by decide), hw1.ne (i := 0) (j := 2) rfl rfl (by decide)⟩)) (by omega)))) ?_
 rintro v1 L1 ⟨_, ⟨rfl, nb4, sp2, cp2, rfl, hc4, hc5, hc6⟩, rfl⟩
 refine ⟨[], ?_⟩
 show DP _ _ _ _ _ _ _ _ [⟨nb1, [U64 e] ++ cu8 d ++ cu8 t, 76, (0, 0)⟩, ⟨nb2, [.nilIface, Slc nb4 0 40 cp2], 138, (0, 0)⟩, ⟨nb4, cu8 ((numK 8 e 8) ++ d) ++ sp2, 5, (0, 0)⟩]
 refine DP_one ⟨[3, 6], [0, 1, 2, 4, 5, 7, 8], [0, 1, 2, 4, 5], [7, 8], [9]⟩ 9 _ rfl rfl (by decide +kernel) rfl ⟨⟨_, rfl, Qok_val rfl (Ev_fieldAddr 33 54 16 Tryd.underlying76 rfl Tryd.sizeOf54 rfl rfl)⟩, ⟨_, rfl, Qok_val rfl (Ev_sliceA 16 5 1 0 16 33 16 Tryd.underlying54 Tryd.sizeOf5 rfl rfl rfl (by omega) (by omega) (by omega) (by omega) (by omega) 16 (by omega))⟩, trivial⟩ rfl (Cok_step rfl (Step_call 106 _ [false, true, true] [nb2, nb4] _ (Cl_func [Ptr nb2 0, Slc nb1 33 16 16] Tryd.call106 rfl) rfl (fun w1 hw1 => rawO_c nb2 nb4 40 cp2 56 .nilIface ((numK 8 e 8) ++ d) sp2 (some ⟨nb1, 33, none⟩) 16 16 t w1 (hw1.ent _ (List.mem_of_getElem? (i := 1) rfl)) (hw1.ent _ (List.mem_of_getElem? (i := 2) rfl)) (hw1.ne (i := 1) (j := 2) rfl rfl (by decide)) (show ((numK 8 e 8) ++ d).length = 40 from (by rw [List.length_append, (show (numK 8 e 8).length = 8 from (numK_len _ _ _)), hd] <;> omega)) hc4 hc5 hc6 (by omega) ht (by omega) (RdB.of hw1 (MemAt.ent 0 rfl (Seg.right 33 0 (by simp [hd]) rfl (Seg.whole _))) (by intro _; simp only [List.mem_cons, List.not_mem_nil, or_false, not_or]; exact ⟨hw1.ne (i := 0) (j := 1) rfl rfl (by decide), hw1.ne (i := 0) (j := 2) rfl rfl (by decide)⟩)) (by omega)))) ?_
 rintro v1 L1 ⟨_, ⟨rfl, nb5, sp3, cp3, rfl, hc7, hc8, hc9⟩, rfl⟩
 refine ⟨[], ?_⟩
 show DP _ _ _ _ _ _ _ _ [⟨nb1, [U64 e] ++ cu8 d ++ cu8 t, 76, (0, 0)⟩, ⟨nb2, [.nilIface, Slc nb5 0 56 cp3], 138, (0, 0)⟩, ⟨nb5, cu8 (((numK 8 e 8) ++ d) ++ t) ++ sp3, 5, (0, 0)⟩]
 refine DP_one ⟨[3, 6, 9], [0, 1, 2, 4, 5, 7, 8], [0, 1, 2, 4, 5, 7, 8], [], [10]⟩ 10 _ rfl rfl (by decide +kernel) rfl trivial rfl (Cok_step rfl (Step_callN 98 [Ptr nb2 0] _ (Cl_func [Ptr nb2 0] Tryd.call98 rfl) (fun w1 hw1 => doneO_c nb2 0 nb5 56 cp3 (((numK 8 e 8) ++ d) ++ t) w1 (RdA.of hw1 (MemAt.ent 1 rfl (Seg.whole _)) (by simp)) rfl (show (((numK 8 e 8) ++ d) ++ t).length = 56 from (by rw [List.length_append, (show ((numK 8 e 8) ++ d).length = 40 from (by rw [List.length_append, (show (numK 8 e 8).length = 8 from (numK_len _ _ _)), hd] <;> omega)), ht] <;> omega)) (by omega) (RdB.of hw1 (MemAt.ent 2 rfl (Seg.left (Seg.whole _))) (by simp))))) ?_
 rintro v1 L1 ⟨_, ⟨nb6, sp4, cp4, rfl, rfl, hc10, hc11, hc12⟩, rfl⟩
 refine ⟨[(11, .tuple #[Slc nb6 0 56 cp4, .nilIface]), (12, Slc nb6 0 56 cp4), (13, .nilIface), (14, Slc nb6 0 56 cp4), (15, .nilIface)], ?_⟩
 show DP _ _ _ _ _ _ _ _ [⟨nb1, [U64 e] ++ cu8 d ++ cu8 t, 76, (0, 0)⟩, ⟨nb2, [.nilIface, Slc nb5 0 56 cp3], 138, (0, 0)⟩, ⟨nb5, cu8 (((numK 8 e 8) ++ d) ++ t) ++ sp3, 5, (0, 0)⟩, ⟨nb6, cu8 (((numK 8 e 8) ++ d) ++ t) ++ sp4, 5, (0, 0)⟩]
 refine DP_end ⟨[3, 6, 9, 10], [0, 1, 2, 4, 5, 7, 8, 11, 12, 13, 14, 15], [0, 1, 2, 4, 5, 7, 8], [11, 12, 13, 14, 15], []⟩ rfl rfl (by decide +kernel) rfl ⟨⟨_, rfl, Qok_val rfl (Ev_move rfl)⟩, ⟨_, rfl, Qok_val rfl (Ev_extract rfl rfl)⟩, ⟨_, rfl, Qok_val rfl (Ev_extract rfl rfl)⟩, ⟨_, rfl, Qok_val rfl (Ev_assign rfl)⟩, ⟨_, rfl, Qok_val rfl (Ev_assign rfl)⟩, trivial⟩ ?_
 refine K_sub (F' := [(4, Slc nb6 0 56 cp4), (5, .nilIface), (2, .slice none 0 0)]) (Sub.cons (by kernel_rfl) (Sub.cons (by kernel_rfl) (Sub.cons (by kernel_rfl) (Sub.nil)))) ?_
 show JQ _ _ _ [(4, Slc nb6 0 56 cp4), (5, .nilIface), (2, .slice none 0 0)] _
 refine JQ_then ?_
 refine JC_seq ?_
 refine JC_seq ?_
 refine JC_region ?_
 refine JL_val _ (Ev_move rfl) rfl ?_
 refine JL_val (.bool false) (Ev_bin _ _ _ rfl rfl (fun _ => eqGuard_nn ..) fun _ => neq_if_nil_nil Tryd.underlying39) rfl ?_
 refine JL_nil ?_
 refine JQ_then ?_
 refine JC_condF _ rfl rfl ?_
 refine JC_skip ?_
 refine JQ_then ?_
 refine JC_seq ?_
 refine JC_region ?_
 refine JL_val _ (Ev_move rfl) rfl ?_
 refine JL_val _ (Ev_assign rfl) rfl ?_
 refine JL_nil ?_
 refine JQ_then ?_
 refine JC_ret ?_
 refine K_mask [false, false, false, true] ?_
 show JQ _ _ _ _ [⟨nb6, cu8 (((numK 8 e 8) ++ d) ++ t) ++ sp4, 5, (0, 0)⟩]
 refine JQ_ret (Slc nb6 0 56 cp4) (res1 Tryd.results67 (RV_tmp rfl)) fun w1 hw1 => ?_
 have hq : ((numK 8 e 8) ++ d) ++ t = putL e d t := by rw [putL]
 rw [hq] at hw1
 exact ⟨_, _, rfl, ⟨nb6, sp4, cp4, rfl, rfl, hc10, hc11, hc12⟩, hw1.sub (by simp) (by simp)⟩
theorem setOf_c (k : List UInt8) (w : World) (hk : k.length = 16) (hG : GLs w) : Calls Tryd.prog 48 #[.agg (cu8 k).toArray] w (Post w [] (fun v L => v = .agg (cu8 (encK k) ++ cu8 (tgK k) ++ cu8 (macL k ([101, 110, 116, 114, 117, 115, 116, 32, 116, 105, 99, 107, 101, 116] : List UInt8)) ++ cu8 (macL k ([101, 110, 116, 114, 117, 115, 116, 32, 108, 105, 110, 107] : List UInt8))).toArray ∧ L = [])) := by
 unfold encK tgK
 exact keysOf_c k w hk hG
theorem snew_c (k : List UInt8) (w : World) (hk : k.length = 16) (hG : GLs w)  : Calls Tryd.prog 57 #[.agg (cu8 k).toArray] w (Post w [] (fun v L => ∃ sb cb, v = Ptr sb 0 ∧ L = [⟨cb, cu8 (rkL (encK k)) ++ cu8 thereL ++ cu8 backL, 170, (0, 0)⟩, ⟨sb, cu8 (encK k) ++ cu8 (tgK k) ++ cu8 (macL k ([101, 110, 116, 114, 117, 115, 116, 32, 116, 105, 99, 107, 101, 116] : List UInt8)) ++ cu8 (macL k ([101, 110, 116, 114, 117, 115, 116, 32, 108, 105, 110, 107] : List UInt8)) ++ [Ptr cb 0], 145, (0, 0)⟩])) := by
 refine enter w [] 12 [] [.agg (cu8 k).toArray] Tryd.func57 rfl rfl (by simp) (Hp.start (by simp) (by simp) (by simp)) ?_
 show JC _ _ _ [(0, .agg (cu8 k).toArray)] _
 refine JC_seq ?_
 refine JC_region ?_
 refine JL_step (Step_box (.agg (cu8 k).toArray) (cu8 k) rfl (by first | rfl | simp)) rfl ?_
 rintro v1 L1 ⟨nb1, hnb1, rfl, rfl⟩
 show JL _ _ _ _ ((1, Ptr nb1 0) :: _) [⟨nb1, cu8 k, 55, (0, 0)⟩]
 refine JL_val _ (Ev_assign rfl) rfl ?_
 refine JL_nil ?_
 refine JQ_then ?_
 refine JC_seq ?_
 refine JC_region ?_
 refine JL_val (.agg (cu8 k).toArray) (Ev_load rfl (Ld_agg Tryd.isAgg55 Tryd.sizeOf55 (len_cu8 hk) (MemAt.ent 0 rfl (Seg.whole _)))) rfl ?_
 refine JL_step (Step_callP 48 [.agg (cu8 k).toArray] (.agg (cu8 (encK k) ++ cu8 (tgK k) ++ cu8 (macL k ([101, 110, 116, 114, 117, 115, 116, 32, 116, 105, 99, 107, 101, 116] : List UInt8)) ++ cu8 (macL k ([101, 110, 116, 114, 117, 115, 116, 32, 108, 105, 110, 107] : List UInt8))).toArray) (Cl_func [.agg (cu8 k).toArray] Tryd.call48 rfl) (fun w1 hw1 => setOf_c k w1 hk (hG.at hw1))) rfl ?_
 rintro v1 L1 ⟨rfl, rfl⟩
 show JL _ _ _ _ ((5, .agg (cu8 (encK k) ++ cu8 (tgK k) ++ cu8 (macL k ([101, 110, 116, 114, 117, 115, 116, 32, 116, 105, 99, 107, 101, 116] : List UInt8)) ++ cu8 (macL k ([101, 110, 116, 114, 117, 115, 116, 32, 108, 105, 110, 107] : List UInt8))).toArray) :: _) [⟨nb1, cu8 k, 55, (0, 0)⟩]
 refine JL_step (Step_alloc _ (cu8 (zr8 16) ++ cu8 (zr8 32) ++ cu8 (zr8 32) ++ cu8 (zr8 32)) Tryd.zeroValue61 (by kernel_rfl)) rfl ?_
 rintro v1 L1 ⟨nb2, hnb2, rfl, rfl⟩
 show JL _ _ _ _ ((3, Ptr nb2 0) :: _) [⟨nb1, cu8 k, 55, (0, 0)⟩, ⟨nb2, cu8 (zr8 16) ++ cu8 (zr8 32) ++ cu8 (zr8 32) ++ cu8 (zr8 32), 61, (0, 0)⟩]
 refine JL_step (Step_store 1 nb2 0 112 (cu8 (zr8 16) ++ cu8 (zr8 32) ++ cu8 (zr8 32) ++ cu8 (zr8 32)) 61 (.agg (cu8 (encK k) ++ cu8 (tgK k) ++ cu8 (macL k ([101, 110, 116, 114, 117, 115, 116, 32, 116, 105, 99, 107, 101, 116] : List UInt8)) ++ cu8 (macL k ([101, 110, 116, 114, 117, 115, 116, 32, 108, 105, 110, 107] : List UInt8))).toArray) (cu8 (encK k) ++ cu8 (tgK k) ++ cu8 (macL k ([101, 110, 116, 114, 117, 115, 116, 32, 116, 105, 99, 107, 101, 116] : List UInt8)) ++ cu8 (macL k ([101, 110, 116, 114, 117, 115, 116, 32, 108, 105, 110, 107] : List UInt8))) (cu8 (encK k) ++ cu8 (tgK k) ++ cu8 (macL k ([101, 110, 116, 114, 117, 115, 116, 32, 116, 105, 99, 107, 101, 116] : List UInt8)) ++ cu8 (macL k ([101, 110, 116, 114, 117, 115, 116, 32, 108, 105, 110, 107] : List UInt8))) rfl rfl rfl (by first | rfl | simp) Tryd.sizeOf61 (by simp [(encK_len _), (tgK_len _), (macL_len _ _), (macL_len _ _)]) (by simp only [← cu8_app]; exact one_u8) (by simp [(zr8_len 16), (zr8_len 32), (zr8_len 32), (zr8_len 32)]) (lay_whole (by simp [(zr8_len 16), (zr8_len 32), (zr8_len 32), (zr8_len 32), (encK_len _), (tgK_len _), (macL_len _ _), (macL_len _ _)]))) rfl ?_
 rintro v1 L1 ⟨rfl, rfl⟩
 show JL _ _ _ _ _ [⟨nb1, cu8 k, 55, (0, 0)⟩, ⟨nb2, cu8 (encK k) ++ cu8 (tgK k) ++ cu8 (macL k ([101, 110, 116, 114, 117, 115, 116, 32, 116, 105, 99, 107, 101, 116] : List UInt8)) ++ cu8 (macL k ([101, 110, 116, 114, 117, 115, 116, 32, 108, 105, 110, 107] : List UInt8)), 61, (0, 0)⟩]
 refine JL_nil ?_
 refine JQ_then ?_
 refine JC_seq ?_
 refine JC_draw 12 3 [(0, .agg (cu8 (encK k) ++ cu8 (tgK k) ++ cu8 (macL k ([101, 110, 116, 114, 117, 115, 116, 32, 116, 105, 99, 107, 101, 116] : List UInt8)) ++ cu8 (macL k ([101, 110, 116, 114, 117, 115, 116, 32, 108, 105, 110, 107] : List UInt8))).toArray), (1, Ptr nb2 0), (2, .agg (cu8 (encK k)).toArray)] Tryd.mixed rfl (by decide +kernel) ?_
 refine DP_one ⟨[], [0, 1, 2], [], [0, 1, 2], [3]⟩ 3 _ rfl rfl (by decide +kernel) rfl ⟨⟨_, rfl, Qok_val rfl (Ev_load rfl (Ld_agg Tryd.isAgg61 Tryd.sizeOf61 (by simp [(encK_len _), (tgK_len _), (macL_len _ _), (macL_len _ _)]) (MemAt.ent 1 rfl (Seg.whole _))))⟩, ⟨_, rfl, Qok_val rfl (Ev_fieldAddr 0 55 16 Tryd.underlying61 rfl Tryd.sizeOf55 rfl rfl)⟩, ⟨_, rfl, Qok_val rfl (Ev_load rfl (Ld_agg Tryd.isAgg55 Tryd.sizeOf55 (len_cu8 (encK_len _)) (MemAt.ent 1 rfl (Seg.left (Seg.left (Seg.left (Seg.whole _)))))))⟩, trivial⟩ rfl (Cok_step rfl (Step_callN 99 [.agg (cu8 (encK k)).toArray] _ (Cl_func [.agg (cu8 (encK k)).toArray] Tryd.call99 rfl) (fun w1 hw1 => new_c (encK k) w1 (encK_len _)))) ?_
 rintro v1 L1 ⟨_, ⟨nb3, rfl, rfl⟩, rfl⟩
 refine ⟨[(4, .agg (cu8 (encK k) ++ cu8 (tgK k) ++ cu8 (macL k ([101, 110, 116, 114, 117, 115, 116, 32, 116, 105, 99, 107, 101, 116] : List UInt8)) ++ cu8 (macL k ([101, 110, 116, 114, 117, 115, 116, 32, 108, 105, 110, 107] : List UInt8)) ++ [Ptr nb3 0]).toArray)], ?_⟩
 show DP _ _ _ _ _ _ _ _ [⟨nb1, cu8 k, 55, (0, 0)⟩, ⟨nb2, cu8 (encK k) ++ cu8 (tgK k) ++ cu8 (macL k ([101, 110, 116, 114, 117, 115, 116, 32, 116, 105, 99, 107, 101, 116] : List UInt8)) ++ cu8 (macL k ([101, 110, 116, 114, 117, 115, 116, 32, 108, 105, 110, 107] : List UInt8)), 61, (0, 0)⟩, ⟨nb3, cu8 (rkL (encK k)) ++ cu8 thereL ++ cu8 backL, 170, (0, 0)⟩]
 refine DP_one ⟨[3], [0, 1, 2, 4], [1, 2], [0, 4], [5]⟩ 5 _ rfl rfl (by decide +kernel) rfl ⟨⟨_, rfl, Qok_val rfl (Ev_load rfl (Ld_agg Tryd.isAgg61 Tryd.sizeOf61 (by simp [(encK_len _), (tgK_len _), (macL_len _ _), (macL_len _ _)]) (MemAt.ent 1 rfl (Seg.whole _))))⟩, ⟨_, rfl, Qok_val rfl (Ev_build [(0, .agg (cu8 (encK k) ++ cu8 (tgK k) ++ cu8 (macL k ([101, 110, 116, 114, 117, 115, 116, 32, 116, 105, 99, 107, 101, 116] : List UInt8)) ++ cu8 (macL k ([101, 110, 116, 114, 117, 115, 116, 32, 108, 105, 110, 107] : List UInt8))).toArray), (1, Ptr nb3 0)] _ rfl (fun _ => run_build_structL (places := #[(0, 112), (112, 1)]) (Z := ((cu8 (zr8 16) ++ cu8 (zr8 32) ++ cu8 (zr8 32) ++ cu8 (zr8 32) : List Value) ++ (([.pointer none] : List Value) ++ []))) (fun _ => by kernel_rfl) Tryd.underlying145 (fun _ => by kernel_rfl) ((fill_start (cu8 (zr8 16) ++ cu8 (zr8 32) ++ cu8 (zr8 32) ++ cu8 (zr8 32) : List Value) (([.pointer none] : List Value) ++ []) (cu8 (encK k) ++ cu8 (tgK k) ++ cu8 (macL k ([101, 110, 116, 114, 117, 115, 116, 32, 116, 105, 99, 107, 101, 116] : List UInt8)) ++ cu8 (macL k ([101, 110, 116, 114, 117, 115, 116, 32, 108, 105, 110, 107] : List UInt8)) : List Value) rfl (by simp [zr8_len, (encK_len _), (tgK_len _), (macL_len _ _), (macL_len _ _)]) (by simp [zr8_len, (encK_len _), (tgK_len _), (macL_len _ _), (macL_len _ _)])).trans ((fill_step (cu8 (encK k) ++ cu8 (tgK k) ++ cu8 (macL k ([101, 110, 116, 114, 117, 115, 116, 32, 116, 105, 99, 107, 101, 116] : List UInt8)) ++ cu8 (macL k ([101, 110, 116, 114, 117, 115, 116, 32, 108, 105, 110, 107] : List UInt8)) : List Value) ([.pointer none] : List Value) [] ([Ptr nb3 0] : List Value) rfl (by simp [zr8_len, (encK_len _), (tgK_len _), (macL_len _ _), (macL_len _ _)]) (by simp [zr8_len])).trans (by simp [Instr.fill])))))⟩, trivial⟩ rfl (Cok_step rfl (Step_box (.agg (cu8 (encK k) ++ cu8 (tgK k) ++ cu8 (macL k ([101, 110, 116, 114, 117, 115, 116, 32, 116, 105, 99, 107, 101, 116] : List UInt8)) ++ cu8 (macL k ([101, 110, 116, 114, 117, 115, 116, 32, 108, 105, 110, 107] : List UInt8)) ++ [Ptr nb3 0]).toArray) (cu8 (encK k) ++ cu8 (tgK k) ++ cu8 (macL k ([101, 110, 116, 114, 117, 115, 116, 32, 116, 105, 99, 107, 101, 116] : List UInt8)) ++ cu8 (macL k ([101, 110, 116, 114, 117, 115, 116, 32, 108, 105, 110, 107] : List UInt8)) ++ [Ptr nb3 0]) rfl (by first | rfl | simp))) ?_
 rintro v1 L1 ⟨nb4, hnb4, rfl, rfl⟩
 refine ⟨[(6, Ptr nb4 0)], ?_⟩
 show DP _ _ _ _ _ _ _ _ [⟨nb1, cu8 k, 55, (0, 0)⟩, ⟨nb2, cu8 (encK k) ++ cu8 (tgK k) ++ cu8 (macL k ([101, 110, 116, 114, 117, 115, 116, 32, 116, 105, 99, 107, 101, 116] : List UInt8)) ++ cu8 (macL k ([101, 110, 116, 114, 117, 115, 116, 32, 108, 105, 110, 107] : List UInt8)), 61, (0, 0)⟩, ⟨nb3, cu8 (rkL (encK k)) ++ cu8 thereL ++ cu8 backL, 170, (0, 0)⟩, ⟨nb4, cu8 (encK k) ++ cu8 (tgK k) ++ cu8 (macL k ([101, 110, 116, 114, 117, 115, 116, 32, 116, 105, 99, 107, 101, 116] : List UInt8)) ++ cu8 (macL k ([101, 110, 116, 114, 117, 115, 116, 32, 108, 105, 110, 107] : List UInt8)) ++ [Ptr nb3 0], 145, (0, 0)⟩]
 refine DP_end ⟨[3, 5], [0, 1, 2, 4, 6], [0, 1, 2, 4], [6], []⟩ rfl rfl (by decide +kernel) rfl ⟨⟨_, rfl, Qok_val rfl (Ev_assign rfl)⟩, trivial⟩ ?_
 refine K_sub (F' := [(2, Ptr nb4 0)]) (Sub.cons (by kernel_rfl) (Sub.nil)) ?_
 show JQ _ _ _ [(2, Ptr nb4 0)] _
 refine JQ_then ?_
 refine JC_ret ?_
 refine JQ_ret (Ptr nb4 0) (res1 Tryd.results57 (RV_tmp rfl)) fun w1 hw1 => ?_
 exact ⟨_, _, rfl, ⟨nb4, nb3, rfl, rfl⟩, hw1.sub (by simp) (by simpa using hw1.ne (i := 2) (j := 3) rfl rfl (by decide))⟩
theorem ofS_c (sb : Nat) (w : World) : Calls Tryd.prog 100 #[Ptr sb 0] w (Post w [] (fun v L => v = Ptr sb 0 ∧ L = [])) := by
 refine enter w [] 8 [] [Ptr sb 0] Tryd.func100 rfl rfl (by simp) (Hp.start (by simp) (by simp) (by simp)) ?_
 show JC _ _ _ [(0, Ptr sb 0)] _
 refine JC_seq ?_
 refine JC_region ?_
 refine JL_val _ (Ev_assign rfl) rfl ?_
 refine JL_nil ?_
 refine JQ_then ?_
 refine JC_seq ?_
 refine JC_seq ?_
 refine JC_region ?_
 refine JL_val _ (Ev_move rfl) rfl ?_
 refine JL_val (.bool false) (Ev_bin _ _ _ rfl rfl (fun _ => eqGuard_ptr ..) fun _ => eql_ptr_nil Tryd.underlying78) rfl ?_
 refine JL_nil ?_
 refine JQ_then ?_
 refine JC_condF _ rfl rfl ?_
 refine JC_skip ?_
 refine JQ_then ?_
 refine JC_seq ?_
 refine JC_region ?_
 refine JL_val _ (Ev_move rfl) rfl ?_
 refine JL_val _ (Ev_assign rfl) rfl ?_
 refine JL_nil ?_
 refine JQ_then ?_
 refine JC_ret ?_
 refine JQ_ret (Ptr sb 0) (res1 Tryd.results100 (RV_tmp rfl)) fun w1 hw1 => ?_
 exact ⟨_, [], rfl, ⟨rfl, rfl⟩, hw1.sub (by simp) (by simp)⟩
theorem right_c (i e : UInt64) (w : World) : Calls Tryd.prog 60 #[U64 i, U64 e] w (Post w [] (fun v L => v = .bool (RightB i e) ∧ L = [])) := by
 refine enter w [] 15 [] [U64 i, U64 e] Tryd.func60 rfl rfl (by simp) (Hp.start (by simp) (by simp) (by simp)) ?_
 show JC _ _ _ [(0, U64 i), (1, U64 e)] _
 refine JC_seq ?_
 refine JC_region ?_
 refine JL_val _ (Ev_assign rfl) rfl ?_
 refine JL_nil ?_
 refine JQ_then ?_
 refine JC_seq ?_
 refine JC_region ?_
 refine JL_val _ (Ev_move rfl) rfl ?_
 refine JL_val (.bool (decide (i < (4294967296:UInt64)))) (Ev_bini rfl rfl fun _ => bin_lss_u64 i (4294967296:UInt64)) rfl ?_
 refine JL_val _ (Ev_move rfl) rfl ?_
 rcases Bool.eq_false_or_eq_true (decide (i < (4294967296:UInt64))) with hb1 | hb1
 ·
  have hp1 : i < (4294967296:UInt64) := of_decide_eq_true hb1
  refine JL_gval 2 7 true _ _ rfl rfl hb1 (Ev_move rfl) rfl ?_
  refine JL_gval 2 7 true _ (.bool (decide ((1:UInt64) ≤ e))) rfl rfl hb1 (Ev_bini rfl rfl fun _ => bin_geq_u64 e (1:UInt64)) rfl ?_
  refine JL_val _ (Ev_pickT _ rfl hb1 rfl) rfl ?_
  refine JL_val _ (Ev_move rfl) rfl ?_
  rcases Bool.eq_false_or_eq_true (decide ((1:UInt64) ≤ e)) with hb2 | hb2
  ·
   have hp2 : (1:UInt64) ≤ e := of_decide_eq_true hb2
   refine JL_gval 6 11 true _ _ rfl rfl hb2 (Ev_move rfl) rfl ?_
   refine JL_gval 6 11 true _ (.bool (decide (e < (18446744073709551615:UInt64)))) rfl rfl hb2 (Ev_bini rfl rfl fun _ => bin_lss_u64 e (18446744073709551615:UInt64)) rfl ?_
   refine JL_val _ (Ev_pickT _ rfl hb2 rfl) rfl ?_
   refine JL_val _ (Ev_assign rfl) rfl ?_
   refine JL_nil ?_
   refine JQ_then ?_
   refine JC_ret ?_
   refine JQ_ret (.bool (decide (e < (18446744073709551615:UInt64)))) (res1 Tryd.results60 (RV_tmp rfl)) fun w1 hw1 => ?_
   refine ⟨_, [], rfl, ⟨congrArg Value.bool ?_, rfl⟩, hw1.sub (by simp) (by simp)⟩
   unfold RightB
   simp [*]
  ·
   have hp2 : ¬ ((1:UInt64) ≤ e) := of_decide_eq_false hb2
   refine JL_gskip 6 11 true _ rfl rfl hb2 rfl ?_
   refine JL_gskip 6 11 true _ rfl rfl hb2 rfl ?_
   refine JL_val _ (Ev_pickF _ rfl hb2 rfl) rfl ?_
   refine JL_val _ (Ev_assign rfl) rfl ?_
   refine JL_nil ?_
   refine JQ_then ?_
   refine JC_ret ?_
   refine JQ_ret (.bool false) (res1 Tryd.results60 (RV_tmp rfl)) fun w1 hw1 => ?_
   refine ⟨_, [], rfl, ⟨congrArg Value.bool ?_, rfl⟩, hw1.sub (by simp) (by simp)⟩
   unfold RightB
   simp [*]
 ·
  have hp1 : ¬ (i < (4294967296:UInt64)) := of_decide_eq_false hb1
  refine JL_gskip 2 7 true _ rfl rfl hb1 rfl ?_
  refine JL_gskip 2 7 true _ rfl rfl hb1 rfl ?_
  refine JL_val _ (Ev_pickF _ rfl hb1 rfl) rfl ?_
  refine JL_val _ (Ev_move rfl) rfl ?_
  refine JL_gskip 6 11 true _ rfl rfl rfl rfl ?_
  refine JL_gskip 6 11 true _ rfl rfl rfl rfl ?_
  refine JL_val _ (Ev_pickF _ rfl rfl rfl) rfl ?_
  refine JL_val _ (Ev_assign rfl) rfl ?_
  refine JL_nil ?_
  refine JQ_then ?_
  refine JC_ret ?_
  refine JQ_ret (.bool false) (res1 Tryd.results60 (RV_tmp rfl)) fun w1 hw1 => ?_
  refine ⟨_, [], rfl, ⟨congrArg Value.bool ?_, rfl⟩, hw1.sub (by simp) (by simp)⟩
  unfold RightB
  simp [*]
theorem rright_c (i e : UInt64) (w : World) : Calls Tryd.prog 65 #[U64 i, U64 e] w (Post w [] (fun v L => v = .bool (RightB i e) ∧ L = [])) := by
 refine enter w [] 15 [] [U64 i, U64 e] Tryd.func65 rfl rfl (by simp) (Hp.start (by simp) (by simp) (by simp)) ?_
 show JC _ _ _ [(0, U64 i), (1, U64 e)] _
 refine JC_seq ?_
 refine JC_region ?_
 refine JL_val _ (Ev_assign rfl) rfl ?_
 refine JL_nil ?_
 refine JQ_then ?_
 refine JC_seq ?_
 refine JC_region ?_
 refine JL_val _ (Ev_move rfl) rfl ?_
 refine JL_val (.bool (decide (i ≤ (4294967295:UInt64)))) (Ev_bini rfl rfl fun _ => bin_leq_u64 i (4294967295:UInt64)) rfl ?_
 refine JL_val _ (Ev_move rfl) rfl ?_
 rcases Bool.eq_false_or_eq_true (decide (i ≤ (4294967295:UInt64))) with hb1 | hb1
 ·
  have hp1 : i ≤ (4294967295:UInt64) := of_decide_eq_true hb1
  refine JL_gval 2 7 true _ _ rfl rfl hb1 (Ev_move rfl) rfl ?_
  refine JL_gval 2 7 true _ (.bool (decide (e ≠ (0:UInt64)))) rfl rfl hb1 (Ev_bini rfl rfl fun _ => bin_neq_u64 e (0:UInt64)) rfl ?_
  refine JL_val _ (Ev_pickT _ rfl hb1 rfl) rfl ?_
  refine JL_val _ (Ev_move rfl) rfl ?_
  rcases Bool.eq_false_or_eq_true (decide (e ≠ (0:UInt64))) with hb2 | hb2
  ·
   have hp2 : e ≠ (0:UInt64) := of_decide_eq_true hb2
   refine JL_gval 6 11 true _ _ rfl rfl hb2 (Ev_move rfl) rfl ?_
   refine JL_gval 6 11 true _ (.bool (decide (e ≠ (18446744073709551615:UInt64)))) rfl rfl hb2 (Ev_bini rfl rfl fun _ => bin_neq_u64 e (18446744073709551615:UInt64)) rfl ?_
   refine JL_val _ (Ev_pickT _ rfl hb2 rfl) rfl ?_
   refine JL_val _ (Ev_assign rfl) rfl ?_
   refine JL_nil ?_
   refine JQ_then ?_
   refine JC_ret ?_
   refine JQ_ret (.bool (decide (e ≠ (18446744073709551615:UInt64)))) (res1 Tryd.results65 (RV_tmp rfl)) fun w1 hw1 => ?_
   refine ⟨_, [], rfl, ⟨congrArg Value.bool ?_, rfl⟩, hw1.sub (by simp) (by simp)⟩
   rw [RightB_ref]
   simp [*]
  ·
   have hp2 : ¬ (e ≠ (0:UInt64)) := of_decide_eq_false hb2
   refine JL_gskip 6 11 true _ rfl rfl hb2 rfl ?_
   refine JL_gskip 6 11 true _ rfl rfl hb2 rfl ?_
   refine JL_val _ (Ev_pickF _ rfl hb2 rfl) rfl ?_
   refine JL_val _ (Ev_assign rfl) rfl ?_
   refine JL_nil ?_
   refine JQ_then ?_
   refine JC_ret ?_
   refine JQ_ret (.bool false) (res1 Tryd.results65 (RV_tmp rfl)) fun w1 hw1 => ?_
   refine ⟨_, [], rfl, ⟨congrArg Value.bool ?_, rfl⟩, hw1.sub (by simp) (by simp)⟩
   rw [RightB_ref]
   simp [*]
 ·
  have hp1 : ¬ (i ≤ (4294967295:UInt64)) := of_decide_eq_false hb1
  refine JL_gskip 2 7 true _ rfl rfl hb1 rfl ?_
  refine JL_gskip 2 7 true _ rfl rfl hb1 rfl ?_
  refine JL_val _ (Ev_pickF _ rfl hb1 rfl) rfl ?_
  refine JL_val _ (Ev_move rfl) rfl ?_
  refine JL_gskip 6 11 true _ rfl rfl rfl rfl ?_
  refine JL_gskip 6 11 true _ rfl rfl rfl rfl ?_
  refine JL_val _ (Ev_pickF _ rfl rfl rfl) rfl ?_
  refine JL_val _ (Ev_assign rfl) rfl ?_
  refine JL_nil ?_
  refine JQ_then ?_
  refine JC_ret ?_
  refine JQ_ret (.bool false) (res1 Tryd.results65 (RV_tmp rfl)) fun w1 hw1 => ?_
  refine ⟨_, [], rfl, ⟨congrArg Value.bool ?_, rfl⟩, hw1.sub (by simp) (by simp)⟩
  rw [RightB_ref]
  simp [*]
theorem place_c (i e : UInt64) (w : World) (hx : 4 < 8 → i >>> UInt64.ofNat (8*4) = 0)  : Calls Tryd.prog 101 #[U64 i, U64 e] w (Post w [] (fun v L => ∃ g sp cap, v = Slc g 0 12 cap ∧ L = [⟨g, cu8 (placeT i e) ++ sp, 5, (0, 0)⟩] ∧ sp.length = cap - 12 ∧ 12 ≤ cap ∧ cap ≤ maxLen)) := by
 have hmx : maxLen = 9223372036854775807 := rfl
 refine enter w [] 22 [] [U64 i, U64 e] Tryd.func101 rfl rfl (by simp) (Hp.start (by simp) (by simp) (by simp)) ?_
 show JC _ _ _ [(0, U64 i), (1, U64 e)] _
 refine JC_seq ?_
 refine JC_region ?_
 refine JL_val _ (Ev_assign rfl) rfl ?_
 refine JL_nil ?_
 refine JQ_then ?_
 refine JC_seq ?_
 refine JC_region ?_
 refine JL_val (.agg (List.toArray (α := Value) ([.nilIface, .slice none 0 0]))) (Ev_build [] _ rfl (fun _ => by kernel_rfl)) rfl ?_
 refine JL_step (Step_box (.agg (List.toArray (α := Value) ([.nilIface, .slice none 0 0]))) ([.nilIface, .slice none 0 0]) rfl (by first | rfl | simp)) rfl ?_
 rintro v1 L1 ⟨nb1, hnb1, rfl, rfl⟩
 show JL _ _ _ _ ((9, Ptr nb1 0) :: _) [⟨nb1, [.nilIface, .slice none 0 0], 138, (0, 0)⟩]
 refine JL_val _ (Ev_assign rfl) rfl ?_
 refine JL_nil ?_
 refine JQ_then ?_
 refine JC_seq ?_
 refine JC_region ?_
 refine JL_val _ (Ev_move rfl) rfl ?_
 refine JL_val _ (Ev_move rfl) rfl ?_
 refine JL_step (Step_call 97 _ [true] [nb1] _ (Cl_func [Ptr nb1 0, U64 i, I64 (4:Int)] Tryd.call97 rfl) rfl (fun w1 hw1 => numN_c nb1 4 .nilIface i 4 w1 (hw1.ent _ (List.mem_of_getElem? (i := 0) rfl)) (by unfold Szd; omega) hx (by omega))) rfl ?_
 rintro v1 L1 ⟨_, ⟨rfl, nb2, sp1, cp1, rfl, hc1, hc2, hc3⟩, rfl⟩
 show JL _ _ _ _ ((13, Ptr nb1 0) :: _) [⟨nb1, [.nilIface, Slc nb2 0 4 cp1], 138, (0, 0)⟩, ⟨nb2, cu8 (numK 4 i 4) ++ sp1, 5, (0, 0)⟩]
 refine JL_val _ (Ev_move rfl) rfl ?_
 refine JL_step (Step_call 97 _ [true, true] [nb1, nb2] _ (Cl_func [Ptr nb1 0, U64 e, I64 (8:Int)] Tryd.call97 rfl) rfl (fun w1 hw1 => numO_c nb1 nb2 4 cp1 12 .nilIface (numK 4 i 4) sp1 e 8 w1 (hw1.ent _ (List.mem_of_getElem? (i := 0) rfl)) (hw1.ent _ (List.mem_of_getElem? (i := 1) rfl)) (hw1.ne (i := 0) (j := 1) rfl rfl (by decide)) (show (numK 4 i 4).length = 4 from (numK_len _ _ _)) hc1 hc2 hc3 (by omega) (by unfold Szd; omega) (fun h => absurd h (by omega)) (by omega))) rfl ?_
 rintro v1 L1 ⟨_, ⟨rfl, nb3, sp2, cp2, rfl, hc4, hc5, hc6⟩, rfl⟩
 show JL _ _ _ _ ((15, Ptr nb1 0) :: _) [⟨nb1, [.nilIface, Slc nb3 0 12 cp2], 138, (0, 0)⟩, ⟨nb3, cu8 ((numK 4 i 4) ++ numK 8 e 8) ++ sp2, 5, (0, 0)⟩]
 refine JL_step (Step_callN 98 [Ptr nb1 0] _ (Cl_func [Ptr nb1 0] Tryd.call98 rfl) (fun w1 hw1 => doneO_c nb1 0 nb3 12 cp2 ((numK 4 i 4) ++ numK 8 e 8) w1 (RdA.of hw1 (MemAt.ent 0 rfl (Seg.whole _)) (by simp)) rfl (show ((numK 4 i 4) ++ numK 8 e 8).length = 12 from (by rw [List.length_append, (show (numK 4 i 4).length = 4 from (numK_len _ _ _)), numK_len] <;> omega)) (by omega) (RdB.of hw1 (MemAt.ent 1 rfl (Seg.left (Seg.whole _))) (by simp)))) rfl ?_
 rintro v1 L1 ⟨_, ⟨nb4, sp3, cp3, rfl, rfl, hc7, hc8, hc9⟩, rfl⟩
 show JL _ _ _ _ ((16, .tuple #[Slc nb4 0 12 cp3, .nilIface]) :: _) [⟨nb1, [.nilIface, Slc nb3 0 12 cp2], 138, (0, 0)⟩, ⟨nb3, cu8 ((numK 4 i 4) ++ numK 8 e 8) ++ sp2, 5, (0, 0)⟩, ⟨nb4, cu8 ((numK 4 i 4) ++ numK 8 e 8) ++ sp3, 5, (0, 0)⟩]
 refine JL_val _ (Ev_move rfl) rfl ?_
 refine JL_val _ (Ev_extract rfl rfl) rfl ?_
 refine JL_val _ (Ev_extract rfl rfl) rfl ?_
 refine JL_val _ (Ev_assign rfl) rfl ?_
 refine JL_val _ (Ev_assign rfl) rfl ?_
 refine JL_nil ?_
 refine JQ_then ?_
 refine JC_seq ?_
 refine JC_seq ?_
 refine JC_region ?_
 refine JL_val _ (Ev_move rfl) rfl ?_
 refine JL_val (.bool false) (Ev_bin _ _ _ rfl rfl (fun _ => eqGuard_nn ..) fun _ => neq_if_nil_nil Tryd.underlying39) rfl ?_
 refine JL_nil ?_
 refine JQ_then ?_
 refine JC_condF _ rfl rfl ?_
 refine JC_skip ?_
 refine JQ_then ?_
 refine JC_seq ?_
 refine JC_region ?_
 refine JL_val _ (Ev_move rfl) rfl ?_
 refine JL_val _ (Ev_assign rfl) rfl ?_
 refine JL_nil ?_
 refine JQ_then ?_
 refine JC_ret ?_
 refine K_mask [false, false, true] ?_
 show JQ _ _ _ _ [⟨nb4, cu8 ((numK 4 i 4) ++ numK 8 e 8) ++ sp3, 5, (0, 0)⟩]
 refine JQ_ret (Slc nb4 0 12 cp3) (res1 Tryd.results101 (RV_tmp rfl)) fun w1 hw1 => ?_
 have hq : (numK 4 i 4) ++ numK 8 e 8 = placeT i e := by rw [placeT]
 rw [hq] at hw1
 exact ⟨_, _, rfl, ⟨nb4, sp3, cp3, rfl, rfl, hc7, hc8, hc9⟩, hw1.sub (by simp) (by simp)⟩
theorem rplace_c (i e : UInt64) (w : World) : Calls Tryd.prog 105 #[U64 i, U64 e] w (Post w [] (fun v L => ∃ g sp cap, v = Slc g 0 12 cap ∧ L = [⟨g, cu8 (placeT i e) ++ sp, 5, (0, 0)⟩] ∧ sp.length = cap - 12 ∧ 12 ≤ cap ∧ cap ≤ maxLen)) := by
 have hmx : maxLen = 9223372036854775807 := rfl
 refine enter w [] 10 [] [U64 i, U64 e] Tryd.func105 rfl rfl (by simp) (Hp.start (by simp) (by simp) (by simp)) ?_
 show JC _ _ _ [(0, U64 i), (1, U64 e)] _
 refine JC_seq ?_
 refine JC_region ?_
 refine JL_val _ (Ev_assign rfl) rfl ?_
 refine JL_nil ?_
 refine JQ_then ?_
 refine JC_seq ?_
 refine JC_region ?_
 refine JL_val _ (Ev_move rfl) rfl ?_
 refine JL_step (Step_callN 55 [U64 i, I64 (4:Int)] _ (Cl_func [U64 i, I64 (4:Int)] Tryd.call55 rfl) (fun w1 hw1 => rnumber_c i 4 w1 (by omega))) rfl ?_
 rintro v1 L1 ⟨_, ⟨nb1, rfl, rfl⟩, rfl⟩
 show JL _ _ _ _ ((6, Slc nb1 0 4 4) :: _) [⟨nb1, cu8 (numK 4 i 4), 5, (0, 0)⟩]
 refine JL_val _ (Ev_move rfl) rfl ?_
 refine JL_step (Step_callN 55 [U64 e, I64 (8:Int)] _ (Cl_func [U64 e, I64 (8:Int)] Tryd.call55 rfl) (fun w1 hw1 => rnumber_c e 8 w1 (by omega))) rfl ?_
 rintro v1 L1 ⟨_, ⟨nb2, rfl, rfl⟩, rfl⟩
 show JL _ _ _ _ ((8, Slc nb2 0 8 8) :: _) [⟨nb1, cu8 (numK 4 i 4), 5, (0, 0)⟩, ⟨nb2, cu8 (numK 8 e 8), 5, (0, 0)⟩]
 refine JL_step (Step_appM8 22 5 [true, false] (Slc nb1 0 4 4) 4 (numK 4 i 4) (numK 8 e 8) (some ⟨nb2, 0, none⟩) 8 8 12 Tryd.underlying22 Tryd.info5 rfl (.inr ⟨nb1, [], 4, rfl, (by simp [take?, cu8, cu32, cu64]), (by first | exact (show (numK 4 i 4).length = 4 from numK_len _ _ _) | simp [(show (numK 4 i 4).length = 4 from numK_len _ _ _)]), (by simp), (by omega), (by unfold maxLen; omega)⟩) rfl (by first | exact (show (numK 8 e 8).length = 8 from numK_len _ _ _) | simp [(show (numK 8 e 8).length = 8 from numK_len _ _ _)]; try omega) (SrcAt.mem (MemAt.ent 1 rfl (Seg.whole _))) (by omega) (by unfold maxLen; omega) (by omega)) rfl ?_
 rintro v1 L1 ⟨nb3, sp1, cp1, hg1, rfl, rfl, ha1, ha2, ha3, ha4⟩
 show JL _ _ _ _ ((9, Slc nb3 0 12 cp1) :: _) [⟨nb2, cu8 (numK 8 e 8), 5, (0, 0)⟩, ⟨nb3, cu8 ((numK 4 i 4) ++ (numK 8 e 8)) ++ sp1, 5, (0, 0)⟩]
 refine JL_val _ (Ev_assign rfl) rfl ?_
 refine JL_nil ?_
 refine JQ_then ?_
 refine JC_ret ?_
 refine K_mask [false, true] ?_
 show JQ _ _ _ _ [⟨nb3, cu8 ((numK 4 i 4) ++ (numK 8 e 8)) ++ sp1, 5, (0, 0)⟩]
 refine JQ_ret (Slc nb3 0 12 cp1) (res1 Tryd.results105 (RV_tmp rfl)) fun w1 hw1 => ?_
 have hq : (numK 4 i 4) ++ (numK 8 e 8) = placeT i e := by rw [placeT]
 rw [hq] at hw1
 exact ⟨_, _, rfl, ⟨nb3, sp1, cp1, rfl, rfl, ha2, ha3, ha4⟩, hw1.sub (by simp) (by simp)⟩
end Go.Proofs.YtncoifiafklkjaaDoor
namespace Go.Proofs.YtncoifiafklkjaaDoor
open Go Go.Sx
set_option linter.unusedVariables false
set_option linter.unusedSimpArgs false
set_option maxRecDepth 100000
attribute [local irreducible] mid zr8 zr32 numK rnK valK rotr wordL spreadL comprL cpN adN spN wrdN constL initL padL stN outN routN sumG putL blkL xbN raN macL encL rkL thereL backL nextL strT xorN eBlk encK tgK placeT turnP tagP RightB sealN sE sD sT openN openBk
theorem turned_c (sb cb : Nat) (k : List UInt8) (ap : Option Addr) (cp : Nat) (p : List UInt8) (b : List UInt8) (w : World) (hk : k.length = 16) (hS : w.heap[sb]? = some (.cells (cu8 (encK k) ++ cu8 (tgK k) ++ cu8 (macL k ([101, 110, 116, 114, 117, 115, 116, 32, 116, 105, 99, 107, 101, 116] : List UInt8)) ++ cu8 (macL k ([101, 110, 116, 114, 117, 115, 116, 32, 108, 105, 110, 107] : List UInt8)) ++ [Ptr cb 0]).toArray 145 (0, 0))) (hC : w.heap[cb]? = some (.cells (cu8 (rkL (encK k)) ++ cu8 thereL ++ cu8 backL).toArray 170 (0, 0))) (hpl : p.length = 12) (hp : RdB w [] ap p) (hb : b.length = 32)  : Calls Tryd.prog 102 #[Ptr sb 0, .slice ap 12 cp, .agg (cu8 b).toArray] w (Post w [] (fun v L => v = .agg (cu8 (turnP k p b)).toArray ∧ L = [])) := by
 have hCM : CiphM w [] (some ⟨cb, 0, none⟩) (rkL (encK k)) := CiphM.own (rkL_len _ (encK_len _)) hC
 refine enter w [] 20 [] [Ptr sb 0, .slice ap 12 cp, .agg (cu8 b).toArray] Tryd.func102 rfl rfl (by simp) (Hp.start (by simp) (by simp) (by simp)) ?_
 show JC _ _ _ [(0, Ptr sb 0), (1, .slice ap 12 cp), (2, .agg (cu8 b).toArray)] _
 refine JC_seq ?_
 refine JC_region ?_
 refine JL_step (Step_box (.agg (cu8 b).toArray) (cu8 b) rfl (by first | rfl | simp)) rfl ?_
 rintro v1 L1 ⟨nb1, hnb1, rfl, rfl⟩
 show JL _ _ _ _ ((5, Ptr nb1 0) :: _) [⟨nb1, cu8 b, 74, (0, 0)⟩]
 refine JL_step (Step_alloc _ (cu8 (zr8 32)) Tryd.zeroValue74 (by kernel_rfl)) rfl ?_
 rintro v1 L1 ⟨nb2, hnb2, rfl, rfl⟩
 show JL _ _ _ _ ((6, Ptr nb2 0) :: _) [⟨nb1, cu8 b, 74, (0, 0)⟩, ⟨nb2, cu8 (zr8 32), 74, (0, 0)⟩]
 refine JL_nil ?_
 refine JQ_then ?_
 refine JC_seq ?_
 refine JC_region ?_
 refine JL_step (Step_alloc _ (cu8 (zr8 16)) Tryd.zeroValue54 (by kernel_rfl)) rfl ?_
 rintro v1 L1 ⟨nb3, hnb3, rfl, rfl⟩
 show JL _ _ _ _ ((7, Ptr nb3 0) :: _) [⟨nb1, cu8 b, 74, (0, 0)⟩, ⟨nb2, cu8 (zr8 32), 74, (0, 0)⟩, ⟨nb3, cu8 (zr8 16), 54, (0, 0)⟩]
 refine JL_nil ?_
 refine JQ_then ?_
 refine JC_seq ?_
 refine JC_region ?_
 refine JL_val (Slc nb3 0 16 16) (Ev_sliceA 16 5 1 0 16 0 16 Tryd.underlying54 Tryd.sizeOf5 rfl rfl rfl (by omega) (by omega) (by omega) (by omega) (by omega) 16 (by omega)) rfl ?_
 refine JL_val _ (Ev_move rfl) rfl ?_
 have hl1 : (spl (zr8 16) 0 p).length = 16 := by rw [spl_len (by simp [(zr8_len 16), hpl])]; simp [(zr8_len 16), hpl]
 refine JL_step (Step_copy 22 22 5 2 nb3 0 16 16 (cu8 (zr8 16)) 54 ap 12 cp 12 (cu8 p) (cu8 (spl (zr8 16) 0 p)) Tryd.underlying22 Tryd.size1_5 rfl rfl rfl rfl (by simp [hpl]; try omega) (hp.src) (by simp [(zr8_len 16)]; try omega) (by first | exact one_u8 | exact one_u32 | exact one_u64 | (simp [cu8, cu32, cu64, Value.oneCell']; done)) (laySpl8 _ _ _ (by simp [(zr8_len 16), hpl]))) rfl ?_
 rintro v1 L1 ⟨rfl, rfl⟩
 show JL _ _ _ _ ((10, I64 (12:Int)) :: _) [⟨nb1, cu8 b, 74, (0, 0)⟩, ⟨nb2, cu8 (zr8 32), 74, (0, 0)⟩, ⟨nb3, cu8 (spl (zr8 16) 0 p), 54, (0, 0)⟩]
 refine JL_nil ?_
 refine JQ_then ?_
 refine JC_seq ?_
 have hs12 : spl (zr8 16) 0 p = p ++ zr8 4 := spl12 hpl
 have hl12 : (p ++ zr8 4).length = 16 := ctr12 hpl
 rw [hs12]
 clear hs12
 show JC _ _ _ _ [⟨nb1, cu8 b, 74, (0, 0)⟩, ⟨nb2, cu8 (zr8 32), 74, (0, 0)⟩, ⟨nb3, cu8 (p ++ zr8 4), 54, (0, 0)⟩]
 refine JC_draw 20 3 [(0, Ptr sb 0), (1, Ptr sb 0), (2, Ptr sb 112), (3, Ptr cb 0), (4, .agg (cu8 (p ++ zr8 4)).toArray), (5, Slc nb1 0 32 32)] Tryd.mixed rfl (by decide +kernel) ?_
 refine DP_one ⟨[], [0, 1, 2, 3, 4, 5], [], [0, 1, 2, 3, 4, 5], [6]⟩ 6 _ rfl rfl (by decide +kernel) rfl ⟨⟨_, rfl, Qok_val rfl (Ev_move rfl)⟩, ⟨_, rfl, Qok_val rfl (Ev_nilCheck rfl)⟩, ⟨_, rfl, Qok_val rfl (Ev_fieldAddr 112 142 1 Tryd.underlying145 rfl Tryd.sizeOf142 rfl rfl)⟩, ⟨_, rfl, Qok_val rfl (Ev_load rfl (Ld_one Tryd.isAgg142 (MemAt.seg (MemAt.heap hS (by simp)) (Seg.right 112 0 (by simp [(encK_len _), (tgK_len _), (macL_len _ _), (macL_len _ _)]) rfl (Seg.head)) (by omega))))⟩, ⟨_, rfl, Qok_val rfl (Ev_load rfl (Ld_agg Tryd.isAgg54 Tryd.sizeOf54 (len_cu8 hl12) (MemAt.ent 2 rfl (Seg.whole _))))⟩, ⟨_, rfl, Qok_val rfl (Ev_sliceA 32 5 1 0 32 0 32 Tryd.underlying74 Tryd.sizeOf5 rfl rfl rfl (by omega) (by omega) (by omega) (by omega) (by omega) 32 (by omega))⟩, trivial⟩ rfl (Cok_step rfl (Step_callN 125 [Ptr cb 0, .agg (cu8 (p ++ zr8 4)).toArray, Slc nb1 0 32 32] _ (Cl_func [Ptr cb 0, .agg (cu8 (p ++ zr8 4)).toArray, Slc nb1 0 32 32] Tryd.call125 rfl) (fun w1 hw1 => cturn_c (some ⟨cb, 0, none⟩) (some ⟨nb1, 0, none⟩) (rkL (encK k)) (p ++ zr8 4) b 32 32 w1 hl12 (by omega) hb (hCM.at hw1) (RdB.of hw1 (MemAt.ent 0 rfl (Seg.whole _)) (by simp))))) ?_
 rintro v1 L1 ⟨_, ⟨nb4, sp1, cp1, rfl, rfl, hc1, hc2, hc3⟩, rfl⟩
 refine ⟨[(7, Ptr nb4 0), (8, .agg (cu8 (xorN (strT (eBlk (rkL (encK k)) (p ++ zr8 4)) 32) b 32)).toArray)], ?_⟩
 show DP _ _ _ _ _ _ _ _ [⟨nb1, cu8 b, 74, (0, 0)⟩, ⟨nb2, cu8 (zr8 32), 74, (0, 0)⟩, ⟨nb3, cu8 (p ++ zr8 4), 54, (0, 0)⟩, ⟨nb4, cu8 (xorN (strT (eBlk (rkL (encK k)) (p ++ zr8 4)) 32) b 32) ++ sp1, 5, (0, 0)⟩]
 refine DP_one ⟨[6], [0, 1, 2, 3, 4, 5, 7, 8], [0, 1, 2, 3, 4, 5], [7, 8], [9]⟩ 9 _ rfl rfl (by decide +kernel) rfl ⟨⟨_, rfl, Qok_val rfl (Ev_s2ap 32 Tryd.underlying74 rfl (by omega))⟩, ⟨_, rfl, Qok_val rfl (Ev_load rfl (Ld_agg Tryd.isAgg74 Tryd.sizeOf74 (len_cu8 ((xorN_len _ _ _).trans (strT_len (fun k => eBlk_len hl12 k) 32))) (MemAt.ent 3 rfl (Seg.left (Seg.whole _)))))⟩, trivial⟩ rfl (Cok_step rfl (Step_store 1 nb2 0 32 (cu8 (zr8 32)) 74 (.agg (cu8 (xorN (strT (eBlk (rkL (encK k)) (p ++ zr8 4)) 32) b 32)).toArray) (cu8 (xorN (strT (eBlk (rkL (encK k)) (p ++ zr8 4)) 32) b 32)) (cu8 (xorN (strT (eBlk (rkL (encK k)) (p ++ zr8 4)) 32) b 32)) rfl rfl rfl (by first | rfl | simp) Tryd.sizeOf74 (len_cu8 ((xorN_len _ _ _).trans (strT_len (fun k => eBlk_len hl12 k) 32))) (by first | exact one_u8 | exact one_u32 | exact one_u64 | (simp [cu8, cu32, cu64, Value.oneCell']; done)) (by simp [(zr8_len 32)]) (lay_whole (by simp [(zr8_len 32), ((xorN_len _ _ _).trans (strT_len (fun k => eBlk_len hl12 k) 32))])))) ?_
 rintro v1 L1 ⟨rfl, rfl⟩
 refine ⟨[], ?_⟩
 show DP _ _ _ _ _ _ _ _ [⟨nb1, cu8 b, 74, (0, 0)⟩, ⟨nb2, cu8 (xorN (strT (eBlk (rkL (encK k)) (p ++ zr8 4)) 32) b 32), 74, (0, 0)⟩, ⟨nb3, cu8 (p ++ zr8 4), 54, (0, 0)⟩, ⟨nb4, cu8 (xorN (strT (eBlk (rkL (encK k)) (p ++ zr8 4)) 32) b 32) ++ sp1, 5, (0, 0)⟩]
 refine DP_end ⟨[6, 9], [0, 1, 2, 3, 4, 5, 7, 8], [0, 1, 2, 3, 4, 5, 7, 8], [], []⟩ rfl rfl (by decide +kernel) rfl trivial ?_
 refine K_sub (F' := [(6, Ptr nb2 0)]) (Sub.cons (by kernel_rfl) (Sub.nil)) ?_
 show JQ _ _ _ [(6, Ptr nb2 0)] _
 refine JQ_then ?_
 refine JC_ret ?_
 refine K_mask [false, true, false, false] ?_
 show JQ _ _ _ _ [⟨nb2, cu8 (xorN (strT (eBlk (rkL (encK k)) (p ++ zr8 4)) 32) b 32), 74, (0, 0)⟩]
 refine JQ_ret (.agg (cu8 (xorN (strT (eBlk (rkL (encK k)) (p ++ zr8 4)) 32) b 32)).toArray) (res1 Tryd.results102 (RV_cell rfl (Ld_agg Tryd.isAgg74 Tryd.sizeOf74 (len_cu8 ((xorN_len _ _ _).trans (strT_len (fun k => eBlk_len hl12 k) 32))) (MemAt.ent 0 rfl (Seg.whole _))))) fun w1 hw1 => ?_
 exact ⟨_, [], rfl, ⟨by first | rfl | (rw [turnP]; done), rfl⟩, hw1.sub (by simp) (by simp)⟩
theorem tag_c (sb cb : Nat) (k : List UInt8) (ap : Option Addr) (cp : Nat) (p : List UInt8) (d : List UInt8) (w : World) (hk : k.length = 16) (hS : w.heap[sb]? = some (.cells (cu8 (encK k) ++ cu8 (tgK k) ++ cu8 (macL k ([101, 110, 116, 114, 117, 115, 116, 32, 116, 105, 99, 107, 101, 116] : List UInt8)) ++ cu8 (macL k ([101, 110, 116, 114, 117, 115, 116, 32, 108, 105, 110, 107] : List UInt8)) ++ [Ptr cb 0]).toArray 145 (0, 0))) (hC : w.heap[cb]? = some (.cells (cu8 (rkL (encK k)) ++ cu8 thereL ++ cu8 backL).toArray 170 (0, 0))) (hpl : p.length = 12) (hp : RdB w [] ap p) (hd : d.length = 32) (hG : GLs w)  : Calls Tryd.prog 103 #[Ptr sb 0, .slice ap 12 cp, .agg (cu8 d).toArray] w (Post w [] (fun v L => ∃ g sp cap, v = Slc g 0 16 cap ∧ L = [⟨g, cu8 (tagP k p d) ++ sp, 5, (0, 0)⟩] ∧ sp.length = cap - 16 ∧ 16 ≤ cap ∧ cap ≤ maxLen)) := by
 refine enter w [] 16 [] [Ptr sb 0, .slice ap 12 cp, .agg (cu8 d).toArray] Tryd.func103 rfl rfl (by simp) (Hp.start (by simp) (by simp) (by simp)) ?_
 show JC _ _ _ [(0, Ptr sb 0), (1, .slice ap 12 cp), (2, .agg (cu8 d).toArray)] _
 refine JC_seq ?_
 refine JC_region ?_
 refine JL_step (Step_box (.agg (cu8 d).toArray) (cu8 d) rfl (by first | rfl | simp)) rfl ?_
 rintro v1 L1 ⟨nb1, hnb1, rfl, rfl⟩
 show JL _ _ _ _ ((5, Ptr nb1 0) :: _) [⟨nb1, cu8 d, 74, (0, 0)⟩]
 refine JL_val _ (Ev_assign rfl) rfl ?_
 refine JL_nil ?_
 refine JQ_then ?_
 refine JC_seq ?_
 refine JC_draw 16 3 [(0, Ptr sb 0), (1, Ptr sb 0), (2, Ptr sb 0), (3, Ptr sb 16), (4, Slc sb 16 32 32), (5, .slice ap 12 cp), (6, Slc nb1 0 32 32)] Tryd.mixed rfl (by decide +kernel) ?_
 refine DP_one ⟨[], [0, 1, 2, 3, 4, 5, 6], [], [0, 1, 2, 3, 4, 5, 6], [7]⟩ 7 _ rfl rfl (by decide +kernel) rfl ⟨⟨_, rfl, Qok_val rfl (Ev_move rfl)⟩, ⟨_, rfl, Qok_val rfl (Ev_nilCheck rfl)⟩, ⟨_, rfl, Qok_val rfl (Ev_fieldAddr 0 61 112 Tryd.underlying145 rfl Tryd.sizeOf61 rfl rfl)⟩, ⟨_, rfl, Qok_val rfl (Ev_fieldAddr 16 25 32 Tryd.underlying61 rfl Tryd.sizeOf25 rfl rfl)⟩, ⟨_, rfl, Qok_val rfl (Ev_sliceA 32 5 1 0 32 16 32 Tryd.underlying25 Tryd.sizeOf5 rfl rfl rfl (by omega) (by omega) (by omega) (by omega) (by omega) 32 (by omega))⟩, ⟨_, rfl, Qok_val rfl (Ev_move rfl)⟩, ⟨_, rfl, Qok_val rfl (Ev_sliceA 32 5 1 0 32 0 32 Tryd.underlying74 Tryd.sizeOf5 rfl rfl rfl (by omega) (by omega) (by omega) (by omega) (by omega) 32 (by omega))⟩, trivial⟩ rfl (Cok_step rfl (Step_buildSlice 22 1 _ [(0, .slice ap 12 cp), (1, Slc nb1 0 32 32)] ([.slice ap 12 cp, Slc nb1 0 32 32]) Tryd.underlying125 Tryd.sizeOf22 Tryd.zeroValue22 rfl rfl rfl (by kernel_rfl))) ?_
 rintro v1 L1 ⟨nb2, hnb2, rfl, rfl⟩
 refine ⟨[], ?_⟩
 show DP _ _ _ _ _ _ _ _ [⟨nb1, cu8 d, 74, (0, 0)⟩, ⟨nb2, [.slice ap 12 cp, Slc nb1 0 32 32], 22, (0, 0)⟩]
 refine DP_one ⟨[7], [0, 1, 2, 3, 4, 5, 6], [5, 6], [0, 1, 2, 3, 4], [8]⟩ 8 _ rfl rfl (by decide +kernel) rfl ⟨⟨_, rfl, Qok_val rfl (Ev_move rfl)⟩, ⟨_, rfl, Qok_val rfl (Ev_nilCheck rfl)⟩, ⟨_, rfl, Qok_val rfl (Ev_fieldAddr 0 61 112 Tryd.underlying145 rfl Tryd.sizeOf61 rfl rfl)⟩, ⟨_, rfl, Qok_val rfl (Ev_fieldAddr 16 25 32 Tryd.underlying61 rfl Tryd.sizeOf25 rfl rfl)⟩, ⟨_, rfl, Qok_val rfl (Ev_sliceA 32 5 1 0 32 16 32 Tryd.underlying25 Tryd.sizeOf5 rfl rfl rfl (by omega) (by omega) (by omega) (by omega) (by omega) 32 (by omega))⟩, trivial⟩ rfl (Cok_step rfl (Step_callN 40 [Slc sb 16 32 32, Slc nb2 0 2 2] _ (Cl_func [Slc sb 16 32 32, Slc nb2 0 2 2] Tryd.call40 rfl) (fun w1 hw1 => short_c (some ⟨sb, 16, none⟩) 32 32 (tgK k) nb2 2 [.slice ap 12 cp, Slc nb1 0 32 32] [p, d] w1 (tgK_len _) (fun h => by cases h) (by omega) (RdB.of hw1 (MemAt.seg (MemAt.heap hS (by simp)) (Seg.left (Seg.left (Seg.left (Seg.right 16 0 (by simp [(encK_len _)]) rfl (Seg.whole _))))) (by omega)) (by simp)) (by simp) (by simp) (by simp) ⟨RdA.of hw1 (MemAt.ent 1 rfl (Seg.whole _)) (by simp), ⟨⟨ap, cp, congrArg (fun n => Value.slice ap n cp) (hpl).symm, (hp.at (M' := []) hw1 (by simp))⟩, ⟨⟨(some ⟨nb1, 0, none⟩), 32, congrArg (fun n => Value.slice (some ⟨nb1, 0, none⟩) n 32) (hd).symm, (RdB.of hw1 (MemAt.ent 0 rfl (Seg.whole _)) (by simp))⟩, trivial⟩⟩⟩ (by simp only [List.flatten_cons, List.flatten_nil, List.length_append, List.length_nil, hpl, hd]; omega) (hG.at hw1)))) ?_
 rintro v1 L1 ⟨_, ⟨nb3, sp1, cp1, rfl, rfl, hc1, hc2, hc3⟩, rfl⟩
 refine ⟨[(9, Slc nb3 0 16 cp1)], ?_⟩
 show DP _ _ _ _ _ _ _ _ [⟨nb1, cu8 d, 74, (0, 0)⟩, ⟨nb2, [.slice ap 12 cp, Slc nb1 0 32 32], 22, (0, 0)⟩, ⟨nb3, cu8 (mid (macL (tgK k) ([p, d].flatten)) 0 16) ++ sp1, 5, (0, 0)⟩]
 refine DP_end ⟨[7, 8], [0, 1, 2, 3, 4, 5, 6, 9], [0, 1, 2, 3, 4, 5, 6], [9], []⟩ rfl rfl (by decide +kernel) rfl ⟨⟨_, rfl, Qok_val rfl (Ev_assign rfl)⟩, trivial⟩ ?_
 refine K_sub (F' := [(6, Slc nb3 0 16 cp1)]) (Sub.cons (by kernel_rfl) (Sub.nil)) ?_
 show JQ _ _ _ [(6, Slc nb3 0 16 cp1)] _
 refine JQ_then ?_
 refine JC_ret ?_
 refine K_mask [false, false, true] ?_
 show JQ _ _ _ _ [⟨nb3, cu8 (mid (macL (tgK k) ([p, d].flatten)) 0 16) ++ sp1, 5, (0, 0)⟩]
 refine JQ_ret (Slc nb3 0 16 cp1) (res1 Tryd.results103 (RV_tmp rfl)) fun w1 hw1 => ?_
 have hq : mid (macL (tgK k) ([p, d].flatten)) 0 16 = tagP k p d := by
  unfold tagP
  simp
 rw [hq] at hw1
 exact ⟨_, _, rfl, ⟨nb3, sp1, cp1, rfl, rfl, hc1, hc2, hc3⟩, hw1.sub (by simp) (by simp)⟩
theorem sealB_c (sb cb : Nat) (k : List UInt8) (i e : UInt64) (b : List UInt8)  (w : World) (hk : k.length = 16) (hS : w.heap[sb]? = some (.cells (cu8 (encK k) ++ cu8 (tgK k) ++ cu8 (macL k ([101, 110, 116, 114, 117, 115, 116, 32, 116, 105, 99, 107, 101, 116] : List UInt8)) ++ cu8 (macL k ([101, 110, 116, 114, 117, 115, 116, 32, 108, 105, 110, 107] : List UInt8)) ++ [Ptr cb 0]).toArray 145 (0, 0))) (hC : w.heap[cb]? = some (.cells (cu8 (rkL (encK k)) ++ cu8 thereL ++ cu8 backL).toArray 170 (0, 0))) (hb : b.length = 32) (hrt : RightB i e = false)  : Calls Tryd.prog 58 #[Ptr sb 0, U64 i, U64 e, .agg (cu8 b).toArray] w (Post w [] (fun v L => v = .tuple #[.agg (List.toArray (α := Value) ([U64 (0:UInt64)] ++ cu8 (zr8 32) ++ cu8 (zr8 16))), .iface 43 (I64 1)] ∧ L = [])) := by
 refine enter w [] 38 [] [Ptr sb 0, U64 i, U64 e, .agg (cu8 b).toArray] Tryd.func58 rfl rfl (by simp) (Hp.start (by simp) (by simp) (by simp)) ?_
 show JC _ _ _ [(0, Ptr sb 0), (1, U64 i), (2, U64 e), (3, .agg (cu8 b).toArray)] _
 refine JC_seq ?_
 refine JC_region ?_
 refine JL_step (Step_box (.agg (cu8 b).toArray) (cu8 b) rfl (by first | rfl | simp)) rfl ?_
 rintro v1 L1 ⟨nb1, hnb1, rfl, rfl⟩
 show JL _ _ _ _ ((7, Ptr nb1 0) :: _) [⟨nb1, cu8 b, 74, (0, 0)⟩]
 refine JL_step (Step_alloc _ ([U64 (0:UInt64)] ++ cu8 (zr8 32) ++ cu8 (zr8 16)) Tryd.zeroValue76 (by kernel_rfl)) rfl ?_
 rintro v1 L1 ⟨nb2, hnb2, rfl, rfl⟩
 show JL _ _ _ _ ((8, Ptr nb2 0) :: _) [⟨nb1, cu8 b, 74, (0, 0)⟩, ⟨nb2, [U64 (0:UInt64)] ++ cu8 (zr8 32) ++ cu8 (zr8 16), 76, (0, 0)⟩]
 refine JL_val _ (Ev_assign rfl) rfl ?_
 refine JL_nil ?_
 refine JQ_then ?_
 refine JC_seq ?_
 refine JC_seq ?_
 refine JC_region ?_
 refine JL_val _ (Ev_move rfl) rfl ?_
 refine JL_val _ (Ev_move rfl) rfl ?_
 refine JL_step (Step_callP 60 [U64 i, U64 e] (.bool (RightB i e)) (Cl_func [U64 i, U64 e] Tryd.call60 rfl) (fun w1 hw1 => right_c i e w1 )) rfl ?_
 rintro v1 L1 ⟨rfl, rfl⟩
 show JL _ _ _ _ ((14, .bool (RightB i e)) :: _) [⟨nb1, cu8 b, 74, (0, 0)⟩, ⟨nb2, [U64 (0:UInt64)] ++ cu8 (zr8 32) ++ cu8 (zr8 16), 76, (0, 0)⟩]
 refine JL_val (.bool (!(RightB i e))) (Ev_not rfl) rfl ?_
 refine JL_nil ?_
 refine JQ_then ?_
 refine JC_condT _ rfl (by rw [show (RightB i e) = false from hrt] <;> rfl) ?_
 refine JC_seq ?_
 refine JC_region ?_
 refine JL_val (.agg (List.toArray (α := Value) ([U64 (0:UInt64)] ++ cu8 (zr8 32) ++ cu8 (zr8 16)))) (Ev_build [] _ rfl (fun _ => by kernel_rfl)) rfl ?_
 refine JL_val (.iface 43 (I64 (1:Int))) (Ev_iface Tryd.underlying43 rfl rfl) rfl ?_
 refine JL_step (Step_store 1 nb2 0 49 ([U64 (0:UInt64)] ++ cu8 (zr8 32) ++ cu8 (zr8 16)) 76 (.agg (List.toArray (α := Value) ([U64 (0:UInt64)] ++ cu8 (zr8 32) ++ cu8 (zr8 16)))) ([U64 (0:UInt64)] ++ cu8 (zr8 32) ++ cu8 (zr8 16)) ([U64 (0:UInt64)] ++ cu8 (zr8 32) ++ cu8 (zr8 16)) rfl rfl rfl (by first | rfl | simp) Tryd.sizeOf76 (by simp [(zr8_len 32), (zr8_len 16)]) (one_app (one_app (by simp [Value.oneCell']) one_u8) one_u8) (by simp [(zr8_len 32), (zr8_len 16)]) (lay_whole (by simp [(zr8_len 32), (zr8_len 16), (zr8_len 32), (zr8_len 16)]))) rfl ?_
 rintro v1 L1 ⟨rfl, rfl⟩
 show JL _ _ _ _ _ [⟨nb1, cu8 b, 74, (0, 0)⟩, ⟨nb2, [U64 (0:UInt64)] ++ cu8 (zr8 32) ++ cu8 (zr8 16), 76, (0, 0)⟩]
 refine JL_val _ (Ev_assign rfl) rfl ?_
 refine JL_nil ?_
 refine JQ_then ?_
 refine JC_ret ?_
 refine JQ_then_ret ?_
 refine K_mask [false, true] ?_
 show JQ _ _ _ _ [⟨nb2, [U64 (0:UInt64)] ++ cu8 (zr8 32) ++ cu8 (zr8 16), 76, (0, 0)⟩]
 refine JQ_ret (.tuple #[.agg (List.toArray (α := Value) ([U64 (0:UInt64)] ++ cu8 (zr8 32) ++ cu8 (zr8 16))), .iface 43 (I64 (1:Int))]) (res2 Tryd.results58 (RV_cell rfl (Ld_agg Tryd.isAgg76 Tryd.sizeOf76 (by simp [(zr8_len 32), (zr8_len 16)]) (MemAt.ent 0 rfl (Seg.whole _)))) (RV_tmp rfl)) fun w1 hw1 => ?_
 exact ⟨_, [], rfl, ⟨rfl, rfl⟩, hw1.sub (by simp) (by simp)⟩
theorem sealO_c (sb cb : Nat) (k : List UInt8) (i e : UInt64) (b : List UInt8)  (w : World) (hk : k.length = 16) (hS : w.heap[sb]? = some (.cells (cu8 (encK k) ++ cu8 (tgK k) ++ cu8 (macL k ([101, 110, 116, 114, 117, 115, 116, 32, 116, 105, 99, 107, 101, 116] : List UInt8)) ++ cu8 (macL k ([101, 110, 116, 114, 117, 115, 116, 32, 108, 105, 110, 107] : List UInt8)) ++ [Ptr cb 0]).toArray 145 (0, 0))) (hC : w.heap[cb]? = some (.cells (cu8 (rkL (encK k)) ++ cu8 thereL ++ cu8 backL).toArray 170 (0, 0))) (hb : b.length = 32) (hrt : RightB i e = true) (hG : GLs w)  : Calls Tryd.prog 58 #[Ptr sb 0, U64 i, U64 e, .agg (cu8 b).toArray] w (Post w [] (fun v L => v = .tuple #[.agg (List.toArray (α := Value) ([U64 e] ++ cu8 (turnP k (placeT i e) b) ++ cu8 (tagP k (placeT i e) (turnP k (placeT i e) b)))), .nilIface] ∧ L = [])) := by
 refine enter w [] 38 [] [Ptr sb 0, U64 i, U64 e, .agg (cu8 b).toArray] Tryd.func58 rfl rfl (by simp) (Hp.start (by simp) (by simp) (by simp)) ?_
 show JC _ _ _ [(0, Ptr sb 0), (1, U64 i), (2, U64 e), (3, .agg (cu8 b).toArray)] _
 refine JC_seq ?_
 refine JC_region ?_
 refine JL_step (Step_box (.agg (cu8 b).toArray) (cu8 b) rfl (by first | rfl | simp)) rfl ?_
 rintro v1 L1 ⟨nb1, hnb1, rfl, rfl⟩
 show JL _ _ _ _ ((7, Ptr nb1 0) :: _) [⟨nb1, cu8 b, 74, (0, 0)⟩]
 refine JL_step (Step_alloc _ ([U64 (0:UInt64)] ++ cu8 (zr8 32) ++ cu8 (zr8 16)) Tryd.zeroValue76 (by kernel_rfl)) rfl ?_
 rintro v1 L1 ⟨nb2, hnb2, rfl, rfl⟩
 show JL _ _ _ _ ((8, Ptr nb2 0) :: _) [⟨nb1, cu8 b, 74, (0, 0)⟩, ⟨nb2, [U64 (0:UInt64)] ++ cu8 (zr8 32) ++ cu8 (zr8 16), 76, (0, 0)⟩]
 refine JL_val _ (Ev_assign rfl) rfl ?_
 refine JL_nil ?_
 refine JQ_then ?_
 refine JC_seq ?_
 refine JC_seq ?_
 refine JC_region ?_
 refine JL_val _ (Ev_move rfl) rfl ?_
 refine JL_val _ (Ev_move rfl) rfl ?_
 refine JL_step (Step_callP 60 [U64 i, U64 e] (.bool (RightB i e)) (Cl_func [U64 i, U64 e] Tryd.call60 rfl) (fun w1 hw1 => right_c i e w1 )) rfl ?_
 rintro v1 L1 ⟨rfl, rfl⟩
 show JL _ _ _ _ ((14, .bool (RightB i e)) :: _) [⟨nb1, cu8 b, 74, (0, 0)⟩, ⟨nb2, [U64 (0:UInt64)] ++ cu8 (zr8 32) ++ cu8 (zr8 16), 76, (0, 0)⟩]
 refine JL_val (.bool (!(RightB i e))) (Ev_not rfl) rfl ?_
 refine JL_nil ?_
 refine JQ_then ?_
 refine JC_condF _ rfl (by rw [show (RightB i e) = true from hrt] <;> rfl) ?_
 refine JC_skip ?_
 refine JQ_then ?_
 refine JC_seq ?_
 refine JC_region ?_
 refine JL_val _ (Ev_move rfl) rfl ?_
 refine JL_step (Step_callP 100 [Ptr sb 0] (Ptr sb 0) (Cl_func [Ptr sb 0] Tryd.call100 rfl) (fun w1 hw1 => ofS_c sb w1)) rfl ?_
 rintro v1 L1 ⟨rfl, rfl⟩
 show JL _ _ _ _ ((19, Ptr sb 0) :: _) [⟨nb1, cu8 b, 74, (0, 0)⟩, ⟨nb2, [U64 (0:UInt64)] ++ cu8 (zr8 32) ++ cu8 (zr8 16), 76, (0, 0)⟩]
 refine JL_val _ (Ev_assign rfl) rfl ?_
 refine JL_nil ?_
 refine JQ_then ?_
 refine JC_seq ?_
 refine JC_region ?_
 refine JL_val _ (Ev_move rfl) rfl ?_
 refine JL_val _ (Ev_move rfl) rfl ?_
 refine JL_step (Step_callN 101 [U64 i, U64 e] _ (Cl_func [U64 i, U64 e] Tryd.call101 rfl) (fun w1 hw1 => place_c i e w1 (shr4z (right_not hrt)))) rfl ?_
 rintro v1 L1 ⟨_, ⟨nb3, sp1, cp1, rfl, rfl, hc1, hc2, hc3⟩, rfl⟩
 show JL _ _ _ _ ((22, Slc nb3 0 12 cp1) :: _) [⟨nb1, cu8 b, 74, (0, 0)⟩, ⟨nb2, [U64 (0:UInt64)] ++ cu8 (zr8 32) ++ cu8 (zr8 16), 76, (0, 0)⟩, ⟨nb3, cu8 (placeT i e) ++ sp1, 5, (0, 0)⟩]
 refine JL_val _ (Ev_assign rfl) rfl ?_
 refine JL_nil ?_
 refine JQ_then ?_
 refine JC_seq ?_
 refine JC_region ?_
 refine JL_val _ (Ev_move rfl) rfl ?_
 refine JL_val _ (Ev_move rfl) rfl ?_
 refine JL_val _ (Ev_move rfl) rfl ?_
 refine JL_val (.agg (cu8 b).toArray) (Ev_load rfl (Ld_agg Tryd.isAgg74 Tryd.sizeOf74 (len_cu8 hb) (MemAt.ent 0 rfl (Seg.whole _)))) rfl ?_
 refine JL_step (Step_callP 102 [Ptr sb 0, Slc nb3 0 12 cp1, .agg (cu8 b).toArray] (.agg (cu8 (turnP k (placeT i e) b)).toArray) (Cl_func [Ptr sb 0, Slc nb3 0 12 cp1, .agg (cu8 b).toArray] Tryd.call102 rfl) (fun w1 hw1 => turned_c sb cb k (some ⟨nb3, 0, none⟩) cp1 (placeT i e) b w1 hk (hw1.heap hS (by simp)) (hw1.heap hC (by simp)) (show (placeT i e).length = 12 from (placeT_len _ _)) (RdB.of hw1 (MemAt.ent 2 rfl (Seg.left (Seg.whole _))) (by simp)) hb)) rfl ?_
 rintro v1 L1 ⟨rfl, rfl⟩
 show JL _ _ _ _ ((27, .agg (cu8 (turnP k (placeT i e) b)).toArray) :: _) [⟨nb1, cu8 b, 74, (0, 0)⟩, ⟨nb2, [U64 (0:UInt64)] ++ cu8 (zr8 32) ++ cu8 (zr8 16), 76, (0, 0)⟩, ⟨nb3, cu8 (placeT i e) ++ sp1, 5, (0, 0)⟩]
 refine JL_val (.agg (List.toArray (α := Value) ([U64 e] ++ cu8 (turnP k (placeT i e) b) ++ cu8 (zr8 16)))) (Ev_build [(0, U64 e), (1, .agg (cu8 (turnP k (placeT i e) b)).toArray)] _ rfl (fun _ => run_build_structL (places := #[(0, 1), (1, 32), (33, 16)]) (Z := (([U64 (0:UInt64)] : List Value) ++ ((cu8 (zr8 32) : List Value) ++ ((cu8 (zr8 16) : List Value) ++ [])))) (fun _ => by kernel_rfl) Tryd.underlying76 (fun _ => by kernel_rfl) ((fill_start ([U64 (0:UInt64)] : List Value) ((cu8 (zr8 32) : List Value) ++ ((cu8 (zr8 16) : List Value) ++ [])) ([U64 e] : List Value) rfl (by simp [zr8_len]) (by simp [zr8_len])).trans ((fill_step ([U64 e] : List Value) (cu8 (zr8 32) : List Value) ((cu8 (zr8 16) : List Value) ++ []) (cu8 (turnP k (placeT i e) b) : List Value) rfl (by simp [zr8_len, (turnP_len _ _ (show (placeT i e).length = 12 from (placeT_len _ _)))]) (by simp [zr8_len, (turnP_len _ _ (show (placeT i e).length = 12 from (placeT_len _ _)))])).trans ((fill_skip (([U64 e] : List Value) ++ (cu8 (turnP k (placeT i e) b) : List Value)) (cu8 (zr8 16) : List Value) []).trans (by simp [Instr.fill])))))) rfl ?_
 refine JL_step (Step_alloc _ ([U64 (0:UInt64)] ++ cu8 (zr8 32) ++ cu8 (zr8 16)) Tryd.zeroValue76 (by kernel_rfl)) rfl ?_
 rintro v1 L1 ⟨nb4, hnb4, rfl, rfl⟩
 show JL _ _ _ _ ((11, Ptr nb4 0) :: _) [⟨nb1, cu8 b, 74, (0, 0)⟩, ⟨nb2, [U64 (0:UInt64)] ++ cu8 (zr8 32) ++ cu8 (zr8 16), 76, (0, 0)⟩, ⟨nb3, cu8 (placeT i e) ++ sp1, 5, (0, 0)⟩, ⟨nb4, [U64 (0:UInt64)] ++ cu8 (zr8 32) ++ cu8 (zr8 16), 76, (0, 0)⟩]
 refine JL_step (Step_store 3 nb4 0 49 ([U64 (0:UInt64)] ++ cu8 (zr8 32) ++ cu8 (zr8 16)) 76 (.agg (List.toArray (α := Value) ([U64 e] ++ cu8 (turnP k (placeT i e) b) ++ cu8 (zr8 16)))) ([U64 e] ++ cu8 (turnP k (placeT i e) b) ++ cu8 (zr8 16)) ([U64 e] ++ cu8 (turnP k (placeT i e) b) ++ cu8 (zr8 16)) rfl rfl rfl (by first | rfl | simp) Tryd.sizeOf76 (by simp [(turnP_len _ _ (show (placeT i e).length = 12 from (placeT_len _ _))), (zr8_len 16)]) (one_app (one_app (by simp [Value.oneCell']) one_u8) one_u8) (by simp [(zr8_len 32), (zr8_len 16)]) (lay_whole (by simp [(zr8_len 32), (zr8_len 16), (turnP_len _ _ (show (placeT i e).length = 12 from (placeT_len _ _))), (zr8_len 16)]))) rfl ?_
 rintro v1 L1 ⟨rfl, rfl⟩
 show JL _ _ _ _ _ [⟨nb1, cu8 b, 74, (0, 0)⟩, ⟨nb2, [U64 (0:UInt64)] ++ cu8 (zr8 32) ++ cu8 (zr8 16), 76, (0, 0)⟩, ⟨nb3, cu8 (placeT i e) ++ sp1, 5, (0, 0)⟩, ⟨nb4, [U64 e] ++ cu8 (turnP k (placeT i e) b) ++ cu8 (zr8 16), 76, (0, 0)⟩]
 refine JL_nil ?_
 refine JQ_then ?_
 refine JC_seq ?_
 refine JC_draw 38 3 [(0, Ptr nb4 33), (1, Slc nb4 33 16 16), (2, Ptr sb 0), (3, Slc nb3 0 12 cp1), (4, Ptr nb4 1), (5, .agg (cu8 (turnP k (placeT i e) b)).toArray)] Tryd.mixed rfl (by decide +kernel) ?_
 refine DP_one ⟨[], [0, 1, 2, 3, 4, 5], [], [0, 1, 2, 3, 4, 5], [6]⟩ 6 _ rfl rfl (by decide +kernel) rfl ⟨⟨_, rfl, Qok_val rfl (Ev_fieldAddr 33 54 16 Tryd.underlying76 rfl Tryd.sizeOf54 rfl rfl)⟩, ⟨_, rfl, Qok_val rfl (Ev_sliceA 16 5 1 0 16 33 16 Tryd.underlying54 Tryd.sizeOf5 rfl rfl rfl (by omega) (by omega) (by omega) (by omega) (by omega) 16 (by omega))⟩, ⟨_, rfl, Qok_val rfl (Ev_move rfl)⟩, ⟨_, rfl, Qok_val rfl (Ev_move rfl)⟩, ⟨_, rfl, Qok_val rfl (Ev_fieldAddr 1 74 32 Tryd.underlying76 rfl Tryd.sizeOf74 rfl rfl)⟩, ⟨_, rfl, Qok_val rfl (Ev_load rfl (Ld_agg Tryd.isAgg74 Tryd.sizeOf74 (len_cu8 (turnP_len _ _ (show (placeT i e).length = 12 from (placeT_len _ _)))) (MemAt.ent 3 rfl (Seg.left (Seg.right 1 0 rfl rfl (Seg.whole _))))))⟩, trivial⟩ rfl (Cok_step rfl (Step_callN 103 [Ptr sb 0, Slc nb3 0 12 cp1, .agg (cu8 (turnP k (placeT i e) b)).toArray] _ (Cl_func [Ptr sb 0, Slc nb3 0 12 cp1, .agg (cu8 (turnP k (placeT i e) b)).toArray] Tryd.call103 rfl) (fun w1 hw1 => tag_c sb cb k (some ⟨nb3, 0, none⟩) cp1 (placeT i e) (turnP k (placeT i e) b) w1 hk (hw1.heap hS (by simp)) (hw1.heap hC (by simp)) (show (placeT i e).length = 12 from (placeT_len _ _)) (RdB.of hw1 (MemAt.ent 2 rfl (Seg.left (Seg.whole _))) (by simp)) (turnP_len _ _ (show (placeT i e).length = 12 from (placeT_len _ _))) (hG.at hw1)))) ?_
 rintro v1 L1 ⟨_, ⟨nb5, sp2, cp2, rfl, rfl, hc4, hc5, hc6⟩, rfl⟩
 refine ⟨[], ?_⟩
 show DP _ _ _ _ _ _ _ _ [⟨nb1, cu8 b, 74, (0, 0)⟩, ⟨nb2, [U64 (0:UInt64)] ++ cu8 (zr8 32) ++ cu8 (zr8 16), 76, (0, 0)⟩, ⟨nb3, cu8 (placeT i e) ++ sp1, 5, (0, 0)⟩, ⟨nb4, [U64 e] ++ cu8 (turnP k (placeT i e) b) ++ cu8 (zr8 16), 76, (0, 0)⟩, ⟨nb5, cu8 (tagP k (placeT i e) (turnP k (placeT i e) b)) ++ sp2, 5, (0, 0)⟩]
 refine DP_one ⟨[6], [0, 1, 2, 3, 4, 5], [2, 3, 4, 5], [0, 1], [7]⟩ 7 _ rfl rfl (by decide +kernel) rfl ⟨⟨_, rfl, Qok_val rfl (Ev_fieldAddr 33 54 16 Tryd.underlying76 rfl Tryd.sizeOf54 rfl rfl)⟩, ⟨_, rfl, Qok_val rfl (Ev_sliceA 16 5 1 0 16 33 16 Tryd.underlying54 Tryd.sizeOf5 rfl rfl rfl (by omega) (by omega) (by omega) (by omega) (by omega) 16 (by omega))⟩, trivial⟩ rfl (Cok_step rfl (Step_copy 22 22 5 3 nb4 33 16 16 ([U64 e] ++ cu8 (turnP k (placeT i e) b) ++ cu8 (zr8 16)) 76 (some ⟨nb5, 0, none⟩) 16 cp2 16 (cu8 (tagP k (placeT i e) (turnP k (placeT i e) b))) ([U64 e] ++ cu8 (turnP k (placeT i e) b) ++ cu8 (tagP k (placeT i e) (turnP k (placeT i e) b))) Tryd.underlying22 Tryd.size1_5 rfl rfl rfl rfl (by simp [(show (tagP k (placeT i e) (turnP k (placeT i e) b)).length = 16 from (tagP_len _ _ _))]; try omega) (SrcAt.mem (MemAt.ent 4 rfl (Seg.left (Seg.whole _)))) (by simp [(turnP_len _ _ (show (placeT i e).length = 12 from (placeT_len _ _))), (zr8_len 16)]; try omega) (by first | exact one_u8 | exact one_u32 | exact one_u64 | (simp [cu8, cu32, cu64, Value.oneCell']; done)) (lay_right 33 0 (by simp [(turnP_len _ _ (show (placeT i e).length = 12 from (placeT_len _ _)))]) rfl (lay_whole (by simp [(zr8_len 16), (show (tagP k (placeT i e) (turnP k (placeT i e) b)).length = 16 from (tagP_len _ _ _))]))))) ?_
 rintro v1 L1 ⟨rfl, rfl⟩
 refine ⟨[], ?_⟩
 show DP _ _ _ _ _ _ _ _ [⟨nb1, cu8 b, 74, (0, 0)⟩, ⟨nb2, [U64 (0:UInt64)] ++ cu8 (zr8 32) ++ cu8 (zr8 16), 76, (0, 0)⟩, ⟨nb3, cu8 (placeT i e) ++ sp1, 5, (0, 0)⟩, ⟨nb4, [U64 e] ++ cu8 (turnP k (placeT i e) b) ++ cu8 (tagP k (placeT i e) (turnP k (placeT i e) b)), 76, (0, 0)⟩, ⟨nb5, cu8 (tagP k (placeT i e) (turnP k (placeT i e) b)) ++ sp2, 5, (0, 0)⟩]
 refine DP_end ⟨[6, 7], [0, 1, 2, 3, 4, 5], [0, 1, 2, 3, 4, 5], [], []⟩ rfl rfl (by decide +kernel) rfl trivial ?_
 refine K_sub (F' := [(8, Ptr nb2 0), (9, .nilIface), (11, Ptr nb4 0)]) (Sub.cons (by kernel_rfl) (Sub.cons (by kernel_rfl) (Sub.cons (by kernel_rfl) (Sub.nil)))) ?_
 show JQ _ _ _ [(8, Ptr nb2 0), (9, .nilIface), (11, Ptr nb4 0)] _
 refine JQ_then ?_
 refine JC_seq ?_
 refine JC_region ?_
 refine JL_val (.agg (List.toArray (α := Value) ([U64 e] ++ cu8 (turnP k (placeT i e) b) ++ cu8 (tagP k (placeT i e) (turnP k (placeT i e) b))))) (Ev_load rfl (Ld_agg Tryd.isAgg76 Tryd.sizeOf76 (by simp [(turnP_len _ _ (show (placeT i e).length = 12 from (placeT_len _ _))), (show (tagP k (placeT i e) (turnP k (placeT i e) b)).length = 16 from (tagP_len _ _ _))]) (MemAt.ent 3 rfl (Seg.whole _)))) rfl ?_
 refine JL_step (Step_store 1 nb2 0 49 ([U64 (0:UInt64)] ++ cu8 (zr8 32) ++ cu8 (zr8 16)) 76 (.agg (List.toArray (α := Value) ([U64 e] ++ cu8 (turnP k (placeT i e) b) ++ cu8 (tagP k (placeT i e) (turnP k (placeT i e) b))))) ([U64 e] ++ cu8 (turnP k (placeT i e) b) ++ cu8 (tagP k (placeT i e) (turnP k (placeT i e) b))) ([U64 e] ++ cu8 (turnP k (placeT i e) b) ++ cu8 (tagP k (placeT i e) (turnP k (placeT i e) b))) rfl rfl rfl (by first | rfl | simp) Tryd.sizeOf76 (by simp [(turnP_len _ _ (show (placeT i e).length = 12 from (placeT_len _ _))), (show (tagP k (placeT i e) (turnP k (placeT i e) b)).length = 16 from (tagP_len _ _ _))]) (one_app (one_app (by simp [Value.oneCell']) one_u8) one_u8) (by simp [(zr8_len 32), (zr8_len 16)]) (lay_whole (by simp [(zr8_len 32), (zr8_len 16), (turnP_len _ _ (show (placeT i e).length = 12 from (placeT_len _ _))), (show (tagP k (placeT i e) (turnP k (placeT i e) b)).length = 16 from (tagP_len _ _ _))]))) rfl ?_
 rintro v1 L1 ⟨rfl, rfl⟩
 show JL _ _ _ _ _ [⟨nb1, cu8 b, 74, (0, 0)⟩, ⟨nb2, [U64 e] ++ cu8 (turnP k (placeT i e) b) ++ cu8 (tagP k (placeT i e) (turnP k (placeT i e) b)), 76, (0, 0)⟩, ⟨nb3, cu8 (placeT i e) ++ sp1, 5, (0, 0)⟩, ⟨nb4, [U64 e] ++ cu8 (turnP k (placeT i e) b) ++ cu8 (tagP k (placeT i e) (turnP k (placeT i e) b)), 76, (0, 0)⟩, ⟨nb5, cu8 (tagP k (placeT i e) (turnP k (placeT i e) b)) ++ sp2, 5, (0, 0)⟩]
 refine JL_val _ (Ev_assign rfl) rfl ?_
 refine JL_nil ?_
 refine JQ_then ?_
 refine JC_ret ?_
 refine K_mask [false, true, false, false, false] ?_
 show JQ _ _ _ _ [⟨nb2, [U64 e] ++ cu8 (turnP k (placeT i e) b) ++ cu8 (tagP k (placeT i e) (turnP k (placeT i e) b)), 76, (0, 0)⟩]
 refine JQ_ret (.tuple #[.agg (List.toArray (α := Value) ([U64 e] ++ cu8 (turnP k (placeT i e) b) ++ cu8 (tagP k (placeT i e) (turnP k (placeT i e) b)))), .nilIface]) (res2 Tryd.results58 (RV_cell rfl (Ld_agg Tryd.isAgg76 Tryd.sizeOf76 (by simp [(turnP_len _ _ (show (placeT i e).length = 12 from (placeT_len _ _))), (show (tagP k (placeT i e) (turnP k (placeT i e) b)).length = 16 from (tagP_len _ _ _))]) (MemAt.ent 0 rfl (Seg.whole _)))) (RV_tmp rfl)) fun w1 hw1 => ?_
 exact ⟨_, [], rfl, ⟨by first | rfl | simp [spl], rfl⟩, hw1.sub (by simp) (by simp)⟩
theorem seal_w (sb cb : Nat) (k : List UInt8) (i e : UInt64) (b : List UInt8) (w : World) (hk : k.length = 16) (hS : w.heap[sb]? = some (.cells (cu8 (encK k) ++ cu8 (tgK k) ++ cu8 (macL k ([101, 110, 116, 114, 117, 115, 116, 32, 116, 105, 99, 107, 101, 116] : List UInt8)) ++ cu8 (macL k ([101, 110, 116, 114, 117, 115, 116, 32, 108, 105, 110, 107] : List UInt8)) ++ [Ptr cb 0]).toArray 145 (0, 0))) (hC : w.heap[cb]? = some (.cells (cu8 (rkL (encK k)) ++ cu8 thereL ++ cu8 backL).toArray 170 (0, 0))) (hb : b.length = 32) (hG : GLs w) : Calls Tryd.prog 58 #[Ptr sb 0, U64 i, U64 e, .agg (cu8 b).toArray] w (Post w [] (fun v L => v = .tuple #[.agg (List.toArray (α := Value) ([U64 (sE i e)] ++ cu8 (sD k i e b) ++ cu8 (sT k i e b))), errV 43 (sealN i e)] ∧ L = [])) := by
 cases hrt : RightB i e with
 | true =>
  have e1 : sE i e = e := by unfold sE; rw [if_pos hrt]
  have e2 : sD k i e b = turnP k (placeT i e) b := by unfold sD; rw [if_pos hrt]
  have e3 : sT k i e b = tagP k (placeT i e) (turnP k (placeT i e) b) := by unfold sT; rw [if_pos hrt]
  have e4 : sealN i e = 0 := by unfold sealN; rw [if_pos hrt]
  rw [e1, e2, e3, e4]
  exact sealO_c sb cb k i e b w hk hS hC hb hrt hG
 | false =>
  have hn : ¬ RightB i e = true := by rw [hrt]; decide
  have e1 : sE i e = 0 := by unfold sE; rw [if_neg hn]
  have e2 : sD k i e b = zr8 32 := by unfold sD; rw [if_neg hn]
  have e3 : sT k i e b = zr8 16 := by unfold sT; rw [if_neg hn]
  have e4 : sealN i e = 1 := by unfold sealN; rw [if_neg hn]
  rw [e1, e2, e3, e4, errV_pos (by decide)]
  exact sealB_c sb cb k i e b w hk hS hC hb hrt
theorem openB_c (sb cb : Nat) (k : List UInt8) (i e : UInt64) (d t : List UInt8)  (w : World) (hk : k.length = 16) (hS : w.heap[sb]? = some (.cells (cu8 (encK k) ++ cu8 (tgK k) ++ cu8 (macL k ([101, 110, 116, 114, 117, 115, 116, 32, 116, 105, 99, 107, 101, 116] : List UInt8)) ++ cu8 (macL k ([101, 110, 116, 114, 117, 115, 116, 32, 108, 105, 110, 107] : List UInt8)) ++ [Ptr cb 0]).toArray 145 (0, 0))) (hC : w.heap[cb]? = some (.cells (cu8 (rkL (encK k)) ++ cu8 thereL ++ cu8 backL).toArray 170 (0, 0))) (hd : d.length = 32) (ht : t.length = 16) (hrt : RightB i e = false)  : Calls Tryd.prog 62 #[Ptr sb 0, U64 i, .agg (List.toArray (α := Value) ([U64 e] ++ cu8 d ++ cu8 t))] w (Post w [] (fun v L => v = .tuple #[.agg (cu8 (zr8 32)).toArray, .iface 43 (I64 1)] ∧ L = [])) := by
 refine enter (P := Tryd.prog) (f := 62) (fn := Tryd.f62) w [] 38 [] [Ptr sb 0, U64 i, .agg (List.toArray (α := Value) ([U64 e] ++ cu8 d ++ cu8 t))] Tryd.func62 rfl rfl (by simp) (Hp.start (by simp) (by simp) (by simp)) ?_
 show JC _ _ _ [(0, Ptr sb 0), (1, U64 i), (2, .agg (List.toArray (α := Value) ([U64 e] ++ cu8 d ++ cu8 t)))] _
 refine JC_seq ?_
 refine JC_region ?_
 refine JL_step (Step_box (.agg (List.toArray (α := Value) ([U64 e] ++ cu8 d ++ cu8 t))) ([U64 e] ++ cu8 d ++ cu8 t) rfl (by first | rfl | simp)) rfl ?_
 rintro v1 L1 ⟨nb1, hnb1, rfl, rfl⟩
 show JL _ _ _ _ ((5, Ptr nb1 0) :: _) [⟨nb1, [U64 e] ++ cu8 d ++ cu8 t, 76, (0, 0)⟩]
 refine JL_step (Step_alloc _ (cu8 (zr8 32)) Tryd.zeroValue74 (by kernel_rfl)) rfl ?_
 rintro v1 L1 ⟨nb2, hnb2, rfl, rfl⟩
 show JL _ _ _ _ ((6, Ptr nb2 0) :: _) [⟨nb1, [U64 e] ++ cu8 d ++ cu8 t, 76, (0, 0)⟩, ⟨nb2, cu8 (zr8 32), 74, (0, 0)⟩]
 refine JL_val _ (Ev_assign rfl) rfl ?_
 refine JL_nil ?_
 refine JQ_then ?_
 refine JC_seq ?_
 refine JC_seq ?_
 refine JC_region ?_
 refine JL_val _ (Ev_move rfl) rfl ?_
 refine JL_val (Ptr nb1 0) (Ev_fieldAddr 0 58 1 Tryd.underlying76 rfl Tryd.sizeOf58 rfl rfl) rfl ?_
 refine JL_val (U64 e) (Ev_load rfl (Ld_one Tryd.isAgg58 (MemAt.ent 0 rfl (Seg.left (Seg.left (Seg.head)))))) rfl ?_
 refine JL_step (Step_callP 60 [U64 i, U64 e] (.bool (RightB i e)) (Cl_func [U64 i, U64 e] Tryd.call60 rfl) (fun w1 hw1 => right_c i e w1 )) rfl ?_
 rintro v1 L1 ⟨rfl, rfl⟩
 show JL _ _ _ _ ((12, .bool (RightB i e)) :: _) [⟨nb1, [U64 e] ++ cu8 d ++ cu8 t, 76, (0, 0)⟩, ⟨nb2, cu8 (zr8 32), 74, (0, 0)⟩]
 refine JL_val (.bool (!(RightB i e))) (Ev_not rfl) rfl ?_
 refine JL_nil ?_
 refine JQ_then ?_
 refine JC_condT _ rfl (by rw [show (RightB i e) = false from hrt] <;> rfl) ?_
 refine JC_seq ?_
 refine JC_region ?_
 refine JL_val (.agg (cu8 (zr8 32)).toArray) (Ev_build [] _ rfl (fun _ => by kernel_rfl)) rfl ?_
 refine JL_val (.iface 43 (I64 (1:Int))) (Ev_iface Tryd.underlying43 rfl rfl) rfl ?_
 refine JL_step (Step_store 1 nb2 0 32 (cu8 (zr8 32)) 74 (.agg (cu8 (zr8 32)).toArray) (cu8 (zr8 32)) (cu8 (zr8 32)) rfl rfl rfl (by first | rfl | simp) Tryd.sizeOf74 (len_cu8 (zr8_len 32)) (by first | exact one_u8 | exact one_u32 | exact one_u64 | (simp [cu8, cu32, cu64, Value.oneCell']; done)) (by simp [(zr8_len 32)]) (lay_whole (by simp [(zr8_len 32), (zr8_len 32)]))) rfl ?_
 rintro v1 L1 ⟨rfl, rfl⟩
 show JL _ _ _ _ _ [⟨nb1, [U64 e] ++ cu8 d ++ cu8 t, 76, (0, 0)⟩, ⟨nb2, cu8 (zr8 32), 74, (0, 0)⟩]
 refine JL_val _ (Ev_assign rfl) rfl ?_
 refine JL_nil ?_
 refine JQ_then ?_
 refine JC_ret ?_
 refine JQ_then_ret ?_
 refine K_mask [false, true] ?_
 show JQ _ _ _ _ [⟨nb2, cu8 (zr8 32), 74, (0, 0)⟩]
 refine JQ_ret (.tuple #[.agg (cu8 (zr8 32)).toArray, .iface 43 (I64 (1:Int))]) (res2 Tryd.results62 (RV_cell rfl (Ld_agg Tryd.isAgg74 Tryd.sizeOf74 (len_cu8 (zr8_len 32)) (MemAt.ent 0 rfl (Seg.whole _)))) (RV_tmp rfl)) fun w1 hw1 => ?_
 exact ⟨_, [], rfl, ⟨rfl, rfl⟩, hw1.sub (by simp) (by simp)⟩
theorem openA_c (sb cb : Nat) (k : List UInt8) (i e : UInt64) (d t : List UInt8)  (w : World) (hk : k.length = 16) (hS : w.heap[sb]? = some (.cells (cu8 (encK k) ++ cu8 (tgK k) ++ cu8 (macL k ([101, 110, 116, 114, 117, 115, 116, 32, 116, 105, 99, 107, 101, 116] : List UInt8)) ++ cu8 (macL k ([101, 110, 116, 114, 117, 115, 116, 32, 108, 105, 110, 107] : List UInt8)) ++ [Ptr cb 0]).toArray 145 (0, 0))) (hC : w.heap[cb]? = some (.cells (cu8 (rkL (encK k)) ++ cu8 thereL ++ cu8 backL).toArray 170 (0, 0))) (hd : d.length = 32) (ht : t.length = 16) (hG : GLs w) (hrt : RightB i e = true) (hau : ¬ t = tagP k (placeT i e) d)  : Calls Tryd.prog 62 #[Ptr sb 0, U64 i, .agg (List.toArray (α := Value) ([U64 e] ++ cu8 d ++ cu8 t))] w (Post w [] (fun v L => v = .tuple #[.agg (cu8 (zr8 32)).toArray, .iface 43 (I64 4)] ∧ L = [])) := by
 refine enter (P := Tryd.prog) (f := 62) (fn := Tryd.f62) w [] 38 [] [Ptr sb 0, U64 i, .agg (List.toArray (α := Value) ([U64 e] ++ cu8 d ++ cu8 t))] Tryd.func62 rfl rfl (by simp) (Hp.start (by simp) (by simp) (by simp)) ?_
 show JC _ _ _ [(0, Ptr sb 0), (1, U64 i), (2, .agg (List.toArray (α := Value) ([U64 e] ++ cu8 d ++ cu8 t)))] _
 refine JC_seq ?_
 refine JC_region ?_
 refine JL_step (Step_box (.agg (List.toArray (α := Value) ([U64 e] ++ cu8 d ++ cu8 t))) ([U64 e] ++ cu8 d ++ cu8 t) rfl (by first | rfl | simp)) rfl ?_
 rintro v1 L1 ⟨nb1, hnb1, rfl, rfl⟩
 show JL _ _ _ _ ((5, Ptr nb1 0) :: _) [⟨nb1, [U64 e] ++ cu8 d ++ cu8 t, 76, (0, 0)⟩]
 refine JL_step (Step_alloc _ (cu8 (zr8 32)) Tryd.zeroValue74 (by kernel_rfl)) rfl ?_
 rintro v1 L1 ⟨nb2, hnb2, rfl, rfl⟩
 show JL _ _ _ _ ((6, Ptr nb2 0) :: _) [⟨nb1, [U64 e] ++ cu8 d ++ cu8 t, 76, (0, 0)⟩, ⟨nb2, cu8 (zr8 32), 74, (0, 0)⟩]
 refine JL_val _ (Ev_assign rfl) rfl ?_
 refine JL_nil ?_
 refine JQ_then ?_
 refine JC_seq ?_
 refine JC_seq ?_
 refine JC_region ?_
 refine JL_val _ (Ev_move rfl) rfl ?_
 refine JL_val (Ptr nb1 0) (Ev_fieldAddr 0 58 1 Tryd.underlying76 rfl Tryd.sizeOf58 rfl rfl) rfl ?_
 refine JL_val (U64 e) (Ev_load rfl (Ld_one Tryd.isAgg58 (MemAt.ent 0 rfl (Seg.left (Seg.left (Seg.head)))))) rfl ?_
 refine JL_step (Step_callP 60 [U64 i, U64 e] (.bool (RightB i e)) (Cl_func [U64 i, U64 e] Tryd.call60 rfl) (fun w1 hw1 => right_c i e w1 )) rfl ?_
 rintro v1 L1 ⟨rfl, rfl⟩
 show JL _ _ _ _ ((12, .bool (RightB i e)) :: _) [⟨nb1, [U64 e] ++ cu8 d ++ cu8 t, 76, (0, 0)⟩, ⟨nb2, cu8 (zr8 32), 74, (0, 0)⟩]
 refine JL_val (.bool (!(RightB i e))) (Ev_not rfl) rfl ?_
 refine JL_nil ?_
 refine JQ_then ?_
 refine JC_condF _ rfl (by rw [show (RightB i e) = true from hrt] <;> rfl) ?_
 refine JC_skip ?_
 refine JQ_then ?_
 refine JC_seq ?_
 refine JC_region ?_
 refine JL_val _ (Ev_move rfl) rfl ?_
 refine JL_step (Step_callP 100 [Ptr sb 0] (Ptr sb 0) (Cl_func [Ptr sb 0] Tryd.call100 rfl) (fun w1 hw1 => ofS_c sb w1)) rfl ?_
 rintro v1 L1 ⟨rfl, rfl⟩
 show JL _ _ _ _ ((17, Ptr sb 0) :: _) [⟨nb1, [U64 e] ++ cu8 d ++ cu8 t, 76, (0, 0)⟩, ⟨nb2, cu8 (zr8 32), 74, (0, 0)⟩]
 refine JL_val _ (Ev_assign rfl) rfl ?_
 refine JL_nil ?_
 refine JQ_then ?_
 refine JC_seq ?_
 refine JC_region ?_
 refine JL_val _ (Ev_move rfl) rfl ?_
 refine JL_val (Ptr nb1 0) (Ev_fieldAddr 0 58 1 Tryd.underlying76 rfl Tryd.sizeOf58 rfl rfl) rfl ?_
 refine JL_val (U64 e) (Ev_load rfl (Ld_one Tryd.isAgg58 (MemAt.ent 0 rfl (Seg.left (Seg.left (Seg.head)))))) rfl ?_
 refine JL_step (Step_callN 101 [U64 i, U64 e] _ (Cl_func [U64 i, U64 e] Tryd.call101 rfl) (fun w1 hw1 => place_c i e w1 (shr4z (right_not hrt)))) rfl ?_
 rintro v1 L1 ⟨_, ⟨nb3, sp1, cp1, rfl, rfl, hc1, hc2, hc3⟩, rfl⟩
 show JL _ _ _ _ ((21, Slc nb3 0 12 cp1) :: _) [⟨nb1, [U64 e] ++ cu8 d ++ cu8 t, 76, (0, 0)⟩, ⟨nb2, cu8 (zr8 32), 74, (0, 0)⟩, ⟨nb3, cu8 (placeT i e) ++ sp1, 5, (0, 0)⟩]
 refine JL_val _ (Ev_assign rfl) rfl ?_
 refine JL_nil ?_
 refine JQ_then ?_
 refine JC_seq ?_
 refine JC_seq ?_
 refine JC_draw 38 3 [(0, Ptr nb1 33), (1, Slc nb1 33 16 16), (2, Ptr sb 0), (3, Slc nb3 0 12 cp1), (4, Ptr nb1 1), (5, .agg (cu8 d).toArray)] Tryd.mixed rfl (by decide +kernel) ?_
 refine DP_one ⟨[], [0, 1, 2, 3, 4, 5], [], [0, 1, 2, 3, 4, 5], [6]⟩ 6 _ rfl rfl (by decide +kernel) rfl ⟨⟨_, rfl, Qok_val rfl (Ev_fieldAddr 33 54 16 Tryd.underlying76 rfl Tryd.sizeOf54 rfl rfl)⟩, ⟨_, rfl, Qok_val rfl (Ev_sliceA 16 5 1 0 16 33 16 Tryd.underlying54 Tryd.sizeOf5 rfl rfl rfl (by omega) (by omega) (by omega) (by omega) (by omega) 16 (by omega))⟩, ⟨_, rfl, Qok_val rfl (Ev_move rfl)⟩, ⟨_, rfl, Qok_val rfl (Ev_move rfl)⟩, ⟨_, rfl, Qok_val rfl (Ev_fieldAddr 1 74 32 Tryd.underlying76 rfl Tryd.sizeOf74 rfl rfl)⟩, ⟨_, rfl, Qok_val rfl (Ev_load rfl (Ld_agg Tryd.isAgg74 Tryd.sizeOf74 (len_cu8 hd) (MemAt.ent 0 rfl (Seg.left (Seg.right 1 0 rfl rfl (Seg.whole _))))))⟩, trivial⟩ rfl (Cok_step rfl (Step_callN 103 [Ptr sb 0, Slc nb3 0 12 cp1, .agg (cu8 d).toArray] _ (Cl_func [Ptr sb 0, Slc nb3 0 12 cp1, .agg (cu8 d).toArray] Tryd.call103 rfl) (fun w1 hw1 => tag_c sb cb k (some ⟨nb3, 0, none⟩) cp1 (placeT i e) d w1 hk (hw1.heap hS (by simp)) (hw1.heap hC (by simp)) (show (placeT i e).length = 12 from (placeT_len _ _)) (RdB.of hw1 (MemAt.ent 2 rfl (Seg.left (Seg.whole _))) (by simp)) hd (hG.at hw1)))) ?_
 rintro v1 L1 ⟨_, ⟨nb4, sp2, cp2, rfl, rfl, hc4, hc5, hc6⟩, rfl⟩
 refine ⟨[], ?_⟩
 show DP _ _ _ _ _ _ _ _ [⟨nb1, [U64 e] ++ cu8 d ++ cu8 t, 76, (0, 0)⟩, ⟨nb2, cu8 (zr8 32), 74, (0, 0)⟩, ⟨nb3, cu8 (placeT i e) ++ sp1, 5, (0, 0)⟩, ⟨nb4, cu8 (tagP k (placeT i e) d) ++ sp2, 5, (0, 0)⟩]
 refine DP_one ⟨[6], [0, 1, 2, 3, 4, 5], [2, 3, 4, 5], [0, 1], [7]⟩ 7 _ rfl rfl (by decide +kernel) rfl ⟨⟨_, rfl, Qok_val rfl (Ev_fieldAddr 33 54 16 Tryd.underlying76 rfl Tryd.sizeOf54 rfl rfl)⟩, ⟨_, rfl, Qok_val rfl (Ev_sliceA 16 5 1 0 16 33 16 Tryd.underlying54 Tryd.sizeOf5 rfl rfl rfl (by omega) (by omega) (by omega) (by omega) (by omega) 16 (by omega))⟩, trivial⟩ rfl (Cok_step rfl (Step_callP 36 [Slc nb1 33 16 16, Slc nb4 0 16 cp2] (.bool (decide (t = (tagP k (placeT i e) d)))) (Cl_func [Slc nb1 33 16 16, Slc nb4 0 16 cp2] Tryd.call36 rfl) (fun w1 hw1 => same_c (some ⟨nb1, 33, none⟩) (some ⟨nb4, 0, none⟩) 16 16 16 cp2 t (tagP k (placeT i e) d) w1 ht (show (tagP k (placeT i e) d).length = 16 from (tagP_len _ _ _)) (RdB.of hw1 (MemAt.ent 0 rfl (Seg.right 33 0 (by simp [hd]) rfl (Seg.whole _))) (by simp)) (RdB.of hw1 (MemAt.ent 3 rfl (Seg.left (Seg.whole _))) (by simp)) (by omega) (by omega)))) ?_
 rintro v1 L1 ⟨rfl, rfl⟩
 refine ⟨[(8, .bool (!(decide (t = (tagP k (placeT i e) d)))))], ?_⟩
 show DP _ _ _ _ _ _ _ _ [⟨nb1, [U64 e] ++ cu8 d ++ cu8 t, 76, (0, 0)⟩, ⟨nb2, cu8 (zr8 32), 74, (0, 0)⟩, ⟨nb3, cu8 (placeT i e) ++ sp1, 5, (0, 0)⟩, ⟨nb4, cu8 (tagP k (placeT i e) d) ++ sp2, 5, (0, 0)⟩]
 refine DP_end ⟨[6, 7], [0, 1, 2, 3, 4, 5, 8], [0, 1, 2, 3, 4, 5], [8], []⟩ rfl rfl (by decide +kernel) rfl ⟨⟨_, rfl, Qok_val rfl (Ev_not rfl)⟩, trivial⟩ ?_
 refine K_sub (F' := [(30, .bool (!(decide (t = (tagP k (placeT i e) d))))), (0, Ptr sb 0), (5, Ptr nb1 0), (6, Ptr nb2 0), (7, .nilIface), (8, Slc nb3 0 12 cp1)]) (Sub.cons (by kernel_rfl) (Sub.cons (by kernel_rfl) (Sub.cons (by kernel_rfl) (Sub.cons (by kernel_rfl) (Sub.cons (by kernel_rfl) (Sub.cons (by kernel_rfl) (Sub.nil))))))) ?_
 show JQ _ _ _ [(30, .bool (!(decide (t = (tagP k (placeT i e) d))))), (0, Ptr sb 0), (5, Ptr nb1 0), (6, Ptr nb2 0), (7, .nilIface), (8, Slc nb3 0 12 cp1)] _
 refine JQ_then ?_
 refine JC_condT _ rfl (by rw [show (decide (t = (tagP k (placeT i e) d))) = false from (decide_eq_false hau)] <;> rfl) ?_
 refine JC_seq ?_
 refine JC_region ?_
 refine JL_val (.agg (cu8 (zr8 32)).toArray) (Ev_build [] _ rfl (fun _ => by kernel_rfl)) rfl ?_
 refine JL_val (.iface 43 (I64 (4:Int))) (Ev_iface Tryd.underlying43 rfl rfl) rfl ?_
 refine JL_step (Step_store 1 nb2 0 32 (cu8 (zr8 32)) 74 (.agg (cu8 (zr8 32)).toArray) (cu8 (zr8 32)) (cu8 (zr8 32)) rfl rfl rfl (by first | rfl | simp) Tryd.sizeOf74 (len_cu8 (zr8_len 32)) (by first | exact one_u8 | exact one_u32 | exact one_u64 | (simp [cu8, cu32, cu64, Value.oneCell']; done)) (by simp [(zr8_len 32)]) (lay_whole (by simp [(zr8_len 32), (zr8_len 32)]))) rfl ?_
 rintro v1 L1 ⟨rfl, rfl⟩
 show JL _ _ _ _ _ [⟨nb1, [U64 e] ++ cu8 d ++ cu8 t, 76, (0, 0)⟩, ⟨nb2, cu8 (zr8 32), 74, (0, 0)⟩, ⟨nb3, cu8 (placeT i e) ++ sp1, 5, (0, 0)⟩, ⟨nb4, cu8 (tagP k (placeT i e) d) ++ sp2, 5, (0, 0)⟩]
 refine JL_val _ (Ev_assign rfl) rfl ?_
 refine JL_nil ?_
 refine JQ_then ?_
 refine JC_ret ?_
 refine JQ_then_ret ?_
 refine K_mask [false, true, false, false] ?_
 show JQ _ _ _ _ [⟨nb2, cu8 (zr8 32), 74, (0, 0)⟩]
 refine JQ_ret (.tuple #[.agg (cu8 (zr8 32)).toArray, .iface 43 (I64 (4:Int))]) (res2 Tryd.results62 (RV_cell rfl (Ld_agg Tryd.isAgg74 Tryd.sizeOf74 (len_cu8 (zr8_len 32)) (MemAt.ent 0 rfl (Seg.whole _)))) (RV_tmp rfl)) fun w1 hw1 => ?_
 exact ⟨_, [], rfl, ⟨rfl, rfl⟩, hw1.sub (by simp) (by simp)⟩
theorem openK_c (sb cb : Nat) (k : List UInt8) (i e : UInt64) (d t : List UInt8)  (w : World) (hk : k.length = 16) (hS : w.heap[sb]? = some (.cells (cu8 (encK k) ++ cu8 (tgK k) ++ cu8 (macL k ([101, 110, 116, 114, 117, 115, 116, 32, 116, 105, 99, 107, 101, 116] : List UInt8)) ++ cu8 (macL k ([101, 110, 116, 114, 117, 115, 116, 32, 108, 105, 110, 107] : List UInt8)) ++ [Ptr cb 0]).toArray 145 (0, 0))) (hC : w.heap[cb]? = some (.cells (cu8 (rkL (encK k)) ++ cu8 thereL ++ cu8 backL).toArray 170 (0, 0))) (hd : d.length = 32) (ht : t.length = 16) (hG : GLs w) (hrt : RightB i e = true) (hau : t = tagP k (placeT i e) d)  : Calls Tryd.prog 62 #[Ptr sb 0, U64 i, .agg (List.toArray (α := Value) ([U64 e] ++ cu8 d ++ cu8 t))] w (Post w [] (fun v L => v = .tuple #[.agg (cu8 (turnP k (placeT i e) d)).toArray, .nilIface] ∧ L = [])) := by
 refine enter (P := Tryd.prog) (f := 62) (fn := Tryd.f62) w [] 38 [] [Ptr sb 0, U64 i, .agg (List.toArray (α := Value) ([U64 e] ++ cu8 d ++ cu8 t))] Tryd.func62 rfl rfl (by simp) (Hp.start (by simp) (by simp) (by simp)) ?_
 show JC _ _ _ [(0, Ptr sb 0), (1, U64 i), (2, .agg (List.toArray (α := Value) ([U64 e] ++ cu8 d ++ cu8 t)))] _
 refine JC_seq ?_
 refine JC_region ?_
 refine JL_step (Step_box (.agg (List.toArray (α := Value) ([U64 e] ++ cu8 d ++ cu8 t))) ([U64 e] ++ cu8 d ++ cu8 t) rfl (by first | rfl | simp)) rfl ?_
 rintro v1 L1 ⟨nb1, hnb1, rfl, rfl⟩
 show JL _ _ _ _ ((5, Ptr nb1 0) :: _) [⟨nb1, [U64 e] ++ cu8 d ++ cu8 t, 76, (0, 0)⟩]
 refine JL_step (Step_alloc _ (cu8 (zr8 32)) Tryd.zeroValue74 (by kernel_rfl)) rfl ?_
 rintro v1 L1 ⟨nb2, hnb2, rfl, rfl⟩
 show JL _ _ _ _ ((6, Ptr nb2 0) :: _) [⟨nb1, [U64 e] ++ cu8 d ++ cu8 t, 76, (0, 0)⟩, ⟨nb2, cu8 (zr8 32), 74, (0, 0)⟩]
 refine JL_val _ (Ev_assign rfl) rfl ?_
 refine JL_nil ?_
 refine JQ_then ?_
 refine JC_seq ?_
 refine JC_seq ?_
 refine JC_region ?_
 refine JL_val _ (Ev_move rfl) rfl ?_
 refine JL_val (Ptr nb1 0) (Ev_fieldAddr 0 58 1 Tryd.underlying76 rfl Tryd.sizeOf58 rfl rfl) rfl ?_
 refine JL_val (U64 e) (Ev_load rfl (Ld_one Tryd.isAgg58 (MemAt.ent 0 rfl (Seg.left (Seg.left (Seg.head)))))) rfl ?_
 refine JL_step (Step_callP 60 [U64 i, U64 e] (.bool (RightB i e)) (Cl_func [U64 i, U64 e] Tryd.call60 rfl) (fun w1 hw1 => right_c i e w1 )) rfl ?_
 rintro v1 L1 ⟨rfl, rfl⟩
 show JL _ _ _ _ ((12, .bool (RightB i e)) :: _) [⟨nb1, [U64 e] ++ cu8 d ++ cu8 t, 76, (0, 0)⟩, ⟨nb2, cu8 (zr8 32), 74, (0, 0)⟩]
 refine JL_val (.bool (!(RightB i e))) (Ev_not rfl) rfl ?_
 refine JL_nil ?_
 refine JQ_then ?_
 refine JC_condF _ rfl (by rw [show (RightB i e) = true from hrt] <;> rfl) ?_
 refine JC_skip ?_
 refine JQ_then ?_
 refine JC_seq ?_
 refine JC_region ?_
 refine JL_val _ (Ev_move rfl) rfl ?_
 refine JL_step (Step_callP 100 [Ptr sb 0] (Ptr sb 0) (Cl_func [Ptr sb 0] Tryd.call100 rfl) (fun w1 hw1 => ofS_c sb w1)) rfl ?_
 rintro v1 L1 ⟨rfl, rfl⟩
 show JL _ _ _ _ ((17, Ptr sb 0) :: _) [⟨nb1, [U64 e] ++ cu8 d ++ cu8 t, 76, (0, 0)⟩, ⟨nb2, cu8 (zr8 32), 74, (0, 0)⟩]
 refine JL_val _ (Ev_assign rfl) rfl ?_
 refine JL_nil ?_
 refine JQ_then ?_
 refine JC_seq ?_
 refine JC_region ?_
 refine JL_val _ (Ev_move rfl) rfl ?_
 refine JL_val (Ptr nb1 0) (Ev_fieldAddr 0 58 1 Tryd.underlying76 rfl Tryd.sizeOf58 rfl rfl) rfl ?_
 refine JL_val (U64 e) (Ev_load rfl (Ld_one Tryd.isAgg58 (MemAt.ent 0 rfl (Seg.left (Seg.left (Seg.head)))))) rfl ?_
 refine JL_step (Step_callN 101 [U64 i, U64 e] _ (Cl_func [U64 i, U64 e] Tryd.call101 rfl) (fun w1 hw1 => place_c i e w1 (shr4z (right_not hrt)))) rfl ?_
 rintro v1 L1 ⟨_, ⟨nb3, sp1, cp1, rfl, rfl, hc1, hc2, hc3⟩, rfl⟩
 show JL _ _ _ _ ((21, Slc nb3 0 12 cp1) :: _) [⟨nb1, [U64 e] ++ cu8 d ++ cu8 t, 76, (0, 0)⟩, ⟨nb2, cu8 (zr8 32), 74, (0, 0)⟩, ⟨nb3, cu8 (placeT i e) ++ sp1, 5, (0, 0)⟩]
 refine JL_val _ (Ev_assign rfl) rfl ?_
 refine JL_nil ?_
 refine JQ_then ?_
 refine JC_seq ?_
 refine JC_seq ?_
 refine JC_draw 38 3 [(0, Ptr nb1 33), (1, Slc nb1 33 16 16), (2, Ptr sb 0), (3, Slc nb3 0 12 cp1), (4, Ptr nb1 1), (5, .agg (cu8 d).toArray)] Tryd.mixed rfl (by decide +kernel) ?_
 refine DP_one ⟨[], [0, 1, 2, 3, 4, 5], [], [0, 1, 2, 3, 4, 5], [6]⟩ 6 _ rfl rfl (by decide +kernel) rfl ⟨⟨_, rfl, Qok_val rfl (Ev_fieldAddr 33 54 16 Tryd.underlying76 rfl Tryd.sizeOf54 rfl rfl)⟩, ⟨_, rfl, Qok_val rfl (Ev_sliceA 16 5 1 0 16 33 16 Tryd.underlying54 Tryd.sizeOf5 rfl rfl rfl (by omega) (by omega) (by omega) (by omega) (by omega) 16 (by omega))⟩, ⟨_, rfl, Qok_val rfl (Ev_move rfl)⟩, ⟨_, rfl, Qok_val rfl (Ev_move rfl)⟩, ⟨_, rfl, Qok_val rfl (Ev_fieldAddr 1 74 32 Tryd.underlying76 rfl Tryd.sizeOf74 rfl rfl)⟩, ⟨_, rfl, Qok_val rfl (Ev_load rfl (Ld_agg Tryd.isAgg74 Tryd.sizeOf74 (len_cu8 hd) (MemAt.ent 0 rfl (Seg.left (Seg.right 1 0 rfl rfl (Seg.whole _))))))⟩, trivial⟩ rfl (Cok_step rfl (Step_callN 103 [Ptr sb 0, Slc nb3 0 12 cp1, .agg (cu8 d).toArray] _ (Cl_func [Ptr sb 0, Slc nb3 0 12 cp1, .agg (cu8 d).toArray] Tryd.call103 rfl) (fun w1 hw1 => tag_c sb cb k (some ⟨nb3, 0, none⟩) cp1 (placeT i e) d w1 hk (hw1.heap hS (by simp)) (hw1.heap hC (by simp)) (show (placeT i e).length = 12 from (placeT_len _ _)) (RdB.of hw1 (MemAt.ent 2 rfl (Seg.left (Seg.whole _))) (by simp)) hd (hG.at hw1)))) ?_
 rintro v1 L1 ⟨_, ⟨nb4, sp2, cp2, rfl, rfl, hc4, hc5, hc6⟩, rfl⟩
 refine ⟨[], ?_⟩
 show DP _ _ _ _ _ _ _ _ [⟨nb1, [U64 e] ++ cu8 d ++ cu8 t, 76, (0, 0)⟩, ⟨nb2, cu8 (zr8 32), 74, (0, 0)⟩, ⟨nb3, cu8 (placeT i e) ++ sp1, 5, (0, 0)⟩, ⟨nb4, cu8 (tagP k (placeT i e) d) ++ sp2, 5, (0, 0)⟩]
 refine DP_one ⟨[6], [0, 1, 2, 3, 4, 5], [2, 3, 4, 5], [0, 1], [7]⟩ 7 _ rfl rfl (by decide +kernel) rfl ⟨⟨_, rfl, Qok_val rfl (Ev_fieldAddr 33 54 16 Tryd.underlying76 rfl Tryd.sizeOf54 rfl rfl)⟩, ⟨_, rfl, Qok_val rfl (Ev_sliceA 16 5 1 0 16 33 16 Tryd.underlying54 Tryd.sizeOf5 rfl rfl rfl (by omega) (by omega) (by omega) (by omega) (by omega) 16 (by omega))⟩, trivial⟩ rfl (Cok_step rfl (Step_callP 36 [Slc nb1 33 16 16, Slc nb4 0 16 cp2] (.bool (decide (t = (tagP k (placeT i e) d)))) (Cl_func [Slc nb1 33 16 16, Slc nb4 0 16 cp2] Tryd.call36 rfl) (fun w1 hw1 => same_c (some ⟨nb1, 33, none⟩) (some ⟨nb4, 0, none⟩) 16 16 16 cp2 t (tagP k (placeT i e) d) w1 ht (show (tagP k (placeT i e) d).length = 16 from (tagP_len _ _ _)) (RdB.of hw1 (MemAt.ent 0 rfl (Seg.right 33 0 (by simp [hd]) rfl (Seg.whole _))) (by simp)) (RdB.of hw1 (MemAt.ent 3 rfl (Seg.left (Seg.whole _))) (by simp)) (by omega) (by omega)))) ?_
 rintro v1 L1 ⟨rfl, rfl⟩
 refine ⟨[(8, .bool (!(decide (t = (tagP k (placeT i e) d)))))], ?_⟩
 show DP _ _ _ _ _ _ _ _ [⟨nb1, [U64 e] ++ cu8 d ++ cu8 t, 76, (0, 0)⟩, ⟨nb2, cu8 (zr8 32), 74, (0, 0)⟩, ⟨nb3, cu8 (placeT i e) ++ sp1, 5, (0, 0)⟩, ⟨nb4, cu8 (tagP k (placeT i e) d) ++ sp2, 5, (0, 0)⟩]
 refine DP_end ⟨[6, 7], [0, 1, 2, 3, 4, 5, 8], [0, 1, 2, 3, 4, 5], [8], []⟩ rfl rfl (by decide +kernel) rfl ⟨⟨_, rfl, Qok_val rfl (Ev_not rfl)⟩, trivial⟩ ?_
 refine K_sub (F' := [(30, .bool (!(decide (t = (tagP k (placeT i e) d))))), (0, Ptr sb 0), (5, Ptr nb1 0), (6, Ptr nb2 0), (7, .nilIface), (8, Slc nb3 0 12 cp1)]) (Sub.cons (by kernel_rfl) (Sub.cons (by kernel_rfl) (Sub.cons (by kernel_rfl) (Sub.cons (by kernel_rfl) (Sub.cons (by kernel_rfl) (Sub.cons (by kernel_rfl) (Sub.nil))))))) ?_
 show JQ _ _ _ [(30, .bool (!(decide (t = (tagP k (placeT i e) d))))), (0, Ptr sb 0), (5, Ptr nb1 0), (6, Ptr nb2 0), (7, .nilIface), (8, Slc nb3 0 12 cp1)] _
 refine JQ_then ?_
 refine JC_condF _ rfl (by rw [show (decide (t = (tagP k (placeT i e) d))) = true from (decide_eq_true hau)] <;> rfl) ?_
 refine JC_skip ?_
 refine JQ_then ?_
 refine JC_seq ?_
 refine JC_region ?_
 refine JL_val _ (Ev_move rfl) rfl ?_
 refine JL_val _ (Ev_move rfl) rfl ?_
 refine JL_val (Ptr nb1 1) (Ev_fieldAddr 1 74 32 Tryd.underlying76 rfl Tryd.sizeOf74 rfl rfl) rfl ?_
 refine JL_val (.agg (cu8 d).toArray) (Ev_load rfl (Ld_agg Tryd.isAgg74 Tryd.sizeOf74 (len_cu8 hd) (MemAt.ent 0 rfl (Seg.left (Seg.right 1 0 rfl rfl (Seg.whole _)))))) rfl ?_
 refine JL_step (Step_callP 102 [Ptr sb 0, Slc nb3 0 12 cp1, .agg (cu8 d).toArray] (.agg (cu8 (turnP k (placeT i e) d)).toArray) (Cl_func [Ptr sb 0, Slc nb3 0 12 cp1, .agg (cu8 d).toArray] Tryd.call102 rfl) (fun w1 hw1 => turned_c sb cb k (some ⟨nb3, 0, none⟩) cp1 (placeT i e) d w1 hk (hw1.heap hS (by simp)) (hw1.heap hC (by simp)) (show (placeT i e).length = 12 from (placeT_len _ _)) (RdB.of hw1 (MemAt.ent 2 rfl (Seg.left (Seg.whole _))) (by simp)) hd)) rfl ?_
 rintro v1 L1 ⟨rfl, rfl⟩
 show JL _ _ _ _ ((37, .agg (cu8 (turnP k (placeT i e) d)).toArray) :: _) [⟨nb1, [U64 e] ++ cu8 d ++ cu8 t, 76, (0, 0)⟩, ⟨nb2, cu8 (zr8 32), 74, (0, 0)⟩, ⟨nb3, cu8 (placeT i e) ++ sp1, 5, (0, 0)⟩, ⟨nb4, cu8 (tagP k (placeT i e) d) ++ sp2, 5, (0, 0)⟩]
 refine JL_step (Step_store 1 nb2 0 32 (cu8 (zr8 32)) 74 (.agg (cu8 (turnP k (placeT i e) d)).toArray) (cu8 (turnP k (placeT i e) d)) (cu8 (turnP k (placeT i e) d)) rfl rfl rfl (by first | rfl | simp) Tryd.sizeOf74 (len_cu8 (turnP_len _ _ (show (placeT i e).length = 12 from (placeT_len _ _)))) (by first | exact one_u8 | exact one_u32 | exact one_u64 | (simp [cu8, cu32, cu64, Value.oneCell']; done)) (by simp [(zr8_len 32)]) (lay_whole (by simp [(zr8_len 32), (turnP_len _ _ (show (placeT i e).length = 12 from (placeT_len _ _)))]))) rfl ?_
 rintro v1 L1 ⟨rfl, rfl⟩
 show JL _ _ _ _ _ [⟨nb1, [U64 e] ++ cu8 d ++ cu8 t, 76, (0, 0)⟩, ⟨nb2, cu8 (turnP k (placeT i e) d), 74, (0, 0)⟩, ⟨nb3, cu8 (placeT i e) ++ sp1, 5, (0, 0)⟩, ⟨nb4, cu8 (tagP k (placeT i e) d) ++ sp2, 5, (0, 0)⟩]
 refine JL_val _ (Ev_assign rfl) rfl ?_
 refine JL_nil ?_
 refine JQ_then ?_
 refine JC_ret ?_
 refine K_mask [false, true, false, false] ?_
 show JQ _ _ _ _ [⟨nb2, cu8 (turnP k (placeT i e) d), 74, (0, 0)⟩]
 refine JQ_ret (.tuple #[.agg (cu8 (turnP k (placeT i e) d)).toArray, .nilIface]) (res2 Tryd.results62 (RV_cell rfl (Ld_agg Tryd.isAgg74 Tryd.sizeOf74 (len_cu8 (turnP_len _ _ (show (placeT i e).length = 12 from (placeT_len _ _)))) (MemAt.ent 0 rfl (Seg.whole _)))) (RV_tmp rfl)) fun w1 hw1 => ?_
 exact ⟨_, [], rfl, ⟨rfl, rfl⟩, hw1.sub (by simp) (by simp)⟩
theorem open_w (sb cb : Nat) (k : List UInt8) (i e : UInt64) (d t : List UInt8) (w : World) (hk : k.length = 16) (hS : w.heap[sb]? = some (.cells (cu8 (encK k) ++ cu8 (tgK k) ++ cu8 (macL k ([101, 110, 116, 114, 117, 115, 116, 32, 116, 105, 99, 107, 101, 116] : List UInt8)) ++ cu8 (macL k ([101, 110, 116, 114, 117, 115, 116, 32, 108, 105, 110, 107] : List UInt8)) ++ [Ptr cb 0]).toArray 145 (0, 0))) (hC : w.heap[cb]? = some (.cells (cu8 (rkL (encK k)) ++ cu8 thereL ++ cu8 backL).toArray 170 (0, 0))) (hd : d.length = 32) (ht : t.length = 16) (hG : GLs w) : Calls Tryd.prog 62 #[Ptr sb 0, U64 i, .agg (List.toArray (α := Value) ([U64 e] ++ cu8 d ++ cu8 t))] w (Post w [] (fun v L => v = .tuple #[.agg (cu8 (openBk k i e d t)).toArray, errV 43 (openN k i e d t)] ∧ L = [])) := by
  cases hrt : RightB i e with
  | true =>
    by_cases hau : t = tagP k (placeT i e) d
    · have e1 : openN k i e d t = 0 := by unfold openN; rw [if_pos hrt, if_pos hau]
      have e2 : openBk k i e d t = turnP k (placeT i e) d := by unfold openBk; rw [if_pos ⟨hrt, hau⟩]
      rw [e1, e2]
      exact openK_c sb cb k i e d t w hk hS hC hd ht hG hrt hau
    · have e1 : openN k i e d t = 4 := by unfold openN; rw [if_pos hrt, if_neg hau]
      have e2 : openBk k i e d t = zr8 32 := by unfold openBk; rw [if_neg (fun h => hau h.2)]
      rw [e1, e2, errV_pos (by decide)]
      exact openA_c sb cb k i e d t w hk hS hC hd ht hG hrt hau
  | false =>
    have hn : ¬ RightB i e = true := by rw [hrt]; decide
    have e1 : openN k i e d t = 1 := by unfold openN; rw [if_neg hn]
    have e2 : openBk k i e d t = zr8 32 := by unfold openBk; rw [if_neg (fun h => hn h.1)]
    rw [e1, e2, errV_pos (by decide)]
    exact openB_c sb cb k i e d t w hk hS hC hd ht hrt

end Go.Proofs.YtncoifiafklkjaaDoor
namespace Go.Proofs.YtncoifiafklkjaaDoor
open Go Go.Sx
set_option linter.unusedVariables false
set_option linter.unusedSimpArgs false
set_option maxRecDepth 100000
attribute [local irreducible] mid zr8 zr32 numK rnK valK rotr wordL spreadL comprL cpN adN spN wrdN constL initL padL stN outN routN sumG putL blkL xbN raN macL encL rkL thereL backL nextL strT xorN eBlk encK tgK placeT turnP tagP RightB sealN sE sD sT openN openBk
theorem rtgK_c (k : List UInt8) (w : World) (hk : k.length = 16) (hGr : GLr w) (hGi : GLi w) : Calls Tryd.prog 51 #[.agg (cu8 k).toArray] w (Post w [] (fun v L => v = .agg (cu8 (tgK k)).toArray ∧ L = [])) := by
 unfold tgK
 exact rtag_c k w hk hGr hGi
theorem rtagP_c (k : List UInt8) (i e : UInt64) (d : List UInt8) (w : World) (hk : k.length = 16) (hd : d.length = 32) (hGr : GLr w) (hGi : GLi w)  : Calls Tryd.prog 66 #[.agg (cu8 k).toArray, U64 i, U64 e, .agg (cu8 d).toArray] w (Post w [] (fun v L => v = .agg (cu8 (tagP k (placeT i e) d)).toArray ∧ L = [])) := by
 have hmx : maxLen = 9223372036854775807 := rfl
 refine enter w [] 25 [] [.agg (cu8 k).toArray, U64 i, U64 e, .agg (cu8 d).toArray] Tryd.func66 rfl rfl (by simp) (Hp.start (by simp) (by simp) (by simp)) ?_
 show JC _ _ _ [(0, .agg (cu8 k).toArray), (1, U64 i), (2, U64 e), (3, .agg (cu8 d).toArray)] _
 refine JC_seq ?_
 refine JC_region ?_
 refine JL_step (Step_box (.agg (cu8 k).toArray) (cu8 k) rfl (by first | rfl | simp)) rfl ?_
 rintro v1 L1 ⟨nb1, hnb1, rfl, rfl⟩
 show JL _ _ _ _ ((4, Ptr nb1 0) :: _) [⟨nb1, cu8 k, 55, (0, 0)⟩]
 refine JL_step (Step_box (.agg (cu8 d).toArray) (cu8 d) rfl (by first | rfl | simp)) rfl ?_
 rintro v1 L1 ⟨nb2, hnb2, rfl, rfl⟩
 show JL _ _ _ _ ((7, Ptr nb2 0) :: _) [⟨nb1, cu8 k, 55, (0, 0)⟩, ⟨nb2, cu8 d, 74, (0, 0)⟩]
 refine JL_step (Step_alloc _ (cu8 (zr8 16)) Tryd.zeroValue54 (by kernel_rfl)) rfl ?_
 rintro v1 L1 ⟨nb3, hnb3, rfl, rfl⟩
 show JL _ _ _ _ ((8, Ptr nb3 0) :: _) [⟨nb1, cu8 k, 55, (0, 0)⟩, ⟨nb2, cu8 d, 74, (0, 0)⟩, ⟨nb3, cu8 (zr8 16), 54, (0, 0)⟩]
 refine JL_nil ?_
 refine JQ_then ?_
 refine JC_seq ?_
 refine JC_region ?_
 refine JL_val (.agg (cu8 k).toArray) (Ev_load rfl (Ld_agg Tryd.isAgg55 Tryd.sizeOf55 (len_cu8 hk) (MemAt.ent 0 rfl (Seg.whole _)))) rfl ?_
 refine JL_step (Step_callP 51 [.agg (cu8 k).toArray] (.agg (cu8 (tgK k)).toArray) (Cl_func [.agg (cu8 k).toArray] Tryd.call51 rfl) (fun w1 hw1 => rtgK_c k w1 hk (GLr.at hw1 hGr) (GLi.at hw1 hGi))) rfl ?_
 rintro v1 L1 ⟨rfl, rfl⟩
 show JL _ _ _ _ ((13, .agg (cu8 (tgK k)).toArray) :: _) [⟨nb1, cu8 k, 55, (0, 0)⟩, ⟨nb2, cu8 d, 74, (0, 0)⟩, ⟨nb3, cu8 (zr8 16), 54, (0, 0)⟩]
 refine JL_step (Step_alloc _ (cu8 (zr8 32)) Tryd.zeroValue25 (by kernel_rfl)) rfl ?_
 rintro v1 L1 ⟨nb4, hnb4, rfl, rfl⟩
 show JL _ _ _ _ ((9, Ptr nb4 0) :: _) [⟨nb1, cu8 k, 55, (0, 0)⟩, ⟨nb2, cu8 d, 74, (0, 0)⟩, ⟨nb3, cu8 (zr8 16), 54, (0, 0)⟩, ⟨nb4, cu8 (zr8 32), 25, (0, 0)⟩]
 refine JL_step (Step_store 3 nb4 0 32 (cu8 (zr8 32)) 25 (.agg (cu8 (tgK k)).toArray) (cu8 (tgK k)) (cu8 (tgK k)) rfl rfl rfl (by first | rfl | simp) Tryd.sizeOf25 (len_cu8 (tgK_len _)) (by first | exact one_u8 | exact one_u32 | exact one_u64 | (simp [cu8, cu32, cu64, Value.oneCell']; done)) (by simp [(zr8_len 32)]) (lay_whole (by simp [(zr8_len 32), (tgK_len _)]))) rfl ?_
 rintro v1 L1 ⟨rfl, rfl⟩
 show JL _ _ _ _ _ [⟨nb1, cu8 k, 55, (0, 0)⟩, ⟨nb2, cu8 d, 74, (0, 0)⟩, ⟨nb3, cu8 (zr8 16), 54, (0, 0)⟩, ⟨nb4, cu8 (tgK k), 25, (0, 0)⟩]
 refine JL_nil ?_
 refine JQ_then ?_
 refine JC_seq ?_
 refine JC_cut (ι := Nat) (fun ynb0 => [(8, Ptr nb3 0), (10, Ptr ynb0 0)]) (fun ynb0 => [⟨nb3, cu8 (zr8 16), 54, (0, 0)⟩, ⟨ynb0, cu8 (macL (tgK k) ((placeT i e) ++ d)), 25, (0, 0)⟩]) (fun ynb0 => True) ?_ ?_
 ·
  refine JC_draw 25 6 [(0, Slc nb4 0 32 32), (1, U64 i), (2, U64 e), (4, Slc nb2 0 32 32)] Tryd.mixed rfl (by decide +kernel) ?_
  refine DP_two ⟨[], [0, 1, 2, 4], [], [0, 1, 2, 4], [3, 7]⟩ 3 7 _ _ rfl rfl (by decide +kernel) rfl ⟨⟨_, rfl, Qok_val rfl (Ev_sliceA 32 5 1 0 32 0 32 Tryd.underlying25 Tryd.sizeOf5 rfl rfl rfl (by omega) (by omega) (by omega) (by omega) (by omega) 32 (by omega))⟩, ⟨_, rfl, Qok_val rfl (Ev_move rfl)⟩, ⟨_, rfl, Qok_val rfl (Ev_move rfl)⟩, ⟨_, rfl, Qok_val rfl (Ev_sliceA 32 5 1 0 32 0 32 Tryd.underlying74 Tryd.sizeOf5 rfl rfl rfl (by omega) (by omega) (by omega) (by omega) (by omega) 32 (by omega))⟩, trivial⟩ rfl rfl (Cok_step rfl (Step_callN 105 [U64 i, U64 e] _ (Cl_func [U64 i, U64 e] Tryd.call105 rfl) (fun w1 hw1 => rplace_c i e w1))) (Cok_step rfl (Step_alloc _ (cu8 (zr8 32)) Tryd.zeroValue25 (by kernel_rfl))) ?_ ?_
  ·
   rintro v1 L1 ⟨_, ⟨nb5, sp1, cp1, rfl, rfl, hc1, hc2, hc3⟩, rfl⟩
   refine ⟨[], ?_⟩
   show DP _ _ _ _ _ _ _ _ [⟨nb1, cu8 k, 55, (0, 0)⟩, ⟨nb2, cu8 d, 74, (0, 0)⟩, ⟨nb3, cu8 (zr8 16), 54, (0, 0)⟩, ⟨nb4, cu8 (tgK k), 25, (0, 0)⟩, ⟨nb5, cu8 (placeT i e) ++ sp1, 5, (0, 0)⟩]
   refine DP_two ⟨[3], [0, 1, 2, 4], [1, 2], [0, 4], [5, 7]⟩ 5 7 _ _ rfl rfl (by decide +kernel) rfl ⟨⟨_, rfl, Qok_val rfl (Ev_sliceA 32 5 1 0 32 0 32 Tryd.underlying25 Tryd.sizeOf5 rfl rfl rfl (by omega) (by omega) (by omega) (by omega) (by omega) 32 (by omega))⟩, ⟨_, rfl, Qok_val rfl (Ev_sliceA 32 5 1 0 32 0 32 Tryd.underlying74 Tryd.sizeOf5 rfl rfl rfl (by omega) (by omega) (by omega) (by omega) (by omega) 32 (by omega))⟩, trivial⟩ rfl rfl (Cok_step rfl (Step_appM8 22 5 [false, false, false, false, true] (Slc nb5 0 12 cp1) 12 (placeT i e) d (some ⟨nb2, 0, none⟩) 32 32 44 Tryd.underlying22 Tryd.info5 rfl (.inr ⟨nb5, sp1, cp1, rfl, rfl, (by first | exact (show (placeT i e).length = 12 from (placeT_len _ _)) | simp [(show (placeT i e).length = 12 from (placeT_len _ _))]), hc1, (by omega), (by omega)⟩) rfl (by first | exact hd | simp [hd]; try omega) (SrcAt.mem (MemAt.ent 1 rfl (Seg.whole _))) (by omega) (by unfold maxLen; omega) (by omega))) (Cok_step rfl (Step_alloc _ (cu8 (zr8 32)) Tryd.zeroValue25 (by kernel_rfl))) ?_ ?_
   ·
    rintro v1 L1 ⟨nb7, sp2, cp2, hg1, rfl, rfl, ha1, ha2, ha3, ha4⟩
    refine ⟨[], ?_⟩
    show DP _ _ _ _ _ _ _ _ [⟨nb1, cu8 k, 55, (0, 0)⟩, ⟨nb2, cu8 d, 74, (0, 0)⟩, ⟨nb3, cu8 (zr8 16), 54, (0, 0)⟩, ⟨nb4, cu8 (tgK k), 25, (0, 0)⟩, ⟨nb7, cu8 ((placeT i e) ++ d) ++ sp2, 5, (0, 0)⟩]
    refine DP_two ⟨[3, 5], [0, 1, 2, 4], [1, 2, 4], [0], [6, 7]⟩ 6 7 _ _ rfl rfl (by decide +kernel) rfl ⟨⟨_, rfl, Qok_val rfl (Ev_sliceA 32 5 1 0 32 0 32 Tryd.underlying25 Tryd.sizeOf5 rfl rfl rfl (by omega) (by omega) (by omega) (by omega) (by omega) 32 (by omega))⟩, trivial⟩ rfl rfl (Cok_step rfl (Step_callP 37 [Slc nb4 0 32 32, Slc nb7 0 44 cp2] (.agg (cu8 (macL (tgK k) ((placeT i e) ++ d))).toArray) (Cl_func [Slc nb4 0 32 32, Slc nb7 0 44 cp2] Tryd.call37 rfl) (fun w1 hw1 => rmac_c (some ⟨nb4, 0, none⟩) 32 32 (tgK k) (some ⟨nb7, 0, none⟩) 44 cp2 ((placeT i e) ++ d) w1 (tgK_len _) (fun h => by cases h) (by omega) (RdB.of hw1 (MemAt.ent 3 rfl (Seg.whole _)) (by simp)) ha1 (by omega) (RdB.of hw1 (MemAt.ent 4 rfl (Seg.left (Seg.whole _))) (by simp)) (GLr.at hw1 hGr) (GLi.at hw1 hGi)))) (Cok_step rfl (Step_alloc _ (cu8 (zr8 32)) Tryd.zeroValue25 (by kernel_rfl))) ?_ ?_
    ·
     rintro v1 L1 ⟨rfl, rfl⟩
     refine ⟨[], ?_⟩
     show DP _ _ _ _ _ _ _ _ [⟨nb1, cu8 k, 55, (0, 0)⟩, ⟨nb2, cu8 d, 74, (0, 0)⟩, ⟨nb3, cu8 (zr8 16), 54, (0, 0)⟩, ⟨nb4, cu8 (tgK k), 25, (0, 0)⟩, ⟨nb7, cu8 ((placeT i e) ++ d) ++ sp2, 5, (0, 0)⟩]
     refine DP_one ⟨[3, 5, 6], [0, 1, 2, 4], [0, 1, 2, 4], [], [7]⟩ 7 _ rfl rfl (by decide +kernel) rfl trivial rfl (Cok_step rfl (Step_alloc _ (cu8 (zr8 32)) Tryd.zeroValue25 (by kernel_rfl))) ?_
     rintro v1 L1 ⟨nb10, hnb10, rfl, rfl⟩
     refine ⟨[], ?_⟩
     show DP _ _ _ _ _ _ _ _ [⟨nb1, cu8 k, 55, (0, 0)⟩, ⟨nb2, cu8 d, 74, (0, 0)⟩, ⟨nb3, cu8 (zr8 16), 54, (0, 0)⟩, ⟨nb4, cu8 (tgK k), 25, (0, 0)⟩, ⟨nb7, cu8 ((placeT i e) ++ d) ++ sp2, 5, (0, 0)⟩, ⟨nb10, cu8 (zr8 32), 25, (0, 0)⟩]
     refine DP_one ⟨[3, 5, 6, 7], [0, 1, 2, 4], [0, 1, 2, 4], [], [8]⟩ 8 _ rfl rfl (by decide +kernel) rfl trivial rfl (Cok_step rfl (Step_store 5 nb10 0 32 (cu8 (zr8 32)) 25 (.agg (cu8 (macL (tgK k) ((placeT i e) ++ d))).toArray) (cu8 (macL (tgK k) ((placeT i e) ++ d))) (cu8 (macL (tgK k) ((placeT i e) ++ d))) rfl rfl rfl (by first | rfl | simp) Tryd.sizeOf25 (len_cu8 (macL_len _ _)) (by first | exact one_u8 | exact one_u32 | exact one_u64 | (simp [cu8, cu32, cu64, Value.oneCell']; done)) (by simp [(zr8_len 32)]) (lay_whole (by simp [(zr8_len 32), (macL_len _ _)])))) ?_
     rintro v1 L1 ⟨rfl, rfl⟩
     refine ⟨[], ?_⟩
     show DP _ _ _ _ _ _ _ _ [⟨nb1, cu8 k, 55, (0, 0)⟩, ⟨nb2, cu8 d, 74, (0, 0)⟩, ⟨nb3, cu8 (zr8 16), 54, (0, 0)⟩, ⟨nb4, cu8 (tgK k), 25, (0, 0)⟩, ⟨nb7, cu8 ((placeT i e) ++ d) ++ sp2, 5, (0, 0)⟩, ⟨nb10, cu8 (macL (tgK k) ((placeT i e) ++ d)), 25, (0, 0)⟩]
     refine DP_end ⟨[3, 5, 6, 7, 8], [0, 1, 2, 4], [0, 1, 2, 4], [], []⟩ rfl rfl (by decide +kernel) rfl trivial ?_
     refine K_sub (F' := [(10, Ptr nb10 0), (8, Ptr nb3 0)]) (Sub.cons (by kernel_rfl) (Sub.cons (by kernel_rfl) (Sub.nil))) ?_
     show JQ _ _ _ [(10, Ptr nb10 0), (8, Ptr nb3 0)] _
     refine K_pick [2, 5] (by decide) ?_
     show JQ _ _ _ _ [⟨nb3, cu8 (zr8 16), 54, (0, 0)⟩, ⟨nb10, cu8 (macL (tgK k) ((placeT i e) ++ d)), 25, (0, 0)⟩]
     refine JQ_cut nb10 trivial (Sub.cons rfl (Sub.cons rfl (Sub.nil))) rfl
    ·
     rintro v1 L1 ⟨nb9, hnb9, rfl, rfl⟩
     refine ⟨[], ?_⟩
     show DP _ _ _ _ _ _ _ _ [⟨nb1, cu8 k, 55, (0, 0)⟩, ⟨nb2, cu8 d, 74, (0, 0)⟩, ⟨nb3, cu8 (zr8 16), 54, (0, 0)⟩, ⟨nb4, cu8 (tgK k), 25, (0, 0)⟩, ⟨nb7, cu8 ((placeT i e) ++ d) ++ sp2, 5, (0, 0)⟩, ⟨nb9, cu8 (zr8 32), 25, (0, 0)⟩]
     refine DP_one ⟨[3, 5, 7], [0, 1, 2, 4], [1, 2, 4], [0], [6]⟩ 6 _ rfl rfl (by decide +kernel) rfl ⟨⟨_, rfl, Qok_val rfl (Ev_sliceA 32 5 1 0 32 0 32 Tryd.underlying25 Tryd.sizeOf5 rfl rfl rfl (by omega) (by omega) (by omega) (by omega) (by omega) 32 (by omega))⟩, trivial⟩ rfl (Cok_step rfl (Step_callP 37 [Slc nb4 0 32 32, Slc nb7 0 44 cp2] (.agg (cu8 (macL (tgK k) ((placeT i e) ++ d))).toArray) (Cl_func [Slc nb4 0 32 32, Slc nb7 0 44 cp2] Tryd.call37 rfl) (fun w1 hw1 => rmac_c (some ⟨nb4, 0, none⟩) 32 32 (tgK k) (some ⟨nb7, 0, none⟩) 44 cp2 ((placeT i e) ++ d) w1 (tgK_len _) (fun h => by cases h) (by omega) (RdB.of hw1 (MemAt.ent 3 rfl (Seg.whole _)) (by simp)) ha1 (by omega) (RdB.of hw1 (MemAt.ent 4 rfl (Seg.left (Seg.whole _))) (by simp)) (GLr.at hw1 hGr) (GLi.at hw1 hGi)))) ?_
     rintro v1 L1 ⟨rfl, rfl⟩
     refine ⟨[], ?_⟩
     show DP _ _ _ _ _ _ _ _ [⟨nb1, cu8 k, 55, (0, 0)⟩, ⟨nb2, cu8 d, 74, (0, 0)⟩, ⟨nb3, cu8 (zr8 16), 54, (0, 0)⟩, ⟨nb4, cu8 (tgK k), 25, (0, 0)⟩, ⟨nb7, cu8 ((placeT i e) ++ d) ++ sp2, 5, (0, 0)⟩, ⟨nb9, cu8 (zr8 32), 25, (0, 0)⟩]
     refine DP_one ⟨[3, 5, 7, 6], [0, 1, 2, 4], [0, 1, 2, 4], [], [8]⟩ 8 _ rfl rfl (by decide +kernel) rfl trivial rfl (Cok_step rfl (Step_store 5 nb9 0 32 (cu8 (zr8 32)) 25 (.agg (cu8 (macL (tgK k) ((placeT i e) ++ d))).toArray) (cu8 (macL (tgK k) ((placeT i e) ++ d))) (cu8 (macL (tgK k) ((placeT i e) ++ d))) rfl rfl rfl (by first | rfl | simp) Tryd.sizeOf25 (len_cu8 (macL_len _ _)) (by first | exact one_u8 | exact one_u32 | exact one_u64 | (simp [cu8, cu32, cu64, Value.oneCell']; done)) (by simp [(zr8_len 32)]) (lay_whole (by simp [(zr8_len 32), (macL_len _ _)])))) ?_
     rintro v1 L1 ⟨rfl, rfl⟩
     refine ⟨[], ?_⟩
     show DP _ _ _ _ _ _ _ _ [⟨nb1, cu8 k, 55, (0, 0)⟩, ⟨nb2, cu8 d, 74, (0, 0)⟩, ⟨nb3, cu8 (zr8 16), 54, (0, 0)⟩, ⟨nb4, cu8 (tgK k), 25, (0, 0)⟩, ⟨nb7, cu8 ((placeT i e) ++ d) ++ sp2, 5, (0, 0)⟩, ⟨nb9, cu8 (macL (tgK k) ((placeT i e) ++ d)), 25, (0, 0)⟩]
     refine DP_end ⟨[3, 5, 7, 6, 8], [0, 1, 2, 4], [0, 1, 2, 4], [], []⟩ rfl rfl (by decide +kernel) rfl trivial ?_
     refine K_sub (F' := [(10, Ptr nb9 0), (8, Ptr nb3 0)]) (Sub.cons (by kernel_rfl) (Sub.cons (by kernel_rfl) (Sub.nil))) ?_
     show JQ _ _ _ [(10, Ptr nb9 0), (8, Ptr nb3 0)] _
     refine K_pick [2, 5] (by decide) ?_
     show JQ _ _ _ _ [⟨nb3, cu8 (zr8 16), 54, (0, 0)⟩, ⟨nb9, cu8 (macL (tgK k) ((placeT i e) ++ d)), 25, (0, 0)⟩]
     refine JQ_cut nb9 trivial (Sub.cons rfl (Sub.cons rfl (Sub.nil))) rfl
   ·
    rintro v1 L1 ⟨nb8, hnb8, rfl, rfl⟩
    refine ⟨[], ?_⟩
    show DP _ _ _ _ _ _ _ _ [⟨nb1, cu8 k, 55, (0, 0)⟩, ⟨nb2, cu8 d, 74, (0, 0)⟩, ⟨nb3, cu8 (zr8 16), 54, (0, 0)⟩, ⟨nb4, cu8 (tgK k), 25, (0, 0)⟩, ⟨nb5, cu8 (placeT i e) ++ sp1, 5, (0, 0)⟩, ⟨nb8, cu8 (zr8 32), 25, (0, 0)⟩]
    refine DP_one ⟨[3, 7], [0, 1, 2, 4], [1, 2], [0, 4], [5]⟩ 5 _ rfl rfl (by decide +kernel) rfl ⟨⟨_, rfl, Qok_val rfl (Ev_sliceA 32 5 1 0 32 0 32 Tryd.underlying25 Tryd.sizeOf5 rfl rfl rfl (by omega) (by omega) (by omega) (by omega) (by omega) 32 (by omega))⟩, ⟨_, rfl, Qok_val rfl (Ev_sliceA 32 5 1 0 32 0 32 Tryd.underlying74 Tryd.sizeOf5 rfl rfl rfl (by omega) (by omega) (by omega) (by omega) (by omega) 32 (by omega))⟩, trivial⟩ rfl (Cok_step rfl (Step_appM8 22 5 [false, false, false, false, true, false] (Slc nb5 0 12 cp1) 12 (placeT i e) d (some ⟨nb2, 0, none⟩) 32 32 44 Tryd.underlying22 Tryd.info5 rfl (.inr ⟨nb5, sp1, cp1, rfl, rfl, (by first | exact (show (placeT i e).length = 12 from (placeT_len _ _)) | simp [(show (placeT i e).length = 12 from (placeT_len _ _))]), hc1, (by omega), (by omega)⟩) rfl (by first | exact hd | simp [hd]; try omega) (SrcAt.mem (MemAt.ent 1 rfl (Seg.whole _))) (by omega) (by unfold maxLen; omega) (by omega))) ?_
    rintro v1 L1 ⟨nb11, sp3, cp3, hg2, rfl, rfl, ha5, ha6, ha7, ha8⟩
    refine ⟨[], ?_⟩
    show DP _ _ _ _ _ _ _ _ [⟨nb1, cu8 k, 55, (0, 0)⟩, ⟨nb2, cu8 d, 74, (0, 0)⟩, ⟨nb3, cu8 (zr8 16), 54, (0, 0)⟩, ⟨nb4, cu8 (tgK k), 25, (0, 0)⟩, ⟨nb8, cu8 (zr8 32), 25, (0, 0)⟩, ⟨nb11, cu8 ((placeT i e) ++ d) ++ sp3, 5, (0, 0)⟩]
    refine DP_one ⟨[3, 7, 5], [0, 1, 2, 4], [1, 2, 4], [0], [6]⟩ 6 _ rfl rfl (by decide +kernel) rfl ⟨⟨_, rfl, Qok_val rfl (Ev_sliceA 32 5 1 0 32 0 32 Tryd.underlying25 Tryd.sizeOf5 rfl rfl rfl (by omega) (by omega) (by omega) (by omega) (by omega) 32 (by omega))⟩, trivial⟩ rfl (Cok_step rfl (Step_callP 37 [Slc nb4 0 32 32, Slc nb11 0 44 cp3] (.agg (cu8 (macL (tgK k) ((placeT i e) ++ d))).toArray) (Cl_func [Slc nb4 0 32 32, Slc nb11 0 44 cp3] Tryd.call37 rfl) (fun w1 hw1 => rmac_c (some ⟨nb4, 0, none⟩) 32 32 (tgK k) (some ⟨nb11, 0, none⟩) 44 cp3 ((placeT i e) ++ d) w1 (tgK_len _) (fun h => by cases h) (by omega) (RdB.of hw1 (MemAt.ent 3 rfl (Seg.whole _)) (by simp)) ha5 (by omega) (RdB.of hw1 (MemAt.ent 5 rfl (Seg.left (Seg.whole _))) (by simp)) (GLr.at hw1 hGr) (GLi.at hw1 hGi)))) ?_
    rintro v1 L1 ⟨rfl, rfl⟩
    refine ⟨[], ?_⟩
    show DP _ _ _ _ _ _ _ _ [⟨nb1, cu8 k, 55, (0, 0)⟩, ⟨nb2, cu8 d, 74, (0, 0)⟩, ⟨nb3, cu8 (zr8 16), 54, (0, 0)⟩, ⟨nb4, cu8 (tgK k), 25, (0, 0)⟩, ⟨nb8, cu8 (zr8 32), 25, (0, 0)⟩, ⟨nb11, cu8 ((placeT i e) ++ d) ++ sp3, 5, (0, 0)⟩]
    refine DP_one ⟨[3, 7, 5, 6], [0, 1, 2, 4], [0, 1, 2, 4], [], [8]⟩ 8 _ rfl rfl (by decide +kernel) rfl trivial rfl (Cok_step rfl (Step_store 4 nb8 0 32 (cu8 (zr8 32)) 25 (.agg (cu8 (macL (tgK k) ((placeT i e) ++ d))).toArray) (cu8 (macL (tgK k) ((placeT i e) ++ d))) (cu8 (macL (tgK k) ((placeT i e) ++ d))) rfl rfl rfl (by first | rfl | simp) Tryd.sizeOf25 (len_cu8 (macL_len _ _)) (by first | exact one_u8 | exact one_u32 | exact one_u64 | (simp [cu8, cu32, cu64, Value.oneCell']; done)) (by simp [(zr8_len 32)]) (lay_whole (by simp [(zr8_len 32), (macL_len _ _)])))) ?_
    rintro v1 L1 ⟨rfl, rfl⟩
    refine ⟨[], ?_⟩
    show DP _ _ _ _ _ _ _ _ [⟨nb1, cu8 k, 55, (0, 0)⟩, ⟨nb2, cu8 d, 74, (0, 0)⟩, ⟨nb3, cu8 (zr8 16), 54, (0, 0)⟩, ⟨nb4, cu8 (tgK k), 25, (0, 0)⟩, ⟨nb8, cu8 (macL (tgK k) ((placeT i e) ++ d)), 25, (0, 0)⟩, ⟨nb11, cu8 ((placeT i e) ++ d) ++ sp3, 5, (0, 0)⟩]
    refine DP_end ⟨[3, 7, 5, 6, 8], [0, 1, 2, 4], [0, 1, 2, 4], [], []⟩ rfl rfl (by decide +kernel) rfl trivial ?_
    refine K_sub (F' := [(10, Ptr nb8 0), (8, Ptr nb3 0)]) (Sub.cons (by kernel_rfl) (Sub.cons (by kernel_rfl) (Sub.nil))) ?_
    show JQ _ _ _ [(10, Ptr nb8 0), (8, Ptr nb3 0)] _
    refine K_pick [2, 4] (by decide) ?_
    show JQ _ _ _ _ [⟨nb3, cu8 (zr8 16), 54, (0, 0)⟩, ⟨nb8, cu8 (macL (tgK k) ((placeT i e) ++ d)), 25, (0, 0)⟩]
    refine JQ_cut nb8 trivial (Sub.cons rfl (Sub.cons rfl (Sub.nil))) rfl
  ·
   rintro v1 L1 ⟨nb6, hnb6, rfl, rfl⟩
   refine ⟨[], ?_⟩
   show DP _ _ _ _ _ _ _ _ [⟨nb1, cu8 k, 55, (0, 0)⟩, ⟨nb2, cu8 d, 74, (0, 0)⟩, ⟨nb3, cu8 (zr8 16), 54, (0, 0)⟩, ⟨nb4, cu8 (tgK k), 25, (0, 0)⟩, ⟨nb6, cu8 (zr8 32), 25, (0, 0)⟩]
   refine DP_one ⟨[7], [0, 1, 2, 4], [], [0, 1, 2, 4], [3]⟩ 3 _ rfl rfl (by decide +kernel) rfl ⟨⟨_, rfl, Qok_val rfl (Ev_sliceA 32 5 1 0 32 0 32 Tryd.underlying25 Tryd.sizeOf5 rfl rfl rfl (by omega) (by omega) (by omega) (by omega) (by omega) 32 (by omega))⟩, ⟨_, rfl, Qok_val rfl (Ev_move rfl)⟩, ⟨_, rfl, Qok_val rfl (Ev_move rfl)⟩, ⟨_, rfl, Qok_val rfl (Ev_sliceA 32 5 1 0 32 0 32 Tryd.underlying74 Tryd.sizeOf5 rfl rfl rfl (by omega) (by omega) (by omega) (by omega) (by omega) 32 (by omega))⟩, trivial⟩ rfl (Cok_step rfl (Step_callN 105 [U64 i, U64 e] _ (Cl_func [U64 i, U64 e] Tryd.call105 rfl) (fun w1 hw1 => rplace_c i e w1))) ?_
   rintro v1 L1 ⟨_, ⟨nb12, sp4, cp4, rfl, rfl, hc4, hc5, hc6⟩, rfl⟩
   refine ⟨[], ?_⟩
   show DP _ _ _ _ _ _ _ _ [⟨nb1, cu8 k, 55, (0, 0)⟩, ⟨nb2, cu8 d, 74, (0, 0)⟩, ⟨nb3, cu8 (zr8 16), 54, (0, 0)⟩, ⟨nb4, cu8 (tgK k), 25, (0, 0)⟩, ⟨nb6, cu8 (zr8 32), 25, (0, 0)⟩, ⟨nb12, cu8 (placeT i e) ++ sp4, 5, (0, 0)⟩]
   refine DP_one ⟨[7, 3], [0, 1, 2, 4], [1, 2], [0, 4], [5]⟩ 5 _ rfl rfl (by decide +kernel) rfl ⟨⟨_, rfl, Qok_val rfl (Ev_sliceA 32 5 1 0 32 0 32 Tryd.underlying25 Tryd.sizeOf5 rfl rfl rfl (by omega) (by omega) (by omega) (by omega) (by omega) 32 (by omega))⟩, ⟨_, rfl, Qok_val rfl (Ev_sliceA 32 5 1 0 32 0 32 Tryd.underlying74 Tryd.sizeOf5 rfl rfl rfl (by omega) (by omega) (by omega) (by omega) (by omega) 32 (by omega))⟩, trivial⟩ rfl (Cok_step rfl (Step_appM8 22 5 [false, false, false, false, false, true] (Slc nb12 0 12 cp4) 12 (placeT i e) d (some ⟨nb2, 0, none⟩) 32 32 44 Tryd.underlying22 Tryd.info5 rfl (.inr ⟨nb12, sp4, cp4, rfl, rfl, (by first | exact (show (placeT i e).length = 12 from (placeT_len _ _)) | simp [(show (placeT i e).length = 12 from (placeT_len _ _))]), hc4, (by omega), (by omega)⟩) rfl (by first | exact hd | simp [hd]; try omega) (SrcAt.mem (MemAt.ent 1 rfl (Seg.whole _))) (by omega) (by unfold maxLen; omega) (by omega))) ?_
   rintro v1 L1 ⟨nb13, sp5, cp5, hg3, rfl, rfl, ha9, ha10, ha11, ha12⟩
   refine ⟨[], ?_⟩
   show DP _ _ _ _ _ _ _ _ [⟨nb1, cu8 k, 55, (0, 0)⟩, ⟨nb2, cu8 d, 74, (0, 0)⟩, ⟨nb3, cu8 (zr8 16), 54, (0, 0)⟩, ⟨nb4, cu8 (tgK k), 25, (0, 0)⟩, ⟨nb6, cu8 (zr8 32), 25, (0, 0)⟩, ⟨nb13, cu8 ((placeT i e) ++ d) ++ sp5, 5, (0, 0)⟩]
   refine DP_one ⟨[7, 3, 5], [0, 1, 2, 4], [1, 2, 4], [0], [6]⟩ 6 _ rfl rfl (by decide +kernel) rfl ⟨⟨_, rfl, Qok_val rfl (Ev_sliceA 32 5 1 0 32 0 32 Tryd.underlying25 Tryd.sizeOf5 rfl rfl rfl (by omega) (by omega) (by omega) (by omega) (by omega) 32 (by omega))⟩, trivial⟩ rfl (Cok_step rfl (Step_callP 37 [Slc nb4 0 32 32, Slc nb13 0 44 cp5] (.agg (cu8 (macL (tgK k) ((placeT i e) ++ d))).toArray) (Cl_func [Slc nb4 0 32 32, Slc nb13 0 44 cp5] Tryd.call37 rfl) (fun w1 hw1 => rmac_c (some ⟨nb4, 0, none⟩) 32 32 (tgK k) (some ⟨nb13, 0, none⟩) 44 cp5 ((placeT i e) ++ d) w1 (tgK_len _) (fun h => by cases h) (by omega) (RdB.of hw1 (MemAt.ent 3 rfl (Seg.whole _)) (by simp)) ha9 (by omega) (RdB.of hw1 (MemAt.ent 5 rfl (Seg.left (Seg.whole _))) (by simp)) (GLr.at hw1 hGr) (GLi.at hw1 hGi)))) ?_
   rintro v1 L1 ⟨rfl, rfl⟩
   refine ⟨[], ?_⟩
   show DP _ _ _ _ _ _ _ _ [⟨nb1, cu8 k, 55, (0, 0)⟩, ⟨nb2, cu8 d, 74, (0, 0)⟩, ⟨nb3, cu8 (zr8 16), 54, (0, 0)⟩, ⟨nb4, cu8 (tgK k), 25, (0, 0)⟩, ⟨nb6, cu8 (zr8 32), 25, (0, 0)⟩, ⟨nb13, cu8 ((placeT i e) ++ d) ++ sp5, 5, (0, 0)⟩]
   refine DP_one ⟨[7, 3, 5, 6], [0, 1, 2, 4], [0, 1, 2, 4], [], [8]⟩ 8 _ rfl rfl (by decide +kernel) rfl trivial rfl (Cok_step rfl (Step_store 4 nb6 0 32 (cu8 (zr8 32)) 25 (.agg (cu8 (macL (tgK k) ((placeT i e) ++ d))).toArray) (cu8 (macL (tgK k) ((placeT i e) ++ d))) (cu8 (macL (tgK k) ((placeT i e) ++ d))) rfl rfl rfl (by first | rfl | simp) Tryd.sizeOf25 (len_cu8 (macL_len _ _)) (by first | exact one_u8 | exact one_u32 | exact one_u64 | (simp [cu8, cu32, cu64, Value.oneCell']; done)) (by simp [(zr8_len 32)]) (lay_whole (by simp [(zr8_len 32), (macL_len _ _)])))) ?_
   rintro v1 L1 ⟨rfl, rfl⟩
   refine ⟨[], ?_⟩
   show DP _ _ _ _ _ _ _ _ [⟨nb1, cu8 k, 55, (0, 0)⟩, ⟨nb2, cu8 d, 74, (0, 0)⟩, ⟨nb3, cu8 (zr8 16), 54, (0, 0)⟩, ⟨nb4, cu8 (tgK k), 25, (0, 0)⟩, ⟨nb6, cu8 (macL (tgK k) ((placeT i e) ++ d)), 25, (0, 0)⟩, ⟨nb13, cu8 ((placeT i e) ++ d) ++ sp5, 5, (0, 0)⟩]
   refine DP_end ⟨[7, 3, 5, 6, 8], [0, 1, 2, 4], [0, 1, 2, 4], [], []⟩ rfl rfl (by decide +kernel) rfl trivial ?_
   refine K_sub (F' := [(10, Ptr nb6 0), (8, Ptr nb3 0)]) (Sub.cons (by kernel_rfl) (Sub.cons (by kernel_rfl) (Sub.nil))) ?_
   show JQ _ _ _ [(10, Ptr nb6 0), (8, Ptr nb3 0)] _
   refine K_pick [2, 4] (by decide) ?_
   show JQ _ _ _ _ [⟨nb3, cu8 (zr8 16), 54, (0, 0)⟩, ⟨nb6, cu8 (macL (tgK k) ((placeT i e) ++ d)), 25, (0, 0)⟩]
   refine JQ_cut nb6 trivial (Sub.cons rfl (Sub.cons rfl (Sub.nil))) rfl
 ·
  rintro ynb0 _
  show JQ _ _ _ [(8, Ptr nb3 0), (10, Ptr ynb0 0)] [⟨nb3, cu8 (zr8 16), 54, (0, 0)⟩, ⟨ynb0, cu8 (macL (tgK k) ((placeT i e) ++ d)), 25, (0, 0)⟩]
  refine JQ_then ?_
  refine JC_seq ?_
  refine JC_region ?_
  refine JL_step (Step_alloc _ (cu8 (zr8 16)) Tryd.zeroValue54 (by kernel_rfl)) rfl ?_
  rintro v1 L1 ⟨nb14, hnb14, rfl, rfl⟩
  show JL _ _ _ _ ((11, Ptr nb14 0) :: _) [⟨nb3, cu8 (zr8 16), 54, (0, 0)⟩, ⟨ynb0, cu8 (macL (tgK k) ((placeT i e) ++ d)), 25, (0, 0)⟩, ⟨nb14, cu8 (zr8 16), 54, (0, 0)⟩]
  refine JL_nil ?_
  refine JQ_then ?_
  refine JC_seq ?_
  refine JC_draw 25 2 [(0, Slc nb14 0 16 16), (1, Slc ynb0 0 32 32)] Tryd.mixed rfl (by decide +kernel) ?_
  have hl1 : (mid (macL (tgK k) ((placeT i e) ++ d)) 0 16).length = 16 := mid_len (by rw [(macL_len _ _)]; omega)
  refine DP_one ⟨[], [0, 1], [], [0, 1], [2]⟩ 2 _ rfl rfl (by decide +kernel) rfl ⟨⟨_, rfl, Qok_val rfl (Ev_sliceA 16 5 1 0 16 0 16 Tryd.underlying54 Tryd.sizeOf5 rfl rfl rfl (by omega) (by omega) (by omega) (by omega) (by omega) 16 (by omega))⟩, ⟨_, rfl, Qok_val rfl (Ev_sliceA 32 5 1 0 32 0 32 Tryd.underlying25 Tryd.sizeOf5 rfl rfl rfl (by omega) (by omega) (by omega) (by omega) (by omega) 32 (by omega))⟩, trivial⟩ rfl (Cok_step rfl (Step_copy 22 22 5 2 nb14 0 16 16 (cu8 (zr8 16)) 54 (some ⟨ynb0, 0, none⟩) 32 32 16 (cu8 (mid (macL (tgK k) ((placeT i e) ++ d)) 0 16)) (cu8 (mid (macL (tgK k) ((placeT i e) ++ d)) 0 16)) Tryd.underlying22 Tryd.size1_5 rfl rfl rfl (by rfl) (by simp [hl1]; try omega) (SrcAt.mem (MemAt.ent 1 rfl (segm_u8 0 16 (by rw [(macL_len _ _)]; omega)))) (by simp [(zr8_len 16)]; try omega) (by first | exact one_u8 | exact one_u32 | exact one_u64 | (simp [cu8, cu32, cu64, Value.oneCell']; done)) (lay_whole (by simp [(zr8_len 16), hl1])))) ?_
  rintro v1 L1 ⟨rfl, rfl⟩
  refine ⟨[], ?_⟩
  show DP _ _ _ _ _ _ _ _ [⟨nb3, cu8 (zr8 16), 54, (0, 0)⟩, ⟨ynb0, cu8 (macL (tgK k) ((placeT i e) ++ d)), 25, (0, 0)⟩, ⟨nb14, cu8 (mid (macL (tgK k) ((placeT i e) ++ d)) 0 16), 54, (0, 0)⟩]
  refine DP_end ⟨[2], [0, 1], [0, 1], [], []⟩ rfl rfl (by decide +kernel) rfl trivial ?_
  refine K_sub (F' := [(8, Ptr nb3 0), (11, Ptr nb14 0)]) (Sub.cons (by kernel_rfl) (Sub.cons (by kernel_rfl) (Sub.nil))) ?_
  show JQ _ _ _ [(8, Ptr nb3 0), (11, Ptr nb14 0)] _
  refine JQ_then ?_
  refine JC_seq ?_
  refine JC_region ?_
  refine JL_val (.agg (cu8 (mid (macL (tgK k) ((placeT i e) ++ d)) 0 16)).toArray) (Ev_load rfl (Ld_agg Tryd.isAgg54 Tryd.sizeOf54 (len_cu8 hl1) (MemAt.ent 2 rfl (Seg.whole _)))) rfl ?_
  refine JL_step (Step_store 0 nb3 0 16 (cu8 (zr8 16)) 54 (.agg (cu8 (mid (macL (tgK k) ((placeT i e) ++ d)) 0 16)).toArray) (cu8 (mid (macL (tgK k) ((placeT i e) ++ d)) 0 16)) (cu8 (mid (macL (tgK k) ((placeT i e) ++ d)) 0 16)) rfl rfl rfl (by first | rfl | simp) Tryd.sizeOf54 (len_cu8 hl1) (by first | exact one_u8 | exact one_u32 | exact one_u64 | (simp [cu8, cu32, cu64, Value.oneCell']; done)) (by simp [(zr8_len 16)]) (lay_whole (by simp [(zr8_len 16), hl1]))) rfl ?_
  rintro v1 L1 ⟨rfl, rfl⟩
  show JL _ _ _ _ _ [⟨nb3, cu8 (mid (macL (tgK k) ((placeT i e) ++ d)) 0 16), 54, (0, 0)⟩, ⟨ynb0, cu8 (macL (tgK k) ((placeT i e) ++ d)), 25, (0, 0)⟩, ⟨nb14, cu8 (mid (macL (tgK k) ((placeT i e) ++ d)) 0 16), 54, (0, 0)⟩]
  refine JL_nil ?_
  refine JQ_then ?_
  refine JC_ret ?_
  refine K_mask [true, false, false] ?_
  show JQ _ _ _ _ [⟨nb3, cu8 (mid (macL (tgK k) ((placeT i e) ++ d)) 0 16), 54, (0, 0)⟩]
  refine JQ_ret (.agg (cu8 (mid (macL (tgK k) ((placeT i e) ++ d)) 0 16)).toArray) (res1 Tryd.results66 (RV_cell rfl (Ld_agg Tryd.isAgg54 Tryd.sizeOf54 (len_cu8 hl1) (MemAt.ent 0 rfl (Seg.whole _))))) fun w1 hw1 => ?_
  exact ⟨_, [], rfl, ⟨by first | rfl | (rw [tagP]; done), rfl⟩, hw1.sub (by simp) (by simp)⟩
end Go.Proofs.YtncoifiafklkjaaDoor
namespace Go.Proofs.YtncoifiafklkjaaDoor
open Go Go.Sx
set_option linter.unusedVariables false
set_option maxRecDepth 100000
def b5L : List UInt8 := [(5:UInt8), (0:UInt8), (0:UInt8), (0:UInt8), (0:UInt8), (0:UInt8), (0:UInt8), (0:UInt8), (0:UInt8), (0:UInt8), (0:UInt8), (0:UInt8), (0:UInt8), (0:UInt8), (0:UInt8), (0:UInt8), (0:UInt8), (0:UInt8), (0:UInt8), (0:UInt8), (0:UInt8), (0:UInt8), (0:UInt8), (0:UInt8), (0:UInt8), (0:UInt8), (0:UInt8), (0:UInt8), (0:UInt8), (0:UInt8), (0:UInt8), (0:UInt8)]
theorem b5L_len : b5L.length = 32 := rfl
theorem alive7_ne : ¬ tagP (zr8 16) (placeT 0 1) (turnP (zr8 16) (placeT 0 1) b5L) = tagP (zr8 16) (placeT 1 1) (turnP (zr8 16) (placeT 0 1) b5L) := by decide +kernel
theorem right01 : RightB 0 1 = true := by decide +kernel
theorem right11 : RightB 1 1 = true := by decide +kernel
theorem alive7_s : sealN 0 1 = 0 := by unfold sealN; rw [if_pos right01]
theorem alive7_o : openN (zr8 16) 0 (sE 0 1) (sD (zr8 16) 0 1 b5L) (sT (zr8 16) 0 1 b5L) = 0 := (open_seal b5L_len right01).1
theorem alive7_b : openBk (zr8 16) 0 (sE 0 1) (sD (zr8 16) 0 1 b5L) (sT (zr8 16) 0 1 b5L) = b5L := (open_seal b5L_len right01).2
theorem alive7_n : openN (zr8 16) 1 (sE 0 1) (sD (zr8 16) 0 1 b5L) (sT (zr8 16) 0 1 b5L) = 4 := by
 have h1 : sE 0 1 = 1 := by unfold sE; rw [if_pos right01]
 have h2 : sD (zr8 16) 0 1 b5L = turnP (zr8 16) (placeT 0 1) b5L := by unfold sD; rw [if_pos right01]
 have h3 : sT (zr8 16) 0 1 b5L = tagP (zr8 16) (placeT 0 1) (turnP (zr8 16) (placeT 0 1) b5L) := by unfold sT; rw [if_pos right01]
 rw [h1, h2, h3]
 unfold openN
 rw [if_pos right11, if_neg alive7_ne]
theorem sealN_bad {i e : UInt64} (h : RightB i e = false) : sealN i e = 1 := by unfold sealN; rw [h]; rfl
theorem right_of {i e : UInt64} (h : sealN i e = 0) : RightB i e = true := by
 cases h1 : RightB i e with
 | true => rfl
 | false => rw [sealN_bad h1] at h; omega
end Go.Proofs.YtncoifiafklkjaaDoor
namespace Go.Proofs.YtncoifiafklkjaaDoor
open Go Go.Sx
set_option linter.unusedVariables false
set_option linter.unusedSimpArgs false
set_option maxRecDepth 100000
attribute [local irreducible] mid zr8 zr32 numK rnK valK rotr wordL spreadL comprL cpN adN spN wrdN constL initL padL stN outN routN sumG putL blkL xbN raN macL encL rkL thereL backL nextL strT xorN eBlk encK tgK placeT turnP tagP RightB sealN sE sD sT openN openBk
theorem alive7_c  (w : World) (hG : GLs w)  : Calls Tryd.prog 56 #[] w (Post w [] (fun v L => v = .bool true ∧ L = [])) := by
 refine enter w [] 43 [] [] Tryd.func56 rfl rfl (by simp) (Hp.start (by simp) (by simp) (by simp)) ?_
 show JC _ _ _ [] _
 refine JC_seq ?_
 refine JC_region ?_
 refine JL_val _ (Ev_assign rfl) rfl ?_
 refine JL_nil ?_
 refine JQ_then ?_
 refine JC_seq ?_
 refine JC_region ?_
 refine JL_val (.agg (cu8 (zr8 16)).toArray) (Ev_build [] _ rfl (fun _ => by kernel_rfl)) rfl ?_
 refine JL_step (Step_callN 57 [.agg (cu8 (zr8 16)).toArray] _ (Cl_func [.agg (cu8 (zr8 16)).toArray] Tryd.call57 rfl) (fun w1 hw1 => snew_c (zr8 16) w1 (zr8_len 16) (hG.at hw1))) rfl ?_
 rintro v1 L1 ⟨_, ⟨nb1, nb2, rfl, rfl⟩, rfl⟩
 show JL _ _ _ _ ((9, Ptr nb1 0) :: _) [⟨nb2, cu8 (rkL (encK (zr8 16))) ++ cu8 thereL ++ cu8 backL, 170, (0, 0)⟩, ⟨nb1, cu8 (encK (zr8 16)) ++ cu8 (tgK (zr8 16)) ++ cu8 (macL (zr8 16) ([101, 110, 116, 114, 117, 115, 116, 32, 116, 105, 99, 107, 101, 116] : List UInt8)) ++ cu8 (macL (zr8 16) ([101, 110, 116, 114, 117, 115, 116, 32, 108, 105, 110, 107] : List UInt8)) ++ [Ptr nb2 0], 145, (0, 0)⟩]
 refine JL_val _ (Ev_assign rfl) rfl ?_
 refine JL_nil ?_
 refine JQ_then ?_
 refine JC_seq ?_
 refine JC_region ?_
 refine JL_val _ (Ev_move rfl) rfl ?_
 refine JL_val (.agg (cu8 b5L).toArray) (Ev_build [(0, U8 (5:UInt8))] _ rfl (fun _ => by kernel_rfl)) rfl ?_
 refine JL_step (Step_callP 58 [Ptr nb1 0, U64 (0:UInt64), U64 (1:UInt64), .agg (cu8 b5L).toArray] (.tuple #[.agg (List.toArray (α := Value) ([U64 (sE (0:UInt64) (1:UInt64))] ++ cu8 (sD (zr8 16) (0:UInt64) (1:UInt64) b5L) ++ cu8 (sT (zr8 16) (0:UInt64) (1:UInt64) b5L))), errV 43 (sealN (0:UInt64) (1:UInt64))]) (Cl_func [Ptr nb1 0, U64 (0:UInt64), U64 (1:UInt64), .agg (cu8 b5L).toArray] Tryd.call58 rfl) (fun w1 hw1 => seal_w nb1 nb2 (zr8 16) (0:UInt64) (1:UInt64) b5L w1 (zr8_len 16) (hw1.ent _ (List.mem_of_getElem? (i := 1) rfl)) (hw1.ent _ (List.mem_of_getElem? (i := 0) rfl)) b5L_len (hG.at hw1))) rfl ?_
 rintro v1 L1 ⟨rfl, rfl⟩
 show JL _ _ _ _ ((13, .tuple #[.agg (List.toArray (α := Value) ([U64 (sE (0:UInt64) (1:UInt64))] ++ cu8 (sD (zr8 16) (0:UInt64) (1:UInt64) b5L) ++ cu8 (sT (zr8 16) (0:UInt64) (1:UInt64) b5L))), errV 43 (sealN (0:UInt64) (1:UInt64))]) :: _) [⟨nb2, cu8 (rkL (encK (zr8 16))) ++ cu8 thereL ++ cu8 backL, 170, (0, 0)⟩, ⟨nb1, cu8 (encK (zr8 16)) ++ cu8 (tgK (zr8 16)) ++ cu8 (macL (zr8 16) ([101, 110, 116, 114, 117, 115, 116, 32, 116, 105, 99, 107, 101, 116] : List UInt8)) ++ cu8 (macL (zr8 16) ([101, 110, 116, 114, 117, 115, 116, 32, 108, 105, 110, 107] : List UInt8)) ++ [Ptr nb2 0], 145, (0, 0)⟩]
 refine JL_val _ (Ev_move rfl) rfl ?_
 refine JL_val _ (Ev_extract rfl rfl) rfl ?_
 refine JL_val _ (Ev_extract rfl rfl) rfl ?_
 refine JL_step (Step_alloc _ ([U64 (0:UInt64)] ++ cu8 (zr8 32) ++ cu8 (zr8 16)) Tryd.zeroValue76 (by kernel_rfl)) rfl ?_
 rintro v1 L1 ⟨nb3, hnb3, rfl, rfl⟩
 show JL _ _ _ _ ((2, Ptr nb3 0) :: _) [⟨nb2, cu8 (rkL (encK (zr8 16))) ++ cu8 thereL ++ cu8 backL, 170, (0, 0)⟩, ⟨nb1, cu8 (encK (zr8 16)) ++ cu8 (tgK (zr8 16)) ++ cu8 (macL (zr8 16) ([101, 110, 116, 114, 117, 115, 116, 32, 116, 105, 99, 107, 101, 116] : List UInt8)) ++ cu8 (macL (zr8 16) ([101, 110, 116, 114, 117, 115, 116, 32, 108, 105, 110, 107] : List UInt8)) ++ [Ptr nb2 0], 145, (0, 0)⟩, ⟨nb3, [U64 (0:UInt64)] ++ cu8 (zr8 32) ++ cu8 (zr8 16), 76, (0, 0)⟩]
 refine JL_step (Step_store 2 nb3 0 49 ([U64 (0:UInt64)] ++ cu8 (zr8 32) ++ cu8 (zr8 16)) 76 (.agg (List.toArray (α := Value) ([U64 (sE (0:UInt64) (1:UInt64))] ++ cu8 (sD (zr8 16) (0:UInt64) (1:UInt64) b5L) ++ cu8 (sT (zr8 16) (0:UInt64) (1:UInt64) b5L)))) ([U64 (sE (0:UInt64) (1:UInt64))] ++ cu8 (sD (zr8 16) (0:UInt64) (1:UInt64) b5L) ++ cu8 (sT (zr8 16) (0:UInt64) (1:UInt64) b5L)) ([U64 (sE (0:UInt64) (1:UInt64))] ++ cu8 (sD (zr8 16) (0:UInt64) (1:UInt64) b5L) ++ cu8 (sT (zr8 16) (0:UInt64) (1:UInt64) b5L)) rfl rfl rfl (by first | rfl | simp) Tryd.sizeOf76 (by simp [(sD_len _ _ _ _), (sT_len _ _ _ _)]) (one_app (one_app (by simp [Value.oneCell']) one_u8) one_u8) (by simp [(zr8_len 32), (zr8_len 16)]) (lay_whole (by simp [(zr8_len 32), (zr8_len 16), (sD_len _ _ _ _), (sT_len _ _ _ _)]))) rfl ?_
 rintro v1 L1 ⟨rfl, rfl⟩
 show JL _ _ _ _ _ [⟨nb2, cu8 (rkL (encK (zr8 16))) ++ cu8 thereL ++ cu8 backL, 170, (0, 0)⟩, ⟨nb1, cu8 (encK (zr8 16)) ++ cu8 (tgK (zr8 16)) ++ cu8 (macL (zr8 16) ([101, 110, 116, 114, 117, 115, 116, 32, 116, 105, 99, 107, 101, 116] : List UInt8)) ++ cu8 (macL (zr8 16) ([101, 110, 116, 114, 117, 115, 116, 32, 108, 105, 110, 107] : List UInt8)) ++ [Ptr nb2 0], 145, (0, 0)⟩, ⟨nb3, [U64 (sE (0:UInt64) (1:UInt64))] ++ cu8 (sD (zr8 16) (0:UInt64) (1:UInt64) b5L) ++ cu8 (sT (zr8 16) (0:UInt64) (1:UInt64) b5L), 76, (0, 0)⟩]
 refine JL_val _ (Ev_assign rfl) rfl ?_
 refine JL_nil ?_
 refine JQ_then ?_
 refine JC_seq ?_
 refine JC_region ?_
 refine JL_val _ (Ev_move rfl) rfl ?_
 refine JL_val (.agg (List.toArray (α := Value) ([U64 (sE (0:UInt64) (1:UInt64))] ++ cu8 (sD (zr8 16) (0:UInt64) (1:UInt64) b5L) ++ cu8 (sT (zr8 16) (0:UInt64) (1:UInt64) b5L)))) (Ev_load rfl (Ld_agg Tryd.isAgg76 Tryd.sizeOf76 (by simp [(sD_len _ _ _ _), (sT_len _ _ _ _)]) (MemAt.ent 2 rfl (Seg.whole _)))) rfl ?_
 refine JL_step (Step_callP 62 [Ptr nb1 0, U64 (0:UInt64), .agg (List.toArray (α := Value) ([U64 (sE (0:UInt64) (1:UInt64))] ++ cu8 (sD (zr8 16) (0:UInt64) (1:UInt64) b5L) ++ cu8 (sT (zr8 16) (0:UInt64) (1:UInt64) b5L)))] (.tuple #[.agg (cu8 (openBk (zr8 16) (0:UInt64) (sE (0:UInt64) (1:UInt64)) (sD (zr8 16) (0:UInt64) (1:UInt64) b5L) (sT (zr8 16) (0:UInt64) (1:UInt64) b5L))).toArray, errV 43 (openN (zr8 16) (0:UInt64) (sE (0:UInt64) (1:UInt64)) (sD (zr8 16) (0:UInt64) (1:UInt64) b5L) (sT (zr8 16) (0:UInt64) (1:UInt64) b5L))]) (Cl_func [Ptr nb1 0, U64 (0:UInt64), .agg (List.toArray (α := Value) ([U64 (sE (0:UInt64) (1:UInt64))] ++ cu8 (sD (zr8 16) (0:UInt64) (1:UInt64) b5L) ++ cu8 (sT (zr8 16) (0:UInt64) (1:UInt64) b5L)))] Tryd.call62 rfl) (fun w1 hw1 => open_w nb1 nb2 (zr8 16) (0:UInt64) (sE (0:UInt64) (1:UInt64)) (sD (zr8 16) (0:UInt64) (1:UInt64) b5L) (sT (zr8 16) (0:UInt64) (1:UInt64) b5L) w1 (zr8_len 16) (hw1.ent _ (List.mem_of_getElem? (i := 1) rfl)) (hw1.ent _ (List.mem_of_getElem? (i := 0) rfl)) (sD_len _ _ _ _) (sT_len _ _ _ _) (hG.at hw1))) rfl ?_
 rintro v1 L1 ⟨rfl, rfl⟩
 show JL _ _ _ _ ((19, .tuple #[.agg (cu8 (openBk (zr8 16) (0:UInt64) (sE (0:UInt64) (1:UInt64)) (sD (zr8 16) (0:UInt64) (1:UInt64) b5L) (sT (zr8 16) (0:UInt64) (1:UInt64) b5L))).toArray, errV 43 (openN (zr8 16) (0:UInt64) (sE (0:UInt64) (1:UInt64)) (sD (zr8 16) (0:UInt64) (1:UInt64) b5L) (sT (zr8 16) (0:UInt64) (1:UInt64) b5L))]) :: _) [⟨nb2, cu8 (rkL (encK (zr8 16))) ++ cu8 thereL ++ cu8 backL, 170, (0, 0)⟩, ⟨nb1, cu8 (encK (zr8 16)) ++ cu8 (tgK (zr8 16)) ++ cu8 (macL (zr8 16) ([101, 110, 116, 114, 117, 115, 116, 32, 116, 105, 99, 107, 101, 116] : List UInt8)) ++ cu8 (macL (zr8 16) ([101, 110, 116, 114, 117, 115, 116, 32, 108, 105, 110, 107] : List UInt8)) ++ [Ptr nb2 0], 145, (0, 0)⟩, ⟨nb3, [U64 (sE (0:UInt64) (1:UInt64))] ++ cu8 (sD (zr8 16) (0:UInt64) (1:UInt64) b5L) ++ cu8 (sT (zr8 16) (0:UInt64) (1:UInt64) b5L), 76, (0, 0)⟩]
 refine JL_val _ (Ev_move rfl) rfl ?_
 refine JL_val _ (Ev_extract rfl rfl) rfl ?_
 refine JL_val _ (Ev_extract rfl rfl) rfl ?_
 refine JL_step (Step_alloc _ (cu8 (zr8 32)) Tryd.zeroValue74 (by kernel_rfl)) rfl ?_
 rintro v1 L1 ⟨nb4, hnb4, rfl, rfl⟩
 show JL _ _ _ _ ((4, Ptr nb4 0) :: _) [⟨nb2, cu8 (rkL (encK (zr8 16))) ++ cu8 thereL ++ cu8 backL, 170, (0, 0)⟩, ⟨nb1, cu8 (encK (zr8 16)) ++ cu8 (tgK (zr8 16)) ++ cu8 (macL (zr8 16) ([101, 110, 116, 114, 117, 115, 116, 32, 116, 105, 99, 107, 101, 116] : List UInt8)) ++ cu8 (macL (zr8 16) ([101, 110, 116, 114, 117, 115, 116, 32, 108, 105, 110, 107] : List UInt8)) ++ [Ptr nb2 0], 145, (0, 0)⟩, ⟨nb3, [U64 (sE (0:UInt64) (1:UInt64))] ++ cu8 (sD (zr8 16) (0:UInt64) (1:UInt64) b5L) ++ cu8 (sT (zr8 16) (0:UInt64) (1:UInt64) b5L), 76, (0, 0)⟩, ⟨nb4, cu8 (zr8 32), 74, (0, 0)⟩]
 refine JL_step (Step_store 3 nb4 0 32 (cu8 (zr8 32)) 74 (.agg (cu8 (openBk (zr8 16) (0:UInt64) (sE (0:UInt64) (1:UInt64)) (sD (zr8 16) (0:UInt64) (1:UInt64) b5L) (sT (zr8 16) (0:UInt64) (1:UInt64) b5L))).toArray) (cu8 (openBk (zr8 16) (0:UInt64) (sE (0:UInt64) (1:UInt64)) (sD (zr8 16) (0:UInt64) (1:UInt64) b5L) (sT (zr8 16) (0:UInt64) (1:UInt64) b5L))) (cu8 (openBk (zr8 16) (0:UInt64) (sE (0:UInt64) (1:UInt64)) (sD (zr8 16) (0:UInt64) (1:UInt64) b5L) (sT (zr8 16) (0:UInt64) (1:UInt64) b5L))) rfl rfl rfl (by first | rfl | simp) Tryd.sizeOf74 (len_cu8 (openBk_len _ _ _ _ _)) (by first | exact one_u8 | exact one_u32 | exact one_u64 | (simp [cu8, cu32, cu64, Value.oneCell']; done)) (by simp [(zr8_len 32)]) (lay_whole (by simp [(zr8_len 32), (openBk_len _ _ _ _ _)]))) rfl ?_
 rintro v1 L1 ⟨rfl, rfl⟩
 show JL _ _ _ _ _ [⟨nb2, cu8 (rkL (encK (zr8 16))) ++ cu8 thereL ++ cu8 backL, 170, (0, 0)⟩, ⟨nb1, cu8 (encK (zr8 16)) ++ cu8 (tgK (zr8 16)) ++ cu8 (macL (zr8 16) ([101, 110, 116, 114, 117, 115, 116, 32, 116, 105, 99, 107, 101, 116] : List UInt8)) ++ cu8 (macL (zr8 16) ([101, 110, 116, 114, 117, 115, 116, 32, 108, 105, 110, 107] : List UInt8)) ++ [Ptr nb2 0], 145, (0, 0)⟩, ⟨nb3, [U64 (sE (0:UInt64) (1:UInt64))] ++ cu8 (sD (zr8 16) (0:UInt64) (1:UInt64) b5L) ++ cu8 (sT (zr8 16) (0:UInt64) (1:UInt64) b5L), 76, (0, 0)⟩, ⟨nb4, cu8 (openBk (zr8 16) (0:UInt64) (sE (0:UInt64) (1:UInt64)) (sD (zr8 16) (0:UInt64) (1:UInt64) b5L) (sT (zr8 16) (0:UInt64) (1:UInt64) b5L)), 74, (0, 0)⟩]
 refine JL_val _ (Ev_assign rfl) rfl ?_
 refine JL_nil ?_
 refine JQ_then ?_
 refine JC_seq ?_
 refine JC_region ?_
 refine JL_val _ (Ev_move rfl) rfl ?_
 refine JL_val (.agg (List.toArray (α := Value) ([U64 (sE (0:UInt64) (1:UInt64))] ++ cu8 (sD (zr8 16) (0:UInt64) (1:UInt64) b5L) ++ cu8 (sT (zr8 16) (0:UInt64) (1:UInt64) b5L)))) (Ev_load rfl (Ld_agg Tryd.isAgg76 Tryd.sizeOf76 (by simp [(sD_len _ _ _ _), (sT_len _ _ _ _)]) (MemAt.ent 2 rfl (Seg.whole _)))) rfl ?_
 refine JL_step (Step_callP 62 [Ptr nb1 0, U64 (1:UInt64), .agg (List.toArray (α := Value) ([U64 (sE (0:UInt64) (1:UInt64))] ++ cu8 (sD (zr8 16) (0:UInt64) (1:UInt64) b5L) ++ cu8 (sT (zr8 16) (0:UInt64) (1:UInt64) b5L)))] (.tuple #[.agg (cu8 (openBk (zr8 16) (1:UInt64) (sE (0:UInt64) (1:UInt64)) (sD (zr8 16) (0:UInt64) (1:UInt64) b5L) (sT (zr8 16) (0:UInt64) (1:UInt64) b5L))).toArray, errV 43 (openN (zr8 16) (1:UInt64) (sE (0:UInt64) (1:UInt64)) (sD (zr8 16) (0:UInt64) (1:UInt64) b5L) (sT (zr8 16) (0:UInt64) (1:UInt64) b5L))]) (Cl_func [Ptr nb1 0, U64 (1:UInt64), .agg (List.toArray (α := Value) ([U64 (sE (0:UInt64) (1:UInt64))] ++ cu8 (sD (zr8 16) (0:UInt64) (1:UInt64) b5L) ++ cu8 (sT (zr8 16) (0:UInt64) (1:UInt64) b5L)))] Tryd.call62 rfl) (fun w1 hw1 => open_w nb1 nb2 (zr8 16) (1:UInt64) (sE (0:UInt64) (1:UInt64)) (sD (zr8 16) (0:UInt64) (1:UInt64) b5L) (sT (zr8 16) (0:UInt64) (1:UInt64) b5L) w1 (zr8_len 16) (hw1.ent _ (List.mem_of_getElem? (i := 1) rfl)) (hw1.ent _ (List.mem_of_getElem? (i := 0) rfl)) (sD_len _ _ _ _) (sT_len _ _ _ _) (hG.at hw1))) rfl ?_
 rintro v1 L1 ⟨rfl, rfl⟩
 show JL _ _ _ _ ((25, .tuple #[.agg (cu8 (openBk (zr8 16) (1:UInt64) (sE (0:UInt64) (1:UInt64)) (sD (zr8 16) (0:UInt64) (1:UInt64) b5L) (sT (zr8 16) (0:UInt64) (1:UInt64) b5L))).toArray, errV 43 (openN (zr8 16) (1:UInt64) (sE (0:UInt64) (1:UInt64)) (sD (zr8 16) (0:UInt64) (1:UInt64) b5L) (sT (zr8 16) (0:UInt64) (1:UInt64) b5L))]) :: _) [⟨nb2, cu8 (rkL (encK (zr8 16))) ++ cu8 thereL ++ cu8 backL, 170, (0, 0)⟩, ⟨nb1, cu8 (encK (zr8 16)) ++ cu8 (tgK (zr8 16)) ++ cu8 (macL (zr8 16) ([101, 110, 116, 114, 117, 115, 116, 32, 116, 105, 99, 107, 101, 116] : List UInt8)) ++ cu8 (macL (zr8 16) ([101, 110, 116, 114, 117, 115, 116, 32, 108, 105, 110, 107] : List UInt8)) ++ [Ptr nb2 0], 145, (0, 0)⟩, ⟨nb3, [U64 (sE (0:UInt64) (1:UInt64))] ++ cu8 (sD (zr8 16) (0:UInt64) (1:UInt64) b5L) ++ cu8 (sT (zr8 16) (0:UInt64) (1:UInt64) b5L), 76, (0, 0)⟩, ⟨nb4, cu8 (openBk (zr8 16) (0:UInt64) (sE (0:UInt64) (1:UInt64)) (sD (zr8 16) (0:UInt64) (1:UInt64) b5L) (sT (zr8 16) (0:UInt64) (1:UInt64) b5L)), 74, (0, 0)⟩]
 refine JL_val _ (Ev_move rfl) rfl ?_
 refine JL_val _ (Ev_extract rfl rfl) rfl ?_
 refine JL_val _ (Ev_extract rfl rfl) rfl ?_
 refine JL_step (Step_alloc _ (cu8 (zr8 32)) Tryd.zeroValue74 (by kernel_rfl)) rfl ?_
 rintro v1 L1 ⟨nb5, hnb5, rfl, rfl⟩
 show JL _ _ _ _ ((6, Ptr nb5 0) :: _) [⟨nb2, cu8 (rkL (encK (zr8 16))) ++ cu8 thereL ++ cu8 backL, 170, (0, 0)⟩, ⟨nb1, cu8 (encK (zr8 16)) ++ cu8 (tgK (zr8 16)) ++ cu8 (macL (zr8 16) ([101, 110, 116, 114, 117, 115, 116, 32, 116, 105, 99, 107, 101, 116] : List UInt8)) ++ cu8 (macL (zr8 16) ([101, 110, 116, 114, 117, 115, 116, 32, 108, 105, 110, 107] : List UInt8)) ++ [Ptr nb2 0], 145, (0, 0)⟩, ⟨nb3, [U64 (sE (0:UInt64) (1:UInt64))] ++ cu8 (sD (zr8 16) (0:UInt64) (1:UInt64) b5L) ++ cu8 (sT (zr8 16) (0:UInt64) (1:UInt64) b5L), 76, (0, 0)⟩, ⟨nb4, cu8 (openBk (zr8 16) (0:UInt64) (sE (0:UInt64) (1:UInt64)) (sD (zr8 16) (0:UInt64) (1:UInt64) b5L) (sT (zr8 16) (0:UInt64) (1:UInt64) b5L)), 74, (0, 0)⟩, ⟨nb5, cu8 (zr8 32), 74, (0, 0)⟩]
 refine JL_step (Step_store 4 nb5 0 32 (cu8 (zr8 32)) 74 (.agg (cu8 (openBk (zr8 16) (1:UInt64) (sE (0:UInt64) (1:UInt64)) (sD (zr8 16) (0:UInt64) (1:UInt64) b5L) (sT (zr8 16) (0:UInt64) (1:UInt64) b5L))).toArray) (cu8 (openBk (zr8 16) (1:UInt64) (sE (0:UInt64) (1:UInt64)) (sD (zr8 16) (0:UInt64) (1:UInt64) b5L) (sT (zr8 16) (0:UInt64) (1:UInt64) b5L))) (cu8 (openBk (zr8 16) (1:UInt64) (sE (0:UInt64) (1:UInt64)) (sD (zr8 16) (0:UInt64) (1:UInt64) b5L) (sT (zr8 16) (0:UInt64) (1:UInt64) b5L))) rfl rfl rfl (by first | rfl | simp) Tryd.sizeOf74 (len_cu8 (openBk_len _ _ _ _ _)) (by first | exact one_u8 | exact one_u32 | exact one_u64 | (simp [cu8, cu32, cu64, Value.oneCell']; done)) (by simp [(zr8_len 32)]) (lay_whole (by simp [(zr8_len 32), (openBk_len _ _ _ _ _)]))) rfl ?_
 rintro v1 L1 ⟨rfl, rfl⟩
 show JL _ _ _ _ _ [⟨nb2, cu8 (rkL (encK (zr8 16))) ++ cu8 thereL ++ cu8 backL, 170, (0, 0)⟩, ⟨nb1, cu8 (encK (zr8 16)) ++ cu8 (tgK (zr8 16)) ++ cu8 (macL (zr8 16) ([101, 110, 116, 114, 117, 115, 116, 32, 116, 105, 99, 107, 101, 116] : List UInt8)) ++ cu8 (macL (zr8 16) ([101, 110, 116, 114, 117, 115, 116, 32, 108, 105, 110, 107] : List UInt8)) ++ [Ptr nb2 0], 145, (0, 0)⟩, ⟨nb3, [U64 (sE (0:UInt64) (1:UInt64))] ++ cu8 (sD (zr8 16) (0:UInt64) (1:UInt64) b5L) ++ cu8 (sT (zr8 16) (0:UInt64) (1:UInt64) b5L), 76, (0, 0)⟩, ⟨nb4, cu8 (openBk (zr8 16) (0:UInt64) (sE (0:UInt64) (1:UInt64)) (sD (zr8 16) (0:UInt64) (1:UInt64) b5L) (sT (zr8 16) (0:UInt64) (1:UInt64) b5L)), 74, (0, 0)⟩, ⟨nb5, cu8 (openBk (zr8 16) (1:UInt64) (sE (0:UInt64) (1:UInt64)) (sD (zr8 16) (0:UInt64) (1:UInt64) b5L) (sT (zr8 16) (0:UInt64) (1:UInt64) b5L)), 74, (0, 0)⟩]
 refine JL_val _ (Ev_assign rfl) rfl ?_
 refine JL_nil ?_
 refine JQ_then ?_
 refine JC_seq ?_
 refine JC_region ?_
 refine JL_val _ (Ev_move rfl) rfl ?_
 refine JL_val (.bool (decide (sealN (0:UInt64) (1:UInt64) = 0))) (Ev_bin _ _ _ rfl rfl (fun _ => eqGuard_errV ..) fun _ => eql_errV Tryd.underlying39 _ _) rfl ?_
 refine JL_val _ (Ev_move rfl) rfl ?_
 refine JL_gval 2 30 true _ _ rfl rfl (decide_eq_true alive7_s) (Ev_move rfl) rfl ?_
 refine JL_gval 2 30 true _ (.bool (decide (openN (zr8 16) (0:UInt64) (sE (0:UInt64) (1:UInt64)) (sD (zr8 16) (0:UInt64) (1:UInt64) b5L) (sT (zr8 16) (0:UInt64) (1:UInt64) b5L) = 0))) rfl rfl (decide_eq_true alive7_s) (Ev_bin _ _ _ rfl rfl (fun _ => eqGuard_errV ..) fun _ => eql_errV Tryd.underlying39 _ _) rfl ?_
 refine JL_val _ (Ev_pickT _ rfl (decide_eq_true alive7_s) rfl) rfl ?_
 refine JL_val _ (Ev_move rfl) rfl ?_
 refine JL_gval 6 34 true _ (.agg (cu8 (openBk (zr8 16) (0:UInt64) (sE (0:UInt64) (1:UInt64)) (sD (zr8 16) (0:UInt64) (1:UInt64) b5L) (sT (zr8 16) (0:UInt64) (1:UInt64) b5L))).toArray) rfl rfl (decide_eq_true alive7_o) (Ev_load rfl (Ld_agg Tryd.isAgg74 Tryd.sizeOf74 (len_cu8 (openBk_len _ _ _ _ _)) (MemAt.ent 3 rfl (Seg.whole _)))) rfl ?_
 refine JL_gval 6 34 true _ (.agg (cu8 b5L).toArray) rfl rfl (decide_eq_true alive7_o) (Ev_build [(0, U8 (5:UInt8))] _ rfl (fun _ => by kernel_rfl)) rfl ?_
 refine JL_gval 6 34 true _ (.bool (decide ((openBk (zr8 16) (0:UInt64) (sE (0:UInt64) (1:UInt64)) (sD (zr8 16) (0:UInt64) (1:UInt64) b5L) (sT (zr8 16) (0:UInt64) (1:UInt64) b5L)) = b5L))) rfl rfl (decide_eq_true alive7_o) (Ev_bin _ _ _ rfl rfl (fun _ => eqGuard_agg _ _ _ _ _ _ (by kernel_rfl)) fun _ => eql_arr8 Tryd.underlying74 Tryd.underlying5 Tryd.isAgg5 Tryd.cells5 Tryd.has5 (by simp [(openBk_len _ _ _ _ _)]) (by simp [b5L_len])) rfl ?_
 refine JL_val _ (Ev_pickT _ rfl (decide_eq_true alive7_o) rfl) rfl ?_
 refine JL_val _ (Ev_move rfl) rfl ?_
 refine JL_gval 11 39 true _ _ rfl rfl (decide_eq_true alive7_b) (Ev_move rfl) rfl ?_
 refine JL_gstep 11 39 true _ rfl rfl (decide_eq_true alive7_b) (Step_callP 33 [errV 43 (openN (zr8 16) (1:UInt64) (sE (0:UInt64) (1:UInt64)) (sD (zr8 16) (0:UInt64) (1:UInt64) b5L) (sT (zr8 16) (0:UInt64) (1:UInt64) b5L)), I64 (4:Int)] (.bool (decide ((openN (zr8 16) (1:UInt64) (sE (0:UInt64) (1:UInt64)) (sD (zr8 16) (0:UInt64) (1:UInt64) b5L) (sT (zr8 16) (0:UInt64) (1:UInt64) b5L):Int) = (4:Int)))) (Cl_func [errV 43 (openN (zr8 16) (1:UInt64) (sE (0:UInt64) (1:UInt64)) (sD (zr8 16) (0:UInt64) (1:UInt64) b5L) (sT (zr8 16) (0:UInt64) (1:UInt64) b5L)), I64 (4:Int)] Tryd.call33 rfl) (fun w1 hw1 => is_c (openN (zr8 16) (1:UInt64) (sE (0:UInt64) (1:UInt64)) (sD (zr8 16) (0:UInt64) (1:UInt64) b5L) (sT (zr8 16) (0:UInt64) (1:UInt64) b5L)) 4 w1)) rfl ?_
 rintro v1 L1 ⟨rfl, rfl⟩
 show JL _ _ _ _ ((41, .bool (decide ((openN (zr8 16) (1:UInt64) (sE (0:UInt64) (1:UInt64)) (sD (zr8 16) (0:UInt64) (1:UInt64) b5L) (sT (zr8 16) (0:UInt64) (1:UInt64) b5L):Int) = (4:Int)))) :: _) [⟨nb2, cu8 (rkL (encK (zr8 16))) ++ cu8 thereL ++ cu8 backL, 170, (0, 0)⟩, ⟨nb1, cu8 (encK (zr8 16)) ++ cu8 (tgK (zr8 16)) ++ cu8 (macL (zr8 16) ([101, 110, 116, 114, 117, 115, 116, 32, 116, 105, 99, 107, 101, 116] : List UInt8)) ++ cu8 (macL (zr8 16) ([101, 110, 116, 114, 117, 115, 116, 32, 108, 105, 110, 107] : List UInt8)) ++ [Ptr nb2 0], 145, (0, 0)⟩, ⟨nb3, [U64 (sE (0:UInt64) (1:UInt64))] ++ cu8 (sD (zr8 16) (0:UInt64) (1:UInt64) b5L) ++ cu8 (sT (zr8 16) (0:UInt64) (1:UInt64) b5L), 76, (0, 0)⟩, ⟨nb4, cu8 (openBk (zr8 16) (0:UInt64) (sE (0:UInt64) (1:UInt64)) (sD (zr8 16) (0:UInt64) (1:UInt64) b5L) (sT (zr8 16) (0:UInt64) (1:UInt64) b5L)), 74, (0, 0)⟩, ⟨nb5, cu8 (openBk (zr8 16) (1:UInt64) (sE (0:UInt64) (1:UInt64)) (sD (zr8 16) (0:UInt64) (1:UInt64) b5L) (sT (zr8 16) (0:UInt64) (1:UInt64) b5L)), 74, (0, 0)⟩]
 refine JL_val _ (Ev_pickT _ rfl (decide_eq_true alive7_b) rfl) rfl ?_
 refine JL_val _ (Ev_assign rfl) rfl ?_
 refine JL_nil ?_
 refine JQ_then ?_
 refine JC_ret ?_
 refine K_mask [false, false, false, false, false] ?_
 show JQ _ _ _ _ []
 refine JQ_ret (.bool (decide ((openN (zr8 16) (1:UInt64) (sE (0:UInt64) (1:UInt64)) (sD (zr8 16) (0:UInt64) (1:UInt64) b5L) (sT (zr8 16) (0:UInt64) (1:UInt64) b5L):Int) = (4:Int)))) (res1 Tryd.results56 (RV_tmp rfl)) fun w1 hw1 => ?_
 exact ⟨_, [], rfl, ⟨by rw [show (decide ((openN (zr8 16) (1:UInt64) (sE (0:UInt64) (1:UInt64)) (sD (zr8 16) (0:UInt64) (1:UInt64) b5L) (sT (zr8 16) (0:UInt64) (1:UInt64) b5L):Int) = (4:Int))) = true from (decide_eq_true (by rw [alive7_n]; rfl))], rfl⟩, hw1.sub (by simp) (by simp)⟩
end Go.Proofs.YtncoifiafklkjaaDoor
namespace Go.Proofs.YtncoifiafklkjaaDoor
open Go Go.Sx Go.RowKit
set_option linter.unusedVariables false
set_option linter.unusedSimpArgs false
instance (s : Int) : Decidable (Szd s) := by unfold Szd; infer_instance
def advA (ao : Option Addr) (c s : Nat) : Option Addr := if c = s then ao else ao.map (·.add (s * 1))
theorem RdB.adv {w : World} {M : List Nat} {ao : Option Addr} {z : List UInt8} {c : Nat} (h : RdB w M ao z) (s : Nat) (hs : s ≤ z.length) (hc : z.length ≤ c) : RdB w M (advA ao c s) (z.drop s) := by
 have := RdB.slice h s z.length (Nat.le_refl _) hc
 rwa [List.take_of_length_le (by simp)] at this
theorem RdB.pre {w : World} {M : List Nat} {ao : Option Addr} {z : List UInt8} (h : RdB w M ao z) (s : Nat) : RdB w M ao (mid z 0 s) := by
  rcases h with rfl | ⟨b, off, h1, h2, h3, h4⟩
  · exact .inl (by simp [mid])
  · refine .inr ⟨b, off, h1, h2, h3, fun j v hj => h4 j v ?_⟩
    simp only [mid, List.drop_zero, cu8, List.map_take] at hj
    have hlt := (List.getElem?_eq_some_iff.1 hj).1
    rw [List.getElem?_take, if_pos (by simp at hlt; omega)] at hj
    exact hj
def Adv (ao : Option Addr) (z : List UInt8) (c : Nat) (ao' : Option Addr) (z' : List UInt8) (c' : Nat) : Prop :=
 (∀ w M, RdB w M ao z → RdB w M ao' z') ∧ z'.length ≤ c' ∧ c' ≤ maxLen ∧ z'.length ≤ z.length
theorem Adv.drop {ao : Option Addr} {z : List UInt8} {c : Nat} (s : Nat) (hs : s ≤ z.length) (h : z.length ≤ c) (hm : c ≤ maxLen) : Adv ao z c (advA ao c s) (z.drop s) (c - s) :=
 ⟨fun _ _ hr => RdB.adv hr s hs h, by simp; omega, by omega, by simp⟩
theorem Adv.trans {ao ao' ao'' : Option Addr} {z z' z'' : List UInt8} {c c' c'' : Nat} (h : Adv ao z c ao' z' c') (h' : Adv ao' z' c' ao'' z'' c'') : Adv ao z c ao'' z'' c'' :=
 ⟨fun w M hr => h'.1 w M (h.1 w M hr), h'.2.1, h'.2.2.1, Nat.le_trans h'.2.2.2 h.2.2.2⟩
def TkOk (z : List UInt8) (e : Nat) (s : Int) : Prop := e = 0 ∧ 0 ≤ s ∧ s ≤ z.length
instance (z : List UInt8) (e : Nat) (s : Int) : Decidable (TkOk z e s) := by unfold TkOk; infer_instance
def NuOk (z : List UInt8) (e : Nat) (s : Int) : Prop := e = 0 ∧ Szd s ∧ s ≤ z.length
instance (z : List UInt8) (e : Nat) (s : Int) : Decidable (NuOk z e s) := by unfold NuOk; infer_instance
def fdN (z : List UInt8) : Nat := 256 * (g8 z 0).toNat + (g8 z 1).toNat
def FdOk (z : List UInt8) (e : Nat) (s : Int) : Prop := e = 0 ∧ 2 ≤ z.length ∧ (fdN z : Int) ≤ s ∧ fdN z + 2 ≤ z.length
instance (z : List UInt8) (e : Nat) (s : Int) : Decidable (FdOk z e s) := by unfold FdOk; infer_instance
def HsOk (z : List UInt8) (e : Nat) : Prop := e = 0 ∧ 32 ≤ z.length
instance (z : List UInt8) (e : Nat) : Decidable (HsOk z e) := by unfold HsOk; infer_instance
def FgOk (z : List UInt8) (e : Nat) : Prop := e = 0 ∧ 1 ≤ z.length ∧ g8 z 0 ≤ 1
instance (z : List UInt8) (e : Nat) : Decidable (FgOk z e) := by unfold FgOk; infer_instance
structure ActV where
 kd : Int
 s : Int
 nn : UInt64
 ao : Option Addr
 p : Nat
 c : Nat
 z : List UInt8
section
variable {H : Type} {enc : TypeId × Value → H} {P : Program} {w : World} {base : Nat} {spare : Nat → Bool} {held : Bool} {sz : Bool}
end
def sumP (asL : List ActV) (i : Nat) : Nat := ((asL.take i).map ActV.p).sum
def LongP (asL : List ActV) (n : Nat) : Prop := ¬ (n ≤ 41 ∧ sumP asL n ≤ 200000)
instance (asL : List ActV) (n : Nat) : Decidable (LongP asL n) := by unfold LongP; infer_instance
end Go.Proofs.YtncoifiafklkjaaDoor
namespace Go.Proofs.YtncoifiafklkjaaDoor
open Go Go.Sx
set_option linter.unusedVariables false
def u8i (x : Int) : UInt8 := UInt8.ofNat (x % 256).toNat
theorem conv_i64_u8i {P : Program} {w : World} {src dst : TypeId} (hs : (P.underlying src).isSome = true) (hd : P.underlying dst = some (.int .u8)) (x : Int) : (convert src dst (I64 x)).run P w = .ok (U8 (u8i x)) w :=
 conv_int _ _ hs hd _ (by
  rw [IntKind.wrap_u8', u8i, UInt8.toNat_ofNat']
  have h1 : 0 ≤ x % 256 := Int.emod_nonneg _ (by omega)
  have h2 : x % 256 < 256 := Int.emod_lt_of_pos _ (by omega)
  rw [Nat.mod_eq_of_lt (by omega)]; omega)
def flipB (f : List UInt8) (q r : Nat) : List UInt8 := f.set q (g8 f q ^^^ ((1:UInt8) <<< UInt8.ofNat r))
theorem flipB_def (f : List UInt8) (q r : Nat) : flipB f q r = f.set q (g8 f q ^^^ ((1:UInt8) <<< UInt8.ofNat r)) := rfl
theorem flipB_len (f : List UInt8) (q r : Nat) : (flipB f q r).length = f.length := by unfold flipB; simp
theorem one_shlS {r : Nat} (h : r < 8) : (1:UInt8) <<< UInt8.ofNat r ≠ 0 := by
 have : r = 0 ∨ r = 1 ∨ r = 2 ∨ r = 3 ∨ r = 4 ∨ r = 5 ∨ r = 6 ∨ r = 7 := by omega
 rcases this with rfl | rfl | rfl | rfl | rfl | rfl | rfl | rfl <;> decide
theorem xor_neS {b c : UInt8} (h : c ≠ 0) : b ^^^ c ≠ b := fun e => h (by
 have h2 : b ^^^ (b ^^^ c) = b ^^^ b := by rw [e]
 rwa [← UInt8.xor_assoc, UInt8.xor_self, UInt8.zero_xor] at h2)
theorem flipB_ne {f : List UInt8} {q r : Nat} (hq : q < f.length) (hr : r < 8) : g8 (flipB f q r) q ≠ g8 f q := by
 unfold flipB
 rw [g8_set f q q _ hq, if_pos rfl]
 exact xor_neS (one_shlS hr)
theorem flipB_at {f : List UInt8} {q r i : Nat} (hq : q < f.length) (h : i ≠ q) : g8 (flipB f q r) i = g8 f i := by
 unfold flipB
 rw [g8_set f q i _ hq, if_neg (by omega)]
theorem g8_midL {l : List UInt8} {o n i : Nat} (h : i < n) : g8 (mid l o n) i = g8 l (o + i) := by
 unfold mid g8
 simp [h]
theorem g8_dropL {l : List UInt8} {o i : Nat} : g8 (l.drop o) i = g8 l (o + i) := by
 unfold g8
 simp
theorem rem448 (x : UInt64) : (x % (448:UInt64)).toNat < 448 := by
 rw [UInt64.toNat_mod]
 exact Nat.mod_lt _ (by decide)
def yE (z : List UInt8) : UInt64 := valK z 8
def yD (z : List UInt8) : List UInt8 := mid (z.drop 8) 0 32
def yT (z : List UInt8) : List UInt8 := mid ((z.drop 8).drop 32) 0 16
theorem yD_len {z : List UInt8} (h : z.length = 56) : (yD z).length = 32 := mid_len (by rw [List.length_drop, h]; omega)
theorem yT_len {z : List UInt8} (h : z.length = 56) : (yT z).length = 16 := mid_len (by rw [List.length_drop, List.length_drop, h]; omega)
theorem y8 {e : UInt64} : e.toNat / 256 ^ 8 = 0 := Nat.div_eq_of_lt (by have := e.toNat_lt; omega)
theorem putL_y {e : UInt64} {d t : List UInt8} (hd : d.length = 32) (ht : t.length = 16) : yE (putL e d t) = e ∧ yD (putL e d t) = d ∧ yT (putL e d t) = t := by
  have h8 : (numK 8 e 8).length = 8 := numK_len _ _ _
  have e0 : putL e d t = numK 8 e 8 ++ (d ++ t) := by unfold putL; rw [List.append_assoc]
  have hv : valK (numK 8 e 8) 8 = e := valK_back 8 e (by omega) y8
  generalize numK 8 e 8 = N at e0 h8 hv
  rw [e0]
  have d1 : (N ++ (d ++ t)).drop 8 = d ++ t := List.drop_left' h8
  refine ⟨?_, ?_, ?_⟩
  · unfold yE
    refine (valK_congr 8 (b := N) (fun i hi => ?_)).trans hv
    unfold g8
    simp [List.getElem?_append_left (show i < N.length by omega)]
  · unfold yD
    rw [d1]
    unfold mid
    rw [List.drop_zero]
    exact List.take_left' hd
  · unfold yT
    rw [d1, List.drop_left' hd]
    unfold mid
    rw [List.drop_zero, ← ht, List.take_length]
theorem yE_flip {f : List UInt8} {q r : Nat} (hq : q < f.length) (h : 8 ≤ q) : yE (flipB f q r) = yE f := valK_congr 8 (fun i hi => flipB_at hq (by omega))
theorem yD_flip {f : List UInt8} {q r : Nat} (hf : f.length = 56) (hq : q < f.length) (h : 40 ≤ q) : yD (flipB f q r) = yD f := by
  apply ext8n
  · rw [yD_len (by rw [flipB_len, hf]), yD_len hf]
  · intro i hi
    rw [yD_len (by rw [flipB_len, hf])] at hi
    unfold yD
    rw [g8_midL hi, g8_midL hi, g8_dropL, g8_dropL, flipB_at hq (by omega)]
theorem yT_flip {f : List UInt8} {q r : Nat} (hf : f.length = 56) (hq : q < f.length) (hr : r < 8) (h : 40 ≤ q) : yT (flipB f q r) ≠ yT f := fun he => by
 apply flipB_ne hq hr
 have h3 := congrArg (fun l => g8 l (q - 40)) he
 simp only [yT] at h3
 rw [g8_midL (by omega), g8_midL (by omega), g8_dropL, g8_dropL, g8_dropL, g8_dropL, show 8 + (32 + (0 + (q - 40))) = q by omega] at h3
 exact h3
theorem open_iff (k : List UInt8) (i e : UInt64) (d t : List UInt8) : decide (openN k i e d t = 0) = (RightB i e && decide (tagP k (placeT i e) d = t)) := by
  unfold openN
  cases h : RightB i e with
  | false => simp
  | true =>
    rw [if_pos rfl, Bool.true_and]
    refine decide_eq_decide.2 ?_
    by_cases ht : t = tagP k (placeT i e) d
    · rw [if_pos ht]; exact ⟨fun _ => ht.symm, fun _ => rfl⟩
    · rw [if_neg ht]; exact ⟨fun h => absurd h (by decide), fun h => absurd h.symm ht⟩
theorem seal_not {k b : List UInt8} {i e : UInt64} (h : ¬ sealN i e = 0) : decide (sE i e = 0 ∧ sD k i e b = zr8 32 ∧ sT k i e b = zr8 16) = true := by
 have hn : ¬ RightB i e = true := fun hr => h (by unfold sealN; rw [if_pos hr])
 unfold sE sD sT
 rw [if_neg hn, if_neg hn, if_neg hn]
 exact decide_eq_true ⟨rfl, rfl, rfl⟩
theorem open_back {k b : List UInt8} {i e : UInt64} (hb : b.length = 32) (h : sealN i e = 0) {q r : Nat} (hq : q < 56) (hr : r < 8) :
    decide (openN k i (yE (flipB (putL (sE i e) (sD k i e b) (sT k i e b)) q r)) (yD (flipB (putL (sE i e) (sD k i e b) (sT k i e b)) q r)) (yT (flipB (putL (sE i e) (sD k i e b) (sT k i e b)) q r)) = 0) = (decide ((q:Int) < (40:Int)) && (RightB i (yE (flipB (putL (sE i e) (sD k i e b) (sT k i e b)) q r)) && decide (tagP k (placeT i (yE (flipB (putL (sE i e) (sD k i e b) (sT k i e b)) q r))) (yD (flipB (putL (sE i e) (sD k i e b) (sT k i e b)) q r)) = yT (flipB (putL (sE i e) (sD k i e b) (sT k i e b)) q r)))) := by
  by_cases h4 : q < 40
  · rw [open_iff, decide_eq_true (show (q:Int) < (40:Int) by omega), Bool.true_and]
  · rw [decide_eq_false (show ¬ (q:Int) < (40:Int) by omega), Bool.false_and, open_iff]
    have hR := right_of h
    have hp := putL_len (e := sE i e) (sD_len k i e b) (sT_len k i e b)
    obtain ⟨p1, p2, p3⟩ := putL_y (e := sE i e) (sD_len k i e b) (sT_len k i e b)
    have ho := open_iff k i (sE i e) (sD k i e b) (sT k i e b)
    rw [decide_eq_true (open_seal hb hR).1] at ho
    have ht := of_decide_eq_true (Bool.and_eq_true_iff.1 ho.symm).2
    rw [yE_flip (by omega) (by omega), yD_flip hp (by omega) (by omega), p1, p2]
    have hT := yT_flip (q := q) (r := r) hp (by omega) hr (by omega)
    rw [p3] at hT
    rw [ht, decide_eq_false (fun x => hT x.symm), Bool.and_false]
end Go.Proofs.YtncoifiafklkjaaDoor
namespace Go.Proofs.YtncoifiafklkjaaDoor
open Go Go.Sx
set_option linter.unusedVariables false
set_option linter.unusedSimpArgs false
set_option maxRecDepth 100000
attribute [local irreducible] mid zr8 zr32 numK rnK valK
theorem leftZ_c (rb e : Nat) (ao : Option Addr) (n c : Nat) (w : World) (hw : RdA w rb 0 [errV 43 e, .slice ao n c]) (he : e = 0) : Calls Tryd.prog 137 #[Ptr rb 0] w (Post w [] (fun v L => v = I64 (n : Int) ∧ L = [])) := by
 refine enter w [] 18 [] [Ptr rb 0] Tryd.func137 rfl rfl (by simp) (Hp.start (by simp) (by simp) (by simp)) ?_
 show JC _ _ _ [(0, Ptr rb 0)] _
 refine JC_seq ?_
 refine JC_region ?_
 refine JL_val _ (Ev_assign rfl) rfl ?_
 refine JL_nil ?_
 refine JQ_then ?_
 refine JC_seq ?_
 refine JC_seq ?_
 refine JC_region ?_
 refine JL_val _ (Ev_move rfl) rfl ?_
 refine JL_val (.bool false) (Ev_bin _ _ _ rfl rfl (fun _ => eqGuard_ptr ..) fun _ => eql_ptr_nil Tryd.underlying153) rfl ?_
 refine JL_val _ (Ev_move rfl) rfl ?_
 refine JL_gval 2 5 false _ _ rfl rfl rfl (Ev_move rfl) rfl ?_
 refine JL_gval 2 5 false _ _ rfl rfl rfl (Ev_nilCheck rfl) rfl ?_
 refine JL_gval 2 5 false _ (Ptr rb 0) rfl rfl rfl (Ev_fieldAddr 0 136 1 Tryd.underlying178 rfl Tryd.sizeOf136 rfl rfl) rfl ?_
 refine JL_gval 2 5 false _ (Ptr rb 0) rfl rfl rfl (Ev_fieldAddr 0 39 1 Tryd.underlying136 rfl Tryd.sizeOf39 rfl rfl) rfl ?_
 refine JL_gval 2 5 false _ (errV 43 e) rfl rfl rfl (Ev_load rfl (Ld_one Tryd.isAgg39 (MemAt.seg (hw.mem (by simp)) (Seg.head) (by omega)))) rfl ?_
 refine JL_gval 2 5 false _ (.bool (!(decide (e = 0)))) rfl rfl rfl (Ev_bin _ _ _ rfl rfl (fun _ => eqGuard_errV ..) fun _ => neq_errV Tryd.underlying39 _ _) rfl ?_
 refine JL_val _ (Ev_pickF _ rfl rfl rfl) rfl ?_
 refine JL_nil ?_
 refine JQ_then ?_
 refine JC_condF _ rfl (by rw [show (decide (e = 0)) = true from (decide_eq_true he)]; rfl) ?_
 refine JC_skip ?_
 refine JQ_then ?_
 refine JC_seq ?_
 refine JC_region ?_
 refine JL_val _ (Ev_move rfl) rfl ?_
 refine JL_val _ (Ev_nilCheck rfl) rfl ?_
 refine JL_val (Ptr rb 1) (Ev_fieldAddr 1 22 1 Tryd.underlying178 rfl Tryd.sizeOf22 rfl rfl) rfl ?_
 refine JL_val (.slice ao n c) (Ev_load rfl (Ld_one Tryd.isAgg22 (MemAt.seg (hw.mem (by simp)) (Seg.tail (Seg.head)) (by omega)))) rfl ?_
 refine JL_val (I64 ((n:Int))) (Ev_len Tryd.underlying22 rfl) rfl ?_
 refine JL_val _ (Ev_assign rfl) rfl ?_
 refine JL_nil ?_
 refine JQ_then ?_
 refine JC_ret ?_
 refine JQ_ret (I64 ((n:Int))) (res1 Tryd.results137 (RV_tmp rfl)) fun w1 hw1 => ?_
 exact ⟨_, [], rfl, ⟨rfl, rfl⟩, hw1.sub (by simp) (by simp)⟩
theorem rawROk_c (rb e : Nat) (ao : Option Addr) (n c : Nat) (z : List UInt8) (s n2 c2 : Nat) (w : World) (h0 : w.heap[rb]? = some (.cells [errV 43 e, .slice ao n c].toArray 178 (0, 0))) (hz : z.length = n) (hn : n ≤ 2000000000) (hc : n ≤ c) (hcm : c ≤ maxLen) (hr : RdB w [rb] ao z) (he : e = 0) (h1 : 0 < s) (h2 : s ≤ n) (ht1 : s + n2 = n) (ht2 : s + c2 = c) : Calls Tryd.prog 129 #[Ptr rb 0, I64 ((s:Int))] w (Post w [rb] (fun v L => ∃ g sp cap, v = Slc g 0 s cap ∧ L = [⟨rb, [errV 43 e, .slice (advA ao c s) n2 c2], 178, (0, 0)⟩, ⟨g, cu8 (mid z 0 s) ++ sp, 5, (0, 0)⟩] ∧ sp.length = cap - s ∧ s ≤ cap ∧ cap ≤ maxLen)) := by
 have hsome : ao.isNone = false := by
  obtain ⟨_, _, ha, _⟩ := hr.pos (by omega)
  rw [ha]; rfl
 refine enter w [rb] 36 [⟨rb, [errV 43 e, .slice ao n c], 178, (0, 0)⟩] [Ptr rb 0, I64 ((s:Int))] Tryd.func129 rfl rfl (by simp) (Hp.start (by simpa using h0) (by simp) (by simp)) ?_
 show JC _ _ _ [(0, Ptr rb 0), (1, I64 ((s:Int)))] _
 refine JC_seq ?_
 refine JC_region ?_
 refine JL_val _ (Ev_assign rfl) rfl ?_
 refine JL_nil ?_
 refine JQ_then ?_
 refine JC_seq ?_
 refine JC_seq ?_
 refine JC_region ?_
 refine JL_val _ (Ev_move rfl) rfl ?_
 refine JL_val (.bool (decide (((s:Int)) < (0:Int)))) (Ev_bini rfl rfl fun _ => bin_lss_i _ _) rfl ?_
 refine JL_val _ (Ev_move rfl) rfl ?_
 refine JL_gval 2 8 false _ _ rfl rfl (decide_eq_false (by omega)) (Ev_move rfl) rfl ?_
 refine JL_gval 2 8 false _ _ rfl rfl (decide_eq_false (by omega)) (Ev_move rfl) rfl ?_
 refine JL_gstep 2 8 false _ rfl rfl (decide_eq_false (by omega)) (Step_callP 137 [Ptr rb 0] (I64 ((n:Int))) (Cl_func [Ptr rb 0] Tryd.call137 rfl) (fun w1 hw1 => leftZ_c rb e ao n c w1 (RdA.of hw1 (MemAt.ent 0 rfl (Seg.whole _)) (by simp)) he)) rfl ?_
 rintro v1 L1 ⟨rfl, rfl⟩
 show JL _ _ _ _ ((11, I64 ((n:Int))) :: _) [⟨rb, [errV 43 e, .slice ao n c], 178, (0, 0)⟩]
 refine JL_gval 2 8 false _ (.bool (decide (((n:Int)) < ((s:Int))))) rfl rfl (decide_eq_false (by omega)) (Ev_bini rfl rfl fun _ => bin_gtr_i _ _) rfl ?_
 refine JL_val _ (Ev_pickF _ rfl (decide_eq_false (by omega)) rfl) rfl ?_
 refine JL_nil ?_
 refine JQ_then ?_
 refine JC_condF _ rfl (decide_eq_false (by omega)) ?_
 refine JC_skip ?_
 refine JQ_then ?_
 refine JC_seq ?_
 refine JC_seq ?_
 refine JC_region ?_
 refine JL_val _ (Ev_move rfl) rfl ?_
 refine JL_val (.bool (decide (((s:Int)) = (0:Int)))) (Ev_bini rfl rfl fun _ => bin_eql_i _ _) rfl ?_
 refine JL_nil ?_
 refine JQ_then ?_
 refine JC_condF _ rfl (decide_eq_false (by omega)) ?_
 refine JC_skip ?_
 refine JQ_then ?_
 refine JC_seq ?_
 refine JC_region ?_
 refine JL_val _ (Ev_move rfl) rfl ?_
 refine JL_val _ (Ev_nilCheck rfl) rfl ?_
 refine JL_val (Ptr rb 1) (Ev_fieldAddr 1 22 1 Tryd.underlying178 rfl Tryd.sizeOf22 rfl rfl) rfl ?_
 refine JL_val (.slice ao n c) (Ev_load rfl (Ld_one Tryd.isAgg22 (MemAt.ent 0 rfl (Seg.tail (Seg.head))))) rfl ?_
 refine JL_val _ (Ev_move rfl) rfl ?_
 have hl1 : (mid z 0 s).length = s := mid_len (by rw [hz]; omega)
 have hr1 := RdB.pre hr s
 refine JL_val (.slice ao s c) (Ev_sliceHi 5 1 s Tryd.underlying22 Tryd.sizeOf5 rfl rfl (by omega)) rfl ?_
 refine JL_step (Step_callN 84 [.slice ao s c] _ (Cl_func [.slice ao s c] Tryd.call84 rfl) (fun w1 hw1 => sclone_c ao s c (mid z 0 s) w1 hsome hl1 (by omega) (hr1.at (M' := []) hw1 (by simp)))) rfl ?_
 rintro v1 L1 ⟨_, ⟨nb1, sp1, cp1, rfl, rfl, hc1, hc2, hc3⟩, rfl⟩
 show JL _ _ _ _ ((25, Slc nb1 0 s cp1) :: _) [⟨rb, [errV 43 e, .slice ao n c], 178, (0, 0)⟩, ⟨nb1, cu8 (mid z 0 s) ++ sp1, 5, (0, 0)⟩]
 refine JL_val _ (Ev_assign rfl) rfl ?_
 refine JL_nil ?_
 refine JQ_then ?_
 refine JC_seq ?_
 refine JC_region ?_
 refine JL_val _ (Ev_move rfl) rfl ?_
 refine JL_val _ (Ev_move rfl) rfl ?_
 refine JL_val _ (Ev_nilCheck rfl) rfl ?_
 refine JL_val (Ptr rb 1) (Ev_fieldAddr 1 22 1 Tryd.underlying178 rfl Tryd.sizeOf22 rfl rfl) rfl ?_
 refine JL_val (.slice ao n c) (Ev_load rfl (Ld_one Tryd.isAgg22 (MemAt.ent 0 rfl (Seg.tail (Seg.head))))) rfl ?_
 refine JL_val _ (Ev_move rfl) rfl ?_
 have hl2 : (z.drop s).length = (n - s) := by rw [List.length_drop, hz] <;> omega
 have hr2 := RdB.adv (c := c) hr s (by rw [hz]; omega) (by rw [hz]; omega)
 refine JL_val (.slice (advA ao c s) (n - s) (c - s)) (Ev_sliceLo 5 s (n - s) (c - s) Tryd.underlying22 Tryd.sizeOf5 rfl rfl (by omega) (by omega) (by omega) (by omega)) rfl ?_
 refine JL_val _ (Ev_nilCheck rfl) rfl ?_
 refine JL_val (Ptr rb 1) (Ev_fieldAddr 1 22 1 Tryd.underlying178 rfl Tryd.sizeOf22 rfl rfl) rfl ?_
 refine JL_step (Step_store 0 rb 1 1 ([errV 43 e, .slice ao n c]) 178 (.slice (advA ao c s) (n - s) (c - s)) ([.slice (advA ao c s) (n - s) (c - s)]) ([errV 43 e, .slice (advA ao c s) (n - s) (c - s)]) rfl rfl rfl rfl Tryd.sizeOf22 rfl (by simp [Value.oneCell']) (Nat.le_of_ble_eq_true rfl) (rfl)) rfl ?_
 rintro v1 L1 ⟨rfl, rfl⟩
 show JL _ _ _ _ _ [⟨rb, [errV 43 e, .slice (advA ao c s) (n - s) (c - s)], 178, (0, 0)⟩, ⟨nb1, cu8 (mid z 0 s) ++ sp1, 5, (0, 0)⟩]
 refine JL_nil ?_
 refine JQ_then ?_
 refine JC_seq ?_
 refine JC_region ?_
 refine JL_val _ (Ev_move rfl) rfl ?_
 refine JL_val _ (Ev_assign rfl) rfl ?_
 refine JL_nil ?_
 refine JQ_then ?_
 refine JC_ret ?_
 refine JQ_ret (Slc nb1 0 s cp1) (res1 Tryd.results129 (RV_tmp rfl)) fun w1 hw1 => ?_
 obtain rfl : n2 = (n - s) := by omega
 obtain rfl : c2 = (c - s) := by omega
 exact ⟨_, _, rfl, ⟨nb1, sp1, cp1, rfl, rfl, hc1, hc2, hc3⟩, hw1⟩
theorem numROk_c (rb e : Nat) (ao : Option Addr) (n c : Nat) (z : List UInt8) (k n2 c2 : Nat) (w : World) (h0 : w.heap[rb]? = some (.cells [errV 43 e, .slice ao n c].toArray 178 (0, 0))) (hz : z.length = n) (hn : n ≤ 2000000000) (hc : n ≤ c) (hcm : c ≤ maxLen) (hr : RdB w [rb] ao z) (he : e = 0) (hs : Szd (k:Int)) (h2 : k ≤ n) (ht1 : k + n2 = n) (ht2 : k + c2 = c) : Calls Tryd.prog 128 #[Ptr rb 0, I64 ((k:Int))] w (Post w [rb] (fun v L => v = U64 (valK z k) ∧ L = [⟨rb, [errV 43 e, .slice (advA ao c k) n2 c2], 178, (0, 0)⟩])) := by
 have hs4 : k = 1 ∨ k = 2 ∨ k = 4 ∨ k = 8 := by have := hs; unfold Szd at this; omega
 refine enter w [rb] 29 [⟨rb, [errV 43 e, .slice ao n c], 178, (0, 0)⟩] [Ptr rb 0, I64 ((k:Int))] Tryd.func128 rfl rfl (by simp) (Hp.start (by simpa using h0) (by simp) (by simp)) ?_
 show JC _ _ _ [(0, Ptr rb 0), (1, I64 ((k:Int)))] _
 refine JC_seq ?_
 refine JC_region ?_
 refine JL_val _ (Ev_assign rfl) rfl ?_
 refine JL_nil ?_
 refine JQ_then ?_
 refine JC_seq ?_
 refine JC_seq ?_
 refine JC_region ?_
 refine JL_val _ (Ev_move rfl) rfl ?_
 refine JL_step (Step_callP 121 [I64 ((k:Int))] (.bool true) (Cl_func [I64 ((k:Int))] Tryd.call121 rfl) (fun w1 _ => sizedT_c ((k:Int)) w1 hs)) rfl ?_
 rintro v1 L1 ⟨rfl, rfl⟩
 show JL _ _ _ _ ((9, .bool true) :: _) [⟨rb, [errV 43 e, .slice ao n c], 178, (0, 0)⟩]
 refine JL_val (.bool (!true)) (Ev_not rfl) rfl ?_
 refine JL_nil ?_
 refine JQ_then ?_
 refine JC_condF _ rfl rfl ?_
 refine JC_skip ?_
 refine JQ_then ?_
 refine JC_seq ?_
 refine JC_region ?_
 refine JL_val _ (Ev_assign rfl) rfl ?_
 refine JL_nil ?_
 refine JQ_then ?_
 refine JC_seq ?_
 refine JC_seq ?_
 refine JC_region ?_
 refine JL_val _ (Ev_move rfl) rfl ?_
 refine JL_val _ (Ev_move rfl) rfl ?_
 have hl1 : (z.drop k).length = (n - k) := by rw [List.length_drop, hz] <;> omega
 have hr1 := RdB.adv (c := c) hr k (by rw [hz]; omega) (by rw [hz]; omega)
 have hl2 : (mid z 0 k).length = k := mid_len (by rw [hz]; omega)
 refine JL_step (Step_call 129 _ [true] [rb] _ (Cl_func [Ptr rb 0, I64 ((k:Int))] Tryd.call129 rfl) rfl (fun w1 hw1 => rawROk_c rb e ao n c z k (n - k) (c - k) w1 (hw1.ent _ (List.mem_of_getElem? (i := 0) rfl)) hz (by omega) (by omega) (by omega) (hr.at (M' := [rb]) hw1 (hw1.apart [0] _ rfl)) he (by unfold Szd at hs; omega) h2 (by omega) (by omega))) rfl ?_
 rintro v1 L1 ⟨_, ⟨nb1, sp1, cp1, rfl, rfl, hc1, hc2, hc3⟩, rfl⟩
 show JL _ _ _ _ ((16, Slc nb1 0 k cp1) :: _) [⟨rb, [errV 43 e, .slice (advA ao c k) (n - k) (c - k)], 178, (0, 0)⟩, ⟨nb1, cu8 (mid z 0 k) ++ sp1, 5, (0, 0)⟩]
 refine JL_val (I64 ((k:Int))) (Ev_len Tryd.underlying22 rfl) rfl ?_
 refine JL_val _ (Ev_move rfl) rfl ?_
 refine JL_nil ?_
 refine JQ_then ?_
 refine JC_block ?_
 refine JC_loop (ι := Nat × UInt64) (fun ⟨j, y⟩ => [(4, U64 (0:UInt64)), (16, Slc nb1 0 k cp1), (17, I64 ((k:Int))), (18, I64 ((j:Int))), (5, U64 y)]) (fun ⟨j, y⟩ => [⟨rb, [errV 43 e, .slice (advA ao c k) (n - k) (c - k)], 178, (0, 0)⟩, ⟨nb1, cu8 (mid z 0 k) ++ sp1, 5, (0, 0)⟩]) (fun ⟨j, y⟩ => j ≤ k ∧ y = valK (mid z 0 k) j) (fun ⟨j, y⟩ => k - j) (0, 0) ⟨by omega, by rw [valK]⟩ (Sub.cons rfl (Sub.cons rfl (Sub.cons rfl (Sub.cons rfl (Sub.cons rfl (Sub.nil)))))) rfl ?_
 rintro ⟨j, y⟩ ⟨hx1, hx2⟩
 show JC _ _ _ [(4, U64 (0:UInt64)), (16, Slc nb1 0 k cp1), (17, I64 ((k:Int))), (18, I64 ((j:Int))), (5, U64 y)] [⟨rb, [errV 43 e, .slice (advA ao c k) (n - k) (c - k)], 178, (0, 0)⟩, ⟨nb1, cu8 (mid z 0 k) ++ sp1, 5, (0, 0)⟩]
 refine JC_seq ?_
 refine JC_region ?_
 refine JL_val (.bool (decide (((j:Int)) < ((k:Int))))) (Ev_bini rfl rfl fun _ => bin_lss_i _ _) rfl ?_
 refine JL_nil ?_
 refine JQ_then ?_
 refine JC_seq ?_
 refine JC_cond (decide (((j:Int)) < ((k:Int)))) rfl (fun hb1 => ?_) (fun hb1 => ?_)
 ·
  have hp1 : ((j:Int)) < ((k:Int)) := of_decide_eq_true hb1
  refine JC_skip ?_
  refine JQ_then ?_
  refine JC_seq ?_
  refine JC_block ?_
  refine JC_seq ?_
  refine JC_region ?_
  refine JL_val (Ptr nb1 j) (Ev_indexSl 5 1 j Tryd.underlying22 Tryd.sizeOf5 rfl rfl (by omega) (by omega) (by omega)) rfl ?_
  refine JL_val (U8 (g8 (mid z 0 k) j)) (Ev_load rfl (Ld_one Tryd.isAgg5 (MemAt.ent 1 rfl (Seg.left (Seg.get (g8_get (i := j) (by rw [hl2]; omega))))))) rfl ?_
  refine JL_val _ (Ev_assign rfl) rfl ?_
  refine JL_nil ?_
  refine JQ_then ?_
  refine JC_region ?_
  refine JL_val _ (Ev_move rfl) rfl ?_
  refine JL_val (U64 (y <<< (8:UInt64))) (Ev_bini rfl rfl fun _ => bin_shl_u64 y _ _ 8 (by decide) rfl) rfl ?_
  refine JL_val _ (Ev_move rfl) rfl ?_
  refine JL_val (U64 ((g8 (mid z 0 k) j).toUInt64)) (Ev_conv _ _ rfl fun _ => conv_u8_u64 (by rw [Tryd.underlying5]; rfl) Tryd.underlying58 _) rfl ?_
  refine JL_val (U64 ((y <<< (8:UInt64)) ||| ((g8 (mid z 0 k) j).toUInt64))) (Ev_bini rfl rfl fun _ => bin_or_u64 (y <<< (8:UInt64)) ((g8 (mid z 0 k) j).toUInt64)) rfl ?_
  refine JL_val _ (Ev_assign rfl) rfl ?_
  refine JL_nil ?_
  refine JQ_in_normal ?_
  refine JQ_then ?_
  refine JC_region ?_
  refine JL_val (I64 ((j:Int) + 1)) (Ev_bini rfl rfl fun _ => bin_add_i _ _ ((j:Int) + 1) (by omega) (by omega)) rfl ?_
  refine JL_val _ (Ev_move rfl) rfl ?_
  refine JL_nil ?_
  refine JQ_thenK ?_
  refine K_next (j + 1, (y <<< (8:UInt64)) ||| ((g8 (mid z 0 k) j).toUInt64)) ⟨by omega, by rw [valK, ← hx2]⟩ (by first | (simp; omega) | simp) (Sub.cons rfl (Sub.cons rfl (Sub.cons rfl (Sub.cons rfl (Sub.cons rfl (Sub.nil)))))) rfl
 ·
  have hp1 : ¬ (((j:Int)) < ((k:Int))) := of_decide_eq_false hb1
  refine JC_exit ?_
  refine JQ_then_exit ?_
  refine JQ_then_exit ?_
  refine JQ_in_same ?_
  refine JQ_then ?_
  refine JC_seq ?_
  refine JC_region ?_
  refine JL_val _ (Ev_move rfl) rfl ?_
  refine JL_val _ (Ev_assign rfl) rfl ?_
  refine JL_nil ?_
  refine JQ_then ?_
  refine JC_ret ?_
  refine K_mask [true, false] ?_
  show JQ _ _ _ _ [⟨rb, [errV 43 e, .slice (advA ao c k) (n - k) (c - k)], 178, (0, 0)⟩]
  refine JQ_ret (U64 y) (res1 Tryd.results128 (RV_tmp rfl)) fun w1 hw1 => ?_
  have e1 : j = k := by omega
  have e2 : valK (mid z 0 k) k = valK z k := valK_congr k fun i hi => by rw [g8_mid hi, Nat.zero_add]
  obtain rfl : n2 = (n - k) := by omega
  obtain rfl : c2 = (c - k) := by omega
  exact ⟨_, _, rfl, ⟨by rw [hx2, e1, e2], rfl⟩, hw1⟩
end Go.Proofs.YtncoifiafklkjaaDoor
namespace Go.Proofs.YtncoifiafklkjaaDoor
open Go Go.Sx
set_option linter.unusedVariables false
set_option linter.unusedSimpArgs false
set_option maxRecDepth 100000
attribute [local irreducible] mid zr8 zr32 numK rnK valK
theorem endZ_c (rb e : Nat) (ao : Option Addr) (n c : Nat) (w : World) (hw : RdA w rb 0 [errV 43 e, .slice ao n c]) (he : e = 0) (hn : n = 0) : Calls Tryd.prog 109 #[Ptr rb 0] w (Post w [] (fun v L => v = .nilIface ∧ L = [])) := by
 refine enter w [] 27 [] [Ptr rb 0] Tryd.func109 rfl rfl (by simp) (Hp.start (by simp) (by simp) (by simp)) ?_
 show JC _ _ _ [(0, Ptr rb 0)] _
 refine JC_seq ?_
 refine JC_region ?_
 refine JL_val _ (Ev_assign rfl) rfl ?_
 refine JL_nil ?_
 refine JQ_then ?_
 refine JC_seq ?_
 refine JC_block ?_
 refine JC_seq ?_
 refine JC_region ?_
 refine JL_val _ (Ev_move rfl) rfl ?_
 refine JL_val (.bool false) (Ev_bin _ _ _ rfl rfl (fun _ => eqGuard_ptr ..) fun _ => eql_ptr_nil Tryd.underlying153) rfl ?_
 refine JL_val _ (Ev_assign rfl) rfl ?_
 refine JL_nil ?_
 refine JQ_then ?_
 refine JC_condF _ rfl rfl ?_
 refine JC_seq ?_
 refine JC_region ?_
 refine JL_val _ (Ev_move rfl) rfl ?_
 refine JL_val _ (Ev_nilCheck rfl) rfl ?_
 refine JL_val (Ptr rb 0) (Ev_fieldAddr 0 136 1 Tryd.underlying178 rfl Tryd.sizeOf136 rfl rfl) rfl ?_
 refine JL_val (Ptr rb 0) (Ev_fieldAddr 0 39 1 Tryd.underlying136 rfl Tryd.sizeOf39 rfl rfl) rfl ?_
 refine JL_val (errV 43 e) (Ev_load rfl (Ld_one Tryd.isAgg39 (MemAt.seg (hw.mem (by simp)) (Seg.head) (by omega)))) rfl ?_
 refine JL_val (.bool (!(decide (e = 0)))) (Ev_bin _ _ _ rfl rfl (fun _ => eqGuard_errV ..) fun _ => neq_errV Tryd.underlying39 _ _) rfl ?_
 refine JL_val _ (Ev_assign rfl) rfl ?_
 refine JL_nil ?_
 refine JQ_then ?_
 refine JC_condF _ rfl (by rw [show (decide (e = 0)) = true from (decide_eq_true he)]; rfl) ?_
 refine JC_seq ?_
 refine JC_region ?_
 refine JL_val _ (Ev_move rfl) rfl ?_
 refine JL_val _ (Ev_nilCheck rfl) rfl ?_
 refine JL_val (Ptr rb 1) (Ev_fieldAddr 1 22 1 Tryd.underlying178 rfl Tryd.sizeOf22 rfl rfl) rfl ?_
 refine JL_val (.slice ao n c) (Ev_load rfl (Ld_one Tryd.isAgg22 (MemAt.seg (hw.mem (by simp)) (Seg.tail (Seg.head)) (by omega)))) rfl ?_
 refine JL_val (I64 ((n:Int))) (Ev_len Tryd.underlying22 rfl) rfl ?_
 refine JL_val (.bool (decide ((0:Int) < ((n:Int))))) (Ev_bini rfl rfl fun _ => bin_gtr_i _ _) rfl ?_
 refine JL_val _ (Ev_assign rfl) rfl ?_
 refine JL_nil ?_
 refine JQ_then ?_
 refine JC_condF _ rfl (decide_eq_false (by omega)) ?_
 refine JC_skip ?_
 refine JQ_in_normal ?_
 refine JQ_then ?_
 refine JC_seq ?_
 refine JC_region ?_
 refine JL_val _ (Ev_assign rfl) rfl ?_
 refine JL_nil ?_
 refine JQ_then ?_
 refine JC_ret ?_
 refine JQ_ret (.nilIface) (res1 Tryd.results109 (RV_tmp rfl)) fun w1 hw1 => ?_
 exact ⟨_, [], rfl, ⟨rfl, rfl⟩, hw1.sub (by simp) (by simp)⟩
theorem from_c (ax : Option Addr) (p cx : Nat) (z : List UInt8) (w : World) (ha : ax.isNone = false) (hz : z.length = p) (hn : p ≤ 2000000000) (hr : RdB w [] ax z) : Calls Tryd.prog 107 #[.slice ax p cx] w (Post w [] (fun v L => ∃ rb g sp cap, v = Ptr rb 0 ∧ L = [⟨rb, [.nilIface, Slc g 0 p cap], 178, (0, 0)⟩, ⟨g, cu8 z ++ sp, 5, (0, 0)⟩] ∧ sp.length = cap - p ∧ p ≤ cap ∧ cap ≤ maxLen)) := by
 refine enter w [] 7 [] [.slice ax p cx] Tryd.func107 rfl rfl (by simp) (Hp.start (by simp) (by simp) (by simp)) ?_
 show JC _ _ _ [(0, .slice ax p cx)] _
 refine JC_seq ?_
 refine JC_region ?_
 refine JL_val _ (Ev_assign rfl) rfl ?_
 refine JL_nil ?_
 refine JQ_then ?_
 refine JC_seq ?_
 refine JC_region ?_
 refine JL_val _ (Ev_move rfl) rfl ?_
 refine JL_step (Step_callN 84 [.slice ax p cx] _ (Cl_func [.slice ax p cx] Tryd.call84 rfl) (fun w1 hw1 => sclone_c ax p cx z w1 ha hz (by omega) (hr.at (M' := []) hw1 (by simp)))) rfl ?_
 rintro v1 L1 ⟨_, ⟨nb1, sp1, cp1, rfl, rfl, hc1, hc2, hc3⟩, rfl⟩
 show JL _ _ _ _ ((4, Slc nb1 0 p cp1) :: _) [⟨nb1, cu8 z ++ sp1, 5, (0, 0)⟩]
 refine JL_val (.agg ([.nilIface, Slc nb1 0 p cp1]).toArray) (Ev_build [(1, Slc nb1 0 p cp1)] _ rfl (fun _ => by kernel_rfl)) rfl ?_
 refine JL_step (Step_box (.agg ([.nilIface, Slc nb1 0 p cp1]).toArray) ([.nilIface, Slc nb1 0 p cp1]) rfl (by first | rfl | simp)) rfl ?_
 rintro v1 L1 ⟨nb2, hnb2, rfl, rfl⟩
 show JL _ _ _ _ ((6, Ptr nb2 0) :: _) [⟨nb1, cu8 z ++ sp1, 5, (0, 0)⟩, ⟨nb2, [.nilIface, Slc nb1 0 p cp1], 178, (0, 0)⟩]
 refine JL_val _ (Ev_assign rfl) rfl ?_
 refine JL_nil ?_
 refine JQ_then ?_
 refine JC_ret ?_
 refine JQ_ret (Ptr nb2 0) (res1 Tryd.results107 (RV_tmp rfl)) fun w1 hw1 => ?_
 exact ⟨_, _, rfl, ⟨nb2, nb1, sp1, cp1, rfl, rfl, hc1, hc2, hc3⟩, hw1.sub (by simp) (by simpa using hw1.ne (i := 1) (j := 0) rfl rfl (by decide))⟩
end Go.Proofs.YtncoifiafklkjaaDoor
