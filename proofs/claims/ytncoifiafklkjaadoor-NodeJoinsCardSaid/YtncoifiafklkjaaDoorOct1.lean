import Derived.Test.YtncoifiafklkjaaDoorNumLaw
import Derived.Test.YtncoifiafklkjaaDoorSxApp0
import Derived.Test.YtncoifiafklkjaaDoorFx
namespace Go.Proofs.YtncoifiafklkjaaDoor
open Go Go.Sx
set_option linter.unusedVariables false
set_option linter.unusedSimpArgs false
set_option maxRecDepth 100000
attribute [local irreducible] mid zr8 zr32 zr64 numK rnK ftN valK rvalK
theorem sizedT_c (s : Int) (w : World) (hs : Szd s) : Calls Tryd.prog 121 #[I64 (s)] w (Post w [] (fun v L => v = .bool true ∧ L = [])) := by
  refine enter w [] 17 [] [I64 (s)] Tryd.func121 rfl rfl (by simp) (Hp.start (by simp) (by simp) (by simp)) ?_
  show JC _ _ _ [(0, I64 (s))] _
  refine JC_seq ?_
  refine JC_region ?_
  refine JL_val _ (Ev_assign rfl) rfl ?_
  refine JL_nil ?_
  refine JQ_then ?_
  refine JC_seq ?_
  refine JC_region ?_
  refine JL_val _ (Ev_move rfl) rfl ?_
  refine JL_val (.bool (decide ((s) = (1:Int)))) (Ev_bini rfl rfl fun _ => bin_eql_i _ _) rfl ?_
  refine JL_val _ (Ev_move rfl) rfl ?_
  rcases Bool.eq_false_or_eq_true (decide ((s) = (1:Int))) with hb1 | hb1
  ·
    have hp1 : (s) = (1:Int) := of_decide_eq_true hb1
    refine JL_gskip 2 5 false _ rfl rfl hb1 rfl ?_
    refine JL_gskip 2 5 false _ rfl rfl hb1 rfl ?_
    refine JL_val _ (Ev_pickT _ rfl hb1 rfl) rfl ?_
    refine JL_val _ (Ev_move rfl) rfl ?_
    refine JL_gskip 6 9 false _ rfl rfl rfl rfl ?_
    refine JL_gskip 6 9 false _ rfl rfl rfl rfl ?_
    refine JL_val _ (Ev_pickT _ rfl rfl rfl) rfl ?_
    refine JL_val _ (Ev_move rfl) rfl ?_
    refine JL_gskip 10 13 false _ rfl rfl rfl rfl ?_
    refine JL_gskip 10 13 false _ rfl rfl rfl rfl ?_
    refine JL_val _ (Ev_pickT _ rfl rfl rfl) rfl ?_
    refine JL_val _ (Ev_assign rfl) rfl ?_
    refine JL_nil ?_
    refine JQ_then ?_
    refine JC_ret ?_
    refine JQ_ret (.bool true) (res1 Tryd.results121 (RV_tmp rfl)) fun w1 hw1 => ?_
    exact ⟨_, [], rfl, ⟨by rw [show (true) = true from rfl], rfl⟩, hw1.sub (by simp) (by simp)⟩
  ·
    have hp1 : ¬ ((s) = (1:Int)) := of_decide_eq_false hb1
    refine JL_gval 2 5 false _ _ rfl rfl hb1 (Ev_move rfl) rfl ?_
    refine JL_gval 2 5 false _ (.bool (decide ((s) = (2:Int)))) rfl rfl hb1 (Ev_bini rfl rfl fun _ => bin_eql_i _ _) rfl ?_
    refine JL_val _ (Ev_pickF _ rfl hb1 rfl) rfl ?_
    refine JL_val _ (Ev_move rfl) rfl ?_
    rcases Bool.eq_false_or_eq_true (decide ((s) = (2:Int))) with hb2 | hb2
    ·
      have hp2 : (s) = (2:Int) := of_decide_eq_true hb2
      refine JL_gskip 6 9 false _ rfl rfl hb2 rfl ?_
      refine JL_gskip 6 9 false _ rfl rfl hb2 rfl ?_
      refine JL_val _ (Ev_pickT _ rfl hb2 rfl) rfl ?_
      refine JL_val _ (Ev_move rfl) rfl ?_
      refine JL_gskip 10 13 false _ rfl rfl rfl rfl ?_
      refine JL_gskip 10 13 false _ rfl rfl rfl rfl ?_
      refine JL_val _ (Ev_pickT _ rfl rfl rfl) rfl ?_
      refine JL_val _ (Ev_assign rfl) rfl ?_
      refine JL_nil ?_
      refine JQ_then ?_
      refine JC_ret ?_
      refine JQ_ret (.bool true) (res1 Tryd.results121 (RV_tmp rfl)) fun w1 hw1 => ?_
      exact ⟨_, [], rfl, ⟨by rw [show (true) = true from rfl], rfl⟩, hw1.sub (by simp) (by simp)⟩
    ·
      have hp2 : ¬ ((s) = (2:Int)) := of_decide_eq_false hb2
      refine JL_gval 6 9 false _ _ rfl rfl hb2 (Ev_move rfl) rfl ?_
      refine JL_gval 6 9 false _ (.bool (decide ((s) = (4:Int)))) rfl rfl hb2 (Ev_bini rfl rfl fun _ => bin_eql_i _ _) rfl ?_
      refine JL_val _ (Ev_pickF _ rfl hb2 rfl) rfl ?_
      refine JL_val _ (Ev_move rfl) rfl ?_
      rcases Bool.eq_false_or_eq_true (decide ((s) = (4:Int))) with hb3 | hb3
      ·
        have hp3 : (s) = (4:Int) := of_decide_eq_true hb3
        refine JL_gskip 10 13 false _ rfl rfl hb3 rfl ?_
        refine JL_gskip 10 13 false _ rfl rfl hb3 rfl ?_
        refine JL_val _ (Ev_pickT _ rfl hb3 rfl) rfl ?_
        refine JL_val _ (Ev_assign rfl) rfl ?_
        refine JL_nil ?_
        refine JQ_then ?_
        refine JC_ret ?_
        refine JQ_ret (.bool true) (res1 Tryd.results121 (RV_tmp rfl)) fun w1 hw1 => ?_
        exact ⟨_, [], rfl, ⟨by rw [show (true) = true from rfl], rfl⟩, hw1.sub (by simp) (by simp)⟩
      ·
        have hp3 : ¬ ((s) = (4:Int)) := of_decide_eq_false hb3
        refine JL_gval 10 13 false _ _ rfl rfl hb3 (Ev_move rfl) rfl ?_
        refine JL_gval 10 13 false _ (.bool (decide ((s) = (8:Int)))) rfl rfl hb3 (Ev_bini rfl rfl fun _ => bin_eql_i _ _) rfl ?_
        refine JL_val _ (Ev_pickF _ rfl hb3 rfl) rfl ?_
        refine JL_val _ (Ev_assign rfl) rfl ?_
        refine JL_nil ?_
        refine JQ_then ?_
        refine JC_ret ?_
        refine JQ_ret (.bool (decide ((s) = (8:Int)))) (res1 Tryd.results121 (RV_tmp rfl)) fun w1 hw1 => ?_
        exact ⟨_, [], rfl, ⟨congrArg Value.bool (decide_eq_true (by unfold Szd at hs; omega)), rfl⟩, hw1.sub (by simp) (by simp)⟩

theorem sizedF_c (s : Int) (w : World) (hs : ¬ Szd s) : Calls Tryd.prog 121 #[I64 (s)] w (Post w [] (fun v L => v = .bool false ∧ L = [])) := by
  refine enter w [] 17 [] [I64 (s)] Tryd.func121 rfl rfl (by simp) (Hp.start (by simp) (by simp) (by simp)) ?_
  show JC _ _ _ [(0, I64 (s))] _
  refine JC_seq ?_
  refine JC_region ?_
  refine JL_val _ (Ev_assign rfl) rfl ?_
  refine JL_nil ?_
  refine JQ_then ?_
  refine JC_seq ?_
  refine JC_region ?_
  refine JL_val _ (Ev_move rfl) rfl ?_
  refine JL_val (.bool (decide ((s) = (1:Int)))) (Ev_bini rfl rfl fun _ => bin_eql_i _ _) rfl ?_
  refine JL_val _ (Ev_move rfl) rfl ?_
  rcases Bool.eq_false_or_eq_true (decide ((s) = (1:Int))) with hb1 | hb1
  ·
    have hp1 : (s) = (1:Int) := of_decide_eq_true hb1
    refine JL_gskip 2 5 false _ rfl rfl hb1 rfl ?_
    refine JL_gskip 2 5 false _ rfl rfl hb1 rfl ?_
    refine JL_val _ (Ev_pickT _ rfl hb1 rfl) rfl ?_
    refine JL_val _ (Ev_move rfl) rfl ?_
    refine JL_gskip 6 9 false _ rfl rfl rfl rfl ?_
    refine JL_gskip 6 9 false _ rfl rfl rfl rfl ?_
    refine JL_val _ (Ev_pickT _ rfl rfl rfl) rfl ?_
    refine JL_val _ (Ev_move rfl) rfl ?_
    refine JL_gskip 10 13 false _ rfl rfl rfl rfl ?_
    refine JL_gskip 10 13 false _ rfl rfl rfl rfl ?_
    refine JL_val _ (Ev_pickT _ rfl rfl rfl) rfl ?_
    refine JL_val _ (Ev_assign rfl) rfl ?_
    refine JL_nil ?_
    refine JQ_then ?_
    refine JC_ret ?_
    refine JQ_ret (.bool true) (res1 Tryd.results121 (RV_tmp rfl)) fun w1 hw1 => ?_
    refine ⟨_, [], rfl, ⟨?_, rfl⟩, hw1.sub (by simp) (by simp)⟩
    first | (exfalso; apply hs; unfold Szd; omega; done) | exact congrArg Value.bool (decide_eq_false (fun h => hs (by unfold Szd; omega)))
  ·
    have hp1 : ¬ ((s) = (1:Int)) := of_decide_eq_false hb1
    refine JL_gval 2 5 false _ _ rfl rfl hb1 (Ev_move rfl) rfl ?_
    refine JL_gval 2 5 false _ (.bool (decide ((s) = (2:Int)))) rfl rfl hb1 (Ev_bini rfl rfl fun _ => bin_eql_i _ _) rfl ?_
    refine JL_val _ (Ev_pickF _ rfl hb1 rfl) rfl ?_
    refine JL_val _ (Ev_move rfl) rfl ?_
    rcases Bool.eq_false_or_eq_true (decide ((s) = (2:Int))) with hb2 | hb2
    ·
      have hp2 : (s) = (2:Int) := of_decide_eq_true hb2
      refine JL_gskip 6 9 false _ rfl rfl hb2 rfl ?_
      refine JL_gskip 6 9 false _ rfl rfl hb2 rfl ?_
      refine JL_val _ (Ev_pickT _ rfl hb2 rfl) rfl ?_
      refine JL_val _ (Ev_move rfl) rfl ?_
      refine JL_gskip 10 13 false _ rfl rfl rfl rfl ?_
      refine JL_gskip 10 13 false _ rfl rfl rfl rfl ?_
      refine JL_val _ (Ev_pickT _ rfl rfl rfl) rfl ?_
      refine JL_val _ (Ev_assign rfl) rfl ?_
      refine JL_nil ?_
      refine JQ_then ?_
      refine JC_ret ?_
      refine JQ_ret (.bool true) (res1 Tryd.results121 (RV_tmp rfl)) fun w1 hw1 => ?_
      refine ⟨_, [], rfl, ⟨?_, rfl⟩, hw1.sub (by simp) (by simp)⟩
      first | (exfalso; apply hs; unfold Szd; omega; done) | exact congrArg Value.bool (decide_eq_false (fun h => hs (by unfold Szd; omega)))
    ·
      have hp2 : ¬ ((s) = (2:Int)) := of_decide_eq_false hb2
      refine JL_gval 6 9 false _ _ rfl rfl hb2 (Ev_move rfl) rfl ?_
      refine JL_gval 6 9 false _ (.bool (decide ((s) = (4:Int)))) rfl rfl hb2 (Ev_bini rfl rfl fun _ => bin_eql_i _ _) rfl ?_
      refine JL_val _ (Ev_pickF _ rfl hb2 rfl) rfl ?_
      refine JL_val _ (Ev_move rfl) rfl ?_
      rcases Bool.eq_false_or_eq_true (decide ((s) = (4:Int))) with hb3 | hb3
      ·
        have hp3 : (s) = (4:Int) := of_decide_eq_true hb3
        refine JL_gskip 10 13 false _ rfl rfl hb3 rfl ?_
        refine JL_gskip 10 13 false _ rfl rfl hb3 rfl ?_
        refine JL_val _ (Ev_pickT _ rfl hb3 rfl) rfl ?_
        refine JL_val _ (Ev_assign rfl) rfl ?_
        refine JL_nil ?_
        refine JQ_then ?_
        refine JC_ret ?_
        refine JQ_ret (.bool true) (res1 Tryd.results121 (RV_tmp rfl)) fun w1 hw1 => ?_
        refine ⟨_, [], rfl, ⟨?_, rfl⟩, hw1.sub (by simp) (by simp)⟩
        first | (exfalso; apply hs; unfold Szd; omega; done) | exact congrArg Value.bool (decide_eq_false (fun h => hs (by unfold Szd; omega)))
      ·
        have hp3 : ¬ ((s) = (4:Int)) := of_decide_eq_false hb3
        refine JL_gval 10 13 false _ _ rfl rfl hb3 (Ev_move rfl) rfl ?_
        refine JL_gval 10 13 false _ (.bool (decide ((s) = (8:Int)))) rfl rfl hb3 (Ev_bini rfl rfl fun _ => bin_eql_i _ _) rfl ?_
        refine JL_val _ (Ev_pickF _ rfl hb3 rfl) rfl ?_
        refine JL_val _ (Ev_assign rfl) rfl ?_
        refine JL_nil ?_
        refine JQ_then ?_
        refine JC_ret ?_
        refine JQ_ret (.bool (decide ((s) = (8:Int)))) (res1 Tryd.results121 (RV_tmp rfl)) fun w1 hw1 => ?_
        refine ⟨_, [], rfl, ⟨?_, rfl⟩, hw1.sub (by simp) (by simp)⟩
        first | (exfalso; apply hs; unfold Szd; omega; done) | exact congrArg Value.bool (decide_eq_false (fun h => hs (by unfold Szd; omega)))

theorem failW_c (wb e k : Nat) (sv : Value) (w : World) (h0 : w.heap[wb]? = some (.cells [errV 43 e, sv].toArray 138 (0, 0))) : Calls Tryd.prog 122 #[Ptr wb 0, errV 43 k] w (Post w [wb] (fun v L => v = .tuple #[] ∧ L = [⟨wb, [errV 43 (erN e k), sv], 138, (0, 0)⟩])) := by
  refine enter w [wb] 13 [⟨wb, [errV 43 e, sv], 138, (0, 0)⟩] [Ptr wb 0, errV 43 k] Tryd.func122 rfl rfl (by simp) (Hp.start (by simpa using h0) (by simp) (by simp)) ?_
  show JC _ _ _ [(0, Ptr wb 0), (1, errV 43 k)] _
  refine JC_seq ?_
  refine JC_region ?_
  refine JL_val _ (Ev_move rfl) rfl ?_
  refine JL_val _ (Ev_nilCheck rfl) rfl ?_
  refine JL_val (Ptr wb 0) (Ev_fieldAddr 0 39 1 Tryd.underlying136 rfl Tryd.sizeOf39 rfl rfl) rfl ?_
  refine JL_val (errV 43 e) (Ev_load rfl (Ld_one Tryd.isAgg39 (MemAt.ent 0 rfl (Seg.head)))) rfl ?_
  refine JL_val (.bool (decide (e = 0))) (Ev_bin _ _ _ rfl rfl (fun _ => eqGuard_errV ..) fun _ => eql_errV Tryd.underlying39 _ _) rfl ?_
  refine JL_nil ?_
  refine JQ_then ?_
  refine JC_cond (decide (e = 0)) rfl (fun hb1 => ?_) (fun hb1 => ?_)
  ·
    have hp1 : e = 0 := of_decide_eq_true hb1
    refine JC_region ?_
    refine JL_val _ (Ev_move rfl) rfl ?_
    refine JL_val _ (Ev_move rfl) rfl ?_
    refine JL_val _ (Ev_nilCheck rfl) rfl ?_
    refine JL_val (Ptr wb 0) (Ev_fieldAddr 0 39 1 Tryd.underlying136 rfl Tryd.sizeOf39 rfl rfl) rfl ?_
    refine JL_step (Step_store 0 wb 0 1 ([errV 43 e, sv]) 138 (errV 43 k) ([errV 43 k]) ([errV 43 k, sv]) rfl rfl rfl errV_cells Tryd.sizeOf39 rfl errV_one (Nat.le_of_ble_eq_true rfl) (rfl)) rfl ?_
    rintro v1 L1 ⟨rfl, rfl⟩
    show JL _ _ _ _ _ [⟨wb, [errV 43 k, sv], 138, (0, 0)⟩]
    refine JL_nil ?_
    refine JQ_end (.tuple #[]) (res0 Tryd.results122 ) fun w1 hw1 => ?_
    refine ⟨_, [_], rfl, ⟨rfl, ?_⟩, hw1⟩
    rw [erN]
    first | rw [if_pos hp1] | rw [if_neg hp1]
  ·
    have hp1 : ¬ (e = 0) := of_decide_eq_false hb1
    refine JC_skip ?_
    refine JQ_end (.tuple #[]) (res0 Tryd.results122 ) fun w1 hw1 => ?_
    refine ⟨_, [_], rfl, ⟨rfl, ?_⟩, hw1⟩
    rw [erN]
    first | rw [if_pos hp1] | rw [if_neg hp1]

theorem failWi_c (wb e k : Nat) (sv : Value) (w : World) (hk : k ≠ 0) (h0 : w.heap[wb]? = some (.cells [errV 43 e, sv].toArray 138 (0, 0))) : Calls Tryd.prog 122 #[Ptr wb 0, .iface 43 (I64 (k : Int))] w (Post w [wb] (fun v L => v = .tuple #[] ∧ L = [⟨wb, [errV 43 (erN e k), sv], 138, (0, 0)⟩])) := by
  have h := failW_c wb e k sv w h0
  rw [errV_pos hk] at h
  exact h

theorem failR_c (wb e k : Nat) (sv : Value) (w : World) (h0 : w.heap[wb]? = some (.cells [errV 43 e, sv].toArray 178 (0, 0))) : Calls Tryd.prog 122 #[Ptr wb 0, errV 43 k] w (Post w [wb] (fun v L => v = .tuple #[] ∧ L = [⟨wb, [errV 43 (erN e k), sv], 178, (0, 0)⟩])) := by
  refine enter w [wb] 13 [⟨wb, [errV 43 e, sv], 178, (0, 0)⟩] [Ptr wb 0, errV 43 k] Tryd.func122 rfl rfl (by simp) (Hp.start (by simpa using h0) (by simp) (by simp)) ?_
  show JC _ _ _ [(0, Ptr wb 0), (1, errV 43 k)] _
  refine JC_seq ?_
  refine JC_region ?_
  refine JL_val _ (Ev_move rfl) rfl ?_
  refine JL_val _ (Ev_nilCheck rfl) rfl ?_
  refine JL_val (Ptr wb 0) (Ev_fieldAddr 0 39 1 Tryd.underlying136 rfl Tryd.sizeOf39 rfl rfl) rfl ?_
  refine JL_val (errV 43 e) (Ev_load rfl (Ld_one Tryd.isAgg39 (MemAt.ent 0 rfl (Seg.head)))) rfl ?_
  refine JL_val (.bool (decide (e = 0))) (Ev_bin _ _ _ rfl rfl (fun _ => eqGuard_errV ..) fun _ => eql_errV Tryd.underlying39 _ _) rfl ?_
  refine JL_nil ?_
  refine JQ_then ?_
  refine JC_cond (decide (e = 0)) rfl (fun hb1 => ?_) (fun hb1 => ?_)
  ·
    have hp1 : e = 0 := of_decide_eq_true hb1
    refine JC_region ?_
    refine JL_val _ (Ev_move rfl) rfl ?_
    refine JL_val _ (Ev_move rfl) rfl ?_
    refine JL_val _ (Ev_nilCheck rfl) rfl ?_
    refine JL_val (Ptr wb 0) (Ev_fieldAddr 0 39 1 Tryd.underlying136 rfl Tryd.sizeOf39 rfl rfl) rfl ?_
    refine JL_step (Step_store 0 wb 0 1 ([errV 43 e, sv]) 178 (errV 43 k) ([errV 43 k]) ([errV 43 k, sv]) rfl rfl rfl errV_cells Tryd.sizeOf39 rfl errV_one (Nat.le_of_ble_eq_true rfl) (rfl)) rfl ?_
    rintro v1 L1 ⟨rfl, rfl⟩
    show JL _ _ _ _ _ [⟨wb, [errV 43 k, sv], 178, (0, 0)⟩]
    refine JL_nil ?_
    refine JQ_end (.tuple #[]) (res0 Tryd.results122 ) fun w1 hw1 => ?_
    refine ⟨_, [_], rfl, ⟨rfl, ?_⟩, hw1⟩
    rw [erN]
    first | rw [if_pos hp1] | rw [if_neg hp1]
  ·
    have hp1 : ¬ (e = 0) := of_decide_eq_false hb1
    refine JC_skip ?_
    refine JQ_end (.tuple #[]) (res0 Tryd.results122 ) fun w1 hw1 => ?_
    refine ⟨_, [_], rfl, ⟨rfl, ?_⟩, hw1⟩
    rw [erN]
    first | rw [if_pos hp1] | rw [if_neg hp1]

theorem failRi_c (wb e k : Nat) (sv : Value) (w : World) (hk : k ≠ 0) (h0 : w.heap[wb]? = some (.cells [errV 43 e, sv].toArray 178 (0, 0))) : Calls Tryd.prog 122 #[Ptr wb 0, .iface 43 (I64 (k : Int))] w (Post w [wb] (fun v L => v = .tuple #[] ∧ L = [⟨wb, [errV 43 (erN e k), sv], 178, (0, 0)⟩])) := by
  have h := failR_c wb e k sv w h0
  rw [errV_pos hk] at h
  exact h

theorem numN_c (wb tot : Nat) (ev : Value) (nv : UInt64) (k : Nat)  (w : World) (h0 : w.heap[wb]? = some (.cells [ev, .slice none 0 0].toArray 138 (0, 0))) (hs : Szd (k:Int)) (hx : k < 8 → nv >>> UInt64.ofNat (8*k) = 0) (ht : k = tot) : Calls Tryd.prog 97 #[Ptr wb 0, U64 nv, I64 ((k:Int))] w (Post w [wb] (fun v L => v = Ptr wb 0 ∧ ∃ g sp cap, L = [⟨wb, [ev, Slc g 0 tot cap], 138, (0, 0)⟩, ⟨g, cu8 (numK k nv k) ++ sp, 5, (0, 0)⟩] ∧ sp.length = cap - tot ∧ tot ≤ cap ∧ cap ≤ maxLen)) := by
  have hmx : maxLen = 9223372036854775807 := rfl
  have hs4 : k = 1 ∨ k = 2 ∨ k = 4 ∨ k = 8 := by unfold Szd at hs; omega
  refine enter w [wb] 51 [⟨wb, [ev, .slice none 0 0], 138, (0, 0)⟩] [Ptr wb 0, U64 nv, I64 ((k:Int))] Tryd.func97 rfl rfl (by simp) (Hp.start (by simpa using h0) (by simp) (by simp)) ?_
  show JC _ _ _ [(0, Ptr wb 0), (1, U64 nv), (2, I64 ((k:Int)))] _
  refine JC_seq ?_
  refine JC_region ?_
  refine JL_val _ (Ev_assign rfl) rfl ?_
  refine JL_nil ?_
  refine JQ_then ?_
  refine JC_seq ?_
  refine JC_seq ?_
  refine JC_region ?_
  refine JL_val _ (Ev_move rfl) rfl ?_
  refine JL_val (.bool false) (Ev_bin _ _ _ rfl rfl (fun _ => eqGuard_ptr ..) fun _ => eql_ptr_nil Tryd.underlying134) rfl ?_
  refine JL_nil ?_
  refine JQ_then ?_
  refine JC_condF _ rfl rfl ?_
  refine JC_skip ?_
  refine JQ_then ?_
  refine JC_seq ?_
  refine JC_seq ?_
  refine JC_region ?_
  refine JL_val _ (Ev_move rfl) rfl ?_
  refine JL_step (Step_callP 121 [I64 ((k:Int))] (.bool true) (Cl_func [I64 ((k:Int))] Tryd.call121 rfl) (fun w1 _ => sizedT_c ((k:Int)) w1 hs)) rfl ?_
  rintro v1 L1 ⟨rfl, rfl⟩
  show JL _ _ _ _ ((11, .bool true) :: _) [⟨wb, [ev, .slice none 0 0], 138, (0, 0)⟩]
  refine JL_val (.bool (!true)) (Ev_not rfl) rfl ?_
  refine JL_val _ (Ev_move rfl) rfl ?_
  refine JL_gval 3 13 false _ _ rfl rfl rfl (Ev_move rfl) rfl ?_
  refine JL_gval 3 13 false _ (.bool (decide (((k:Int)) < (8:Int)))) rfl rfl rfl (Ev_bini rfl rfl fun _ => bin_lss_i _ _) rfl ?_
  refine JL_gval 3 13 false _ _ rfl rfl rfl (Ev_move rfl) rfl ?_
  rcases Bool.eq_false_or_eq_true (decide (((k:Int)) < (8:Int))) with hb1 | hb1
  ·
    have hp1 : ((k:Int)) < (8:Int) := of_decide_eq_true hb1
    refine JL_gval 6 16 true _ _ rfl rfl hb1 (Ev_move rfl) rfl ?_
    refine JL_gval 6 16 true _ _ rfl rfl hb1 (Ev_move rfl) rfl ?_
    refine JL_gval 6 16 true _ (I64 (8*(k:Int))) rfl rfl hb1 (Ev_bini rfl rfl fun _ => bin_mul_i _ _ (8*(k:Int)) (by omega) (by omega)) rfl ?_
    refine JL_gval 6 16 true _ (U64 (nv >>> UInt64.ofNat (8*k))) rfl rfl hb1 (Ev_bini rfl rfl fun _ => bin_shr_u64 nv _ _ (8*k) (by omega) (by omega)) rfl ?_
    refine JL_gval 6 16 true _ (.bool (decide ((nv >>> UInt64.ofNat (8*k)) ≠ (0:UInt64)))) rfl rfl hb1 (Ev_bini rfl rfl fun _ => bin_neq_u64 (nv >>> UInt64.ofNat (8*k)) (0:UInt64)) rfl ?_
    refine JL_gval 3 13 false _ _ rfl rfl rfl (Ev_pickT _ rfl hb1 rfl) rfl ?_
    refine JL_val _ (Ev_pickF _ rfl rfl rfl) rfl ?_
    refine JL_nil ?_
    refine JQ_then ?_
    refine JC_condF _ rfl (decide_eq_false (fun h => h (hx (by omega)))) ?_
    refine JC_skip ?_
    refine JQ_then ?_
    refine JC_seq ?_
    refine JC_seq ?_
    refine JC_region ?_
    refine JL_val _ (Ev_move rfl) rfl ?_
    refine JL_val (I64 ((k:Int) - 1)) (Ev_bini rfl rfl fun _ => bin_sub_i _ _ ((k:Int) - 1) (by omega) (by omega)) rfl ?_
    refine JL_val _ (Ev_assign rfl) rfl ?_
    refine JL_nil ?_
    refine JQ_then ?_
    refine JC_block ?_
    refine JC_loop (ι := (Unit) ⊕ (Nat × List UInt8 × Nat × List Value × Nat)) (fun x => match x with | .inl _ => [(0, Ptr wb 0), (1, U64 nv), (6, .pointer none), (7, I64 ((k:Int) - 1))] | .inr ⟨q, oq, gq, spq, cpq⟩ => [(0, Ptr wb 0), (1, U64 nv), (6, .pointer none), (7, I64 ((k:Int) - (q:Int) - 1))]) (fun x => match x with | .inl _ => [⟨wb, [ev, .slice none 0 0], 138, (0, 0)⟩] | .inr ⟨q, oq, gq, spq, cpq⟩ => [⟨wb, [ev, Slc gq 0 q cpq], 138, (0, 0)⟩, ⟨gq, cu8 oq ++ spq, 5, (0, 0)⟩]) (fun x => match x with | .inl _ => True | .inr ⟨q, oq, gq, spq, cpq⟩ => 1 ≤ q ∧ q ≤ k ∧ oq = numK k nv q ∧ oq.length = q ∧ spq.length = cpq - (q) ∧ q ≤ cpq ∧ cpq ≤ maxLen) (fun x => match x with | .inl _ => k + 1 | .inr ⟨q, oq, gq, spq, cpq⟩ => k - q) (.inl ()) trivial (Sub.cons rfl (Sub.cons rfl (Sub.cons rfl (Sub.cons rfl (Sub.nil))))) rfl ?_
    rintro (_ | ⟨q, oq, gq, spq, cpq⟩) hx
    ·
      obtain _ := hx
      show JC _ _ _ [(0, Ptr wb 0), (1, U64 nv), (6, .pointer none), (7, I64 ((k:Int) - 1))] [⟨wb, [ev, .slice none 0 0], 138, (0, 0)⟩]
      refine JC_seq ?_
      refine JC_seq ?_
      refine JC_region ?_
      refine JL_val _ (Ev_move rfl) rfl ?_
      refine JL_val (.bool (decide ((0:Int) ≤ ((k:Int) - 1)))) (Ev_bini rfl rfl fun _ => bin_geq_i _ _) rfl ?_
      refine JL_nil ?_
      refine JQ_then ?_
      refine JC_condT _ rfl (decide_eq_true (by omega)) ?_
      refine JC_skip ?_
      refine JQ_then ?_
      refine JC_seq ?_
      refine JC_block ?_
      refine JC_draw 51 4 [(0, Ptr wb 0), (1, Ptr wb 0), (2, Ptr wb 0), (3, Ptr wb 1), (4, .slice none 0 0), (5, U64 nv), (6, I64 ((k:Int) - 1)), (7, I64 (8*(k:Int) - 8)), (8, U64 (nv >>> UInt64.ofNat (8*k - 8))), (9, U8 ((nv >>> UInt64.ofNat (8*k - 8)).toUInt8))] Tryd.mixed rfl (by decide +kernel) ?_
      refine DP_one ⟨[], [0, 1, 2, 3, 4, 5, 6, 7, 8, 9], [], [0, 1, 2, 3, 4, 5, 6, 7, 8, 9], [10]⟩ 10 _ rfl rfl (by decide +kernel) rfl ⟨⟨_, rfl, Qok_val rfl (Ev_move rfl)⟩, ⟨_, rfl, Qok_val rfl (Ev_move rfl)⟩, ⟨_, rfl, Qok_val rfl (Ev_nilCheck rfl)⟩, ⟨_, rfl, Qok_val rfl (Ev_fieldAddr 1 22 1 Tryd.underlying138 rfl Tryd.sizeOf22 rfl rfl)⟩, ⟨_, rfl, Qok_val rfl (Ev_load rfl (Ld_one Tryd.isAgg22 (MemAt.ent 0 rfl (Seg.tail (Seg.head)))))⟩, ⟨_, rfl, Qok_val rfl (Ev_move rfl)⟩, ⟨_, rfl, Qok_val rfl (Ev_move rfl)⟩, ⟨_, rfl, Qok_val rfl (Ev_bini rfl rfl fun _ => bin_mul_i _ _ (8*(k:Int) - 8) (by omega) (by omega))⟩, ⟨_, rfl, Qok_val rfl (Ev_bini rfl rfl fun _ => bin_shr_u64 nv _ _ (8*k - 8) (by omega) (by omega))⟩, ⟨_, rfl, Qok_val rfl (Ev_conv _ _ rfl fun _ => conv_u64_u8 (by rw [Tryd.underlying58]; rfl) Tryd.underlying5 _)⟩, trivial⟩ rfl (Cok_step rfl (Step_buildSlice 5 1 _ [(0, U8 ((nv >>> UInt64.ofNat (8*k - 8)).toUInt8))] (cu8 ([(nv >>> UInt64.ofNat (8*k - 8)).toUInt8])) Tryd.underlying22 Tryd.sizeOf5 Tryd.zeroValue5 rfl rfl rfl (by kernel_rfl))) ?_
      rintro v1 L1 ⟨nb1, hnb1, rfl, rfl⟩
      refine ⟨[], ?_⟩
      show DP _ _ _ _ _ _ _ _ [⟨wb, [ev, .slice none 0 0], 138, (0, 0)⟩, ⟨nb1, cu8 ([(nv >>> UInt64.ofNat (8*k - 8)).toUInt8]), 5, (0, 0)⟩]
      refine DP_one ⟨[10], [0, 1, 2, 3, 4, 5, 6, 7, 8, 9], [5, 6, 7, 8, 9], [0, 1, 2, 3, 4], [11]⟩ 11 _ rfl rfl (by decide +kernel) rfl ⟨⟨_, rfl, Qok_val rfl (Ev_move rfl)⟩, ⟨_, rfl, Qok_val rfl (Ev_move rfl)⟩, ⟨_, rfl, Qok_val rfl (Ev_nilCheck rfl)⟩, ⟨_, rfl, Qok_val rfl (Ev_fieldAddr 1 22 1 Tryd.underlying138 rfl Tryd.sizeOf22 rfl rfl)⟩, ⟨_, rfl, Qok_val rfl (Ev_load rfl (Ld_one Tryd.isAgg22 (MemAt.ent 0 rfl (Seg.tail (Seg.head)))))⟩, trivial⟩ rfl (Cok_step rfl (Step_appM8 22 5 [false, false] (.slice none 0 0) 0 ([] : List UInt8) ([(nv >>> UInt64.ofNat (8*k - 8)).toUInt8]) (some ⟨nb1, 0, none⟩) 1 1 1 Tryd.underlying22 Tryd.info5 rfl (.inl ⟨rfl, rfl, rfl, rfl, by omega⟩) rfl (by simp) (SrcAt.mem (MemAt.ent 1 rfl (Seg.whole _))) (by omega) (by unfold maxLen; omega) (by omega))) ?_
      rintro v1 L1 ⟨nb2, sp1, cp1, hg1, rfl, rfl, ha1, ha2, ha3, ha4⟩
      refine ⟨[(12, Ptr wb 0), (13, Ptr wb 1)], ?_⟩
      show DP _ _ _ _ _ _ _ _ [⟨wb, [ev, .slice none 0 0], 138, (0, 0)⟩, ⟨nb1, cu8 ([(nv >>> UInt64.ofNat (8*k - 8)).toUInt8]), 5, (0, 0)⟩, ⟨nb2, cu8 (([] : List UInt8) ++ ([(nv >>> UInt64.ofNat (8*k - 8)).toUInt8])) ++ sp1, 5, (0, 0)⟩]
      refine DP_one ⟨[10, 11], [0, 1, 2, 3, 4, 5, 6, 7, 8, 9, 12, 13], [1, 2, 3, 4, 5, 6, 7, 8, 9], [0, 12, 13], [14]⟩ 14 _ rfl rfl (by decide +kernel) rfl ⟨⟨_, rfl, Qok_val rfl (Ev_move rfl)⟩, ⟨_, rfl, Qok_val rfl (Ev_nilCheck rfl)⟩, ⟨_, rfl, Qok_val rfl (Ev_fieldAddr 1 22 1 Tryd.underlying138 rfl Tryd.sizeOf22 rfl rfl)⟩, trivial⟩ rfl (Cok_step rfl (Step_store 0 wb 1 1 ([ev, .slice none 0 0]) 138 (Slc nb2 0 1 cp1) ([Slc nb2 0 1 cp1]) ([ev, Slc nb2 0 1 cp1]) rfl rfl rfl rfl Tryd.sizeOf22 rfl (by simp [Value.oneCell']) (Nat.le_of_ble_eq_true rfl) (rfl))) ?_
      rintro v1 L1 ⟨rfl, rfl⟩
      refine ⟨[], ?_⟩
      show DP _ _ _ _ _ _ _ _ [⟨wb, [ev, Slc nb2 0 1 cp1], 138, (0, 0)⟩, ⟨nb1, cu8 ([(nv >>> UInt64.ofNat (8*k - 8)).toUInt8]), 5, (0, 0)⟩, ⟨nb2, cu8 (([] : List UInt8) ++ ([(nv >>> UInt64.ofNat (8*k - 8)).toUInt8])) ++ sp1, 5, (0, 0)⟩]
      refine DP_end ⟨[10, 11, 14], [0, 1, 2, 3, 4, 5, 6, 7, 8, 9, 12, 13], [0, 1, 2, 3, 4, 5, 6, 7, 8, 9, 12, 13], [], []⟩ rfl rfl (by decide +kernel) rfl trivial ?_
      refine K_sub (F' := [(36, Ptr wb 0), (37, Ptr wb 0), (38, Ptr wb 0), (39, Ptr wb 1), (40, .slice none 0 0), (41, U64 nv), (42, I64 ((k:Int) - 1)), (43, I64 (8*(k:Int) - 8)), (44, U64 (nv >>> UInt64.ofNat (8*k - 8))), (45, U8 ((nv >>> UInt64.ofNat (8*k - 8)).toUInt8)), (46, Slc nb1 0 1 1), (47, Slc nb2 0 1 cp1), (48, Ptr wb 0), (49, Ptr wb 1), (0, Ptr wb 0), (1, U64 nv), (6, .pointer none), (7, I64 ((k:Int) - 1)), (32, I64 ((k:Int) - 1)), (33, .bool (decide ((0:Int) ≤ ((k:Int) - 1))))]) (Sub.cons (by kernel_rfl) (Sub.cons (by kernel_rfl) (Sub.cons (by kernel_rfl) (Sub.cons (by kernel_rfl) (Sub.cons (by kernel_rfl) (Sub.cons (by kernel_rfl) (Sub.cons (by kernel_rfl) (Sub.cons (by kernel_rfl) (Sub.cons (by kernel_rfl) (Sub.cons (by kernel_rfl) (Sub.cons (by kernel_rfl) (Sub.cons (by kernel_rfl) (Sub.cons (by kernel_rfl) (Sub.cons (by kernel_rfl) (Sub.cons (by kernel_rfl) (Sub.cons (by kernel_rfl) (Sub.cons (by kernel_rfl) (Sub.cons (by kernel_rfl) (Sub.cons (by kernel_rfl) (Sub.cons (by kernel_rfl) (Sub.nil))))))))))))))))))))) ?_
      show JQ _ _ _ [(36, Ptr wb 0), (37, Ptr wb 0), (38, Ptr wb 0), (39, Ptr wb 1), (40, .slice none 0 0), (41, U64 nv), (42, I64 ((k:Int) - 1)), (43, I64 (8*(k:Int) - 8)), (44, U64 (nv >>> UInt64.ofNat (8*k - 8))), (45, U8 ((nv >>> UInt64.ofNat (8*k - 8)).toUInt8)), (46, Slc nb1 0 1 1), (47, Slc nb2 0 1 cp1), (48, Ptr wb 0), (49, Ptr wb 1), (0, Ptr wb 0), (1, U64 nv), (6, .pointer none), (7, I64 ((k:Int) - 1)), (32, I64 ((k:Int) - 1)), (33, .bool (decide ((0:Int) ≤ ((k:Int) - 1))))] _
      refine JQ_in_normal ?_
      refine JQ_then ?_
      refine JC_region ?_
      refine JL_val _ (Ev_move rfl) rfl ?_
      refine JL_val (I64 ((k:Int) - 2)) (Ev_bini rfl rfl fun _ => bin_sub_i _ _ ((k:Int) - 2) (by omega) (by omega)) rfl ?_
      refine JL_val _ (Ev_assign rfl) rfl ?_
      refine JL_nil ?_
      refine JQ_thenK ?_
      refine K_mask [true, false, true] ?_
      show K _ _ [⟨wb, [ev, Slc nb2 0 1 cp1], 138, (0, 0)⟩, ⟨nb2, cu8 (([] : List UInt8) ++ ([(nv >>> UInt64.ofNat (8*k - 8)).toUInt8])) ++ sp1, 5, (0, 0)⟩] _
      refine K_next (.inr (1, ([] : List UInt8) ++ ([(nv >>> UInt64.ofNat (8*k - 8)).toUInt8]), nb2, sp1, cp1)) ⟨by omega, by omega, by rw [numK_succ, numK_zero]; rfl, (ha1).trans (by first | rfl | simp +arith), (ha2).trans (by first | rfl | simp +arith), by omega, ha4⟩ (by first | (simp; omega) | simp) (Sub.cons rfl (Sub.cons rfl (Sub.cons rfl (Sub.cons (some_i64 (by omega)) (Sub.nil))))) rfl
    ·
      obtain ⟨hx0, hx1, hx2, hoq, hx4, hx5, hx6⟩ := hx
      show JC _ _ _ [(0, Ptr wb 0), (1, U64 nv), (6, .pointer none), (7, I64 ((k:Int) - (q:Int) - 1))] [⟨wb, [ev, Slc gq 0 q cpq], 138, (0, 0)⟩, ⟨gq, cu8 oq ++ spq, 5, (0, 0)⟩]
      refine JC_seq ?_
      refine JC_seq ?_
      refine JC_region ?_
      refine JL_val _ (Ev_move rfl) rfl ?_
      refine JL_val (.bool (decide ((0:Int) ≤ ((k:Int) - (q:Int) - 1)))) (Ev_bini rfl rfl fun _ => bin_geq_i _ _) rfl ?_
      refine JL_nil ?_
      refine JQ_then ?_
      refine JC_cond (decide ((0:Int) ≤ ((k:Int) - (q:Int) - 1))) rfl (fun hb2 => ?_) (fun hb2 => ?_)
      ·
        have hp2 : (0:Int) ≤ ((k:Int) - (q:Int) - 1) := of_decide_eq_true hb2
        refine JC_skip ?_
        refine JQ_then ?_
        refine JC_seq ?_
        refine JC_block ?_
        refine JC_draw 51 4 [(0, Ptr wb 0), (1, Ptr wb 0), (2, Ptr wb 0), (3, Ptr wb 1), (4, Slc gq 0 q cpq), (5, U64 nv), (6, I64 ((k:Int) - (q:Int) - 1)), (7, I64 (8*(k:Int) - 8*(q:Int) - 8)), (8, U64 (nv >>> UInt64.ofNat (8*k - 8*q - 8))), (9, U8 ((nv >>> UInt64.ofNat (8*k - 8*q - 8)).toUInt8))] Tryd.mixed rfl (by decide +kernel) ?_
        refine DP_one ⟨[], [0, 1, 2, 3, 4, 5, 6, 7, 8, 9], [], [0, 1, 2, 3, 4, 5, 6, 7, 8, 9], [10]⟩ 10 _ rfl rfl (by decide +kernel) rfl ⟨⟨_, rfl, Qok_val rfl (Ev_move rfl)⟩, ⟨_, rfl, Qok_val rfl (Ev_move rfl)⟩, ⟨_, rfl, Qok_val rfl (Ev_nilCheck rfl)⟩, ⟨_, rfl, Qok_val rfl (Ev_fieldAddr 1 22 1 Tryd.underlying138 rfl Tryd.sizeOf22 rfl rfl)⟩, ⟨_, rfl, Qok_val rfl (Ev_load rfl (Ld_one Tryd.isAgg22 (MemAt.ent 0 rfl (Seg.tail (Seg.head)))))⟩, ⟨_, rfl, Qok_val rfl (Ev_move rfl)⟩, ⟨_, rfl, Qok_val rfl (Ev_move rfl)⟩, ⟨_, rfl, Qok_val rfl (Ev_bini rfl rfl fun _ => bin_mul_i _ _ (8*(k:Int) - 8*(q:Int) - 8) (by omega) (by omega))⟩, ⟨_, rfl, Qok_val rfl (Ev_bini rfl rfl fun _ => bin_shr_u64 nv _ _ (8*k - 8*q - 8) (by omega) (by omega))⟩, ⟨_, rfl, Qok_val rfl (Ev_conv _ _ rfl fun _ => conv_u64_u8 (by rw [Tryd.underlying58]; rfl) Tryd.underlying5 _)⟩, trivial⟩ rfl (Cok_step rfl (Step_buildSlice 5 1 _ [(0, U8 ((nv >>> UInt64.ofNat (8*k - 8*q - 8)).toUInt8))] (cu8 ([(nv >>> UInt64.ofNat (8*k - 8*q - 8)).toUInt8])) Tryd.underlying22 Tryd.sizeOf5 Tryd.zeroValue5 rfl rfl rfl (by kernel_rfl))) ?_
        rintro v1 L1 ⟨nb3, hnb3, rfl, rfl⟩
        refine ⟨[], ?_⟩
        show DP _ _ _ _ _ _ _ _ [⟨wb, [ev, Slc gq 0 q cpq], 138, (0, 0)⟩, ⟨gq, cu8 oq ++ spq, 5, (0, 0)⟩, ⟨nb3, cu8 ([(nv >>> UInt64.ofNat (8*k - 8*q - 8)).toUInt8]), 5, (0, 0)⟩]
        refine DP_one ⟨[10], [0, 1, 2, 3, 4, 5, 6, 7, 8, 9], [5, 6, 7, 8, 9], [0, 1, 2, 3, 4], [11]⟩ 11 _ rfl rfl (by decide +kernel) rfl ⟨⟨_, rfl, Qok_val rfl (Ev_move rfl)⟩, ⟨_, rfl, Qok_val rfl (Ev_move rfl)⟩, ⟨_, rfl, Qok_val rfl (Ev_nilCheck rfl)⟩, ⟨_, rfl, Qok_val rfl (Ev_fieldAddr 1 22 1 Tryd.underlying138 rfl Tryd.sizeOf22 rfl rfl)⟩, ⟨_, rfl, Qok_val rfl (Ev_load rfl (Ld_one Tryd.isAgg22 (MemAt.ent 0 rfl (Seg.tail (Seg.head)))))⟩, trivial⟩ rfl (Cok_step rfl (Step_appM8 22 5 [false, true, false] (Slc gq 0 q cpq) q oq ([(nv >>> UInt64.ofNat (8*k - 8*q - 8)).toUInt8]) (some ⟨nb3, 0, none⟩) 1 1 (q + 1) Tryd.underlying22 Tryd.info5 rfl (.inr ⟨gq, spq, cpq, rfl, rfl, (by first | exact hoq | simp [hoq]), hx4, (by omega), (by omega)⟩) rfl (by simp) (SrcAt.mem (MemAt.ent 2 rfl (Seg.whole _))) (by omega) (by unfold maxLen; omega) (by omega))) ?_
        rintro v1 L1 ⟨nb4, sp2, cp2, hg2, rfl, rfl, ha5, ha6, ha7, ha8⟩
        refine ⟨[(12, Ptr wb 0), (13, Ptr wb 1)], ?_⟩
        show DP _ _ _ _ _ _ _ _ [⟨wb, [ev, Slc gq 0 q cpq], 138, (0, 0)⟩, ⟨nb3, cu8 ([(nv >>> UInt64.ofNat (8*k - 8*q - 8)).toUInt8]), 5, (0, 0)⟩, ⟨nb4, cu8 (oq ++ ([(nv >>> UInt64.ofNat (8*k - 8*q - 8)).toUInt8])) ++ sp2, 5, (0, 0)⟩]
        refine DP_one ⟨[10, 11], [0, 1, 2, 3, 4, 5, 6, 7, 8, 9, 12, 13], [1, 2, 3, 4, 5, 6, 7, 8, 9], [0, 12, 13], [14]⟩ 14 _ rfl rfl (by decide +kernel) rfl ⟨⟨_, rfl, Qok_val rfl (Ev_move rfl)⟩, ⟨_, rfl, Qok_val rfl (Ev_nilCheck rfl)⟩, ⟨_, rfl, Qok_val rfl (Ev_fieldAddr 1 22 1 Tryd.underlying138 rfl Tryd.sizeOf22 rfl rfl)⟩, trivial⟩ rfl (Cok_step rfl (Step_store 0 wb 1 1 ([ev, Slc gq 0 q cpq]) 138 (Slc nb4 0 (q + 1) cp2) ([Slc nb4 0 (q + 1) cp2]) ([ev, Slc nb4 0 (q + 1) cp2]) rfl rfl rfl rfl Tryd.sizeOf22 rfl (by simp [Value.oneCell']) (Nat.le_of_ble_eq_true rfl) (rfl))) ?_
        rintro v1 L1 ⟨rfl, rfl⟩
        refine ⟨[], ?_⟩
        show DP _ _ _ _ _ _ _ _ [⟨wb, [ev, Slc nb4 0 (q + 1) cp2], 138, (0, 0)⟩, ⟨nb3, cu8 ([(nv >>> UInt64.ofNat (8*k - 8*q - 8)).toUInt8]), 5, (0, 0)⟩, ⟨nb4, cu8 (oq ++ ([(nv >>> UInt64.ofNat (8*k - 8*q - 8)).toUInt8])) ++ sp2, 5, (0, 0)⟩]
        refine DP_end ⟨[10, 11, 14], [0, 1, 2, 3, 4, 5, 6, 7, 8, 9, 12, 13], [0, 1, 2, 3, 4, 5, 6, 7, 8, 9, 12, 13], [], []⟩ rfl rfl (by decide +kernel) rfl trivial ?_
        refine K_sub (F' := [(36, Ptr wb 0), (37, Ptr wb 0), (38, Ptr wb 0), (39, Ptr wb 1), (40, Slc gq 0 q cpq), (41, U64 nv), (42, I64 ((k:Int) - (q:Int) - 1)), (43, I64 (8*(k:Int) - 8*(q:Int) - 8)), (44, U64 (nv >>> UInt64.ofNat (8*k - 8*q - 8))), (45, U8 ((nv >>> UInt64.ofNat (8*k - 8*q - 8)).toUInt8)), (46, Slc nb3 0 1 1), (47, Slc nb4 0 (q + 1) cp2), (48, Ptr wb 0), (49, Ptr wb 1), (0, Ptr wb 0), (1, U64 nv), (6, .pointer none), (7, I64 ((k:Int) - (q:Int) - 1)), (32, I64 ((k:Int) - (q:Int) - 1)), (33, .bool (decide ((0:Int) ≤ ((k:Int) - (q:Int) - 1))))]) (Sub.cons (by kernel_rfl) (Sub.cons (by kernel_rfl) (Sub.cons (by kernel_rfl) (Sub.cons (by kernel_rfl) (Sub.cons (by kernel_rfl) (Sub.cons (by kernel_rfl) (Sub.cons (by kernel_rfl) (Sub.cons (by kernel_rfl) (Sub.cons (by kernel_rfl) (Sub.cons (by kernel_rfl) (Sub.cons (by kernel_rfl) (Sub.cons (by kernel_rfl) (Sub.cons (by kernel_rfl) (Sub.cons (by kernel_rfl) (Sub.cons (by kernel_rfl) (Sub.cons (by kernel_rfl) (Sub.cons (by kernel_rfl) (Sub.cons (by kernel_rfl) (Sub.cons (by kernel_rfl) (Sub.cons (by kernel_rfl) (Sub.nil))))))))))))))))))))) ?_
        show JQ _ _ _ [(36, Ptr wb 0), (37, Ptr wb 0), (38, Ptr wb 0), (39, Ptr wb 1), (40, Slc gq 0 q cpq), (41, U64 nv), (42, I64 ((k:Int) - (q:Int) - 1)), (43, I64 (8*(k:Int) - 8*(q:Int) - 8)), (44, U64 (nv >>> UInt64.ofNat (8*k - 8*q - 8))), (45, U8 ((nv >>> UInt64.ofNat (8*k - 8*q - 8)).toUInt8)), (46, Slc nb3 0 1 1), (47, Slc nb4 0 (q + 1) cp2), (48, Ptr wb 0), (49, Ptr wb 1), (0, Ptr wb 0), (1, U64 nv), (6, .pointer none), (7, I64 ((k:Int) - (q:Int) - 1)), (32, I64 ((k:Int) - (q:Int) - 1)), (33, .bool (decide ((0:Int) ≤ ((k:Int) - (q:Int) - 1))))] _
        refine JQ_in_normal ?_
        refine JQ_then ?_
        refine JC_region ?_
        refine JL_val _ (Ev_move rfl) rfl ?_
        refine JL_val (I64 ((k:Int) - (q:Int) - 2)) (Ev_bini rfl rfl fun _ => bin_sub_i _ _ ((k:Int) - (q:Int) - 2) (by omega) (by omega)) rfl ?_
        refine JL_val _ (Ev_assign rfl) rfl ?_
        refine JL_nil ?_
        refine JQ_thenK ?_
        refine K_mask [true, false, true] ?_
        show K _ _ [⟨wb, [ev, Slc nb4 0 (q + 1) cp2], 138, (0, 0)⟩, ⟨nb4, cu8 (oq ++ ([(nv >>> UInt64.ofNat (8*k - 8*q - 8)).toUInt8])) ++ sp2, 5, (0, 0)⟩] _
        refine K_next (.inr (q + 1, oq ++ ([(nv >>> UInt64.ofNat (8*k - 8*q - 8)).toUInt8]), nb4, sp2, cp2)) ⟨by omega, by omega, by rw [numK_succ, ← hx2], (ha5).trans (by first | rfl | simp +arith), (ha6).trans (by first | rfl | simp +arith), by omega, ha8⟩ (by first | (simp; omega) | simp) (Sub.cons rfl (Sub.cons rfl (Sub.cons rfl (Sub.cons (some_i64 (by omega)) (Sub.nil))))) rfl
      ·
        have hp2 : ¬ ((0:Int) ≤ ((k:Int) - (q:Int) - 1)) := of_decide_eq_false hb2
        refine JC_exit ?_
        refine JQ_then_exit ?_
        refine JQ_then_exit ?_
        refine JQ_in_same ?_
        refine JQ_then ?_
        refine JC_seq ?_
        refine JC_region ?_
        refine JL_val _ (Ev_move rfl) rfl ?_
        refine JL_val _ (Ev_assign rfl) rfl ?_
        refine JL_nil ?_
        refine JQ_then ?_
        refine JC_ret ?_
        refine JQ_ret (Ptr wb 0) (res1 Tryd.results97 (RV_tmp rfl)) fun w1 hw1 => ?_
        have e1 : q = k := by omega
        rw [hx2, e1] at hw1
        obtain rfl : tot = k := by omega
        exact ⟨_, _, rfl, ⟨rfl, gq, spq, cpq, rfl, by omega, by omega, hx6⟩, hw1⟩
  ·
    have hp1 : ¬ (((k:Int)) < (8:Int)) := of_decide_eq_false hb1
    refine JL_gskip 6 16 true _ rfl rfl hb1 rfl ?_
    refine JL_gskip 6 16 true _ rfl rfl hb1 rfl ?_
    refine JL_gskip 6 16 true _ rfl rfl hb1 rfl ?_
    refine JL_gskip 6 16 true _ rfl rfl hb1 rfl ?_
    refine JL_gskip 6 16 true _ rfl rfl hb1 rfl ?_
    refine JL_gval 3 13 false _ _ rfl rfl rfl (Ev_pickF _ rfl hb1 rfl) rfl ?_
    refine JL_val _ (Ev_pickF _ rfl rfl rfl) rfl ?_
    refine JL_nil ?_
    refine JQ_then ?_
    refine JC_condF _ rfl rfl ?_
    refine JC_skip ?_
    refine JQ_then ?_
    refine JC_seq ?_
    refine JC_seq ?_
    refine JC_region ?_
    refine JL_val _ (Ev_move rfl) rfl ?_
    refine JL_val (I64 ((k:Int) - 1)) (Ev_bini rfl rfl fun _ => bin_sub_i _ _ ((k:Int) - 1) (by omega) (by omega)) rfl ?_
    refine JL_val _ (Ev_assign rfl) rfl ?_
    refine JL_nil ?_
    refine JQ_then ?_
    refine JC_block ?_
    refine JC_loop (ι := (Unit) ⊕ (Nat × List UInt8 × Nat × List Value × Nat)) (fun x => match x with | .inl _ => [(0, Ptr wb 0), (1, U64 nv), (6, .pointer none), (7, I64 ((k:Int) - 1))] | .inr ⟨q, oq, gq, spq, cpq⟩ => [(0, Ptr wb 0), (1, U64 nv), (6, .pointer none), (7, I64 ((k:Int) - (q:Int) - 1))]) (fun x => match x with | .inl _ => [⟨wb, [ev, .slice none 0 0], 138, (0, 0)⟩] | .inr ⟨q, oq, gq, spq, cpq⟩ => [⟨wb, [ev, Slc gq 0 q cpq], 138, (0, 0)⟩, ⟨gq, cu8 oq ++ spq, 5, (0, 0)⟩]) (fun x => match x with | .inl _ => True | .inr ⟨q, oq, gq, spq, cpq⟩ => 1 ≤ q ∧ q ≤ k ∧ oq = numK k nv q ∧ oq.length = q ∧ spq.length = cpq - (q) ∧ q ≤ cpq ∧ cpq ≤ maxLen) (fun x => match x with | .inl _ => k + 1 | .inr ⟨q, oq, gq, spq, cpq⟩ => k - q) (.inl ()) trivial (Sub.cons rfl (Sub.cons rfl (Sub.cons rfl (Sub.cons rfl (Sub.nil))))) rfl ?_
    rintro (_ | ⟨q, oq, gq, spq, cpq⟩) hx
    ·
      obtain _ := hx
      show JC _ _ _ [(0, Ptr wb 0), (1, U64 nv), (6, .pointer none), (7, I64 ((k:Int) - 1))] [⟨wb, [ev, .slice none 0 0], 138, (0, 0)⟩]
      refine JC_seq ?_
      refine JC_seq ?_
      refine JC_region ?_
      refine JL_val _ (Ev_move rfl) rfl ?_
      refine JL_val (.bool (decide ((0:Int) ≤ ((k:Int) - 1)))) (Ev_bini rfl rfl fun _ => bin_geq_i _ _) rfl ?_
      refine JL_nil ?_
      refine JQ_then ?_
      refine JC_condT _ rfl (decide_eq_true (by omega)) ?_
      refine JC_skip ?_
      refine JQ_then ?_
      refine JC_seq ?_
      refine JC_block ?_
      refine JC_draw 51 4 [(0, Ptr wb 0), (1, Ptr wb 0), (2, Ptr wb 0), (3, Ptr wb 1), (4, .slice none 0 0), (5, U64 nv), (6, I64 ((k:Int) - 1)), (7, I64 (8*(k:Int) - 8)), (8, U64 (nv >>> UInt64.ofNat (8*k - 8))), (9, U8 ((nv >>> UInt64.ofNat (8*k - 8)).toUInt8))] Tryd.mixed rfl (by decide +kernel) ?_
      refine DP_one ⟨[], [0, 1, 2, 3, 4, 5, 6, 7, 8, 9], [], [0, 1, 2, 3, 4, 5, 6, 7, 8, 9], [10]⟩ 10 _ rfl rfl (by decide +kernel) rfl ⟨⟨_, rfl, Qok_val rfl (Ev_move rfl)⟩, ⟨_, rfl, Qok_val rfl (Ev_move rfl)⟩, ⟨_, rfl, Qok_val rfl (Ev_nilCheck rfl)⟩, ⟨_, rfl, Qok_val rfl (Ev_fieldAddr 1 22 1 Tryd.underlying138 rfl Tryd.sizeOf22 rfl rfl)⟩, ⟨_, rfl, Qok_val rfl (Ev_load rfl (Ld_one Tryd.isAgg22 (MemAt.ent 0 rfl (Seg.tail (Seg.head)))))⟩, ⟨_, rfl, Qok_val rfl (Ev_move rfl)⟩, ⟨_, rfl, Qok_val rfl (Ev_move rfl)⟩, ⟨_, rfl, Qok_val rfl (Ev_bini rfl rfl fun _ => bin_mul_i _ _ (8*(k:Int) - 8) (by omega) (by omega))⟩, ⟨_, rfl, Qok_val rfl (Ev_bini rfl rfl fun _ => bin_shr_u64 nv _ _ (8*k - 8) (by omega) (by omega))⟩, ⟨_, rfl, Qok_val rfl (Ev_conv _ _ rfl fun _ => conv_u64_u8 (by rw [Tryd.underlying58]; rfl) Tryd.underlying5 _)⟩, trivial⟩ rfl (Cok_step rfl (Step_buildSlice 5 1 _ [(0, U8 ((nv >>> UInt64.ofNat (8*k - 8)).toUInt8))] (cu8 ([(nv >>> UInt64.ofNat (8*k - 8)).toUInt8])) Tryd.underlying22 Tryd.sizeOf5 Tryd.zeroValue5 rfl rfl rfl (by kernel_rfl))) ?_
      rintro v1 L1 ⟨nb5, hnb5, rfl, rfl⟩
      refine ⟨[], ?_⟩
      show DP _ _ _ _ _ _ _ _ [⟨wb, [ev, .slice none 0 0], 138, (0, 0)⟩, ⟨nb5, cu8 ([(nv >>> UInt64.ofNat (8*k - 8)).toUInt8]), 5, (0, 0)⟩]
      refine DP_one ⟨[10], [0, 1, 2, 3, 4, 5, 6, 7, 8, 9], [5, 6, 7, 8, 9], [0, 1, 2, 3, 4], [11]⟩ 11 _ rfl rfl (by decide +kernel) rfl ⟨⟨_, rfl, Qok_val rfl (Ev_move rfl)⟩, ⟨_, rfl, Qok_val rfl (Ev_move rfl)⟩, ⟨_, rfl, Qok_val rfl (Ev_nilCheck rfl)⟩, ⟨_, rfl, Qok_val rfl (Ev_fieldAddr 1 22 1 Tryd.underlying138 rfl Tryd.sizeOf22 rfl rfl)⟩, ⟨_, rfl, Qok_val rfl (Ev_load rfl (Ld_one Tryd.isAgg22 (MemAt.ent 0 rfl (Seg.tail (Seg.head)))))⟩, trivial⟩ rfl (Cok_step rfl (Step_appM8 22 5 [false, false] (.slice none 0 0) 0 ([] : List UInt8) ([(nv >>> UInt64.ofNat (8*k - 8)).toUInt8]) (some ⟨nb5, 0, none⟩) 1 1 1 Tryd.underlying22 Tryd.info5 rfl (.inl ⟨rfl, rfl, rfl, rfl, by omega⟩) rfl (by simp) (SrcAt.mem (MemAt.ent 1 rfl (Seg.whole _))) (by omega) (by unfold maxLen; omega) (by omega))) ?_
      rintro v1 L1 ⟨nb6, sp3, cp3, hg3, rfl, rfl, ha9, ha10, ha11, ha12⟩
      refine ⟨[(12, Ptr wb 0), (13, Ptr wb 1)], ?_⟩
      show DP _ _ _ _ _ _ _ _ [⟨wb, [ev, .slice none 0 0], 138, (0, 0)⟩, ⟨nb5, cu8 ([(nv >>> UInt64.ofNat (8*k - 8)).toUInt8]), 5, (0, 0)⟩, ⟨nb6, cu8 (([] : List UInt8) ++ ([(nv >>> UInt64.ofNat (8*k - 8)).toUInt8])) ++ sp3, 5, (0, 0)⟩]
      refine DP_one ⟨[10, 11], [0, 1, 2, 3, 4, 5, 6, 7, 8, 9, 12, 13], [1, 2, 3, 4, 5, 6, 7, 8, 9], [0, 12, 13], [14]⟩ 14 _ rfl rfl (by decide +kernel) rfl ⟨⟨_, rfl, Qok_val rfl (Ev_move rfl)⟩, ⟨_, rfl, Qok_val rfl (Ev_nilCheck rfl)⟩, ⟨_, rfl, Qok_val rfl (Ev_fieldAddr 1 22 1 Tryd.underlying138 rfl Tryd.sizeOf22 rfl rfl)⟩, trivial⟩ rfl (Cok_step rfl (Step_store 0 wb 1 1 ([ev, .slice none 0 0]) 138 (Slc nb6 0 1 cp3) ([Slc nb6 0 1 cp3]) ([ev, Slc nb6 0 1 cp3]) rfl rfl rfl rfl Tryd.sizeOf22 rfl (by simp [Value.oneCell']) (Nat.le_of_ble_eq_true rfl) (rfl))) ?_
      rintro v1 L1 ⟨rfl, rfl⟩
      refine ⟨[], ?_⟩
      show DP _ _ _ _ _ _ _ _ [⟨wb, [ev, Slc nb6 0 1 cp3], 138, (0, 0)⟩, ⟨nb5, cu8 ([(nv >>> UInt64.ofNat (8*k - 8)).toUInt8]), 5, (0, 0)⟩, ⟨nb6, cu8 (([] : List UInt8) ++ ([(nv >>> UInt64.ofNat (8*k - 8)).toUInt8])) ++ sp3, 5, (0, 0)⟩]
      refine DP_end ⟨[10, 11, 14], [0, 1, 2, 3, 4, 5, 6, 7, 8, 9, 12, 13], [0, 1, 2, 3, 4, 5, 6, 7, 8, 9, 12, 13], [], []⟩ rfl rfl (by decide +kernel) rfl trivial ?_
      refine K_sub (F' := [(36, Ptr wb 0), (37, Ptr wb 0), (38, Ptr wb 0), (39, Ptr wb 1), (40, .slice none 0 0), (41, U64 nv), (42, I64 ((k:Int) - 1)), (43, I64 (8*(k:Int) - 8)), (44, U64 (nv >>> UInt64.ofNat (8*k - 8))), (45, U8 ((nv >>> UInt64.ofNat (8*k - 8)).toUInt8)), (46, Slc nb5 0 1 1), (47, Slc nb6 0 1 cp3), (48, Ptr wb 0), (49, Ptr wb 1), (0, Ptr wb 0), (1, U64 nv), (6, .pointer none), (7, I64 ((k:Int) - 1)), (32, I64 ((k:Int) - 1)), (33, .bool (decide ((0:Int) ≤ ((k:Int) - 1))))]) (Sub.cons (by kernel_rfl) (Sub.cons (by kernel_rfl) (Sub.cons (by kernel_rfl) (Sub.cons (by kernel_rfl) (Sub.cons (by kernel_rfl) (Sub.cons (by kernel_rfl) (Sub.cons (by kernel_rfl) (Sub.cons (by kernel_rfl) (Sub.cons (by kernel_rfl) (Sub.cons (by kernel_rfl) (Sub.cons (by kernel_rfl) (Sub.cons (by kernel_rfl) (Sub.cons (by kernel_rfl) (Sub.cons (by kernel_rfl) (Sub.cons (by kernel_rfl) (Sub.cons (by kernel_rfl) (Sub.cons (by kernel_rfl) (Sub.cons (by kernel_rfl) (Sub.cons (by kernel_rfl) (Sub.cons (by kernel_rfl) (Sub.nil))))))))))))))))))))) ?_
      show JQ _ _ _ [(36, Ptr wb 0), (37, Ptr wb 0), (38, Ptr wb 0), (39, Ptr wb 1), (40, .slice none 0 0), (41, U64 nv), (42, I64 ((k:Int) - 1)), (43, I64 (8*(k:Int) - 8)), (44, U64 (nv >>> UInt64.ofNat (8*k - 8))), (45, U8 ((nv >>> UInt64.ofNat (8*k - 8)).toUInt8)), (46, Slc nb5 0 1 1), (47, Slc nb6 0 1 cp3), (48, Ptr wb 0), (49, Ptr wb 1), (0, Ptr wb 0), (1, U64 nv), (6, .pointer none), (7, I64 ((k:Int) - 1)), (32, I64 ((k:Int) - 1)), (33, .bool (decide ((0:Int) ≤ ((k:Int) - 1))))] _
      refine JQ_in_normal ?_
      refine JQ_then ?_
      refine JC_region ?_
      refine JL_val _ (Ev_move rfl) rfl ?_
      refine JL_val (I64 ((k:Int) - 2)) (Ev_bini rfl rfl fun _ => bin_sub_i _ _ ((k:Int) - 2) (by omega) (by omega)) rfl ?_
      refine JL_val _ (Ev_assign rfl) rfl ?_
      refine JL_nil ?_
      refine JQ_thenK ?_
      refine K_mask [true, false, true] ?_
      show K _ _ [⟨wb, [ev, Slc nb6 0 1 cp3], 138, (0, 0)⟩, ⟨nb6, cu8 (([] : List UInt8) ++ ([(nv >>> UInt64.ofNat (8*k - 8)).toUInt8])) ++ sp3, 5, (0, 0)⟩] _
      refine K_next (.inr (1, ([] : List UInt8) ++ ([(nv >>> UInt64.ofNat (8*k - 8)).toUInt8]), nb6, sp3, cp3)) ⟨by omega, by omega, by rw [numK_succ, numK_zero]; rfl, (ha9).trans (by first | rfl | simp +arith), (ha10).trans (by first | rfl | simp +arith), by omega, ha12⟩ (by first | (simp; omega) | simp) (Sub.cons rfl (Sub.cons rfl (Sub.cons rfl (Sub.cons (some_i64 (by omega)) (Sub.nil))))) rfl
    ·
      obtain ⟨hx0, hx1, hx2, hoq, hx4, hx5, hx6⟩ := hx
      show JC _ _ _ [(0, Ptr wb 0), (1, U64 nv), (6, .pointer none), (7, I64 ((k:Int) - (q:Int) - 1))] [⟨wb, [ev, Slc gq 0 q cpq], 138, (0, 0)⟩, ⟨gq, cu8 oq ++ spq, 5, (0, 0)⟩]
      refine JC_seq ?_
      refine JC_seq ?_
      refine JC_region ?_
      refine JL_val _ (Ev_move rfl) rfl ?_
      refine JL_val (.bool (decide ((0:Int) ≤ ((k:Int) - (q:Int) - 1)))) (Ev_bini rfl rfl fun _ => bin_geq_i _ _) rfl ?_
      refine JL_nil ?_
      refine JQ_then ?_
      refine JC_cond (decide ((0:Int) ≤ ((k:Int) - (q:Int) - 1))) rfl (fun hb3 => ?_) (fun hb3 => ?_)
      ·
        have hp3 : (0:Int) ≤ ((k:Int) - (q:Int) - 1) := of_decide_eq_true hb3
        refine JC_skip ?_
        refine JQ_then ?_
        refine JC_seq ?_
        refine JC_block ?_
        refine JC_draw 51 4 [(0, Ptr wb 0), (1, Ptr wb 0), (2, Ptr wb 0), (3, Ptr wb 1), (4, Slc gq 0 q cpq), (5, U64 nv), (6, I64 ((k:Int) - (q:Int) - 1)), (7, I64 (8*(k:Int) - 8*(q:Int) - 8)), (8, U64 (nv >>> UInt64.ofNat (8*k - 8*q - 8))), (9, U8 ((nv >>> UInt64.ofNat (8*k - 8*q - 8)).toUInt8))] Tryd.mixed rfl (by decide +kernel) ?_
        refine DP_one ⟨[], [0, 1, 2, 3, 4, 5, 6, 7, 8, 9], [], [0, 1, 2, 3, 4, 5, 6, 7, 8, 9], [10]⟩ 10 _ rfl rfl (by decide +kernel) rfl ⟨⟨_, rfl, Qok_val rfl (Ev_move rfl)⟩, ⟨_, rfl, Qok_val rfl (Ev_move rfl)⟩, ⟨_, rfl, Qok_val rfl (Ev_nilCheck rfl)⟩, ⟨_, rfl, Qok_val rfl (Ev_fieldAddr 1 22 1 Tryd.underlying138 rfl Tryd.sizeOf22 rfl rfl)⟩, ⟨_, rfl, Qok_val rfl (Ev_load rfl (Ld_one Tryd.isAgg22 (MemAt.ent 0 rfl (Seg.tail (Seg.head)))))⟩, ⟨_, rfl, Qok_val rfl (Ev_move rfl)⟩, ⟨_, rfl, Qok_val rfl (Ev_move rfl)⟩, ⟨_, rfl, Qok_val rfl (Ev_bini rfl rfl fun _ => bin_mul_i _ _ (8*(k:Int) - 8*(q:Int) - 8) (by omega) (by omega))⟩, ⟨_, rfl, Qok_val rfl (Ev_bini rfl rfl fun _ => bin_shr_u64 nv _ _ (8*k - 8*q - 8) (by omega) (by omega))⟩, ⟨_, rfl, Qok_val rfl (Ev_conv _ _ rfl fun _ => conv_u64_u8 (by rw [Tryd.underlying58]; rfl) Tryd.underlying5 _)⟩, trivial⟩ rfl (Cok_step rfl (Step_buildSlice 5 1 _ [(0, U8 ((nv >>> UInt64.ofNat (8*k - 8*q - 8)).toUInt8))] (cu8 ([(nv >>> UInt64.ofNat (8*k - 8*q - 8)).toUInt8])) Tryd.underlying22 Tryd.sizeOf5 Tryd.zeroValue5 rfl rfl rfl (by kernel_rfl))) ?_
        rintro v1 L1 ⟨nb7, hnb7, rfl, rfl⟩
        refine ⟨[], ?_⟩
        show DP _ _ _ _ _ _ _ _ [⟨wb, [ev, Slc gq 0 q cpq], 138, (0, 0)⟩, ⟨gq, cu8 oq ++ spq, 5, (0, 0)⟩, ⟨nb7, cu8 ([(nv >>> UInt64.ofNat (8*k - 8*q - 8)).toUInt8]), 5, (0, 0)⟩]
        refine DP_one ⟨[10], [0, 1, 2, 3, 4, 5, 6, 7, 8, 9], [5, 6, 7, 8, 9], [0, 1, 2, 3, 4], [11]⟩ 11 _ rfl rfl (by decide +kernel) rfl ⟨⟨_, rfl, Qok_val rfl (Ev_move rfl)⟩, ⟨_, rfl, Qok_val rfl (Ev_move rfl)⟩, ⟨_, rfl, Qok_val rfl (Ev_nilCheck rfl)⟩, ⟨_, rfl, Qok_val rfl (Ev_fieldAddr 1 22 1 Tryd.underlying138 rfl Tryd.sizeOf22 rfl rfl)⟩, ⟨_, rfl, Qok_val rfl (Ev_load rfl (Ld_one Tryd.isAgg22 (MemAt.ent 0 rfl (Seg.tail (Seg.head)))))⟩, trivial⟩ rfl (Cok_step rfl (Step_appM8 22 5 [false, true, false] (Slc gq 0 q cpq) q oq ([(nv >>> UInt64.ofNat (8*k - 8*q - 8)).toUInt8]) (some ⟨nb7, 0, none⟩) 1 1 (q + 1) Tryd.underlying22 Tryd.info5 rfl (.inr ⟨gq, spq, cpq, rfl, rfl, (by first | exact hoq | simp [hoq]), hx4, (by omega), (by omega)⟩) rfl (by simp) (SrcAt.mem (MemAt.ent 2 rfl (Seg.whole _))) (by omega) (by unfold maxLen; omega) (by omega))) ?_
        rintro v1 L1 ⟨nb8, sp4, cp4, hg4, rfl, rfl, ha13, ha14, ha15, ha16⟩
        refine ⟨[(12, Ptr wb 0), (13, Ptr wb 1)], ?_⟩
        show DP _ _ _ _ _ _ _ _ [⟨wb, [ev, Slc gq 0 q cpq], 138, (0, 0)⟩, ⟨nb7, cu8 ([(nv >>> UInt64.ofNat (8*k - 8*q - 8)).toUInt8]), 5, (0, 0)⟩, ⟨nb8, cu8 (oq ++ ([(nv >>> UInt64.ofNat (8*k - 8*q - 8)).toUInt8])) ++ sp4, 5, (0, 0)⟩]
        refine DP_one ⟨[10, 11], [0, 1, 2, 3, 4, 5, 6, 7, 8, 9, 12, 13], [1, 2, 3, 4, 5, 6, 7, 8, 9], [0, 12, 13], [14]⟩ 14 _ rfl rfl (by decide +kernel) rfl ⟨⟨_, rfl, Qok_val rfl (Ev_move rfl)⟩, ⟨_, rfl, Qok_val rfl (Ev_nilCheck rfl)⟩, ⟨_, rfl, Qok_val rfl (Ev_fieldAddr 1 22 1 Tryd.underlying138 rfl Tryd.sizeOf22 rfl rfl)⟩, trivial⟩ rfl (Cok_step rfl (Step_store 0 wb 1 1 ([ev, Slc gq 0 q cpq]) 138 (Slc nb8 0 (q + 1) cp4) ([Slc nb8 0 (q + 1) cp4]) ([ev, Slc nb8 0 (q + 1) cp4]) rfl rfl rfl rfl Tryd.sizeOf22 rfl (by simp [Value.oneCell']) (Nat.le_of_ble_eq_true rfl) (rfl))) ?_
        rintro v1 L1 ⟨rfl, rfl⟩
        refine ⟨[], ?_⟩
        show DP _ _ _ _ _ _ _ _ [⟨wb, [ev, Slc nb8 0 (q + 1) cp4], 138, (0, 0)⟩, ⟨nb7, cu8 ([(nv >>> UInt64.ofNat (8*k - 8*q - 8)).toUInt8]), 5, (0, 0)⟩, ⟨nb8, cu8 (oq ++ ([(nv >>> UInt64.ofNat (8*k - 8*q - 8)).toUInt8])) ++ sp4, 5, (0, 0)⟩]
        refine DP_end ⟨[10, 11, 14], [0, 1, 2, 3, 4, 5, 6, 7, 8, 9, 12, 13], [0, 1, 2, 3, 4, 5, 6, 7, 8, 9, 12, 13], [], []⟩ rfl rfl (by decide +kernel) rfl trivial ?_
        refine K_sub (F' := [(36, Ptr wb 0), (37, Ptr wb 0), (38, Ptr wb 0), (39, Ptr wb 1), (40, Slc gq 0 q cpq), (41, U64 nv), (42, I64 ((k:Int) - (q:Int) - 1)), (43, I64 (8*(k:Int) - 8*(q:Int) - 8)), (44, U64 (nv >>> UInt64.ofNat (8*k - 8*q - 8))), (45, U8 ((nv >>> UInt64.ofNat (8*k - 8*q - 8)).toUInt8)), (46, Slc nb7 0 1 1), (47, Slc nb8 0 (q + 1) cp4), (48, Ptr wb 0), (49, Ptr wb 1), (0, Ptr wb 0), (1, U64 nv), (6, .pointer none), (7, I64 ((k:Int) - (q:Int) - 1)), (32, I64 ((k:Int) - (q:Int) - 1)), (33, .bool (decide ((0:Int) ≤ ((k:Int) - (q:Int) - 1))))]) (Sub.cons (by kernel_rfl) (Sub.cons (by kernel_rfl) (Sub.cons (by kernel_rfl) (Sub.cons (by kernel_rfl) (Sub.cons (by kernel_rfl) (Sub.cons (by kernel_rfl) (Sub.cons (by kernel_rfl) (Sub.cons (by kernel_rfl) (Sub.cons (by kernel_rfl) (Sub.cons (by kernel_rfl) (Sub.cons (by kernel_rfl) (Sub.cons (by kernel_rfl) (Sub.cons (by kernel_rfl) (Sub.cons (by kernel_rfl) (Sub.cons (by kernel_rfl) (Sub.cons (by kernel_rfl) (Sub.cons (by kernel_rfl) (Sub.cons (by kernel_rfl) (Sub.cons (by kernel_rfl) (Sub.cons (by kernel_rfl) (Sub.nil))))))))))))))))))))) ?_
        show JQ _ _ _ [(36, Ptr wb 0), (37, Ptr wb 0), (38, Ptr wb 0), (39, Ptr wb 1), (40, Slc gq 0 q cpq), (41, U64 nv), (42, I64 ((k:Int) - (q:Int) - 1)), (43, I64 (8*(k:Int) - 8*(q:Int) - 8)), (44, U64 (nv >>> UInt64.ofNat (8*k - 8*q - 8))), (45, U8 ((nv >>> UInt64.ofNat (8*k - 8*q - 8)).toUInt8)), (46, Slc nb7 0 1 1), (47, Slc nb8 0 (q + 1) cp4), (48, Ptr wb 0), (49, Ptr wb 1), (0, Ptr wb 0), (1, U64 nv), (6, .pointer none), (7, I64 ((k:Int) - (q:Int) - 1)), (32, I64 ((k:Int) - (q:Int) - 1)), (33, .bool (decide ((0:Int) ≤ ((k:Int) - (q:Int) - 1))))] _
        refine JQ_in_normal ?_
        refine JQ_then ?_
        refine JC_region ?_
        refine JL_val _ (Ev_move rfl) rfl ?_
        refine JL_val (I64 ((k:Int) - (q:Int) - 2)) (Ev_bini rfl rfl fun _ => bin_sub_i _ _ ((k:Int) - (q:Int) - 2) (by omega) (by omega)) rfl ?_
        refine JL_val _ (Ev_assign rfl) rfl ?_
        refine JL_nil ?_
        refine JQ_thenK ?_
        refine K_mask [true, false, true] ?_
        show K _ _ [⟨wb, [ev, Slc nb8 0 (q + 1) cp4], 138, (0, 0)⟩, ⟨nb8, cu8 (oq ++ ([(nv >>> UInt64.ofNat (8*k - 8*q - 8)).toUInt8])) ++ sp4, 5, (0, 0)⟩] _
        refine K_next (.inr (q + 1, oq ++ ([(nv >>> UInt64.ofNat (8*k - 8*q - 8)).toUInt8]), nb8, sp4, cp4)) ⟨by omega, by omega, by rw [numK_succ, ← hx2], (ha13).trans (by first | rfl | simp +arith), (ha14).trans (by first | rfl | simp +arith), by omega, ha16⟩ (by first | (simp; omega) | simp) (Sub.cons rfl (Sub.cons rfl (Sub.cons rfl (Sub.cons (some_i64 (by omega)) (Sub.nil))))) rfl
      ·
        have hp3 : ¬ ((0:Int) ≤ ((k:Int) - (q:Int) - 1)) := of_decide_eq_false hb3
        refine JC_exit ?_
        refine JQ_then_exit ?_
        refine JQ_then_exit ?_
        refine JQ_in_same ?_
        refine JQ_then ?_
        refine JC_seq ?_
        refine JC_region ?_
        refine JL_val _ (Ev_move rfl) rfl ?_
        refine JL_val _ (Ev_assign rfl) rfl ?_
        refine JL_nil ?_
        refine JQ_then ?_
        refine JC_ret ?_
        refine JQ_ret (Ptr wb 0) (res1 Tryd.results97 (RV_tmp rfl)) fun w1 hw1 => ?_
        have e1 : q = k := by omega
        rw [hx2, e1] at hw1
        obtain rfl : tot = k := by omega
        exact ⟨_, _, rfl, ⟨rfl, gq, spq, cpq, rfl, by omega, by omega, hx6⟩, hw1⟩

theorem numO_c (wb gb n cap0 tot : Nat) (ev : Value) (o : List UInt8) (sp0 : List Value) (nv : UInt64) (k : Nat)  (w : World) (h0 : w.heap[wb]? = some (.cells [ev, Slc gb 0 n cap0].toArray 138 (0, 0))) (h1 : w.heap[gb]? = some (.cells (cu8 o ++ sp0).toArray 5 (0, 0))) (hne : wb ≠ gb) (ho : o.length = n) (hsp : sp0.length = cap0 - n) (hca : n ≤ cap0) (hcm : cap0 ≤ maxLen) (hn : n ≤ 1000000000) (hs : Szd (k:Int)) (hx : k < 8 → nv >>> UInt64.ofNat (8*k) = 0) (ht : n + k = tot) : Calls Tryd.prog 97 #[Ptr wb 0, U64 nv, I64 ((k:Int))] w (Post w [wb, gb] (fun v L => v = Ptr wb 0 ∧ ∃ g sp cap, L = [⟨wb, [ev, Slc g 0 tot cap], 138, (0, 0)⟩, ⟨g, cu8 (o ++ numK k nv k) ++ sp, 5, (0, 0)⟩] ∧ sp.length = cap - tot ∧ tot ≤ cap ∧ cap ≤ maxLen)) := by
  have hmx : maxLen = 9223372036854775807 := rfl
  have hs4 : k = 1 ∨ k = 2 ∨ k = 4 ∨ k = 8 := by unfold Szd at hs; omega
  refine enter w [wb, gb] 51 [⟨wb, [ev, Slc gb 0 n cap0], 138, (0, 0)⟩, ⟨gb, cu8 o ++ sp0, 5, (0, 0)⟩] [Ptr wb 0, U64 nv, I64 ((k:Int))] Tryd.func97 rfl rfl (by simp) (Hp.start (by simp; exact ⟨h0, h1⟩) (by simp; exact hne) (by simp)) ?_
  show JC _ _ _ [(0, Ptr wb 0), (1, U64 nv), (2, I64 ((k:Int)))] _
  refine JC_seq ?_
  refine JC_region ?_
  refine JL_val _ (Ev_assign rfl) rfl ?_
  refine JL_nil ?_
  refine JQ_then ?_
  refine JC_seq ?_
  refine JC_seq ?_
  refine JC_region ?_
  refine JL_val _ (Ev_move rfl) rfl ?_
  refine JL_val (.bool false) (Ev_bin _ _ _ rfl rfl (fun _ => eqGuard_ptr ..) fun _ => eql_ptr_nil Tryd.underlying134) rfl ?_
  refine JL_nil ?_
  refine JQ_then ?_
  refine JC_condF _ rfl rfl ?_
  refine JC_skip ?_
  refine JQ_then ?_
  refine JC_seq ?_
  refine JC_seq ?_
  refine JC_region ?_
  refine JL_val _ (Ev_move rfl) rfl ?_
  refine JL_step (Step_callP 121 [I64 ((k:Int))] (.bool true) (Cl_func [I64 ((k:Int))] Tryd.call121 rfl) (fun w1 _ => sizedT_c ((k:Int)) w1 hs)) rfl ?_
  rintro v1 L1 ⟨rfl, rfl⟩
  show JL _ _ _ _ ((11, .bool true) :: _) [⟨wb, [ev, Slc gb 0 n cap0], 138, (0, 0)⟩, ⟨gb, cu8 o ++ sp0, 5, (0, 0)⟩]
  refine JL_val (.bool (!true)) (Ev_not rfl) rfl ?_
  refine JL_val _ (Ev_move rfl) rfl ?_
  refine JL_gval 3 13 false _ _ rfl rfl rfl (Ev_move rfl) rfl ?_
  refine JL_gval 3 13 false _ (.bool (decide (((k:Int)) < (8:Int)))) rfl rfl rfl (Ev_bini rfl rfl fun _ => bin_lss_i _ _) rfl ?_
  refine JL_gval 3 13 false _ _ rfl rfl rfl (Ev_move rfl) rfl ?_
  rcases Bool.eq_false_or_eq_true (decide (((k:Int)) < (8:Int))) with hb1 | hb1
  ·
    have hp1 : ((k:Int)) < (8:Int) := of_decide_eq_true hb1
    refine JL_gval 6 16 true _ _ rfl rfl hb1 (Ev_move rfl) rfl ?_
    refine JL_gval 6 16 true _ _ rfl rfl hb1 (Ev_move rfl) rfl ?_
    refine JL_gval 6 16 true _ (I64 (8*(k:Int))) rfl rfl hb1 (Ev_bini rfl rfl fun _ => bin_mul_i _ _ (8*(k:Int)) (by omega) (by omega)) rfl ?_
    refine JL_gval 6 16 true _ (U64 (nv >>> UInt64.ofNat (8*k))) rfl rfl hb1 (Ev_bini rfl rfl fun _ => bin_shr_u64 nv _ _ (8*k) (by omega) (by omega)) rfl ?_
    refine JL_gval 6 16 true _ (.bool (decide ((nv >>> UInt64.ofNat (8*k)) ≠ (0:UInt64)))) rfl rfl hb1 (Ev_bini rfl rfl fun _ => bin_neq_u64 (nv >>> UInt64.ofNat (8*k)) (0:UInt64)) rfl ?_
    refine JL_gval 3 13 false _ _ rfl rfl rfl (Ev_pickT _ rfl hb1 rfl) rfl ?_
    refine JL_val _ (Ev_pickF _ rfl rfl rfl) rfl ?_
    refine JL_nil ?_
    refine JQ_then ?_
    refine JC_condF _ rfl (decide_eq_false (fun h => h (hx (by omega)))) ?_
    refine JC_skip ?_
    refine JQ_then ?_
    refine JC_seq ?_
    refine JC_seq ?_
    refine JC_region ?_
    refine JL_val _ (Ev_move rfl) rfl ?_
    refine JL_val (I64 ((k:Int) - 1)) (Ev_bini rfl rfl fun _ => bin_sub_i _ _ ((k:Int) - 1) (by omega) (by omega)) rfl ?_
    refine JL_val _ (Ev_assign rfl) rfl ?_
    refine JL_nil ?_
    refine JQ_then ?_
    refine JC_block ?_
    refine JC_loop (ι := Nat × List UInt8 × Nat × List Value × Nat) (fun ⟨q, oq, gq, spq, cpq⟩ => [(0, Ptr wb 0), (1, U64 nv), (6, .pointer none), (7, I64 ((k:Int) - (q:Int) - 1))]) (fun ⟨q, oq, gq, spq, cpq⟩ => [⟨wb, [ev, Slc gq 0 (n + q) cpq], 138, (0, 0)⟩, ⟨gq, cu8 oq ++ spq, 5, (0, 0)⟩]) (fun ⟨q, oq, gq, spq, cpq⟩ => q ≤ k ∧ oq = o ++ numK k nv q ∧ oq.length = (n + q) ∧ spq.length = cpq - ((n + q)) ∧ (n + q) ≤ cpq ∧ cpq ≤ maxLen) (fun ⟨q, oq, gq, spq, cpq⟩ => k - q) (0, o, gb, sp0, cap0) ⟨by omega, by rw [numK_zero, List.append_nil], by omega, by omega, by omega, hcm⟩ (Sub.cons rfl (Sub.cons rfl (Sub.cons rfl (Sub.cons (some_i64 (by omega)) (Sub.nil))))) rfl ?_
    rintro ⟨q, oq, gq, spq, cpq⟩ ⟨hx1, hx2, hoq, hx4, hx5, hx6⟩
    show JC _ _ _ [(0, Ptr wb 0), (1, U64 nv), (6, .pointer none), (7, I64 ((k:Int) - (q:Int) - 1))] [⟨wb, [ev, Slc gq 0 (n + q) cpq], 138, (0, 0)⟩, ⟨gq, cu8 oq ++ spq, 5, (0, 0)⟩]
    refine JC_seq ?_
    refine JC_seq ?_
    refine JC_region ?_
    refine JL_val _ (Ev_move rfl) rfl ?_
    refine JL_val (.bool (decide ((0:Int) ≤ ((k:Int) - (q:Int) - 1)))) (Ev_bini rfl rfl fun _ => bin_geq_i _ _) rfl ?_
    refine JL_nil ?_
    refine JQ_then ?_
    refine JC_cond (decide ((0:Int) ≤ ((k:Int) - (q:Int) - 1))) rfl (fun hb2 => ?_) (fun hb2 => ?_)
    ·
      have hp2 : (0:Int) ≤ ((k:Int) - (q:Int) - 1) := of_decide_eq_true hb2
      refine JC_skip ?_
      refine JQ_then ?_
      refine JC_seq ?_
      refine JC_block ?_
      refine JC_draw 51 4 [(0, Ptr wb 0), (1, Ptr wb 0), (2, Ptr wb 0), (3, Ptr wb 1), (4, Slc gq 0 (n + q) cpq), (5, U64 nv), (6, I64 ((k:Int) - (q:Int) - 1)), (7, I64 (8*(k:Int) - 8*(q:Int) - 8)), (8, U64 (nv >>> UInt64.ofNat (8*k - 8*q - 8))), (9, U8 ((nv >>> UInt64.ofNat (8*k - 8*q - 8)).toUInt8))] Tryd.mixed rfl (by decide +kernel) ?_
      refine DP_one ⟨[], [0, 1, 2, 3, 4, 5, 6, 7, 8, 9], [], [0, 1, 2, 3, 4, 5, 6, 7, 8, 9], [10]⟩ 10 _ rfl rfl (by decide +kernel) rfl ⟨⟨_, rfl, Qok_val rfl (Ev_move rfl)⟩, ⟨_, rfl, Qok_val rfl (Ev_move rfl)⟩, ⟨_, rfl, Qok_val rfl (Ev_nilCheck rfl)⟩, ⟨_, rfl, Qok_val rfl (Ev_fieldAddr 1 22 1 Tryd.underlying138 rfl Tryd.sizeOf22 rfl rfl)⟩, ⟨_, rfl, Qok_val rfl (Ev_load rfl (Ld_one Tryd.isAgg22 (MemAt.ent 0 rfl (Seg.tail (Seg.head)))))⟩, ⟨_, rfl, Qok_val rfl (Ev_move rfl)⟩, ⟨_, rfl, Qok_val rfl (Ev_move rfl)⟩, ⟨_, rfl, Qok_val rfl (Ev_bini rfl rfl fun _ => bin_mul_i _ _ (8*(k:Int) - 8*(q:Int) - 8) (by omega) (by omega))⟩, ⟨_, rfl, Qok_val rfl (Ev_bini rfl rfl fun _ => bin_shr_u64 nv _ _ (8*k - 8*q - 8) (by omega) (by omega))⟩, ⟨_, rfl, Qok_val rfl (Ev_conv _ _ rfl fun _ => conv_u64_u8 (by rw [Tryd.underlying58]; rfl) Tryd.underlying5 _)⟩, trivial⟩ rfl (Cok_step rfl (Step_buildSlice 5 1 _ [(0, U8 ((nv >>> UInt64.ofNat (8*k - 8*q - 8)).toUInt8))] (cu8 ([(nv >>> UInt64.ofNat (8*k - 8*q - 8)).toUInt8])) Tryd.underlying22 Tryd.sizeOf5 Tryd.zeroValue5 rfl rfl rfl (by kernel_rfl))) ?_
      rintro v1 L1 ⟨nb1, hnb1, rfl, rfl⟩
      refine ⟨[], ?_⟩
      show DP _ _ _ _ _ _ _ _ [⟨wb, [ev, Slc gq 0 (n + q) cpq], 138, (0, 0)⟩, ⟨gq, cu8 oq ++ spq, 5, (0, 0)⟩, ⟨nb1, cu8 ([(nv >>> UInt64.ofNat (8*k - 8*q - 8)).toUInt8]), 5, (0, 0)⟩]
      refine DP_one ⟨[10], [0, 1, 2, 3, 4, 5, 6, 7, 8, 9], [5, 6, 7, 8, 9], [0, 1, 2, 3, 4], [11]⟩ 11 _ rfl rfl (by decide +kernel) rfl ⟨⟨_, rfl, Qok_val rfl (Ev_move rfl)⟩, ⟨_, rfl, Qok_val rfl (Ev_move rfl)⟩, ⟨_, rfl, Qok_val rfl (Ev_nilCheck rfl)⟩, ⟨_, rfl, Qok_val rfl (Ev_fieldAddr 1 22 1 Tryd.underlying138 rfl Tryd.sizeOf22 rfl rfl)⟩, ⟨_, rfl, Qok_val rfl (Ev_load rfl (Ld_one Tryd.isAgg22 (MemAt.ent 0 rfl (Seg.tail (Seg.head)))))⟩, trivial⟩ rfl (Cok_step rfl (Step_appM8 22 5 [false, true, false] (Slc gq 0 (n + q) cpq) (n + q) oq ([(nv >>> UInt64.ofNat (8*k - 8*q - 8)).toUInt8]) (some ⟨nb1, 0, none⟩) 1 1 (n + q + 1) Tryd.underlying22 Tryd.info5 rfl (.inr ⟨gq, spq, cpq, rfl, rfl, (by first | exact hoq | simp [hoq]), hx4, (by omega), (by omega)⟩) rfl (by simp) (SrcAt.mem (MemAt.ent 2 rfl (Seg.whole _))) (by omega) (by unfold maxLen; omega) (by omega))) ?_
      rintro v1 L1 ⟨nb2, sp1, cp1, hg1, rfl, rfl, ha1, ha2, ha3, ha4⟩
      refine ⟨[(12, Ptr wb 0), (13, Ptr wb 1)], ?_⟩
      show DP _ _ _ _ _ _ _ _ [⟨wb, [ev, Slc gq 0 (n + q) cpq], 138, (0, 0)⟩, ⟨nb1, cu8 ([(nv >>> UInt64.ofNat (8*k - 8*q - 8)).toUInt8]), 5, (0, 0)⟩, ⟨nb2, cu8 (oq ++ ([(nv >>> UInt64.ofNat (8*k - 8*q - 8)).toUInt8])) ++ sp1, 5, (0, 0)⟩]
      refine DP_one ⟨[10, 11], [0, 1, 2, 3, 4, 5, 6, 7, 8, 9, 12, 13], [1, 2, 3, 4, 5, 6, 7, 8, 9], [0, 12, 13], [14]⟩ 14 _ rfl rfl (by decide +kernel) rfl ⟨⟨_, rfl, Qok_val rfl (Ev_move rfl)⟩, ⟨_, rfl, Qok_val rfl (Ev_nilCheck rfl)⟩, ⟨_, rfl, Qok_val rfl (Ev_fieldAddr 1 22 1 Tryd.underlying138 rfl Tryd.sizeOf22 rfl rfl)⟩, trivial⟩ rfl (Cok_step rfl (Step_store 0 wb 1 1 ([ev, Slc gq 0 (n + q) cpq]) 138 (Slc nb2 0 (n + q + 1) cp1) ([Slc nb2 0 (n + q + 1) cp1]) ([ev, Slc nb2 0 (n + q + 1) cp1]) rfl rfl rfl rfl Tryd.sizeOf22 rfl (by simp [Value.oneCell']) (Nat.le_of_ble_eq_true rfl) (rfl))) ?_
      rintro v1 L1 ⟨rfl, rfl⟩
      refine ⟨[], ?_⟩
      show DP _ _ _ _ _ _ _ _ [⟨wb, [ev, Slc nb2 0 (n + q + 1) cp1], 138, (0, 0)⟩, ⟨nb1, cu8 ([(nv >>> UInt64.ofNat (8*k - 8*q - 8)).toUInt8]), 5, (0, 0)⟩, ⟨nb2, cu8 (oq ++ ([(nv >>> UInt64.ofNat (8*k - 8*q - 8)).toUInt8])) ++ sp1, 5, (0, 0)⟩]
      refine DP_end ⟨[10, 11, 14], [0, 1, 2, 3, 4, 5, 6, 7, 8, 9, 12, 13], [0, 1, 2, 3, 4, 5, 6, 7, 8, 9, 12, 13], [], []⟩ rfl rfl (by decide +kernel) rfl trivial ?_
      refine K_sub (F' := [(36, Ptr wb 0), (37, Ptr wb 0), (38, Ptr wb 0), (39, Ptr wb 1), (40, Slc gq 0 (n + q) cpq), (41, U64 nv), (42, I64 ((k:Int) - (q:Int) - 1)), (43, I64 (8*(k:Int) - 8*(q:Int) - 8)), (44, U64 (nv >>> UInt64.ofNat (8*k - 8*q - 8))), (45, U8 ((nv >>> UInt64.ofNat (8*k - 8*q - 8)).toUInt8)), (46, Slc nb1 0 1 1), (47, Slc nb2 0 (n + q + 1) cp1), (48, Ptr wb 0), (49, Ptr wb 1), (0, Ptr wb 0), (1, U64 nv), (6, .pointer none), (7, I64 ((k:Int) - (q:Int) - 1)), (32, I64 ((k:Int) - (q:Int) - 1)), (33, .bool (decide ((0:Int) ≤ ((k:Int) - (q:Int) - 1))))]) (Sub.cons (by kernel_rfl) (Sub.cons (by kernel_rfl) (Sub.cons (by kernel_rfl) (Sub.cons (by kernel_rfl) (Sub.cons (by kernel_rfl) (Sub.cons (by kernel_rfl) (Sub.cons (by kernel_rfl) (Sub.cons (by kernel_rfl) (Sub.cons (by kernel_rfl) (Sub.cons (by kernel_rfl) (Sub.cons (by kernel_rfl) (Sub.cons (by kernel_rfl) (Sub.cons (by kernel_rfl) (Sub.cons (by kernel_rfl) (Sub.cons (by kernel_rfl) (Sub.cons (by kernel_rfl) (Sub.cons (by kernel_rfl) (Sub.cons (by kernel_rfl) (Sub.cons (by kernel_rfl) (Sub.cons (by kernel_rfl) (Sub.nil))))))))))))))))))))) ?_
      show JQ _ _ _ [(36, Ptr wb 0), (37, Ptr wb 0), (38, Ptr wb 0), (39, Ptr wb 1), (40, Slc gq 0 (n + q) cpq), (41, U64 nv), (42, I64 ((k:Int) - (q:Int) - 1)), (43, I64 (8*(k:Int) - 8*(q:Int) - 8)), (44, U64 (nv >>> UInt64.ofNat (8*k - 8*q - 8))), (45, U8 ((nv >>> UInt64.ofNat (8*k - 8*q - 8)).toUInt8)), (46, Slc nb1 0 1 1), (47, Slc nb2 0 (n + q + 1) cp1), (48, Ptr wb 0), (49, Ptr wb 1), (0, Ptr wb 0), (1, U64 nv), (6, .pointer none), (7, I64 ((k:Int) - (q:Int) - 1)), (32, I64 ((k:Int) - (q:Int) - 1)), (33, .bool (decide ((0:Int) ≤ ((k:Int) - (q:Int) - 1))))] _
      refine JQ_in_normal ?_
      refine JQ_then ?_
      refine JC_region ?_
      refine JL_val _ (Ev_move rfl) rfl ?_
      refine JL_val (I64 ((k:Int) - (q:Int) - 2)) (Ev_bini rfl rfl fun _ => bin_sub_i _ _ ((k:Int) - (q:Int) - 2) (by omega) (by omega)) rfl ?_
      refine JL_val _ (Ev_assign rfl) rfl ?_
      refine JL_nil ?_
      refine JQ_thenK ?_
      refine K_mask [true, false, true] ?_
      show K _ _ [⟨wb, [ev, Slc nb2 0 (n + q + 1) cp1], 138, (0, 0)⟩, ⟨nb2, cu8 (oq ++ ([(nv >>> UInt64.ofNat (8*k - 8*q - 8)).toUInt8])) ++ sp1, 5, (0, 0)⟩] _
      refine K_next (q + 1, oq ++ ([(nv >>> UInt64.ofNat (8*k - 8*q - 8)).toUInt8]), nb2, sp1, cp1) ⟨by omega, by rw [numK_succ, ← List.append_assoc, ← hx2], (ha1).trans (by first | rfl | simp +arith), (ha2).trans (by first | rfl | simp +arith), by omega, ha4⟩ (by first | (simp; omega) | simp) (Sub.cons rfl (Sub.cons rfl (Sub.cons rfl (Sub.cons (some_i64 (by omega)) (Sub.nil))))) rfl
    ·
      have hp2 : ¬ ((0:Int) ≤ ((k:Int) - (q:Int) - 1)) := of_decide_eq_false hb2
      refine JC_exit ?_
      refine JQ_then_exit ?_
      refine JQ_then_exit ?_
      refine JQ_in_same ?_
      refine JQ_then ?_
      refine JC_seq ?_
      refine JC_region ?_
      refine JL_val _ (Ev_move rfl) rfl ?_
      refine JL_val _ (Ev_assign rfl) rfl ?_
      refine JL_nil ?_
      refine JQ_then ?_
      refine JC_ret ?_
      refine JQ_ret (Ptr wb 0) (res1 Tryd.results97 (RV_tmp rfl)) fun w1 hw1 => ?_
      have e1 : q = k := by omega
      rw [hx2, e1] at hw1
      obtain rfl : tot = n + k := by omega
      exact ⟨_, _, rfl, ⟨rfl, gq, spq, cpq, rfl, by omega, by omega, hx6⟩, hw1⟩
  ·
    have hp1 : ¬ (((k:Int)) < (8:Int)) := of_decide_eq_false hb1
    refine JL_gskip 6 16 true _ rfl rfl hb1 rfl ?_
    refine JL_gskip 6 16 true _ rfl rfl hb1 rfl ?_
    refine JL_gskip 6 16 true _ rfl rfl hb1 rfl ?_
    refine JL_gskip 6 16 true _ rfl rfl hb1 rfl ?_
    refine JL_gskip 6 16 true _ rfl rfl hb1 rfl ?_
    refine JL_gval 3 13 false _ _ rfl rfl rfl (Ev_pickF _ rfl hb1 rfl) rfl ?_
    refine JL_val _ (Ev_pickF _ rfl rfl rfl) rfl ?_
    refine JL_nil ?_
    refine JQ_then ?_
    refine JC_condF _ rfl rfl ?_
    refine JC_skip ?_
    refine JQ_then ?_
    refine JC_seq ?_
    refine JC_seq ?_
    refine JC_region ?_
    refine JL_val _ (Ev_move rfl) rfl ?_
    refine JL_val (I64 ((k:Int) - 1)) (Ev_bini rfl rfl fun _ => bin_sub_i _ _ ((k:Int) - 1) (by omega) (by omega)) rfl ?_
    refine JL_val _ (Ev_assign rfl) rfl ?_
    refine JL_nil ?_
    refine JQ_then ?_
    refine JC_block ?_
    refine JC_loop (ι := Nat × List UInt8 × Nat × List Value × Nat) (fun ⟨q, oq, gq, spq, cpq⟩ => [(0, Ptr wb 0), (1, U64 nv), (6, .pointer none), (7, I64 ((k:Int) - (q:Int) - 1))]) (fun ⟨q, oq, gq, spq, cpq⟩ => [⟨wb, [ev, Slc gq 0 (n + q) cpq], 138, (0, 0)⟩, ⟨gq, cu8 oq ++ spq, 5, (0, 0)⟩]) (fun ⟨q, oq, gq, spq, cpq⟩ => q ≤ k ∧ oq = o ++ numK k nv q ∧ oq.length = (n + q) ∧ spq.length = cpq - ((n + q)) ∧ (n + q) ≤ cpq ∧ cpq ≤ maxLen) (fun ⟨q, oq, gq, spq, cpq⟩ => k - q) (0, o, gb, sp0, cap0) ⟨by omega, by rw [numK_zero, List.append_nil], by omega, by omega, by omega, hcm⟩ (Sub.cons rfl (Sub.cons rfl (Sub.cons rfl (Sub.cons (some_i64 (by omega)) (Sub.nil))))) rfl ?_
    rintro ⟨q, oq, gq, spq, cpq⟩ ⟨hx1, hx2, hoq, hx4, hx5, hx6⟩
    show JC _ _ _ [(0, Ptr wb 0), (1, U64 nv), (6, .pointer none), (7, I64 ((k:Int) - (q:Int) - 1))] [⟨wb, [ev, Slc gq 0 (n + q) cpq], 138, (0, 0)⟩, ⟨gq, cu8 oq ++ spq, 5, (0, 0)⟩]
    refine JC_seq ?_
    refine JC_seq ?_
    refine JC_region ?_
    refine JL_val _ (Ev_move rfl) rfl ?_
    refine JL_val (.bool (decide ((0:Int) ≤ ((k:Int) - (q:Int) - 1)))) (Ev_bini rfl rfl fun _ => bin_geq_i _ _) rfl ?_
    refine JL_nil ?_
    refine JQ_then ?_
    refine JC_cond (decide ((0:Int) ≤ ((k:Int) - (q:Int) - 1))) rfl (fun hb3 => ?_) (fun hb3 => ?_)
    ·
      have hp3 : (0:Int) ≤ ((k:Int) - (q:Int) - 1) := of_decide_eq_true hb3
      refine JC_skip ?_
      refine JQ_then ?_
      refine JC_seq ?_
      refine JC_block ?_
      refine JC_draw 51 4 [(0, Ptr wb 0), (1, Ptr wb 0), (2, Ptr wb 0), (3, Ptr wb 1), (4, Slc gq 0 (n + q) cpq), (5, U64 nv), (6, I64 ((k:Int) - (q:Int) - 1)), (7, I64 (8*(k:Int) - 8*(q:Int) - 8)), (8, U64 (nv >>> UInt64.ofNat (8*k - 8*q - 8))), (9, U8 ((nv >>> UInt64.ofNat (8*k - 8*q - 8)).toUInt8))] Tryd.mixed rfl (by decide +kernel) ?_
      refine DP_one ⟨[], [0, 1, 2, 3, 4, 5, 6, 7, 8, 9], [], [0, 1, 2, 3, 4, 5, 6, 7, 8, 9], [10]⟩ 10 _ rfl rfl (by decide +kernel) rfl ⟨⟨_, rfl, Qok_val rfl (Ev_move rfl)⟩, ⟨_, rfl, Qok_val rfl (Ev_move rfl)⟩, ⟨_, rfl, Qok_val rfl (Ev_nilCheck rfl)⟩, ⟨_, rfl, Qok_val rfl (Ev_fieldAddr 1 22 1 Tryd.underlying138 rfl Tryd.sizeOf22 rfl rfl)⟩, ⟨_, rfl, Qok_val rfl (Ev_load rfl (Ld_one Tryd.isAgg22 (MemAt.ent 0 rfl (Seg.tail (Seg.head)))))⟩, ⟨_, rfl, Qok_val rfl (Ev_move rfl)⟩, ⟨_, rfl, Qok_val rfl (Ev_move rfl)⟩, ⟨_, rfl, Qok_val rfl (Ev_bini rfl rfl fun _ => bin_mul_i _ _ (8*(k:Int) - 8*(q:Int) - 8) (by omega) (by omega))⟩, ⟨_, rfl, Qok_val rfl (Ev_bini rfl rfl fun _ => bin_shr_u64 nv _ _ (8*k - 8*q - 8) (by omega) (by omega))⟩, ⟨_, rfl, Qok_val rfl (Ev_conv _ _ rfl fun _ => conv_u64_u8 (by rw [Tryd.underlying58]; rfl) Tryd.underlying5 _)⟩, trivial⟩ rfl (Cok_step rfl (Step_buildSlice 5 1 _ [(0, U8 ((nv >>> UInt64.ofNat (8*k - 8*q - 8)).toUInt8))] (cu8 ([(nv >>> UInt64.ofNat (8*k - 8*q - 8)).toUInt8])) Tryd.underlying22 Tryd.sizeOf5 Tryd.zeroValue5 rfl rfl rfl (by kernel_rfl))) ?_
      rintro v1 L1 ⟨nb3, hnb3, rfl, rfl⟩
      refine ⟨[], ?_⟩
      show DP _ _ _ _ _ _ _ _ [⟨wb, [ev, Slc gq 0 (n + q) cpq], 138, (0, 0)⟩, ⟨gq, cu8 oq ++ spq, 5, (0, 0)⟩, ⟨nb3, cu8 ([(nv >>> UInt64.ofNat (8*k - 8*q - 8)).toUInt8]), 5, (0, 0)⟩]
      refine DP_one ⟨[10], [0, 1, 2, 3, 4, 5, 6, 7, 8, 9], [5, 6, 7, 8, 9], [0, 1, 2, 3, 4], [11]⟩ 11 _ rfl rfl (by decide +kernel) rfl ⟨⟨_, rfl, Qok_val rfl (Ev_move rfl)⟩, ⟨_, rfl, Qok_val rfl (Ev_move rfl)⟩, ⟨_, rfl, Qok_val rfl (Ev_nilCheck rfl)⟩, ⟨_, rfl, Qok_val rfl (Ev_fieldAddr 1 22 1 Tryd.underlying138 rfl Tryd.sizeOf22 rfl rfl)⟩, ⟨_, rfl, Qok_val rfl (Ev_load rfl (Ld_one Tryd.isAgg22 (MemAt.ent 0 rfl (Seg.tail (Seg.head)))))⟩, trivial⟩ rfl (Cok_step rfl (Step_appM8 22 5 [false, true, false] (Slc gq 0 (n + q) cpq) (n + q) oq ([(nv >>> UInt64.ofNat (8*k - 8*q - 8)).toUInt8]) (some ⟨nb3, 0, none⟩) 1 1 (n + q + 1) Tryd.underlying22 Tryd.info5 rfl (.inr ⟨gq, spq, cpq, rfl, rfl, (by first | exact hoq | simp [hoq]), hx4, (by omega), (by omega)⟩) rfl (by simp) (SrcAt.mem (MemAt.ent 2 rfl (Seg.whole _))) (by omega) (by unfold maxLen; omega) (by omega))) ?_
      rintro v1 L1 ⟨nb4, sp2, cp2, hg2, rfl, rfl, ha5, ha6, ha7, ha8⟩
      refine ⟨[(12, Ptr wb 0), (13, Ptr wb 1)], ?_⟩
      show DP _ _ _ _ _ _ _ _ [⟨wb, [ev, Slc gq 0 (n + q) cpq], 138, (0, 0)⟩, ⟨nb3, cu8 ([(nv >>> UInt64.ofNat (8*k - 8*q - 8)).toUInt8]), 5, (0, 0)⟩, ⟨nb4, cu8 (oq ++ ([(nv >>> UInt64.ofNat (8*k - 8*q - 8)).toUInt8])) ++ sp2, 5, (0, 0)⟩]
      refine DP_one ⟨[10, 11], [0, 1, 2, 3, 4, 5, 6, 7, 8, 9, 12, 13], [1, 2, 3, 4, 5, 6, 7, 8, 9], [0, 12, 13], [14]⟩ 14 _ rfl rfl (by decide +kernel) rfl ⟨⟨_, rfl, Qok_val rfl (Ev_move rfl)⟩, ⟨_, rfl, Qok_val rfl (Ev_nilCheck rfl)⟩, ⟨_, rfl, Qok_val rfl (Ev_fieldAddr 1 22 1 Tryd.underlying138 rfl Tryd.sizeOf22 rfl rfl)⟩, trivial⟩ rfl (Cok_step rfl (Step_store 0 wb 1 1 ([ev, Slc gq 0 (n + q) cpq]) 138 (Slc nb4 0 (n + q + 1) cp2) ([Slc nb4 0 (n + q + 1) cp2]) ([ev, Slc nb4 0 (n + q + 1) cp2]) rfl rfl rfl rfl Tryd.sizeOf22 rfl (by simp [Value.oneCell']) (Nat.le_of_ble_eq_true rfl) (rfl))) ?_
      rintro v1 L1 ⟨rfl, rfl⟩
      refine ⟨[], ?_⟩
      show DP _ _ _ _ _ _ _ _ [⟨wb, [ev, Slc nb4 0 (n + q + 1) cp2], 138, (0, 0)⟩, ⟨nb3, cu8 ([(nv >>> UInt64.ofNat (8*k - 8*q - 8)).toUInt8]), 5, (0, 0)⟩, ⟨nb4, cu8 (oq ++ ([(nv >>> UInt64.ofNat (8*k - 8*q - 8)).toUInt8])) ++ sp2, 5, (0, 0)⟩]
      refine DP_end ⟨[10, 11, 14], [0, 1, 2, 3, 4, 5, 6, 7, 8, 9, 12, 13], [0, 1, 2, 3, 4, 5, 6, 7, 8, 9, 12, 13], [], []⟩ rfl rfl (by decide +kernel) rfl trivial ?_
      refine K_sub (F' := [(36, Ptr wb 0), (37, Ptr wb 0), (38, Ptr wb 0), (39, Ptr wb 1), (40, Slc gq 0 (n + q) cpq), (41, U64 nv), (42, I64 ((k:Int) - (q:Int) - 1)), (43, I64 (8*(k:Int) - 8*(q:Int) - 8)), (44, U64 (nv >>> UInt64.ofNat (8*k - 8*q - 8))), (45, U8 ((nv >>> UInt64.ofNat (8*k - 8*q - 8)).toUInt8)), (46, Slc nb3 0 1 1), (47, Slc nb4 0 (n + q + 1) cp2), (48, Ptr wb 0), (49, Ptr wb 1), (0, Ptr wb 0), (1, U64 nv), (6, .pointer none), (7, I64 ((k:Int) - (q:Int) - 1)), (32, I64 ((k:Int) - (q:Int) - 1)), (33, .bool (decide ((0:Int) ≤ ((k:Int) - (q:Int) - 1))))]) (Sub.cons (by kernel_rfl) (Sub.cons (by kernel_rfl) (Sub.cons (by kernel_rfl) (Sub.cons (by kernel_rfl) (Sub.cons (by kernel_rfl) (Sub.cons (by kernel_rfl) (Sub.cons (by kernel_rfl) (Sub.cons (by kernel_rfl) (Sub.cons (by kernel_rfl) (Sub.cons (by kernel_rfl) (Sub.cons (by kernel_rfl) (Sub.cons (by kernel_rfl) (Sub.cons (by kernel_rfl) (Sub.cons (by kernel_rfl) (Sub.cons (by kernel_rfl) (Sub.cons (by kernel_rfl) (Sub.cons (by kernel_rfl) (Sub.cons (by kernel_rfl) (Sub.cons (by kernel_rfl) (Sub.cons (by kernel_rfl) (Sub.nil))))))))))))))))))))) ?_
      show JQ _ _ _ [(36, Ptr wb 0), (37, Ptr wb 0), (38, Ptr wb 0), (39, Ptr wb 1), (40, Slc gq 0 (n + q) cpq), (41, U64 nv), (42, I64 ((k:Int) - (q:Int) - 1)), (43, I64 (8*(k:Int) - 8*(q:Int) - 8)), (44, U64 (nv >>> UInt64.ofNat (8*k - 8*q - 8))), (45, U8 ((nv >>> UInt64.ofNat (8*k - 8*q - 8)).toUInt8)), (46, Slc nb3 0 1 1), (47, Slc nb4 0 (n + q + 1) cp2), (48, Ptr wb 0), (49, Ptr wb 1), (0, Ptr wb 0), (1, U64 nv), (6, .pointer none), (7, I64 ((k:Int) - (q:Int) - 1)), (32, I64 ((k:Int) - (q:Int) - 1)), (33, .bool (decide ((0:Int) ≤ ((k:Int) - (q:Int) - 1))))] _
      refine JQ_in_normal ?_
      refine JQ_then ?_
      refine JC_region ?_
      refine JL_val _ (Ev_move rfl) rfl ?_
      refine JL_val (I64 ((k:Int) - (q:Int) - 2)) (Ev_bini rfl rfl fun _ => bin_sub_i _ _ ((k:Int) - (q:Int) - 2) (by omega) (by omega)) rfl ?_
      refine JL_val _ (Ev_assign rfl) rfl ?_
      refine JL_nil ?_
      refine JQ_thenK ?_
      refine K_mask [true, false, true] ?_
      show K _ _ [⟨wb, [ev, Slc nb4 0 (n + q + 1) cp2], 138, (0, 0)⟩, ⟨nb4, cu8 (oq ++ ([(nv >>> UInt64.ofNat (8*k - 8*q - 8)).toUInt8])) ++ sp2, 5, (0, 0)⟩] _
      refine K_next (q + 1, oq ++ ([(nv >>> UInt64.ofNat (8*k - 8*q - 8)).toUInt8]), nb4, sp2, cp2) ⟨by omega, by rw [numK_succ, ← List.append_assoc, ← hx2], (ha5).trans (by first | rfl | simp +arith), (ha6).trans (by first | rfl | simp +arith), by omega, ha8⟩ (by first | (simp; omega) | simp) (Sub.cons rfl (Sub.cons rfl (Sub.cons rfl (Sub.cons (some_i64 (by omega)) (Sub.nil))))) rfl
    ·
      have hp3 : ¬ ((0:Int) ≤ ((k:Int) - (q:Int) - 1)) := of_decide_eq_false hb3
      refine JC_exit ?_
      refine JQ_then_exit ?_
      refine JQ_then_exit ?_
      refine JQ_in_same ?_
      refine JQ_then ?_
      refine JC_seq ?_
      refine JC_region ?_
      refine JL_val _ (Ev_move rfl) rfl ?_
      refine JL_val _ (Ev_assign rfl) rfl ?_
      refine JL_nil ?_
      refine JQ_then ?_
      refine JC_ret ?_
      refine JQ_ret (Ptr wb 0) (res1 Tryd.results97 (RV_tmp rfl)) fun w1 hw1 => ?_
      have e1 : q = k := by omega
      rw [hx2, e1] at hw1
      obtain rfl : tot = n + k := by omega
      exact ⟨_, _, rfl, ⟨rfl, gq, spq, cpq, rfl, by omega, by omega, hx6⟩, hw1⟩

theorem numB1_c (wb e : Nat) (sv : Value) (nv : UInt64) (s : Int) (w : World) (h0 : w.heap[wb]? = some (.cells [errV 43 e, sv].toArray 138 (0, 0))) (hs : ¬ Szd s) : Calls Tryd.prog 97 #[Ptr wb 0, U64 nv, I64 (s)] w (Post w [wb] (fun v L => v = Ptr wb 0 ∧ L = [⟨wb, [errV 43 (erN e 1), sv], 138, (0, 0)⟩])) := by
  refine enter w [wb] 51 [⟨wb, [errV 43 e, sv], 138, (0, 0)⟩] [Ptr wb 0, U64 nv, I64 (s)] Tryd.func97 rfl rfl (by simp) (Hp.start (by simpa using h0) (by simp) (by simp)) ?_
  show JC _ _ _ [(0, Ptr wb 0), (1, U64 nv), (2, I64 (s))] _
  refine JC_seq ?_
  refine JC_region ?_
  refine JL_val _ (Ev_assign rfl) rfl ?_
  refine JL_nil ?_
  refine JQ_then ?_
  refine JC_seq ?_
  refine JC_seq ?_
  refine JC_region ?_
  refine JL_val _ (Ev_move rfl) rfl ?_
  refine JL_val (.bool false) (Ev_bin _ _ _ rfl rfl (fun _ => eqGuard_ptr ..) fun _ => eql_ptr_nil Tryd.underlying134) rfl ?_
  refine JL_nil ?_
  refine JQ_then ?_
  refine JC_condF _ rfl rfl ?_
  refine JC_skip ?_
  refine JQ_then ?_
  refine JC_seq ?_
  refine JC_seq ?_
  refine JC_region ?_
  refine JL_val _ (Ev_move rfl) rfl ?_
  refine JL_step (Step_callP 121 [I64 (s)] (.bool false) (Cl_func [I64 (s)] Tryd.call121 rfl) (fun w1 _ => sizedF_c (s) w1 hs)) rfl ?_
  rintro v1 L1 ⟨rfl, rfl⟩
  show JL _ _ _ _ ((11, .bool false) :: _) [⟨wb, [errV 43 e, sv], 138, (0, 0)⟩]
  refine JL_val (.bool (!false)) (Ev_not rfl) rfl ?_
  refine JL_val _ (Ev_move rfl) rfl ?_
  refine JL_gskip 3 13 false _ rfl rfl rfl rfl ?_
  refine JL_gskip 3 13 false _ rfl rfl rfl rfl ?_
  refine JL_gskip 3 13 false _ rfl rfl rfl rfl ?_
  refine JL_gskipU 6 16 true rfl rfl rfl ?_
  refine JL_gskipU 6 16 true rfl rfl rfl ?_
  refine JL_gskipU 6 16 true rfl rfl rfl ?_
  refine JL_gskipU 6 16 true rfl rfl rfl ?_
  refine JL_gskipU 6 16 true rfl rfl rfl ?_
  refine JL_gskip 3 13 false _ rfl rfl rfl rfl ?_
  refine JL_val _ (Ev_pickT _ rfl rfl rfl) rfl ?_
  refine JL_nil ?_
  refine JQ_then ?_
  refine JC_condT _ rfl rfl ?_
  refine JC_seq ?_
  refine JC_region ?_
  refine JL_val _ (Ev_move rfl) rfl ?_
  refine JL_val _ (Ev_nilCheck rfl) rfl ?_
  refine JL_val (Ptr wb 0) (Ev_fieldAddr 0 136 1 Tryd.underlying138 rfl Tryd.sizeOf136 rfl rfl) rfl ?_
  refine JL_val (.iface 43 (I64 (1:Int))) (Ev_iface Tryd.underlying43 rfl rfl) rfl ?_
  refine JL_step (Step_callW 122 [Ptr wb 0, .iface 43 (I64 (1:Int))] 0 ⟨wb, [errV 43 e, sv], 138, (0, 0)⟩ _ (fun v e' l' => v = .tuple #[] ∧ e' = ⟨wb, [errV 43 (erN e 1), sv], 138, (0, 0)⟩ ∧ l' = []) (Cl_func [Ptr wb 0, .iface 43 (I64 (1:Int))] Tryd.call122 rfl) rfl (by rintro v l ⟨rfl, rfl⟩; exact ⟨_, _, rfl, rfl, rfl, rfl, rfl⟩) (fun w1 hw1 => failWi_c wb e 1 sv w1 (by decide) (hw1.ent _ (List.mem_of_getElem? (i := 0) rfl)))) rfl ?_
  rintro v1 L1 ⟨_, _, ⟨rfl, rfl, rfl⟩, rfl⟩
  show JL _ _ _ _ ((28, .tuple #[]) :: _) [⟨wb, [errV 43 (erN e 1), sv], 138, (0, 0)⟩]
  refine JL_nil ?_
  refine JQ_then ?_
  refine JC_seq ?_
  refine JC_region ?_
  refine JL_val _ (Ev_move rfl) rfl ?_
  refine JL_val _ (Ev_assign rfl) rfl ?_
  refine JL_nil ?_
  refine JQ_then ?_
  refine JC_ret ?_
  refine JQ_then_ret ?_
  refine JQ_ret (Ptr wb 0) (res1 Tryd.results97 (RV_tmp rfl)) fun w1 hw1 => ?_
  exact ⟨_, _, rfl, ⟨rfl, rfl⟩, hw1⟩

theorem numB2_c (wb e : Nat) (sv : Value) (nv : UInt64) (k : Nat) (w : World) (h0 : w.heap[wb]? = some (.cells [errV 43 e, sv].toArray 138 (0, 0))) (hs : Szd (k:Int)) (hk8 : k < 8) (hx : nv >>> UInt64.ofNat (8*k) ≠ 0) : Calls Tryd.prog 97 #[Ptr wb 0, U64 nv, I64 ((k:Int))] w (Post w [wb] (fun v L => v = Ptr wb 0 ∧ L = [⟨wb, [errV 43 (erN e 1), sv], 138, (0, 0)⟩])) := by
  have hmx : maxLen = 9223372036854775807 := rfl
  have hs4 : k = 1 ∨ k = 2 ∨ k = 4 ∨ k = 8 := by have := hs; unfold Szd at this; omega
  refine enter w [wb] 51 [⟨wb, [errV 43 e, sv], 138, (0, 0)⟩] [Ptr wb 0, U64 nv, I64 ((k:Int))] Tryd.func97 rfl rfl (by simp) (Hp.start (by simpa using h0) (by simp) (by simp)) ?_
  show JC _ _ _ [(0, Ptr wb 0), (1, U64 nv), (2, I64 ((k:Int)))] _
  refine JC_seq ?_
  refine JC_region ?_
  refine JL_val _ (Ev_assign rfl) rfl ?_
  refine JL_nil ?_
  refine JQ_then ?_
  refine JC_seq ?_
  refine JC_seq ?_
  refine JC_region ?_
  refine JL_val _ (Ev_move rfl) rfl ?_
  refine JL_val (.bool false) (Ev_bin _ _ _ rfl rfl (fun _ => eqGuard_ptr ..) fun _ => eql_ptr_nil Tryd.underlying134) rfl ?_
  refine JL_nil ?_
  refine JQ_then ?_
  refine JC_condF _ rfl rfl ?_
  refine JC_skip ?_
  refine JQ_then ?_
  refine JC_seq ?_
  refine JC_seq ?_
  refine JC_region ?_
  refine JL_val _ (Ev_move rfl) rfl ?_
  refine JL_step (Step_callP 121 [I64 ((k:Int))] (.bool true) (Cl_func [I64 ((k:Int))] Tryd.call121 rfl) (fun w1 _ => sizedT_c ((k:Int)) w1 hs)) rfl ?_
  rintro v1 L1 ⟨rfl, rfl⟩
  show JL _ _ _ _ ((11, .bool true) :: _) [⟨wb, [errV 43 e, sv], 138, (0, 0)⟩]
  refine JL_val (.bool (!true)) (Ev_not rfl) rfl ?_
  refine JL_val _ (Ev_move rfl) rfl ?_
  refine JL_gval 3 13 false _ _ rfl rfl rfl (Ev_move rfl) rfl ?_
  refine JL_gval 3 13 false _ (.bool (decide (((k:Int)) < (8:Int)))) rfl rfl rfl (Ev_bini rfl rfl fun _ => bin_lss_i _ _) rfl ?_
  refine JL_gval 3 13 false _ _ rfl rfl rfl (Ev_move rfl) rfl ?_
  refine JL_gval 6 16 true _ _ rfl rfl (decide_eq_true (by omega)) (Ev_move rfl) rfl ?_
  refine JL_gval 6 16 true _ _ rfl rfl (decide_eq_true (by omega)) (Ev_move rfl) rfl ?_
  refine JL_gval 6 16 true _ (I64 (8*(k:Int))) rfl rfl (decide_eq_true (by omega)) (Ev_bini rfl rfl fun _ => bin_mul_i _ _ (8*(k:Int)) (by omega) (by omega)) rfl ?_
  refine JL_gval 6 16 true _ (U64 (nv >>> UInt64.ofNat (8*k))) rfl rfl (decide_eq_true (by omega)) (Ev_bini rfl rfl fun _ => bin_shr_u64 nv _ _ (8*k) (by omega) (by omega)) rfl ?_
  refine JL_gval 6 16 true _ (.bool (decide ((nv >>> UInt64.ofNat (8*k)) ≠ (0:UInt64)))) rfl rfl (decide_eq_true (by omega)) (Ev_bini rfl rfl fun _ => bin_neq_u64 (nv >>> UInt64.ofNat (8*k)) (0:UInt64)) rfl ?_
  refine JL_gval 3 13 false _ _ rfl rfl rfl (Ev_pickT _ rfl (decide_eq_true (by omega)) rfl) rfl ?_
  refine JL_val _ (Ev_pickF _ rfl rfl rfl) rfl ?_
  refine JL_nil ?_
  refine JQ_then ?_
  refine JC_condT _ rfl (decide_eq_true hx) ?_
  refine JC_seq ?_
  refine JC_region ?_
  refine JL_val _ (Ev_move rfl) rfl ?_
  refine JL_val _ (Ev_nilCheck rfl) rfl ?_
  refine JL_val (Ptr wb 0) (Ev_fieldAddr 0 136 1 Tryd.underlying138 rfl Tryd.sizeOf136 rfl rfl) rfl ?_
  refine JL_val (.iface 43 (I64 (1:Int))) (Ev_iface Tryd.underlying43 rfl rfl) rfl ?_
  refine JL_step (Step_callW 122 [Ptr wb 0, .iface 43 (I64 (1:Int))] 0 ⟨wb, [errV 43 e, sv], 138, (0, 0)⟩ _ (fun v e' l' => v = .tuple #[] ∧ e' = ⟨wb, [errV 43 (erN e 1), sv], 138, (0, 0)⟩ ∧ l' = []) (Cl_func [Ptr wb 0, .iface 43 (I64 (1:Int))] Tryd.call122 rfl) rfl (by rintro v l ⟨rfl, rfl⟩; exact ⟨_, _, rfl, rfl, rfl, rfl, rfl⟩) (fun w1 hw1 => failWi_c wb e 1 sv w1 (by decide) (hw1.ent _ (List.mem_of_getElem? (i := 0) rfl)))) rfl ?_
  rintro v1 L1 ⟨_, _, ⟨rfl, rfl, rfl⟩, rfl⟩
  show JL _ _ _ _ ((28, .tuple #[]) :: _) [⟨wb, [errV 43 (erN e 1), sv], 138, (0, 0)⟩]
  refine JL_nil ?_
  refine JQ_then ?_
  refine JC_seq ?_
  refine JC_region ?_
  refine JL_val _ (Ev_move rfl) rfl ?_
  refine JL_val _ (Ev_assign rfl) rfl ?_
  refine JL_nil ?_
  refine JQ_then ?_
  refine JC_ret ?_
  refine JQ_then_ret ?_
  refine JQ_ret (Ptr wb 0) (res1 Tryd.results97 (RV_tmp rfl)) fun w1 hw1 => ?_
  exact ⟨_, _, rfl, ⟨rfl, rfl⟩, hw1⟩

theorem numNil_c (nv : UInt64) (s : Int) (w : World) : Calls Tryd.prog 97 #[.pointer none, U64 nv, I64 (s)] w (Post w [] (fun v L => v = .pointer none ∧ L = [])) := by
  refine enter w [] 51 [] [.pointer none, U64 nv, I64 (s)] Tryd.func97 rfl rfl (by simp) (Hp.start (by simp) (by simp) (by simp)) ?_
  show JC _ _ _ [(0, .pointer none), (1, U64 nv), (2, I64 (s))] _
  refine JC_seq ?_
  refine JC_region ?_
  refine JL_val _ (Ev_assign rfl) rfl ?_
  refine JL_nil ?_
  refine JQ_then ?_
  refine JC_seq ?_
  refine JC_seq ?_
  refine JC_region ?_
  refine JL_val _ (Ev_move rfl) rfl ?_
  refine JL_val (.bool true) (Ev_bin _ _ _ rfl rfl (fun _ => eqGuard_ptr ..) fun _ => eql_ptr_nil_nil Tryd.underlying134) rfl ?_
  refine JL_nil ?_
  refine JQ_then ?_
  refine JC_condT _ rfl rfl ?_
  refine JC_seq ?_
  refine JC_region ?_
  refine JL_val _ (Ev_assign rfl) rfl ?_
  refine JL_nil ?_
  refine JQ_then ?_
  refine JC_ret ?_
  refine JQ_then_ret ?_
  refine JQ_ret (.pointer none) (res1 Tryd.results97 (RV_tmp rfl)) fun w1 hw1 => ?_
  exact ⟨_, [], rfl, ⟨rfl, rfl⟩, hw1.sub (by simp) (by simp)⟩

theorem rawE_c (wb : Nat) (ev : Value) (ax : Option Addr) (cx : Nat) (w : World) (h0 : w.heap[wb]? = some (.cells [ev, .slice none 0 0].toArray 138 (0, 0)))  : Calls Tryd.prog 106 #[Ptr wb 0, .slice ax 0 cx] w (Post w [wb] (fun v L => v = Ptr wb 0 ∧ L = [⟨wb, [ev, .slice none 0 0], 138, (0, 0)⟩])) := by
  refine enter w [wb] 17 [⟨wb, [ev, .slice none 0 0], 138, (0, 0)⟩] [Ptr wb 0, .slice ax 0 cx] Tryd.func106 rfl rfl (by simp) (Hp.start (by simpa using h0) (by simp) (by simp)) ?_
  show JC _ _ _ [(0, Ptr wb 0), (1, .slice ax 0 cx)] _
  refine JC_seq ?_
  refine JC_region ?_
  refine JL_val _ (Ev_assign rfl) rfl ?_
  refine JL_nil ?_
  refine JQ_then ?_
  refine JC_seq ?_
  refine JC_seq ?_
  refine JC_region ?_
  refine JL_val _ (Ev_move rfl) rfl ?_
  refine JL_val (.bool false) (Ev_bin _ _ _ rfl rfl (fun _ => eqGuard_ptr ..) fun _ => eql_ptr_nil Tryd.underlying134) rfl ?_
  refine JL_nil ?_
  refine JQ_then ?_
  refine JC_condF _ rfl rfl ?_
  refine JC_skip ?_
  refine JQ_then ?_
  refine JC_seq ?_
  refine JC_region ?_
  refine JL_val _ (Ev_move rfl) rfl ?_
  refine JL_val _ (Ev_move rfl) rfl ?_
  refine JL_val _ (Ev_nilCheck rfl) rfl ?_
  refine JL_val (Ptr wb 1) (Ev_fieldAddr 1 22 1 Tryd.underlying138 rfl Tryd.sizeOf22 rfl rfl) rfl ?_
  refine JL_val (.slice none 0 0) (Ev_load rfl (Ld_one Tryd.isAgg22 (MemAt.ent 0 rfl (Seg.tail (Seg.head))))) rfl ?_
  refine JL_val _ (Ev_move rfl) rfl ?_
  refine JL_step (Step_appNil0 22 5 ax cx Tryd.underlying22 Tryd.info5 rfl rfl) rfl ?_
  rintro v1 L1 ⟨rfl, rfl⟩
  show JL _ _ _ _ ((13, .slice none 0 0) :: _) [⟨wb, [ev, .slice none 0 0], 138, (0, 0)⟩]
  refine JL_val _ (Ev_nilCheck rfl) rfl ?_
  refine JL_val (Ptr wb 1) (Ev_fieldAddr 1 22 1 Tryd.underlying138 rfl Tryd.sizeOf22 rfl rfl) rfl ?_
  refine JL_step (Step_store 0 wb 1 1 ([ev, .slice none 0 0]) 138 (.slice none 0 0) ([.slice none 0 0]) ([ev, .slice none 0 0]) rfl rfl rfl rfl Tryd.sizeOf22 rfl (by simp [Value.oneCell']) (Nat.le_of_ble_eq_true rfl) (rfl)) rfl ?_
  rintro v1 L1 ⟨rfl, rfl⟩
  show JL _ _ _ _ _ [⟨wb, [ev, .slice none 0 0], 138, (0, 0)⟩]
  refine JL_nil ?_
  refine JQ_then ?_
  refine JC_seq ?_
  refine JC_region ?_
  refine JL_val _ (Ev_move rfl) rfl ?_
  refine JL_val _ (Ev_assign rfl) rfl ?_
  refine JL_nil ?_
  refine JQ_then ?_
  refine JC_ret ?_
  refine JQ_ret (Ptr wb 0) (res1 Tryd.results106 (RV_tmp rfl)) fun w1 hw1 => ?_
  exact ⟨_, _, rfl, ⟨rfl, rfl⟩, hw1⟩

theorem rawN_c (wb tot : Nat) (ev : Value) (ax : Option Addr) (p cx : Nat) (z : List UInt8) (w : World) (h0 : w.heap[wb]? = some (.cells [ev, .slice none 0 0].toArray 138 (0, 0))) (hz : z.length = p) (hm : p ≤ 1000000000) (hr : RdB w [wb] ax z) (hm0 : 0 < p) (ht : p = tot) : Calls Tryd.prog 106 #[Ptr wb 0, .slice ax p cx] w (Post w [wb] (fun v L => v = Ptr wb 0 ∧ ∃ g sp cap, L = [⟨wb, [ev, Slc g 0 tot cap], 138, (0, 0)⟩, ⟨g, cu8 (z) ++ sp, 5, (0, 0)⟩] ∧ sp.length = cap - tot ∧ tot ≤ cap ∧ cap ≤ maxLen)) := by
  have hmx : maxLen = 9223372036854775807 := rfl
  refine enter w [wb] 17 [⟨wb, [ev, .slice none 0 0], 138, (0, 0)⟩] [Ptr wb 0, .slice ax p cx] Tryd.func106 rfl rfl (by simp) (Hp.start (by simpa using h0) (by simp) (by simp)) ?_
  show JC _ _ _ [(0, Ptr wb 0), (1, .slice ax p cx)] _
  refine JC_seq ?_
  refine JC_region ?_
  refine JL_val _ (Ev_assign rfl) rfl ?_
  refine JL_nil ?_
  refine JQ_then ?_
  refine JC_seq ?_
  refine JC_seq ?_
  refine JC_region ?_
  refine JL_val _ (Ev_move rfl) rfl ?_
  refine JL_val (.bool false) (Ev_bin _ _ _ rfl rfl (fun _ => eqGuard_ptr ..) fun _ => eql_ptr_nil Tryd.underlying134) rfl ?_
  refine JL_nil ?_
  refine JQ_then ?_
  refine JC_condF _ rfl rfl ?_
  refine JC_skip ?_
  refine JQ_then ?_
  refine JC_seq ?_
  refine JC_region ?_
  refine JL_val _ (Ev_move rfl) rfl ?_
  refine JL_val _ (Ev_move rfl) rfl ?_
  refine JL_val _ (Ev_nilCheck rfl) rfl ?_
  refine JL_val (Ptr wb 1) (Ev_fieldAddr 1 22 1 Tryd.underlying138 rfl Tryd.sizeOf22 rfl rfl) rfl ?_
  refine JL_val (.slice none 0 0) (Ev_load rfl (Ld_one Tryd.isAgg22 (MemAt.ent 0 rfl (Seg.tail (Seg.head))))) rfl ?_
  refine JL_val _ (Ev_move rfl) rfl ?_
  refine JL_step (Step_appM8 22 5 [false] (.slice none 0 0) 0 ([] : List UInt8) z ax p cx p Tryd.underlying22 Tryd.info5 rfl (.inl ⟨rfl, rfl, rfl, rfl, by omega⟩) rfl (by simp [hz]; try omega) (hr.src) (by omega) (by unfold maxLen; omega) (by omega)) rfl ?_
  rintro v1 L1 ⟨nb1, sp1, cp1, hg1, rfl, rfl, ha1, ha2, ha3, ha4⟩
  show JL _ _ _ _ ((13, Slc nb1 0 p cp1) :: _) [⟨wb, [ev, .slice none 0 0], 138, (0, 0)⟩, ⟨nb1, cu8 (([] : List UInt8) ++ z) ++ sp1, 5, (0, 0)⟩]
  refine JL_val _ (Ev_nilCheck rfl) rfl ?_
  refine JL_val (Ptr wb 1) (Ev_fieldAddr 1 22 1 Tryd.underlying138 rfl Tryd.sizeOf22 rfl rfl) rfl ?_
  refine JL_step (Step_store 0 wb 1 1 ([ev, .slice none 0 0]) 138 (Slc nb1 0 p cp1) ([Slc nb1 0 p cp1]) ([ev, Slc nb1 0 p cp1]) rfl rfl rfl rfl Tryd.sizeOf22 rfl (by simp [Value.oneCell']) (Nat.le_of_ble_eq_true rfl) (rfl)) rfl ?_
  rintro v1 L1 ⟨rfl, rfl⟩
  show JL _ _ _ _ _ [⟨wb, [ev, Slc nb1 0 p cp1], 138, (0, 0)⟩, ⟨nb1, cu8 (([] : List UInt8) ++ z) ++ sp1, 5, (0, 0)⟩]
  refine JL_nil ?_
  refine JQ_then ?_
  refine JC_seq ?_
  refine JC_region ?_
  refine JL_val _ (Ev_move rfl) rfl ?_
  refine JL_val _ (Ev_assign rfl) rfl ?_
  refine JL_nil ?_
  refine JQ_then ?_
  refine JC_ret ?_
  refine JQ_ret (Ptr wb 0) (res1 Tryd.results106 (RV_tmp rfl)) fun w1 hw1 => ?_
  have e0 : ([] : List UInt8) ++ z = z := List.nil_append z
  rw [e0] at hw1
  obtain rfl : tot = p := by omega
  exact ⟨_, _, rfl, ⟨rfl, nb1, sp1, cp1, rfl, ha2, ha3, ha4⟩, hw1⟩

theorem rawO_c (wb gb n cap0 tot : Nat) (ev : Value) (o : List UInt8) (sp0 : List Value) (ax : Option Addr) (p cx : Nat) (z : List UInt8) (w : World) (h0 : w.heap[wb]? = some (.cells [ev, Slc gb 0 n cap0].toArray 138 (0, 0))) (h1 : w.heap[gb]? = some (.cells (cu8 o ++ sp0).toArray 5 (0, 0))) (hne : wb ≠ gb) (ho : o.length = n) (hsp : sp0.length = cap0 - n) (hca : n ≤ cap0) (hcm : cap0 ≤ maxLen) (hn : n ≤ 1000000000) (hz : z.length = p) (hm : p ≤ 1000000000) (hr : RdB w [wb, gb] ax z) (ht : n + p = tot) : Calls Tryd.prog 106 #[Ptr wb 0, .slice ax p cx] w (Post w [wb, gb] (fun v L => v = Ptr wb 0 ∧ ∃ g sp cap, L = [⟨wb, [ev, Slc g 0 tot cap], 138, (0, 0)⟩, ⟨g, cu8 (o ++ z) ++ sp, 5, (0, 0)⟩] ∧ sp.length = cap - tot ∧ tot ≤ cap ∧ cap ≤ maxLen)) := by
  have hmx : maxLen = 9223372036854775807 := rfl
  refine enter w [wb, gb] 17 [⟨wb, [ev, Slc gb 0 n cap0], 138, (0, 0)⟩, ⟨gb, cu8 o ++ sp0, 5, (0, 0)⟩] [Ptr wb 0, .slice ax p cx] Tryd.func106 rfl rfl (by simp) (Hp.start (by simp; exact ⟨h0, h1⟩) (by simp; exact hne) (by simp)) ?_
  show JC _ _ _ [(0, Ptr wb 0), (1, .slice ax p cx)] _
  refine JC_seq ?_
  refine JC_region ?_
  refine JL_val _ (Ev_assign rfl) rfl ?_
  refine JL_nil ?_
  refine JQ_then ?_
  refine JC_seq ?_
  refine JC_seq ?_
  refine JC_region ?_
  refine JL_val _ (Ev_move rfl) rfl ?_
  refine JL_val (.bool false) (Ev_bin _ _ _ rfl rfl (fun _ => eqGuard_ptr ..) fun _ => eql_ptr_nil Tryd.underlying134) rfl ?_
  refine JL_nil ?_
  refine JQ_then ?_
  refine JC_condF _ rfl rfl ?_
  refine JC_skip ?_
  refine JQ_then ?_
  refine JC_seq ?_
  refine JC_region ?_
  refine JL_val _ (Ev_move rfl) rfl ?_
  refine JL_val _ (Ev_move rfl) rfl ?_
  refine JL_val _ (Ev_nilCheck rfl) rfl ?_
  refine JL_val (Ptr wb 1) (Ev_fieldAddr 1 22 1 Tryd.underlying138 rfl Tryd.sizeOf22 rfl rfl) rfl ?_
  refine JL_val (Slc gb 0 n cap0) (Ev_load rfl (Ld_one Tryd.isAgg22 (MemAt.ent 0 rfl (Seg.tail (Seg.head))))) rfl ?_
  refine JL_val _ (Ev_move rfl) rfl ?_
  refine JL_step (Step_appM8 22 5 [false, true] (Slc gb 0 n cap0) n o z ax p cx (n + p) Tryd.underlying22 Tryd.info5 rfl (.inr ⟨gb, sp0, cap0, rfl, rfl, (by first | exact ho | simp [ho]), hsp, (by omega), (by omega)⟩) rfl (by simp [hz]; try omega) (hr.src) (by omega) (by unfold maxLen; omega) (by omega)) rfl ?_
  rintro v1 L1 ⟨nb1, sp1, cp1, hg1, rfl, rfl, ha1, ha2, ha3, ha4⟩
  show JL _ _ _ _ ((13, Slc nb1 0 (n + p) cp1) :: _) [⟨wb, [ev, Slc gb 0 n cap0], 138, (0, 0)⟩, ⟨nb1, cu8 (o ++ z) ++ sp1, 5, (0, 0)⟩]
  refine JL_val _ (Ev_nilCheck rfl) rfl ?_
  refine JL_val (Ptr wb 1) (Ev_fieldAddr 1 22 1 Tryd.underlying138 rfl Tryd.sizeOf22 rfl rfl) rfl ?_
  refine JL_step (Step_store 0 wb 1 1 ([ev, Slc gb 0 n cap0]) 138 (Slc nb1 0 (n + p) cp1) ([Slc nb1 0 (n + p) cp1]) ([ev, Slc nb1 0 (n + p) cp1]) rfl rfl rfl rfl Tryd.sizeOf22 rfl (by simp [Value.oneCell']) (Nat.le_of_ble_eq_true rfl) (rfl)) rfl ?_
  rintro v1 L1 ⟨rfl, rfl⟩
  show JL _ _ _ _ _ [⟨wb, [ev, Slc nb1 0 (n + p) cp1], 138, (0, 0)⟩, ⟨nb1, cu8 (o ++ z) ++ sp1, 5, (0, 0)⟩]
  refine JL_nil ?_
  refine JQ_then ?_
  refine JC_seq ?_
  refine JC_region ?_
  refine JL_val _ (Ev_move rfl) rfl ?_
  refine JL_val _ (Ev_assign rfl) rfl ?_
  refine JL_nil ?_
  refine JQ_then ?_
  refine JC_ret ?_
  refine JQ_ret (Ptr wb 0) (res1 Tryd.results106 (RV_tmp rfl)) fun w1 hw1 => ?_
  obtain rfl : tot = (n + p) := by omega
  exact ⟨_, _, rfl, ⟨rfl, nb1, sp1, cp1, rfl, ha2, ha3, ha4⟩, hw1⟩

theorem rawNil_c (v : Value) (w : World) : Calls Tryd.prog 106 #[.pointer none, v] w (Post w [] (fun v L => v = .pointer none ∧ L = [])) := by
  refine enter w [] 17 [] [.pointer none, v] Tryd.func106 rfl rfl (by simp) (Hp.start (by simp) (by simp) (by simp)) ?_
  show JC _ _ _ [(0, .pointer none), (1, v)] _
  refine JC_seq ?_
  refine JC_region ?_
  refine JL_val _ (Ev_assign rfl) rfl ?_
  refine JL_nil ?_
  refine JQ_then ?_
  refine JC_seq ?_
  refine JC_seq ?_
  refine JC_region ?_
  refine JL_val _ (Ev_move rfl) rfl ?_
  refine JL_val (.bool true) (Ev_bin _ _ _ rfl rfl (fun _ => eqGuard_ptr ..) fun _ => eql_ptr_nil_nil Tryd.underlying134) rfl ?_
  refine JL_nil ?_
  refine JQ_then ?_
  refine JC_condT _ rfl rfl ?_
  refine JC_seq ?_
  refine JC_region ?_
  refine JL_val _ (Ev_assign rfl) rfl ?_
  refine JL_nil ?_
  refine JQ_then ?_
  refine JC_ret ?_
  refine JQ_then_ret ?_
  refine JQ_ret (.pointer none) (res1 Tryd.results106 (RV_tmp rfl)) fun w1 hw1 => ?_
  exact ⟨_, [], rfl, ⟨rfl, rfl⟩, hw1.sub (by simp) (by simp)⟩

end Go.Proofs.YtncoifiafklkjaaDoor
