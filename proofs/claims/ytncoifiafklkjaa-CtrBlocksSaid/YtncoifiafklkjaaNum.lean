import Derived.Test.YtncoifiafklkjaaFx
import Derived.Test.YtncoifiafklkjaaSxL
import Derived.Test.YtncoifiafklkjaaSxM
namespace Go.Proofs.Ytncoifiafklkjaa
open Go Go.Sx
set_option linter.unusedVariables false
set_option linter.unusedSimpArgs false
set_option maxRecDepth 100000
theorem str_dec (x y : List UInt8) : decide ((⟨x.toArray⟩ : ByteArray) = ⟨y.toArray⟩) = decide (x = y) := by
  rw [Bool.eq_iff_iff]; simp
theorem num0_c  (w : World) : Calls Try.prog 51 #[.nilIface] w (Post w [] (fun v L => v = I64 0 ∧ L = [])) := by
  refine enter w [] 18 [] [.nilIface] Try.func51 rfl rfl (by simp) (Hp.start (by simp) (by simp) (by simp)) ?_
  show JC _ _ _ [(0, .nilIface)] _
  refine JC_seq ?_
  refine JC_region ?_
  refine JL_val _ (Ev_assign rfl) rfl ?_
  refine JL_nil ?_
  refine JQ_then ?_
  refine JC_seq ?_
  refine JC_seq ?_
  refine JC_region ?_
  refine JL_val _ (Ev_move rfl) rfl ?_
  refine JL_val (.bool true) (Ev_bin _ _ _ rfl rfl (fun _ => eqGuard_nn ..) fun _ => eql_if_nil_nil Try.underlying30) rfl ?_
  refine JL_nil ?_
  refine JQ_then ?_
  refine JC_condT _ rfl rfl ?_
  refine JC_seq ?_
  refine JC_region ?_
  refine JL_val _ (Ev_assign rfl) rfl ?_
  refine JL_nil ?_
  refine JQ_then ?_
  refine JC_ret ?_
  refine JQ_then_ret ?_
  refine JQ_ret (I64 (0:Int)) (res1 Try.results51 (RV_tmp rfl)) fun w1 hw1 => ?_
  exact ⟨_, [], rfl, ⟨rfl, rfl⟩, hw1.sub (by simp) (by simp)⟩

theorem nume_c (n : Int) (w : World) (hn : n ≠ 0) : Calls Try.prog 51 #[.iface 36 (I64 (n))] w (Post w [] (fun v L => v = I64 n ∧ L = [])) := by
  refine enter w [] 18 [] [.iface 36 (I64 (n))] Try.func51 rfl rfl (by simp) (Hp.start (by simp) (by simp) (by simp)) ?_
  show JC _ _ _ [(0, .iface 36 (I64 (n)))] _
  refine JC_seq ?_
  refine JC_region ?_
  refine JL_val _ (Ev_assign rfl) rfl ?_
  refine JL_nil ?_
  refine JQ_then ?_
  refine JC_seq ?_
  refine JC_seq ?_
  refine JC_region ?_
  refine JL_val _ (Ev_move rfl) rfl ?_
  refine JL_val (.bool false) (Ev_bin _ _ _ rfl rfl (fun _ => eqGuard_if ..) fun _ => eql_if_nil Try.underlying30) rfl ?_
  refine JL_nil ?_
  refine JQ_then ?_
  refine JC_condF _ rfl rfl ?_
  refine JC_skip ?_
  refine JQ_then ?_
  refine JC_seq ?_
  refine JC_seq ?_
  refine JC_region ?_
  refine JL_val _ (Ev_move rfl) rfl ?_
  refine JL_val (.tuple #[I64 (n), .bool true]) (Ev_assert _ _ rfl (fun _ => by kernel_rfl)) rfl ?_
  refine JL_val _ (Ev_move rfl) rfl ?_
  refine JL_val _ (Ev_extract rfl rfl) rfl ?_
  refine JL_val _ (Ev_extract rfl rfl) rfl ?_
  refine JL_val _ (Ev_assign rfl) rfl ?_
  refine JL_val _ (Ev_assign rfl) rfl ?_
  refine JL_nil ?_
  refine JQ_then ?_
  refine JC_seq ?_
  refine JC_region ?_
  refine JL_val _ (Ev_move rfl) rfl ?_
  refine JL_val _ (Ev_move rfl) rfl ?_
  refine JL_gval 1 13 true _ _ rfl rfl rfl (Ev_move rfl) rfl ?_
  refine JL_gval 1 13 true _ (.bool (decide ((n) ≠ (0:Int)))) rfl rfl rfl (Ev_bini rfl rfl fun _ => bin_neq_i _ _) rfl ?_
  refine JL_val _ (Ev_pickT _ rfl rfl rfl) rfl ?_
  refine JL_nil ?_
  refine JQ_then ?_
  refine JC_condT _ rfl (decide_eq_true hn) ?_
  refine JC_seq ?_
  refine JC_region ?_
  refine JL_val _ (Ev_move rfl) rfl ?_
  refine JL_val _ (Ev_assign rfl) rfl ?_
  refine JL_nil ?_
  refine JQ_then ?_
  refine JC_ret ?_
  refine JQ_then_ret ?_
  refine JQ_ret (I64 (n)) (res1 Try.results51 (RV_tmp rfl)) fun w1 hw1 => ?_
  exact ⟨_, [], rfl, ⟨rfl, rfl⟩, hw1.sub (by simp) (by simp)⟩

theorem is0_c (m : Int) (w : World) : Calls Try.prog 24 #[.nilIface, I64 (m)] w (Post w [] (fun v L => v = .bool (decide ((0:Int) = m)) ∧ L = [])) := by
  refine enter w [] 9 [] [.nilIface, I64 (m)] Try.func24 rfl rfl (by simp) (Hp.start (by simp) (by simp) (by simp)) ?_
  show JC _ _ _ [(0, .nilIface), (1, I64 (m))] _
  refine JC_seq ?_
  refine JC_region ?_
  refine JL_val _ (Ev_assign rfl) rfl ?_
  refine JL_nil ?_
  refine JQ_then ?_
  refine JC_seq ?_
  refine JC_region ?_
  refine JL_val _ (Ev_move rfl) rfl ?_
  refine JL_step (Step_callP 51 [.nilIface] (I64 (0:Int)) (Cl_func [.nilIface] Try.call51 rfl) (fun w1 _ => num0_c  w1)) rfl ?_
  rintro v1 L1 ⟨rfl, rfl⟩
  show JL _ _ _ _ ((6, I64 (0:Int)) :: _) []
  refine JL_val _ (Ev_move rfl) rfl ?_
  refine JL_val (.bool (decide ((0:Int) = (m)))) (Ev_bini rfl rfl fun _ => bin_eql_i _ _) rfl ?_
  refine JL_val _ (Ev_assign rfl) rfl ?_
  refine JL_nil ?_
  refine JQ_then ?_
  refine JC_ret ?_
  refine JQ_ret (.bool (decide ((0:Int) = (m)))) (res1 Try.results24 (RV_tmp rfl)) fun w1 hw1 => ?_
  exact ⟨_, [], rfl, ⟨rfl, rfl⟩, hw1.sub (by simp) (by simp)⟩

theorem ise_c (n m : Int) (w : World) (hn : n ≠ 0) : Calls Try.prog 24 #[.iface 36 (I64 (n)), I64 (m)] w (Post w [] (fun v L => v = .bool (decide (n = m)) ∧ L = [])) := by
  refine enter w [] 9 [] [.iface 36 (I64 (n)), I64 (m)] Try.func24 rfl rfl (by simp) (Hp.start (by simp) (by simp) (by simp)) ?_
  show JC _ _ _ [(0, .iface 36 (I64 (n))), (1, I64 (m))] _
  refine JC_seq ?_
  refine JC_region ?_
  refine JL_val _ (Ev_assign rfl) rfl ?_
  refine JL_nil ?_
  refine JQ_then ?_
  refine JC_seq ?_
  refine JC_region ?_
  refine JL_val _ (Ev_move rfl) rfl ?_
  refine JL_step (Step_callP 51 [.iface 36 (I64 (n))] (I64 (n)) (Cl_func [.iface 36 (I64 (n))] Try.call51 rfl) (fun w1 _ => nume_c (n) w1 hn)) rfl ?_
  rintro v1 L1 ⟨rfl, rfl⟩
  show JL _ _ _ _ ((6, I64 (n)) :: _) []
  refine JL_val _ (Ev_move rfl) rfl ?_
  refine JL_val (.bool (decide ((n) = (m)))) (Ev_bini rfl rfl fun _ => bin_eql_i _ _) rfl ?_
  refine JL_val _ (Ev_assign rfl) rfl ?_
  refine JL_nil ?_
  refine JQ_then ?_
  refine JC_ret ?_
  refine JQ_ret (.bool (decide ((n) = (m)))) (res1 Try.results24 (RV_tmp rfl)) fun w1 hw1 => ?_
  exact ⟨_, [], rfl, ⟨rfl, rfl⟩, hw1.sub (by simp) (by simp)⟩

theorem bytes_c (a1 a2 : Option Addr) (n1 n2 c1 c2 : Nat) (x y : List UInt8) (w : World) (hx : x.length = n1) (hy : y.length = n2) (h1 : RdB w [] a1 x) (h2 : RdB w [] a2 y) : Calls Try.prog 25 #[.slice a1 n1 c1, .slice a2 n2 c2] w (Post w [] (fun v L => v = .bool (decide (x = y)) ∧ L = [])) := by
  refine enter w [] 10 [] [.slice a1 n1 c1, .slice a2 n2 c2] Try.func25 rfl rfl (by simp) (Hp.start (by simp) (by simp) (by simp)) ?_
  show JC _ _ _ [(0, .slice a1 n1 c1), (1, .slice a2 n2 c2)] _
  refine JC_seq ?_
  refine JC_region ?_
  refine JL_val _ (Ev_assign rfl) rfl ?_
  refine JL_nil ?_
  refine JQ_then ?_
  refine JC_seq ?_
  refine JC_region ?_
  refine JL_val _ (Ev_move rfl) rfl ?_
  refine JL_val (.string (⟨x.toArray⟩ : ByteArray)) (Ev_toStr 5 a1 n1 c1 x Try.underlying38 Try.underlying5 Try.underlying9 rfl (by simp [hx]; try omega) (h1.src)) rfl ?_
  refine JL_val _ (Ev_move rfl) rfl ?_
  refine JL_val (.string (⟨y.toArray⟩ : ByteArray)) (Ev_toStr 5 a2 n2 c2 y Try.underlying38 Try.underlying5 Try.underlying9 rfl (by simp [hy]; try omega) (h2.src)) rfl ?_
  refine JL_val (.bool (decide (x = y))) (Ev_bin _ _ _ rfl rfl (fun _ => eqGuard_str ..) fun _ => eql_str) rfl ?_
  refine JL_val _ (Ev_assign rfl) rfl ?_
  refine JL_nil ?_
  refine JQ_then ?_
  refine JC_ret ?_
  refine JQ_ret (.bool (decide (x = y))) (res1 Try.results25 (RV_tmp rfl)) fun w1 hw1 => ?_
  refine ⟨_, [], rfl, ⟨?_, rfl⟩, hw1.sub (by simp) (by simp)⟩
  rfl

end Go.Proofs.Ytncoifiafklkjaa
